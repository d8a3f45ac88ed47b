/- Walks: what these functions return. -/
import Derived.Test.YthbjhbmpfeeilaaFa0
import Derived.Test.YthbjhbmpfeeilaaFn
import Derived.Test.YthbjhbmpfeeilaaLa
import Derived.Test.YthbjhbmpfeeilaaRa
import Derived.Test.YthbjhbmpfeeilaaVa
namespace Go.Proofs.Ythbjhbmpfeeilaa
open Go.Kn Go.Num
set_option linter.unusedVariables false
set_option linter.unusedSimpArgs false
set_option maxRecDepth 20000
set_option maxHeartbeats 8000000
theorem skewbacklaw06_VectorProductsMatchSpec_ret (a : (A3 W)) (b : (A3 W)) :
    Ret Try.prog 3 [AV [ci .i64 a.x.1, ci .i64 a.y.1, ci .i64 a.z.1], AV [ci .i64 b.x.1, ci .i64 b.y.1, ci .i64 b.z.1]] (.bool (F_skewbacklaw06_VectorProductsMatchSpec a b)) := by
 refine ret_of_W (N := 24) Try.func3 rfl rfl (by simp) (fun w0 => ?_)
 simp only [initF, Nat.reduceAdd]
 refine W_sr (fun K1 hK1 => ?_)
 refine WL_r rfl (r_boxp rfl rfl (fun b1 hb1 => ?_))
 refine WL_r rfl (r_boxp rfl rfl (fun b2 hb2 => ?_))
 refine WL_q rfl (q_assign rfl) ?_
 refine WL_nil (hK1 _ _ ?_)
 clear hK1 K1
 refine W_join [4, 5, 6, 7, 8, 9, 10, 11, 12, 13, 14, 15, 16, 17, 18, 19, 20, 21, 22, 23] (fun g M => (g 4 = .bool (F_skewbacklaw06_sanity && (decide ((F_vector_Dot a b) = (F_skewbackref06_Dot a b)) && (decide (((F_vector_Cross a b).x) = ((F_skewbackref06_Cross a b).x)) && (decide (((F_vector_Cross a b).y) = ((F_skewbackref06_Cross a b).y)) && decide (((F_vector_Cross a b).z) = ((F_skewbackref06_Cross a b).z))))))) ∧ M = [⟨b2, 23, flat [ci .i64 b.x.1, ci .i64 b.y.1, ci .i64 b.z.1]⟩, ⟨b1, 23, flat [ci .i64 a.x.1, ci .i64 a.y.1, ci .i64 a.z.1]⟩]) (fun K_1 hK_1 => ?_) ?_
 ·skip
  refine W_draw (sk (sk (s0))) (.quiet 0 [1,2,3,4,5,6,7,8,9,10,11,12,13,14,15,16,17,18,19] (.quiet 1 [2,3,4,5,6,7,8,9,10,11,12,13,14,15,16,17,18,19] (.quiet 2 [4,7,8,9,10,11,12,13,14,15,16,17,18,19] (.quiet 3 [4,7,8,9,10,11,12,13,14,15,16,17,18,19] (.quiet 4 [7,8,9,10,11,12,13,14,15,16,17,18,19] (.quiet 5 [7,8,9,10,11,12,13,14,15,16,17,18,19] (.quiet 6 [7,8,9,10,11,12,13,14,15,16,17,18,19] (.quiet 7 [8,9,10,11,12,13,14,15,16,17,18,19] (.quiet 8 [9,10,11,12,13,14,15,16,17,18,19] (.quiet 9 [10,11,12,13,14,15,16,17,18,19] (.quiet 10 [11,12,13,14,15,16,17,18,19] (.quiet 11 [13,16,17,18,19] (.quiet 12 [13,16,17,18,19] (.quiet 13 [16,17,18,19] (.quiet 14 [16,17,18,19] (.quiet 15 [16,17,18,19] (.quiet 16 [17,18,19] (.quiet 17 [18,19] (.quiet 18 [19] (.quiet 19 [] (.fin))))))))))))))))))))) [0,1,2,3,4,5,6,7,8,9,10,11,12,13,14,15,16,17,18,19] mix (by kernel_rfl) (by kernel_rfl) (fun K1 hK1 => ?_)
  refine PL_q rfl rfl (q_ret en_9 skewbacklaw06_sanity_ret  rfl) ?_
  rcases bt F_skewbacklaw06_sanity with h5 | h5
  ·skip
   refine PL_q rfl rfl (q_as (v' := .bool true) (q_move rfl) (congrArg Value.bool h5)) ?_
   refine PL_q rfl rfl (q_loadp ty_23 rfl m1 rfl) ?_
   refine PL_q rfl rfl (q_loadp ty_23 rfl m0 rfl) ?_
   refine PL_q rfl rfl (q_ret en_10 (vector_Dot_ret a b) rfl) ?_
   refine PL_q rfl rfl (q_loadp ty_23 rfl m1 rfl) ?_
   refine PL_q rfl rfl (q_loadp ty_23 rfl m0 rfl) ?_
   refine PL_q rfl rfl (q_ret en_11 (skewbackref06_Dot_ret a b) rfl) ?_
   refine PL_q rfl rfl (q_eqla (r := decide ((F_vector_Dot a b) = (F_skewbackref06_Dot a b))) rfl rfl (eqOk_of 8 (by decide) eg_28 lw_28 (lv_one lv_pI) (lv_one lv_pI) (eqP_one eq_pI))) ?_
   refine PL_q rfl rfl (q_pick rfl rfl) ?_
   rcases bt (decide ((F_vector_Dot a b) = (F_skewbackref06_Dot a b))) with h6 | h6
   ·skip
    refine PL_q rfl rfl (q_as (v' := .bool true) (q_move rfl) (congrArg Value.bool h6)) ?_
    refine PL_q rfl rfl (q_loadp ty_23 rfl m1 rfl) ?_
    refine PL_q rfl rfl (q_loadp ty_23 rfl m0 rfl) ?_
    refine PL_q rfl rfl (q_ret en_12 (vector_Cross_ret a b) rfl) ?_
    refine PL_q rfl rfl (q_loadp ty_23 rfl m1 rfl) ?_
    refine PL_q rfl rfl (q_loadp ty_23 rfl m0 rfl) ?_
    refine PL_q rfl rfl (q_ret en_13 (skewbackref06_Cross_ret a b) rfl) ?_
    refine PL_q rfl rfl (q_eqla (r := (decide (((F_vector_Cross a b).x) = ((F_skewbackref06_Cross a b).x)) && (decide (((F_vector_Cross a b).y) = ((F_skewbackref06_Cross a b).y)) && decide (((F_vector_Cross a b).z) = ((F_skewbackref06_Cross a b).z))))) rfl rfl (eqOk_of 8 (by decide) eg_30 lw_30 (lv_cons lv_pI (lv_cons lv_pI (lv_one lv_pI))) (lv_cons lv_pI (lv_cons lv_pI (lv_one lv_pI))) (eqP_cons rfl eq_pI (eqP_cons rfl eq_pI (eqP_one eq_pI))))) ?_
    refine PL_q rfl rfl (q_pick rfl rfl) ?_
    refine PL_q rfl rfl (q_assign rfl) ?_
    refine PL_fin (hK1 _ _ ?_)
    clear hK1 K1
    refine hK_1 _ _ (by repeat (first | exact .refl | refine .cons rfl ?_)) ⟨_, s0, ?s4, rfl⟩
    case s4 => exact congrArg Value.bool (and_t h5 (and_t h6 rfl))
   ·skip
    refine PL_q rfl rfl (q_as (v' := .bool false) (q_move rfl) (congrArg Value.bool h6)) ?_
    refine PL_n rfl rfl ?_
    refine PL_n rfl rfl ?_
    refine PL_n rfl rfl ?_
    refine PL_n rfl rfl ?_
    refine PL_n rfl rfl ?_
    refine PL_n rfl rfl ?_
    refine PL_n rfl rfl ?_
    refine PL_q rfl rfl (q_pick rfl rfl) ?_
    refine PL_q rfl rfl (q_assign rfl) ?_
    refine PL_fin (hK1 _ _ ?_)
    clear hK1 K1
    refine hK_1 _ _ (by repeat (first | exact .refl | refine .cons rfl ?_)) ⟨_, s0, ?s4, rfl⟩
    case s4 => exact congrArg Value.bool (and_t h5 (and_f h6))
  ·skip
   refine PL_q rfl rfl (q_as (v' := .bool false) (q_move rfl) (congrArg Value.bool h5)) ?_
   refine PL_n rfl rfl ?_
   refine PL_n rfl rfl ?_
   refine PL_n rfl rfl ?_
   refine PL_n rfl rfl ?_
   refine PL_n rfl rfl ?_
   refine PL_n rfl rfl ?_
   refine PL_n rfl rfl ?_
   refine PL_q rfl rfl (q_pick rfl rfl) ?_
   refine PL_q rfl rfl (q_move rfl) ?_
   refine PL_n rfl rfl ?_
   refine PL_n rfl rfl ?_
   refine PL_n rfl rfl ?_
   refine PL_n rfl rfl ?_
   refine PL_n rfl rfl ?_
   refine PL_n rfl rfl ?_
   refine PL_n rfl rfl ?_
   refine PL_q rfl rfl (q_pick rfl rfl) ?_
   refine PL_q rfl rfl (q_assign rfl) ?_
   refine PL_fin (hK1 _ _ ?_)
   clear hK1 K1
   refine hK_1 _ _ (by repeat (first | exact .refl | refine .cons rfl ?_)) ⟨_, s0, ?s4, rfl⟩
   case s4 => exact congrArg Value.bool (and_f h5)
 ·skip
  rintro g7 M ⟨hg4, rfl⟩
  simp only [setG, hg4]
  clear hg4
  refine W_ret ?_
  refine ret1 rfl (.inr rfl) rfl ?_
  exact (by rfl)
end Go.Proofs.Ythbjhbmpfeeilaa
