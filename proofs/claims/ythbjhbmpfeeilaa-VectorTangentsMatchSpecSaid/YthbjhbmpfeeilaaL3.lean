/- Walks: what these functions return. -/
import Derived.Test.YthbjhbmpfeeilaaFa0
import Derived.Test.YthbjhbmpfeeilaaFn
import Derived.Test.YthbjhbmpfeeilaaLa
import Derived.Test.YthbjhbmpfeeilaaRa
import Derived.Test.YthbjhbmpfeeilaaSf
import Derived.Test.YthbjhbmpfeeilaaVa
import Derived.Test.YthbjhbmpfeeilaaVd
namespace Go.Proofs.Ythbjhbmpfeeilaa
open Go.Kn Go.Num
set_option linter.unusedVariables false
set_option linter.unusedSimpArgs false
set_option maxRecDepth 20000
set_option maxHeartbeats 8000000
theorem skewbacklaw06_VectorTangentsMatchSpec_ret (a : (A3 W)) :
    Ret Try.prog 5 [AV [ci .i64 a.x.1, ci .i64 a.y.1, ci .i64 a.z.1]] (.bool (F_skewbacklaw06_VectorTangentsMatchSpec a)) := by
 refine ret_of_W (N := 58) Try.func5 rfl rfl (by simp) (fun w0 => ?_)
 simp only [initF, Nat.reduceAdd]
 refine W_sr (fun K1 hK1 => ?_)
 refine WL_r rfl (r_boxp rfl rfl (fun b1 hb1 => ?_))
 refine WL_q rfl (q_assign rfl) ?_
 refine WL_nil (hK1 _ _ ?_)
 clear hK1 K1
 refine W_sr (fun K1 hK1 => ?_)
 refine WL_q rfl (q_loadp ty_23 rfl m0 rfl) ?_
 refine WL_q rfl (q_ret en_20 (vector_Tangents_ret a) rfl) ?_
 refine WL_q rfl (q_move rfl) ?_
 refine WL_q rfl (q_extract rfl rfl) ?_
 refine WL_q rfl (q_extract rfl rfl) ?_
 refine WL_r rfl (r_allocp zp_23 (fun b2 hb2 => ?_))
 refine WL_r rfl (r_allocp zp_23 (fun b3 hb3 => ?_))
 refine WL_st (qs := [ci .i64 ((((F_vector_Tangents a).1).x).1), ci .i64 ((((F_vector_Tangents a).1).y).1), ci .i64 ((((F_vector_Tangents a).1).z).1)]) rfl ty_23 rfl rfl rfl rfl rfl (.tail _ (.head _)) hb2 ?_
 refine WL_st (qs := [ci .i64 ((((F_vector_Tangents a).2).x).1), ci .i64 ((((F_vector_Tangents a).2).y).1), ci .i64 ((((F_vector_Tangents a).2).z).1)]) rfl ty_23 rfl rfl rfl rfl rfl (.head _) hb3 ?_
 refine WL_nil (hK1 _ _ ?_)
 clear hK1 K1
 refine W_sr (fun K1 hK1 => ?_)
 refine WL_q rfl (q_loadp ty_23 rfl m2 rfl) ?_
 obtain ⟨r4, hr4⟩ := nm ((F_skewbackref06_Tangents a).1 : (A3 W))
 obtain ⟨r5, hr5⟩ := nm ((F_skewbackref06_Tangents a).2 : (A3 W))
 refine WL_q rfl (q_as (v' := .tuple #[AV [ci .i64 r4.x.1, ci .i64 r4.y.1, ci .i64 r4.z.1], AV [ci .i64 r5.x.1, ci .i64 r5.y.1, ci .i64 r5.z.1]]) (q_ret en_21 (skewbackref06_Tangents_ret a) rfl) (by rw [hr4, hr5]; first | done | rfl)) ?_
 refine WL_q rfl (q_move rfl) ?_
 refine WL_q rfl (q_extract rfl rfl) ?_
 refine WL_q rfl (q_extract rfl rfl) ?_
 refine WL_r rfl (r_allocp zp_23 (fun b6 hb6 => ?_))
 refine WL_r rfl (r_allocp zp_23 (fun b7 hb7 => ?_))
 refine WL_st (qs := [ci .i64 r4.x.1, ci .i64 r4.y.1, ci .i64 r4.z.1]) rfl ty_23 rfl rfl rfl rfl rfl (.tail _ (.head _)) hb6 ?_
 refine WL_st (qs := [ci .i64 r5.x.1, ci .i64 r5.y.1, ci .i64 r5.z.1]) rfl ty_23 rfl rfl rfl rfl rfl (.head _) hb7 ?_
 refine WL_nil (hK1 _ _ ?_)
 clear hK1 K1
 refine W_seq (fun K_1 hK_1 => ?_)
 refine W_join [18, 19, 20, 21, 22, 23, 24, 25] (fun g M => (g 25 = .bool (!(decide ((((F_vector_Tangents a).1).x).1 = r4.x.1) && (decide ((((F_vector_Tangents a).1).y).1 = r4.y.1) && decide ((((F_vector_Tangents a).1).z).1 = r4.z.1))) || (!(decide ((((F_vector_Tangents a).2).x).1 = r5.x.1) && (decide ((((F_vector_Tangents a).2).y).1 = r5.y.1) && decide ((((F_vector_Tangents a).2).z).1 = r5.z.1)))))) ∧ M = [⟨b7, 23, flat [ci .i64 r5.x.1, ci .i64 r5.y.1, ci .i64 r5.z.1]⟩, ⟨b6, 23, flat [ci .i64 r4.x.1, ci .i64 r4.y.1, ci .i64 r4.z.1]⟩, ⟨b3, 23, flat [ci .i64 ((((F_vector_Tangents a).2).x).1), ci .i64 ((((F_vector_Tangents a).2).y).1), ci .i64 ((((F_vector_Tangents a).2).z).1)]⟩, ⟨b2, 23, flat [ci .i64 ((((F_vector_Tangents a).1).x).1), ci .i64 ((((F_vector_Tangents a).1).y).1), ci .i64 ((((F_vector_Tangents a).1).z).1)]⟩, ⟨b1, 23, flat [ci .i64 a.x.1, ci .i64 a.y.1, ci .i64 a.z.1]⟩]) (fun K_2 hK_2 => ?_) ?_
 ·skip
  refine W_region_k (fun K1 hK1 => ?_)
  refine WL_q rfl (q_loadp ty_23 rfl m3 rfl) ?_
  refine WL_q rfl (q_loadp ty_23 rfl m1 rfl) ?_
  refine WL_q rfl (q_neqa (r := (decide ((((F_vector_Tangents a).1).x).1 = r4.x.1) && (decide ((((F_vector_Tangents a).1).y).1 = r4.y.1) && decide ((((F_vector_Tangents a).1).z).1 = r4.z.1)))) rfl rfl (eqOk_of 8 (by decide) eg_23 lw_23 (lv_cons lv_ci (lv_cons lv_ci (lv_one lv_ci))) (lv_cons lv_ci (lv_cons lv_ci (lv_one lv_ci))) (eqP_cons rfl eq_ci (eqP_cons rfl eq_ci (eqP_one eq_ci))))) ?_
  rcases bt (decide ((((F_vector_Tangents a).1).x).1 = r4.x.1) && (decide ((((F_vector_Tangents a).1).y).1 = r4.y.1) && decide ((((F_vector_Tangents a).1).z).1 = r4.z.1))) with h9 | h9
  ·skip
   refine WL_q rfl (q_as (v' := .bool false) (q_move rfl) (congrArg Value.bool (not_f h9))) ?_
   refine WL_q rfl (q_loadp ty_23 rfl m2 rfl) ?_
   refine WL_q rfl (q_loadp ty_23 rfl m0 rfl) ?_
   refine WL_q rfl (q_neqa (r := (decide ((((F_vector_Tangents a).2).x).1 = r5.x.1) && (decide ((((F_vector_Tangents a).2).y).1 = r5.y.1) && decide ((((F_vector_Tangents a).2).z).1 = r5.z.1)))) rfl rfl (eqOk_of 8 (by decide) eg_23 lw_23 (lv_cons lv_ci (lv_cons lv_ci (lv_one lv_ci))) (lv_cons lv_ci (lv_cons lv_ci (lv_one lv_ci))) (eqP_cons rfl eq_ci (eqP_cons rfl eq_ci (eqP_one eq_ci))))) ?_
   refine WL_q rfl (q_pick rfl rfl) ?_
   refine WL_nil (hK1 _ _ ?_)
   clear hK1 K1
   refine hK_2 _ _ (by repeat (first | exact .refl | refine .cons rfl ?_)) ⟨_, s0, ?s25, rfl⟩
   case s25 => exact congrArg Value.bool (nor_t h9 rfl)
  ·skip
   refine WL_q rfl (q_as (v' := .bool true) (q_move rfl) (congrArg Value.bool (not_t h9))) ?_
   refine WL_n rfl ?_
   refine WL_n rfl ?_
   refine WL_n rfl ?_
   refine WL_q rfl (q_pick rfl rfl) ?_
   refine WL_nil (hK1 _ _ ?_)
   clear hK1 K1
   refine hK_2 _ _ (by repeat (first | exact .refl | refine .cons rfl ?_)) ⟨_, s0, ?s25, rfl⟩
   case s25 => exact congrArg Value.bool (nor_f h9)
 ·skip
  rintro g10 M ⟨hg25, rfl⟩
  simp only [setG, hg25]
  clear hg25
  rcases bt (!(decide ((((F_vector_Tangents a).1).x).1 = r4.x.1) && (decide ((((F_vector_Tangents a).1).y).1 = r4.y.1) && decide ((((F_vector_Tangents a).1).z).1 = r4.z.1))) || (!(decide ((((F_vector_Tangents a).2).x).1 = r5.x.1) && (decide ((((F_vector_Tangents a).2).y).1 = r5.y.1) && decide ((((F_vector_Tangents a).2).z).1 = r5.z.1))))) with h11 | h11
  ·skip
   refine W_t h11 rfl ?_
   refine W_sr (fun K1 hK1 => ?_)
   refine WL_q rfl (q_assign rfl) ?_
   refine WL_nil (hK1 _ _ ?_)
   clear hK1 K1
   refine W_ret ?_
   refine thenK_r (ret1 rfl (.inr rfl) rfl ?_)
   exact (by subst hr5; subst hr4; exact congrArg (fun r : Bool => (.bool r : Value)) (show _ = (F_skewbacklaw06_VectorTangentsMatchSpec a) from bif_t h11 rfl))
  ·skip
   refine W_f h11 rfl ?_
   refine W_skip ?_
   refine hK_1 _ _ ?_
   try clear hK_1 K_1
   refine W_sr (fun K1 hK1 => ?_)
   refine WL_q rfl (q_as (v' := AV [pI (E (Z.of 0))]) (q_ret en_22 (skewbackref03_Of_ret (wl 0).1 (wl 0).2) rfl) rfl) ?_
   refine WL_r rfl (r_allocp zp_28 (fun b12 hb12 => ?_))
   refine WL_st (qs := [pI (E (Z.of 0))]) rfl ty_28 rfl rfl rfl rfl rfl (.head _) hb12 ?_
   refine WL_nil (hK1 _ _ ?_)
   clear hK1 K1
   refine W_join [2, 27, 28, 29, 30, 31, 32, 33, 34, 35, 36, 37, 38, 39, 40, 41, 42, 43, 44, 45, 46, 47, 48, 49, 50, 51, 52, 53, 54, 55, 56, 57] (fun g M => (g 2 = .bool (F_skewbacklaw06_sanity && (decide ((F_vector_Dot ((F_vector_Tangents a).1) ((F_vector_Tangents a).2)) = (E (Z.of 0))) && (decide ((F_vector_Dot a ((F_vector_Tangents a).1)) = (E (Z.of 0))) && (decide ((F_vector_Dot a ((F_vector_Tangents a).2)) = (E (Z.of 0))) && ((decide ((((F_vector_Tangents a).1).x).1 = 0) && (decide ((((F_vector_Tangents a).1).y).1 = 0) && decide ((((F_vector_Tangents a).1).z).1 = 0))) == (decide ((((F_vector_Tangents a).2).x).1 = 0) && (decide ((((F_vector_Tangents a).2).y).1 = 0) && decide ((((F_vector_Tangents a).2).z).1 = 0))))))))) ∧ M = [⟨b12, 28, flat [pI (E (Z.of 0))]⟩, ⟨b7, 23, flat [ci .i64 r5.x.1, ci .i64 r5.y.1, ci .i64 r5.z.1]⟩, ⟨b6, 23, flat [ci .i64 r4.x.1, ci .i64 r4.y.1, ci .i64 r4.z.1]⟩, ⟨b3, 23, flat [ci .i64 ((((F_vector_Tangents a).2).x).1), ci .i64 ((((F_vector_Tangents a).2).y).1), ci .i64 ((((F_vector_Tangents a).2).z).1)]⟩, ⟨b2, 23, flat [ci .i64 ((((F_vector_Tangents a).1).x).1), ci .i64 ((((F_vector_Tangents a).1).y).1), ci .i64 ((((F_vector_Tangents a).1).z).1)]⟩, ⟨b1, 23, flat [ci .i64 a.x.1, ci .i64 a.y.1, ci .i64 a.z.1]⟩]) (fun K_3 hK_3 => ?_) ?_
   ·skip
    refine W_draw (sk (sk (sk (sk (sk (sk (s0))))))) (.quiet 0 [1,2,3,4,5,6,7,8,9,10,11,12,13,14,15,16,17,18,19,20,21,22,23,24,25,26,27,28,29,30,31] (.quiet 1 [2,3,4,5,6,7,8,9,10,11,12,13,14,15,16,17,18,19,20,21,22,23,24,25,26,27,28,29,30,31] (.quiet 2 [4,6,7,8,9,10,11,12,13,14,15,16,17,18,19,20,21,22,23,24,25,26,27,28,29,30,31] (.quiet 3 [4,6,7,8,9,10,11,12,13,14,15,16,17,18,19,20,21,22,23,24,25,26,27,28,29,30,31] (.quiet 4 [6,7,8,9,10,11,12,13,14,15,16,17,18,19,20,21,22,23,24,25,26,27,28,29,30,31] (.quiet 5 [6,7,8,9,10,11,12,13,14,15,16,17,18,19,20,21,22,23,24,25,26,27,28,29,30,31] (.quiet 6 [7,8,9,10,11,12,13,14,15,16,17,18,19,20,21,22,23,24,25,26,27,28,29,30,31] (.quiet 7 [8,9,10,11,12,13,14,15,16,17,18,19,20,21,22,23,24,25,26,27,28,29,30,31] (.quiet 8 [9,10,11,12,13,14,15,16,17,18,19,20,21,22,23,24,25,26,27,28,29,30,31] (.quiet 9 [11,13,14,15,16,17,18,19,20,21,22,23,24,25,26,27,28,29,30,31] (.quiet 10 [11,13,14,15,16,17,18,19,20,21,22,23,24,25,26,27,28,29,30,31] (.quiet 11 [13,14,15,16,17,18,19,20,21,22,23,24,25,26,27,28,29,30,31] (.quiet 12 [13,14,15,16,17,18,19,20,21,22,23,24,25,26,27,28,29,30,31] (.quiet 13 [14,15,16,17,18,19,20,21,22,23,24,25,26,27,28,29,30,31] (.quiet 14 [15,16,17,18,19,20,21,22,23,24,25,26,27,28,29,30,31] (.quiet 15 [16,17,18,19,20,21,22,23,24,25,26,27,28,29,30,31] (.quiet 16 [18,20,21,22,23,24,25,26,27,28,29,30,31] (.quiet 17 [18,20,21,22,23,24,25,26,27,28,29,30,31] (.quiet 18 [20,21,22,23,24,25,26,27,28,29,30,31] (.quiet 19 [20,21,22,23,24,25,26,27,28,29,30,31] (.quiet 20 [21,22,23,24,25,26,27,28,29,30,31] (.quiet 21 [22,23,24,25,26,27,28,29,30,31] (.quiet 22 [23,24,25,26,27,28,29,30,31] (.quiet 23 [25,29,30,31] (.quiet 24 [25,29,30,31] (.quiet 25 [29,30,31] (.quiet 26 [28,29,30,31] (.quiet 27 [28,29,30,31] (.quiet 28 [29,30,31] (.quiet 29 [30,31] (.quiet 30 [31] (.quiet 31 [] (.fin))))))))))))))))))))))))))))))))) [0,1,2,3,4,5,6,7,8,9,10,11,12,13,14,15,16,17,18,19,20,21,22,23,24,25,26,27,28,29,30,31] mix (by kernel_rfl) (by kernel_rfl) (fun K1 hK1 => ?_)
    refine PL_q rfl rfl (q_ret en_9 skewbacklaw06_sanity_ret  rfl) ?_
    rcases bt F_skewbacklaw06_sanity with h17 | h17
    ·skip
     refine PL_q rfl rfl (q_as (v' := .bool true) (q_move rfl) (congrArg Value.bool h17)) ?_
     refine PL_q rfl rfl (q_loadp ty_23 rfl m4 rfl) ?_
     refine PL_q rfl rfl (q_loadp ty_23 rfl m3 rfl) ?_
     refine PL_q rfl rfl (q_ret en_10 (vector_Dot_ret ((F_vector_Tangents a).1) ((F_vector_Tangents a).2)) rfl) ?_
     refine PL_q rfl rfl (q_loadp ty_28 rfl m0 rfl) ?_
     refine PL_q rfl rfl (q_eqla (r := decide ((F_vector_Dot ((F_vector_Tangents a).1) ((F_vector_Tangents a).2)) = (E (Z.of 0)))) rfl rfl (eqOk_of 8 (by decide) eg_28 lw_28 (lv_one lv_pI) (lv_one lv_pI) (eqP_one eq_pI))) ?_
     refine PL_q rfl rfl (q_pick rfl rfl) ?_
     rcases bt (decide ((F_vector_Dot ((F_vector_Tangents a).1) ((F_vector_Tangents a).2)) = (E (Z.of 0)))) with h18 | h18
     ·skip
      refine PL_q rfl rfl (q_as (v' := .bool true) (q_move rfl) (congrArg Value.bool h18)) ?_
      refine PL_q rfl rfl (q_loadp ty_23 rfl m5 rfl) ?_
      refine PL_q rfl rfl (q_loadp ty_23 rfl m4 rfl) ?_
      refine PL_q rfl rfl (q_ret en_10 (vector_Dot_ret a ((F_vector_Tangents a).1)) rfl) ?_
      refine PL_q rfl rfl (q_loadp ty_28 rfl m0 rfl) ?_
      refine PL_q rfl rfl (q_eqla (r := decide ((F_vector_Dot a ((F_vector_Tangents a).1)) = (E (Z.of 0)))) rfl rfl (eqOk_of 8 (by decide) eg_28 lw_28 (lv_one lv_pI) (lv_one lv_pI) (eqP_one eq_pI))) ?_
      refine PL_q rfl rfl (q_pick rfl rfl) ?_
      rcases bt (decide ((F_vector_Dot a ((F_vector_Tangents a).1)) = (E (Z.of 0)))) with h19 | h19
      ·skip
       refine PL_q rfl rfl (q_as (v' := .bool true) (q_move rfl) (congrArg Value.bool h19)) ?_
       refine PL_q rfl rfl (q_loadp ty_23 rfl m5 rfl) ?_
       refine PL_q rfl rfl (q_loadp ty_23 rfl m3 rfl) ?_
       refine PL_q rfl rfl (q_ret en_10 (vector_Dot_ret a ((F_vector_Tangents a).2)) rfl) ?_
       refine PL_q rfl rfl (q_loadp ty_28 rfl m0 rfl) ?_
       refine PL_q rfl rfl (q_eqla (r := decide ((F_vector_Dot a ((F_vector_Tangents a).2)) = (E (Z.of 0)))) rfl rfl (eqOk_of 8 (by decide) eg_28 lw_28 (lv_one lv_pI) (lv_one lv_pI) (eqP_one eq_pI))) ?_
       refine PL_q rfl rfl (q_pick rfl rfl) ?_
       rcases bt (decide ((F_vector_Dot a ((F_vector_Tangents a).2)) = (E (Z.of 0)))) with h20 | h20
       ·skip
        refine PL_q rfl rfl (q_as (v' := .bool true) (q_move rfl) (congrArg Value.bool h20)) ?_
        refine PL_q rfl rfl (q_loadp ty_23 rfl m4 rfl) ?_
        refine PL_q rfl rfl (q_buildap zp_23 ar_23 rfl (.nil _)) ?_
        refine PL_q rfl rfl (q_eqla (r := (decide ((((F_vector_Tangents a).1).x).1 = 0) && (decide ((((F_vector_Tangents a).1).y).1 = 0) && decide ((((F_vector_Tangents a).1).z).1 = 0)))) rfl rfl (eqOk_of 8 (by decide) eg_23 lw_23 (lv_cons lv_ci (lv_cons lv_ci (lv_one lv_ci))) (lv_cons lv_ci (lv_cons lv_ci (lv_one lv_ci))) (eqP_cons rfl eq_ci (eqP_cons rfl eq_ci (eqP_one eq_ci))))) ?_
        refine PL_q rfl rfl (q_loadp ty_23 rfl m3 rfl) ?_
        refine PL_q rfl rfl (q_buildap zp_23 ar_23 rfl (.nil _)) ?_
        refine PL_q rfl rfl (q_eqla (r := (decide ((((F_vector_Tangents a).2).x).1 = 0) && (decide ((((F_vector_Tangents a).2).y).1 = 0) && decide ((((F_vector_Tangents a).2).z).1 = 0)))) rfl rfl (eqOk_of 8 (by decide) eg_23 lw_23 (lv_cons lv_ci (lv_cons lv_ci (lv_one lv_ci))) (lv_cons lv_ci (lv_cons lv_ci (lv_one lv_ci))) (eqP_cons rfl eq_ci (eqP_cons rfl eq_ci (eqP_one eq_ci))))) ?_
        refine PL_q rfl rfl (q_as (v' := .bool ((decide ((((F_vector_Tangents a).1).x).1 = 0) && (decide ((((F_vector_Tangents a).1).y).1 = 0) && decide ((((F_vector_Tangents a).1).z).1 = 0))) == (decide ((((F_vector_Tangents a).2).x).1 = 0) && (decide ((((F_vector_Tangents a).2).y).1 = 0) && decide ((((F_vector_Tangents a).2).z).1 = 0))))) (q_eqlb bo_4 rfl rfl) rfl) ?_
        refine PL_q rfl rfl (q_pick rfl rfl) ?_
        refine PL_q rfl rfl (q_assign rfl) ?_
        refine PL_fin (hK1 _ _ ?_)
        clear hK1 K1
        refine hK_3 _ _ (by repeat (first | exact .refl | refine .cons rfl ?_)) ⟨_, s0, ?s2, rfl⟩
        case s2 => exact congrArg Value.bool (and_t h17 (and_t h18 (and_t h19 (and_t h20 rfl))))
       ·skip
        refine PL_q rfl rfl (q_as (v' := .bool false) (q_move rfl) (congrArg Value.bool h20)) ?_
        refine PL_n rfl rfl ?_
        refine PL_n rfl rfl ?_
        refine PL_n rfl rfl ?_
        refine PL_n rfl rfl ?_
        refine PL_n rfl rfl ?_
        refine PL_n rfl rfl ?_
        refine PL_n rfl rfl ?_
        refine PL_q rfl rfl (q_pick rfl rfl) ?_
        refine PL_q rfl rfl (q_assign rfl) ?_
        refine PL_fin (hK1 _ _ ?_)
        clear hK1 K1
        refine hK_3 _ _ (by repeat (first | exact .refl | refine .cons rfl ?_)) ⟨_, s0, ?s2, rfl⟩
        case s2 => exact congrArg Value.bool (and_t h17 (and_t h18 (and_t h19 (and_f h20))))
      ·skip
       refine PL_q rfl rfl (q_as (v' := .bool false) (q_move rfl) (congrArg Value.bool h19)) ?_
       refine PL_n rfl rfl ?_
       refine PL_n rfl rfl ?_
       refine PL_n rfl rfl ?_
       refine PL_n rfl rfl ?_
       refine PL_n rfl rfl ?_
       refine PL_q rfl rfl (q_pick rfl rfl) ?_
       refine PL_q rfl rfl (q_move rfl) ?_
       refine PL_n rfl rfl ?_
       refine PL_n rfl rfl ?_
       refine PL_n rfl rfl ?_
       refine PL_n rfl rfl ?_
       refine PL_n rfl rfl ?_
       refine PL_n rfl rfl ?_
       refine PL_n rfl rfl ?_
       refine PL_q rfl rfl (q_pick rfl rfl) ?_
       refine PL_q rfl rfl (q_assign rfl) ?_
       refine PL_fin (hK1 _ _ ?_)
       clear hK1 K1
       refine hK_3 _ _ (by repeat (first | exact .refl | refine .cons rfl ?_)) ⟨_, s0, ?s2, rfl⟩
       case s2 => exact congrArg Value.bool (and_t h17 (and_t h18 (and_f h19)))
     ·skip
      refine PL_q rfl rfl (q_as (v' := .bool false) (q_move rfl) (congrArg Value.bool h18)) ?_
      refine PL_n rfl rfl ?_
      refine PL_n rfl rfl ?_
      refine PL_n rfl rfl ?_
      refine PL_n rfl rfl ?_
      refine PL_n rfl rfl ?_
      refine PL_q rfl rfl (q_pick rfl rfl) ?_
      refine PL_q rfl rfl (q_move rfl) ?_
      refine PL_n rfl rfl ?_
      refine PL_n rfl rfl ?_
      refine PL_n rfl rfl ?_
      refine PL_n rfl rfl ?_
      refine PL_n rfl rfl ?_
      refine PL_q rfl rfl (q_pick rfl rfl) ?_
      refine PL_q rfl rfl (q_move rfl) ?_
      refine PL_n rfl rfl ?_
      refine PL_n rfl rfl ?_
      refine PL_n rfl rfl ?_
      refine PL_n rfl rfl ?_
      refine PL_n rfl rfl ?_
      refine PL_n rfl rfl ?_
      refine PL_n rfl rfl ?_
      refine PL_q rfl rfl (q_pick rfl rfl) ?_
      refine PL_q rfl rfl (q_assign rfl) ?_
      refine PL_fin (hK1 _ _ ?_)
      clear hK1 K1
      refine hK_3 _ _ (by repeat (first | exact .refl | refine .cons rfl ?_)) ⟨_, s0, ?s2, rfl⟩
      case s2 => exact congrArg Value.bool (and_t h17 (and_f h18))
    ·skip
     refine PL_q rfl rfl (q_as (v' := .bool false) (q_move rfl) (congrArg Value.bool h17)) ?_
     refine PL_n rfl rfl ?_
     refine PL_n rfl rfl ?_
     refine PL_n rfl rfl ?_
     refine PL_n rfl rfl ?_
     refine PL_n rfl rfl ?_
     refine PL_q rfl rfl (q_pick rfl rfl) ?_
     refine PL_q rfl rfl (q_move rfl) ?_
     refine PL_n rfl rfl ?_
     refine PL_n rfl rfl ?_
     refine PL_n rfl rfl ?_
     refine PL_n rfl rfl ?_
     refine PL_n rfl rfl ?_
     refine PL_q rfl rfl (q_pick rfl rfl) ?_
     refine PL_q rfl rfl (q_move rfl) ?_
     refine PL_n rfl rfl ?_
     refine PL_n rfl rfl ?_
     refine PL_n rfl rfl ?_
     refine PL_n rfl rfl ?_
     refine PL_n rfl rfl ?_
     refine PL_q rfl rfl (q_pick rfl rfl) ?_
     refine PL_q rfl rfl (q_move rfl) ?_
     refine PL_n rfl rfl ?_
     refine PL_n rfl rfl ?_
     refine PL_n rfl rfl ?_
     refine PL_n rfl rfl ?_
     refine PL_n rfl rfl ?_
     refine PL_n rfl rfl ?_
     refine PL_n rfl rfl ?_
     refine PL_q rfl rfl (q_pick rfl rfl) ?_
     refine PL_q rfl rfl (q_assign rfl) ?_
     refine PL_fin (hK1 _ _ ?_)
     clear hK1 K1
     refine hK_3 _ _ (by repeat (first | exact .refl | refine .cons rfl ?_)) ⟨_, s0, ?s2, rfl⟩
     case s2 => exact congrArg Value.bool (and_f h17)
   ·skip
    rintro g21 M ⟨hg2, rfl⟩
    simp only [setG, hg2]
    clear hg2
    refine W_ret ?_
    refine ret1 rfl (.inr rfl) rfl ?_
    exact (by subst hr5; subst hr4; exact congrArg (fun r : Bool => (.bool r : Value)) (show _ = (F_skewbacklaw06_VectorTangentsMatchSpec a) from bif_f h11 rfl))
end Go.Proofs.Ythbjhbmpfeeilaa
