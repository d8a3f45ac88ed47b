/- Walks: what these functions return. -/
import Derived.Test.YthbjhbmpfeeilaaFa0
import Derived.Test.YthbjhbmpfeeilaaFn
import Derived.Test.YthbjhbmpfeeilaaLa
import Derived.Test.YthbjhbmpfeeilaaRa
import Derived.Test.YthbjhbmpfeeilaaVa
namespace Go.Proofs.Ythbjhbmpfeeilaa
open Go.Kn Go.Num
set_option linter.unusedVariables false
set_option linter.unusedSimpArgs false
set_option maxRecDepth 20000
set_option maxHeartbeats 8000000
theorem skewbacklaw06_VectorSumsMatchSpec_ret (a : (A3 W)) (b : (A3 W)) :
    Ret Try.prog 7 [AV [ci .i64 a.x.1, ci .i64 a.y.1, ci .i64 a.z.1], AV [ci .i64 b.x.1, ci .i64 b.y.1, ci .i64 b.z.1]] (.bool (F_skewbacklaw06_VectorSumsMatchSpec a b)) := by
 refine ret_of_W (N := 73) Try.func7 rfl rfl (by simp) (fun w0 => ?_)
 simp only [initF, Nat.reduceAdd]
 refine W_sr (fun K1 hK1 => ?_)
 refine WL_r rfl (r_boxp rfl rfl (fun b1 hb1 => ?_))
 refine WL_r rfl (r_boxp rfl rfl (fun b2 hb2 => ?_))
 refine WL_q rfl (q_assign rfl) ?_
 refine WL_nil (hK1 _ _ ?_)
 clear hK1 K1
 refine W_sr (fun K1 hK1 => ?_)
 refine WL_q rfl (q_loadp ty_23 rfl m1 rfl) ?_
 refine WL_q rfl (q_loadp ty_23 rfl m0 rfl) ?_
 refine WL_q rfl (q_ret en_27 (vector_Less_ret a b) rfl) ?_
 refine WL_q rfl (q_assign rfl) ?_
 refine WL_nil (hK1 _ _ ?_)
 clear hK1 K1
 refine W_seq (fun K_1 hK_1 => ?_)
 refine W_join [9, 10, 11, 12, 13, 14, 15, 16, 17, 18, 19, 20, 21, 22, 23, 24, 25, 26, 27, 28, 29, 30, 31, 32, 33, 34, 35, 36] (fun g M => (g 36 = .bool (((F_vector_Less a b) != (F_skewbackref06_Less a b)) || (bif (F_vector_Less a b) then (F_vector_Less b a) else (!(F_vector_Less b a) && (!(decide (a.x.1 = b.x.1) && (decide (a.y.1 = b.y.1) && decide (a.z.1 = b.z.1)))))))) ∧ M = [⟨b2, 23, flat [ci .i64 b.x.1, ci .i64 b.y.1, ci .i64 b.z.1]⟩, ⟨b1, 23, flat [ci .i64 a.x.1, ci .i64 a.y.1, ci .i64 a.z.1]⟩]) (fun K_2 hK_2 => ?_) ?_
 ·skip
  refine W_region_k (fun K1 hK1 => ?_)
  refine WL_q rfl (q_move rfl) ?_
  refine WL_q rfl (q_loadp ty_23 rfl m1 rfl) ?_
  refine WL_q rfl (q_loadp ty_23 rfl m0 rfl) ?_
  refine WL_q rfl (q_ret en_28 (skewbackref06_Less_ret a b) rfl) ?_
  refine WL_q rfl (q_as (v' := .bool ((F_vector_Less a b) != (F_skewbackref06_Less a b))) (q_neqb bo_4 rfl rfl) rfl) ?_
  rcases bt ((F_vector_Less a b) != (F_skewbackref06_Less a b)) with h7 | h7
  ·skip
   refine WL_q rfl (q_as (v' := .bool true) (q_move rfl) (congrArg Value.bool h7)) ?_
   refine WL_n rfl ?_
   refine WL_n rfl ?_
   refine WL_n rfl ?_
   refine WL_n rfl ?_
   refine WL_n rfl ?_
   refine WL_n rfl ?_
   refine WL_q rfl (q_pick rfl rfl) ?_
   refine WL_q rfl (q_move rfl) ?_
   refine WL_n rfl ?_
   refine WL_n rfl ?_
   refine WL_n rfl ?_
   refine WL_n rfl ?_
   refine WL_n rfl ?_
   refine WL_n rfl ?_
   refine WL_n rfl ?_
   refine WL_n rfl ?_
   refine WL_n rfl ?_
   refine WL_n rfl ?_
   refine WL_n rfl ?_
   refine WL_n rfl ?_
   refine WL_n rfl ?_
   refine WL_q rfl (q_pick rfl rfl) ?_
   refine WL_nil (hK1 _ _ ?_)
   clear hK1 K1
   refine hK_2 _ _ (by repeat (first | exact .refl | refine .cons rfl ?_)) ⟨_, s0, ?s36, rfl⟩
   case s36 => exact congrArg Value.bool (or_t h7)
  ·skip
   refine WL_q rfl (q_as (v' := .bool false) (q_move rfl) (congrArg Value.bool h7)) ?_
   refine WL_q rfl (q_move rfl) ?_
   rcases bt (F_vector_Less a b) with h8 | h8
   ·skip
    refine WL_q rfl (q_as (v' := .bool true) (q_move rfl) (congrArg Value.bool h8)) ?_
    refine WL_q rfl (q_loadp ty_23 rfl m0 rfl) ?_
    refine WL_q rfl (q_loadp ty_23 rfl m1 rfl) ?_
    refine WL_q rfl (q_ret en_27 (vector_Less_ret b a) rfl) ?_
    refine WL_q rfl (q_pick rfl rfl) ?_
    refine WL_q rfl (q_pick rfl rfl) ?_
    rcases bt (F_vector_Less b a) with h9 | h9
    ·skip
     refine WL_q rfl (q_as (v' := .bool true) (q_move rfl) (congrArg Value.bool h9)) ?_
     refine WL_n rfl ?_
     refine WL_n rfl ?_
     refine WL_n rfl ?_
     refine WL_n rfl ?_
     refine WL_n rfl ?_
     refine WL_n rfl ?_
     refine WL_n rfl ?_
     refine WL_n rfl ?_
     refine WL_n rfl ?_
     refine WL_n rfl ?_
     refine WL_n rfl ?_
     refine WL_n rfl ?_
     refine WL_n rfl ?_
     refine WL_q rfl (q_pick rfl rfl) ?_
     refine WL_nil (hK1 _ _ ?_)
     clear hK1 K1
     refine hK_2 _ _ (by repeat (first | exact .refl | refine .cons rfl ?_)) ⟨_, s0, ?s36, rfl⟩
     case s36 => exact congrArg Value.bool (or_f h7 (bif_t h8 h9.symm))
    ·skip
     refine WL_q rfl (q_as (v' := .bool false) (q_move rfl) (congrArg Value.bool h9)) ?_
     refine WL_q rfl (q_move rfl) ?_
     refine WL_q rfl (q_not rfl) ?_
     refine WL_q rfl (q_as (v' := .bool false) (q_move rfl) (congrArg Value.bool (not_f h8))) ?_
     refine WL_n rfl ?_
     refine WL_n rfl ?_
     refine WL_n rfl ?_
     refine WL_n rfl ?_
     refine WL_q rfl (q_pick rfl rfl) ?_
     refine WL_q rfl (q_move rfl) ?_
     refine WL_n rfl ?_
     refine WL_n rfl ?_
     refine WL_n rfl ?_
     refine WL_q rfl (q_pick rfl rfl) ?_
     refine WL_q rfl (q_pick rfl rfl) ?_
     refine WL_nil (hK1 _ _ ?_)
     clear hK1 K1
     refine hK_2 _ _ (by repeat (first | exact .refl | refine .cons rfl ?_)) ⟨_, s0, ?s36, rfl⟩
     case s36 => exact congrArg Value.bool (or_f h7 (bif_t h8 h9.symm))
   ·skip
    refine WL_q rfl (q_as (v' := .bool false) (q_move rfl) (congrArg Value.bool h8)) ?_
    refine WL_n rfl ?_
    refine WL_n rfl ?_
    refine WL_n rfl ?_
    refine WL_q rfl (q_pick rfl rfl) ?_
    refine WL_q rfl (q_pick rfl rfl) ?_
    refine WL_q rfl (q_move rfl) ?_
    refine WL_q rfl (q_move rfl) ?_
    refine WL_q rfl (q_not rfl) ?_
    refine WL_q rfl (q_as (v' := .bool true) (q_move rfl) (congrArg Value.bool (not_t h8))) ?_
    refine WL_q rfl (q_loadp ty_23 rfl m0 rfl) ?_
    refine WL_q rfl (q_loadp ty_23 rfl m1 rfl) ?_
    refine WL_q rfl (q_ret en_27 (vector_Less_ret b a) rfl) ?_
    refine WL_q rfl (q_not rfl) ?_
    refine WL_q rfl (q_pick rfl rfl) ?_
    rcases bt (F_vector_Less b a) with h10 | h10
    ·skip
     refine WL_q rfl (q_as (v' := .bool false) (q_move rfl) (congrArg Value.bool (not_f h10))) ?_
     refine WL_n rfl ?_
     refine WL_n rfl ?_
     refine WL_n rfl ?_
     refine WL_q rfl (q_pick rfl rfl) ?_
     refine WL_q rfl (q_pick rfl rfl) ?_
     refine WL_nil (hK1 _ _ ?_)
     clear hK1 K1
     refine hK_2 _ _ (by repeat (first | exact .refl | refine .cons rfl ?_)) ⟨_, s0, ?s36, rfl⟩
     case s36 => exact congrArg Value.bool (or_f h7 (bif_f h8 (nand_t h10)))
    ·skip
     refine WL_q rfl (q_as (v' := .bool true) (q_move rfl) (congrArg Value.bool (not_t h10))) ?_
     refine WL_q rfl (q_loadp ty_23 rfl m1 rfl) ?_
     refine WL_q rfl (q_loadp ty_23 rfl m0 rfl) ?_
     refine WL_q rfl (q_neqa (r := (decide (a.x.1 = b.x.1) && (decide (a.y.1 = b.y.1) && decide (a.z.1 = b.z.1)))) rfl rfl (eqOk_of 8 (by decide) eg_23 lw_23 (lv_cons lv_ci (lv_cons lv_ci (lv_one lv_ci))) (lv_cons lv_ci (lv_cons lv_ci (lv_one lv_ci))) (eqP_cons rfl eq_ci (eqP_cons rfl eq_ci (eqP_one eq_ci))))) ?_
     refine WL_q rfl (q_pick rfl rfl) ?_
     refine WL_q rfl (q_pick rfl rfl) ?_
     refine WL_nil (hK1 _ _ ?_)
     clear hK1 K1
     refine hK_2 _ _ (by repeat (first | exact .refl | refine .cons rfl ?_)) ⟨_, s0, ?s36, rfl⟩
     case s36 => exact congrArg Value.bool (or_f h7 (bif_f h8 (nand_f h10 rfl)))
 ·skip
  rintro g11 M ⟨hg36, rfl⟩
  simp only [setG, hg36]
  clear hg36
  rcases bt (((F_vector_Less a b) != (F_skewbackref06_Less a b)) || (bif (F_vector_Less a b) then (F_vector_Less b a) else (!(F_vector_Less b a) && (!(decide (a.x.1 = b.x.1) && (decide (a.y.1 = b.y.1) && decide (a.z.1 = b.z.1))))))) with h12 | h12
  ·skip
   refine W_t h12 rfl ?_
   refine W_sr (fun K1 hK1 => ?_)
   refine WL_q rfl (q_assign rfl) ?_
   refine WL_nil (hK1 _ _ ?_)
   clear hK1 K1
   refine W_ret ?_
   refine thenK_r (ret1 rfl (.inr rfl) rfl ?_)
   exact (by exact congrArg (fun r : Bool => (.bool r : Value)) (show _ = (F_skewbacklaw06_VectorSumsMatchSpec a b) from bif_t h12 rfl))
  ·skip
   refine W_f h12 rfl ?_
   refine W_skip ?_
   refine hK_1 _ _ ?_
   try clear hK_1 K_1
   refine W_seq (fun K_3 hK_3 => ?_)
   refine W_join [37, 38, 39, 40, 41, 42, 43, 44] (fun g M => (g 44 = .bool (!(F_skewbackref06_Small a) || (!(F_skewbackref06_Small b)))) ∧ M = [⟨b2, 23, flat [ci .i64 b.x.1, ci .i64 b.y.1, ci .i64 b.z.1]⟩, ⟨b1, 23, flat [ci .i64 a.x.1, ci .i64 a.y.1, ci .i64 a.z.1]⟩]) (fun K_4 hK_4 => ?_) ?_
   ·skip
    refine W_region_k (fun K1 hK1 => ?_)
    refine WL_q rfl (q_loadp ty_23 rfl m1 rfl) ?_
    refine WL_q rfl (q_ret en_25 (skewbackref06_Small_ret a) rfl) ?_
    refine WL_q rfl (q_not rfl) ?_
    rcases bt (F_skewbackref06_Small a) with h14 | h14
    ·skip
     refine WL_q rfl (q_as (v' := .bool false) (q_move rfl) (congrArg Value.bool (not_f h14))) ?_
     refine WL_q rfl (q_loadp ty_23 rfl m0 rfl) ?_
     refine WL_q rfl (q_ret en_25 (skewbackref06_Small_ret b) rfl) ?_
     refine WL_q rfl (q_not rfl) ?_
     refine WL_q rfl (q_pick rfl rfl) ?_
     refine WL_nil (hK1 _ _ ?_)
     clear hK1 K1
     refine hK_4 _ _ (by repeat (first | exact .refl | refine .cons rfl ?_)) ⟨_, s0, ?s44, rfl⟩
     case s44 => exact congrArg Value.bool (nor_t h14 rfl)
    ·skip
     refine WL_q rfl (q_as (v' := .bool true) (q_move rfl) (congrArg Value.bool (not_t h14))) ?_
     refine WL_n rfl ?_
     refine WL_n rfl ?_
     refine WL_n rfl ?_
     refine WL_q rfl (q_pick rfl rfl) ?_
     refine WL_nil (hK1 _ _ ?_)
     clear hK1 K1
     refine hK_4 _ _ (by repeat (first | exact .refl | refine .cons rfl ?_)) ⟨_, s0, ?s44, rfl⟩
     case s44 => exact congrArg Value.bool (nor_f h14)
   ·skip
    rintro g15 M ⟨hg44, rfl⟩
    simp only [setG, hg44]
    clear hg44
    rcases bt (!(F_skewbackref06_Small a) || (!(F_skewbackref06_Small b))) with h16 | h16
    ·skip
     refine W_t h16 rfl ?_
     refine W_sr (fun K1 hK1 => ?_)
     refine WL_q rfl (q_ret en_9 skewbacklaw06_sanity_ret  rfl) ?_
     refine WL_q rfl (q_assign rfl) ?_
     refine WL_nil (hK1 _ _ ?_)
     clear hK1 K1
     refine W_ret ?_
     refine thenK_r (ret1 rfl (.inr rfl) rfl ?_)
     exact (by exact congrArg (fun r : Bool => (.bool r : Value)) (show _ = (F_skewbacklaw06_VectorSumsMatchSpec a b) from bif_f h12 (bif_t h16 rfl)))
    ·skip
     refine W_f h16 rfl ?_
     refine W_skip ?_
     refine hK_3 _ _ ?_
     try clear hK_3 K_3
     refine W_join [4, 46, 47, 48, 49, 50, 51, 52, 53, 54, 55, 56, 57, 58, 59, 60, 61, 62, 63, 64, 65, 66, 67, 68, 69, 70, 71, 72] (fun g M => (g 4 = .bool (F_skewbacklaw06_sanity && ((decide (((F_vector_Add a b).x).1 = ((F_skewbackref06_Add a b).x).1) && (decide (((F_vector_Add a b).y).1 = ((F_skewbackref06_Add a b).y).1) && decide (((F_vector_Add a b).z).1 = ((F_skewbackref06_Add a b).z).1))) && ((decide (((F_vector_Sub a b).x).1 = ((F_skewbackref06_Sub a b).x).1) && (decide (((F_vector_Sub a b).y).1 = ((F_skewbackref06_Sub a b).y).1) && decide (((F_vector_Sub a b).z).1 = ((F_skewbackref06_Sub a b).z).1))) && (decide (((F_vector_Neg a).x).1 = ((F_skewbackref06_Sub (⟨(wl 0), (wl 0), (wl 0)⟩ : (A3 W)) a).x).1) && (decide (((F_vector_Neg a).y).1 = ((F_skewbackref06_Sub (⟨(wl 0), (wl 0), (wl 0)⟩ : (A3 W)) a).y).1) && decide (((F_vector_Neg a).z).1 = ((F_skewbackref06_Sub (⟨(wl 0), (wl 0), (wl 0)⟩ : (A3 W)) a).z).1))))))) ∧ M = [⟨b2, 23, flat [ci .i64 b.x.1, ci .i64 b.y.1, ci .i64 b.z.1]⟩, ⟨b1, 23, flat [ci .i64 a.x.1, ci .i64 a.y.1, ci .i64 a.z.1]⟩]) (fun K_5 hK_5 => ?_) ?_
     ·skip
      refine W_draw (sk (sk (s0))) (.quiet 0 [1,2,3,4,5,6,7,8,9,10,11,12,13,14,15,16,17,18,19,20,21,22,23,24,25,26,27] (.quiet 1 [2,3,4,5,6,7,8,9,10,11,12,13,14,15,16,17,18,19,20,21,22,23,24,25,26,27] (.quiet 2 [4,7,8,9,10,11,12,13,14,15,16,17,18,19,20,21,22,23,24,25,26,27] (.quiet 3 [4,7,8,9,10,11,12,13,14,15,16,17,18,19,20,21,22,23,24,25,26,27] (.quiet 4 [7,8,9,10,11,12,13,14,15,16,17,18,19,20,21,22,23,24,25,26,27] (.quiet 5 [7,8,9,10,11,12,13,14,15,16,17,18,19,20,21,22,23,24,25,26,27] (.quiet 6 [7,8,9,10,11,12,13,14,15,16,17,18,19,20,21,22,23,24,25,26,27] (.quiet 7 [8,9,10,11,12,13,14,15,16,17,18,19,20,21,22,23,24,25,26,27] (.quiet 8 [9,10,11,12,13,14,15,16,17,18,19,20,21,22,23,24,25,26,27] (.quiet 9 [10,11,12,13,14,15,16,17,18,19,20,21,22,23,24,25,26,27] (.quiet 10 [11,12,13,14,15,16,17,18,19,20,21,22,23,24,25,26,27] (.quiet 11 [13,16,17,18,19,20,21,22,23,24,25,26,27] (.quiet 12 [13,16,17,18,19,20,21,22,23,24,25,26,27] (.quiet 13 [16,17,18,19,20,21,22,23,24,25,26,27] (.quiet 14 [16,17,18,19,20,21,22,23,24,25,26,27] (.quiet 15 [16,17,18,19,20,21,22,23,24,25,26,27] (.quiet 16 [17,18,19,20,21,22,23,24,25,26,27] (.quiet 17 [18,19,20,21,22,23,24,25,26,27] (.quiet 18 [19,20,21,22,23,24,25,26,27] (.quiet 19 [20,21,22,23,24,25,26,27] (.quiet 20 [21,24,25,26,27] (.quiet 21 [24,25,26,27] (.quiet 22 [24,25,26,27] (.quiet 23 [24,25,26,27] (.quiet 24 [25,26,27] (.quiet 25 [26,27] (.quiet 26 [27] (.quiet 27 [] (.fin))))))))))))))))))))))))))))) [0,1,2,3,4,5,6,7,8,9,10,11,12,13,14,15,16,17,18,19,20,21,22,23,24,25,26,27] mix (by kernel_rfl) (by kernel_rfl) (fun K1 hK1 => ?_)
      refine PL_q rfl rfl (q_ret en_9 skewbacklaw06_sanity_ret  rfl) ?_
      rcases bt F_skewbacklaw06_sanity with h20 | h20
      ·skip
       refine PL_q rfl rfl (q_as (v' := .bool true) (q_move rfl) (congrArg Value.bool h20)) ?_
       refine PL_q rfl rfl (q_loadp ty_23 rfl m1 rfl) ?_
       refine PL_q rfl rfl (q_loadp ty_23 rfl m0 rfl) ?_
       refine PL_q rfl rfl (q_ret en_26 (vector_Add_ret a b) rfl) ?_
       refine PL_q rfl rfl (q_loadp ty_23 rfl m1 rfl) ?_
       refine PL_q rfl rfl (q_loadp ty_23 rfl m0 rfl) ?_
       refine PL_q rfl rfl (q_ret en_29 (skewbackref06_Add_ret a b) rfl) ?_
       refine PL_q rfl rfl (q_eqla (r := (decide (((F_vector_Add a b).x).1 = ((F_skewbackref06_Add a b).x).1) && (decide (((F_vector_Add a b).y).1 = ((F_skewbackref06_Add a b).y).1) && decide (((F_vector_Add a b).z).1 = ((F_skewbackref06_Add a b).z).1)))) rfl rfl (eqOk_of 8 (by decide) eg_23 lw_23 (lv_cons lv_ci (lv_cons lv_ci (lv_one lv_ci))) (lv_cons lv_ci (lv_cons lv_ci (lv_one lv_ci))) (eqP_cons rfl eq_ci (eqP_cons rfl eq_ci (eqP_one eq_ci))))) ?_
       refine PL_q rfl rfl (q_pick rfl rfl) ?_
       rcases bt (decide (((F_vector_Add a b).x).1 = ((F_skewbackref06_Add a b).x).1) && (decide (((F_vector_Add a b).y).1 = ((F_skewbackref06_Add a b).y).1) && decide (((F_vector_Add a b).z).1 = ((F_skewbackref06_Add a b).z).1))) with h21 | h21
       ·skip
        refine PL_q rfl rfl (q_as (v' := .bool true) (q_move rfl) (congrArg Value.bool h21)) ?_
        refine PL_q rfl rfl (q_loadp ty_23 rfl m1 rfl) ?_
        refine PL_q rfl rfl (q_loadp ty_23 rfl m0 rfl) ?_
        refine PL_q rfl rfl (q_ret en_30 (vector_Sub_ret a b) rfl) ?_
        refine PL_q rfl rfl (q_loadp ty_23 rfl m1 rfl) ?_
        refine PL_q rfl rfl (q_loadp ty_23 rfl m0 rfl) ?_
        refine PL_q rfl rfl (q_ret en_31 (skewbackref06_Sub_ret a b) rfl) ?_
        refine PL_q rfl rfl (q_eqla (r := (decide (((F_vector_Sub a b).x).1 = ((F_skewbackref06_Sub a b).x).1) && (decide (((F_vector_Sub a b).y).1 = ((F_skewbackref06_Sub a b).y).1) && decide (((F_vector_Sub a b).z).1 = ((F_skewbackref06_Sub a b).z).1)))) rfl rfl (eqOk_of 8 (by decide) eg_23 lw_23 (lv_cons lv_ci (lv_cons lv_ci (lv_one lv_ci))) (lv_cons lv_ci (lv_cons lv_ci (lv_one lv_ci))) (eqP_cons rfl eq_ci (eqP_cons rfl eq_ci (eqP_one eq_ci))))) ?_
        refine PL_q rfl rfl (q_pick rfl rfl) ?_
        rcases bt (decide (((F_vector_Sub a b).x).1 = ((F_skewbackref06_Sub a b).x).1) && (decide (((F_vector_Sub a b).y).1 = ((F_skewbackref06_Sub a b).y).1) && decide (((F_vector_Sub a b).z).1 = ((F_skewbackref06_Sub a b).z).1))) with h22 | h22
        ·skip
         refine PL_q rfl rfl (q_as (v' := .bool true) (q_move rfl) (congrArg Value.bool h22)) ?_
         refine PL_q rfl rfl (q_loadp ty_23 rfl m1 rfl) ?_
         refine PL_q rfl rfl (q_ret en_32 (vector_Neg_ret a) rfl) ?_
         refine PL_q rfl rfl (q_buildap zp_23 ar_23 rfl (.nil _)) ?_
         refine PL_q rfl rfl (q_loadp ty_23 rfl m1 rfl) ?_
         refine PL_q rfl rfl (q_ret en_31 (skewbackref06_Sub_ret (⟨(wl 0), (wl 0), (wl 0)⟩ : (A3 W)) a) rfl) ?_
         refine PL_q rfl rfl (q_eqla (r := (decide (((F_vector_Neg a).x).1 = ((F_skewbackref06_Sub (⟨(wl 0), (wl 0), (wl 0)⟩ : (A3 W)) a).x).1) && (decide (((F_vector_Neg a).y).1 = ((F_skewbackref06_Sub (⟨(wl 0), (wl 0), (wl 0)⟩ : (A3 W)) a).y).1) && decide (((F_vector_Neg a).z).1 = ((F_skewbackref06_Sub (⟨(wl 0), (wl 0), (wl 0)⟩ : (A3 W)) a).z).1)))) rfl rfl (eqOk_of 8 (by decide) eg_23 lw_23 (lv_cons lv_ci (lv_cons lv_ci (lv_one lv_ci))) (lv_cons lv_ci (lv_cons lv_ci (lv_one lv_ci))) (eqP_cons rfl eq_ci (eqP_cons rfl eq_ci (eqP_one eq_ci))))) ?_
         refine PL_q rfl rfl (q_pick rfl rfl) ?_
         refine PL_q rfl rfl (q_assign rfl) ?_
         refine PL_fin (hK1 _ _ ?_)
         clear hK1 K1
         refine hK_5 _ _ (by repeat (first | exact .refl | refine .cons rfl ?_)) ⟨_, s0, ?s4, rfl⟩
         case s4 => exact congrArg Value.bool (and_t h20 (and_t h21 (and_t h22 rfl)))
        ·skip
         refine PL_q rfl rfl (q_as (v' := .bool false) (q_move rfl) (congrArg Value.bool h22)) ?_
         refine PL_n rfl rfl ?_
         refine PL_n rfl rfl ?_
         refine PL_n rfl rfl ?_
         refine PL_n rfl rfl ?_
         refine PL_n rfl rfl ?_
         refine PL_n rfl rfl ?_
         refine PL_q rfl rfl (q_pick rfl rfl) ?_
         refine PL_q rfl rfl (q_assign rfl) ?_
         refine PL_fin (hK1 _ _ ?_)
         clear hK1 K1
         refine hK_5 _ _ (by repeat (first | exact .refl | refine .cons rfl ?_)) ⟨_, s0, ?s4, rfl⟩
         case s4 => exact congrArg Value.bool (and_t h20 (and_t h21 (and_f h22)))
       ·skip
        refine PL_q rfl rfl (q_as (v' := .bool false) (q_move rfl) (congrArg Value.bool h21)) ?_
        refine PL_n rfl rfl ?_
        refine PL_n rfl rfl ?_
        refine PL_n rfl rfl ?_
        refine PL_n rfl rfl ?_
        refine PL_n rfl rfl ?_
        refine PL_n rfl rfl ?_
        refine PL_n rfl rfl ?_
        refine PL_q rfl rfl (q_pick rfl rfl) ?_
        refine PL_q rfl rfl (q_move rfl) ?_
        refine PL_n rfl rfl ?_
        refine PL_n rfl rfl ?_
        refine PL_n rfl rfl ?_
        refine PL_n rfl rfl ?_
        refine PL_n rfl rfl ?_
        refine PL_n rfl rfl ?_
        refine PL_q rfl rfl (q_pick rfl rfl) ?_
        refine PL_q rfl rfl (q_assign rfl) ?_
        refine PL_fin (hK1 _ _ ?_)
        clear hK1 K1
        refine hK_5 _ _ (by repeat (first | exact .refl | refine .cons rfl ?_)) ⟨_, s0, ?s4, rfl⟩
        case s4 => exact congrArg Value.bool (and_t h20 (and_f h21))
      ·skip
       refine PL_q rfl rfl (q_as (v' := .bool false) (q_move rfl) (congrArg Value.bool h20)) ?_
       refine PL_n rfl rfl ?_
       refine PL_n rfl rfl ?_
       refine PL_n rfl rfl ?_
       refine PL_n rfl rfl ?_
       refine PL_n rfl rfl ?_
       refine PL_n rfl rfl ?_
       refine PL_n rfl rfl ?_
       refine PL_q rfl rfl (q_pick rfl rfl) ?_
       refine PL_q rfl rfl (q_move rfl) ?_
       refine PL_n rfl rfl ?_
       refine PL_n rfl rfl ?_
       refine PL_n rfl rfl ?_
       refine PL_n rfl rfl ?_
       refine PL_n rfl rfl ?_
       refine PL_n rfl rfl ?_
       refine PL_n rfl rfl ?_
       refine PL_q rfl rfl (q_pick rfl rfl) ?_
       refine PL_q rfl rfl (q_move rfl) ?_
       refine PL_n rfl rfl ?_
       refine PL_n rfl rfl ?_
       refine PL_n rfl rfl ?_
       refine PL_n rfl rfl ?_
       refine PL_n rfl rfl ?_
       refine PL_n rfl rfl ?_
       refine PL_q rfl rfl (q_pick rfl rfl) ?_
       refine PL_q rfl rfl (q_assign rfl) ?_
       refine PL_fin (hK1 _ _ ?_)
       clear hK1 K1
       refine hK_5 _ _ (by repeat (first | exact .refl | refine .cons rfl ?_)) ⟨_, s0, ?s4, rfl⟩
       case s4 => exact congrArg Value.bool (and_f h20)
     ·skip
      rintro g23 M ⟨hg4, rfl⟩
      simp only [setG, hg4]
      clear hg4
      refine W_ret ?_
      refine ret1 rfl (.inr rfl) rfl ?_
      exact (by exact congrArg (fun r : Bool => (.bool r : Value)) (show _ = (F_skewbacklaw06_VectorSumsMatchSpec a b) from bif_f h12 (bif_f h16 rfl)))
end Go.Proofs.Ythbjhbmpfeeilaa
