/- Walks: what these functions return. -/
import Derived.Test.YthbjhbmpfeeilaaFa0
import Derived.Test.YthbjhbmpfeeilaaFn
import Derived.Test.YthbjhbmpfeeilaaLa
import Derived.Test.YthbjhbmpfeeilaaRa
import Derived.Test.YthbjhbmpfeeilaaSf
import Derived.Test.YthbjhbmpfeeilaaSg
import Derived.Test.YthbjhbmpfeeilaaVa
import Derived.Test.YthbjhbmpfeeilaaVd
namespace Go.Proofs.Ythbjhbmpfeeilaa
open Go.Kn Go.Num
set_option linter.unusedVariables false
set_option linter.unusedSimpArgs false
set_option maxRecDepth 20000
set_option maxHeartbeats 8000000
theorem skewbacklaw06_VectorLagrange_ret (a : (A3 W)) (b : (A3 W)) :
    Ret Try.prog 8 [AV [ci .i64 a.x.1, ci .i64 a.y.1, ci .i64 a.z.1], AV [ci .i64 b.x.1, ci .i64 b.y.1, ci .i64 b.z.1]] (.bool (F_skewbacklaw06_VectorLagrange a b)) := by
 refine ret_of_W (N := 114) Try.func8 rfl rfl (by simp) (fun w0 => ?_)
 simp only [initF, Nat.reduceAdd]
 refine W_sr (fun K1 hK1 => ?_)
 refine WL_r rfl (r_boxp rfl rfl (fun b1 hb1 => ?_))
 refine WL_r rfl (r_boxp rfl rfl (fun b2 hb2 => ?_))
 refine WL_q rfl (q_assign rfl) ?_
 refine WL_nil (hK1 _ _ ?_)
 clear hK1 K1
 refine W_sr (fun K1 hK1 => ?_)
 refine WL_q rfl (q_as (v' := AV [pI (E (Z.of 0))]) (q_ret en_22 (skewbackref03_Of_ret (wl 0).1 (wl 0).2) rfl) rfl) ?_
 refine WL_r rfl (r_allocp zp_28 (fun b3 hb3 => ?_))
 refine WL_st (qs := [pI (E (Z.of 0))]) rfl ty_28 rfl rfl rfl rfl rfl (.head _) hb3 ?_
 refine WL_nil (hK1 _ _ ?_)
 clear hK1 K1
 refine W_sr (fun K1 hK1 => ?_)
 refine WL_q rfl (q_loadp ty_23 rfl m2 rfl) ?_
 refine WL_q rfl (q_loadp ty_23 rfl m1 rfl) ?_
 refine WL_q rfl (q_ret en_12 (vector_Cross_ret a b) rfl) ?_
 refine WL_r rfl (r_allocp zp_30 (fun b4 hb4 => ?_))
 refine WL_st (qs := [pI ((F_vector_Cross a b).x), pI ((F_vector_Cross a b).y), pI ((F_vector_Cross a b).z)]) rfl ty_30 rfl rfl rfl rfl rfl (.head _) hb4 ?_
 refine WL_nil (hK1 _ _ ?_)
 clear hK1 K1
 refine W_sr (fun K1 hK1 => ?_)
 refine WL_q rfl (q_loadp ty_23 rfl m2 rfl) ?_
 refine WL_q rfl (q_loadp ty_23 rfl m3 rfl) ?_
 refine WL_q rfl (q_ret en_12 (vector_Cross_ret b a) rfl) ?_
 refine WL_r rfl (r_allocp zp_30 (fun b5 hb5 => ?_))
 refine WL_st (qs := [pI ((F_vector_Cross b a).x), pI ((F_vector_Cross b a).y), pI ((F_vector_Cross b a).z)]) rfl ty_30 rfl rfl rfl rfl rfl (.head _) hb5 ?_
 refine WL_nil (hK1 _ _ ?_)
 clear hK1 K1
 refine W_sr (fun K1 hK1 => ?_)
 refine WL_q rfl (q_loadp ty_30 rfl m1 rfl) ?_
 refine WL_q rfl (q_loadp ty_30 rfl m1 rfl) ?_
 refine WL_q rfl (q_ret en_18 (skewbackref06_DotOf_ret (F_vector_Cross a b) (F_vector_Cross a b)) rfl) ?_
 refine WL_r rfl (r_allocp zp_28 (fun b6 hb6 => ?_))
 refine WL_st (qs := [pI (F_skewbackref06_DotOf (F_vector_Cross a b) (F_vector_Cross a b))]) rfl ty_28 rfl rfl rfl rfl rfl (.head _) hb6 ?_
 refine WL_nil (hK1 _ _ ?_)
 clear hK1 K1
 refine W_sr (fun K1 hK1 => ?_)
 refine WL_q rfl (q_loadp ty_23 rfl m5 rfl) ?_
 refine WL_q rfl (q_loadp ty_23 rfl m4 rfl) ?_
 refine WL_q rfl (q_ret en_10 (vector_Dot_ret a b) rfl) ?_
 refine WL_r rfl (r_allocp zp_28 (fun b7 hb7 => ?_))
 refine WL_st (qs := [pI (F_vector_Dot a b)]) rfl ty_28 rfl rfl rfl rfl rfl (.head _) hb7 ?_
 refine WL_nil (hK1 _ _ ?_)
 clear hK1 K1
 refine W_sdr (sk (sk (sk (sk (sk (sk (sk (s0)))))))) (.quiet 0 [2,5,6,9,10,12] (.quiet 1 [2,5,6,9,10,12] (.quiet 2 [5,6,9,10,12] (.quiet 3 [5,6,9,10,12] (.quiet 4 [5,6,9,10,12] (.quiet 5 [6,9,10,12] (.quiet 6 [9,10,12] (.quiet 7 [9,10,12] (.quiet 8 [9,10,12] (.quiet 9 [10,12] (.quiet 10 [12] (.only 11 (.only 12 (.fin)))))))))))))) [0,1,2,3,4,5,6,7,8,9,10,11] mix (by kernel_rfl) (by kernel_rfl) (fun K1 hK1 => ?_)
 refine PL_q rfl rfl (q_loadp ty_23 rfl m6 rfl) ?_
 refine PL_q rfl rfl (q_loadp ty_23 rfl m6 rfl) ?_
 refine PL_q rfl rfl (q_ret en_10 (vector_Dot_ret a a) rfl) ?_
 refine PL_q rfl rfl (q_loadp ty_23 rfl m5 rfl) ?_
 refine PL_q rfl rfl (q_loadp ty_23 rfl m5 rfl) ?_
 refine PL_q rfl rfl (q_ret en_10 (vector_Dot_ret b b) rfl) ?_
 refine PL_q rfl rfl (q_as (v' := AV [pI (E (Z.mul (F_vector_Dot a a).dec (F_vector_Dot b b).dec))]) (q_ret en_34 (skewbackref03_Mul_ret (F_vector_Dot a a).1 (F_vector_Dot b b).1 (F_vector_Dot a a).2 (F_vector_Dot b b).2) rfl) rfl) ?_
 refine PL_q rfl rfl (q_loadp ty_28 rfl m0 rfl) ?_
 refine PL_q rfl rfl (q_loadp ty_28 rfl m0 rfl) ?_
 refine PL_q rfl rfl (q_as (v' := AV [pI (E (Z.mul (F_vector_Dot a b).dec (F_vector_Dot a b).dec))]) (q_ret en_34 (skewbackref03_Mul_ret (F_vector_Dot a b).1 (F_vector_Dot a b).1 (F_vector_Dot a b).2 (F_vector_Dot a b).2) rfl) rfl) ?_
 obtain ⟨r8, hr8⟩ := nm ((E (Z.sub (Z.mul (F_vector_Dot a a).dec (F_vector_Dot b b).dec) (Z.mul (F_vector_Dot a b).dec (F_vector_Dot a b).dec))) : I)
 refine PL_q rfl rfl (q_as (v' := AV [pI r8]) (q_ret en_33 (skewbackref03_Sub_ret (E (Z.mul (F_vector_Dot a a).dec (F_vector_Dot b b).dec)).1 (E (Z.mul (F_vector_Dot a b).dec (F_vector_Dot a b).dec)).1 (E (Z.mul (F_vector_Dot a a).dec (F_vector_Dot b b).dec)).2 (E (Z.mul (F_vector_Dot a b).dec (F_vector_Dot a b).dec)).2) rfl) ((cg2 (fun p q => AV [pI (E (Z.sub p q))]) (E_dec _) (E_dec _)).trans (by rw [hr8]))) ?_
 refine PL_o rfl rfl (r_allocp zp_28 (fun b9 hb9 => ⟨(fun _ => sd s0), (sd s0), ?_⟩))
 refine PL_st rfl (qs := [pI r8]) rfl ty_28 rfl rfl rfl rfl rfl (.head _) hb9 rfl (sd s0) ?_
 refine PL_fin (hK1 _ _ ?_)
 clear hK1 K1
 refine W_seq (fun K_1 hK_1 => ?_)
 refine W_join [39, 40, 41, 42, 43, 44, 45, 46, 47, 48, 49, 50, 51, 52, 53, 54, 55, 56, 57] (fun g M => (g 57 = .bool (!(decide ((F_skewbackref06_DotOf (F_vector_Cross a b) (F_vector_Cross a b)) = r8)) || (!(decide ((F_skewbackref06_DotOf (F_vector_Cross a b) (F_skewbackref06_Wide a)) = (E (Z.of 0)))) || (!(decide ((F_skewbackref06_DotOf (F_vector_Cross a b) (F_skewbackref06_Wide b)) = (E (Z.of 0)))))))) ∧ M = [⟨b9, 28, flat [pI r8]⟩, ⟨b7, 28, flat [pI (F_vector_Dot a b)]⟩, ⟨b6, 28, flat [pI (F_skewbackref06_DotOf (F_vector_Cross a b) (F_vector_Cross a b))]⟩, ⟨b5, 30, flat [pI ((F_vector_Cross b a).x), pI ((F_vector_Cross b a).y), pI ((F_vector_Cross b a).z)]⟩, ⟨b4, 30, flat [pI ((F_vector_Cross a b).x), pI ((F_vector_Cross a b).y), pI ((F_vector_Cross a b).z)]⟩, ⟨b3, 28, flat [pI (E (Z.of 0))]⟩, ⟨b2, 23, flat [ci .i64 b.x.1, ci .i64 b.y.1, ci .i64 b.z.1]⟩, ⟨b1, 23, flat [ci .i64 a.x.1, ci .i64 a.y.1, ci .i64 a.z.1]⟩]) (fun K_2 hK_2 => ?_) ?_
 ·skip
  refine W_draw (sk (sk (sk (sk (sk (sk (sk (sk (s0))))))))) (.quiet 0 [2,3,4,5,6,7,8,9,10,11,12,13,14,15,16,17,18] (.quiet 1 [2,3,4,5,6,7,8,9,10,11,12,13,14,15,16,17,18] (.quiet 2 [3,4,5,6,7,8,9,10,11,12,13,14,15,16,17,18] (.quiet 3 [4,5,6,7,8,9,10,11,12,13,14,15,16,17,18] (.quiet 4 [7,9,10,11,12,13,14,15,16,17,18] (.quiet 5 [6,7,9,10,11,12,13,14,15,16,17,18] (.quiet 6 [7,9,10,11,12,13,14,15,16,17,18] (.quiet 7 [9,10,11,12,13,14,15,16,17,18] (.quiet 8 [9,10,11,12,13,14,15,16,17,18] (.quiet 9 [10,11,12,13,14,15,16,17,18] (.quiet 10 [11,12,13,14,15,16,17,18] (.quiet 11 [12,13,14,15,16,17,18] (.quiet 12 [15,17,18] (.quiet 13 [14,15,17,18] (.quiet 14 [15,17,18] (.quiet 15 [17,18] (.quiet 16 [17,18] (.quiet 17 [18] (.quiet 18 [] (.fin)))))))))))))))))))) [0,1,2,3,4,5,6,7,8,9,10,11,12,13,14,15,16,17,18] mix (by kernel_rfl) (by kernel_rfl) (fun K1 hK1 => ?_)
  refine PL_q rfl rfl (q_loadp ty_28 rfl m2 rfl) ?_
  refine PL_q rfl rfl (q_loadp ty_28 rfl m0 rfl) ?_
  refine PL_q rfl rfl (q_neqa (r := decide ((F_skewbackref06_DotOf (F_vector_Cross a b) (F_vector_Cross a b)) = r8)) rfl rfl (eqOk_of 8 (by decide) eg_28 lw_28 (lv_one lv_pI) (lv_one lv_pI) (eqP_one eq_pI))) ?_
  rcases bt (decide ((F_skewbackref06_DotOf (F_vector_Cross a b) (F_vector_Cross a b)) = r8)) with h12 | h12
  ·skip
   refine PL_q rfl rfl (q_as (v' := .bool false) (q_move rfl) (congrArg Value.bool (not_f h12))) ?_
   refine PL_q rfl rfl (q_loadp ty_30 rfl m4 rfl) ?_
   refine PL_q rfl rfl (q_loadp ty_23 rfl m7 rfl) ?_
   refine PL_q rfl rfl (q_ret en_16 (skewbackref06_Wide_ret a) rfl) ?_
   refine PL_q rfl rfl (q_ret en_18 (skewbackref06_DotOf_ret (F_vector_Cross a b) (F_skewbackref06_Wide a)) rfl) ?_
   refine PL_q rfl rfl (q_loadp ty_28 rfl m5 rfl) ?_
   refine PL_q rfl rfl (q_neqa (r := decide ((F_skewbackref06_DotOf (F_vector_Cross a b) (F_skewbackref06_Wide a)) = (E (Z.of 0)))) rfl rfl (eqOk_of 8 (by decide) eg_28 lw_28 (lv_one lv_pI) (lv_one lv_pI) (eqP_one eq_pI))) ?_
   refine PL_q rfl rfl (q_pick rfl rfl) ?_
   rcases bt (decide ((F_skewbackref06_DotOf (F_vector_Cross a b) (F_skewbackref06_Wide a)) = (E (Z.of 0)))) with h13 | h13
   ·skip
    refine PL_q rfl rfl (q_as (v' := .bool false) (q_move rfl) (congrArg Value.bool (not_f h13))) ?_
    refine PL_q rfl rfl (q_loadp ty_30 rfl m4 rfl) ?_
    refine PL_q rfl rfl (q_loadp ty_23 rfl m6 rfl) ?_
    refine PL_q rfl rfl (q_ret en_16 (skewbackref06_Wide_ret b) rfl) ?_
    refine PL_q rfl rfl (q_ret en_18 (skewbackref06_DotOf_ret (F_vector_Cross a b) (F_skewbackref06_Wide b)) rfl) ?_
    refine PL_q rfl rfl (q_loadp ty_28 rfl m5 rfl) ?_
    refine PL_q rfl rfl (q_neqa (r := decide ((F_skewbackref06_DotOf (F_vector_Cross a b) (F_skewbackref06_Wide b)) = (E (Z.of 0)))) rfl rfl (eqOk_of 8 (by decide) eg_28 lw_28 (lv_one lv_pI) (lv_one lv_pI) (eqP_one eq_pI))) ?_
    refine PL_q rfl rfl (q_pick rfl rfl) ?_
    refine PL_fin (hK1 _ _ ?_)
    clear hK1 K1
    refine hK_2 _ _ (by repeat (first | exact .refl | refine .cons rfl ?_)) ⟨_, s0, ?s57, rfl⟩
    case s57 => exact congrArg Value.bool (nor_t h12 (nor_t h13 rfl))
   ·skip
    refine PL_q rfl rfl (q_as (v' := .bool true) (q_move rfl) (congrArg Value.bool (not_t h13))) ?_
    refine PL_n rfl rfl ?_
    refine PL_n rfl rfl ?_
    refine PL_n rfl rfl ?_
    refine PL_n rfl rfl ?_
    refine PL_n rfl rfl ?_
    refine PL_n rfl rfl ?_
    refine PL_q rfl rfl (q_pick rfl rfl) ?_
    refine PL_fin (hK1 _ _ ?_)
    clear hK1 K1
    refine hK_2 _ _ (by repeat (first | exact .refl | refine .cons rfl ?_)) ⟨_, s0, ?s57, rfl⟩
    case s57 => exact congrArg Value.bool (nor_t h12 (nor_f h13))
  ·skip
   refine PL_q rfl rfl (q_as (v' := .bool true) (q_move rfl) (congrArg Value.bool (not_t h12))) ?_
   refine PL_n rfl rfl ?_
   refine PL_n rfl rfl ?_
   refine PL_n rfl rfl ?_
   refine PL_n rfl rfl ?_
   refine PL_n rfl rfl ?_
   refine PL_n rfl rfl ?_
   refine PL_q rfl rfl (q_pick rfl rfl) ?_
   refine PL_q rfl rfl (q_move rfl) ?_
   refine PL_n rfl rfl ?_
   refine PL_n rfl rfl ?_
   refine PL_n rfl rfl ?_
   refine PL_n rfl rfl ?_
   refine PL_n rfl rfl ?_
   refine PL_n rfl rfl ?_
   refine PL_q rfl rfl (q_pick rfl rfl) ?_
   refine PL_fin (hK1 _ _ ?_)
   clear hK1 K1
   refine hK_2 _ _ (by repeat (first | exact .refl | refine .cons rfl ?_)) ⟨_, s0, ?s57, rfl⟩
   case s57 => exact congrArg Value.bool (nor_f h12)
 ·skip
  rintro g14 M ⟨hg57, rfl⟩
  simp only [setG, hg57]
  clear hg57
  rcases bt (!(decide ((F_skewbackref06_DotOf (F_vector_Cross a b) (F_vector_Cross a b)) = r8)) || (!(decide ((F_skewbackref06_DotOf (F_vector_Cross a b) (F_skewbackref06_Wide a)) = (E (Z.of 0)))) || (!(decide ((F_skewbackref06_DotOf (F_vector_Cross a b) (F_skewbackref06_Wide b)) = (E (Z.of 0))))))) with h15 | h15
  ·skip
   refine W_t h15 rfl ?_
   refine W_sr (fun K1 hK1 => ?_)
   refine WL_q rfl (q_assign rfl) ?_
   refine WL_nil (hK1 _ _ ?_)
   clear hK1 K1
   refine W_ret ?_
   refine thenK_r (ret1 rfl (.inr rfl) rfl ?_)
   exact (by subst hr8; exact congrArg (fun r : Bool => (.bool r : Value)) (show _ = (F_skewbacklaw06_VectorLagrange a b) from bif_t h15 rfl))
  ·skip
   refine W_f h15 rfl ?_
   refine W_skip ?_
   refine hK_1 _ _ ?_
   try clear hK_1 K_1
   refine W_seq (fun K_3 hK_3 => ?_)
   refine W_sr (fun K1 hK1 => ?_)
   refine WL_q rfl (q_assign rfl) ?_
   refine WL_nil (hK1 _ _ ?_)
   clear hK1 K1
   refine W_block ?_
   refine W_un 5 ?_
   refine Un_s (fun K_4 hK_4 => ?_)
   refine W_seq (fun K_5 hK_5 => ?_)
   refine W_sr (fun K1 hK1 => ?_)
   refine WL_q rfl (q_move rfl) ?_
   refine WL_q rfl (q_as (v' := .bool true) (q_lss rfl rfl) rfl) ?_
   refine WL_nil (hK1 _ _ ?_)
   clear hK1 K1
   refine W_true rfl ?_
   refine W_skip ?_
   refine hK_5 _ _ ?_
   try clear hK_5 K_5
   refine W_seq (fun K_6 hK_6 => ?_)
   refine W_block ?_
   refine W_sdr (sk (sk (sk (sk (sk (sk (sk (sk (s0))))))))) (.quiet 0 [1,2,7] (.quiet 1 [2,7] (.quiet 2 [7] (.quiet 3 [4,5,6,7] (.quiet 4 [5,6,7] (.quiet 5 [6,7] (.quiet 6 [7] (.quiet 7 [] (.fin))))))))) [0,1,2,3,4,5,6,7] mix (by kernel_rfl) (by kernel_rfl) (fun K1 hK1 => ?_)
   refine PL_q rfl rfl (q_move rfl) ?_
   refine PL_q rfl rfl (q_ptr (off' := 0) (q_idxa ar_30 rfl rfl (by decide) (by decide)) rfl) ?_
   refine PL_q rfl rfl (q_loadp ty_28 rfl m4 rfl) ?_
   refine PL_q rfl rfl (q_move rfl) ?_
   refine PL_q rfl rfl (q_ptr (off' := 0) (q_idxa ar_30 rfl rfl (by decide) (by decide)) rfl) ?_
   refine PL_q rfl rfl (q_loadp ty_28 rfl m3 rfl) ?_
   refine PL_q rfl rfl (q_as (v' := AV [pI (E (Z.neg ((F_vector_Cross b a).x).dec))]) (q_ret en_35 (skewbackref03_Neg_ret ((F_vector_Cross b a).x).1 ((F_vector_Cross b a).x).2) rfl) rfl) ?_
   refine PL_q rfl rfl (q_neqa (r := decide (((F_vector_Cross a b).x) = (E (Z.neg ((F_vector_Cross b a).x).dec)))) rfl rfl (eqOk_of 8 (by decide) eg_28 lw_28 (lv_one lv_pI) (lv_one lv_pI) (eqP_one eq_pI))) ?_
   refine PL_fin (hK1 _ _ ?_)
   clear hK1 K1
   rcases bt (decide (((F_vector_Cross a b).x) = (E (Z.neg ((F_vector_Cross b a).x).dec)))) with h16 | h16
   ·skip
    refine W_f (not_f h16) rfl ?_
    refine W_skip ?_
    refine hK_6 _ _ ?_
    try clear hK_6 K_6
    refine W_region_k (fun K1 hK1 => ?_)
    refine WL_q rfl (q_move rfl) ?_
    refine WL_q rfl (q_as (v' := .int .i64 1) (q_add rfl rfl) rfl) ?_
    refine WL_q rfl (q_assign rfl) ?_
    refine WL_nil (hK1 _ _ ?_)
    clear hK1 K1
    refine hK_4 _ _ ?_
    try clear hK_4 K_4
    refine Un_s (fun K_7 hK_7 => ?_)
    refine W_seq (fun K_8 hK_8 => ?_)
    refine W_sr (fun K1 hK1 => ?_)
    refine WL_q rfl (q_move rfl) ?_
    refine WL_q rfl (q_as (v' := .bool true) (q_lss rfl rfl) rfl) ?_
    refine WL_nil (hK1 _ _ ?_)
    clear hK1 K1
    refine W_true rfl ?_
    refine W_skip ?_
    refine hK_8 _ _ ?_
    try clear hK_8 K_8
    refine W_seq (fun K_9 hK_9 => ?_)
    refine W_block ?_
    refine W_sdr (sk (sk (sk (sk (sk (sk (sk (sk (s0))))))))) (.quiet 0 [1,2,7] (.quiet 1 [2,7] (.quiet 2 [7] (.quiet 3 [4,5,6,7] (.quiet 4 [5,6,7] (.quiet 5 [6,7] (.quiet 6 [7] (.quiet 7 [] (.fin))))))))) [0,1,2,3,4,5,6,7] mix (by kernel_rfl) (by kernel_rfl) (fun K1 hK1 => ?_)
    refine PL_q rfl rfl (q_move rfl) ?_
    refine PL_q rfl rfl (q_ptr (off' := 18) (q_idxa ar_30 rfl rfl (by decide) (by decide)) rfl) ?_
    refine PL_q rfl rfl (q_loadp ty_28 rfl m4 rfl) ?_
    refine PL_q rfl rfl (q_move rfl) ?_
    refine PL_q rfl rfl (q_ptr (off' := 18) (q_idxa ar_30 rfl rfl (by decide) (by decide)) rfl) ?_
    refine PL_q rfl rfl (q_loadp ty_28 rfl m3 rfl) ?_
    refine PL_q rfl rfl (q_as (v' := AV [pI (E (Z.neg ((F_vector_Cross b a).y).dec))]) (q_ret en_35 (skewbackref03_Neg_ret ((F_vector_Cross b a).y).1 ((F_vector_Cross b a).y).2) rfl) rfl) ?_
    refine PL_q rfl rfl (q_neqa (r := decide (((F_vector_Cross a b).y) = (E (Z.neg ((F_vector_Cross b a).y).dec)))) rfl rfl (eqOk_of 8 (by decide) eg_28 lw_28 (lv_one lv_pI) (lv_one lv_pI) (eqP_one eq_pI))) ?_
    refine PL_fin (hK1 _ _ ?_)
    clear hK1 K1
    rcases bt (decide (((F_vector_Cross a b).y) = (E (Z.neg ((F_vector_Cross b a).y).dec)))) with h17 | h17
    ·skip
     refine W_f (not_f h17) rfl ?_
     refine W_skip ?_
     refine hK_9 _ _ ?_
     try clear hK_9 K_9
     refine W_region_k (fun K1 hK1 => ?_)
     refine WL_q rfl (q_move rfl) ?_
     refine WL_q rfl (q_as (v' := .int .i64 2) (q_add rfl rfl) rfl) ?_
     refine WL_q rfl (q_assign rfl) ?_
     refine WL_nil (hK1 _ _ ?_)
     clear hK1 K1
     refine hK_7 _ _ ?_
     try clear hK_7 K_7
     refine Un_s (fun K_10 hK_10 => ?_)
     refine W_seq (fun K_11 hK_11 => ?_)
     refine W_sr (fun K1 hK1 => ?_)
     refine WL_q rfl (q_move rfl) ?_
     refine WL_q rfl (q_as (v' := .bool true) (q_lss rfl rfl) rfl) ?_
     refine WL_nil (hK1 _ _ ?_)
     clear hK1 K1
     refine W_true rfl ?_
     refine W_skip ?_
     refine hK_11 _ _ ?_
     try clear hK_11 K_11
     refine W_seq (fun K_12 hK_12 => ?_)
     refine W_block ?_
     refine W_sdr (sk (sk (sk (sk (sk (sk (sk (sk (s0))))))))) (.quiet 0 [1,2,7] (.quiet 1 [2,7] (.quiet 2 [7] (.quiet 3 [4,5,6,7] (.quiet 4 [5,6,7] (.quiet 5 [6,7] (.quiet 6 [7] (.quiet 7 [] (.fin))))))))) [0,1,2,3,4,5,6,7] mix (by kernel_rfl) (by kernel_rfl) (fun K1 hK1 => ?_)
     refine PL_q rfl rfl (q_move rfl) ?_
     refine PL_q rfl rfl (q_ptr (off' := 36) (q_idxa ar_30 rfl rfl (by decide) (by decide)) rfl) ?_
     refine PL_q rfl rfl (q_loadp ty_28 rfl m4 rfl) ?_
     refine PL_q rfl rfl (q_move rfl) ?_
     refine PL_q rfl rfl (q_ptr (off' := 36) (q_idxa ar_30 rfl rfl (by decide) (by decide)) rfl) ?_
     refine PL_q rfl rfl (q_loadp ty_28 rfl m3 rfl) ?_
     refine PL_q rfl rfl (q_as (v' := AV [pI (E (Z.neg ((F_vector_Cross b a).z).dec))]) (q_ret en_35 (skewbackref03_Neg_ret ((F_vector_Cross b a).z).1 ((F_vector_Cross b a).z).2) rfl) rfl) ?_
     refine PL_q rfl rfl (q_neqa (r := decide (((F_vector_Cross a b).z) = (E (Z.neg ((F_vector_Cross b a).z).dec)))) rfl rfl (eqOk_of 8 (by decide) eg_28 lw_28 (lv_one lv_pI) (lv_one lv_pI) (eqP_one eq_pI))) ?_
     refine PL_fin (hK1 _ _ ?_)
     clear hK1 K1
     rcases bt (decide (((F_vector_Cross a b).z) = (E (Z.neg ((F_vector_Cross b a).z).dec)))) with h18 | h18
     ·skip
      refine W_f (not_f h18) rfl ?_
      refine W_skip ?_
      refine hK_12 _ _ ?_
      try clear hK_12 K_12
      refine W_region_k (fun K1 hK1 => ?_)
      refine WL_q rfl (q_move rfl) ?_
      refine WL_q rfl (q_as (v' := .int .i64 3) (q_add rfl rfl) rfl) ?_
      refine WL_q rfl (q_assign rfl) ?_
      refine WL_nil (hK1 _ _ ?_)
      clear hK1 K1
      refine hK_10 _ _ ?_
      try clear hK_10 K_10
      refine Un_s (fun K_13 hK_13 => ?_)
      refine W_seq (fun K_14 hK_14 => ?_)
      refine W_sr (fun K1 hK1 => ?_)
      refine WL_q rfl (q_move rfl) ?_
      refine WL_q rfl (q_as (v' := .bool false) (q_lss rfl rfl) rfl) ?_
      refine WL_nil (hK1 _ _ ?_)
      clear hK1 K1
      refine W_false rfl ?_
      refine W_exit (thenK_x (thenK_x (blockK_hit ?_)))
      refine hK_3 _ _ ?_
      try clear hK_3 K_3
      refine W_sdr (sk (sk (sk (sk (sk (sk (sk (sk (s0))))))))) (.quiet 0 [1,3,4,6] (.quiet 1 [3,4,6] (.quiet 2 [3,4,6] (.quiet 3 [4,6] (.quiet 4 [6] (.only 5 (.only 6 (.fin)))))))) [0,1,2,3,4,5] mix (by kernel_rfl) (by kernel_rfl) (fun K1 hK1 => ?_)
      refine PL_q rfl rfl (q_loadp ty_23 rfl m7 rfl) ?_
      obtain ⟨r19, hr19⟩ := nm ((F_vector_Of a) : (A3 Rt))
      refine PL_q rfl rfl (q_as (v' := AV [pI r19.x.n, pI r19.x.d, pI r19.y.n, pI r19.y.d, pI r19.z.n, pI r19.z.d]) (q_ret en_37 (vector_Of_ret a) rfl) (by rw [hr19]; first | done | rfl)) ?_
      refine PL_q rfl rfl (q_loadp ty_23 rfl m6 rfl) ?_
      obtain ⟨r20, hr20⟩ := nm ((F_vector_Of b) : (A3 Rt))
      refine PL_q rfl rfl (q_as (v' := AV [pI r20.x.n, pI r20.x.d, pI r20.y.n, pI r20.y.d, pI r20.z.n, pI r20.z.d]) (q_ret en_37 (vector_Of_ret b) rfl) (by rw [hr20]; first | done | rfl)) ?_
      obtain ⟨r21, hr21⟩ := nm ((F_vector_Outer r19 r20) : (A3 Rt))
      refine PL_q rfl rfl (q_as (v' := AV [pI r21.x.n, pI r21.x.d, pI r21.y.n, pI r21.y.d, pI r21.z.n, pI r21.z.d]) (q_ret en_36 (vector_Outer_ret r19 r20) rfl) (by rw [hr21]; first | done | rfl)) ?_
      refine PL_o rfl rfl (r_allocp zp_57 (fun b22 hb22 => ⟨(fun _ => sd s0), (sd s0), ?_⟩))
      refine PL_st rfl (qs := [pI r21.x.n, pI r21.x.d, pI r21.y.n, pI r21.y.d, pI r21.z.n, pI r21.z.d]) rfl ty_57 rfl rfl rfl rfl rfl (.head _) hb22 rfl (sd s0) ?_
      refine PL_fin (hK1 _ _ ?_)
      clear hK1 K1
      refine W_sdr (sk (sk (sk (sk (sk (sk (sk (sk (sk (s0)))))))))) (.quiet 0 [1,3,4,6] (.quiet 1 [3,4,6] (.quiet 2 [3,4,6] (.quiet 3 [4,6] (.quiet 4 [6] (.only 5 (.only 6 (.fin)))))))) [0,1,2,3,4,5] mix (by kernel_rfl) (by kernel_rfl) (fun K1 hK1 => ?_)
      refine PL_q rfl rfl (q_loadp ty_23 rfl m8 rfl) ?_
      obtain ⟨r23, hr23⟩ := nm ((F_vector_Of a) : (A3 Rt))
      refine PL_q rfl rfl (q_as (v' := AV [pI r23.x.n, pI r23.x.d, pI r23.y.n, pI r23.y.d, pI r23.z.n, pI r23.z.d]) (q_ret en_37 (vector_Of_ret a) rfl) (by rw [hr23]; first | done | rfl)) ?_
      refine PL_q rfl rfl (q_loadp ty_23 rfl m7 rfl) ?_
      obtain ⟨r24, hr24⟩ := nm ((F_vector_Of b) : (A3 Rt))
      refine PL_q rfl rfl (q_as (v' := AV [pI r24.x.n, pI r24.x.d, pI r24.y.n, pI r24.y.d, pI r24.z.n, pI r24.z.d]) (q_ret en_37 (vector_Of_ret b) rfl) (by rw [hr24]; first | done | rfl)) ?_
      refine PL_q rfl rfl (q_ret en_38 (vector_Inner_ret r23 r24) rfl) ?_
      refine PL_o rfl rfl (r_allocp zp_55 (fun b25 hb25 => ⟨(fun _ => sd s0), (sd s0), ?_⟩))
      refine PL_st rfl (qs := [pI ((F_vector_Inner r23 r24).n), pI ((F_vector_Inner r23 r24).d)]) rfl ty_55 rfl rfl rfl rfl rfl (.head _) hb25 rfl (sd s0) ?_
      refine PL_fin (hK1 _ _ ?_)
      clear hK1 K1
      refine W_sr (fun K1 hK1 => ?_)
      refine WL_q rfl (q_as (v' := AV [pI (E (Z.of 1))]) (q_ret en_22 (skewbackref03_Of_ret (wl 1).1 (wl 1).2) rfl) rfl) ?_
      refine WL_r rfl (r_allocp zp_28 (fun b26 hb26 => ?_))
      refine WL_st (qs := [pI (E (Z.of 1))]) rfl ty_28 rfl rfl rfl rfl rfl (.head _) hb26 ?_
      refine WL_nil (hK1 _ _ ?_)
      clear hK1 K1
      refine W_join [4, 81, 82, 83, 84, 85, 86, 87, 88, 89, 90, 91, 92, 93, 94, 95, 96, 97, 98, 99, 100, 101, 102, 103, 104, 105, 106, 107, 108, 109, 110, 111, 112, 113] (fun g M => (g 4 = .bool (F_skewbacklaw06_sanity && ((decide (((F_vector_Inner r23 r24).n) = (F_vector_Dot a b)) && decide (((F_vector_Inner r23 r24).d) = (E (Z.of 1)))) && ((decide (r21.x.n = ((F_vector_Cross a b).x)) && (decide (r21.x.d = (E (Z.of 1))) && (decide (r21.y.n = ((F_vector_Cross a b).y)) && (decide (r21.y.d = (E (Z.of 1))) && (decide (r21.z.n = ((F_vector_Cross a b).z)) && decide (r21.z.d = (E (Z.of 1)))))))) && (decide (((F_vector_Side a (F_vector_Of b)).n) = ((F_vector_Inner r23 r24).n)) && decide (((F_vector_Side a (F_vector_Of b)).d) = ((F_vector_Inner r23 r24).d))))))) ∧ M = [⟨b26, 28, flat [pI (E (Z.of 1))]⟩, ⟨b25, 55, flat [pI ((F_vector_Inner r23 r24).n), pI ((F_vector_Inner r23 r24).d)]⟩, ⟨b22, 57, flat [pI r21.x.n, pI r21.x.d, pI r21.y.n, pI r21.y.d, pI r21.z.n, pI r21.z.d]⟩, ⟨b9, 28, flat [pI r8]⟩, ⟨b7, 28, flat [pI (F_vector_Dot a b)]⟩, ⟨b6, 28, flat [pI (F_skewbackref06_DotOf (F_vector_Cross a b) (F_vector_Cross a b))]⟩, ⟨b5, 30, flat [pI ((F_vector_Cross b a).x), pI ((F_vector_Cross b a).y), pI ((F_vector_Cross b a).z)]⟩, ⟨b4, 30, flat [pI ((F_vector_Cross a b).x), pI ((F_vector_Cross a b).y), pI ((F_vector_Cross a b).z)]⟩, ⟨b3, 28, flat [pI (E (Z.of 0))]⟩, ⟨b2, 23, flat [ci .i64 b.x.1, ci .i64 b.y.1, ci .i64 b.z.1]⟩, ⟨b1, 23, flat [ci .i64 a.x.1, ci .i64 a.y.1, ci .i64 a.z.1]⟩]) (fun K_15 hK_15 => ?_) ?_
      ·skip
       refine W_draw (sk (sk (sk (sk (sk (sk (sk (sk (sk (sk (sk (s0)))))))))))) (.quiet 0 [1,2,3,4,5,6,7,8,9,10,11,12,13,14,15,16,17,18,19,20,21,22,23,24,25,26,27,28,29,30,31,32,33] (.quiet 1 [2,3,4,5,6,7,8,9,10,11,12,13,14,15,16,17,18,19,20,21,22,23,24,25,26,27,28,29,30,31,32,33] (.quiet 2 [6,7,8,9,10,11,12,13,14,15,16,17,18,19,20,21,22,23,24,25,26,27,28,29,30,31,32,33] (.quiet 3 [5,6,7,8,9,10,11,12,13,14,15,16,17,18,19,20,21,22,23,24,25,26,27,28,29,30,31,32,33] (.quiet 4 [5,6,7,8,9,10,11,12,13,14,15,16,17,18,19,20,21,22,23,24,25,26,27,28,29,30,31,32,33] (.quiet 5 [6,7,8,9,10,11,12,13,14,15,16,17,18,19,20,21,22,23,24,25,26,27,28,29,30,31,32,33] (.quiet 6 [7,8,9,10,11,12,13,14,15,16,17,18,19,20,21,22,23,24,25,26,27,28,29,30,31,32,33] (.quiet 7 [8,9,10,11,12,13,14,15,16,17,18,19,20,21,22,23,24,25,26,27,28,29,30,31,32,33] (.quiet 8 [9,10,11,12,13,14,15,16,17,18,19,20,21,22,23,24,25,26,27,28,29,30,31,32,33] (.quiet 9 [23,24,25,26,27,28,29,30,31,32,33] (.quiet 10 [11,13,22,23,24,25,26,27,28,29,30,31,32,33] (.quiet 11 [13,22,23,24,25,26,27,28,29,30,31,32,33] (.quiet 12 [13,22,23,24,25,26,27,28,29,30,31,32,33] (.quiet 13 [22,23,24,25,26,27,28,29,30,31,32,33] (.quiet 14 [15,17,22,23,24,25,26,27,28,29,30,31,32,33] (.quiet 15 [17,22,23,24,25,26,27,28,29,30,31,32,33] (.quiet 16 [17,22,23,24,25,26,27,28,29,30,31,32,33] (.quiet 17 [22,23,24,25,26,27,28,29,30,31,32,33] (.quiet 18 [19,21,22,23,24,25,26,27,28,29,30,31,32,33] (.quiet 19 [21,22,23,24,25,26,27,28,29,30,31,32,33] (.quiet 20 [21,22,23,24,25,26,27,28,29,30,31,32,33] (.quiet 21 [22,23,24,25,26,27,28,29,30,31,32,33] (.quiet 22 [23,24,25,26,27,28,29,30,31,32,33] (.quiet 23 [24,25,26,27,28,29,30,31,32,33] (.quiet 24 [25,26,27,28,29,30,31,32,33] (.quiet 25 [26,27,28,29,30,31,32,33] (.quiet 26 [29,31,32,33] (.quiet 27 [28,29,31,32,33] (.quiet 28 [29,31,32,33] (.quiet 29 [31,32,33] (.quiet 30 [31,32,33] (.quiet 31 [32,33] (.quiet 32 [33] (.quiet 33 [] (.fin))))))))))))))))))))))))))))))))))) [0,1,2,3,4,5,6,7,8,9,10,11,12,13,14,15,16,17,18,19,20,21,22,23,24,25,26,27,28,29,30,31,32,33] mix (by kernel_rfl) (by kernel_rfl) (fun K1 hK1 => ?_)
       refine PL_q rfl rfl (q_ret en_9 skewbacklaw06_sanity_ret  rfl) ?_
       rcases bt F_skewbacklaw06_sanity with h30 | h30
       ·skip
        refine PL_q rfl rfl (q_as (v' := .bool true) (q_move rfl) (congrArg Value.bool h30)) ?_
        refine PL_q rfl rfl (q_loadp ty_55 rfl m1 rfl) ?_
        refine PL_q rfl rfl (q_loadp ty_28 rfl m4 rfl) ?_
        refine PL_q rfl rfl (q_loadp ty_28 rfl m0 rfl) ?_
        refine PL_q rfl rfl (q_buildsp zp_55 pl_55 rfl (.cons [pI (F_vector_Dot a b)] [pI (F_vector_Dot a b), pI I0] rfl rfl rfl rfl (.cons [pI (E (Z.of 1))] [pI (F_vector_Dot a b), pI (E (Z.of 1))] rfl rfl rfl rfl (.nil _)))) ?_
        refine PL_q rfl rfl (q_eqla (r := (decide (((F_vector_Inner r23 r24).n) = (F_vector_Dot a b)) && decide (((F_vector_Inner r23 r24).d) = (E (Z.of 1))))) rfl rfl (eqOk_of 8 (by decide) eg_55 lw_55 (lv_cons lv_pI (lv_one lv_pI)) (lv_cons lv_pI (lv_one lv_pI)) (eqP_cons rfl eq_pI (eqP_one eq_pI)))) ?_
        refine PL_q rfl rfl (q_pick rfl rfl) ?_
        rcases bt (decide (((F_vector_Inner r23 r24).n) = (F_vector_Dot a b)) && decide (((F_vector_Inner r23 r24).d) = (E (Z.of 1)))) with h31 | h31
        ·skip
         refine PL_q rfl rfl (q_as (v' := .bool true) (q_move rfl) (congrArg Value.bool h31)) ?_
         refine PL_q rfl rfl (q_loadp ty_57 rfl m2 rfl) ?_
         refine PL_q rfl rfl (q_ptr (off' := 0) (q_idxa ar_30 rfl rfl (by decide) (by decide)) rfl) ?_
         refine PL_q rfl rfl (q_loadp ty_28 rfl m7 rfl) ?_
         refine PL_q rfl rfl (q_loadp ty_28 rfl m0 rfl) ?_
         refine PL_q rfl rfl (q_buildsp zp_55 pl_55 rfl (.cons [pI ((F_vector_Cross a b).x)] [pI ((F_vector_Cross a b).x), pI I0] rfl rfl rfl rfl (.cons [pI (E (Z.of 1))] [pI ((F_vector_Cross a b).x), pI (E (Z.of 1))] rfl rfl rfl rfl (.nil _)))) ?_
         refine PL_q rfl rfl (q_ptr (off' := 18) (q_idxa ar_30 rfl rfl (by decide) (by decide)) rfl) ?_
         refine PL_q rfl rfl (q_loadp ty_28 rfl m7 rfl) ?_
         refine PL_q rfl rfl (q_loadp ty_28 rfl m0 rfl) ?_
         refine PL_q rfl rfl (q_buildsp zp_55 pl_55 rfl (.cons [pI ((F_vector_Cross a b).y)] [pI ((F_vector_Cross a b).y), pI I0] rfl rfl rfl rfl (.cons [pI (E (Z.of 1))] [pI ((F_vector_Cross a b).y), pI (E (Z.of 1))] rfl rfl rfl rfl (.nil _)))) ?_
         refine PL_q rfl rfl (q_ptr (off' := 36) (q_idxa ar_30 rfl rfl (by decide) (by decide)) rfl) ?_
         refine PL_q rfl rfl (q_loadp ty_28 rfl m7 rfl) ?_
         refine PL_q rfl rfl (q_loadp ty_28 rfl m0 rfl) ?_
         refine PL_q rfl rfl (q_buildsp zp_55 pl_55 rfl (.cons [pI ((F_vector_Cross a b).z)] [pI ((F_vector_Cross a b).z), pI I0] rfl rfl rfl rfl (.cons [pI (E (Z.of 1))] [pI ((F_vector_Cross a b).z), pI (E (Z.of 1))] rfl rfl rfl rfl (.nil _)))) ?_
         refine PL_q rfl rfl (q_buildap zp_57 ar_57 rfl (.cons [pI ((F_vector_Cross a b).x), pI (E (Z.of 1))] [pI ((F_vector_Cross a b).x), pI (E (Z.of 1)), pI I0, pI I0, pI I0, pI I0] rfl rfl rfl rfl (.cons [pI ((F_vector_Cross a b).y), pI (E (Z.of 1))] [pI ((F_vector_Cross a b).x), pI (E (Z.of 1)), pI ((F_vector_Cross a b).y), pI (E (Z.of 1)), pI I0, pI I0] rfl rfl rfl rfl (.cons [pI ((F_vector_Cross a b).z), pI (E (Z.of 1))] [pI ((F_vector_Cross a b).x), pI (E (Z.of 1)), pI ((F_vector_Cross a b).y), pI (E (Z.of 1)), pI ((F_vector_Cross a b).z), pI (E (Z.of 1))] rfl rfl rfl rfl (.nil _))))) ?_
         refine PL_q rfl rfl (q_eqla (r := (decide (r21.x.n = ((F_vector_Cross a b).x)) && (decide (r21.x.d = (E (Z.of 1))) && (decide (r21.y.n = ((F_vector_Cross a b).y)) && (decide (r21.y.d = (E (Z.of 1))) && (decide (r21.z.n = ((F_vector_Cross a b).z)) && decide (r21.z.d = (E (Z.of 1))))))))) rfl rfl (eqOk_of 8 (by decide) eg_57 lw_57 (lv_cons lv_pI (lv_cons lv_pI (lv_cons lv_pI (lv_cons lv_pI (lv_cons lv_pI (lv_one lv_pI)))))) (lv_cons lv_pI (lv_cons lv_pI (lv_cons lv_pI (lv_cons lv_pI (lv_cons lv_pI (lv_one lv_pI)))))) (eqP_cons rfl eq_pI (eqP_cons rfl eq_pI (eqP_cons rfl eq_pI (eqP_cons rfl eq_pI (eqP_cons rfl eq_pI (eqP_one eq_pI)))))))) ?_
         refine PL_q rfl rfl (q_pick rfl rfl) ?_
         rcases bt (decide (r21.x.n = ((F_vector_Cross a b).x)) && (decide (r21.x.d = (E (Z.of 1))) && (decide (r21.y.n = ((F_vector_Cross a b).y)) && (decide (r21.y.d = (E (Z.of 1))) && (decide (r21.z.n = ((F_vector_Cross a b).z)) && decide (r21.z.d = (E (Z.of 1)))))))) with h32 | h32
         ·skip
          refine PL_q rfl rfl (q_as (v' := .bool true) (q_move rfl) (congrArg Value.bool h32)) ?_
          refine PL_q rfl rfl (q_loadp ty_23 rfl m10 rfl) ?_
          refine PL_q rfl rfl (q_loadp ty_23 rfl m9 rfl) ?_
          refine PL_q rfl rfl (q_ret en_37 (vector_Of_ret b) rfl) ?_
          refine PL_q rfl rfl (q_ret en_39 (vector_Side_ret a (F_vector_Of b)) rfl) ?_
          refine PL_q rfl rfl (q_loadp ty_55 rfl m1 rfl) ?_
          refine PL_q rfl rfl (q_eqla (r := (decide (((F_vector_Side a (F_vector_Of b)).n) = ((F_vector_Inner r23 r24).n)) && decide (((F_vector_Side a (F_vector_Of b)).d) = ((F_vector_Inner r23 r24).d)))) rfl rfl (eqOk_of 8 (by decide) eg_55 lw_55 (lv_cons lv_pI (lv_one lv_pI)) (lv_cons lv_pI (lv_one lv_pI)) (eqP_cons rfl eq_pI (eqP_one eq_pI)))) ?_
          refine PL_q rfl rfl (q_pick rfl rfl) ?_
          refine PL_q rfl rfl (q_assign rfl) ?_
          refine PL_fin (hK1 _ _ ?_)
          clear hK1 K1
          refine hK_15 _ _ (by repeat (first | exact .refl | refine .cons rfl ?_)) ⟨_, s0, ?s4, rfl⟩
          case s4 => exact congrArg Value.bool (and_t h30 (and_t h31 (and_t h32 rfl)))
         ·skip
          refine PL_q rfl rfl (q_as (v' := .bool false) (q_move rfl) (congrArg Value.bool h32)) ?_
          refine PL_n rfl rfl ?_
          refine PL_n rfl rfl ?_
          refine PL_n rfl rfl ?_
          refine PL_n rfl rfl ?_
          refine PL_n rfl rfl ?_
          refine PL_n rfl rfl ?_
          refine PL_q rfl rfl (q_pick rfl rfl) ?_
          refine PL_q rfl rfl (q_assign rfl) ?_
          refine PL_fin (hK1 _ _ ?_)
          clear hK1 K1
          refine hK_15 _ _ (by repeat (first | exact .refl | refine .cons rfl ?_)) ⟨_, s0, ?s4, rfl⟩
          case s4 => exact congrArg Value.bool (and_t h30 (and_t h31 (and_f h32)))
        ·skip
         refine PL_q rfl rfl (q_as (v' := .bool false) (q_move rfl) (congrArg Value.bool h31)) ?_
         refine PL_n rfl rfl ?_
         refine PL_n rfl rfl ?_
         refine PL_n rfl rfl ?_
         refine PL_n rfl rfl ?_
         refine PL_n rfl rfl ?_
         refine PL_n rfl rfl ?_
         refine PL_n rfl rfl ?_
         refine PL_n rfl rfl ?_
         refine PL_n rfl rfl ?_
         refine PL_n rfl rfl ?_
         refine PL_n rfl rfl ?_
         refine PL_n rfl rfl ?_
         refine PL_n rfl rfl ?_
         refine PL_n rfl rfl ?_
         refine PL_n rfl rfl ?_
         refine PL_q rfl rfl (q_pick rfl rfl) ?_
         refine PL_q rfl rfl (q_move rfl) ?_
         refine PL_n rfl rfl ?_
         refine PL_n rfl rfl ?_
         refine PL_n rfl rfl ?_
         refine PL_n rfl rfl ?_
         refine PL_n rfl rfl ?_
         refine PL_n rfl rfl ?_
         refine PL_q rfl rfl (q_pick rfl rfl) ?_
         refine PL_q rfl rfl (q_assign rfl) ?_
         refine PL_fin (hK1 _ _ ?_)
         clear hK1 K1
         refine hK_15 _ _ (by repeat (first | exact .refl | refine .cons rfl ?_)) ⟨_, s0, ?s4, rfl⟩
         case s4 => exact congrArg Value.bool (and_t h30 (and_f h31))
       ·skip
        refine PL_q rfl rfl (q_as (v' := .bool false) (q_move rfl) (congrArg Value.bool h30)) ?_
        refine PL_n rfl rfl ?_
        refine PL_n rfl rfl ?_
        refine PL_n rfl rfl ?_
        refine PL_n rfl rfl ?_
        refine PL_n rfl rfl ?_
        refine PL_q rfl rfl (q_pick rfl rfl) ?_
        refine PL_q rfl rfl (q_move rfl) ?_
        refine PL_n rfl rfl ?_
        refine PL_n rfl rfl ?_
        refine PL_n rfl rfl ?_
        refine PL_n rfl rfl ?_
        refine PL_n rfl rfl ?_
        refine PL_n rfl rfl ?_
        refine PL_n rfl rfl ?_
        refine PL_n rfl rfl ?_
        refine PL_n rfl rfl ?_
        refine PL_n rfl rfl ?_
        refine PL_n rfl rfl ?_
        refine PL_n rfl rfl ?_
        refine PL_n rfl rfl ?_
        refine PL_n rfl rfl ?_
        refine PL_n rfl rfl ?_
        refine PL_q rfl rfl (q_pick rfl rfl) ?_
        refine PL_q rfl rfl (q_move rfl) ?_
        refine PL_n rfl rfl ?_
        refine PL_n rfl rfl ?_
        refine PL_n rfl rfl ?_
        refine PL_n rfl rfl ?_
        refine PL_n rfl rfl ?_
        refine PL_n rfl rfl ?_
        refine PL_q rfl rfl (q_pick rfl rfl) ?_
        refine PL_q rfl rfl (q_assign rfl) ?_
        refine PL_fin (hK1 _ _ ?_)
        clear hK1 K1
        refine hK_15 _ _ (by repeat (first | exact .refl | refine .cons rfl ?_)) ⟨_, s0, ?s4, rfl⟩
        case s4 => exact congrArg Value.bool (and_f h30)
      ·skip
       rintro g33 M ⟨hg4, rfl⟩
       simp only [setG, hg4]
       clear hg4
       refine W_ret ?_
       refine ret1 rfl (.inr rfl) rfl ?_
       exact (by subst hr24; subst hr23; subst hr21; subst hr20; subst hr19; subst hr8; exact congrArg (fun r : Bool => (.bool r : Value)) (show _ = (F_skewbacklaw06_VectorLagrange a b) from bif_f h15 (bif_t h16 (bif_t h17 (bif_t h18 rfl)))))
     ·skip
      refine W_t (not_t h18) rfl ?_
      refine W_sr (fun K1 hK1 => ?_)
      refine WL_q rfl (q_assign rfl) ?_
      refine WL_nil (hK1 _ _ ?_)
      clear hK1 K1
      refine W_ret ?_
      refine blockK_r (thenK_r (thenK_r (blockK_r (thenK_r (ret1 rfl (.inr rfl) rfl ?_)))))
      exact (by subst hr8; exact congrArg (fun r : Bool => (.bool r : Value)) (show _ = (F_skewbacklaw06_VectorLagrange a b) from bif_f h15 (bif_t h16 (bif_t h17 (bif_f h18 rfl)))))
    ·skip
     refine W_t (not_t h17) rfl ?_
     refine W_sr (fun K1 hK1 => ?_)
     refine WL_q rfl (q_assign rfl) ?_
     refine WL_nil (hK1 _ _ ?_)
     clear hK1 K1
     refine W_ret ?_
     refine blockK_r (thenK_r (thenK_r (blockK_r (thenK_r (ret1 rfl (.inr rfl) rfl ?_)))))
     exact (by subst hr8; exact congrArg (fun r : Bool => (.bool r : Value)) (show _ = (F_skewbacklaw06_VectorLagrange a b) from bif_f h15 (bif_t h16 (bif_f h17 rfl))))
   ·skip
    refine W_t (not_t h16) rfl ?_
    refine W_sr (fun K1 hK1 => ?_)
    refine WL_q rfl (q_assign rfl) ?_
    refine WL_nil (hK1 _ _ ?_)
    clear hK1 K1
    refine W_ret ?_
    refine blockK_r (thenK_r (thenK_r (blockK_r (thenK_r (ret1 rfl (.inr rfl) rfl ?_)))))
    exact (by subst hr8; exact congrArg (fun r : Bool => (.bool r : Value)) (show _ = (F_skewbacklaw06_VectorLagrange a b) from bif_f h15 (bif_f h16 rfl)))
end Go.Proofs.Ythbjhbmpfeeilaa
