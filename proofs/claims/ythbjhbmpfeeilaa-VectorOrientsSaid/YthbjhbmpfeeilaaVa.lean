/- Walks: what these functions return. -/
import Derived.Test.YthbjhbmpfeeilaaFa0
import Derived.Test.YthbjhbmpfeeilaaFn
import Derived.Test.YthbjhbmpfeeilaaWc
import Derived.Test.YthbjhbmpfeeilaaWe
import Derived.Test.YthbjhbmpfeeilaaWh
import Derived.Test.YthbjhbmpfeeilaaWi
namespace Go.Proofs.Ythbjhbmpfeeilaa
open Go.Kn Go.Num
set_option linter.unusedVariables false
set_option linter.unusedSimpArgs false
set_option maxRecDepth 20000
set_option maxHeartbeats 8000000
theorem vector_Add_ret (a : (A3 W)) (b : (A3 W)) :
    Ret Try.prog 26 [AV [ci .i64 a.x.1, ci .i64 a.y.1, ci .i64 a.z.1], AV [ci .i64 b.x.1, ci .i64 b.y.1, ci .i64 b.z.1]] (AV [ci .i64 (((F_vector_Add a b).x).1), ci .i64 (((F_vector_Add a b).y).1), ci .i64 (((F_vector_Add a b).z).1)]) := by
 refine ret_of_W (N := 19) Try.func26 rfl rfl (by simp) (fun w0 => ?_)
 simp only [initF, Nat.reduceAdd]
 refine W_sr (fun K1 hK1 => ?_)
 refine WL_r rfl (r_boxp rfl rfl (fun b1 hb1 => ?_))
 refine WL_r rfl (r_boxp rfl rfl (fun b2 hb2 => ?_))
 refine WL_r rfl (r_allocp zp_23 (fun b3 hb3 => ?_))
 refine WL_nil (hK1 _ _ ?_)
 clear hK1 K1
 refine W_seq (fun K_1 hK_1 => ?_)
 refine W_sr (fun K1 hK1 => ?_)
 refine WL_q rfl (q_move rfl) ?_
 refine WL_nil (hK1 _ _ ?_)
 clear hK1 K1
 refine W_block ?_
 refine W_un 5 ?_
 refine Un_s (fun K_2 hK_2 => ?_)
 refine W_sr (fun K1 hK1 => ?_)
 refine WL_q rfl (q_as (v' := .bool true) (q_lss rfl rfl) rfl) ?_
 refine WL_nil (hK1 _ _ ?_)
 clear hK1 K1
 refine W_seq (fun K_3 hK_3 => ?_)
 refine W_true rfl ?_
 refine W_skip ?_
 refine hK_3 _ _ ?_
 try clear hK_3 K_3
 refine W_seq (fun K_4 hK_4 => ?_)
 refine W_block ?_
 refine W_sr (fun K1 hK1 => ?_)
 refine WL_q rfl (q_move rfl) ?_
 refine WL_q rfl (q_assign rfl) ?_
 refine WL_nil (hK1 _ _ ?_)
 clear hK1 K1
 refine W_draw (sk (sk (sd (s0)))) (.quiet 0 [1,2,6,7,8] (.quiet 1 [2,6,7,8] (.quiet 2 [6,7,8] (.quiet 3 [4,5,6,7,8] (.quiet 4 [5,6,7,8] (.quiet 5 [6,7,8] (.quiet 6 [7,8] (.quiet 7 [8] (.only 8 (.fin)))))))))) [0,1,2,3,4,5,6,7] mix (by kernel_rfl) (by kernel_rfl) (fun K1 hK1 => ?_)
 refine PL_q rfl rfl (q_move rfl) ?_
 refine PL_q rfl rfl (q_ptr (off' := 0) (q_idxa ar_23 rfl rfl (by decide) (by decide)) rfl) ?_
 refine PL_q rfl rfl (q_loadc (v := .int .i64 a.x.1) ty_3 rfl m2 rfl) ?_
 refine PL_q rfl rfl (q_move rfl) ?_
 refine PL_q rfl rfl (q_ptr (off' := 0) (q_idxa ar_23 rfl rfl (by decide) (by decide)) rfl) ?_
 refine PL_q rfl rfl (q_loadc (v := .int .i64 b.x.1) ty_3 rfl m1 rfl) ?_
 refine PL_q rfl rfl (q_as (v' := .int .i64 ((W.add a.x b.x).1)) (q_add rfl rfl) rfl) ?_
 refine PL_q rfl rfl (q_ptr (off' := 0) (q_idxa ar_23 rfl rfl (by decide) (by decide)) rfl) ?_
 refine PL_st rfl (qs := [ci .i64 ((W.add a.x b.x).1)]) rfl ty_3 rfl rfl rfl rfl rfl (.tail _ (.tail _ (.head _))) hb1 rfl (sk (sk (sd s0))) ?_
 refine PL_fin (hK1 _ _ ?_)
 clear hK1 K1
 refine hK_4 _ _ ?_
 try clear hK_4 K_4
 refine W_region_k (fun K1 hK1 => ?_)
 refine WL_q rfl (q_as (v' := .int .i64 1) (q_add rfl rfl) rfl) ?_
 refine WL_q rfl (q_move rfl) ?_
 refine WL_nil (hK1 _ _ ?_)
 clear hK1 K1
 refine hK_2 _ _ ?_
 try clear hK_2 K_2
 refine Un_s (fun K_5 hK_5 => ?_)
 refine W_sr (fun K1 hK1 => ?_)
 refine WL_q rfl (q_as (v' := .bool true) (q_lss rfl rfl) rfl) ?_
 refine WL_nil (hK1 _ _ ?_)
 clear hK1 K1
 refine W_seq (fun K_6 hK_6 => ?_)
 refine W_true rfl ?_
 refine W_skip ?_
 refine hK_6 _ _ ?_
 try clear hK_6 K_6
 refine W_seq (fun K_7 hK_7 => ?_)
 refine W_block ?_
 refine W_sr (fun K1 hK1 => ?_)
 refine WL_q rfl (q_move rfl) ?_
 refine WL_q rfl (q_assign rfl) ?_
 refine WL_nil (hK1 _ _ ?_)
 clear hK1 K1
 refine W_draw (sk (sk (sd (s0)))) (.quiet 0 [1,2,6,7,8] (.quiet 1 [2,6,7,8] (.quiet 2 [6,7,8] (.quiet 3 [4,5,6,7,8] (.quiet 4 [5,6,7,8] (.quiet 5 [6,7,8] (.quiet 6 [7,8] (.quiet 7 [8] (.only 8 (.fin)))))))))) [0,1,2,3,4,5,6,7] mix (by kernel_rfl) (by kernel_rfl) (fun K1 hK1 => ?_)
 refine PL_q rfl rfl (q_move rfl) ?_
 refine PL_q rfl rfl (q_ptr (off' := 1) (q_idxa ar_23 rfl rfl (by decide) (by decide)) rfl) ?_
 refine PL_q rfl rfl (q_loadc (v := .int .i64 a.y.1) ty_3 rfl m2 rfl) ?_
 refine PL_q rfl rfl (q_move rfl) ?_
 refine PL_q rfl rfl (q_ptr (off' := 1) (q_idxa ar_23 rfl rfl (by decide) (by decide)) rfl) ?_
 refine PL_q rfl rfl (q_loadc (v := .int .i64 b.y.1) ty_3 rfl m1 rfl) ?_
 refine PL_q rfl rfl (q_as (v' := .int .i64 ((W.add a.y b.y).1)) (q_add rfl rfl) rfl) ?_
 refine PL_q rfl rfl (q_ptr (off' := 1) (q_idxa ar_23 rfl rfl (by decide) (by decide)) rfl) ?_
 refine PL_st rfl (qs := [ci .i64 ((W.add a.y b.y).1)]) rfl ty_3 rfl rfl rfl rfl rfl (.tail _ (.tail _ (.head _))) hb1 rfl (sk (sk (sd s0))) ?_
 refine PL_fin (hK1 _ _ ?_)
 clear hK1 K1
 refine hK_7 _ _ ?_
 try clear hK_7 K_7
 refine W_region_k (fun K1 hK1 => ?_)
 refine WL_q rfl (q_as (v' := .int .i64 2) (q_add rfl rfl) rfl) ?_
 refine WL_q rfl (q_move rfl) ?_
 refine WL_nil (hK1 _ _ ?_)
 clear hK1 K1
 refine hK_5 _ _ ?_
 try clear hK_5 K_5
 refine Un_s (fun K_8 hK_8 => ?_)
 refine W_sr (fun K1 hK1 => ?_)
 refine WL_q rfl (q_as (v' := .bool true) (q_lss rfl rfl) rfl) ?_
 refine WL_nil (hK1 _ _ ?_)
 clear hK1 K1
 refine W_seq (fun K_9 hK_9 => ?_)
 refine W_true rfl ?_
 refine W_skip ?_
 refine hK_9 _ _ ?_
 try clear hK_9 K_9
 refine W_seq (fun K_10 hK_10 => ?_)
 refine W_block ?_
 refine W_sr (fun K1 hK1 => ?_)
 refine WL_q rfl (q_move rfl) ?_
 refine WL_q rfl (q_assign rfl) ?_
 refine WL_nil (hK1 _ _ ?_)
 clear hK1 K1
 refine W_draw (sk (sk (sd (s0)))) (.quiet 0 [1,2,6,7,8] (.quiet 1 [2,6,7,8] (.quiet 2 [6,7,8] (.quiet 3 [4,5,6,7,8] (.quiet 4 [5,6,7,8] (.quiet 5 [6,7,8] (.quiet 6 [7,8] (.quiet 7 [8] (.only 8 (.fin)))))))))) [0,1,2,3,4,5,6,7] mix (by kernel_rfl) (by kernel_rfl) (fun K1 hK1 => ?_)
 refine PL_q rfl rfl (q_move rfl) ?_
 refine PL_q rfl rfl (q_ptr (off' := 2) (q_idxa ar_23 rfl rfl (by decide) (by decide)) rfl) ?_
 refine PL_q rfl rfl (q_loadc (v := .int .i64 a.z.1) ty_3 rfl m2 rfl) ?_
 refine PL_q rfl rfl (q_move rfl) ?_
 refine PL_q rfl rfl (q_ptr (off' := 2) (q_idxa ar_23 rfl rfl (by decide) (by decide)) rfl) ?_
 refine PL_q rfl rfl (q_loadc (v := .int .i64 b.z.1) ty_3 rfl m1 rfl) ?_
 refine PL_q rfl rfl (q_as (v' := .int .i64 ((W.add a.z b.z).1)) (q_add rfl rfl) rfl) ?_
 refine PL_q rfl rfl (q_ptr (off' := 2) (q_idxa ar_23 rfl rfl (by decide) (by decide)) rfl) ?_
 refine PL_st rfl (qs := [ci .i64 ((W.add a.z b.z).1)]) rfl ty_3 rfl rfl rfl rfl rfl (.tail _ (.tail _ (.head _))) hb1 rfl (sk (sk (sd s0))) ?_
 refine PL_fin (hK1 _ _ ?_)
 clear hK1 K1
 refine hK_10 _ _ ?_
 try clear hK_10 K_10
 refine W_region_k (fun K1 hK1 => ?_)
 refine WL_q rfl (q_as (v' := .int .i64 3) (q_add rfl rfl) rfl) ?_
 refine WL_q rfl (q_move rfl) ?_
 refine WL_nil (hK1 _ _ ?_)
 clear hK1 K1
 refine hK_8 _ _ ?_
 try clear hK_8 K_8
 refine Un_s (fun K_11 hK_11 => ?_)
 refine W_sr (fun K1 hK1 => ?_)
 refine WL_q rfl (q_as (v' := .bool false) (q_lss rfl rfl) rfl) ?_
 refine WL_nil (hK1 _ _ ?_)
 clear hK1 K1
 refine W_seq (fun K_12 hK_12 => ?_)
 refine W_false rfl ?_
 refine W_exit (thenK_x (thenK_x (blockK_hit ?_)))
 refine hK_1 _ _ ?_
 try clear hK_1 K_1
 refine W_sr (fun K1 hK1 => ?_)
 refine WL_q rfl (q_loadp ty_23 rfl m2 rfl) ?_
 refine WL_st (qs := [ci .i64 ((W.add a.x b.x).1), ci .i64 ((W.add a.y b.y).1), ci .i64 ((W.add a.z b.z).1)]) rfl ty_23 rfl rfl rfl rfl rfl (.head _) hb3 ?_
 refine WL_nil (hK1 _ _ ?_)
 clear hK1 K1
 refine W_ret ?_
 refine ret1 rfl (.inr rfl) (resP rfl m0 ty_23 rfl) ?_
 exact (by rfl)

theorem vector_Neg_ret (a : (A3 W)) :
    Ret Try.prog 32 [AV [ci .i64 a.x.1, ci .i64 a.y.1, ci .i64 a.z.1]] (AV [ci .i64 (((F_vector_Neg a).x).1), ci .i64 (((F_vector_Neg a).y).1), ci .i64 (((F_vector_Neg a).z).1)]) := by
 refine ret_of_W (N := 13) Try.func32 rfl rfl (by simp) (fun w0 => ?_)
 simp only [initF, Nat.reduceAdd]
 refine W_sr (fun K1 hK1 => ?_)
 refine WL_r rfl (r_boxp rfl rfl (fun b1 hb1 => ?_))
 refine WL_r rfl (r_allocp zp_23 (fun b2 hb2 => ?_))
 refine WL_nil (hK1 _ _ ?_)
 clear hK1 K1
 refine W_sr (fun K1 hK1 => ?_)
 refine WL_q rfl (q_ptr (off' := 0) (q_idxa ar_23 rfl rfl (by decide) (by decide)) rfl) ?_
 refine WL_q rfl (q_loadc (v := .int .i64 a.x.1) ty_3 rfl m1 rfl) ?_
 refine WL_q rfl (q_as (v' := .int .i64 ((W.neg a.x).1)) (q_neg rfl) rfl) ?_
 refine WL_q rfl (q_ptr (off' := 1) (q_idxa ar_23 rfl rfl (by decide) (by decide)) rfl) ?_
 refine WL_q rfl (q_loadc (v := .int .i64 a.y.1) ty_3 rfl m1 rfl) ?_
 refine WL_q rfl (q_as (v' := .int .i64 ((W.neg a.y).1)) (q_neg rfl) rfl) ?_
 refine WL_q rfl (q_ptr (off' := 2) (q_idxa ar_23 rfl rfl (by decide) (by decide)) rfl) ?_
 refine WL_q rfl (q_loadc (v := .int .i64 a.z.1) ty_3 rfl m1 rfl) ?_
 refine WL_q rfl (q_as (v' := .int .i64 ((W.neg a.z).1)) (q_neg rfl) rfl) ?_
 refine WL_q rfl (q_buildap zp_23 ar_23 rfl (.cons [ci .i64 ((W.neg a.x).1)] [ci .i64 ((W.neg a.x).1), ci .i64 0, ci .i64 0] rfl rfl rfl rfl (.cons [ci .i64 ((W.neg a.y).1)] [ci .i64 ((W.neg a.x).1), ci .i64 ((W.neg a.y).1), ci .i64 0] rfl rfl rfl rfl (.cons [ci .i64 ((W.neg a.z).1)] [ci .i64 ((W.neg a.x).1), ci .i64 ((W.neg a.y).1), ci .i64 ((W.neg a.z).1)] rfl rfl rfl rfl (.nil _))))) ?_
 refine WL_st (qs := [ci .i64 ((W.neg a.x).1), ci .i64 ((W.neg a.y).1), ci .i64 ((W.neg a.z).1)]) rfl ty_23 rfl rfl rfl rfl rfl (.head _) hb2 ?_
 refine WL_nil (hK1 _ _ ?_)
 clear hK1 K1
 refine W_ret ?_
 refine ret1 rfl (.inr rfl) (resP rfl m0 ty_23 rfl) ?_
 exact (by rfl)

theorem vector_Sub_ret (a : (A3 W)) (b : (A3 W)) :
    Ret Try.prog 30 [AV [ci .i64 a.x.1, ci .i64 a.y.1, ci .i64 a.z.1], AV [ci .i64 b.x.1, ci .i64 b.y.1, ci .i64 b.z.1]] (AV [ci .i64 (((F_vector_Sub a b).x).1), ci .i64 (((F_vector_Sub a b).y).1), ci .i64 (((F_vector_Sub a b).z).1)]) := by
 refine ret_of_W (N := 9) Try.func30 rfl rfl (by simp) (fun w0 => ?_)
 simp only [initF, Nat.reduceAdd]
 refine W_sr (fun K1 hK1 => ?_)
 refine WL_r rfl (r_boxp rfl rfl (fun b1 hb1 => ?_))
 refine WL_r rfl (r_boxp rfl rfl (fun b2 hb2 => ?_))
 refine WL_r rfl (r_allocp zp_23 (fun b3 hb3 => ?_))
 refine WL_nil (hK1 _ _ ?_)
 clear hK1 K1
 refine W_sdr (sd (sk (sk (s0)))) (.quiet 0 [3,4] (.quiet 1 [2,3,4] (.quiet 2 [3,4] (.quiet 3 [4] (.only 4 (.fin)))))) [0,1,2,3] mix (by kernel_rfl) (by kernel_rfl) (fun K1 hK1 => ?_)
 refine PL_q rfl rfl (q_loadp ty_23 rfl m2 rfl) ?_
 refine PL_q rfl rfl (q_loadp ty_23 rfl m1 rfl) ?_
 refine PL_q rfl rfl (q_ret en_32 (vector_Neg_ret b) rfl) ?_
 obtain ⟨r4, hr4⟩ := nm ((F_vector_Add a (F_vector_Neg b)) : (A3 W))
 refine PL_q rfl rfl (q_as (v' := AV [ci .i64 r4.x.1, ci .i64 r4.y.1, ci .i64 r4.z.1]) (q_ret en_26 (vector_Add_ret a (F_vector_Neg b)) rfl) (by rw [hr4]; first | done | rfl)) ?_
 refine PL_st rfl (qs := [ci .i64 r4.x.1, ci .i64 r4.y.1, ci .i64 r4.z.1]) rfl ty_23 rfl rfl rfl rfl rfl (.head _) hb3 rfl (sd s0) ?_
 refine PL_fin (hK1 _ _ ?_)
 clear hK1 K1
 refine W_ret ?_
 refine ret1 rfl (.inr rfl) (resP rfl m0 ty_23 rfl) ?_
 exact (by subst hr4; rfl)

theorem vector_Less_ret (a : (A3 W)) (b : (A3 W)) :
    Ret Try.prog 27 [AV [ci .i64 a.x.1, ci .i64 a.y.1, ci .i64 a.z.1], AV [ci .i64 b.x.1, ci .i64 b.y.1, ci .i64 b.z.1]] (.bool (F_vector_Less a b)) := by
 refine ret_of_W (N := 24) Try.func27 rfl rfl (by simp) (fun w0 => ?_)
 simp only [initF, Nat.reduceAdd]
 refine W_sr (fun K1 hK1 => ?_)
 refine WL_r rfl (r_boxp rfl rfl (fun b1 hb1 => ?_))
 refine WL_r rfl (r_boxp rfl rfl (fun b2 hb2 => ?_))
 refine WL_q rfl (q_assign rfl) ?_
 refine WL_nil (hK1 _ _ ?_)
 clear hK1 K1
 refine W_seq (fun K_1 hK_1 => ?_)
 refine W_sr (fun K1 hK1 => ?_)
 refine WL_q rfl (q_move rfl) ?_
 refine WL_nil (hK1 _ _ ?_)
 clear hK1 K1
 refine W_block ?_
 refine W_un 5 ?_
 refine Un_s (fun K_2 hK_2 => ?_)
 refine W_sr (fun K1 hK1 => ?_)
 refine WL_q rfl (q_as (v' := .bool true) (q_lss rfl rfl) rfl) ?_
 refine WL_nil (hK1 _ _ ?_)
 clear hK1 K1
 refine W_seq (fun K_3 hK_3 => ?_)
 refine W_true rfl ?_
 refine W_skip ?_
 refine hK_3 _ _ ?_
 try clear hK_3 K_3
 refine W_seq (fun K_4 hK_4 => ?_)
 refine W_block ?_
 refine W_sr (fun K1 hK1 => ?_)
 refine WL_q rfl (q_move rfl) ?_
 refine WL_q rfl (q_assign rfl) ?_
 refine WL_nil (hK1 _ _ ?_)
 clear hK1 K1
 refine W_sdr (sk (sk (s0))) (.quiet 0 [1,2,6] (.quiet 1 [2,6] (.quiet 2 [6] (.quiet 3 [4,5,6] (.quiet 4 [5,6] (.quiet 5 [6] (.quiet 6 [] (.fin)))))))) [0,1,2,3,4,5,6] mix (by kernel_rfl) (by kernel_rfl) (fun K1 hK1 => ?_)
 refine PL_q rfl rfl (q_move rfl) ?_
 refine PL_q rfl rfl (q_ptr (off' := 0) (q_idxa ar_23 rfl rfl (by decide) (by decide)) rfl) ?_
 refine PL_q rfl rfl (q_loadc (v := .int .i64 a.x.1) ty_3 rfl m1 rfl) ?_
 refine PL_q rfl rfl (q_move rfl) ?_
 refine PL_q rfl rfl (q_ptr (off' := 0) (q_idxa ar_23 rfl rfl (by decide) (by decide)) rfl) ?_
 refine PL_q rfl rfl (q_loadc (v := .int .i64 b.x.1) ty_3 rfl m0 rfl) ?_
 refine PL_q rfl rfl (q_as (v' := .bool (a.x.1 != b.x.1)) (q_neq rfl rfl) rfl) ?_
 refine PL_fin (hK1 _ _ ?_)
 clear hK1 K1
 rcases bt (a.x.1 != b.x.1) with h3 | h3
 ·skip
  refine W_t h3 rfl ?_
  refine W_sdr (sk (sk (s0))) (.quiet 0 [1,2,6,7] (.quiet 1 [2,6,7] (.quiet 2 [6,7] (.quiet 3 [4,5,6,7] (.quiet 4 [5,6,7] (.quiet 5 [6,7] (.quiet 6 [7] (.quiet 7 [] (.fin))))))))) [0,1,2,3,4,5,6,7] mix (by kernel_rfl) (by kernel_rfl) (fun K1 hK1 => ?_)
  refine PL_q rfl rfl (q_move rfl) ?_
  refine PL_q rfl rfl (q_ptr (off' := 0) (q_idxa ar_23 rfl rfl (by decide) (by decide)) rfl) ?_
  refine PL_q rfl rfl (q_loadc (v := .int .i64 a.x.1) ty_3 rfl m1 rfl) ?_
  refine PL_q rfl rfl (q_move rfl) ?_
  refine PL_q rfl rfl (q_ptr (off' := 0) (q_idxa ar_23 rfl rfl (by decide) (by decide)) rfl) ?_
  refine PL_q rfl rfl (q_loadc (v := .int .i64 b.x.1) ty_3 rfl m0 rfl) ?_
  refine PL_q rfl rfl (q_as (v' := .bool (decide (a.x.1 < b.x.1))) (q_lss rfl rfl) rfl) ?_
  refine PL_q rfl rfl (q_assign rfl) ?_
  refine PL_fin (hK1 _ _ ?_)
  clear hK1 K1
  refine W_ret ?_
  refine blockK_r (thenK_r (thenK_r (blockK_r (thenK_r (ret1 rfl (.inr rfl) rfl ?_)))))
  exact (by exact congrArg (fun r : Bool => (.bool r : Value)) (show _ = (F_vector_Less a b) from bif_t h3 rfl))
 ·skip
  refine W_f h3 rfl ?_
  refine W_skip ?_
  refine hK_4 _ _ ?_
  try clear hK_4 K_4
  refine W_region_k (fun K1 hK1 => ?_)
  refine WL_q rfl (q_as (v' := .int .i64 1) (q_add rfl rfl) rfl) ?_
  refine WL_q rfl (q_move rfl) ?_
  refine WL_nil (hK1 _ _ ?_)
  clear hK1 K1
  refine hK_2 _ _ ?_
  try clear hK_2 K_2
  refine Un_s (fun K_5 hK_5 => ?_)
  refine W_sr (fun K1 hK1 => ?_)
  refine WL_q rfl (q_as (v' := .bool true) (q_lss rfl rfl) rfl) ?_
  refine WL_nil (hK1 _ _ ?_)
  clear hK1 K1
  refine W_seq (fun K_6 hK_6 => ?_)
  refine W_true rfl ?_
  refine W_skip ?_
  refine hK_6 _ _ ?_
  try clear hK_6 K_6
  refine W_seq (fun K_7 hK_7 => ?_)
  refine W_block ?_
  refine W_sr (fun K1 hK1 => ?_)
  refine WL_q rfl (q_move rfl) ?_
  refine WL_q rfl (q_assign rfl) ?_
  refine WL_nil (hK1 _ _ ?_)
  clear hK1 K1
  refine W_sdr (sk (sk (s0))) (.quiet 0 [1,2,6] (.quiet 1 [2,6] (.quiet 2 [6] (.quiet 3 [4,5,6] (.quiet 4 [5,6] (.quiet 5 [6] (.quiet 6 [] (.fin)))))))) [0,1,2,3,4,5,6] mix (by kernel_rfl) (by kernel_rfl) (fun K1 hK1 => ?_)
  refine PL_q rfl rfl (q_move rfl) ?_
  refine PL_q rfl rfl (q_ptr (off' := 1) (q_idxa ar_23 rfl rfl (by decide) (by decide)) rfl) ?_
  refine PL_q rfl rfl (q_loadc (v := .int .i64 a.y.1) ty_3 rfl m1 rfl) ?_
  refine PL_q rfl rfl (q_move rfl) ?_
  refine PL_q rfl rfl (q_ptr (off' := 1) (q_idxa ar_23 rfl rfl (by decide) (by decide)) rfl) ?_
  refine PL_q rfl rfl (q_loadc (v := .int .i64 b.y.1) ty_3 rfl m0 rfl) ?_
  refine PL_q rfl rfl (q_as (v' := .bool (a.y.1 != b.y.1)) (q_neq rfl rfl) rfl) ?_
  refine PL_fin (hK1 _ _ ?_)
  clear hK1 K1
  rcases bt (a.y.1 != b.y.1) with h4 | h4
  ·skip
   refine W_t h4 rfl ?_
   refine W_sdr (sk (sk (s0))) (.quiet 0 [1,2,6,7] (.quiet 1 [2,6,7] (.quiet 2 [6,7] (.quiet 3 [4,5,6,7] (.quiet 4 [5,6,7] (.quiet 5 [6,7] (.quiet 6 [7] (.quiet 7 [] (.fin))))))))) [0,1,2,3,4,5,6,7] mix (by kernel_rfl) (by kernel_rfl) (fun K1 hK1 => ?_)
   refine PL_q rfl rfl (q_move rfl) ?_
   refine PL_q rfl rfl (q_ptr (off' := 1) (q_idxa ar_23 rfl rfl (by decide) (by decide)) rfl) ?_
   refine PL_q rfl rfl (q_loadc (v := .int .i64 a.y.1) ty_3 rfl m1 rfl) ?_
   refine PL_q rfl rfl (q_move rfl) ?_
   refine PL_q rfl rfl (q_ptr (off' := 1) (q_idxa ar_23 rfl rfl (by decide) (by decide)) rfl) ?_
   refine PL_q rfl rfl (q_loadc (v := .int .i64 b.y.1) ty_3 rfl m0 rfl) ?_
   refine PL_q rfl rfl (q_as (v' := .bool (decide (a.y.1 < b.y.1))) (q_lss rfl rfl) rfl) ?_
   refine PL_q rfl rfl (q_assign rfl) ?_
   refine PL_fin (hK1 _ _ ?_)
   clear hK1 K1
   refine W_ret ?_
   refine blockK_r (thenK_r (thenK_r (blockK_r (thenK_r (ret1 rfl (.inr rfl) rfl ?_)))))
   exact (by exact congrArg (fun r : Bool => (.bool r : Value)) (show _ = (F_vector_Less a b) from bif_f h3 (bif_t h4 rfl)))
  ·skip
   refine W_f h4 rfl ?_
   refine W_skip ?_
   refine hK_7 _ _ ?_
   try clear hK_7 K_7
   refine W_region_k (fun K1 hK1 => ?_)
   refine WL_q rfl (q_as (v' := .int .i64 2) (q_add rfl rfl) rfl) ?_
   refine WL_q rfl (q_move rfl) ?_
   refine WL_nil (hK1 _ _ ?_)
   clear hK1 K1
   refine hK_5 _ _ ?_
   try clear hK_5 K_5
   refine Un_s (fun K_8 hK_8 => ?_)
   refine W_sr (fun K1 hK1 => ?_)
   refine WL_q rfl (q_as (v' := .bool true) (q_lss rfl rfl) rfl) ?_
   refine WL_nil (hK1 _ _ ?_)
   clear hK1 K1
   refine W_seq (fun K_9 hK_9 => ?_)
   refine W_true rfl ?_
   refine W_skip ?_
   refine hK_9 _ _ ?_
   try clear hK_9 K_9
   refine W_seq (fun K_10 hK_10 => ?_)
   refine W_block ?_
   refine W_sr (fun K1 hK1 => ?_)
   refine WL_q rfl (q_move rfl) ?_
   refine WL_q rfl (q_assign rfl) ?_
   refine WL_nil (hK1 _ _ ?_)
   clear hK1 K1
   refine W_sdr (sk (sk (s0))) (.quiet 0 [1,2,6] (.quiet 1 [2,6] (.quiet 2 [6] (.quiet 3 [4,5,6] (.quiet 4 [5,6] (.quiet 5 [6] (.quiet 6 [] (.fin)))))))) [0,1,2,3,4,5,6] mix (by kernel_rfl) (by kernel_rfl) (fun K1 hK1 => ?_)
   refine PL_q rfl rfl (q_move rfl) ?_
   refine PL_q rfl rfl (q_ptr (off' := 2) (q_idxa ar_23 rfl rfl (by decide) (by decide)) rfl) ?_
   refine PL_q rfl rfl (q_loadc (v := .int .i64 a.z.1) ty_3 rfl m1 rfl) ?_
   refine PL_q rfl rfl (q_move rfl) ?_
   refine PL_q rfl rfl (q_ptr (off' := 2) (q_idxa ar_23 rfl rfl (by decide) (by decide)) rfl) ?_
   refine PL_q rfl rfl (q_loadc (v := .int .i64 b.z.1) ty_3 rfl m0 rfl) ?_
   refine PL_q rfl rfl (q_as (v' := .bool (a.z.1 != b.z.1)) (q_neq rfl rfl) rfl) ?_
   refine PL_fin (hK1 _ _ ?_)
   clear hK1 K1
   rcases bt (a.z.1 != b.z.1) with h5 | h5
   ·skip
    refine W_t h5 rfl ?_
    refine W_sdr (sk (sk (s0))) (.quiet 0 [1,2,6,7] (.quiet 1 [2,6,7] (.quiet 2 [6,7] (.quiet 3 [4,5,6,7] (.quiet 4 [5,6,7] (.quiet 5 [6,7] (.quiet 6 [7] (.quiet 7 [] (.fin))))))))) [0,1,2,3,4,5,6,7] mix (by kernel_rfl) (by kernel_rfl) (fun K1 hK1 => ?_)
    refine PL_q rfl rfl (q_move rfl) ?_
    refine PL_q rfl rfl (q_ptr (off' := 2) (q_idxa ar_23 rfl rfl (by decide) (by decide)) rfl) ?_
    refine PL_q rfl rfl (q_loadc (v := .int .i64 a.z.1) ty_3 rfl m1 rfl) ?_
    refine PL_q rfl rfl (q_move rfl) ?_
    refine PL_q rfl rfl (q_ptr (off' := 2) (q_idxa ar_23 rfl rfl (by decide) (by decide)) rfl) ?_
    refine PL_q rfl rfl (q_loadc (v := .int .i64 b.z.1) ty_3 rfl m0 rfl) ?_
    refine PL_q rfl rfl (q_as (v' := .bool (decide (a.z.1 < b.z.1))) (q_lss rfl rfl) rfl) ?_
    refine PL_q rfl rfl (q_assign rfl) ?_
    refine PL_fin (hK1 _ _ ?_)
    clear hK1 K1
    refine W_ret ?_
    refine blockK_r (thenK_r (thenK_r (blockK_r (thenK_r (ret1 rfl (.inr rfl) rfl ?_)))))
    exact (by exact congrArg (fun r : Bool => (.bool r : Value)) (show _ = (F_vector_Less a b) from bif_f h3 (bif_f h4 (bif_t h5 rfl))))
   ·skip
    refine W_f h5 rfl ?_
    refine W_skip ?_
    refine hK_10 _ _ ?_
    try clear hK_10 K_10
    refine W_region_k (fun K1 hK1 => ?_)
    refine WL_q rfl (q_as (v' := .int .i64 3) (q_add rfl rfl) rfl) ?_
    refine WL_q rfl (q_move rfl) ?_
    refine WL_nil (hK1 _ _ ?_)
    clear hK1 K1
    refine hK_8 _ _ ?_
    try clear hK_8 K_8
    refine Un_s (fun K_11 hK_11 => ?_)
    refine W_sr (fun K1 hK1 => ?_)
    refine WL_q rfl (q_as (v' := .bool false) (q_lss rfl rfl) rfl) ?_
    refine WL_nil (hK1 _ _ ?_)
    clear hK1 K1
    refine W_seq (fun K_12 hK_12 => ?_)
    refine W_false rfl ?_
    refine W_exit (thenK_x (thenK_x (blockK_hit ?_)))
    refine hK_1 _ _ ?_
    try clear hK_1 K_1
    refine W_sr (fun K1 hK1 => ?_)
    refine WL_q rfl (q_assign rfl) ?_
    refine WL_nil (hK1 _ _ ?_)
    clear hK1 K1
    refine W_ret ?_
    refine ret1 rfl (.inr rfl) rfl ?_
    exact (by exact congrArg (fun r : Bool => (.bool r : Value)) (show _ = (F_vector_Less a b) from bif_f h3 (bif_f h4 (bif_f h5 rfl))))

theorem vector_numbers_ret (a : (A3 W)) :
    Ret Try.prog 45 [AV [ci .i64 a.x.1, ci .i64 a.y.1, ci .i64 a.z.1]] (AV [pI ((F_vector_numbers a).x), pI ((F_vector_numbers a).y), pI ((F_vector_numbers a).z)]) := by
 refine ret_of_W (N := 16) Try.func45 rfl rfl (by simp) (fun w0 => ?_)
 simp only [initF, Nat.reduceAdd]
 refine W_sr (fun K1 hK1 => ?_)
 refine WL_r rfl (r_boxp rfl rfl (fun b1 hb1 => ?_))
 refine WL_r rfl (r_allocp zp_30 (fun b2 hb2 => ?_))
 refine WL_nil (hK1 _ _ ?_)
 clear hK1 K1
 refine W_seq (fun K_1 hK_1 => ?_)
 refine W_sr (fun K1 hK1 => ?_)
 refine WL_q rfl (q_loadp ty_23 rfl m1 rfl) ?_
 refine WL_q rfl (q_move rfl) ?_
 refine WL_nil (hK1 _ _ ?_)
 clear hK1 K1
 refine W_block ?_
 refine W_un 5 ?_
 refine Un_s (fun K_2 hK_2 => ?_)
 refine W_sr (fun K1 hK1 => ?_)
 refine WL_q rfl (q_as (v' := .bool true) (q_lss rfl rfl) rfl) ?_
 refine WL_nil (hK1 _ _ ?_)
 clear hK1 K1
 refine W_seq (fun K_3 hK_3 => ?_)
 refine W_true rfl ?_
 refine W_skip ?_
 refine hK_3 _ _ ?_
 try clear hK_3 K_3
 refine W_seq (fun K_4 hK_4 => ?_)
 refine W_block ?_
 refine W_sr (fun K1 hK1 => ?_)
 refine WL_q rfl (q_move rfl) ?_
 refine WL_q rfl (q_indexc (v := .int .i64 a.x.1) el_23 rfl rfl (by decide) (by decide) rfl) ?_
 refine WL_q rfl (q_assign rfl) ?_
 refine WL_q rfl (q_assign rfl) ?_
 refine WL_nil (hK1 _ _ ?_)
 clear hK1 K1
 refine W_region_k (fun K1 hK1 => ?_)
 refine WL_q rfl (q_move rfl) ?_
 refine WL_q rfl (q_move rfl) ?_
 refine WL_q rfl (q_as (v' := AV [pI (E (Z.of a.x.1))]) (q_ret en_47 (whole_Of_ret a.x.1 a.x.2) rfl) rfl) ?_
 refine WL_q rfl (q_ptr (off' := 0) (q_idxa ar_30 rfl rfl (by decide) (by decide)) rfl) ?_
 refine WL_st (qs := [pI (E (Z.of a.x.1))]) rfl ty_28 rfl rfl rfl rfl rfl (.head _) hb2 ?_
 refine WL_nil (hK1 _ _ ?_)
 clear hK1 K1
 refine hK_4 _ _ ?_
 try clear hK_4 K_4
 refine W_region_k (fun K1 hK1 => ?_)
 refine WL_q rfl (q_as (v' := .int .i64 1) (q_add rfl rfl) rfl) ?_
 refine WL_q rfl (q_move rfl) ?_
 refine WL_nil (hK1 _ _ ?_)
 clear hK1 K1
 refine hK_2 _ _ ?_
 try clear hK_2 K_2
 refine Un_s (fun K_5 hK_5 => ?_)
 refine W_sr (fun K1 hK1 => ?_)
 refine WL_q rfl (q_as (v' := .bool true) (q_lss rfl rfl) rfl) ?_
 refine WL_nil (hK1 _ _ ?_)
 clear hK1 K1
 refine W_seq (fun K_6 hK_6 => ?_)
 refine W_true rfl ?_
 refine W_skip ?_
 refine hK_6 _ _ ?_
 try clear hK_6 K_6
 refine W_seq (fun K_7 hK_7 => ?_)
 refine W_block ?_
 refine W_sr (fun K1 hK1 => ?_)
 refine WL_q rfl (q_move rfl) ?_
 refine WL_q rfl (q_indexc (v := .int .i64 a.y.1) el_23 rfl rfl (by decide) (by decide) rfl) ?_
 refine WL_q rfl (q_assign rfl) ?_
 refine WL_q rfl (q_assign rfl) ?_
 refine WL_nil (hK1 _ _ ?_)
 clear hK1 K1
 refine W_region_k (fun K1 hK1 => ?_)
 refine WL_q rfl (q_move rfl) ?_
 refine WL_q rfl (q_move rfl) ?_
 refine WL_q rfl (q_as (v' := AV [pI (E (Z.of a.y.1))]) (q_ret en_47 (whole_Of_ret a.y.1 a.y.2) rfl) rfl) ?_
 refine WL_q rfl (q_ptr (off' := 18) (q_idxa ar_30 rfl rfl (by decide) (by decide)) rfl) ?_
 refine WL_st (qs := [pI (E (Z.of a.y.1))]) rfl ty_28 rfl rfl rfl rfl rfl (.head _) hb2 ?_
 refine WL_nil (hK1 _ _ ?_)
 clear hK1 K1
 refine hK_7 _ _ ?_
 try clear hK_7 K_7
 refine W_region_k (fun K1 hK1 => ?_)
 refine WL_q rfl (q_as (v' := .int .i64 2) (q_add rfl rfl) rfl) ?_
 refine WL_q rfl (q_move rfl) ?_
 refine WL_nil (hK1 _ _ ?_)
 clear hK1 K1
 refine hK_5 _ _ ?_
 try clear hK_5 K_5
 refine Un_s (fun K_8 hK_8 => ?_)
 refine W_sr (fun K1 hK1 => ?_)
 refine WL_q rfl (q_as (v' := .bool true) (q_lss rfl rfl) rfl) ?_
 refine WL_nil (hK1 _ _ ?_)
 clear hK1 K1
 refine W_seq (fun K_9 hK_9 => ?_)
 refine W_true rfl ?_
 refine W_skip ?_
 refine hK_9 _ _ ?_
 try clear hK_9 K_9
 refine W_seq (fun K_10 hK_10 => ?_)
 refine W_block ?_
 refine W_sr (fun K1 hK1 => ?_)
 refine WL_q rfl (q_move rfl) ?_
 refine WL_q rfl (q_indexc (v := .int .i64 a.z.1) el_23 rfl rfl (by decide) (by decide) rfl) ?_
 refine WL_q rfl (q_assign rfl) ?_
 refine WL_q rfl (q_assign rfl) ?_
 refine WL_nil (hK1 _ _ ?_)
 clear hK1 K1
 refine W_region_k (fun K1 hK1 => ?_)
 refine WL_q rfl (q_move rfl) ?_
 refine WL_q rfl (q_move rfl) ?_
 refine WL_q rfl (q_as (v' := AV [pI (E (Z.of a.z.1))]) (q_ret en_47 (whole_Of_ret a.z.1 a.z.2) rfl) rfl) ?_
 refine WL_q rfl (q_ptr (off' := 36) (q_idxa ar_30 rfl rfl (by decide) (by decide)) rfl) ?_
 refine WL_st (qs := [pI (E (Z.of a.z.1))]) rfl ty_28 rfl rfl rfl rfl rfl (.head _) hb2 ?_
 refine WL_nil (hK1 _ _ ?_)
 clear hK1 K1
 refine hK_10 _ _ ?_
 try clear hK_10 K_10
 refine W_region_k (fun K1 hK1 => ?_)
 refine WL_q rfl (q_as (v' := .int .i64 3) (q_add rfl rfl) rfl) ?_
 refine WL_q rfl (q_move rfl) ?_
 refine WL_nil (hK1 _ _ ?_)
 clear hK1 K1
 refine hK_8 _ _ ?_
 try clear hK_8 K_8
 refine Un_s (fun K_11 hK_11 => ?_)
 refine W_sr (fun K1 hK1 => ?_)
 refine WL_q rfl (q_as (v' := .bool false) (q_lss rfl rfl) rfl) ?_
 refine WL_nil (hK1 _ _ ?_)
 clear hK1 K1
 refine W_seq (fun K_12 hK_12 => ?_)
 refine W_false rfl ?_
 refine W_exit (thenK_x (thenK_x (blockK_hit ?_)))
 refine hK_1 _ _ ?_
 try clear hK_1 K_1
 refine W_sr (fun K1 hK1 => ?_)
 refine WL_q rfl (q_loadp ty_30 rfl m0 rfl) ?_
 refine WL_st (qs := [pI (E (Z.of a.x.1)), pI (E (Z.of a.y.1)), pI (E (Z.of a.z.1))]) rfl ty_30 rfl rfl rfl rfl rfl (.head _) hb2 ?_
 refine WL_nil (hK1 _ _ ?_)
 clear hK1 K1
 refine W_ret ?_
 refine ret1 rfl (.inr rfl) (resP rfl m0 ty_30 rfl) ?_
 exact (by rfl)

theorem vector_dot_ret (a : (A3 I)) (b : (A3 I)) :
    Ret Try.prog 44 [AV [pI a.x, pI a.y, pI a.z], AV [pI b.x, pI b.y, pI b.z]] (AV [pI (F_vector_dot a b)]) := by
 refine ret_of_W (N := 22) Try.func44 rfl rfl (by simp) (fun w0 => ?_)
 simp only [initF, Nat.reduceAdd]
 refine W_sr (fun K1 hK1 => ?_)
 refine WL_r rfl (r_boxp rfl rfl (fun b1 hb1 => ?_))
 refine WL_r rfl (r_boxp rfl rfl (fun b2 hb2 => ?_))
 refine WL_r rfl (r_allocp zp_28 (fun b3 hb3 => ?_))
 refine WL_nil (hK1 _ _ ?_)
 clear hK1 K1
 refine W_sr (fun K1 hK1 => ?_)
 refine WL_q rfl (q_as (v' := AV [pI (E (Z.of 0))]) (q_ret en_47 (whole_Of_ret (wl 0).1 (wl 0).2) rfl) rfl) ?_
 refine WL_r rfl (r_allocp zp_28 (fun b4 hb4 => ?_))
 refine WL_st (qs := [pI (E (Z.of 0))]) rfl ty_28 rfl rfl rfl rfl rfl (.head _) hb4 ?_
 refine WL_nil (hK1 _ _ ?_)
 clear hK1 K1
 refine W_seq (fun K_1 hK_1 => ?_)
 refine W_sr (fun K1 hK1 => ?_)
 refine WL_q rfl (q_move rfl) ?_
 refine WL_nil (hK1 _ _ ?_)
 clear hK1 K1
 refine W_block ?_
 refine W_un 5 ?_
 refine Un_s (fun K_2 hK_2 => ?_)
 refine W_sr (fun K1 hK1 => ?_)
 refine WL_q rfl (q_as (v' := .bool true) (q_lss rfl rfl) rfl) ?_
 refine WL_nil (hK1 _ _ ?_)
 clear hK1 K1
 refine W_seq (fun K_3 hK_3 => ?_)
 refine W_true rfl ?_
 refine W_skip ?_
 refine hK_3 _ _ ?_
 try clear hK_3 K_3
 refine W_seq (fun K_4 hK_4 => ?_)
 refine W_block ?_
 refine W_sr (fun K1 hK1 => ?_)
 refine WL_q rfl (q_move rfl) ?_
 refine WL_q rfl (q_assign rfl) ?_
 refine WL_nil (hK1 _ _ ?_)
 clear hK1 K1
 refine W_draw (sd (sk (sk (sk (s0))))) (.quiet 0 [8,9] (.quiet 1 [2,3,7,8,9] (.quiet 2 [3,7,8,9] (.quiet 3 [7,8,9] (.quiet 4 [5,6,7,8,9] (.quiet 5 [6,7,8,9] (.quiet 6 [7,8,9] (.quiet 7 [8,9] (.quiet 8 [9] (.only 9 (.fin))))))))))) [0,1,2,3,4,5,6,7,8] mix (by kernel_rfl) (by kernel_rfl) (fun K1 hK1 => ?_)
 refine PL_q rfl rfl (q_loadp ty_28 rfl m0 rfl) ?_
 refine PL_q rfl rfl (q_move rfl) ?_
 refine PL_q rfl rfl (q_ptr (off' := 0) (q_idxa ar_30 rfl rfl (by decide) (by decide)) rfl) ?_
 refine PL_q rfl rfl (q_loadp ty_28 rfl m3 rfl) ?_
 refine PL_q rfl rfl (q_move rfl) ?_
 refine PL_q rfl rfl (q_ptr (off' := 0) (q_idxa ar_30 rfl rfl (by decide) (by decide)) rfl) ?_
 refine PL_q rfl rfl (q_loadp ty_28 rfl m2 rfl) ?_
 refine PL_q rfl rfl (q_as (v' := AV [pI (E (Z.mul a.x.dec b.x.dec))]) (q_ret en_76 (whole_Mul_ret a.x.1 b.x.1 a.x.2 b.x.2) rfl) rfl) ?_
 refine PL_q rfl rfl (q_as (v' := AV [pI (E (Z.add (Z.of 0) (Z.mul a.x.dec b.x.dec)))]) (q_ret en_75 (whole_Add_ret (E (Z.of 0)).1 (E (Z.mul a.x.dec b.x.dec)).1 (E (Z.of 0)).2 (E (Z.mul a.x.dec b.x.dec)).2) rfl) (cg2 (fun p q => AV [pI (E (Z.add p q))]) (E_dec _) (E_dec _))) ?_
 refine PL_st rfl (qs := [pI (E (Z.add (Z.of 0) (Z.mul a.x.dec b.x.dec)))]) rfl ty_28 rfl rfl rfl rfl rfl (.head _) hb4 rfl (sd s0) ?_
 refine PL_fin (hK1 _ _ ?_)
 clear hK1 K1
 refine hK_4 _ _ ?_
 try clear hK_4 K_4
 refine W_region_k (fun K1 hK1 => ?_)
 refine WL_q rfl (q_as (v' := .int .i64 1) (q_add rfl rfl) rfl) ?_
 refine WL_q rfl (q_move rfl) ?_
 refine WL_nil (hK1 _ _ ?_)
 clear hK1 K1
 refine hK_2 _ _ ?_
 try clear hK_2 K_2
 refine Un_s (fun K_5 hK_5 => ?_)
 refine W_sr (fun K1 hK1 => ?_)
 refine WL_q rfl (q_as (v' := .bool true) (q_lss rfl rfl) rfl) ?_
 refine WL_nil (hK1 _ _ ?_)
 clear hK1 K1
 refine W_seq (fun K_6 hK_6 => ?_)
 refine W_true rfl ?_
 refine W_skip ?_
 refine hK_6 _ _ ?_
 try clear hK_6 K_6
 refine W_seq (fun K_7 hK_7 => ?_)
 refine W_block ?_
 refine W_sr (fun K1 hK1 => ?_)
 refine WL_q rfl (q_move rfl) ?_
 refine WL_q rfl (q_assign rfl) ?_
 refine WL_nil (hK1 _ _ ?_)
 clear hK1 K1
 refine W_draw (sd (sk (sk (sk (s0))))) (.quiet 0 [8,9] (.quiet 1 [2,3,7,8,9] (.quiet 2 [3,7,8,9] (.quiet 3 [7,8,9] (.quiet 4 [5,6,7,8,9] (.quiet 5 [6,7,8,9] (.quiet 6 [7,8,9] (.quiet 7 [8,9] (.quiet 8 [9] (.only 9 (.fin))))))))))) [0,1,2,3,4,5,6,7,8] mix (by kernel_rfl) (by kernel_rfl) (fun K1 hK1 => ?_)
 refine PL_q rfl rfl (q_loadp ty_28 rfl m0 rfl) ?_
 refine PL_q rfl rfl (q_move rfl) ?_
 refine PL_q rfl rfl (q_ptr (off' := 18) (q_idxa ar_30 rfl rfl (by decide) (by decide)) rfl) ?_
 refine PL_q rfl rfl (q_loadp ty_28 rfl m3 rfl) ?_
 refine PL_q rfl rfl (q_move rfl) ?_
 refine PL_q rfl rfl (q_ptr (off' := 18) (q_idxa ar_30 rfl rfl (by decide) (by decide)) rfl) ?_
 refine PL_q rfl rfl (q_loadp ty_28 rfl m2 rfl) ?_
 refine PL_q rfl rfl (q_as (v' := AV [pI (E (Z.mul a.y.dec b.y.dec))]) (q_ret en_76 (whole_Mul_ret a.y.1 b.y.1 a.y.2 b.y.2) rfl) rfl) ?_
 obtain ⟨r5, hr5⟩ := nm ((E (Z.add (Z.add (Z.of 0) (Z.mul a.x.dec b.x.dec)) (Z.mul a.y.dec b.y.dec))) : I)
 refine PL_q rfl rfl (q_as (v' := AV [pI r5]) (q_ret en_75 (whole_Add_ret (E (Z.add (Z.of 0) (Z.mul a.x.dec b.x.dec))).1 (E (Z.mul a.y.dec b.y.dec)).1 (E (Z.add (Z.of 0) (Z.mul a.x.dec b.x.dec))).2 (E (Z.mul a.y.dec b.y.dec)).2) rfl) ((cg2 (fun p q => AV [pI (E (Z.add p q))]) (E_dec _) (E_dec _)).trans (by rw [hr5]))) ?_
 refine PL_st rfl (qs := [pI r5]) rfl ty_28 rfl rfl rfl rfl rfl (.head _) hb4 rfl (sd s0) ?_
 refine PL_fin (hK1 _ _ ?_)
 clear hK1 K1
 refine hK_7 _ _ ?_
 try clear hK_7 K_7
 refine W_region_k (fun K1 hK1 => ?_)
 refine WL_q rfl (q_as (v' := .int .i64 2) (q_add rfl rfl) rfl) ?_
 refine WL_q rfl (q_move rfl) ?_
 refine WL_nil (hK1 _ _ ?_)
 clear hK1 K1
 refine hK_5 _ _ ?_
 try clear hK_5 K_5
 refine Un_s (fun K_8 hK_8 => ?_)
 refine W_sr (fun K1 hK1 => ?_)
 refine WL_q rfl (q_as (v' := .bool true) (q_lss rfl rfl) rfl) ?_
 refine WL_nil (hK1 _ _ ?_)
 clear hK1 K1
 refine W_seq (fun K_9 hK_9 => ?_)
 refine W_true rfl ?_
 refine W_skip ?_
 refine hK_9 _ _ ?_
 try clear hK_9 K_9
 refine W_seq (fun K_10 hK_10 => ?_)
 refine W_block ?_
 refine W_sr (fun K1 hK1 => ?_)
 refine WL_q rfl (q_move rfl) ?_
 refine WL_q rfl (q_assign rfl) ?_
 refine WL_nil (hK1 _ _ ?_)
 clear hK1 K1
 refine W_draw (sd (sk (sk (sk (s0))))) (.quiet 0 [8,9] (.quiet 1 [2,3,7,8,9] (.quiet 2 [3,7,8,9] (.quiet 3 [7,8,9] (.quiet 4 [5,6,7,8,9] (.quiet 5 [6,7,8,9] (.quiet 6 [7,8,9] (.quiet 7 [8,9] (.quiet 8 [9] (.only 9 (.fin))))))))))) [0,1,2,3,4,5,6,7,8] mix (by kernel_rfl) (by kernel_rfl) (fun K1 hK1 => ?_)
 refine PL_q rfl rfl (q_loadp ty_28 rfl m0 rfl) ?_
 refine PL_q rfl rfl (q_move rfl) ?_
 refine PL_q rfl rfl (q_ptr (off' := 36) (q_idxa ar_30 rfl rfl (by decide) (by decide)) rfl) ?_
 refine PL_q rfl rfl (q_loadp ty_28 rfl m3 rfl) ?_
 refine PL_q rfl rfl (q_move rfl) ?_
 refine PL_q rfl rfl (q_ptr (off' := 36) (q_idxa ar_30 rfl rfl (by decide) (by decide)) rfl) ?_
 refine PL_q rfl rfl (q_loadp ty_28 rfl m2 rfl) ?_
 refine PL_q rfl rfl (q_as (v' := AV [pI (E (Z.mul a.z.dec b.z.dec))]) (q_ret en_76 (whole_Mul_ret a.z.1 b.z.1 a.z.2 b.z.2) rfl) rfl) ?_
 refine PL_q rfl rfl (q_as (v' := AV [pI (E (Z.add r5.dec (Z.mul a.z.dec b.z.dec)))]) (q_ret en_75 (whole_Add_ret r5.1 (E (Z.mul a.z.dec b.z.dec)).1 r5.2 (E (Z.mul a.z.dec b.z.dec)).2) rfl) (cg2 (fun p q => AV [pI (E (Z.add p q))]) rfl (E_dec _))) ?_
 refine PL_st rfl (qs := [pI (E (Z.add r5.dec (Z.mul a.z.dec b.z.dec)))]) rfl ty_28 rfl rfl rfl rfl rfl (.head _) hb4 rfl (sd s0) ?_
 refine PL_fin (hK1 _ _ ?_)
 clear hK1 K1
 refine hK_10 _ _ ?_
 try clear hK_10 K_10
 refine W_region_k (fun K1 hK1 => ?_)
 refine WL_q rfl (q_as (v' := .int .i64 3) (q_add rfl rfl) rfl) ?_
 refine WL_q rfl (q_move rfl) ?_
 refine WL_nil (hK1 _ _ ?_)
 clear hK1 K1
 refine hK_8 _ _ ?_
 try clear hK_8 K_8
 refine Un_s (fun K_11 hK_11 => ?_)
 refine W_sr (fun K1 hK1 => ?_)
 refine WL_q rfl (q_as (v' := .bool false) (q_lss rfl rfl) rfl) ?_
 refine WL_nil (hK1 _ _ ?_)
 clear hK1 K1
 refine W_seq (fun K_12 hK_12 => ?_)
 refine W_false rfl ?_
 refine W_exit (thenK_x (thenK_x (blockK_hit ?_)))
 refine hK_1 _ _ ?_
 try clear hK_1 K_1
 refine W_sr (fun K1 hK1 => ?_)
 refine WL_q rfl (q_loadp ty_28 rfl m0 rfl) ?_
 refine WL_st (qs := [pI (E (Z.add r5.dec (Z.mul a.z.dec b.z.dec)))]) rfl ty_28 rfl rfl rfl rfl rfl (.tail _ (.head _)) hb3 ?_
 refine WL_nil (hK1 _ _ ?_)
 clear hK1 K1
 refine W_ret ?_
 refine ret1 rfl (.inr rfl) (resP rfl m1 ty_28 rfl) ?_
 exact (by subst hr5; rfl)

theorem vector_cross_ret (a : (A3 I)) (b : (A3 I)) :
    Ret Try.prog 46 [AV [pI a.x, pI a.y, pI a.z], AV [pI b.x, pI b.y, pI b.z]] (AV [pI ((F_vector_cross a b).x), pI ((F_vector_cross a b).y), pI ((F_vector_cross a b).z)]) := by
 refine ret_of_W (N := 36) Try.func46 rfl rfl (by simp) (fun w0 => ?_)
 simp only [initF, Nat.reduceAdd]
 refine W_sr (fun K1 hK1 => ?_)
 refine WL_r rfl (r_boxp rfl rfl (fun b1 hb1 => ?_))
 refine WL_r rfl (r_boxp rfl rfl (fun b2 hb2 => ?_))
 refine WL_r rfl (r_allocp zp_30 (fun b3 hb3 => ?_))
 refine WL_nil (hK1 _ _ ?_)
 clear hK1 K1
 refine W_seq (fun K_1 hK_1 => ?_)
 refine W_sr (fun K1 hK1 => ?_)
 refine WL_q rfl (q_move rfl) ?_
 refine WL_nil (hK1 _ _ ?_)
 clear hK1 K1
 refine W_block ?_
 refine W_un 5 ?_
 refine Un_s (fun K_2 hK_2 => ?_)
 refine W_sr (fun K1 hK1 => ?_)
 refine WL_q rfl (q_as (v' := .bool true) (q_lss rfl rfl) rfl) ?_
 refine WL_nil (hK1 _ _ ?_)
 clear hK1 K1
 refine W_seq (fun K_3 hK_3 => ?_)
 refine W_true rfl ?_
 refine W_skip ?_
 refine hK_3 _ _ ?_
 try clear hK_3 K_3
 refine W_seq (fun K_4 hK_4 => ?_)
 refine W_block ?_
 refine W_sr (fun K1 hK1 => ?_)
 refine WL_q rfl (q_move rfl) ?_
 refine WL_q rfl (q_assign rfl) ?_
 refine WL_nil (hK1 _ _ ?_)
 clear hK1 K1
 refine W_sr (fun K1 hK1 => ?_)
 refine WL_q rfl (q_move rfl) ?_
 refine WL_q rfl (q_as (v' := .int .i64 1) (q_add rfl rfl) rfl) ?_
 refine WL_q rfl (q_as (v' := .int .i64 1) (q_rem rfl rfl (by decide)) rfl) ?_
 refine WL_q rfl (q_move rfl) ?_
 refine WL_q rfl (q_as (v' := .int .i64 2) (q_add rfl rfl) rfl) ?_
 refine WL_q rfl (q_as (v' := .int .i64 2) (q_rem rfl rfl (by decide)) rfl) ?_
 refine WL_q rfl (q_assign rfl) ?_
 refine WL_q rfl (q_assign rfl) ?_
 refine WL_nil (hK1 _ _ ?_)
 clear hK1 K1
 refine W_draw (sd (sk (sk (s0)))) (.quiet 0 [16,17] (.quiet 1 [2,3,7,14,15,16,17] (.quiet 2 [3,7,14,15,16,17] (.quiet 3 [7,14,15,16,17] (.quiet 4 [5,6,7,14,15,16,17] (.quiet 5 [6,7,14,15,16,17] (.quiet 6 [7,14,15,16,17] (.quiet 7 [14,15,16,17] (.quiet 8 [9,10,14,15,16,17] (.quiet 9 [10,14,15,16,17] (.quiet 10 [14,15,16,17] (.quiet 11 [12,13,14,15,16,17] (.quiet 12 [13,14,15,16,17] (.quiet 13 [14,15,16,17] (.quiet 14 [15,16,17] (.quiet 15 [16,17] (.quiet 16 [17] (.only 17 (.fin))))))))))))))))))) [0,1,2,3,4,5,6,7,8,9,10,11,12,13,14,15,16] mix (by kernel_rfl) (by kernel_rfl) (fun K1 hK1 => ?_)
 refine PL_q rfl rfl (q_move rfl) ?_
 refine PL_q rfl rfl (q_move rfl) ?_
 refine PL_q rfl rfl (q_ptr (off' := 18) (q_idxa ar_30 rfl rfl (by decide) (by decide)) rfl) ?_
 refine PL_q rfl rfl (q_loadp ty_28 rfl m2 rfl) ?_
 refine PL_q rfl rfl (q_move rfl) ?_
 refine PL_q rfl rfl (q_ptr (off' := 36) (q_idxa ar_30 rfl rfl (by decide) (by decide)) rfl) ?_
 refine PL_q rfl rfl (q_loadp ty_28 rfl m1 rfl) ?_
 refine PL_q rfl rfl (q_as (v' := AV [pI (E (Z.mul a.y.dec b.z.dec))]) (q_ret en_76 (whole_Mul_ret a.y.1 b.z.1 a.y.2 b.z.2) rfl) rfl) ?_
 refine PL_q rfl rfl (q_move rfl) ?_
 refine PL_q rfl rfl (q_ptr (off' := 36) (q_idxa ar_30 rfl rfl (by decide) (by decide)) rfl) ?_
 refine PL_q rfl rfl (q_loadp ty_28 rfl m2 rfl) ?_
 refine PL_q rfl rfl (q_move rfl) ?_
 refine PL_q rfl rfl (q_ptr (off' := 18) (q_idxa ar_30 rfl rfl (by decide) (by decide)) rfl) ?_
 refine PL_q rfl rfl (q_loadp ty_28 rfl m1 rfl) ?_
 refine PL_q rfl rfl (q_as (v' := AV [pI (E (Z.mul a.z.dec b.y.dec))]) (q_ret en_76 (whole_Mul_ret a.z.1 b.y.1 a.z.2 b.y.2) rfl) rfl) ?_
 refine PL_q rfl rfl (q_as (v' := AV [pI (E (Z.sub (Z.mul a.y.dec b.z.dec) (Z.mul a.z.dec b.y.dec)))]) (q_ret en_63 (whole_Sub_ret (E (Z.mul a.y.dec b.z.dec)).1 (E (Z.mul a.z.dec b.y.dec)).1 (E (Z.mul a.y.dec b.z.dec)).2 (E (Z.mul a.z.dec b.y.dec)).2) rfl) (cg2 (fun p q => AV [pI (E (Z.sub p q))]) (E_dec _) (E_dec _))) ?_
 refine PL_q rfl rfl (q_ptr (off' := 0) (q_idxa ar_30 rfl rfl (by decide) (by decide)) rfl) ?_
 refine PL_st rfl (qs := [pI (E (Z.sub (Z.mul a.y.dec b.z.dec) (Z.mul a.z.dec b.y.dec)))]) rfl ty_28 rfl rfl rfl rfl rfl (.head _) hb3 rfl (sd s0) ?_
 refine PL_fin (hK1 _ _ ?_)
 clear hK1 K1
 refine hK_4 _ _ ?_
 try clear hK_4 K_4
 refine W_region_k (fun K1 hK1 => ?_)
 refine WL_q rfl (q_as (v' := .int .i64 1) (q_add rfl rfl) rfl) ?_
 refine WL_q rfl (q_move rfl) ?_
 refine WL_nil (hK1 _ _ ?_)
 clear hK1 K1
 refine hK_2 _ _ ?_
 try clear hK_2 K_2
 refine Un_s (fun K_5 hK_5 => ?_)
 refine W_sr (fun K1 hK1 => ?_)
 refine WL_q rfl (q_as (v' := .bool true) (q_lss rfl rfl) rfl) ?_
 refine WL_nil (hK1 _ _ ?_)
 clear hK1 K1
 refine W_seq (fun K_6 hK_6 => ?_)
 refine W_true rfl ?_
 refine W_skip ?_
 refine hK_6 _ _ ?_
 try clear hK_6 K_6
 refine W_seq (fun K_7 hK_7 => ?_)
 refine W_block ?_
 refine W_sr (fun K1 hK1 => ?_)
 refine WL_q rfl (q_move rfl) ?_
 refine WL_q rfl (q_assign rfl) ?_
 refine WL_nil (hK1 _ _ ?_)
 clear hK1 K1
 refine W_sr (fun K1 hK1 => ?_)
 refine WL_q rfl (q_move rfl) ?_
 refine WL_q rfl (q_as (v' := .int .i64 2) (q_add rfl rfl) rfl) ?_
 refine WL_q rfl (q_as (v' := .int .i64 2) (q_rem rfl rfl (by decide)) rfl) ?_
 refine WL_q rfl (q_move rfl) ?_
 refine WL_q rfl (q_as (v' := .int .i64 3) (q_add rfl rfl) rfl) ?_
 refine WL_q rfl (q_as (v' := .int .i64 0) (q_rem rfl rfl (by decide)) rfl) ?_
 refine WL_q rfl (q_assign rfl) ?_
 refine WL_q rfl (q_assign rfl) ?_
 refine WL_nil (hK1 _ _ ?_)
 clear hK1 K1
 refine W_draw (sd (sk (sk (s0)))) (.quiet 0 [16,17] (.quiet 1 [2,3,7,14,15,16,17] (.quiet 2 [3,7,14,15,16,17] (.quiet 3 [7,14,15,16,17] (.quiet 4 [5,6,7,14,15,16,17] (.quiet 5 [6,7,14,15,16,17] (.quiet 6 [7,14,15,16,17] (.quiet 7 [14,15,16,17] (.quiet 8 [9,10,14,15,16,17] (.quiet 9 [10,14,15,16,17] (.quiet 10 [14,15,16,17] (.quiet 11 [12,13,14,15,16,17] (.quiet 12 [13,14,15,16,17] (.quiet 13 [14,15,16,17] (.quiet 14 [15,16,17] (.quiet 15 [16,17] (.quiet 16 [17] (.only 17 (.fin))))))))))))))))))) [0,1,2,3,4,5,6,7,8,9,10,11,12,13,14,15,16] mix (by kernel_rfl) (by kernel_rfl) (fun K1 hK1 => ?_)
 refine PL_q rfl rfl (q_move rfl) ?_
 refine PL_q rfl rfl (q_move rfl) ?_
 refine PL_q rfl rfl (q_ptr (off' := 36) (q_idxa ar_30 rfl rfl (by decide) (by decide)) rfl) ?_
 refine PL_q rfl rfl (q_loadp ty_28 rfl m2 rfl) ?_
 refine PL_q rfl rfl (q_move rfl) ?_
 refine PL_q rfl rfl (q_ptr (off' := 0) (q_idxa ar_30 rfl rfl (by decide) (by decide)) rfl) ?_
 refine PL_q rfl rfl (q_loadp ty_28 rfl m1 rfl) ?_
 refine PL_q rfl rfl (q_as (v' := AV [pI (E (Z.mul a.z.dec b.x.dec))]) (q_ret en_76 (whole_Mul_ret a.z.1 b.x.1 a.z.2 b.x.2) rfl) rfl) ?_
 refine PL_q rfl rfl (q_move rfl) ?_
 refine PL_q rfl rfl (q_ptr (off' := 0) (q_idxa ar_30 rfl rfl (by decide) (by decide)) rfl) ?_
 refine PL_q rfl rfl (q_loadp ty_28 rfl m2 rfl) ?_
 refine PL_q rfl rfl (q_move rfl) ?_
 refine PL_q rfl rfl (q_ptr (off' := 36) (q_idxa ar_30 rfl rfl (by decide) (by decide)) rfl) ?_
 refine PL_q rfl rfl (q_loadp ty_28 rfl m1 rfl) ?_
 refine PL_q rfl rfl (q_as (v' := AV [pI (E (Z.mul a.x.dec b.z.dec))]) (q_ret en_76 (whole_Mul_ret a.x.1 b.z.1 a.x.2 b.z.2) rfl) rfl) ?_
 refine PL_q rfl rfl (q_as (v' := AV [pI (E (Z.sub (Z.mul a.z.dec b.x.dec) (Z.mul a.x.dec b.z.dec)))]) (q_ret en_63 (whole_Sub_ret (E (Z.mul a.z.dec b.x.dec)).1 (E (Z.mul a.x.dec b.z.dec)).1 (E (Z.mul a.z.dec b.x.dec)).2 (E (Z.mul a.x.dec b.z.dec)).2) rfl) (cg2 (fun p q => AV [pI (E (Z.sub p q))]) (E_dec _) (E_dec _))) ?_
 refine PL_q rfl rfl (q_ptr (off' := 18) (q_idxa ar_30 rfl rfl (by decide) (by decide)) rfl) ?_
 refine PL_st rfl (qs := [pI (E (Z.sub (Z.mul a.z.dec b.x.dec) (Z.mul a.x.dec b.z.dec)))]) rfl ty_28 rfl rfl rfl rfl rfl (.head _) hb3 rfl (sd s0) ?_
 refine PL_fin (hK1 _ _ ?_)
 clear hK1 K1
 refine hK_7 _ _ ?_
 try clear hK_7 K_7
 refine W_region_k (fun K1 hK1 => ?_)
 refine WL_q rfl (q_as (v' := .int .i64 2) (q_add rfl rfl) rfl) ?_
 refine WL_q rfl (q_move rfl) ?_
 refine WL_nil (hK1 _ _ ?_)
 clear hK1 K1
 refine hK_5 _ _ ?_
 try clear hK_5 K_5
 refine Un_s (fun K_8 hK_8 => ?_)
 refine W_sr (fun K1 hK1 => ?_)
 refine WL_q rfl (q_as (v' := .bool true) (q_lss rfl rfl) rfl) ?_
 refine WL_nil (hK1 _ _ ?_)
 clear hK1 K1
 refine W_seq (fun K_9 hK_9 => ?_)
 refine W_true rfl ?_
 refine W_skip ?_
 refine hK_9 _ _ ?_
 try clear hK_9 K_9
 refine W_seq (fun K_10 hK_10 => ?_)
 refine W_block ?_
 refine W_sr (fun K1 hK1 => ?_)
 refine WL_q rfl (q_move rfl) ?_
 refine WL_q rfl (q_assign rfl) ?_
 refine WL_nil (hK1 _ _ ?_)
 clear hK1 K1
 refine W_sr (fun K1 hK1 => ?_)
 refine WL_q rfl (q_move rfl) ?_
 refine WL_q rfl (q_as (v' := .int .i64 3) (q_add rfl rfl) rfl) ?_
 refine WL_q rfl (q_as (v' := .int .i64 0) (q_rem rfl rfl (by decide)) rfl) ?_
 refine WL_q rfl (q_move rfl) ?_
 refine WL_q rfl (q_as (v' := .int .i64 4) (q_add rfl rfl) rfl) ?_
 refine WL_q rfl (q_as (v' := .int .i64 1) (q_rem rfl rfl (by decide)) rfl) ?_
 refine WL_q rfl (q_assign rfl) ?_
 refine WL_q rfl (q_assign rfl) ?_
 refine WL_nil (hK1 _ _ ?_)
 clear hK1 K1
 refine W_draw (sd (sk (sk (s0)))) (.quiet 0 [16,17] (.quiet 1 [2,3,7,14,15,16,17] (.quiet 2 [3,7,14,15,16,17] (.quiet 3 [7,14,15,16,17] (.quiet 4 [5,6,7,14,15,16,17] (.quiet 5 [6,7,14,15,16,17] (.quiet 6 [7,14,15,16,17] (.quiet 7 [14,15,16,17] (.quiet 8 [9,10,14,15,16,17] (.quiet 9 [10,14,15,16,17] (.quiet 10 [14,15,16,17] (.quiet 11 [12,13,14,15,16,17] (.quiet 12 [13,14,15,16,17] (.quiet 13 [14,15,16,17] (.quiet 14 [15,16,17] (.quiet 15 [16,17] (.quiet 16 [17] (.only 17 (.fin))))))))))))))))))) [0,1,2,3,4,5,6,7,8,9,10,11,12,13,14,15,16] mix (by kernel_rfl) (by kernel_rfl) (fun K1 hK1 => ?_)
 refine PL_q rfl rfl (q_move rfl) ?_
 refine PL_q rfl rfl (q_move rfl) ?_
 refine PL_q rfl rfl (q_ptr (off' := 0) (q_idxa ar_30 rfl rfl (by decide) (by decide)) rfl) ?_
 refine PL_q rfl rfl (q_loadp ty_28 rfl m2 rfl) ?_
 refine PL_q rfl rfl (q_move rfl) ?_
 refine PL_q rfl rfl (q_ptr (off' := 18) (q_idxa ar_30 rfl rfl (by decide) (by decide)) rfl) ?_
 refine PL_q rfl rfl (q_loadp ty_28 rfl m1 rfl) ?_
 refine PL_q rfl rfl (q_as (v' := AV [pI (E (Z.mul a.x.dec b.y.dec))]) (q_ret en_76 (whole_Mul_ret a.x.1 b.y.1 a.x.2 b.y.2) rfl) rfl) ?_
 refine PL_q rfl rfl (q_move rfl) ?_
 refine PL_q rfl rfl (q_ptr (off' := 18) (q_idxa ar_30 rfl rfl (by decide) (by decide)) rfl) ?_
 refine PL_q rfl rfl (q_loadp ty_28 rfl m2 rfl) ?_
 refine PL_q rfl rfl (q_move rfl) ?_
 refine PL_q rfl rfl (q_ptr (off' := 0) (q_idxa ar_30 rfl rfl (by decide) (by decide)) rfl) ?_
 refine PL_q rfl rfl (q_loadp ty_28 rfl m1 rfl) ?_
 refine PL_q rfl rfl (q_as (v' := AV [pI (E (Z.mul a.y.dec b.x.dec))]) (q_ret en_76 (whole_Mul_ret a.y.1 b.x.1 a.y.2 b.x.2) rfl) rfl) ?_
 refine PL_q rfl rfl (q_as (v' := AV [pI (E (Z.sub (Z.mul a.x.dec b.y.dec) (Z.mul a.y.dec b.x.dec)))]) (q_ret en_63 (whole_Sub_ret (E (Z.mul a.x.dec b.y.dec)).1 (E (Z.mul a.y.dec b.x.dec)).1 (E (Z.mul a.x.dec b.y.dec)).2 (E (Z.mul a.y.dec b.x.dec)).2) rfl) (cg2 (fun p q => AV [pI (E (Z.sub p q))]) (E_dec _) (E_dec _))) ?_
 refine PL_q rfl rfl (q_ptr (off' := 36) (q_idxa ar_30 rfl rfl (by decide) (by decide)) rfl) ?_
 refine PL_st rfl (qs := [pI (E (Z.sub (Z.mul a.x.dec b.y.dec) (Z.mul a.y.dec b.x.dec)))]) rfl ty_28 rfl rfl rfl rfl rfl (.head _) hb3 rfl (sd s0) ?_
 refine PL_fin (hK1 _ _ ?_)
 clear hK1 K1
 refine hK_10 _ _ ?_
 try clear hK_10 K_10
 refine W_region_k (fun K1 hK1 => ?_)
 refine WL_q rfl (q_as (v' := .int .i64 3) (q_add rfl rfl) rfl) ?_
 refine WL_q rfl (q_move rfl) ?_
 refine WL_nil (hK1 _ _ ?_)
 clear hK1 K1
 refine hK_8 _ _ ?_
 try clear hK_8 K_8
 refine Un_s (fun K_11 hK_11 => ?_)
 refine W_sr (fun K1 hK1 => ?_)
 refine WL_q rfl (q_as (v' := .bool false) (q_lss rfl rfl) rfl) ?_
 refine WL_nil (hK1 _ _ ?_)
 clear hK1 K1
 refine W_seq (fun K_12 hK_12 => ?_)
 refine W_false rfl ?_
 refine W_exit (thenK_x (thenK_x (blockK_hit ?_)))
 refine hK_1 _ _ ?_
 try clear hK_1 K_1
 refine W_sr (fun K1 hK1 => ?_)
 refine WL_q rfl (q_loadp ty_30 rfl m0 rfl) ?_
 refine WL_st (qs := [pI (E (Z.sub (Z.mul a.y.dec b.z.dec) (Z.mul a.z.dec b.y.dec))), pI (E (Z.sub (Z.mul a.z.dec b.x.dec) (Z.mul a.x.dec b.z.dec))), pI (E (Z.sub (Z.mul a.x.dec b.y.dec) (Z.mul a.y.dec b.x.dec)))]) rfl ty_30 rfl rfl rfl rfl rfl (.head _) hb3 ?_
 refine WL_nil (hK1 _ _ ?_)
 clear hK1 K1
 refine W_ret ?_
 refine ret1 rfl (.inr rfl) (resP rfl m0 ty_30 rfl) ?_
 exact (by rfl)

theorem vector_Dot_ret (a : (A3 W)) (b : (A3 W)) :
    Ret Try.prog 10 [AV [ci .i64 a.x.1, ci .i64 a.y.1, ci .i64 a.z.1], AV [ci .i64 b.x.1, ci .i64 b.y.1, ci .i64 b.z.1]] (AV [pI (F_vector_Dot a b)]) := by
 refine ret_of_W (N := 10) Try.func10 rfl rfl (by simp) (fun w0 => ?_)
 simp only [initF, Nat.reduceAdd]
 refine W_sr (fun K1 hK1 => ?_)
 refine WL_r rfl (r_boxp rfl rfl (fun b1 hb1 => ?_))
 refine WL_r rfl (r_boxp rfl rfl (fun b2 hb2 => ?_))
 refine WL_r rfl (r_allocp zp_28 (fun b3 hb3 => ?_))
 refine WL_nil (hK1 _ _ ?_)
 clear hK1 K1
 refine W_sdr (sd (sk (sk (s0)))) (.quiet 0 [1,3,4,5] (.quiet 1 [3,4,5] (.quiet 2 [3,4,5] (.quiet 3 [4,5] (.quiet 4 [5] (.only 5 (.fin))))))) [0,1,2,3,4] mix (by kernel_rfl) (by kernel_rfl) (fun K1 hK1 => ?_)
 refine PL_q rfl rfl (q_loadp ty_23 rfl m2 rfl) ?_
 refine PL_q rfl rfl (q_ret en_45 (vector_numbers_ret a) rfl) ?_
 refine PL_q rfl rfl (q_loadp ty_23 rfl m1 rfl) ?_
 refine PL_q rfl rfl (q_ret en_45 (vector_numbers_ret b) rfl) ?_
 refine PL_q rfl rfl (q_ret en_44 (vector_dot_ret (F_vector_numbers a) (F_vector_numbers b)) rfl) ?_
 refine PL_st rfl (qs := [pI (F_vector_dot (F_vector_numbers a) (F_vector_numbers b))]) rfl ty_28 rfl rfl rfl rfl rfl (.head _) hb3 rfl (sd s0) ?_
 refine PL_fin (hK1 _ _ ?_)
 clear hK1 K1
 refine W_ret ?_
 refine ret1 rfl (.inr rfl) (resP rfl m0 ty_28 rfl) ?_
 exact (by rfl)

theorem vector_Cross_ret (a : (A3 W)) (b : (A3 W)) :
    Ret Try.prog 12 [AV [ci .i64 a.x.1, ci .i64 a.y.1, ci .i64 a.z.1], AV [ci .i64 b.x.1, ci .i64 b.y.1, ci .i64 b.z.1]] (AV [pI ((F_vector_Cross a b).x), pI ((F_vector_Cross a b).y), pI ((F_vector_Cross a b).z)]) := by
 refine ret_of_W (N := 10) Try.func12 rfl rfl (by simp) (fun w0 => ?_)
 simp only [initF, Nat.reduceAdd]
 refine W_sr (fun K1 hK1 => ?_)
 refine WL_r rfl (r_boxp rfl rfl (fun b1 hb1 => ?_))
 refine WL_r rfl (r_boxp rfl rfl (fun b2 hb2 => ?_))
 refine WL_r rfl (r_allocp zp_30 (fun b3 hb3 => ?_))
 refine WL_nil (hK1 _ _ ?_)
 clear hK1 K1
 refine W_sdr (sd (sk (sk (s0)))) (.quiet 0 [1,3,4,5] (.quiet 1 [3,4,5] (.quiet 2 [3,4,5] (.quiet 3 [4,5] (.quiet 4 [5] (.only 5 (.fin))))))) [0,1,2,3,4] mix (by kernel_rfl) (by kernel_rfl) (fun K1 hK1 => ?_)
 refine PL_q rfl rfl (q_loadp ty_23 rfl m2 rfl) ?_
 refine PL_q rfl rfl (q_ret en_45 (vector_numbers_ret a) rfl) ?_
 refine PL_q rfl rfl (q_loadp ty_23 rfl m1 rfl) ?_
 refine PL_q rfl rfl (q_ret en_45 (vector_numbers_ret b) rfl) ?_
 obtain ⟨r4, hr4⟩ := nm ((F_vector_cross (F_vector_numbers a) (F_vector_numbers b)) : (A3 I))
 refine PL_q rfl rfl (q_as (v' := AV [pI r4.x, pI r4.y, pI r4.z]) (q_ret en_46 (vector_cross_ret (F_vector_numbers a) (F_vector_numbers b)) rfl) (by rw [hr4]; first | done | rfl)) ?_
 refine PL_st rfl (qs := [pI r4.x, pI r4.y, pI r4.z]) rfl ty_30 rfl rfl rfl rfl rfl (.head _) hb3 rfl (sd s0) ?_
 refine PL_fin (hK1 _ _ ?_)
 clear hK1 K1
 refine W_ret ?_
 refine ret1 rfl (.inr rfl) (resP rfl m0 ty_30 rfl) ?_
 exact (by subst hr4; rfl)

theorem vector_Primitive_ret (a : (A3 I)) :
    Ret Try.prog 14 [AV [pI a.x, pI a.y, pI a.z]] (.tuple #[AV [ci .i64 ((((F_vector_Primitive a).1).x).1), ci .i64 ((((F_vector_Primitive a).1).y).1), ci .i64 ((((F_vector_Primitive a).1).z).1)], .int .i64 (((F_vector_Primitive a).2).1)]) := by
 refine ret_of_W (N := 58) Try.func14 rfl rfl (by simp) (fun w0 => ?_)
 simp only [initF, Nat.reduceAdd]
 refine W_sr (fun K1 hK1 => ?_)
 refine WL_r rfl (r_boxp rfl rfl (fun b1 hb1 => ?_))
 refine WL_r rfl (r_allocp zp_23 (fun b2 hb2 => ?_))
 refine WL_q rfl (q_assign rfl) ?_
 refine WL_nil (hK1 _ _ ?_)
 clear hK1 K1
 refine W_sr (fun K1 hK1 => ?_)
 refine WL_q rfl (q_as (v' := AV [pI (E (Z.of 0))]) (q_ret en_47 (whole_Of_ret (wl 0).1 (wl 0).2) rfl) rfl) ?_
 refine WL_r rfl (r_allocp zp_28 (fun b3 hb3 => ?_))
 refine WL_st (qs := [pI (E (Z.of 0))]) rfl ty_28 rfl rfl rfl rfl rfl (.head _) hb3 ?_
 refine WL_nil (hK1 _ _ ?_)
 clear hK1 K1
 refine W_seq (fun K_1 hK_1 => ?_)
 refine W_sr (fun K1 hK1 => ?_)
 refine WL_q rfl (q_loadp ty_30 rfl m2 rfl) ?_
 refine WL_q rfl (q_move rfl) ?_
 refine WL_nil (hK1 _ _ ?_)
 clear hK1 K1
 refine W_block ?_
 refine W_un 5 ?_
 refine Un_s (fun K_2 hK_2 => ?_)
 refine W_sr (fun K1 hK1 => ?_)
 refine WL_q rfl (q_as (v' := .bool true) (q_lss rfl rfl) rfl) ?_
 refine WL_nil (hK1 _ _ ?_)
 clear hK1 K1
 refine W_seq (fun K_3 hK_3 => ?_)
 refine W_true rfl ?_
 refine W_skip ?_
 refine hK_3 _ _ ?_
 try clear hK_3 K_3
 refine W_seq (fun K_4 hK_4 => ?_)
 refine W_block ?_
 refine W_sr (fun K1 hK1 => ?_)
 refine WL_q rfl (q_indexa el_30 rfl rfl (by decide) (by decide) rfl) ?_
 refine WL_r rfl (r_allocp zp_28 (fun b4 hb4 => ?_))
 refine WL_st (qs := [pI a.x]) rfl ty_28 rfl rfl rfl rfl rfl (.head _) hb4 ?_
 refine WL_nil (hK1 _ _ ?_)
 clear hK1 K1
 refine W_region_k (fun K1 hK1 => ?_)
 refine WL_q rfl (q_loadp ty_28 rfl m1 rfl) ?_
 refine WL_q rfl (q_loadp ty_28 rfl m0 rfl) ?_
 refine WL_q rfl (q_as (v' := AV [pI (E (Z.gcd (Z.of 0) a.x.dec))]) (q_ret en_48 (whole_Gcd_ret (E (Z.of 0)).1 a.x.1 (E (Z.of 0)).2 a.x.2) rfl) (cg2 (fun p q => AV [pI (E (Z.gcd p q))]) (E_dec _) rfl)) ?_
 refine WL_st (qs := [pI (E (Z.gcd (Z.of 0) a.x.dec))]) rfl ty_28 rfl rfl rfl rfl rfl (.tail _ (.head _)) hb3 ?_
 refine WL_nil (hK1 _ _ ?_)
 clear hK1 K1
 refine hK_4 _ _ ?_
 try clear hK_4 K_4
 refine W_region_k (fun K1 hK1 => ?_)
 refine WL_q rfl (q_as (v' := .int .i64 1) (q_add rfl rfl) rfl) ?_
 refine WL_q rfl (q_move rfl) ?_
 refine WL_nil (hK1 _ _ ?_)
 clear hK1 K1
 refine hK_2 _ _ ?_
 try clear hK_2 K_2
 refine Un_s (fun K_5 hK_5 => ?_)
 refine W_sr (fun K1 hK1 => ?_)
 refine WL_q rfl (q_as (v' := .bool true) (q_lss rfl rfl) rfl) ?_
 refine WL_nil (hK1 _ _ ?_)
 clear hK1 K1
 refine W_seq (fun K_6 hK_6 => ?_)
 refine W_true rfl ?_
 refine W_skip ?_
 refine hK_6 _ _ ?_
 try clear hK_6 K_6
 refine W_seq (fun K_7 hK_7 => ?_)
 refine W_block ?_
 refine W_sr (fun K1 hK1 => ?_)
 refine WL_q rfl (q_indexa el_30 rfl rfl (by decide) (by decide) rfl) ?_
 refine WL_r rfl (r_allocp zp_28 (fun b5 hb5 => ?_))
 refine WL_st (qs := [pI a.y]) rfl ty_28 rfl rfl rfl rfl rfl (.head _) hb5 ?_
 refine WL_nil (hK1 _ _ ?_)
 clear hK1 K1
 refine W_region_k (fun K1 hK1 => ?_)
 refine WL_q rfl (q_loadp ty_28 rfl m2 rfl) ?_
 refine WL_q rfl (q_loadp ty_28 rfl m0 rfl) ?_
 refine WL_q rfl (q_as (v' := AV [pI (E (Z.gcd (Z.gcd (Z.of 0) a.x.dec) a.y.dec))]) (q_ret en_48 (whole_Gcd_ret (E (Z.gcd (Z.of 0) a.x.dec)).1 a.y.1 (E (Z.gcd (Z.of 0) a.x.dec)).2 a.y.2) rfl) (cg2 (fun p q => AV [pI (E (Z.gcd p q))]) (E_dec _) rfl)) ?_
 refine WL_st (qs := [pI (E (Z.gcd (Z.gcd (Z.of 0) a.x.dec) a.y.dec))]) rfl ty_28 rfl rfl rfl rfl rfl (.tail _ (.tail _ (.head _))) hb3 ?_
 refine WL_nil (hK1 _ _ ?_)
 clear hK1 K1
 refine hK_7 _ _ ?_
 try clear hK_7 K_7
 refine W_region_k (fun K1 hK1 => ?_)
 refine WL_q rfl (q_as (v' := .int .i64 2) (q_add rfl rfl) rfl) ?_
 refine WL_q rfl (q_move rfl) ?_
 refine WL_nil (hK1 _ _ ?_)
 clear hK1 K1
 refine hK_5 _ _ ?_
 try clear hK_5 K_5
 refine Un_s (fun K_8 hK_8 => ?_)
 refine W_sr (fun K1 hK1 => ?_)
 refine WL_q rfl (q_as (v' := .bool true) (q_lss rfl rfl) rfl) ?_
 refine WL_nil (hK1 _ _ ?_)
 clear hK1 K1
 refine W_seq (fun K_9 hK_9 => ?_)
 refine W_true rfl ?_
 refine W_skip ?_
 refine hK_9 _ _ ?_
 try clear hK_9 K_9
 refine W_seq (fun K_10 hK_10 => ?_)
 refine W_block ?_
 refine W_sr (fun K1 hK1 => ?_)
 refine WL_q rfl (q_indexa el_30 rfl rfl (by decide) (by decide) rfl) ?_
 refine WL_r rfl (r_allocp zp_28 (fun b6 hb6 => ?_))
 refine WL_st (qs := [pI a.z]) rfl ty_28 rfl rfl rfl rfl rfl (.head _) hb6 ?_
 refine WL_nil (hK1 _ _ ?_)
 clear hK1 K1
 refine W_region_k (fun K1 hK1 => ?_)
 refine WL_q rfl (q_loadp ty_28 rfl m3 rfl) ?_
 refine WL_q rfl (q_loadp ty_28 rfl m0 rfl) ?_
 refine WL_q rfl (q_as (v' := AV [pI (E (Z.gcd (Z.gcd (Z.gcd (Z.of 0) a.x.dec) a.y.dec) a.z.dec))]) (q_ret en_48 (whole_Gcd_ret (E (Z.gcd (Z.gcd (Z.of 0) a.x.dec) a.y.dec)).1 a.z.1 (E (Z.gcd (Z.gcd (Z.of 0) a.x.dec) a.y.dec)).2 a.z.2) rfl) (cg2 (fun p q => AV [pI (E (Z.gcd p q))]) (E_dec _) rfl)) ?_
 refine WL_st (qs := [pI (E (Z.gcd (Z.gcd (Z.gcd (Z.of 0) a.x.dec) a.y.dec) a.z.dec))]) rfl ty_28 rfl rfl rfl rfl rfl (.tail _ (.tail _ (.tail _ (.head _)))) hb3 ?_
 refine WL_nil (hK1 _ _ ?_)
 clear hK1 K1
 refine hK_10 _ _ ?_
 try clear hK_10 K_10
 refine W_region_k (fun K1 hK1 => ?_)
 refine WL_q rfl (q_as (v' := .int .i64 3) (q_add rfl rfl) rfl) ?_
 refine WL_q rfl (q_move rfl) ?_
 refine WL_nil (hK1 _ _ ?_)
 clear hK1 K1
 refine hK_8 _ _ ?_
 try clear hK_8 K_8
 refine Un_s (fun K_11 hK_11 => ?_)
 refine W_sr (fun K1 hK1 => ?_)
 refine WL_q rfl (q_as (v' := .bool false) (q_lss rfl rfl) rfl) ?_
 refine WL_nil (hK1 _ _ ?_)
 clear hK1 K1
 refine W_seq (fun K_12 hK_12 => ?_)
 refine W_false rfl ?_
 refine W_exit (thenK_x (thenK_x (blockK_hit ?_)))
 refine hK_1 _ _ ?_
 try clear hK_1 K_1
 refine W_seq (fun K_13 hK_13 => ?_)
 refine W_block ?_
 refine W_sr (fun K1 hK1 => ?_)
 refine WL_q rfl (q_ptr (off' := 0) (q_faddr fd_28_0 (by decide) rfl) rfl) ?_
 refine WL_q rfl (q_loadc (v := .bool ((E (Z.gcd (Z.gcd (Z.gcd (Z.of 0) a.x.dec) a.y.dec) a.z.dec)).1.bad)) ty_4 rfl m3 rfl) ?_
 refine WL_q rfl (q_assign rfl) ?_
 refine WL_nil (hK1 _ _ ?_)
 clear hK1 K1
 rcases bt ((E (Z.gcd (Z.gcd (Z.gcd (Z.of 0) a.x.dec) a.y.dec) a.z.dec)).1.bad) with h7 | h7
 ·skip
  refine W_t h7 rfl ?_
  refine W_sr (fun K1 hK1 => ?_)
  refine WL_q rfl (q_buildap zp_23 ar_23 rfl (.nil _)) ?_
  refine WL_st (qs := [ci .i64 0, ci .i64 0, ci .i64 0]) rfl ty_23 rfl rfl rfl rfl rfl (.tail _ (.tail _ (.tail _ (.tail _ (.head _))))) hb2 ?_
  refine WL_q rfl (q_assign rfl) ?_
  refine WL_nil (hK1 _ _ ?_)
  clear hK1 K1
  refine W_ret ?_
  refine blockK_r (thenK_r (ret2 rfl (.inr rfl) (resP rfl m4 ty_23 rfl) rfl ?_))
  exact (by exact congrArg (fun r : (A3 W) × W => (.tuple #[AV [ci .i64 r.1.x.1, ci .i64 r.1.y.1, ci .i64 r.1.z.1], .int .i64 r.2.1] : Value)) (show _ = (F_vector_Primitive a) from bif_t h7 rfl))
 ·skip
  refine W_f h7 rfl ?_
  refine W_sr (fun K1 hK1 => ?_)
  refine WL_q rfl (q_loadp ty_28 rfl m3 rfl) ?_
  refine WL_q rfl (q_as (v' := .int .i64 ((Z.signW (Z.gcd (Z.gcd (Z.gcd (Z.of 0) a.x.dec) a.y.dec) a.z.dec)).1)) (q_ret en_49 (whole_Sign_ret (E (Z.gcd (Z.gcd (Z.gcd (Z.of 0) a.x.dec) a.y.dec) a.z.dec)).1 (E (Z.gcd (Z.gcd (Z.gcd (Z.of 0) a.x.dec) a.y.dec) a.z.dec)).2) rfl) (cg1 (fun p => Value.int .i64 (Z.signW p).1) (E_dec _))) ?_
  refine WL_q rfl (q_as (v' := .bool ((Z.signW (Z.gcd (Z.gcd (Z.gcd (Z.of 0) a.x.dec) a.y.dec) a.z.dec)).1 == 0)) (q_eql rfl rfl) rfl) ?_
  refine WL_q rfl (q_assign rfl) ?_
  refine WL_nil (hK1 _ _ ?_)
  clear hK1 K1
  rcases bt ((Z.signW (Z.gcd (Z.gcd (Z.gcd (Z.of 0) a.x.dec) a.y.dec) a.z.dec)).1 == 0) with h8 | h8
  ·skip
   refine W_t h8 rfl ?_
   refine W_sr (fun K1 hK1 => ?_)
   refine WL_q rfl (q_buildap zp_23 ar_23 rfl (.nil _)) ?_
   refine WL_st (qs := [ci .i64 0, ci .i64 0, ci .i64 0]) rfl ty_23 rfl rfl rfl rfl rfl (.tail _ (.tail _ (.tail _ (.tail _ (.head _))))) hb2 ?_
   refine WL_q rfl (q_assign rfl) ?_
   refine WL_nil (hK1 _ _ ?_)
   clear hK1 K1
   refine W_ret ?_
   refine blockK_r (thenK_r (ret2 rfl (.inr rfl) (resP rfl m4 ty_23 rfl) rfl ?_))
   exact (by exact congrArg (fun r : (A3 W) × W => (.tuple #[AV [ci .i64 r.1.x.1, ci .i64 r.1.y.1, ci .i64 r.1.z.1], .int .i64 r.2.1] : Value)) (show _ = (F_vector_Primitive a) from bif_f h7 (bif_t h8 rfl)))
  ·skip
   refine W_f h8 rfl ?_
   refine W_skip ?_
   refine hK_13 _ _ ?_
   try clear hK_13 K_13
   refine W_sr (fun K1 hK1 => ?_)
   refine WL_r rfl (r_allocp zp_23 (fun b9 hb9 => ?_))
   refine WL_nil (hK1 _ _ ?_)
   clear hK1 K1
   refine W_seq (fun K_14 hK_14 => ?_)
   refine W_sr (fun K1 hK1 => ?_)
   refine WL_q rfl (q_loadp ty_30 rfl m6 rfl) ?_
   refine WL_q rfl (q_move rfl) ?_
   refine WL_nil (hK1 _ _ ?_)
   clear hK1 K1
   refine W_block ?_
   refine W_un 5 ?_
   refine Un_s (fun K_15 hK_15 => ?_)
   refine W_sr (fun K1 hK1 => ?_)
   refine WL_q rfl (q_as (v' := .bool true) (q_lss rfl rfl) rfl) ?_
   refine WL_nil (hK1 _ _ ?_)
   clear hK1 K1
   refine W_seq (fun K_16 hK_16 => ?_)
   refine W_true rfl ?_
   refine W_skip ?_
   refine hK_16 _ _ ?_
   try clear hK_16 K_16
   refine W_seq (fun K_17 hK_17 => ?_)
   refine W_block ?_
   refine W_sr (fun K1 hK1 => ?_)
   refine WL_q rfl (q_move rfl) ?_
   refine WL_q rfl (q_indexa el_30 rfl rfl (by decide) (by decide) rfl) ?_
   refine WL_r rfl (r_allocp zp_28 (fun b10 hb10 => ?_))
   refine WL_q rfl (q_assign rfl) ?_
   refine WL_st (qs := [pI a.x]) rfl ty_28 rfl rfl rfl rfl rfl (.head _) hb10 ?_
   refine WL_nil (hK1 _ _ ?_)
   clear hK1 K1
   refine W_sr (fun K1 hK1 => ?_)
   refine WL_q rfl (q_loadp ty_28 rfl m0 rfl) ?_
   refine WL_q rfl (q_loadp ty_28 rfl m5 rfl) ?_
   obtain ⟨r11, hr11⟩ := nm ((E (Z.quo a.x.dec (Z.gcd (Z.gcd (Z.gcd (Z.of 0) a.x.dec) a.y.dec) a.z.dec))) : I)
   refine WL_q rfl (q_as (v' := AV [pI r11]) (q_ret en_51 (whole_Quo_ret a.x.1 (E (Z.gcd (Z.gcd (Z.gcd (Z.of 0) a.x.dec) a.y.dec) a.z.dec)).1 a.x.2 (E (Z.gcd (Z.gcd (Z.gcd (Z.of 0) a.x.dec) a.y.dec) a.z.dec)).2) rfl) ((cg2 (fun p q => AV [pI (E (Z.quo p q))]) rfl (E_dec _)).trans (by rw [hr11]))) ?_
   refine WL_q rfl (q_as (v' := .tuple #[.int .i64 ((Z.smallW r11.dec).1), .bool r11.dec.small.2]) (q_ret en_50 (whole_Small_ret r11.1 r11.2) rfl) rfl) ?_
   refine WL_q rfl (q_move rfl) ?_
   refine WL_q rfl (q_extract rfl rfl) ?_
   refine WL_q rfl (q_extract rfl rfl) ?_
   refine WL_q rfl (q_assign rfl) ?_
   refine WL_q rfl (q_assign rfl) ?_
   refine WL_nil (hK1 _ _ ?_)
   clear hK1 K1
   refine W_seq (fun K_18 hK_18 => ?_)
   refine W_join [42, 43, 44, 45, 46, 47, 48, 49, 50, 51] (fun g M => (g 51 = .bool (!r11.dec.small.2 || (decide (2305843009213693952 ≤ (Z.smallW r11.dec).1) || decide ((Z.smallW r11.dec).1 ≤ (-2305843009213693952))))) ∧ M = [⟨b10, 28, flat [pI a.x]⟩, ⟨b9, 23, flat [ci .i64 0, ci .i64 0, ci .i64 0]⟩, ⟨b6, 28, flat [pI a.z]⟩, ⟨b5, 28, flat [pI a.y]⟩, ⟨b4, 28, flat [pI a.x]⟩, ⟨b3, 28, flat [pI (E (Z.gcd (Z.gcd (Z.gcd (Z.of 0) a.x.dec) a.y.dec) a.z.dec))]⟩, ⟨b2, 23, flat [ci .i64 0, ci .i64 0, ci .i64 0]⟩, ⟨b1, 30, flat [pI a.x, pI a.y, pI a.z]⟩]) (fun K_19 hK_19 => ?_) ?_
   ·skip
    refine W_region_k (fun K1 hK1 => ?_)
    refine WL_q rfl (q_move rfl) ?_
    refine WL_q rfl (q_not rfl) ?_
    rcases bt r11.dec.small.2 with h14 | h14
    ·skip
     refine WL_q rfl (q_as (v' := .bool false) (q_move rfl) (congrArg Value.bool (not_f h14))) ?_
     refine WL_q rfl (q_move rfl) ?_
     refine WL_q rfl (q_as (v' := .bool (decide (2305843009213693952 ≤ (Z.smallW r11.dec).1))) (q_geq rfl rfl) rfl) ?_
     refine WL_q rfl (q_pick rfl rfl) ?_
     rcases bt (decide (2305843009213693952 ≤ (Z.smallW r11.dec).1)) with h15 | h15
     ·skip
      refine WL_q rfl (q_as (v' := .bool true) (q_move rfl) (congrArg Value.bool h15)) ?_
      refine WL_n rfl ?_
      refine WL_n rfl ?_
      refine WL_q rfl (q_pick rfl rfl) ?_
      refine WL_nil (hK1 _ _ ?_)
      clear hK1 K1
      refine hK_19 _ _ (by repeat (first | exact .refl | refine .cons rfl ?_)) ⟨_, s0, ?s51, rfl⟩
      case s51 => exact congrArg Value.bool (nor_t h14 (or_t h15))
     ·skip
      refine WL_q rfl (q_as (v' := .bool false) (q_move rfl) (congrArg Value.bool h15)) ?_
      refine WL_q rfl (q_move rfl) ?_
      refine WL_q rfl (q_as (v' := .bool (decide ((Z.smallW r11.dec).1 ≤ (-2305843009213693952)))) (q_leq rfl rfl) rfl) ?_
      refine WL_q rfl (q_pick rfl rfl) ?_
      refine WL_nil (hK1 _ _ ?_)
      clear hK1 K1
      refine hK_19 _ _ (by repeat (first | exact .refl | refine .cons rfl ?_)) ⟨_, s0, ?s51, rfl⟩
      case s51 => exact congrArg Value.bool (nor_t h14 (or_f h15 rfl))
    ·skip
     refine WL_q rfl (q_as (v' := .bool true) (q_move rfl) (congrArg Value.bool (not_t h14))) ?_
     refine WL_n rfl ?_
     refine WL_n rfl ?_
     refine WL_q rfl (q_pick rfl rfl) ?_
     refine WL_q rfl (q_move rfl) ?_
     refine WL_n rfl ?_
     refine WL_n rfl ?_
     refine WL_q rfl (q_pick rfl rfl) ?_
     refine WL_nil (hK1 _ _ ?_)
     clear hK1 K1
     refine hK_19 _ _ (by repeat (first | exact .refl | refine .cons rfl ?_)) ⟨_, s0, ?s51, rfl⟩
     case s51 => exact congrArg Value.bool (nor_f h14)
   ·skip
    rintro g16 M ⟨hg51, rfl⟩
    simp only [setG, hg51]
    clear hg51
    rcases bt (!r11.dec.small.2 || (decide (2305843009213693952 ≤ (Z.smallW r11.dec).1) || decide ((Z.smallW r11.dec).1 ≤ (-2305843009213693952)))) with h17 | h17
    ·skip
     refine W_t h17 rfl ?_
     refine W_sr (fun K1 hK1 => ?_)
     refine WL_q rfl (q_buildap zp_23 ar_23 rfl (.nil _)) ?_
     refine WL_st (qs := [ci .i64 0, ci .i64 0, ci .i64 0]) rfl ty_23 rfl rfl rfl rfl rfl (.tail _ (.tail _ (.tail _ (.tail _ (.tail _ (.tail _ (.head _))))))) hb2 ?_
     refine WL_q rfl (q_assign rfl) ?_
     refine WL_nil (hK1 _ _ ?_)
     clear hK1 K1
     refine W_ret ?_
     refine thenK_r (blockK_r (thenK_r (thenK_r (blockK_r (thenK_r (ret2 rfl (.inr rfl) (resP rfl m6 ty_23 rfl) rfl ?_))))))
     exact (by subst hr11; exact congrArg (fun r : (A3 W) × W => (.tuple #[AV [ci .i64 r.1.x.1, ci .i64 r.1.y.1, ci .i64 r.1.z.1], .int .i64 r.2.1] : Value)) (show _ = (F_vector_Primitive a) from bif_f h7 (bif_f h8 (bif_t h17 rfl))))
    ·skip
     refine W_f h17 rfl ?_
     refine W_skip ?_
     refine hK_18 _ _ ?_
     try clear hK_18 K_18
     refine W_region_k (fun K1 hK1 => ?_)
     refine WL_q rfl (q_move rfl) ?_
     refine WL_q rfl (q_move rfl) ?_
     refine WL_q rfl (q_ptr (off' := 0) (q_idxa ar_23 rfl rfl (by decide) (by decide)) rfl) ?_
     refine WL_st (qs := [ci .i64 ((Z.smallW r11.dec).1)]) rfl ty_3 rfl rfl rfl rfl rfl (.tail _ (.head _)) hb9 ?_
     refine WL_nil (hK1 _ _ ?_)
     clear hK1 K1
     refine hK_17 _ _ ?_
     try clear hK_17 K_17
     refine W_region_k (fun K1 hK1 => ?_)
     refine WL_q rfl (q_as (v' := .int .i64 1) (q_add rfl rfl) rfl) ?_
     refine WL_q rfl (q_move rfl) ?_
     refine WL_nil (hK1 _ _ ?_)
     clear hK1 K1
     refine hK_15 _ _ ?_
     try clear hK_15 K_15
     refine Un_s (fun K_20 hK_20 => ?_)
     refine W_sr (fun K1 hK1 => ?_)
     refine WL_q rfl (q_as (v' := .bool true) (q_lss rfl rfl) rfl) ?_
     refine WL_nil (hK1 _ _ ?_)
     clear hK1 K1
     refine W_seq (fun K_21 hK_21 => ?_)
     refine W_true rfl ?_
     refine W_skip ?_
     refine hK_21 _ _ ?_
     try clear hK_21 K_21
     refine W_seq (fun K_22 hK_22 => ?_)
     refine W_block ?_
     refine W_sr (fun K1 hK1 => ?_)
     refine WL_q rfl (q_move rfl) ?_
     refine WL_q rfl (q_indexa el_30 rfl rfl (by decide) (by decide) rfl) ?_
     refine WL_r rfl (r_allocp zp_28 (fun b18 hb18 => ?_))
     refine WL_q rfl (q_assign rfl) ?_
     refine WL_st (qs := [pI a.y]) rfl ty_28 rfl rfl rfl rfl rfl (.head _) hb18 ?_
     refine WL_nil (hK1 _ _ ?_)
     clear hK1 K1
     refine W_sr (fun K1 hK1 => ?_)
     refine WL_q rfl (q_loadp ty_28 rfl m0 rfl) ?_
     refine WL_q rfl (q_loadp ty_28 rfl m6 rfl) ?_
     obtain ⟨r19, hr19⟩ := nm ((E (Z.quo a.y.dec (Z.gcd (Z.gcd (Z.gcd (Z.of 0) a.x.dec) a.y.dec) a.z.dec))) : I)
     refine WL_q rfl (q_as (v' := AV [pI r19]) (q_ret en_51 (whole_Quo_ret a.y.1 (E (Z.gcd (Z.gcd (Z.gcd (Z.of 0) a.x.dec) a.y.dec) a.z.dec)).1 a.y.2 (E (Z.gcd (Z.gcd (Z.gcd (Z.of 0) a.x.dec) a.y.dec) a.z.dec)).2) rfl) ((cg2 (fun p q => AV [pI (E (Z.quo p q))]) rfl (E_dec _)).trans (by rw [hr19]))) ?_
     refine WL_q rfl (q_as (v' := .tuple #[.int .i64 ((Z.smallW r19.dec).1), .bool r19.dec.small.2]) (q_ret en_50 (whole_Small_ret r19.1 r19.2) rfl) rfl) ?_
     refine WL_q rfl (q_move rfl) ?_
     refine WL_q rfl (q_extract rfl rfl) ?_
     refine WL_q rfl (q_extract rfl rfl) ?_
     refine WL_q rfl (q_assign rfl) ?_
     refine WL_q rfl (q_assign rfl) ?_
     refine WL_nil (hK1 _ _ ?_)
     clear hK1 K1
     refine W_seq (fun K_23 hK_23 => ?_)
     refine W_join [42, 43, 44, 45, 46, 47, 48, 49, 50, 51] (fun g M => (g 51 = .bool (!r19.dec.small.2 || (decide (2305843009213693952 ≤ (Z.smallW r19.dec).1) || decide ((Z.smallW r19.dec).1 ≤ (-2305843009213693952))))) ∧ M = [⟨b18, 28, flat [pI a.y]⟩, ⟨b10, 28, flat [pI a.x]⟩, ⟨b9, 23, flat [ci .i64 ((Z.smallW r11.dec).1), ci .i64 0, ci .i64 0]⟩, ⟨b6, 28, flat [pI a.z]⟩, ⟨b5, 28, flat [pI a.y]⟩, ⟨b4, 28, flat [pI a.x]⟩, ⟨b3, 28, flat [pI (E (Z.gcd (Z.gcd (Z.gcd (Z.of 0) a.x.dec) a.y.dec) a.z.dec))]⟩, ⟨b2, 23, flat [ci .i64 0, ci .i64 0, ci .i64 0]⟩, ⟨b1, 30, flat [pI a.x, pI a.y, pI a.z]⟩]) (fun K_24 hK_24 => ?_) ?_
     ·skip
      refine W_region_k (fun K1 hK1 => ?_)
      refine WL_q rfl (q_move rfl) ?_
      refine WL_q rfl (q_not rfl) ?_
      rcases bt r19.dec.small.2 with h22 | h22
      ·skip
       refine WL_q rfl (q_as (v' := .bool false) (q_move rfl) (congrArg Value.bool (not_f h22))) ?_
       refine WL_q rfl (q_move rfl) ?_
       refine WL_q rfl (q_as (v' := .bool (decide (2305843009213693952 ≤ (Z.smallW r19.dec).1))) (q_geq rfl rfl) rfl) ?_
       refine WL_q rfl (q_pick rfl rfl) ?_
       rcases bt (decide (2305843009213693952 ≤ (Z.smallW r19.dec).1)) with h23 | h23
       ·skip
        refine WL_q rfl (q_as (v' := .bool true) (q_move rfl) (congrArg Value.bool h23)) ?_
        refine WL_n rfl ?_
        refine WL_n rfl ?_
        refine WL_q rfl (q_pick rfl rfl) ?_
        refine WL_nil (hK1 _ _ ?_)
        clear hK1 K1
        refine hK_24 _ _ (by repeat (first | exact .refl | refine .cons rfl ?_)) ⟨_, s0, ?s51, rfl⟩
        case s51 => exact congrArg Value.bool (nor_t h22 (or_t h23))
       ·skip
        refine WL_q rfl (q_as (v' := .bool false) (q_move rfl) (congrArg Value.bool h23)) ?_
        refine WL_q rfl (q_move rfl) ?_
        refine WL_q rfl (q_as (v' := .bool (decide ((Z.smallW r19.dec).1 ≤ (-2305843009213693952)))) (q_leq rfl rfl) rfl) ?_
        refine WL_q rfl (q_pick rfl rfl) ?_
        refine WL_nil (hK1 _ _ ?_)
        clear hK1 K1
        refine hK_24 _ _ (by repeat (first | exact .refl | refine .cons rfl ?_)) ⟨_, s0, ?s51, rfl⟩
        case s51 => exact congrArg Value.bool (nor_t h22 (or_f h23 rfl))
      ·skip
       refine WL_q rfl (q_as (v' := .bool true) (q_move rfl) (congrArg Value.bool (not_t h22))) ?_
       refine WL_n rfl ?_
       refine WL_n rfl ?_
       refine WL_q rfl (q_pick rfl rfl) ?_
       refine WL_q rfl (q_move rfl) ?_
       refine WL_n rfl ?_
       refine WL_n rfl ?_
       refine WL_q rfl (q_pick rfl rfl) ?_
       refine WL_nil (hK1 _ _ ?_)
       clear hK1 K1
       refine hK_24 _ _ (by repeat (first | exact .refl | refine .cons rfl ?_)) ⟨_, s0, ?s51, rfl⟩
       case s51 => exact congrArg Value.bool (nor_f h22)
     ·skip
      rintro g24 M ⟨hg51, rfl⟩
      simp only [setG, hg51]
      clear hg51
      rcases bt (!r19.dec.small.2 || (decide (2305843009213693952 ≤ (Z.smallW r19.dec).1) || decide ((Z.smallW r19.dec).1 ≤ (-2305843009213693952)))) with h25 | h25
      ·skip
       refine W_t h25 rfl ?_
       refine W_sr (fun K1 hK1 => ?_)
       refine WL_q rfl (q_buildap zp_23 ar_23 rfl (.nil _)) ?_
       refine WL_st (qs := [ci .i64 0, ci .i64 0, ci .i64 0]) rfl ty_23 rfl rfl rfl rfl rfl (.tail _ (.tail _ (.tail _ (.tail _ (.tail _ (.tail _ (.tail _ (.head _)))))))) hb2 ?_
       refine WL_q rfl (q_assign rfl) ?_
       refine WL_nil (hK1 _ _ ?_)
       clear hK1 K1
       refine W_ret ?_
       refine thenK_r (blockK_r (thenK_r (thenK_r (blockK_r (thenK_r (ret2 rfl (.inr rfl) (resP rfl m7 ty_23 rfl) rfl ?_))))))
       exact (by subst hr19; subst hr11; exact congrArg (fun r : (A3 W) × W => (.tuple #[AV [ci .i64 r.1.x.1, ci .i64 r.1.y.1, ci .i64 r.1.z.1], .int .i64 r.2.1] : Value)) (show _ = (F_vector_Primitive a) from bif_f h7 (bif_f h8 (bif_f h17 (bif_t h25 rfl)))))
      ·skip
       refine W_f h25 rfl ?_
       refine W_skip ?_
       refine hK_23 _ _ ?_
       try clear hK_23 K_23
       refine W_region_k (fun K1 hK1 => ?_)
       refine WL_q rfl (q_move rfl) ?_
       refine WL_q rfl (q_move rfl) ?_
       refine WL_q rfl (q_ptr (off' := 1) (q_idxa ar_23 rfl rfl (by decide) (by decide)) rfl) ?_
       refine WL_st (qs := [ci .i64 ((Z.smallW r19.dec).1)]) rfl ty_3 rfl rfl rfl rfl rfl (.tail _ (.tail _ (.head _))) hb9 ?_
       refine WL_nil (hK1 _ _ ?_)
       clear hK1 K1
       refine hK_22 _ _ ?_
       try clear hK_22 K_22
       refine W_region_k (fun K1 hK1 => ?_)
       refine WL_q rfl (q_as (v' := .int .i64 2) (q_add rfl rfl) rfl) ?_
       refine WL_q rfl (q_move rfl) ?_
       refine WL_nil (hK1 _ _ ?_)
       clear hK1 K1
       refine hK_20 _ _ ?_
       try clear hK_20 K_20
       refine Un_s (fun K_25 hK_25 => ?_)
       refine W_sr (fun K1 hK1 => ?_)
       refine WL_q rfl (q_as (v' := .bool true) (q_lss rfl rfl) rfl) ?_
       refine WL_nil (hK1 _ _ ?_)
       clear hK1 K1
       refine W_seq (fun K_26 hK_26 => ?_)
       refine W_true rfl ?_
       refine W_skip ?_
       refine hK_26 _ _ ?_
       try clear hK_26 K_26
       refine W_seq (fun K_27 hK_27 => ?_)
       refine W_block ?_
       refine W_sr (fun K1 hK1 => ?_)
       refine WL_q rfl (q_move rfl) ?_
       refine WL_q rfl (q_indexa el_30 rfl rfl (by decide) (by decide) rfl) ?_
       refine WL_r rfl (r_allocp zp_28 (fun b26 hb26 => ?_))
       refine WL_q rfl (q_assign rfl) ?_
       refine WL_st (qs := [pI a.z]) rfl ty_28 rfl rfl rfl rfl rfl (.head _) hb26 ?_
       refine WL_nil (hK1 _ _ ?_)
       clear hK1 K1
       refine W_sr (fun K1 hK1 => ?_)
       refine WL_q rfl (q_loadp ty_28 rfl m0 rfl) ?_
       refine WL_q rfl (q_loadp ty_28 rfl m7 rfl) ?_
       obtain ⟨r27, hr27⟩ := nm ((E (Z.quo a.z.dec (Z.gcd (Z.gcd (Z.gcd (Z.of 0) a.x.dec) a.y.dec) a.z.dec))) : I)
       refine WL_q rfl (q_as (v' := AV [pI r27]) (q_ret en_51 (whole_Quo_ret a.z.1 (E (Z.gcd (Z.gcd (Z.gcd (Z.of 0) a.x.dec) a.y.dec) a.z.dec)).1 a.z.2 (E (Z.gcd (Z.gcd (Z.gcd (Z.of 0) a.x.dec) a.y.dec) a.z.dec)).2) rfl) ((cg2 (fun p q => AV [pI (E (Z.quo p q))]) rfl (E_dec _)).trans (by rw [hr27]))) ?_
       refine WL_q rfl (q_as (v' := .tuple #[.int .i64 ((Z.smallW r27.dec).1), .bool r27.dec.small.2]) (q_ret en_50 (whole_Small_ret r27.1 r27.2) rfl) rfl) ?_
       refine WL_q rfl (q_move rfl) ?_
       refine WL_q rfl (q_extract rfl rfl) ?_
       refine WL_q rfl (q_extract rfl rfl) ?_
       refine WL_q rfl (q_assign rfl) ?_
       refine WL_q rfl (q_assign rfl) ?_
       refine WL_nil (hK1 _ _ ?_)
       clear hK1 K1
       refine W_seq (fun K_28 hK_28 => ?_)
       refine W_join [42, 43, 44, 45, 46, 47, 48, 49, 50, 51] (fun g M => (g 51 = .bool (!r27.dec.small.2 || (decide (2305843009213693952 ≤ (Z.smallW r27.dec).1) || decide ((Z.smallW r27.dec).1 ≤ (-2305843009213693952))))) ∧ M = [⟨b26, 28, flat [pI a.z]⟩, ⟨b18, 28, flat [pI a.y]⟩, ⟨b10, 28, flat [pI a.x]⟩, ⟨b9, 23, flat [ci .i64 ((Z.smallW r11.dec).1), ci .i64 ((Z.smallW r19.dec).1), ci .i64 0]⟩, ⟨b6, 28, flat [pI a.z]⟩, ⟨b5, 28, flat [pI a.y]⟩, ⟨b4, 28, flat [pI a.x]⟩, ⟨b3, 28, flat [pI (E (Z.gcd (Z.gcd (Z.gcd (Z.of 0) a.x.dec) a.y.dec) a.z.dec))]⟩, ⟨b2, 23, flat [ci .i64 0, ci .i64 0, ci .i64 0]⟩, ⟨b1, 30, flat [pI a.x, pI a.y, pI a.z]⟩]) (fun K_29 hK_29 => ?_) ?_
       ·skip
        refine W_region_k (fun K1 hK1 => ?_)
        refine WL_q rfl (q_move rfl) ?_
        refine WL_q rfl (q_not rfl) ?_
        rcases bt r27.dec.small.2 with h30 | h30
        ·skip
         refine WL_q rfl (q_as (v' := .bool false) (q_move rfl) (congrArg Value.bool (not_f h30))) ?_
         refine WL_q rfl (q_move rfl) ?_
         refine WL_q rfl (q_as (v' := .bool (decide (2305843009213693952 ≤ (Z.smallW r27.dec).1))) (q_geq rfl rfl) rfl) ?_
         refine WL_q rfl (q_pick rfl rfl) ?_
         rcases bt (decide (2305843009213693952 ≤ (Z.smallW r27.dec).1)) with h31 | h31
         ·skip
          refine WL_q rfl (q_as (v' := .bool true) (q_move rfl) (congrArg Value.bool h31)) ?_
          refine WL_n rfl ?_
          refine WL_n rfl ?_
          refine WL_q rfl (q_pick rfl rfl) ?_
          refine WL_nil (hK1 _ _ ?_)
          clear hK1 K1
          refine hK_29 _ _ (by repeat (first | exact .refl | refine .cons rfl ?_)) ⟨_, s0, ?s51, rfl⟩
          case s51 => exact congrArg Value.bool (nor_t h30 (or_t h31))
         ·skip
          refine WL_q rfl (q_as (v' := .bool false) (q_move rfl) (congrArg Value.bool h31)) ?_
          refine WL_q rfl (q_move rfl) ?_
          refine WL_q rfl (q_as (v' := .bool (decide ((Z.smallW r27.dec).1 ≤ (-2305843009213693952)))) (q_leq rfl rfl) rfl) ?_
          refine WL_q rfl (q_pick rfl rfl) ?_
          refine WL_nil (hK1 _ _ ?_)
          clear hK1 K1
          refine hK_29 _ _ (by repeat (first | exact .refl | refine .cons rfl ?_)) ⟨_, s0, ?s51, rfl⟩
          case s51 => exact congrArg Value.bool (nor_t h30 (or_f h31 rfl))
        ·skip
         refine WL_q rfl (q_as (v' := .bool true) (q_move rfl) (congrArg Value.bool (not_t h30))) ?_
         refine WL_n rfl ?_
         refine WL_n rfl ?_
         refine WL_q rfl (q_pick rfl rfl) ?_
         refine WL_q rfl (q_move rfl) ?_
         refine WL_n rfl ?_
         refine WL_n rfl ?_
         refine WL_q rfl (q_pick rfl rfl) ?_
         refine WL_nil (hK1 _ _ ?_)
         clear hK1 K1
         refine hK_29 _ _ (by repeat (first | exact .refl | refine .cons rfl ?_)) ⟨_, s0, ?s51, rfl⟩
         case s51 => exact congrArg Value.bool (nor_f h30)
       ·skip
        rintro g32 M ⟨hg51, rfl⟩
        simp only [setG, hg51]
        clear hg51
        rcases bt (!r27.dec.small.2 || (decide (2305843009213693952 ≤ (Z.smallW r27.dec).1) || decide ((Z.smallW r27.dec).1 ≤ (-2305843009213693952)))) with h33 | h33
        ·skip
         refine W_t h33 rfl ?_
         refine W_sr (fun K1 hK1 => ?_)
         refine WL_q rfl (q_buildap zp_23 ar_23 rfl (.nil _)) ?_
         refine WL_st (qs := [ci .i64 0, ci .i64 0, ci .i64 0]) rfl ty_23 rfl rfl rfl rfl rfl (.tail _ (.tail _ (.tail _ (.tail _ (.tail _ (.tail _ (.tail _ (.tail _ (.head _))))))))) hb2 ?_
         refine WL_q rfl (q_assign rfl) ?_
         refine WL_nil (hK1 _ _ ?_)
         clear hK1 K1
         refine W_ret ?_
         refine thenK_r (blockK_r (thenK_r (thenK_r (blockK_r (thenK_r (ret2 rfl (.inr rfl) (resP rfl m8 ty_23 rfl) rfl ?_))))))
         exact (by subst hr27; subst hr19; subst hr11; exact congrArg (fun r : (A3 W) × W => (.tuple #[AV [ci .i64 r.1.x.1, ci .i64 r.1.y.1, ci .i64 r.1.z.1], .int .i64 r.2.1] : Value)) (show _ = (F_vector_Primitive a) from bif_f h7 (bif_f h8 (bif_f h17 (bif_f h25 (bif_t h33 rfl))))))
        ·skip
         refine W_f h33 rfl ?_
         refine W_skip ?_
         refine hK_28 _ _ ?_
         try clear hK_28 K_28
         refine W_region_k (fun K1 hK1 => ?_)
         refine WL_q rfl (q_move rfl) ?_
         refine WL_q rfl (q_move rfl) ?_
         refine WL_q rfl (q_ptr (off' := 2) (q_idxa ar_23 rfl rfl (by decide) (by decide)) rfl) ?_
         refine WL_st (qs := [ci .i64 ((Z.smallW r27.dec).1)]) rfl ty_3 rfl rfl rfl rfl rfl (.tail _ (.tail _ (.tail _ (.head _)))) hb9 ?_
         refine WL_nil (hK1 _ _ ?_)
         clear hK1 K1
         refine hK_27 _ _ ?_
         try clear hK_27 K_27
         refine W_region_k (fun K1 hK1 => ?_)
         refine WL_q rfl (q_as (v' := .int .i64 3) (q_add rfl rfl) rfl) ?_
         refine WL_q rfl (q_move rfl) ?_
         refine WL_nil (hK1 _ _ ?_)
         clear hK1 K1
         refine hK_25 _ _ ?_
         try clear hK_25 K_25
         refine Un_s (fun K_30 hK_30 => ?_)
         refine W_sr (fun K1 hK1 => ?_)
         refine WL_q rfl (q_as (v' := .bool false) (q_lss rfl rfl) rfl) ?_
         refine WL_nil (hK1 _ _ ?_)
         clear hK1 K1
         refine W_seq (fun K_31 hK_31 => ?_)
         refine W_false rfl ?_
         refine W_exit (thenK_x (thenK_x (blockK_hit ?_)))
         refine hK_14 _ _ ?_
         try clear hK_14 K_14
         refine W_sr (fun K1 hK1 => ?_)
         refine WL_q rfl (q_loadp ty_23 rfl m3 rfl) ?_
         refine WL_st (qs := [ci .i64 ((Z.smallW r11.dec).1), ci .i64 ((Z.smallW r19.dec).1), ci .i64 ((Z.smallW r27.dec).1)]) rfl ty_23 rfl rfl rfl rfl rfl (.tail _ (.tail _ (.tail _ (.tail _ (.tail _ (.tail _ (.tail _ (.tail _ (.head _))))))))) hb2 ?_
         refine WL_q rfl (q_assign rfl) ?_
         refine WL_nil (hK1 _ _ ?_)
         clear hK1 K1
         refine W_ret ?_
         refine ret2 rfl (.inr rfl) (resP rfl m8 ty_23 rfl) rfl ?_
         exact (by subst hr27; subst hr19; subst hr11; exact congrArg (fun r : (A3 W) × W => (.tuple #[AV [ci .i64 r.1.x.1, ci .i64 r.1.y.1, ci .i64 r.1.z.1], .int .i64 r.2.1] : Value)) (show _ = (F_vector_Primitive a) from bif_f h7 (bif_f h8 (bif_f h17 (bif_f h25 (bif_f h33 rfl))))))
end Go.Proofs.Ythbjhbmpfeeilaa
