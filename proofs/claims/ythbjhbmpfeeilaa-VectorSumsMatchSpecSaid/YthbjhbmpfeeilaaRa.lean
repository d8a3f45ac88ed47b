/- Walks: what these functions return. -/
import Derived.Test.YthbjhbmpfeeilaaFa0
import Derived.Test.YthbjhbmpfeeilaaFn
import Derived.Test.YthbjhbmpfeeilaaSf
import Derived.Test.YthbjhbmpfeeilaaSg
import Derived.Test.YthbjhbmpfeeilaaSh
namespace Go.Proofs.Ythbjhbmpfeeilaa
open Go.Kn Go.Num
set_option linter.unusedVariables false
set_option linter.unusedSimpArgs false
set_option maxRecDepth 20000
set_option maxHeartbeats 8000000
theorem skewbackref06_Small_ret (a : (A3 W)) :
    Ret Try.prog 25 [AV [ci .i64 a.x.1, ci .i64 a.y.1, ci .i64 a.z.1]] (.bool (F_skewbackref06_Small a)) := by
 refine ret_of_W (N := 18) Try.func25 rfl rfl (by simp) (fun w0 => ?_)
 simp only [initF, Nat.reduceAdd]
 refine W_sr (fun K1 hK1 => ?_)
 refine WL_r rfl (r_boxp rfl rfl (fun b1 hb1 => ?_))
 refine WL_q rfl (q_assign rfl) ?_
 refine WL_nil (hK1 _ _ ?_)
 clear hK1 K1
 refine W_seq (fun K_1 hK_1 => ?_)
 refine W_sr (fun K1 hK1 => ?_)
 refine WL_q rfl (q_assign rfl) ?_
 refine WL_nil (hK1 _ _ ?_)
 clear hK1 K1
 refine W_block ?_
 refine W_un 5 ?_
 refine Un_s (fun K_2 hK_2 => ?_)
 refine W_seq (fun K_3 hK_3 => ?_)
 refine W_sr (fun K1 hK1 => ?_)
 refine WL_q rfl (q_move rfl) ?_
 refine WL_q rfl (q_as (v' := .bool true) (q_lss rfl rfl) rfl) ?_
 refine WL_nil (hK1 _ _ ?_)
 clear hK1 K1
 refine W_true rfl ?_
 refine W_skip ?_
 refine hK_3 _ _ ?_
 try clear hK_3 K_3
 refine W_seq (fun K_4 hK_4 => ?_)
 refine W_block ?_
 refine W_join [8, 9, 10, 11, 12, 13, 14, 15, 16, 17] (fun g M => (g 17 = .bool (decide (2305843009213693952 ≤ a.x.1) || decide (a.x.1 ≤ (-2305843009213693952)))) ∧ M = [⟨b1, 23, flat [ci .i64 a.x.1, ci .i64 a.y.1, ci .i64 a.z.1]⟩]) (fun K_5 hK_5 => ?_) ?_
 ·skip
  refine W_region_k (fun K1 hK1 => ?_)
  refine WL_q rfl (q_move rfl) ?_
  refine WL_q rfl (q_ptr (off' := 0) (q_idxa ar_23 rfl rfl (by decide) (by decide)) rfl) ?_
  refine WL_q rfl (q_loadc (v := .int .i64 a.x.1) ty_3 rfl m0 rfl) ?_
  refine WL_q rfl (q_as (v' := .bool (decide (2305843009213693952 ≤ a.x.1))) (q_geq rfl rfl) rfl) ?_
  rcases bt (decide (2305843009213693952 ≤ a.x.1)) with h3 | h3
  ·skip
   refine WL_q rfl (q_as (v' := .bool true) (q_move rfl) (congrArg Value.bool h3)) ?_
   refine WL_n rfl ?_
   refine WL_n rfl ?_
   refine WL_n rfl ?_
   refine WL_n rfl ?_
   refine WL_q rfl (q_pick rfl rfl) ?_
   refine WL_nil (hK1 _ _ ?_)
   clear hK1 K1
   refine hK_5 _ _ (by repeat (first | exact .refl | refine .cons rfl ?_)) ⟨_, s0, ?s17, rfl⟩
   case s17 => exact congrArg Value.bool (or_t h3)
  ·skip
   refine WL_q rfl (q_as (v' := .bool false) (q_move rfl) (congrArg Value.bool h3)) ?_
   refine WL_q rfl (q_move rfl) ?_
   refine WL_q rfl (q_ptr (off' := 0) (q_idxa ar_23 rfl rfl (by decide) (by decide)) rfl) ?_
   refine WL_q rfl (q_loadc (v := .int .i64 a.x.1) ty_3 rfl m0 rfl) ?_
   refine WL_q rfl (q_as (v' := .bool (decide (a.x.1 ≤ (-2305843009213693952)))) (q_leq rfl rfl) rfl) ?_
   refine WL_q rfl (q_pick rfl rfl) ?_
   refine WL_nil (hK1 _ _ ?_)
   clear hK1 K1
   refine hK_5 _ _ (by repeat (first | exact .refl | refine .cons rfl ?_)) ⟨_, s0, ?s17, rfl⟩
   case s17 => exact congrArg Value.bool (or_f h3 rfl)
 ·skip
  rintro g4 M ⟨hg17, rfl⟩
  simp only [setG, hg17]
  clear hg17
  rcases bt (decide (2305843009213693952 ≤ a.x.1) || decide (a.x.1 ≤ (-2305843009213693952))) with h5 | h5
  ·skip
   refine W_t h5 rfl ?_
   refine W_sr (fun K1 hK1 => ?_)
   refine WL_q rfl (q_assign rfl) ?_
   refine WL_nil (hK1 _ _ ?_)
   clear hK1 K1
   refine W_ret ?_
   refine blockK_r (thenK_r (thenK_r (blockK_r (thenK_r (ret1 rfl (.inr rfl) rfl ?_)))))
   exact (by exact congrArg (fun r : Bool => (.bool r : Value)) (show _ = (F_skewbackref06_Small a) from bif_t h5 rfl))
  ·skip
   refine W_f h5 rfl ?_
   refine W_skip ?_
   refine hK_4 _ _ ?_
   try clear hK_4 K_4
   refine W_region_k (fun K1 hK1 => ?_)
   refine WL_q rfl (q_move rfl) ?_
   refine WL_q rfl (q_as (v' := .int .i64 1) (q_add rfl rfl) rfl) ?_
   refine WL_q rfl (q_assign rfl) ?_
   refine WL_nil (hK1 _ _ ?_)
   clear hK1 K1
   refine hK_2 _ _ ?_
   try clear hK_2 K_2
   refine Un_s (fun K_6 hK_6 => ?_)
   refine W_seq (fun K_7 hK_7 => ?_)
   refine W_sr (fun K1 hK1 => ?_)
   refine WL_q rfl (q_move rfl) ?_
   refine WL_q rfl (q_as (v' := .bool true) (q_lss rfl rfl) rfl) ?_
   refine WL_nil (hK1 _ _ ?_)
   clear hK1 K1
   refine W_true rfl ?_
   refine W_skip ?_
   refine hK_7 _ _ ?_
   try clear hK_7 K_7
   refine W_seq (fun K_8 hK_8 => ?_)
   refine W_block ?_
   refine W_join [8, 9, 10, 11, 12, 13, 14, 15, 16, 17] (fun g M => (g 17 = .bool (decide (2305843009213693952 ≤ a.y.1) || decide (a.y.1 ≤ (-2305843009213693952)))) ∧ M = [⟨b1, 23, flat [ci .i64 a.x.1, ci .i64 a.y.1, ci .i64 a.z.1]⟩]) (fun K_9 hK_9 => ?_) ?_
   ·skip
    refine W_region_k (fun K1 hK1 => ?_)
    refine WL_q rfl (q_move rfl) ?_
    refine WL_q rfl (q_ptr (off' := 1) (q_idxa ar_23 rfl rfl (by decide) (by decide)) rfl) ?_
    refine WL_q rfl (q_loadc (v := .int .i64 a.y.1) ty_3 rfl m0 rfl) ?_
    refine WL_q rfl (q_as (v' := .bool (decide (2305843009213693952 ≤ a.y.1))) (q_geq rfl rfl) rfl) ?_
    rcases bt (decide (2305843009213693952 ≤ a.y.1)) with h7 | h7
    ·skip
     refine WL_q rfl (q_as (v' := .bool true) (q_move rfl) (congrArg Value.bool h7)) ?_
     refine WL_n rfl ?_
     refine WL_n rfl ?_
     refine WL_n rfl ?_
     refine WL_n rfl ?_
     refine WL_q rfl (q_pick rfl rfl) ?_
     refine WL_nil (hK1 _ _ ?_)
     clear hK1 K1
     refine hK_9 _ _ (by repeat (first | exact .refl | refine .cons rfl ?_)) ⟨_, s0, ?s17, rfl⟩
     case s17 => exact congrArg Value.bool (or_t h7)
    ·skip
     refine WL_q rfl (q_as (v' := .bool false) (q_move rfl) (congrArg Value.bool h7)) ?_
     refine WL_q rfl (q_move rfl) ?_
     refine WL_q rfl (q_ptr (off' := 1) (q_idxa ar_23 rfl rfl (by decide) (by decide)) rfl) ?_
     refine WL_q rfl (q_loadc (v := .int .i64 a.y.1) ty_3 rfl m0 rfl) ?_
     refine WL_q rfl (q_as (v' := .bool (decide (a.y.1 ≤ (-2305843009213693952)))) (q_leq rfl rfl) rfl) ?_
     refine WL_q rfl (q_pick rfl rfl) ?_
     refine WL_nil (hK1 _ _ ?_)
     clear hK1 K1
     refine hK_9 _ _ (by repeat (first | exact .refl | refine .cons rfl ?_)) ⟨_, s0, ?s17, rfl⟩
     case s17 => exact congrArg Value.bool (or_f h7 rfl)
   ·skip
    rintro g8 M ⟨hg17, rfl⟩
    simp only [setG, hg17]
    clear hg17
    rcases bt (decide (2305843009213693952 ≤ a.y.1) || decide (a.y.1 ≤ (-2305843009213693952))) with h9 | h9
    ·skip
     refine W_t h9 rfl ?_
     refine W_sr (fun K1 hK1 => ?_)
     refine WL_q rfl (q_assign rfl) ?_
     refine WL_nil (hK1 _ _ ?_)
     clear hK1 K1
     refine W_ret ?_
     refine blockK_r (thenK_r (thenK_r (blockK_r (thenK_r (ret1 rfl (.inr rfl) rfl ?_)))))
     exact (by exact congrArg (fun r : Bool => (.bool r : Value)) (show _ = (F_skewbackref06_Small a) from bif_f h5 (bif_t h9 rfl)))
    ·skip
     refine W_f h9 rfl ?_
     refine W_skip ?_
     refine hK_8 _ _ ?_
     try clear hK_8 K_8
     refine W_region_k (fun K1 hK1 => ?_)
     refine WL_q rfl (q_move rfl) ?_
     refine WL_q rfl (q_as (v' := .int .i64 2) (q_add rfl rfl) rfl) ?_
     refine WL_q rfl (q_assign rfl) ?_
     refine WL_nil (hK1 _ _ ?_)
     clear hK1 K1
     refine hK_6 _ _ ?_
     try clear hK_6 K_6
     refine Un_s (fun K_10 hK_10 => ?_)
     refine W_seq (fun K_11 hK_11 => ?_)
     refine W_sr (fun K1 hK1 => ?_)
     refine WL_q rfl (q_move rfl) ?_
     refine WL_q rfl (q_as (v' := .bool true) (q_lss rfl rfl) rfl) ?_
     refine WL_nil (hK1 _ _ ?_)
     clear hK1 K1
     refine W_true rfl ?_
     refine W_skip ?_
     refine hK_11 _ _ ?_
     try clear hK_11 K_11
     refine W_seq (fun K_12 hK_12 => ?_)
     refine W_block ?_
     refine W_join [8, 9, 10, 11, 12, 13, 14, 15, 16, 17] (fun g M => (g 17 = .bool (decide (2305843009213693952 ≤ a.z.1) || decide (a.z.1 ≤ (-2305843009213693952)))) ∧ M = [⟨b1, 23, flat [ci .i64 a.x.1, ci .i64 a.y.1, ci .i64 a.z.1]⟩]) (fun K_13 hK_13 => ?_) ?_
     ·skip
      refine W_region_k (fun K1 hK1 => ?_)
      refine WL_q rfl (q_move rfl) ?_
      refine WL_q rfl (q_ptr (off' := 2) (q_idxa ar_23 rfl rfl (by decide) (by decide)) rfl) ?_
      refine WL_q rfl (q_loadc (v := .int .i64 a.z.1) ty_3 rfl m0 rfl) ?_
      refine WL_q rfl (q_as (v' := .bool (decide (2305843009213693952 ≤ a.z.1))) (q_geq rfl rfl) rfl) ?_
      rcases bt (decide (2305843009213693952 ≤ a.z.1)) with h11 | h11
      ·skip
       refine WL_q rfl (q_as (v' := .bool true) (q_move rfl) (congrArg Value.bool h11)) ?_
       refine WL_n rfl ?_
       refine WL_n rfl ?_
       refine WL_n rfl ?_
       refine WL_n rfl ?_
       refine WL_q rfl (q_pick rfl rfl) ?_
       refine WL_nil (hK1 _ _ ?_)
       clear hK1 K1
       refine hK_13 _ _ (by repeat (first | exact .refl | refine .cons rfl ?_)) ⟨_, s0, ?s17, rfl⟩
       case s17 => exact congrArg Value.bool (or_t h11)
      ·skip
       refine WL_q rfl (q_as (v' := .bool false) (q_move rfl) (congrArg Value.bool h11)) ?_
       refine WL_q rfl (q_move rfl) ?_
       refine WL_q rfl (q_ptr (off' := 2) (q_idxa ar_23 rfl rfl (by decide) (by decide)) rfl) ?_
       refine WL_q rfl (q_loadc (v := .int .i64 a.z.1) ty_3 rfl m0 rfl) ?_
       refine WL_q rfl (q_as (v' := .bool (decide (a.z.1 ≤ (-2305843009213693952)))) (q_leq rfl rfl) rfl) ?_
       refine WL_q rfl (q_pick rfl rfl) ?_
       refine WL_nil (hK1 _ _ ?_)
       clear hK1 K1
       refine hK_13 _ _ (by repeat (first | exact .refl | refine .cons rfl ?_)) ⟨_, s0, ?s17, rfl⟩
       case s17 => exact congrArg Value.bool (or_f h11 rfl)
     ·skip
      rintro g12 M ⟨hg17, rfl⟩
      simp only [setG, hg17]
      clear hg17
      rcases bt (decide (2305843009213693952 ≤ a.z.1) || decide (a.z.1 ≤ (-2305843009213693952))) with h13 | h13
      ·skip
       refine W_t h13 rfl ?_
       refine W_sr (fun K1 hK1 => ?_)
       refine WL_q rfl (q_assign rfl) ?_
       refine WL_nil (hK1 _ _ ?_)
       clear hK1 K1
       refine W_ret ?_
       refine blockK_r (thenK_r (thenK_r (blockK_r (thenK_r (ret1 rfl (.inr rfl) rfl ?_)))))
       exact (by exact congrArg (fun r : Bool => (.bool r : Value)) (show _ = (F_skewbackref06_Small a) from bif_f h5 (bif_f h9 (bif_t h13 rfl))))
      ·skip
       refine W_f h13 rfl ?_
       refine W_skip ?_
       refine hK_12 _ _ ?_
       try clear hK_12 K_12
       refine W_region_k (fun K1 hK1 => ?_)
       refine WL_q rfl (q_move rfl) ?_
       refine WL_q rfl (q_as (v' := .int .i64 3) (q_add rfl rfl) rfl) ?_
       refine WL_q rfl (q_assign rfl) ?_
       refine WL_nil (hK1 _ _ ?_)
       clear hK1 K1
       refine hK_10 _ _ ?_
       try clear hK_10 K_10
       refine Un_s (fun K_14 hK_14 => ?_)
       refine W_seq (fun K_15 hK_15 => ?_)
       refine W_sr (fun K1 hK1 => ?_)
       refine WL_q rfl (q_move rfl) ?_
       refine WL_q rfl (q_as (v' := .bool false) (q_lss rfl rfl) rfl) ?_
       refine WL_nil (hK1 _ _ ?_)
       clear hK1 K1
       refine W_false rfl ?_
       refine W_exit (thenK_x (thenK_x (blockK_hit ?_)))
       refine hK_1 _ _ ?_
       try clear hK_1 K_1
       refine W_sr (fun K1 hK1 => ?_)
       refine WL_q rfl (q_assign rfl) ?_
       refine WL_nil (hK1 _ _ ?_)
       clear hK1 K1
       refine W_ret ?_
       refine ret1 rfl (.inr rfl) rfl ?_
       exact (by exact congrArg (fun r : Bool => (.bool r : Value)) (show _ = (F_skewbackref06_Small a) from bif_f h5 (bif_f h9 (bif_f h13 rfl))))

theorem skewbackref06_Add_ret (a : (A3 W)) (b : (A3 W)) :
    Ret Try.prog 29 [AV [ci .i64 a.x.1, ci .i64 a.y.1, ci .i64 a.z.1], AV [ci .i64 b.x.1, ci .i64 b.y.1, ci .i64 b.z.1]] (AV [ci .i64 (((F_skewbackref06_Add a b).x).1), ci .i64 (((F_skewbackref06_Add a b).y).1), ci .i64 (((F_skewbackref06_Add a b).z).1)]) := by
 refine ret_of_W (N := 21) Try.func29 rfl rfl (by simp) (fun w0 => ?_)
 simp only [initF, Nat.reduceAdd]
 refine W_sr (fun K1 hK1 => ?_)
 refine WL_r rfl (r_boxp rfl rfl (fun b1 hb1 => ?_))
 refine WL_r rfl (r_boxp rfl rfl (fun b2 hb2 => ?_))
 refine WL_r rfl (r_allocp zp_23 (fun b3 hb3 => ?_))
 refine WL_nil (hK1 _ _ ?_)
 clear hK1 K1
 refine W_sr (fun K1 hK1 => ?_)
 refine WL_q rfl (q_ptr (off' := 0) (q_idxa ar_23 rfl rfl (by decide) (by decide)) rfl) ?_
 refine WL_q rfl (q_loadc (v := .int .i64 a.x.1) ty_3 rfl m2 rfl) ?_
 refine WL_q rfl (q_ptr (off' := 0) (q_idxa ar_23 rfl rfl (by decide) (by decide)) rfl) ?_
 refine WL_q rfl (q_loadc (v := .int .i64 b.x.1) ty_3 rfl m1 rfl) ?_
 refine WL_q rfl (q_as (v' := .int .i64 ((W.add a.x b.x).1)) (q_add rfl rfl) rfl) ?_
 refine WL_q rfl (q_ptr (off' := 1) (q_idxa ar_23 rfl rfl (by decide) (by decide)) rfl) ?_
 refine WL_q rfl (q_loadc (v := .int .i64 a.y.1) ty_3 rfl m2 rfl) ?_
 refine WL_q rfl (q_ptr (off' := 1) (q_idxa ar_23 rfl rfl (by decide) (by decide)) rfl) ?_
 refine WL_q rfl (q_loadc (v := .int .i64 b.y.1) ty_3 rfl m1 rfl) ?_
 refine WL_q rfl (q_as (v' := .int .i64 ((W.add a.y b.y).1)) (q_add rfl rfl) rfl) ?_
 refine WL_q rfl (q_ptr (off' := 2) (q_idxa ar_23 rfl rfl (by decide) (by decide)) rfl) ?_
 refine WL_q rfl (q_loadc (v := .int .i64 a.z.1) ty_3 rfl m2 rfl) ?_
 refine WL_q rfl (q_ptr (off' := 2) (q_idxa ar_23 rfl rfl (by decide) (by decide)) rfl) ?_
 refine WL_q rfl (q_loadc (v := .int .i64 b.z.1) ty_3 rfl m1 rfl) ?_
 refine WL_q rfl (q_as (v' := .int .i64 ((W.add a.z b.z).1)) (q_add rfl rfl) rfl) ?_
 refine WL_q rfl (q_buildap zp_23 ar_23 rfl (.cons [ci .i64 ((W.add a.x b.x).1)] [ci .i64 ((W.add a.x b.x).1), ci .i64 0, ci .i64 0] rfl rfl rfl rfl (.cons [ci .i64 ((W.add a.y b.y).1)] [ci .i64 ((W.add a.x b.x).1), ci .i64 ((W.add a.y b.y).1), ci .i64 0] rfl rfl rfl rfl (.cons [ci .i64 ((W.add a.z b.z).1)] [ci .i64 ((W.add a.x b.x).1), ci .i64 ((W.add a.y b.y).1), ci .i64 ((W.add a.z b.z).1)] rfl rfl rfl rfl (.nil _))))) ?_
 refine WL_st (qs := [ci .i64 ((W.add a.x b.x).1), ci .i64 ((W.add a.y b.y).1), ci .i64 ((W.add a.z b.z).1)]) rfl ty_23 rfl rfl rfl rfl rfl (.head _) hb3 ?_
 refine WL_nil (hK1 _ _ ?_)
 clear hK1 K1
 refine W_ret ?_
 refine ret1 rfl (.inr rfl) (resP rfl m0 ty_23 rfl) ?_
 exact (by rfl)

theorem skewbackref06_Sub_ret (a : (A3 W)) (b : (A3 W)) :
    Ret Try.prog 31 [AV [ci .i64 a.x.1, ci .i64 a.y.1, ci .i64 a.z.1], AV [ci .i64 b.x.1, ci .i64 b.y.1, ci .i64 b.z.1]] (AV [ci .i64 (((F_skewbackref06_Sub a b).x).1), ci .i64 (((F_skewbackref06_Sub a b).y).1), ci .i64 (((F_skewbackref06_Sub a b).z).1)]) := by
 refine ret_of_W (N := 21) Try.func31 rfl rfl (by simp) (fun w0 => ?_)
 simp only [initF, Nat.reduceAdd]
 refine W_sr (fun K1 hK1 => ?_)
 refine WL_r rfl (r_boxp rfl rfl (fun b1 hb1 => ?_))
 refine WL_r rfl (r_boxp rfl rfl (fun b2 hb2 => ?_))
 refine WL_r rfl (r_allocp zp_23 (fun b3 hb3 => ?_))
 refine WL_nil (hK1 _ _ ?_)
 clear hK1 K1
 refine W_sr (fun K1 hK1 => ?_)
 refine WL_q rfl (q_ptr (off' := 0) (q_idxa ar_23 rfl rfl (by decide) (by decide)) rfl) ?_
 refine WL_q rfl (q_loadc (v := .int .i64 a.x.1) ty_3 rfl m2 rfl) ?_
 refine WL_q rfl (q_ptr (off' := 0) (q_idxa ar_23 rfl rfl (by decide) (by decide)) rfl) ?_
 refine WL_q rfl (q_loadc (v := .int .i64 b.x.1) ty_3 rfl m1 rfl) ?_
 refine WL_q rfl (q_as (v' := .int .i64 ((W.sub a.x b.x).1)) (q_sub rfl rfl) rfl) ?_
 refine WL_q rfl (q_ptr (off' := 1) (q_idxa ar_23 rfl rfl (by decide) (by decide)) rfl) ?_
 refine WL_q rfl (q_loadc (v := .int .i64 a.y.1) ty_3 rfl m2 rfl) ?_
 refine WL_q rfl (q_ptr (off' := 1) (q_idxa ar_23 rfl rfl (by decide) (by decide)) rfl) ?_
 refine WL_q rfl (q_loadc (v := .int .i64 b.y.1) ty_3 rfl m1 rfl) ?_
 refine WL_q rfl (q_as (v' := .int .i64 ((W.sub a.y b.y).1)) (q_sub rfl rfl) rfl) ?_
 refine WL_q rfl (q_ptr (off' := 2) (q_idxa ar_23 rfl rfl (by decide) (by decide)) rfl) ?_
 refine WL_q rfl (q_loadc (v := .int .i64 a.z.1) ty_3 rfl m2 rfl) ?_
 refine WL_q rfl (q_ptr (off' := 2) (q_idxa ar_23 rfl rfl (by decide) (by decide)) rfl) ?_
 refine WL_q rfl (q_loadc (v := .int .i64 b.z.1) ty_3 rfl m1 rfl) ?_
 refine WL_q rfl (q_as (v' := .int .i64 ((W.sub a.z b.z).1)) (q_sub rfl rfl) rfl) ?_
 refine WL_q rfl (q_buildap zp_23 ar_23 rfl (.cons [ci .i64 ((W.sub a.x b.x).1)] [ci .i64 ((W.sub a.x b.x).1), ci .i64 0, ci .i64 0] rfl rfl rfl rfl (.cons [ci .i64 ((W.sub a.y b.y).1)] [ci .i64 ((W.sub a.x b.x).1), ci .i64 ((W.sub a.y b.y).1), ci .i64 0] rfl rfl rfl rfl (.cons [ci .i64 ((W.sub a.z b.z).1)] [ci .i64 ((W.sub a.x b.x).1), ci .i64 ((W.sub a.y b.y).1), ci .i64 ((W.sub a.z b.z).1)] rfl rfl rfl rfl (.nil _))))) ?_
 refine WL_st (qs := [ci .i64 ((W.sub a.x b.x).1), ci .i64 ((W.sub a.y b.y).1), ci .i64 ((W.sub a.z b.z).1)]) rfl ty_23 rfl rfl rfl rfl rfl (.head _) hb3 ?_
 refine WL_nil (hK1 _ _ ?_)
 clear hK1 K1
 refine W_ret ?_
 refine ret1 rfl (.inr rfl) (resP rfl m0 ty_23 rfl) ?_
 exact (by rfl)

theorem skewbackref06_Less_ret (a : (A3 W)) (b : (A3 W)) :
    Ret Try.prog 28 [AV [ci .i64 a.x.1, ci .i64 a.y.1, ci .i64 a.z.1], AV [ci .i64 b.x.1, ci .i64 b.y.1, ci .i64 b.z.1]] (.bool (F_skewbackref06_Less a b)) := by
 refine ret_of_W (N := 30) Try.func28 rfl rfl (by simp) (fun w0 => ?_)
 simp only [initF, Nat.reduceAdd]
 refine W_sr (fun K1 hK1 => ?_)
 refine WL_r rfl (r_boxp rfl rfl (fun b1 hb1 => ?_))
 refine WL_r rfl (r_boxp rfl rfl (fun b2 hb2 => ?_))
 refine WL_q rfl (q_assign rfl) ?_
 refine WL_nil (hK1 _ _ ?_)
 clear hK1 K1
 refine W_seq (fun K_1 hK_1 => ?_)
 refine W_sr (fun K1 hK1 => ?_)
 refine WL_q rfl (q_ptr (off' := 0) (q_idxa ar_23 rfl rfl (by decide) (by decide)) rfl) ?_
 refine WL_q rfl (q_loadc (v := .int .i64 a.x.1) ty_3 rfl m1 rfl) ?_
 refine WL_q rfl (q_ptr (off' := 0) (q_idxa ar_23 rfl rfl (by decide) (by decide)) rfl) ?_
 refine WL_q rfl (q_loadc (v := .int .i64 b.x.1) ty_3 rfl m0 rfl) ?_
 refine WL_q rfl (q_as (v' := .bool (a.x.1 != b.x.1)) (q_neq rfl rfl) rfl) ?_
 refine WL_nil (hK1 _ _ ?_)
 clear hK1 K1
 rcases bt (a.x.1 != b.x.1) with h3 | h3
 ·skip
  refine W_t h3 rfl ?_
  refine W_sr (fun K1 hK1 => ?_)
  refine WL_q rfl (q_ptr (off' := 0) (q_idxa ar_23 rfl rfl (by decide) (by decide)) rfl) ?_
  refine WL_q rfl (q_loadc (v := .int .i64 a.x.1) ty_3 rfl m1 rfl) ?_
  refine WL_q rfl (q_ptr (off' := 0) (q_idxa ar_23 rfl rfl (by decide) (by decide)) rfl) ?_
  refine WL_q rfl (q_loadc (v := .int .i64 b.x.1) ty_3 rfl m0 rfl) ?_
  refine WL_q rfl (q_as (v' := .bool (decide (a.x.1 < b.x.1))) (q_lss rfl rfl) rfl) ?_
  refine WL_q rfl (q_assign rfl) ?_
  refine WL_nil (hK1 _ _ ?_)
  clear hK1 K1
  refine W_ret ?_
  refine thenK_r (ret1 rfl (.inr rfl) rfl ?_)
  exact (by exact congrArg (fun r : Bool => (.bool r : Value)) (show _ = (F_skewbackref06_Less a b) from bif_t h3 rfl))
 ·skip
  refine W_f h3 rfl ?_
  refine W_skip ?_
  refine hK_1 _ _ ?_
  try clear hK_1 K_1
  refine W_seq (fun K_2 hK_2 => ?_)
  refine W_sr (fun K1 hK1 => ?_)
  refine WL_q rfl (q_ptr (off' := 1) (q_idxa ar_23 rfl rfl (by decide) (by decide)) rfl) ?_
  refine WL_q rfl (q_loadc (v := .int .i64 a.y.1) ty_3 rfl m1 rfl) ?_
  refine WL_q rfl (q_ptr (off' := 1) (q_idxa ar_23 rfl rfl (by decide) (by decide)) rfl) ?_
  refine WL_q rfl (q_loadc (v := .int .i64 b.y.1) ty_3 rfl m0 rfl) ?_
  refine WL_q rfl (q_as (v' := .bool (a.y.1 != b.y.1)) (q_neq rfl rfl) rfl) ?_
  refine WL_nil (hK1 _ _ ?_)
  clear hK1 K1
  rcases bt (a.y.1 != b.y.1) with h4 | h4
  ·skip
   refine W_t h4 rfl ?_
   refine W_sr (fun K1 hK1 => ?_)
   refine WL_q rfl (q_ptr (off' := 1) (q_idxa ar_23 rfl rfl (by decide) (by decide)) rfl) ?_
   refine WL_q rfl (q_loadc (v := .int .i64 a.y.1) ty_3 rfl m1 rfl) ?_
   refine WL_q rfl (q_ptr (off' := 1) (q_idxa ar_23 rfl rfl (by decide) (by decide)) rfl) ?_
   refine WL_q rfl (q_loadc (v := .int .i64 b.y.1) ty_3 rfl m0 rfl) ?_
   refine WL_q rfl (q_as (v' := .bool (decide (a.y.1 < b.y.1))) (q_lss rfl rfl) rfl) ?_
   refine WL_q rfl (q_assign rfl) ?_
   refine WL_nil (hK1 _ _ ?_)
   clear hK1 K1
   refine W_ret ?_
   refine thenK_r (ret1 rfl (.inr rfl) rfl ?_)
   exact (by exact congrArg (fun r : Bool => (.bool r : Value)) (show _ = (F_skewbackref06_Less a b) from bif_f h3 (bif_t h4 rfl)))
  ·skip
   refine W_f h4 rfl ?_
   refine W_skip ?_
   refine hK_2 _ _ ?_
   try clear hK_2 K_2
   refine W_sr (fun K1 hK1 => ?_)
   refine WL_q rfl (q_ptr (off' := 2) (q_idxa ar_23 rfl rfl (by decide) (by decide)) rfl) ?_
   refine WL_q rfl (q_loadc (v := .int .i64 a.z.1) ty_3 rfl m1 rfl) ?_
   refine WL_q rfl (q_ptr (off' := 2) (q_idxa ar_23 rfl rfl (by decide) (by decide)) rfl) ?_
   refine WL_q rfl (q_loadc (v := .int .i64 b.z.1) ty_3 rfl m0 rfl) ?_
   refine WL_q rfl (q_as (v' := .bool (decide (a.z.1 < b.z.1))) (q_lss rfl rfl) rfl) ?_
   refine WL_q rfl (q_assign rfl) ?_
   refine WL_nil (hK1 _ _ ?_)
   clear hK1 K1
   refine W_ret ?_
   refine ret1 rfl (.inr rfl) rfl ?_
   exact (by exact congrArg (fun r : Bool => (.bool r : Value)) (show _ = (F_skewbackref06_Less a b) from bif_f h3 (bif_f h4 rfl)))

theorem skewbackref06_Wide_ret (a : (A3 W)) :
    Ret Try.prog 16 [AV [ci .i64 a.x.1, ci .i64 a.y.1, ci .i64 a.z.1]] (AV [pI ((F_skewbackref06_Wide a).x), pI ((F_skewbackref06_Wide a).y), pI ((F_skewbackref06_Wide a).z)]) := by
 refine ret_of_W (N := 13) Try.func16 rfl rfl (by simp) (fun w0 => ?_)
 simp only [initF, Nat.reduceAdd]
 refine W_sr (fun K1 hK1 => ?_)
 refine WL_r rfl (r_boxp rfl rfl (fun b1 hb1 => ?_))
 refine WL_r rfl (r_allocp zp_30 (fun b2 hb2 => ?_))
 refine WL_nil (hK1 _ _ ?_)
 clear hK1 K1
 refine W_sdr (sd (sk (s0))) (.quiet 0 [1,2,5,8,9,10] (.quiet 1 [2,5,8,9,10] (.quiet 2 [5,8,9,10] (.quiet 3 [4,5,8,9,10] (.quiet 4 [5,8,9,10] (.quiet 5 [8,9,10] (.quiet 6 [7,8,9,10] (.quiet 7 [8,9,10] (.quiet 8 [9,10] (.quiet 9 [10] (.only 10 (.fin)))))))))))) [0,1,2,3,4,5,6,7,8,9] mix (by kernel_rfl) (by kernel_rfl) (fun K1 hK1 => ?_)
 refine PL_q rfl rfl (q_ptr (off' := 0) (q_idxa ar_23 rfl rfl (by decide) (by decide)) rfl) ?_
 refine PL_q rfl rfl (q_loadc (v := .int .i64 a.x.1) ty_3 rfl m1 rfl) ?_
 refine PL_q rfl rfl (q_as (v' := AV [pI (E (Z.of a.x.1))]) (q_ret en_22 (skewbackref03_Of_ret a.x.1 a.x.2) rfl) rfl) ?_
 refine PL_q rfl rfl (q_ptr (off' := 1) (q_idxa ar_23 rfl rfl (by decide) (by decide)) rfl) ?_
 refine PL_q rfl rfl (q_loadc (v := .int .i64 a.y.1) ty_3 rfl m1 rfl) ?_
 refine PL_q rfl rfl (q_as (v' := AV [pI (E (Z.of a.y.1))]) (q_ret en_22 (skewbackref03_Of_ret a.y.1 a.y.2) rfl) rfl) ?_
 refine PL_q rfl rfl (q_ptr (off' := 2) (q_idxa ar_23 rfl rfl (by decide) (by decide)) rfl) ?_
 refine PL_q rfl rfl (q_loadc (v := .int .i64 a.z.1) ty_3 rfl m1 rfl) ?_
 refine PL_q rfl rfl (q_as (v' := AV [pI (E (Z.of a.z.1))]) (q_ret en_22 (skewbackref03_Of_ret a.z.1 a.z.2) rfl) rfl) ?_
 refine PL_q rfl rfl (q_buildap zp_30 ar_30 rfl (.cons [pI (E (Z.of a.x.1))] [pI (E (Z.of a.x.1)), pI I0, pI I0] rfl rfl rfl rfl (.cons [pI (E (Z.of a.y.1))] [pI (E (Z.of a.x.1)), pI (E (Z.of a.y.1)), pI I0] rfl rfl rfl rfl (.cons [pI (E (Z.of a.z.1))] [pI (E (Z.of a.x.1)), pI (E (Z.of a.y.1)), pI (E (Z.of a.z.1))] rfl rfl rfl rfl (.nil _))))) ?_
 refine PL_st rfl (qs := [pI (E (Z.of a.x.1)), pI (E (Z.of a.y.1)), pI (E (Z.of a.z.1))]) rfl ty_30 rfl rfl rfl rfl rfl (.head _) hb2 rfl (sd s0) ?_
 refine PL_fin (hK1 _ _ ?_)
 clear hK1 K1
 refine W_ret ?_
 refine ret1 rfl (.inr rfl) (resP rfl m0 ty_30 rfl) ?_
 exact (by rfl)

theorem skewbackref06_minor_ret (a : I) (b : I) (c : I) (d : I) :
    Ret Try.prog 55 [AV [pI a], AV [pI b], AV [pI c], AV [pI d]] (AV [pI (F_skewbackref06_minor a b c d)]) := by
 refine ret_of_W (N := 16) Try.func55 rfl rfl (by simp) (fun w0 => ?_)
 simp only [initF, Nat.reduceAdd]
 refine W_sr (fun K1 hK1 => ?_)
 refine WL_r rfl (r_boxp rfl rfl (fun b1 hb1 => ?_))
 refine WL_r rfl (r_boxp rfl rfl (fun b2 hb2 => ?_))
 refine WL_r rfl (r_boxp rfl rfl (fun b3 hb3 => ?_))
 refine WL_r rfl (r_boxp rfl rfl (fun b4 hb4 => ?_))
 refine WL_r rfl (r_allocp zp_28 (fun b5 hb5 => ?_))
 refine WL_nil (hK1 _ _ ?_)
 clear hK1 K1
 refine W_sdr (sd (sk (sk (sk (sk (s0)))))) (.quiet 0 [2,5,6,7] (.quiet 1 [2,5,6,7] (.quiet 2 [5,6,7] (.quiet 3 [5,6,7] (.quiet 4 [5,6,7] (.quiet 5 [6,7] (.quiet 6 [7] (.only 7 (.fin))))))))) [0,1,2,3,4,5,6] mix (by kernel_rfl) (by kernel_rfl) (fun K1 hK1 => ?_)
 refine PL_q rfl rfl (q_loadp ty_28 rfl m4 rfl) ?_
 refine PL_q rfl rfl (q_loadp ty_28 rfl m3 rfl) ?_
 refine PL_q rfl rfl (q_as (v' := AV [pI (E (Z.mul a.dec b.dec))]) (q_ret en_34 (skewbackref03_Mul_ret a.1 b.1 a.2 b.2) rfl) rfl) ?_
 refine PL_q rfl rfl (q_loadp ty_28 rfl m2 rfl) ?_
 refine PL_q rfl rfl (q_loadp ty_28 rfl m1 rfl) ?_
 refine PL_q rfl rfl (q_as (v' := AV [pI (E (Z.mul c.dec d.dec))]) (q_ret en_34 (skewbackref03_Mul_ret c.1 d.1 c.2 d.2) rfl) rfl) ?_
 refine PL_q rfl rfl (q_as (v' := AV [pI (E (Z.sub (Z.mul a.dec b.dec) (Z.mul c.dec d.dec)))]) (q_ret en_33 (skewbackref03_Sub_ret (E (Z.mul a.dec b.dec)).1 (E (Z.mul c.dec d.dec)).1 (E (Z.mul a.dec b.dec)).2 (E (Z.mul c.dec d.dec)).2) rfl) (cg2 (fun p q => AV [pI (E (Z.sub p q))]) (E_dec _) (E_dec _))) ?_
 refine PL_st rfl (qs := [pI (E (Z.sub (Z.mul a.dec b.dec) (Z.mul c.dec d.dec)))]) rfl ty_28 rfl rfl rfl rfl rfl (.head _) hb5 rfl (sd s0) ?_
 refine PL_fin (hK1 _ _ ?_)
 clear hK1 K1
 refine W_ret ?_
 refine ret1 rfl (.inr rfl) (resP rfl m0 ty_28 rfl) ?_
 exact (by rfl)

theorem skewbackref06_DotOf_ret (a : (A3 I)) (b : (A3 I)) :
    Ret Try.prog 18 [AV [pI a.x, pI a.y, pI a.z], AV [pI b.x, pI b.y, pI b.z]] (AV [pI (F_skewbackref06_DotOf a b)]) := by
 refine ret_of_W (N := 25) Try.func18 rfl rfl (by simp) (fun w0 => ?_)
 simp only [initF, Nat.reduceAdd]
 refine W_sr (fun K1 hK1 => ?_)
 refine WL_r rfl (r_boxp rfl rfl (fun b1 hb1 => ?_))
 refine WL_r rfl (r_boxp rfl rfl (fun b2 hb2 => ?_))
 refine WL_r rfl (r_allocp zp_28 (fun b3 hb3 => ?_))
 refine WL_nil (hK1 _ _ ?_)
 clear hK1 K1
 refine W_sr (fun K1 hK1 => ?_)
 refine WL_q rfl (q_ptr (off' := 0) (q_idxa ar_30 rfl rfl (by decide) (by decide)) rfl) ?_
 refine WL_q rfl (q_loadp ty_28 rfl m2 rfl) ?_
 refine WL_q rfl (q_ptr (off' := 0) (q_idxa ar_30 rfl rfl (by decide) (by decide)) rfl) ?_
 refine WL_q rfl (q_loadp ty_28 rfl m1 rfl) ?_
 refine WL_q rfl (q_as (v' := AV [pI (E (Z.mul a.x.dec b.x.dec))]) (q_ret en_34 (skewbackref03_Mul_ret a.x.1 b.x.1 a.x.2 b.x.2) rfl) rfl) ?_
 refine WL_r rfl (r_allocp zp_28 (fun b4 hb4 => ?_))
 refine WL_st (qs := [pI (E (Z.mul a.x.dec b.x.dec))]) rfl ty_28 rfl rfl rfl rfl rfl (.head _) hb4 ?_
 refine WL_nil (hK1 _ _ ?_)
 clear hK1 K1
 refine W_sdr (sd (sk (sk (sk (s0))))) (.quiet 0 [6,7] (.quiet 1 [2,5,6,7] (.quiet 2 [5,6,7] (.quiet 3 [4,5,6,7] (.quiet 4 [5,6,7] (.quiet 5 [6,7] (.quiet 6 [7] (.only 7 (.fin))))))))) [0,1,2,3,4,5,6] mix (by kernel_rfl) (by kernel_rfl) (fun K1 hK1 => ?_)
 refine PL_q rfl rfl (q_loadp ty_28 rfl m0 rfl) ?_
 refine PL_q rfl rfl (q_ptr (off' := 18) (q_idxa ar_30 rfl rfl (by decide) (by decide)) rfl) ?_
 refine PL_q rfl rfl (q_loadp ty_28 rfl m3 rfl) ?_
 refine PL_q rfl rfl (q_ptr (off' := 18) (q_idxa ar_30 rfl rfl (by decide) (by decide)) rfl) ?_
 refine PL_q rfl rfl (q_loadp ty_28 rfl m2 rfl) ?_
 refine PL_q rfl rfl (q_as (v' := AV [pI (E (Z.mul a.y.dec b.y.dec))]) (q_ret en_34 (skewbackref03_Mul_ret a.y.1 b.y.1 a.y.2 b.y.2) rfl) rfl) ?_
 refine PL_q rfl rfl (q_as (v' := AV [pI (E (Z.add (Z.mul a.x.dec b.x.dec) (Z.mul a.y.dec b.y.dec)))]) (q_ret en_56 (skewbackref03_Add_ret (E (Z.mul a.x.dec b.x.dec)).1 (E (Z.mul a.y.dec b.y.dec)).1 (E (Z.mul a.x.dec b.x.dec)).2 (E (Z.mul a.y.dec b.y.dec)).2) rfl) (cg2 (fun p q => AV [pI (E (Z.add p q))]) (E_dec _) (E_dec _))) ?_
 refine PL_st rfl (qs := [pI (E (Z.add (Z.mul a.x.dec b.x.dec) (Z.mul a.y.dec b.y.dec)))]) rfl ty_28 rfl rfl rfl rfl rfl (.head _) hb4 rfl (sd s0) ?_
 refine PL_fin (hK1 _ _ ?_)
 clear hK1 K1
 refine W_sdr (sk (sd (sk (sk (s0))))) (.quiet 0 [6,7] (.quiet 1 [2,5,6,7] (.quiet 2 [5,6,7] (.quiet 3 [4,5,6,7] (.quiet 4 [5,6,7] (.quiet 5 [6,7] (.quiet 6 [7] (.only 7 (.fin))))))))) [0,1,2,3,4,5,6] mix (by kernel_rfl) (by kernel_rfl) (fun K1 hK1 => ?_)
 refine PL_q rfl rfl (q_loadp ty_28 rfl m0 rfl) ?_
 refine PL_q rfl rfl (q_ptr (off' := 36) (q_idxa ar_30 rfl rfl (by decide) (by decide)) rfl) ?_
 refine PL_q rfl rfl (q_loadp ty_28 rfl m3 rfl) ?_
 refine PL_q rfl rfl (q_ptr (off' := 36) (q_idxa ar_30 rfl rfl (by decide) (by decide)) rfl) ?_
 refine PL_q rfl rfl (q_loadp ty_28 rfl m2 rfl) ?_
 refine PL_q rfl rfl (q_as (v' := AV [pI (E (Z.mul a.z.dec b.z.dec))]) (q_ret en_34 (skewbackref03_Mul_ret a.z.1 b.z.1 a.z.2 b.z.2) rfl) rfl) ?_
 obtain ⟨r5, hr5⟩ := nm ((E (Z.add (Z.add (Z.mul a.x.dec b.x.dec) (Z.mul a.y.dec b.y.dec)) (Z.mul a.z.dec b.z.dec))) : I)
 refine PL_q rfl rfl (q_as (v' := AV [pI r5]) (q_ret en_56 (skewbackref03_Add_ret (E (Z.add (Z.mul a.x.dec b.x.dec) (Z.mul a.y.dec b.y.dec))).1 (E (Z.mul a.z.dec b.z.dec)).1 (E (Z.add (Z.mul a.x.dec b.x.dec) (Z.mul a.y.dec b.y.dec))).2 (E (Z.mul a.z.dec b.z.dec)).2) rfl) ((cg2 (fun p q => AV [pI (E (Z.add p q))]) (E_dec _) (E_dec _)).trans (by rw [hr5]))) ?_
 refine PL_st rfl (qs := [pI r5]) rfl ty_28 rfl rfl rfl rfl rfl (.tail _ (.head _)) hb3 rfl (sk (sd s0)) ?_
 refine PL_fin (hK1 _ _ ?_)
 clear hK1 K1
 refine W_ret ?_
 refine ret1 rfl (.inr rfl) (resP rfl m1 ty_28 rfl) ?_
 exact (by subst hr5; rfl)

theorem skewbackref06_CrossOf_ret (a : (A3 I)) (b : (A3 I)) :
    Ret Try.prog 17 [AV [pI a.x, pI a.y, pI a.z], AV [pI b.x, pI b.y, pI b.z]] (AV [pI ((F_skewbackref06_CrossOf a b).x), pI ((F_skewbackref06_CrossOf a b).y), pI ((F_skewbackref06_CrossOf a b).z)]) := by
 refine ret_of_W (N := 33) Try.func17 rfl rfl (by simp) (fun w0 => ?_)
 simp only [initF, Nat.reduceAdd]
 refine W_sr (fun K1 hK1 => ?_)
 refine WL_r rfl (r_boxp rfl rfl (fun b1 hb1 => ?_))
 refine WL_r rfl (r_boxp rfl rfl (fun b2 hb2 => ?_))
 refine WL_r rfl (r_allocp zp_30 (fun b3 hb3 => ?_))
 refine WL_nil (hK1 _ _ ?_)
 clear hK1 K1
 refine W_sdr (sd (sk (sk (s0)))) (.quiet 0 [1,8,17,26,27,28] (.quiet 1 [8,17,26,27,28] (.quiet 2 [3,8,17,26,27,28] (.quiet 3 [8,17,26,27,28] (.quiet 4 [5,8,17,26,27,28] (.quiet 5 [8,17,26,27,28] (.quiet 6 [7,8,17,26,27,28] (.quiet 7 [8,17,26,27,28] (.quiet 8 [17,26,27,28] (.quiet 9 [10,17,26,27,28] (.quiet 10 [17,26,27,28] (.quiet 11 [12,17,26,27,28] (.quiet 12 [17,26,27,28] (.quiet 13 [14,17,26,27,28] (.quiet 14 [17,26,27,28] (.quiet 15 [16,17,26,27,28] (.quiet 16 [17,26,27,28] (.quiet 17 [26,27,28] (.quiet 18 [19,26,27,28] (.quiet 19 [26,27,28] (.quiet 20 [21,26,27,28] (.quiet 21 [26,27,28] (.quiet 22 [23,26,27,28] (.quiet 23 [26,27,28] (.quiet 24 [25,26,27,28] (.quiet 25 [26,27,28] (.quiet 26 [27,28] (.quiet 27 [28] (.only 28 (.fin)))))))))))))))))))))))))))))) [0,1,2,3,4,5,6,7,8,9,10,11,12,13,14,15,16,17,18,19,20,21,22,23,24,25,26,27] mix (by kernel_rfl) (by kernel_rfl) (fun K1 hK1 => ?_)
 refine PL_q rfl rfl (q_ptr (off' := 18) (q_idxa ar_30 rfl rfl (by decide) (by decide)) rfl) ?_
 refine PL_q rfl rfl (q_loadp ty_28 rfl m2 rfl) ?_
 refine PL_q rfl rfl (q_ptr (off' := 36) (q_idxa ar_30 rfl rfl (by decide) (by decide)) rfl) ?_
 refine PL_q rfl rfl (q_loadp ty_28 rfl m1 rfl) ?_
 refine PL_q rfl rfl (q_ptr (off' := 36) (q_idxa ar_30 rfl rfl (by decide) (by decide)) rfl) ?_
 refine PL_q rfl rfl (q_loadp ty_28 rfl m2 rfl) ?_
 refine PL_q rfl rfl (q_ptr (off' := 18) (q_idxa ar_30 rfl rfl (by decide) (by decide)) rfl) ?_
 refine PL_q rfl rfl (q_loadp ty_28 rfl m1 rfl) ?_
 refine PL_q rfl rfl (q_ret en_55 (skewbackref06_minor_ret a.y b.z a.z b.y) rfl) ?_
 refine PL_q rfl rfl (q_ptr (off' := 36) (q_idxa ar_30 rfl rfl (by decide) (by decide)) rfl) ?_
 refine PL_q rfl rfl (q_loadp ty_28 rfl m2 rfl) ?_
 refine PL_q rfl rfl (q_ptr (off' := 0) (q_idxa ar_30 rfl rfl (by decide) (by decide)) rfl) ?_
 refine PL_q rfl rfl (q_loadp ty_28 rfl m1 rfl) ?_
 refine PL_q rfl rfl (q_ptr (off' := 0) (q_idxa ar_30 rfl rfl (by decide) (by decide)) rfl) ?_
 refine PL_q rfl rfl (q_loadp ty_28 rfl m2 rfl) ?_
 refine PL_q rfl rfl (q_ptr (off' := 36) (q_idxa ar_30 rfl rfl (by decide) (by decide)) rfl) ?_
 refine PL_q rfl rfl (q_loadp ty_28 rfl m1 rfl) ?_
 refine PL_q rfl rfl (q_ret en_55 (skewbackref06_minor_ret a.z b.x a.x b.z) rfl) ?_
 refine PL_q rfl rfl (q_ptr (off' := 0) (q_idxa ar_30 rfl rfl (by decide) (by decide)) rfl) ?_
 refine PL_q rfl rfl (q_loadp ty_28 rfl m2 rfl) ?_
 refine PL_q rfl rfl (q_ptr (off' := 18) (q_idxa ar_30 rfl rfl (by decide) (by decide)) rfl) ?_
 refine PL_q rfl rfl (q_loadp ty_28 rfl m1 rfl) ?_
 refine PL_q rfl rfl (q_ptr (off' := 18) (q_idxa ar_30 rfl rfl (by decide) (by decide)) rfl) ?_
 refine PL_q rfl rfl (q_loadp ty_28 rfl m2 rfl) ?_
 refine PL_q rfl rfl (q_ptr (off' := 0) (q_idxa ar_30 rfl rfl (by decide) (by decide)) rfl) ?_
 refine PL_q rfl rfl (q_loadp ty_28 rfl m1 rfl) ?_
 refine PL_q rfl rfl (q_ret en_55 (skewbackref06_minor_ret a.x b.y a.y b.x) rfl) ?_
 refine PL_q rfl rfl (q_buildap zp_30 ar_30 rfl (.cons [pI (F_skewbackref06_minor a.y b.z a.z b.y)] [pI (F_skewbackref06_minor a.y b.z a.z b.y), pI I0, pI I0] rfl rfl rfl rfl (.cons [pI (F_skewbackref06_minor a.z b.x a.x b.z)] [pI (F_skewbackref06_minor a.y b.z a.z b.y), pI (F_skewbackref06_minor a.z b.x a.x b.z), pI I0] rfl rfl rfl rfl (.cons [pI (F_skewbackref06_minor a.x b.y a.y b.x)] [pI (F_skewbackref06_minor a.y b.z a.z b.y), pI (F_skewbackref06_minor a.z b.x a.x b.z), pI (F_skewbackref06_minor a.x b.y a.y b.x)] rfl rfl rfl rfl (.nil _))))) ?_
 refine PL_st rfl (qs := [pI (F_skewbackref06_minor a.y b.z a.z b.y), pI (F_skewbackref06_minor a.z b.x a.x b.z), pI (F_skewbackref06_minor a.x b.y a.y b.x)]) rfl ty_30 rfl rfl rfl rfl rfl (.head _) hb3 rfl (sd s0) ?_
 refine PL_fin (hK1 _ _ ?_)
 clear hK1 K1
 refine W_ret ?_
 refine ret1 rfl (.inr rfl) (resP rfl m0 ty_30 rfl) ?_
 exact (by rfl)

theorem skewbackref06_Dot_ret (a : (A3 W)) (b : (A3 W)) :
    Ret Try.prog 11 [AV [ci .i64 a.x.1, ci .i64 a.y.1, ci .i64 a.z.1], AV [ci .i64 b.x.1, ci .i64 b.y.1, ci .i64 b.z.1]] (AV [pI (F_skewbackref06_Dot a b)]) := by
 refine ret_of_W (N := 10) Try.func11 rfl rfl (by simp) (fun w0 => ?_)
 simp only [initF, Nat.reduceAdd]
 refine W_sr (fun K1 hK1 => ?_)
 refine WL_r rfl (r_boxp rfl rfl (fun b1 hb1 => ?_))
 refine WL_r rfl (r_boxp rfl rfl (fun b2 hb2 => ?_))
 refine WL_r rfl (r_allocp zp_28 (fun b3 hb3 => ?_))
 refine WL_nil (hK1 _ _ ?_)
 clear hK1 K1
 refine W_sdr (sd (sk (sk (s0)))) (.quiet 0 [1,3,4,5] (.quiet 1 [3,4,5] (.quiet 2 [3,4,5] (.quiet 3 [4,5] (.quiet 4 [5] (.only 5 (.fin))))))) [0,1,2,3,4] mix (by kernel_rfl) (by kernel_rfl) (fun K1 hK1 => ?_)
 refine PL_q rfl rfl (q_loadp ty_23 rfl m2 rfl) ?_
 obtain ⟨r4, hr4⟩ := nm ((F_skewbackref06_Wide a) : (A3 I))
 refine PL_q rfl rfl (q_as (v' := AV [pI r4.x, pI r4.y, pI r4.z]) (q_ret en_16 (skewbackref06_Wide_ret a) rfl) (by rw [hr4]; first | done | rfl)) ?_
 refine PL_q rfl rfl (q_loadp ty_23 rfl m1 rfl) ?_
 obtain ⟨r5, hr5⟩ := nm ((F_skewbackref06_Wide b) : (A3 I))
 refine PL_q rfl rfl (q_as (v' := AV [pI r5.x, pI r5.y, pI r5.z]) (q_ret en_16 (skewbackref06_Wide_ret b) rfl) (by rw [hr5]; first | done | rfl)) ?_
 refine PL_q rfl rfl (q_ret en_18 (skewbackref06_DotOf_ret r4 r5) rfl) ?_
 refine PL_st rfl (qs := [pI (F_skewbackref06_DotOf r4 r5)]) rfl ty_28 rfl rfl rfl rfl rfl (.head _) hb3 rfl (sd s0) ?_
 refine PL_fin (hK1 _ _ ?_)
 clear hK1 K1
 refine W_ret ?_
 refine ret1 rfl (.inr rfl) (resP rfl m0 ty_28 rfl) ?_
 exact (by subst hr5; subst hr4; rfl)

theorem skewbackref06_Cross_ret (a : (A3 W)) (b : (A3 W)) :
    Ret Try.prog 13 [AV [ci .i64 a.x.1, ci .i64 a.y.1, ci .i64 a.z.1], AV [ci .i64 b.x.1, ci .i64 b.y.1, ci .i64 b.z.1]] (AV [pI ((F_skewbackref06_Cross a b).x), pI ((F_skewbackref06_Cross a b).y), pI ((F_skewbackref06_Cross a b).z)]) := by
 refine ret_of_W (N := 10) Try.func13 rfl rfl (by simp) (fun w0 => ?_)
 simp only [initF, Nat.reduceAdd]
 refine W_sr (fun K1 hK1 => ?_)
 refine WL_r rfl (r_boxp rfl rfl (fun b1 hb1 => ?_))
 refine WL_r rfl (r_boxp rfl rfl (fun b2 hb2 => ?_))
 refine WL_r rfl (r_allocp zp_30 (fun b3 hb3 => ?_))
 refine WL_nil (hK1 _ _ ?_)
 clear hK1 K1
 refine W_sdr (sd (sk (sk (s0)))) (.quiet 0 [1,3,4,5] (.quiet 1 [3,4,5] (.quiet 2 [3,4,5] (.quiet 3 [4,5] (.quiet 4 [5] (.only 5 (.fin))))))) [0,1,2,3,4] mix (by kernel_rfl) (by kernel_rfl) (fun K1 hK1 => ?_)
 refine PL_q rfl rfl (q_loadp ty_23 rfl m2 rfl) ?_
 obtain ⟨r4, hr4⟩ := nm ((F_skewbackref06_Wide a) : (A3 I))
 refine PL_q rfl rfl (q_as (v' := AV [pI r4.x, pI r4.y, pI r4.z]) (q_ret en_16 (skewbackref06_Wide_ret a) rfl) (by rw [hr4]; first | done | rfl)) ?_
 refine PL_q rfl rfl (q_loadp ty_23 rfl m1 rfl) ?_
 obtain ⟨r5, hr5⟩ := nm ((F_skewbackref06_Wide b) : (A3 I))
 refine PL_q rfl rfl (q_as (v' := AV [pI r5.x, pI r5.y, pI r5.z]) (q_ret en_16 (skewbackref06_Wide_ret b) rfl) (by rw [hr5]; first | done | rfl)) ?_
 obtain ⟨r6, hr6⟩ := nm ((F_skewbackref06_CrossOf r4 r5) : (A3 I))
 refine PL_q rfl rfl (q_as (v' := AV [pI r6.x, pI r6.y, pI r6.z]) (q_ret en_17 (skewbackref06_CrossOf_ret r4 r5) rfl) (by rw [hr6]; first | done | rfl)) ?_
 refine PL_st rfl (qs := [pI r6.x, pI r6.y, pI r6.z]) rfl ty_30 rfl rfl rfl rfl rfl (.head _) hb3 rfl (sd s0) ?_
 refine PL_fin (hK1 _ _ ?_)
 clear hK1 K1
 refine W_ret ?_
 refine ret1 rfl (.inr rfl) (resP rfl m0 ty_30 rfl) ?_
 exact (by subst hr6; subst hr5; subst hr4; rfl)

theorem skewbackref06_Primitive_ret (a : (A3 I)) :
    Ret Try.prog 15 [AV [pI a.x, pI a.y, pI a.z]] (AV [ci .i64 ((((F_skewbackref06_Primitive a).v).x).1), ci .i64 ((((F_skewbackref06_Primitive a).v).y).1), ci .i64 ((((F_skewbackref06_Primitive a).v).z).1), ci .i64 (((F_skewbackref06_Primitive a).e).1)]) := by
 refine ret_of_W (N := 55) Try.func15 rfl rfl (by simp) (fun w0 => ?_)
 simp only [initF, Nat.reduceAdd]
 refine W_sr (fun K1 hK1 => ?_)
 refine WL_r rfl (r_boxp rfl rfl (fun b1 hb1 => ?_))
 refine WL_r rfl (r_allocp zp_37 (fun b2 hb2 => ?_))
 refine WL_nil (hK1 _ _ ?_)
 clear hK1 K1
 refine W_sr (fun K1 hK1 => ?_)
 refine WL_q rfl (q_as (v' := AV [pI (E (Z.of 0))]) (q_ret en_22 (skewbackref03_Of_ret (wl 0).1 (wl 0).2) rfl) rfl) ?_
 refine WL_r rfl (r_allocp zp_28 (fun b3 hb3 => ?_))
 refine WL_st (qs := [pI (E (Z.of 0))]) rfl ty_28 rfl rfl rfl rfl rfl (.head _) hb3 ?_
 refine WL_nil (hK1 _ _ ?_)
 clear hK1 K1
 refine W_seq (fun K_1 hK_1 => ?_)
 refine W_sr (fun K1 hK1 => ?_)
 refine WL_q rfl (q_assign rfl) ?_
 refine WL_nil (hK1 _ _ ?_)
 clear hK1 K1
 refine W_block ?_
 refine W_un 5 ?_
 refine Un_s (fun K_2 hK_2 => ?_)
 refine W_seq (fun K_3 hK_3 => ?_)
 refine W_sr (fun K1 hK1 => ?_)
 refine WL_q rfl (q_move rfl) ?_
 refine WL_q rfl (q_as (v' := .bool true) (q_lss rfl rfl) rfl) ?_
 refine WL_nil (hK1 _ _ ?_)
 clear hK1 K1
 refine W_true rfl ?_
 refine W_skip ?_
 refine hK_3 _ _ ?_
 try clear hK_3 K_3
 refine W_seq (fun K_4 hK_4 => ?_)
 refine W_block ?_
 refine W_draw (sd (sk (sk (s0)))) (.quiet 0 [4,5] (.quiet 1 [2,3,4,5] (.quiet 2 [3,4,5] (.quiet 3 [4,5] (.quiet 4 [5] (.only 5 (.fin))))))) [0,1,2,3,4] mix (by kernel_rfl) (by kernel_rfl) (fun K1 hK1 => ?_)
 refine PL_q rfl rfl (q_loadp ty_28 rfl m0 rfl) ?_
 refine PL_q rfl rfl (q_move rfl) ?_
 refine PL_q rfl rfl (q_ptr (off' := 0) (q_idxa ar_30 rfl rfl (by decide) (by decide)) rfl) ?_
 refine PL_q rfl rfl (q_loadp ty_28 rfl m2 rfl) ?_
 refine PL_q rfl rfl (q_as (v' := AV [pI (E (Z.gcd (Z.of 0) a.x.dec))]) (q_ret en_52 (skewbackref03_Gcd_ret (E (Z.of 0)).1 a.x.1 (E (Z.of 0)).2 a.x.2) rfl) (cg2 (fun p q => AV [pI (E (Z.gcd p q))]) (E_dec _) rfl)) ?_
 refine PL_st rfl (qs := [pI (E (Z.gcd (Z.of 0) a.x.dec))]) rfl ty_28 rfl rfl rfl rfl rfl (.head _) hb3 rfl (sd s0) ?_
 refine PL_fin (hK1 _ _ ?_)
 clear hK1 K1
 refine hK_4 _ _ ?_
 try clear hK_4 K_4
 refine W_region_k (fun K1 hK1 => ?_)
 refine WL_q rfl (q_move rfl) ?_
 refine WL_q rfl (q_as (v' := .int .i64 1) (q_add rfl rfl) rfl) ?_
 refine WL_q rfl (q_assign rfl) ?_
 refine WL_nil (hK1 _ _ ?_)
 clear hK1 K1
 refine hK_2 _ _ ?_
 try clear hK_2 K_2
 refine Un_s (fun K_5 hK_5 => ?_)
 refine W_seq (fun K_6 hK_6 => ?_)
 refine W_sr (fun K1 hK1 => ?_)
 refine WL_q rfl (q_move rfl) ?_
 refine WL_q rfl (q_as (v' := .bool true) (q_lss rfl rfl) rfl) ?_
 refine WL_nil (hK1 _ _ ?_)
 clear hK1 K1
 refine W_true rfl ?_
 refine W_skip ?_
 refine hK_6 _ _ ?_
 try clear hK_6 K_6
 refine W_seq (fun K_7 hK_7 => ?_)
 refine W_block ?_
 refine W_draw (sd (sk (sk (s0)))) (.quiet 0 [4,5] (.quiet 1 [2,3,4,5] (.quiet 2 [3,4,5] (.quiet 3 [4,5] (.quiet 4 [5] (.only 5 (.fin))))))) [0,1,2,3,4] mix (by kernel_rfl) (by kernel_rfl) (fun K1 hK1 => ?_)
 refine PL_q rfl rfl (q_loadp ty_28 rfl m0 rfl) ?_
 refine PL_q rfl rfl (q_move rfl) ?_
 refine PL_q rfl rfl (q_ptr (off' := 18) (q_idxa ar_30 rfl rfl (by decide) (by decide)) rfl) ?_
 refine PL_q rfl rfl (q_loadp ty_28 rfl m2 rfl) ?_
 refine PL_q rfl rfl (q_as (v' := AV [pI (E (Z.gcd (Z.gcd (Z.of 0) a.x.dec) a.y.dec))]) (q_ret en_52 (skewbackref03_Gcd_ret (E (Z.gcd (Z.of 0) a.x.dec)).1 a.y.1 (E (Z.gcd (Z.of 0) a.x.dec)).2 a.y.2) rfl) (cg2 (fun p q => AV [pI (E (Z.gcd p q))]) (E_dec _) rfl)) ?_
 refine PL_st rfl (qs := [pI (E (Z.gcd (Z.gcd (Z.of 0) a.x.dec) a.y.dec))]) rfl ty_28 rfl rfl rfl rfl rfl (.head _) hb3 rfl (sd s0) ?_
 refine PL_fin (hK1 _ _ ?_)
 clear hK1 K1
 refine hK_7 _ _ ?_
 try clear hK_7 K_7
 refine W_region_k (fun K1 hK1 => ?_)
 refine WL_q rfl (q_move rfl) ?_
 refine WL_q rfl (q_as (v' := .int .i64 2) (q_add rfl rfl) rfl) ?_
 refine WL_q rfl (q_assign rfl) ?_
 refine WL_nil (hK1 _ _ ?_)
 clear hK1 K1
 refine hK_5 _ _ ?_
 try clear hK_5 K_5
 refine Un_s (fun K_8 hK_8 => ?_)
 refine W_seq (fun K_9 hK_9 => ?_)
 refine W_sr (fun K1 hK1 => ?_)
 refine WL_q rfl (q_move rfl) ?_
 refine WL_q rfl (q_as (v' := .bool true) (q_lss rfl rfl) rfl) ?_
 refine WL_nil (hK1 _ _ ?_)
 clear hK1 K1
 refine W_true rfl ?_
 refine W_skip ?_
 refine hK_9 _ _ ?_
 try clear hK_9 K_9
 refine W_seq (fun K_10 hK_10 => ?_)
 refine W_block ?_
 refine W_draw (sd (sk (sk (s0)))) (.quiet 0 [4,5] (.quiet 1 [2,3,4,5] (.quiet 2 [3,4,5] (.quiet 3 [4,5] (.quiet 4 [5] (.only 5 (.fin))))))) [0,1,2,3,4] mix (by kernel_rfl) (by kernel_rfl) (fun K1 hK1 => ?_)
 refine PL_q rfl rfl (q_loadp ty_28 rfl m0 rfl) ?_
 refine PL_q rfl rfl (q_move rfl) ?_
 refine PL_q rfl rfl (q_ptr (off' := 36) (q_idxa ar_30 rfl rfl (by decide) (by decide)) rfl) ?_
 refine PL_q rfl rfl (q_loadp ty_28 rfl m2 rfl) ?_
 refine PL_q rfl rfl (q_as (v' := AV [pI (E (Z.gcd (Z.gcd (Z.gcd (Z.of 0) a.x.dec) a.y.dec) a.z.dec))]) (q_ret en_52 (skewbackref03_Gcd_ret (E (Z.gcd (Z.gcd (Z.of 0) a.x.dec) a.y.dec)).1 a.z.1 (E (Z.gcd (Z.gcd (Z.of 0) a.x.dec) a.y.dec)).2 a.z.2) rfl) (cg2 (fun p q => AV [pI (E (Z.gcd p q))]) (E_dec _) rfl)) ?_
 refine PL_st rfl (qs := [pI (E (Z.gcd (Z.gcd (Z.gcd (Z.of 0) a.x.dec) a.y.dec) a.z.dec))]) rfl ty_28 rfl rfl rfl rfl rfl (.head _) hb3 rfl (sd s0) ?_
 refine PL_fin (hK1 _ _ ?_)
 clear hK1 K1
 refine hK_10 _ _ ?_
 try clear hK_10 K_10
 refine W_region_k (fun K1 hK1 => ?_)
 refine WL_q rfl (q_move rfl) ?_
 refine WL_q rfl (q_as (v' := .int .i64 3) (q_add rfl rfl) rfl) ?_
 refine WL_q rfl (q_assign rfl) ?_
 refine WL_nil (hK1 _ _ ?_)
 clear hK1 K1
 refine hK_8 _ _ ?_
 try clear hK_8 K_8
 refine Un_s (fun K_11 hK_11 => ?_)
 refine W_seq (fun K_12 hK_12 => ?_)
 refine W_sr (fun K1 hK1 => ?_)
 refine WL_q rfl (q_move rfl) ?_
 refine WL_q rfl (q_as (v' := .bool false) (q_lss rfl rfl) rfl) ?_
 refine WL_nil (hK1 _ _ ?_)
 clear hK1 K1
 refine W_false rfl ?_
 refine W_exit (thenK_x (thenK_x (blockK_hit ?_)))
 refine hK_1 _ _ ?_
 try clear hK_1 K_1
 refine W_seq (fun K_13 hK_13 => ?_)
 refine W_sr (fun K1 hK1 => ?_)
 refine WL_q rfl (q_ptr (off' := 0) (q_faddr fd_28_0 (by decide) rfl) rfl) ?_
 refine WL_q rfl (q_loadc (v := .bool ((E (Z.gcd (Z.gcd (Z.gcd (Z.of 0) a.x.dec) a.y.dec) a.z.dec)).1.bad)) ty_4 rfl m0 rfl) ?_
 refine WL_nil (hK1 _ _ ?_)
 clear hK1 K1
 rcases bt ((E (Z.gcd (Z.gcd (Z.gcd (Z.of 0) a.x.dec) a.y.dec) a.z.dec)).1.bad) with h4 | h4
 ·skip
  refine W_t h4 rfl ?_
  refine W_sr (fun K1 hK1 => ?_)
  refine WL_q rfl (q_buildsp zp_37 pl_37 rfl (.cons [ci .i64 30] [ci .i64 0, ci .i64 0, ci .i64 0, ci .i64 30] rfl rfl rfl rfl (.nil _))) ?_
  refine WL_st (qs := [ci .i64 0, ci .i64 0, ci .i64 0, ci .i64 30]) rfl ty_37 rfl rfl rfl rfl rfl (.tail _ (.head _)) hb2 ?_
  refine WL_nil (hK1 _ _ ?_)
  clear hK1 K1
  refine W_ret ?_
  refine thenK_r (ret1 rfl (.inr rfl) (resP rfl m1 ty_37 rfl) ?_)
  exact (by exact congrArg (fun r : Dir => (AV [ci .i64 r.v.x.1, ci .i64 r.v.y.1, ci .i64 r.v.z.1, ci .i64 r.e.1] : Value)) (show _ = (F_skewbackref06_Primitive a) from bif_t h4 rfl))
 ·skip
  refine W_f h4 rfl ?_
  refine W_skip ?_
  refine hK_13 _ _ ?_
  try clear hK_13 K_13
  refine W_seq (fun K_14 hK_14 => ?_)
  refine W_sr (fun K1 hK1 => ?_)
  refine WL_q rfl (q_loadp ty_28 rfl m0 rfl) ?_
  refine WL_q rfl (q_as (v' := .int .i64 ((Z.signW (Z.gcd (Z.gcd (Z.gcd (Z.of 0) a.x.dec) a.y.dec) a.z.dec)).1)) (q_ret en_19 (skewbackref03_Sign_ret (E (Z.gcd (Z.gcd (Z.gcd (Z.of 0) a.x.dec) a.y.dec) a.z.dec)).1 (E (Z.gcd (Z.gcd (Z.gcd (Z.of 0) a.x.dec) a.y.dec) a.z.dec)).2) rfl) (cg1 (fun p => Value.int .i64 (Z.signW p).1) (E_dec _))) ?_
  refine WL_q rfl (q_as (v' := .bool ((Z.signW (Z.gcd (Z.gcd (Z.gcd (Z.of 0) a.x.dec) a.y.dec) a.z.dec)).1 == 0)) (q_eql rfl rfl) rfl) ?_
  refine WL_nil (hK1 _ _ ?_)
  clear hK1 K1
  rcases bt ((Z.signW (Z.gcd (Z.gcd (Z.gcd (Z.of 0) a.x.dec) a.y.dec) a.z.dec)).1 == 0) with h5 | h5
  ·skip
   refine W_t h5 rfl ?_
   refine W_sr (fun K1 hK1 => ?_)
   refine WL_q rfl (q_buildsp zp_37 pl_37 rfl (.cons [ci .i64 31] [ci .i64 0, ci .i64 0, ci .i64 0, ci .i64 31] rfl rfl rfl rfl (.nil _))) ?_
   refine WL_st (qs := [ci .i64 0, ci .i64 0, ci .i64 0, ci .i64 31]) rfl ty_37 rfl rfl rfl rfl rfl (.tail _ (.head _)) hb2 ?_
   refine WL_nil (hK1 _ _ ?_)
   clear hK1 K1
   refine W_ret ?_
   refine thenK_r (ret1 rfl (.inr rfl) (resP rfl m1 ty_37 rfl) ?_)
   exact (by exact congrArg (fun r : Dir => (AV [ci .i64 r.v.x.1, ci .i64 r.v.y.1, ci .i64 r.v.z.1, ci .i64 r.e.1] : Value)) (show _ = (F_skewbackref06_Primitive a) from bif_f h4 (bif_t h5 rfl)))
  ·skip
   refine W_f h5 rfl ?_
   refine W_skip ?_
   refine hK_14 _ _ ?_
   try clear hK_14 K_14
   refine W_sr (fun K1 hK1 => ?_)
   refine WL_q rfl (q_buildsp zp_37 pl_37 rfl (.nil _)) ?_
   refine WL_r rfl (r_allocp zp_37 (fun b6 hb6 => ?_))
   refine WL_st (qs := [ci .i64 0, ci .i64 0, ci .i64 0, ci .i64 0]) rfl ty_37 rfl rfl rfl rfl rfl (.head _) hb6 ?_
   refine WL_nil (hK1 _ _ ?_)
   clear hK1 K1
   refine W_seq (fun K_15 hK_15 => ?_)
   refine W_sr (fun K1 hK1 => ?_)
   refine WL_q rfl (q_assign rfl) ?_
   refine WL_nil (hK1 _ _ ?_)
   clear hK1 K1
   refine W_block ?_
   refine W_un 5 ?_
   refine Un_s (fun K_16 hK_16 => ?_)
   refine W_seq (fun K_17 hK_17 => ?_)
   refine W_sr (fun K1 hK1 => ?_)
   refine WL_q rfl (q_move rfl) ?_
   refine WL_q rfl (q_as (v' := .bool true) (q_lss rfl rfl) rfl) ?_
   refine WL_nil (hK1 _ _ ?_)
   clear hK1 K1
   refine W_true rfl ?_
   refine W_skip ?_
   refine hK_17 _ _ ?_
   try clear hK_17 K_17
   refine W_seq (fun K_18 hK_18 => ?_)
   refine W_block ?_
   refine W_sdr (sk (sk (sk (sk (s0))))) (.quiet 0 [1,2,4,5,6,7,8,9,10] (.quiet 1 [2,4,5,6,7,8,9,10] (.quiet 2 [4,5,6,7,8,9,10] (.quiet 3 [4,5,6,7,8,9,10] (.quiet 4 [5,6,7,8,9,10] (.quiet 5 [6,7,8,9,10] (.quiet 6 [7,8,9,10] (.quiet 7 [9,10] (.quiet 8 [10] (.quiet 9 [10] (.quiet 10 [] (.fin)))))))))))) [0,1,2,3,4,5,6,7,8,9,10] mix (by kernel_rfl) (by kernel_rfl) (fun K1 hK1 => ?_)
   refine PL_q rfl rfl (q_move rfl) ?_
   refine PL_q rfl rfl (q_ptr (off' := 0) (q_idxa ar_30 rfl rfl (by decide) (by decide)) rfl) ?_
   refine PL_q rfl rfl (q_loadp ty_28 rfl m3 rfl) ?_
   refine PL_q rfl rfl (q_loadp ty_28 rfl m1 rfl) ?_
   obtain ⟨r7, hr7⟩ := nm ((E (Z.quo a.x.dec (Z.gcd (Z.gcd (Z.gcd (Z.of 0) a.x.dec) a.y.dec) a.z.dec))) : I)
   refine PL_q rfl rfl (q_as (v' := AV [pI r7]) (q_ret en_54 (skewbackref03_Quo_ret a.x.1 (E (Z.gcd (Z.gcd (Z.gcd (Z.of 0) a.x.dec) a.y.dec) a.z.dec)).1 a.x.2 (E (Z.gcd (Z.gcd (Z.gcd (Z.of 0) a.x.dec) a.y.dec) a.z.dec)).2) rfl) ((cg2 (fun p q => AV [pI (E (Z.quo p q))]) rfl (E_dec _)).trans (by rw [hr7]))) ?_
   refine PL_q rfl rfl (q_as (v' := .tuple #[.int .i64 ((Z.smallW r7.dec).1), .bool r7.dec.small.2]) (q_ret en_53 (skewbackref03_Small_ret r7.1 r7.2) rfl) rfl) ?_
   refine PL_q rfl rfl (q_move rfl) ?_
   refine PL_q rfl rfl (q_extract rfl rfl) ?_
   refine PL_q rfl rfl (q_extract rfl rfl) ?_
   refine PL_q rfl rfl (q_assign rfl) ?_
   refine PL_q rfl rfl (q_assign rfl) ?_
   refine PL_fin (hK1 _ _ ?_)
   clear hK1 K1
   refine W_seq (fun K_19 hK_19 => ?_)
   refine W_sr (fun K1 hK1 => ?_)
   refine WL_q rfl (q_move rfl) ?_
   refine WL_q rfl (q_not rfl) ?_
   refine WL_nil (hK1 _ _ ?_)
   clear hK1 K1
   rcases bt r7.dec.small.2 with h8 | h8
   ·skip
    refine W_f (not_f h8) rfl ?_
    refine W_skip ?_
    refine hK_19 _ _ ?_
    try clear hK_19 K_19
    refine W_region_k (fun K1 hK1 => ?_)
    refine WL_q rfl (q_move rfl) ?_
    refine WL_q rfl (q_move rfl) ?_
    refine WL_q rfl (q_ptr (off' := 0) (q_faddr fd_37_0 (by decide) rfl) rfl) ?_
    refine WL_q rfl (q_ptr (off' := 0) (q_idxa ar_23 rfl rfl (by decide) (by decide)) rfl) ?_
    refine WL_st (qs := [ci .i64 ((Z.smallW r7.dec).1)]) rfl ty_3 rfl rfl rfl rfl rfl (.head _) hb6 ?_
    refine WL_nil (hK1 _ _ ?_)
    clear hK1 K1
    refine hK_18 _ _ ?_
    try clear hK_18 K_18
    refine W_region_k (fun K1 hK1 => ?_)
    refine WL_q rfl (q_move rfl) ?_
    refine WL_q rfl (q_as (v' := .int .i64 1) (q_add rfl rfl) rfl) ?_
    refine WL_q rfl (q_assign rfl) ?_
    refine WL_nil (hK1 _ _ ?_)
    clear hK1 K1
    refine hK_16 _ _ ?_
    try clear hK_16 K_16
    refine Un_s (fun K_20 hK_20 => ?_)
    refine W_seq (fun K_21 hK_21 => ?_)
    refine W_sr (fun K1 hK1 => ?_)
    refine WL_q rfl (q_move rfl) ?_
    refine WL_q rfl (q_as (v' := .bool true) (q_lss rfl rfl) rfl) ?_
    refine WL_nil (hK1 _ _ ?_)
    clear hK1 K1
    refine W_true rfl ?_
    refine W_skip ?_
    refine hK_21 _ _ ?_
    try clear hK_21 K_21
    refine W_seq (fun K_22 hK_22 => ?_)
    refine W_block ?_
    refine W_sdr (sk (sk (sk (sk (s0))))) (.quiet 0 [1,2,4,5,6,7,8,9,10] (.quiet 1 [2,4,5,6,7,8,9,10] (.quiet 2 [4,5,6,7,8,9,10] (.quiet 3 [4,5,6,7,8,9,10] (.quiet 4 [5,6,7,8,9,10] (.quiet 5 [6,7,8,9,10] (.quiet 6 [7,8,9,10] (.quiet 7 [9,10] (.quiet 8 [10] (.quiet 9 [10] (.quiet 10 [] (.fin)))))))))))) [0,1,2,3,4,5,6,7,8,9,10] mix (by kernel_rfl) (by kernel_rfl) (fun K1 hK1 => ?_)
    refine PL_q rfl rfl (q_move rfl) ?_
    refine PL_q rfl rfl (q_ptr (off' := 18) (q_idxa ar_30 rfl rfl (by decide) (by decide)) rfl) ?_
    refine PL_q rfl rfl (q_loadp ty_28 rfl m3 rfl) ?_
    refine PL_q rfl rfl (q_loadp ty_28 rfl m1 rfl) ?_
    obtain ⟨r9, hr9⟩ := nm ((E (Z.quo a.y.dec (Z.gcd (Z.gcd (Z.gcd (Z.of 0) a.x.dec) a.y.dec) a.z.dec))) : I)
    refine PL_q rfl rfl (q_as (v' := AV [pI r9]) (q_ret en_54 (skewbackref03_Quo_ret a.y.1 (E (Z.gcd (Z.gcd (Z.gcd (Z.of 0) a.x.dec) a.y.dec) a.z.dec)).1 a.y.2 (E (Z.gcd (Z.gcd (Z.gcd (Z.of 0) a.x.dec) a.y.dec) a.z.dec)).2) rfl) ((cg2 (fun p q => AV [pI (E (Z.quo p q))]) rfl (E_dec _)).trans (by rw [hr9]))) ?_
    refine PL_q rfl rfl (q_as (v' := .tuple #[.int .i64 ((Z.smallW r9.dec).1), .bool r9.dec.small.2]) (q_ret en_53 (skewbackref03_Small_ret r9.1 r9.2) rfl) rfl) ?_
    refine PL_q rfl rfl (q_move rfl) ?_
    refine PL_q rfl rfl (q_extract rfl rfl) ?_
    refine PL_q rfl rfl (q_extract rfl rfl) ?_
    refine PL_q rfl rfl (q_assign rfl) ?_
    refine PL_q rfl rfl (q_assign rfl) ?_
    refine PL_fin (hK1 _ _ ?_)
    clear hK1 K1
    refine W_seq (fun K_23 hK_23 => ?_)
    refine W_sr (fun K1 hK1 => ?_)
    refine WL_q rfl (q_move rfl) ?_
    refine WL_q rfl (q_not rfl) ?_
    refine WL_nil (hK1 _ _ ?_)
    clear hK1 K1
    rcases bt r9.dec.small.2 with h10 | h10
    ·skip
     refine W_f (not_f h10) rfl ?_
     refine W_skip ?_
     refine hK_23 _ _ ?_
     try clear hK_23 K_23
     refine W_region_k (fun K1 hK1 => ?_)
     refine WL_q rfl (q_move rfl) ?_
     refine WL_q rfl (q_move rfl) ?_
     refine WL_q rfl (q_ptr (off' := 0) (q_faddr fd_37_0 (by decide) rfl) rfl) ?_
     refine WL_q rfl (q_ptr (off' := 1) (q_idxa ar_23 rfl rfl (by decide) (by decide)) rfl) ?_
     refine WL_st (qs := [ci .i64 ((Z.smallW r9.dec).1)]) rfl ty_3 rfl rfl rfl rfl rfl (.head _) hb6 ?_
     refine WL_nil (hK1 _ _ ?_)
     clear hK1 K1
     refine hK_22 _ _ ?_
     try clear hK_22 K_22
     refine W_region_k (fun K1 hK1 => ?_)
     refine WL_q rfl (q_move rfl) ?_
     refine WL_q rfl (q_as (v' := .int .i64 2) (q_add rfl rfl) rfl) ?_
     refine WL_q rfl (q_assign rfl) ?_
     refine WL_nil (hK1 _ _ ?_)
     clear hK1 K1
     refine hK_20 _ _ ?_
     try clear hK_20 K_20
     refine Un_s (fun K_24 hK_24 => ?_)
     refine W_seq (fun K_25 hK_25 => ?_)
     refine W_sr (fun K1 hK1 => ?_)
     refine WL_q rfl (q_move rfl) ?_
     refine WL_q rfl (q_as (v' := .bool true) (q_lss rfl rfl) rfl) ?_
     refine WL_nil (hK1 _ _ ?_)
     clear hK1 K1
     refine W_true rfl ?_
     refine W_skip ?_
     refine hK_25 _ _ ?_
     try clear hK_25 K_25
     refine W_seq (fun K_26 hK_26 => ?_)
     refine W_block ?_
     refine W_sdr (sk (sk (sk (sk (s0))))) (.quiet 0 [1,2,4,5,6,7,8,9,10] (.quiet 1 [2,4,5,6,7,8,9,10] (.quiet 2 [4,5,6,7,8,9,10] (.quiet 3 [4,5,6,7,8,9,10] (.quiet 4 [5,6,7,8,9,10] (.quiet 5 [6,7,8,9,10] (.quiet 6 [7,8,9,10] (.quiet 7 [9,10] (.quiet 8 [10] (.quiet 9 [10] (.quiet 10 [] (.fin)))))))))))) [0,1,2,3,4,5,6,7,8,9,10] mix (by kernel_rfl) (by kernel_rfl) (fun K1 hK1 => ?_)
     refine PL_q rfl rfl (q_move rfl) ?_
     refine PL_q rfl rfl (q_ptr (off' := 36) (q_idxa ar_30 rfl rfl (by decide) (by decide)) rfl) ?_
     refine PL_q rfl rfl (q_loadp ty_28 rfl m3 rfl) ?_
     refine PL_q rfl rfl (q_loadp ty_28 rfl m1 rfl) ?_
     obtain ⟨r11, hr11⟩ := nm ((E (Z.quo a.z.dec (Z.gcd (Z.gcd (Z.gcd (Z.of 0) a.x.dec) a.y.dec) a.z.dec))) : I)
     refine PL_q rfl rfl (q_as (v' := AV [pI r11]) (q_ret en_54 (skewbackref03_Quo_ret a.z.1 (E (Z.gcd (Z.gcd (Z.gcd (Z.of 0) a.x.dec) a.y.dec) a.z.dec)).1 a.z.2 (E (Z.gcd (Z.gcd (Z.gcd (Z.of 0) a.x.dec) a.y.dec) a.z.dec)).2) rfl) ((cg2 (fun p q => AV [pI (E (Z.quo p q))]) rfl (E_dec _)).trans (by rw [hr11]))) ?_
     refine PL_q rfl rfl (q_as (v' := .tuple #[.int .i64 ((Z.smallW r11.dec).1), .bool r11.dec.small.2]) (q_ret en_53 (skewbackref03_Small_ret r11.1 r11.2) rfl) rfl) ?_
     refine PL_q rfl rfl (q_move rfl) ?_
     refine PL_q rfl rfl (q_extract rfl rfl) ?_
     refine PL_q rfl rfl (q_extract rfl rfl) ?_
     refine PL_q rfl rfl (q_assign rfl) ?_
     refine PL_q rfl rfl (q_assign rfl) ?_
     refine PL_fin (hK1 _ _ ?_)
     clear hK1 K1
     refine W_seq (fun K_27 hK_27 => ?_)
     refine W_sr (fun K1 hK1 => ?_)
     refine WL_q rfl (q_move rfl) ?_
     refine WL_q rfl (q_not rfl) ?_
     refine WL_nil (hK1 _ _ ?_)
     clear hK1 K1
     rcases bt r11.dec.small.2 with h12 | h12
     ·skip
      refine W_f (not_f h12) rfl ?_
      refine W_skip ?_
      refine hK_27 _ _ ?_
      try clear hK_27 K_27
      refine W_region_k (fun K1 hK1 => ?_)
      refine WL_q rfl (q_move rfl) ?_
      refine WL_q rfl (q_move rfl) ?_
      refine WL_q rfl (q_ptr (off' := 0) (q_faddr fd_37_0 (by decide) rfl) rfl) ?_
      refine WL_q rfl (q_ptr (off' := 2) (q_idxa ar_23 rfl rfl (by decide) (by decide)) rfl) ?_
      refine WL_st (qs := [ci .i64 ((Z.smallW r11.dec).1)]) rfl ty_3 rfl rfl rfl rfl rfl (.head _) hb6 ?_
      refine WL_nil (hK1 _ _ ?_)
      clear hK1 K1
      refine hK_26 _ _ ?_
      try clear hK_26 K_26
      refine W_region_k (fun K1 hK1 => ?_)
      refine WL_q rfl (q_move rfl) ?_
      refine WL_q rfl (q_as (v' := .int .i64 3) (q_add rfl rfl) rfl) ?_
      refine WL_q rfl (q_assign rfl) ?_
      refine WL_nil (hK1 _ _ ?_)
      clear hK1 K1
      refine hK_24 _ _ ?_
      try clear hK_24 K_24
      refine Un_s (fun K_28 hK_28 => ?_)
      refine W_seq (fun K_29 hK_29 => ?_)
      refine W_sr (fun K1 hK1 => ?_)
      refine WL_q rfl (q_move rfl) ?_
      refine WL_q rfl (q_as (v' := .bool false) (q_lss rfl rfl) rfl) ?_
      refine WL_nil (hK1 _ _ ?_)
      clear hK1 K1
      refine W_false rfl ?_
      refine W_exit (thenK_x (thenK_x (blockK_hit ?_)))
      refine hK_15 _ _ ?_
      try clear hK_15 K_15
      refine W_sr (fun K1 hK1 => ?_)
      refine WL_q rfl (q_ptr (off' := 0) (q_faddr fd_37_0 (by decide) rfl) rfl) ?_
      refine WL_q rfl (q_loadp ty_23 rfl m0 rfl) ?_
      refine WL_q rfl (q_ret en_25 (skewbackref06_Small_ret (⟨(Z.smallW r7.dec), (Z.smallW r9.dec), (Z.smallW r11.dec)⟩ : (A3 W))) rfl) ?_
      refine WL_q rfl (q_assign rfl) ?_
      refine WL_nil (hK1 _ _ ?_)
      clear hK1 K1
      refine W_seq (fun K_30 hK_30 => ?_)
      refine W_sr (fun K1 hK1 => ?_)
      refine WL_q rfl (q_move rfl) ?_
      refine WL_q rfl (q_not rfl) ?_
      refine WL_nil (hK1 _ _ ?_)
      clear hK1 K1
      rcases bt (F_skewbackref06_Small (⟨(Z.smallW r7.dec), (Z.smallW r9.dec), (Z.smallW r11.dec)⟩ : (A3 W))) with h13 | h13
      ·skip
       refine W_f (not_f h13) rfl ?_
       refine W_skip ?_
       refine hK_30 _ _ ?_
       try clear hK_30 K_30
       refine W_sr (fun K1 hK1 => ?_)
       refine WL_q rfl (q_loadp ty_37 rfl m0 rfl) ?_
       refine WL_st (qs := [ci .i64 ((Z.smallW r7.dec).1), ci .i64 ((Z.smallW r9.dec).1), ci .i64 ((Z.smallW r11.dec).1), ci .i64 0]) rfl ty_37 rfl rfl rfl rfl rfl (.tail _ (.tail _ (.head _))) hb2 ?_
       refine WL_nil (hK1 _ _ ?_)
       clear hK1 K1
       refine W_ret ?_
       refine ret1 rfl (.inr rfl) (resP rfl m2 ty_37 rfl) ?_
       exact (by subst hr11; subst hr9; subst hr7; exact congrArg (fun r : Dir => (AV [ci .i64 r.v.x.1, ci .i64 r.v.y.1, ci .i64 r.v.z.1, ci .i64 r.e.1] : Value)) (show _ = (F_skewbackref06_Primitive a) from bif_f h4 (bif_f h5 (bif_t h8 (bif_t h10 (bif_t h12 (bif_t h13 rfl)))))))
      ·skip
       refine W_t (not_t h13) rfl ?_
       refine W_sr (fun K1 hK1 => ?_)
       refine WL_q rfl (q_buildsp zp_37 pl_37 rfl (.cons [ci .i64 30] [ci .i64 0, ci .i64 0, ci .i64 0, ci .i64 30] rfl rfl rfl rfl (.nil _))) ?_
       refine WL_st (qs := [ci .i64 0, ci .i64 0, ci .i64 0, ci .i64 30]) rfl ty_37 rfl rfl rfl rfl rfl (.tail _ (.tail _ (.head _))) hb2 ?_
       refine WL_nil (hK1 _ _ ?_)
       clear hK1 K1
       refine W_ret ?_
       refine thenK_r (ret1 rfl (.inr rfl) (resP rfl m2 ty_37 rfl) ?_)
       exact (by subst hr11; subst hr9; subst hr7; exact congrArg (fun r : Dir => (AV [ci .i64 r.v.x.1, ci .i64 r.v.y.1, ci .i64 r.v.z.1, ci .i64 r.e.1] : Value)) (show _ = (F_skewbackref06_Primitive a) from bif_f h4 (bif_f h5 (bif_t h8 (bif_t h10 (bif_t h12 (bif_f h13 rfl)))))))
     ·skip
      refine W_t (not_t h12) rfl ?_
      refine W_sr (fun K1 hK1 => ?_)
      refine WL_q rfl (q_buildsp zp_37 pl_37 rfl (.cons [ci .i64 30] [ci .i64 0, ci .i64 0, ci .i64 0, ci .i64 30] rfl rfl rfl rfl (.nil _))) ?_
      refine WL_st (qs := [ci .i64 0, ci .i64 0, ci .i64 0, ci .i64 30]) rfl ty_37 rfl rfl rfl rfl rfl (.tail _ (.tail _ (.head _))) hb2 ?_
      refine WL_nil (hK1 _ _ ?_)
      clear hK1 K1
      refine W_ret ?_
      refine thenK_r (blockK_r (thenK_r (thenK_r (blockK_r (thenK_r (ret1 rfl (.inr rfl) (resP rfl m2 ty_37 rfl) ?_))))))
      exact (by subst hr11; subst hr9; subst hr7; exact congrArg (fun r : Dir => (AV [ci .i64 r.v.x.1, ci .i64 r.v.y.1, ci .i64 r.v.z.1, ci .i64 r.e.1] : Value)) (show _ = (F_skewbackref06_Primitive a) from bif_f h4 (bif_f h5 (bif_t h8 (bif_t h10 (bif_f h12 rfl))))))
    ·skip
     refine W_t (not_t h10) rfl ?_
     refine W_sr (fun K1 hK1 => ?_)
     refine WL_q rfl (q_buildsp zp_37 pl_37 rfl (.cons [ci .i64 30] [ci .i64 0, ci .i64 0, ci .i64 0, ci .i64 30] rfl rfl rfl rfl (.nil _))) ?_
     refine WL_st (qs := [ci .i64 0, ci .i64 0, ci .i64 0, ci .i64 30]) rfl ty_37 rfl rfl rfl rfl rfl (.tail _ (.tail _ (.head _))) hb2 ?_
     refine WL_nil (hK1 _ _ ?_)
     clear hK1 K1
     refine W_ret ?_
     refine thenK_r (blockK_r (thenK_r (thenK_r (blockK_r (thenK_r (ret1 rfl (.inr rfl) (resP rfl m2 ty_37 rfl) ?_))))))
     exact (by subst hr9; subst hr7; exact congrArg (fun r : Dir => (AV [ci .i64 r.v.x.1, ci .i64 r.v.y.1, ci .i64 r.v.z.1, ci .i64 r.e.1] : Value)) (show _ = (F_skewbackref06_Primitive a) from bif_f h4 (bif_f h5 (bif_t h8 (bif_f h10 rfl)))))
   ·skip
    refine W_t (not_t h8) rfl ?_
    refine W_sr (fun K1 hK1 => ?_)
    refine WL_q rfl (q_buildsp zp_37 pl_37 rfl (.cons [ci .i64 30] [ci .i64 0, ci .i64 0, ci .i64 0, ci .i64 30] rfl rfl rfl rfl (.nil _))) ?_
    refine WL_st (qs := [ci .i64 0, ci .i64 0, ci .i64 0, ci .i64 30]) rfl ty_37 rfl rfl rfl rfl rfl (.tail _ (.tail _ (.head _))) hb2 ?_
    refine WL_nil (hK1 _ _ ?_)
    clear hK1 K1
    refine W_ret ?_
    refine thenK_r (blockK_r (thenK_r (thenK_r (blockK_r (thenK_r (ret1 rfl (.inr rfl) (resP rfl m2 ty_37 rfl) ?_))))))
    exact (by subst hr7; exact congrArg (fun r : Dir => (AV [ci .i64 r.v.x.1, ci .i64 r.v.y.1, ci .i64 r.v.z.1, ci .i64 r.e.1] : Value)) (show _ = (F_skewbackref06_Primitive a) from bif_f h4 (bif_f h5 (bif_f h8 rfl))))

theorem skewbackref06_Tangents_ret (a : (A3 W)) :
    Ret Try.prog 21 [AV [ci .i64 a.x.1, ci .i64 a.y.1, ci .i64 a.z.1]] (.tuple #[AV [ci .i64 ((((F_skewbackref06_Tangents a).1).x).1), ci .i64 ((((F_skewbackref06_Tangents a).1).y).1), ci .i64 ((((F_skewbackref06_Tangents a).1).z).1)], AV [ci .i64 ((((F_skewbackref06_Tangents a).2).x).1), ci .i64 ((((F_skewbackref06_Tangents a).2).y).1), ci .i64 ((((F_skewbackref06_Tangents a).2).z).1)]]) := by
 refine ret_of_W (N := 47) Try.func21 rfl rfl (by simp) (fun w0 => ?_)
 simp only [initF, Nat.reduceAdd]
 refine W_sr (fun K1 hK1 => ?_)
 refine WL_r rfl (r_boxp rfl rfl (fun b1 hb1 => ?_))
 refine WL_r rfl (r_allocp zp_23 (fun b2 hb2 => ?_))
 refine WL_r rfl (r_allocp zp_23 (fun b3 hb3 => ?_))
 refine WL_nil (hK1 _ _ ?_)
 clear hK1 K1
 refine W_seq (fun K_1 hK_1 => ?_)
 refine W_join [7, 8, 9, 10, 11, 12, 13, 14] (fun g M => (g 14 = .bool ((a.x.1 == 0) && (a.y.1 == 0))) ∧ M = [⟨b3, 23, flat [ci .i64 0, ci .i64 0, ci .i64 0]⟩, ⟨b2, 23, flat [ci .i64 0, ci .i64 0, ci .i64 0]⟩, ⟨b1, 23, flat [ci .i64 a.x.1, ci .i64 a.y.1, ci .i64 a.z.1]⟩]) (fun K_2 hK_2 => ?_) ?_
 ·skip
  refine W_region_k (fun K1 hK1 => ?_)
  refine WL_q rfl (q_ptr (off' := 0) (q_idxa ar_23 rfl rfl (by decide) (by decide)) rfl) ?_
  refine WL_q rfl (q_loadc (v := .int .i64 a.x.1) ty_3 rfl m2 rfl) ?_
  refine WL_q rfl (q_as (v' := .bool (a.x.1 == 0)) (q_eql rfl rfl) rfl) ?_
  rcases bt (a.x.1 == 0) with h5 | h5
  ·skip
   refine WL_q rfl (q_as (v' := .bool true) (q_move rfl) (congrArg Value.bool h5)) ?_
   refine WL_q rfl (q_ptr (off' := 1) (q_idxa ar_23 rfl rfl (by decide) (by decide)) rfl) ?_
   refine WL_q rfl (q_loadc (v := .int .i64 a.y.1) ty_3 rfl m2 rfl) ?_
   refine WL_q rfl (q_as (v' := .bool (a.y.1 == 0)) (q_eql rfl rfl) rfl) ?_
   refine WL_q rfl (q_pick rfl rfl) ?_
   refine WL_nil (hK1 _ _ ?_)
   clear hK1 K1
   refine hK_2 _ _ (by repeat (first | exact .refl | refine .cons rfl ?_)) ⟨_, s0, ?s14, rfl⟩
   case s14 => exact congrArg Value.bool (and_t h5 rfl)
  ·skip
   refine WL_q rfl (q_as (v' := .bool false) (q_move rfl) (congrArg Value.bool h5)) ?_
   refine WL_n rfl ?_
   refine WL_n rfl ?_
   refine WL_n rfl ?_
   refine WL_q rfl (q_pick rfl rfl) ?_
   refine WL_nil (hK1 _ _ ?_)
   clear hK1 K1
   refine hK_2 _ _ (by repeat (first | exact .refl | refine .cons rfl ?_)) ⟨_, s0, ?s14, rfl⟩
   case s14 => exact congrArg Value.bool (and_f h5)
 ·skip
  rintro g6 M ⟨hg14, rfl⟩
  simp only [setG, hg14]
  clear hg14
  rcases bt ((a.x.1 == 0) && (a.y.1 == 0)) with h7 | h7
  ·skip
   refine W_t h7 rfl ?_
   refine W_sr (fun K1 hK1 => ?_)
   refine WL_q rfl (q_buildap zp_23 ar_23 rfl (.cons [ci .i64 1] [ci .i64 1, ci .i64 0, ci .i64 0] rfl rfl rfl rfl (.cons [ci .i64 0] [ci .i64 1, ci .i64 0, ci .i64 0] rfl rfl rfl rfl (.cons [ci .i64 0] [ci .i64 1, ci .i64 0, ci .i64 0] rfl rfl rfl rfl (.nil _))))) ?_
   refine WL_q rfl (q_buildap zp_23 ar_23 rfl (.cons [ci .i64 0] [ci .i64 0, ci .i64 0, ci .i64 0] rfl rfl rfl rfl (.cons [ci .i64 1] [ci .i64 0, ci .i64 1, ci .i64 0] rfl rfl rfl rfl (.cons [ci .i64 0] [ci .i64 0, ci .i64 1, ci .i64 0] rfl rfl rfl rfl (.nil _))))) ?_
   refine WL_st (qs := [ci .i64 1, ci .i64 0, ci .i64 0]) rfl ty_23 rfl rfl rfl rfl rfl (.tail _ (.head _)) hb2 ?_
   refine WL_st (qs := [ci .i64 0, ci .i64 1, ci .i64 0]) rfl ty_23 rfl rfl rfl rfl rfl (.head _) hb3 ?_
   refine WL_nil (hK1 _ _ ?_)
   clear hK1 K1
   refine W_ret ?_
   refine thenK_r (ret2 rfl (.inr rfl) (resP rfl m1 ty_23 rfl) (resP rfl m0 ty_23 rfl) ?_)
   exact (by exact congrArg (fun r : (A3 W) × (A3 W) => (.tuple #[AV [ci .i64 r.1.x.1, ci .i64 r.1.y.1, ci .i64 r.1.z.1], AV [ci .i64 r.2.x.1, ci .i64 r.2.y.1, ci .i64 r.2.z.1]] : Value)) (show _ = (F_skewbackref06_Tangents a) from bif_t h7 rfl))
  ·skip
   refine W_f h7 rfl ?_
   refine W_skip ?_
   refine hK_1 _ _ ?_
   try clear hK_1 K_1
   refine W_sr (fun K1 hK1 => ?_)
   refine WL_q rfl (q_loadp ty_23 rfl m2 rfl) ?_
   obtain ⟨r8, hr8⟩ := nm ((F_skewbackref06_Wide a) : (A3 I))
   refine WL_q rfl (q_as (v' := AV [pI r8.x, pI r8.y, pI r8.z]) (q_ret en_16 (skewbackref06_Wide_ret a) rfl) (by rw [hr8]; first | done | rfl)) ?_
   refine WL_r rfl (r_allocp zp_30 (fun b9 hb9 => ?_))
   refine WL_st (qs := [pI r8.x, pI r8.y, pI r8.z]) rfl ty_30 rfl rfl rfl rfl rfl (.head _) hb9 ?_
   refine WL_nil (hK1 _ _ ?_)
   clear hK1 K1
   refine W_sdr (sk (sk (sk (sk (s0))))) (.quiet 0 [1,2,5,6,7,9] (.quiet 1 [2,5,6,7,9] (.quiet 2 [5,6,7,9] (.quiet 3 [4,6,7,9] (.quiet 4 [6,7,9] (.quiet 5 [6,7,9] (.quiet 6 [7,9] (.quiet 7 [9] (.only 8 (.only 9 (.fin))))))))))) [0,1,2,3,4,5,6,7,8] mix (by kernel_rfl) (by kernel_rfl) (fun K1 hK1 => ?_)
   refine PL_q rfl rfl (q_ptr (off' := 18) (q_idxa ar_30 rfl rfl (by decide) (by decide)) rfl) ?_
   refine PL_q rfl rfl (q_loadp ty_28 rfl m0 rfl) ?_
   refine PL_q rfl rfl (q_as (v' := AV [pI (E (Z.neg r8.y.dec))]) (q_ret en_35 (skewbackref03_Neg_ret r8.y.1 r8.y.2) rfl) rfl) ?_
   refine PL_q rfl rfl (q_ptr (off' := 0) (q_idxa ar_30 rfl rfl (by decide) (by decide)) rfl) ?_
   refine PL_q rfl rfl (q_loadp ty_28 rfl m0 rfl) ?_
   refine PL_q rfl rfl (q_as (v' := AV [pI (E (Z.of 0))]) (q_ret en_22 (skewbackref03_Of_ret (wl 0).1 (wl 0).2) rfl) rfl) ?_
   refine PL_q rfl rfl (q_buildap zp_30 ar_30 rfl (.cons [pI (E (Z.neg r8.y.dec))] [pI (E (Z.neg r8.y.dec)), pI I0, pI I0] rfl rfl rfl rfl (.cons [pI r8.x] [pI (E (Z.neg r8.y.dec)), pI r8.x, pI I0] rfl rfl rfl rfl (.cons [pI (E (Z.of 0))] [pI (E (Z.neg r8.y.dec)), pI r8.x, pI (E (Z.of 0))] rfl rfl rfl rfl (.nil _))))) ?_
   obtain ⟨r10, hr10⟩ := nm ((F_skewbackref06_Primitive (⟨(E (Z.neg r8.y.dec)), r8.x, (E (Z.of 0))⟩ : (A3 I))) : Dir)
   refine PL_q rfl rfl (q_as (v' := AV [ci .i64 r10.v.x.1, ci .i64 r10.v.y.1, ci .i64 r10.v.z.1, ci .i64 r10.e.1]) (q_ret en_15 (skewbackref06_Primitive_ret (⟨(E (Z.neg r8.y.dec)), r8.x, (E (Z.of 0))⟩ : (A3 I))) rfl) (by rw [hr10]; first | done | rfl)) ?_
   refine PL_o rfl rfl (r_allocp zp_37 (fun b11 hb11 => ⟨(fun _ => sd s0), (sd s0), ?_⟩))
   refine PL_st rfl (qs := [ci .i64 r10.v.x.1, ci .i64 r10.v.y.1, ci .i64 r10.v.z.1, ci .i64 r10.e.1]) rfl ty_37 rfl rfl rfl rfl rfl (.head _) hb11 rfl (sd s0) ?_
   refine PL_fin (hK1 _ _ ?_)
   clear hK1 K1
   refine W_sdr (sk (sk (sk (sk (sk (s0)))))) (.quiet 0 [4,5,7] (.quiet 1 [2,3,4,5,7] (.quiet 2 [3,4,5,7] (.quiet 3 [4,5,7] (.quiet 4 [5,7] (.quiet 5 [7] (.only 6 (.only 7 (.fin))))))))) [0,1,2,3,4,5,6] mix (by kernel_rfl) (by kernel_rfl) (fun K1 hK1 => ?_)
   refine PL_q rfl rfl (q_loadp ty_30 rfl m1 rfl) ?_
   refine PL_q rfl rfl (q_ptr (off' := 0) (q_faddr fd_37_0 (by decide) rfl) rfl) ?_
   refine PL_q rfl rfl (q_loadp ty_23 rfl m0 rfl) ?_
   obtain ⟨r12, hr12⟩ := nm ((F_skewbackref06_Wide r10.v) : (A3 I))
   refine PL_q rfl rfl (q_as (v' := AV [pI r12.x, pI r12.y, pI r12.z]) (q_ret en_16 (skewbackref06_Wide_ret r10.v) rfl) (by rw [hr12]; first | done | rfl)) ?_
   obtain ⟨r13, hr13⟩ := nm ((F_skewbackref06_CrossOf r8 r12) : (A3 I))
   refine PL_q rfl rfl (q_as (v' := AV [pI r13.x, pI r13.y, pI r13.z]) (q_ret en_17 (skewbackref06_CrossOf_ret r8 r12) rfl) (by rw [hr13]; first | done | rfl)) ?_
   obtain ⟨r14, hr14⟩ := nm ((F_skewbackref06_Primitive r13) : Dir)
   refine PL_q rfl rfl (q_as (v' := AV [ci .i64 r14.v.x.1, ci .i64 r14.v.y.1, ci .i64 r14.v.z.1, ci .i64 r14.e.1]) (q_ret en_15 (skewbackref06_Primitive_ret r13) rfl) (by rw [hr14]; first | done | rfl)) ?_
   refine PL_o rfl rfl (r_allocp zp_37 (fun b15 hb15 => ⟨(fun _ => sd s0), (sd s0), ?_⟩))
   refine PL_st rfl (qs := [ci .i64 r14.v.x.1, ci .i64 r14.v.y.1, ci .i64 r14.v.z.1, ci .i64 r14.e.1]) rfl ty_37 rfl rfl rfl rfl rfl (.head _) hb15 rfl (sd s0) ?_
   refine PL_fin (hK1 _ _ ?_)
   clear hK1 K1
   refine W_seq (fun K_3 hK_3 => ?_)
   refine W_join [33, 34, 35, 36, 37, 38, 39, 40] (fun g M => (g 40 = .bool ((r10.e.1 != 0) || (r14.e.1 != 0))) ∧ M = [⟨b15, 37, flat [ci .i64 r14.v.x.1, ci .i64 r14.v.y.1, ci .i64 r14.v.z.1, ci .i64 r14.e.1]⟩, ⟨b11, 37, flat [ci .i64 r10.v.x.1, ci .i64 r10.v.y.1, ci .i64 r10.v.z.1, ci .i64 r10.e.1]⟩, ⟨b9, 30, flat [pI r8.x, pI r8.y, pI r8.z]⟩, ⟨b3, 23, flat [ci .i64 0, ci .i64 0, ci .i64 0]⟩, ⟨b2, 23, flat [ci .i64 0, ci .i64 0, ci .i64 0]⟩, ⟨b1, 23, flat [ci .i64 a.x.1, ci .i64 a.y.1, ci .i64 a.z.1]⟩]) (fun K_4 hK_4 => ?_) ?_
   ·skip
    refine W_region_k (fun K1 hK1 => ?_)
    refine WL_q rfl (q_ptr (off' := 3) (q_faddr fd_37_1 (by decide) rfl) rfl) ?_
    refine WL_q rfl (q_loadc (v := .int .i64 r10.e.1) ty_33 rfl m1 rfl) ?_
    refine WL_q rfl (q_as (v' := .bool (r10.e.1 != 0)) (q_neq rfl rfl) rfl) ?_
    rcases bt (r10.e.1 != 0) with h17 | h17
    ·skip
     refine WL_q rfl (q_as (v' := .bool true) (q_move rfl) (congrArg Value.bool h17)) ?_
     refine WL_n rfl ?_
     refine WL_n rfl ?_
     refine WL_n rfl ?_
     refine WL_q rfl (q_pick rfl rfl) ?_
     refine WL_nil (hK1 _ _ ?_)
     clear hK1 K1
     refine hK_4 _ _ (by repeat (first | exact .refl | refine .cons rfl ?_)) ⟨_, s0, ?s40, rfl⟩
     case s40 => exact congrArg Value.bool (or_t h17)
    ·skip
     refine WL_q rfl (q_as (v' := .bool false) (q_move rfl) (congrArg Value.bool h17)) ?_
     refine WL_q rfl (q_ptr (off' := 3) (q_faddr fd_37_1 (by decide) rfl) rfl) ?_
     refine WL_q rfl (q_loadc (v := .int .i64 r14.e.1) ty_33 rfl m0 rfl) ?_
     refine WL_q rfl (q_as (v' := .bool (r14.e.1 != 0)) (q_neq rfl rfl) rfl) ?_
     refine WL_q rfl (q_pick rfl rfl) ?_
     refine WL_nil (hK1 _ _ ?_)
     clear hK1 K1
     refine hK_4 _ _ (by repeat (first | exact .refl | refine .cons rfl ?_)) ⟨_, s0, ?s40, rfl⟩
     case s40 => exact congrArg Value.bool (or_f h17 rfl)
   ·skip
    rintro g18 M ⟨hg40, rfl⟩
    simp only [setG, hg40]
    clear hg40
    rcases bt ((r10.e.1 != 0) || (r14.e.1 != 0)) with h19 | h19
    ·skip
     refine W_t h19 rfl ?_
     refine W_sr (fun K1 hK1 => ?_)
     refine WL_q rfl (q_buildap zp_23 ar_23 rfl (.nil _)) ?_
     refine WL_q rfl (q_buildap zp_23 ar_23 rfl (.nil _)) ?_
     refine WL_st (qs := [ci .i64 0, ci .i64 0, ci .i64 0]) rfl ty_23 rfl rfl rfl rfl rfl (.tail _ (.tail _ (.tail _ (.tail _ (.head _))))) hb2 ?_
     refine WL_st (qs := [ci .i64 0, ci .i64 0, ci .i64 0]) rfl ty_23 rfl rfl rfl rfl rfl (.tail _ (.tail _ (.tail _ (.head _)))) hb3 ?_
     refine WL_nil (hK1 _ _ ?_)
     clear hK1 K1
     refine W_ret ?_
     refine thenK_r (ret2 rfl (.inr rfl) (resP rfl m4 ty_23 rfl) (resP rfl m3 ty_23 rfl) ?_)
     exact (by subst hr14; subst hr13; subst hr12; subst hr10; subst hr8; exact congrArg (fun r : (A3 W) × (A3 W) => (.tuple #[AV [ci .i64 r.1.x.1, ci .i64 r.1.y.1, ci .i64 r.1.z.1], AV [ci .i64 r.2.x.1, ci .i64 r.2.y.1, ci .i64 r.2.z.1]] : Value)) (show _ = (F_skewbackref06_Tangents a) from bif_f h7 (bif_t h19 rfl)))
    ·skip
     refine W_f h19 rfl ?_
     refine W_skip ?_
     refine hK_3 _ _ ?_
     try clear hK_3 K_3
     refine W_sdr (sk (sk (sk (sd (sd (sk (s0))))))) (.quiet 0 [1,4,5] (.quiet 1 [4,5] (.still 2 [3,5] (.still 3 [5] (.only 4 (.only 5 (.fin))))))) [0,1,2,3] mix (by kernel_rfl) (by kernel_rfl) (fun K1 hK1 => ?_)
     refine PL_q rfl rfl (q_ptr (off' := 0) (q_faddr fd_37_0 (by decide) rfl) rfl) ?_
     refine PL_q rfl rfl (q_loadp ty_23 rfl m1 rfl) ?_
     refine PL_s rfl rfl (q_ptr (off' := 0) (q_faddr fd_37_0 (by decide) rfl) rfl) ?_
     refine PL_s rfl rfl (q_loadp ty_23 rfl m0 rfl) ?_
     refine PL_st rfl (qs := [ci .i64 r10.v.x.1, ci .i64 r10.v.y.1, ci .i64 r10.v.z.1]) rfl ty_23 rfl rfl rfl rfl rfl (.tail _ (.tail _ (.tail _ (.tail _ (.head _))))) hb2 rfl (sk (sk (sk (sd (sd s0))))) ?_
     refine PL_st rfl (qs := [ci .i64 r14.v.x.1, ci .i64 r14.v.y.1, ci .i64 r14.v.z.1]) rfl ty_23 rfl rfl rfl rfl rfl (.tail _ (.tail _ (.tail _ (.head _)))) hb3 rfl (sk (sk (sk (sd (sd s0))))) ?_
     refine PL_fin (hK1 _ _ ?_)
     clear hK1 K1
     refine W_ret ?_
     refine ret2 rfl (.inr rfl) (resP rfl m4 ty_23 rfl) (resP rfl m3 ty_23 rfl) ?_
     exact (by subst hr14; subst hr13; subst hr12; subst hr10; subst hr8; exact congrArg (fun r : (A3 W) × (A3 W) => (.tuple #[AV [ci .i64 r.1.x.1, ci .i64 r.1.y.1, ci .i64 r.1.z.1], AV [ci .i64 r.2.x.1, ci .i64 r.2.y.1, ci .i64 r.2.z.1]] : Value)) (show _ = (F_skewbackref06_Tangents a) from bif_f h7 (bif_f h19 rfl)))

theorem skewbackref06_from_ret (a : (A3 W)) (b : (A3 W)) :
    Ret Try.prog 64 [AV [ci .i64 a.x.1, ci .i64 a.y.1, ci .i64 a.z.1], AV [ci .i64 b.x.1, ci .i64 b.y.1, ci .i64 b.z.1]] (AV [pI ((F_skewbackref06_from a b).x), pI ((F_skewbackref06_from a b).y), pI ((F_skewbackref06_from a b).z)]) := by
 refine ret_of_W (N := 27) Try.func64 rfl rfl (by simp) (fun w0 => ?_)
 simp only [initF, Nat.reduceAdd]
 refine W_sr (fun K1 hK1 => ?_)
 refine WL_r rfl (r_boxp rfl rfl (fun b1 hb1 => ?_))
 refine WL_r rfl (r_boxp rfl rfl (fun b2 hb2 => ?_))
 refine WL_r rfl (r_allocp zp_30 (fun b3 hb3 => ?_))
 refine WL_nil (hK1 _ _ ?_)
 clear hK1 K1
 refine W_sr (fun K1 hK1 => ?_)
 refine WL_q rfl (q_loadp ty_23 rfl m2 rfl) ?_
 obtain ⟨r4, hr4⟩ := nm ((F_skewbackref06_Wide a) : (A3 I))
 refine WL_q rfl (q_as (v' := AV [pI r4.x, pI r4.y, pI r4.z]) (q_ret en_16 (skewbackref06_Wide_ret a) rfl) (by rw [hr4]; first | done | rfl)) ?_
 refine WL_r rfl (r_allocp zp_30 (fun b5 hb5 => ?_))
 refine WL_st (qs := [pI r4.x, pI r4.y, pI r4.z]) rfl ty_30 rfl rfl rfl rfl rfl (.head _) hb5 ?_
 refine WL_nil (hK1 _ _ ?_)
 clear hK1 K1
 refine W_sr (fun K1 hK1 => ?_)
 refine WL_q rfl (q_loadp ty_23 rfl m2 rfl) ?_
 obtain ⟨r6, hr6⟩ := nm ((F_skewbackref06_Wide b) : (A3 I))
 refine WL_q rfl (q_as (v' := AV [pI r6.x, pI r6.y, pI r6.z]) (q_ret en_16 (skewbackref06_Wide_ret b) rfl) (by rw [hr6]; first | done | rfl)) ?_
 refine WL_r rfl (r_allocp zp_30 (fun b7 hb7 => ?_))
 refine WL_st (qs := [pI r6.x, pI r6.y, pI r6.z]) rfl ty_30 rfl rfl rfl rfl rfl (.head _) hb7 ?_
 refine WL_nil (hK1 _ _ ?_)
 clear hK1 K1
 refine W_sdr (sk (sk (sd (sk (sk (s0)))))) (.quiet 0 [1,4,9,14,15,16] (.quiet 1 [4,9,14,15,16] (.quiet 2 [3,4,9,14,15,16] (.quiet 3 [4,9,14,15,16] (.quiet 4 [9,14,15,16] (.quiet 5 [6,9,14,15,16] (.quiet 6 [9,14,15,16] (.quiet 7 [8,9,14,15,16] (.quiet 8 [9,14,15,16] (.quiet 9 [14,15,16] (.quiet 10 [11,14,15,16] (.quiet 11 [14,15,16] (.quiet 12 [13,14,15,16] (.quiet 13 [14,15,16] (.quiet 14 [15,16] (.quiet 15 [16] (.only 16 (.fin)))))))))))))))))) [0,1,2,3,4,5,6,7,8,9,10,11,12,13,14,15] mix (by kernel_rfl) (by kernel_rfl) (fun K1 hK1 => ?_)
 refine PL_q rfl rfl (q_ptr (off' := 0) (q_idxa ar_30 rfl rfl (by decide) (by decide)) rfl) ?_
 refine PL_q rfl rfl (q_loadp ty_28 rfl m0 rfl) ?_
 refine PL_q rfl rfl (q_ptr (off' := 0) (q_idxa ar_30 rfl rfl (by decide) (by decide)) rfl) ?_
 refine PL_q rfl rfl (q_loadp ty_28 rfl m1 rfl) ?_
 refine PL_q rfl rfl (q_as (v' := AV [pI (E (Z.sub r6.x.dec r4.x.dec))]) (q_ret en_33 (skewbackref03_Sub_ret r6.x.1 r4.x.1 r6.x.2 r4.x.2) rfl) rfl) ?_
 refine PL_q rfl rfl (q_ptr (off' := 18) (q_idxa ar_30 rfl rfl (by decide) (by decide)) rfl) ?_
 refine PL_q rfl rfl (q_loadp ty_28 rfl m0 rfl) ?_
 refine PL_q rfl rfl (q_ptr (off' := 18) (q_idxa ar_30 rfl rfl (by decide) (by decide)) rfl) ?_
 refine PL_q rfl rfl (q_loadp ty_28 rfl m1 rfl) ?_
 refine PL_q rfl rfl (q_as (v' := AV [pI (E (Z.sub r6.y.dec r4.y.dec))]) (q_ret en_33 (skewbackref03_Sub_ret r6.y.1 r4.y.1 r6.y.2 r4.y.2) rfl) rfl) ?_
 refine PL_q rfl rfl (q_ptr (off' := 36) (q_idxa ar_30 rfl rfl (by decide) (by decide)) rfl) ?_
 refine PL_q rfl rfl (q_loadp ty_28 rfl m0 rfl) ?_
 refine PL_q rfl rfl (q_ptr (off' := 36) (q_idxa ar_30 rfl rfl (by decide) (by decide)) rfl) ?_
 refine PL_q rfl rfl (q_loadp ty_28 rfl m1 rfl) ?_
 refine PL_q rfl rfl (q_as (v' := AV [pI (E (Z.sub r6.z.dec r4.z.dec))]) (q_ret en_33 (skewbackref03_Sub_ret r6.z.1 r4.z.1 r6.z.2 r4.z.2) rfl) rfl) ?_
 refine PL_q rfl rfl (q_buildap zp_30 ar_30 rfl (.cons [pI (E (Z.sub r6.x.dec r4.x.dec))] [pI (E (Z.sub r6.x.dec r4.x.dec)), pI I0, pI I0] rfl rfl rfl rfl (.cons [pI (E (Z.sub r6.y.dec r4.y.dec))] [pI (E (Z.sub r6.x.dec r4.x.dec)), pI (E (Z.sub r6.y.dec r4.y.dec)), pI I0] rfl rfl rfl rfl (.cons [pI (E (Z.sub r6.z.dec r4.z.dec))] [pI (E (Z.sub r6.x.dec r4.x.dec)), pI (E (Z.sub r6.y.dec r4.y.dec)), pI (E (Z.sub r6.z.dec r4.z.dec))] rfl rfl rfl rfl (.nil _))))) ?_
 refine PL_st rfl (qs := [pI (E (Z.sub r6.x.dec r4.x.dec)), pI (E (Z.sub r6.y.dec r4.y.dec)), pI (E (Z.sub r6.z.dec r4.z.dec))]) rfl ty_30 rfl rfl rfl rfl rfl (.tail _ (.tail _ (.head _))) hb3 rfl (sk (sk (sd s0))) ?_
 refine PL_fin (hK1 _ _ ?_)
 clear hK1 K1
 refine W_ret ?_
 refine ret1 rfl (.inr rfl) (resP rfl m2 ty_30 rfl) ?_
 exact (by subst hr6; subst hr4; rfl)

theorem skewbackref06_Orient_ret (a : (A3 W)) (b : (A3 W)) (c : (A3 W)) (d : (A3 W)) :
    Ret Try.prog 24 [AV [ci .i64 a.x.1, ci .i64 a.y.1, ci .i64 a.z.1], AV [ci .i64 b.x.1, ci .i64 b.y.1, ci .i64 b.z.1], AV [ci .i64 c.x.1, ci .i64 c.y.1, ci .i64 c.z.1], AV [ci .i64 d.x.1, ci .i64 d.y.1, ci .i64 d.z.1]] (.int .i64 ((F_skewbackref06_Orient a b c d).1)) := by
 refine ret_of_W (N := 21) Try.func24 rfl rfl (by simp) (fun w0 => ?_)
 simp only [initF, Nat.reduceAdd]
 refine W_sr (fun K1 hK1 => ?_)
 refine WL_r rfl (r_boxp rfl rfl (fun b1 hb1 => ?_))
 refine WL_r rfl (r_boxp rfl rfl (fun b2 hb2 => ?_))
 refine WL_r rfl (r_boxp rfl rfl (fun b3 hb3 => ?_))
 refine WL_r rfl (r_boxp rfl rfl (fun b4 hb4 => ?_))
 refine WL_q rfl (q_assign rfl) ?_
 refine WL_nil (hK1 _ _ ?_)
 clear hK1 K1
 refine W_sdr (sk (sk (sk (sk (s0))))) (.quiet 0 [2,5,6,9,10,11,12] (.quiet 1 [2,5,6,9,10,11,12] (.quiet 2 [5,6,9,10,11,12] (.quiet 3 [5,6,9,10,11,12] (.quiet 4 [5,6,9,10,11,12] (.quiet 5 [6,9,10,11,12] (.quiet 6 [9,10,11,12] (.quiet 7 [9,10,11,12] (.quiet 8 [9,10,11,12] (.quiet 9 [10,11,12] (.quiet 10 [11,12] (.quiet 11 [12] (.quiet 12 [] (.fin)))))))))))))) [0,1,2,3,4,5,6,7,8,9,10,11,12] mix (by kernel_rfl) (by kernel_rfl) (fun K1 hK1 => ?_)
 refine PL_q rfl rfl (q_loadp ty_23 rfl m3 rfl) ?_
 refine PL_q rfl rfl (q_loadp ty_23 rfl m2 rfl) ?_
 obtain ⟨r5, hr5⟩ := nm ((F_skewbackref06_from a b) : (A3 I))
 refine PL_q rfl rfl (q_as (v' := AV [pI r5.x, pI r5.y, pI r5.z]) (q_ret en_64 (skewbackref06_from_ret a b) rfl) (by rw [hr5]; first | done | rfl)) ?_
 refine PL_q rfl rfl (q_loadp ty_23 rfl m3 rfl) ?_
 refine PL_q rfl rfl (q_loadp ty_23 rfl m1 rfl) ?_
 obtain ⟨r6, hr6⟩ := nm ((F_skewbackref06_from a c) : (A3 I))
 refine PL_q rfl rfl (q_as (v' := AV [pI r6.x, pI r6.y, pI r6.z]) (q_ret en_64 (skewbackref06_from_ret a c) rfl) (by rw [hr6]; first | done | rfl)) ?_
 obtain ⟨r7, hr7⟩ := nm ((F_skewbackref06_CrossOf r5 r6) : (A3 I))
 refine PL_q rfl rfl (q_as (v' := AV [pI r7.x, pI r7.y, pI r7.z]) (q_ret en_17 (skewbackref06_CrossOf_ret r5 r6) rfl) (by rw [hr7]; first | done | rfl)) ?_
 refine PL_q rfl rfl (q_loadp ty_23 rfl m3 rfl) ?_
 refine PL_q rfl rfl (q_loadp ty_23 rfl m0 rfl) ?_
 obtain ⟨r8, hr8⟩ := nm ((F_skewbackref06_from a d) : (A3 I))
 refine PL_q rfl rfl (q_as (v' := AV [pI r8.x, pI r8.y, pI r8.z]) (q_ret en_64 (skewbackref06_from_ret a d) rfl) (by rw [hr8]; first | done | rfl)) ?_
 refine PL_q rfl rfl (q_ret en_18 (skewbackref06_DotOf_ret r7 r8) rfl) ?_
 refine PL_q rfl rfl (q_as (v' := .int .i64 ((Z.signW (F_skewbackref06_DotOf r7 r8).dec).1)) (q_ret en_19 (skewbackref03_Sign_ret (F_skewbackref06_DotOf r7 r8).1 (F_skewbackref06_DotOf r7 r8).2) rfl) rfl) ?_
 refine PL_q rfl rfl (q_assign rfl) ?_
 refine PL_fin (hK1 _ _ ?_)
 clear hK1 K1
 refine W_ret ?_
 refine ret1 rfl (.inr rfl) rfl ?_
 exact (by subst hr8; subst hr7; subst hr6; subst hr5; rfl)
end Go.Proofs.Ythbjhbmpfeeilaa
