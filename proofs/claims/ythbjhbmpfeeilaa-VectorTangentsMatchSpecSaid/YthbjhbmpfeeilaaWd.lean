/- Walks: what these functions return. -/
import Derived.Test.YthbjhbmpfeeilaaFa0
namespace Go.Proofs.Ythbjhbmpfeeilaa
open Go.Kn Go.Num
set_option linter.unusedVariables false
set_option linter.unusedSimpArgs false
set_option maxRecDepth 20000
set_option maxHeartbeats 8000000
theorem len32_ret (x : Nat) (hx : x < 4294967296) :
    Ret Try.prog 111 [U32 x] (.int .i64 ((bl x : Nat) : Int)) := by
 refine ret_of_W (N := 19) Try.func111 rfl rfl (by simp) (fun w0 => ?_)
 simp only [initF, Nat.reduceAdd]
 refine W_seq (fun K_1 hK_1 => ?_)
 refine W_region_k (fun K1 hK1 => ?_)
 refine WL_q rfl (q_assign rfl) ?_
 refine WL_nil (hK1 _ _ ?_)
 clear hK1 K1
 refine hK_1 _ _ ?_
 try clear hK_1 K_1
 refine W_seq (fun K_2 hK_2 => ?_)
 refine W_seq (fun K_3 hK_3 => ?_)
 refine W_region_k (fun K1 hK1 => ?_)
 refine WL_q rfl (q_move rfl) ?_
 refine WL_q rfl (q_geq rfl rfl) ?_
 refine WL_nil (hK1 _ _ ?_)
 clear hK1 K1
 refine hK_3 _ _ ?_
 try clear hK_3 K_3
 refine W_cond _ rfl (fun h1 => ?_) (fun h1 => ?_)
 ·(try simp only [decide_eq_true_eq, decide_eq_false_iff_not, beq_iff_eq, bne_iff_ne, beq_eq_false_iff_ne, bne_eq_false_iff_eq, Bool.not_eq_true', Bool.not_eq_false'] at h1)
  refine W_seq (fun K_4 hK_4 => ?_)
  refine W_region_k (fun K1 hK1 => ?_)
  refine WL_q rfl (q_move rfl) ?_
  refine WL_q rfl (q_as (q_shr rfl rfl (by decide)) (shr_u32 x 16)) ?_
  refine WL_q rfl (q_assign rfl) ?_
  refine WL_nil (hK1 _ _ ?_)
  clear hK1 K1
  refine hK_4 _ _ ?_
  try clear hK_4 K_4
  refine W_region_k (fun K1 hK1 => ?_)
  refine WL_q rfl (q_assign rfl) ?_
  refine WL_nil (hK1 _ _ ?_)
  clear hK1 K1
  refine hK_2 _ _ ?_
  try clear hK_2 K_2
  refine W_seq (fun K_5 hK_5 => ?_)
  refine W_seq (fun K_6 hK_6 => ?_)
  refine W_region_k (fun K1 hK1 => ?_)
  refine WL_q rfl (q_move rfl) ?_
  refine WL_q rfl (q_geq rfl rfl) ?_
  refine WL_nil (hK1 _ _ ?_)
  clear hK1 K1
  refine hK_6 _ _ ?_
  try clear hK_6 K_6
  refine W_cond _ rfl (fun h2 => ?_) (fun h2 => ?_)
  ·(try simp only [decide_eq_true_eq, decide_eq_false_iff_not, beq_iff_eq, bne_iff_ne, beq_eq_false_iff_ne, bne_eq_false_iff_eq, Bool.not_eq_true', Bool.not_eq_false'] at h2)
   refine W_seq (fun K_7 hK_7 => ?_)
   refine W_region_k (fun K1 hK1 => ?_)
   refine WL_q rfl (q_move rfl) ?_
   refine WL_q rfl (q_as (q_shr rfl rfl (by decide)) (shr_u32 _ 8)) ?_
   refine WL_q rfl (q_assign rfl) ?_
   refine WL_nil (hK1 _ _ ?_)
   clear hK1 K1
   refine hK_7 _ _ ?_
   try clear hK_7 K_7
   refine W_region_k (fun K1 hK1 => ?_)
   refine WL_q rfl (q_move rfl) ?_
   refine WL_q rfl (q_add rfl rfl) ?_
   refine WL_q rfl (q_assign rfl) ?_
   refine WL_nil (hK1 _ _ ?_)
   clear hK1 K1
   refine hK_5 _ _ ?_
   try clear hK_5 K_5
   refine W_seq (fun K_8 hK_8 => ?_)
   refine W_region_k (fun K1 hK1 => ?_)
   refine WL_q rfl (q_move rfl) ?_
   refine WL_q rfl (q_move rfl) ?_
   refine WL_q rfl (q_as (q_conv in_25 in_5 rfl) (u8_id (by omega))) ?_
   refine WL_q rfl (q_istr (n := 256) bl st_9 rfl rfl (by omega) (by decide +kernel)) ?_
   refine WL_q rfl (q_as (q_conv in_5 in_3 rfl) (conv_bl (by omega))) ?_
   refine WL_q rfl (q_add rfl rfl) ?_
   refine WL_q rfl (q_assign rfl) ?_
   refine WL_nil (hK1 _ _ ?_)
   clear hK1 K1
   refine hK_8 _ _ ?_
   try clear hK_8 K_8
   refine W_ret ?_
   refine ret1 rfl (.inr rfl) rfl ?_
   exact len_fin (c := 24) rfl (by decide) (by omega) (by rw [bl_shift (k := 16) (by omega), bl_shift (n := x / 2 ^ 16) (k := 8) (by omega)]; omega)
  ·(try simp only [decide_eq_true_eq, decide_eq_false_iff_not, beq_iff_eq, bne_iff_ne, beq_eq_false_iff_ne, bne_eq_false_iff_eq, Bool.not_eq_true', Bool.not_eq_false'] at h2)
   refine W_skip ?_
   refine hK_5 _ _ ?_
   try clear hK_5 K_5
   refine W_seq (fun K_9 hK_9 => ?_)
   refine W_region_k (fun K1 hK1 => ?_)
   refine WL_q rfl (q_move rfl) ?_
   refine WL_q rfl (q_move rfl) ?_
   refine WL_q rfl (q_as (q_conv in_25 in_5 rfl) (u8_id (by omega))) ?_
   refine WL_q rfl (q_istr (n := 256) bl st_9 rfl rfl (by omega) (by decide +kernel)) ?_
   refine WL_q rfl (q_as (q_conv in_5 in_3 rfl) (conv_bl (by omega))) ?_
   refine WL_q rfl (q_add rfl rfl) ?_
   refine WL_q rfl (q_assign rfl) ?_
   refine WL_nil (hK1 _ _ ?_)
   clear hK1 K1
   refine hK_9 _ _ ?_
   try clear hK_9 K_9
   refine W_ret ?_
   refine ret1 rfl (.inr rfl) rfl ?_
   exact len_fin (c := 16) rfl (by decide) (by omega) (by rw [bl_shift (k := 16) (by omega)])
 ·(try simp only [decide_eq_true_eq, decide_eq_false_iff_not, beq_iff_eq, bne_iff_ne, beq_eq_false_iff_ne, bne_eq_false_iff_eq, Bool.not_eq_true', Bool.not_eq_false'] at h1)
  refine W_skip ?_
  refine hK_2 _ _ ?_
  try clear hK_2 K_2
  refine W_seq (fun K_10 hK_10 => ?_)
  refine W_seq (fun K_11 hK_11 => ?_)
  refine W_region_k (fun K1 hK1 => ?_)
  refine WL_q rfl (q_move rfl) ?_
  refine WL_q rfl (q_geq rfl rfl) ?_
  refine WL_nil (hK1 _ _ ?_)
  clear hK1 K1
  refine hK_11 _ _ ?_
  try clear hK_11 K_11
  refine W_cond _ rfl (fun h2 => ?_) (fun h2 => ?_)
  ·(try simp only [decide_eq_true_eq, decide_eq_false_iff_not, beq_iff_eq, bne_iff_ne, beq_eq_false_iff_ne, bne_eq_false_iff_eq, Bool.not_eq_true', Bool.not_eq_false'] at h2)
   refine W_seq (fun K_12 hK_12 => ?_)
   refine W_region_k (fun K1 hK1 => ?_)
   refine WL_q rfl (q_move rfl) ?_
   refine WL_q rfl (q_as (q_shr rfl rfl (by decide)) (shr_u32 _ 8)) ?_
   refine WL_q rfl (q_assign rfl) ?_
   refine WL_nil (hK1 _ _ ?_)
   clear hK1 K1
   refine hK_12 _ _ ?_
   try clear hK_12 K_12
   refine W_region_k (fun K1 hK1 => ?_)
   refine WL_q rfl (q_move rfl) ?_
   refine WL_q rfl (q_add rfl rfl) ?_
   refine WL_q rfl (q_assign rfl) ?_
   refine WL_nil (hK1 _ _ ?_)
   clear hK1 K1
   refine hK_10 _ _ ?_
   try clear hK_10 K_10
   refine W_seq (fun K_13 hK_13 => ?_)
   refine W_region_k (fun K1 hK1 => ?_)
   refine WL_q rfl (q_move rfl) ?_
   refine WL_q rfl (q_move rfl) ?_
   refine WL_q rfl (q_as (q_conv in_25 in_5 rfl) (u8_id (by omega))) ?_
   refine WL_q rfl (q_istr (n := 256) bl st_9 rfl rfl (by omega) (by decide +kernel)) ?_
   refine WL_q rfl (q_as (q_conv in_5 in_3 rfl) (conv_bl (by omega))) ?_
   refine WL_q rfl (q_add rfl rfl) ?_
   refine WL_q rfl (q_assign rfl) ?_
   refine WL_nil (hK1 _ _ ?_)
   clear hK1 K1
   refine hK_13 _ _ ?_
   try clear hK_13 K_13
   refine W_ret ?_
   refine ret1 rfl (.inr rfl) rfl ?_
   exact len_fin (c := 8) rfl (by decide) (by omega) (by rw [bl_shift (k := 8) (by omega)])
  ·(try simp only [decide_eq_true_eq, decide_eq_false_iff_not, beq_iff_eq, bne_iff_ne, beq_eq_false_iff_ne, bne_eq_false_iff_eq, Bool.not_eq_true', Bool.not_eq_false'] at h2)
   refine W_skip ?_
   refine hK_10 _ _ ?_
   try clear hK_10 K_10
   refine W_seq (fun K_14 hK_14 => ?_)
   refine W_region_k (fun K1 hK1 => ?_)
   refine WL_q rfl (q_move rfl) ?_
   refine WL_q rfl (q_move rfl) ?_
   refine WL_q rfl (q_as (q_conv in_25 in_5 rfl) (u8_id (by omega))) ?_
   refine WL_q rfl (q_istr (n := 256) bl st_9 rfl rfl (by omega) (by decide +kernel)) ?_
   refine WL_q rfl (q_as (q_conv in_5 in_3 rfl) (conv_bl (by omega))) ?_
   refine WL_q rfl (q_add rfl rfl) ?_
   refine WL_q rfl (q_assign rfl) ?_
   refine WL_nil (hK1 _ _ ?_)
   clear hK1 K1
   refine hK_14 _ _ ?_
   try clear hK_14 K_14
   refine W_ret ?_
   refine ret1 rfl (.inr rfl) rfl ?_
   exact len_fin (c := 0) rfl (by decide) (by omega) (by omega)

theorem lz32_ret (x : Nat) (hx : x < 4294967296) :
    Ret Try.prog 105 [U32 x] (.int .i64 ((32 - bl x : Nat) : Int)) := by
 refine ret_of_W (N := 6) Try.func105 rfl rfl (by simp) (fun w0 => ?_)
 simp only [initF, Nat.reduceAdd]
 refine W_seq (fun K_1 hK_1 => ?_)
 refine W_region_k (fun K1 hK1 => ?_)
 refine WL_q rfl (q_assign rfl) ?_
 refine WL_nil (hK1 _ _ ?_)
 clear hK1 K1
 refine hK_1 _ _ ?_
 try clear hK_1 K_1
 refine W_seq (fun K_2 hK_2 => ?_)
 refine W_region_k (fun K1 hK1 => ?_)
 refine WL_q rfl (q_move rfl) ?_
 refine WL_q rfl (q_ret en_111 (len32_ret x hx) rfl) ?_
 refine WL_q rfl (q_sub rfl rfl) ?_
 refine WL_q rfl (q_assign rfl) ?_
 refine WL_nil (hK1 _ _ ?_)
 clear hK1 K1
 refine hK_2 _ _ ?_
 try clear hK_2 K_2
 refine W_ret ?_
 refine ret1 rfl (.inr rfl) rfl ?_
 exact congrArg (Value.int .i64) (lz_fin hx)

theorem whole_up_ret (xs : List Nat) (hx : xs.length = 16) (lx : Lim xs) (n : Nat) (hn : n < 32) :
    Ret Try.prog 106 [UV xs, .int .i64 (n : Int)] (.tuple #[UV (toL 16 (val xs * 2 ^ n)), U32 (val xs * 2 ^ n / 4294967296 ^ 16)]) := by
 refine ret_of_W (N := 30) Try.func106 rfl rfl (by simp) (fun w0 => ?_)
 simp only [initF, Nat.reduceAdd]
 refine W_seq (fun K_1 hK_1 => ?_)
 refine W_region_k (fun K1 hK1 => ?_)
 refine WL_r rfl (r_box rfl rfl (fun b2 hb2 => ?_))
 refine WL_r rfl (r_alloc z_26 (fun b4 hb4 => ?_))
 refine WL_q rfl (q_assign rfl) ?_
 refine WL_nil (hK1 _ _ ?_)
 clear hK1 K1
 refine hK_1 _ _ ?_
 try clear hK_1 K_1
 refine W_seq (fun K_2 hK_2 => ?_)
 refine W_region_k (fun K1 hK1 => ?_)
 refine WL_r rfl (r_alloc z_26 (fun b6 hb6 => ?_))
 refine WL_nil (hK1 _ _ ?_)
 clear hK1 K1
 refine hK_2 _ _ ?_
 try clear hK_2 K_2
 refine W_seq (fun K_3 hK_3 => ?_)
 refine W_region_k (fun K1 hK1 => ?_)
 refine WL_q rfl (q_assign rfl) ?_
 refine WL_nil (hK1 _ _ ?_)
 clear hK1 K1
 refine hK_3 _ _ ?_
 try clear hK_3 K_3
 refine W_seq (fun K_4 hK_4 => ?_)
 refine W_seq (fun K_5 hK_5 => ?_)
 refine W_region_k (fun K1 hK1 => ?_)
 refine WL_q rfl (q_move rfl) ?_
 refine WL_nil (hK1 _ _ ?_)
 clear hK1 K1
 refine hK_5 _ _ ?_
 try clear hK_5 K_5
 refine W_block ?_
 refine W_loop_g [7, 8, 9, 10, 11, 12, 13, 14, 15, 16, 17, 18, 19, 20, 21, 22, 23, 24, 25, 26] (fun g nn M => ∃ (k : Nat), (g 7 = .int .u64 ((mc (val xs) (2 ^ n) k : Nat) : Int) ∧ g 9 = .int .i64 (k : Int)) ∧ M = [⟨b6, 26, uw (dpart k (val xs * 2 ^ n) 16)⟩, ⟨b4, 26, uw (List.replicate 16 0)⟩, ⟨b2, 26, uw xs⟩] ∧ nn = 16 - k ∧ (k ≤ 16)) (16) ?start ?round
 case start =>
  refine ⟨_, (List.Sublist.refl _), 0, ⟨?a7, ?a9⟩, ?mem0, rfl, Nat.zero_le _⟩
  case mem0 => rw [dpart_zero]
  case a7 => rw [mc_zero]; rfl
  case a9 => rfl
 case round =>
  rintro nn g M ⟨k, ⟨hg7, hg9⟩, rfl, hmeas, hk⟩
  subst nn
  simp only [setG, hg7, hg9]
  clear hg7 hg9
  refine W_seq (fun K_6 hK_6 => ?_)
  refine W_region_k (fun K1 hK1 => ?_)
  refine WL_q rfl (q_lss rfl rfl) ?_
  refine WL_nil (hK1 _ _ ?_)
  clear hK1 K1
  refine hK_6 _ _ ?_
  try clear hK_6 K_6
  refine W_seq (fun K_7 hK_7 => ?_)
  refine W_cond _ rfl (fun hc => ?_) (fun hc => ?_)
  ·(try simp only [decide_eq_true_eq, decide_eq_false_iff_not, beq_iff_eq, bne_iff_ne, beq_eq_false_iff_ne, bne_eq_false_iff_eq, Bool.not_eq_true', Bool.not_eq_false'] at hc)
   have hc : k < 16 := by omega
   refine W_skip ?_
   refine hK_7 _ _ ?_
   try clear hK_7 K_7
   refine W_seq (fun K_8 hK_8 => ?_)
   refine W_block ?_
   refine W_seq (fun K_9 hK_9 => ?_)
   refine W_region_k (fun K1 hK1 => ?_)
   refine WL_q rfl (q_move rfl) ?_
   refine WL_q rfl (q_assign rfl) ?_
   refine WL_nil (hK1 _ _ ?_)
   clear hK1 K1
   refine hK_9 _ _ ?_
   try clear hK_9 K_9
   refine W_seq (fun K_10 hK_10 => ?_)
   refine W_region_k (fun K1 hK1 => ?_)
   refine WL_q rfl (q_move rfl) ?_
   refine WL_q rfl (q_move rfl) ?_
   refine WL_q rfl (q_idxa ar_26 rfl rfl (by omega) (by omega)) ?_
   refine WL_q rfl (q_load ty_25 rfl (by repeat (first | exact .head _ | apply List.mem_append_right | apply List.Mem.tail)) (uwAt (by omega))) ?_
   refine WL_q rfl (q_conv in_25 in_78 rfl) ?_
   refine WL_q rfl (q_move rfl) ?_
   refine WL_q rfl (q_as (q_shl rfl rfl (by omega)) (congrArg (Value.int .u64) (shl_u32 (getD_lt lx k) (by omega)))) ?_
   refine WL_q rfl (q_as (q_or rfl rfl) (congrArg (Value.int .u64) (up_or (mc_lt (m := 2 ^ n) _ k (Nat.pow_pos (by decide))) (getD_lt lx k) hn))) ?_
   refine WL_q rfl (q_assign rfl) ?_
   refine WL_nil (hK1 _ _ ?_)
   clear hK1 K1
   refine hK_10 _ _ ?_
   try clear hK_10 K_10
   refine W_seq (fun K_11 hK_11 => ?_)
   refine W_region_k (fun K1 hK1 => ?_)
   refine WL_q rfl (q_move rfl) ?_
   refine WL_q rfl (q_move rfl) ?_
   refine WL_q rfl (q_as (q_conv in_78 in_25 rfl) (u32_nat _)) ?_
   refine WL_q rfl (q_idxa ar_26 rfl rfl (by omega) (by omega)) ?_
   refine WL_r rfl (r_storeu ty_25 rfl rfl (by repeat (first | exact .head _ | apply Upd.left | apply Upd.tail)) (by rw [dpart_len _ hk]; exact hc) (.inl (by assumption)) ?_)
   refine WL_nil (hK1 _ _ ?_)
   clear hK1 K1
   refine hK_11 _ _ ?_
   try clear hK_11 K_11
   refine W_region_k (fun K1 hK1 => ?_)
   refine WL_q rfl (q_move rfl) ?_
   refine WL_q rfl (q_as (q_shr rfl rfl (by decide)) (congrArg (Value.int .u64) (shr_nat _ 32))) ?_
   refine WL_q rfl (q_assign rfl) ?_
   refine WL_nil (hK1 _ _ ?_)
   clear hK1 K1
   refine hK_8 _ _ ?_
   try clear hK_8 K_8
   refine W_region_k (fun K1 hK1 => ?_)
   refine WL_q rfl (q_add rfl rfl) ?_
   refine WL_q rfl (q_move rfl) ?_
   refine WL_nil (hK1 _ _ ?_)
   clear hK1 K1
   refine ⟨(by repeat (first | exact .refl | refine .cons rfl ?_)), _, _, (List.Sublist.refl _), (by omega), k + 1, ⟨?s7, ?s9⟩, ?mem, rfl, (by omega)⟩
   case mem => rw [getD_val xs k lx, mc_digit, dpart_set _ hc]
   case s7 => exact congrArg (fun m : Nat => Value.int .u64 (m : Int)) (by rw [getD_val xs k lx]; exact mc_carry _ _ _)
   case s9 => exact congrArg (Value.int .i64) (succ_i64 (by omega))
  ·(try simp only [decide_eq_true_eq, decide_eq_false_iff_not, beq_iff_eq, bne_iff_ne, beq_eq_false_iff_ne, bne_eq_false_iff_eq, Bool.not_eq_true', Bool.not_eq_false'] at hc)
   obtain rfl : k = 16 := by omega
   refine W_exit (thenK_x (thenK_x (blockK_hit ?_)))
   refine hK_4 _ _ ?_
   try clear hK_4 K_4
   refine W_seq (fun K_12 hK_12 => ?_)
   refine W_region_k (fun K1 hK1 => ?_)
   refine WL_q rfl (q_loadw ty_26 rfl (by repeat (first | exact .head _ | apply List.mem_append_right | apply List.Mem.tail)) (by simp [uw, dpart_len])) ?_
   refine WL_q rfl (q_move rfl) ?_
   refine WL_q rfl (q_as (q_conv in_78 in_25 rfl) (u32_nat _)) ?_
   refine WL_r rfl (r_storew ty_26 rfl rfl (by repeat (first | exact .head _ | apply Upd.left | apply Upd.tail)) (by simp [uw, dpart_len]) rfl (uw_plain _) (.inl (by assumption)) ?_)
   refine WL_q rfl (q_assign rfl) ?_
   refine WL_nil (hK1 _ _ ?_)
   clear hK1 K1
   refine hK_12 _ _ ?_
   try clear hK_12 K_12
   refine W_ret ?_
   refine ret2 rfl (.inr rfl) ⟨_, _, _, _, _, _, rfl, (by repeat (first | exact .head _ | apply List.mem_append_right | apply List.Mem.tail)), ty_26, _, (takeAll (by simp [uw, dpart_len])), (by simp [uw, dpart_len]), rfl⟩ rfl ?_
   (rw [dpart_all, mc16 hx lx, Nat.mod_eq_of_lt (up_over hx lx hn)]; rfl)

theorem whole_down_ret (xs : List Nat) (hx : xs.length = 16) (lx : Lim xs) (n : Nat) (hn : n < 32) :
    Ret Try.prog 110 [UV xs, .int .i64 (n : Int)] (UV (toL 16 (val xs / 2 ^ n))) := by
 refine ret_of_W (N := 33) Try.func110 rfl rfl (by simp) (fun w0 => ?_)
 simp only [initF, Nat.reduceAdd]
 refine W_seq (fun K_1 hK_1 => ?_)
 refine W_region_k (fun K1 hK1 => ?_)
 refine WL_r rfl (r_box rfl rfl (fun b2 hb2 => ?_))
 refine WL_r rfl (r_alloc z_26 (fun b4 hb4 => ?_))
 refine WL_nil (hK1 _ _ ?_)
 clear hK1 K1
 refine hK_1 _ _ ?_
 try clear hK_1 K_1
 refine W_seq (fun K_2 hK_2 => ?_)
 refine W_region_k (fun K1 hK1 => ?_)
 refine WL_r rfl (r_alloc z_26 (fun b5 hb5 => ?_))
 refine WL_nil (hK1 _ _ ?_)
 clear hK1 K1
 refine hK_2 _ _ ?_
 try clear hK_2 K_2
 refine W_seq (fun K_3 hK_3 => ?_)
 refine W_seq (fun K_4 hK_4 => ?_)
 refine W_region_k (fun K1 hK1 => ?_)
 refine WL_q rfl (q_move rfl) ?_
 refine WL_nil (hK1 _ _ ?_)
 clear hK1 K1
 refine hK_4 _ _ ?_
 try clear hK_4 K_4
 refine W_block ?_
 refine W_loop_g [6, 7, 8, 9, 10, 11, 12, 13, 14, 15, 16, 17, 18, 19, 20, 21, 22, 23, 24, 25, 26, 27, 28, 29, 30, 31] (fun g nn M => ∃ (k : Nat), (g 8 = .int .i64 (k : Int)) ∧ M = [⟨b5, 26, uw (dpart k (val xs / 2 ^ n) 16)⟩, ⟨b4, 26, uw (List.replicate 16 0)⟩, ⟨b2, 26, uw xs⟩] ∧ nn = 16 - k ∧ (k ≤ 16)) (16) ?start ?round
 case start =>
  refine ⟨_, (List.Sublist.refl _), 0, ?a8, ?mem0, rfl, Nat.zero_le _⟩
  case mem0 => rw [dpart_zero]
  case a8 => rfl
 case round =>
  rintro nn g M ⟨k, hg8, rfl, hmeas, hk⟩
  subst nn
  simp only [setG, hg8]
  clear hg8
  refine W_seq (fun K_5 hK_5 => ?_)
  refine W_region_k (fun K1 hK1 => ?_)
  refine WL_q rfl (q_lss rfl rfl) ?_
  refine WL_nil (hK1 _ _ ?_)
  clear hK1 K1
  refine hK_5 _ _ ?_
  try clear hK_5 K_5
  refine W_seq (fun K_6 hK_6 => ?_)
  refine W_cond _ rfl (fun hc => ?_) (fun hc => ?_)
  ·(try simp only [decide_eq_true_eq, decide_eq_false_iff_not, beq_iff_eq, bne_iff_ne, beq_eq_false_iff_ne, bne_eq_false_iff_eq, Bool.not_eq_true', Bool.not_eq_false'] at hc)
   have hc : k < 16 := by omega
   refine W_skip ?_
   refine hK_6 _ _ ?_
   try clear hK_6 K_6
   refine W_seq (fun K_7 hK_7 => ?_)
   refine W_block ?_
   refine W_seq (fun K_8 hK_8 => ?_)
   refine W_region_k (fun K1 hK1 => ?_)
   refine WL_q rfl (q_move rfl) ?_
   refine WL_q rfl (q_assign rfl) ?_
   refine WL_nil (hK1 _ _ ?_)
   clear hK1 K1
   refine hK_8 _ _ ?_
   try clear hK_8 K_8
   refine W_seq (fun K_9 hK_9 => ?_)
   refine W_region_k (fun K1 hK1 => ?_)
   refine WL_q rfl (q_assign rfl) ?_
   refine WL_nil (hK1 _ _ ?_)
   clear hK1 K1
   refine hK_9 _ _ ?_
   try clear hK_9 K_9
   refine W_seq (fun K_10 hK_10 => ?_)
   refine W_seq (fun K_11 hK_11 => ?_)
   refine W_region_k (fun K1 hK1 => ?_)
   refine WL_q rfl (q_move rfl) ?_
   refine WL_q rfl (q_as (q_add rfl rfl) (congrArg (Value.int .i64) (succ_i64 (by omega)))) ?_
   refine WL_q rfl (q_lss rfl rfl) ?_
   refine WL_nil (hK1 _ _ ?_)
   clear hK1 K1
   refine hK_11 _ _ ?_
   try clear hK_11 K_11
   refine W_cond _ rfl (fun h13 => ?_) (fun h13 => ?_)
   ·(try simp only [decide_eq_true_eq, decide_eq_false_iff_not, beq_iff_eq, bne_iff_ne, beq_eq_false_iff_ne, bne_eq_false_iff_eq, Bool.not_eq_true', Bool.not_eq_false'] at h13)
    refine W_region_k (fun K1 hK1 => ?_)
    refine WL_q rfl (q_move rfl) ?_
    refine WL_q rfl (q_as (q_add rfl rfl) (congrArg (Value.int .i64) (succ_i64 (by omega)))) ?_
    refine WL_q rfl (q_idxa ar_26 rfl rfl (by omega) (by omega)) ?_
    refine WL_q rfl (q_load ty_25 rfl (by repeat (first | exact .head _ | apply List.mem_append_right | apply List.Mem.tail)) (uwAt (by omega))) ?_
    refine WL_q rfl (q_as (q_conv in_25 in_78 rfl) (congrArg (Value.int .u64) (conv_u32_u64 (getD_lt lx _)))) ?_
    refine WL_q rfl (q_assign rfl) ?_
    refine WL_nil (hK1 _ _ ?_)
    clear hK1 K1
    refine hK_10 _ _ ?_
    try clear hK_10 K_10
    refine W_region_k (fun K1 hK1 => ?_)
    refine WL_q rfl (q_move rfl) ?_
    refine WL_q rfl (q_as (q_move rfl) (show _ = Value.int .u64 ((dig (val xs) (k + 1) : Nat) : Int) from by first | exact congrArg (fun m : Nat => Value.int .u64 (m : Int)) (getD_val xs (k + 1) lx) | exact congrArg (fun m : Nat => Value.int .u64 (m : Int)) (dig_high hx lx (by omega)).symm)) ?_
    refine WL_q rfl (q_as (q_shl rfl rfl (by decide)) (congrArg (Value.int .u64) (shl_r32 (dig_lt _ _)))) ?_
    refine WL_q rfl (q_move rfl) ?_
    refine WL_q rfl (q_idxa ar_26 rfl rfl (by omega) (by omega)) ?_
    refine WL_q rfl (q_load ty_25 rfl (by repeat (first | exact .head _ | apply List.mem_append_right | apply List.Mem.tail)) (uwAt (by omega))) ?_
    refine WL_q rfl (q_as (q_conv in_25 in_78 rfl) (congrArg (Value.int .u64) ((conv_u32_u64 (getD_lt lx _)).trans (by rw [getD_val xs k lx])))) ?_
    refine WL_q rfl (q_as (q_or rfl rfl) (congrArg (Value.int .u64) (down_or (dig_lt _ _) (dig_lt _ _)))) ?_
    refine WL_q rfl (q_move rfl) ?_
    refine WL_q rfl (q_as (q_shr rfl rfl (by omega)) (congrArg (Value.int .u64) (shr_n hn))) ?_
    refine WL_q rfl (q_as (q_conv in_78 in_25 rfl) (u32_nat _)) ?_
    refine WL_q rfl (q_idxa ar_26 rfl rfl (by omega) (by omega)) ?_
    refine WL_r rfl (r_storeu ty_25 rfl rfl (by repeat (first | exact .head _ | apply Upd.left | apply Upd.tail)) (by rw [dpart_len _ hk]; exact hc) (.inl (by assumption)) ?_)
    refine WL_nil (hK1 _ _ ?_)
    clear hK1 K1
    refine hK_7 _ _ ?_
    try clear hK_7 K_7
    refine W_region_k (fun K1 hK1 => ?_)
    refine WL_q rfl (q_add rfl rfl) ?_
    refine WL_q rfl (q_move rfl) ?_
    refine WL_nil (hK1 _ _ ?_)
    clear hK1 K1
    refine ⟨(by repeat (first | exact .refl | refine .cons rfl ?_)), _, _, (List.Sublist.refl _), (by omega), k + 1, ?s8, ?mem, rfl, (by omega)⟩
    case mem => rw [down_digit k (by omega), dpart_set _ hc]
    case s8 => exact congrArg (Value.int .i64) (succ_i64 (by omega))
   ·(try simp only [decide_eq_true_eq, decide_eq_false_iff_not, beq_iff_eq, bne_iff_ne, beq_eq_false_iff_ne, bne_eq_false_iff_eq, Bool.not_eq_true', Bool.not_eq_false'] at h13)
    refine W_skip ?_
    refine hK_10 _ _ ?_
    try clear hK_10 K_10
    refine W_region_k (fun K1 hK1 => ?_)
    refine WL_q rfl (q_move rfl) ?_
    refine WL_q rfl (q_as (q_move rfl) (show _ = Value.int .u64 ((dig (val xs) (k + 1) : Nat) : Int) from by first | exact congrArg (fun m : Nat => Value.int .u64 (m : Int)) (getD_val xs (k + 1) lx) | exact congrArg (fun m : Nat => Value.int .u64 (m : Int)) (dig_high hx lx (by omega)).symm)) ?_
    refine WL_q rfl (q_as (q_shl rfl rfl (by decide)) (congrArg (Value.int .u64) (shl_r32 (dig_lt _ _)))) ?_
    refine WL_q rfl (q_move rfl) ?_
    refine WL_q rfl (q_idxa ar_26 rfl rfl (by omega) (by omega)) ?_
    refine WL_q rfl (q_load ty_25 rfl (by repeat (first | exact .head _ | apply List.mem_append_right | apply List.Mem.tail)) (uwAt (by omega))) ?_
    refine WL_q rfl (q_as (q_conv in_25 in_78 rfl) (congrArg (Value.int .u64) ((conv_u32_u64 (getD_lt lx _)).trans (by rw [getD_val xs k lx])))) ?_
    refine WL_q rfl (q_as (q_or rfl rfl) (congrArg (Value.int .u64) (down_or (dig_lt _ _) (dig_lt _ _)))) ?_
    refine WL_q rfl (q_move rfl) ?_
    refine WL_q rfl (q_as (q_shr rfl rfl (by omega)) (congrArg (Value.int .u64) (shr_n hn))) ?_
    refine WL_q rfl (q_as (q_conv in_78 in_25 rfl) (u32_nat _)) ?_
    refine WL_q rfl (q_idxa ar_26 rfl rfl (by omega) (by omega)) ?_
    refine WL_r rfl (r_storeu ty_25 rfl rfl (by repeat (first | exact .head _ | apply Upd.left | apply Upd.tail)) (by rw [dpart_len _ hk]; exact hc) (.inl (by assumption)) ?_)
    refine WL_nil (hK1 _ _ ?_)
    clear hK1 K1
    refine hK_7 _ _ ?_
    try clear hK_7 K_7
    refine W_region_k (fun K1 hK1 => ?_)
    refine WL_q rfl (q_add rfl rfl) ?_
    refine WL_q rfl (q_move rfl) ?_
    refine WL_nil (hK1 _ _ ?_)
    clear hK1 K1
    refine ⟨(by repeat (first | exact .refl | refine .cons rfl ?_)), _, _, (List.Sublist.refl _), (by omega), k + 1, ?s8, ?mem, rfl, (by omega)⟩
    case mem => rw [down_digit k (by omega), dpart_set _ hc]
    case s8 => exact congrArg (Value.int .i64) (succ_i64 (by omega))
  ·(try simp only [decide_eq_true_eq, decide_eq_false_iff_not, beq_iff_eq, bne_iff_ne, beq_eq_false_iff_ne, bne_eq_false_iff_eq, Bool.not_eq_true', Bool.not_eq_false'] at hc)
   obtain rfl : k = 16 := by omega
   refine W_exit (thenK_x (thenK_x (blockK_hit ?_)))
   refine hK_3 _ _ ?_
   try clear hK_3 K_3
   refine W_seq (fun K_12 hK_12 => ?_)
   refine W_region_k (fun K1 hK1 => ?_)
   refine WL_q rfl (q_loadw ty_26 rfl (by repeat (first | exact .head _ | apply List.mem_append_right | apply List.Mem.tail)) (by simp [uw, dpart_len])) ?_
   refine WL_r rfl (r_storew ty_26 rfl rfl (by repeat (first | exact .head _ | apply Upd.left | apply Upd.tail)) (by simp [uw, dpart_len]) rfl (uw_plain _) (.inl (by assumption)) ?_)
   refine WL_nil (hK1 _ _ ?_)
   clear hK1 K1
   refine hK_12 _ _ ?_
   try clear hK_12 K_12
   refine W_ret ?_
   refine ret1 rfl (.inr rfl) ⟨_, _, _, _, _, _, rfl, (by repeat (first | exact .head _ | apply List.mem_append_right | apply List.Mem.tail)), ty_26, _, (takeAll (by simp [uw, dpart_len])), (by simp [uw, dpart_len]), rfl⟩ ?_
   (rw [dpart_all]; rfl)

theorem whole_short_ret (xs : List Nat) (hx : xs.length = 16) (lx : Lim xs) (d : Nat) (hd : d < 4294967296) (h0 : 0 < d) :
    Ret Try.prog 104 [UV xs, U32 d] (.tuple #[UV (toL 16 (val xs / d)), U32 (val xs % d)]) := by
 refine ret_of_W (N := 33) Try.func104 rfl rfl (by simp) (fun w0 => ?_)
 simp only [initF, Nat.reduceAdd]
 refine W_seq (fun K_1 hK_1 => ?_)
 refine W_region_k (fun K1 hK1 => ?_)
 refine WL_r rfl (r_box rfl rfl (fun b2 hb2 => ?_))
 refine WL_r rfl (r_alloc z_26 (fun b4 hb4 => ?_))
 refine WL_q rfl (q_assign rfl) ?_
 refine WL_nil (hK1 _ _ ?_)
 clear hK1 K1
 refine hK_1 _ _ ?_
 try clear hK_1 K_1
 refine W_seq (fun K_2 hK_2 => ?_)
 refine W_region_k (fun K1 hK1 => ?_)
 refine WL_q rfl (q_assign rfl) ?_
 refine WL_nil (hK1 _ _ ?_)
 clear hK1 K1
 refine hK_2 _ _ ?_
 try clear hK_2 K_2
 refine W_seq (fun K_3 hK_3 => ?_)
 refine W_seq (fun K_4 hK_4 => ?_)
 refine W_region_k (fun K1 hK1 => ?_)
 refine WL_q rfl (q_assign rfl) ?_
 refine WL_nil (hK1 _ _ ?_)
 clear hK1 K1
 refine hK_4 _ _ ?_
 try clear hK_4 K_4
 refine W_block ?_
 refine W_loop_g [6, 7, 8, 9, 10, 11, 12, 13, 14, 15, 16, 17, 18, 19, 20, 21, 22, 23, 24, 25, 26, 27, 28, 29] (fun g nn M => ∃ (k : Nat), (g 6 = .int .u64 ((val xs / 4294967296 ^ k % d : Nat) : Int) ∧ g 7 = .int .i64 ((k : Int) - 1)) ∧ M = [⟨b4, 26, uw (hpart k (val xs / d))⟩, ⟨b2, 26, uw xs⟩] ∧ nn = k + 0 ∧ (k ≤ 16)) (16) ?start ?round
 case start =>
  refine ⟨_, (List.Sublist.refl _), 16, ⟨?a6, ?a7⟩, ?mem0, rfl, Nat.le_refl _⟩
  case mem0 => rw [hpart_top]
  case a6 => rw [div16 hx lx]; rfl
  case a7 => rfl
 case round =>
  rintro nn g M ⟨k, ⟨hg6, hg7⟩, rfl, hmeas, hk⟩
  subst nn
  simp only [setG, hg6, hg7]
  clear hg6 hg7
  refine W_seq (fun K_5 hK_5 => ?_)
  refine W_seq (fun K_6 hK_6 => ?_)
  refine W_region_k (fun K1 hK1 => ?_)
  refine WL_q rfl (q_move rfl) ?_
  refine WL_q rfl (q_geq rfl rfl) ?_
  refine WL_nil (hK1 _ _ ?_)
  clear hK1 K1
  refine hK_6 _ _ ?_
  try clear hK_6 K_6
  refine W_cond _ rfl (fun hc => ?_) (fun hc => ?_)
  ·(try simp only [decide_eq_true_eq, decide_eq_false_iff_not, beq_iff_eq, bne_iff_ne, beq_eq_false_iff_ne, bne_eq_false_iff_eq, Bool.not_eq_true', Bool.not_eq_false'] at hc)
   obtain ⟨m, rfl⟩ : ∃ m, k = m + 1 := ⟨k - 1, by omega⟩
   have hr : val xs / 4294967296 ^ (m + 1) % d < 4294967296 := Nat.lt_trans (Nat.mod_lt _ h0) hd
   refine W_skip ?_
   refine hK_5 _ _ ?_
   try clear hK_5 K_5
   refine W_seq (fun K_7 hK_7 => ?_)
   refine W_block ?_
   refine W_seq (fun K_8 hK_8 => ?_)
   refine W_region_k (fun K1 hK1 => ?_)
   refine WL_q rfl (q_as (q_move rfl) rfl) ?_
   refine WL_q rfl (q_as (q_shl rfl rfl (by decide)) (congrArg (Value.int .u64) (shl_r32 hr))) ?_
   refine WL_q rfl (q_as (q_move rfl) (congrArg (Value.int .i64) (show (((m + 1 : Nat) : Int) - 1) = (m : Int) by omega))) ?_
   refine WL_q rfl (q_idxa ar_26 rfl rfl (by omega) (by omega)) ?_
   refine WL_q rfl (q_load ty_25 rfl (by repeat (first | exact .head _ | apply List.mem_append_right | apply List.Mem.tail)) (uwAt (by omega))) ?_
   refine WL_q rfl (q_as (q_conv in_25 in_78 rfl) (congrArg (Value.int .u64) ((conv_u32_u64 (getD_lt lx _)).trans (by rw [getD_val xs m lx])))) ?_
   refine WL_q rfl (q_as (q_or rfl rfl) (congrArg (Value.int .u64) (down_or hr (dig_lt _ _)))) ?_
   refine WL_q rfl (q_assign rfl) ?_
   refine WL_nil (hK1 _ _ ?_)
   clear hK1 K1
   refine hK_8 _ _ ?_
   try clear hK_8 K_8
   refine W_seq (fun K_9 hK_9 => ?_)
   refine W_region_k (fun K1 hK1 => ?_)
   refine WL_q rfl (q_as (q_move rfl) (congrArg (Value.int .i64) (show (((m + 1 : Nat) : Int) - 1) = (m : Int) by omega))) ?_
   refine WL_q rfl (q_move rfl) ?_
   refine WL_q rfl (q_move rfl) ?_
   refine WL_q rfl (q_as (q_conv in_25 in_78 rfl) (congrArg (Value.int .u64) (conv_u32_u64 hd))) ?_
   refine WL_q rfl (q_as (q_quo rfl rfl (by omega)) (congrArg (Value.int .u64) (quo_nat _ _))) ?_
   refine WL_q rfl (q_as (q_conv in_78 in_25 rfl) (u32_nat _)) ?_
   refine WL_q rfl (q_idxa ar_26 rfl rfl (by omega) (by omega)) ?_
   refine WL_r rfl (r_storeu ty_25 rfl rfl (by repeat (first | exact .head _ | apply Upd.left | apply Upd.tail)) (by rw [hpart_len _ (by omega)]; omega) (.inl (by assumption)) ?_)
   refine WL_nil (hK1 _ _ ?_)
   clear hK1 K1
   refine hK_9 _ _ ?_
   try clear hK_9 K_9
   refine W_region_k (fun K1 hK1 => ?_)
   refine WL_q rfl (q_move rfl) ?_
   refine WL_q rfl (q_move rfl) ?_
   refine WL_q rfl (q_as (q_conv in_25 in_78 rfl) (congrArg (Value.int .u64) (conv_u32_u64 hd))) ?_
   refine WL_q rfl (q_as (q_rem rfl rfl (by omega)) (congrArg (Value.int .u64) (rem_nat _ _))) ?_
   refine WL_q rfl (q_assign rfl) ?_
   refine WL_nil (hK1 _ _ ?_)
   clear hK1 K1
   refine hK_7 _ _ ?_
   try clear hK_7 K_7
   refine W_region_k (fun K1 hK1 => ?_)
   refine WL_q rfl (q_as (q_move rfl) (congrArg (Value.int .i64) (show (((m + 1 : Nat) : Int) - 1) = (m : Int) by omega))) ?_
   refine WL_q rfl (q_sub rfl rfl) ?_
   refine WL_q rfl (q_assign rfl) ?_
   refine WL_nil (hK1 _ _ ?_)
   clear hK1 K1
   refine ⟨(by repeat (first | exact .refl | refine .cons rfl ?_)), _, _, (List.Sublist.refl _), (by omega), m, ⟨?s6, ?s7⟩, ?mem, rfl, (by omega)⟩
   case mem => rw [short_dig0 m h0, hpart_set (by omega)]
   case s6 => exact congrArg (fun m : Nat => Value.int .u64 (m : Int)) (short_digit m h0).2
   case s7 => exact congrArg (Value.int .i64) (wrap_i64_id (n := (m : Int) - 1) (by unfold I64; omega))
  ·(try simp only [decide_eq_true_eq, decide_eq_false_iff_not, beq_iff_eq, bne_iff_ne, beq_eq_false_iff_ne, bne_eq_false_iff_eq, Bool.not_eq_true', Bool.not_eq_false'] at hc)
   obtain rfl : k = 0 := by omega
   refine W_exit (thenK_x (thenK_x (blockK_hit ?_)))
   refine hK_3 _ _ ?_
   try clear hK_3 K_3
   refine W_seq (fun K_10 hK_10 => ?_)
   refine W_region_k (fun K1 hK1 => ?_)
   refine WL_q rfl (q_loadw ty_26 rfl (by repeat (first | exact .head _ | apply List.mem_append_right | apply List.Mem.tail)) (by simp [uw, hpart_len])) ?_
   refine WL_q rfl (q_move rfl) ?_
   refine WL_q rfl (q_as (q_conv in_78 in_25 rfl) (u32_nat _)) ?_
   refine WL_r rfl (r_storew ty_26 rfl rfl (by repeat (first | exact .head _ | apply Upd.left | apply Upd.tail)) (by simp [uw, hpart_len]) (by simp [uw, hpart_len]) (uw_plain _) (.inl (by assumption)) ?_)
   refine WL_q rfl (q_assign rfl) ?_
   refine WL_nil (hK1 _ _ ?_)
   clear hK1 K1
   refine hK_10 _ _ ?_
   try clear hK_10 K_10
   refine W_ret ?_
   refine ret2 rfl (.inr rfl) ⟨_, _, _, _, _, _, rfl, (by repeat (first | exact .head _ | apply List.mem_append_right | apply List.Mem.tail)), ty_26, _, (takeAll (by simp [uw, hpart_len])), (by simp [uw, hpart_len]), rfl⟩ rfl ?_
   (rw [hpart_all, Nat.pow_zero, Nat.div_one, Nat.mod_eq_of_lt (Nat.lt_trans (Nat.mod_lt _ h0) hd)]; rfl)
end Go.Proofs.Ythbjhbmpfeeilaa
