/- Walks: what these functions return. -/
import Derived.Test.YthbjhbmpfeeilaaFa0
import Derived.Test.YthbjhbmpfeeilaaWa
import Derived.Test.YthbjhbmpfeeilaaWc
import Derived.Test.YthbjhbmpfeeilaaWd
import Derived.Test.YthbjhbmpfeeilaaWg
namespace Go.Proofs.Ythbjhbmpfeeilaa
open Go.Kn Go.Num
set_option linter.unusedVariables false
set_option linter.unusedSimpArgs false
set_option maxRecDepth 20000
set_option maxHeartbeats 8000000
theorem whole_Bits_ret (a : R) (ha : a.Ok) :
    Ret Try.prog 83 [RV a] (.int .i64 ((a.dec.bits : Nat) : Int)) := by
 refine ret_of_W (N := 25) Try.func83 rfl rfl (by simp) (fun w0 => ?_)
 simp only [initF, Nat.reduceAdd]
 refine W_seq (fun K_1 hK_1 => ?_)
 refine W_region_k (fun K1 hK1 => ?_)
 refine WL_r rfl (r_box rfl rfl (fun b1 hb1 => ?_))
 refine WL_q rfl (q_assign rfl) ?_
 refine WL_nil (hK1 _ _ ?_)
 clear hK1 K1
 refine hK_1 _ _ ?_
 try clear hK_1 K_1
 refine W_seq (fun K_2 hK_2 => ?_)
 refine W_region_k (fun K1 hK1 => ?_)
 refine WL_q rfl (q_faddr fd_28_2 (by decide) rfl) ?_
 refine WL_q rfl (q_loada (vs := uw a.w) ty_26 rfl (by repeat (first | exact .head _ | apply List.mem_append_right | apply List.Mem.tail)) (cellsW ha.len) ((uw_len _).trans ha.len)) ?_
 refine WL_q rfl (q_ret en_80 (whole_size_ret a.w ha.len) rfl) ?_
 refine WL_q rfl (q_assign rfl) ?_
 refine WL_nil (hK1 _ _ ?_)
 clear hK1 K1
 refine hK_2 _ _ ?_
 try clear hK_2 K_2
 refine W_seq (fun K_3 hK_3 => ?_)
 refine W_seq (fun K_4 hK_4 => ?_)
 refine W_region_k (fun K1 hK1 => ?_)
 refine WL_q rfl (q_loadw ty_28 rfl (by repeat (first | exact .head _ | apply List.mem_append_right | apply List.Mem.tail)) (cells_len ha)) ?_
 refine WL_r rfl (r_bslice us_104 z_28 sz_28 rfl (by decide) rfl (fillG1 ha) (fun b8 hb8 => ?_))
 refine WL_q rfl (q_call en_78 rfl (fun w hw => whole_good_ret [a] (ok1 ha) b8 28 w (hw.mem _ m0) (by simp))) ?_
 refine WL_q rfl (q_not rfl) ?_
 refine WL_q rfl (q_move rfl) ?_
 cases hg : [a].all R.good
 ·skip
  refine WL_n rfl ?_
  refine WL_n rfl ?_
  refine WL_q rfl (q_pick rfl rfl) ?_
  refine WL_nil (hK1 _ _ ?_)
  clear hK1 K1
  refine hK_4 _ _ ?_
  try clear hK_4 K_4
  refine W_true rfl ?_
  refine W_seq (fun K_5 hK_5 => ?_)
  refine W_region_k (fun K1 hK1 => ?_)
  refine WL_q rfl (q_assign rfl) ?_
  refine WL_nil (hK1 _ _ ?_)
  clear hK1 K1
  refine hK_5 _ _ ?_
  try clear hK_5 K_5
  refine W_ret ?_
  refine thenK_r (ret1 rfl (.inr rfl) rfl ?_)
  exact congrArg (fun n : Nat => Value.int .i64 (n : Int)) (bits_bad (by simpa using hg))
 ·skip
  refine WL_q rfl (q_move rfl) ?_
  refine WL_q rfl (q_eql rfl rfl) ?_
  refine WL_q rfl (q_pick rfl rfl) ?_
  refine WL_nil (hK1 _ _ ?_)
  clear hK1 K1
  refine hK_4 _ _ ?_
  try clear hK_4 K_4
  refine W_cond _ rfl (fun hz => ?_) (fun hz => ?_)
  ·(try simp only [decide_eq_true_eq, decide_eq_false_iff_not, beq_iff_eq, bne_iff_ne, beq_eq_false_iff_ne, bne_eq_false_iff_eq, Bool.not_eq_true', Bool.not_eq_false'] at hz)
   refine W_seq (fun K_6 hK_6 => ?_)
   refine W_region_k (fun K1 hK1 => ?_)
   refine WL_q rfl (q_assign rfl) ?_
   refine WL_nil (hK1 _ _ ?_)
   clear hK1 K1
   refine hK_6 _ _ ?_
   try clear hK_6 K_6
   refine W_ret ?_
   refine thenK_r (ret1 rfl (.inr rfl) rfl ?_)
   exact congrArg (fun n : Nat => Value.int .i64 (n : Int)) (bits_zero ha (by simpa using hg) (by omega))
  ·(try simp only [decide_eq_true_eq, decide_eq_false_iff_not, beq_iff_eq, bne_iff_ne, beq_eq_false_iff_ne, bne_eq_false_iff_eq, Bool.not_eq_true', Bool.not_eq_false'] at hz)
   refine W_skip ?_
   refine hK_3 _ _ ?_
   try clear hK_3 K_3
   refine W_seq (fun K_7 hK_7 => ?_)
   have hs1 : 1 ≤ szL a.w := by omega
   have hs16 : szL a.w ≤ 16 := by have := szL_le a.w; rw [ha.len] at this; exact this
   refine W_region_k (fun K1 hK1 => ?_)
   refine WL_q rfl (q_move rfl) ?_
   refine WL_q rfl (q_as (q_sub rfl rfl) (congrArg (Value.int .i64) (sub_i64' (b := 1) rfl (by omega) (by omega)))) ?_
   refine WL_q rfl (q_as (q_mul rfl rfl) (congrArg (Value.int .i64) (mul32 rfl (by omega)))) ?_
   refine WL_q rfl (q_move rfl) ?_
   refine WL_q rfl (q_as (q_sub rfl rfl) (congrArg (Value.int .i64) (sub_i64' (b := 1) rfl (by omega) (by omega)))) ?_
   refine WL_q rfl (q_faddr fd_28_2 (by decide) rfl) ?_
   refine WL_q rfl (q_idxa ar_26 rfl rfl (by omega) (by omega)) ?_
   refine WL_q rfl (q_load ty_25 rfl (by repeat (first | exact .head _ | apply List.mem_append_right | apply List.Mem.tail)) (cellsAt (r := a) (k := szL a.w - 1) (by rw [ha.len]; omega))) ?_
   refine WL_q rfl (q_ret en_111 (len32_ret _ (getD_lt ha.lim _)) rfl) ?_
   refine WL_q rfl (q_as (q_add rfl rfl) (congrArg (Value.int .i64) (add_i64 (by have := bl_small (k := 32) (getD_lt ha.lim (szL a.w - 1)); omega)))) ?_
   refine WL_q rfl (q_assign rfl) ?_
   refine WL_nil (hK1 _ _ ?_)
   clear hK1 K1
   refine hK_7 _ _ ?_
   try clear hK_7 K_7
   refine W_ret ?_
   refine ret1 rfl (.inr rfl) rfl ?_
   exact congrArg (fun n : Nat => Value.int .i64 (n : Int)) (bits_pos ha (by simpa using hg) hs1)

theorem whole_Small_ret (a : R) (ha : a.Ok) :
    Ret Try.prog 50 [RV a] (.tuple #[.int .i64 a.dec.small.1, .bool a.dec.small.2]) := by
 refine ret_of_W (N := 44) Try.func50 rfl rfl (by simp) (fun w0 => ?_)
 simp only [initF, Nat.reduceAdd]
 refine W_seq (fun K_1 hK_1 => ?_)
 refine W_region_k (fun K1 hK1 => ?_)
 refine WL_r rfl (r_box rfl rfl (fun b1 hb1 => ?_))
 refine WL_q rfl (q_assign rfl) ?_
 refine WL_q rfl (q_assign rfl) ?_
 refine WL_nil (hK1 _ _ ?_)
 clear hK1 K1
 refine hK_1 _ _ ?_
 try clear hK_1 K_1
 refine W_seq (fun K_2 hK_2 => ?_)
 refine W_seq (fun K_3 hK_3 => ?_)
 refine W_region_k (fun K1 hK1 => ?_)
 refine WL_q rfl (q_loadw ty_28 rfl (by repeat (first | exact .head _ | apply List.mem_append_right | apply List.Mem.tail)) (cells_len ha)) ?_
 refine WL_r rfl (r_bslice us_104 z_28 sz_28 rfl (by decide) rfl (fillG1 ha) (fun b6 hb6 => ?_))
 refine WL_q rfl (q_call en_78 rfl (fun w hw => whole_good_ret [a] (ok1 ha) b6 28 w (hw.mem _ m0) (by simp))) ?_
 refine WL_q rfl (q_not rfl) ?_
 refine WL_q rfl (q_move rfl) ?_
 cases hg : [a].all R.good
 ·skip
  refine WL_n rfl ?_
  refine WL_n rfl ?_
  refine WL_n rfl ?_
  refine WL_q rfl (q_pick rfl rfl) ?_
  refine WL_nil (hK1 _ _ ?_)
  clear hK1 K1
  refine hK_3 _ _ ?_
  try clear hK_3 K_3
  refine W_true rfl ?_
  refine W_seq (fun K_4 hK_4 => ?_)
  refine W_region_k (fun K1 hK1 => ?_)
  refine WL_q rfl (q_assign rfl) ?_
  refine WL_q rfl (q_assign rfl) ?_
  refine WL_nil (hK1 _ _ ?_)
  clear hK1 K1
  refine hK_4 _ _ ?_
  try clear hK_4 K_4
  refine W_ret ?_
  refine thenK_r (ret2 rfl (.inr rfl) rfl rfl ?_)
  exact small_bad (by simpa using hg)
 ·skip
  refine WL_q rfl (q_loadw ty_28 rfl (by repeat (first | exact .head _ | apply List.mem_append_right | apply List.Mem.tail)) (cells_len ha)) ?_
  refine WL_q rfl (q_ret en_83 (whole_Bits_ret a ha) rfl) ?_
  refine WL_q rfl (q_gtr rfl rfl) ?_
  refine WL_q rfl (q_pick rfl rfl) ?_
  refine WL_nil (hK1 _ _ ?_)
  clear hK1 K1
  refine hK_3 _ _ ?_
  try clear hK_3 K_3
  refine W_cond _ rfl (fun hb => ?_) (fun hb => ?_)
  ·(try simp only [decide_eq_true_eq, decide_eq_false_iff_not, beq_iff_eq, bne_iff_ne, beq_eq_false_iff_ne, bne_eq_false_iff_eq, Bool.not_eq_true', Bool.not_eq_false'] at hb)
   refine W_seq (fun K_5 hK_5 => ?_)
   refine W_region_k (fun K1 hK1 => ?_)
   refine WL_q rfl (q_assign rfl) ?_
   refine WL_q rfl (q_assign rfl) ?_
   refine WL_nil (hK1 _ _ ?_)
   clear hK1 K1
   refine hK_5 _ _ ?_
   try clear hK_5 K_5
   refine W_ret ?_
   refine thenK_r (ret2 rfl (.inr rfl) rfl rfl ?_)
   exact small_huge ha (by simpa using hg) hb
  ·(try simp only [decide_eq_true_eq, decide_eq_false_iff_not, beq_iff_eq, bne_iff_ne, beq_eq_false_iff_ne, bne_eq_false_iff_eq, Bool.not_eq_true', Bool.not_eq_false'] at hb)
   have h64 := bits64 ha (by simpa using hg) hb
   refine W_skip ?_
   refine hK_2 _ _ ?_
   try clear hK_2 K_2
   refine W_seq (fun K_6 hK_6 => ?_)
   refine W_region_k (fun K1 hK1 => ?_)
   refine WL_q rfl (q_faddr fd_28_2 (by decide) rfl) ?_
   refine WL_q rfl (q_idxa ar_26 rfl rfl (by decide) (by decide)) ?_
   refine WL_q rfl (q_load ty_25 rfl (by repeat (first | exact .head _ | apply List.mem_append_right | apply List.Mem.tail)) (cellsAt (r := a) (k := 1) (by rw [ha.len]; omega))) ?_
   refine WL_q rfl (q_as (q_conv in_25 in_78 rfl) (u32u64 (getD_lt ha.lim _))) ?_
   refine WL_q rfl (q_as (q_shl rfl rfl (by decide)) (congrArg (Value.int .u64) (shl_r32 (getD_lt ha.lim _)))) ?_
   refine WL_q rfl (q_faddr fd_28_2 (by decide) rfl) ?_
   refine WL_q rfl (q_idxa ar_26 rfl rfl (by decide) (by decide)) ?_
   refine WL_q rfl (q_load ty_25 rfl (by repeat (first | exact .head _ | apply List.mem_append_right | apply List.Mem.tail)) (cellsAt (r := a) (k := 0) (by rw [ha.len]; omega))) ?_
   refine WL_q rfl (q_as (q_conv in_25 in_78 rfl) (u32u64 (getD_lt ha.lim _))) ?_
   refine WL_q rfl (q_as (q_or rfl rfl) (congrArg (Value.int .u64) ((or_hi (getD_lt ha.lim _) (getD_lt ha.lim _)).trans (congrArg (fun m : Nat => (m : Int)) (two_digits ha h64))))) ?_
   refine WL_q rfl (q_assign rfl) ?_
   refine WL_nil (hK1 _ _ ?_)
   clear hK1 K1
   refine hK_6 _ _ ?_
   try clear hK_6 K_6
   refine W_seq (fun K_7 hK_7 => ?_)
   refine W_block ?_
   refine W_seq (fun K_8 hK_8 => ?_)
   refine W_region_k (fun K1 hK1 => ?_)
   refine WL_q rfl (q_faddr fd_28_1 (by decide) rfl) ?_
   refine WL_q rfl (q_load ty_4 rfl (by repeat (first | exact .head _ | apply List.mem_append_right | apply List.Mem.tail)) rfl) ?_
   refine WL_q rfl (q_move rfl) ?_
   cases hn : a.neg
   ·skip
    refine WL_n rfl ?_
    refine WL_n rfl ?_
    refine WL_q rfl (q_pick rfl rfl) ?_
    refine WL_q rfl (q_assign rfl) ?_
    refine WL_nil (hK1 _ _ ?_)
    clear hK1 K1
    refine hK_8 _ _ ?_
    try clear hK_8 K_8
    refine W_false rfl ?_
    refine W_seq (fun K_9 hK_9 => ?_)
    refine W_region_k (fun K1 hK1 => ?_)
    refine WL_q rfl (q_faddr fd_28_1 (by decide) rfl) ?_
    refine WL_q rfl (q_load ty_4 rfl (by repeat (first | exact .head _ | apply List.mem_append_right | apply List.Mem.tail)) rfl) ?_
    refine WL_q rfl (q_not rfl) ?_
    rw [hn]
    refine WL_q rfl (q_move rfl) ?_
    refine WL_q rfl (q_move rfl) ?_
    refine WL_q rfl (q_lss rfl rfl) ?_
    refine WL_q rfl (q_pick rfl rfl) ?_
    refine WL_q rfl (q_assign rfl) ?_
    refine WL_nil (hK1 _ _ ?_)
    clear hK1 K1
    refine hK_9 _ _ ?_
    try clear hK_9 K_9
    refine W_cond _ rfl (fun hlt => ?_) (fun hlt => ?_)
    ·(try simp only [decide_eq_true_eq, decide_eq_false_iff_not, beq_iff_eq, bne_iff_ne, beq_eq_false_iff_ne, bne_eq_false_iff_eq, Bool.not_eq_true', Bool.not_eq_false'] at hlt)
     refine W_seq (fun K_10 hK_10 => ?_)
     refine W_region_k (fun K1 hK1 => ?_)
     refine WL_q rfl (q_move rfl) ?_
     refine WL_q rfl (q_as (q_conv in_78 in_3 rfl) (congrArg (Value.int .i64) (small_pos (by omega)))) ?_
     refine WL_q rfl (q_assign rfl) ?_
     refine WL_q rfl (q_assign rfl) ?_
     refine WL_nil (hK1 _ _ ?_)
     clear hK1 K1
     refine hK_10 _ _ ?_
     try clear hK_10 K_10
     refine W_ret ?_
     refine blockK_r (thenK_r (ret2 rfl (.inr rfl) rfl rfl ?_))
     exact small_in ha (by simpa using hg) (by rw [hn]; rfl) (by rw [hn, sgn_f]; omega)
    ·(try simp only [decide_eq_true_eq, decide_eq_false_iff_not, beq_iff_eq, bne_iff_ne, beq_eq_false_iff_ne, bne_eq_false_iff_eq, Bool.not_eq_true', Bool.not_eq_false'] at hlt)
     refine W_skip ?_
     refine hK_7 _ _ ?_
     try clear hK_7 K_7
     refine W_seq (fun K_11 hK_11 => ?_)
     refine W_region_k (fun K1 hK1 => ?_)
     refine WL_q rfl (q_assign rfl) ?_
     refine WL_q rfl (q_assign rfl) ?_
     refine WL_nil (hK1 _ _ ?_)
     clear hK1 K1
     refine hK_11 _ _ ?_
     try clear hK_11 K_11
     refine W_ret ?_
     refine ret2 rfl (.inr rfl) rfl rfl ?_
     exact small_out ha (by simpa using hg) (by rw [hn, sgn_f]; omega)
   ·skip
    refine WL_q rfl (q_move rfl) ?_
    refine WL_q rfl (q_leq rfl rfl) ?_
    refine WL_q rfl (q_pick rfl rfl) ?_
    refine WL_q rfl (q_assign rfl) ?_
    refine WL_nil (hK1 _ _ ?_)
    clear hK1 K1
    refine hK_8 _ _ ?_
    try clear hK_8 K_8
    refine W_cond _ rfl (fun hle => ?_) (fun hle => ?_)
    ·(try simp only [decide_eq_true_eq, decide_eq_false_iff_not, beq_iff_eq, bne_iff_ne, beq_eq_false_iff_ne, bne_eq_false_iff_eq, Bool.not_eq_true', Bool.not_eq_false'] at hle)
     refine W_seq (fun K_12 hK_12 => ?_)
     refine W_region_k (fun K1 hK1 => ?_)
     refine WL_q rfl (q_move rfl) ?_
     refine WL_q rfl (q_neg rfl) ?_
     refine WL_q rfl (q_as (q_conv in_78 in_3 rfl) (congrArg (Value.int .i64) (small_neg (by omega)))) ?_
     refine WL_q rfl (q_assign rfl) ?_
     refine WL_q rfl (q_assign rfl) ?_
     refine WL_nil (hK1 _ _ ?_)
     clear hK1 K1
     refine hK_12 _ _ ?_
     try clear hK_12 K_12
     refine W_ret ?_
     refine blockK_r (thenK_r (ret2 rfl (.inr rfl) rfl rfl ?_))
     exact small_in ha (by simpa using hg) (by rw [hn]; rfl) (by rw [hn, sgn_t]; omega)
    ·(try simp only [decide_eq_true_eq, decide_eq_false_iff_not, beq_iff_eq, bne_iff_ne, beq_eq_false_iff_ne, bne_eq_false_iff_eq, Bool.not_eq_true', Bool.not_eq_false'] at hle)
     refine W_seq (fun K_13 hK_13 => ?_)
     refine W_region_k (fun K1 hK1 => ?_)
     refine WL_q rfl (q_faddr fd_28_1 (by decide) rfl) ?_
     refine WL_q rfl (q_load ty_4 rfl (by repeat (first | exact .head _ | apply List.mem_append_right | apply List.Mem.tail)) rfl) ?_
     refine WL_q rfl (q_not rfl) ?_
     rw [hn]
     refine WL_q rfl (q_move rfl) ?_
     refine WL_n rfl ?_
     refine WL_n rfl ?_
     refine WL_q rfl (q_pick rfl rfl) ?_
     refine WL_q rfl (q_assign rfl) ?_
     refine WL_nil (hK1 _ _ ?_)
     clear hK1 K1
     refine hK_13 _ _ ?_
     try clear hK_13 K_13
     refine W_false rfl ?_
     refine W_skip ?_
     refine hK_7 _ _ ?_
     try clear hK_7 K_7
     refine W_seq (fun K_14 hK_14 => ?_)
     refine W_region_k (fun K1 hK1 => ?_)
     refine WL_q rfl (q_assign rfl) ?_
     refine WL_q rfl (q_assign rfl) ?_
     refine WL_nil (hK1 _ _ ?_)
     clear hK1 K1
     refine hK_14 _ _ ?_
     try clear hK_14 K_14
     refine W_ret ?_
     refine ret2 rfl (.inr rfl) rfl rfl ?_
     exact small_out ha (by simpa using hg) (by rw [hn, sgn_t]; omega)

theorem whole_divided_ret (a b : R) (ha : a.Ok) (hb : b.Ok) :
    Ret Try.prog 84 [RV a, RV b] (.tuple #[RV (Z.quo a.dec b.dec).enc, RV (Z.rem a.dec b.dec).enc]) := by
 refine ret_of_W (N := 108) Try.func84 rfl rfl (by simp) (fun w0 => ?_)
 simp only [initF, Nat.reduceAdd]
 refine W_seq (fun K_1 hK_1 => ?_)
 refine W_region_k (fun K1 hK1 => ?_)
 refine WL_r rfl (r_box rfl rfl (fun b2 hb2 => ?_))
 refine WL_r rfl (r_box rfl rfl (fun b3 hb3 => ?_))
 refine WL_r rfl (r_alloc z_28 (fun b4 hb4 => ?_))
 refine WL_r rfl (r_alloc z_28 (fun b5 hb5 => ?_))
 refine WL_nil (hK1 _ _ ?_)
 clear hK1 K1
 refine hK_1 _ _ ?_
 try clear hK_1 K_1
 refine W_seq (fun K_2 hK_2 => ?_)
 refine W_seq (fun K_3 hK_3 => ?_)
 refine W_region_k (fun K1 hK1 => ?_)
 refine WL_q rfl (q_loadw ty_28 rfl (by repeat (first | exact .head _ | apply List.mem_append_right | apply List.Mem.tail)) (cells_len ha)) ?_
 refine WL_q rfl (q_loadw ty_28 rfl (by repeat (first | exact .head _ | apply List.mem_append_right | apply List.Mem.tail)) (cells_len hb)) ?_
 refine WL_r rfl (r_bslice us_104 z_28 sz_28 rfl (by decide) rfl (fillG2 ha hb) (fun b17 hb17 => ?_))
 refine WL_q rfl (q_call en_78 rfl (fun w hw => whole_good_ret [a, b] (ok2 ha hb) b17 28 w (hw.mem _ m0) (by simp))) ?_
 refine WL_q rfl (q_not rfl) ?_
 refine WL_q rfl (q_move rfl) ?_
 cases hg : [a, b].all R.good
 ·skip
  refine WL_n rfl ?_
  refine WL_n rfl ?_
  refine WL_n rfl ?_
  refine WL_q rfl (q_pick rfl rfl) ?_
  refine WL_nil (hK1 _ _ ?_)
  clear hK1 K1
  refine hK_3 _ _ ?_
  try clear hK_3 K_3
  refine W_true rfl ?_
  refine W_seq (fun K_4 hK_4 => ?_)
  refine W_region_k (fun K1 hK1 => ?_)
  refine WL_q rfl (q_ret en_79 whole_Bad_ret rfl) ?_
  refine WL_q rfl (q_ret en_79 whole_Bad_ret rfl) ?_
  refine WL_r rfl (r_storew ty_28 rfl rfl (by repeat (first | exact .head _ | apply Upd.left | apply Upd.tail)) (enc_cells_len _) rfl (cells_plain _) (.inl (by assumption)) ?_)
  refine WL_r rfl (r_storew ty_28 rfl rfl (by repeat (first | exact .head _ | apply Upd.left | apply Upd.tail)) (enc_cells_len _) rfl (cells_plain _) (.inl (by assumption)) ?_)
  refine WL_nil (hK1 _ _ ?_)
  clear hK1 K1
  refine hK_4 _ _ ?_
  try clear hK_4 K_4
  refine W_ret ?_
  refine thenK_r (ret2 rfl (.inr rfl) ⟨_, _, _, _, _, _, rfl, (by repeat (first | exact .head _ | apply List.mem_append_right | apply List.Mem.tail)), ty_28, _, (takeAll (enc_cells_len _)), (enc_cells_len _), rfl⟩ ⟨_, _, _, _, _, _, rfl, (by repeat (first | exact .head _ | apply List.mem_append_right | apply List.Mem.tail)), ty_28, _, (takeAll (enc_cells_len _)), (enc_cells_len _), rfl⟩ ?_)
  exact quo_bad (not_all2 hg)
 ·skip
  have hg := all2.1 hg
  refine WL_q rfl (q_loadw ty_28 rfl (by repeat (first | exact .head _ | apply List.mem_append_right | apply List.Mem.tail)) (cells_len hb)) ?_
  refine WL_q rfl (q_ret en_49 (whole_Sign_ret b hb) rfl) ?_
  refine WL_q rfl (q_eql rfl rfl) ?_
  refine WL_q rfl (q_pick rfl rfl) ?_
  refine WL_nil (hK1 _ _ ?_)
  clear hK1 K1
  refine hK_3 _ _ ?_
  try clear hK_3 K_3
  refine W_cond _ rfl (fun hs0 => ?_) (fun hs0 => ?_)
  ·(try simp only [decide_eq_true_eq, decide_eq_false_iff_not, beq_iff_eq, bne_iff_ne, beq_eq_false_iff_ne, bne_eq_false_iff_eq, Bool.not_eq_true', Bool.not_eq_false'] at hs0)
   refine W_seq (fun K_5 hK_5 => ?_)
   refine W_region_k (fun K1 hK1 => ?_)
   refine WL_q rfl (q_ret en_79 whole_Bad_ret rfl) ?_
   refine WL_q rfl (q_ret en_79 whole_Bad_ret rfl) ?_
   refine WL_r rfl (r_storew ty_28 rfl rfl (by repeat (first | exact .head _ | apply Upd.left | apply Upd.tail)) (enc_cells_len _) rfl (cells_plain _) (.inl (by assumption)) ?_)
   refine WL_r rfl (r_storew ty_28 rfl rfl (by repeat (first | exact .head _ | apply Upd.left | apply Upd.tail)) (enc_cells_len _) rfl (cells_plain _) (.inl (by assumption)) ?_)
   refine WL_nil (hK1 _ _ ?_)
   clear hK1 K1
   refine hK_5 _ _ ?_
   try clear hK_5 K_5
   refine W_ret ?_
   refine thenK_r (ret2 rfl (.inr rfl) ⟨_, _, _, _, _, _, rfl, (by repeat (first | exact .head _ | apply List.mem_append_right | apply List.Mem.tail)), ty_28, _, (takeAll (enc_cells_len _)), (enc_cells_len _), rfl⟩ ⟨_, _, _, _, _, _, rfl, (by repeat (first | exact .head _ | apply List.mem_append_right | apply List.Mem.tail)), ty_28, _, (takeAll (enc_cells_len _)), (enc_cells_len _), rfl⟩ ?_)
   exact quo_zero ha hb hg.1 hg.2 hs0
  ·(try simp only [decide_eq_true_eq, decide_eq_false_iff_not, beq_iff_eq, bne_iff_ne, beq_eq_false_iff_ne, bne_eq_false_iff_eq, Bool.not_eq_true', Bool.not_eq_false'] at hs0)
   have hs0 : b.dec.sign ≠ 0 := hs0
   have hp := val_pos_of_sign hb hg.2 hs0
   refine W_skip ?_
   refine hK_2 _ _ ?_
   try clear hK_2 K_2
   refine W_join [6, 7, 8, 9, 10, 11, 27, 28, 29, 30, 31, 32, 33, 34, 35, 36, 37, 38, 39, 40, 41, 42, 43, 44, 45, 46, 47, 48, 49, 50, 51, 52, 53, 54, 55, 56, 57, 58, 59, 60, 61, 62, 63, 64, 65, 66, 67, 68, 69, 70] (fun g M => (True) ∧ M = [⟨b5, 28, zR⟩, ⟨b4, 28, zR⟩, ⟨b3, 28, b.cells⟩, ⟨b2, 28, a.cells⟩] ∧ (True)) (fun K_6 hK_6 => ?_) ?_
   ·skip
    refine W_seq (fun K_7 hK_7 => ?_)
    refine W_region_k (fun K1 hK1 => ?_)
    refine WL_q rfl (q_loadw ty_28 rfl (by repeat (first | exact .head _ | apply List.mem_append_right | apply List.Mem.tail)) (cells_len ha)) ?_
    refine WL_q rfl (q_ret en_50 (whole_Small_ret a ha) rfl) ?_
    refine WL_q rfl (q_move rfl) ?_
    refine WL_q rfl (q_extract rfl rfl) ?_
    refine WL_q rfl (q_extract rfl rfl) ?_
    refine WL_q rfl (q_assign rfl) ?_
    refine WL_q rfl (q_assign rfl) ?_
    refine WL_nil (hK1 _ _ ?_)
    clear hK1 K1
    refine hK_7 _ _ ?_
    try clear hK_7 K_7
    refine W_seq (fun K_8 hK_8 => ?_)
    refine W_region_k (fun K1 hK1 => ?_)
    refine WL_q rfl (q_move rfl) ?_
    refine WL_q rfl (q_move rfl) ?_
    cases hsa : a.dec.small.2
    ·skip
     refine WL_n rfl ?_
     refine WL_n rfl ?_
     refine WL_q rfl (q_pick rfl rfl) ?_
     refine WL_nil (hK1 _ _ ?_)
     clear hK1 K1
     refine hK_8 _ _ ?_
     try clear hK_8 K_8
     refine W_false rfl ?_
     refine W_skip ?_
     refine hK_6 _ _ (by repeat (first | exact .refl | refine .cons rfl ?_)) ⟨_, (List.Sublist.cons _ (List.Sublist.refl _)), trivial, ?mem, trivial⟩
     case mem => rfl
    ·skip
     refine WL_q rfl (q_move rfl) ?_
     refine WL_q rfl (q_neq rfl rfl) ?_
     refine WL_q rfl (q_pick rfl rfl) ?_
     refine WL_nil (hK1 _ _ ?_)
     clear hK1 K1
     refine hK_8 _ _ ?_
     try clear hK_8 K_8
     refine W_cond _ rfl (fun hma => ?_) (fun hma => ?_)
     ·(try simp only [decide_eq_true_eq, decide_eq_false_iff_not, beq_iff_eq, bne_iff_ne, beq_eq_false_iff_ne, bne_eq_false_iff_eq, Bool.not_eq_true', Bool.not_eq_false'] at hma)
      have ea := small_true hsa
      refine W_seq (fun K_9 hK_9 => ?_)
      refine W_region_k (fun K1 hK1 => ?_)
      refine WL_q rfl (q_loadw ty_28 rfl (by repeat (first | exact .head _ | apply List.mem_append_right | apply List.Mem.tail)) (cells_len hb)) ?_
      refine WL_q rfl (q_ret en_50 (whole_Small_ret b hb) rfl) ?_
      refine WL_q rfl (q_move rfl) ?_
      refine WL_q rfl (q_extract rfl rfl) ?_
      refine WL_q rfl (q_extract rfl rfl) ?_
      refine WL_q rfl (q_assign rfl) ?_
      refine WL_q rfl (q_assign rfl) ?_
      refine WL_nil (hK1 _ _ ?_)
      clear hK1 K1
      refine hK_9 _ _ ?_
      try clear hK_9 K_9
      refine W_seq (fun K_10 hK_10 => ?_)
      refine W_region_k (fun K1 hK1 => ?_)
      refine WL_q rfl (q_move rfl) ?_
      refine WL_q rfl (q_move rfl) ?_
      cases hsb : b.dec.small.2
      ·skip
       refine WL_n rfl ?_
       refine WL_n rfl ?_
       refine WL_q rfl (q_pick rfl rfl) ?_
       refine WL_nil (hK1 _ _ ?_)
       clear hK1 K1
       refine hK_10 _ _ ?_
       try clear hK_10 K_10
       refine W_false rfl ?_
       refine W_skip ?_
       refine hK_6 _ _ (by repeat (first | exact .refl | refine .cons rfl ?_)) ⟨_, (List.Sublist.cons _ (List.Sublist.refl _)), trivial, ?mem, trivial⟩
       case mem => rfl
      ·skip
       refine WL_q rfl (q_move rfl) ?_
       refine WL_q rfl (q_neq rfl rfl) ?_
       refine WL_q rfl (q_pick rfl rfl) ?_
       refine WL_nil (hK1 _ _ ?_)
       clear hK1 K1
       refine hK_10 _ _ ?_
       try clear hK_10 K_10
       refine W_cond _ rfl (fun hmb => ?_) (fun hmb => ?_)
       ·(try simp only [decide_eq_true_eq, decide_eq_false_iff_not, beq_iff_eq, bne_iff_ne, beq_eq_false_iff_ne, bne_eq_false_iff_eq, Bool.not_eq_true', Bool.not_eq_false'] at hmb)
        have eb := small_true hsb
        have hy0 := sign_ne eb.1 hs0
        have hq64 : I64 (a.dec.small.1.tdiv b.dec.small.1) := quo64a ea.2 hma
        have hr64 := rem64a (x := a.dec.small.1) hy0 eb.2
        refine W_seq (fun K_11 hK_11 => ?_)
        refine W_draw (sk (sk (sk (sk (sk (s0)))))) (.quiet 0 [2, 6, 7] (.quiet 1 [2, 6, 7] (.quiet 2 [6, 7] (.quiet 3 [5, 7] (.quiet 4 [5, 7] (.quiet 5 [7] (.quiet 6 [7] (.quiet 7 [] (.fin))))))))) [0, 1, 2, 3, 4, 5, 6, 7] mix (by kernel_rfl) (by kernel_rfl) (fun K1 hK1 => ?_)
        refine PL_q rfl rfl (q_move rfl) ?_
        refine PL_q rfl rfl (q_move rfl) ?_
        refine PL_q rfl rfl (q_as (q_quo rfl rfl hy0) (congrArg (Value.int .i64) (wrap_i64_id (quo64a ea.2 hma)))) ?_
        refine PL_q rfl rfl (q_move rfl) ?_
        refine PL_q rfl rfl (q_move rfl) ?_
        refine PL_q rfl rfl (q_rem rfl rfl hy0) ?_
        refine PL_q rfl rfl (q_assign rfl) ?_
        refine PL_q rfl rfl (q_assign rfl) ?_
        refine PL_fin (hK1 _ _ ?_)
        clear hK1 K1
        refine hK_11 _ _ ?_
        try clear hK_11 K_11
        refine W_seq (fun K_12 hK_12 => ?_)
        refine W_seq (fun K_13 hK_13 => ?_)
        refine W_region_k (fun K1 hK1 => ?_)
        refine WL_q rfl (q_move rfl) ?_
        refine WL_q rfl (q_neq rfl rfl) ?_
        refine WL_q rfl (q_move rfl) ?_
        cases hr0 : (a.dec.small.1.tmod b.dec.small.1 != 0)
        ·skip
         refine WL_n rfl ?_
         refine WL_n rfl ?_
         refine WL_n rfl ?_
         refine WL_n rfl ?_
         refine WL_n rfl ?_
         refine WL_q rfl (q_pick rfl rfl) ?_
         refine WL_nil (hK1 _ _ ?_)
         clear hK1 K1
         refine hK_13 _ _ ?_
         try clear hK_13 K_13
         refine W_false rfl ?_
         refine W_skip ?_
         refine hK_12 _ _ ?_
         try clear hK_12 K_12
         refine W_seq (fun K_14 hK_14 => ?_)
         refine W_region_k (fun K1 hK1 => ?_)
         refine WL_q rfl (q_move rfl) ?_
         refine WL_q rfl (q_ret en_47 (whole_Of_ret _ (by first | exact hI1 | exact hq64)) rfl) ?_
         refine WL_q rfl (q_move rfl) ?_
         refine WL_q rfl (q_ret en_47 (whole_Of_ret _ (by first | exact hI2 | exact hr64)) rfl) ?_
         refine WL_r rfl (r_storew ty_28 rfl rfl (by repeat (first | exact .head _ | apply Upd.left | apply Upd.tail)) (enc_cells_len _) rfl (cells_plain _) (.inl (by assumption)) ?_)
         refine WL_r rfl (r_storew ty_28 rfl rfl (by repeat (first | exact .head _ | apply Upd.left | apply Upd.tail)) (enc_cells_len _) rfl (cells_plain _) (.inl (by assumption)) ?_)
         refine WL_nil (hK1 _ _ ?_)
         clear hK1 K1
         refine hK_14 _ _ ?_
         try clear hK_14 K_14
         refine W_ret ?_
         refine thenK_r (ret2 rfl (.inr rfl) ⟨_, _, _, _, _, _, rfl, (by repeat (first | exact .head _ | apply List.mem_append_right | apply List.Mem.tail)), ty_28, _, (takeAll (enc_cells_len _)), (enc_cells_len _), rfl⟩ ⟨_, _, _, _, _, _, rfl, (by repeat (first | exact .head _ | apply List.mem_append_right | apply List.Mem.tail)), ty_28, _, (takeAll (enc_cells_len _)), (enc_cells_len _), rfl⟩ ?_)
         exact small_fin ea.1 eb.1 hs0 (fl_same hy0 (.inl (by simpa using hr0)))
        ·skip
         refine WL_q rfl (q_move rfl) ?_
         refine WL_q rfl (q_lss rfl rfl) ?_
         refine WL_q rfl (q_move rfl) ?_
         refine WL_q rfl (q_lss rfl rfl) ?_
         refine WL_q rfl (q_neqb bo_4 rfl rfl) ?_
         refine WL_q rfl (q_pick rfl rfl) ?_
         refine WL_nil (hK1 _ _ ?_)
         clear hK1 K1
         refine hK_13 _ _ ?_
         try clear hK_13 K_13
         refine W_cond _ rfl (fun hsg => ?_) (fun hsg => ?_)
         ·(try simp only [decide_eq_true_eq, decide_eq_false_iff_not, beq_iff_eq, bne_iff_ne, beq_eq_false_iff_ne, bne_eq_false_iff_eq, Bool.not_eq_true', Bool.not_eq_false'] at hsg)
          have hI1 : I64 (a.dec.small.1.tdiv b.dec.small.1 - 1) := quo64b ea.2 hma
          have hI2 := rem64b hy0 eb.2 (bne_iff_ne.2 hsg)
          refine W_region_k (fun K1 hK1 => ?_)
          refine WL_q rfl (q_move rfl) ?_
          refine WL_q rfl (q_as (q_sub rfl rfl) (congrArg (Value.int .i64) (wrap_i64_id hI1))) ?_
          refine WL_q rfl (q_move rfl) ?_
          refine WL_q rfl (q_move rfl) ?_
          refine WL_q rfl (q_as (q_add rfl rfl) (congrArg (Value.int .i64) (wrap_i64_id hI2))) ?_
          refine WL_q rfl (q_assign rfl) ?_
          refine WL_q rfl (q_assign rfl) ?_
          refine WL_nil (hK1 _ _ ?_)
          clear hK1 K1
          refine hK_12 _ _ ?_
          try clear hK_12 K_12
          refine W_seq (fun K_15 hK_15 => ?_)
          refine W_region_k (fun K1 hK1 => ?_)
          refine WL_q rfl (q_move rfl) ?_
          refine WL_q rfl (q_ret en_47 (whole_Of_ret _ (by first | exact hI1 | exact hq64)) rfl) ?_
          refine WL_q rfl (q_move rfl) ?_
          refine WL_q rfl (q_ret en_47 (whole_Of_ret _ (by first | exact hI2 | exact hr64)) rfl) ?_
          refine WL_r rfl (r_storew ty_28 rfl rfl (by repeat (first | exact .head _ | apply Upd.left | apply Upd.tail)) (enc_cells_len _) rfl (cells_plain _) (.inl (by assumption)) ?_)
          refine WL_r rfl (r_storew ty_28 rfl rfl (by repeat (first | exact .head _ | apply Upd.left | apply Upd.tail)) (enc_cells_len _) rfl (cells_plain _) (.inl (by assumption)) ?_)
          refine WL_nil (hK1 _ _ ?_)
          clear hK1 K1
          refine hK_15 _ _ ?_
          try clear hK_15 K_15
          refine W_ret ?_
          refine thenK_r (ret2 rfl (.inr rfl) ⟨_, _, _, _, _, _, rfl, (by repeat (first | exact .head _ | apply List.mem_append_right | apply List.Mem.tail)), ty_28, _, (takeAll (enc_cells_len _)), (enc_cells_len _), rfl⟩ ⟨_, _, _, _, _, _, rfl, (by repeat (first | exact .head _ | apply List.mem_append_right | apply List.Mem.tail)), ty_28, _, (takeAll (enc_cells_len _)), (enc_cells_len _), rfl⟩ ?_)
          exact small_fin ea.1 eb.1 hs0 (fl_adj hy0 (by simpa using hr0) (bne_iff_ne.2 hsg))
         ·(try simp only [decide_eq_true_eq, decide_eq_false_iff_not, beq_iff_eq, bne_iff_ne, beq_eq_false_iff_ne, bne_eq_false_iff_eq, Bool.not_eq_true', Bool.not_eq_false'] at hsg)
          refine W_skip ?_
          refine hK_12 _ _ ?_
          try clear hK_12 K_12
          refine W_seq (fun K_16 hK_16 => ?_)
          refine W_region_k (fun K1 hK1 => ?_)
          refine WL_q rfl (q_move rfl) ?_
          refine WL_q rfl (q_ret en_47 (whole_Of_ret _ (by first | exact hI1 | exact hq64)) rfl) ?_
          refine WL_q rfl (q_move rfl) ?_
          refine WL_q rfl (q_ret en_47 (whole_Of_ret _ (by first | exact hI2 | exact hr64)) rfl) ?_
          refine WL_r rfl (r_storew ty_28 rfl rfl (by repeat (first | exact .head _ | apply Upd.left | apply Upd.tail)) (enc_cells_len _) rfl (cells_plain _) (.inl (by assumption)) ?_)
          refine WL_r rfl (r_storew ty_28 rfl rfl (by repeat (first | exact .head _ | apply Upd.left | apply Upd.tail)) (enc_cells_len _) rfl (cells_plain _) (.inl (by assumption)) ?_)
          refine WL_nil (hK1 _ _ ?_)
          clear hK1 K1
          refine hK_16 _ _ ?_
          try clear hK_16 K_16
          refine W_ret ?_
          refine thenK_r (ret2 rfl (.inr rfl) ⟨_, _, _, _, _, _, rfl, (by repeat (first | exact .head _ | apply List.mem_append_right | apply List.Mem.tail)), ty_28, _, (takeAll (enc_cells_len _)), (enc_cells_len _), rfl⟩ ⟨_, _, _, _, _, _, rfl, (by repeat (first | exact .head _ | apply List.mem_append_right | apply List.Mem.tail)), ty_28, _, (takeAll (enc_cells_len _)), (enc_cells_len _), rfl⟩ ?_)
          exact small_fin ea.1 eb.1 hs0 (fl_same hy0 (.inr (by simpa using hsg)))
       ·(try simp only [decide_eq_true_eq, decide_eq_false_iff_not, beq_iff_eq, bne_iff_ne, beq_eq_false_iff_ne, bne_eq_false_iff_eq, Bool.not_eq_true', Bool.not_eq_false'] at hmb)
        refine W_skip ?_
        refine hK_6 _ _ (by repeat (first | exact .refl | refine .cons rfl ?_)) ⟨_, (List.Sublist.cons _ (List.Sublist.refl _)), trivial, ?mem, trivial⟩
        case mem => rfl
     ·(try simp only [decide_eq_true_eq, decide_eq_false_iff_not, beq_iff_eq, bne_iff_ne, beq_eq_false_iff_ne, bne_eq_false_iff_eq, Bool.not_eq_true', Bool.not_eq_false'] at hma)
      refine W_skip ?_
      refine hK_6 _ _ (by repeat (first | exact .refl | refine .cons rfl ?_)) ⟨_, (List.Sublist.cons _ (List.Sublist.refl _)), trivial, ?mem, trivial⟩
      case mem => rfl
   ·skip
    rintro g M ⟨-, rfl, -⟩
    simp only [setG]
    refine W_seq (fun K_17 hK_17 => ?_)
    refine W_region_k (fun K1 hK1 => ?_)
    refine WL_q rfl (q_faddr fd_28_2 (by decide) rfl) ?_
    refine WL_q rfl (q_loada (vs := uw a.w) ty_26 rfl (by repeat (first | exact .head _ | apply List.mem_append_right | apply List.Mem.tail)) (cellsW ha.len) ((uw_len _).trans ha.len)) ?_
    refine WL_q rfl (q_faddr fd_28_2 (by decide) rfl) ?_
    refine WL_q rfl (q_loada (vs := uw b.w) ty_26 rfl (by repeat (first | exact .head _ | apply List.mem_append_right | apply List.Mem.tail)) (cellsW hb.len) ((uw_len _).trans hb.len)) ?_
    refine WL_q rfl (q_ret en_81 (whole_quotient_ret a.w b.w ha.len hb.len ha.lim hb.lim hp) rfl) ?_
    refine WL_q rfl (q_move rfl) ?_
    refine WL_q rfl (q_extract rfl rfl) ?_
    refine WL_q rfl (q_extract rfl rfl) ?_
    refine WL_r rfl (r_alloc z_26 (fun b12 hb12 => ?_))
    refine WL_r rfl (r_alloc z_26 (fun b13 hb13 => ?_))
    refine WL_r rfl (r_storew ty_26 rfl rfl (by repeat (first | exact .head _ | apply Upd.left | apply Upd.tail)) (by simp [uw, toL_len]) (by simp [uw]) (uw_plain _) (.inl (by assumption)) ?_)
    refine WL_r rfl (r_storew ty_26 rfl rfl (by repeat (first | exact .head _ | apply Upd.left | apply Upd.tail)) (by simp [uw, toL_len]) (by simp [uw]) (uw_plain _) (.inl (by assumption)) ?_)
    refine WL_nil (hK1 _ _ ?_)
    clear hK1 K1
    refine hK_17 _ _ ?_
    try clear hK_17 K_17
    refine W_seq (fun K_18 hK_18 => ?_)
    refine W_region_k (fun K1 hK1 => ?_)
    refine WL_q rfl (q_faddr fd_28_1 (by decide) rfl) ?_
    refine WL_q rfl (q_load ty_4 rfl (by repeat (first | exact .head _ | apply List.mem_append_right | apply List.Mem.tail)) rfl) ?_
    refine WL_q rfl (q_faddr fd_28_1 (by decide) rfl) ?_
    refine WL_q rfl (q_load ty_4 rfl (by repeat (first | exact .head _ | apply List.mem_append_right | apply List.Mem.tail)) rfl) ?_
    refine WL_q rfl (q_neqb bo_4 rfl rfl) ?_
    refine WL_q rfl (q_loadw ty_26 rfl (by repeat (first | exact .head _ | apply List.mem_append_right | apply List.Mem.tail)) (by simp [uw, toL_len])) ?_
    refine WL_q rfl (q_as (q_ret en_77 (whole_signed_ret (a.neg != b.neg) _ (toL_len _ _) (toL_lim _ _)) rfl) (congrArg RV (enc_signed _ (quo_lt ha)))) ?_
    refine WL_r rfl (r_alloc z_28 (fun b14 hb14 => ?_))
    refine WL_r rfl (r_storew ty_28 rfl rfl (by repeat (first | exact .head _ | apply Upd.left | apply Upd.tail)) (enc_cells_len _) rfl (cells_plain _) (.inl (by assumption)) ?_)
    refine WL_nil (hK1 _ _ ?_)
    clear hK1 K1
    refine hK_18 _ _ ?_
    try clear hK_18 K_18
    refine W_join [86, 87, 88, 89, 90, 91, 92, 93, 94, 95, 96, 97, 98, 99, 100, 101, 102] (fun g M => ∃ (z : Z) (l : List Nat), (True) ∧ M = [⟨b14, 28, z.enc.cells⟩, ⟨b13, 26, uw l⟩, ⟨b12, 26, uw (toL 16 (val a.w / val b.w))⟩, ⟨b5, 28, zR⟩, ⟨b4, 28, zR⟩, ⟨b3, 28, b.cells⟩, ⟨b2, 28, a.cells⟩] ∧ (l.length = 16 ∧ Lim l ∧ z = Z.quo a.dec b.dec ∧ R.mk false (b.neg && !(val l == 0)) l = (Z.rem a.dec b.dec).enc)) (fun K_19 hK_19 => ?_) ?_
    ·skip
     refine W_seq (fun K_20 hK_20 => ?_)
     refine W_region_k (fun K1 hK1 => ?_)
     refine WL_q rfl (q_loadw ty_26 rfl (by repeat (first | exact .head _ | apply List.mem_append_right | apply List.Mem.tail)) (by simp [uw, toL_len])) ?_
     refine WL_q rfl (q_builda z_26 ar_26 rfl (.nil _)) ?_
     refine WL_q rfl (q_neqa (r := (val a.w % val b.w == 0)) rfl rfl (eqOk_of 8 (by decide) eg_26 lv_26 (uwLeaves (toL_len _ _)) (uwLeaves (by simp)) (rem_zero ha))) ?_
     refine WL_q rfl (q_move rfl) ?_
     cases hr1 : (val a.w % val b.w == 0)
     ·skip
      refine WL_q rfl (q_faddr fd_28_1 (by decide) rfl) ?_
      refine WL_q rfl (q_load ty_4 rfl (by repeat (first | exact .head _ | apply List.mem_append_right | apply List.Mem.tail)) rfl) ?_
      refine WL_q rfl (q_faddr fd_28_1 (by decide) rfl) ?_
      refine WL_q rfl (q_load ty_4 rfl (by repeat (first | exact .head _ | apply List.mem_append_right | apply List.Mem.tail)) rfl) ?_
      refine WL_q rfl (q_neqb bo_4 rfl rfl) ?_
      refine WL_q rfl (q_pick rfl rfl) ?_
      refine WL_nil (hK1 _ _ ?_)
      clear hK1 K1
      refine hK_20 _ _ ?_
      try clear hK_20 K_20
      refine W_cond _ rfl (fun hne => ?_) (fun hne => ?_)
      ·(try simp only [decide_eq_true_eq, decide_eq_false_iff_not, beq_iff_eq, bne_iff_ne, beq_eq_false_iff_ne, bne_eq_false_iff_eq, Bool.not_eq_true', Bool.not_eq_false'] at hne)
       refine W_draw (sd (sd (sk (sk (sk (sk (sk (s0)))))))) (.quiet 0 [2, 6, 7, 8] (.quiet 1 [2, 6, 7, 8] (.quiet 2 [6, 7, 8] (.quiet 3 [4, 6, 7, 8] (.quiet 4 [6, 7, 8] (.quiet 5 [6, 7, 8] (.quiet 6 [7, 8] (.only 7 (.only 8 (.fin)))))))))) [0, 1, 2, 3, 4, 5, 6] mix (by kernel_rfl) (by kernel_rfl) (fun K1 hK1 => ?_)
       refine PL_q rfl rfl (q_loadw ty_28 rfl (by repeat (first | exact .head _ | apply List.mem_append_right | apply List.Mem.tail)) (enc_cells_len _)) ?_
       refine PL_q rfl rfl (q_ret en_47 (whole_Of_ret 1 (by unfold I64; decide)) rfl) ?_
       refine PL_q rfl rfl (q_ret en_63 (whole_Sub_ret (Z.of (sgn (a.neg != b.neg) (val a.w / val b.w))).enc (Z.of 1).enc (Z.enc_ok _) (Z.enc_ok _)) rfl) ?_
       refine PL_q rfl rfl (q_faddr fd_28_2 (by decide) rfl) ?_
       refine PL_q rfl rfl (q_loada (vs := uw b.w) ty_26 rfl (by repeat (first | exact .head _ | apply List.mem_append_right | apply List.Mem.tail)) (cellsW hb.len) ((uw_len _).trans hb.len)) ?_
       refine PL_q rfl rfl (q_loadw ty_26 rfl (by repeat (first | exact .head _ | apply List.mem_append_right | apply List.Mem.tail)) (by simp [uw, toL_len])) ?_
       refine PL_q rfl rfl (q_ret en_102 (whole_minus_ret b.w _ hb.len (toL_len _ _) hb.lim (toL_lim _ _) (rem_le ha hp)) rfl) ?_
       refine PL_o rfl rfl (r_storew ty_28 rfl rfl (by repeat (first | exact .head _ | apply Upd.left | apply Upd.tail)) (enc_cells_len _) (enc_cells_len _) (cells_plain _) (.inl (by assumption)) ⟨nf, (by repeat (first | exact s0 | exact sn | refine sk ?_ | refine sd ?_ | refine sA ?_ | refine sR ?_)), ?_⟩)
       refine PL_o rfl rfl (r_storew ty_26 rfl rfl (by repeat (first | exact .head _ | apply Upd.left | apply Upd.tail)) (by simp [uw, toL_len]) (by simp [uw, toL_len]) (uw_plain _) (.inl (by assumption)) ⟨nf, (by repeat (first | exact s0 | exact sn | refine sk ?_ | refine sd ?_ | refine sA ?_ | refine sR ?_)), ?_⟩)
       refine PL_fin (hK1 _ _ ?_)
       clear hK1 K1
       refine hK_19 _ _ (by repeat (first | exact .refl | refine .cons rfl ?_)) ⟨_, (List.Sublist.refl _), _, _, trivial, ?mem, div_adj ha hb hg.1 hg.2 hp (by simpa using hr1) hne⟩
       case mem => rfl
      ·(try simp only [decide_eq_true_eq, decide_eq_false_iff_not, beq_iff_eq, bne_iff_ne, beq_eq_false_iff_ne, bne_eq_false_iff_eq, Bool.not_eq_true', Bool.not_eq_false'] at hne)
       refine W_skip ?_
       refine hK_19 _ _ (by repeat (first | exact .refl | refine .cons rfl ?_)) ⟨_, (List.Sublist.refl _), _, _, trivial, ?mem, div_same ha hb hg.1 hg.2 hp (.inr (by simpa using hne))⟩
       case mem => rfl
     ·skip
      refine WL_n rfl ?_
      refine WL_n rfl ?_
      refine WL_n rfl ?_
      refine WL_n rfl ?_
      refine WL_n rfl ?_
      refine WL_q rfl (q_pick rfl rfl) ?_
      refine WL_nil (hK1 _ _ ?_)
      clear hK1 K1
      refine hK_20 _ _ ?_
      try clear hK_20 K_20
      refine W_false rfl ?_
      refine W_skip ?_
      refine hK_19 _ _ (by repeat (first | exact .refl | refine .cons rfl ?_)) ⟨_, (List.Sublist.refl _), _, _, trivial, ?mem, div_same ha hb hg.1 hg.2 hp (.inl (by simpa using hr1))⟩
      case mem => rfl
    ·skip
     rintro g M ⟨z, l, -, rfl, ⟨hl16, hlim, hzq, hzr⟩⟩
     simp only [setG]
     refine W_seq (fun K_21 hK_21 => ?_)
     refine W_draw (sk (sk (sk (sd (sd (sk (sk (s0)))))))) (.quiet 0 [5, 6] (.quiet 1 [2, 4, 5, 6] (.quiet 2 [4, 5, 6] (.quiet 3 [4, 5, 6] (.quiet 4 [5, 6] (.only 5 (.only 6 (.fin)))))))) [0, 1, 2, 3, 4] mix (by kernel_rfl) (by kernel_rfl) (fun K1 hK1 => ?_)
     refine PL_q rfl rfl (q_loadw ty_28 rfl (by repeat (first | exact .head _ | apply List.mem_append_right | apply List.Mem.tail)) (enc_cells_len _)) ?_
     refine PL_q rfl rfl (q_faddr fd_28_1 (by decide) rfl) ?_
     refine PL_q rfl rfl (q_load ty_4 rfl (by repeat (first | exact .head _ | apply List.mem_append_right | apply List.Mem.tail)) rfl) ?_
     refine PL_q rfl rfl (q_loadw ty_26 rfl (by repeat (first | exact .head _ | apply List.mem_append_right | apply List.Mem.tail)) (by rw [uw_len, hl16])) ?_
     refine PL_q rfl rfl (q_ret en_77 (whole_signed_ret b.neg l hl16 hlim) rfl) ?_
     refine PL_o rfl rfl (r_storew ty_28 rfl rfl (by repeat (first | exact .head _ | apply Upd.left | apply Upd.tail)) (enc_cells_len _) rfl (cells_plain _) (.inl (by assumption)) ⟨nf, (by repeat (first | exact s0 | exact sn | refine sk ?_ | refine sd ?_ | refine sA ?_ | refine sR ?_)), ?_⟩)
     refine PL_o rfl rfl (r_storew ty_28 rfl rfl (by repeat (first | exact .head _ | apply Upd.left | apply Upd.tail)) (sw_len hl16) rfl (cells_plain _) (.inl (by assumption)) ⟨nf, (by repeat (first | exact s0 | exact sn | refine sk ?_ | refine sd ?_ | refine sA ?_ | refine sR ?_)), ?_⟩)
     refine PL_fin (hK1 _ _ ?_)
     clear hK1 K1
     refine hK_21 _ _ ?_
     try clear hK_21 K_21
     refine W_ret ?_
     refine ret2 rfl (.inr rfl) ⟨_, _, _, _, _, _, rfl, (by repeat (first | exact .head _ | apply List.mem_append_right | apply List.Mem.tail)), ty_28, _, (takeAll (enc_cells_len _)), (enc_cells_len _), rfl⟩ ⟨_, _, _, _, _, _, rfl, (by repeat (first | exact .head _ | apply List.mem_append_right | apply List.Mem.tail)), ty_28, _, (takeAll (sw_len hl16)), (sw_len hl16), rfl⟩ ?_
     (subst hzq; exact congrArg (fun r : R => Value.tuple #[RV (Z.quo a.dec b.dec).enc, RV r]) hzr)

theorem whole_Quo_ret (a b : R) (ha : a.Ok) (hb : b.Ok) :
    Ret Try.prog 51 [RV a, RV b] (RV (Z.quo a.dec b.dec).enc) := by
 refine ret_of_W (N := 14) Try.func51 rfl rfl (by simp) (fun w0 => ?_)
 simp only [initF, Nat.reduceAdd]
 refine W_seq (fun K_1 hK_1 => ?_)
 refine W_region_k (fun K1 hK1 => ?_)
 refine WL_r rfl (r_box rfl rfl (fun b2 hb2 => ?_))
 refine WL_r rfl (r_box rfl rfl (fun b3 hb3 => ?_))
 refine WL_r rfl (r_alloc z_28 (fun b4 hb4 => ?_))
 refine WL_nil (hK1 _ _ ?_)
 clear hK1 K1
 refine hK_1 _ _ ?_
 try clear hK_1 K_1
 refine W_seq (fun K_2 hK_2 => ?_)
 refine W_region_k (fun K1 hK1 => ?_)
 refine WL_q rfl (q_loadw ty_28 rfl (by repeat (first | exact .head _ | apply List.mem_append_right | apply List.Mem.tail)) (cells_len ha)) ?_
 refine WL_q rfl (q_loadw ty_28 rfl (by repeat (first | exact .head _ | apply List.mem_append_right | apply List.Mem.tail)) (cells_len hb)) ?_
 refine WL_q rfl (q_ret en_84 (whole_divided_ret a b ha hb) rfl) ?_
 refine WL_q rfl (q_move rfl) ?_
 refine WL_q rfl (q_extract rfl rfl) ?_
 refine WL_q rfl (q_extract rfl rfl) ?_
 refine WL_r rfl (r_alloc z_28 (fun b5 hb5 => ?_))
 refine WL_r rfl (r_alloc z_28 (fun b6 hb6 => ?_))
 refine WL_r rfl (r_storew ty_28 rfl rfl (by repeat (first | exact .head _ | apply Upd.left | apply Upd.tail)) (enc_cells_len _) rfl (cells_plain _) (.inl (by assumption)) ?_)
 refine WL_r rfl (r_storew ty_28 rfl rfl (by repeat (first | exact .head _ | apply Upd.left | apply Upd.tail)) (enc_cells_len _) rfl (cells_plain _) (.inl (by assumption)) ?_)
 refine WL_nil (hK1 _ _ ?_)
 clear hK1 K1
 refine hK_2 _ _ ?_
 try clear hK_2 K_2
 refine W_seq (fun K_3 hK_3 => ?_)
 refine W_region_k (fun K1 hK1 => ?_)
 refine WL_q rfl (q_loadw ty_28 rfl (by repeat (first | exact .head _ | apply List.mem_append_right | apply List.Mem.tail)) (enc_cells_len _)) ?_
 refine WL_r rfl (r_storew ty_28 rfl rfl (by repeat (first | exact .head _ | apply Upd.left | apply Upd.tail)) (enc_cells_len _) rfl (cells_plain _) (.inl (by assumption)) ?_)
 refine WL_nil (hK1 _ _ ?_)
 clear hK1 K1
 refine hK_3 _ _ ?_
 try clear hK_3 K_3
 refine W_ret ?_
 refine ret1 rfl (.inr rfl) ⟨_, _, _, _, _, _, rfl, (by repeat (first | exact .head _ | apply List.mem_append_right | apply List.Mem.tail)), ty_28, _, (takeAll (enc_cells_len _)), (enc_cells_len _), rfl⟩ ?_
 exact rfl
end Go.Proofs.Ythbjhbmpfeeilaa
