/- Walks: what these functions return. -/
import Derived.Test.YthbjhbmpfeeilaaFa0
import Derived.Test.YthbjhbmpfeeilaaSa
import Derived.Test.YthbjhbmpfeeilaaSb
namespace Go.Proofs.Ythbjhbmpfeeilaa
open Go.Kn Go.Num
set_option linter.unusedVariables false
set_option linter.unusedSimpArgs false
set_option maxRecDepth 20000
set_option maxHeartbeats 8000000
theorem skewbackref03_word_ret (a : R) (ha : a.Ok) :
    Ret Try.prog 65 [RV a] (.tuple #[.int .i64 (wordI a), .bool (wordB a)]) := by
 refine ret_of_W (N := 41) Try.func65 rfl rfl (by simp) (fun w0 => ?_)
 simp only [initF, Nat.reduceAdd]
 refine W_seq (fun K_1 hK_1 => ?_)
 refine W_region_k (fun K1 hK1 => ?_)
 refine WL_r rfl (r_box rfl rfl (fun b1 hb1 => ?_))
 refine WL_q rfl (q_assign rfl) ?_
 refine WL_q rfl (q_assign rfl) ?_
 refine WL_nil (hK1 _ _ ?_)
 clear hK1 K1
 refine hK_1 _ _ ?_
 try clear hK_1 K_1
 refine W_seq (fun K_2 hK_2 => ?_)
 refine W_region_k (fun K1 hK1 => ?_)
 refine WL_q rfl (q_loadw ty_28 rfl (by repeat (first | exact .head _ | apply List.mem_append_right | apply List.Mem.tail)) (cells_len ha)) ?_
 refine WL_q rfl (q_ret en_57 (skewbackref03_Good_ret a ha) rfl) ?_
 refine WL_q rfl (q_assign rfl) ?_
 refine WL_nil (hK1 _ _ ?_)
 clear hK1 K1
 refine hK_2 _ _ ?_
 try clear hK_2 K_2
 refine W_seq (fun K_3 hK_3 => ?_)
 refine W_seq (fun K_4 hK_4 => ?_)
 refine W_region_k (fun K1 hK1 => ?_)
 refine WL_q rfl (q_move rfl) ?_
 refine WL_q rfl (q_not rfl) ?_
 refine WL_q rfl (q_move rfl) ?_
 cases hg : a.good
 ·skip
  refine WL_n rfl ?_
  refine WL_n rfl ?_
  refine WL_n rfl ?_
  refine WL_n rfl ?_
  refine WL_q rfl (q_pick rfl rfl) ?_
  refine WL_nil (hK1 _ _ ?_)
  clear hK1 K1
  refine hK_4 _ _ ?_
  try clear hK_4 K_4
  refine W_true rfl ?_
  refine W_seq (fun K_5 hK_5 => ?_)
  refine W_region_k (fun K1 hK1 => ?_)
  refine WL_q rfl (q_assign rfl) ?_
  refine WL_q rfl (q_assign rfl) ?_
  refine WL_nil (hK1 _ _ ?_)
  clear hK1 K1
  refine hK_5 _ _ ?_
  try clear hK_5 K_5
  refine W_ret ?_
  refine thenK_r (ret2 rfl (.inr rfl) rfl rfl ?_)
  exact word_good hg
 ·skip
  refine WL_q rfl (q_faddr fd_28_2 (by decide) rfl) ?_
  refine WL_q rfl (q_idxa ar_26 rfl rfl (by decide) (by decide)) ?_
  refine WL_q rfl (q_load ty_25 rfl (by repeat (first | exact .head _ | apply List.mem_append_right | apply List.Mem.tail)) (cellsAt (r := a) (k := 1) (by rw [ha.len]; decide))) ?_
  refine WL_q rfl (q_geq rfl rfl) ?_
  refine WL_q rfl (q_pick rfl rfl) ?_
  refine WL_nil (hK1 _ _ ?_)
  clear hK1 K1
  refine hK_4 _ _ ?_
  try clear hK_4 K_4
  refine W_cond _ rfl (fun h16 => ?_) (fun h16 => ?_)
  ·(try simp only [decide_eq_true_eq, decide_eq_false_iff_not, beq_iff_eq, bne_iff_ne, beq_eq_false_iff_ne, bne_eq_false_iff_eq, Bool.not_eq_true', Bool.not_eq_false'] at h16)
   refine W_seq (fun K_6 hK_6 => ?_)
   refine W_region_k (fun K1 hK1 => ?_)
   refine WL_q rfl (q_assign rfl) ?_
   refine WL_q rfl (q_assign rfl) ?_
   refine WL_nil (hK1 _ _ ?_)
   clear hK1 K1
   refine hK_6 _ _ ?_
   try clear hK_6 K_6
   refine W_ret ?_
   refine thenK_r (ret2 rfl (.inr rfl) rfl rfl ?_)
   exact word_not (word_top ha h16)
  ·(try simp only [decide_eq_true_eq, decide_eq_false_iff_not, beq_iff_eq, bne_iff_ne, beq_eq_false_iff_ne, bne_eq_false_iff_eq, Bool.not_eq_true', Bool.not_eq_false'] at h16)
   refine W_skip ?_
   refine hK_3 _ _ ?_
   try clear hK_3 K_3
   refine W_seq (fun K_7 hK_7 => ?_)
   refine W_seq (fun K_8 hK_8 => ?_)
   refine W_region_k (fun K1 hK1 => ?_)
   refine WL_q rfl (q_assign rfl) ?_
   refine WL_nil (hK1 _ _ ?_)
   clear hK1 K1
   refine hK_8 _ _ ?_
   try clear hK_8 K_8
   refine W_block ?_
   refine W_loop_g [2, 3, 5, 17, 18, 19, 20, 21, 22, 23, 24, 25] (fun g nn M => ∃ (k : Nat), (g 5 = .int .i64 (k : Int)) ∧ M = [⟨b1, 28, a.cells⟩] ∧ nn = 16 - k ∧ (2 ≤ k ∧ k ≤ 16 ∧ ∀ j, 2 ≤ j → j < k → a.w.getD j 0 = 0)) (14) ?start ?round
   case start =>
    refine ⟨_, (List.Sublist.refl _), 2, ?a5, ?mem0, rfl, ⟨Nat.le_refl _, by decide, fun j h1 h2 => by omega⟩⟩
    case mem0 => rfl
    case a5 => rfl
   case round =>
    rintro nn g M ⟨k, hg5, rfl, hmeas, ⟨hk2, hk, hz⟩⟩
    subst nn
    simp only [setG, hg5]
    clear hg5
    refine W_seq (fun K_9 hK_9 => ?_)
    refine W_seq (fun K_10 hK_10 => ?_)
    refine W_region_k (fun K1 hK1 => ?_)
    refine WL_q rfl (q_move rfl) ?_
    refine WL_q rfl (q_lss rfl rfl) ?_
    refine WL_nil (hK1 _ _ ?_)
    clear hK1 K1
    refine hK_10 _ _ ?_
    try clear hK_10 K_10
    refine W_cond _ rfl (fun hc => ?_) (fun hc => ?_)
    ·(try simp only [decide_eq_true_eq, decide_eq_false_iff_not, beq_iff_eq, bne_iff_ne, beq_eq_false_iff_ne, bne_eq_false_iff_eq, Bool.not_eq_true', Bool.not_eq_false'] at hc)
     have hc : k < 16 := by omega
     refine W_skip ?_
     refine hK_9 _ _ ?_
     try clear hK_9 K_9
     refine W_seq (fun K_11 hK_11 => ?_)
     refine W_block ?_
     refine W_seq (fun K_12 hK_12 => ?_)
     refine W_region_k (fun K1 hK1 => ?_)
     refine WL_q rfl (q_move rfl) ?_
     refine WL_q rfl (q_faddr fd_28_2 (by decide) rfl) ?_
     refine WL_q rfl (q_idxa ar_26 rfl rfl (by omega) (by omega)) ?_
     refine WL_q rfl (q_load ty_25 rfl (by repeat (first | exact .head _ | apply List.mem_append_right | apply List.Mem.tail)) (cellsAt (r := a) (k := k) (by rw [ha.len]; omega))) ?_
     refine WL_q rfl (q_neq rfl rfl) ?_
     refine WL_nil (hK1 _ _ ?_)
     clear hK1 K1
     refine hK_12 _ _ ?_
     try clear hK_12 K_12
     refine W_cond _ rfl (fun hz2 => ?_) (fun hz2 => ?_)
     ·(try simp only [decide_eq_true_eq, decide_eq_false_iff_not, beq_iff_eq, bne_iff_ne, beq_eq_false_iff_ne, bne_eq_false_iff_eq, Bool.not_eq_true', Bool.not_eq_false'] at hz2)
      refine W_seq (fun K_13 hK_13 => ?_)
      refine W_region_k (fun K1 hK1 => ?_)
      refine WL_q rfl (q_assign rfl) ?_
      refine WL_q rfl (q_assign rfl) ?_
      refine WL_nil (hK1 _ _ ?_)
      clear hK1 K1
      refine hK_13 _ _ ?_
      try clear hK_13 K_13
      refine W_ret ?_
      refine blockK_r (thenK_r (thenK_r (blockK_r (thenK_r (ret2 rfl (.inr rfl) rfl rfl ?_)))))
      exact word_not (word_high ha hk2 (by omega))
     ·(try simp only [decide_eq_true_eq, decide_eq_false_iff_not, beq_iff_eq, bne_iff_ne, beq_eq_false_iff_ne, bne_eq_false_iff_eq, Bool.not_eq_true', Bool.not_eq_false'] at hz2)
      refine W_skip ?_
      refine hK_11 _ _ ?_
      try clear hK_11 K_11
      refine W_region_k (fun K1 hK1 => ?_)
      refine WL_q rfl (q_move rfl) ?_
      refine WL_q rfl (q_as (q_add rfl rfl) (congrArg (Value.int .i64) (succ_i64 (by omega)))) ?_
      refine WL_q rfl (q_assign rfl) ?_
      refine WL_nil (hK1 _ _ ?_)
      clear hK1 K1
      refine ⟨(by repeat (first | exact .refl | refine .cons rfl ?_)), _, _, (List.Sublist.refl _), (by omega), k + 1, ?s5, ?mem, rfl, ⟨by omega, by omega, fun j h1 h2 => by rcases Nat.eq_or_lt_of_le (Nat.le_of_lt_succ h2) with rfl | h3; omega; exact hz j h1 h3⟩⟩
      case mem => rfl
      case s5 => rfl
    ·(try simp only [decide_eq_true_eq, decide_eq_false_iff_not, beq_iff_eq, bne_iff_ne, beq_eq_false_iff_ne, bne_eq_false_iff_eq, Bool.not_eq_true', Bool.not_eq_false'] at hc)
     obtain rfl : k = 16 := by omega
     have hws := word_sum ha (by omega) hz
     refine W_exit (thenK_x (thenK_x (blockK_hit ?_)))
     refine hK_7 _ _ ?_
     try clear hK_7 K_7
     refine W_seq (fun K_14 hK_14 => ?_)
     refine W_region_k (fun K1 hK1 => ?_)
     refine WL_q rfl (q_faddr fd_28_2 (by decide) rfl) ?_
     refine WL_q rfl (q_idxa ar_26 rfl rfl (by decide) (by decide)) ?_
     refine WL_q rfl (q_load ty_25 rfl (by repeat (first | exact .head _ | apply List.mem_append_right | apply List.Mem.tail)) (cellsAt (r := a) (k := 1) (by rw [ha.len]; decide))) ?_
     refine WL_q rfl (q_conv in_25 in_3 rfl) ?_
     refine WL_q rfl (q_mul rfl rfl) ?_
     refine WL_q rfl (q_faddr fd_28_2 (by decide) rfl) ?_
     refine WL_q rfl (q_idxa ar_26 rfl rfl (by decide) (by decide)) ?_
     refine WL_q rfl (q_load ty_25 rfl (by repeat (first | exact .head _ | apply List.mem_append_right | apply List.Mem.tail)) (cellsAt (r := a) (k := 0) (by rw [ha.len]; decide))) ?_
     refine WL_q rfl (q_conv in_25 in_3 rfl) ?_
     refine WL_q rfl (q_as (q_add rfl rfl) (congrArg (Value.int .i64) ((word_sum ha (by omega) hz).1))) ?_
     refine WL_q rfl (q_assign rfl) ?_
     refine WL_nil (hK1 _ _ ?_)
     clear hK1 K1
     refine hK_14 _ _ ?_
     try clear hK_14 K_14
     refine W_seq (fun K_15 hK_15 => ?_)
     refine W_seq (fun K_16 hK_16 => ?_)
     refine W_region_k (fun K1 hK1 => ?_)
     refine WL_q rfl (q_faddr fd_28_1 (by decide) rfl) ?_
     refine WL_q rfl (q_load ty_4 rfl (by repeat (first | exact .head _ | apply List.mem_append_right | apply List.Mem.tail)) rfl) ?_
     refine WL_nil (hK1 _ _ ?_)
     clear hK1 K1
     refine hK_16 _ _ ?_
     try clear hK_16 K_16
     refine W_cond _ rfl (fun hn => ?_) (fun hn => ?_)
     ·(try simp only [decide_eq_true_eq, decide_eq_false_iff_not, beq_iff_eq, bne_iff_ne, beq_eq_false_iff_ne, bne_eq_false_iff_eq, Bool.not_eq_true', Bool.not_eq_false'] at hn)
      refine W_seq (fun K_17 hK_17 => ?_)
      refine W_region_k (fun K1 hK1 => ?_)
      refine WL_q rfl (q_move rfl) ?_
      refine WL_q rfl (q_neg rfl) ?_
      refine WL_q rfl (q_assign rfl) ?_
      refine WL_q rfl (q_assign rfl) ?_
      refine WL_nil (hK1 _ _ ?_)
      clear hK1 K1
      refine hK_17 _ _ ?_
      try clear hK_17 K_17
      refine W_ret ?_
      refine thenK_r (ret2 rfl (.inr rfl) rfl rfl ?_)
      exact word_neg hg hws.2 hn
     ·(try simp only [decide_eq_true_eq, decide_eq_false_iff_not, beq_iff_eq, bne_iff_ne, beq_eq_false_iff_ne, bne_eq_false_iff_eq, Bool.not_eq_true', Bool.not_eq_false'] at hn)
      refine W_skip ?_
      refine hK_15 _ _ ?_
      try clear hK_15 K_15
      refine W_seq (fun K_18 hK_18 => ?_)
      refine W_region_k (fun K1 hK1 => ?_)
      refine WL_q rfl (q_move rfl) ?_
      refine WL_q rfl (q_assign rfl) ?_
      refine WL_q rfl (q_assign rfl) ?_
      refine WL_nil (hK1 _ _ ?_)
      clear hK1 K1
      refine hK_18 _ _ ?_
      try clear hK_18 K_18
      refine W_ret ?_
      refine ret2 rfl (.inr rfl) rfl rfl ?_
      exact word_pos hg hws.2 hn

theorem skewbackref03_Of_ret (n : Int) (hn : I64 n) :
    Ret Try.prog 22 [.int .i64 n] (RV (Z.of n).enc) := by
 refine ret_of_W (N := 35) Try.func22 rfl rfl (by simp) (fun w0 => ?_)
 simp only [initF, Nat.reduceAdd]
 unfold I64 at hn
 refine W_seq (fun K_1 hK_1 => ?_)
 refine W_region_k (fun K1 hK1 => ?_)
 refine WL_r rfl (r_alloc z_28 (fun b2 hb2 => ?_))
 refine WL_nil (hK1 _ _ ?_)
 clear hK1 K1
 refine hK_1 _ _ ?_
 try clear hK_1 K_1
 refine W_seq (fun K_2 hK_2 => ?_)
 refine W_seq (fun K_3 hK_3 => ?_)
 refine W_region_k (fun K1 hK1 => ?_)
 refine WL_q rfl (q_move rfl) ?_
 refine WL_q rfl (q_geq rfl rfl) ?_
 refine WL_nil (hK1 _ _ ?_)
 clear hK1 K1
 refine hK_3 _ _ ?_
 try clear hK_3 K_3
 refine W_cond _ rfl (fun h0 => ?_) (fun h0 => ?_)
 ·(try simp only [decide_eq_true_eq, decide_eq_false_iff_not, beq_iff_eq, bne_iff_ne, beq_eq_false_iff_ne, bne_eq_false_iff_eq, Bool.not_eq_true', Bool.not_eq_false'] at h0)
  obtain ⟨m, rfl⟩ : ∃ m : Nat, n = m := ⟨n.toNat, by omega⟩
  refine W_seq (fun K_4 hK_4 => ?_)
  refine W_region_k (fun K1 hK1 => ?_)
  refine WL_q rfl (q_move rfl) ?_
  refine WL_q rfl (q_as (q_rem rfl rfl (by decide)) (show _ = IV (m % 65536) from remI _)) ?_
  refine WL_q rfl (q_move rfl) ?_
  refine WL_q rfl (q_as (q_quo rfl rfl (by decide)) (quo_c 65536 (by omega))) ?_
  refine WL_q rfl (q_as (q_rem rfl rfl (by decide)) (show _ = IV (m / 65536 % 65536) from remI _)) ?_
  refine WL_q rfl (q_move rfl) ?_
  refine WL_q rfl (q_as (q_quo rfl rfl (by decide)) (quo_c 4294967296 (by omega))) ?_
  refine WL_q rfl (q_as (q_rem rfl rfl (by decide)) (show _ = IV (m / 4294967296 % 65536) from remI _)) ?_
  refine WL_q rfl (q_move rfl) ?_
  refine WL_q rfl (q_as (q_quo rfl rfl (by decide)) (quo_c 281474976710656 (by omega))) ?_
  refine WL_r rfl (r_bslice us_70 z_3 sz_3 rfl (by decide) rfl (fillI4 _ _ _ _) (fun b16 hb16 => ?_))
  refine WL_q rfl (q_call en_60 rfl (fun w hw => skewbackref03_number_ret false _ (dl4 m) (dl4_DL (by omega)) (by simp [dl4]) w (SL.sl (SL.mine (l := dl4 m) (.head _) (Nat.le_refl _)) hw))) ?_
  refine WL_r rfl (r_storew ty_28 rfl rfl (by repeat (first | exact .head _ | apply Upd.left | apply Upd.tail)) (enc_cells_len _) rfl (cells_plain _) (.inl (by assumption)) ?_)
  refine WL_nil (hK1 _ _ ?_)
  clear hK1 K1
  refine hK_4 _ _ ?_
  try clear hK_4 K_4
  refine W_ret ?_
  refine thenK_r (ret1 rfl (.inr rfl) ⟨_, _, _, _, _, _, rfl, (by repeat (first | exact .head _ | apply List.mem_append_right | apply List.Mem.tail)), ty_28, _, (takeAll (enc_cells_len _)), (enc_cells_len _), rfl⟩ ?_)
  (rw [dl4_dv, sgn_f]; rfl)
 ·(try simp only [decide_eq_true_eq, decide_eq_false_iff_not, beq_iff_eq, bne_iff_ne, beq_eq_false_iff_ne, bne_eq_false_iff_eq, Bool.not_eq_true', Bool.not_eq_false'] at h0)
  obtain ⟨m, rfl⟩ : ∃ m : Nat, n = -((m : Int) + 1) := ⟨(-n - 1).toNat, by omega⟩
  refine W_skip ?_
  refine hK_2 _ _ ?_
  try clear hK_2 K_2
  refine W_seq (fun K_5 hK_5 => ?_)
  refine W_region_k (fun K1 hK1 => ?_)
  refine WL_q rfl (q_move rfl) ?_
  refine WL_q rfl (q_add rfl rfl) ?_
  refine WL_q rfl (q_as (q_neg rfl) (congrArg (Value.int .i64) (of_mneg (by omega)))) ?_
  refine WL_q rfl (q_assign rfl) ?_
  refine WL_nil (hK1 _ _ ?_)
  clear hK1 K1
  refine hK_5 _ _ ?_
  try clear hK_5 K_5
  refine W_seq (fun K_6 hK_6 => ?_)
  refine W_region_k (fun K1 hK1 => ?_)
  refine WL_q rfl (q_move rfl) ?_
  refine WL_q rfl (q_as (q_rem rfl rfl (by decide)) (show _ = IV (m % 65536) from remI _)) ?_
  refine WL_q rfl (q_move rfl) ?_
  refine WL_q rfl (q_as (q_quo rfl rfl (by decide)) (quo_c 65536 (by omega))) ?_
  refine WL_q rfl (q_as (q_rem rfl rfl (by decide)) (show _ = IV (m / 65536 % 65536) from remI _)) ?_
  refine WL_q rfl (q_move rfl) ?_
  refine WL_q rfl (q_as (q_quo rfl rfl (by decide)) (quo_c 4294967296 (by omega))) ?_
  refine WL_q rfl (q_as (q_rem rfl rfl (by decide)) (show _ = IV (m / 4294967296 % 65536) from remI _)) ?_
  refine WL_q rfl (q_move rfl) ?_
  refine WL_q rfl (q_as (q_quo rfl rfl (by decide)) (quo_c 281474976710656 (by omega))) ?_
  refine WL_r rfl (r_bslice us_70 z_3 sz_3 rfl (by decide) rfl (fillI4 _ _ _ _) (fun b31 hb31 => ?_))
  refine WL_r rfl (r_bslice us_70 z_3 sz_3 rfl (by decide) rfl (fillI1 1) (fun b32 hb32 => ?_))
  refine WL_r rfl (r_callslf en_61 rfl (fun w hw => skewbackref03_plus_ret _ _ (dl4 m) [1] (dl4_DL (by omega)) (DL.one (by decide)) (by simp [dl4]) (by simp) w (SL.sl (SL.mine (l := dl4 m) (.tail _ (.head _)) (Nat.le_refl _)) hw) (SL.sl (SL.mine (l := [1]) (.head _) (Nat.le_refl _)) hw)) (fun v9 L9 h9 => ?_))
  refine WL_q rfl (q_call en_60 rfl (fun w hw => skewbackref03_number_ret true _ _ (dl_DL _) (Nat.le_trans (dl_len (k := 64) (by rw [dl4_dv]; simp only [dv]; omega)) (by decide)) w (SL.sl (h9.sl.sub (List.sublist_append_left _ _)) hw))) ?_
  refine WL_r rfl (r_storew ty_28 rfl rfl (by repeat (first | exact .head _ | apply Upd.left | apply Upd.tail)) (enc_cells_len _) rfl (cells_plain _) (.inl (by assumption)) ?_)
  refine WL_nil (hK1 _ _ ?_)
  clear hK1 K1
  refine hK_6 _ _ ?_
  try clear hK_6 K_6
  refine W_ret ?_
  refine ret1 rfl (.inr rfl) ⟨_, _, _, _, _, _, rfl, (by repeat (first | exact .head _ | apply List.mem_append_right | apply List.Mem.tail)), ty_28, _, (takeAll (enc_cells_len _)), (enc_cells_len _), rfl⟩ ?_
  (rw [dv_dl, dl4_dv]; simp only [dv, Nat.mul_zero, Nat.add_zero]; rw [sgn_S]; rfl)
end Go.Proofs.Ythbjhbmpfeeilaa
