/- Walks: what these functions return. -/
import Derived.Test.YtnfbkngfdemkpaaGreatDoorFa0
namespace Go.Proofs.YtnfbkngfdemkpaaGreatDoor
open Go.Kn Go.Num
set_option linter.unusedVariables false
set_option linter.unusedSimpArgs false
set_option maxRecDepth 20000
set_option maxHeartbeats 8000000
theorem len32_ret (x : Nat) (hx : x < 4294967296) :
    Ret Tryz.prog 162 [U32 x] (.int .i64 ((bl x : Nat) : Int)) := by
 refine ret_of_W (N := 19) Tryz.func162 rfl rfl (by simp) (fun w0 => ?_)
 simp only [initF, Nat.reduceAdd]
 refine Sq fun K1 J1 => Rk fun K J => sE rfl (nl J (J1 _ _ (Sq fun K2 J2 => Sq fun K3 J3 => Rk fun K J => sE rfl (sE rfl (nl J (J3 _ _ ?_))))))
 refine W_cond _ rfl (fun h1 => ?_) (fun h1 => ?_)
 ·(try simp only [decide_eq_true_eq, decide_eq_false_iff_not, beq_iff_eq, bne_iff_ne, beq_eq_false_iff_ne, bne_eq_false_iff_eq, Bool.not_eq_true', Bool.not_eq_false'] at h1)
  refine Sq fun K4 J4 => Rk fun K J => sE rfl (sQ (q_as (q_shr rfl rfl (by decide)) (shr_u32 x 16)) rfl (sE rfl (nl J (J4 _ _ (Rk fun K J => sE rfl (nl J (J2 _ _ (Sq fun K5 J5 => Sq fun K6 J6 => Rk fun K J => sE rfl (sE rfl (nl J (J6 _ _ ?_)))))))))))
  refine W_cond _ rfl (fun h2 => ?_) (fun h2 => ?_)
  ·(try simp only [decide_eq_true_eq, decide_eq_false_iff_not, beq_iff_eq, bne_iff_ne, beq_eq_false_iff_ne, bne_eq_false_iff_eq, Bool.not_eq_true', Bool.not_eq_false'] at h2)
   refine Sq fun K7 J7 => Rk fun K J => sE rfl (sQ (q_as (q_shr rfl rfl (by decide)) (shr_u32 _ 8)) rfl (sE rfl (nl J (J7 _ _ (Rk fun K J => sE rfl (sE rfl (sE rfl (nl J (J5 _ _ (Sq fun K8 J8 => Rk fun K J => sE rfl (sE rfl (sQ (q_as (q_conv in_23 in_5 rfl) (u8_id (by omega))) rfl (sQ (q_istr (n := 256) bl st_9 rfl rfl (by omega) (by decide +kernel)) rfl (sQ (q_as (q_conv in_5 in_3 rfl) (conv_bl (by omega))) rfl ?_))))))))))))))
   refine sE rfl (sE rfl (nl J (J8 _ _ (W_ret (ret1 rfl (.inr rfl) rfl ?_)))))
   exact len_fin (c := 24) rfl (by decide) (by omega) (by rw [bl_shift (k := 16) (by omega), bl_shift (n := x / 2 ^ 16) (k := 8) (by omega)]; omega)
  ·(try simp only [decide_eq_true_eq, decide_eq_false_iff_not, beq_iff_eq, bne_iff_ne, beq_eq_false_iff_ne, bne_eq_false_iff_eq, Bool.not_eq_true', Bool.not_eq_false'] at h2)
   refine W_skip (J5 _ _ (Sq fun K9 J9 => Rk fun K J => sE rfl (sE rfl (sQ (q_as (q_conv in_23 in_5 rfl) (u8_id (by omega))) rfl (sQ (q_istr (n := 256) bl st_9 rfl rfl (by omega) (by decide +kernel)) rfl (sQ (q_as (q_conv in_5 in_3 rfl) (conv_bl (by omega))) rfl (sE rfl (sE rfl (nl J (J9 _ _ (W_ret (ret1 rfl (.inr rfl) rfl ?_))))))))))))
   exact len_fin (c := 16) rfl (by decide) (by omega) (by rw [bl_shift (k := 16) (by omega)])
 ·(try simp only [decide_eq_true_eq, decide_eq_false_iff_not, beq_iff_eq, bne_iff_ne, beq_eq_false_iff_ne, bne_eq_false_iff_eq, Bool.not_eq_true', Bool.not_eq_false'] at h1)
  refine W_skip (J2 _ _ (Sq fun K10 J10 => Sq fun K11 J11 => Rk fun K J => sE rfl (sE rfl (nl J (J11 _ _ ?_)))))
  refine W_cond _ rfl (fun h2 => ?_) (fun h2 => ?_)
  ·(try simp only [decide_eq_true_eq, decide_eq_false_iff_not, beq_iff_eq, bne_iff_ne, beq_eq_false_iff_ne, bne_eq_false_iff_eq, Bool.not_eq_true', Bool.not_eq_false'] at h2)
   refine Sq fun K12 J12 => Rk fun K J => sE rfl (sQ (q_as (q_shr rfl rfl (by decide)) (shr_u32 _ 8)) rfl (sE rfl (nl J (J12 _ _ (Rk fun K J => sE rfl (sE rfl (sE rfl (nl J (J10 _ _ (Sq fun K13 J13 => Rk fun K J => sE rfl (sE rfl (sQ (q_as (q_conv in_23 in_5 rfl) (u8_id (by omega))) rfl (sQ (q_istr (n := 256) bl st_9 rfl rfl (by omega) (by decide +kernel)) rfl (sQ (q_as (q_conv in_5 in_3 rfl) (conv_bl (by omega))) rfl ?_))))))))))))))
   refine sE rfl (sE rfl (nl J (J13 _ _ (W_ret (ret1 rfl (.inr rfl) rfl ?_)))))
   exact len_fin (c := 8) rfl (by decide) (by omega) (by rw [bl_shift (k := 8) (by omega)])
  ·(try simp only [decide_eq_true_eq, decide_eq_false_iff_not, beq_iff_eq, bne_iff_ne, beq_eq_false_iff_ne, bne_eq_false_iff_eq, Bool.not_eq_true', Bool.not_eq_false'] at h2)
   refine W_skip (J10 _ _ (Sq fun K14 J14 => Rk fun K J => sE rfl (sE rfl (sQ (q_as (q_conv in_23 in_5 rfl) (u8_id (by omega))) rfl (sQ (q_istr (n := 256) bl st_9 rfl rfl (by omega) (by decide +kernel)) rfl (sQ (q_as (q_conv in_5 in_3 rfl) (conv_bl (by omega))) rfl (sE rfl (sE rfl (nl J (J14 _ _ (W_ret (ret1 rfl (.inr rfl) rfl ?_))))))))))))
   exact len_fin (c := 0) rfl (by decide) (by omega) (by omega)

theorem lz32_ret (x : Nat) (hx : x < 4294967296) :
    Ret Tryz.prog 154 [U32 x] (.int .i64 ((32 - bl x : Nat) : Int)) := by
 refine ret_of_W (N := 6) Tryz.func154 rfl rfl (by simp) (fun w0 => ?_)
 simp only [initF, Nat.reduceAdd]
 refine Sq fun K1 J1 => Rk fun K J => sE rfl (nl J (J1 _ _ (Sq fun K2 J2 => Rk fun K J => sE rfl (sQ (q_ret en_162 (len32_ret x hx) rfl) rfl (sE rfl (sE rfl (nl J (J2 _ _ (W_ret (ret1 rfl (.inr rfl) rfl ?_))))))))))
 exact congrArg (Value.int .i64) (lz_fin hx)

theorem whole_up_ret (xs : List Nat) (hx : xs.length = 16) (lx : Lim xs) (n : Nat) (hn : n < 32) :
    Ret Tryz.prog 148 [UV xs, .int .i64 (n : Int)] (.tuple #[UV (toL 16 (val xs * 2 ^ n)), U32 (val xs * 2 ^ n / 4294967296 ^ 16)]) := by
 refine ret_of_W (N := 30) Tryz.func148 rfl rfl (by simp) (fun w0 => ?_)
 simp only [initF, Nat.reduceAdd]
 refine Sq fun K1 J1 => Rk fun K J => WL_r rfl (r_box rfl rfl (fun b2 hb2 => WL_r rfl (r_alloc z_24 (fun b4 hb4 => sE rfl (nl J (J1 _ _ (Sq fun K2 J2 => Rk fun K J => WL_r rfl (r_alloc z_24 (fun b6 hb6 => nl J (J2 _ _ (Sq fun K3 J3 => Rk fun K J => sE rfl (nl J (J3 _ _ (Sq fun K4 J4 => Sq fun K5 J5 => Rk fun K J => ?_))))))))))))))
 refine sE rfl (nl J (J5 _ _ (W_block ?_)))
 refine W_loop_g [7, 8, 9, 10, 11, 12, 13, 14, 15, 16, 17, 18, 19, 20, 21, 22, 23, 24, 25, 26] (fun g nn M => ∃ (k : Nat), (g 7 = .int .u64 ((mc (val xs) (2 ^ n) k : Nat) : Int) ∧ g 9 = .int .i64 (k : Int)) ∧ M = [⟨b6, 24, uw (dpart k (val xs * 2 ^ n) 16)⟩, ⟨b4, 24, uw (List.replicate 16 0)⟩, ⟨b2, 24, uw xs⟩] ∧ nn = 16 - k ∧ (k ≤ 16)) (16) ?start ?round
 case start =>
  refine ⟨_, (List.Sublist.refl _), 0, ⟨?a7, ?a9⟩, ?mem0, rfl, Nat.zero_le _⟩
  case mem0 => rw [dpart_zero]
  case a7 => rw [mc_zero]; rfl
  case a9 => rfl
 case round =>
  rintro nn g M ⟨k, ⟨hg7, hg9⟩, rfl, hmeas, hk⟩
  subst nn
  simp only [setG, hg7, hg9]
  clear hg7 hg9
  refine Sq fun K6 J6 => Rk fun K J => sE rfl (nl J (J6 _ _ (Sq fun K7 J7 => ?_)))
  refine W_cond _ rfl (fun hc => ?_) (fun hc => ?_)
  ·(try simp only [decide_eq_true_eq, decide_eq_false_iff_not, beq_iff_eq, bne_iff_ne, beq_eq_false_iff_ne, bne_eq_false_iff_eq, Bool.not_eq_true', Bool.not_eq_false'] at hc)
   have hc : k < 16 := by omega
   refine W_skip (J7 _ _ (Sq fun K8 J8 => W_block (Sq fun K9 J9 => Rk fun K J => sE rfl (sE rfl (nl J (J9 _ _ (Sq fun K10 J10 => Rk fun K J => sE rfl (sE rfl (sQ (q_idxa ar_24 rfl rfl (by omega) (by omega)) rfl (sQ (q_load ty_23 rfl (by repeat (first | exact .head _ | apply List.mem_append_right | apply List.Mem.tail)) (uwAt (by omega))) rfl ?_))))))))))
   refine sQ (q_conv in_23 in_104 rfl) rfl (sE rfl (sQ (q_as (q_shl rfl rfl (by omega)) (congrArg (Value.int .u64) (shl_u32 (getD_lt lx k) (by omega)))) rfl (sQ (q_as (q_or rfl rfl) (congrArg (Value.int .u64) (up_or (mc_lt (m := 2 ^ n) _ k (Nat.pow_pos (by decide))) (getD_lt lx k) hn))) rfl (sE rfl (nl J (J10 _ _ (Sq fun K11 J11 => Rk fun K J => sE rfl (sE rfl (sQ (q_as (q_conv in_104 in_23 rfl) (u32_nat _)) rfl (sQ (q_idxa ar_24 rfl rfl (by omega) (by omega)) rfl (WL_r rfl (r_storeu ty_23 rfl rfl (by repeat (first | exact .head _ | apply Upd.left | apply Upd.tail)) (by rw [dpart_len _ hk]; exact hc) (.inl (by assumption)) ?_))))))))))))
   refine nl J (J11 _ _ (Rk fun K J => sE rfl (sQ (q_as (q_shr rfl rfl (by decide)) (congrArg (Value.int .u64) (shr_nat _ 32))) rfl (sE rfl (nl J (J8 _ _ (Rk fun K J => sE rfl (sE rfl (nl J ?_)))))))))
   refine ⟨(by repeat first | exact .refl | refine .cons rfl ?_), _, _, (List.Sublist.refl _), (by omega), k + 1, ⟨?s7, ?s9⟩, ?mem, rfl, (by omega)⟩
   case mem => rw [getD_val xs k lx, mc_digit, dpart_set _ hc]
   case s7 => exact congrArg (fun m : Nat => Value.int .u64 (m : Int)) (by rw [getD_val xs k lx]; exact mc_carry _ _ _)
   case s9 => exact congrArg (Value.int .i64) (succ_i64 (by omega))
  ·(try simp only [decide_eq_true_eq, decide_eq_false_iff_not, beq_iff_eq, bne_iff_ne, beq_eq_false_iff_ne, bne_eq_false_iff_eq, Bool.not_eq_true', Bool.not_eq_false'] at hc)
   obtain rfl : k = 16 := by omega
   refine W_exit (thenK_x (thenK_x (blockK_hit (J4 _ _ (Sq fun K12 J12 => Rk fun K J => sQ (q_loadw ty_24 rfl (by repeat (first | exact .head _ | apply List.mem_append_right | apply List.Mem.tail)) (by simp [uw, dpart_len])) rfl ?_)))))
   refine sE rfl (sQ (q_as (q_conv in_104 in_23 rfl) (u32_nat _)) rfl (WL_r rfl (r_storew ty_24 rfl rfl (by repeat (first | exact .head _ | apply Upd.left | apply Upd.tail)) (by simp [uw, dpart_len]) rfl (uw_plain _) (.inl (by assumption)) ?_)))
   refine sE rfl (nl J (J12 _ _ (W_ret (ret2 rfl (.inr rfl) ⟨_, _, _, _, _, _, rfl, (by repeat (first | exact .head _ | apply List.mem_append_right | apply List.Mem.tail)), ty_24, _, (takeAll (by simp [uw, dpart_len])), (by simp [uw, dpart_len]), rfl⟩ rfl ?_))))
   (rw [dpart_all, mc16 hx lx, Nat.mod_eq_of_lt (up_over hx lx hn)]; rfl)

theorem whole_down_ret (xs : List Nat) (hx : xs.length = 16) (lx : Lim xs) (n : Nat) (hn : n < 32) :
    Ret Tryz.prog 149 [UV xs, .int .i64 (n : Int)] (UV (toL 16 (val xs / 2 ^ n))) := by
 refine ret_of_W (N := 33) Tryz.func149 rfl rfl (by simp) (fun w0 => ?_)
 simp only [initF, Nat.reduceAdd]
 refine Sq fun K1 J1 => Rk fun K J => WL_r rfl (r_box rfl rfl (fun b2 hb2 => WL_r rfl (r_alloc z_24 (fun b4 hb4 => nl J (J1 _ _ (Sq fun K2 J2 => Rk fun K J => WL_r rfl (r_alloc z_24 (fun b5 hb5 => nl J (J2 _ _ (Sq fun K3 J3 => Sq fun K4 J4 => Rk fun K J => sE rfl (nl J (J4 _ _ (W_block ?_)))))))))))))
 refine W_loop_g [6, 7, 8, 9, 10, 11, 12, 13, 14, 15, 16, 17, 18, 19, 20, 21, 22, 23, 24, 25, 26, 27, 28, 29, 30, 31] (fun g nn M => ∃ (k : Nat), (g 8 = .int .i64 (k : Int)) ∧ M = [⟨b5, 24, uw (dpart k (val xs / 2 ^ n) 16)⟩, ⟨b4, 24, uw (List.replicate 16 0)⟩, ⟨b2, 24, uw xs⟩] ∧ nn = 16 - k ∧ (k ≤ 16)) (16) ?start ?round
 case start =>
  refine ⟨_, (List.Sublist.refl _), 0, ?a8, ?mem0, rfl, Nat.zero_le _⟩
  case mem0 => rw [dpart_zero]
  case a8 => rfl
 case round =>
  rintro nn g M ⟨k, hg8, rfl, hmeas, hk⟩
  subst nn
  simp only [setG, hg8]
  clear hg8
  refine Sq fun K5 J5 => Rk fun K J => sE rfl (nl J (J5 _ _ (Sq fun K6 J6 => ?_)))
  refine W_cond _ rfl (fun hc => ?_) (fun hc => ?_)
  ·(try simp only [decide_eq_true_eq, decide_eq_false_iff_not, beq_iff_eq, bne_iff_ne, beq_eq_false_iff_ne, bne_eq_false_iff_eq, Bool.not_eq_true', Bool.not_eq_false'] at hc)
   have hc : k < 16 := by omega
   refine W_skip (J6 _ _ (Sq fun K7 J7 => W_block (Sq fun K8 J8 => Rk fun K J => sE rfl (sE rfl (nl J (J8 _ _ (Sq fun K9 J9 => Rk fun K J => sE rfl (nl J (J9 _ _ (Sq fun K10 J10 => Sq fun K11 J11 => Rk fun K J => sE rfl (sQ (q_as (q_add rfl rfl) (congrArg (Value.int .i64) (succ_i64 (by omega)))) rfl ?_)))))))))))
   refine sE rfl (nl J (J11 _ _ ?_))
   refine W_cond _ rfl (fun h13 => ?_) (fun h13 => ?_)
   ·(try simp only [decide_eq_true_eq, decide_eq_false_iff_not, beq_iff_eq, bne_iff_ne, beq_eq_false_iff_ne, bne_eq_false_iff_eq, Bool.not_eq_true', Bool.not_eq_false'] at h13)
    refine Rk fun K J => sE rfl (sQ (q_as (q_add rfl rfl) (congrArg (Value.int .i64) (succ_i64 (by omega)))) rfl (sQ (q_idxa ar_24 rfl rfl (by omega) (by omega)) rfl (sQ (q_load ty_23 rfl (by repeat (first | exact .head _ | apply List.mem_append_right | apply List.Mem.tail)) (uwAt (by omega))) rfl ?_)))
    refine sQ (q_as (q_conv in_23 in_104 rfl) (congrArg (Value.int .u64) (conv_u32_u64 (getD_lt lx _)))) rfl (sE rfl (nl J (J10 _ _ (Rk fun K J => sE rfl (sQ (q_as (q_move rfl) (show _ = Value.int .u64 ((dig (val xs) (k + 1) : Nat) : Int) from by first | exact congrArg (fun m : Nat => Value.int .u64 (m : Int)) (getD_val xs (k + 1) lx) | exact congrArg (fun m : Nat => Value.int .u64 (m : Int)) (dig_high hx lx (by omega)).symm)) rfl ?_)))))
    refine sQ (q_as (q_shl rfl rfl (by decide)) (congrArg (Value.int .u64) (shl_r32 (dig_lt _ _)))) rfl (sE rfl (sQ (q_idxa ar_24 rfl rfl (by omega) (by omega)) rfl (sQ (q_load ty_23 rfl (by repeat (first | exact .head _ | apply List.mem_append_right | apply List.Mem.tail)) (uwAt (by omega))) rfl ?_)))
    refine sQ (q_as (q_conv in_23 in_104 rfl) (congrArg (Value.int .u64) ((conv_u32_u64 (getD_lt lx _)).trans (by rw [getD_val xs k lx])))) rfl (sQ (q_as (q_or rfl rfl) (congrArg (Value.int .u64) (down_or (dig_lt _ _) (dig_lt _ _)))) rfl (sE rfl (sQ (q_as (q_shr rfl rfl (by omega)) (congrArg (Value.int .u64) (shr_n hn))) rfl (sQ (q_as (q_conv in_104 in_23 rfl) (u32_nat _)) rfl (sQ (q_idxa ar_24 rfl rfl (by omega) (by omega)) rfl (WL_r rfl (r_storeu ty_23 rfl rfl (by repeat (first | exact .head _ | apply Upd.left | apply Upd.tail)) (by rw [dpart_len _ hk]; exact hc) (.inl (by assumption)) ?_)))))))
    refine nl J (J7 _ _ (Rk fun K J => sE rfl (sE rfl (nl J ?_))))
    refine ⟨(by repeat first | exact .refl | refine .cons rfl ?_), _, _, (List.Sublist.refl _), (by omega), k + 1, ?s8, ?mem, rfl, (by omega)⟩
    case mem => rw [down_digit k (by omega), dpart_set _ hc]
    case s8 => exact congrArg (Value.int .i64) (succ_i64 (by omega))
   ·(try simp only [decide_eq_true_eq, decide_eq_false_iff_not, beq_iff_eq, bne_iff_ne, beq_eq_false_iff_ne, bne_eq_false_iff_eq, Bool.not_eq_true', Bool.not_eq_false'] at h13)
    refine W_skip (J10 _ _ (Rk fun K J => sE rfl (sQ (q_as (q_move rfl) (show _ = Value.int .u64 ((dig (val xs) (k + 1) : Nat) : Int) from by first | exact congrArg (fun m : Nat => Value.int .u64 (m : Int)) (getD_val xs (k + 1) lx) | exact congrArg (fun m : Nat => Value.int .u64 (m : Int)) (dig_high hx lx (by omega)).symm)) rfl ?_)))
    refine sQ (q_as (q_shl rfl rfl (by decide)) (congrArg (Value.int .u64) (shl_r32 (dig_lt _ _)))) rfl (sE rfl (sQ (q_idxa ar_24 rfl rfl (by omega) (by omega)) rfl (sQ (q_load ty_23 rfl (by repeat (first | exact .head _ | apply List.mem_append_right | apply List.Mem.tail)) (uwAt (by omega))) rfl ?_)))
    refine sQ (q_as (q_conv in_23 in_104 rfl) (congrArg (Value.int .u64) ((conv_u32_u64 (getD_lt lx _)).trans (by rw [getD_val xs k lx])))) rfl (sQ (q_as (q_or rfl rfl) (congrArg (Value.int .u64) (down_or (dig_lt _ _) (dig_lt _ _)))) rfl (sE rfl (sQ (q_as (q_shr rfl rfl (by omega)) (congrArg (Value.int .u64) (shr_n hn))) rfl (sQ (q_as (q_conv in_104 in_23 rfl) (u32_nat _)) rfl (sQ (q_idxa ar_24 rfl rfl (by omega) (by omega)) rfl (WL_r rfl (r_storeu ty_23 rfl rfl (by repeat (first | exact .head _ | apply Upd.left | apply Upd.tail)) (by rw [dpart_len _ hk]; exact hc) (.inl (by assumption)) ?_)))))))
    refine nl J (J7 _ _ (Rk fun K J => sE rfl (sE rfl (nl J ?_))))
    refine ⟨(by repeat first | exact .refl | refine .cons rfl ?_), _, _, (List.Sublist.refl _), (by omega), k + 1, ?s8, ?mem, rfl, (by omega)⟩
    case mem => rw [down_digit k (by omega), dpart_set _ hc]
    case s8 => exact congrArg (Value.int .i64) (succ_i64 (by omega))
  ·(try simp only [decide_eq_true_eq, decide_eq_false_iff_not, beq_iff_eq, bne_iff_ne, beq_eq_false_iff_ne, bne_eq_false_iff_eq, Bool.not_eq_true', Bool.not_eq_false'] at hc)
   obtain rfl : k = 16 := by omega
   refine W_exit (thenK_x (thenK_x (blockK_hit (J3 _ _ (Sq fun K12 J12 => Rk fun K J => sQ (q_loadw ty_24 rfl (by repeat (first | exact .head _ | apply List.mem_append_right | apply List.Mem.tail)) (by simp [uw, dpart_len])) rfl ?_)))))
   refine WL_r rfl (r_storew ty_24 rfl rfl (by repeat (first | exact .head _ | apply Upd.left | apply Upd.tail)) (by simp [uw, dpart_len]) rfl (uw_plain _) (.inl (by assumption)) ?_)
   refine nl J (J12 _ _ (W_ret (ret1 rfl (.inr rfl) ⟨_, _, _, _, _, _, rfl, (by repeat (first | exact .head _ | apply List.mem_append_right | apply List.Mem.tail)), ty_24, _, (takeAll (by simp [uw, dpart_len])), (by simp [uw, dpart_len]), rfl⟩ ?_)))
   (rw [dpart_all]; rfl)

theorem whole_short_ret (xs : List Nat) (hx : xs.length = 16) (lx : Lim xs) (d : Nat) (hd : d < 4294967296) (h0 : 0 < d) :
    Ret Tryz.prog 153 [UV xs, U32 d] (.tuple #[UV (toL 16 (val xs / d)), U32 (val xs % d)]) := by
 refine ret_of_W (N := 33) Tryz.func153 rfl rfl (by simp) (fun w0 => ?_)
 simp only [initF, Nat.reduceAdd]
 refine Sq fun K1 J1 => Rk fun K J => WL_r rfl (r_box rfl rfl (fun b2 hb2 => WL_r rfl (r_alloc z_24 (fun b4 hb4 => sE rfl (nl J (J1 _ _ (Sq fun K2 J2 => Rk fun K J => sE rfl (nl J (J2 _ _ (Sq fun K3 J3 => Sq fun K4 J4 => Rk fun K J => sE rfl (nl J (J4 _ _ (W_block ?_)))))))))))))
 refine W_loop_g [6, 7, 8, 9, 10, 11, 12, 13, 14, 15, 16, 17, 18, 19, 20, 21, 22, 23, 24, 25, 26, 27, 28, 29] (fun g nn M => ∃ (k : Nat), (g 6 = .int .u64 ((val xs / 4294967296 ^ k % d : Nat) : Int) ∧ g 7 = .int .i64 ((k : Int) - 1)) ∧ M = [⟨b4, 24, uw (hpart k (val xs / d))⟩, ⟨b2, 24, uw xs⟩] ∧ nn = k + 0 ∧ (k ≤ 16)) (16) ?start ?round
 case start =>
  refine ⟨_, (List.Sublist.refl _), 16, ⟨?a6, ?a7⟩, ?mem0, rfl, Nat.le_refl _⟩
  case mem0 => rw [hpart_top]
  case a6 => rw [div16 hx lx]; rfl
  case a7 => rfl
 case round =>
  rintro nn g M ⟨k, ⟨hg6, hg7⟩, rfl, hmeas, hk⟩
  subst nn
  simp only [setG, hg6, hg7]
  clear hg6 hg7
  refine Sq fun K5 J5 => Sq fun K6 J6 => Rk fun K J => sE rfl (sE rfl (nl J (J6 _ _ ?_)))
  refine W_cond _ rfl (fun hc => ?_) (fun hc => ?_)
  ·(try simp only [decide_eq_true_eq, decide_eq_false_iff_not, beq_iff_eq, bne_iff_ne, beq_eq_false_iff_ne, bne_eq_false_iff_eq, Bool.not_eq_true', Bool.not_eq_false'] at hc)
   obtain ⟨m, rfl⟩ : ∃ m, k = m + 1 := ⟨k - 1, by omega⟩
   have hr : val xs / 4294967296 ^ (m + 1) % d < 4294967296 := Nat.lt_trans (Nat.mod_lt _ h0) hd
   refine W_skip (J5 _ _ (Sq fun K7 J7 => W_block (Sq fun K8 J8 => Rk fun K J => sQ (q_as (q_move rfl) rfl) rfl (sQ (q_as (q_shl rfl rfl (by decide)) (congrArg (Value.int .u64) (shl_r32 hr))) rfl (sQ (q_as (q_move rfl) (congrArg (Value.int .i64) (show (((m + 1 : Nat) : Int) - 1) = (m : Int) by omega))) rfl (sQ (q_idxa ar_24 rfl rfl (by omega) (by omega)) rfl (sQ (q_load ty_23 rfl (by repeat (first | exact .head _ | apply List.mem_append_right | apply List.Mem.tail)) (uwAt (by omega))) rfl ?_)))))))
   refine sQ (q_as (q_conv in_23 in_104 rfl) (congrArg (Value.int .u64) ((conv_u32_u64 (getD_lt lx _)).trans (by rw [getD_val xs m lx])))) rfl (sQ (q_as (q_or rfl rfl) (congrArg (Value.int .u64) (down_or hr (dig_lt _ _)))) rfl (sE rfl (nl J (J8 _ _ (Sq fun K9 J9 => Rk fun K J => sQ (q_as (q_move rfl) (congrArg (Value.int .i64) (show (((m + 1 : Nat) : Int) - 1) = (m : Int) by omega))) rfl (sE rfl (sE rfl (sQ (q_as (q_conv in_23 in_104 rfl) (congrArg (Value.int .u64) (conv_u32_u64 hd))) rfl (sQ (q_as (q_quo rfl rfl (by omega)) (congrArg (Value.int .u64) (quo_nat _ _))) rfl (sQ (q_as (q_conv in_104 in_23 rfl) (u32_nat _)) rfl (sQ (q_idxa ar_24 rfl rfl (by omega) (by omega)) rfl (WL_r rfl (r_storeu ty_23 rfl rfl (by repeat (first | exact .head _ | apply Upd.left | apply Upd.tail)) (by rw [hpart_len _ (by omega)]; omega) (.inl (by assumption)) ?_)))))))))))))
   refine nl J (J9 _ _ (Rk fun K J => sE rfl (sE rfl (sQ (q_as (q_conv in_23 in_104 rfl) (congrArg (Value.int .u64) (conv_u32_u64 hd))) rfl (sQ (q_as (q_rem rfl rfl (by omega)) (congrArg (Value.int .u64) (rem_nat _ _))) rfl (sE rfl (nl J (J7 _ _ (Rk fun K J => sQ (q_as (q_move rfl) (congrArg (Value.int .i64) (show (((m + 1 : Nat) : Int) - 1) = (m : Int) by omega))) rfl (sE rfl (sE rfl (nl J ?_))))))))))))
   refine ⟨(by repeat first | exact .refl | refine .cons rfl ?_), _, _, (List.Sublist.refl _), (by omega), m, ⟨?s6, ?s7⟩, ?mem, rfl, (by omega)⟩
   case mem => rw [short_dig0 m h0, hpart_set (by omega)]
   case s6 => exact congrArg (fun m : Nat => Value.int .u64 (m : Int)) (short_digit m h0).2
   case s7 => exact congrArg (Value.int .i64) (wrap_i64_id (n := (m : Int) - 1) (by unfold I64; omega))
  ·(try simp only [decide_eq_true_eq, decide_eq_false_iff_not, beq_iff_eq, bne_iff_ne, beq_eq_false_iff_ne, bne_eq_false_iff_eq, Bool.not_eq_true', Bool.not_eq_false'] at hc)
   obtain rfl : k = 0 := by omega
   refine W_exit (thenK_x (thenK_x (blockK_hit (J3 _ _ (Sq fun K10 J10 => Rk fun K J => sQ (q_loadw ty_24 rfl (by repeat (first | exact .head _ | apply List.mem_append_right | apply List.Mem.tail)) (by simp [uw, hpart_len])) rfl ?_)))))
   refine sE rfl (sQ (q_as (q_conv in_104 in_23 rfl) (u32_nat _)) rfl (WL_r rfl (r_storew ty_24 rfl rfl (by repeat (first | exact .head _ | apply Upd.left | apply Upd.tail)) (by simp [uw, hpart_len]) (by simp [uw, hpart_len]) (uw_plain _) (.inl (by assumption)) ?_)))
   refine sE rfl (nl J (J10 _ _ (W_ret (ret2 rfl (.inr rfl) ⟨_, _, _, _, _, _, rfl, (by repeat (first | exact .head _ | apply List.mem_append_right | apply List.Mem.tail)), ty_24, _, (takeAll (by simp [uw, hpart_len])), (by simp [uw, hpart_len]), rfl⟩ rfl ?_))))
   (rw [hpart_all, Nat.pow_zero, Nat.div_one, Nat.mod_eq_of_lt (Nat.lt_trans (Nat.mod_lt _ h0) hd)]; rfl)
end Go.Proofs.YtnfbkngfdemkpaaGreatDoor
