/- Walks: what these functions return. -/
import Derived.Test.YthbjhbmpfeeilaaFa0
import Derived.Test.YthbjhbmpfeeilaaWa
namespace Go.Proofs.Ythbjhbmpfeeilaa
open Go.Kn Go.Num
set_option linter.unusedVariables false
set_option linter.unusedSimpArgs false
set_option maxRecDepth 20000
set_option maxHeartbeats 8000000
theorem whole_Mul_ret (a b : R) (ha : a.Ok) (hb : b.Ok) :
    Ret Try.prog 76 [RV a, RV b] (RV (Z.mul a.dec b.dec).enc) := by
 refine ret_of_W (N := 82) Try.func76 rfl rfl (by simp) (fun w0 => ?_)
 simp only [initF, Nat.reduceAdd]
 refine W_seq (fun K_1 hK_1 => ?_)
 refine W_region_k (fun K1 hK1 => ?_)
 refine WL_r rfl (r_box rfl rfl (fun b2 hb2 => ?_))
 refine WL_r rfl (r_box rfl rfl (fun b3 hb3 => ?_))
 refine WL_r rfl (r_alloc z_28 (fun b4 hb4 => ?_))
 refine WL_nil (hK1 _ _ ?_)
 clear hK1 K1
 refine hK_1 _ _ ?_
 try clear hK_1 K_1
 refine W_seq (fun K_2 hK_2 => ?_)
 refine W_seq (fun K_3 hK_3 => ?_)
 refine W_region_k (fun K1 hK1 => ?_)
 refine WL_q rfl (q_loadw ty_28 rfl (by repeat (first | exact .head _ | apply List.mem_append_right | apply List.Mem.tail)) (cells_len ha)) ?_
 refine WL_q rfl (q_loadw ty_28 rfl (by repeat (first | exact .head _ | apply List.mem_append_right | apply List.Mem.tail)) (cells_len hb)) ?_
 refine WL_r rfl (r_bslice us_104 z_28 sz_28 rfl (by decide) rfl (fillG2 ha hb) (fun b13 hb13 => ?_))
 refine WL_q rfl (q_call en_78 rfl (fun w hw => whole_good_ret [a, b] (ok2 ha hb) b13 28 w (hw.mem _ m0) (by simp))) ?_
 refine WL_q rfl (q_not rfl) ?_
 refine WL_nil (hK1 _ _ ?_)
 clear hK1 K1
 refine hK_3 _ _ ?_
 try clear hK_3 K_3
 refine W_cond _ rfl (fun hg => ?_) (fun hg => ?_)
 ·(try simp only [decide_eq_true_eq, decide_eq_false_iff_not, beq_iff_eq, bne_iff_ne, beq_eq_false_iff_ne, bne_eq_false_iff_eq, Bool.not_eq_true', Bool.not_eq_false'] at hg)
  refine W_seq (fun K_4 hK_4 => ?_)
  refine W_region_k (fun K1 hK1 => ?_)
  refine WL_q rfl (q_ret en_79 whole_Bad_ret rfl) ?_
  refine WL_r rfl (r_storew ty_28 rfl rfl (by repeat (first | exact .head _ | apply Upd.left | apply Upd.tail)) (enc_cells_len _) rfl (cells_plain _) (.inl (by assumption)) ?_)
  refine WL_nil (hK1 _ _ ?_)
  clear hK1 K1
  refine hK_4 _ _ ?_
  try clear hK_4 K_4
  refine W_ret ?_
  refine thenK_r (ret1 rfl (.inr rfl) ⟨_, _, _, _, _, _, rfl, (by repeat (first | exact .head _ | apply List.mem_append_right | apply List.Mem.tail)), ty_28, _, (takeAll (enc_cells_len _)), (enc_cells_len _), rfl⟩ ?_)
  (rw [Z.mul, lift2_bad (not_all2 hg)]; rfl)
 ·(try simp only [decide_eq_true_eq, decide_eq_false_iff_not, beq_iff_eq, bne_iff_ne, beq_eq_false_iff_ne, bne_eq_false_iff_eq, Bool.not_eq_true', Bool.not_eq_false'] at hg)
  have hg := all2.1 hg
  refine W_skip ?_
  refine hK_2 _ _ ?_
  try clear hK_2 K_2
  refine W_seq (fun K_5 hK_5 => ?_)
  refine W_region_k (fun K1 hK1 => ?_)
  refine WL_r rfl (r_alloc z_102 (fun b5 hb5 => ?_))
  refine WL_nil (hK1 _ _ ?_)
  clear hK1 K1
  refine hK_5 _ _ ?_
  try clear hK_5 K_5
  refine W_seq (fun K_6 hK_6 => ?_)
  have hsa := szL_le a.w
  have hsb := szL_le b.w
  rw [ha.len] at hsa
  rw [hb.len] at hsb
  refine W_draw (sk (sk (sk (sk (sk (s0)))))) (.quiet 0 [1, 2, 5, 6, 7] (.quiet 1 [2, 5, 6, 7] (.quiet 2 [5, 6, 7] (.quiet 3 [4, 5, 6, 7] (.quiet 4 [5, 6, 7] (.quiet 5 [6, 7] (.quiet 6 [7] (.quiet 7 [] (.fin))))))))) [0, 1, 2, 3, 4, 5, 6, 7] mix (by kernel_rfl) (by kernel_rfl) (fun K1 hK1 => ?_)
  refine PL_q rfl rfl (q_faddr fd_28_2 (by decide) rfl) ?_
  refine PL_q rfl rfl (q_loada (vs := uw a.w) ty_26 rfl (by repeat (first | exact .head _ | apply List.mem_append_right | apply List.Mem.tail)) (cellsW ha.len) ((uw_len _).trans ha.len)) ?_
  refine PL_q rfl rfl (q_ret en_80 (whole_size_ret a.w ha.len) rfl) ?_
  refine PL_q rfl rfl (q_faddr fd_28_2 (by decide) rfl) ?_
  refine PL_q rfl rfl (q_loada (vs := uw b.w) ty_26 rfl (by repeat (first | exact .head _ | apply List.mem_append_right | apply List.Mem.tail)) (cellsW hb.len) ((uw_len _).trans hb.len)) ?_
  refine PL_q rfl rfl (q_ret en_80 (whole_size_ret b.w hb.len) rfl) ?_
  refine PL_q rfl rfl (q_assign rfl) ?_
  refine PL_q rfl rfl (q_assign rfl) ?_
  refine PL_fin (hK1 _ _ ?_)
  clear hK1 K1
  refine hK_6 _ _ ?_
  try clear hK_6 K_6
  refine W_seq (fun K_7 hK_7 => ?_)
  refine W_seq (fun K_8 hK_8 => ?_)
  refine W_region_k (fun K1 hK1 => ?_)
  refine WL_q rfl (q_move rfl) ?_
  refine WL_q rfl (q_move rfl) ?_
  refine WL_nil (hK1 _ _ ?_)
  clear hK1 K1
  refine hK_8 _ _ ?_
  try clear hK_8 K_8
  refine W_block ?_
  refine W_loop_g [8, 9, 10, 24, 25, 26, 27, 28, 29, 30, 31, 32, 33, 34, 35, 36, 37, 38, 39, 40, 41, 42, 43, 44, 45, 46, 47, 48, 49, 50, 51, 52, 53, 54, 55, 56, 57, 58, 59, 60, 61, 62, 63, 64, 65, 66] (fun g nn M => ∃ (i : Nat) (l : List Nat), (g 24 = .int .i64 (i : Int)) ∧ M = [⟨b5, 102, uw l⟩, ⟨b4, 28, zR⟩, ⟨b3, 28, b.cells⟩, ⟨b2, 28, a.cells⟩] ∧ nn = szL a.w - i ∧ (i ≤ szL a.w ∧ MulOut (val a.w) (val b.w) (szL b.w) i l)) (szL a.w - 0) ?start ?round
  case start =>
   refine ⟨_, (List.Sublist.cons_cons _ (List.Sublist.cons _ (List.Sublist.refl _))), 0, _, ?a24, ?mem0, rfl, ⟨Nat.zero_le _, MulOut.start _ _ _⟩⟩
   case mem0 => rfl
   case a24 => rfl
  case round =>
   rintro nn g M ⟨i, l, hg24, rfl, hmeas, ⟨hile, hM⟩⟩
   subst nn
   simp only [setG, hg24]
   clear hg24
   refine W_seq (fun K_9 hK_9 => ?_)
   refine W_region_k (fun K1 hK1 => ?_)
   refine WL_q rfl (q_lss rfl rfl) ?_
   refine WL_nil (hK1 _ _ ?_)
   clear hK1 K1
   refine hK_9 _ _ ?_
   try clear hK_9 K_9
   refine W_seq (fun K_10 hK_10 => ?_)
   refine W_cond _ rfl (fun hi => ?_) (fun hi => ?_)
   ·(try simp only [decide_eq_true_eq, decide_eq_false_iff_not, beq_iff_eq, bne_iff_ne, beq_eq_false_iff_ne, bne_eq_false_iff_eq, Bool.not_eq_true', Bool.not_eq_false'] at hi)
    have hia : i < a.w.length := by rw [ha.len]; omega
    refine W_skip ?_
    refine hK_10 _ _ ?_
    try clear hK_10 K_10
    refine W_seq (fun K_11 hK_11 => ?_)
    refine W_block ?_
    refine W_seq (fun K_12 hK_12 => ?_)
    refine W_region_k (fun K1 hK1 => ?_)
    refine WL_q rfl (q_move rfl) ?_
    refine WL_q rfl (q_assign rfl) ?_
    refine WL_nil (hK1 _ _ ?_)
    clear hK1 K1
    refine hK_12 _ _ ?_
    try clear hK_12 K_12
    refine W_seq (fun K_13 hK_13 => ?_)
    refine W_region_k (fun K1 hK1 => ?_)
    refine WL_q rfl (q_assign rfl) ?_
    refine WL_nil (hK1 _ _ ?_)
    clear hK1 K1
    refine hK_13 _ _ ?_
    try clear hK_13 K_13
    refine W_seq (fun K_14 hK_14 => ?_)
    refine W_seq (fun K_15 hK_15 => ?_)
    refine W_region_k (fun K1 hK1 => ?_)
    refine WL_q rfl (q_move rfl) ?_
    refine WL_q rfl (q_move rfl) ?_
    refine WL_nil (hK1 _ _ ?_)
    clear hK1 K1
    refine hK_15 _ _ ?_
    try clear hK_15 K_15
    refine W_block ?_
    refine W_loop_g [9, 10, 28, 29, 30, 31, 32, 33, 34, 35, 36, 37, 38, 39, 40, 41, 42, 43, 44, 45, 46, 47, 48, 49, 50, 51, 52, 53, 54, 55, 56, 57, 58, 59] (fun g nn M => ∃ (k : Nat) (l : List Nat) (c : Nat), (g 9 = .int .u64 (c : Int) ∧ g 28 = .int .i64 (k : Int)) ∧ M = [⟨b5, 102, uw l⟩, ⟨b4, 28, zR⟩, ⟨b3, 28, b.cells⟩, ⟨b2, 28, a.cells⟩] ∧ nn = szL b.w - k ∧ (k ≤ szL b.w ∧ MulIn (val a.w) (val b.w) (szL b.w) i k l c)) (szL b.w - 0) ?start ?round
    case start =>
     refine ⟨_, (List.Sublist.refl _), 0, l, 0, ⟨?a9, ?a28⟩, ?mem0, rfl, ⟨Nat.zero_le _, hM.row⟩⟩
     case mem0 => rfl
     case a9 => rfl
     case a28 => rfl
    case round =>
     rintro nn g M ⟨k, l, c, ⟨hg9, hg28⟩, rfl, hmeas, ⟨hkle, hM⟩⟩
     subst nn
     simp only [setG, hg9, hg28]
     clear hg9 hg28
     refine W_seq (fun K_16 hK_16 => ?_)
     refine W_region_k (fun K1 hK1 => ?_)
     refine WL_q rfl (q_lss rfl rfl) ?_
     refine WL_nil (hK1 _ _ ?_)
     clear hK1 K1
     refine hK_16 _ _ ?_
     try clear hK_16 K_16
     refine W_seq (fun K_17 hK_17 => ?_)
     refine W_cond _ rfl (fun hk => ?_) (fun hk => ?_)
     ·(try simp only [decide_eq_true_eq, decide_eq_false_iff_not, beq_iff_eq, bne_iff_ne, beq_eq_false_iff_ne, bne_eq_false_iff_eq, Bool.not_eq_true', Bool.not_eq_false'] at hk)
      have hkb : k < b.w.length := by rw [hb.len]; omega
      refine W_skip ?_
      refine hK_17 _ _ ?_
      try clear hK_17 K_17
      refine W_seq (fun K_18 hK_18 => ?_)
      refine W_block ?_
      refine W_seq (fun K_19 hK_19 => ?_)
      refine W_region_k (fun K1 hK1 => ?_)
      refine WL_q rfl (q_move rfl) ?_
      refine WL_q rfl (q_assign rfl) ?_
      refine WL_nil (hK1 _ _ ?_)
      clear hK1 K1
      refine hK_19 _ _ ?_
      try clear hK_19 K_19
      refine W_seq (fun K_20 hK_20 => ?_)
      refine W_draw (sk (sk (sk (sk (s0))))) (.quiet 0 [19, 20] (.quiet 1 [3, 4, 5, 11, 18, 19, 20] (.quiet 2 [3, 4, 5, 11, 18, 19, 20] (.quiet 3 [4, 5, 11, 18, 19, 20] (.quiet 4 [5, 11, 18, 19, 20] (.quiet 5 [11, 18, 19, 20] (.quiet 6 [8, 9, 10, 11, 18, 19, 20] (.quiet 7 [8, 9, 10, 11, 18, 19, 20] (.quiet 8 [9, 10, 11, 18, 19, 20] (.quiet 9 [10, 11, 18, 19, 20] (.quiet 10 [11, 18, 19, 20] (.quiet 11 [18, 19, 20] (.quiet 12 [14, 15, 16, 17, 18, 19, 20] (.quiet 13 [14, 15, 16, 17, 18, 19, 20] (.quiet 14 [15, 16, 17, 18, 19, 20] (.quiet 15 [16, 17, 18, 19, 20] (.quiet 16 [17, 18, 19, 20] (.quiet 17 [18, 19, 20] (.quiet 18 [19, 20] (.quiet 19 [20] (.quiet 20 [] (.fin)))))))))))))))))))))) [0, 1, 2, 3, 4, 5, 6, 7, 8, 9, 10, 11, 12, 13, 14, 15, 16, 17, 18, 19, 20] mix (by kernel_rfl) (by kernel_rfl) (fun K1 hK1 => ?_)
      refine PL_q rfl rfl (q_move rfl) ?_
      refine PL_q rfl rfl (q_move rfl) ?_
      refine PL_q rfl rfl (q_faddr fd_28_2 (by decide) rfl) ?_
      refine PL_q rfl rfl (q_idxa ar_26 rfl rfl (by omega) (by omega)) ?_
      refine PL_q rfl rfl (q_load ty_25 rfl (by repeat (first | exact .head _ | apply List.mem_append_right | apply List.Mem.tail)) (cellsAt hia)) ?_
      refine PL_q rfl rfl (q_conv in_25 in_78 rfl) ?_
      refine PL_q rfl rfl (q_move rfl) ?_
      refine PL_q rfl rfl (q_faddr fd_28_2 (by decide) rfl) ?_
      refine PL_q rfl rfl (q_idxa ar_26 rfl rfl (by omega) (by omega)) ?_
      refine PL_q rfl rfl (q_load ty_25 rfl (by repeat (first | exact .head _ | apply List.mem_append_right | apply List.Mem.tail)) (cellsAt hkb)) ?_
      refine PL_q rfl rfl (q_conv in_25 in_78 rfl) ?_
      refine PL_q rfl rfl (q_mul rfl rfl) ?_
      refine PL_q rfl rfl (q_move rfl) ?_
      refine PL_q rfl rfl (q_move rfl) ?_
      refine PL_q rfl rfl (q_as (q_add rfl rfl) (congrArg (Value.int .i64) (add_i64 (by omega)))) ?_
      refine PL_q rfl rfl (q_idxa ar_102 rfl rfl (by omega) (by omega)) ?_
      refine PL_q rfl rfl (q_load ty_25 rfl (by repeat (first | exact .head _ | apply List.mem_append_right | apply List.Mem.tail)) (uwAt (by rw [hM.len]; omega))) ?_
      refine PL_q rfl rfl (q_conv in_25 in_78 rfl) ?_
      refine PL_q rfl rfl (q_add rfl rfl) ?_
      refine PL_q rfl rfl (q_as (q_add rfl rfl) (congrArg (Value.int .u64) (mul_s (getD_lt ha.lim i) (getD_lt hb.lim k) (getD_lt hM.lim (i + k)) hM.clt))) ?_
      refine PL_q rfl rfl (q_assign rfl) ?_
      refine PL_fin (hK1 _ _ ?_)
      clear hK1 K1
      refine hK_20 _ _ ?_
      try clear hK_20 K_20
      refine W_seq (fun K_21 hK_21 => ?_)
      refine W_region_k (fun K1 hK1 => ?_)
      refine WL_q rfl (q_move rfl) ?_
      refine WL_q rfl (q_move rfl) ?_
      refine WL_q rfl (q_as (q_add rfl rfl) (congrArg (Value.int .i64) (add_i64 (by omega)))) ?_
      refine WL_q rfl (q_move rfl) ?_
      refine WL_q rfl (q_as (q_conv in_78 in_25 rfl) (u32_nat _)) ?_
      refine WL_q rfl (q_idxa ar_102 rfl rfl (by omega) (by omega)) ?_
      refine WL_r rfl (r_storeu ty_25 rfl rfl (by repeat (first | exact .head _ | apply Upd.left | apply Upd.tail)) (by rw [hM.len]; omega) (.inl (by assumption)) ?_)
      refine WL_nil (hK1 _ _ ?_)
      clear hK1 K1
      refine hK_21 _ _ ?_
      try clear hK_21 K_21
      refine W_region_k (fun K1 hK1 => ?_)
      refine WL_q rfl (q_move rfl) ?_
      refine WL_q rfl (q_as (q_shr rfl rfl (by decide)) (congrArg (Value.int .u64) (shr_nat _ 32))) ?_
      refine WL_q rfl (q_assign rfl) ?_
      refine WL_nil (hK1 _ _ ?_)
      clear hK1 K1
      refine hK_18 _ _ ?_
      try clear hK_18 K_18
      refine W_region_k (fun K1 hK1 => ?_)
      refine WL_q rfl (q_as (q_add rfl rfl) (congrArg (Value.int .i64) (succ_i64 (by omega)))) ?_
      refine WL_q rfl (q_move rfl) ?_
      refine WL_nil (hK1 _ _ ?_)
      clear hK1 K1
      refine ⟨(by repeat (first | exact .refl | refine .cons rfl ?_)), _, _, (List.Sublist.refl _), (by omega), k + 1, _, _, ⟨?s9, ?s28⟩, ?mem, rfl, ⟨by omega, mulin_get hM ha.lim hb.lim (by omega) (by omega)⟩⟩
      case mem => rfl
      case s9 => rfl
      case s28 => rfl
     ·(try simp only [decide_eq_true_eq, decide_eq_false_iff_not, beq_iff_eq, bne_iff_ne, beq_eq_false_iff_ne, bne_eq_false_iff_eq, Bool.not_eq_true', Bool.not_eq_false'] at hk)
      obtain rfl : k = szL b.w := by omega
      refine W_exit (thenK_x (thenK_x (blockK_hit ?_)))
      refine hK_14 _ _ ?_
      try clear hK_14 K_14
      refine W_region_k (fun K1 hK1 => ?_)
      refine WL_q rfl (q_move rfl) ?_
      refine WL_q rfl (q_move rfl) ?_
      refine WL_q rfl (q_as (q_add rfl rfl) (congrArg (Value.int .i64) (add_i64 (by omega)))) ?_
      refine WL_q rfl (q_move rfl) ?_
      refine WL_q rfl (q_as (q_conv in_78 in_25 rfl) (u32_lt hM.clt)) ?_
      refine WL_q rfl (q_idxa ar_102 rfl rfl (by omega) (by omega)) ?_
      refine WL_r rfl (r_storeu ty_25 rfl rfl (by repeat (first | exact .head _ | apply Upd.left | apply Upd.tail)) (by rw [hM.len]; omega) (.inl (by assumption)) ?_)
      refine WL_nil (hK1 _ _ ?_)
      clear hK1 K1
      refine hK_11 _ _ ?_
      try clear hK_11 K_11
      refine W_region_k (fun K1 hK1 => ?_)
      refine WL_q rfl (q_as (q_add rfl rfl) (congrArg (Value.int .i64) (succ_i64 (by omega)))) ?_
      refine WL_q rfl (q_move rfl) ?_
      refine WL_nil (hK1 _ _ ?_)
      clear hK1 K1
      refine ⟨(by repeat (first | exact .refl | refine .cons rfl ?_)), _, _, (List.Sublist.refl _), (by omega), i + 1, _, ?s24, ?mem, rfl, ⟨by omega, hM.done (by omega) (val_lt_sz hb.lim)⟩⟩
      case mem => rfl
      case s24 => rfl
   ·(try simp only [decide_eq_true_eq, decide_eq_false_iff_not, beq_iff_eq, bne_iff_ne, beq_eq_false_iff_ne, bne_eq_false_iff_eq, Bool.not_eq_true', Bool.not_eq_false'] at hi)
    obtain rfl : i = szL a.w := by omega
    refine W_exit (thenK_x (thenK_x (blockK_hit ?_)))
    refine hK_7 _ _ ?_
    try clear hK_7 K_7
    refine W_seq (fun K_22 hK_22 => ?_)
    refine W_seq (fun K_23 hK_23 => ?_)
    refine W_region_k (fun K1 hK1 => ?_)
    refine WL_q rfl (q_slca ar_102 rfl rfl rfl (by decide) (by decide) (by decide) (by decide)) ?_
    refine WL_q rfl (q_s2a ar_26 rfl (by decide)) ?_
    refine WL_q rfl (q_loada (vs := uw (l.drop 16)) ty_26 rfl (by repeat (first | exact .head _ | apply List.mem_append_right | apply List.Mem.tail)) (uw_hi hM.len) (by simp [uw, hM.len])) ?_
    refine WL_q rfl (q_builda z_26 ar_26 rfl (.nil _)) ?_
    refine WL_q rfl (q_neqa (r := decide (l.drop 16 = List.replicate 16 0)) rfl rfl (eqOk_of 8 (by decide) eg_26 lv_26 (uwLeaves (by simp [hM.len])) (uwLeaves (by simp)) (dec_uw _ _))) ?_
    refine WL_nil (hK1 _ _ ?_)
    clear hK1 K1
    refine hK_23 _ _ ?_
    try clear hK_23 K_23
    refine W_cond _ rfl (fun h71 => ?_) (fun h71 => ?_)
    ·(try simp only [decide_eq_true_eq, decide_eq_false_iff_not, beq_iff_eq, bne_iff_ne, beq_eq_false_iff_ne, bne_eq_false_iff_eq, Bool.not_eq_true', Bool.not_eq_false'] at h71)
     refine W_seq (fun K_24 hK_24 => ?_)
     refine W_region_k (fun K1 hK1 => ?_)
     refine WL_q rfl (q_ret en_79 whole_Bad_ret rfl) ?_
     refine WL_r rfl (r_storew ty_28 rfl rfl (by repeat (first | exact .head _ | apply Upd.left | apply Upd.tail)) (enc_cells_len _) rfl (cells_plain _) (.inl (by assumption)) ?_)
     refine WL_nil (hK1 _ _ ?_)
     clear hK1 K1
     refine hK_24 _ _ ?_
     try clear hK_24 K_24
     refine W_ret ?_
     refine thenK_r (ret1 rfl (.inr rfl) ⟨_, _, _, _, _, _, rfl, (by repeat (first | exact .head _ | apply List.mem_append_right | apply List.Mem.tail)), ty_28, _, (takeAll (enc_cells_len _)), (enc_cells_len _), rfl⟩ ?_)
     exact congrArg RV (mul_big ha hb hg.1 hg.2 hM.len hM.lim (mulout_val hM ha) (by simpa using h71))
    ·(try simp only [decide_eq_true_eq, decide_eq_false_iff_not, beq_iff_eq, bne_iff_ne, beq_eq_false_iff_ne, bne_eq_false_iff_eq, Bool.not_eq_true', Bool.not_eq_false'] at h71)
     refine W_skip ?_
     refine hK_22 _ _ ?_
     try clear hK_22 K_22
     refine W_seq (fun K_25 hK_25 => ?_)
     refine W_draw (sk (sd (sk (sk (s0))))) (.quiet 0 [1, 4, 8, 9] (.quiet 1 [4, 8, 9] (.quiet 2 [3, 4, 8, 9] (.quiet 3 [4, 8, 9] (.quiet 4 [8, 9] (.quiet 5 [6, 7, 8, 9] (.quiet 6 [7, 8, 9] (.quiet 7 [8, 9] (.quiet 8 [9] (.only 9 (.fin))))))))))) [0, 1, 2, 3, 4, 5, 6, 7, 8] mix (by kernel_rfl) (by kernel_rfl) (fun K1 hK1 => ?_)
     refine PL_q rfl rfl (q_faddr fd_28_1 (by decide) rfl) ?_
     refine PL_q rfl rfl (q_load ty_4 rfl (by repeat (first | exact .head _ | apply List.mem_append_right | apply List.Mem.tail)) rfl) ?_
     refine PL_q rfl rfl (q_faddr fd_28_1 (by decide) rfl) ?_
     refine PL_q rfl rfl (q_load ty_4 rfl (by repeat (first | exact .head _ | apply List.mem_append_right | apply List.Mem.tail)) rfl) ?_
     refine PL_q rfl rfl (q_neqb bo_4 rfl rfl) ?_
     refine PL_q rfl rfl (q_slca ar_102 rfl rfl rfl (by decide) (by decide) (by decide) (by decide)) ?_
     refine PL_q rfl rfl (q_s2a ar_26 rfl (by decide)) ?_
     refine PL_q rfl rfl (q_loada (vs := uw (l.take 16)) ty_26 rfl (by repeat (first | exact .head _ | apply List.mem_append_right | apply List.Mem.tail)) (uw_lo hM.len) (by simp [uw, hM.len])) ?_
     refine PL_q rfl rfl (q_ret en_77 (whole_signed_ret (a.neg != b.neg) (l.take 16) (by simp [hM.len]) (hM.lim.take 16)) rfl) ?_
     refine PL_o rfl rfl (r_storew ty_28 rfl rfl (by repeat (first | exact .head _ | apply Upd.left | apply Upd.tail)) (sw_len (by simp [hM.len])) rfl (cells_plain _) (.inl (by assumption)) ⟨nf, (by repeat (first | exact s0 | exact sn | refine sk ?_ | refine sd ?_ | refine sA ?_ | refine sR ?_)), ?_⟩)
     refine PL_fin (hK1 _ _ ?_)
     clear hK1 K1
     refine hK_25 _ _ ?_
     try clear hK_25 K_25
     refine W_ret ?_
     refine ret1 rfl (.inr rfl) ⟨_, _, _, _, _, _, rfl, (by repeat (first | exact .head _ | apply List.mem_append_right | apply List.Mem.tail)), ty_28, _, (takeAll (sw_len (by simp [hM.len]))), (sw_len (by simp [hM.len])), rfl⟩ ?_
     exact congrArg RV (mul_fin ha hb hg.1 hg.2 hM.len hM.lim (mulout_val hM ha) (by simpa using h71))

theorem whole_guess_ret (us vs : List Nat) (n j : Nat) (H : QH us vs n j) (bu T : Nat) (w : World) (hbu : w.heap[bu]? = some (.cells (uw us).toArray T (0, 0))) :
    Calls Try.prog 107 [.pointer (some ⟨bu, 0, none⟩), UV vs, .int .i64 (n : Int), .int .i64 (j : Int)].toArray w (fun e w' => ∃ x : Nat, e = .returned (.int .u64 (x : Int)) ∧ Ext w w' ∧ Guess us vs j x) := by
 refine callsx_of_W (N := 77) (g := fun x : Nat => .int .u64 (x : Int)) (Q := fun x : Nat => Guess us vs j x) Try.func107 rfl rfl (by simp) ?_
 obtain ⟨w0, rfl⟩ : ∃ w0, w0 = w := ⟨_, rfl⟩
 simp only [initF, Nat.reduceAdd]
 have G := H.gh
 have hn2 := H.n2
 have hjn := H.jn
 have hul := H.ulen
 have hvl := H.vlen
 refine W_seq (fun K_1 hK_1 => ?_)
 refine W_region_k (fun K1 hK1 => ?_)
 refine WL_r rfl (r_box rfl rfl (fun b5 hb5 => ?_))
 refine WL_q rfl (q_assign rfl) ?_
 refine WL_nil (hK1 _ _ ?_)
 clear hK1 K1
 refine hK_1 _ _ ?_
 try clear hK_1 K_1
 refine W_seq (fun K_2 hK_2 => ?_)
 refine W_draw (sk (s0)) (.quiet 0 [4, 5, 6, 7, 8, 18, 19] (.quiet 1 [3, 5, 6, 7, 8, 18, 19] (.quiet 2 [3, 5, 6, 7, 8, 18, 19] (.quiet 3 [5, 6, 7, 8, 18, 19] (.quiet 4 [5, 6, 7, 8, 18, 19] (.quiet 5 [6, 7, 8, 18, 19] (.quiet 6 [7, 8, 18, 19] (.quiet 7 [8, 18, 19] (.quiet 8 [18, 19] (.quiet 9 [14, 15, 16, 17, 18, 19] (.quiet 10 [12, 13, 15, 16, 17, 18, 19] (.quiet 11 [12, 13, 15, 16, 17, 18, 19] (.quiet 12 [13, 15, 16, 17, 18, 19] (.quiet 13 [15, 16, 17, 18, 19] (.quiet 14 [15, 16, 17, 18, 19] (.quiet 15 [16, 17, 18, 19] (.quiet 16 [17, 18, 19] (.quiet 17 [18, 19] (.quiet 18 [19] (.quiet 19 [] (.fin))))))))))))))))))))) [0, 1, 2, 3, 4, 5, 6, 7, 8, 9, 10, 11, 12, 13, 14, 15, 16, 17, 18, 19] mix (by kernel_rfl) (by kernel_rfl) (fun K1 hK1 => ?_)
 refine PL_q rfl rfl (q_move rfl) ?_
 refine PL_q rfl rfl (q_move rfl) ?_
 refine PL_q rfl rfl (q_move rfl) ?_
 refine PL_q rfl rfl (q_as (q_add rfl rfl) (congrArg (Value.int .i64) (add_i64 (by omega)))) ?_
 refine PL_q rfl rfl (q_nil rfl) ?_
 refine PL_q rfl rfl (q_idxa ar_109 rfl rfl (by omega) (by omega)) ?_
 refine PL_q rfl rfl (q_loado ty_25 rfl hbu (by simp) (uwAt (by omega))) ?_
 refine PL_q rfl rfl (q_as (q_conv in_25 in_78 rfl) (u32u64 (getD_lt H.ulim _))) ?_
 refine PL_q rfl rfl (q_as (q_shl rfl rfl (by decide)) (congrArg (Value.int .u64) (shl_r32 (getD_lt H.ulim _)))) ?_
 refine PL_q rfl rfl (q_move rfl) ?_
 refine PL_q rfl rfl (q_move rfl) ?_
 refine PL_q rfl rfl (q_move rfl) ?_
 refine PL_q rfl rfl (q_as (q_add rfl rfl) (congrArg (Value.int .i64) (add_i64 (by omega)))) ?_
 refine PL_q rfl rfl (q_as (q_sub rfl rfl) (congrArg (Value.int .i64) (sub_i64' (b := 1) rfl (by omega) (by omega)))) ?_
 refine PL_q rfl rfl (q_nil rfl) ?_
 refine PL_q rfl rfl (q_idxa ar_109 rfl rfl (by omega) (by omega)) ?_
 refine PL_q rfl rfl (q_loado ty_25 rfl hbu (by simp) (uwAt (by omega))) ?_
 refine PL_q rfl rfl (q_as (q_conv in_25 in_78 rfl) (u32u64 (getD_lt H.ulim _))) ?_
 refine PL_q rfl rfl (q_as (q_or rfl rfl) (congrArg (Value.int .u64) (or_hi (getD_lt H.ulim _) (getD_lt H.ulim _)))) ?_
 refine PL_q rfl rfl (q_assign rfl) ?_
 refine PL_fin (hK1 _ _ ?_)
 clear hK1 K1
 refine hK_2 _ _ ?_
 try clear hK_2 K_2
 refine W_seq (fun K_3 hK_3 => ?_)
 refine W_region_k (fun K1 hK1 => ?_)
 refine WL_q rfl (q_move rfl) ?_
 refine WL_q rfl (q_as (q_sub rfl rfl) (congrArg (Value.int .i64) (sub_i64' (b := 1) rfl (by omega) (by omega)))) ?_
 refine WL_q rfl (q_idxa ar_26 rfl rfl (by omega) (by omega)) ?_
 refine WL_q rfl (q_load ty_25 rfl (by repeat (first | exact .head _ | apply List.mem_append_right | apply List.Mem.tail)) (uwAt (by omega))) ?_
 refine WL_q rfl (q_as (q_conv in_25 in_78 rfl) (u32u64 (getD_lt H.vlim _))) ?_
 refine WL_q rfl (q_assign rfl) ?_
 refine WL_nil (hK1 _ _ ?_)
 clear hK1 K1
 refine hK_3 _ _ ?_
 try clear hK_3 K_3
 refine W_seq (fun K_4 hK_4 => ?_)
 refine W_draw (sk (s0)) (.quiet 0 [2, 6, 7] (.quiet 1 [2, 6, 7] (.quiet 2 [6, 7] (.quiet 3 [5, 7] (.quiet 4 [5, 7] (.quiet 5 [7] (.quiet 6 [7] (.quiet 7 [] (.fin))))))))) [0, 1, 2, 3, 4, 5, 6, 7] mix (by kernel_rfl) (by kernel_rfl) (fun K1 hK1 => ?_)
 refine PL_q rfl rfl (q_move rfl) ?_
 refine PL_q rfl rfl (q_move rfl) ?_
 refine PL_q rfl rfl (q_as (q_quo rfl rfl (by have := G.f0; omega)) (congrArg (Value.int .u64) (quo_u64 (by have := G.topLt; have := G.f1; omega)))) ?_
 refine PL_q rfl rfl (q_move rfl) ?_
 refine PL_q rfl rfl (q_move rfl) ?_
 refine PL_q rfl rfl (q_as (q_rem rfl rfl (by have := G.f0; omega)) (congrArg (Value.int .u64) (rem_nat _ _))) ?_
 refine PL_q rfl rfl (q_assign rfl) ?_
 refine PL_q rfl rfl (q_assign rfl) ?_
 refine PL_fin (hK1 _ _ ?_)
 clear hK1 K1
 refine hK_4 _ _ ?_
 try clear hK_4 K_4
 refine W_seq (fun K_5 hK_5 => ?_)
 refine W_block ?_
 refine W_loop_g [11, 12, 43, 44, 45, 46, 47, 48, 49, 50, 51, 52, 53, 54, 55, 56, 57, 58, 59, 60, 61, 62, 63, 64, 65, 66, 67, 68, 69, 70, 71, 72, 73, 74, 75] (fun g nn M => ∃ (d rest : Nat), (g 11 = .int .u64 (d : Int) ∧ g 12 = .int .u64 (rest : Int)) ∧ M = [⟨b5, 26, uw vs⟩] ∧ nn = d ∧ (GI (vs.getD (n - 1) 0) (us.getD (j + n) 0 * 4294967296 + us.getD (j + n - 1) 0) (val us / (val vs * 4294967296 ^ j)) d rest)) ((us.getD (j + n) 0 * 4294967296 + us.getD (j + n - 1) 0) / vs.getD (n - 1) 0) ?start ?round
 case start =>
  refine ⟨_, (List.Sublist.refl _), _, _, ⟨?a11, ?a12⟩, ?mem0, rfl, GI.start G⟩
  case mem0 => rfl
  case a11 => rfl
  case a12 => rfl
 case round =>
  rintro nn g M ⟨d, rest, ⟨hg11, hg12⟩, rfl, hmeas, hG⟩
  subst nn
  simp only [setG, hg11, hg12]
  clear hg11 hg12
  refine W_seq (fun K_6 hK_6 => ?_)
  refine W_seq (fun K_7 hK_7 => ?_)
  refine W_draw (sk (s0)) (.quiet 0 [1, 2, 3, 4, 5, 6, 7, 8, 9, 10, 11, 12, 13, 14, 15, 16, 17, 18, 19, 20, 21, 22, 23, 24, 25, 26, 27] (.quiet 1 [2, 3, 4, 5, 6, 7, 8, 9, 10, 11, 12, 13, 14, 15, 16, 17, 18, 19, 20, 21, 22, 23, 24, 25, 26, 27] (.quiet 2 [3, 4, 5, 6, 7, 8, 9, 10, 11, 12, 13, 14, 15, 16, 17, 18, 19, 20, 21, 22, 23, 24, 25, 26, 27] (.quiet 3 [4, 5, 6, 7, 8, 9, 10, 11, 12, 13, 14, 15, 16, 17, 18, 19, 20, 21, 22, 23, 24, 25, 26, 27] (.quiet 4 [5, 6, 7, 8, 9, 10, 11, 12, 13, 14, 15, 16, 17, 18, 19, 20, 21, 22, 23, 24, 25, 26, 27] (.quiet 5 [6, 7, 8, 9, 10, 11, 12, 13, 14, 15, 16, 17, 18, 19, 20, 21, 22, 23, 24, 25, 26, 27] (.quiet 6 [12, 25, 26, 27] (.quiet 7 [8, 9, 10, 11, 12, 25, 26, 27] (.quiet 8 [9, 10, 11, 12, 25, 26, 27] (.quiet 9 [10, 11, 12, 25, 26, 27] (.quiet 10 [11, 12, 25, 26, 27] (.quiet 11 [12, 25, 26, 27] (.quiet 12 [25, 26, 27] (.quiet 13 [14, 24, 25, 26, 27] (.quiet 14 [24, 25, 26, 27] (.quiet 15 [20, 21, 22, 23, 24, 25, 26, 27] (.quiet 16 [18, 19, 21, 22, 23, 24, 25, 26, 27] (.quiet 17 [18, 19, 21, 22, 23, 24, 25, 26, 27] (.quiet 18 [19, 21, 22, 23, 24, 25, 26, 27] (.quiet 19 [21, 22, 23, 24, 25, 26, 27] (.quiet 20 [21, 22, 23, 24, 25, 26, 27] (.quiet 21 [22, 23, 24, 25, 26, 27] (.quiet 22 [23, 24, 25, 26, 27] (.quiet 23 [24, 25, 26, 27] (.quiet 24 [25, 26, 27] (.quiet 25 [26, 27] (.quiet 26 [27] (.quiet 27 [] (.fin))))))))))))))))))))))))))))) [0, 1, 2, 3, 4, 5, 6, 7, 8, 9, 10, 11, 12, 13, 14, 15, 16, 17, 18, 19, 20, 21, 22, 23, 24, 25, 26, 27] mix (by kernel_rfl) (by kernel_rfl) (fun K1 hK1 => ?_)
  refine PL_q rfl rfl (q_move rfl) ?_
  refine PL_q rfl rfl (q_lss rfl rfl) ?_
  refine PL_q rfl rfl (q_move rfl) ?_
  cases h2 : decide ((rest : Int) < 4294967296)
  ·skip
   refine PL_n rfl rfl ?_
   refine PL_n rfl rfl ?_
   refine PL_n rfl rfl ?_
   refine PL_n rfl rfl ?_
   refine PL_n rfl rfl ?_
   refine PL_n rfl rfl ?_
   refine PL_n rfl rfl ?_
   refine PL_n rfl rfl ?_
   refine PL_n rfl rfl ?_
   refine PL_n rfl rfl ?_
   refine PL_n rfl rfl ?_
   refine PL_n rfl rfl ?_
   refine PL_n rfl rfl ?_
   refine PL_n rfl rfl ?_
   refine PL_n rfl rfl ?_
   refine PL_n rfl rfl ?_
   refine PL_n rfl rfl ?_
   refine PL_n rfl rfl ?_
   refine PL_n rfl rfl ?_
   refine PL_n rfl rfl ?_
   refine PL_n rfl rfl ?_
   refine PL_n rfl rfl ?_
   refine PL_n rfl rfl ?_
   refine PL_n rfl rfl ?_
   refine PL_q rfl rfl (q_pick rfl rfl) ?_
   refine PL_fin (hK1 _ _ ?_)
   clear hK1 K1
   refine hK_7 _ _ ?_
   try clear hK_7 K_7
   refine W_false rfl ?_
   refine W_exit (thenK_x (thenK_x (blockK_hit ?_)))
   refine hK_5 _ _ ?_
   try clear hK_5 K_5
   refine W_seq (fun K_8 hK_8 => ?_)
   refine W_region_k (fun K1 hK1 => ?_)
   refine WL_q rfl (q_move rfl) ?_
   refine WL_q rfl (q_assign rfl) ?_
   refine WL_nil (hK1 _ _ ?_)
   clear hK1 K1
   refine hK_8 _ _ ?_
   try clear hK_8 K_8
   refine W_ret ?_
   refine ret1 rfl (.inr rfl) rfl ?_
   exact ⟨d, rfl, guess_fin H hG (.inl (by have := of_decide_eq_false h2; omega))⟩
  ·skip
   refine PL_q rfl rfl (q_move rfl) ?_
   refine PL_q rfl rfl (q_geq rfl rfl) ?_
   refine PL_q rfl rfl (q_move rfl) ?_
   cases h5 : decide ((4294967296 : Int) ≤ (d : Int))
   ·skip
    refine PL_q rfl rfl (q_move rfl) ?_
    refine PL_q rfl rfl (q_move rfl) ?_
    refine PL_q rfl rfl (q_as (q_sub rfl rfl) (congrArg (Value.int .i64) (sub_i64' (b := 2) rfl (by omega) (by omega)))) ?_
    refine PL_q rfl rfl (q_idxa ar_26 rfl rfl (by omega) (by omega)) ?_
    refine PL_q rfl rfl (q_load ty_25 rfl (by repeat (first | exact .head _ | apply List.mem_append_right | apply List.Mem.tail)) (uwAt (by omega))) ?_
    refine PL_q rfl rfl (q_as (q_conv in_25 in_78 rfl) (u32u64 (getD_lt H.vlim _))) ?_
    refine PL_q rfl rfl (q_as (q_mul rfl rfl) (congrArg (Value.int .u64) (mul_u64 (lt_prod (by have := of_decide_eq_false h5; omega) (getD_lt H.vlim _))))) ?_
    refine PL_q rfl rfl (q_move rfl) ?_
    refine PL_q rfl rfl (q_as (q_shl rfl rfl (by decide)) (congrArg (Value.int .u64) (shl_r32 (by have := of_decide_eq_true h2; omega)))) ?_
    refine PL_q rfl rfl (q_move rfl) ?_
    refine PL_q rfl rfl (q_move rfl) ?_
    refine PL_q rfl rfl (q_move rfl) ?_
    refine PL_q rfl rfl (q_as (q_add rfl rfl) (congrArg (Value.int .i64) (add_i64 (by omega)))) ?_
    refine PL_q rfl rfl (q_as (q_sub rfl rfl) (congrArg (Value.int .i64) (sub_i64' (b := 2) rfl (by omega) (by omega)))) ?_
    refine PL_q rfl rfl (q_nil rfl) ?_
    refine PL_q rfl rfl (q_idxa ar_109 rfl rfl (by omega) (by omega)) ?_
    refine PL_q rfl rfl (q_loado ty_25 rfl hbu (by simp) (uwAt (by omega))) ?_
    refine PL_q rfl rfl (q_as (q_conv in_25 in_78 rfl) (u32u64 (getD_lt H.ulim _))) ?_
    refine PL_q rfl rfl (q_as (q_or rfl rfl) (congrArg (Value.int .u64) (or_hi (by have := of_decide_eq_true h2; omega) (getD_lt H.ulim _)))) ?_
    refine PL_q rfl rfl (q_gtr rfl rfl) ?_
    refine PL_q rfl rfl (q_pick rfl rfl) ?_
    refine PL_q rfl rfl (q_pick rfl rfl) ?_
    refine PL_fin (hK1 _ _ ?_)
    clear hK1 K1
    refine hK_7 _ _ ?_
    try clear hK_7 K_7
    refine W_cond _ rfl (fun h68 => ?_) (fun h68 => ?_)
    ·(try simp only [decide_eq_true_eq, decide_eq_false_iff_not, beq_iff_eq, bne_iff_ne, beq_eq_false_iff_ne, bne_eq_false_iff_eq, Bool.not_eq_true', Bool.not_eq_false'] at h68)
     refine W_skip ?_
     refine hK_6 _ _ ?_
     try clear hK_6 K_6
     refine W_block ?_
     refine W_seq (fun K_9 hK_9 => ?_)
     have hmore := GI.more G hG (by have := of_decide_eq_true h2; omega) (by first | exact .inl (by have := of_decide_eq_true h5; omega) | exact .inr (by exact_mod_cast h68))
     refine W_region_k (fun K1 hK1 => ?_)
     refine WL_q rfl (q_move rfl) ?_
     refine WL_q rfl (q_as (q_sub rfl rfl) (congrArg (Value.int .u64) (sub1_u64 rfl hmore.1 (by have := GI.dlt G hG; omega)))) ?_
     refine WL_q rfl (q_assign rfl) ?_
     refine WL_nil (hK1 _ _ ?_)
     clear hK1 K1
     refine hK_9 _ _ ?_
     try clear hK_9 K_9
     refine W_region_k (fun K1 hK1 => ?_)
     refine WL_q rfl (q_move rfl) ?_
     refine WL_q rfl (q_move rfl) ?_
     refine WL_q rfl (q_as (q_add rfl rfl) (congrArg (Value.int .u64) (add_u64 (by have := hG.rlt; have := G.f1; omega)))) ?_
     refine WL_q rfl (q_assign rfl) ?_
     refine WL_nil (hK1 _ _ ?_)
     clear hK1 K1
     refine ⟨(by repeat (first | exact .refl | refine .cons rfl ?_)), _, _, (List.Sublist.refl _), (by have := hmore.1; omega), d - 1, rest + vs.getD (n - 1) 0, ⟨?s11, ?s12⟩, ?mem, rfl, hmore.2⟩
     case mem => rfl
     case s11 => rfl
     case s12 => rfl
    ·(try simp only [decide_eq_true_eq, decide_eq_false_iff_not, beq_iff_eq, bne_iff_ne, beq_eq_false_iff_ne, bne_eq_false_iff_eq, Bool.not_eq_true', Bool.not_eq_false'] at h68)
     refine W_exit (thenK_x (thenK_x (blockK_hit ?_)))
     refine hK_5 _ _ ?_
     try clear hK_5 K_5
     refine W_seq (fun K_10 hK_10 => ?_)
     refine W_region_k (fun K1 hK1 => ?_)
     refine WL_q rfl (q_move rfl) ?_
     refine WL_q rfl (q_assign rfl) ?_
     refine WL_nil (hK1 _ _ ?_)
     clear hK1 K1
     refine hK_10 _ _ ?_
     try clear hK_10 K_10
     refine W_ret ?_
     refine ret1 rfl (.inr rfl) rfl ?_
     exact ⟨d, rfl, guess_fin H hG (.inr ⟨by have := of_decide_eq_false h5; omega, by have h69 := Int.not_lt.1 h68; exact_mod_cast h69⟩)⟩
   ·skip
    refine PL_n rfl rfl ?_
    refine PL_n rfl rfl ?_
    refine PL_n rfl rfl ?_
    refine PL_n rfl rfl ?_
    refine PL_n rfl rfl ?_
    refine PL_n rfl rfl ?_
    refine PL_n rfl rfl ?_
    refine PL_n rfl rfl ?_
    refine PL_n rfl rfl ?_
    refine PL_n rfl rfl ?_
    refine PL_n rfl rfl ?_
    refine PL_n rfl rfl ?_
    refine PL_n rfl rfl ?_
    refine PL_n rfl rfl ?_
    refine PL_n rfl rfl ?_
    refine PL_n rfl rfl ?_
    refine PL_n rfl rfl ?_
    refine PL_n rfl rfl ?_
    refine PL_n rfl rfl ?_
    refine PL_n rfl rfl ?_
    refine PL_q rfl rfl (q_pick rfl rfl) ?_
    refine PL_q rfl rfl (q_pick rfl rfl) ?_
    refine PL_fin (hK1 _ _ ?_)
    clear hK1 K1
    refine hK_7 _ _ ?_
    try clear hK_7 K_7
    refine W_true rfl ?_
    refine W_skip ?_
    refine hK_6 _ _ ?_
    try clear hK_6 K_6
    refine W_block ?_
    refine W_seq (fun K_11 hK_11 => ?_)
    have hmore := GI.more G hG (by have := of_decide_eq_true h2; omega) (by first | exact .inl (by have := of_decide_eq_true h5; omega) | exact .inr (by exact_mod_cast h68))
    refine W_region_k (fun K1 hK1 => ?_)
    refine WL_q rfl (q_move rfl) ?_
    refine WL_q rfl (q_as (q_sub rfl rfl) (congrArg (Value.int .u64) (sub1_u64 rfl hmore.1 (by have := GI.dlt G hG; omega)))) ?_
    refine WL_q rfl (q_assign rfl) ?_
    refine WL_nil (hK1 _ _ ?_)
    clear hK1 K1
    refine hK_11 _ _ ?_
    try clear hK_11 K_11
    refine W_region_k (fun K1 hK1 => ?_)
    refine WL_q rfl (q_move rfl) ?_
    refine WL_q rfl (q_move rfl) ?_
    refine WL_q rfl (q_as (q_add rfl rfl) (congrArg (Value.int .u64) (add_u64 (by have := hG.rlt; have := G.f1; omega)))) ?_
    refine WL_q rfl (q_assign rfl) ?_
    refine WL_nil (hK1 _ _ ?_)
    clear hK1 K1
    refine ⟨(by repeat (first | exact .refl | refine .cons rfl ?_)), _, _, (List.Sublist.refl _), (by have := hmore.1; omega), d - 1, rest + vs.getD (n - 1) 0, ⟨?s11, ?s12⟩, ?mem, rfl, hmore.2⟩
    case mem => rfl
    case s11 => rfl
    case s12 => rfl

theorem whole_take_ret (us vs : List Nat) (n j d : Nat) (hu : us.length = 17) (lu : Lim us) (hv : vs.length = 16) (lv : Lim vs) (hV : val vs < 4294967296 ^ n) (hjn : j + n ≤ 16) (hsm : val us < 4294967296 ^ (j + n + 1)) (hd : d < 4294967296) (bu T : Nat) (w : World) (hbu : w.heap[bu]? = some (.cells (uw us).toArray T (0, 0))) :
    Calls Try.prog 108 [.pointer (some ⟨bu, 0, none⟩), UV vs, .int .i64 (n : Int), .int .i64 (j : Int), .int .u64 (d : Int)].toArray w (fun e w' => ∃ x : List Nat × Nat, e = .returned (.bool (((x.2 : Nat) : Int) == 1)) ∧ ExtX [bu] w w' ∧ w'.heap[bu]? = some (.cells (uw x.1).toArray T (0, 0)) ∧ Took us (val vs) d j n x) := by
 refine callsw_x (N := 78) (g := fun x : List Nat × Nat => .bool (((x.2 : Nat) : Int) == 1)) (cs' := fun x : List Nat × Nat => uw x.1) (Q := fun x : List Nat × Nat => Took us (val vs) d j n x) Try.func108 rfl rfl (by simp) hbu ?_
 obtain ⟨w0, rfl⟩ : ∃ w0, w0 = w := ⟨_, rfl⟩
 simp only [initF, Nat.reduceAdd]
 refine W_seq (fun K_1 hK_1 => ?_)
 refine W_region_k (fun K1 hK1 => ?_)
 refine WL_r rfl (r_box rfl rfl (fun b6 hb6 => ?_))
 refine WL_q rfl (q_assign rfl) ?_
 refine WL_nil (hK1 _ _ ?_)
 clear hK1 K1
 refine hK_1 _ _ ?_
 try clear hK_1 K_1
 refine W_seq (fun K_2 hK_2 => ?_)
 refine W_region_k (fun K1 hK1 => ?_)
 refine WL_q rfl (q_assign rfl) ?_
 refine WL_q rfl (q_assign rfl) ?_
 refine WL_nil (hK1 _ _ ?_)
 clear hK1 K1
 refine hK_2 _ _ ?_
 try clear hK_2 K_2
 refine W_seq (fun K_3 hK_3 => ?_)
 refine W_seq (fun K_4 hK_4 => ?_)
 refine W_region_k (fun K1 hK1 => ?_)
 refine WL_q rfl (q_move rfl) ?_
 refine WL_q rfl (q_move rfl) ?_
 refine WL_nil (hK1 _ _ ?_)
 clear hK1 K1
 refine hK_4 _ _ ?_
 try clear hK_4 K_4
 refine W_block ?_
 refine W_loop_g [11, 12, 13, 14, 17, 18, 19, 20, 21, 22, 23, 24, 25, 26, 27, 28, 29, 30, 31, 32, 33, 34, 35, 36, 37, 38, 39, 40, 41, 42, 43, 44, 45, 46, 47, 48, 49, 50, 51, 52, 53, 54] (fun g nn M => ∃ (i : Nat) (l : List Nat) (c bo : Nat), (g 11 = .int .u64 (c : Int) ∧ g 12 = .int .u64 (bo : Int) ∧ g 17 = .int .i64 (i : Int)) ∧ M = [⟨b6, 26, uw vs⟩, ⟨bu, T, uw l⟩] ∧ nn = n - i ∧ (i ≤ n ∧ TakeIn us (val vs) d j i l c bo)) (n - 0) ?start ?round
 case start =>
  refine ⟨_, (List.Sublist.refl _), 0, us, 0, 0, ⟨?a11, ?a12, ?a17⟩, ?mem0, rfl, ⟨Nat.zero_le _, TakeIn.start hu lu _ _ _⟩⟩
  case mem0 => rfl
  case a11 => rfl
  case a12 => rfl
  case a17 => rfl
 case round =>
  rintro nn g M ⟨i, l, c, bo, ⟨hg11, hg12, hg17⟩, rfl, hmeas, ⟨hi, hT⟩⟩
  subst nn
  simp only [setG, hg11, hg12, hg17]
  clear hg11 hg12 hg17
  refine W_seq (fun K_5 hK_5 => ?_)
  refine W_region_k (fun K1 hK1 => ?_)
  refine WL_q rfl (q_lss rfl rfl) ?_
  refine WL_nil (hK1 _ _ ?_)
  clear hK1 K1
  refine hK_5 _ _ ?_
  try clear hK_5 K_5
  refine W_seq (fun K_6 hK_6 => ?_)
  refine W_cond _ rfl (fun hc => ?_) (fun hc => ?_)
  ·(try simp only [decide_eq_true_eq, decide_eq_false_iff_not, beq_iff_eq, bne_iff_ne, beq_eq_false_iff_ne, bne_eq_false_iff_eq, Bool.not_eq_true', Bool.not_eq_false'] at hc)
   have hc : i < n := by omega
   refine W_skip ?_
   refine hK_6 _ _ ?_
   try clear hK_6 K_6
   refine W_seq (fun K_7 hK_7 => ?_)
   refine W_block ?_
   refine W_seq (fun K_8 hK_8 => ?_)
   refine W_region_k (fun K1 hK1 => ?_)
   refine WL_q rfl (q_move rfl) ?_
   refine WL_q rfl (q_assign rfl) ?_
   refine WL_nil (hK1 _ _ ?_)
   clear hK1 K1
   refine hK_8 _ _ ?_
   try clear hK_8 K_8
   refine W_seq (fun K_9 hK_9 => ?_)
   refine W_region_k (fun K1 hK1 => ?_)
   refine WL_q rfl (q_move rfl) ?_
   refine WL_q rfl (q_move rfl) ?_
   refine WL_q rfl (q_move rfl) ?_
   refine WL_q rfl (q_idxa ar_26 rfl rfl (by omega) (by omega)) ?_
   refine WL_q rfl (q_load ty_25 rfl (by repeat (first | exact .head _ | apply List.mem_append_right | apply List.Mem.tail)) (uwAt (by omega))) ?_
   refine WL_q rfl (q_conv in_25 in_78 rfl) ?_
   refine WL_q rfl (q_mul rfl rfl) ?_
   refine WL_q rfl (q_as (q_add rfl rfl) (congrArg (Value.int .u64) (take_s hT.clt hd (getD_lt lv i)))) ?_
   refine WL_q rfl (q_assign rfl) ?_
   refine WL_nil (hK1 _ _ ?_)
   clear hK1 K1
   refine hK_9 _ _ ?_
   try clear hK_9 K_9
   refine W_seq (fun K_10 hK_10 => ?_)
   refine W_region_k (fun K1 hK1 => ?_)
   refine WL_q rfl (q_move rfl) ?_
   refine WL_q rfl (q_move rfl) ?_
   refine WL_q rfl (q_move rfl) ?_
   refine WL_q rfl (q_as (q_add rfl rfl) (congrArg (Value.int .i64) (add_i64 (by omega)))) ?_
   refine WL_q rfl (q_nil rfl) ?_
   refine WL_q rfl (q_idxa ar_109 rfl rfl (by omega) (by omega)) ?_
   refine WL_q rfl (q_load ty_25 rfl (by repeat (first | exact .head _ | apply List.mem_append_right | apply List.Mem.tail)) (uwAt (by rw [hT.len]; omega))) ?_
   refine WL_q rfl (q_conv in_25 in_78 rfl) ?_
   refine WL_q rfl (q_move rfl) ?_
   refine WL_q rfl (q_as (q_conv in_78 in_25 rfl) (u32_nat _)) ?_
   refine WL_q rfl (q_conv in_25 in_78 rfl) ?_
   refine WL_q rfl (q_sub rfl rfl) ?_
   refine WL_q rfl (q_move rfl) ?_
   refine WL_q rfl (q_as (q_sub rfl rfl) (congrArg (Value.int .u64) (sub_s hT.ble (getD_lt hT.lim _) (Nat.mod_lt _ (by decide))))) ?_
   refine WL_q rfl (q_assign rfl) ?_
   refine WL_nil (hK1 _ _ ?_)
   clear hK1 K1
   refine hK_10 _ _ ?_
   try clear hK_10 K_10
   refine W_seq (fun K_11 hK_11 => ?_)
   refine W_region_k (fun K1 hK1 => ?_)
   refine WL_q rfl (q_move rfl) ?_
   refine WL_q rfl (q_move rfl) ?_
   refine WL_q rfl (q_move rfl) ?_
   refine WL_q rfl (q_as (q_add rfl rfl) (congrArg (Value.int .i64) (add_i64 (by omega)))) ?_
   refine WL_q rfl (q_move rfl) ?_
   refine WL_q rfl (q_as (q_conv in_78 in_25 rfl) (u32_nat _)) ?_
   refine WL_q rfl (q_nil rfl) ?_
   refine WL_q rfl (q_idxa ar_109 rfl rfl (by omega) (by omega)) ?_
   refine WL_r rfl (r_storeu ty_25 rfl rfl (by repeat (first | exact .head _ | apply Upd.left | apply Upd.tail)) (by rw [hT.len]; omega) (by first | exact .inl (by assumption) | exact .inr (List.mem_singleton.2 rfl)) ?_)
   refine WL_nil (hK1 _ _ ?_)
   clear hK1 K1
   refine hK_11 _ _ ?_
   try clear hK_11 K_11
   refine W_seq (fun K_12 hK_12 => ?_)
   refine W_region_k (fun K1 hK1 => ?_)
   refine WL_q rfl (q_move rfl) ?_
   refine WL_q rfl (q_as (q_shr rfl rfl (by decide)) (congrArg (Value.int .u64) (shr_nat _ 63))) ?_
   refine WL_q rfl (q_assign rfl) ?_
   refine WL_nil (hK1 _ _ ?_)
   clear hK1 K1
   refine hK_12 _ _ ?_
   try clear hK_12 K_12
   refine W_region_k (fun K1 hK1 => ?_)
   refine WL_q rfl (q_move rfl) ?_
   refine WL_q rfl (q_as (q_shr rfl rfl (by decide)) (congrArg (Value.int .u64) (shr_nat _ 32))) ?_
   refine WL_q rfl (q_assign rfl) ?_
   refine WL_nil (hK1 _ _ ?_)
   clear hK1 K1
   refine hK_7 _ _ ?_
   try clear hK_7 K_7
   refine W_region_k (fun K1 hK1 => ?_)
   refine WL_q rfl (q_as (q_add rfl rfl) (congrArg (Value.int .i64) (succ_i64 (by omega)))) ?_
   refine WL_q rfl (q_move rfl) ?_
   refine WL_nil (hK1 _ _ ?_)
   clear hK1 K1
   refine ⟨(by repeat (first | exact .refl | refine .cons rfl ?_)), _, _, (List.Sublist.refl _), (by omega), i + 1, _, _, _, ⟨?s11, ?s12, ?s17⟩, ?mem, rfl, ⟨by omega, takein_get hT lv (by omega) hd⟩⟩
   case mem => rfl
   case s11 => rfl
   case s12 => rfl
   case s17 => rfl
  ·(try simp only [decide_eq_true_eq, decide_eq_false_iff_not, beq_iff_eq, bne_iff_ne, beq_eq_false_iff_ne, bne_eq_false_iff_eq, Bool.not_eq_true', Bool.not_eq_false'] at hc)
   obtain rfl : n = i := by omega
   refine W_exit (thenK_x (thenK_x (blockK_hit ?_)))
   refine hK_3 _ _ ?_
   try clear hK_3 K_3
   refine W_seq (fun K_13 hK_13 => ?_)
   refine W_region_k (fun K1 hK1 => ?_)
   refine WL_q rfl (q_move rfl) ?_
   refine WL_q rfl (q_move rfl) ?_
   refine WL_q rfl (q_move rfl) ?_
   refine WL_q rfl (q_as (q_add rfl rfl) (congrArg (Value.int .i64) (add_i64 (by omega)))) ?_
   refine WL_q rfl (q_nil rfl) ?_
   refine WL_q rfl (q_idxa ar_109 rfl rfl (by omega) (by omega)) ?_
   refine WL_q rfl (q_load ty_25 rfl (by repeat (first | exact .head _ | apply List.mem_append_right | apply List.Mem.tail)) (uwAt (by rw [hT.len]; omega))) ?_
   refine WL_q rfl (q_conv in_25 in_78 rfl) ?_
   refine WL_q rfl (q_move rfl) ?_
   refine WL_q rfl (q_sub rfl rfl) ?_
   refine WL_q rfl (q_move rfl) ?_
   refine WL_q rfl (q_as (q_sub rfl rfl) (congrArg (Value.int .u64) (sub_s' hT.ble (getD_lt hT.lim _) hT.clt))) ?_
   refine WL_q rfl (q_assign rfl) ?_
   refine WL_nil (hK1 _ _ ?_)
   clear hK1 K1
   refine hK_13 _ _ ?_
   try clear hK_13 K_13
   refine W_seq (fun K_14 hK_14 => ?_)
   refine W_region_k (fun K1 hK1 => ?_)
   refine WL_q rfl (q_move rfl) ?_
   refine WL_q rfl (q_move rfl) ?_
   refine WL_q rfl (q_move rfl) ?_
   refine WL_q rfl (q_as (q_add rfl rfl) (congrArg (Value.int .i64) (add_i64 (by omega)))) ?_
   refine WL_q rfl (q_move rfl) ?_
   refine WL_q rfl (q_as (q_conv in_78 in_25 rfl) (u32_nat _)) ?_
   refine WL_q rfl (q_nil rfl) ?_
   refine WL_q rfl (q_idxa ar_109 rfl rfl (by omega) (by omega)) ?_
   refine WL_r rfl (r_storeu ty_25 rfl rfl (by repeat (first | exact .head _ | apply Upd.left | apply Upd.tail)) (by rw [hT.len]; omega) (by first | exact .inl (by assumption) | exact .inr (List.mem_singleton.2 rfl)) ?_)
   refine WL_nil (hK1 _ _ ?_)
   clear hK1 K1
   refine hK_14 _ _ ?_
   try clear hK_14 K_14
   refine W_seq (fun K_15 hK_15 => ?_)
   refine W_region_k (fun K1 hK1 => ?_)
   refine WL_q rfl (q_move rfl) ?_
   refine WL_q rfl (q_as (q_shr rfl rfl (by decide)) (congrArg (Value.int .u64) (shr_nat _ 63))) ?_
   refine WL_q rfl (q_eql rfl rfl) ?_
   refine WL_q rfl (q_assign rfl) ?_
   refine WL_nil (hK1 _ _ ?_)
   clear hK1 K1
   refine hK_15 _ _ ?_
   try clear hK_15 K_15
   refine W_ret ?_
   refine ret1 rfl (.inr rfl) rfl ?_
   exact ⟨(_, _), rfl, by first | exact .tail _ (.head _) | exact .head _, TakeIn.took hT (by omega) hV lu hsm⟩

theorem whole_give_ret (us vs : List Nat) (n j : Nat) (hu : us.length = 17) (lu : Lim us) (hv : vs.length = 16) (lv : Lim vs) (hV : val vs < 4294967296 ^ n) (hjn : j + n ≤ 16) (hsm : val us < 4294967296 ^ (j + n + 1)) (bu T : Nat) (w : World) (hbu : w.heap[bu]? = some (.cells (uw us).toArray T (0, 0))) :
    Calls Try.prog 109 [.pointer (some ⟨bu, 0, none⟩), UV vs, .int .i64 (n : Int), .int .i64 (j : Int)].toArray w (fun e w' => ∃ x : List Nat, e = .returned (.tuple #[]) ∧ ExtX [bu] w w' ∧ w'.heap[bu]? = some (.cells (uw x).toArray T (0, 0)) ∧ Gave us (val vs) j n x) := by
 refine callsw_x (N := 52) (g := fun x : List Nat => .tuple #[]) (cs' := fun x : List Nat => uw x) (Q := fun x : List Nat => Gave us (val vs) j n x) Try.func109 rfl rfl (by simp) hbu ?_
 obtain ⟨w0, rfl⟩ : ∃ w0, w0 = w := ⟨_, rfl⟩
 simp only [initF, Nat.reduceAdd]
 refine W_seq (fun K_1 hK_1 => ?_)
 refine W_region_k (fun K1 hK1 => ?_)
 refine WL_r rfl (r_box rfl rfl (fun b5 hb5 => ?_))
 refine WL_nil (hK1 _ _ ?_)
 clear hK1 K1
 refine hK_1 _ _ ?_
 try clear hK_1 K_1
 refine W_seq (fun K_2 hK_2 => ?_)
 refine W_region_k (fun K1 hK1 => ?_)
 refine WL_q rfl (q_assign rfl) ?_
 refine WL_nil (hK1 _ _ ?_)
 clear hK1 K1
 refine hK_2 _ _ ?_
 try clear hK_2 K_2
 refine W_seq (fun K_3 hK_3 => ?_)
 refine W_seq (fun K_4 hK_4 => ?_)
 refine W_region_k (fun K1 hK1 => ?_)
 refine WL_q rfl (q_move rfl) ?_
 refine WL_q rfl (q_move rfl) ?_
 refine WL_nil (hK1 _ _ ?_)
 clear hK1 K1
 refine hK_4 _ _ ?_
 try clear hK_4 K_4
 refine W_block ?_
 refine W_loop_g [8, 9, 11, 12, 13, 14, 15, 16, 17, 18, 19, 20, 21, 22, 23, 24, 25, 26, 27, 28, 29, 30, 31, 32, 33, 34, 35, 36, 37, 38, 39] (fun g nn M => ∃ (i : Nat) (l : List Nat) (c : Nat), (g 8 = .int .u64 (c : Int) ∧ g 11 = .int .i64 (i : Int)) ∧ M = [⟨b5, 26, uw vs⟩, ⟨bu, T, uw l⟩] ∧ nn = n - i ∧ (i ≤ n ∧ GiveIn us (val vs) j i l c)) (n - 0) ?start ?round
 case start =>
  refine ⟨_, (List.Sublist.refl _), 0, us, 0, ⟨?a8, ?a11⟩, ?mem0, rfl, ⟨Nat.zero_le _, GiveIn.start hu lu _ _⟩⟩
  case mem0 => rfl
  case a8 => rfl
  case a11 => rfl
 case round =>
  rintro nn g M ⟨i, l, c, ⟨hg8, hg11⟩, rfl, hmeas, ⟨hi, hT⟩⟩
  subst nn
  simp only [setG, hg8, hg11]
  clear hg8 hg11
  refine W_seq (fun K_5 hK_5 => ?_)
  refine W_region_k (fun K1 hK1 => ?_)
  refine WL_q rfl (q_lss rfl rfl) ?_
  refine WL_nil (hK1 _ _ ?_)
  clear hK1 K1
  refine hK_5 _ _ ?_
  try clear hK_5 K_5
  refine W_seq (fun K_6 hK_6 => ?_)
  refine W_cond _ rfl (fun hc => ?_) (fun hc => ?_)
  ·(try simp only [decide_eq_true_eq, decide_eq_false_iff_not, beq_iff_eq, bne_iff_ne, beq_eq_false_iff_ne, bne_eq_false_iff_eq, Bool.not_eq_true', Bool.not_eq_false'] at hc)
   have hc : i < n := by omega
   refine W_skip ?_
   refine hK_6 _ _ ?_
   try clear hK_6 K_6
   refine W_seq (fun K_7 hK_7 => ?_)
   refine W_block ?_
   refine W_seq (fun K_8 hK_8 => ?_)
   refine W_region_k (fun K1 hK1 => ?_)
   refine WL_q rfl (q_move rfl) ?_
   refine WL_q rfl (q_assign rfl) ?_
   refine WL_nil (hK1 _ _ ?_)
   clear hK1 K1
   refine hK_8 _ _ ?_
   try clear hK_8 K_8
   refine W_seq (fun K_9 hK_9 => ?_)
   refine W_draw (sk (sk (s0))) (.quiet 0 [14, 15] (.quiet 1 [5, 6, 7, 8, 13, 14, 15] (.quiet 2 [4, 6, 7, 8, 13, 14, 15] (.quiet 3 [4, 6, 7, 8, 13, 14, 15] (.quiet 4 [6, 7, 8, 13, 14, 15] (.quiet 5 [6, 7, 8, 13, 14, 15] (.quiet 6 [7, 8, 13, 14, 15] (.quiet 7 [8, 13, 14, 15] (.quiet 8 [13, 14, 15] (.quiet 9 [10, 11, 12, 13, 14, 15] (.quiet 10 [11, 12, 13, 14, 15] (.quiet 11 [12, 13, 14, 15] (.quiet 12 [13, 14, 15] (.quiet 13 [14, 15] (.quiet 14 [15] (.quiet 15 [] (.fin))))))))))))))))) [0, 1, 2, 3, 4, 5, 6, 7, 8, 9, 10, 11, 12, 13, 14, 15] mix (by kernel_rfl) (by kernel_rfl) (fun K1 hK1 => ?_)
   refine PL_q rfl rfl (q_move rfl) ?_
   refine PL_q rfl rfl (q_move rfl) ?_
   refine PL_q rfl rfl (q_move rfl) ?_
   refine PL_q rfl rfl (q_move rfl) ?_
   refine PL_q rfl rfl (q_as (q_add rfl rfl) (congrArg (Value.int .i64) (add_i64 (by omega)))) ?_
   refine PL_q rfl rfl (q_nil rfl) ?_
   refine PL_q rfl rfl (q_idxa ar_109 rfl rfl (by omega) (by omega)) ?_
   refine PL_q rfl rfl (q_load ty_25 rfl (by repeat (first | exact .head _ | apply List.mem_append_right | apply List.Mem.tail)) (uwAt (by rw [hT.len]; omega))) ?_
   refine PL_q rfl rfl (q_conv in_25 in_78 rfl) ?_
   refine PL_q rfl rfl (q_move rfl) ?_
   refine PL_q rfl rfl (q_idxa ar_26 rfl rfl (by omega) (by omega)) ?_
   refine PL_q rfl rfl (q_load ty_25 rfl (by repeat (first | exact .head _ | apply List.mem_append_right | apply List.Mem.tail)) (uwAt (by omega))) ?_
   refine PL_q rfl rfl (q_conv in_25 in_78 rfl) ?_
   refine PL_q rfl rfl (q_add rfl rfl) ?_
   refine PL_q rfl rfl (q_as (q_add rfl rfl) (congrArg (Value.int .u64) (give_s hT.cle (getD_lt hT.lim _) (getD_lt lv i)))) ?_
   refine PL_q rfl rfl (q_assign rfl) ?_
   refine PL_fin (hK1 _ _ ?_)
   clear hK1 K1
   refine hK_9 _ _ ?_
   try clear hK_9 K_9
   refine W_seq (fun K_10 hK_10 => ?_)
   refine W_region_k (fun K1 hK1 => ?_)
   refine WL_q rfl (q_move rfl) ?_
   refine WL_q rfl (q_move rfl) ?_
   refine WL_q rfl (q_move rfl) ?_
   refine WL_q rfl (q_as (q_add rfl rfl) (congrArg (Value.int .i64) (add_i64 (by omega)))) ?_
   refine WL_q rfl (q_move rfl) ?_
   refine WL_q rfl (q_as (q_conv in_78 in_25 rfl) (u32_nat _)) ?_
   refine WL_q rfl (q_nil rfl) ?_
   refine WL_q rfl (q_idxa ar_109 rfl rfl (by omega) (by omega)) ?_
   refine WL_r rfl (r_storeu ty_25 rfl rfl (by repeat (first | exact .head _ | apply Upd.left | apply Upd.tail)) (by rw [hT.len]; omega) (by first | exact .inl (by assumption) | exact .inr (List.mem_singleton.2 rfl)) ?_)
   refine WL_nil (hK1 _ _ ?_)
   clear hK1 K1
   refine hK_10 _ _ ?_
   try clear hK_10 K_10
   refine W_region_k (fun K1 hK1 => ?_)
   refine WL_q rfl (q_move rfl) ?_
   refine WL_q rfl (q_as (q_shr rfl rfl (by decide)) (congrArg (Value.int .u64) (shr_nat _ 32))) ?_
   refine WL_q rfl (q_assign rfl) ?_
   refine WL_nil (hK1 _ _ ?_)
   clear hK1 K1
   refine hK_7 _ _ ?_
   try clear hK_7 K_7
   refine W_region_k (fun K1 hK1 => ?_)
   refine WL_q rfl (q_as (q_add rfl rfl) (congrArg (Value.int .i64) (succ_i64 (by omega)))) ?_
   refine WL_q rfl (q_move rfl) ?_
   refine WL_nil (hK1 _ _ ?_)
   clear hK1 K1
   refine ⟨(by repeat (first | exact .refl | refine .cons rfl ?_)), _, _, (List.Sublist.refl _), (by omega), i + 1, _, _, ⟨?s8, ?s11⟩, ?mem, rfl, ⟨by omega, givein_get hT lv (by omega)⟩⟩
   case mem => rfl
   case s8 => rfl
   case s11 => rfl
  ·(try simp only [decide_eq_true_eq, decide_eq_false_iff_not, beq_iff_eq, bne_iff_ne, beq_eq_false_iff_ne, bne_eq_false_iff_eq, Bool.not_eq_true', Bool.not_eq_false'] at hc)
   obtain rfl : n = i := by omega
   refine W_exit (thenK_x (thenK_x (blockK_hit ?_)))
   refine hK_3 _ _ ?_
   try clear hK_3 K_3
   refine W_draw (sk (sd (s0))) (.quiet 0 [4, 5, 6, 9, 10, 11, 12] (.quiet 1 [3, 5, 6, 9, 11, 12] (.quiet 2 [3, 5, 6, 9, 11, 12] (.quiet 3 [5, 6, 9, 11, 12] (.quiet 4 [5, 6, 9, 11, 12] (.quiet 5 [6, 9, 11, 12] (.quiet 6 [9, 11, 12] (.quiet 7 [8, 9, 11, 12] (.quiet 8 [9, 11, 12] (.quiet 9 [11, 12] (.quiet 10 [11, 12] (.quiet 11 [12] (.only 12 (.fin)))))))))))))) [0, 1, 2, 3, 4, 5, 6, 7, 8, 9, 10, 11] mix (by kernel_rfl) (by kernel_rfl) (fun K1 hK1 => ?_)
   refine PL_q rfl rfl (q_move rfl) ?_
   refine PL_q rfl rfl (q_move rfl) ?_
   refine PL_q rfl rfl (q_move rfl) ?_
   refine PL_q rfl rfl (q_as (q_add rfl rfl) (congrArg (Value.int .i64) (add_i64 (by omega)))) ?_
   refine PL_q rfl rfl (q_nil rfl) ?_
   refine PL_q rfl rfl (q_idxa ar_109 rfl rfl (by omega) (by omega)) ?_
   refine PL_q rfl rfl (q_load ty_25 rfl (by repeat (first | exact .head _ | apply List.mem_append_right | apply List.Mem.tail)) (uwAt (by rw [hT.len]; omega))) ?_
   refine PL_q rfl rfl (q_move rfl) ?_
   refine PL_q rfl rfl (q_conv in_78 in_25 rfl) ?_
   refine PL_q rfl rfl (q_as (q_add rfl rfl) (give_e (getD_lt hT.lim _) hT.cle)) ?_
   refine PL_q rfl rfl (q_nil rfl) ?_
   refine PL_q rfl rfl (q_idxa ar_109 rfl rfl (by omega) (by omega)) ?_
   refine PL_o rfl rfl (r_storeu ty_25 rfl rfl (by repeat (first | exact .head _ | apply Upd.left | apply Upd.tail)) (by rw [hT.len]; omega) (by first | exact .inl (by assumption) | exact .inr (List.mem_singleton.2 rfl)) ⟨nf, (by repeat (first | exact s0 | exact sn | refine sk ?_ | refine sd ?_ | refine sA ?_ | refine sR ?_)), ?_⟩)
   refine PL_fin (hK1 _ _ ?_)
   clear hK1 K1
   refine ret0 rfl (.inl rfl) ?_
   exact ⟨_, rfl, by first | exact .tail _ (.head _) | exact .head _, GiveIn.gave hT (by omega) hV lu hsm⟩
end Go.Proofs.Ythbjhbmpfeeilaa
