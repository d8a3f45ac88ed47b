/- Walks: what these functions return. -/
import Derived.Test.YthbjhbmpfeeilaaFa0
import Derived.Test.YthbjhbmpfeeilaaWa
namespace Go.Proofs.Ythbjhbmpfeeilaa
open Go.Kn Go.Num
set_option linter.unusedVariables false
set_option linter.unusedSimpArgs false
set_option maxRecDepth 20000
set_option maxHeartbeats 8000000
theorem whole_Neg_ret (a : R) (ha : a.Ok) :
    Ret Try.prog 59 [RV a] (RV (Z.neg a.dec).enc) := by
 refine ret_of_W (N := 14) Try.func59 rfl rfl (by simp) (fun w0 => ?_)
 simp only [initF, Nat.reduceAdd]
 refine W_seq (fun K_1 hK_1 => ?_)
 refine W_region_k (fun K1 hK1 => ?_)
 refine WL_r rfl (r_box rfl rfl (fun b1 hb1 => ?_))
 refine WL_r rfl (r_alloc z_28 (fun b2 hb2 => ?_))
 refine WL_nil (hK1 _ _ ?_)
 clear hK1 K1
 refine hK_1 _ _ ?_
 try clear hK_1 K_1
 refine W_seq (fun K_2 hK_2 => ?_)
 refine W_seq (fun K_3 hK_3 => ?_)
 refine W_region_k (fun K1 hK1 => ?_)
 refine WL_q rfl (q_loadw ty_28 rfl (by repeat (first | exact .head _ | apply List.mem_append_right | apply List.Mem.tail)) (cells_len ha)) ?_
 refine WL_r rfl (r_bslice us_104 z_28 sz_28 rfl (by decide) rfl (fillG1 ha) (fun b4 hb4 => ?_))
 refine WL_q rfl (q_call en_78 rfl (fun w hw => whole_good_ret [a] (ok1 ha) b4 28 w (hw.mem _ m0) (by simp))) ?_
 refine WL_q rfl (q_not rfl) ?_
 refine WL_nil (hK1 _ _ ?_)
 clear hK1 K1
 refine hK_3 _ _ ?_
 try clear hK_3 K_3
 refine W_cond _ rfl (fun hg => ?_) (fun hg => ?_)
 ·(try simp only [decide_eq_true_eq, decide_eq_false_iff_not, beq_iff_eq, bne_iff_ne, beq_eq_false_iff_ne, bne_eq_false_iff_eq, Bool.not_eq_true', Bool.not_eq_false'] at hg)
  refine W_seq (fun K_4 hK_4 => ?_)
  refine W_region_k (fun K1 hK1 => ?_)
  refine WL_q rfl (q_ret en_79 whole_Bad_ret rfl) ?_
  refine WL_r rfl (r_storew ty_28 rfl rfl (by repeat (first | exact .head _ | apply Upd.left | apply Upd.tail)) (enc_cells_len _) rfl (cells_plain _) (.inl (by assumption)) ?_)
  refine WL_nil (hK1 _ _ ?_)
  clear hK1 K1
  refine hK_4 _ _ ?_
  try clear hK_4 K_4
  refine W_ret ?_
  refine thenK_r (ret1 rfl (.inr rfl) ⟨_, _, _, _, _, _, rfl, (by repeat (first | exact .head _ | apply List.mem_append_right | apply List.Mem.tail)), ty_28, _, (takeAll (enc_cells_len _)), (enc_cells_len _), rfl⟩ ?_)
  (rw [Z.neg, lift1_bad (not_all1 hg)]; rfl)
 ·(try simp only [decide_eq_true_eq, decide_eq_false_iff_not, beq_iff_eq, bne_iff_ne, beq_eq_false_iff_ne, bne_eq_false_iff_eq, Bool.not_eq_true', Bool.not_eq_false'] at hg)
  refine W_skip ?_
  refine hK_2 _ _ ?_
  try clear hK_2 K_2
  refine W_seq (fun K_5 hK_5 => ?_)
  refine W_region_k (fun K1 hK1 => ?_)
  refine WL_q rfl (q_faddr fd_28_1 (by decide) rfl) ?_
  refine WL_q rfl (q_load ty_4 rfl (by repeat (first | exact .head _ | apply List.mem_append_right | apply List.Mem.tail)) rfl) ?_
  refine WL_q rfl (q_not rfl) ?_
  refine WL_q rfl (q_faddr fd_28_2 (by decide) rfl) ?_
  refine WL_q rfl (q_loada (vs := uw a.w) ty_26 rfl (by repeat (first | exact .head _ | apply List.mem_append_right | apply List.Mem.tail)) (cellsW ha.len) ((uw_len _).trans ha.len)) ?_
  refine WL_q rfl (q_ret en_77 (whole_signed_ret (!a.neg) a.w ha.len ha.lim) rfl) ?_
  refine WL_r rfl (r_storew ty_28 rfl rfl (by repeat (first | exact .head _ | apply Upd.left | apply Upd.tail)) (sw_len ha.len) rfl (cells_plain _) (.inl (by assumption)) ?_)
  refine WL_nil (hK1 _ _ ?_)
  clear hK1 K1
  refine hK_5 _ _ ?_
  try clear hK_5 K_5
  refine W_ret ?_
  refine ret1 rfl (.inr rfl) ⟨_, _, _, _, _, _, rfl, (by repeat (first | exact .head _ | apply List.mem_append_right | apply List.Mem.tail)), ty_28, _, (takeAll (sw_len ha.len)), (sw_len ha.len), rfl⟩ ?_
  exact congrArg RV (neg_eq ha (by simpa using hg))

theorem whole_Abs_ret (a : R) (ha : a.Ok) :
    Ret Try.prog 82 [RV a] (RV (Z.abs a.dec).enc) := by
 refine ret_of_W (N := 11) Try.func82 rfl rfl (by simp) (fun w0 => ?_)
 simp only [initF, Nat.reduceAdd]
 refine W_seq (fun K_1 hK_1 => ?_)
 refine W_region_k (fun K1 hK1 => ?_)
 refine WL_r rfl (r_box rfl rfl (fun b1 hb1 => ?_))
 refine WL_r rfl (r_alloc z_28 (fun b2 hb2 => ?_))
 refine WL_nil (hK1 _ _ ?_)
 clear hK1 K1
 refine hK_1 _ _ ?_
 try clear hK_1 K_1
 refine W_seq (fun K_2 hK_2 => ?_)
 refine W_seq (fun K_3 hK_3 => ?_)
 refine W_region_k (fun K1 hK1 => ?_)
 refine WL_q rfl (q_loadw ty_28 rfl (by repeat (first | exact .head _ | apply List.mem_append_right | apply List.Mem.tail)) (cells_len ha)) ?_
 refine WL_r rfl (r_bslice us_104 z_28 sz_28 rfl (by decide) rfl (fillG1 ha) (fun b4 hb4 => ?_))
 refine WL_q rfl (q_call en_78 rfl (fun w hw => whole_good_ret [a] (ok1 ha) b4 28 w (hw.mem _ m0) (by simp))) ?_
 refine WL_q rfl (q_not rfl) ?_
 refine WL_nil (hK1 _ _ ?_)
 clear hK1 K1
 refine hK_3 _ _ ?_
 try clear hK_3 K_3
 refine W_cond _ rfl (fun hg => ?_) (fun hg => ?_)
 ·(try simp only [decide_eq_true_eq, decide_eq_false_iff_not, beq_iff_eq, bne_iff_ne, beq_eq_false_iff_ne, bne_eq_false_iff_eq, Bool.not_eq_true', Bool.not_eq_false'] at hg)
  refine W_seq (fun K_4 hK_4 => ?_)
  refine W_region_k (fun K1 hK1 => ?_)
  refine WL_q rfl (q_ret en_79 whole_Bad_ret rfl) ?_
  refine WL_r rfl (r_storew ty_28 rfl rfl (by repeat (first | exact .head _ | apply Upd.left | apply Upd.tail)) (enc_cells_len _) rfl (cells_plain _) (.inl (by assumption)) ?_)
  refine WL_nil (hK1 _ _ ?_)
  clear hK1 K1
  refine hK_4 _ _ ?_
  try clear hK_4 K_4
  refine W_ret ?_
  refine thenK_r (ret1 rfl (.inr rfl) ⟨_, _, _, _, _, _, rfl, (by repeat (first | exact .head _ | apply List.mem_append_right | apply List.Mem.tail)), ty_28, _, (takeAll (enc_cells_len _)), (enc_cells_len _), rfl⟩ ?_)
  (rw [Z.abs, lift1_bad (not_all1 hg)]; rfl)
 ·(try simp only [decide_eq_true_eq, decide_eq_false_iff_not, beq_iff_eq, bne_iff_ne, beq_eq_false_iff_ne, bne_eq_false_iff_eq, Bool.not_eq_true', Bool.not_eq_false'] at hg)
  refine W_skip ?_
  refine hK_2 _ _ ?_
  try clear hK_2 K_2
  refine W_seq (fun K_5 hK_5 => ?_)
  refine W_region_k (fun K1 hK1 => ?_)
  refine WL_q rfl (q_faddr fd_28_2 (by decide) rfl) ?_
  refine WL_q rfl (q_loada (vs := uw a.w) ty_26 rfl (by repeat (first | exact .head _ | apply List.mem_append_right | apply List.Mem.tail)) (cellsW ha.len) ((uw_len _).trans ha.len)) ?_
  refine WL_q rfl (q_ret en_77 (whole_signed_ret false a.w ha.len ha.lim) rfl) ?_
  refine WL_r rfl (r_storew ty_28 rfl rfl (by repeat (first | exact .head _ | apply Upd.left | apply Upd.tail)) (sw_len ha.len) rfl (cells_plain _) (.inl (by assumption)) ?_)
  refine WL_nil (hK1 _ _ ?_)
  clear hK1 K1
  refine hK_5 _ _ ?_
  try clear hK_5 K_5
  refine W_ret ?_
  refine ret1 rfl (.inr rfl) ⟨_, _, _, _, _, _, rfl, (by repeat (first | exact .head _ | apply List.mem_append_right | apply List.Mem.tail)), ty_28, _, (takeAll (sw_len ha.len)), (sw_len ha.len), rfl⟩ ?_
  exact congrArg RV (abs_eq ha (by simpa using hg))

theorem whole_Add_ret (a b : R) (ha : a.Ok) (hb : b.Ok) :
    Ret Try.prog 75 [RV a, RV b] (RV (Z.add a.dec b.dec).enc) := by
 refine ret_of_W (N := 55) Try.func75 rfl rfl (by simp) (fun w0 => ?_)
 simp only [initF, Nat.reduceAdd]
 refine W_seq (fun K_1 hK_1 => ?_)
 refine W_region_k (fun K1 hK1 => ?_)
 refine WL_r rfl (r_box rfl rfl (fun b2 hb2 => ?_))
 refine WL_r rfl (r_box rfl rfl (fun b3 hb3 => ?_))
 refine WL_r rfl (r_alloc z_28 (fun b4 hb4 => ?_))
 refine WL_nil (hK1 _ _ ?_)
 clear hK1 K1
 refine hK_1 _ _ ?_
 try clear hK_1 K_1
 refine W_seq (fun K_2 hK_2 => ?_)
 refine W_seq (fun K_3 hK_3 => ?_)
 refine W_region_k (fun K1 hK1 => ?_)
 refine WL_q rfl (q_loadw ty_28 rfl (by repeat (first | exact .head _ | apply List.mem_append_right | apply List.Mem.tail)) (cells_len ha)) ?_
 refine WL_q rfl (q_loadw ty_28 rfl (by repeat (first | exact .head _ | apply List.mem_append_right | apply List.Mem.tail)) (cells_len hb)) ?_
 refine WL_r rfl (r_bslice us_104 z_28 sz_28 rfl (by decide) rfl (fillG2 ha hb) (fun b9 hb9 => ?_))
 refine WL_q rfl (q_call en_78 rfl (fun w hw => whole_good_ret [a, b] (ok2 ha hb) b9 28 w (hw.mem _ m0) (by simp))) ?_
 refine WL_q rfl (q_not rfl) ?_
 refine WL_nil (hK1 _ _ ?_)
 clear hK1 K1
 refine hK_3 _ _ ?_
 try clear hK_3 K_3
 refine W_cond _ rfl (fun hg => ?_) (fun hg => ?_)
 ·(try simp only [decide_eq_true_eq, decide_eq_false_iff_not, beq_iff_eq, bne_iff_ne, beq_eq_false_iff_ne, bne_eq_false_iff_eq, Bool.not_eq_true', Bool.not_eq_false'] at hg)
  refine W_seq (fun K_4 hK_4 => ?_)
  refine W_region_k (fun K1 hK1 => ?_)
  refine WL_q rfl (q_ret en_79 whole_Bad_ret rfl) ?_
  refine WL_r rfl (r_storew ty_28 rfl rfl (by repeat (first | exact .head _ | apply Upd.left | apply Upd.tail)) (enc_cells_len _) rfl (cells_plain _) (.inl (by assumption)) ?_)
  refine WL_nil (hK1 _ _ ?_)
  clear hK1 K1
  refine hK_4 _ _ ?_
  try clear hK_4 K_4
  refine W_ret ?_
  refine thenK_r (ret1 rfl (.inr rfl) ⟨_, _, _, _, _, _, rfl, (by repeat (first | exact .head _ | apply List.mem_append_right | apply List.Mem.tail)), ty_28, _, (takeAll (enc_cells_len _)), (enc_cells_len _), rfl⟩ ?_)
  (rw [Z.add, lift2_bad (not_all2 hg)]; rfl)
 ·(try simp only [decide_eq_true_eq, decide_eq_false_iff_not, beq_iff_eq, bne_iff_ne, beq_eq_false_iff_ne, bne_eq_false_iff_eq, Bool.not_eq_true', Bool.not_eq_false'] at hg)
  have hg := all2.1 hg
  refine W_skip ?_
  refine hK_2 _ _ ?_
  try clear hK_2 K_2
  refine W_seq (fun K_5 hK_5 => ?_)
  refine W_seq (fun K_6 hK_6 => ?_)
  refine W_region_k (fun K1 hK1 => ?_)
  refine WL_q rfl (q_faddr fd_28_1 (by decide) rfl) ?_
  refine WL_q rfl (q_load ty_4 rfl (by repeat (first | exact .head _ | apply List.mem_append_right | apply List.Mem.tail)) rfl) ?_
  refine WL_q rfl (q_faddr fd_28_1 (by decide) rfl) ?_
  refine WL_q rfl (q_load ty_4 rfl (by repeat (first | exact .head _ | apply List.mem_append_right | apply List.Mem.tail)) rfl) ?_
  refine WL_q rfl (q_eqlb bo_4 rfl rfl) ?_
  refine WL_nil (hK1 _ _ ?_)
  clear hK1 K1
  refine hK_6 _ _ ?_
  try clear hK_6 K_6
  refine W_cond _ rfl (fun hn => ?_) (fun hn => ?_)
  ·(try simp only [decide_eq_true_eq, decide_eq_false_iff_not, beq_iff_eq, bne_iff_ne, beq_eq_false_iff_ne, bne_eq_false_iff_eq, Bool.not_eq_true', Bool.not_eq_false'] at hn)
   refine W_seq (fun K_7 hK_7 => ?_)
   refine W_region_k (fun K1 hK1 => ?_)
   refine WL_q rfl (q_faddr fd_28_2 (by decide) rfl) ?_
   refine WL_q rfl (q_loada (vs := uw a.w) ty_26 rfl (by repeat (first | exact .head _ | apply List.mem_append_right | apply List.Mem.tail)) (cellsW ha.len) ((uw_len _).trans ha.len)) ?_
   refine WL_q rfl (q_faddr fd_28_2 (by decide) rfl) ?_
   refine WL_q rfl (q_loada (vs := uw b.w) ty_26 rfl (by repeat (first | exact .head _ | apply List.mem_append_right | apply List.Mem.tail)) (cellsW hb.len) ((uw_len _).trans hb.len)) ?_
   refine WL_q rfl (q_ret en_100 (whole_plus_ret a.w b.w ha.len hb.len ha.lim hb.lim) rfl) ?_
   refine WL_q rfl (q_move rfl) ?_
   refine WL_q rfl (q_extract rfl rfl) ?_
   refine WL_q rfl (q_extract rfl rfl) ?_
   refine WL_r rfl (r_alloc z_26 (fun b5 hb5 => ?_))
   refine WL_r rfl (r_storew ty_26 rfl rfl (by repeat (first | exact .head _ | apply Upd.left | apply Upd.tail)) (by rw [uw_len, toL_len]) rfl (uw_plain _) (.inl (by assumption)) ?_)
   refine WL_q rfl (q_assign rfl) ?_
   refine WL_nil (hK1 _ _ ?_)
   clear hK1 K1
   refine hK_7 _ _ ?_
   try clear hK_7 K_7
   refine W_seq (fun K_8 hK_8 => ?_)
   refine W_seq (fun K_9 hK_9 => ?_)
   refine W_region_k (fun K1 hK1 => ?_)
   refine WL_q rfl (q_move rfl) ?_
   refine WL_q rfl (q_not rfl) ?_
   refine WL_nil (hK1 _ _ ?_)
   clear hK1 K1
   refine hK_9 _ _ ?_
   try clear hK_9 K_9
   refine W_cond _ rfl (fun hc => ?_) (fun hc => ?_)
   ·(try simp only [decide_eq_true_eq, decide_eq_false_iff_not, beq_iff_eq, bne_iff_ne, beq_eq_false_iff_ne, bne_eq_false_iff_eq, Bool.not_eq_true', Bool.not_eq_false'] at hc)
    refine W_seq (fun K_10 hK_10 => ?_)
    refine W_region_k (fun K1 hK1 => ?_)
    refine WL_q rfl (q_ret en_79 whole_Bad_ret rfl) ?_
    refine WL_r rfl (r_storew ty_28 rfl rfl (by repeat (first | exact .head _ | apply Upd.left | apply Upd.tail)) (enc_cells_len _) rfl (cells_plain _) (.inl (by assumption)) ?_)
    refine WL_nil (hK1 _ _ ?_)
    clear hK1 K1
    refine hK_10 _ _ ?_
    try clear hK_10 K_10
    refine W_ret ?_
    refine thenK_r (thenK_r (ret1 rfl (.inr rfl) ⟨_, _, _, _, _, _, rfl, (by repeat (first | exact .head _ | apply List.mem_append_right | apply List.Mem.tail)), ty_28, _, (takeAll (enc_cells_len _)), (enc_cells_len _), rfl⟩ ?_))
    exact congrArg RV (add_over ha hb hg.1 hg.2 hn (by omega))
   ·(try simp only [decide_eq_true_eq, decide_eq_false_iff_not, beq_iff_eq, bne_iff_ne, beq_eq_false_iff_ne, bne_eq_false_iff_eq, Bool.not_eq_true', Bool.not_eq_false'] at hc)
    refine W_skip ?_
    refine hK_8 _ _ ?_
    try clear hK_8 K_8
    refine W_seq (fun K_11 hK_11 => ?_)
    refine W_region_k (fun K1 hK1 => ?_)
    refine WL_q rfl (q_faddr fd_28_1 (by decide) rfl) ?_
    refine WL_q rfl (q_load ty_4 rfl (by repeat (first | exact .head _ | apply List.mem_append_right | apply List.Mem.tail)) rfl) ?_
    refine WL_q rfl (q_loadw ty_26 rfl (by repeat (first | exact .head _ | apply List.mem_append_right | apply List.Mem.tail)) (by rw [uw_len, toL_len])) ?_
    refine WL_q rfl (q_ret en_77 (whole_signed_ret a.neg _ (toL_len _ _) (toL_lim _ _)) rfl) ?_
    refine WL_r rfl (r_storew ty_28 rfl rfl (by repeat (first | exact .head _ | apply Upd.left | apply Upd.tail)) (sw_len (toL_len _ _)) rfl (cells_plain _) (.inl (by assumption)) ?_)
    refine WL_nil (hK1 _ _ ?_)
    clear hK1 K1
    refine hK_11 _ _ ?_
    try clear hK_11 K_11
    refine W_ret ?_
    refine thenK_r (ret1 rfl (.inr rfl) ⟨_, _, _, _, _, _, rfl, (by repeat (first | exact .head _ | apply List.mem_append_right | apply List.Mem.tail)), ty_28, _, (takeAll (sw_len (toL_len _ _))), (sw_len (toL_len _ _)), rfl⟩ ?_)
    exact congrArg RV (add_same ha hb hg.1 hg.2 hn (by omega))
  ·(try simp only [decide_eq_true_eq, decide_eq_false_iff_not, beq_iff_eq, bne_iff_ne, beq_eq_false_iff_ne, bne_eq_false_iff_eq, Bool.not_eq_true', Bool.not_eq_false'] at hn)
   refine W_skip ?_
   refine hK_5 _ _ ?_
   try clear hK_5 K_5
   refine W_seq (fun K_12 hK_12 => ?_)
   refine W_seq (fun K_13 hK_13 => ?_)
   refine W_region_k (fun K1 hK1 => ?_)
   refine WL_q rfl (q_faddr fd_28_2 (by decide) rfl) ?_
   refine WL_q rfl (q_loada (vs := uw a.w) ty_26 rfl (by repeat (first | exact .head _ | apply List.mem_append_right | apply List.Mem.tail)) (cellsW ha.len) ((uw_len _).trans ha.len)) ?_
   refine WL_q rfl (q_faddr fd_28_2 (by decide) rfl) ?_
   refine WL_q rfl (q_loada (vs := uw b.w) ty_26 rfl (by repeat (first | exact .head _ | apply List.mem_append_right | apply List.Mem.tail)) (cellsW hb.len) ((uw_len _).trans hb.len)) ?_
   refine WL_q rfl (q_ret en_101 (whole_order_ret a.w b.w ha.len hb.len ha.lim hb.lim) rfl) ?_
   refine WL_q rfl (q_geq rfl rfl) ?_
   refine WL_nil (hK1 _ _ ?_)
   clear hK1 K1
   refine hK_13 _ _ ?_
   try clear hK_13 K_13
   refine W_cond _ rfl (fun ho => ?_) (fun ho => ?_)
   ·(try simp only [decide_eq_true_eq, decide_eq_false_iff_not, beq_iff_eq, bne_iff_ne, beq_eq_false_iff_ne, bne_eq_false_iff_eq, Bool.not_eq_true', Bool.not_eq_false'] at ho)
    have hle : val b.w ≤ val a.w := cmpI_ge ho
    refine W_seq (fun K_14 hK_14 => ?_)
    refine W_draw (sk (sd (sk (sk (s0))))) (.quiet 0 [1, 7, 8] (.quiet 1 [7, 8] (.quiet 2 [3, 6, 7, 8] (.quiet 3 [6, 7, 8] (.quiet 4 [5, 6, 7, 8] (.quiet 5 [6, 7, 8] (.quiet 6 [7, 8] (.quiet 7 [8] (.only 8 (.fin)))))))))) [0, 1, 2, 3, 4, 5, 6, 7] mix (by kernel_rfl) (by kernel_rfl) (fun K1 hK1 => ?_)
    refine PL_q rfl rfl (q_faddr fd_28_1 (by decide) rfl) ?_
    refine PL_q rfl rfl (q_load ty_4 rfl (by repeat (first | exact .head _ | apply List.mem_append_right | apply List.Mem.tail)) rfl) ?_
    refine PL_q rfl rfl (q_faddr fd_28_2 (by decide) rfl) ?_
    refine PL_q rfl rfl (q_loada (vs := uw a.w) ty_26 rfl (by repeat (first | exact .head _ | apply List.mem_append_right | apply List.Mem.tail)) (cellsW ha.len) ((uw_len _).trans ha.len)) ?_
    refine PL_q rfl rfl (q_faddr fd_28_2 (by decide) rfl) ?_
    refine PL_q rfl rfl (q_loada (vs := uw b.w) ty_26 rfl (by repeat (first | exact .head _ | apply List.mem_append_right | apply List.Mem.tail)) (cellsW hb.len) ((uw_len _).trans hb.len)) ?_
    refine PL_q rfl rfl (q_ret en_102 (whole_minus_ret a.w b.w ha.len hb.len ha.lim hb.lim hle) rfl) ?_
    refine PL_q rfl rfl (q_ret en_77 (whole_signed_ret a.neg _ (toL_len _ _) (toL_lim _ _)) rfl) ?_
    refine PL_o rfl rfl (r_storew ty_28 rfl rfl (by repeat (first | exact .head _ | apply Upd.left | apply Upd.tail)) (sw_len (toL_len _ _)) rfl (cells_plain _) (.inl (by assumption)) ⟨nf, (by repeat (first | exact s0 | exact sn | refine sk ?_ | refine sd ?_ | refine sA ?_ | refine sR ?_)), ?_⟩)
    refine PL_fin (hK1 _ _ ?_)
    clear hK1 K1
    refine hK_14 _ _ ?_
    try clear hK_14 K_14
    refine W_ret ?_
    refine thenK_r (ret1 rfl (.inr rfl) ⟨_, _, _, _, _, _, rfl, (by repeat (first | exact .head _ | apply List.mem_append_right | apply List.Mem.tail)), ty_28, _, (takeAll (sw_len (toL_len _ _))), (sw_len (toL_len _ _)), rfl⟩ ?_)
    exact congrArg RV (add_sub1 ha hb hg.1 hg.2 hn hle)
   ·(try simp only [decide_eq_true_eq, decide_eq_false_iff_not, beq_iff_eq, bne_iff_ne, beq_eq_false_iff_ne, bne_eq_false_iff_eq, Bool.not_eq_true', Bool.not_eq_false'] at ho)
    have hle : val a.w ≤ val b.w := cmpI_nge ho
    refine W_skip ?_
    refine hK_12 _ _ ?_
    try clear hK_12 K_12
    refine W_seq (fun K_15 hK_15 => ?_)
    refine W_draw (sk (sd (sk (sk (s0))))) (.quiet 0 [1, 7, 8] (.quiet 1 [7, 8] (.quiet 2 [3, 6, 7, 8] (.quiet 3 [6, 7, 8] (.quiet 4 [5, 6, 7, 8] (.quiet 5 [6, 7, 8] (.quiet 6 [7, 8] (.quiet 7 [8] (.only 8 (.fin)))))))))) [0, 1, 2, 3, 4, 5, 6, 7] mix (by kernel_rfl) (by kernel_rfl) (fun K1 hK1 => ?_)
    refine PL_q rfl rfl (q_faddr fd_28_1 (by decide) rfl) ?_
    refine PL_q rfl rfl (q_load ty_4 rfl (by repeat (first | exact .head _ | apply List.mem_append_right | apply List.Mem.tail)) rfl) ?_
    refine PL_q rfl rfl (q_faddr fd_28_2 (by decide) rfl) ?_
    refine PL_q rfl rfl (q_loada (vs := uw b.w) ty_26 rfl (by repeat (first | exact .head _ | apply List.mem_append_right | apply List.Mem.tail)) (cellsW hb.len) ((uw_len _).trans hb.len)) ?_
    refine PL_q rfl rfl (q_faddr fd_28_2 (by decide) rfl) ?_
    refine PL_q rfl rfl (q_loada (vs := uw a.w) ty_26 rfl (by repeat (first | exact .head _ | apply List.mem_append_right | apply List.Mem.tail)) (cellsW ha.len) ((uw_len _).trans ha.len)) ?_
    refine PL_q rfl rfl (q_ret en_102 (whole_minus_ret b.w a.w hb.len ha.len hb.lim ha.lim hle) rfl) ?_
    refine PL_q rfl rfl (q_ret en_77 (whole_signed_ret b.neg _ (toL_len _ _) (toL_lim _ _)) rfl) ?_
    refine PL_o rfl rfl (r_storew ty_28 rfl rfl (by repeat (first | exact .head _ | apply Upd.left | apply Upd.tail)) (sw_len (toL_len _ _)) rfl (cells_plain _) (.inl (by assumption)) ⟨nf, (by repeat (first | exact s0 | exact sn | refine sk ?_ | refine sd ?_ | refine sA ?_ | refine sR ?_)), ?_⟩)
    refine PL_fin (hK1 _ _ ?_)
    clear hK1 K1
    refine hK_15 _ _ ?_
    try clear hK_15 K_15
    refine W_ret ?_
    refine ret1 rfl (.inr rfl) ⟨_, _, _, _, _, _, rfl, (by repeat (first | exact .head _ | apply List.mem_append_right | apply List.Mem.tail)), ty_28, _, (takeAll (sw_len (toL_len _ _))), (sw_len (toL_len _ _)), rfl⟩ ?_
    exact congrArg RV (add_sub2 ha hb hg.1 hg.2 hn hle)

theorem whole_Sub_ret (a b : R) (ha : a.Ok) (hb : b.Ok) :
    Ret Try.prog 63 [RV a, RV b] (RV (Z.sub a.dec b.dec).enc) := by
 refine ret_of_W (N := 9) Try.func63 rfl rfl (by simp) (fun w0 => ?_)
 simp only [initF, Nat.reduceAdd]
 refine W_seq (fun K_1 hK_1 => ?_)
 refine W_region_k (fun K1 hK1 => ?_)
 refine WL_r rfl (r_box rfl rfl (fun b2 hb2 => ?_))
 refine WL_r rfl (r_box rfl rfl (fun b3 hb3 => ?_))
 refine WL_r rfl (r_alloc z_28 (fun b4 hb4 => ?_))
 refine WL_nil (hK1 _ _ ?_)
 clear hK1 K1
 refine hK_1 _ _ ?_
 try clear hK_1 K_1
 refine W_seq (fun K_2 hK_2 => ?_)
 refine W_draw (sd (sk (sk (s0)))) (.quiet 0 [3, 4] (.quiet 1 [2, 3, 4] (.quiet 2 [3, 4] (.quiet 3 [4] (.only 4 (.fin)))))) [0, 1, 2, 3] mix (by kernel_rfl) (by kernel_rfl) (fun K1 hK1 => ?_)
 refine PL_q rfl rfl (q_loadw ty_28 rfl (by repeat (first | exact .head _ | apply List.mem_append_right | apply List.Mem.tail)) (cells_len ha)) ?_
 refine PL_q rfl rfl (q_loadw ty_28 rfl (by repeat (first | exact .head _ | apply List.mem_append_right | apply List.Mem.tail)) (cells_len hb)) ?_
 refine PL_q rfl rfl (q_ret en_59 (whole_Neg_ret b hb) rfl) ?_
 refine PL_q rfl rfl (q_ret en_75 (whole_Add_ret a (Z.neg b.dec).enc ha (Z.enc_ok _)) rfl) ?_
 refine PL_o rfl rfl (r_storew ty_28 rfl rfl (by repeat (first | exact .head _ | apply Upd.left | apply Upd.tail)) (enc_cells_len _) rfl (cells_plain _) (.inl (by assumption)) ⟨nf, (by repeat (first | exact s0 | exact sn | refine sk ?_ | refine sd ?_ | refine sA ?_ | refine sR ?_)), ?_⟩)
 refine PL_fin (hK1 _ _ ?_)
 clear hK1 K1
 refine hK_2 _ _ ?_
 try clear hK_2 K_2
 refine W_ret ?_
 refine ret1 rfl (.inr rfl) ⟨_, _, _, _, _, _, rfl, (by repeat (first | exact .head _ | apply List.mem_append_right | apply List.Mem.tail)), ty_28, _, (takeAll (enc_cells_len _)), (enc_cells_len _), rfl⟩ ?_
 (rw [dec_enc]; rfl)

theorem whole_Sign_ret (a : R) (ha : a.Ok) :
    Ret Try.prog 49 [RV a] (.int .i64 a.dec.sign) := by
 refine ret_of_W (N := 17) Try.func49 rfl rfl (by simp) (fun w0 => ?_)
 simp only [initF, Nat.reduceAdd]
 refine W_seq (fun K_1 hK_1 => ?_)
 refine W_region_k (fun K1 hK1 => ?_)
 refine WL_r rfl (r_box rfl rfl (fun b1 hb1 => ?_))
 refine WL_q rfl (q_assign rfl) ?_
 refine WL_nil (hK1 _ _ ?_)
 clear hK1 K1
 refine hK_1 _ _ ?_
 try clear hK_1 K_1
 refine W_seq (fun K_2 hK_2 => ?_)
 refine W_block ?_
 refine W_seq (fun K_3 hK_3 => ?_)
 refine W_region_k (fun K1 hK1 => ?_)
 refine WL_q rfl (q_loadw ty_28 rfl (by repeat (first | exact .head _ | apply List.mem_append_right | apply List.Mem.tail)) (cells_len ha)) ?_
 refine WL_r rfl (r_bslice us_104 z_28 sz_28 rfl (by decide) rfl (fillG1 ha) (fun b5 hb5 => ?_))
 refine WL_q rfl (q_call en_78 rfl (fun w hw => whole_good_ret [a] (ok1 ha) b5 28 w (hw.mem _ m0) (by simp))) ?_
 refine WL_q rfl (q_not rfl) ?_
 refine WL_q rfl (q_move rfl) ?_
 cases hg : [a].all R.good
 ·skip
  refine WL_n rfl ?_
  refine WL_n rfl ?_
  refine WL_n rfl ?_
  refine WL_n rfl ?_
  refine WL_q rfl (q_pick rfl rfl) ?_
  refine WL_q rfl (q_assign rfl) ?_
  refine WL_nil (hK1 _ _ ?_)
  clear hK1 K1
  refine hK_3 _ _ ?_
  try clear hK_3 K_3
  refine W_true rfl ?_
  refine W_seq (fun K_4 hK_4 => ?_)
  refine W_region_k (fun K1 hK1 => ?_)
  refine WL_q rfl (q_assign rfl) ?_
  refine WL_nil (hK1 _ _ ?_)
  clear hK1 K1
  refine hK_4 _ _ ?_
  try clear hK_4 K_4
  refine W_ret ?_
  refine blockK_r (thenK_r (ret1 rfl (.inr rfl) rfl ?_))
  exact congrArg _ (sign_zero ha (.inl (by simpa using hg)))
 ·skip
  refine WL_q rfl (q_faddr fd_28_2 (by decide) rfl) ?_
  refine WL_q rfl (q_loada (vs := uw a.w) ty_26 rfl (by repeat (first | exact .head _ | apply List.mem_append_right | apply List.Mem.tail)) (cellsW ha.len) ((uw_len _).trans ha.len)) ?_
  refine WL_q rfl (q_builda z_26 ar_26 rfl (.nil _)) ?_
  refine WL_q rfl (q_eqla (r := a.zero) rfl rfl (eqOk_of 8 (by decide) eg_26 lv_26 (uwLeaves ha.len) (uwLeaves (by simp)) ha.zero_iff)) ?_
  refine WL_q rfl (q_pick rfl rfl) ?_
  refine WL_q rfl (q_assign rfl) ?_
  refine WL_nil (hK1 _ _ ?_)
  clear hK1 K1
  refine hK_3 _ _ ?_
  try clear hK_3 K_3
  refine W_cond _ rfl (fun hz => ?_) (fun hz => ?_)
  ·(try simp only [decide_eq_true_eq, decide_eq_false_iff_not, beq_iff_eq, bne_iff_ne, beq_eq_false_iff_ne, bne_eq_false_iff_eq, Bool.not_eq_true', Bool.not_eq_false'] at hz)
   refine W_seq (fun K_5 hK_5 => ?_)
   refine W_region_k (fun K1 hK1 => ?_)
   refine WL_q rfl (q_assign rfl) ?_
   refine WL_nil (hK1 _ _ ?_)
   clear hK1 K1
   refine hK_5 _ _ ?_
   try clear hK_5 K_5
   refine W_ret ?_
   refine blockK_r (thenK_r (ret1 rfl (.inr rfl) rfl ?_))
   exact congrArg _ (sign_zero ha (.inr hz))
  ·(try simp only [decide_eq_true_eq, decide_eq_false_iff_not, beq_iff_eq, bne_iff_ne, beq_eq_false_iff_ne, bne_eq_false_iff_eq, Bool.not_eq_true', Bool.not_eq_false'] at hz)
   refine W_seq (fun K_6 hK_6 => ?_)
   refine W_region_k (fun K1 hK1 => ?_)
   refine WL_q rfl (q_faddr fd_28_1 (by decide) rfl) ?_
   refine WL_q rfl (q_load ty_4 rfl (by repeat (first | exact .head _ | apply List.mem_append_right | apply List.Mem.tail)) rfl) ?_
   refine WL_q rfl (q_assign rfl) ?_
   refine WL_nil (hK1 _ _ ?_)
   clear hK1 K1
   refine hK_6 _ _ ?_
   try clear hK_6 K_6
   refine W_cond _ rfl (fun hn => ?_) (fun hn => ?_)
   ·(try simp only [decide_eq_true_eq, decide_eq_false_iff_not, beq_iff_eq, bne_iff_ne, beq_eq_false_iff_ne, bne_eq_false_iff_eq, Bool.not_eq_true', Bool.not_eq_false'] at hn)
    refine W_seq (fun K_7 hK_7 => ?_)
    refine W_region_k (fun K1 hK1 => ?_)
    refine WL_q rfl (q_assign rfl) ?_
    refine WL_nil (hK1 _ _ ?_)
    clear hK1 K1
    refine hK_7 _ _ ?_
    try clear hK_7 K_7
    refine W_ret ?_
    refine blockK_r (thenK_r (ret1 rfl (.inr rfl) rfl ?_))
    exact congrArg _ (sign_neg ha (by simpa using hg) hz hn)
   ·(try simp only [decide_eq_true_eq, decide_eq_false_iff_not, beq_iff_eq, bne_iff_ne, beq_eq_false_iff_ne, bne_eq_false_iff_eq, Bool.not_eq_true', Bool.not_eq_false'] at hn)
    refine W_skip ?_
    refine hK_2 _ _ ?_
    try clear hK_2 K_2
    refine W_seq (fun K_8 hK_8 => ?_)
    refine W_region_k (fun K1 hK1 => ?_)
    refine WL_q rfl (q_assign rfl) ?_
    refine WL_nil (hK1 _ _ ?_)
    clear hK1 K1
    refine hK_8 _ _ ?_
    try clear hK_8 K_8
    refine W_ret ?_
    refine ret1 rfl (.inr rfl) rfl ?_
    exact congrArg _ (sign_pos ha (by simpa using hg) hz hn)

theorem whole_Of_ret (n : Int) (hn : I64 n) :
    Ret Try.prog 47 [.int .i64 n] (RV (Z.of n).enc) := by
 refine ret_of_W (N := 19) Try.func47 rfl rfl (by simp) (fun w0 => ?_)
 simp only [initF, Nat.reduceAdd]
 refine W_seq (fun K_1 hK_1 => ?_)
 refine W_region_k (fun K1 hK1 => ?_)
 refine WL_r rfl (r_alloc z_28 (fun b2 hb2 => ?_))
 refine WL_nil (hK1 _ _ ?_)
 clear hK1 K1
 refine hK_1 _ _ ?_
 try clear hK_1 K_1
 refine W_seq (fun K_2 hK_2 => ?_)
 refine W_region_k (fun K1 hK1 => ?_)
 refine WL_q rfl (q_move rfl) ?_
 refine WL_q rfl (q_conv in_3 in_78 rfl) ?_
 refine WL_q rfl (q_assign rfl) ?_
 refine WL_nil (hK1 _ _ ?_)
 clear hK1 K1
 refine hK_2 _ _ ?_
 try clear hK_2 K_2
 refine W_seq (fun K_3 hK_3 => ?_)
 refine W_seq (fun K_4 hK_4 => ?_)
 refine W_region_k (fun K1 hK1 => ?_)
 refine WL_q rfl (q_move rfl) ?_
 refine WL_q rfl (q_lss rfl rfl) ?_
 refine WL_nil (hK1 _ _ ?_)
 clear hK1 K1
 refine hK_4 _ _ ?_
 try clear hK_4 K_4
 refine W_cond _ rfl (fun h0 => ?_) (fun h0 => ?_)
 ·(try simp only [decide_eq_true_eq, decide_eq_false_iff_not, beq_iff_eq, bne_iff_ne, beq_eq_false_iff_ne, bne_eq_false_iff_eq, Bool.not_eq_true', Bool.not_eq_false'] at h0)
  refine W_region_k (fun K1 hK1 => ?_)
  refine WL_q rfl (q_move rfl) ?_
  refine WL_q rfl (q_as (q_neg rfl) (congrArg (Value.int .u64) (of_neg hn h0))) ?_
  refine WL_q rfl (q_assign rfl) ?_
  refine WL_nil (hK1 _ _ ?_)
  clear hK1 K1
  refine hK_3 _ _ ?_
  try clear hK_3 K_3
  refine W_seq (fun K_5 hK_5 => ?_)
  refine W_region_k (fun K1 hK1 => ?_)
  refine WL_q rfl (q_move rfl) ?_
  refine WL_q rfl (q_lss rfl rfl) ?_
  refine WL_q rfl (q_as (q_move rfl) (show _ = Value.int .u64 ((n.natAbs : Nat) : Int) from by first | rfl | exact congrArg (Value.int .u64) (of_pos hn h0))) ?_
  refine WL_q rfl (q_conv in_78 in_25 rfl) ?_
  refine WL_q rfl (q_as (q_move rfl) (show _ = Value.int .u64 ((n.natAbs : Nat) : Int) from by first | rfl | exact congrArg (Value.int .u64) (of_pos hn h0))) ?_
  refine WL_q rfl (q_as (q_shr rfl rfl (by decide)) (congrArg (Value.int .u64) (shr_nat _ 32))) ?_
  refine WL_q rfl (q_conv in_78 in_25 rfl) ?_
  refine WL_q rfl (q_builda z_26 ar_26 rfl (fill2 (of_lo _) (of_hi (by unfold I64 at hn; omega)))) ?_
  refine WL_q rfl (q_ret en_77 (whole_signed_ret (decide (n < 0)) _ (by simp) (lim2 (Nat.mod_lt _ (by decide)) (by unfold I64 at hn; omega) 14)) rfl) ?_
  refine WL_r rfl (r_storew ty_28 rfl rfl (by repeat (first | exact .head _ | apply Upd.left | apply Upd.tail)) (sw_len (by simp)) rfl (cells_plain _) (.inl (by assumption)) ?_)
  refine WL_nil (hK1 _ _ ?_)
  clear hK1 K1
  refine hK_5 _ _ ?_
  try clear hK_5 K_5
  refine W_ret ?_
  refine ret1 rfl (.inr rfl) ⟨_, _, _, _, _, _, rfl, (by repeat (first | exact .head _ | apply List.mem_append_right | apply List.Mem.tail)), ty_28, _, (takeAll (sw_len (by simp))), (sw_len (by simp)), rfl⟩ ?_
  exact congrArg RV (of_enc hn rfl rfl)
 ·(try simp only [decide_eq_true_eq, decide_eq_false_iff_not, beq_iff_eq, bne_iff_ne, beq_eq_false_iff_ne, bne_eq_false_iff_eq, Bool.not_eq_true', Bool.not_eq_false'] at h0)
  refine W_skip ?_
  refine hK_3 _ _ ?_
  try clear hK_3 K_3
  refine W_seq (fun K_6 hK_6 => ?_)
  refine W_region_k (fun K1 hK1 => ?_)
  refine WL_q rfl (q_move rfl) ?_
  refine WL_q rfl (q_lss rfl rfl) ?_
  refine WL_q rfl (q_as (q_move rfl) (show _ = Value.int .u64 ((n.natAbs : Nat) : Int) from by first | rfl | exact congrArg (Value.int .u64) (of_pos hn h0))) ?_
  refine WL_q rfl (q_conv in_78 in_25 rfl) ?_
  refine WL_q rfl (q_as (q_move rfl) (show _ = Value.int .u64 ((n.natAbs : Nat) : Int) from by first | rfl | exact congrArg (Value.int .u64) (of_pos hn h0))) ?_
  refine WL_q rfl (q_as (q_shr rfl rfl (by decide)) (congrArg (Value.int .u64) (shr_nat _ 32))) ?_
  refine WL_q rfl (q_conv in_78 in_25 rfl) ?_
  refine WL_q rfl (q_builda z_26 ar_26 rfl (fill2 (of_lo _) (of_hi (by unfold I64 at hn; omega)))) ?_
  refine WL_q rfl (q_ret en_77 (whole_signed_ret (decide (n < 0)) _ (by simp) (lim2 (Nat.mod_lt _ (by decide)) (by unfold I64 at hn; omega) 14)) rfl) ?_
  refine WL_r rfl (r_storew ty_28 rfl rfl (by repeat (first | exact .head _ | apply Upd.left | apply Upd.tail)) (sw_len (by simp)) rfl (cells_plain _) (.inl (by assumption)) ?_)
  refine WL_nil (hK1 _ _ ?_)
  clear hK1 K1
  refine hK_6 _ _ ?_
  try clear hK_6 K_6
  refine W_ret ?_
  refine ret1 rfl (.inr rfl) ⟨_, _, _, _, _, _, rfl, (by repeat (first | exact .head _ | apply List.mem_append_right | apply List.Mem.tail)), ty_28, _, (takeAll (sw_len (by simp))), (sw_len (by simp)), rfl⟩ ?_
  exact congrArg RV (of_enc hn rfl rfl)
end Go.Proofs.Ythbjhbmpfeeilaa
