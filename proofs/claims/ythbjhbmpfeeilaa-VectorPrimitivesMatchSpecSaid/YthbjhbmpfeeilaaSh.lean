/- Walks: what these functions return. -/
import Derived.Test.YthbjhbmpfeeilaaFa0
import Derived.Test.YthbjhbmpfeeilaaSa
import Derived.Test.YthbjhbmpfeeilaaSe
import Derived.Test.YthbjhbmpfeeilaaSf
import Derived.Test.YthbjhbmpfeeilaaSg
namespace Go.Proofs.Ythbjhbmpfeeilaa
open Go.Kn Go.Num
set_option linter.unusedVariables false
set_option linter.unusedSimpArgs false
set_option maxRecDepth 20000
set_option maxHeartbeats 8000000
theorem skewbackref03_Small_ret (a : R) (ha : a.Ok) :
    Ret Try.prog 53 [RV a] (.tuple #[.int .i64 a.dec.small.1, .bool a.dec.small.2]) := by
 refine ret_of_W (N := 38) Try.func53 rfl rfl (by simp) (fun w0 => ?_)
 simp only [initF, Nat.reduceAdd]
 refine W_seq (fun K_1 hK_1 => ?_)
 refine W_region_k (fun K1 hK1 => ?_)
 refine WL_r rfl (r_box rfl rfl (fun b1 hb1 => ?_))
 refine WL_q rfl (q_assign rfl) ?_
 refine WL_q rfl (q_assign rfl) ?_
 refine WL_nil (hK1 _ _ ?_)
 clear hK1 K1
 refine hK_1 _ _ ?_
 try clear hK_1 K_1
 refine W_seq (fun K_2 hK_2 => ?_)
 refine W_seq (fun K_3 hK_3 => ?_)
 refine W_region_k (fun K1 hK1 => ?_)
 refine WL_q rfl (q_loadw ty_28 rfl (by repeat (first | exact .head _ | apply List.mem_append_right | apply List.Mem.tail)) (cells_len ha)) ?_
 refine WL_q rfl (q_ret en_57 (skewbackref03_Good_ret a ha) rfl) ?_
 refine WL_q rfl (q_not rfl) ?_
 refine WL_nil (hK1 _ _ ?_)
 clear hK1 K1
 refine hK_3 _ _ ?_
 try clear hK_3 K_3
 refine W_cond _ rfl (fun hg => ?_) (fun hg => ?_)
 ·(try simp only [decide_eq_true_eq, decide_eq_false_iff_not, beq_iff_eq, bne_iff_ne, beq_eq_false_iff_ne, bne_eq_false_iff_eq, Bool.not_eq_true', Bool.not_eq_false'] at hg)
  refine W_seq (fun K_4 hK_4 => ?_)
  refine W_region_k (fun K1 hK1 => ?_)
  refine WL_q rfl (q_assign rfl) ?_
  refine WL_q rfl (q_assign rfl) ?_
  refine WL_nil (hK1 _ _ ?_)
  clear hK1 K1
  refine hK_4 _ _ ?_
  try clear hK_4 K_4
  refine W_ret ?_
  refine thenK_r (ret2 rfl (.inr rfl) rfl rfl ?_)
  exact small_bad hg
 ·(try simp only [decide_eq_true_eq, decide_eq_false_iff_not, beq_iff_eq, bne_iff_ne, beq_eq_false_iff_ne, bne_eq_false_iff_eq, Bool.not_eq_true', Bool.not_eq_false'] at hg)
  refine W_skip ?_
  refine hK_2 _ _ ?_
  try clear hK_2 K_2
  refine W_seq (fun K_5 hK_5 => ?_)
  refine W_region_k (fun K1 hK1 => ?_)
  refine WL_q rfl (q_ret en_22 (skewbackref03_Of_ret (-9223372036854775808) (by decide)) rfl) ?_
  refine WL_r rfl (r_alloc z_28 (fun b4 hb4 => ?_))
  refine WL_r rfl (r_storew ty_28 rfl rfl (by repeat (first | exact .head _ | apply Upd.left | apply Upd.tail)) (enc_cells_len _) rfl (cells_plain _) (.inl (by assumption)) ?_)
  refine WL_nil (hK1 _ _ ?_)
  clear hK1 K1
  refine hK_5 _ _ ?_
  try clear hK_5 K_5
  refine W_seq (fun K_6 hK_6 => ?_)
  refine W_region_k (fun K1 hK1 => ?_)
  refine WL_q rfl (q_ret en_22 (skewbackref03_Of_ret 9223372036854775807 (by decide)) rfl) ?_
  refine WL_r rfl (r_alloc z_28 (fun b5 hb5 => ?_))
  refine WL_r rfl (r_storew ty_28 rfl rfl (by repeat (first | exact .head _ | apply Upd.left | apply Upd.tail)) (enc_cells_len _) rfl (cells_plain _) (.inl (by assumption)) ?_)
  refine WL_nil (hK1 _ _ ?_)
  clear hK1 K1
  refine hK_6 _ _ ?_
  try clear hK_6 K_6
  refine W_seq (fun K_7 hK_7 => ?_)
  refine W_seq (fun K_8 hK_8 => ?_)
  refine W_region_k (fun K1 hK1 => ?_)
  refine WL_q rfl (q_loadw ty_28 rfl (by repeat (first | exact .head _ | apply List.mem_append_right | apply List.Mem.tail)) (cells_len ha)) ?_
  refine WL_q rfl (q_loadw ty_28 rfl (by repeat (first | exact .head _ | apply List.mem_append_right | apply List.Mem.tail)) (enc_cells_len _)) ?_
  refine WL_q rfl (q_ret en_87 (skewbackref03_Cmp_ret a (Z.of (-9223372036854775808)).enc ha (Z.enc_ok _)) rfl) ?_
  refine WL_q rfl (q_lss rfl rfl) ?_
  refine WL_q rfl (q_move rfl) ?_
  cases hlo : decide (Z.cmp a.dec (Z.of (-9223372036854775808)).enc.dec < 0)
  ·skip
   refine WL_q rfl (q_loadw ty_28 rfl (by repeat (first | exact .head _ | apply List.mem_append_right | apply List.Mem.tail)) (cells_len ha)) ?_
   refine WL_q rfl (q_loadw ty_28 rfl (by repeat (first | exact .head _ | apply List.mem_append_right | apply List.Mem.tail)) (enc_cells_len _)) ?_
   refine WL_q rfl (q_ret en_87 (skewbackref03_Cmp_ret a (Z.of 9223372036854775807).enc ha (Z.enc_ok _)) rfl) ?_
   refine WL_q rfl (q_gtr rfl rfl) ?_
   refine WL_q rfl (q_pick rfl rfl) ?_
   refine WL_nil (hK1 _ _ ?_)
   clear hK1 K1
   refine hK_8 _ _ ?_
   try clear hK_8 K_8
   refine W_cond _ rfl (fun hhi => ?_) (fun hhi => ?_)
   ·(try simp only [decide_eq_true_eq, decide_eq_false_iff_not, beq_iff_eq, bne_iff_ne, beq_eq_false_iff_ne, bne_eq_false_iff_eq, Bool.not_eq_true', Bool.not_eq_false'] at hhi)
    refine W_seq (fun K_9 hK_9 => ?_)
    refine W_region_k (fun K1 hK1 => ?_)
    refine WL_q rfl (q_assign rfl) ?_
    refine WL_q rfl (q_assign rfl) ?_
    refine WL_nil (hK1 _ _ ?_)
    clear hK1 K1
    refine hK_9 _ _ ?_
    try clear hK_9 K_9
    refine W_ret ?_
    refine thenK_r (ret2 rfl (.inr rfl) rfl rfl ?_)
    exact small_out ha hg (small_no1 ha hg hhi)
   ·(try simp only [decide_eq_true_eq, decide_eq_false_iff_not, beq_iff_eq, bne_iff_ne, beq_eq_false_iff_ne, bne_eq_false_iff_eq, Bool.not_eq_true', Bool.not_eq_false'] at hhi)
    have hin := small_rng ha hg (of_decide_eq_false hlo) hhi
    have hsm := small_nat hin
    refine W_skip ?_
    refine hK_7 _ _ ?_
    try clear hK_7 K_7
    refine W_seq (fun K_10 hK_10 => ?_)
    refine W_region_k (fun K1 hK1 => ?_)
    refine WL_q rfl (q_faddr fd_28_2 (by decide) rfl) ?_
    refine WL_q rfl (q_idxa ar_26 rfl rfl (by decide) (by decide)) ?_
    refine WL_q rfl (q_load ty_25 rfl (by repeat (first | exact .head _ | apply List.mem_append_right | apply List.Mem.tail)) (cellsAt (r := a) (k := 1) (by rw [ha.len]; decide))) ?_
    refine WL_q rfl (q_conv in_25 in_78 rfl) ?_
    refine WL_q rfl (q_mul rfl rfl) ?_
    refine WL_q rfl (q_faddr fd_28_2 (by decide) rfl) ?_
    refine WL_q rfl (q_idxa ar_26 rfl rfl (by decide) (by decide)) ?_
    refine WL_q rfl (q_load ty_25 rfl (by repeat (first | exact .head _ | apply List.mem_append_right | apply List.Mem.tail)) (cellsAt (r := a) (k := 0) (by rw [ha.len]; decide))) ?_
    refine WL_q rfl (q_conv in_25 in_78 rfl) ?_
    refine WL_q rfl (q_as (q_add rfl rfl) (congrArg (Value.int .u64) (small_sum ha hsm))) ?_
    refine WL_q rfl (q_as (q_conv in_78 in_3 rfl) (rfl : _ = Value.int .i64 (IntKind.i64.wrap ((val a.w : Nat) : Int)))) ?_
    refine WL_q rfl (q_assign rfl) ?_
    refine WL_nil (hK1 _ _ ?_)
    clear hK1 K1
    refine hK_10 _ _ ?_
    try clear hK_10 K_10
    refine W_seq (fun K_11 hK_11 => ?_)
    refine W_seq (fun K_12 hK_12 => ?_)
    refine W_region_k (fun K1 hK1 => ?_)
    refine WL_q rfl (q_faddr fd_28_1 (by decide) rfl) ?_
    refine WL_q rfl (q_load ty_4 rfl (by repeat (first | exact .head _ | apply List.mem_append_right | apply List.Mem.tail)) rfl) ?_
    refine WL_nil (hK1 _ _ ?_)
    clear hK1 K1
    refine hK_12 _ _ ?_
    try clear hK_12 K_12
    refine W_cond _ rfl (fun hn => ?_) (fun hn => ?_)
    ·(try simp only [decide_eq_true_eq, decide_eq_false_iff_not, beq_iff_eq, bne_iff_ne, beq_eq_false_iff_ne, bne_eq_false_iff_eq, Bool.not_eq_true', Bool.not_eq_false'] at hn)
     refine W_region_k (fun K1 hK1 => ?_)
     refine WL_q rfl (q_move rfl) ?_
     refine WL_q rfl (q_neg rfl) ?_
     refine WL_q rfl (q_assign rfl) ?_
     refine WL_nil (hK1 _ _ ?_)
     clear hK1 K1
     refine hK_11 _ _ ?_
     try clear hK_11 K_11
     refine W_seq (fun K_13 hK_13 => ?_)
     refine W_region_k (fun K1 hK1 => ?_)
     refine WL_q rfl (q_move rfl) ?_
     refine WL_q rfl (q_assign rfl) ?_
     refine WL_q rfl (q_assign rfl) ?_
     refine WL_nil (hK1 _ _ ?_)
     clear hK1 K1
     refine hK_13 _ _ ?_
     try clear hK_13 K_13
     refine W_ret ?_
     refine ret2 rfl (.inr rfl) rfl rfl ?_
     exact small_in ha hg (small_vneg hin hn) hin
    ·(try simp only [decide_eq_true_eq, decide_eq_false_iff_not, beq_iff_eq, bne_iff_ne, beq_eq_false_iff_ne, bne_eq_false_iff_eq, Bool.not_eq_true', Bool.not_eq_false'] at hn)
     refine W_skip ?_
     refine hK_11 _ _ ?_
     try clear hK_11 K_11
     refine W_seq (fun K_14 hK_14 => ?_)
     refine W_region_k (fun K1 hK1 => ?_)
     refine WL_q rfl (q_move rfl) ?_
     refine WL_q rfl (q_assign rfl) ?_
     refine WL_q rfl (q_assign rfl) ?_
     refine WL_nil (hK1 _ _ ?_)
     clear hK1 K1
     refine hK_14 _ _ ?_
     try clear hK_14 K_14
     refine W_ret ?_
     refine ret2 rfl (.inr rfl) rfl rfl ?_
     exact small_in ha hg (small_vpos hin hn) hin
  ·skip
   refine WL_n rfl ?_
   refine WL_n rfl ?_
   refine WL_n rfl ?_
   refine WL_n rfl ?_
   refine WL_q rfl (q_pick rfl rfl) ?_
   refine WL_nil (hK1 _ _ ?_)
   clear hK1 K1
   refine hK_8 _ _ ?_
   try clear hK_8 K_8
   refine W_true rfl ?_
   refine W_seq (fun K_15 hK_15 => ?_)
   refine W_region_k (fun K1 hK1 => ?_)
   refine WL_q rfl (q_assign rfl) ?_
   refine WL_q rfl (q_assign rfl) ?_
   refine WL_nil (hK1 _ _ ?_)
   clear hK1 K1
   refine hK_15 _ _ ?_
   try clear hK_15 K_15
   refine W_ret ?_
   refine thenK_r (ret2 rfl (.inr rfl) rfl rfl ?_)
   exact small_out ha hg (small_no0 ha hg (of_decide_eq_true hlo))

theorem skewbackref03_Gcd_ret (a b : R) (ha : a.Ok) (hb : b.Ok) :
    Ret Try.prog 52 [RV a, RV b] (RV (Z.gcd a.dec b.dec).enc) := by
 refine ret_of_W (N := 64) Try.func52 rfl rfl (by simp) (fun w0 => ?_)
 simp only [initF, Nat.reduceAdd]
 have hla := len32 ha
 have hlb := len32 hb
 refine W_seq (fun K_1 hK_1 => ?_)
 refine W_region_k (fun K1 hK1 => ?_)
 refine WL_r rfl (r_box rfl rfl (fun b2 hb2 => ?_))
 refine WL_r rfl (r_box rfl rfl (fun b3 hb3 => ?_))
 refine WL_r rfl (r_alloc z_28 (fun b4 hb4 => ?_))
 refine WL_nil (hK1 _ _ ?_)
 clear hK1 K1
 refine hK_1 _ _ ?_
 try clear hK_1 K_1
 refine W_seq (fun K_2 hK_2 => ?_)
 refine W_region_k (fun K1 hK1 => ?_)
 refine WL_q rfl (q_loadw ty_28 rfl (by repeat (first | exact .head _ | apply List.mem_append_right | apply List.Mem.tail)) (cells_len ha)) ?_
 refine WL_q rfl (q_ret en_65 (skewbackref03_word_ret a ha) rfl) ?_
 refine WL_q rfl (q_move rfl) ?_
 refine WL_q rfl (q_extract rfl rfl) ?_
 refine WL_q rfl (q_extract rfl rfl) ?_
 refine WL_q rfl (q_assign rfl) ?_
 refine WL_q rfl (q_assign rfl) ?_
 refine WL_nil (hK1 _ _ ?_)
 clear hK1 K1
 refine hK_2 _ _ ?_
 try clear hK_2 K_2
 refine W_seq (fun K_3 hK_3 => ?_)
 refine W_region_k (fun K1 hK1 => ?_)
 refine WL_q rfl (q_loadw ty_28 rfl (by repeat (first | exact .head _ | apply List.mem_append_right | apply List.Mem.tail)) (cells_len hb)) ?_
 refine WL_q rfl (q_ret en_65 (skewbackref03_word_ret b hb) rfl) ?_
 refine WL_q rfl (q_move rfl) ?_
 refine WL_q rfl (q_extract rfl rfl) ?_
 refine WL_q rfl (q_extract rfl rfl) ?_
 refine WL_q rfl (q_assign rfl) ?_
 refine WL_q rfl (q_assign rfl) ?_
 refine WL_nil (hK1 _ _ ?_)
 clear hK1 K1
 refine hK_3 _ _ ?_
 try clear hK_3 K_3
 refine W_seq (fun K_4 hK_4 => ?_)
 refine W_seq (fun K_5 hK_5 => ?_)
 refine W_region_k (fun K1 hK1 => ?_)
 refine WL_q rfl (q_move rfl) ?_
 refine WL_q rfl (q_move rfl) ?_
 cases w1 : wordB a
 ·skip
  refine WL_n rfl ?_
  refine WL_q rfl (q_pick rfl rfl) ?_
  refine WL_nil (hK1 _ _ ?_)
  clear hK1 K1
  refine hK_5 _ _ ?_
  try clear hK_5 K_5
  refine W_false rfl ?_
  refine W_skip ?_
  refine hK_4 _ _ ?_
  try clear hK_4 K_4
  refine W_seq (fun K_6 hK_6 => ?_)
  refine W_seq (fun K_7 hK_7 => ?_)
  refine W_region_k (fun K1 hK1 => ?_)
  refine WL_q rfl (q_loadw ty_28 rfl (by repeat (first | exact .head _ | apply List.mem_append_right | apply List.Mem.tail)) (cells_len ha)) ?_
  refine WL_q rfl (q_ret en_57 (skewbackref03_Good_ret a ha) rfl) ?_
  refine WL_q rfl (q_not rfl) ?_
  refine WL_q rfl (q_move rfl) ?_
  cases ga : a.good
  ·skip
   refine WL_n rfl ?_
   refine WL_n rfl ?_
   refine WL_n rfl ?_
   refine WL_q rfl (q_pick rfl rfl) ?_
   refine WL_nil (hK1 _ _ ?_)
   clear hK1 K1
   refine hK_7 _ _ ?_
   try clear hK_7 K_7
   refine W_true rfl ?_
   refine W_seq (fun K_8 hK_8 => ?_)
   refine W_region_k (fun K1 hK1 => ?_)
   refine WL_q rfl (q_ret en_67 skewbackref03_Bad_ret rfl) ?_
   refine WL_r rfl (r_storew ty_28 rfl rfl (by repeat (first | exact .head _ | apply Upd.left | apply Upd.tail)) (enc_cells_len _) rfl (cells_plain _) (.inl (by assumption)) ?_)
   refine WL_nil (hK1 _ _ ?_)
   clear hK1 K1
   refine hK_8 _ _ ?_
   try clear hK_8 K_8
   refine W_ret ?_
   refine thenK_r (ret1 rfl (.inr rfl) ⟨_, _, _, _, _, _, rfl, (by repeat (first | exact .head _ | apply List.mem_append_right | apply List.Mem.tail)), ty_28, _, (takeAll (enc_cells_len _)), (enc_cells_len _), rfl⟩ ?_)
   (rw [Z.gcd, lift2_bad (.inl (bad1 ga))]; rfl)
  ·skip
   refine WL_q rfl (q_loadw ty_28 rfl (by repeat (first | exact .head _ | apply List.mem_append_right | apply List.Mem.tail)) (cells_len hb)) ?_
   refine WL_q rfl (q_ret en_57 (skewbackref03_Good_ret b hb) rfl) ?_
   refine WL_q rfl (q_not rfl) ?_
   refine WL_q rfl (q_pick rfl rfl) ?_
   refine WL_nil (hK1 _ _ ?_)
   clear hK1 K1
   refine hK_7 _ _ ?_
   try clear hK_7 K_7
   refine W_cond _ rfl (fun gb => ?_) (fun gb => ?_)
   ·(try simp only [decide_eq_true_eq, decide_eq_false_iff_not, beq_iff_eq, bne_iff_ne, beq_eq_false_iff_ne, bne_eq_false_iff_eq, Bool.not_eq_true', Bool.not_eq_false'] at gb)
    refine W_seq (fun K_9 hK_9 => ?_)
    refine W_region_k (fun K1 hK1 => ?_)
    refine WL_q rfl (q_ret en_67 skewbackref03_Bad_ret rfl) ?_
    refine WL_r rfl (r_storew ty_28 rfl rfl (by repeat (first | exact .head _ | apply Upd.left | apply Upd.tail)) (enc_cells_len _) rfl (cells_plain _) (.inl (by assumption)) ?_)
    refine WL_nil (hK1 _ _ ?_)
    clear hK1 K1
    refine hK_9 _ _ ?_
    try clear hK_9 K_9
    refine W_ret ?_
    refine thenK_r (ret1 rfl (.inr rfl) ⟨_, _, _, _, _, _, rfl, (by repeat (first | exact .head _ | apply List.mem_append_right | apply List.Mem.tail)), ty_28, _, (takeAll (enc_cells_len _)), (enc_cells_len _), rfl⟩ ?_)
    (rw [Z.gcd, lift2_bad (.inr (bad1 gb))]; rfl)
   ·(try simp only [decide_eq_true_eq, decide_eq_false_iff_not, beq_iff_eq, bne_iff_ne, beq_eq_false_iff_ne, bne_eq_false_iff_eq, Bool.not_eq_true', Bool.not_eq_false'] at gb)
    refine W_skip ?_
    refine hK_6 _ _ ?_
    try clear hK_6 K_6
    refine W_seq (fun K_10 hK_10 => ?_)
    refine W_region_k (fun K1 hK1 => ?_)
    refine WL_q rfl (q_loadw ty_28 rfl (by repeat (first | exact .head _ | apply List.mem_append_right | apply List.Mem.tail)) (cells_len ha)) ?_
    refine WL_r rfl (r_callslf en_58 rfl (fun w hw => skewbackref03_digits_ret a ha w) (fun v5 L5 h5 => ?_))
    refine WL_q rfl (q_assign rfl) ?_
    refine WL_nil (hK1 _ _ ?_)
    clear hK1 K1
    refine hK_10 _ _ ?_
    try clear hK_10 K_10
    refine W_seq (fun K_11 hK_11 => ?_)
    refine W_region_k (fun K1 hK1 => ?_)
    refine WL_q rfl (q_loadw ty_28 rfl (by repeat (first | exact .head _ | apply List.mem_append_right | apply List.Mem.tail)) (cells_len hb)) ?_
    refine WL_r rfl (r_callslf en_58 rfl (fun w hw => skewbackref03_digits_ret b hb w) (fun v6 L6 h6 => ?_))
    refine WL_q rfl (q_assign rfl) ?_
    refine WL_nil (hK1 _ _ ?_)
    clear hK1 K1
    refine hK_11 _ _ ?_
    try clear hK_11 K_11
    refine W_seq (fun K_12 hK_12 => ?_)
    refine W_block ?_
    refine W_loop_g [10, 11, 12, 13, 51, 52, 53, 54, 55, 56, 57, 58, 59, 60, 61] (fun g nn M => ∃ (X Y : Nat) (vx vy : Value) (Lx Ly : List Blk), (g 10 = vx ∧ g 11 = vy) ∧ M = Ly ++ (Lx ++ [⟨b4, 28, zR⟩, ⟨b3, 28, b.cells⟩, ⟨b2, 28, a.cells⟩]) ∧ nn = Y ∧ ((X < 65536 ^ 32 ∧ Y < 65536 ^ 32) ∧ Nat.gcd X Y = Nat.gcd (val a.w) (val b.w) ∧ SL w0 [] Lx vx (dl X) ∧ SL w0 [] Ly vy (dl Y))) (val b.w) ?start ?round
    case start =>
     refine ⟨_, (List.Sublist.refl _), val a.w, val b.w, v5, v6, L5, L6, ⟨?a10, ?a11⟩, ?mem0, rfl, ⟨⟨lt32' ha, lt32' hb⟩, rfl, h5.sl, h6.sl⟩⟩
     case mem0 => rfl
     case a10 => rfl
     case a11 => rfl
    case round =>
     rintro nn g M ⟨X, Y, vx, vy, Lx, Ly, ⟨hg10, hg11⟩, rfl, hmeas, ⟨hb3, hgc, hX, hY⟩⟩
     subst nn
     simp only [setG, hg10, hg11]
     clear hg10 hg11
     refine W_seq (fun K_13 hK_13 => ?_)
     refine W_seq (fun K_14 hK_14 => ?_)
     refine W_region_k (fun K1 hK1 => ?_)
     refine WL_q rfl (q_move rfl) ?_
     refine WL_q rfl (q_lenl sl_70 rfl (hY.sub (List.sublist_append_left _ _))) ?_
     refine WL_q rfl (q_gtr rfl rfl) ?_
     refine WL_nil (hK1 _ _ ?_)
     clear hK1 K1
     refine hK_14 _ _ ?_
     try clear hK_14 K_14
     refine W_cond _ rfl (fun h53 => ?_) (fun h53 => ?_)
     ·(try simp only [decide_eq_true_eq, decide_eq_false_iff_not, beq_iff_eq, bne_iff_ne, beq_eq_false_iff_ne, bne_eq_false_iff_eq, Bool.not_eq_true', Bool.not_eq_false'] at h53)
      have hYp : 0 < Y := len_pos h53
      refine W_skip ?_
      refine hK_13 _ _ ?_
      try clear hK_13 K_13
      refine W_block ?_
      refine W_seq (fun K_15 hK_15 => ?_)
      refine W_region_k (fun K1 hK1 => ?_)
      refine WL_q rfl (q_move rfl) ?_
      refine WL_q rfl (q_move rfl) ?_
      refine WL_r rfl (r_callsl2 en_86 rfl (fun w hw => skewbackref03_divide_ret vx vy X Y hYp (len_lt hb3.1) (len_lt hb3.2) w (SL.sl (hX.sub (.trans (List.sublist_append_left _ _) (List.sublist_append_right _ _))) hw) (SL.sl (hY.sub (List.sublist_append_left _ _)) hw)) (fun vq vr Lr hq hr => ?_))
      refine WL_q rfl (q_move rfl) ?_
      refine WL_q rfl (q_extract rfl rfl) ?_
      refine WL_q rfl (q_extract rfl rfl) ?_
      refine WL_q rfl (q_assign rfl) ?_
      refine WL_q rfl (q_assign rfl) ?_
      refine WL_nil (hK1 _ _ ?_)
      clear hK1 K1
      refine hK_15 _ _ ?_
      try clear hK_15 K_15
      refine W_seq (fun K_16 hK_16 => ?_)
      refine W_region_k (fun K1 hK1 => ?_)
      refine WL_q rfl (q_move rfl) ?_
      refine WL_q rfl (q_assign rfl) ?_
      refine WL_nil (hK1 _ _ ?_)
      clear hK1 K1
      refine hK_16 _ _ ?_
      try clear hK_16 K_16
      refine W_region_k (fun K1 hK1 => ?_)
      refine WL_q rfl (q_move rfl) ?_
      refine WL_q rfl (q_assign rfl) ?_
      refine WL_nil (hK1 _ _ ?_)
      clear hK1 K1
      refine ⟨(by repeat (first | exact .refl | refine .cons rfl ?_)), _, _, (List.Sublist.append (List.Sublist.refl _) (List.Sublist.append (List.Sublist.refl _) (List.sublist_append_right _ _))), (Nat.mod_lt _ hYp), Y, X % Y, vy, vr, Ly, Lr, ⟨?s10, ?s11⟩, ?mem, rfl, ⟨⟨hb3.2, Nat.lt_of_le_of_lt (Nat.mod_le _ _) hb3.1⟩, by rw [← hgc]; exact gcd_mod X Y, hY, hr⟩⟩
      case mem => rfl
      case s10 => rfl
      case s11 => rfl
     ·(try simp only [decide_eq_true_eq, decide_eq_false_iff_not, beq_iff_eq, bne_iff_ne, beq_eq_false_iff_ne, bne_eq_false_iff_eq, Bool.not_eq_true', Bool.not_eq_false'] at h53)
      have hY0 : Y = 0 := len_npos h53
      refine W_exit (thenK_x (thenK_x (blockK_hit ?_)))
      refine hK_12 _ _ ?_
      try clear hK_12 K_12
      refine W_seq (fun K_17 hK_17 => ?_)
      refine W_region_k (fun K1 hK1 => ?_)
      refine WL_q rfl (q_move rfl) ?_
      refine WL_q rfl (q_call en_60 rfl (fun w hw => skewbackref03_number_ret false _ _ (dl_DL _) (Nat.le_trans (len_lt hb3.1) (by decide)) w (SL.sl (hX.sub (.trans (List.sublist_append_left _ _) (List.sublist_append_right _ _))) hw))) ?_
      refine WL_r rfl (r_storew ty_28 rfl rfl (by repeat (first | exact .head _ | apply Upd.left | apply Upd.tail)) (enc_cells_len _) rfl (cells_plain _) (.inl (by assumption)) ?_)
      refine WL_nil (hK1 _ _ ?_)
      clear hK1 K1
      refine hK_17 _ _ ?_
      try clear hK_17 K_17
      refine W_ret ?_
      refine ret1 rfl (.inr rfl) ⟨_, _, _, _, _, _, rfl, (by repeat (first | exact .head _ | apply List.mem_append_right | apply List.Mem.tail)), ty_28, _, (takeAll (enc_cells_len _)), (enc_cells_len _), rfl⟩ ?_
      (rw [gcd_dl ha hb ga gb (by rw [← hgc, hY0, Nat.gcd_zero_right]), dv_dl]; rfl)
 ·skip
  refine WL_q rfl (q_move rfl) ?_
  refine WL_q rfl (q_pick rfl rfl) ?_
  refine WL_nil (hK1 _ _ ?_)
  clear hK1 K1
  refine hK_5 _ _ ?_
  try clear hK_5 K_5
  refine W_cond _ rfl (fun w2 => ?_) (fun w2 => ?_)
  ·(try simp only [decide_eq_true_eq, decide_eq_false_iff_not, beq_iff_eq, bne_iff_ne, beq_eq_false_iff_ne, bne_eq_false_iff_eq, Bool.not_eq_true', Bool.not_eq_false'] at w2)
   refine W_seq (fun K_18 hK_18 => ?_)
   refine W_block ?_
   refine W_loop_g [5, 7, 9, 28, 29, 30, 31, 32, 33, 34] (fun g nn M => ∃ (x y : Int), (g 5 = .int .i64 x ∧ g 7 = .int .i64 y) ∧ M = [⟨b4, 28, zR⟩, ⟨b3, 28, b.cells⟩, ⟨b2, 28, a.cells⟩] ∧ nn = y.natAbs ∧ ((-4611686018427387904 < x ∧ x < 4611686018427387904) ∧ (-4611686018427387904 < y ∧ y < 4611686018427387904) ∧ Int.gcd x y = Int.gcd (wordI a) (wordI b))) ((wordI b).natAbs) ?start ?round
   case start =>
    refine ⟨_, (List.Sublist.refl _), wordI a, wordI b, ⟨?a5, ?a7⟩, ?mem0, rfl, ⟨(word_dec ha w1).2.2.2, (word_dec hb w2).2.2.2, rfl⟩⟩
    case mem0 => rfl
    case a5 => rfl
    case a7 => rfl
   case round =>
    rintro nn g M ⟨x, y, ⟨hg5, hg7⟩, rfl, hmeas, ⟨hx, hy, hgc⟩⟩
    subst nn
    simp only [setG, hg5, hg7]
    clear hg5 hg7
    refine W_seq (fun K_19 hK_19 => ?_)
    refine W_seq (fun K_20 hK_20 => ?_)
    refine W_region_k (fun K1 hK1 => ?_)
    refine WL_q rfl (q_move rfl) ?_
    refine WL_q rfl (q_neq rfl rfl) ?_
    refine WL_nil (hK1 _ _ ?_)
    clear hK1 K1
    refine hK_20 _ _ ?_
    try clear hK_20 K_20
    refine W_cond _ rfl (fun h29 => ?_) (fun h29 => ?_)
    ·(try simp only [decide_eq_true_eq, decide_eq_false_iff_not, beq_iff_eq, bne_iff_ne, beq_eq_false_iff_ne, bne_eq_false_iff_eq, Bool.not_eq_true', Bool.not_eq_false'] at h29)
     refine W_skip ?_
     refine hK_19 _ _ ?_
     try clear hK_19 K_19
     refine W_block ?_
     refine W_seq (fun K_21 hK_21 => ?_)
     refine W_region_k (fun K1 hK1 => ?_)
     refine WL_q rfl (q_move rfl) ?_
     refine WL_q rfl (q_move rfl) ?_
     refine WL_q rfl (q_rem rfl rfl h29) ?_
     refine WL_q rfl (q_assign rfl) ?_
     refine WL_nil (hK1 _ _ ?_)
     clear hK1 K1
     refine hK_21 _ _ ?_
     try clear hK_21 K_21
     refine W_seq (fun K_22 hK_22 => ?_)
     refine W_region_k (fun K1 hK1 => ?_)
     refine WL_q rfl (q_move rfl) ?_
     refine WL_q rfl (q_assign rfl) ?_
     refine WL_nil (hK1 _ _ ?_)
     clear hK1 K1
     refine hK_22 _ _ ?_
     try clear hK_22 K_22
     refine W_region_k (fun K1 hK1 => ?_)
     refine WL_q rfl (q_move rfl) ?_
     refine WL_q rfl (q_assign rfl) ?_
     refine WL_nil (hK1 _ _ ?_)
     clear hK1 K1
     refine ⟨(by repeat (first | exact .refl | refine .cons rfl ?_)), _, _, (List.Sublist.refl _), (tdiv_facts (by simpa using h29)).1, y, x.tmod y, ⟨?s5, ?s7⟩, ?mem, rfl, ⟨hy, gw_mod hx, by rw [← hgc]; exact igcd_mod x y⟩⟩
     case mem => rfl
     case s5 => rfl
     case s7 => rfl
    ·(try simp only [decide_eq_true_eq, decide_eq_false_iff_not, beq_iff_eq, bne_iff_ne, beq_eq_false_iff_ne, bne_eq_false_iff_eq, Bool.not_eq_true', Bool.not_eq_false'] at h29)
     have hy0 : y = 0 := by simpa using h29
     refine W_exit (thenK_x (thenK_x (blockK_hit ?_)))
     refine hK_18 _ _ ?_
     try clear hK_18 K_18
     refine W_seq (fun K_23 hK_23 => ?_)
     refine W_region_k (fun K1 hK1 => ?_)
     refine WL_q rfl (q_move rfl) ?_
     refine WL_q rfl (q_ret en_22 (skewbackref03_Of_ret x (gw_I64 hx)) rfl) ?_
     refine WL_q rfl (q_ret en_85 (skewbackref03_Abs_ret (Z.of x).enc (Z.enc_ok _)) rfl) ?_
     refine WL_r rfl (r_storew ty_28 rfl rfl (by repeat (first | exact .head _ | apply Upd.left | apply Upd.tail)) (enc_cells_len _) rfl (cells_plain _) (.inl (by assumption)) ?_)
     refine WL_nil (hK1 _ _ ?_)
     clear hK1 K1
     refine hK_23 _ _ ?_
     try clear hK_23 K_23
     refine W_ret ?_
     refine thenK_r (ret1 rfl (.inr rfl) ⟨_, _, _, _, _, _, rfl, (by repeat (first | exact .head _ | apply List.mem_append_right | apply List.Mem.tail)), ty_28, _, (takeAll (enc_cells_len _)), (enc_cells_len _), rfl⟩ ?_)
     (rw [dec_enc, gcd_words ha hb w1 w2 hgc hy0]; rfl)
  ·(try simp only [decide_eq_true_eq, decide_eq_false_iff_not, beq_iff_eq, bne_iff_ne, beq_eq_false_iff_ne, bne_eq_false_iff_eq, Bool.not_eq_true', Bool.not_eq_false'] at w2)
   refine W_skip ?_
   refine hK_4 _ _ ?_
   try clear hK_4 K_4
   refine W_seq (fun K_24 hK_24 => ?_)
   refine W_seq (fun K_25 hK_25 => ?_)
   refine W_region_k (fun K1 hK1 => ?_)
   refine WL_q rfl (q_loadw ty_28 rfl (by repeat (first | exact .head _ | apply List.mem_append_right | apply List.Mem.tail)) (cells_len ha)) ?_
   refine WL_q rfl (q_ret en_57 (skewbackref03_Good_ret a ha) rfl) ?_
   refine WL_q rfl (q_not rfl) ?_
   refine WL_q rfl (q_move rfl) ?_
   cases ga : a.good
   ·skip
    refine WL_n rfl ?_
    refine WL_n rfl ?_
    refine WL_n rfl ?_
    refine WL_q rfl (q_pick rfl rfl) ?_
    refine WL_nil (hK1 _ _ ?_)
    clear hK1 K1
    refine hK_25 _ _ ?_
    try clear hK_25 K_25
    refine W_true rfl ?_
    refine W_seq (fun K_26 hK_26 => ?_)
    refine W_region_k (fun K1 hK1 => ?_)
    refine WL_q rfl (q_ret en_67 skewbackref03_Bad_ret rfl) ?_
    refine WL_r rfl (r_storew ty_28 rfl rfl (by repeat (first | exact .head _ | apply Upd.left | apply Upd.tail)) (enc_cells_len _) rfl (cells_plain _) (.inl (by assumption)) ?_)
    refine WL_nil (hK1 _ _ ?_)
    clear hK1 K1
    refine hK_26 _ _ ?_
    try clear hK_26 K_26
    refine W_ret ?_
    refine thenK_r (ret1 rfl (.inr rfl) ⟨_, _, _, _, _, _, rfl, (by repeat (first | exact .head _ | apply List.mem_append_right | apply List.Mem.tail)), ty_28, _, (takeAll (enc_cells_len _)), (enc_cells_len _), rfl⟩ ?_)
    (rw [Z.gcd, lift2_bad (.inl (bad1 ga))]; rfl)
   ·skip
    refine WL_q rfl (q_loadw ty_28 rfl (by repeat (first | exact .head _ | apply List.mem_append_right | apply List.Mem.tail)) (cells_len hb)) ?_
    refine WL_q rfl (q_ret en_57 (skewbackref03_Good_ret b hb) rfl) ?_
    refine WL_q rfl (q_not rfl) ?_
    refine WL_q rfl (q_pick rfl rfl) ?_
    refine WL_nil (hK1 _ _ ?_)
    clear hK1 K1
    refine hK_25 _ _ ?_
    try clear hK_25 K_25
    refine W_cond _ rfl (fun gb => ?_) (fun gb => ?_)
    ·(try simp only [decide_eq_true_eq, decide_eq_false_iff_not, beq_iff_eq, bne_iff_ne, beq_eq_false_iff_ne, bne_eq_false_iff_eq, Bool.not_eq_true', Bool.not_eq_false'] at gb)
     refine W_seq (fun K_27 hK_27 => ?_)
     refine W_region_k (fun K1 hK1 => ?_)
     refine WL_q rfl (q_ret en_67 skewbackref03_Bad_ret rfl) ?_
     refine WL_r rfl (r_storew ty_28 rfl rfl (by repeat (first | exact .head _ | apply Upd.left | apply Upd.tail)) (enc_cells_len _) rfl (cells_plain _) (.inl (by assumption)) ?_)
     refine WL_nil (hK1 _ _ ?_)
     clear hK1 K1
     refine hK_27 _ _ ?_
     try clear hK_27 K_27
     refine W_ret ?_
     refine thenK_r (ret1 rfl (.inr rfl) ⟨_, _, _, _, _, _, rfl, (by repeat (first | exact .head _ | apply List.mem_append_right | apply List.Mem.tail)), ty_28, _, (takeAll (enc_cells_len _)), (enc_cells_len _), rfl⟩ ?_)
     (rw [Z.gcd, lift2_bad (.inr (bad1 gb))]; rfl)
    ·(try simp only [decide_eq_true_eq, decide_eq_false_iff_not, beq_iff_eq, bne_iff_ne, beq_eq_false_iff_ne, bne_eq_false_iff_eq, Bool.not_eq_true', Bool.not_eq_false'] at gb)
     refine W_skip ?_
     refine hK_24 _ _ ?_
     try clear hK_24 K_24
     refine W_seq (fun K_28 hK_28 => ?_)
     refine W_region_k (fun K1 hK1 => ?_)
     refine WL_q rfl (q_loadw ty_28 rfl (by repeat (first | exact .head _ | apply List.mem_append_right | apply List.Mem.tail)) (cells_len ha)) ?_
     refine WL_r rfl (r_callslf en_58 rfl (fun w hw => skewbackref03_digits_ret a ha w) (fun v5 L5 h5 => ?_))
     refine WL_q rfl (q_assign rfl) ?_
     refine WL_nil (hK1 _ _ ?_)
     clear hK1 K1
     refine hK_28 _ _ ?_
     try clear hK_28 K_28
     refine W_seq (fun K_29 hK_29 => ?_)
     refine W_region_k (fun K1 hK1 => ?_)
     refine WL_q rfl (q_loadw ty_28 rfl (by repeat (first | exact .head _ | apply List.mem_append_right | apply List.Mem.tail)) (cells_len hb)) ?_
     refine WL_r rfl (r_callslf en_58 rfl (fun w hw => skewbackref03_digits_ret b hb w) (fun v6 L6 h6 => ?_))
     refine WL_q rfl (q_assign rfl) ?_
     refine WL_nil (hK1 _ _ ?_)
     clear hK1 K1
     refine hK_29 _ _ ?_
     try clear hK_29 K_29
     refine W_seq (fun K_30 hK_30 => ?_)
     refine W_block ?_
     refine W_loop_g [10, 11, 12, 13, 51, 52, 53, 54, 55, 56, 57, 58, 59, 60, 61] (fun g nn M => ∃ (X Y : Nat) (vx vy : Value) (Lx Ly : List Blk), (g 10 = vx ∧ g 11 = vy) ∧ M = Ly ++ (Lx ++ [⟨b4, 28, zR⟩, ⟨b3, 28, b.cells⟩, ⟨b2, 28, a.cells⟩]) ∧ nn = Y ∧ ((X < 65536 ^ 32 ∧ Y < 65536 ^ 32) ∧ Nat.gcd X Y = Nat.gcd (val a.w) (val b.w) ∧ SL w0 [] Lx vx (dl X) ∧ SL w0 [] Ly vy (dl Y))) (val b.w) ?start ?round
     case start =>
      refine ⟨_, (List.Sublist.refl _), val a.w, val b.w, v5, v6, L5, L6, ⟨?a10, ?a11⟩, ?mem0, rfl, ⟨⟨lt32' ha, lt32' hb⟩, rfl, h5.sl, h6.sl⟩⟩
      case mem0 => rfl
      case a10 => rfl
      case a11 => rfl
     case round =>
      rintro nn g M ⟨X, Y, vx, vy, Lx, Ly, ⟨hg10, hg11⟩, rfl, hmeas, ⟨hb3, hgc, hX, hY⟩⟩
      subst nn
      simp only [setG, hg10, hg11]
      clear hg10 hg11
      refine W_seq (fun K_31 hK_31 => ?_)
      refine W_seq (fun K_32 hK_32 => ?_)
      refine W_region_k (fun K1 hK1 => ?_)
      refine WL_q rfl (q_move rfl) ?_
      refine WL_q rfl (q_lenl sl_70 rfl (hY.sub (List.sublist_append_left _ _))) ?_
      refine WL_q rfl (q_gtr rfl rfl) ?_
      refine WL_nil (hK1 _ _ ?_)
      clear hK1 K1
      refine hK_32 _ _ ?_
      try clear hK_32 K_32
      refine W_cond _ rfl (fun h53 => ?_) (fun h53 => ?_)
      ·(try simp only [decide_eq_true_eq, decide_eq_false_iff_not, beq_iff_eq, bne_iff_ne, beq_eq_false_iff_ne, bne_eq_false_iff_eq, Bool.not_eq_true', Bool.not_eq_false'] at h53)
       have hYp : 0 < Y := len_pos h53
       refine W_skip ?_
       refine hK_31 _ _ ?_
       try clear hK_31 K_31
       refine W_block ?_
       refine W_seq (fun K_33 hK_33 => ?_)
       refine W_region_k (fun K1 hK1 => ?_)
       refine WL_q rfl (q_move rfl) ?_
       refine WL_q rfl (q_move rfl) ?_
       refine WL_r rfl (r_callsl2 en_86 rfl (fun w hw => skewbackref03_divide_ret vx vy X Y hYp (len_lt hb3.1) (len_lt hb3.2) w (SL.sl (hX.sub (.trans (List.sublist_append_left _ _) (List.sublist_append_right _ _))) hw) (SL.sl (hY.sub (List.sublist_append_left _ _)) hw)) (fun vq vr Lr hq hr => ?_))
       refine WL_q rfl (q_move rfl) ?_
       refine WL_q rfl (q_extract rfl rfl) ?_
       refine WL_q rfl (q_extract rfl rfl) ?_
       refine WL_q rfl (q_assign rfl) ?_
       refine WL_q rfl (q_assign rfl) ?_
       refine WL_nil (hK1 _ _ ?_)
       clear hK1 K1
       refine hK_33 _ _ ?_
       try clear hK_33 K_33
       refine W_seq (fun K_34 hK_34 => ?_)
       refine W_region_k (fun K1 hK1 => ?_)
       refine WL_q rfl (q_move rfl) ?_
       refine WL_q rfl (q_assign rfl) ?_
       refine WL_nil (hK1 _ _ ?_)
       clear hK1 K1
       refine hK_34 _ _ ?_
       try clear hK_34 K_34
       refine W_region_k (fun K1 hK1 => ?_)
       refine WL_q rfl (q_move rfl) ?_
       refine WL_q rfl (q_assign rfl) ?_
       refine WL_nil (hK1 _ _ ?_)
       clear hK1 K1
       refine ⟨(by repeat (first | exact .refl | refine .cons rfl ?_)), _, _, (List.Sublist.append (List.Sublist.refl _) (List.Sublist.append (List.Sublist.refl _) (List.sublist_append_right _ _))), (Nat.mod_lt _ hYp), Y, X % Y, vy, vr, Ly, Lr, ⟨?s10, ?s11⟩, ?mem, rfl, ⟨⟨hb3.2, Nat.lt_of_le_of_lt (Nat.mod_le _ _) hb3.1⟩, by rw [← hgc]; exact gcd_mod X Y, hY, hr⟩⟩
       case mem => rfl
       case s10 => rfl
       case s11 => rfl
      ·(try simp only [decide_eq_true_eq, decide_eq_false_iff_not, beq_iff_eq, bne_iff_ne, beq_eq_false_iff_ne, bne_eq_false_iff_eq, Bool.not_eq_true', Bool.not_eq_false'] at h53)
       have hY0 : Y = 0 := len_npos h53
       refine W_exit (thenK_x (thenK_x (blockK_hit ?_)))
       refine hK_30 _ _ ?_
       try clear hK_30 K_30
       refine W_seq (fun K_35 hK_35 => ?_)
       refine W_region_k (fun K1 hK1 => ?_)
       refine WL_q rfl (q_move rfl) ?_
       refine WL_q rfl (q_call en_60 rfl (fun w hw => skewbackref03_number_ret false _ _ (dl_DL _) (Nat.le_trans (len_lt hb3.1) (by decide)) w (SL.sl (hX.sub (.trans (List.sublist_append_left _ _) (List.sublist_append_right _ _))) hw))) ?_
       refine WL_r rfl (r_storew ty_28 rfl rfl (by repeat (first | exact .head _ | apply Upd.left | apply Upd.tail)) (enc_cells_len _) rfl (cells_plain _) (.inl (by assumption)) ?_)
       refine WL_nil (hK1 _ _ ?_)
       clear hK1 K1
       refine hK_35 _ _ ?_
       try clear hK_35 K_35
       refine W_ret ?_
       refine ret1 rfl (.inr rfl) ⟨_, _, _, _, _, _, rfl, (by repeat (first | exact .head _ | apply List.mem_append_right | apply List.Mem.tail)), ty_28, _, (takeAll (enc_cells_len _)), (enc_cells_len _), rfl⟩ ?_
       (rw [gcd_dl ha hb ga gb (by rw [← hgc, hY0, Nat.gcd_zero_right]), dv_dl]; rfl)
end Go.Proofs.Ythbjhbmpfeeilaa
