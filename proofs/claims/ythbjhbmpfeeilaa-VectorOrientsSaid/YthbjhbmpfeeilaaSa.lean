/- Walks: what these functions return. -/
import Derived.Test.YthbjhbmpfeeilaaFa0
namespace Go.Proofs.Ythbjhbmpfeeilaa
open Go.Kn Go.Num
set_option linter.unusedVariables false
set_option linter.unusedSimpArgs false
set_option maxRecDepth 20000
set_option maxHeartbeats 8000000
theorem skewbackref03_digit_ret (va : Value) (l : List Nat) (k : Nat) (w : World) (hva : Sl w va l) :
    Calls Try.prog 93 [va, .int .i64 (k : Int)].toArray w (fun e w' => e = .returned (.int .i64 ((l.getD k 0 : Nat) : Int)) ∧ Ext w w') := by
 refine callsq_of_W (N := 13) Try.func93 rfl rfl (by simp) ?_
 obtain ⟨w0, rfl⟩ : ∃ w0, w0 = w := ⟨_, rfl⟩
 simp only [initF, Nat.reduceAdd]
 refine W_seq (fun K_1 hK_1 => ?_)
 refine W_region_k (fun K1 hK1 => ?_)
 refine WL_q rfl (q_assign rfl) ?_
 refine WL_nil (hK1 _ _ ?_)
 clear hK1 K1
 refine hK_1 _ _ ?_
 try clear hK_1 K_1
 refine W_seq (fun K_2 hK_2 => ?_)
 refine W_seq (fun K_3 hK_3 => ?_)
 refine W_region_k (fun K1 hK1 => ?_)
 refine WL_q rfl (q_move rfl) ?_
 refine WL_q rfl (q_move rfl) ?_
 refine WL_q rfl (q_lenl sl_70 rfl hva.old) ?_
 refine WL_q rfl (q_lss rfl rfl) ?_
 refine WL_nil (hK1 _ _ ?_)
 clear hK1 K1
 refine hK_3 _ _ ?_
 try clear hK_3 K_3
 refine W_cond _ rfl (fun hk => ?_) (fun hk => ?_)
 ·(try simp only [decide_eq_true_eq, decide_eq_false_iff_not, beq_iff_eq, bne_iff_ne, beq_eq_false_iff_ne, bne_eq_false_iff_eq, Bool.not_eq_true', Bool.not_eq_false'] at hk)
  refine W_seq (fun K_4 hK_4 => ?_)
  refine W_region_k (fun K1 hK1 => ?_)
  refine WL_q rfl (q_move rfl) ?_
  refine WL_q rfl (q_move rfl) ?_
  refine WL_q rfl (q_idxl sl_70 rfl rfl hva.old (by omega)) ?_
  refine WL_q rfl (q_loadl ty_3 rfl hva.old (by omega)) ?_
  refine WL_q rfl (q_assign rfl) ?_
  refine WL_nil (hK1 _ _ ?_)
  clear hK1 K1
  refine hK_4 _ _ ?_
  try clear hK_4 K_4
  refine W_ret ?_
  refine thenK_r (ret1 rfl (.inr rfl) rfl ?_)
  exact rfl
 ·(try simp only [decide_eq_true_eq, decide_eq_false_iff_not, beq_iff_eq, bne_iff_ne, beq_eq_false_iff_ne, bne_eq_false_iff_eq, Bool.not_eq_true', Bool.not_eq_false'] at hk)
  refine W_skip ?_
  refine hK_2 _ _ ?_
  try clear hK_2 K_2
  refine W_seq (fun K_5 hK_5 => ?_)
  refine W_region_k (fun K1 hK1 => ?_)
  refine WL_q rfl (q_assign rfl) ?_
  refine WL_nil (hK1 _ _ ?_)
  clear hK1 K1
  refine hK_5 _ _ ?_
  try clear hK_5 K_5
  refine W_ret ?_
  refine ret1 rfl (.inr rfl) rfl ?_
  exact congrArg (fun n : Nat => Value.int .i64 (n : Int)) (show 0 = l.getD k 0 by simp [List.getD, List.getElem?_eq_none (show l.length ≤ k by omega)])

theorem skewbackref03_trim_ret (va : Value) (l : List Nat) (hD : DL l) (hn : l.length ≤ 1000) (w : World) (hva : Sl w va l) :
    Calls Try.prog 92 [va].toArray w (fun e w' => e = .returned (sls va (dl (dv l)).length) ∧ Ext w w') := by
 refine callsq_of_W (N := 21) Try.func92 rfl rfl (by simp) ?_
 obtain ⟨w0, rfl⟩ : ∃ w0, w0 = w := ⟨_, rfl⟩
 simp only [initF, Nat.reduceAdd]
 refine W_seq (fun K_1 hK_1 => ?_)
 refine W_region_k (fun K1 hK1 => ?_)
 refine WL_q rfl (q_assign rfl) ?_
 refine WL_nil (hK1 _ _ ?_)
 clear hK1 K1
 refine hK_1 _ _ ?_
 try clear hK_1 K_1
 refine W_seq (fun K_2 hK_2 => ?_)
 refine W_region_k (fun K1 hK1 => ?_)
 refine WL_q rfl (q_move rfl) ?_
 refine WL_q rfl (q_lenl sl_70 rfl hva.old) ?_
 refine WL_q rfl (q_assign rfl) ?_
 refine WL_nil (hK1 _ _ ?_)
 clear hK1 K1
 refine hK_2 _ _ ?_
 try clear hK_2 K_2
 refine W_seq (fun K_3 hK_3 => ?_)
 refine W_block ?_
 refine W_loop_g [3, 6, 7, 8, 9, 10, 11, 12, 13, 14, 15, 16, 17] (fun g nn M => ∃ (k : Nat), (g 3 = .int .i64 (k : Int)) ∧ M = [] ∧ nn = k + 0 ∧ (k ≤ l.length ∧ ∀ j, k ≤ j → l.getD j 0 = 0)) (l.length) ?start ?round
 case start =>
  refine ⟨_, (List.Sublist.refl _), l.length, ?a3, ?mem0, rfl, ⟨Nat.le_refl _, fun j hj => by simp [List.getD, List.getElem?_eq_none (show l.length ≤ j by omega)]⟩⟩
  case mem0 => rfl
  case a3 => rfl
 case round =>
  rintro nn g M ⟨k, hg3, rfl, hmeas, ⟨hk, hhi⟩⟩
  subst nn
  simp only [setG, hg3]
  clear hg3
  refine W_seq (fun K_4 hK_4 => ?_)
  refine W_seq (fun K_5 hK_5 => ?_)
  refine W_region_k (fun K1 hK1 => ?_)
  refine WL_q rfl (q_move rfl) ?_
  refine WL_q rfl (q_gtr rfl rfl) ?_
  refine WL_q rfl (q_move rfl) ?_
  cases hz : decide ((0 : Int) < (k : Int))
  ·skip
   refine WL_n rfl ?_
   refine WL_n rfl ?_
   refine WL_n rfl ?_
   refine WL_n rfl ?_
   refine WL_n rfl ?_
   refine WL_n rfl ?_
   refine WL_q rfl (q_pick rfl rfl) ?_
   refine WL_nil (hK1 _ _ ?_)
   clear hK1 K1
   refine hK_5 _ _ ?_
   try clear hK_5 K_5
   refine W_false rfl ?_
   refine W_exit (thenK_x (thenK_x (blockK_hit ?_)))
   refine hK_3 _ _ ?_
   try clear hK_3 K_3
   refine W_seq (fun K_6 hK_6 => ?_)
   refine W_region_k (fun K1 hK1 => ?_)
   refine WL_q rfl (q_move rfl) ?_
   refine WL_q rfl (q_move rfl) ?_
   refine WL_q rfl (q_slcl sl_70 rfl rfl hva.old (by omega)) ?_
   refine WL_q rfl (q_assign rfl) ?_
   refine WL_nil (hK1 _ _ ?_)
   clear hK1 K1
   refine hK_6 _ _ ?_
   try clear hK_6 K_6
   refine W_ret ?_
   refine ret1 rfl (.inr rfl) rfl ?_
   rw [trim_len hD, szL_eq hhi (.inl (by have := of_decide_eq_false hz; omega))]
  ·skip
   have hz' := of_decide_eq_true hz
   obtain ⟨m, rfl⟩ : ∃ m, k = m + 1 := ⟨k - 1, by omega⟩
   refine WL_q rfl (q_move rfl) ?_
   refine WL_q rfl (q_move rfl) ?_
   refine WL_q rfl (q_as (q_sub rfl rfl) (congrArg (Value.int .i64) (pred_i64 (by omega)))) ?_
   refine WL_q rfl (q_idxl sl_70 rfl rfl hva.old (by omega)) ?_
   refine WL_q rfl (q_loadl ty_3 rfl hva.old (by omega)) ?_
   refine WL_q rfl (q_eql rfl rfl) ?_
   refine WL_q rfl (q_pick rfl rfl) ?_
   refine WL_nil (hK1 _ _ ?_)
   clear hK1 K1
   refine hK_5 _ _ ?_
   try clear hK_5 K_5
   refine W_cond _ rfl (fun h0 => ?_) (fun h0 => ?_)
   ·(try simp only [decide_eq_true_eq, decide_eq_false_iff_not, beq_iff_eq, bne_iff_ne, beq_eq_false_iff_ne, bne_eq_false_iff_eq, Bool.not_eq_true', Bool.not_eq_false'] at h0)
    refine W_skip ?_
    refine hK_4 _ _ ?_
    try clear hK_4 K_4
    refine W_block ?_
    refine W_region_k (fun K1 hK1 => ?_)
    refine WL_q rfl (q_move rfl) ?_
    refine WL_q rfl (q_as (q_sub rfl rfl) (congrArg (Value.int .i64) (pred_i64 (by omega)))) ?_
    refine WL_q rfl (q_assign rfl) ?_
    refine WL_nil (hK1 _ _ ?_)
    clear hK1 K1
    refine ⟨(by repeat (first | exact .refl | refine .cons rfl ?_)), _, _, (List.Sublist.refl _), (by omega), m, ?s3, ?mem, rfl, ⟨by omega, fun j hj => by rcases Nat.eq_or_lt_of_le hj with rfl | hj; omega; exact hhi j hj⟩⟩
    case mem => rfl
    case s3 => rfl
   ·(try simp only [decide_eq_true_eq, decide_eq_false_iff_not, beq_iff_eq, bne_iff_ne, beq_eq_false_iff_ne, bne_eq_false_iff_eq, Bool.not_eq_true', Bool.not_eq_false'] at h0)
    refine W_exit (thenK_x (thenK_x (blockK_hit ?_)))
    refine hK_3 _ _ ?_
    try clear hK_3 K_3
    refine W_seq (fun K_7 hK_7 => ?_)
    refine W_region_k (fun K1 hK1 => ?_)
    refine WL_q rfl (q_move rfl) ?_
    refine WL_q rfl (q_move rfl) ?_
    refine WL_q rfl (q_slcl sl_70 rfl rfl hva.old (by omega)) ?_
    refine WL_q rfl (q_assign rfl) ?_
    refine WL_nil (hK1 _ _ ?_)
    clear hK1 K1
    refine hK_7 _ _ ?_
    try clear hK_7 K_7
    refine W_ret ?_
    refine ret1 rfl (.inr rfl) rfl ?_
    rw [trim_len hD, szL_eq hhi (.inr (by simp only [Nat.add_sub_cancel]; omega))]

theorem skewbackref03_digits_ret (a : R) (ha : a.Ok) (w : World)  :
    Calls Try.prog 58 [RV a].toArray w (fun e w' => ∃ v, e = .returned v ∧ Ext w w' ∧ Slf w.heap.size w' v (dl (val a.w))) := by
 refine callssl_of_W (N := 26) Try.func58 rfl rfl (by simp) ?_
 obtain ⟨w0, rfl⟩ : ∃ w0, w0 = w := ⟨_, rfl⟩
 simp only [initF, Nat.reduceAdd]
 refine W_seq (fun K_1 hK_1 => ?_)
 refine W_region_k (fun K1 hK1 => ?_)
 refine WL_r rfl (r_box rfl rfl (fun b1 hb1 => ?_))
 refine WL_q rfl (q_assign rfl) ?_
 refine WL_nil (hK1 _ _ ?_)
 clear hK1 K1
 refine hK_1 _ _ ?_
 try clear hK_1 K_1
 refine W_seq (fun K_2 hK_2 => ?_)
 refine W_region_k (fun K1 hK1 => ?_)
 refine WL_q rfl (q_assign rfl) ?_
 refine WL_nil (hK1 _ _ ?_)
 clear hK1 K1
 refine hK_2 _ _ ?_
 try clear hK_2 K_2
 refine W_seq (fun K_3 hK_3 => ?_)
 refine W_seq (fun K_4 hK_4 => ?_)
 refine W_region_k (fun K1 hK1 => ?_)
 refine WL_q rfl (q_assign rfl) ?_
 refine WL_nil (hK1 _ _ ?_)
 clear hK1 K1
 refine hK_4 _ _ ?_
 try clear hK_4 K_4
 refine W_block ?_
 refine W_loop_g [3, 4, 5, 6, 7, 8, 9, 10, 11, 12, 13, 14, 15, 16, 17, 18, 19, 20, 21, 22, 23] (fun g nn M => ∃ (k : Nat) (v : Value) (l : List Nat) (L : List Blk), (g 3 = v ∧ g 4 = .int .i64 (k : Int)) ∧ M = L ++ [⟨b1, 28, a.cells⟩] ∧ nn = 16 - k ∧ (k ≤ 16 ∧ Own w0 3 v l L ∧ DL l ∧ l.length = 2 * k ∧ dv l = val a.w % 4294967296 ^ k)) (16) ?start ?round
 case start =>
  refine ⟨_, (List.Sublist.refl _), 0, _, [], [], ⟨?a3, ?a4⟩, ?mem0, rfl, ⟨Nat.zero_le _, .nil, DL.nil, rfl, by simp [dv, Nat.mod_one]⟩⟩
  case mem0 => rfl
  case a3 => rfl
  case a4 => rfl
 case round =>
  rintro nn g M ⟨k, v, l, L, ⟨hg3, hg4⟩, rfl, hmeas, ⟨hk, hO, hD, hlen, hdv⟩⟩
  subst nn
  simp only [setG, hg3, hg4]
  clear hg3 hg4
  refine W_seq (fun K_5 hK_5 => ?_)
  refine W_seq (fun K_6 hK_6 => ?_)
  refine W_region_k (fun K1 hK1 => ?_)
  refine WL_q rfl (q_move rfl) ?_
  refine WL_q rfl (q_lss rfl rfl) ?_
  refine WL_nil (hK1 _ _ ?_)
  clear hK1 K1
  refine hK_6 _ _ ?_
  try clear hK_6 K_6
  refine W_cond _ rfl (fun hc => ?_) (fun hc => ?_)
  ·(try simp only [decide_eq_true_eq, decide_eq_false_iff_not, beq_iff_eq, bne_iff_ne, beq_eq_false_iff_ne, bne_eq_false_iff_eq, Bool.not_eq_true', Bool.not_eq_false'] at hc)
   have hc : k < 16 := by omega
   refine W_skip ?_
   refine hK_5 _ _ ?_
   try clear hK_5 K_5
   refine W_seq (fun K_7 hK_7 => ?_)
   refine W_block ?_
   refine W_draw sn (.quiet 0 [14, 15] (.quiet 1 [3, 4, 5, 6, 13, 14, 15] (.quiet 2 [3, 4, 5, 6, 13, 14, 15] (.quiet 3 [4, 5, 6, 13, 14, 15] (.quiet 4 [5, 6, 13, 14, 15] (.quiet 5 [6, 13, 14, 15] (.quiet 6 [13, 14, 15] (.quiet 7 [9, 10, 11, 12, 13, 14, 15] (.quiet 8 [9, 10, 11, 12, 13, 14, 15] (.quiet 9 [10, 11, 12, 13, 14, 15] (.quiet 10 [11, 12, 13, 14, 15] (.quiet 11 [12, 13, 14, 15] (.quiet 12 [13, 14, 15] (.only 13 (.only 14 (.quiet 15 [] (.fin))))))))))))))))) [0, 1, 2, 3, 4, 5, 6, 7, 8, 9, 10, 11, 12, 13, 15] mix (by kernel_rfl) (by kernel_rfl) (fun K1 hK1 => ?_)
   refine PL_q rfl rfl (q_move rfl) ?_
   refine PL_q rfl rfl (q_move rfl) ?_
   refine PL_q rfl rfl (q_faddr fd_28_2 (by decide) rfl) ?_
   refine PL_q rfl rfl (q_idxa ar_26 rfl rfl (by omega) (by omega)) ?_
   refine PL_q rfl rfl (q_load ty_25 rfl (by repeat (first | exact .head _ | apply List.mem_append_right | apply List.Mem.tail)) (cellsAt (r := a) (k := k) (by rw [ha.len]; omega))) ?_
   refine PL_q rfl rfl (q_rem rfl rfl (by decide)) ?_
   refine PL_q rfl rfl (q_as (q_conv in_25 in_3 rfl) (rem16 (getD_lt ha.lim k))) ?_
   refine PL_q rfl rfl (q_move rfl) ?_
   refine PL_q rfl rfl (q_faddr fd_28_2 (by decide) rfl) ?_
   refine PL_q rfl rfl (q_idxa ar_26 rfl rfl (by omega) (by omega)) ?_
   refine PL_q rfl rfl (q_load ty_25 rfl (by repeat (first | exact .head _ | apply List.mem_append_right | apply List.Mem.tail)) (cellsAt (r := a) (k := k) (by rw [ha.len]; omega))) ?_
   refine PL_q rfl rfl (q_quo rfl rfl (by decide)) ?_
   refine PL_q rfl rfl (q_as (q_conv in_25 in_3 rfl) (quo16 (getD_lt ha.lim k))) ?_
   refine PL_o rfl rfl (r_bslice us_70 z_3 sz_3 rfl (by decide) rfl (fillI2 _ _) (fun b22 hb22 => ⟨(fun _ => by first | exact sd s0 | exact s0), (by repeat (first | exact s0 | exact sn | refine sk ?_ | refine sd ?_ | refine sA ?_ | refine sR ?_)), ?_⟩))
   refine PL_o rfl rfl (r_append us_70 on_3 rfl rfl hO (SL.mine (l := [a.w.getD k 0 % 65536, a.w.getD k 0 / 65536]) (.head _) (Nat.le_refl _)) (List.sublist_cons_self _ _) (by simp; omega) (fun v' L' hO' => ⟨nf, (by repeat (first | exact s0 | exact sn | refine sk ?_ | refine sd ?_ | refine sA ?_ | refine sR ?_)), ?_⟩))
   refine PL_q rfl rfl (q_assign rfl) ?_
   refine PL_fin (hK1 _ _ ?_)
   clear hK1 K1
   refine hK_7 _ _ ?_
   try clear hK_7 K_7
   refine W_region_k (fun K1 hK1 => ?_)
   refine WL_q rfl (q_move rfl) ?_
   refine WL_q rfl (q_as (q_add rfl rfl) (congrArg (Value.int .i64) (succ_i64 (by omega)))) ?_
   refine WL_q rfl (q_assign rfl) ?_
   refine WL_nil (hK1 _ _ ?_)
   clear hK1 K1
   refine ⟨(by repeat (first | exact .refl | refine .cons rfl ?_)), _, _, (List.Sublist.refl _), (by omega), k + 1, _, _, _, ⟨?s3, ?s4⟩, ?mem, rfl, ⟨by omega, hO', hD.append (DL.two (getD_lt ha.lim k)), by simp [hlen]; omega, digits_step ha.lim hlen hdv⟩⟩
   case mem => rfl
   case s3 => rfl
   case s4 => rfl
  ·(try simp only [decide_eq_true_eq, decide_eq_false_iff_not, beq_iff_eq, bne_iff_ne, beq_eq_false_iff_ne, bne_eq_false_iff_eq, Bool.not_eq_true', Bool.not_eq_false'] at hc)
   obtain rfl : k = 16 := by omega
   refine W_exit (thenK_x (thenK_x (blockK_hit ?_)))
   refine hK_3 _ _ ?_
   try clear hK_3 K_3
   refine W_seq (fun K_8 hK_8 => ?_)
   refine W_region_k (fun K1 hK1 => ?_)
   refine WL_q rfl (q_move rfl) ?_
   refine WL_q rfl (q_call en_92 rfl (fun w hw => skewbackref03_trim_ret v l hD (by omega) w (SL.sl (hO.sl (List.sublist_append_left _ _)) hw))) ?_
   refine WL_q rfl (q_assign rfl) ?_
   refine WL_nil (hK1 _ _ ?_)
   clear hK1 K1
   refine hK_8 _ _ ?_
   try clear hK_8 K_8
   refine W_ret ?_
   refine ret1 rfl (.inr rfl) rfl ?_
   exact trimmed hD (by rw [hdv, digits_all ha]) (hO.slf (List.sublist_append_left _ _))

theorem skewbackref03_Bad_ret  :
    Ret Try.prog 67 [] (RV Z.bad.enc) := by
 refine ret_of_W (N := 2) Try.func67 rfl rfl (by simp) (fun w0 => ?_)
 simp only [initF, Nat.reduceAdd]
 refine W_seq (fun K_1 hK_1 => ?_)
 refine W_region_k (fun K1 hK1 => ?_)
 refine WL_r rfl (r_alloc z_28 (fun b0 hb0 => ?_))
 refine WL_nil (hK1 _ _ ?_)
 clear hK1 K1
 refine hK_1 _ _ ?_
 try clear hK_1 K_1
 refine W_seq (fun K_2 hK_2 => ?_)
 refine W_region_k (fun K1 hK1 => ?_)
 refine WL_q rfl (q_builds z_28 pl_28 rfl (.cons rfl (vs := [.bool true]) rfl rfl (by simp [zR]) (z' := Z.bad.enc.cells) rfl (.nil _))) ?_
 refine WL_r rfl (r_storew ty_28 rfl rfl (by repeat (first | exact .head _ | apply Upd.left | apply Upd.tail)) rfl rfl (cells_plain Z.bad.enc) (.inl (by assumption)) ?_)
 refine WL_nil (hK1 _ _ ?_)
 clear hK1 K1
 refine hK_2 _ _ ?_
 try clear hK_2 K_2
 refine W_ret ?_
 refine ret1 rfl (.inr rfl) ⟨_, _, _, _, _, _, rfl, (by repeat (first | exact .head _ | apply List.mem_append_right | apply List.Mem.tail)), ty_28, _, (takeAll rfl), rfl, rfl⟩ ?_
 exact rfl

theorem skewbackref03_Valid_ret (r : R) (h : r.Ok) :
    Ret Try.prog 91 [RV r] (.bool r.valid) := by
 refine ret_of_W (N := 32) Try.func91 rfl rfl (by simp) (fun w0 => ?_)
 simp only [initF, Nat.reduceAdd]
 refine W_seq (fun K_1 hK_1 => ?_)
 refine W_region_k (fun K1 hK1 => ?_)
 refine WL_r rfl (r_box rfl rfl (fun b1 hb1 => ?_))
 refine WL_q rfl (q_assign rfl) ?_
 refine WL_nil (hK1 _ _ ?_)
 clear hK1 K1
 refine hK_1 _ _ ?_
 try clear hK_1 K_1
 refine W_seq (fun K_2 hK_2 => ?_)
 refine W_region_k (fun K1 hK1 => ?_)
 refine WL_q rfl (q_assign rfl) ?_
 refine WL_nil (hK1 _ _ ?_)
 clear hK1 K1
 refine hK_2 _ _ ?_
 try clear hK_2 K_2
 refine W_seq (fun K_3 hK_3 => ?_)
 refine W_seq (fun K_4 hK_4 => ?_)
 refine W_region_k (fun K1 hK1 => ?_)
 refine WL_q rfl (q_assign rfl) ?_
 refine WL_nil (hK1 _ _ ?_)
 clear hK1 K1
 refine hK_4 _ _ ?_
 try clear hK_4 K_4
 refine W_block ?_
 refine W_loop_g [3, 4, 5, 6, 7, 8, 9, 10, 11, 12, 13, 14, 15, 16] (fun g nn M => ∃ (k : Nat) (z : Bool), (g 3 = .bool z ∧ g 4 = .int .i64 (k : Int)) ∧ M = [⟨b1, 28, r.cells⟩] ∧ nn = 16 - k ∧ (k ≤ 16 ∧ (z = true ↔ ∀ j, j < k → r.w.getD j 0 = 0))) (16) ?start ?round
 case start =>
  refine ⟨_, (List.Sublist.refl _), 0, true, ⟨?a3, ?a4⟩, ?mem0, rfl, ⟨Nat.zero_le _, ⟨fun _ j hj => by omega, fun _ => rfl⟩⟩⟩
  case mem0 => rfl
  case a3 => rfl
  case a4 => rfl
 case round =>
  rintro nn g M ⟨k, z, ⟨hg3, hg4⟩, rfl, hmeas, ⟨hk, hz⟩⟩
  subst nn
  simp only [setG, hg3, hg4]
  clear hg3 hg4
  refine W_seq (fun K_5 hK_5 => ?_)
  refine W_seq (fun K_6 hK_6 => ?_)
  refine W_region_k (fun K1 hK1 => ?_)
  refine WL_q rfl (q_move rfl) ?_
  refine WL_q rfl (q_lss rfl rfl) ?_
  refine WL_nil (hK1 _ _ ?_)
  clear hK1 K1
  refine hK_6 _ _ ?_
  try clear hK_6 K_6
  refine W_cond _ rfl (fun hc => ?_) (fun hc => ?_)
  ·(try simp only [decide_eq_true_eq, decide_eq_false_iff_not, beq_iff_eq, bne_iff_ne, beq_eq_false_iff_ne, bne_eq_false_iff_eq, Bool.not_eq_true', Bool.not_eq_false'] at hc)
   have hc : k < 16 := by omega
   refine W_skip ?_
   refine hK_5 _ _ ?_
   try clear hK_5 K_5
   refine W_seq (fun K_7 hK_7 => ?_)
   refine W_block ?_
   refine W_region_k (fun K1 hK1 => ?_)
   refine WL_q rfl (q_move rfl) ?_
   refine WL_q rfl (q_move rfl) ?_
   cases z
   ·skip
    refine WL_n rfl ?_
    refine WL_n rfl ?_
    refine WL_n rfl ?_
    refine WL_n rfl ?_
    refine WL_n rfl ?_
    refine WL_q rfl (q_pick rfl rfl) ?_
    refine WL_q rfl (q_assign rfl) ?_
    refine WL_nil (hK1 _ _ ?_)
    clear hK1 K1
    refine hK_7 _ _ ?_
    try clear hK_7 K_7
    refine W_region_k (fun K1 hK1 => ?_)
    refine WL_q rfl (q_move rfl) ?_
    refine WL_q rfl (q_as (q_add rfl rfl) (congrArg (Value.int .i64) (succ_i64 (by omega)))) ?_
    refine WL_q rfl (q_assign rfl) ?_
    refine WL_nil (hK1 _ _ ?_)
    clear hK1 K1
    refine ⟨(by repeat (first | exact .refl | refine .cons rfl ?_)), _, _, (List.Sublist.refl _), (by omega), k + 1, ?zz_1, ⟨?s3, ?s4⟩, ?mem, rfl, ⟨by omega, ?inv_1⟩⟩
    case mem => rfl
    case s3 => rfl
    case s4 => rfl
    first | exact vz_false hz | exact vz_true hz
   ·skip
    refine WL_q rfl (q_move rfl) ?_
    refine WL_q rfl (q_faddr fd_28_2 (by decide) rfl) ?_
    refine WL_q rfl (q_idxa ar_26 rfl rfl (by omega) (by omega)) ?_
    refine WL_q rfl (q_load ty_25 rfl (by repeat (first | exact .head _ | apply List.mem_append_right | apply List.Mem.tail)) (cellsAt (r := r) (k := k) (by rw [h.len]; omega))) ?_
    refine WL_q rfl (q_eql rfl rfl) ?_
    refine WL_q rfl (q_pick rfl rfl) ?_
    refine WL_q rfl (q_assign rfl) ?_
    refine WL_nil (hK1 _ _ ?_)
    clear hK1 K1
    refine hK_7 _ _ ?_
    try clear hK_7 K_7
    refine W_region_k (fun K1 hK1 => ?_)
    refine WL_q rfl (q_move rfl) ?_
    refine WL_q rfl (q_as (q_add rfl rfl) (congrArg (Value.int .i64) (succ_i64 (by omega)))) ?_
    refine WL_q rfl (q_assign rfl) ?_
    refine WL_nil (hK1 _ _ ?_)
    clear hK1 K1
    refine ⟨(by repeat (first | exact .refl | refine .cons rfl ?_)), _, _, (List.Sublist.refl _), (by omega), k + 1, ?zz_2, ⟨?s3, ?s4⟩, ?mem, rfl, ⟨by omega, ?inv_2⟩⟩
    case mem => rfl
    case s3 => rfl
    case s4 => rfl
    first | exact vz_false hz | exact vz_true hz
  ·(try simp only [decide_eq_true_eq, decide_eq_false_iff_not, beq_iff_eq, bne_iff_ne, beq_eq_false_iff_ne, bne_eq_false_iff_eq, Bool.not_eq_true', Bool.not_eq_false'] at hc)
   obtain rfl : k = 16 := by omega
   obtain rfl : z = r.zero := valid_z h hz
   refine W_exit (thenK_x (thenK_x (blockK_hit ?_)))
   refine hK_3 _ _ ?_
   try clear hK_3 K_3
   refine W_seq (fun K_8 hK_8 => ?_)
   refine W_seq (fun K_9 hK_9 => ?_)
   refine W_region_k (fun K1 hK1 => ?_)
   refine WL_q rfl (q_faddr fd_28_0 (by decide) rfl) ?_
   refine WL_q rfl (q_load ty_4 rfl (by repeat (first | exact .head _ | apply List.mem_append_right | apply List.Mem.tail)) rfl) ?_
   refine WL_nil (hK1 _ _ ?_)
   clear hK1 K1
   refine hK_9 _ _ ?_
   try clear hK_9 K_9
   refine W_cond _ rfl (fun hb => ?_) (fun hb => ?_)
   ·(try simp only [decide_eq_true_eq, decide_eq_false_iff_not, beq_iff_eq, bne_iff_ne, beq_eq_false_iff_ne, bne_eq_false_iff_eq, Bool.not_eq_true', Bool.not_eq_false'] at hb)
    refine W_seq (fun K_10 hK_10 => ?_)
    refine W_region_k (fun K1 hK1 => ?_)
    refine WL_q rfl (q_move rfl) ?_
    refine WL_q rfl (q_move rfl) ?_
    cases hz0 : r.zero
    ·skip
     refine WL_n rfl ?_
     refine WL_n rfl ?_
     refine WL_n rfl ?_
     refine WL_q rfl (q_pick rfl rfl) ?_
     refine WL_q rfl (q_assign rfl) ?_
     refine WL_nil (hK1 _ _ ?_)
     clear hK1 K1
     refine hK_10 _ _ ?_
     try clear hK_10 K_10
     refine W_ret ?_
     refine thenK_r (ret1 rfl (.inr rfl) rfl ?_)
     simp [R.valid, *]
    ·skip
     refine WL_q rfl (q_faddr fd_28_1 (by decide) rfl) ?_
     refine WL_q rfl (q_load ty_4 rfl (by repeat (first | exact .head _ | apply List.mem_append_right | apply List.Mem.tail)) rfl) ?_
     refine WL_q rfl (q_not rfl) ?_
     refine WL_q rfl (q_pick rfl rfl) ?_
     refine WL_q rfl (q_assign rfl) ?_
     refine WL_nil (hK1 _ _ ?_)
     clear hK1 K1
     refine hK_10 _ _ ?_
     try clear hK_10 K_10
     refine W_ret ?_
     refine thenK_r (ret1 rfl (.inr rfl) rfl ?_)
     simp [R.valid, *]
   ·(try simp only [decide_eq_true_eq, decide_eq_false_iff_not, beq_iff_eq, bne_iff_ne, beq_eq_false_iff_ne, bne_eq_false_iff_eq, Bool.not_eq_true', Bool.not_eq_false'] at hb)
    refine W_skip ?_
    refine hK_8 _ _ ?_
    try clear hK_8 K_8
    refine W_seq (fun K_11 hK_11 => ?_)
    refine W_region_k (fun K1 hK1 => ?_)
    refine WL_q rfl (q_move rfl) ?_
    refine WL_q rfl (q_not rfl) ?_
    refine WL_q rfl (q_move rfl) ?_
    cases hz0 : r.zero
    ·skip
     refine WL_n rfl ?_
     refine WL_n rfl ?_
     refine WL_n rfl ?_
     refine WL_q rfl (q_pick rfl rfl) ?_
     refine WL_q rfl (q_assign rfl) ?_
     refine WL_nil (hK1 _ _ ?_)
     clear hK1 K1
     refine hK_11 _ _ ?_
     try clear hK_11 K_11
     refine W_ret ?_
     refine ret1 rfl (.inr rfl) rfl ?_
     simp [R.valid, *]
    ·skip
     refine WL_q rfl (q_faddr fd_28_1 (by decide) rfl) ?_
     refine WL_q rfl (q_load ty_4 rfl (by repeat (first | exact .head _ | apply List.mem_append_right | apply List.Mem.tail)) rfl) ?_
     refine WL_q rfl (q_not rfl) ?_
     refine WL_q rfl (q_pick rfl rfl) ?_
     refine WL_q rfl (q_assign rfl) ?_
     refine WL_nil (hK1 _ _ ?_)
     clear hK1 K1
     refine hK_11 _ _ ?_
     try clear hK_11 K_11
     refine W_ret ?_
     refine ret1 rfl (.inr rfl) rfl ?_
     simp [R.valid, *]

theorem skewbackref03_Good_ret (r : R) (h : r.Ok) :
    Ret Try.prog 57 [RV r] (.bool r.good) := by
 refine ret_of_W (N := 12) Try.func57 rfl rfl (by simp) (fun w0 => ?_)
 simp only [initF, Nat.reduceAdd]
 refine W_seq (fun K_1 hK_1 => ?_)
 refine W_region_k (fun K1 hK1 => ?_)
 refine WL_r rfl (r_box rfl rfl (fun b1 hb1 => ?_))
 refine WL_q rfl (q_assign rfl) ?_
 refine WL_nil (hK1 _ _ ?_)
 clear hK1 K1
 refine hK_1 _ _ ?_
 try clear hK_1 K_1
 refine W_seq (fun K_2 hK_2 => ?_)
 refine W_region_k (fun K1 hK1 => ?_)
 refine WL_q rfl (q_loadw ty_28 rfl (by repeat (first | exact .head _ | apply List.mem_append_right | apply List.Mem.tail)) (cells_len h)) ?_
 refine WL_q rfl (q_ret en_91 (skewbackref03_Valid_ret r h) rfl) ?_
 refine WL_q rfl (q_assign rfl) ?_
 refine WL_nil (hK1 _ _ ?_)
 clear hK1 K1
 refine hK_2 _ _ ?_
 try clear hK_2 K_2
 refine W_seq (fun K_3 hK_3 => ?_)
 refine W_region_k (fun K1 hK1 => ?_)
 refine WL_q rfl (q_move rfl) ?_
 refine WL_q rfl (q_move rfl) ?_
 cases hv : r.valid
 ·skip
  refine WL_n rfl ?_
  refine WL_n rfl ?_
  refine WL_n rfl ?_
  refine WL_q rfl (q_pick rfl rfl) ?_
  refine WL_q rfl (q_assign rfl) ?_
  refine WL_nil (hK1 _ _ ?_)
  clear hK1 K1
  refine hK_3 _ _ ?_
  try clear hK_3 K_3
  refine W_ret ?_
  refine ret1 rfl (.inr rfl) rfl ?_
  simp [R.good, *]
 ·skip
  refine WL_q rfl (q_faddr fd_28_0 (by decide) rfl) ?_
  refine WL_q rfl (q_load ty_4 rfl (by repeat (first | exact .head _ | apply List.mem_append_right | apply List.Mem.tail)) rfl) ?_
  refine WL_q rfl (q_not rfl) ?_
  refine WL_q rfl (q_pick rfl rfl) ?_
  refine WL_q rfl (q_assign rfl) ?_
  refine WL_nil (hK1 _ _ ?_)
  clear hK1 K1
  refine hK_3 _ _ ?_
  try clear hK_3 K_3
  refine W_ret ?_
  refine ret1 rfl (.inr rfl) rfl ?_
  simp [R.good, *]

theorem skewbackref03_number_ret (neg : Bool) (va : Value) (l : List Nat) (hD : DL l) (hn : l.length ≤ 1000) (w : World) (hva : Sl w va l) :
    Calls Try.prog 60 [.bool neg, va].toArray w (fun e w' => e = .returned (RV (Z.of (sgn neg (dv l))).enc) ∧ Ext w w') := by
 refine callsq_of_W (N := 62) Try.func60 rfl rfl (by simp) ?_
 obtain ⟨w0, rfl⟩ : ∃ w0, w0 = w := ⟨_, rfl⟩
 simp only [initF, Nat.reduceAdd]
 have hu0 : ∀ M, SL w0 [] M (sls va (dl (dv l)).length) (dl (dv l)) := fun M => trimmedL hD hva.old
 refine W_seq (fun K_1 hK_1 => ?_)
 refine W_region_k (fun K1 hK1 => ?_)
 refine WL_r rfl (r_alloc z_28 (fun b4 hb4 => ?_))
 refine WL_nil (hK1 _ _ ?_)
 clear hK1 K1
 refine hK_1 _ _ ?_
 try clear hK_1 K_1
 refine W_seq (fun K_2 hK_2 => ?_)
 refine W_region_k (fun K1 hK1 => ?_)
 refine WL_q rfl (q_move rfl) ?_
 refine WL_q rfl (q_call en_92 rfl (fun w hw => skewbackref03_trim_ret va l hD hn w (SL.sl (M := _) hva.old hw))) ?_
 refine WL_q rfl (q_assign rfl) ?_
 refine WL_nil (hK1 _ _ ?_)
 clear hK1 K1
 refine hK_2 _ _ ?_
 try clear hK_2 K_2
 refine W_seq (fun K_3 hK_3 => ?_)
 refine W_seq (fun K_4 hK_4 => ?_)
 refine W_region_k (fun K1 hK1 => ?_)
 refine WL_q rfl (q_move rfl) ?_
 refine WL_q rfl (q_lenl sl_70 rfl (hu0 _)) ?_
 refine WL_q rfl (q_gtr rfl rfl) ?_
 refine WL_nil (hK1 _ _ ?_)
 clear hK1 K1
 refine hK_4 _ _ ?_
 try clear hK_4 K_4
 refine W_cond _ rfl (fun hbig => ?_) (fun hbig => ?_)
 ·(try simp only [decide_eq_true_eq, decide_eq_false_iff_not, beq_iff_eq, bne_iff_ne, beq_eq_false_iff_ne, bne_eq_false_iff_eq, Bool.not_eq_true', Bool.not_eq_false'] at hbig)
  refine W_seq (fun K_5 hK_5 => ?_)
  refine W_region_k (fun K1 hK1 => ?_)
  refine WL_q rfl (q_ret en_67 (skewbackref03_Bad_ret) rfl) ?_
  refine WL_r rfl (r_storew ty_28 rfl rfl (by repeat (first | exact .head _ | apply Upd.left | apply Upd.tail)) (enc_cells_len _) rfl (cells_plain _) (.inl (by assumption)) ?_)
  refine WL_nil (hK1 _ _ ?_)
  clear hK1 K1
  refine hK_5 _ _ ?_
  try clear hK_5 K_5
  refine W_ret ?_
  refine thenK_r (ret1 rfl (.inr rfl) ⟨_, _, _, _, _, _, rfl, (by repeat (first | exact .head _ | apply List.mem_append_right | apply List.Mem.tail)), ty_28, _, (takeAll (enc_cells_len _)), (enc_cells_len _), rfl⟩ ?_)
  exact number_bad (by omega)
 ·(try simp only [decide_eq_true_eq, decide_eq_false_iff_not, beq_iff_eq, bne_iff_ne, beq_eq_false_iff_ne, bne_eq_false_iff_eq, Bool.not_eq_true', Bool.not_eq_false'] at hbig)
  have hlen : (dl (dv l)).length ≤ 32 := by omega
  refine W_skip ?_
  refine hK_3 _ _ ?_
  try clear hK_3 K_3
  refine W_join [6, 14, 15, 16, 17, 18, 19, 20] (fun g M => ∃ (b6 : Nat), (g 6 = .pointer (some ⟨b6, 0, none⟩)) ∧ M = ⟨b6, 28, R.cells (R.mk false (neg && decide ((0 : Int) < ((dl (dv l)).length : Int))) (List.replicate 16 0))⟩ :: [⟨b4, 28, zR⟩] ∧ (w0.heap.size ≤ b6)) (fun K_6 hK_6 => ?_) ?_
  ·skip
   refine W_region_k (fun K1 hK1 => ?_)
   refine WL_q rfl (q_move rfl) ?_
   refine WL_q rfl (q_move rfl) ?_
   cases neg
   ·skip
    refine WL_n rfl ?_
    refine WL_n rfl ?_
    refine WL_n rfl ?_
    refine WL_q rfl (q_pick rfl rfl) ?_
    refine WL_q rfl (q_builds z_28 pl_28 rfl (fillN1 _)) ?_
    refine WL_r rfl (r_alloc z_28 (fun b6 hb6 => ?_))
    refine WL_r rfl (r_storew ty_28 rfl rfl (by repeat (first | exact .head _ | apply Upd.left | apply Upd.tail)) (by simp [R.cells, uw_len]) rfl (cells_plain _) (.inl (by assumption)) ?_)
    refine WL_nil (hK1 _ _ ?_)
    clear hK1 K1
    refine hK_6 _ _ (by repeat (first | exact .refl | refine .cons rfl ?_)) ⟨_, (List.Sublist.refl _), _, ?s6, ?mem, hb6⟩
    case mem => rfl
    case s6 => rfl
   ·skip
    refine WL_q rfl (q_move rfl) ?_
    refine WL_q rfl (q_lenl sl_70 rfl (hu0 _)) ?_
    refine WL_q rfl (q_gtr rfl rfl) ?_
    refine WL_q rfl (q_pick rfl rfl) ?_
    refine WL_q rfl (q_builds z_28 pl_28 rfl (fillN1 _)) ?_
    refine WL_r rfl (r_alloc z_28 (fun b6 hb6 => ?_))
    refine WL_r rfl (r_storew ty_28 rfl rfl (by repeat (first | exact .head _ | apply Upd.left | apply Upd.tail)) (by simp [R.cells, uw_len]) rfl (cells_plain _) (.inl (by assumption)) ?_)
    refine WL_nil (hK1 _ _ ?_)
    clear hK1 K1
    refine hK_6 _ _ (by repeat (first | exact .refl | refine .cons rfl ?_)) ⟨_, (List.Sublist.refl _), _, ?s6, ?mem, hb6⟩
    case mem => rfl
    case s6 => rfl
  ·skip
   rintro g M ⟨b6, hg6, rfl, hb6⟩
   simp only [setG, hg6]
   clear hg6
   refine W_seq (fun K_7 hK_7 => ?_)
   refine W_seq (fun K_8 hK_8 => ?_)
   refine W_region_k (fun K1 hK1 => ?_)
   refine WL_q rfl (q_assign rfl) ?_
   refine WL_nil (hK1 _ _ ?_)
   clear hK1 K1
   refine hK_8 _ _ ?_
   try clear hK_8 K_8
   refine W_block ?_
   refine W_loop_g [7, 21, 22, 23, 24, 25, 26, 27, 28, 29, 30, 31, 32, 33, 34, 35, 36, 37, 38, 39, 40, 41, 42, 43, 44, 45, 46, 47, 48, 49, 50, 51, 52, 53, 54, 55, 56, 57, 58, 59, 60] (fun g nn M => ∃ (k : Nat) (ws : List Nat), (g 7 = .int .i64 (k : Int)) ∧ M = ⟨b6, 28, R.cells (R.mk false (neg && decide ((0 : Int) < ((dl (dv l)).length : Int))) ws)⟩ :: [⟨b4, 28, zR⟩] ∧ nn = (dl (dv l)).length - k ∧ (k ≤ (dl (dv l)).length ∧ NumIn (dv l) k ws)) ((dl (dv l)).length - 0) ?start ?round
   case start =>
    refine ⟨_, (List.Sublist.refl _), 0, _, ?a7, ?mem0, rfl, ⟨Nat.zero_le _, NumIn.start _⟩⟩
    case mem0 => rfl
    case a7 => rfl
   case round =>
    rintro nn g M ⟨k, ws, hg7, rfl, hmeas, ⟨hk, hI⟩⟩
    subst nn
    simp only [setG, hg7]
    clear hg7
    refine W_seq (fun K_9 hK_9 => ?_)
    refine W_seq (fun K_10 hK_10 => ?_)
    refine W_region_k (fun K1 hK1 => ?_)
    refine WL_q rfl (q_move rfl) ?_
    refine WL_q rfl (q_move rfl) ?_
    refine WL_q rfl (q_lenl sl_70 rfl (hu0 _)) ?_
    refine WL_q rfl (q_lss rfl rfl) ?_
    refine WL_nil (hK1 _ _ ?_)
    clear hK1 K1
    refine hK_10 _ _ ?_
    try clear hK_10 K_10
    refine W_cond _ rfl (fun hc => ?_) (fun hc => ?_)
    ·(try simp only [decide_eq_true_eq, decide_eq_false_iff_not, beq_iff_eq, bne_iff_ne, beq_eq_false_iff_ne, bne_eq_false_iff_eq, Bool.not_eq_true', Bool.not_eq_false'] at hc)
     have hk32 : k < 32 := by omega
     refine W_skip ?_
     refine hK_9 _ _ ?_
     try clear hK_9 K_9
     refine W_seq (fun K_11 hK_11 => ?_)
     refine W_block ?_
     refine W_seq (fun K_12 hK_12 => ?_)
     refine W_region_k (fun K1 hK1 => ?_)
     refine WL_q rfl (q_move rfl) ?_
     refine WL_q rfl (q_as (q_rem rfl rfl (by decide)) (congrArg (Value.int .i64) (rem2 k))) ?_
     refine WL_q rfl (q_eql rfl rfl) ?_
     refine WL_nil (hK1 _ _ ?_)
     clear hK1 K1
     refine hK_12 _ _ ?_
     try clear hK_12 K_12
     refine W_cond _ rfl (fun hpar => ?_) (fun hpar => ?_)
     ·(try simp only [decide_eq_true_eq, decide_eq_false_iff_not, beq_iff_eq, bne_iff_ne, beq_eq_false_iff_ne, bne_eq_false_iff_eq, Bool.not_eq_true', Bool.not_eq_false'] at hpar)
      have hpar : k % 2 = 0 := by omega
      have hz := (hI.even hpar hk32).2
      refine W_draw (sd (sk (s0))) (.quiet 0 [1, 14, 15] (.quiet 1 [14, 15] (.quiet 2 [3, 5, 6, 12, 14, 15] (.quiet 3 [5, 6, 12, 14, 15] (.quiet 4 [5, 6, 12, 14, 15] (.quiet 5 [6, 12, 14, 15] (.quiet 6 [12, 14, 15] (.quiet 7 [9, 10, 11, 12, 14, 15] (.quiet 8 [9, 10, 11, 12, 14, 15] (.quiet 9 [10, 11, 12, 14, 15] (.quiet 10 [11, 12, 14, 15] (.quiet 11 [12, 14, 15] (.quiet 12 [14, 15] (.quiet 13 [14, 15] (.quiet 14 [15] (.only 15 (.fin))))))))))))))))) [0, 1, 2, 3, 4, 5, 6, 7, 8, 9, 10, 11, 12, 13, 14] mix (by kernel_rfl) (by kernel_rfl) (fun K1 hK1 => ?_)
      refine PL_q rfl rfl (q_move rfl) ?_
      refine PL_q rfl rfl (q_as (q_quo rfl rfl (by decide)) (congrArg (Value.int .i64) (quo2 k (by omega)))) ?_
      refine PL_q rfl rfl (q_move rfl) ?_
      refine PL_q rfl rfl (q_as (q_quo rfl rfl (by decide)) (congrArg (Value.int .i64) (quo2 k (by omega)))) ?_
      refine PL_q rfl rfl (q_faddr fd_28_2 (by decide) rfl) ?_
      refine PL_q rfl rfl (q_idxa ar_26 rfl rfl (by omega) (by omega)) ?_
      refine PL_q rfl rfl (q_load ty_25 rfl (by repeat (first | exact .head _ | apply List.mem_append_right | apply List.Mem.tail)) (cellsAt (r := R.mk false (neg && decide ((0 : Int) < ((dl (dv l)).length : Int))) ws) (k := k / 2) (by simp only [hI.len]; omega))) ?_
      refine PL_q rfl rfl (q_move rfl) ?_
      refine PL_q rfl rfl (q_move rfl) ?_
      refine PL_q rfl rfl (q_idxl sl_70 rfl rfl (hu0 _) (by omega)) ?_
      refine PL_q rfl rfl (q_loadl ty_3 rfl (hu0 _) (by omega)) ?_
      refine PL_q rfl rfl (q_conv in_3 in_25 rfl) ?_
      refine PL_q rfl rfl (q_as (q_add rfl rfl) (show _ = U32 (dg (dv l) k) by rw [(hI.even hpar hk32).1, dl_getD]; exact add_even (dg_lt _ _))) ?_
      refine PL_q rfl rfl (q_faddr fd_28_2 (by decide) rfl) ?_
      refine PL_q rfl rfl (q_idxa ar_26 rfl rfl (by omega) (by omega)) ?_
      refine PL_o rfl rfl (r_storec (k := k / 2) ty_25 rfl rfl (by repeat (first | exact .head _ | apply Upd.left | apply Upd.tail)) (by rw [hI.len]; omega) (.inl (by assumption)) ⟨nf, (by repeat (first | exact s0 | exact sn | refine sk ?_ | refine sd ?_ | refine sA ?_ | refine sR ?_)), ?_⟩)
      refine PL_fin (hK1 _ _ ?_)
      clear hK1 K1
      refine hK_11 _ _ ?_
      try clear hK_11 K_11
      refine W_region_k (fun K1 hK1 => ?_)
      refine WL_q rfl (q_move rfl) ?_
      refine WL_q rfl (q_as (q_add rfl rfl) (congrArg (Value.int .i64) (succ_i64 (by omega)))) ?_
      refine WL_q rfl (q_assign rfl) ?_
      refine WL_nil (hK1 _ _ ?_)
      clear hK1 K1
      refine ⟨(by repeat (first | exact .refl | refine .cons rfl ?_)), _, _, (List.Sublist.refl _), (by omega), k + 1, _, ?s7, ?mem, rfl, ⟨by omega, hz⟩⟩
      case mem => rfl
      case s7 => rfl
     ·(try simp only [decide_eq_true_eq, decide_eq_false_iff_not, beq_iff_eq, bne_iff_ne, beq_eq_false_iff_ne, bne_eq_false_iff_eq, Bool.not_eq_true', Bool.not_eq_false'] at hpar)
      have hpar : ¬ k % 2 = 0 := by omega
      have hz := (hI.odd hpar hk32).2
      refine W_draw (sd (sk (s0))) (.quiet 0 [1, 15, 16] (.quiet 1 [15, 16] (.quiet 2 [3, 5, 6, 13, 15, 16] (.quiet 3 [5, 6, 13, 15, 16] (.quiet 4 [5, 6, 13, 15, 16] (.quiet 5 [6, 13, 15, 16] (.quiet 6 [13, 15, 16] (.quiet 7 [9, 10, 11, 12, 13, 15, 16] (.quiet 8 [9, 10, 11, 12, 13, 15, 16] (.quiet 9 [10, 11, 12, 13, 15, 16] (.quiet 10 [11, 12, 13, 15, 16] (.quiet 11 [12, 13, 15, 16] (.quiet 12 [13, 15, 16] (.quiet 13 [15, 16] (.quiet 14 [15, 16] (.quiet 15 [16] (.only 16 (.fin)))))))))))))))))) [0, 1, 2, 3, 4, 5, 6, 7, 8, 9, 10, 11, 12, 13, 14, 15] mix (by kernel_rfl) (by kernel_rfl) (fun K1 hK1 => ?_)
      refine PL_q rfl rfl (q_move rfl) ?_
      refine PL_q rfl rfl (q_as (q_quo rfl rfl (by decide)) (congrArg (Value.int .i64) (quo2 k (by omega)))) ?_
      refine PL_q rfl rfl (q_move rfl) ?_
      refine PL_q rfl rfl (q_as (q_quo rfl rfl (by decide)) (congrArg (Value.int .i64) (quo2 k (by omega)))) ?_
      refine PL_q rfl rfl (q_faddr fd_28_2 (by decide) rfl) ?_
      refine PL_q rfl rfl (q_idxa ar_26 rfl rfl (by omega) (by omega)) ?_
      refine PL_q rfl rfl (q_load ty_25 rfl (by repeat (first | exact .head _ | apply List.mem_append_right | apply List.Mem.tail)) (cellsAt (r := R.mk false (neg && decide ((0 : Int) < ((dl (dv l)).length : Int))) ws) (k := k / 2) (by simp only [hI.len]; omega))) ?_
      refine PL_q rfl rfl (q_move rfl) ?_
      refine PL_q rfl rfl (q_move rfl) ?_
      refine PL_q rfl rfl (q_idxl sl_70 rfl rfl (hu0 _) (by omega)) ?_
      refine PL_q rfl rfl (q_loadl ty_3 rfl (hu0 _) (by omega)) ?_
      refine PL_q rfl rfl (q_conv in_3 in_25 rfl) ?_
      refine PL_q rfl rfl (q_mul rfl rfl) ?_
      refine PL_q rfl rfl (q_as (q_add rfl rfl) (show _ = U32 (ws.getD (k / 2) 0 + dg (dv l) k * 65536) by rw [dl_getD]; exact add_odd (hI.odd hpar hk32).1 (dg_lt _ _))) ?_
      refine PL_q rfl rfl (q_faddr fd_28_2 (by decide) rfl) ?_
      refine PL_q rfl rfl (q_idxa ar_26 rfl rfl (by omega) (by omega)) ?_
      refine PL_o rfl rfl (r_storec (k := k / 2) ty_25 rfl rfl (by repeat (first | exact .head _ | apply Upd.left | apply Upd.tail)) (by rw [hI.len]; omega) (.inl (by assumption)) ⟨nf, (by repeat (first | exact s0 | exact sn | refine sk ?_ | refine sd ?_ | refine sA ?_ | refine sR ?_)), ?_⟩)
      refine PL_fin (hK1 _ _ ?_)
      clear hK1 K1
      refine hK_11 _ _ ?_
      try clear hK_11 K_11
      refine W_region_k (fun K1 hK1 => ?_)
      refine WL_q rfl (q_move rfl) ?_
      refine WL_q rfl (q_as (q_add rfl rfl) (congrArg (Value.int .i64) (succ_i64 (by omega)))) ?_
      refine WL_q rfl (q_assign rfl) ?_
      refine WL_nil (hK1 _ _ ?_)
      clear hK1 K1
      refine ⟨(by repeat (first | exact .refl | refine .cons rfl ?_)), _, _, (List.Sublist.refl _), (by omega), k + 1, _, ?s7, ?mem, rfl, ⟨by omega, hz⟩⟩
      case mem => rfl
      case s7 => rfl
    ·(try simp only [decide_eq_true_eq, decide_eq_false_iff_not, beq_iff_eq, bne_iff_ne, beq_eq_false_iff_ne, bne_eq_false_iff_eq, Bool.not_eq_true', Bool.not_eq_false'] at hc)
     obtain rfl : k = (dl (dv l)).length := by omega
     refine W_exit (thenK_x (thenK_x (blockK_hit ?_)))
     refine hK_7 _ _ ?_
     try clear hK_7 K_7
     refine W_seq (fun K_13 hK_13 => ?_)
     refine W_region_k (fun K1 hK1 => ?_)
     refine WL_q rfl (q_loadw ty_28 rfl (by repeat (first | exact .head _ | apply List.mem_append_right | apply List.Mem.tail)) (by simp [R.cells, uw_len, hI.len])) ?_
     refine WL_r rfl (r_storew ty_28 rfl rfl (by repeat (first | exact .head _ | apply Upd.left | apply Upd.tail)) (by simp [R.cells, uw_len, hI.len]) rfl (cells_plain _) (.inl (by assumption)) ?_)
     refine WL_nil (hK1 _ _ ?_)
     clear hK1 K1
     refine hK_13 _ _ ?_
     try clear hK_13 K_13
     refine W_ret ?_
     refine ret1 rfl (.inr rfl) ⟨_, _, _, _, _, _, rfl, (by repeat (first | exact .head _ | apply List.mem_append_right | apply List.Mem.tail)), ty_28, _, (takeAll (by simp [R.cells, uw_len, hI.len])), (by simp [R.cells, uw_len, hI.len]), rfl⟩ ?_
     exact number_fin hI
end Go.Proofs.Ythbjhbmpfeeilaa
