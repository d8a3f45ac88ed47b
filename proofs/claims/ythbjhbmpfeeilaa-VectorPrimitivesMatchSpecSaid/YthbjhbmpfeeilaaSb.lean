/- Walks: what these functions return. -/
import Derived.Test.YthbjhbmpfeeilaaFa0
import Derived.Test.YthbjhbmpfeeilaaSa
namespace Go.Proofs.Ythbjhbmpfeeilaa
open Go.Kn Go.Num
set_option linter.unusedVariables false
set_option linter.unusedSimpArgs false
set_option maxRecDepth 20000
set_option maxHeartbeats 8000000
theorem skewbackref03_plus_ret (va vb : Value) (la lb : List Nat) (hDa : DL la) (hDb : DL lb) (hna : la.length ≤ 200) (hnb : lb.length ≤ 200) (w : World) (hva : Sl w va la) (hvb : Sl w vb lb) :
    Calls Try.prog 61 [va, vb].toArray w (fun e w' => ∃ v, e = .returned v ∧ Ext w w' ∧ Slf w.heap.size w' v (dl (dv la + dv lb))) := by
 refine callssl_of_W (N := 37) Try.func61 rfl rfl (by simp) ?_
 obtain ⟨w0, rfl⟩ : ∃ w0, w0 = w := ⟨_, rfl⟩
 simp only [initF, Nat.reduceAdd]
 refine W_seq (fun K_1 hK_1 => ?_)
 refine W_region_k (fun K1 hK1 => ?_)
 refine WL_q rfl (q_assign rfl) ?_
 refine WL_nil (hK1 _ _ ?_)
 clear hK1 K1
 refine hK_1 _ _ ?_
 try clear hK_1 K_1
 refine W_seq (fun K_2 hK_2 => ?_)
 refine W_region_k (fun K1 hK1 => ?_)
 refine WL_q rfl (q_assign rfl) ?_
 refine WL_nil (hK1 _ _ ?_)
 clear hK1 K1
 refine hK_2 _ _ ?_
 try clear hK_2 K_2
 refine W_seq (fun K_3 hK_3 => ?_)
 refine W_region_k (fun K1 hK1 => ?_)
 refine WL_q rfl (q_assign rfl) ?_
 refine WL_nil (hK1 _ _ ?_)
 clear hK1 K1
 refine hK_3 _ _ ?_
 try clear hK_3 K_3
 refine W_seq (fun K_4 hK_4 => ?_)
 refine W_seq (fun K_5 hK_5 => ?_)
 refine W_region_k (fun K1 hK1 => ?_)
 refine WL_q rfl (q_assign rfl) ?_
 refine WL_nil (hK1 _ _ ?_)
 clear hK1 K1
 refine hK_5 _ _ ?_
 try clear hK_5 K_5
 refine W_block ?_
 refine W_loop_g [5, 6, 7, 8, 9, 10, 11, 12, 13, 14, 15, 16, 17, 18, 19, 20, 21, 22, 23, 24, 25, 26, 27, 28, 29, 30, 31, 32, 33, 34] (fun g nn M => ∃ (k : Nat) (v : Value) (l : List Nat) (L : List Blk), (g 5 = v ∧ g 6 = .int .i64 ((cD (dv la) (dv lb) k : Nat) : Int) ∧ g 7 = .int .i64 (k : Int)) ∧ M = L ++ [] ∧ nn = max la.length lb.length + 1 - k ∧ (k ≤ max la.length lb.length + 1 ∧ Own w0 3 v l L ∧ DL l ∧ l.length = k ∧ dv l = (dv la + dv lb) % 65536 ^ k)) (max la.length lb.length + 1 - 0) ?start ?round
 case start =>
  refine ⟨_, (List.Sublist.refl _), 0, _, [], [], ⟨?a5, ?a6, ?a7⟩, ?mem0, rfl, ⟨Nat.zero_le _, .nil, DL.nil, rfl, by simp [dv, Nat.mod_one]⟩⟩
  case mem0 => rfl
  case a5 => rfl
  case a6 => rw [cD_zero]; rfl
  case a7 => rfl
 case round =>
  rintro nn g M ⟨k, v, l, L, ⟨hg5, hg6, hg7⟩, rfl, hmeas, ⟨hk, hO, hD, hlen, hdv⟩⟩
  subst nn
  simp only [setG, hg5, hg6, hg7]
  clear hg5 hg6 hg7
  refine W_seq (fun K_6 hK_6 => ?_)
  refine W_seq (fun K_7 hK_7 => ?_)
  refine W_region_k (fun K1 hK1 => ?_)
  refine WL_q rfl (q_move rfl) ?_
  refine WL_q rfl (q_move rfl) ?_
  refine WL_q rfl (q_lenl sl_70 rfl hva.old) ?_
  refine WL_q rfl (q_move rfl) ?_
  refine WL_q rfl (q_lenl sl_70 rfl hvb.old) ?_
  refine WL_q rfl (q_maxn rfl rfl) ?_
  refine WL_q rfl (q_as (q_add rfl rfl) (congrArg (Value.int .i64) (succ_i64 (by omega)))) ?_
  refine WL_q rfl (q_lss rfl rfl) ?_
  refine WL_nil (hK1 _ _ ?_)
  clear hK1 K1
  refine hK_7 _ _ ?_
  try clear hK_7 K_7
  refine W_cond _ rfl (fun hc => ?_) (fun hc => ?_)
  ·(try simp only [decide_eq_true_eq, decide_eq_false_iff_not, beq_iff_eq, bne_iff_ne, beq_eq_false_iff_ne, bne_eq_false_iff_eq, Bool.not_eq_true', Bool.not_eq_false'] at hc)
   have hc : k < max la.length lb.length + 1 := by omega
   refine W_skip ?_
   refine hK_6 _ _ ?_
   try clear hK_6 K_6
   refine W_seq (fun K_8 hK_8 => ?_)
   refine W_block ?_
   refine W_seq (fun K_9 hK_9 => ?_)
   refine W_region_k (fun K1 hK1 => ?_)
   refine WL_q rfl (q_move rfl) ?_
   refine WL_q rfl (q_move rfl) ?_
   refine WL_q rfl (q_call en_93 rfl (fun w hw => skewbackref03_digit_ret va la k w (SL.sl (M := _) hva.old hw))) ?_
   refine WL_q rfl (q_move rfl) ?_
   refine WL_q rfl (q_move rfl) ?_
   refine WL_q rfl (q_call en_93 rfl (fun w hw => skewbackref03_digit_ret vb lb k w (SL.sl (M := _) hvb.old hw))) ?_
   refine WL_q rfl (q_add rfl rfl) ?_
   refine WL_q rfl (q_move rfl) ?_
   refine WL_q rfl (q_as (q_add rfl rfl) (congrArg (Value.int .i64) ((show _ = ((cD (dv la) (dv lb) k + dg (dv la) k + dg (dv lb) k : Nat) : Int) by rw [getD_dv la k hDa, getD_dv lb k hDb]; exact add3 (dg_lt _ _) (dg_lt _ _) (cD_le _ _ _))))) ?_
   refine WL_q rfl (q_assign rfl) ?_
   refine WL_nil (hK1 _ _ ?_)
   clear hK1 K1
   refine hK_9 _ _ ?_
   try clear hK_9 K_9
   refine W_seq (fun K_10 hK_10 => ?_)
   refine W_region_k (fun K1 hK1 => ?_)
   refine WL_q rfl (q_move rfl) ?_
   refine WL_q rfl (q_move rfl) ?_
   refine WL_q rfl (q_as (q_rem rfl rfl (by decide)) (remI _)) ?_
   refine WL_r rfl (r_bslice us_70 z_3 sz_3 rfl (by decide) rfl (fillI1 _) (fun b31 hb31 => ?_))
   refine WL_r rfl (r_append us_70 on_3 rfl rfl hO (SL.mine (l := [(cD (dv la) (dv lb) k + dg (dv la) k + dg (dv lb) k) % 65536]) (.head _) (Nat.le_refl _)) (List.sublist_cons_self _ _) (by simp; omega) (fun v' L' hO' => ?_))
   refine WL_q rfl (q_assign rfl) ?_
   refine WL_nil (hK1 _ _ ?_)
   clear hK1 K1
   refine hK_10 _ _ ?_
   try clear hK_10 K_10
   refine W_region_k (fun K1 hK1 => ?_)
   refine WL_q rfl (q_move rfl) ?_
   refine WL_q rfl (q_as (q_quo rfl rfl (by decide)) (congrArg (Value.int .i64) (quoI (by have := cD_le (dv la) (dv lb) k; have := dg_lt (dv la) k; have := dg_lt (dv lb) k; omega)))) ?_
   refine WL_q rfl (q_assign rfl) ?_
   refine WL_nil (hK1 _ _ ?_)
   clear hK1 K1
   refine hK_8 _ _ ?_
   try clear hK_8 K_8
   refine W_region_k (fun K1 hK1 => ?_)
   refine WL_q rfl (q_move rfl) ?_
   refine WL_q rfl (q_as (q_add rfl rfl) (congrArg (Value.int .i64) (succ_i64 (by omega)))) ?_
   refine WL_q rfl (q_assign rfl) ?_
   refine WL_nil (hK1 _ _ ?_)
   clear hK1 K1
   refine ⟨(by repeat (first | exact .refl | refine .cons rfl ?_)), _, _, (List.Sublist.refl _), (by omega), k + 1, _, _, _, ⟨?s5, ?s6, ?s7⟩, ?mem, rfl, ⟨by omega, hO', hD.append (DL.one (Nat.mod_lt _ (by decide))), by simp [hlen], plusD_step hlen hdv⟩⟩
   case mem => rfl
   case s5 => rfl
   case s6 => rw [← plusD_carry]; rfl
   case s7 => rfl
  ·(try simp only [decide_eq_true_eq, decide_eq_false_iff_not, beq_iff_eq, bne_iff_ne, beq_eq_false_iff_ne, bne_eq_false_iff_eq, Bool.not_eq_true', Bool.not_eq_false'] at hc)
   obtain rfl : k = max la.length lb.length + 1 := by omega
   refine W_exit (thenK_x (thenK_x (blockK_hit ?_)))
   refine hK_4 _ _ ?_
   try clear hK_4 K_4
   refine W_seq (fun K_11 hK_11 => ?_)
   refine W_region_k (fun K1 hK1 => ?_)
   refine WL_q rfl (q_move rfl) ?_
   refine WL_q rfl (q_call en_92 rfl (fun w hw => skewbackref03_trim_ret v l hD (by omega) w (SL.sl (hO.sl (List.sublist_append_left _ _)) hw))) ?_
   refine WL_q rfl (q_assign rfl) ?_
   refine WL_nil (hK1 _ _ ?_)
   clear hK1 K1
   refine hK_11 _ _ ?_
   try clear hK_11 K_11
   refine W_ret ?_
   refine ret1 rfl (.inr rfl) rfl ?_
   exact trimmed hD (by rw [hdv, plusD_all hDa hDb]) (hO.slf (List.sublist_append_left _ _))

theorem skewbackref03_minus_ret (va vb : Value) (la lb : List Nat) (hDa : DL la) (hDb : DL lb) (hna : la.length ≤ 200) (hnb : lb.length ≤ 200) (hle : dv lb ≤ dv la) (w : World) (hva : Sl w va la) (hvb : Sl w vb lb) :
    Calls Try.prog 90 [va, vb].toArray w (fun e w' => ∃ v, e = .returned v ∧ Ext w w' ∧ Slf w.heap.size w' v (dl (dv la - dv lb))) := by
 refine callssl_of_W (N := 35) Try.func90 rfl rfl (by simp) ?_
 obtain ⟨w0, rfl⟩ : ∃ w0, w0 = w := ⟨_, rfl⟩
 simp only [initF, Nat.reduceAdd]
 refine W_seq (fun K_1 hK_1 => ?_)
 refine W_region_k (fun K1 hK1 => ?_)
 refine WL_q rfl (q_assign rfl) ?_
 refine WL_nil (hK1 _ _ ?_)
 clear hK1 K1
 refine hK_1 _ _ ?_
 try clear hK_1 K_1
 refine W_seq (fun K_2 hK_2 => ?_)
 refine W_region_k (fun K1 hK1 => ?_)
 refine WL_q rfl (q_assign rfl) ?_
 refine WL_nil (hK1 _ _ ?_)
 clear hK1 K1
 refine hK_2 _ _ ?_
 try clear hK_2 K_2
 refine W_seq (fun K_3 hK_3 => ?_)
 refine W_region_k (fun K1 hK1 => ?_)
 refine WL_q rfl (q_assign rfl) ?_
 refine WL_nil (hK1 _ _ ?_)
 clear hK1 K1
 refine hK_3 _ _ ?_
 try clear hK_3 K_3
 refine W_seq (fun K_4 hK_4 => ?_)
 refine W_seq (fun K_5 hK_5 => ?_)
 refine W_region_k (fun K1 hK1 => ?_)
 refine WL_q rfl (q_assign rfl) ?_
 refine WL_nil (hK1 _ _ ?_)
 clear hK1 K1
 refine hK_5 _ _ ?_
 try clear hK_5 K_5
 refine W_block ?_
 refine W_loop_g [5, 6, 7, 8, 9, 10, 11, 12, 13, 14, 15, 16, 17, 18, 19, 20, 21, 22, 23, 24, 25, 26, 27, 28, 29, 30, 31, 32] (fun g nn M => ∃ (k : Nat) (v : Value) (l : List Nat) (L : List Blk) (c : Nat), (g 5 = v ∧ g 6 = .int .i64 (c : Int) ∧ g 7 = .int .i64 (k : Int)) ∧ M = L ++ [] ∧ nn = la.length - k ∧ (k ≤ la.length ∧ Own w0 3 v l L ∧ DL l ∧ l.length = k ∧ c ≤ 1 ∧ dv l + dv lb % 65536 ^ k = dv la % 65536 ^ k + c * 65536 ^ k)) (la.length - 0) ?start ?round
 case start =>
  refine ⟨_, (List.Sublist.refl _), 0, _, [], [], 0, ⟨?a5, ?a6, ?a7⟩, ?mem0, rfl, ⟨Nat.zero_le _, .nil, DL.nil, rfl, by decide, by simp [dv, Nat.mod_one]⟩⟩
  case mem0 => rfl
  case a5 => rfl
  case a6 => rfl
  case a7 => rfl
 case round =>
  rintro nn g M ⟨k, v, l, L, c, ⟨hg5, hg6, hg7⟩, rfl, hmeas, ⟨hk, hO, hD, hlen, hcb, hdv⟩⟩
  subst nn
  simp only [setG, hg5, hg6, hg7]
  clear hg5 hg6 hg7
  refine W_seq (fun K_6 hK_6 => ?_)
  refine W_seq (fun K_7 hK_7 => ?_)
  refine W_region_k (fun K1 hK1 => ?_)
  refine WL_q rfl (q_move rfl) ?_
  refine WL_q rfl (q_move rfl) ?_
  refine WL_q rfl (q_lenl sl_70 rfl hva.old) ?_
  refine WL_q rfl (q_lss rfl rfl) ?_
  refine WL_nil (hK1 _ _ ?_)
  clear hK1 K1
  refine hK_7 _ _ ?_
  try clear hK_7 K_7
  refine W_cond _ rfl (fun hc => ?_) (fun hc => ?_)
  ·(try simp only [decide_eq_true_eq, decide_eq_false_iff_not, beq_iff_eq, bne_iff_ne, beq_eq_false_iff_ne, bne_eq_false_iff_eq, Bool.not_eq_true', Bool.not_eq_false'] at hc)
   have hc : k < la.length := by omega
   refine W_skip ?_
   refine hK_6 _ _ ?_
   try clear hK_6 K_6
   refine W_seq (fun K_8 hK_8 => ?_)
   refine W_block ?_
   refine W_seq (fun K_9 hK_9 => ?_)
   refine W_draw sn (.quiet 0 [2, 3, 7, 9, 10] (.quiet 1 [2, 3, 7, 9, 10] (.quiet 2 [3, 7, 9, 10] (.quiet 3 [7, 9, 10] (.quiet 4 [6, 7, 9, 10] (.quiet 5 [6, 7, 9, 10] (.quiet 6 [7, 9, 10] (.quiet 7 [9, 10] (.quiet 8 [9, 10] (.quiet 9 [10] (.quiet 10 [] (.fin)))))))))))) [0, 1, 2, 3, 4, 5, 6, 7, 8, 9, 10] mix (by kernel_rfl) (by kernel_rfl) (fun K1 hK1 => ?_)
   refine PL_q rfl rfl (q_move rfl) ?_
   refine PL_q rfl rfl (q_move rfl) ?_
   refine PL_q rfl rfl (q_idxl sl_70 rfl rfl hva.old (by omega)) ?_
   refine PL_q rfl rfl (q_loadl ty_3 rfl hva.old (by omega)) ?_
   refine PL_q rfl rfl (q_move rfl) ?_
   refine PL_q rfl rfl (q_move rfl) ?_
   refine PL_q rfl rfl (q_call en_93 rfl (fun w hw => skewbackref03_digit_ret vb lb k w (SL.sl (M := _) hvb.old hw))) ?_
   refine PL_q rfl rfl (q_sub rfl rfl) ?_
   refine PL_q rfl rfl (q_move rfl) ?_
   refine PL_q rfl rfl (q_as (q_sub rfl rfl) (congrArg (Value.int .i64) ((show _ = ((dg (dv la) k : Nat) : Int) - ((dg (dv lb) k : Nat) : Int) - (c : Int) by rw [getD_dv la k hDa, getD_dv lb k hDb]; exact sub3 (dg_lt _ _) (dg_lt _ _) hcb)))) ?_
   refine PL_q rfl rfl (q_assign rfl) ?_
   refine PL_fin (hK1 _ _ ?_)
   clear hK1 K1
   refine hK_9 _ _ ?_
   try clear hK_9 K_9
   refine W_seq (fun K_10 hK_10 => ?_)
   refine W_region_k (fun K1 hK1 => ?_)
   refine WL_q rfl (q_assign rfl) ?_
   refine WL_nil (hK1 _ _ ?_)
   clear hK1 K1
   refine hK_10 _ _ ?_
   try clear hK_10 K_10
   refine W_seq (fun K_11 hK_11 => ?_)
   refine W_seq (fun K_12 hK_12 => ?_)
   refine W_region_k (fun K1 hK1 => ?_)
   refine WL_q rfl (q_move rfl) ?_
   refine WL_q rfl (q_lss rfl rfl) ?_
   refine WL_nil (hK1 _ _ ?_)
   clear hK1 K1
   refine hK_12 _ _ ?_
   try clear hK_12 K_12
   refine W_cond _ rfl (fun h26 => ?_) (fun h26 => ?_)
   ·(try simp only [decide_eq_true_eq, decide_eq_false_iff_not, beq_iff_eq, bne_iff_ne, beq_eq_false_iff_ne, bne_eq_false_iff_eq, Bool.not_eq_true', Bool.not_eq_false'] at h26)
    refine W_seq (fun K_13 hK_13 => ?_)
    refine W_region_k (fun K1 hK1 => ?_)
    refine WL_q rfl (q_move rfl) ?_
    refine WL_q rfl (q_add rfl rfl) ?_
    refine WL_q rfl (q_assign rfl) ?_
    refine WL_nil (hK1 _ _ ?_)
    clear hK1 K1
    refine hK_13 _ _ ?_
    try clear hK_13 K_13
    refine W_region_k (fun K1 hK1 => ?_)
    refine WL_q rfl (q_assign rfl) ?_
    refine WL_nil (hK1 _ _ ?_)
    clear hK1 K1
    refine hK_11 _ _ ?_
    try clear hK_11 K_11
    refine W_region_k (fun K1 hK1 => ?_)
    refine WL_q rfl (q_move rfl) ?_
    refine WL_q rfl (q_as (q_move rfl) (show _ = IV (md (dg (dv la) k) (dg (dv lb) k) c) by first | exact md_neg (dg_lt _ _) (dg_lt _ _) hcb h26 | exact md_pos h26)) ?_
    refine WL_r rfl (r_bslice us_70 z_3 sz_3 rfl (by decide) rfl (fillI1 _) (fun b31 hb31 => ?_))
    refine WL_r rfl (r_append us_70 on_3 rfl rfl hO (SL.mine (l := [md (dg (dv la) k) (dg (dv lb) k) c]) (.head _) (Nat.le_refl _)) (List.sublist_cons_self _ _) (by simp; omega) (fun v' L' hO' => ?_))
    refine WL_q rfl (q_assign rfl) ?_
    refine WL_nil (hK1 _ _ ?_)
    clear hK1 K1
    refine hK_8 _ _ ?_
    try clear hK_8 K_8
    refine W_region_k (fun K1 hK1 => ?_)
    refine WL_q rfl (q_move rfl) ?_
    refine WL_q rfl (q_as (q_add rfl rfl) (congrArg (Value.int .i64) (succ_i64 (by omega)))) ?_
    refine WL_q rfl (q_assign rfl) ?_
    refine WL_nil (hK1 _ _ ?_)
    clear hK1 K1
    refine ⟨(by repeat (first | exact .refl | refine .cons rfl ?_)), _, _, (List.Sublist.refl _), (by omega), k + 1, _, _, _, mb (dg (dv la) k) (dg (dv lb) k) c, ⟨?s5, ?s6, ?s7⟩, ?mem, rfl, ⟨by omega, hO', hD.append (DL.one (md_lt (dg_lt _ _) (dg_lt _ _) hcb)), by simp [hlen], mb_le _ _ _, minusD_step hlen hcb hdv⟩⟩
    case mem => rfl
    case s5 => rfl
    case s6 => first | exact mb_neg h26 | exact mb_pos h26
    case s7 => rfl
   ·(try simp only [decide_eq_true_eq, decide_eq_false_iff_not, beq_iff_eq, bne_iff_ne, beq_eq_false_iff_ne, bne_eq_false_iff_eq, Bool.not_eq_true', Bool.not_eq_false'] at h26)
    refine W_skip ?_
    refine hK_11 _ _ ?_
    try clear hK_11 K_11
    refine W_region_k (fun K1 hK1 => ?_)
    refine WL_q rfl (q_move rfl) ?_
    refine WL_q rfl (q_as (q_move rfl) (show _ = IV (md (dg (dv la) k) (dg (dv lb) k) c) by first | exact md_neg (dg_lt _ _) (dg_lt _ _) hcb h26 | exact md_pos h26)) ?_
    refine WL_r rfl (r_bslice us_70 z_3 sz_3 rfl (by decide) rfl (fillI1 _) (fun b31 hb31 => ?_))
    refine WL_r rfl (r_append us_70 on_3 rfl rfl hO (SL.mine (l := [md (dg (dv la) k) (dg (dv lb) k) c]) (.head _) (Nat.le_refl _)) (List.sublist_cons_self _ _) (by simp; omega) (fun v' L' hO' => ?_))
    refine WL_q rfl (q_assign rfl) ?_
    refine WL_nil (hK1 _ _ ?_)
    clear hK1 K1
    refine hK_8 _ _ ?_
    try clear hK_8 K_8
    refine W_region_k (fun K1 hK1 => ?_)
    refine WL_q rfl (q_move rfl) ?_
    refine WL_q rfl (q_as (q_add rfl rfl) (congrArg (Value.int .i64) (succ_i64 (by omega)))) ?_
    refine WL_q rfl (q_assign rfl) ?_
    refine WL_nil (hK1 _ _ ?_)
    clear hK1 K1
    refine ⟨(by repeat (first | exact .refl | refine .cons rfl ?_)), _, _, (List.Sublist.refl _), (by omega), k + 1, _, _, _, mb (dg (dv la) k) (dg (dv lb) k) c, ⟨?s5, ?s6, ?s7⟩, ?mem, rfl, ⟨by omega, hO', hD.append (DL.one (md_lt (dg_lt _ _) (dg_lt _ _) hcb)), by simp [hlen], mb_le _ _ _, minusD_step hlen hcb hdv⟩⟩
    case mem => rfl
    case s5 => rfl
    case s6 => first | exact mb_neg h26 | exact mb_pos h26
    case s7 => rfl
  ·(try simp only [decide_eq_true_eq, decide_eq_false_iff_not, beq_iff_eq, bne_iff_ne, beq_eq_false_iff_ne, bne_eq_false_iff_eq, Bool.not_eq_true', Bool.not_eq_false'] at hc)
   obtain rfl : k = la.length := by omega
   refine W_exit (thenK_x (thenK_x (blockK_hit ?_)))
   refine hK_4 _ _ ?_
   try clear hK_4 K_4
   refine W_seq (fun K_14 hK_14 => ?_)
   refine W_region_k (fun K1 hK1 => ?_)
   refine WL_q rfl (q_move rfl) ?_
   refine WL_q rfl (q_call en_92 rfl (fun w hw => skewbackref03_trim_ret v l hD (by omega) w (SL.sl (hO.sl (List.sublist_append_left _ _)) hw))) ?_
   refine WL_q rfl (q_assign rfl) ?_
   refine WL_nil (hK1 _ _ ?_)
   clear hK1 K1
   refine hK_14 _ _ ?_
   try clear hK_14 K_14
   refine W_ret ?_
   refine ret1 rfl (.inr rfl) rfl ?_
   exact trimmed hD (minusD_all hDa hD hlen hle hdv hcb) (hO.slf (List.sublist_append_left _ _))

theorem skewbackref03_less_ret (va vb : Value) (la lb : List Nat) (hDa : DL la) (hDb : DL lb) (hna : la.length ≤ 200) (hnb : lb.length ≤ 200) (w : World) (hva : Sl w va la) (hvb : Sl w vb lb) :
    Calls Try.prog 89 [va, vb].toArray w (fun e w' => e = .returned (.bool (decide (dv la < dv lb))) ∧ Ext w w') := by
 refine callsq_of_W (N := 30) Try.func89 rfl rfl (by simp) ?_
 obtain ⟨w0, rfl⟩ : ∃ w0, w0 = w := ⟨_, rfl⟩
 simp only [initF, Nat.reduceAdd]
 refine W_seq (fun K_1 hK_1 => ?_)
 refine W_region_k (fun K1 hK1 => ?_)
 refine WL_q rfl (q_assign rfl) ?_
 refine WL_nil (hK1 _ _ ?_)
 clear hK1 K1
 refine hK_1 _ _ ?_
 try clear hK_1 K_1
 refine W_seq (fun K_2 hK_2 => ?_)
 refine W_seq (fun K_3 hK_3 => ?_)
 refine W_region_k (fun K1 hK1 => ?_)
 refine WL_q rfl (q_move rfl) ?_
 refine WL_q rfl (q_lenl sl_70 rfl hva.old) ?_
 refine WL_q rfl (q_move rfl) ?_
 refine WL_q rfl (q_lenl sl_70 rfl hvb.old) ?_
 refine WL_q rfl (q_maxn rfl rfl) ?_
 refine WL_q rfl (q_sub rfl rfl) ?_
 refine WL_q rfl (q_assign rfl) ?_
 refine WL_nil (hK1 _ _ ?_)
 clear hK1 K1
 refine hK_3 _ _ ?_
 try clear hK_3 K_3
 refine W_block ?_
 refine W_loop_g [4, 5, 12, 13, 14, 15, 16, 17, 18, 19, 20, 21, 22, 23, 24, 25, 26, 27, 28, 29] (fun g nn M => ∃ (k : Nat), (g 5 = .int .i64 ((k : Int) - 1)) ∧ M = [] ∧ nn = k + 0 ∧ (k ≤ max la.length lb.length ∧ dv la / 65536 ^ k = dv lb / 65536 ^ k)) (max la.length lb.length) ?start ?round
 case start =>
  refine ⟨_, (List.Sublist.refl _), max la.length lb.length, ?a5, ?mem0, rfl, ⟨Nat.le_refl _, less_start hDa hDb⟩⟩
  case mem0 => rfl
  case a5 => exact congrArg (Value.int .i64) (wrap_i64_id (by unfold I64; omega))
 case round =>
  rintro nn g M ⟨k, hg5, rfl, hmeas, ⟨hk, hd⟩⟩
  subst nn
  simp only [setG, hg5]
  clear hg5
  refine W_seq (fun K_4 hK_4 => ?_)
  refine W_seq (fun K_5 hK_5 => ?_)
  refine W_region_k (fun K1 hK1 => ?_)
  refine WL_q rfl (q_move rfl) ?_
  refine WL_q rfl (q_geq rfl rfl) ?_
  refine WL_nil (hK1 _ _ ?_)
  clear hK1 K1
  refine hK_5 _ _ ?_
  try clear hK_5 K_5
  refine W_cond _ rfl (fun hc => ?_) (fun hc => ?_)
  ·(try simp only [decide_eq_true_eq, decide_eq_false_iff_not, beq_iff_eq, bne_iff_ne, beq_eq_false_iff_ne, bne_eq_false_iff_eq, Bool.not_eq_true', Bool.not_eq_false'] at hc)
   obtain ⟨m, rfl⟩ : ∃ m, k = m + 1 := ⟨k - 1, by omega⟩
   refine W_skip ?_
   refine hK_4 _ _ ?_
   try clear hK_4 K_4
   refine W_seq (fun K_6 hK_6 => ?_)
   refine W_block ?_
   refine W_seq (fun K_7 hK_7 => ?_)
   refine W_region_k (fun K1 hK1 => ?_)
   refine WL_q rfl (q_move rfl) ?_
   refine WL_q rfl (q_as (q_move rfl) (congrArg (Value.int .i64) (show (((m + 1 : Nat) : Int) - 1) = (m : Int) by omega))) ?_
   refine WL_q rfl (q_call en_93 rfl (fun w hw => skewbackref03_digit_ret va la m w (SL.sl (M := _) hva.old hw))) ?_
   refine WL_q rfl (q_move rfl) ?_
   refine WL_q rfl (q_as (q_move rfl) (congrArg (Value.int .i64) (show (((m + 1 : Nat) : Int) - 1) = (m : Int) by omega))) ?_
   refine WL_q rfl (q_call en_93 rfl (fun w hw => skewbackref03_digit_ret vb lb m w (SL.sl (M := _) hvb.old hw))) ?_
   refine WL_q rfl (q_neq rfl rfl) ?_
   refine WL_nil (hK1 _ _ ?_)
   clear hK1 K1
   refine hK_7 _ _ ?_
   try clear hK_7 K_7
   refine W_cond _ rfl (fun hne => ?_) (fun hne => ?_)
   ·(try simp only [decide_eq_true_eq, decide_eq_false_iff_not, beq_iff_eq, bne_iff_ne, beq_eq_false_iff_ne, bne_eq_false_iff_eq, Bool.not_eq_true', Bool.not_eq_false'] at hne)
    have hne' : dg (dv la) m ≠ dg (dv lb) m := by rw [← getD_dv la m hDa, ← getD_dv lb m hDb]; omega
    refine W_seq (fun K_8 hK_8 => ?_)
    refine W_region_k (fun K1 hK1 => ?_)
    refine WL_q rfl (q_move rfl) ?_
    refine WL_q rfl (q_as (q_move rfl) (congrArg (Value.int .i64) (show (((m + 1 : Nat) : Int) - 1) = (m : Int) by omega))) ?_
    refine WL_q rfl (q_call en_93 rfl (fun w hw => skewbackref03_digit_ret va la m w (SL.sl (M := _) hva.old hw))) ?_
    refine WL_q rfl (q_move rfl) ?_
    refine WL_q rfl (q_as (q_move rfl) (congrArg (Value.int .i64) (show (((m + 1 : Nat) : Int) - 1) = (m : Int) by omega))) ?_
    refine WL_q rfl (q_call en_93 rfl (fun w hw => skewbackref03_digit_ret vb lb m w (SL.sl (M := _) hvb.old hw))) ?_
    refine WL_q rfl (q_lss rfl rfl) ?_
    refine WL_q rfl (q_assign rfl) ?_
    refine WL_nil (hK1 _ _ ?_)
    clear hK1 K1
    refine hK_8 _ _ ?_
    try clear hK_8 K_8
    refine W_ret ?_
    refine blockK_r (thenK_r (thenK_r (blockK_r (thenK_r (ret1 rfl (.inr rfl) rfl ?_)))))
    (rw [getD_dv la m hDa, getD_dv lb m hDb]; exact congrArg Value.bool (less_step hd hne'))
   ·(try simp only [decide_eq_true_eq, decide_eq_false_iff_not, beq_iff_eq, bne_iff_ne, beq_eq_false_iff_ne, bne_eq_false_iff_eq, Bool.not_eq_true', Bool.not_eq_false'] at hne)
    have heq' : dg (dv la) m = dg (dv lb) m := by rw [← getD_dv la m hDa, ← getD_dv lb m hDb]; omega
    refine W_skip ?_
    refine hK_6 _ _ ?_
    try clear hK_6 K_6
    refine W_region_k (fun K1 hK1 => ?_)
    refine WL_q rfl (q_as (q_move rfl) (congrArg (Value.int .i64) (show (((m + 1 : Nat) : Int) - 1) = (m : Int) by omega))) ?_
    refine WL_q rfl (q_sub rfl rfl) ?_
    refine WL_q rfl (q_assign rfl) ?_
    refine WL_nil (hK1 _ _ ?_)
    clear hK1 K1
    refine ⟨(by repeat (first | exact .refl | refine .cons rfl ?_)), _, _, (List.Sublist.refl _), (by omega), m, ?s5, ?mem, rfl, ⟨by omega, less_same hd heq'⟩⟩
    case mem => rfl
    case s5 => exact congrArg (Value.int .i64) (wrap_i64_id (n := (m : Int) - 1) (by unfold I64; omega))
  ·(try simp only [decide_eq_true_eq, decide_eq_false_iff_not, beq_iff_eq, bne_iff_ne, beq_eq_false_iff_ne, bne_eq_false_iff_eq, Bool.not_eq_true', Bool.not_eq_false'] at hc)
   obtain rfl : k = 0 := by omega
   refine W_exit (thenK_x (thenK_x (blockK_hit ?_)))
   refine hK_2 _ _ ?_
   try clear hK_2 K_2
   refine W_seq (fun K_9 hK_9 => ?_)
   refine W_region_k (fun K1 hK1 => ?_)
   refine WL_q rfl (q_assign rfl) ?_
   refine WL_nil (hK1 _ _ ?_)
   clear hK1 K1
   refine hK_9 _ _ ?_
   try clear hK_9 K_9
   refine W_ret ?_
   refine ret1 rfl (.inr rfl) rfl ?_
   (simp only [Nat.pow_zero, Nat.div_one] at hd; rw [hd]; exact congrArg Value.bool (decide_eq_false (Nat.lt_irrefl _)).symm)

theorem skewbackref03_times_ret (va vb : Value) (la lb : List Nat) (hDa : DL la) (hDb : DL lb) (hna : la.length ≤ 200) (hnb : lb.length ≤ 200) (w : World) (hva : Sl w va la) (hvb : Sl w vb lb) :
    Calls Try.prog 68 [va, vb].toArray w (fun e w' => ∃ v, e = .returned v ∧ Ext w w' ∧ Slf w.heap.size w' v (dl (dv la * dv lb))) := by
 refine callssl_of_W (N := 72) Try.func68 rfl rfl (by simp) ?_
 obtain ⟨w0, rfl⟩ : ∃ w0, w0 = w := ⟨_, rfl⟩
 simp only [initF, Nat.reduceAdd]
 refine W_seq (fun K_1 hK_1 => ?_)
 refine W_region_k (fun K1 hK1 => ?_)
 refine WL_q rfl (q_assign rfl) ?_
 refine WL_nil (hK1 _ _ ?_)
 clear hK1 K1
 refine hK_1 _ _ ?_
 try clear hK_1 K_1
 refine W_seq (fun K_2 hK_2 => ?_)
 refine W_region_k (fun K1 hK1 => ?_)
 refine WL_q rfl (q_move rfl) ?_
 refine WL_q rfl (q_lenl sl_70 rfl hva.old) ?_
 refine WL_q rfl (q_move rfl) ?_
 refine WL_q rfl (q_lenl sl_70 rfl hvb.old) ?_
 refine WL_q rfl (q_as (q_add rfl rfl) (congrArg (Value.int .i64) (add_i64 (by omega)))) ?_
 refine WL_q rfl (q_as (q_add rfl rfl) (congrArg (Value.int .i64) (succ_i64 (by omega)))) ?_
 refine WL_r rfl (r_make us_70 on_3 z_3 rfl rfl (by omega) (fun b17 hb17 => ?_))
 refine WL_q rfl (q_assign rfl) ?_
 refine WL_nil (hK1 _ _ ?_)
 clear hK1 K1
 refine hK_2 _ _ ?_
 try clear hK_2 K_2
 refine W_seq (fun K_3 hK_3 => ?_)
 refine W_seq (fun K_4 hK_4 => ?_)
 refine W_region_k (fun K1 hK1 => ?_)
 refine WL_q rfl (q_assign rfl) ?_
 refine WL_nil (hK1 _ _ ?_)
 clear hK1 K1
 refine hK_4 _ _ ?_
 try clear hK_4 K_4
 refine W_block ?_
 refine W_loop_g [6, 7, 8, 9, 10, 18, 19, 20, 21, 22, 23, 24, 25, 26, 27, 28, 29, 30, 31, 32, 33, 34, 35, 36, 37, 38, 39, 40, 41, 42, 43, 44, 45, 46, 47, 48, 49, 50, 51, 52, 53, 54, 55, 56, 57, 58, 59, 60, 61, 62, 63, 64, 65, 66, 67, 68, 69] (fun g nn M => ∃ (i : Nat) (o : List Nat), (g 6 = .int .i64 (i : Int)) ∧ M = [⟨b17, 3, iw o⟩] ∧ nn = la.length - i ∧ (i ≤ la.length ∧ DL o ∧ o.length = (la.length + lb.length + 1) ∧ dv o = dv la % 65536 ^ i * dv lb)) (la.length - 0) ?start ?round
 case start =>
  refine ⟨_, (List.Sublist.refl _), 0, List.replicate (la.length + lb.length + 1) 0, ?a6, ?mem0, rfl, ⟨Nat.zero_le _, fun d hd => by rw [List.eq_of_mem_replicate hd]; decide, by simp, by rw [dv_zeros, Nat.pow_zero, Nat.mod_one, Nat.zero_mul]⟩⟩
  case mem0 => rfl
  case a6 => rfl
 case round =>
  rintro nn g M ⟨i, o, hg6, rfl, hmeas, ⟨hi, hDo, hlo, hdv⟩⟩
  subst nn
  simp only [setG, hg6]
  clear hg6
  refine W_seq (fun K_5 hK_5 => ?_)
  refine W_seq (fun K_6 hK_6 => ?_)
  refine W_region_k (fun K1 hK1 => ?_)
  refine WL_q rfl (q_move rfl) ?_
  refine WL_q rfl (q_move rfl) ?_
  refine WL_q rfl (q_lenl sl_70 rfl hva.old) ?_
  refine WL_q rfl (q_lss rfl rfl) ?_
  refine WL_nil (hK1 _ _ ?_)
  clear hK1 K1
  refine hK_6 _ _ ?_
  try clear hK_6 K_6
  refine W_cond _ rfl (fun hc => ?_) (fun hc => ?_)
  ·(try simp only [decide_eq_true_eq, decide_eq_false_iff_not, beq_iff_eq, bne_iff_ne, beq_eq_false_iff_ne, bne_eq_false_iff_eq, Bool.not_eq_true', Bool.not_eq_false'] at hc)
   have hc : i < la.length := by omega
   refine W_skip ?_
   refine hK_5 _ _ ?_
   try clear hK_5 K_5
   refine W_seq (fun K_7 hK_7 => ?_)
   refine W_block ?_
   refine W_seq (fun K_8 hK_8 => ?_)
   refine W_seq (fun K_9 hK_9 => ?_)
   refine W_region_k (fun K1 hK1 => ?_)
   refine WL_q rfl (q_assign rfl) ?_
   refine WL_nil (hK1 _ _ ?_)
   clear hK1 K1
   refine hK_9 _ _ ?_
   try clear hK_9 K_9
   refine W_block ?_
   refine W_loop_g [7, 24, 25, 26, 27, 28, 29, 30, 31, 32, 33, 34, 35, 36, 37, 38, 39, 40, 41, 42, 43, 44, 45, 46, 47, 48, 49, 50] (fun g nn M => ∃ (k : Nat) (l : List Nat), (g 7 = .int .i64 (k : Int)) ∧ M = [⟨b17, 3, iw l⟩] ∧ nn = lb.length - k ∧ (k ≤ lb.length ∧ RowIn (la.length + lb.length + 1) (dv lb) i (dg (dv la) i) o k l)) (lb.length - 0) ?start ?round
   case start =>
    refine ⟨_, (List.Sublist.refl _), 0, o, ?a7, ?mem0, rfl, ⟨Nat.zero_le _, RowIn.start _ _ _ hDo hlo⟩⟩
    case mem0 => rfl
    case a7 => rfl
   case round =>
    rintro nn g M ⟨k, l, hg7, rfl, hmeas, ⟨hkl, hR⟩⟩
    subst nn
    simp only [setG, hg7]
    clear hg7
    refine W_seq (fun K_10 hK_10 => ?_)
    refine W_seq (fun K_11 hK_11 => ?_)
    refine W_region_k (fun K1 hK1 => ?_)
    refine WL_q rfl (q_move rfl) ?_
    refine WL_q rfl (q_move rfl) ?_
    refine WL_q rfl (q_lenl sl_70 rfl hvb.old) ?_
    refine WL_q rfl (q_lss rfl rfl) ?_
    refine WL_nil (hK1 _ _ ?_)
    clear hK1 K1
    refine hK_11 _ _ ?_
    try clear hK_11 K_11
    refine W_cond _ rfl (fun hk2 => ?_) (fun hk2 => ?_)
    ·(try simp only [decide_eq_true_eq, decide_eq_false_iff_not, beq_iff_eq, bne_iff_ne, beq_eq_false_iff_ne, bne_eq_false_iff_eq, Bool.not_eq_true', Bool.not_eq_false'] at hk2)
     have hk2 : k < lb.length := by omega
     refine W_skip ?_
     refine hK_10 _ _ ?_
     try clear hK_10 K_10
     refine W_seq (fun K_12 hK_12 => ?_)
     refine W_block ?_
     refine W_draw sn (.quiet 0 [20, 21] (.quiet 1 [3, 20, 21] (.quiet 2 [3, 20, 21] (.quiet 3 [20, 21] (.quiet 4 [8, 9, 19, 20, 21] (.quiet 5 [7, 8, 9, 19, 20, 21] (.quiet 6 [7, 8, 9, 19, 20, 21] (.quiet 7 [8, 9, 19, 20, 21] (.quiet 8 [9, 19, 20, 21] (.quiet 9 [19, 20, 21] (.quiet 10 [12, 13, 18, 19, 20, 21] (.quiet 11 [12, 13, 18, 19, 20, 21] (.quiet 12 [13, 18, 19, 20, 21] (.quiet 13 [18, 19, 20, 21] (.quiet 14 [16, 17, 18, 19, 20, 21] (.quiet 15 [16, 17, 18, 19, 20, 21] (.quiet 16 [17, 18, 19, 20, 21] (.quiet 17 [18, 19, 20, 21] (.quiet 18 [19, 20, 21] (.quiet 19 [20, 21] (.quiet 20 [21] (.only 21 (.fin))))))))))))))))))))))) [0, 1, 2, 3, 4, 5, 6, 7, 8, 9, 10, 11, 12, 13, 14, 15, 16, 17, 18, 19, 20] mix (by kernel_rfl) (by kernel_rfl) (fun K1 hK1 => ?_)
     refine PL_q rfl rfl (q_move rfl) ?_
     refine PL_q rfl rfl (q_move rfl) ?_
     refine PL_q rfl rfl (q_move rfl) ?_
     refine PL_q rfl rfl (q_as (q_add rfl rfl) (congrArg (Value.int .i64) (add_i64 (by omega)))) ?_
     refine PL_q rfl rfl (q_move rfl) ?_
     refine PL_q rfl rfl (q_move rfl) ?_
     refine PL_q rfl rfl (q_move rfl) ?_
     refine PL_q rfl rfl (q_as (q_add rfl rfl) (congrArg (Value.int .i64) (add_i64 (by omega)))) ?_
     refine PL_q rfl rfl (q_idxs sl_70 rfl rfl (by omega) (by omega)) ?_
     refine PL_q rfl rfl (q_load ty_3 rfl (by repeat (first | exact .head _ | apply List.mem_append_right | apply List.Mem.tail)) (iwAt (by rw [hR.len]; omega))) ?_
     refine PL_q rfl rfl (q_move rfl) ?_
     refine PL_q rfl rfl (q_move rfl) ?_
     refine PL_q rfl rfl (q_idxl sl_70 rfl rfl hva.old (by omega)) ?_
     refine PL_q rfl rfl (q_loadl ty_3 rfl hva.old (by omega)) ?_
     refine PL_q rfl rfl (q_move rfl) ?_
     refine PL_q rfl rfl (q_move rfl) ?_
     refine PL_q rfl rfl (q_idxl sl_70 rfl rfl hvb.old (by omega)) ?_
     refine PL_q rfl rfl (q_loadl ty_3 rfl hvb.old (by omega)) ?_
     refine PL_q rfl rfl (q_mul rfl rfl) ?_
     refine PL_q rfl rfl (q_as (q_add rfl rfl) (show _ = IV (l.getD (i + k) 0 + dg (dv la) i * dg (dv lb) k) by rw [getD_dv la i hDa, getD_dv lb k hDb]; exact mac_i64 (hR.high _ (Nat.le_refl _)) (dg_lt _ _) (dg_lt _ _))) ?_
     refine PL_q rfl rfl (q_idxs sl_70 rfl rfl (by omega) (by omega)) ?_
     refine PL_o rfl rfl (r_storei ty_3 rfl rfl (by repeat (first | exact .head _ | apply Upd.left | apply Upd.tail)) (by rw [hR.len]; omega) (.inl (by assumption)) ⟨nf, (by repeat (first | exact s0 | exact sn | refine sk ?_ | refine sd ?_ | refine sA ?_ | refine sR ?_)), ?_⟩)
     refine PL_fin (hK1 _ _ ?_)
     clear hK1 K1
     refine hK_12 _ _ ?_
     try clear hK_12 K_12
     refine W_region_k (fun K1 hK1 => ?_)
     refine WL_q rfl (q_move rfl) ?_
     refine WL_q rfl (q_as (q_add rfl rfl) (congrArg (Value.int .i64) (succ_i64 (by omega)))) ?_
     refine WL_q rfl (q_assign rfl) ?_
     refine WL_nil (hK1 _ _ ?_)
     clear hK1 K1
     refine ⟨(by repeat (first | exact .refl | refine .cons rfl ?_)), _, _, (List.Sublist.refl _), (by omega), k + 1, _, ?s7, ?mem, rfl, ⟨by omega, hR.step (by omega) (dg_lt _ _)⟩⟩
     case mem => rfl
     case s7 => rfl
    ·(try simp only [decide_eq_true_eq, decide_eq_false_iff_not, beq_iff_eq, bne_iff_ne, beq_eq_false_iff_ne, bne_eq_false_iff_eq, Bool.not_eq_true', Bool.not_eq_false'] at hk2)
     obtain rfl : k = lb.length := by omega
     refine W_exit (thenK_x (thenK_x (blockK_hit ?_)))
     refine hK_8 _ _ ?_
     try clear hK_8 K_8
     refine W_seq (fun K_13 hK_13 => ?_)
     refine W_region_k (fun K1 hK1 => ?_)
     refine WL_q rfl (q_assign rfl) ?_
     refine WL_nil (hK1 _ _ ?_)
     clear hK1 K1
     refine hK_13 _ _ ?_
     try clear hK_13 K_13
     refine W_seq (fun K_14 hK_14 => ?_)
     refine W_region_k (fun K1 hK1 => ?_)
     refine WL_q rfl (q_assign rfl) ?_
     refine WL_nil (hK1 _ _ ?_)
     clear hK1 K1
     refine hK_14 _ _ ?_
     try clear hK_14 K_14
     refine W_block ?_
     refine W_loop_g [8, 9, 10, 51, 52, 53, 54, 55, 56, 57, 58, 59, 60, 61, 62, 63, 64, 65, 66, 67, 68, 69] (fun g nn M => ∃ (m : Nat) (l : List Nat) (c : Nat), (g 8 = .int .i64 (c : Int) ∧ g 9 = .int .i64 (m : Int)) ∧ M = [⟨b17, 3, iw l⟩] ∧ nn = (la.length + lb.length + 1) - m ∧ (m ≤ (la.length + lb.length + 1) ∧ CarryIn (la.length + lb.length + 1) (dv o + 65536 ^ i * (dg (dv la) i * (dv lb % 65536 ^ lb.length))) m l c)) ((la.length + lb.length + 1) - 0) ?start ?round
     case start =>
      refine ⟨_, (List.Sublist.refl _), 0, l, 0, ⟨?a8, ?a9⟩, ?mem0, rfl, ⟨Nat.zero_le _, hR.done⟩⟩
      case mem0 => rfl
      case a8 => rfl
      case a9 => rfl
     case round =>
      rintro nn g M ⟨m, l, c, ⟨hg8, hg9⟩, rfl, hmeas, ⟨hml, hC⟩⟩
      subst nn
      simp only [setG, hg8, hg9]
      clear hg8 hg9
      refine W_seq (fun K_15 hK_15 => ?_)
      refine W_seq (fun K_16 hK_16 => ?_)
      refine W_region_k (fun K1 hK1 => ?_)
      refine WL_q rfl (q_move rfl) ?_
      refine WL_q rfl (q_move rfl) ?_
      refine WL_q rfl (q_len sl_70 rfl) ?_
      refine WL_q rfl (q_lss rfl rfl) ?_
      refine WL_nil (hK1 _ _ ?_)
      clear hK1 K1
      refine hK_16 _ _ ?_
      try clear hK_16 K_16
      refine W_cond _ rfl (fun hm2 => ?_) (fun hm2 => ?_)
      ·(try simp only [decide_eq_true_eq, decide_eq_false_iff_not, beq_iff_eq, bne_iff_ne, beq_eq_false_iff_ne, bne_eq_false_iff_eq, Bool.not_eq_true', Bool.not_eq_false'] at hm2)
       have hm2 : m < (la.length + lb.length + 1) := by omega
       refine W_skip ?_
       refine hK_15 _ _ ?_
       try clear hK_15 K_15
       refine W_seq (fun K_17 hK_17 => ?_)
       refine W_block ?_
       refine W_seq (fun K_18 hK_18 => ?_)
       refine W_region_k (fun K1 hK1 => ?_)
       refine WL_q rfl (q_move rfl) ?_
       refine WL_q rfl (q_move rfl) ?_
       refine WL_q rfl (q_idxs sl_70 rfl rfl (by omega) (by omega)) ?_
       refine WL_q rfl (q_load ty_3 rfl (by repeat (first | exact .head _ | apply List.mem_append_right | apply List.Mem.tail)) (iwAt (by rw [hC.len]; omega))) ?_
       refine WL_q rfl (q_move rfl) ?_
       refine WL_q rfl (q_as (q_add rfl rfl) (congrArg (Value.int .i64) (addI (by have := hC.low m; have := hC.clt; omega)))) ?_
       refine WL_q rfl (q_assign rfl) ?_
       refine WL_nil (hK1 _ _ ?_)
       clear hK1 K1
       refine hK_18 _ _ ?_
       try clear hK_18 K_18
       refine W_seq (fun K_19 hK_19 => ?_)
       refine W_region_k (fun K1 hK1 => ?_)
       refine WL_q rfl (q_move rfl) ?_
       refine WL_q rfl (q_move rfl) ?_
       refine WL_q rfl (q_move rfl) ?_
       refine WL_q rfl (q_as (q_rem rfl rfl (by decide)) (remI _)) ?_
       refine WL_q rfl (q_idxs sl_70 rfl rfl (by omega) (by omega)) ?_
       refine WL_r rfl (r_storei ty_3 rfl rfl (by repeat (first | exact .head _ | apply Upd.left | apply Upd.tail)) (by rw [hC.len]; omega) (.inl (by assumption)) ?_)
       refine WL_nil (hK1 _ _ ?_)
       clear hK1 K1
       refine hK_19 _ _ ?_
       try clear hK_19 K_19
       refine W_region_k (fun K1 hK1 => ?_)
       refine WL_q rfl (q_move rfl) ?_
       refine WL_q rfl (q_as (q_quo rfl rfl (by decide)) (congrArg (Value.int .i64) (quoI (by have := hC.low m; have := hC.clt; omega)))) ?_
       refine WL_q rfl (q_assign rfl) ?_
       refine WL_nil (hK1 _ _ ?_)
       clear hK1 K1
       refine hK_17 _ _ ?_
       try clear hK_17 K_17
       refine W_region_k (fun K1 hK1 => ?_)
       refine WL_q rfl (q_move rfl) ?_
       refine WL_q rfl (q_as (q_add rfl rfl) (congrArg (Value.int .i64) (succ_i64 (by omega)))) ?_
       refine WL_q rfl (q_assign rfl) ?_
       refine WL_nil (hK1 _ _ ?_)
       clear hK1 K1
       refine ⟨(by repeat (first | exact .refl | refine .cons rfl ?_)), _, _, (List.Sublist.refl _), (by omega), m + 1, _, _, ⟨?s8, ?s9⟩, ?mem, rfl, ⟨by omega, hC.step (by omega)⟩⟩
       case mem => rfl
       case s8 => rfl
       case s9 => rfl
      ·(try simp only [decide_eq_true_eq, decide_eq_false_iff_not, beq_iff_eq, bne_iff_ne, beq_eq_false_iff_ne, bne_eq_false_iff_eq, Bool.not_eq_true', Bool.not_eq_false'] at hm2)
       obtain rfl : m = (la.length + lb.length + 1) := by omega
       have hT : (dv o + 65536 ^ i * (dg (dv la) i * (dv lb % 65536 ^ lb.length))) = dv la % 65536 ^ (i + 1) * dv lb := by rw [hdv]; exact times_row (dv_lt lb hDb)
       have hF := hC.fin (by rw [hT]; exact times_lt (by omega) (dv_lt lb hDb))
       rw [hT] at hF
       refine W_exit (thenK_x (thenK_x (blockK_hit ?_)))
       refine hK_7 _ _ ?_
       try clear hK_7 K_7
       refine W_region_k (fun K1 hK1 => ?_)
       refine WL_q rfl (q_move rfl) ?_
       refine WL_q rfl (q_as (q_add rfl rfl) (congrArg (Value.int .i64) (succ_i64 (by omega)))) ?_
       refine WL_q rfl (q_assign rfl) ?_
       refine WL_nil (hK1 _ _ ?_)
       clear hK1 K1
       refine ⟨(by repeat (first | exact .refl | refine .cons rfl ?_)), _, _, (List.Sublist.refl _), (by omega), i + 1, _, ?s6, ?mem, rfl, ⟨by omega, hF⟩⟩
       case mem => rfl
       case s6 => rfl
  ·(try simp only [decide_eq_true_eq, decide_eq_false_iff_not, beq_iff_eq, bne_iff_ne, beq_eq_false_iff_ne, bne_eq_false_iff_eq, Bool.not_eq_true', Bool.not_eq_false'] at hc)
   obtain rfl : i = la.length := by omega
   refine W_exit (thenK_x (thenK_x (blockK_hit ?_)))
   refine hK_3 _ _ ?_
   try clear hK_3 K_3
   refine W_seq (fun K_20 hK_20 => ?_)
   refine W_region_k (fun K1 hK1 => ?_)
   refine WL_q rfl (q_move rfl) ?_
   refine WL_q rfl (q_call en_92 rfl (fun w hw => skewbackref03_trim_ret _ o hDo (by omega) w (SL.sl (SL.mine' (.head _) hlo (Nat.le_refl _)) hw))) ?_
   refine WL_q rfl (q_assign rfl) ?_
   refine WL_nil (hK1 _ _ ?_)
   clear hK1 K1
   refine hK_20 _ _ ?_
   try clear hK_20 K_20
   refine W_ret ?_
   refine ret1 rfl (.inr rfl) rfl ?_
   exact trimmed hDo (by rw [hdv, Nat.mod_eq_of_lt (dv_lt la hDa)]) (SLf.mine hb17 (.head _) hlo (Nat.le_refl _))

theorem skewbackref03_at_ret (va : Value) (la : List Nat) (k : Int) (w : World) (hva : Sl w va la) :
    Calls Try.prog 112 [va, .int .i64 k].toArray w (fun e w' => e = .returned (.int .i64 ((atD la k : Nat) : Int)) ∧ Ext w w') := by
 refine callsq_of_W (N := 10) Try.func112 rfl rfl (by simp) ?_
 obtain ⟨w0, rfl⟩ : ∃ w0, w0 = w := ⟨_, rfl⟩
 simp only [initF, Nat.reduceAdd]
 refine W_seq (fun K_1 hK_1 => ?_)
 refine W_region_k (fun K1 hK1 => ?_)
 refine WL_q rfl (q_assign rfl) ?_
 refine WL_nil (hK1 _ _ ?_)
 clear hK1 K1
 refine hK_1 _ _ ?_
 try clear hK_1 K_1
 refine W_seq (fun K_2 hK_2 => ?_)
 refine W_seq (fun K_3 hK_3 => ?_)
 refine W_region_k (fun K1 hK1 => ?_)
 refine WL_q rfl (q_move rfl) ?_
 refine WL_q rfl (q_lss rfl rfl) ?_
 refine WL_nil (hK1 _ _ ?_)
 clear hK1 K1
 refine hK_3 _ _ ?_
 try clear hK_3 K_3
 refine W_cond _ rfl (fun h0 => ?_) (fun h0 => ?_)
 ·(try simp only [decide_eq_true_eq, decide_eq_false_iff_not, beq_iff_eq, bne_iff_ne, beq_eq_false_iff_ne, bne_eq_false_iff_eq, Bool.not_eq_true', Bool.not_eq_false'] at h0)
  refine W_seq (fun K_4 hK_4 => ?_)
  refine W_region_k (fun K1 hK1 => ?_)
  refine WL_q rfl (q_assign rfl) ?_
  refine WL_nil (hK1 _ _ ?_)
  clear hK1 K1
  refine hK_4 _ _ ?_
  try clear hK_4 K_4
  refine W_ret ?_
  refine thenK_r (ret1 rfl (.inr rfl) rfl ?_)
  (rw [atD_neg h0]; rfl)
 ·(try simp only [decide_eq_true_eq, decide_eq_false_iff_not, beq_iff_eq, bne_iff_ne, beq_eq_false_iff_ne, bne_eq_false_iff_eq, Bool.not_eq_true', Bool.not_eq_false'] at h0)
  refine W_skip ?_
  refine hK_2 _ _ ?_
  try clear hK_2 K_2
  refine W_seq (fun K_5 hK_5 => ?_)
  refine W_region_k (fun K1 hK1 => ?_)
  refine WL_q rfl (q_move rfl) ?_
  refine WL_q rfl (q_as (q_move rfl) (show _ = Value.int .i64 ((k.toNat : Nat) : Int) from congrArg (Value.int .i64) (by omega))) ?_
  refine WL_q rfl (q_call en_93 rfl (fun w hw => skewbackref03_digit_ret va la k.toNat w (SL.sl (M := _) hva.old hw))) ?_
  refine WL_q rfl (q_assign rfl) ?_
  refine WL_nil (hK1 _ _ ?_)
  clear hK1 K1
  refine hK_5 _ _ ?_
  try clear hK_5 K_5
  refine W_ret ?_
  refine ret1 rfl (.inr rfl) rfl ?_
  rw [atD_pos h0]

theorem skewbackref03_half_ret (n : Int) :
    Ret Try.prog 66 [.int .i64 n] (.bool (decide (n < 2147483648) && decide (-2147483648 < n))) := by
 refine ret_of_W (N := 9) Try.func66 rfl rfl (by simp) (fun w0 => ?_)
 simp only [initF, Nat.reduceAdd]
 refine W_seq (fun K_1 hK_1 => ?_)
 refine W_region_k (fun K1 hK1 => ?_)
 refine WL_q rfl (q_assign rfl) ?_
 refine WL_nil (hK1 _ _ ?_)
 clear hK1 K1
 refine hK_1 _ _ ?_
 try clear hK_1 K_1
 refine W_seq (fun K_2 hK_2 => ?_)
 refine W_region_k (fun K1 hK1 => ?_)
 refine WL_q rfl (q_move rfl) ?_
 refine WL_q rfl (q_lss rfl rfl) ?_
 refine WL_q rfl (q_move rfl) ?_
 cases h1 : decide (n < 2147483648)
 ·skip
  refine WL_n rfl ?_
  refine WL_n rfl ?_
  refine WL_q rfl (q_pick rfl rfl) ?_
  refine WL_q rfl (q_assign rfl) ?_
  refine WL_nil (hK1 _ _ ?_)
  clear hK1 K1
  refine hK_2 _ _ ?_
  try clear hK_2 K_2
  refine W_ret ?_
  refine ret1 rfl (.inr rfl) rfl ?_
  simp [*]
 ·skip
  refine WL_q rfl (q_move rfl) ?_
  refine WL_q rfl (q_gtr rfl rfl) ?_
  refine WL_q rfl (q_pick rfl rfl) ?_
  refine WL_q rfl (q_assign rfl) ?_
  refine WL_nil (hK1 _ _ ?_)
  clear hK1 K1
  refine hK_2 _ _ ?_
  try clear hK_2 K_2
  refine W_ret ?_
  refine ret1 rfl (.inr rfl) rfl ?_
  simp [*]

theorem skewbackref03_floor_ret (n m : Int) (hn : I64 n) (hnm : n ≠ -9223372036854775808) (hm : m ≠ 0) :
    Ret Try.prog 88 [.int .i64 n, .int .i64 m] (.int .i64 (n.fdiv m)) := by
 refine ret_of_W (N := 23) Try.func88 rfl rfl (by simp) (fun w0 => ?_)
 simp only [initF, Nat.reduceAdd]
 refine W_seq (fun K_1 hK_1 => ?_)
 refine W_region_k (fun K1 hK1 => ?_)
 refine WL_q rfl (q_assign rfl) ?_
 refine WL_nil (hK1 _ _ ?_)
 clear hK1 K1
 refine hK_1 _ _ ?_
 try clear hK_1 K_1
 refine W_seq (fun K_2 hK_2 => ?_)
 refine W_region_k (fun K1 hK1 => ?_)
 refine WL_q rfl (q_move rfl) ?_
 refine WL_q rfl (q_move rfl) ?_
 refine WL_q rfl (q_as (q_quo rfl rfl hm) (congrArg (Value.int .i64) (wrap_i64_id (quo64a hn hnm)))) ?_
 refine WL_q rfl (q_assign rfl) ?_
 refine WL_nil (hK1 _ _ ?_)
 clear hK1 K1
 refine hK_2 _ _ ?_
 try clear hK_2 K_2
 refine W_seq (fun K_3 hK_3 => ?_)
 refine W_seq (fun K_4 hK_4 => ?_)
 refine W_region_k (fun K1 hK1 => ?_)
 refine WL_q rfl (q_move rfl) ?_
 refine WL_q rfl (q_move rfl) ?_
 refine WL_q rfl (q_rem rfl rfl hm) ?_
 refine WL_q rfl (q_neq rfl rfl) ?_
 refine WL_q rfl (q_move rfl) ?_
 cases h0 : (n.tmod m != 0)
 ·skip
  refine WL_n rfl ?_
  refine WL_n rfl ?_
  refine WL_n rfl ?_
  refine WL_n rfl ?_
  refine WL_n rfl ?_
  refine WL_q rfl (q_pick rfl rfl) ?_
  refine WL_nil (hK1 _ _ ?_)
  clear hK1 K1
  refine hK_4 _ _ ?_
  try clear hK_4 K_4
  refine W_false rfl ?_
  refine W_skip ?_
  refine hK_3 _ _ ?_
  try clear hK_3 K_3
  refine W_seq (fun K_5 hK_5 => ?_)
  refine W_region_k (fun K1 hK1 => ?_)
  refine WL_q rfl (q_move rfl) ?_
  refine WL_q rfl (q_assign rfl) ?_
  refine WL_nil (hK1 _ _ ?_)
  clear hK1 K1
  refine hK_5 _ _ ?_
  try clear hK_5 K_5
  refine W_ret ?_
  refine ret1 rfl (.inr rfl) rfl ?_
  exact congrArg (Value.int .i64) (fl_same hm (.inl (by simpa using h0))).1.symm
 ·skip
  refine WL_q rfl (q_move rfl) ?_
  refine WL_q rfl (q_lss rfl rfl) ?_
  refine WL_q rfl (q_move rfl) ?_
  refine WL_q rfl (q_lss rfl rfl) ?_
  refine WL_q rfl (q_neqb bo_4 rfl rfl) ?_
  refine WL_q rfl (q_pick rfl rfl) ?_
  refine WL_nil (hK1 _ _ ?_)
  clear hK1 K1
  refine hK_4 _ _ ?_
  try clear hK_4 K_4
  refine W_cond _ rfl (fun hs => ?_) (fun hs => ?_)
  ·(try simp only [decide_eq_true_eq, decide_eq_false_iff_not, beq_iff_eq, bne_iff_ne, beq_eq_false_iff_ne, bne_eq_false_iff_eq, Bool.not_eq_true', Bool.not_eq_false'] at hs)
   refine W_region_k (fun K1 hK1 => ?_)
   refine WL_q rfl (q_move rfl) ?_
   refine WL_q rfl (q_as (q_sub rfl rfl) (congrArg (Value.int .i64) (wrap_i64_id (quo64b hn hnm)))) ?_
   refine WL_q rfl (q_assign rfl) ?_
   refine WL_nil (hK1 _ _ ?_)
   clear hK1 K1
   refine hK_3 _ _ ?_
   try clear hK_3 K_3
   refine W_seq (fun K_6 hK_6 => ?_)
   refine W_region_k (fun K1 hK1 => ?_)
   refine WL_q rfl (q_move rfl) ?_
   refine WL_q rfl (q_assign rfl) ?_
   refine WL_nil (hK1 _ _ ?_)
   clear hK1 K1
   refine hK_6 _ _ ?_
   try clear hK_6 K_6
   refine W_ret ?_
   refine ret1 rfl (.inr rfl) rfl ?_
   exact congrArg (Value.int .i64) (fl_adj hm (by simpa using h0) (bne_iff_ne.2 (by rw [tmod_sign (by simpa using h0)]; exact hs))).1.symm
  ·(try simp only [decide_eq_true_eq, decide_eq_false_iff_not, beq_iff_eq, bne_iff_ne, beq_eq_false_iff_ne, bne_eq_false_iff_eq, Bool.not_eq_true', Bool.not_eq_false'] at hs)
   refine W_skip ?_
   refine hK_3 _ _ ?_
   try clear hK_3 K_3
   refine W_seq (fun K_7 hK_7 => ?_)
   refine W_region_k (fun K1 hK1 => ?_)
   refine WL_q rfl (q_move rfl) ?_
   refine WL_q rfl (q_assign rfl) ?_
   refine WL_nil (hK1 _ _ ?_)
   clear hK1 K1
   refine hK_7 _ _ ?_
   try clear hK_7 K_7
   refine W_ret ?_
   refine ret1 rfl (.inr rfl) rfl ?_
   exact congrArg (Value.int .i64) (fl_same hm (.inr (by rw [tmod_sign (by simpa using h0)]; simpa using hs))).1.symm
end Go.Proofs.Ythbjhbmpfeeilaa
