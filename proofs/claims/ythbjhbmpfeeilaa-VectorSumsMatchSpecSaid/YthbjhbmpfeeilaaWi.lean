/- Walks: what these functions return. -/
import Derived.Test.YthbjhbmpfeeilaaFa0
import Derived.Test.YthbjhbmpfeeilaaWa
import Derived.Test.YthbjhbmpfeeilaaWc
import Derived.Test.YthbjhbmpfeeilaaWg
namespace Go.Proofs.Ythbjhbmpfeeilaa
open Go.Kn Go.Num
set_option linter.unusedVariables false
set_option linter.unusedSimpArgs false
set_option maxRecDepth 20000
set_option maxHeartbeats 8000000
theorem whole_Gcd_step (n : Nat) (IH : ∀ (a b : R), a.Ok → b.Ok → val b.w < n → Ret Try.prog 48 [RV a, RV b] (RV (Z.gcd a.dec b.dec).enc)) (a b : R) (ha : a.Ok) (hb : b.Ok) (hn : val b.w = n) :
    Ret Try.prog 48 [RV a, RV b] (RV (Z.gcd a.dec b.dec).enc) := by
 refine ret_of_W (N := 80) Try.func48 rfl rfl (by simp) (fun w0 => ?_)
 simp only [initF, Nat.reduceAdd]
 refine W_seq (fun K_1 hK_1 => ?_)
 refine W_region_k (fun K1 hK1 => ?_)
 refine WL_r rfl (r_box rfl rfl (fun b2 hb2 => ?_))
 refine WL_r rfl (r_box rfl rfl (fun b3 hb3 => ?_))
 refine WL_r rfl (r_alloc z_28 (fun b4 hb4 => ?_))
 refine WL_nil (hK1 _ _ ?_)
 clear hK1 K1
 refine hK_1 _ _ ?_
 try clear hK_1 K_1
 refine W_seq (fun K_2 hK_2 => ?_)
 refine W_seq (fun K_3 hK_3 => ?_)
 refine W_region_k (fun K1 hK1 => ?_)
 refine WL_q rfl (q_loadw ty_28 rfl (by repeat (first | exact .head _ | apply List.mem_append_right | apply List.Mem.tail)) (cells_len ha)) ?_
 refine WL_q rfl (q_loadw ty_28 rfl (by repeat (first | exact .head _ | apply List.mem_append_right | apply List.Mem.tail)) (cells_len hb)) ?_
 refine WL_r rfl (r_bslice us_104 z_28 sz_28 rfl (by decide) rfl (fillG2 ha hb) (fun b13 hb13 => ?_))
 refine WL_q rfl (q_call en_78 rfl (fun w hw => whole_good_ret [a, b] (ok2 ha hb) b13 28 w (hw.mem _ m0) (by simp))) ?_
 refine WL_q rfl (q_not rfl) ?_
 refine WL_nil (hK1 _ _ ?_)
 clear hK1 K1
 refine hK_3 _ _ ?_
 try clear hK_3 K_3
 refine W_cond _ rfl (fun hg => ?_) (fun hg => ?_)
 ·(try simp only [decide_eq_true_eq, decide_eq_false_iff_not, beq_iff_eq, bne_iff_ne, beq_eq_false_iff_ne, bne_eq_false_iff_eq, Bool.not_eq_true', Bool.not_eq_false'] at hg)
  refine W_seq (fun K_4 hK_4 => ?_)
  refine W_region_k (fun K1 hK1 => ?_)
  refine WL_q rfl (q_ret en_79 whole_Bad_ret rfl) ?_
  refine WL_r rfl (r_storew ty_28 rfl rfl (by repeat (first | exact .head _ | apply Upd.left | apply Upd.tail)) (enc_cells_len _) rfl (cells_plain _) (.inl (by assumption)) ?_)
  refine WL_nil (hK1 _ _ ?_)
  clear hK1 K1
  refine hK_4 _ _ ?_
  try clear hK_4 K_4
  refine W_ret ?_
  refine thenK_r (ret1 rfl (.inr rfl) ⟨_, _, _, _, _, _, rfl, (by repeat (first | exact .head _ | apply List.mem_append_right | apply List.Mem.tail)), ty_28, _, (takeAll (enc_cells_len _)), (enc_cells_len _), rfl⟩ ?_)
  exact congrArg RV (gcd_bad hg)
 ·(try simp only [decide_eq_true_eq, decide_eq_false_iff_not, beq_iff_eq, bne_iff_ne, beq_eq_false_iff_ne, bne_eq_false_iff_eq, Bool.not_eq_true', Bool.not_eq_false'] at hg)
  have hg := all2.1 hg
  refine W_skip ?_
  refine hK_2 _ _ ?_
  try clear hK_2 K_2
  refine W_join [5, 6, 17, 18, 19, 20, 21, 22, 23, 24, 25, 26, 27, 28, 29, 30, 31, 32, 33, 34, 35, 36, 37, 38, 39, 40, 41, 42, 43, 44, 45, 46, 47, 48, 49, 50, 51, 52, 53, 54, 55, 56, 57, 58, 59] (fun g M => (True) ∧ M = [⟨b4, 28, zR⟩, ⟨b3, 28, b.cells⟩, ⟨b2, 28, a.cells⟩] ∧ (True)) (fun K_5 hK_5 => ?_) ?_
  ·skip
   refine W_seq (fun K_6 hK_6 => ?_)
   refine W_region_k (fun K1 hK1 => ?_)
   refine WL_q rfl (q_faddr fd_28_2 (by decide) rfl) ?_
   refine WL_q rfl (q_loada (vs := uw a.w) ty_26 rfl (by repeat (first | exact .head _ | apply List.mem_append_right | apply List.Mem.tail)) (cellsW ha.len) ((uw_len _).trans ha.len)) ?_
   refine WL_q rfl (q_ret en_80 (whole_size_ret a.w ha.len) rfl) ?_
   refine WL_q rfl (q_leq rfl rfl) ?_
   refine WL_q rfl (q_move rfl) ?_
   cases hsz : decide ((szL a.w : Int) ≤ 2)
   ·skip
    refine WL_n rfl ?_
    refine WL_n rfl ?_
    refine WL_n rfl ?_
    refine WL_n rfl ?_
    refine WL_q rfl (q_pick rfl rfl) ?_
    refine WL_nil (hK1 _ _ ?_)
    clear hK1 K1
    refine hK_6 _ _ ?_
    try clear hK_6 K_6
    refine W_false rfl ?_
    refine W_skip ?_
    refine hK_5 _ _ (by repeat (first | exact .refl | refine .cons rfl ?_)) ⟨_, (List.Sublist.cons _ (List.Sublist.refl _)), trivial, ?mem, trivial⟩
    case mem => rfl
   ·skip
    refine WL_q rfl (q_faddr fd_28_2 (by decide) rfl) ?_
    refine WL_q rfl (q_loada (vs := uw b.w) ty_26 rfl (by repeat (first | exact .head _ | apply List.mem_append_right | apply List.Mem.tail)) (cellsW hb.len) ((uw_len _).trans hb.len)) ?_
    refine WL_q rfl (q_ret en_80 (whole_size_ret b.w hb.len) rfl) ?_
    refine WL_q rfl (q_leq rfl rfl) ?_
    refine WL_q rfl (q_pick rfl rfl) ?_
    refine WL_nil (hK1 _ _ ?_)
    clear hK1 K1
    refine hK_6 _ _ ?_
    try clear hK_6 K_6
    refine W_cond _ rfl (fun hsz2 => ?_) (fun hsz2 => ?_)
    ·(try simp only [decide_eq_true_eq, decide_eq_false_iff_not, beq_iff_eq, bne_iff_ne, beq_eq_false_iff_ne, bne_eq_false_iff_eq, Bool.not_eq_true', Bool.not_eq_false'] at hsz2)
     have hA64 := sz2 ha (by have := of_decide_eq_true hsz; omega)
     have hB64 := sz2 hb (by omega)
     refine W_seq (fun K_7 hK_7 => ?_)
     refine W_draw (sk (sk (sk (sk (s0))))) (.quiet 0 [1, 2, 3, 4, 9, 20, 21] (.quiet 1 [2, 3, 4, 9, 20, 21] (.quiet 2 [3, 4, 9, 20, 21] (.quiet 3 [4, 9, 20, 21] (.quiet 4 [9, 20, 21] (.quiet 5 [6, 7, 8, 9, 20, 21] (.quiet 6 [7, 8, 9, 20, 21] (.quiet 7 [8, 9, 20, 21] (.quiet 8 [9, 20, 21] (.quiet 9 [20, 21] (.quiet 10 [11, 12, 13, 14, 19, 21] (.quiet 11 [12, 13, 14, 19, 21] (.quiet 12 [13, 14, 19, 21] (.quiet 13 [14, 19, 21] (.quiet 14 [19, 21] (.quiet 15 [16, 17, 18, 19, 21] (.quiet 16 [17, 18, 19, 21] (.quiet 17 [18, 19, 21] (.quiet 18 [19, 21] (.quiet 19 [21] (.quiet 20 [21] (.quiet 21 [] (.fin))))))))))))))))))))))) [0, 1, 2, 3, 4, 5, 6, 7, 8, 9, 10, 11, 12, 13, 14, 15, 16, 17, 18, 19, 20, 21] mix (by kernel_rfl) (by kernel_rfl) (fun K1 hK1 => ?_)
     refine PL_q rfl rfl (q_faddr fd_28_2 (by decide) rfl) ?_
     refine PL_q rfl rfl (q_idxa ar_26 rfl rfl (by decide) (by decide)) ?_
     refine PL_q rfl rfl (q_load ty_25 rfl (by repeat (first | exact .head _ | apply List.mem_append_right | apply List.Mem.tail)) (cellsAt (r := a) (k := 1) (by rw [ha.len]; omega))) ?_
     refine PL_q rfl rfl (q_as (q_conv in_25 in_78 rfl) (u32u64 (getD_lt ha.lim _))) ?_
     refine PL_q rfl rfl (q_as (q_shl rfl rfl (by decide)) (congrArg (Value.int .u64) (shl_r32 (getD_lt ha.lim _)))) ?_
     refine PL_q rfl rfl (q_faddr fd_28_2 (by decide) rfl) ?_
     refine PL_q rfl rfl (q_idxa ar_26 rfl rfl (by decide) (by decide)) ?_
     refine PL_q rfl rfl (q_load ty_25 rfl (by repeat (first | exact .head _ | apply List.mem_append_right | apply List.Mem.tail)) (cellsAt (r := a) (k := 0) (by rw [ha.len]; omega))) ?_
     refine PL_q rfl rfl (q_as (q_conv in_25 in_78 rfl) (u32u64 (getD_lt ha.lim _))) ?_
     refine PL_q rfl rfl (q_as (q_or rfl rfl) (congrArg (Value.int .u64) ((or_hi (getD_lt ha.lim _) (getD_lt ha.lim _)).trans (congrArg (fun m : Nat => (m : Int)) (two_digits ha hA64))))) ?_
     refine PL_q rfl rfl (q_faddr fd_28_2 (by decide) rfl) ?_
     refine PL_q rfl rfl (q_idxa ar_26 rfl rfl (by decide) (by decide)) ?_
     refine PL_q rfl rfl (q_load ty_25 rfl (by repeat (first | exact .head _ | apply List.mem_append_right | apply List.Mem.tail)) (cellsAt (r := b) (k := 1) (by rw [hb.len]; omega))) ?_
     refine PL_q rfl rfl (q_as (q_conv in_25 in_78 rfl) (u32u64 (getD_lt hb.lim _))) ?_
     refine PL_q rfl rfl (q_as (q_shl rfl rfl (by decide)) (congrArg (Value.int .u64) (shl_r32 (getD_lt hb.lim _)))) ?_
     refine PL_q rfl rfl (q_faddr fd_28_2 (by decide) rfl) ?_
     refine PL_q rfl rfl (q_idxa ar_26 rfl rfl (by decide) (by decide)) ?_
     refine PL_q rfl rfl (q_load ty_25 rfl (by repeat (first | exact .head _ | apply List.mem_append_right | apply List.Mem.tail)) (cellsAt (r := b) (k := 0) (by rw [hb.len]; omega))) ?_
     refine PL_q rfl rfl (q_as (q_conv in_25 in_78 rfl) (u32u64 (getD_lt hb.lim _))) ?_
     refine PL_q rfl rfl (q_as (q_or rfl rfl) (congrArg (Value.int .u64) ((or_hi (getD_lt hb.lim _) (getD_lt hb.lim _)).trans (congrArg (fun m : Nat => (m : Int)) (two_digits hb hB64))))) ?_
     refine PL_q rfl rfl (q_assign rfl) ?_
     refine PL_q rfl rfl (q_assign rfl) ?_
     refine PL_fin (hK1 _ _ ?_)
     clear hK1 K1
     refine hK_7 _ _ ?_
     try clear hK_7 K_7
     refine W_seq (fun K_8 hK_8 => ?_)
     refine W_block ?_
     refine W_loop_g [5, 6, 47, 48, 49, 50, 51, 52] (fun g nn M => ∃ (x y : Nat), (g 5 = .int .u64 (x : Int) ∧ g 6 = .int .u64 (y : Int)) ∧ M = [⟨b4, 28, zR⟩, ⟨b3, 28, b.cells⟩, ⟨b2, 28, a.cells⟩] ∧ nn = y ∧ (x < 18446744073709551616 ∧ y < 18446744073709551616 ∧ Nat.gcd x y = Nat.gcd (val a.w) (val b.w))) (val b.w) ?start ?round
     case start =>
      refine ⟨_, (List.Sublist.cons _ (List.Sublist.refl _)), _, _, ⟨?a5, ?a6⟩, ?mem0, rfl, ⟨hA64, hB64, rfl⟩⟩
      case mem0 => rfl
      case a5 => rfl
      case a6 => rfl
     case round =>
      rintro nn g M ⟨x, y, ⟨hg5, hg6⟩, rfl, hmeas, ⟨hx64, hy64, hgc⟩⟩
      subst nn
      simp only [setG, hg5, hg6]
      clear hg5 hg6
      refine W_seq (fun K_9 hK_9 => ?_)
      refine W_seq (fun K_10 hK_10 => ?_)
      refine W_region_k (fun K1 hK1 => ?_)
      refine WL_q rfl (q_move rfl) ?_
      refine WL_q rfl (q_neq rfl rfl) ?_
      refine WL_nil (hK1 _ _ ?_)
      clear hK1 K1
      refine hK_10 _ _ ?_
      try clear hK_10 K_10
      refine W_cond _ rfl (fun hy0 => ?_) (fun hy0 => ?_)
      ·(try simp only [decide_eq_true_eq, decide_eq_false_iff_not, beq_iff_eq, bne_iff_ne, beq_eq_false_iff_ne, bne_eq_false_iff_eq, Bool.not_eq_true', Bool.not_eq_false'] at hy0)
       refine W_skip ?_
       refine hK_9 _ _ ?_
       try clear hK_9 K_9
       refine W_block ?_
       refine W_draw (sk (sk (sk (s0)))) (.quiet 0 [4, 5] (.quiet 1 [3, 4, 5] (.quiet 2 [3, 5] (.quiet 3 [5] (.quiet 4 [5] (.quiet 5 [] (.fin))))))) [0, 1, 2, 3, 4, 5] mix (by kernel_rfl) (by kernel_rfl) (fun K1 hK1 => ?_)
       refine PL_q rfl rfl (q_move rfl) ?_
       refine PL_q rfl rfl (q_move rfl) ?_
       refine PL_q rfl rfl (q_move rfl) ?_
       refine PL_q rfl rfl (q_as (q_rem rfl rfl (by omega)) (congrArg (Value.int .u64) (rem_nat _ _))) ?_
       refine PL_q rfl rfl (q_assign rfl) ?_
       refine PL_q rfl rfl (q_assign rfl) ?_
       refine PL_fin (hK1 _ _ ?_)
       clear hK1 K1
       refine ⟨(by repeat (first | exact .refl | refine .cons rfl ?_)), _, _, (List.Sublist.refl _), (Nat.mod_lt _ (by omega)), y, x % y, ⟨?s5, ?s6⟩, ?mem, rfl, ⟨hy64, Nat.lt_of_le_of_lt (Nat.mod_le _ _) hx64, by rw [Nat.gcd_comm, ← Nat.gcd_rec, Nat.gcd_comm]; exact hgc⟩⟩
       case mem => rfl
       case s5 => rfl
       case s6 => rfl
      ·(try simp only [decide_eq_true_eq, decide_eq_false_iff_not, beq_iff_eq, bne_iff_ne, beq_eq_false_iff_ne, bne_eq_false_iff_eq, Bool.not_eq_true', Bool.not_eq_false'] at hy0)
       refine W_exit (thenK_x (thenK_x (blockK_hit ?_)))
       refine hK_8 _ _ ?_
       try clear hK_8 K_8
       refine W_seq (fun K_11 hK_11 => ?_)
       refine W_region_k (fun K1 hK1 => ?_)
       refine WL_q rfl (q_move rfl) ?_
       refine WL_q rfl (q_conv in_78 in_25 rfl) ?_
       refine WL_q rfl (q_move rfl) ?_
       refine WL_q rfl (q_as (q_shr rfl rfl (by decide)) (congrArg (Value.int .u64) (shr_nat _ 32))) ?_
       refine WL_q rfl (q_conv in_78 in_25 rfl) ?_
       refine WL_q rfl (q_builda z_26 ar_26 rfl (fillXY hx64)) ?_
       refine WL_q rfl (q_ret en_77 (whole_signed_ret false _ (by simp) (lim2 (Nat.mod_lt _ (by decide)) (by omega) 14)) rfl) ?_
       refine WL_r rfl (r_storew ty_28 rfl rfl (by repeat (first | exact .head _ | apply Upd.left | apply Upd.tail)) (sw_len (by simp)) rfl (cells_plain _) (.inl (by assumption)) ?_)
       refine WL_nil (hK1 _ _ ?_)
       clear hK1 K1
       refine hK_11 _ _ ?_
       try clear hK_11 K_11
       refine W_ret ?_
       refine thenK_r (ret1 rfl (.inr rfl) ⟨_, _, _, _, _, _, rfl, (by repeat (first | exact .head _ | apply List.mem_append_right | apply List.Mem.tail)), ty_28, _, (takeAll (sw_len (by simp))), (sw_len (by simp)), rfl⟩ ?_)
       exact gcd_fin ha hb hg.1 hg.2 hx64 (gcd_u64 hx64 hgc (by omega))
    ·(try simp only [decide_eq_true_eq, decide_eq_false_iff_not, beq_iff_eq, bne_iff_ne, beq_eq_false_iff_ne, bne_eq_false_iff_eq, Bool.not_eq_true', Bool.not_eq_false'] at hsz2)
     refine W_skip ?_
     refine hK_5 _ _ (by repeat (first | exact .refl | refine .cons rfl ?_)) ⟨_, (List.Sublist.cons _ (List.Sublist.refl _)), trivial, ?mem, trivial⟩
     case mem => rfl
  ·skip
   rintro g M ⟨-, rfl, -⟩
   simp only [setG]
   refine W_seq (fun K_12 hK_12 => ?_)
   refine W_seq (fun K_13 hK_13 => ?_)
   refine W_draw (sk (sk (sk (s0)))) (.quiet 0 [1, 6, 7] (.quiet 1 [6, 7] (.still 2 [3, 7] (.still 3 [7] (.both 4 (.only 5 (.only 6 (.only 7 (.fin)))) 5 (.only 4 (.only 6 (.only 7 (.fin))))))))) [0, 1, 2, 3, 4, 5] mix (by kernel_rfl) (by kernel_rfl) (fun K1 hK1 => ?_)
   refine PL_q rfl rfl (q_faddr fd_28_2 (by decide) rfl) ?_
   refine PL_q rfl rfl (q_loada (vs := uw a.w) ty_26 rfl (by repeat (first | exact .head _ | apply List.mem_append_right | apply List.Mem.tail)) (cellsW ha.len) ((uw_len _).trans ha.len)) ?_
   refine PL_s rfl rfl (q_faddr fd_28_2 (by decide) rfl) ?_
   refine PL_s rfl rfl (q_loada (vs := uw b.w) ty_26 rfl (by repeat (first | exact .head _ | apply List.mem_append_right | apply List.Mem.tail)) (cellsW hb.len) ((uw_len _).trans hb.len)) ?_
   refine PL_b ?_ ?_
   ·skip
    refine PL_o rfl rfl (r_alloc z_26 (fun b7 hb7 => ⟨(fun _ => by first | exact sd s0 | exact s0), (by repeat (first | exact s0 | exact sn | refine sk ?_ | refine sd ?_ | refine sA ?_ | refine sR ?_)), ?_⟩))
    refine PL_o rfl rfl (r_alloc z_26 (fun b8 hb8 => ⟨(fun _ => by first | exact sd s0 | exact s0), (by repeat (first | exact s0 | exact sn | refine sk ?_ | refine sd ?_ | refine sA ?_ | refine sR ?_)), ?_⟩))
    refine PL_o rfl rfl (r_storew ty_26 rfl rfl (by repeat (first | exact .head _ | apply Upd.left | apply Upd.tail)) (by simp [uw, ha.len]) (by simp [uw]) (uw_plain _) (.inl (by assumption)) ⟨nf, (by repeat (first | exact s0 | exact sn | refine sk ?_ | refine sd ?_ | refine sA ?_ | refine sR ?_)), ?_⟩)
    refine PL_o rfl rfl (r_storew ty_26 rfl rfl (by repeat (first | exact .head _ | apply Upd.left | apply Upd.tail)) (by simp [uw, hb.len]) (by simp [uw]) (uw_plain _) (.inl (by assumption)) ⟨nf, (by repeat (first | exact s0 | exact sn | refine sk ?_ | refine sd ?_ | refine sA ?_ | refine sR ?_)), ?_⟩)
    refine PL_fin (hK1 _ _ ?_)
    clear hK1 K1
    refine hK_13 _ _ ?_
    try clear hK_13 K_13
    refine W_seq (fun K_14 hK_14 => ?_)
    refine W_region_k (fun K1 hK1 => ?_)
    refine WL_q rfl (q_loadw ty_26 rfl (by repeat (first | exact .head _ | apply List.mem_append_right | apply List.Mem.tail)) (by simp [uw, hb.len])) ?_
    refine WL_q rfl (q_builda z_26 ar_26 rfl (.nil _)) ?_
    refine WL_q rfl (q_neqa (r := (val b.w == 0)) rfl rfl (eqOk_of 8 (by decide) eg_26 lv_26 (uwLeaves hb.len) (uwLeaves (by simp)) (zero_iff' hb.len hb.lim))) ?_
    refine WL_nil (hK1 _ _ ?_)
    clear hK1 K1
    refine hK_14 _ _ ?_
    try clear hK_14 K_14
    refine W_cond _ rfl (fun hb0 => ?_) (fun hb0 => ?_)
    ·(try simp only [decide_eq_true_eq, decide_eq_false_iff_not, beq_iff_eq, bne_iff_ne, beq_eq_false_iff_ne, bne_eq_false_iff_eq, Bool.not_eq_true', Bool.not_eq_false'] at hb0)
     have hp : 0 < val b.w := Nat.pos_of_ne_zero (by simpa using hb0)
     refine W_seq (fun K_15 hK_15 => ?_)
     refine W_region_k (fun K1 hK1 => ?_)
     refine WL_q rfl (q_loadw ty_26 rfl (by repeat (first | exact .head _ | apply List.mem_append_right | apply List.Mem.tail)) (by simp [uw, ha.len])) ?_
     refine WL_q rfl (q_loadw ty_26 rfl (by repeat (first | exact .head _ | apply List.mem_append_right | apply List.Mem.tail)) (by simp [uw, hb.len])) ?_
     refine WL_q rfl (q_ret en_81 (whole_quotient_ret a.w b.w ha.len hb.len ha.lim hb.lim hp) rfl) ?_
     refine WL_q rfl (q_move rfl) ?_
     refine WL_q rfl (q_extract rfl rfl) ?_
     refine WL_q rfl (q_extract rfl rfl) ?_
     refine WL_r rfl (r_alloc z_26 (fun b9 hb9 => ?_))
     refine WL_r rfl (r_alloc z_26 (fun b10 hb10 => ?_))
     refine WL_r rfl (r_storew ty_26 rfl rfl (by repeat (first | exact .head _ | apply Upd.left | apply Upd.tail)) (by simp [uw, toL_len]) (by simp [uw]) (uw_plain _) (.inl (by assumption)) ?_)
     refine WL_r rfl (r_storew ty_26 rfl rfl (by repeat (first | exact .head _ | apply Upd.left | apply Upd.tail)) (by simp [uw, toL_len]) (by simp [uw]) (uw_plain _) (.inl (by assumption)) ?_)
     refine WL_nil (hK1 _ _ ?_)
     clear hK1 K1
     refine hK_15 _ _ ?_
     try clear hK_15 K_15
     refine W_seq (fun K_16 hK_16 => ?_)
     refine W_draw (sk (sk (sk (sk (sd (sk (sk (s0)))))))) (.quiet 0 [1, 3, 4, 5] (.quiet 1 [3, 4, 5] (.quiet 2 [3, 4, 5] (.quiet 3 [4, 5] (.quiet 4 [5] (.only 5 (.fin))))))) [0, 1, 2, 3, 4] mix (by kernel_rfl) (by kernel_rfl) (fun K1 hK1 => ?_)
     refine PL_q rfl rfl (q_loadw ty_26 rfl (by repeat (first | exact .head _ | apply List.mem_append_right | apply List.Mem.tail)) (by simp [uw, hb.len])) ?_
     refine PL_q rfl rfl (q_as (q_ret en_77 (whole_signed_ret false b.w hb.len hb.lim) rfl) (enc_signed' hb.len hb.lim false)) ?_
     refine PL_q rfl rfl (q_loadw ty_26 rfl (by repeat (first | exact .head _ | apply List.mem_append_right | apply List.Mem.tail)) (by simp [uw, toL_len])) ?_
     refine PL_q rfl rfl (q_as (q_ret en_77 (whole_signed_ret false _ (toL_len _ _) (toL_lim _ _)) rfl) (congrArg RV (enc_signed false (mod_lt16 ha)))) ?_
     refine PL_q rfl rfl (q_ret en_48 (IH (Z.of (sgn false (val b.w))).enc (Z.of (sgn false (val a.w % val b.w))).enc (Z.enc_ok _) (Z.enc_ok _) (by rw [enc_val (mod_lt16 ha), ← hn]; exact Nat.mod_lt _ hp)) rfl) ?_
     refine PL_o rfl rfl (r_storew ty_28 rfl rfl (by repeat (first | exact .head _ | apply Upd.left | apply Upd.tail)) (enc_cells_len _) rfl (cells_plain _) (.inl (by assumption)) ⟨nf, (by repeat (first | exact s0 | exact sn | refine sk ?_ | refine sd ?_ | refine sA ?_ | refine sR ?_)), ?_⟩)
     refine PL_fin (hK1 _ _ ?_)
     clear hK1 K1
     refine hK_16 _ _ ?_
     try clear hK_16 K_16
     refine W_ret ?_
     refine thenK_r (ret1 rfl (.inr rfl) ⟨_, _, _, _, _, _, rfl, (by repeat (first | exact .head _ | apply List.mem_append_right | apply List.Mem.tail)), ty_28, _, (takeAll (enc_cells_len _)), (enc_cells_len _), rfl⟩ ?_)
     exact gcd_step ha hb hg.1 hg.2
    ·(try simp only [decide_eq_true_eq, decide_eq_false_iff_not, beq_iff_eq, bne_iff_ne, beq_eq_false_iff_ne, bne_eq_false_iff_eq, Bool.not_eq_true', Bool.not_eq_false'] at hb0)
     refine W_skip ?_
     refine hK_12 _ _ ?_
     try clear hK_12 K_12
     refine W_seq (fun K_17 hK_17 => ?_)
     refine W_region_k (fun K1 hK1 => ?_)
     refine WL_q rfl (q_loadw ty_28 rfl (by repeat (first | exact .head _ | apply List.mem_append_right | apply List.Mem.tail)) (cells_len ha)) ?_
     refine WL_q rfl (q_ret en_82 (whole_Abs_ret a ha) rfl) ?_
     refine WL_r rfl (r_storew ty_28 rfl rfl (by repeat (first | exact .head _ | apply Upd.left | apply Upd.tail)) (enc_cells_len _) rfl (cells_plain _) (.inl (by assumption)) ?_)
     refine WL_nil (hK1 _ _ ?_)
     clear hK1 K1
     refine hK_17 _ _ ?_
     try clear hK_17 K_17
     refine W_ret ?_
     refine ret1 rfl (.inr rfl) ⟨_, _, _, _, _, _, rfl, (by repeat (first | exact .head _ | apply List.mem_append_right | apply List.Mem.tail)), ty_28, _, (takeAll (enc_cells_len _)), (enc_cells_len _), rfl⟩ ?_
     exact gcd_zero ha hb hg.1 hg.2 (by simpa using hb0)
   ·skip
    refine PL_o rfl rfl (r_alloc z_26 (fun b8 hb8 => ⟨(fun _ => by first | exact sd s0 | exact s0), (by repeat (first | exact s0 | exact sn | refine sk ?_ | refine sd ?_ | refine sA ?_ | refine sR ?_)), ?_⟩))
    refine PL_o rfl rfl (r_alloc z_26 (fun b7 hb7 => ⟨(fun _ => by first | exact sd s0 | exact s0), (by repeat (first | exact s0 | exact sn | refine sk ?_ | refine sd ?_ | refine sA ?_ | refine sR ?_)), ?_⟩))
    refine PL_o rfl rfl (r_storew ty_26 rfl rfl (by repeat (first | exact .head _ | apply Upd.left | apply Upd.tail)) (by simp [uw, ha.len]) (by simp [uw]) (uw_plain _) (.inl (by assumption)) ⟨nf, (by repeat (first | exact s0 | exact sn | refine sk ?_ | refine sd ?_ | refine sA ?_ | refine sR ?_)), ?_⟩)
    refine PL_o rfl rfl (r_storew ty_26 rfl rfl (by repeat (first | exact .head _ | apply Upd.left | apply Upd.tail)) (by simp [uw, hb.len]) (by simp [uw]) (uw_plain _) (.inl (by assumption)) ⟨nf, (by repeat (first | exact s0 | exact sn | refine sk ?_ | refine sd ?_ | refine sA ?_ | refine sR ?_)), ?_⟩)
    refine PL_fin (hK1 _ _ ?_)
    clear hK1 K1
    refine hK_13 _ _ ?_
    try clear hK_13 K_13
    refine W_seq (fun K_18 hK_18 => ?_)
    refine W_region_k (fun K1 hK1 => ?_)
    refine WL_q rfl (q_loadw ty_26 rfl (by repeat (first | exact .head _ | apply List.mem_append_right | apply List.Mem.tail)) (by simp [uw, hb.len])) ?_
    refine WL_q rfl (q_builda z_26 ar_26 rfl (.nil _)) ?_
    refine WL_q rfl (q_neqa (r := (val b.w == 0)) rfl rfl (eqOk_of 8 (by decide) eg_26 lv_26 (uwLeaves hb.len) (uwLeaves (by simp)) (zero_iff' hb.len hb.lim))) ?_
    refine WL_nil (hK1 _ _ ?_)
    clear hK1 K1
    refine hK_18 _ _ ?_
    try clear hK_18 K_18
    refine W_cond _ rfl (fun hb0 => ?_) (fun hb0 => ?_)
    ·(try simp only [decide_eq_true_eq, decide_eq_false_iff_not, beq_iff_eq, bne_iff_ne, beq_eq_false_iff_ne, bne_eq_false_iff_eq, Bool.not_eq_true', Bool.not_eq_false'] at hb0)
     have hp : 0 < val b.w := Nat.pos_of_ne_zero (by simpa using hb0)
     refine W_seq (fun K_19 hK_19 => ?_)
     refine W_region_k (fun K1 hK1 => ?_)
     refine WL_q rfl (q_loadw ty_26 rfl (by repeat (first | exact .head _ | apply List.mem_append_right | apply List.Mem.tail)) (by simp [uw, ha.len])) ?_
     refine WL_q rfl (q_loadw ty_26 rfl (by repeat (first | exact .head _ | apply List.mem_append_right | apply List.Mem.tail)) (by simp [uw, hb.len])) ?_
     refine WL_q rfl (q_ret en_81 (whole_quotient_ret a.w b.w ha.len hb.len ha.lim hb.lim hp) rfl) ?_
     refine WL_q rfl (q_move rfl) ?_
     refine WL_q rfl (q_extract rfl rfl) ?_
     refine WL_q rfl (q_extract rfl rfl) ?_
     refine WL_r rfl (r_alloc z_26 (fun b9 hb9 => ?_))
     refine WL_r rfl (r_alloc z_26 (fun b10 hb10 => ?_))
     refine WL_r rfl (r_storew ty_26 rfl rfl (by repeat (first | exact .head _ | apply Upd.left | apply Upd.tail)) (by simp [uw, toL_len]) (by simp [uw]) (uw_plain _) (.inl (by assumption)) ?_)
     refine WL_r rfl (r_storew ty_26 rfl rfl (by repeat (first | exact .head _ | apply Upd.left | apply Upd.tail)) (by simp [uw, toL_len]) (by simp [uw]) (uw_plain _) (.inl (by assumption)) ?_)
     refine WL_nil (hK1 _ _ ?_)
     clear hK1 K1
     refine hK_19 _ _ ?_
     try clear hK_19 K_19
     refine W_seq (fun K_20 hK_20 => ?_)
     refine W_draw (sk (sk (sk (sk (sd (sk (sk (s0)))))))) (.quiet 0 [1, 3, 4, 5] (.quiet 1 [3, 4, 5] (.quiet 2 [3, 4, 5] (.quiet 3 [4, 5] (.quiet 4 [5] (.only 5 (.fin))))))) [0, 1, 2, 3, 4] mix (by kernel_rfl) (by kernel_rfl) (fun K1 hK1 => ?_)
     refine PL_q rfl rfl (q_loadw ty_26 rfl (by repeat (first | exact .head _ | apply List.mem_append_right | apply List.Mem.tail)) (by simp [uw, hb.len])) ?_
     refine PL_q rfl rfl (q_as (q_ret en_77 (whole_signed_ret false b.w hb.len hb.lim) rfl) (enc_signed' hb.len hb.lim false)) ?_
     refine PL_q rfl rfl (q_loadw ty_26 rfl (by repeat (first | exact .head _ | apply List.mem_append_right | apply List.Mem.tail)) (by simp [uw, toL_len])) ?_
     refine PL_q rfl rfl (q_as (q_ret en_77 (whole_signed_ret false _ (toL_len _ _) (toL_lim _ _)) rfl) (congrArg RV (enc_signed false (mod_lt16 ha)))) ?_
     refine PL_q rfl rfl (q_ret en_48 (IH (Z.of (sgn false (val b.w))).enc (Z.of (sgn false (val a.w % val b.w))).enc (Z.enc_ok _) (Z.enc_ok _) (by rw [enc_val (mod_lt16 ha), ← hn]; exact Nat.mod_lt _ hp)) rfl) ?_
     refine PL_o rfl rfl (r_storew ty_28 rfl rfl (by repeat (first | exact .head _ | apply Upd.left | apply Upd.tail)) (enc_cells_len _) rfl (cells_plain _) (.inl (by assumption)) ⟨nf, (by repeat (first | exact s0 | exact sn | refine sk ?_ | refine sd ?_ | refine sA ?_ | refine sR ?_)), ?_⟩)
     refine PL_fin (hK1 _ _ ?_)
     clear hK1 K1
     refine hK_20 _ _ ?_
     try clear hK_20 K_20
     refine W_ret ?_
     refine thenK_r (ret1 rfl (.inr rfl) ⟨_, _, _, _, _, _, rfl, (by repeat (first | exact .head _ | apply List.mem_append_right | apply List.Mem.tail)), ty_28, _, (takeAll (enc_cells_len _)), (enc_cells_len _), rfl⟩ ?_)
     exact gcd_step ha hb hg.1 hg.2
    ·(try simp only [decide_eq_true_eq, decide_eq_false_iff_not, beq_iff_eq, bne_iff_ne, beq_eq_false_iff_ne, bne_eq_false_iff_eq, Bool.not_eq_true', Bool.not_eq_false'] at hb0)
     refine W_skip ?_
     refine hK_12 _ _ ?_
     try clear hK_12 K_12
     refine W_seq (fun K_21 hK_21 => ?_)
     refine W_region_k (fun K1 hK1 => ?_)
     refine WL_q rfl (q_loadw ty_28 rfl (by repeat (first | exact .head _ | apply List.mem_append_right | apply List.Mem.tail)) (cells_len ha)) ?_
     refine WL_q rfl (q_ret en_82 (whole_Abs_ret a ha) rfl) ?_
     refine WL_r rfl (r_storew ty_28 rfl rfl (by repeat (first | exact .head _ | apply Upd.left | apply Upd.tail)) (enc_cells_len _) rfl (cells_plain _) (.inl (by assumption)) ?_)
     refine WL_nil (hK1 _ _ ?_)
     clear hK1 K1
     refine hK_21 _ _ ?_
     try clear hK_21 K_21
     refine W_ret ?_
     refine ret1 rfl (.inr rfl) ⟨_, _, _, _, _, _, rfl, (by repeat (first | exact .head _ | apply List.mem_append_right | apply List.Mem.tail)), ty_28, _, (takeAll (enc_cells_len _)), (enc_cells_len _), rfl⟩ ?_
     exact gcd_zero ha hb hg.1 hg.2 (by simpa using hb0)
theorem whole_Gcd_ret (a b : R) (ha : a.Ok) (hb : b.Ok) : Ret Try.prog 48 [RV a, RV b] (RV (Z.gcd a.dec b.dec).enc) := by
  generalize hn : val b.w = n
  induction n using Nat.strongRecOn generalizing a b with
  | ind n ih => exact whole_Gcd_step n (fun a b ha hb h => ih _ h a b ha hb rfl) a b ha hb hn
end Go.Proofs.Ythbjhbmpfeeilaa
