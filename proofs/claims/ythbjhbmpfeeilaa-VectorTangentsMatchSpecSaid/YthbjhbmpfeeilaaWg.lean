/- Walks: what these functions return. -/
import Derived.Test.YthbjhbmpfeeilaaFa0
import Derived.Test.YthbjhbmpfeeilaaWa
import Derived.Test.YthbjhbmpfeeilaaWd
import Derived.Test.YthbjhbmpfeeilaaWe
namespace Go.Proofs.Ythbjhbmpfeeilaa
open Go.Kn Go.Num
set_option linter.unusedVariables false
set_option linter.unusedSimpArgs false
set_option maxRecDepth 20000
set_option maxHeartbeats 8000000
theorem whole_quotient_ret (xs ys : List Nat) (hx : xs.length = 16) (hy : ys.length = 16) (lx : Lim xs) (ly : Lim ys) (h0 : 0 < val ys) :
    Ret Try.prog 81 [UV xs, UV ys] (.tuple #[UV (toL 16 (val xs / val ys)), UV (toL 16 (val xs % val ys))]) := by
 refine ret_of_W (N := 94) Try.func81 rfl rfl (by simp) (fun w0 => ?_)
 simp only [initF, Nat.reduceAdd]
 refine W_seq (fun K_1 hK_1 => ?_)
 refine W_region_k (fun K1 hK1 => ?_)
 refine WL_r rfl (r_box rfl rfl (fun b2 hb2 => ?_))
 refine WL_r rfl (r_box rfl rfl (fun b3 hb3 => ?_))
 refine WL_r rfl (r_alloc z_26 (fun b4 hb4 => ?_))
 refine WL_r rfl (r_alloc z_26 (fun b5 hb5 => ?_))
 refine WL_nil (hK1 _ _ ?_)
 clear hK1 K1
 refine hK_1 _ _ ?_
 try clear hK_1 K_1
 refine W_seq (fun K_2 hK_2 => ?_)
 refine W_draw (sk (sk (sk (sk (s0))))) (.quiet 0 [1, 3, 4, 5] (.quiet 1 [3, 4, 5] (.quiet 2 [3, 4, 5] (.quiet 3 [4, 5] (.quiet 4 [5] (.quiet 5 [] (.fin))))))) [0, 1, 2, 3, 4, 5] mix (by kernel_rfl) (by kernel_rfl) (fun K1 hK1 => ?_)
 refine PL_q rfl rfl (q_loadw ty_26 rfl (by repeat (first | exact .head _ | apply List.mem_append_right | apply List.Mem.tail)) (by simp [uw, hy])) ?_
 refine PL_q rfl rfl (q_ret en_80 (whole_size_ret ys hy) rfl) ?_
 refine PL_q rfl rfl (q_loadw ty_26 rfl (by repeat (first | exact .head _ | apply List.mem_append_right | apply List.Mem.tail)) (by simp [uw, hx])) ?_
 refine PL_q rfl rfl (q_ret en_80 (whole_size_ret xs hx) rfl) ?_
 refine PL_q rfl rfl (q_assign rfl) ?_
 refine PL_q rfl rfl (q_assign rfl) ?_
 refine PL_fin (hK1 _ _ ?_)
 clear hK1 K1
 refine hK_2 _ _ ?_
 try clear hK_2 K_2
 refine W_seq (fun K_3 hK_3 => ?_)
 refine W_seq (fun K_4 hK_4 => ?_)
 refine W_region_k (fun K1 hK1 => ?_)
 refine WL_q rfl (q_loadw ty_26 rfl (by repeat (first | exact .head _ | apply List.mem_append_right | apply List.Mem.tail)) (by simp [uw, hx])) ?_
 refine WL_q rfl (q_loadw ty_26 rfl (by repeat (first | exact .head _ | apply List.mem_append_right | apply List.Mem.tail)) (by simp [uw, hy])) ?_
 refine WL_q rfl (q_ret en_101 (whole_order_ret xs ys hx hy lx ly) rfl) ?_
 refine WL_q rfl (q_lss rfl rfl) ?_
 refine WL_nil (hK1 _ _ ?_)
 clear hK1 K1
 refine hK_4 _ _ ?_
 try clear hK_4 K_4
 refine W_cond _ rfl (fun ho => ?_) (fun ho => ?_)
 ·(try simp only [decide_eq_true_eq, decide_eq_false_iff_not, beq_iff_eq, bne_iff_ne, beq_eq_false_iff_ne, bne_eq_false_iff_eq, Bool.not_eq_true', Bool.not_eq_false'] at ho)
  have hlt := cmpI_neg ho
  refine W_seq (fun K_5 hK_5 => ?_)
  refine W_draw (sd (sd (sk (sk (s0))))) (.quiet 0 [2, 3] (.still 1 [3] (.only 2 (.only 3 (.fin))))) [0, 1] mix (by kernel_rfl) (by kernel_rfl) (fun K1 hK1 => ?_)
  refine PL_q rfl rfl (q_builda z_26 ar_26 rfl (.nil _)) ?_
  refine PL_s rfl rfl (q_loadw ty_26 rfl (by repeat (first | exact .head _ | apply List.mem_append_right | apply List.Mem.tail)) (by simp [uw, hx])) ?_
  refine PL_o rfl rfl (r_storew ty_26 rfl rfl (by repeat (first | exact .head _ | apply Upd.left | apply Upd.tail)) (by simp [uw, List.length_replicate]) (by simp [uw]) (uw_plain _) (.inl (by assumption)) ⟨nf, (by repeat (first | exact s0 | exact sn | refine sk ?_ | refine sd ?_ | refine sA ?_ | refine sR ?_)), ?_⟩)
  refine PL_o rfl rfl (r_storew ty_26 rfl rfl (by repeat (first | exact .head _ | apply Upd.left | apply Upd.tail)) (by simp [uw, hx]) (by simp [uw]) (uw_plain _) (.inl (by assumption)) ⟨nf, (by repeat (first | exact s0 | exact sn | refine sk ?_ | refine sd ?_ | refine sA ?_ | refine sR ?_)), ?_⟩)
  refine PL_fin (hK1 _ _ ?_)
  clear hK1 K1
  refine hK_5 _ _ ?_
  try clear hK_5 K_5
  refine W_ret ?_
  refine thenK_r (ret2 rfl (.inr rfl) ⟨_, _, _, _, _, _, rfl, (by repeat (first | exact .head _ | apply List.mem_append_right | apply List.Mem.tail)), ty_26, _, (takeAll (by simp [uw])), (by simp [uw]), rfl⟩ ⟨_, _, _, _, _, _, rfl, (by repeat (first | exact .head _ | apply List.mem_append_right | apply List.Mem.tail)), ty_26, _, (takeAll (by simp [uw, hx])), (by simp [uw, hx]), rfl⟩ ?_)
  exact quo_less hx lx hlt
 ·(try simp only [decide_eq_true_eq, decide_eq_false_iff_not, beq_iff_eq, bne_iff_ne, beq_eq_false_iff_ne, bne_eq_false_iff_eq, Bool.not_eq_true', Bool.not_eq_false'] at ho)
  have hle := cmpI_ge (Int.not_lt.1 ho)
  have hsp := sz_pos h0
  have hsz := szL_le ys
  rw [hy] at hsz
  refine W_skip ?_
  refine hK_3 _ _ ?_
  try clear hK_3 K_3
  refine W_seq (fun K_6 hK_6 => ?_)
  refine W_seq (fun K_7 hK_7 => ?_)
  refine W_region_k (fun K1 hK1 => ?_)
  refine WL_q rfl (q_move rfl) ?_
  refine WL_q rfl (q_eql rfl rfl) ?_
  refine WL_nil (hK1 _ _ ?_)
  clear hK1 K1
  refine hK_7 _ _ ?_
  try clear hK_7 K_7
  refine W_cond _ rfl (fun h29 => ?_) (fun h29 => ?_)
  ·(try simp only [decide_eq_true_eq, decide_eq_false_iff_not, beq_iff_eq, bne_iff_ne, beq_eq_false_iff_ne, bne_eq_false_iff_eq, Bool.not_eq_true', Bool.not_eq_false'] at h29)
   have hsz1 : szL ys = 1 := by omega
   refine W_seq (fun K_8 hK_8 => ?_)
   refine W_region_k (fun K1 hK1 => ?_)
   refine WL_q rfl (q_loadw ty_26 rfl (by repeat (first | exact .head _ | apply List.mem_append_right | apply List.Mem.tail)) (by simp [uw, hx])) ?_
   refine WL_q rfl (q_idxa ar_26 rfl rfl (by decide) (by decide)) ?_
   refine WL_q rfl (q_load ty_25 rfl (by repeat (first | exact .head _ | apply List.mem_append_right | apply List.Mem.tail)) (uwAt (k := 0) (by omega))) ?_
   refine WL_q rfl (q_ret en_104 (whole_short_ret xs hx lx _ (getD_lt ly 0) (one_pos hsz1)) rfl) ?_
   refine WL_q rfl (q_move rfl) ?_
   refine WL_q rfl (q_extract rfl rfl) ?_
   refine WL_q rfl (q_extract rfl rfl) ?_
   refine WL_r rfl (r_alloc z_26 (fun b8 hb8 => ?_))
   refine WL_r rfl (r_storew ty_26 rfl rfl (by repeat (first | exact .head _ | apply Upd.left | apply Upd.tail)) (by simp [uw, toL_len]) (by simp [uw]) (uw_plain _) (.inl (by assumption)) ?_)
   refine WL_q rfl (q_assign rfl) ?_
   refine WL_nil (hK1 _ _ ?_)
   clear hK1 K1
   refine hK_8 _ _ ?_
   try clear hK_8 K_8
   refine W_seq (fun K_9 hK_9 => ?_)
   refine W_region_k (fun K1 hK1 => ?_)
   refine WL_q rfl (q_loadw ty_26 rfl (by repeat (first | exact .head _ | apply List.mem_append_right | apply List.Mem.tail)) (by simp [uw, toL_len])) ?_
   refine WL_q rfl (q_move rfl) ?_
   refine WL_q rfl (q_builda z_26 ar_26 rfl (fill1 _)) ?_
   refine WL_r rfl (r_storew ty_26 rfl rfl (by repeat (first | exact .head _ | apply Upd.left | apply Upd.tail)) (by simp [uw, toL_len]) (by simp [uw]) (uw_plain _) (.inl (by assumption)) ?_)
   refine WL_r rfl (r_storew ty_26 rfl rfl (by repeat (first | exact .head _ | apply Upd.left | apply Upd.tail)) (by simp [uw, List.length_replicate]) (by simp [uw]) (uw_plain _) (.inl (by assumption)) ?_)
   refine WL_nil (hK1 _ _ ?_)
   clear hK1 K1
   refine hK_9 _ _ ?_
   try clear hK_9 K_9
   refine W_ret ?_
   refine thenK_r (ret2 rfl (.inr rfl) ⟨_, _, _, _, _, _, rfl, (by repeat (first | exact .head _ | apply List.mem_append_right | apply List.Mem.tail)), ty_26, _, (takeAll (by simp [uw, toL_len])), (by simp [uw, toL_len]), rfl⟩ ⟨_, _, _, _, _, _, rfl, (by repeat (first | exact .head _ | apply List.mem_append_right | apply List.Mem.tail)), ty_26, _, (takeAll (by simp [uw])), (by simp [uw]), rfl⟩ ?_)
   exact quo_one ly hsz1
  ·(try simp only [decide_eq_true_eq, decide_eq_false_iff_not, beq_iff_eq, bne_iff_ne, beq_eq_false_iff_ne, bne_eq_false_iff_eq, Bool.not_eq_true', Bool.not_eq_false'] at h29)
   have h2 : 2 ≤ szL ys := by omega
   have D : DV xs ys (szL ys) (32 - bl (ys.getD (szL ys - 1) 0)) := ⟨hx, hy, lx, ly, rfl, h2, rfl, hle⟩
   refine W_skip ?_
   refine hK_6 _ _ ?_
   try clear hK_6 K_6
   refine W_seq (fun K_10 hK_10 => ?_)
   refine W_region_k (fun K1 hK1 => ?_)
   refine WL_q rfl (q_move rfl) ?_
   refine WL_q rfl (q_as (q_sub rfl rfl) (congrArg (Value.int .i64) (sub_i64' (b := 1) rfl (by omega) (by omega)))) ?_
   refine WL_q rfl (q_idxa ar_26 rfl rfl (by omega) (by omega)) ?_
   refine WL_q rfl (q_load ty_25 rfl (by repeat (first | exact .head _ | apply List.mem_append_right | apply List.Mem.tail)) (uwAt (by omega))) ?_
   refine WL_q rfl (q_ret en_105 (lz32_ret _ (getD_lt ly _)) rfl) ?_
   refine WL_q rfl (q_assign rfl) ?_
   refine WL_nil (hK1 _ _ ?_)
   clear hK1 K1
   refine hK_10 _ _ ?_
   try clear hK_10 K_10
   refine W_seq (fun K_11 hK_11 => ?_)
   refine W_region_k (fun K1 hK1 => ?_)
   refine WL_q rfl (q_loadw ty_26 rfl (by repeat (first | exact .head _ | apply List.mem_append_right | apply List.Mem.tail)) (by simp [uw, hy])) ?_
   refine WL_q rfl (q_move rfl) ?_
   refine WL_q rfl (q_ret en_106 (whole_up_ret ys hy ly _ D.s32) rfl) ?_
   refine WL_q rfl (q_move rfl) ?_
   refine WL_q rfl (q_extract rfl rfl) ?_
   refine WL_q rfl (q_extract rfl rfl) ?_
   refine WL_r rfl (r_alloc z_26 (fun b11 hb11 => ?_))
   refine WL_r rfl (r_storew ty_26 rfl rfl (by repeat (first | exact .head _ | apply Upd.left | apply Upd.tail)) (by simp [uw, toL_len]) (by simp [uw]) (uw_plain _) (.inl (by assumption)) ?_)
   refine WL_q rfl (q_assign rfl) ?_
   refine WL_nil (hK1 _ _ ?_)
   clear hK1 K1
   refine hK_11 _ _ ?_
   try clear hK_11 K_11
   refine W_seq (fun K_12 hK_12 => ?_)
   refine W_region_k (fun K1 hK1 => ?_)
   refine WL_q rfl (q_loadw ty_26 rfl (by repeat (first | exact .head _ | apply List.mem_append_right | apply List.Mem.tail)) (by simp [uw, hx])) ?_
   refine WL_q rfl (q_move rfl) ?_
   refine WL_q rfl (q_ret en_106 (whole_up_ret xs hx lx _ D.s32) rfl) ?_
   refine WL_q rfl (q_move rfl) ?_
   refine WL_q rfl (q_extract rfl rfl) ?_
   refine WL_q rfl (q_extract rfl rfl) ?_
   refine WL_r rfl (r_alloc z_26 (fun b13 hb13 => ?_))
   refine WL_r rfl (r_storew ty_26 rfl rfl (by repeat (first | exact .head _ | apply Upd.left | apply Upd.tail)) (by simp [uw, toL_len]) (by simp [uw]) (uw_plain _) (.inl (by assumption)) ?_)
   refine WL_q rfl (q_assign rfl) ?_
   refine WL_nil (hK1 _ _ ?_)
   clear hK1 K1
   refine hK_12 _ _ ?_
   try clear hK_12 K_12
   refine W_seq (fun K_13 hK_13 => ?_)
   refine W_region_k (fun K1 hK1 => ?_)
   refine WL_r rfl (r_alloc z_109 (fun b15 hb15 => ?_))
   refine WL_nil (hK1 _ _ ?_)
   clear hK1 K1
   refine hK_13 _ _ ?_
   try clear hK_13 K_13
   refine W_seq (fun K_14 hK_14 => ?_)
   refine W_draw (sd (sk (sk (sk (sk (sk (sk (s0)))))))) (.quiet 0 [2] (.quiet 1 [2] (.only 2 (.fin)))) [0, 1] mix (by kernel_rfl) (by kernel_rfl) (fun K1 hK1 => ?_)
   refine PL_q rfl rfl (q_slca ar_109 rfl rfl rfl (by decide) (by decide) (by decide) (by decide)) ?_
   refine PL_q rfl rfl (q_slca ar_26 rfl rfl rfl (by decide) (by decide) (by decide) (by decide)) ?_
   refine PL_o rfl rfl (r_copy sl_103 rfl rfl (by repeat (first | exact .head _ | apply List.mem_append_right | apply List.Mem.tail)) (by repeat (first | exact .head _ | apply Upd.left | apply Upd.tail)) (fun v hv => uw_plain _ v (List.mem_of_mem_drop (List.mem_of_mem_take hv))) (by simp [uw, toL_len]) (by simp [uw]) (copy_uw (toL_len _ _)) (.inl (by assumption)) ⟨nf, (by repeat (first | exact s0 | exact sn | refine sk ?_ | refine sd ?_ | refine sA ?_ | refine sR ?_)), ?_⟩)
   refine PL_fin (hK1 _ _ ?_)
   clear hK1 K1
   refine hK_14 _ _ ?_
   try clear hK_14 K_14
   refine W_seq (fun K_15 hK_15 => ?_)
   refine W_region_k (fun K1 hK1 => ?_)
   refine WL_q rfl (q_move rfl) ?_
   refine WL_q rfl (q_idxa ar_109 rfl rfl (by decide) (by decide)) ?_
   refine WL_r rfl (r_storeu (k := 16) ty_25 rfl rfl (by repeat (first | exact .head _ | apply Upd.left | apply Upd.tail)) (by simp [toL_len]) (.inl (by assumption)) ?_)
   refine WL_nil (hK1 _ _ ?_)
   clear hK1 K1
   refine hK_15 _ _ ?_
   try clear hK_15 K_15
   refine W_seq (fun K_16 hK_16 => ?_)
   refine W_seq (fun K_17 hK_17 => ?_)
   refine W_region_k (fun K1 hK1 => ?_)
   refine WL_q rfl (q_move rfl) ?_
   refine WL_q rfl (q_move rfl) ?_
   refine WL_q rfl (q_as (q_sub rfl rfl) (congrArg (Value.int .i64) (sub_i64 D.nm (by have := D.m16; omega)))) ?_
   refine WL_q rfl (q_assign rfl) ?_
   refine WL_nil (hK1 _ _ ?_)
   clear hK1 K1
   refine hK_17 _ _ ?_
   try clear hK_17 K_17
   refine W_block ?_
   refine W_loop_g [16, 17, 65, 66, 67, 68, 69, 70, 71, 72, 73, 74, 75, 76, 77, 78, 79, 80, 81, 82, 83, 84, 85, 86, 87] (fun g nn M => ∃ (k : Nat) (l : List Nat), (g 16 = .int .i64 ((k : Int) - 1)) ∧ M = [⟨b15, 109, uw l⟩, ⟨b13, 26, uw (toL 16 (val xs * 2 ^ (32 - bl (ys.getD (szL ys - 1) 0))))⟩, ⟨b11, 26, uw (toL 16 (val ys * 2 ^ (32 - bl (ys.getD (szL ys - 1) 0))))⟩, ⟨b5, 26, uw (List.replicate 16 0)⟩, ⟨b4, 26, uw (hpart k (val xs / val ys))⟩, ⟨b3, 26, uw ys⟩, ⟨b2, 26, uw xs⟩] ∧ nn = k + 0 ∧ (k + szL ys ≤ 17 ∧ QI xs ys (32 - bl (ys.getD (szL ys - 1) 0)) k l)) (szL xs - szL ys + 1) ?start ?round
   case start =>
    refine ⟨_, (List.Sublist.refl _), szL xs - szL ys + 1, ((toL 16 (val xs * 2 ^ (32 - bl (ys.getD (szL ys - 1) 0))) ++ [0]).set 16 (val xs * 2 ^ (32 - bl (ys.getD (szL ys - 1) 0)) / 4294967296 ^ 16)), ?a16, ?mem0, rfl, ⟨by have := D.nm; have := D.m16; omega, QI.start D⟩⟩
    case mem0 => rw [← DV.qstart D]
    case a16 => exact congrArg (Value.int .i64) (by omega)
   case round =>
    rintro nn g M ⟨k, l, hg16, rfl, hmeas, ⟨hkn, hq⟩⟩
    subst nn
    simp only [setG, hg16]
    clear hg16
    refine W_seq (fun K_18 hK_18 => ?_)
    refine W_seq (fun K_19 hK_19 => ?_)
    refine W_region_k (fun K1 hK1 => ?_)
    refine WL_q rfl (q_move rfl) ?_
    refine WL_q rfl (q_geq rfl rfl) ?_
    refine WL_nil (hK1 _ _ ?_)
    clear hK1 K1
    refine hK_19 _ _ ?_
    try clear hK_19 K_19
    refine W_cond _ rfl (fun hc => ?_) (fun hc => ?_)
    ·(try simp only [decide_eq_true_eq, decide_eq_false_iff_not, beq_iff_eq, bne_iff_ne, beq_eq_false_iff_ne, bne_eq_false_iff_eq, Bool.not_eq_true', Bool.not_eq_false'] at hc)
     obtain ⟨m, rfl⟩ : ∃ m, k = m + 1 := ⟨k - 1, by omega⟩
     refine W_skip ?_
     refine hK_18 _ _ ?_
     try clear hK_18 K_18
     refine W_seq (fun K_20 hK_20 => ?_)
     refine W_block ?_
     refine W_seq (fun K_21 hK_21 => ?_)
     refine W_region_k (fun K1 hK1 => ?_)
     refine WL_q rfl (q_loadw ty_26 rfl (by repeat (first | exact .head _ | apply List.mem_append_right | apply List.Mem.tail)) (by simp [uw, toL_len])) ?_
     refine WL_q rfl (q_move rfl) ?_
     refine WL_q rfl (q_as (q_move rfl) (congrArg (Value.int .i64) (show (((m + 1 : Nat) : Int) - 1) = (m : Int) by omega))) ?_
     refine WL_r rfl (r_callx en_107 rfl (fun w hw => whole_guess_ret l _ (szL ys) m (hq.qh D (by omega)) b15 109 w (hw.mem _ m0)) (fun d hd => ?_))
     refine WL_q rfl (q_assign rfl) ?_
     refine WL_nil (hK1 _ _ ?_)
     clear hK1 K1
     refine hK_21 _ _ ?_
     try clear hK_21 K_21
     refine W_seq (fun K_22 hK_22 => ?_)
     refine W_seq (fun K_23 hK_23 => ?_)
     refine W_region_k (fun K1 hK1 => ?_)
     refine WL_q rfl (q_loadw ty_26 rfl (by repeat (first | exact .head _ | apply List.mem_append_right | apply List.Mem.tail)) (by simp [uw, toL_len])) ?_
     refine WL_q rfl (q_move rfl) ?_
     refine WL_q rfl (q_as (q_move rfl) (congrArg (Value.int .i64) (show (((m + 1 : Nat) : Int) - 1) = (m : Int) by omega))) ?_
     refine WL_q rfl (q_move rfl) ?_
     refine WL_r rfl (r_callw en_108 rfl (fun w hw => whole_take_ret l _ (szL ys) m d hq.len hq.lim (toL_len _ _) (toL_lim _ _) (by rw [D.v16]; exact D.vlt) (by omega) (hq.small D) hd.1 b15 109 w (hw.mem _ m0)) (fun x => (by repeat (first | exact .head _ | apply Upd.left | apply Upd.tail))) (.inl (by assumption)) (fun x ht => ?_))
     refine WL_nil (hK1 _ _ ?_)
     clear hK1 K1
     refine hK_23 _ _ ?_
     try clear hK_23 K_23
     refine W_cond _ rfl (fun h77 => ?_) (fun h77 => ?_)
     ·(try simp only [decide_eq_true_eq, decide_eq_false_iff_not, beq_iff_eq, bne_iff_ne, beq_eq_false_iff_ne, bne_eq_false_iff_eq, Bool.not_eq_true', Bool.not_eq_false'] at h77)
      refine W_seq (fun K_24 hK_24 => ?_)
      refine W_region_k (fun K1 hK1 => ?_)
      refine WL_q rfl (q_move rfl) ?_
      refine WL_q rfl (q_as (q_sub rfl rfl) (congrArg (Value.int .u64) (sub1_u64 rfl (ht.pos (by omega)) (by have := hd.1; omega)))) ?_
      refine WL_q rfl (q_assign rfl) ?_
      refine WL_nil (hK1 _ _ ?_)
      clear hK1 K1
      refine hK_24 _ _ ?_
      try clear hK_24 K_24
      refine W_region_k (fun K1 hK1 => ?_)
      refine WL_q rfl (q_loadw ty_26 rfl (by repeat (first | exact .head _ | apply List.mem_append_right | apply List.Mem.tail)) (by simp [uw, toL_len])) ?_
      refine WL_q rfl (q_move rfl) ?_
      refine WL_q rfl (q_as (q_move rfl) (congrArg (Value.int .i64) (show (((m + 1 : Nat) : Int) - 1) = (m : Int) by omega))) ?_
      refine WL_r rfl (r_callw en_109 rfl (fun w hw => whole_give_ret x.1 _ (szL ys) m ht.len ht.lim (toL_len _ _) (toL_lim _ _) (by rw [D.v16]; exact D.vlt) (by omega) ht.small b15 109 w (hw.mem _ m0)) (fun y => (by repeat (first | exact .head _ | apply Upd.left | apply Upd.tail))) (.inl (by assumption)) (fun y hgv => ?_))
      refine WL_nil (hK1 _ _ ?_)
      clear hK1 K1
      obtain ⟨hz, hdz, _⟩ := hq.took1 D hd ht (by omega) hgv
      refine hK_22 _ _ ?_
      try clear hK_22 K_22
      refine W_region_k (fun K1 hK1 => ?_)
      refine WL_q rfl (q_as (q_move rfl) (congrArg (Value.int .i64) (show (((m + 1 : Nat) : Int) - 1) = (m : Int) by omega))) ?_
      refine WL_q rfl (q_move rfl) ?_
      refine WL_q rfl (q_as (q_conv in_78 in_25 rfl) (u32_nat _)) ?_
      refine WL_q rfl (q_idxa ar_26 rfl rfl (by omega) (by omega)) ?_
      refine WL_r rfl (r_storeu ty_25 rfl rfl (by repeat (first | exact .head _ | apply Upd.left | apply Upd.tail)) (by rw [hpart_len _ (by omega)]; omega) (.inl (by assumption)) ?_)
      refine WL_nil (hK1 _ _ ?_)
      clear hK1 K1
      refine hK_20 _ _ ?_
      try clear hK_20 K_20
      refine W_region_k (fun K1 hK1 => ?_)
      refine WL_q rfl (q_as (q_move rfl) (congrArg (Value.int .i64) (show (((m + 1 : Nat) : Int) - 1) = (m : Int) by omega))) ?_
      refine WL_q rfl (q_sub rfl rfl) ?_
      refine WL_q rfl (q_assign rfl) ?_
      refine WL_nil (hK1 _ _ ?_)
      clear hK1 K1
      refine ⟨(by repeat (first | exact .refl | refine .cons rfl ?_)), _, _, (List.Sublist.refl _), (by omega), m, _, ?s16, ?mem, rfl, ⟨by omega, hz⟩⟩
      case mem => rw [hdz, hpart_set (by omega)]
      case s16 => exact congrArg (Value.int .i64) (wrap_i64_id (n := (m : Int) - 1) (by unfold I64; omega))
     ·(try simp only [decide_eq_true_eq, decide_eq_false_iff_not, beq_iff_eq, bne_iff_ne, beq_eq_false_iff_ne, bne_eq_false_iff_eq, Bool.not_eq_true', Bool.not_eq_false'] at h77)
      obtain ⟨hz, hdz⟩ := hq.took0 D hd ht (by omega)
      refine W_skip ?_
      refine hK_22 _ _ ?_
      try clear hK_22 K_22
      refine W_region_k (fun K1 hK1 => ?_)
      refine WL_q rfl (q_as (q_move rfl) (congrArg (Value.int .i64) (show (((m + 1 : Nat) : Int) - 1) = (m : Int) by omega))) ?_
      refine WL_q rfl (q_move rfl) ?_
      refine WL_q rfl (q_as (q_conv in_78 in_25 rfl) (u32_nat _)) ?_
      refine WL_q rfl (q_idxa ar_26 rfl rfl (by omega) (by omega)) ?_
      refine WL_r rfl (r_storeu ty_25 rfl rfl (by repeat (first | exact .head _ | apply Upd.left | apply Upd.tail)) (by rw [hpart_len _ (by omega)]; omega) (.inl (by assumption)) ?_)
      refine WL_nil (hK1 _ _ ?_)
      clear hK1 K1
      refine hK_20 _ _ ?_
      try clear hK_20 K_20
      refine W_region_k (fun K1 hK1 => ?_)
      refine WL_q rfl (q_as (q_move rfl) (congrArg (Value.int .i64) (show (((m + 1 : Nat) : Int) - 1) = (m : Int) by omega))) ?_
      refine WL_q rfl (q_sub rfl rfl) ?_
      refine WL_q rfl (q_assign rfl) ?_
      refine WL_nil (hK1 _ _ ?_)
      clear hK1 K1
      refine ⟨(by repeat (first | exact .refl | refine .cons rfl ?_)), _, _, (List.Sublist.refl _), (by omega), m, _, ?s16, ?mem, rfl, ⟨by omega, hz⟩⟩
      case mem => rw [hdz, hpart_set (by omega)]
      case s16 => exact congrArg (Value.int .i64) (wrap_i64_id (n := (m : Int) - 1) (by unfold I64; omega))
    ·(try simp only [decide_eq_true_eq, decide_eq_false_iff_not, beq_iff_eq, bne_iff_ne, beq_eq_false_iff_ne, bne_eq_false_iff_eq, Bool.not_eq_true', Bool.not_eq_false'] at hc)
     obtain rfl : k = 0 := by omega
     refine W_exit (thenK_x (thenK_x (blockK_hit ?_)))
     refine hK_16 _ _ ?_
     try clear hK_16 K_16
     refine W_seq (fun K_25 hK_25 => ?_)
     refine W_draw (sk (sk (sk (sd (sd (sk (sk (s0)))))))) (.quiet 0 [6, 7] (.quiet 1 [2, 3, 5, 6, 7] (.quiet 2 [3, 5, 6, 7] (.quiet 3 [5, 6, 7] (.quiet 4 [5, 6, 7] (.quiet 5 [6, 7] (.only 6 (.only 7 (.fin))))))))) [0, 1, 2, 3, 4, 5] mix (by kernel_rfl) (by kernel_rfl) (fun K1 hK1 => ?_)
     refine PL_q rfl rfl (q_loadw ty_26 rfl (by repeat (first | exact .head _ | apply List.mem_append_right | apply List.Mem.tail)) (by rw [uw_len, hpart_len _ (by omega)])) ?_
     refine PL_q rfl rfl (q_slca ar_109 rfl rfl rfl (by decide) (by decide) (by decide) (by decide)) ?_
     refine PL_q rfl rfl (q_s2a ar_26 rfl (by decide)) ?_
     refine PL_q rfl rfl (q_loada (vs := uw (l.take 16)) ty_26 rfl (by repeat (first | exact .head _ | apply List.mem_append_right | apply List.Mem.tail)) uw_lo17 (by simp [uw, hq.len])) ?_
     refine PL_q rfl rfl (q_move rfl) ?_
     refine PL_q rfl rfl (q_ret en_110 (whole_down_ret (l.take 16) (by simp [hq.len]) (hq.lim.take 16) _ D.s32) rfl) ?_
     refine PL_o rfl rfl (r_storew ty_26 rfl rfl (by repeat (first | exact .head _ | apply Upd.left | apply Upd.tail)) (by rw [uw_len, hpart_len _ (by omega)]) (by rw [uw_len, hpart_len _ (by omega)]) (uw_plain _) (.inl (by assumption)) ⟨nf, (by repeat (first | exact s0 | exact sn | refine sk ?_ | refine sd ?_ | refine sA ?_ | refine sR ?_)), ?_⟩)
     refine PL_o rfl rfl (r_storew ty_26 rfl rfl (by repeat (first | exact .head _ | apply Upd.left | apply Upd.tail)) (by simp [uw, toL_len]) (by simp [uw]) (uw_plain _) (.inl (by assumption)) ⟨nf, (by repeat (first | exact s0 | exact sn | refine sk ?_ | refine sd ?_ | refine sA ?_ | refine sR ?_)), ?_⟩)
     refine PL_fin (hK1 _ _ ?_)
     clear hK1 K1
     refine hK_25 _ _ ?_
     try clear hK_25 K_25
     refine W_ret ?_
     refine ret2 rfl (.inr rfl) ⟨_, _, _, _, _, _, rfl, (by repeat (first | exact .head _ | apply List.mem_append_right | apply List.Mem.tail)), ty_26, _, (takeAll (by rw [uw_len, hpart_len _ (by omega)])), (by rw [uw_len, hpart_len _ (by omega)]), rfl⟩ ⟨_, _, _, _, _, _, rfl, (by repeat (first | exact .head _ | apply List.mem_append_right | apply List.Mem.tail)), ty_26, _, (takeAll (by simp [uw, toL_len])), (by simp [uw, toL_len]), rfl⟩ ?_
     (rw [hpart_all, hq.fin D]; rfl)
end Go.Proofs.Ythbjhbmpfeeilaa
