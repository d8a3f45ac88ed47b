/- Walks: what these functions return. -/
import Derived.Test.YthbjhbmpfeeilaaFa0
import Derived.Test.YthbjhbmpfeeilaaSa
import Derived.Test.YthbjhbmpfeeilaaSb
namespace Go.Proofs.Ythbjhbmpfeeilaa
open Go.Kn Go.Num
set_option linter.unusedVariables false
set_option linter.unusedSimpArgs false
set_option maxRecDepth 20000
set_option maxHeartbeats 8000000
theorem skewbackref03_divide_ret (va vb : Value) (A B : Nat) (hB : 0 < B) (hna : (dl A).length ≤ 190) (hnb : (dl B).length ≤ 190) (w : World) (hva : Sl w va (dl A)) (hvb : Sl w vb (dl B)) :
    Calls Try.prog 86 [va, vb].toArray w (fun e w' => ∃ v1 v2, e = .returned (.tuple #[v1, v2]) ∧ Ext w w' ∧ Slf w.heap.size w' v1 (dl (A / B)) ∧ Slf w.heap.size w' v2 (dl (A % B))) := by
 refine callssl2_of_W (N := 84) Try.func86 rfl rfl (by simp) ?_
 obtain ⟨w0, rfl⟩ : ∃ w0, w0 = w := ⟨_, rfl⟩
 simp only [initF, Nat.reduceAdd]
 have hn0 : 1 ≤ (dl B).length := Nat.pos_of_ne_zero (fun hc => by rw [dl_nil] at hc; omega)
 obtain ⟨tp, htp⟩ : ∃ tp, tp = (dg B ((dl B).length - 1) * 65536 + atD (dl B) (((dl B).length : Int) - 2)) := ⟨_, rfl⟩
 refine W_seq (fun K_1 hK_1 => ?_)
 refine W_region_k (fun K1 hK1 => ?_)
 refine WL_q rfl (q_assign rfl) ?_
 refine WL_q rfl (q_assign rfl) ?_
 refine WL_nil (hK1 _ _ ?_)
 clear hK1 K1
 refine hK_1 _ _ ?_
 try clear hK_1 K_1
 refine W_seq (fun K_2 hK_2 => ?_)
 refine W_region_k (fun K1 hK1 => ?_)
 refine WL_q rfl (q_move rfl) ?_
 refine WL_q rfl (q_lenl sl_70 rfl hva.old) ?_
 refine WL_r rfl (r_make us_70 on_3 z_3 rfl rfl (by omega) (fun b15 hb15 => ?_))
 refine WL_q rfl (q_assign rfl) ?_
 refine WL_nil (hK1 _ _ ?_)
 clear hK1 K1
 refine hK_2 _ _ ?_
 try clear hK_2 K_2
 refine W_seq (fun K_3 hK_3 => ?_)
 refine W_region_k (fun K1 hK1 => ?_)
 refine WL_q rfl (q_move rfl) ?_
 refine WL_q rfl (q_lenl sl_70 rfl hvb.old) ?_
 refine WL_q rfl (q_assign rfl) ?_
 refine WL_nil (hK1 _ _ ?_)
 clear hK1 K1
 refine hK_3 _ _ ?_
 try clear hK_3 K_3
 refine W_seq (fun K_4 hK_4 => ?_)
 refine W_draw sn (.quiet 0 [3, 4, 5, 10, 11] (.quiet 1 [2, 3, 4, 5, 10, 11] (.quiet 2 [3, 4, 5, 10, 11] (.quiet 3 [4, 5, 10, 11] (.quiet 4 [5, 10, 11] (.quiet 5 [10, 11] (.quiet 6 [9, 10, 11] (.quiet 7 [8, 9, 10, 11] (.quiet 8 [9, 10, 11] (.quiet 9 [10, 11] (.quiet 10 [11] (.quiet 11 [] (.fin))))))))))))) [0, 1, 2, 3, 4, 5, 6, 7, 8, 9, 10, 11] mix (by kernel_rfl) (by kernel_rfl) (fun K1 hK1 => ?_)
 refine PL_q rfl rfl (q_move rfl) ?_
 refine PL_q rfl rfl (q_move rfl) ?_
 refine PL_q rfl rfl (q_as (q_sub rfl rfl) (congrArg (Value.int .i64) (sub_i64' (b := 1) rfl (by omega) (by omega)))) ?_
 refine PL_q rfl rfl (q_idxl sl_70 rfl rfl hvb.old (by omega)) ?_
 refine PL_q rfl rfl (q_as (q_loadl ty_3 rfl hvb.old (by omega)) (congrArg IV (dl_getD B _))) ?_
 refine PL_q rfl rfl (q_mul rfl rfl) ?_
 refine PL_q rfl rfl (q_move rfl) ?_
 refine PL_q rfl rfl (q_move rfl) ?_
 refine PL_q rfl rfl (q_as (q_sub rfl rfl) (congrArg (Value.int .i64) (sub_I (by omega) (by decide) (by decide)))) ?_
 refine PL_q rfl rfl (q_call en_112 rfl (fun w hw => skewbackref03_at_ret vb (dl B) _ w (SL.sl (M := _) hvb.old hw))) ?_
 refine PL_q rfl rfl (q_as (q_add rfl rfl) (show _ = Value.int .i64 (tp : Int) from congrArg (Value.int .i64) (by rw [htp]; exact top_i64 (dg_lt _ _) (atD_lt _ _)))) ?_
 refine PL_q rfl rfl (q_assign rfl) ?_
 refine PL_fin (hK1 _ _ ?_)
 clear hK1 K1
 refine hK_4 _ _ ?_
 try clear hK_4 K_4
 refine W_seq (fun K_5 hK_5 => ?_)
 refine W_region_k (fun K1 hK1 => ?_)
 refine WL_q rfl (q_assign rfl) ?_
 refine WL_nil (hK1 _ _ ?_)
 clear hK1 K1
 refine hK_5 _ _ ?_
 try clear hK_5 K_5
 refine W_seq (fun K_6 hK_6 => ?_)
 refine W_seq (fun K_7 hK_7 => ?_)
 refine W_region_k (fun K1 hK1 => ?_)
 refine WL_q rfl (q_move rfl) ?_
 refine WL_q rfl (q_lenl sl_70 rfl hva.old) ?_
 refine WL_q rfl (q_sub rfl rfl) ?_
 refine WL_q rfl (q_assign rfl) ?_
 refine WL_nil (hK1 _ _ ?_)
 clear hK1 K1
 refine hK_7 _ _ ?_
 try clear hK_7 K_7
 refine W_block ?_
 refine W_loop_g [9, 10, 11, 12, 32, 33, 34, 35, 36, 37, 38, 39, 40, 41, 42, 43, 44, 45, 46, 47, 48, 49, 50, 51, 52, 53, 54, 55, 56, 57, 58, 59, 60, 61, 62, 63, 64, 65, 66, 67, 68, 69, 70, 71, 72, 73, 74, 75, 76, 77, 78, 79, 80] (fun g nn M => ∃ (k R : Nat) (qs : List Nat) (vr : Value) (L : List Blk), (g 9 = vr ∧ g 10 = .int .i64 ((k : Int) - 1)) ∧ M = L ++ [⟨b15, 3, iw qs⟩] ∧ nn = k + 0 ∧ (k ≤ (dl A).length ∧ DivIn A B (dl A).length k R qs ∧ SLf w0 L vr (dl R))) ((dl A).length) ?start ?round
 case start =>
  refine ⟨_, (List.Sublist.refl _), (dl A).length, 0, _, _, [], ⟨?a9, ?a10⟩, ?mem0, rfl, ⟨Nat.le_refl _, DivIn.start (dl_lt A), by rw [dl_zero]; exact SLf.none⟩⟩
  case mem0 => rfl
  case a9 => rfl
  case a10 => exact congrArg (Value.int .i64) (sub_I (by omega) (by decide) (by decide))
 case round =>
  rintro nn g M ⟨k, R, qs, vr, L, ⟨hg9, hg10⟩, rfl, hmeas, ⟨hk, hI, hr⟩⟩
  subst nn
  simp only [setG, hg9, hg10]
  clear hg9 hg10
  refine W_seq (fun K_8 hK_8 => ?_)
  refine W_seq (fun K_9 hK_9 => ?_)
  refine W_region_k (fun K1 hK1 => ?_)
  refine WL_q rfl (q_move rfl) ?_
  refine WL_q rfl (q_geq rfl rfl) ?_
  refine WL_nil (hK1 _ _ ?_)
  clear hK1 K1
  refine hK_9 _ _ ?_
  try clear hK_9 K_9
  refine W_cond _ rfl (fun hc => ?_) (fun hc => ?_)
  ·(try simp only [decide_eq_true_eq, decide_eq_false_iff_not, beq_iff_eq, bne_iff_ne, beq_eq_false_iff_ne, bne_eq_false_iff_eq, Bool.not_eq_true', Bool.not_eq_false'] at hc)
   obtain ⟨m, rfl⟩ : ∃ m, k = m + 1 := ⟨k - 1, by omega⟩
   have hRB : R < B := by rw [hI.rest]; exact Nat.mod_lt _ hB
   have hRl : (dl R).length ≤ 190 := Nat.le_trans (dl_le (Nat.le_of_lt hRB)) hnb
   refine W_skip ?_
   refine hK_8 _ _ ?_
   try clear hK_8 K_8
   refine W_seq (fun K_10 hK_10 => ?_)
   refine W_block ?_
   refine W_seq (fun K_11 hK_11 => ?_)
   refine W_region_k (fun K1 hK1 => ?_)
   refine WL_q rfl (q_move rfl) ?_
   refine WL_q rfl (q_as (q_move rfl) (congrArg (Value.int .i64) (show (((m + 1 : Nat) : Int) - 1) = (m : Int) by omega))) ?_
   refine WL_q rfl (q_idxl sl_70 rfl rfl hva.old (by omega)) ?_
   refine WL_q rfl (q_as (q_loadl ty_3 rfl hva.old (by omega)) (congrArg IV (dl_getD A m))) ?_
   refine WL_r rfl (r_bslice us_70 z_3 sz_3 rfl (by decide) rfl (fillI1 _) (fun b40 hb40 => ?_))
   refine WL_q rfl (q_move rfl) ?_
   have hC8 := cons_dl (R := R) (dg_lt A m)
   refine WL_r rfl (r_append us_70 on_3 rfl rfl (Own.of_mine (l := [dg A m]) hb40 (show 1 ≤ maxLen by decide)) (hr.sl.sub (.cons _ (List.sublist_append_left _ _))) (List.Sublist.refl _) (by simp only [List.length_singleton]; omega) (fun v8 L8 hO8 => ?_))
   refine WL_q rfl (q_call en_92 rfl (fun w hw => skewbackref03_trim_ret v8 ([dg A m] ++ dl R) hC8.1 (by simp only [List.length_append, List.length_singleton]; omega) w (SL.sl (hO8.sl (List.sublist_append_left _ _)) hw))) ?_
   refine WL_q rfl (q_assign rfl) ?_
   refine WL_nil (hK1 _ _ ?_)
   clear hK1 K1
   have hC8 := cons_dl (R := R) (dg_lt A m)
   have hr8 := trimmed hC8.1 hC8.2 (hO8.slf (List.Sublist.refl _))
   generalize sls v8 (dl (dv ([dg A m] ++ dl R))).length = vr8 at hr8 ⊢
   have hR8 : (R * 65536 + dg A m) < 65536 * B := by have := dg_lt A m; omega
   obtain ⟨nm, hnm⟩ : ∃ nm, nm = (atD (dl (R * 65536 + dg A m)) ((dl B).length : Int) * 4294967296 + atD (dl (R * 65536 + dg A m)) (((dl B).length : Int) - 1) * 65536 + atD (dl (R * 65536 + dg A m)) (((dl B).length : Int) - 2)) := ⟨_, rfl⟩
   obtain ⟨d0, hd0⟩ : ∃ d0, d0 = min 65535 (nm / tp) := ⟨_, rfl⟩
   have G8 : 0 < tp ∧ (R * 65536 + dg A m) / B ≤ d0 ∧ d0 ≤ 65535 := by rw [hd0, hnm, htp]; have hg := guess_at hB hR8 rfl hn0; exact ⟨hg.1, hg.2, Nat.min_le_left _ _⟩
   have hl8 : (dl (R * 65536 + dg A m)).length ≤ 192 := Nat.le_trans (dl_len (k := (dl B).length + 1) (by have := dl_lt B; rw [Nat.pow_succ]; omega)) (by omega)
   refine hK_11 _ _ ?_
   try clear hK_11 K_11
   refine W_seq (fun K_12 hK_12 => ?_)
   refine W_region_k (fun K1 hK1 => ?_)
   refine WL_q rfl (q_move rfl) ?_
   refine WL_q rfl (q_move rfl) ?_
   refine WL_q rfl (q_call en_112 rfl (fun w hw => skewbackref03_at_ret _ (dl (R * 65536 + dg A m)) _ w (SL.sl (M := _) (hr8.sl.sub (List.sublist_append_left _ _)) hw))) ?_
   refine WL_q rfl (q_mul rfl rfl) ?_
   refine WL_q rfl (q_move rfl) ?_
   refine WL_q rfl (q_move rfl) ?_
   refine WL_q rfl (q_as (q_sub rfl rfl) (congrArg (Value.int .i64) (sub_I (by omega) (by decide) (by decide)))) ?_
   refine WL_q rfl (q_call en_112 rfl (fun w hw => skewbackref03_at_ret _ (dl (R * 65536 + dg A m)) _ w (SL.sl (M := _) (hr8.sl.sub (List.sublist_append_left _ _)) hw))) ?_
   refine WL_q rfl (q_mul rfl rfl) ?_
   refine WL_q rfl (q_add rfl rfl) ?_
   refine WL_q rfl (q_move rfl) ?_
   refine WL_q rfl (q_move rfl) ?_
   refine WL_q rfl (q_as (q_sub rfl rfl) (congrArg (Value.int .i64) (sub_I (by omega) (by decide) (by decide)))) ?_
   refine WL_q rfl (q_call en_112 rfl (fun w hw => skewbackref03_at_ret _ (dl (R * 65536 + dg A m)) _ w (SL.sl (M := _) (hr8.sl.sub (List.sublist_append_left _ _)) hw))) ?_
   refine WL_q rfl (q_as (q_add rfl rfl) (show _ = Value.int .i64 (nm : Int) from congrArg (Value.int .i64) (by rw [hnm]; exact num_i64 (atD_lt _ _) (atD_lt _ _) (atD_lt _ _)))) ?_
   refine WL_q rfl (q_move rfl) ?_
   refine WL_q rfl (q_as (q_quo rfl rfl (fun hc => Nat.lt_irrefl 0 (Nat.lt_of_lt_of_eq G8.1 (Int.natCast_eq_zero.1 hc)))) (congrArg (Value.int .i64) (quo_i64n (by rw [hnm]; exact num_lt _ _ _ _)))) ?_
   refine WL_q rfl (q_as (q_minn (a := 65535) rfl rfl) (congrArg (fun n : Nat => Value.int .i64 (n : Int)) hd0.symm)) ?_
   refine WL_q rfl (q_assign rfl) ?_
   refine WL_nil (hK1 _ _ ?_)
   clear hK1 K1
   refine hK_12 _ _ ?_
   try clear hK_12 K_12
   refine W_seq (fun K_13 hK_13 => ?_)
   refine W_region_k (fun K1 hK1 => ?_)
   refine WL_q rfl (q_move rfl) ?_
   refine WL_q rfl (q_move rfl) ?_
   refine WL_r rfl (r_bslice us_70 z_3 sz_3 rfl (by decide) rfl (fillI1 _) (fun b64 hb64 => ?_))
   refine WL_r rfl (r_callslf en_68 rfl (fun w hw => skewbackref03_times_ret vb _ (dl B) [d0] (dl_DL B) (DL.one (by omega)) (by omega) (by simp) w (SL.sl (M := _) hvb.old hw) (SL.sl (SL.mine (l := [d0]) (.head _) (Nat.le_refl _)) hw)) (fun vp0 Lp0 hp0 => ?_))
   refine WL_q rfl (q_assign rfl) ?_
   refine WL_nil (hK1 _ _ ?_)
   clear hK1 K1
   refine hK_13 _ _ ?_
   try clear hK_13 K_13
   refine W_seq (fun K_14 hK_14 => ?_)
   refine W_block ?_
   refine W_loop_g [11, 12, 66, 67, 68, 69, 70, 71, 72, 73] (fun g nn M => ∃ (d : Nat) (vp : Value) (Lp : List Blk), (g 11 = .int .i64 (d : Int) ∧ g 12 = vp) ∧ M = Lp ++ (L8 ++ (L ++ [⟨b15, 3, iw qs⟩])) ∧ nn = d ∧ (((R * 65536 + dg A m) / B ≤ d ∧ d ≤ 65535) ∧ SLf w0 Lp vp (dl (B * d)))) (d0) ?start ?round
   case start =>
    refine ⟨_, (List.Sublist.append (List.Sublist.refl _) (List.Sublist.cons _ (List.Sublist.refl _))), d0, vp0, Lp0, ⟨?a11, ?a12⟩, ?mem0, rfl, ⟨⟨G8.2.1, G8.2.2⟩, by have := hp0; rw [dv_dl] at this; simpa [dv] using this⟩⟩
    case mem0 => rfl
    case a11 => rfl
    case a12 => rfl
   case round =>
    rintro nn g M ⟨d, vp, Lp, ⟨hg11, hg12⟩, rfl, hmeas, ⟨hd, hp⟩⟩
    subst nn
    simp only [setG, hg11, hg12]
    clear hg11 hg12
    have hpl : (dl (B * d)).length ≤ 195 := Nat.le_trans (dl_len (k := (dl B).length + 1) (by have := dl_lt B; have h1 := Nat.mul_le_mul_left B hd.2; rw [Nat.pow_succ]; omega)) (by omega)
    refine W_seq (fun K_15 hK_15 => ?_)
    refine W_seq (fun K_16 hK_16 => ?_)
    refine W_region_k (fun K1 hK1 => ?_)
    refine WL_q rfl (q_move rfl) ?_
    refine WL_q rfl (q_move rfl) ?_
    refine WL_q rfl (q_call en_89 rfl (fun w hw => skewbackref03_less_ret _ vp (dl (R * 65536 + dg A m)) (dl (B * d)) (dl_DL _) (dl_DL _) (by omega) (by omega) w (SL.sl (hr8.sl.sub (.trans (List.sublist_append_left _ _) (List.sublist_append_right _ _))) hw) (SL.sl (hp.sl.sub (List.sublist_append_left _ _)) hw))) ?_
    refine WL_nil (hK1 _ _ ?_)
    clear hK1 K1
    refine hK_16 _ _ ?_
    try clear hK_16 K_16
    refine W_cond _ rfl (fun h68 => ?_) (fun h68 => ?_)
    ·(try simp only [decide_eq_true_eq, decide_eq_false_iff_not, beq_iff_eq, bne_iff_ne, beq_eq_false_iff_ne, bne_eq_false_iff_eq, Bool.not_eq_true', Bool.not_eq_false'] at h68)
     rw [dv_dl, dv_dl] at h68
     have hless := div_less hB hd.1 h68
     refine W_skip ?_
     refine hK_15 _ _ ?_
     try clear hK_15 K_15
     refine W_block ?_
     refine W_seq (fun K_17 hK_17 => ?_)
     refine W_region_k (fun K1 hK1 => ?_)
     refine WL_q rfl (q_move rfl) ?_
     refine WL_q rfl (q_as (q_sub rfl rfl) (congrArg (Value.int .i64) (sub_i64' (b := 1) rfl hless.1 (by omega)))) ?_
     refine WL_q rfl (q_assign rfl) ?_
     refine WL_nil (hK1 _ _ ?_)
     clear hK1 K1
     refine hK_17 _ _ ?_
     try clear hK_17 K_17
     refine W_region_k (fun K1 hK1 => ?_)
     refine WL_q rfl (q_move rfl) ?_
     refine WL_q rfl (q_move rfl) ?_
     refine WL_r rfl (r_callslf en_90 rfl (fun w hw => skewbackref03_minus_ret vp vb (dl (B * d)) (dl B) (dl_DL _) (dl_DL _) (by omega) (by omega) (by rw [dv_dl, dv_dl]; exact hless.2.2.1) w (SL.sl (hp.sl.sub (List.sublist_append_left _ _)) hw) (SL.sl (M := _) hvb.old hw)) (fun vp2 Lp2 hp2 => ?_))
     refine WL_q rfl (q_assign rfl) ?_
     refine WL_nil (hK1 _ _ ?_)
     clear hK1 K1
     refine ⟨(by repeat (first | exact .refl | refine .cons rfl ?_)), _, _, (List.Sublist.append (List.Sublist.refl _) (List.sublist_append_right _ _)), (by have := hless.1; omega), d - 1, vp2, Lp2, ⟨?s11, ?s12⟩, ?mem, rfl, ⟨⟨hless.2.1, by omega⟩, by rw [dv_dl, dv_dl, hless.2.2.2] at hp2; exact hp2⟩⟩
     case mem => rfl
     case s11 => rfl
     case s12 => rfl
    ·(try simp only [decide_eq_true_eq, decide_eq_false_iff_not, beq_iff_eq, bne_iff_ne, beq_eq_false_iff_ne, bne_eq_false_iff_eq, Bool.not_eq_true', Bool.not_eq_false'] at h68)
     rw [dv_dl, dv_dl] at h68
     have hdone := div_done hB hd.1 h68
     refine W_exit (thenK_x (thenK_x (blockK_hit ?_)))
     refine hK_14 _ _ ?_
     try clear hK_14 K_14
     refine W_seq (fun K_18 hK_18 => ?_)
     refine W_region_k (fun K1 hK1 => ?_)
     refine WL_q rfl (q_move rfl) ?_
     refine WL_q rfl (q_as (q_move rfl) (congrArg (Value.int .i64) (show (((m + 1 : Nat) : Int) - 1) = (m : Int) by omega))) ?_
     refine WL_q rfl (q_move rfl) ?_
     refine WL_q rfl (q_idxs sl_70 rfl rfl (by omega) (by omega)) ?_
     refine WL_r rfl (r_storei ty_3 rfl rfl (Upd.left (Upd.left (Upd.left (.head _) _) _) _) (by rw [hI.len]; omega) (.inl (by assumption)) ?_)
     refine WL_nil (hK1 _ _ ?_)
     clear hK1 K1
     refine hK_18 _ _ ?_
     try clear hK_18 K_18
     refine W_region_k (fun K1 hK1 => ?_)
     refine WL_q rfl (q_move rfl) ?_
     refine WL_q rfl (q_move rfl) ?_
     refine WL_r rfl (r_callslf en_90 rfl (fun w hw => skewbackref03_minus_ret _ vp (dl (R * 65536 + dg A m)) (dl (B * d)) (dl_DL _) (dl_DL _) (by omega) (by omega) (by rw [dv_dl, dv_dl]; exact hdone.2.2) w (SL.sl (hr8.sl.sub (.trans (List.sublist_append_left _ _) (List.sublist_append_right _ _))) hw) (SL.sl (hp.sl.sub (List.sublist_append_left _ _)) hw)) (fun vr2 Lr2 hr2 => ?_))
     refine WL_q rfl (q_assign rfl) ?_
     refine WL_nil (hK1 _ _ ?_)
     clear hK1 K1
     refine hK_10 _ _ ?_
     try clear hK_10 K_10
     refine W_region_k (fun K1 hK1 => ?_)
     refine WL_q rfl (q_as (q_move rfl) (congrArg (Value.int .i64) (show (((m + 1 : Nat) : Int) - 1) = (m : Int) by omega))) ?_
     refine WL_q rfl (q_sub rfl rfl) ?_
     refine WL_q rfl (q_assign rfl) ?_
     refine WL_nil (hK1 _ _ ?_)
     clear hK1 K1
     refine ⟨(by repeat (first | exact .refl | refine .cons rfl ?_)), _, _, (List.Sublist.append (List.Sublist.refl _) (.trans (List.sublist_append_right _ _) (.trans (List.sublist_append_right _ _) (List.sublist_append_right _ _)))), (by omega), m, ((R * 65536 + dg A m) % B), qs.set m d, vr2, Lr2, ⟨?s9, ?s10⟩, ?mem, rfl, ⟨by omega, by rw [hdone.1]; exact hI.step hB (by omega), by rw [dv_dl, dv_dl, hdone.2.1] at hr2; exact hr2⟩⟩
     case mem => rfl
     case s9 => rfl
     case s10 => exact congrArg (Value.int .i64) (wrap_i64_id (n := (m : Int) - 1) (by unfold I64; omega))
  ·(try simp only [decide_eq_true_eq, decide_eq_false_iff_not, beq_iff_eq, bne_iff_ne, beq_eq_false_iff_ne, bne_eq_false_iff_eq, Bool.not_eq_true', Bool.not_eq_false'] at hc)
   obtain rfl : k = 0 := by omega
   refine W_exit (thenK_x (thenK_x (blockK_hit ?_)))
   refine hK_6 _ _ ?_
   try clear hK_6 K_6
   refine W_seq (fun K_19 hK_19 => ?_)
   refine W_region_k (fun K1 hK1 => ?_)
   refine WL_q rfl (q_move rfl) ?_
   refine WL_q rfl (q_call en_92 rfl (fun w hw => skewbackref03_trim_ret _ qs hI.ok (by rw [hI.len]; omega) w (SL.sl (SL.mine' (List.mem_append_right _ (.head _)) hI.len (Nat.le_refl _)) hw))) ?_
   refine WL_q rfl (q_move rfl) ?_
   refine WL_q rfl (q_assign rfl) ?_
   refine WL_q rfl (q_assign rfl) ?_
   refine WL_nil (hK1 _ _ ?_)
   clear hK1 K1
   refine hK_19 _ _ ?_
   try clear hK_19 K_19
   refine W_ret ?_
   refine ret2 rfl (.inr rfl) rfl rfl ?_
   exact ⟨_, _, rfl, trimmed hI.ok hI.fin.1 (SLf.mine hb15 (List.mem_append_right _ (.head _)) hI.len (Nat.le_refl _)), by rw [hI.fin.2] at hr; exact hr.sub (List.sublist_append_left _ _)⟩
end Go.Proofs.Ythbjhbmpfeeilaa
