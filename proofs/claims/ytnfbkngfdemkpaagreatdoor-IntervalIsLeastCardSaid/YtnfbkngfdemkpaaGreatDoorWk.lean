/- Walks: what these functions return. -/
import Derived.Test.YtnfbkngfdemkpaaGreatDoorFa0
import Derived.Test.YtnfbkngfdemkpaaGreatDoorWa
import Derived.Test.YtnfbkngfdemkpaaGreatDoorWc
import Derived.Test.YtnfbkngfdemkpaaGreatDoorWd
import Derived.Test.YtnfbkngfdemkpaaGreatDoorWh
namespace Go.Proofs.YtnfbkngfdemkpaaGreatDoor
open Go.Kn Go.Num
set_option linter.unusedVariables false
set_option linter.unusedSimpArgs false
set_option maxRecDepth 20000
set_option maxHeartbeats 8000000
theorem whole_Shift_raw (a : R) (ha : a.Ok) (m : Nat) (hm : (m : Int) ≤ 9223372036854775807) :
    Ret Tryz.prog 116 [RV a, .int .i64 (m : Int)] (RV (Z.shl a.dec (m : Int)).enc) := by
 refine ret_of_W (N := 75) Tryz.func116 rfl rfl (by simp) (fun w0 => ?_)
 simp only [initF, Nat.reduceAdd]
 refine Sq fun K1 J1 => Rk fun K J => WL_r rfl (r_box rfl rfl (fun b2 hb2 => WL_r rfl (r_alloc z_26 (fun b4 hb4 => nl J (J1 _ _ (Sq fun K2 J2 => W_block (Sq fun K3 J3 => Rk fun K J => sQ (q_loadw ty_26 rfl (by repeat (first | exact .head _ | apply List.mem_append_right | apply List.Mem.tail)) (cells_len ha)) rfl ?_)))))))
 refine WL_r rfl (r_bslice us_129 z_26 sz_26 rfl (by decide) rfl (fillG1 ha) (fun b9 hb9 => sQ (q_call en_118 rfl (fun w hw => whole_good_ret [a] (ok1 ha) b9 26 w (hw.mem _ m0) (by simp))) rfl ?_))
 refine sE rfl (sE rfl (nl J (J3 _ _ ?_)))
 refine W_cond _ rfl (fun hg => ?_) (fun hg => ?_)
 ·(try simp only [decide_eq_true_eq, decide_eq_false_iff_not, beq_iff_eq, bne_iff_ne, beq_eq_false_iff_ne, bne_eq_false_iff_eq, Bool.not_eq_true', Bool.not_eq_false'] at hg)
  refine Sq fun K4 J4 => Rk fun K J => sQ (q_ret en_117 whole_Bad_ret rfl) rfl (WL_r rfl (r_storew ty_26 rfl rfl (by repeat (first | exact .head _ | apply Upd.left | apply Upd.tail)) (enc_cells_len _) rfl (cells_plain _) (.inl (by assumption)) ?_))
  refine nl J (J4 _ _ (W_ret (blockK_r (thenK_r (ret1 rfl (.inr rfl) ⟨_, _, _, _, _, _, rfl, (by repeat (first | exact .head _ | apply List.mem_append_right | apply List.Mem.tail)), ty_26, _, (takeAll (enc_cells_len _)), (enc_cells_len _), rfl⟩ ?_)))))
  (rw [Z.shl, lift1_bad (by unfold R.dec; rw [if_neg (by simpa using hg)]; rfl)]; rfl)
 ·(try simp only [decide_eq_true_eq, decide_eq_false_iff_not, beq_iff_eq, bne_iff_ne, beq_eq_false_iff_ne, bne_eq_false_iff_eq, Bool.not_eq_true', Bool.not_eq_false'] at hg)
  refine Sq fun K5 J5 => Rk fun K J => sQ (q_loadw ty_26 rfl (by repeat (first | exact .head _ | apply List.mem_append_right | apply List.Mem.tail)) (cells_len ha)) rfl ?_
  refine sQ (q_ret en_103 (whole_Sign_ret a ha) rfl) rfl (sE rfl (sE rfl (nl J (J5 _ _ ?_))))
  refine W_cond _ rfl (fun hs => ?_) (fun hs => ?_)
  ·(try simp only [decide_eq_true_eq, decide_eq_false_iff_not, beq_iff_eq, bne_iff_ne, beq_eq_false_iff_ne, bne_eq_false_iff_eq, Bool.not_eq_true', Bool.not_eq_false'] at hs)
   refine Sq fun K6 J6 => Rk fun K J => sQ (q_loadw ty_26 rfl (by repeat (first | exact .head _ | apply List.mem_append_right | apply List.Mem.tail)) (cells_len ha)) rfl ?_
   refine WL_r rfl (r_storew ty_26 rfl rfl (by repeat (first | exact .head _ | apply Upd.left | apply Upd.tail)) (cells_len ha) rfl (cells_plain _) (.inl (by assumption)) ?_)
   refine nl J (J6 _ _ (W_ret (blockK_r (thenK_r (ret1 rfl (.inr rfl) ⟨_, _, _, _, _, _, rfl, (by repeat (first | exact .head _ | apply List.mem_append_right | apply List.Mem.tail)), ty_26, _, (takeAll (cells_len ha)), (cells_len ha), rfl⟩ ?_)))))
   exact congrArg RV (sh_zero ha (by simpa using hg) hs m)
  ·(try simp only [decide_eq_true_eq, decide_eq_false_iff_not, beq_iff_eq, bne_iff_ne, beq_eq_false_iff_ne, bne_eq_false_iff_eq, Bool.not_eq_true', Bool.not_eq_false'] at hs)
   refine Sq fun K7 J7 => Rk fun K J => sE rfl (sE rfl (sE rfl ?_))
   cases h5 : decide ((m : Int) ≥ 512)
   ·skip
    refine sE rfl (sE rfl (sE rfl ?_))
    cases h6 : decide ((m : Int) > 0)
    ·skip
     refine WL_n rfl (WL_n rfl (WL_n rfl (WL_n rfl (WL_n rfl (sE rfl (sE rfl (sE rfl (nl J (J7 _ _ (W_false rfl (Sq fun K8 J8 => Rk fun K J => sE rfl (sE rfl (sE rfl (nl J (J8 _ _ ?_)))))))))))))))
     refine W_cond _ rfl (fun h33 => ?_) (fun h33 => ?_)
     ·(try simp only [decide_eq_true_eq, decide_eq_false_iff_not, beq_iff_eq, bne_iff_ne, beq_eq_false_iff_ne, bne_eq_false_iff_eq, Bool.not_eq_true', Bool.not_eq_false'] at h33)
      exact absurd h33 (by omega) --done
     ·(try simp only [decide_eq_true_eq, decide_eq_false_iff_not, beq_iff_eq, bne_iff_ne, beq_eq_false_iff_ne, bne_eq_false_iff_eq, Bool.not_eq_true', Bool.not_eq_false'] at h33)
      refine W_skip (J2 _ _ (Sq fun K9 J9 => ?_))
      have hm5 : m < 512 := by have := of_decide_eq_false h5; omega
      have hfar : m / 32 ≤ 15 := by omega
      refine Rk fun K J => WL_r rfl (r_alloc z_24 (fun b5 hb5 => nl J (J9 _ _ (Sq fun K10 J10 => Rk fun K J => sE rfl (sQ (q_as (q_quo rfl rfl (by decide)) (congrArg (Value.int .i64) (shq 32 (by decide) hm))) rfl (sE rfl (nl J (J10 _ _ (Sq fun K11 J11 => Sq fun K12 J12 => Rk fun K J => sE rfl (sE rfl (nl J (J12 _ _ ?_))))))))))))
      refine W_cond _ rfl (fun h42 => ?_) (fun h42 => ?_)
      ·(try simp only [decide_eq_true_eq, decide_eq_false_iff_not, beq_iff_eq, bne_iff_ne, beq_eq_false_iff_ne, bne_eq_false_iff_eq, Bool.not_eq_true', Bool.not_eq_false'] at h42)
       refine Sq fun K13 J13 => dr (sd (sk (sk (sk (s0))))) [0,4,8,12,17] [4] mix (by kernel_rfl) (fun K J => pE rfl (pQ rfl (q_slca ar_24 rfl rfl rfl (by omega) (by omega) (by omega) (by omega)) (pQ rfl (q_faddr fd_26_2 (by decide) rfl) (pQ rfl (q_slca ar_24 rfl rfl rfl (by decide) (by decide) (by decide) (by decide)) ?_))))
       refine PL_o rfl rfl (r_copy sl_106 rfl rfl (by repeat (first | exact .head _ | apply List.mem_append_right | apply List.Mem.tail)) (by repeat (first | exact .head _ | apply Upd.left | apply Upd.tail)) (fun v hv => cells_plain a v (List.mem_of_mem_drop (List.mem_of_mem_take hv))) (by rw [cells_len ha]; omega) (by simp [uw]; omega) (copy_sh' ha hfar) (.inl (by assumption)) ⟨nf, (by repeat (first | exact s0 | exact sn | refine sk ?_ | refine sd ?_ | refine sA ?_ | refine sR ?_)), ?_⟩)
       refine fl J (J13 _ _ (Sq fun K14 J14 => Rk fun K J => sQ (q_loadw ty_24 rfl (by repeat (first | exact .head _ | apply List.mem_append_right | apply List.Mem.tail)) (by simp [uw, shw_len ha.len (show m / 32 ≤ 16 by omega)])) rfl ?_))
       refine sE rfl (sQ (q_as (q_rem rfl rfl (by decide)) (congrArg (Value.int .i64) (shr 32 m))) rfl (sQ (q_ret en_148 (whole_up_ret (shw a.w (m / 32)) (shw_len ha.len (by omega)) (shw_lim ha.lim) (m % 32) (Nat.mod_lt _ (by decide))) rfl) rfl (sE rfl (sE rfl (sE rfl (WL_r rfl (r_storew ty_24 rfl rfl (by repeat (first | exact .head _ | apply Upd.left | apply Upd.tail)) (by simp [uw, toL_len]) (by simp [uw, shw_len ha.len (show m / 32 ≤ 16 by omega)]) (uw_plain _) (.inl (by assumption)) ?_)))))))
       refine nl J (J14 _ _ (Sq fun K15 J15 => Rk fun K J => sQ (q_faddr fd_26_1 (by decide) rfl) rfl (sQ (q_load (v := .bool a.neg) ty_4 rfl (by repeat (first | exact .head _ | apply List.mem_append_right | apply List.Mem.tail)) rfl) rfl ?_)))
       refine sQ (q_loadw ty_24 rfl (by repeat (first | exact .head _ | apply List.mem_append_right | apply List.Mem.tail)) (by simp [uw, toL_len])) rfl ?_
       refine sQ (q_ret en_120 (whole_signed_ret a.neg (toL 16 (val (shw a.w (m / 32)) * 2 ^ (m % 32))) (by simp [toL_len]) (toL_lim _ _)) rfl) rfl ?_
       refine WL_r rfl (r_storew ty_26 rfl rfl (by repeat (first | exact .head _ | apply Upd.left | apply Upd.tail)) (sw_len (by simp [toL_len])) rfl (cells_plain _) (.inl (by assumption)) ?_)
       refine nl J (J15 _ _ (W_ret (thenK_r (ret1 rfl (.inr rfl) ⟨_, _, _, _, _, _, rfl, (by repeat (first | exact .head _ | apply List.mem_append_right | apply List.Mem.tail)), ty_26, _, (takeAll (sw_len (by simp [toL_len]))), (sw_len (by simp [toL_len])), rfl⟩ ?_))))
       exact congrArg RV (sh_fin ha (by simpa using hg) (by have := Z.bits_le a.dec; have := of_decide_eq_false h6; omega) hm5)
      ·(try simp only [decide_eq_true_eq, decide_eq_false_iff_not, beq_iff_eq, bne_iff_ne, beq_eq_false_iff_ne, bne_eq_false_iff_eq, Bool.not_eq_true', Bool.not_eq_false'] at h42)
       exact absurd h42 (by omega) --done
    ·skip
     refine sQ (q_loadw ty_26 rfl (by repeat (first | exact .head _ | apply List.mem_append_right | apply List.Mem.tail)) (cells_len ha)) rfl ?_
     refine sQ (q_ret en_146 (whole_Bits_ret a ha) rfl) rfl (sE rfl (sQ (q_as (q_add rfl rfl) (congrArg (Value.int .i64) (show _ = ((a.dec.bits + m : Nat) : Int) from (wi (by have := Z.bits_le a.dec; have := of_decide_eq_false h5; omega)).trans (Int.natCast_add _ _).symm))) rfl (sE rfl (sE rfl (sE rfl (sE rfl (nl J (J7 _ _ ?_))))))))
     refine W_cond _ rfl (fun h18 => ?_) (fun h18 => ?_)
     ·(try simp only [decide_eq_true_eq, decide_eq_false_iff_not, beq_iff_eq, bne_iff_ne, beq_eq_false_iff_ne, bne_eq_false_iff_eq, Bool.not_eq_true', Bool.not_eq_false'] at h18)
      refine Sq fun K16 J16 => Rk fun K J => sQ (q_ret en_117 whole_Bad_ret rfl) rfl (WL_r rfl (r_storew ty_26 rfl rfl (by repeat (first | exact .head _ | apply Upd.left | apply Upd.tail)) (enc_cells_len _) rfl (cells_plain _) (.inl (by assumption)) ?_))
      refine nl J (J16 _ _ (W_ret (blockK_r (thenK_r (ret1 rfl (.inr rfl) ⟨_, _, _, _, _, _, rfl, (by repeat (first | exact .head _ | apply List.mem_append_right | apply List.Mem.tail)), ty_26, _, (takeAll (enc_cells_len _)), (enc_cells_len _), rfl⟩ ?_)))))
      exact congrArg RV (sh_big ha (by simpa using hg) hs (.inl (by omega)))
     ·(try simp only [decide_eq_true_eq, decide_eq_false_iff_not, beq_iff_eq, bne_iff_ne, beq_eq_false_iff_ne, bne_eq_false_iff_eq, Bool.not_eq_true', Bool.not_eq_false'] at h18)
      refine Sq fun K17 J17 => Rk fun K J => sE rfl (sE rfl (sE rfl (nl J (J17 _ _ ?_))))
      refine W_cond _ rfl (fun h33 => ?_) (fun h33 => ?_)
      ·(try simp only [decide_eq_true_eq, decide_eq_false_iff_not, beq_iff_eq, bne_iff_ne, beq_eq_false_iff_ne, bne_eq_false_iff_eq, Bool.not_eq_true', Bool.not_eq_false'] at h33)
       exact absurd h33 (by omega) --done
      ·(try simp only [decide_eq_true_eq, decide_eq_false_iff_not, beq_iff_eq, bne_iff_ne, beq_eq_false_iff_ne, bne_eq_false_iff_eq, Bool.not_eq_true', Bool.not_eq_false'] at h33)
       refine W_skip (J2 _ _ (Sq fun K18 J18 => ?_))
       have hm5 : m < 512 := by have := of_decide_eq_false h5; omega
       have hfar : m / 32 ≤ 15 := by omega
       refine Rk fun K J => WL_r rfl (r_alloc z_24 (fun b5 hb5 => nl J (J18 _ _ (Sq fun K19 J19 => Rk fun K J => sE rfl (sQ (q_as (q_quo rfl rfl (by decide)) (congrArg (Value.int .i64) (shq 32 (by decide) hm))) rfl (sE rfl (nl J (J19 _ _ (Sq fun K20 J20 => Sq fun K21 J21 => Rk fun K J => sE rfl (sE rfl (nl J (J21 _ _ ?_))))))))))))
       refine W_cond _ rfl (fun h42 => ?_) (fun h42 => ?_)
       ·(try simp only [decide_eq_true_eq, decide_eq_false_iff_not, beq_iff_eq, bne_iff_ne, beq_eq_false_iff_ne, bne_eq_false_iff_eq, Bool.not_eq_true', Bool.not_eq_false'] at h42)
        refine Sq fun K22 J22 => dr (sd (sk (sk (sk (s0))))) [0,4,8,12,17] [4] mix (by kernel_rfl) (fun K J => pE rfl (pQ rfl (q_slca ar_24 rfl rfl rfl (by omega) (by omega) (by omega) (by omega)) (pQ rfl (q_faddr fd_26_2 (by decide) rfl) (pQ rfl (q_slca ar_24 rfl rfl rfl (by decide) (by decide) (by decide) (by decide)) ?_))))
        refine PL_o rfl rfl (r_copy sl_106 rfl rfl (by repeat (first | exact .head _ | apply List.mem_append_right | apply List.Mem.tail)) (by repeat (first | exact .head _ | apply Upd.left | apply Upd.tail)) (fun v hv => cells_plain a v (List.mem_of_mem_drop (List.mem_of_mem_take hv))) (by rw [cells_len ha]; omega) (by simp [uw]; omega) (copy_sh' ha hfar) (.inl (by assumption)) ⟨nf, (by repeat (first | exact s0 | exact sn | refine sk ?_ | refine sd ?_ | refine sA ?_ | refine sR ?_)), ?_⟩)
        refine fl J (J22 _ _ (Sq fun K23 J23 => Rk fun K J => sQ (q_loadw ty_24 rfl (by repeat (first | exact .head _ | apply List.mem_append_right | apply List.Mem.tail)) (by simp [uw, shw_len ha.len (show m / 32 ≤ 16 by omega)])) rfl ?_))
        refine sE rfl (sQ (q_as (q_rem rfl rfl (by decide)) (congrArg (Value.int .i64) (shr 32 m))) rfl (sQ (q_ret en_148 (whole_up_ret (shw a.w (m / 32)) (shw_len ha.len (by omega)) (shw_lim ha.lim) (m % 32) (Nat.mod_lt _ (by decide))) rfl) rfl (sE rfl (sE rfl (sE rfl (WL_r rfl (r_storew ty_24 rfl rfl (by repeat (first | exact .head _ | apply Upd.left | apply Upd.tail)) (by simp [uw, toL_len]) (by simp [uw, shw_len ha.len (show m / 32 ≤ 16 by omega)]) (uw_plain _) (.inl (by assumption)) ?_)))))))
        refine nl J (J23 _ _ (Sq fun K24 J24 => Rk fun K J => sQ (q_faddr fd_26_1 (by decide) rfl) rfl (sQ (q_load (v := .bool a.neg) ty_4 rfl (by repeat (first | exact .head _ | apply List.mem_append_right | apply List.Mem.tail)) rfl) rfl ?_)))
        refine sQ (q_loadw ty_24 rfl (by repeat (first | exact .head _ | apply List.mem_append_right | apply List.Mem.tail)) (by simp [uw, toL_len])) rfl ?_
        refine sQ (q_ret en_120 (whole_signed_ret a.neg (toL 16 (val (shw a.w (m / 32)) * 2 ^ (m % 32))) (by simp [toL_len]) (toL_lim _ _)) rfl) rfl ?_
        refine WL_r rfl (r_storew ty_26 rfl rfl (by repeat (first | exact .head _ | apply Upd.left | apply Upd.tail)) (sw_len (by simp [toL_len])) rfl (cells_plain _) (.inl (by assumption)) ?_)
        refine nl J (J24 _ _ (W_ret (thenK_r (ret1 rfl (.inr rfl) ⟨_, _, _, _, _, _, rfl, (by repeat (first | exact .head _ | apply List.mem_append_right | apply List.Mem.tail)), ty_26, _, (takeAll (sw_len (by simp [toL_len]))), (sw_len (by simp [toL_len])), rfl⟩ ?_))))
        exact congrArg RV (sh_fin ha (by simpa using hg) (by omega) hm5)
       ·(try simp only [decide_eq_true_eq, decide_eq_false_iff_not, beq_iff_eq, bne_iff_ne, beq_eq_false_iff_ne, bne_eq_false_iff_eq, Bool.not_eq_true', Bool.not_eq_false'] at h42)
        exact absurd h42 (by omega) --done
   ·skip
    refine WL_n rfl (WL_n rfl (WL_n rfl (WL_n rfl (WL_n rfl (WL_n rfl (WL_n rfl (WL_n rfl (WL_n rfl (sE rfl (sE rfl (nl J (J7 _ _ (W_true rfl (Sq fun K25 J25 => Rk fun K J => sQ (q_ret en_117 whole_Bad_ret rfl) rfl (WL_r rfl (r_storew ty_26 rfl rfl (by repeat (first | exact .head _ | apply Upd.left | apply Upd.tail)) (enc_cells_len _) rfl (cells_plain _) (.inl (by assumption)) ?_))))))))))))))))
    refine nl J (J25 _ _ (W_ret (blockK_r (thenK_r (ret1 rfl (.inr rfl) ⟨_, _, _, _, _, _, rfl, (by repeat (first | exact .head _ | apply List.mem_append_right | apply List.Mem.tail)), ty_26, _, (takeAll (enc_cells_len _)), (enc_cells_len _), rfl⟩ ?_)))))
    exact congrArg RV (sh_big ha (by simpa using hg) hs (.inr (by have := of_decide_eq_true h5; omega)))
theorem whole_Shift_ret (a : R) (ha : a.Ok) (n : W) (h0 : 0 ≤ n.1) : Ret Tryz.prog 116 [RV a, .int .i64 n.1] (RV (Z.shl a.dec n.1).enc) := by
  obtain ⟨n, hn⟩ := n
  obtain ⟨m, rfl⟩ : ∃ m : Nat, n = (m : Int) := ⟨n.toNat, by simp only at h0; omega⟩
  exact whole_Shift_raw a ha m (by unfold I64 at hn; omega)
end Go.Proofs.YtnfbkngfdemkpaaGreatDoor
