/- Walks: what these functions return. -/
import Derived.Test.YtnfbkngfdemkpaaGreatDoorFa0
import Derived.Test.YtnfbkngfdemkpaaGreatDoorWa
namespace Go.Proofs.YtnfbkngfdemkpaaGreatDoor
open Go.Kn Go.Num
set_option linter.unusedVariables false
set_option linter.unusedSimpArgs false
set_option maxRecDepth 20000
set_option maxHeartbeats 8000000
theorem whole_Neg_ret (a : R) (ha : a.Ok) :
    Ret Tryz.prog 98 [RV a] (RV (Z.neg a.dec).enc) := by
 refine ret_of_W (N := 14) Tryz.func98 rfl rfl (by simp) (fun w0 => ?_)
 simp only [initF, Nat.reduceAdd]
 refine Sq fun K1 J1 => Rk fun K J => WL_r rfl (r_box rfl rfl (fun b1 hb1 => WL_r rfl (r_alloc z_26 (fun b2 hb2 => nl J (J1 _ _ (Sq fun K2 J2 => Sq fun K3 J3 => Rk fun K J => sQ (q_loadw ty_26 rfl (by repeat (first | exact .head _ | apply List.mem_append_right | apply List.Mem.tail)) (cells_len ha)) rfl ?_))))))
 refine WL_r rfl (r_bslice us_129 z_26 sz_26 rfl (by decide) rfl (fillG1 ha) (fun b4 hb4 => sQ (q_call en_118 rfl (fun w hw => whole_good_ret [a] (ok1 ha) b4 26 w (hw.mem _ m0) (by simp))) rfl ?_))
 refine sE rfl (nl J (J3 _ _ ?_))
 refine W_cond _ rfl (fun hg => ?_) (fun hg => ?_)
 ·(try simp only [decide_eq_true_eq, decide_eq_false_iff_not, beq_iff_eq, bne_iff_ne, beq_eq_false_iff_ne, bne_eq_false_iff_eq, Bool.not_eq_true', Bool.not_eq_false'] at hg)
  refine Sq fun K4 J4 => Rk fun K J => sQ (q_ret en_117 whole_Bad_ret rfl) rfl (WL_r rfl (r_storew ty_26 rfl rfl (by repeat (first | exact .head _ | apply Upd.left | apply Upd.tail)) (enc_cells_len _) rfl (cells_plain _) (.inl (by assumption)) ?_))
  refine nl J (J4 _ _ (W_ret (thenK_r (ret1 rfl (.inr rfl) ⟨_, _, _, _, _, _, rfl, (by repeat (first | exact .head _ | apply List.mem_append_right | apply List.Mem.tail)), ty_26, _, (takeAll (enc_cells_len _)), (enc_cells_len _), rfl⟩ ?_))))
  (rw [Z.neg, lift1_bad (not_all1 hg)]; rfl)
 ·(try simp only [decide_eq_true_eq, decide_eq_false_iff_not, beq_iff_eq, bne_iff_ne, beq_eq_false_iff_ne, bne_eq_false_iff_eq, Bool.not_eq_true', Bool.not_eq_false'] at hg)
  refine W_skip (J2 _ _ (Sq fun K5 J5 => Rk fun K J => sQ (q_faddr fd_26_1 (by decide) rfl) rfl (sQ (q_load ty_4 rfl (by repeat (first | exact .head _ | apply List.mem_append_right | apply List.Mem.tail)) rfl) rfl ?_)))
  refine sE rfl (sQ (q_faddr fd_26_2 (by decide) rfl) rfl (sQ (q_loada (vs := uw a.w) ty_24 rfl (by repeat (first | exact .head _ | apply List.mem_append_right | apply List.Mem.tail)) (cellsW ha.len) ((uw_len _).trans ha.len)) rfl ?_))
  refine sQ (q_ret en_120 (whole_signed_ret (!a.neg) a.w ha.len ha.lim) rfl) rfl (WL_r rfl (r_storew ty_26 rfl rfl (by repeat (first | exact .head _ | apply Upd.left | apply Upd.tail)) (sw_len ha.len) rfl (cells_plain _) (.inl (by assumption)) ?_))
  refine nl J (J5 _ _ (W_ret (ret1 rfl (.inr rfl) ⟨_, _, _, _, _, _, rfl, (by repeat (first | exact .head _ | apply List.mem_append_right | apply List.Mem.tail)), ty_26, _, (takeAll (sw_len ha.len)), (sw_len ha.len), rfl⟩ ?_)))
  exact congrArg RV (neg_eq ha (by simpa using hg))

theorem whole_Abs_ret (a : R) (ha : a.Ok) :
    Ret Tryz.prog 130 [RV a] (RV (Z.abs a.dec).enc) := by
 refine ret_of_W (N := 11) Tryz.func130 rfl rfl (by simp) (fun w0 => ?_)
 simp only [initF, Nat.reduceAdd]
 refine Sq fun K1 J1 => Rk fun K J => WL_r rfl (r_box rfl rfl (fun b1 hb1 => WL_r rfl (r_alloc z_26 (fun b2 hb2 => nl J (J1 _ _ (Sq fun K2 J2 => Sq fun K3 J3 => Rk fun K J => sQ (q_loadw ty_26 rfl (by repeat (first | exact .head _ | apply List.mem_append_right | apply List.Mem.tail)) (cells_len ha)) rfl ?_))))))
 refine WL_r rfl (r_bslice us_129 z_26 sz_26 rfl (by decide) rfl (fillG1 ha) (fun b4 hb4 => sQ (q_call en_118 rfl (fun w hw => whole_good_ret [a] (ok1 ha) b4 26 w (hw.mem _ m0) (by simp))) rfl ?_))
 refine sE rfl (nl J (J3 _ _ ?_))
 refine W_cond _ rfl (fun hg => ?_) (fun hg => ?_)
 ·(try simp only [decide_eq_true_eq, decide_eq_false_iff_not, beq_iff_eq, bne_iff_ne, beq_eq_false_iff_ne, bne_eq_false_iff_eq, Bool.not_eq_true', Bool.not_eq_false'] at hg)
  refine Sq fun K4 J4 => Rk fun K J => sQ (q_ret en_117 whole_Bad_ret rfl) rfl (WL_r rfl (r_storew ty_26 rfl rfl (by repeat (first | exact .head _ | apply Upd.left | apply Upd.tail)) (enc_cells_len _) rfl (cells_plain _) (.inl (by assumption)) ?_))
  refine nl J (J4 _ _ (W_ret (thenK_r (ret1 rfl (.inr rfl) ⟨_, _, _, _, _, _, rfl, (by repeat (first | exact .head _ | apply List.mem_append_right | apply List.Mem.tail)), ty_26, _, (takeAll (enc_cells_len _)), (enc_cells_len _), rfl⟩ ?_))))
  (rw [Z.abs, lift1_bad (not_all1 hg)]; rfl)
 ·(try simp only [decide_eq_true_eq, decide_eq_false_iff_not, beq_iff_eq, bne_iff_ne, beq_eq_false_iff_ne, bne_eq_false_iff_eq, Bool.not_eq_true', Bool.not_eq_false'] at hg)
  refine W_skip (J2 _ _ (Sq fun K5 J5 => Rk fun K J => sQ (q_faddr fd_26_2 (by decide) rfl) rfl (sQ (q_loada (vs := uw a.w) ty_24 rfl (by repeat (first | exact .head _ | apply List.mem_append_right | apply List.Mem.tail)) (cellsW ha.len) ((uw_len _).trans ha.len)) rfl ?_)))
  refine sQ (q_ret en_120 (whole_signed_ret false a.w ha.len ha.lim) rfl) rfl (WL_r rfl (r_storew ty_26 rfl rfl (by repeat (first | exact .head _ | apply Upd.left | apply Upd.tail)) (sw_len ha.len) rfl (cells_plain _) (.inl (by assumption)) ?_))
  refine nl J (J5 _ _ (W_ret (ret1 rfl (.inr rfl) ⟨_, _, _, _, _, _, rfl, (by repeat (first | exact .head _ | apply List.mem_append_right | apply List.Mem.tail)), ty_26, _, (takeAll (sw_len ha.len)), (sw_len ha.len), rfl⟩ ?_)))
  exact congrArg RV (abs_eq ha (by simpa using hg))

theorem whole_Add_ret (a b : R) (ha : a.Ok) (hb : b.Ok) :
    Ret Tryz.prog 97 [RV a, RV b] (RV (Z.add a.dec b.dec).enc) := by
 refine ret_of_W (N := 55) Tryz.func97 rfl rfl (by simp) (fun w0 => ?_)
 simp only [initF, Nat.reduceAdd]
 refine Sq fun K1 J1 => Rk fun K J => WL_r rfl (r_box rfl rfl (fun b2 hb2 => WL_r rfl (r_box rfl rfl (fun b3 hb3 => WL_r rfl (r_alloc z_26 (fun b4 hb4 => nl J (J1 _ _ (Sq fun K2 J2 => Sq fun K3 J3 => Rk fun K J => sQ (q_loadw ty_26 rfl (by repeat (first | exact .head _ | apply List.mem_append_right | apply List.Mem.tail)) (cells_len ha)) rfl ?_))))))))
 refine sQ (q_loadw ty_26 rfl (by repeat (first | exact .head _ | apply List.mem_append_right | apply List.Mem.tail)) (cells_len hb)) rfl ?_
 refine WL_r rfl (r_bslice us_129 z_26 sz_26 rfl (by decide) rfl (fillG2 ha hb) (fun b9 hb9 => sQ (q_call en_118 rfl (fun w hw => whole_good_ret [a, b] (ok2 ha hb) b9 26 w (hw.mem _ m0) (by simp))) rfl ?_))
 refine sE rfl (nl J (J3 _ _ ?_))
 refine W_cond _ rfl (fun hg => ?_) (fun hg => ?_)
 ·(try simp only [decide_eq_true_eq, decide_eq_false_iff_not, beq_iff_eq, bne_iff_ne, beq_eq_false_iff_ne, bne_eq_false_iff_eq, Bool.not_eq_true', Bool.not_eq_false'] at hg)
  refine Sq fun K4 J4 => Rk fun K J => sQ (q_ret en_117 whole_Bad_ret rfl) rfl (WL_r rfl (r_storew ty_26 rfl rfl (by repeat (first | exact .head _ | apply Upd.left | apply Upd.tail)) (enc_cells_len _) rfl (cells_plain _) (.inl (by assumption)) ?_))
  refine nl J (J4 _ _ (W_ret (thenK_r (ret1 rfl (.inr rfl) ⟨_, _, _, _, _, _, rfl, (by repeat (first | exact .head _ | apply List.mem_append_right | apply List.Mem.tail)), ty_26, _, (takeAll (enc_cells_len _)), (enc_cells_len _), rfl⟩ ?_))))
  (rw [Z.add, lift2_bad (not_all2 hg)]; rfl)
 ·(try simp only [decide_eq_true_eq, decide_eq_false_iff_not, beq_iff_eq, bne_iff_ne, beq_eq_false_iff_ne, bne_eq_false_iff_eq, Bool.not_eq_true', Bool.not_eq_false'] at hg)
  have hg := all2.1 hg
  refine W_skip (J2 _ _ (Sq fun K5 J5 => Sq fun K6 J6 => Rk fun K J => sQ (q_faddr fd_26_1 (by decide) rfl) rfl (sQ (q_load ty_4 rfl (by repeat (first | exact .head _ | apply List.mem_append_right | apply List.Mem.tail)) rfl) rfl ?_)))
  refine sQ (q_faddr fd_26_1 (by decide) rfl) rfl (sQ (q_load ty_4 rfl (by repeat (first | exact .head _ | apply List.mem_append_right | apply List.Mem.tail)) rfl) rfl ?_)
  refine sQ (q_eqlb bo_4 rfl rfl) rfl (nl J (J6 _ _ ?_))
  refine W_cond _ rfl (fun hn => ?_) (fun hn => ?_)
  ·(try simp only [decide_eq_true_eq, decide_eq_false_iff_not, beq_iff_eq, bne_iff_ne, beq_eq_false_iff_ne, bne_eq_false_iff_eq, Bool.not_eq_true', Bool.not_eq_false'] at hn)
   refine Sq fun K7 J7 => Rk fun K J => sQ (q_faddr fd_26_2 (by decide) rfl) rfl (sQ (q_loada (vs := uw a.w) ty_24 rfl (by repeat (first | exact .head _ | apply List.mem_append_right | apply List.Mem.tail)) (cellsW ha.len) ((uw_len _).trans ha.len)) rfl ?_)
   refine sQ (q_faddr fd_26_2 (by decide) rfl) rfl (sQ (q_loada (vs := uw b.w) ty_24 rfl (by repeat (first | exact .head _ | apply List.mem_append_right | apply List.Mem.tail)) (cellsW hb.len) ((uw_len _).trans hb.len)) rfl ?_)
   refine sQ (q_ret en_132 (whole_plus_ret a.w b.w ha.len hb.len ha.lim hb.lim) rfl) rfl (sE rfl (sE rfl (sE rfl (WL_r rfl (r_alloc z_24 (fun b5 hb5 => WL_r rfl (r_storew ty_24 rfl rfl (by repeat (first | exact .head _ | apply Upd.left | apply Upd.tail)) (by rw [uw_len, toL_len]) rfl (uw_plain _) (.inl (by assumption)) ?_)))))))
   refine sE rfl (nl J (J7 _ _ (Sq fun K8 J8 => Sq fun K9 J9 => Rk fun K J => sE rfl (sE rfl (nl J (J9 _ _ ?_))))))
   refine W_cond _ rfl (fun hc => ?_) (fun hc => ?_)
   ·(try simp only [decide_eq_true_eq, decide_eq_false_iff_not, beq_iff_eq, bne_iff_ne, beq_eq_false_iff_ne, bne_eq_false_iff_eq, Bool.not_eq_true', Bool.not_eq_false'] at hc)
    refine Sq fun K10 J10 => Rk fun K J => sQ (q_ret en_117 whole_Bad_ret rfl) rfl (WL_r rfl (r_storew ty_26 rfl rfl (by repeat (first | exact .head _ | apply Upd.left | apply Upd.tail)) (enc_cells_len _) rfl (cells_plain _) (.inl (by assumption)) ?_))
    refine nl J (J10 _ _ (W_ret (thenK_r (thenK_r (ret1 rfl (.inr rfl) ⟨_, _, _, _, _, _, rfl, (by repeat (first | exact .head _ | apply List.mem_append_right | apply List.Mem.tail)), ty_26, _, (takeAll (enc_cells_len _)), (enc_cells_len _), rfl⟩ ?_)))))
    exact congrArg RV (add_over ha hb hg.1 hg.2 hn (by omega))
   ·(try simp only [decide_eq_true_eq, decide_eq_false_iff_not, beq_iff_eq, bne_iff_ne, beq_eq_false_iff_ne, bne_eq_false_iff_eq, Bool.not_eq_true', Bool.not_eq_false'] at hc)
    refine W_skip (J8 _ _ (Sq fun K11 J11 => Rk fun K J => sQ (q_faddr fd_26_1 (by decide) rfl) rfl (sQ (q_load ty_4 rfl (by repeat (first | exact .head _ | apply List.mem_append_right | apply List.Mem.tail)) rfl) rfl ?_)))
    refine sQ (q_loadw ty_24 rfl (by repeat (first | exact .head _ | apply List.mem_append_right | apply List.Mem.tail)) (by rw [uw_len, toL_len])) rfl ?_
    refine sQ (q_ret en_120 (whole_signed_ret a.neg _ (toL_len _ _) (toL_lim _ _)) rfl) rfl (WL_r rfl (r_storew ty_26 rfl rfl (by repeat (first | exact .head _ | apply Upd.left | apply Upd.tail)) (sw_len (toL_len _ _)) rfl (cells_plain _) (.inl (by assumption)) ?_))
    refine nl J (J11 _ _ (W_ret (thenK_r (ret1 rfl (.inr rfl) ⟨_, _, _, _, _, _, rfl, (by repeat (first | exact .head _ | apply List.mem_append_right | apply List.Mem.tail)), ty_26, _, (takeAll (sw_len (toL_len _ _))), (sw_len (toL_len _ _)), rfl⟩ ?_))))
    exact congrArg RV (add_same ha hb hg.1 hg.2 hn (by omega))
  ·(try simp only [decide_eq_true_eq, decide_eq_false_iff_not, beq_iff_eq, bne_iff_ne, beq_eq_false_iff_ne, bne_eq_false_iff_eq, Bool.not_eq_true', Bool.not_eq_false'] at hn)
   refine W_skip (J5 _ _ (Sq fun K12 J12 => Sq fun K13 J13 => Rk fun K J => sQ (q_faddr fd_26_2 (by decide) rfl) rfl (sQ (q_loada (vs := uw a.w) ty_24 rfl (by repeat (first | exact .head _ | apply List.mem_append_right | apply List.Mem.tail)) (cellsW ha.len) ((uw_len _).trans ha.len)) rfl ?_)))
   refine sQ (q_faddr fd_26_2 (by decide) rfl) rfl (sQ (q_loada (vs := uw b.w) ty_24 rfl (by repeat (first | exact .head _ | apply List.mem_append_right | apply List.Mem.tail)) (cellsW hb.len) ((uw_len _).trans hb.len)) rfl ?_)
   refine sQ (q_ret en_133 (whole_order_ret a.w b.w ha.len hb.len ha.lim hb.lim) rfl) rfl (sE rfl (nl J (J13 _ _ ?_)))
   refine W_cond _ rfl (fun ho => ?_) (fun ho => ?_)
   ·(try simp only [decide_eq_true_eq, decide_eq_false_iff_not, beq_iff_eq, bne_iff_ne, beq_eq_false_iff_ne, bne_eq_false_iff_eq, Bool.not_eq_true', Bool.not_eq_false'] at ho)
    have hle : val b.w ≤ val a.w := cmpI_ge ho
    refine Sq fun K14 J14 => dr (sk (sd (sk (sk (s0))))) [0,4,8,12,16,20,24,28,33] [8] mix (by kernel_rfl) (fun K J => pQ rfl (q_faddr fd_26_1 (by decide) rfl) (pQ rfl (q_load ty_4 rfl (by repeat (first | exact .head _ | apply List.mem_append_right | apply List.Mem.tail)) rfl) ?_))
    refine pQ rfl (q_faddr fd_26_2 (by decide) rfl) (pQ rfl (q_loada (vs := uw a.w) ty_24 rfl (by repeat (first | exact .head _ | apply List.mem_append_right | apply List.Mem.tail)) (cellsW ha.len) ((uw_len _).trans ha.len)) ?_)
    refine pQ rfl (q_faddr fd_26_2 (by decide) rfl) (pQ rfl (q_loada (vs := uw b.w) ty_24 rfl (by repeat (first | exact .head _ | apply List.mem_append_right | apply List.Mem.tail)) (cellsW hb.len) ((uw_len _).trans hb.len)) ?_)
    refine pQ rfl (q_ret en_134 (whole_minus_ret a.w b.w ha.len hb.len ha.lim hb.lim hle) rfl) (pQ rfl (q_ret en_120 (whole_signed_ret a.neg _ (toL_len _ _) (toL_lim _ _)) rfl) ?_)
    refine PL_o rfl rfl (r_storew ty_26 rfl rfl (by repeat (first | exact .head _ | apply Upd.left | apply Upd.tail)) (sw_len (toL_len _ _)) rfl (cells_plain _) (.inl (by assumption)) ⟨nf, (by repeat (first | exact s0 | exact sn | refine sk ?_ | refine sd ?_ | refine sA ?_ | refine sR ?_)), ?_⟩)
    refine fl J (J14 _ _ (W_ret (thenK_r (ret1 rfl (.inr rfl) ⟨_, _, _, _, _, _, rfl, (by repeat (first | exact .head _ | apply List.mem_append_right | apply List.Mem.tail)), ty_26, _, (takeAll (sw_len (toL_len _ _))), (sw_len (toL_len _ _)), rfl⟩ ?_))))
    exact congrArg RV (add_sub1 ha hb hg.1 hg.2 hn hle)
   ·(try simp only [decide_eq_true_eq, decide_eq_false_iff_not, beq_iff_eq, bne_iff_ne, beq_eq_false_iff_ne, bne_eq_false_iff_eq, Bool.not_eq_true', Bool.not_eq_false'] at ho)
    have hle : val a.w ≤ val b.w := cmpI_nge ho
    refine W_skip (J12 _ _ (Sq fun K15 J15 => dr (sk (sd (sk (sk (s0))))) [0,4,8,12,16,20,24,28,33] [8] mix (by kernel_rfl) (fun K J => pQ rfl (q_faddr fd_26_1 (by decide) rfl) (pQ rfl (q_load ty_4 rfl (by repeat (first | exact .head _ | apply List.mem_append_right | apply List.Mem.tail)) rfl) ?_))))
    refine pQ rfl (q_faddr fd_26_2 (by decide) rfl) (pQ rfl (q_loada (vs := uw b.w) ty_24 rfl (by repeat (first | exact .head _ | apply List.mem_append_right | apply List.Mem.tail)) (cellsW hb.len) ((uw_len _).trans hb.len)) ?_)
    refine pQ rfl (q_faddr fd_26_2 (by decide) rfl) (pQ rfl (q_loada (vs := uw a.w) ty_24 rfl (by repeat (first | exact .head _ | apply List.mem_append_right | apply List.Mem.tail)) (cellsW ha.len) ((uw_len _).trans ha.len)) ?_)
    refine pQ rfl (q_ret en_134 (whole_minus_ret b.w a.w hb.len ha.len hb.lim ha.lim hle) rfl) (pQ rfl (q_ret en_120 (whole_signed_ret b.neg _ (toL_len _ _) (toL_lim _ _)) rfl) ?_)
    refine PL_o rfl rfl (r_storew ty_26 rfl rfl (by repeat (first | exact .head _ | apply Upd.left | apply Upd.tail)) (sw_len (toL_len _ _)) rfl (cells_plain _) (.inl (by assumption)) ⟨nf, (by repeat (first | exact s0 | exact sn | refine sk ?_ | refine sd ?_ | refine sA ?_ | refine sR ?_)), ?_⟩)
    refine fl J (J15 _ _ (W_ret (ret1 rfl (.inr rfl) ⟨_, _, _, _, _, _, rfl, (by repeat (first | exact .head _ | apply List.mem_append_right | apply List.Mem.tail)), ty_26, _, (takeAll (sw_len (toL_len _ _))), (sw_len (toL_len _ _)), rfl⟩ ?_)))
    exact congrArg RV (add_sub2 ha hb hg.1 hg.2 hn hle)

theorem whole_Sub_ret (a b : R) (ha : a.Ok) (hb : b.Ok) :
    Ret Tryz.prog 159 [RV a, RV b] (RV (Z.sub a.dec b.dec).enc) := by
 refine ret_of_W (N := 9) Tryz.func159 rfl rfl (by simp) (fun w0 => ?_)
 simp only [initF, Nat.reduceAdd]
 refine Sq fun K1 J1 => Rk fun K J => WL_r rfl (r_box rfl rfl (fun b2 hb2 => WL_r rfl (r_box rfl rfl (fun b3 hb3 => WL_r rfl (r_alloc z_26 (fun b4 hb4 => nl J (J1 _ _ (Sq fun K2 J2 => dr (sd (sk (sk (s0)))) [0,4,8,12,17] [4] mix (by kernel_rfl) (fun K J => pQ rfl (q_loadw ty_26 rfl (by repeat (first | exact .head _ | apply List.mem_append_right | apply List.Mem.tail)) (cells_len ha)) ?_)))))))))
 refine pQ rfl (q_loadw ty_26 rfl (by repeat (first | exact .head _ | apply List.mem_append_right | apply List.Mem.tail)) (cells_len hb)) ?_
 refine pQ rfl (q_ret en_98 (whole_Neg_ret b hb) rfl) (pQ rfl (q_ret en_97 (whole_Add_ret a (Z.neg b.dec).enc ha (Z.enc_ok _)) rfl) ?_)
 refine PL_o rfl rfl (r_storew ty_26 rfl rfl (by repeat (first | exact .head _ | apply Upd.left | apply Upd.tail)) (enc_cells_len _) rfl (cells_plain _) (.inl (by assumption)) ⟨nf, (by repeat (first | exact s0 | exact sn | refine sk ?_ | refine sd ?_ | refine sA ?_ | refine sR ?_)), ?_⟩)
 refine fl J (J2 _ _ (W_ret (ret1 rfl (.inr rfl) ⟨_, _, _, _, _, _, rfl, (by repeat (first | exact .head _ | apply List.mem_append_right | apply List.Mem.tail)), ty_26, _, (takeAll (enc_cells_len _)), (enc_cells_len _), rfl⟩ ?_)))
 (rw [dec_enc]; rfl)

theorem whole_Sign_ret (a : R) (ha : a.Ok) :
    Ret Tryz.prog 103 [RV a] (.int .i64 a.dec.sign) := by
 refine ret_of_W (N := 17) Tryz.func103 rfl rfl (by simp) (fun w0 => ?_)
 simp only [initF, Nat.reduceAdd]
 refine Sq fun K1 J1 => Rk fun K J => WL_r rfl (r_box rfl rfl (fun b1 hb1 => sE rfl (nl J (J1 _ _ (Sq fun K2 J2 => W_block (Sq fun K3 J3 => Rk fun K J => sQ (q_loadw ty_26 rfl (by repeat (first | exact .head _ | apply List.mem_append_right | apply List.Mem.tail)) (cells_len ha)) rfl ?_))))))
 refine WL_r rfl (r_bslice us_129 z_26 sz_26 rfl (by decide) rfl (fillG1 ha) (fun b5 hb5 => sQ (q_call en_118 rfl (fun w hw => whole_good_ret [a] (ok1 ha) b5 26 w (hw.mem _ m0) (by simp))) rfl ?_))
 refine sE rfl (sE rfl ?_)
 cases hg : [a].all R.good
 ·skip
  refine WL_n rfl (WL_n rfl (WL_n rfl (WL_n rfl (sE rfl (sE rfl (nl J (J3 _ _ (W_true rfl (Sq fun K4 J4 => Rk fun K J => sE rfl (nl J (J4 _ _ (W_ret (blockK_r (thenK_r (ret1 rfl (.inr rfl) rfl ?_)))))))))))))))
  exact congrArg _ (sign_zero ha (.inl (by simpa using hg)))
 ·skip
  refine sQ (q_faddr fd_26_2 (by decide) rfl) rfl (sQ (q_loada (vs := uw a.w) ty_24 rfl (by repeat (first | exact .head _ | apply List.mem_append_right | apply List.Mem.tail)) (cellsW ha.len) ((uw_len _).trans ha.len)) rfl ?_)
  refine sQ (q_builda z_24 ar_24 rfl (.nil _)) rfl ?_
  refine sQ (q_eqla (r := a.zero) rfl rfl (eqOk_of 8 (by decide) eg_24 lv_24 (uwLeaves ha.len) (uwLeaves (by simp)) ha.zero_iff)) rfl ?_
  refine sE rfl (sE rfl (nl J (J3 _ _ ?_)))
  refine W_cond _ rfl (fun hz => ?_) (fun hz => ?_)
  ·(try simp only [decide_eq_true_eq, decide_eq_false_iff_not, beq_iff_eq, bne_iff_ne, beq_eq_false_iff_ne, bne_eq_false_iff_eq, Bool.not_eq_true', Bool.not_eq_false'] at hz)
   refine Sq fun K5 J5 => Rk fun K J => sE rfl (nl J (J5 _ _ (W_ret (blockK_r (thenK_r (ret1 rfl (.inr rfl) rfl ?_))))))
   exact congrArg _ (sign_zero ha (.inr hz))
  ·(try simp only [decide_eq_true_eq, decide_eq_false_iff_not, beq_iff_eq, bne_iff_ne, beq_eq_false_iff_ne, bne_eq_false_iff_eq, Bool.not_eq_true', Bool.not_eq_false'] at hz)
   refine Sq fun K6 J6 => Rk fun K J => sQ (q_faddr fd_26_1 (by decide) rfl) rfl (sQ (q_load ty_4 rfl (by repeat (first | exact .head _ | apply List.mem_append_right | apply List.Mem.tail)) rfl) rfl ?_)
   refine sE rfl (nl J (J6 _ _ ?_))
   refine W_cond _ rfl (fun hn => ?_) (fun hn => ?_)
   ·(try simp only [decide_eq_true_eq, decide_eq_false_iff_not, beq_iff_eq, bne_iff_ne, beq_eq_false_iff_ne, bne_eq_false_iff_eq, Bool.not_eq_true', Bool.not_eq_false'] at hn)
    refine Sq fun K7 J7 => Rk fun K J => sE rfl (nl J (J7 _ _ (W_ret (blockK_r (thenK_r (ret1 rfl (.inr rfl) rfl ?_))))))
    exact congrArg _ (sign_neg ha (by simpa using hg) hz hn)
   ·(try simp only [decide_eq_true_eq, decide_eq_false_iff_not, beq_iff_eq, bne_iff_ne, beq_eq_false_iff_ne, bne_eq_false_iff_eq, Bool.not_eq_true', Bool.not_eq_false'] at hn)
    refine W_skip (J2 _ _ (Sq fun K8 J8 => Rk fun K J => sE rfl (nl J (J8 _ _ (W_ret (ret1 rfl (.inr rfl) rfl ?_))))))
    exact congrArg _ (sign_pos ha (by simpa using hg) hz hn)

theorem whole_Of_ret (n : Int) (hn : I64 n) :
    Ret Tryz.prog 80 [.int .i64 n] (RV (Z.of n).enc) := by
 refine ret_of_W (N := 19) Tryz.func80 rfl rfl (by simp) (fun w0 => ?_)
 simp only [initF, Nat.reduceAdd]
 refine Sq fun K1 J1 => Rk fun K J => WL_r rfl (r_alloc z_26 (fun b2 hb2 => nl J (J1 _ _ (Sq fun K2 J2 => Rk fun K J => sE rfl (sQ (q_conv in_3 in_104 rfl) rfl (sE rfl (nl J (J2 _ _ (Sq fun K3 J3 => Sq fun K4 J4 => Rk fun K J => sE rfl (sE rfl (nl J (J4 _ _ ?_))))))))))))
 refine W_cond _ rfl (fun h0 => ?_) (fun h0 => ?_)
 ·(try simp only [decide_eq_true_eq, decide_eq_false_iff_not, beq_iff_eq, bne_iff_ne, beq_eq_false_iff_ne, bne_eq_false_iff_eq, Bool.not_eq_true', Bool.not_eq_false'] at h0)
  refine Rk fun K J => sE rfl (sQ (q_as (q_neg rfl) (congrArg (Value.int .u64) (of_neg hn h0))) rfl (sE rfl (nl J (J3 _ _ (Sq fun K5 J5 => Rk fun K J => sE rfl (sE rfl (sQ (q_as (q_move rfl) (show _ = Value.int .u64 ((n.natAbs : Nat) : Int) from by first | rfl | exact congrArg (Value.int .u64) (of_pos hn h0))) rfl ?_)))))))
  refine sQ (q_conv in_104 in_23 rfl) rfl (sQ (q_as (q_move rfl) (show _ = Value.int .u64 ((n.natAbs : Nat) : Int) from by first | rfl | exact congrArg (Value.int .u64) (of_pos hn h0))) rfl ?_)
  refine sQ (q_as (q_shr rfl rfl (by decide)) (congrArg (Value.int .u64) (shr_nat _ 32))) rfl (sQ (q_conv in_104 in_23 rfl) rfl (sQ (q_builda z_24 ar_24 rfl (fill2 (of_lo _) (of_hi (by unfold I64 at hn; omega)))) rfl (sQ (q_ret en_120 (whole_signed_ret (decide (n < 0)) _ (by simp) (lim2 (Nat.mod_lt _ (by decide)) (by unfold I64 at hn; omega) 14)) rfl) rfl ?_)))
  refine WL_r rfl (r_storew ty_26 rfl rfl (by repeat (first | exact .head _ | apply Upd.left | apply Upd.tail)) (sw_len (by simp)) rfl (cells_plain _) (.inl (by assumption)) ?_)
  refine nl J (J5 _ _ (W_ret (ret1 rfl (.inr rfl) ⟨_, _, _, _, _, _, rfl, (by repeat (first | exact .head _ | apply List.mem_append_right | apply List.Mem.tail)), ty_26, _, (takeAll (sw_len (by simp))), (sw_len (by simp)), rfl⟩ ?_)))
  exact congrArg RV (of_enc hn rfl rfl)
 ·(try simp only [decide_eq_true_eq, decide_eq_false_iff_not, beq_iff_eq, bne_iff_ne, beq_eq_false_iff_ne, bne_eq_false_iff_eq, Bool.not_eq_true', Bool.not_eq_false'] at h0)
  refine W_skip (J3 _ _ (Sq fun K6 J6 => Rk fun K J => sE rfl (sE rfl (sQ (q_as (q_move rfl) (show _ = Value.int .u64 ((n.natAbs : Nat) : Int) from by first | rfl | exact congrArg (Value.int .u64) (of_pos hn h0))) rfl ?_))))
  refine sQ (q_conv in_104 in_23 rfl) rfl (sQ (q_as (q_move rfl) (show _ = Value.int .u64 ((n.natAbs : Nat) : Int) from by first | rfl | exact congrArg (Value.int .u64) (of_pos hn h0))) rfl ?_)
  refine sQ (q_as (q_shr rfl rfl (by decide)) (congrArg (Value.int .u64) (shr_nat _ 32))) rfl (sQ (q_conv in_104 in_23 rfl) rfl (sQ (q_builda z_24 ar_24 rfl (fill2 (of_lo _) (of_hi (by unfold I64 at hn; omega)))) rfl (sQ (q_ret en_120 (whole_signed_ret (decide (n < 0)) _ (by simp) (lim2 (Nat.mod_lt _ (by decide)) (by unfold I64 at hn; omega) 14)) rfl) rfl ?_)))
  refine WL_r rfl (r_storew ty_26 rfl rfl (by repeat (first | exact .head _ | apply Upd.left | apply Upd.tail)) (sw_len (by simp)) rfl (cells_plain _) (.inl (by assumption)) ?_)
  refine nl J (J6 _ _ (W_ret (ret1 rfl (.inr rfl) ⟨_, _, _, _, _, _, rfl, (by repeat (first | exact .head _ | apply List.mem_append_right | apply List.Mem.tail)), ty_26, _, (takeAll (sw_len (by simp))), (sw_len (by simp)), rfl⟩ ?_)))
  exact congrArg RV (of_enc hn rfl rfl)
end Go.Proofs.YtnfbkngfdemkpaaGreatDoor
