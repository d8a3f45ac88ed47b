/- Walks: what these functions return. -/
import Derived.Test.YtnfbkngfdemkpaaGreatDoorFa0
import Derived.Test.YtnfbkngfdemkpaaGreatDoorWa
import Derived.Test.YtnfbkngfdemkpaaGreatDoorWc
import Derived.Test.YtnfbkngfdemkpaaGreatDoorWd
import Derived.Test.YtnfbkngfdemkpaaGreatDoorWg
namespace Go.Proofs.YtnfbkngfdemkpaaGreatDoor
open Go.Kn Go.Num
set_option linter.unusedVariables false
set_option linter.unusedSimpArgs false
set_option maxRecDepth 20000
set_option maxHeartbeats 8000000
theorem whole_Bits_ret (a : R) (ha : a.Ok) :
    Ret Tryz.prog 146 [RV a] (.int .i64 ((a.dec.bits : Nat) : Int)) := by
 refine ret_of_W (N := 25) Tryz.func146 rfl rfl (by simp) (fun w0 => ?_)
 simp only [initF, Nat.reduceAdd]
 refine Sq fun K1 J1 => Rk fun K J => WL_r rfl (r_box rfl rfl (fun b1 hb1 => sE rfl (nl J (J1 _ _ (Sq fun K2 J2 => Rk fun K J => sQ (q_faddr fd_26_2 (by decide) rfl) rfl (sQ (q_loada (vs := uw a.w) ty_24 rfl (by repeat (first | exact .head _ | apply List.mem_append_right | apply List.Mem.tail)) (cellsW ha.len) ((uw_len _).trans ha.len)) rfl ?_))))))
 refine sQ (q_ret en_119 (whole_size_ret a.w ha.len) rfl) rfl (sE rfl (nl J (J2 _ _ (Sq fun K3 J3 => Sq fun K4 J4 => Rk fun K J => sQ (q_loadw ty_26 rfl (by repeat (first | exact .head _ | apply List.mem_append_right | apply List.Mem.tail)) (cells_len ha)) rfl ?_))))
 refine WL_r rfl (r_bslice us_129 z_26 sz_26 rfl (by decide) rfl (fillG1 ha) (fun b8 hb8 => sQ (q_call en_118 rfl (fun w hw => whole_good_ret [a] (ok1 ha) b8 26 w (hw.mem _ m0) (by simp))) rfl ?_))
 refine sE rfl (sE rfl ?_)
 cases hg : [a].all R.good
 ·skip
  refine WL_n rfl (WL_n rfl (sE rfl (nl J (J4 _ _ (W_true rfl (Sq fun K5 J5 => Rk fun K J => sE rfl (nl J (J5 _ _ (W_ret (thenK_r (ret1 rfl (.inr rfl) rfl ?_)))))))))))
  exact congrArg (fun n : Nat => Value.int .i64 (n : Int)) (bits_bad (by simpa using hg))
 ·skip
  refine sE rfl (sE rfl (sE rfl (nl J (J4 _ _ ?_))))
  refine W_cond _ rfl (fun hz => ?_) (fun hz => ?_)
  ·(try simp only [decide_eq_true_eq, decide_eq_false_iff_not, beq_iff_eq, bne_iff_ne, beq_eq_false_iff_ne, bne_eq_false_iff_eq, Bool.not_eq_true', Bool.not_eq_false'] at hz)
   refine Sq fun K6 J6 => Rk fun K J => sE rfl (nl J (J6 _ _ (W_ret (thenK_r (ret1 rfl (.inr rfl) rfl ?_)))))
   exact congrArg (fun n : Nat => Value.int .i64 (n : Int)) (bits_zero ha (by simpa using hg) (by omega))
  ·(try simp only [decide_eq_true_eq, decide_eq_false_iff_not, beq_iff_eq, bne_iff_ne, beq_eq_false_iff_ne, bne_eq_false_iff_eq, Bool.not_eq_true', Bool.not_eq_false'] at hz)
   refine W_skip (J3 _ _ (Sq fun K7 J7 => ?_))
   have hs1 : 1 ≤ szL a.w := by omega
   have hs16 : szL a.w ≤ 16 := by have := szL_le a.w; rw [ha.len] at this; exact this
   refine Rk fun K J => sE rfl (sQ (q_as (q_sub rfl rfl) (congrArg (Value.int .i64) (sub_i64' (b := 1) rfl (by omega) (by omega)))) rfl (sQ (q_as (q_mul rfl rfl) (congrArg (Value.int .i64) (mul32 rfl (by omega)))) rfl (sE rfl (sQ (q_as (q_sub rfl rfl) (congrArg (Value.int .i64) (sub_i64' (b := 1) rfl (by omega) (by omega)))) rfl (sQ (q_faddr fd_26_2 (by decide) rfl) rfl (sQ (q_idxa ar_24 rfl rfl (by omega) (by omega)) rfl (sQ (q_load ty_23 rfl (by repeat (first | exact .head _ | apply List.mem_append_right | apply List.Mem.tail)) (cellsAt (r := a) (k := szL a.w - 1) (by rw [ha.len]; omega))) rfl ?_)))))))
   refine sQ (q_ret en_162 (len32_ret _ (getD_lt ha.lim _)) rfl) rfl (sQ (q_as (q_add rfl rfl) (congrArg (Value.int .i64) (add_i64 (by have := bl_small (k := 32) (getD_lt ha.lim (szL a.w - 1)); omega)))) rfl (sE rfl (nl J (J7 _ _ (W_ret (ret1 rfl (.inr rfl) rfl ?_))))))
   exact congrArg (fun n : Nat => Value.int .i64 (n : Int)) (bits_pos ha (by simpa using hg) hs1)

theorem whole_Small_ret (a : R) (ha : a.Ok) :
    Ret Tryz.prog 158 [RV a] (.tuple #[.int .i64 a.dec.small.1, .bool a.dec.small.2]) := by
 refine ret_of_W (N := 44) Tryz.func158 rfl rfl (by simp) (fun w0 => ?_)
 simp only [initF, Nat.reduceAdd]
 refine Sq fun K1 J1 => Rk fun K J => WL_r rfl (r_box rfl rfl (fun b1 hb1 => sE rfl (sE rfl (nl J (J1 _ _ (Sq fun K2 J2 => Sq fun K3 J3 => Rk fun K J => sQ (q_loadw ty_26 rfl (by repeat (first | exact .head _ | apply List.mem_append_right | apply List.Mem.tail)) (cells_len ha)) rfl ?_))))))
 refine WL_r rfl (r_bslice us_129 z_26 sz_26 rfl (by decide) rfl (fillG1 ha) (fun b6 hb6 => sQ (q_call en_118 rfl (fun w hw => whole_good_ret [a] (ok1 ha) b6 26 w (hw.mem _ m0) (by simp))) rfl ?_))
 refine sE rfl (sE rfl ?_)
 cases hg : [a].all R.good
 ·skip
  refine WL_n rfl (WL_n rfl (WL_n rfl (sE rfl (nl J (J3 _ _ (W_true rfl (Sq fun K4 J4 => Rk fun K J => sE rfl (sE rfl (nl J (J4 _ _ (W_ret (thenK_r (ret2 rfl (.inr rfl) rfl rfl ?_)))))))))))))
  exact small_bad (by simpa using hg)
 ·skip
  refine sQ (q_loadw ty_26 rfl (by repeat (first | exact .head _ | apply List.mem_append_right | apply List.Mem.tail)) (cells_len ha)) rfl ?_
  refine sQ (q_ret en_146 (whole_Bits_ret a ha) rfl) rfl (sE rfl (sE rfl (nl J (J3 _ _ ?_))))
  refine W_cond _ rfl (fun hb => ?_) (fun hb => ?_)
  ·(try simp only [decide_eq_true_eq, decide_eq_false_iff_not, beq_iff_eq, bne_iff_ne, beq_eq_false_iff_ne, bne_eq_false_iff_eq, Bool.not_eq_true', Bool.not_eq_false'] at hb)
   refine Sq fun K5 J5 => Rk fun K J => sE rfl (sE rfl (nl J (J5 _ _ (W_ret (thenK_r (ret2 rfl (.inr rfl) rfl rfl ?_))))))
   exact small_huge ha (by simpa using hg) hb
  ·(try simp only [decide_eq_true_eq, decide_eq_false_iff_not, beq_iff_eq, bne_iff_ne, beq_eq_false_iff_ne, bne_eq_false_iff_eq, Bool.not_eq_true', Bool.not_eq_false'] at hb)
   have h64 := bits64 ha (by simpa using hg) hb
   refine W_skip (J2 _ _ (Sq fun K6 J6 => Rk fun K J => sQ (q_faddr fd_26_2 (by decide) rfl) rfl (sQ (q_idxa ar_24 rfl rfl (by decide) (by decide)) rfl (sQ (q_load ty_23 rfl (by repeat (first | exact .head _ | apply List.mem_append_right | apply List.Mem.tail)) (cellsAt (r := a) (k := 1) (by rw [ha.len]; omega))) rfl ?_))))
   refine sQ (q_as (q_conv in_23 in_104 rfl) (u32u64 (getD_lt ha.lim _))) rfl (sQ (q_as (q_shl rfl rfl (by decide)) (congrArg (Value.int .u64) (shl_r32 (getD_lt ha.lim _)))) rfl (sQ (q_faddr fd_26_2 (by decide) rfl) rfl (sQ (q_idxa ar_24 rfl rfl (by decide) (by decide)) rfl (sQ (q_load ty_23 rfl (by repeat (first | exact .head _ | apply List.mem_append_right | apply List.Mem.tail)) (cellsAt (r := a) (k := 0) (by rw [ha.len]; omega))) rfl ?_))))
   refine sQ (q_as (q_conv in_23 in_104 rfl) (u32u64 (getD_lt ha.lim _))) rfl (sQ (q_as (q_or rfl rfl) (congrArg (Value.int .u64) ((or_hi (getD_lt ha.lim _) (getD_lt ha.lim _)).trans (congrArg (fun m : Nat => (m : Int)) (two_digits ha h64))))) rfl (sE rfl (nl J (J6 _ _ (Sq fun K7 J7 => W_block (Sq fun K8 J8 => Rk fun K J => sQ (q_faddr fd_26_1 (by decide) rfl) rfl (sQ (q_load ty_4 rfl (by repeat (first | exact .head _ | apply List.mem_append_right | apply List.Mem.tail)) rfl) rfl ?_)))))))
   refine sE rfl ?_
   cases hn : a.neg
   ·skip
    refine WL_n rfl (WL_n rfl (sE rfl (sE rfl (nl J (J8 _ _ (W_false rfl (Sq fun K9 J9 => Rk fun K J => sQ (q_faddr fd_26_1 (by decide) rfl) rfl (sQ (q_load ty_4 rfl (by repeat (first | exact .head _ | apply List.mem_append_right | apply List.Mem.tail)) rfl) rfl ?_))))))))
    refine sE rfl ?_
    rw [hn]
    refine sE rfl (sE rfl (sE rfl (sE rfl (sE rfl (nl J (J9 _ _ ?_))))))
    refine W_cond _ rfl (fun hlt => ?_) (fun hlt => ?_)
    ·(try simp only [decide_eq_true_eq, decide_eq_false_iff_not, beq_iff_eq, bne_iff_ne, beq_eq_false_iff_ne, bne_eq_false_iff_eq, Bool.not_eq_true', Bool.not_eq_false'] at hlt)
     refine Sq fun K10 J10 => Rk fun K J => sE rfl (sQ (q_as (q_conv in_104 in_3 rfl) (congrArg (Value.int .i64) (small_pos (by omega)))) rfl (sE rfl (sE rfl (nl J (J10 _ _ (W_ret (blockK_r (thenK_r (ret2 rfl (.inr rfl) rfl rfl ?_)))))))))
     exact small_in ha (by simpa using hg) (by rw [hn]; rfl) (by rw [hn, sgn_f]; omega)
    ·(try simp only [decide_eq_true_eq, decide_eq_false_iff_not, beq_iff_eq, bne_iff_ne, beq_eq_false_iff_ne, bne_eq_false_iff_eq, Bool.not_eq_true', Bool.not_eq_false'] at hlt)
     refine W_skip (J7 _ _ (Sq fun K11 J11 => Rk fun K J => sE rfl (sE rfl (nl J (J11 _ _ (W_ret (ret2 rfl (.inr rfl) rfl rfl ?_)))))))
     exact small_out ha (by simpa using hg) (by rw [hn, sgn_f]; omega)
   ·skip
    refine sE rfl (sE rfl (sE rfl (sE rfl (nl J (J8 _ _ ?_)))))
    refine W_cond _ rfl (fun hle => ?_) (fun hle => ?_)
    ·(try simp only [decide_eq_true_eq, decide_eq_false_iff_not, beq_iff_eq, bne_iff_ne, beq_eq_false_iff_ne, bne_eq_false_iff_eq, Bool.not_eq_true', Bool.not_eq_false'] at hle)
     refine Sq fun K12 J12 => Rk fun K J => sE rfl (sE rfl (sQ (q_as (q_conv in_104 in_3 rfl) (congrArg (Value.int .i64) (small_neg (by omega)))) rfl (sE rfl (sE rfl (nl J (J12 _ _ (W_ret (blockK_r (thenK_r (ret2 rfl (.inr rfl) rfl rfl ?_))))))))))
     exact small_in ha (by simpa using hg) (by rw [hn]; rfl) (by rw [hn, sgn_t]; omega)
    ·(try simp only [decide_eq_true_eq, decide_eq_false_iff_not, beq_iff_eq, bne_iff_ne, beq_eq_false_iff_ne, bne_eq_false_iff_eq, Bool.not_eq_true', Bool.not_eq_false'] at hle)
     refine Sq fun K13 J13 => Rk fun K J => sQ (q_faddr fd_26_1 (by decide) rfl) rfl (sQ (q_load ty_4 rfl (by repeat (first | exact .head _ | apply List.mem_append_right | apply List.Mem.tail)) rfl) rfl ?_)
     refine sE rfl ?_
     rw [hn]
     refine sE rfl (WL_n rfl (WL_n rfl (sE rfl (sE rfl (nl J (J13 _ _ (W_false rfl (W_skip (J7 _ _ (Sq fun K14 J14 => Rk fun K J => sE rfl (sE rfl (nl J (J14 _ _ (W_ret (ret2 rfl (.inr rfl) rfl rfl ?_)))))))))))))))
     exact small_out ha (by simpa using hg) (by rw [hn, sgn_t]; omega)

theorem whole_divided_ret (a b : R) (ha : a.Ok) (hb : b.Ok) :
    Ret Tryz.prog 131 [RV a, RV b] (.tuple #[RV (Z.quo a.dec b.dec).enc, RV (Z.rem a.dec b.dec).enc]) := by
 refine ret_of_W (N := 108) Tryz.func131 rfl rfl (by simp) (fun w0 => ?_)
 simp only [initF, Nat.reduceAdd]
 refine Sq fun K1 J1 => Rk fun K J => WL_r rfl (r_box rfl rfl (fun b2 hb2 => WL_r rfl (r_box rfl rfl (fun b3 hb3 => WL_r rfl (r_alloc z_26 (fun b4 hb4 => WL_r rfl (r_alloc z_26 (fun b5 hb5 => nl J (J1 _ _ (Sq fun K2 J2 => Sq fun K3 J3 => Rk fun K J => sQ (q_loadw ty_26 rfl (by repeat (first | exact .head _ | apply List.mem_append_right | apply List.Mem.tail)) (cells_len ha)) rfl ?_))))))))))
 refine sQ (q_loadw ty_26 rfl (by repeat (first | exact .head _ | apply List.mem_append_right | apply List.Mem.tail)) (cells_len hb)) rfl ?_
 refine WL_r rfl (r_bslice us_129 z_26 sz_26 rfl (by decide) rfl (fillG2 ha hb) (fun b17 hb17 => sQ (q_call en_118 rfl (fun w hw => whole_good_ret [a, b] (ok2 ha hb) b17 26 w (hw.mem _ m0) (by simp))) rfl ?_))
 refine sE rfl (sE rfl ?_)
 cases hg : [a, b].all R.good
 ·skip
  refine WL_n rfl (WL_n rfl (WL_n rfl (sE rfl (nl J (J3 _ _ (W_true rfl (Sq fun K4 J4 => Rk fun K J => sQ (q_ret en_117 whole_Bad_ret rfl) rfl (sQ (q_ret en_117 whole_Bad_ret rfl) rfl (WL_r rfl (r_storew ty_26 rfl rfl (by repeat (first | exact .head _ | apply Upd.left | apply Upd.tail)) (enc_cells_len _) rfl (cells_plain _) (.inl (by assumption)) ?_))))))))))
  refine WL_r rfl (r_storew ty_26 rfl rfl (by repeat (first | exact .head _ | apply Upd.left | apply Upd.tail)) (enc_cells_len _) rfl (cells_plain _) (.inl (by assumption)) ?_)
  refine nl J (J4 _ _ (W_ret (thenK_r (ret2 rfl (.inr rfl) ⟨_, _, _, _, _, _, rfl, (by repeat (first | exact .head _ | apply List.mem_append_right | apply List.Mem.tail)), ty_26, _, (takeAll (enc_cells_len _)), (enc_cells_len _), rfl⟩ ⟨_, _, _, _, _, _, rfl, (by repeat (first | exact .head _ | apply List.mem_append_right | apply List.Mem.tail)), ty_26, _, (takeAll (enc_cells_len _)), (enc_cells_len _), rfl⟩ ?_))))
  exact quo_bad (not_all2 hg)
 ·skip
  have hg := all2.1 hg
  refine sQ (q_loadw ty_26 rfl (by repeat (first | exact .head _ | apply List.mem_append_right | apply List.Mem.tail)) (cells_len hb)) rfl ?_
  refine sQ (q_ret en_103 (whole_Sign_ret b hb) rfl) rfl (sE rfl (sE rfl (nl J (J3 _ _ ?_))))
  refine W_cond _ rfl (fun hs0 => ?_) (fun hs0 => ?_)
  ·(try simp only [decide_eq_true_eq, decide_eq_false_iff_not, beq_iff_eq, bne_iff_ne, beq_eq_false_iff_ne, bne_eq_false_iff_eq, Bool.not_eq_true', Bool.not_eq_false'] at hs0)
   refine Sq fun K5 J5 => Rk fun K J => sQ (q_ret en_117 whole_Bad_ret rfl) rfl (sQ (q_ret en_117 whole_Bad_ret rfl) rfl (WL_r rfl (r_storew ty_26 rfl rfl (by repeat (first | exact .head _ | apply Upd.left | apply Upd.tail)) (enc_cells_len _) rfl (cells_plain _) (.inl (by assumption)) ?_)))
   refine WL_r rfl (r_storew ty_26 rfl rfl (by repeat (first | exact .head _ | apply Upd.left | apply Upd.tail)) (enc_cells_len _) rfl (cells_plain _) (.inl (by assumption)) ?_)
   refine nl J (J5 _ _ (W_ret (thenK_r (ret2 rfl (.inr rfl) ⟨_, _, _, _, _, _, rfl, (by repeat (first | exact .head _ | apply List.mem_append_right | apply List.Mem.tail)), ty_26, _, (takeAll (enc_cells_len _)), (enc_cells_len _), rfl⟩ ⟨_, _, _, _, _, _, rfl, (by repeat (first | exact .head _ | apply List.mem_append_right | apply List.Mem.tail)), ty_26, _, (takeAll (enc_cells_len _)), (enc_cells_len _), rfl⟩ ?_))))
   exact quo_zero ha hb hg.1 hg.2 hs0
  ·(try simp only [decide_eq_true_eq, decide_eq_false_iff_not, beq_iff_eq, bne_iff_ne, beq_eq_false_iff_ne, bne_eq_false_iff_eq, Bool.not_eq_true', Bool.not_eq_false'] at hs0)
   have hs0 : b.dec.sign ≠ 0 := hs0
   have hp := val_pos_of_sign hb hg.2 hs0
   refine W_skip (J2 _ _ ?_)
   refine W_join [6, 7, 8, 9, 10, 11, 27, 28, 29, 30, 31, 32, 33, 34, 35, 36, 37, 38, 39, 40, 41, 42, 43, 44, 45, 46, 47, 48, 49, 50, 51, 52, 53, 54, 55, 56, 57, 58, 59, 60, 61, 62, 63, 64, 65, 66, 67, 68, 69, 70] (fun g M => (True) ∧ M = [⟨b5, 26, zR⟩, ⟨b4, 26, zR⟩, ⟨b3, 26, b.cells⟩, ⟨b2, 26, a.cells⟩] ∧ (True)) (fun K6 J6 => ?_) ?_
   ·skip
    refine Sq fun K7 J7 => Rk fun K J => sQ (q_loadw ty_26 rfl (by repeat (first | exact .head _ | apply List.mem_append_right | apply List.Mem.tail)) (cells_len ha)) rfl ?_
    refine sQ (q_ret en_158 (whole_Small_ret a ha) rfl) rfl (sE rfl (sE rfl (sE rfl (sE rfl (sE rfl (nl J (J7 _ _ (Sq fun K8 J8 => Rk fun K J => sE rfl (sE rfl ?_)))))))))
    cases hsa : a.dec.small.2
    ·skip
     refine WL_n rfl (WL_n rfl (sE rfl (nl J (J8 _ _ (W_false rfl (W_skip ?_))))))
     refine J6 _ _ (by repeat first | exact .refl | refine .cons rfl ?_) ⟨_, (List.Sublist.cons _ (List.Sublist.refl _)), trivial, ?mem, trivial⟩
     case mem => rfl
    ·skip
     refine sE rfl (sE rfl (sE rfl (nl J (J8 _ _ ?_))))
     refine W_cond _ rfl (fun hma => ?_) (fun hma => ?_)
     ·(try simp only [decide_eq_true_eq, decide_eq_false_iff_not, beq_iff_eq, bne_iff_ne, beq_eq_false_iff_ne, bne_eq_false_iff_eq, Bool.not_eq_true', Bool.not_eq_false'] at hma)
      have ea := small_true hsa
      refine Sq fun K9 J9 => Rk fun K J => sQ (q_loadw ty_26 rfl (by repeat (first | exact .head _ | apply List.mem_append_right | apply List.Mem.tail)) (cells_len hb)) rfl ?_
      refine sQ (q_ret en_158 (whole_Small_ret b hb) rfl) rfl (sE rfl (sE rfl (sE rfl (sE rfl (sE rfl (nl J (J9 _ _ (Sq fun K10 J10 => Rk fun K J => sE rfl (sE rfl ?_)))))))))
      cases hsb : b.dec.small.2
      ·skip
       refine WL_n rfl (WL_n rfl (sE rfl (nl J (J10 _ _ (W_false rfl (W_skip ?_))))))
       refine J6 _ _ (by repeat first | exact .refl | refine .cons rfl ?_) ⟨_, (List.Sublist.cons _ (List.Sublist.refl _)), trivial, ?mem, trivial⟩
       case mem => rfl
      ·skip
       refine sE rfl (sE rfl (sE rfl (nl J (J10 _ _ ?_))))
       refine W_cond _ rfl (fun hmb => ?_) (fun hmb => ?_)
       ·(try simp only [decide_eq_true_eq, decide_eq_false_iff_not, beq_iff_eq, bne_iff_ne, beq_eq_false_iff_ne, bne_eq_false_iff_eq, Bool.not_eq_true', Bool.not_eq_false'] at hmb)
        have eb := small_true hsb
        have hy0 := sign_ne eb.1 hs0
        have hq64 : I64 (a.dec.small.1.tdiv b.dec.small.1) := quo64a ea.2 hma
        have hr64 := rem64a (x := a.dec.small.1) hy0 eb.2
        refine Sq fun K11 J11 => dr (sk (sk (sk (sk (sk (s0)))))) [0,4,8,12,16,20,24,28] [] mix (by kernel_rfl) (fun K J => pE rfl (pE rfl (pQ rfl (q_as (q_quo rfl rfl hy0) (congrArg (Value.int .i64) (wrap_i64_id (quo64a ea.2 hma)))) (pE rfl (pE rfl (pQ rfl (q_rem rfl rfl hy0) (pE rfl (pE rfl (fl J (J11 _ _ (Sq fun K12 J12 => Sq fun K13 J13 => Rk fun K J => sE rfl (sE rfl (sE rfl ?_)))))))))))))
        cases hr0 : (a.dec.small.1.tmod b.dec.small.1 != 0)
        ·skip
         refine WL_n rfl (WL_n rfl (WL_n rfl (WL_n rfl (WL_n rfl (sE rfl (nl J (J13 _ _ (W_false rfl (W_skip (J12 _ _ (Sq fun K14 J14 => Rk fun K J => sE rfl (sQ (q_ret en_80 (whole_Of_ret _ (by first | exact hI1 | exact hq64)) rfl) rfl ?_))))))))))))
         refine sE rfl (sQ (q_ret en_80 (whole_Of_ret _ (by first | exact hI2 | exact hr64)) rfl) rfl ?_)
         refine WL_r rfl (r_storew ty_26 rfl rfl (by repeat (first | exact .head _ | apply Upd.left | apply Upd.tail)) (enc_cells_len _) rfl (cells_plain _) (.inl (by assumption)) ?_)
         refine WL_r rfl (r_storew ty_26 rfl rfl (by repeat (first | exact .head _ | apply Upd.left | apply Upd.tail)) (enc_cells_len _) rfl (cells_plain _) (.inl (by assumption)) ?_)
         refine nl J (J14 _ _ (W_ret (thenK_r (ret2 rfl (.inr rfl) ⟨_, _, _, _, _, _, rfl, (by repeat (first | exact .head _ | apply List.mem_append_right | apply List.Mem.tail)), ty_26, _, (takeAll (enc_cells_len _)), (enc_cells_len _), rfl⟩ ⟨_, _, _, _, _, _, rfl, (by repeat (first | exact .head _ | apply List.mem_append_right | apply List.Mem.tail)), ty_26, _, (takeAll (enc_cells_len _)), (enc_cells_len _), rfl⟩ ?_))))
         exact small_fin ea.1 eb.1 hs0 (fl_same hy0 (.inl (by simpa using hr0)))
        ·skip
         refine sE rfl (sE rfl (sE rfl (sE rfl (sQ (q_neqb bo_4 rfl rfl) rfl (sE rfl (nl J (J13 _ _ ?_)))))))
         refine W_cond _ rfl (fun hsg => ?_) (fun hsg => ?_)
         ·(try simp only [decide_eq_true_eq, decide_eq_false_iff_not, beq_iff_eq, bne_iff_ne, beq_eq_false_iff_ne, bne_eq_false_iff_eq, Bool.not_eq_true', Bool.not_eq_false'] at hsg)
          have hI1 : I64 (a.dec.small.1.tdiv b.dec.small.1 - 1) := quo64b ea.2 hma
          have hI2 := rem64b hy0 eb.2 (bne_iff_ne.2 hsg)
          refine Rk fun K J => sE rfl (sQ (q_as (q_sub rfl rfl) (congrArg (Value.int .i64) (wrap_i64_id hI1))) rfl (sE rfl (sE rfl (sQ (q_as (q_add rfl rfl) (congrArg (Value.int .i64) (wrap_i64_id hI2))) rfl (sE rfl (sE rfl (nl J (J12 _ _ (Sq fun K15 J15 => Rk fun K J => sE rfl (sQ (q_ret en_80 (whole_Of_ret _ (by first | exact hI1 | exact hq64)) rfl) rfl ?_))))))))))
          refine sE rfl (sQ (q_ret en_80 (whole_Of_ret _ (by first | exact hI2 | exact hr64)) rfl) rfl ?_)
          refine WL_r rfl (r_storew ty_26 rfl rfl (by repeat (first | exact .head _ | apply Upd.left | apply Upd.tail)) (enc_cells_len _) rfl (cells_plain _) (.inl (by assumption)) ?_)
          refine WL_r rfl (r_storew ty_26 rfl rfl (by repeat (first | exact .head _ | apply Upd.left | apply Upd.tail)) (enc_cells_len _) rfl (cells_plain _) (.inl (by assumption)) ?_)
          refine nl J (J15 _ _ (W_ret (thenK_r (ret2 rfl (.inr rfl) ⟨_, _, _, _, _, _, rfl, (by repeat (first | exact .head _ | apply List.mem_append_right | apply List.Mem.tail)), ty_26, _, (takeAll (enc_cells_len _)), (enc_cells_len _), rfl⟩ ⟨_, _, _, _, _, _, rfl, (by repeat (first | exact .head _ | apply List.mem_append_right | apply List.Mem.tail)), ty_26, _, (takeAll (enc_cells_len _)), (enc_cells_len _), rfl⟩ ?_))))
          exact small_fin ea.1 eb.1 hs0 (fl_adj hy0 (by simpa using hr0) (bne_iff_ne.2 hsg))
         ·(try simp only [decide_eq_true_eq, decide_eq_false_iff_not, beq_iff_eq, bne_iff_ne, beq_eq_false_iff_ne, bne_eq_false_iff_eq, Bool.not_eq_true', Bool.not_eq_false'] at hsg)
          refine W_skip (J12 _ _ (Sq fun K16 J16 => Rk fun K J => sE rfl (sQ (q_ret en_80 (whole_Of_ret _ (by first | exact hI1 | exact hq64)) rfl) rfl ?_)))
          refine sE rfl (sQ (q_ret en_80 (whole_Of_ret _ (by first | exact hI2 | exact hr64)) rfl) rfl ?_)
          refine WL_r rfl (r_storew ty_26 rfl rfl (by repeat (first | exact .head _ | apply Upd.left | apply Upd.tail)) (enc_cells_len _) rfl (cells_plain _) (.inl (by assumption)) ?_)
          refine WL_r rfl (r_storew ty_26 rfl rfl (by repeat (first | exact .head _ | apply Upd.left | apply Upd.tail)) (enc_cells_len _) rfl (cells_plain _) (.inl (by assumption)) ?_)
          refine nl J (J16 _ _ (W_ret (thenK_r (ret2 rfl (.inr rfl) ⟨_, _, _, _, _, _, rfl, (by repeat (first | exact .head _ | apply List.mem_append_right | apply List.Mem.tail)), ty_26, _, (takeAll (enc_cells_len _)), (enc_cells_len _), rfl⟩ ⟨_, _, _, _, _, _, rfl, (by repeat (first | exact .head _ | apply List.mem_append_right | apply List.Mem.tail)), ty_26, _, (takeAll (enc_cells_len _)), (enc_cells_len _), rfl⟩ ?_))))
          exact small_fin ea.1 eb.1 hs0 (fl_same hy0 (.inr (by simpa using hsg)))
       ·(try simp only [decide_eq_true_eq, decide_eq_false_iff_not, beq_iff_eq, bne_iff_ne, beq_eq_false_iff_ne, bne_eq_false_iff_eq, Bool.not_eq_true', Bool.not_eq_false'] at hmb)
        refine W_skip ?_
        refine J6 _ _ (by repeat first | exact .refl | refine .cons rfl ?_) ⟨_, (List.Sublist.cons _ (List.Sublist.refl _)), trivial, ?mem, trivial⟩
        case mem => rfl
     ·(try simp only [decide_eq_true_eq, decide_eq_false_iff_not, beq_iff_eq, bne_iff_ne, beq_eq_false_iff_ne, bne_eq_false_iff_eq, Bool.not_eq_true', Bool.not_eq_false'] at hma)
      refine W_skip ?_
      refine J6 _ _ (by repeat first | exact .refl | refine .cons rfl ?_) ⟨_, (List.Sublist.cons _ (List.Sublist.refl _)), trivial, ?mem, trivial⟩
      case mem => rfl
   ·skip
    rintro g M ⟨-, rfl, -⟩
    simp only [setG]
    refine Sq fun K17 J17 => Rk fun K J => sQ (q_faddr fd_26_2 (by decide) rfl) rfl (sQ (q_loada (vs := uw a.w) ty_24 rfl (by repeat (first | exact .head _ | apply List.mem_append_right | apply List.Mem.tail)) (cellsW ha.len) ((uw_len _).trans ha.len)) rfl ?_)
    refine sQ (q_faddr fd_26_2 (by decide) rfl) rfl (sQ (q_loada (vs := uw b.w) ty_24 rfl (by repeat (first | exact .head _ | apply List.mem_append_right | apply List.Mem.tail)) (cellsW hb.len) ((uw_len _).trans hb.len)) rfl ?_)
    refine sQ (q_ret en_129 (whole_quotient_ret a.w b.w ha.len hb.len ha.lim hb.lim hp) rfl) rfl (sE rfl (sE rfl (sE rfl (WL_r rfl (r_alloc z_24 (fun b12 hb12 => WL_r rfl (r_alloc z_24 (fun b13 hb13 => WL_r rfl (r_storew ty_24 rfl rfl (by repeat (first | exact .head _ | apply Upd.left | apply Upd.tail)) (by simp [uw, toL_len]) (by simp [uw]) (uw_plain _) (.inl (by assumption)) ?_)))))))))
    refine WL_r rfl (r_storew ty_24 rfl rfl (by repeat (first | exact .head _ | apply Upd.left | apply Upd.tail)) (by simp [uw, toL_len]) (by simp [uw]) (uw_plain _) (.inl (by assumption)) ?_)
    refine nl J (J17 _ _ (Sq fun K18 J18 => Rk fun K J => sQ (q_faddr fd_26_1 (by decide) rfl) rfl (sQ (q_load ty_4 rfl (by repeat (first | exact .head _ | apply List.mem_append_right | apply List.Mem.tail)) rfl) rfl ?_)))
    refine sQ (q_faddr fd_26_1 (by decide) rfl) rfl (sQ (q_load ty_4 rfl (by repeat (first | exact .head _ | apply List.mem_append_right | apply List.Mem.tail)) rfl) rfl ?_)
    refine sQ (q_neqb bo_4 rfl rfl) rfl (sQ (q_loadw ty_24 rfl (by repeat (first | exact .head _ | apply List.mem_append_right | apply List.Mem.tail)) (by simp [uw, toL_len])) rfl ?_)
    refine sQ (q_as (q_ret en_120 (whole_signed_ret (a.neg != b.neg) _ (toL_len _ _) (toL_lim _ _)) rfl) (congrArg RV (enc_signed _ (quo_lt ha)))) rfl (WL_r rfl (r_alloc z_26 (fun b14 hb14 => WL_r rfl (r_storew ty_26 rfl rfl (by repeat (first | exact .head _ | apply Upd.left | apply Upd.tail)) (enc_cells_len _) rfl (cells_plain _) (.inl (by assumption)) ?_))))
    refine nl J (J18 _ _ ?_)
    refine W_join [86, 87, 88, 89, 90, 91, 92, 93, 94, 95, 96, 97, 98, 99, 100, 101, 102] (fun g M => ∃ (z : Z) (l : List Nat), (True) ∧ M = [⟨b14, 26, z.enc.cells⟩, ⟨b13, 24, uw l⟩, ⟨b12, 24, uw (toL 16 (val a.w / val b.w))⟩, ⟨b5, 26, zR⟩, ⟨b4, 26, zR⟩, ⟨b3, 26, b.cells⟩, ⟨b2, 26, a.cells⟩] ∧ (l.length = 16 ∧ Lim l ∧ z = Z.quo a.dec b.dec ∧ R.mk false (b.neg && !(val l == 0)) l = (Z.rem a.dec b.dec).enc)) (fun K19 J19 => ?_) ?_
    ·skip
     refine Sq fun K20 J20 => Rk fun K J => sQ (q_loadw ty_24 rfl (by repeat (first | exact .head _ | apply List.mem_append_right | apply List.Mem.tail)) (by simp [uw, toL_len])) rfl ?_
     refine sQ (q_builda z_24 ar_24 rfl (.nil _)) rfl ?_
     refine sQ (q_neqa (r := (val a.w % val b.w == 0)) rfl rfl (eqOk_of 8 (by decide) eg_24 lv_24 (uwLeaves (toL_len _ _)) (uwLeaves (by simp)) (rem_zero ha))) rfl ?_
     refine sE rfl ?_
     cases hr1 : (val a.w % val b.w == 0)
     ·skip
      refine sQ (q_faddr fd_26_1 (by decide) rfl) rfl (sQ (q_load ty_4 rfl (by repeat (first | exact .head _ | apply List.mem_append_right | apply List.Mem.tail)) rfl) rfl ?_)
      refine sQ (q_faddr fd_26_1 (by decide) rfl) rfl (sQ (q_load ty_4 rfl (by repeat (first | exact .head _ | apply List.mem_append_right | apply List.Mem.tail)) rfl) rfl ?_)
      refine sQ (q_neqb bo_4 rfl rfl) rfl (sE rfl (nl J (J20 _ _ ?_)))
      refine W_cond _ rfl (fun hne => ?_) (fun hne => ?_)
      ·(try simp only [decide_eq_true_eq, decide_eq_false_iff_not, beq_iff_eq, bne_iff_ne, beq_eq_false_iff_ne, bne_eq_false_iff_eq, Bool.not_eq_true', Bool.not_eq_false'] at hne)
       refine dr (sd (sd (sk (sk (sk (sk (sk (s0)))))))) [0,4,8,12,16,20,24,29,33] [7,8] mix (by kernel_rfl) (fun K J => pQ rfl (q_loadw ty_26 rfl (by repeat (first | exact .head _ | apply List.mem_append_right | apply List.Mem.tail)) (enc_cells_len _)) ?_)
       refine pQ rfl (q_ret en_80 (whole_Of_ret 1 (by unfold I64; decide)) rfl) (pQ rfl (q_ret en_159 (whole_Sub_ret (Z.of (sgn (a.neg != b.neg) (val a.w / val b.w))).enc (Z.of 1).enc (Z.enc_ok _) (Z.enc_ok _)) rfl) (pQ rfl (q_faddr fd_26_2 (by decide) rfl) (pQ rfl (q_loada (vs := uw b.w) ty_24 rfl (by repeat (first | exact .head _ | apply List.mem_append_right | apply List.Mem.tail)) (cellsW hb.len) ((uw_len _).trans hb.len)) ?_)))
       refine pQ rfl (q_loadw ty_24 rfl (by repeat (first | exact .head _ | apply List.mem_append_right | apply List.Mem.tail)) (by simp [uw, toL_len])) ?_
       refine pQ rfl (q_ret en_134 (whole_minus_ret b.w _ hb.len (toL_len _ _) hb.lim (toL_lim _ _) (rem_le ha hp)) rfl) ?_
       refine PL_o rfl rfl (r_storew ty_26 rfl rfl (by repeat (first | exact .head _ | apply Upd.left | apply Upd.tail)) (enc_cells_len _) (enc_cells_len _) (cells_plain _) (.inl (by assumption)) ⟨nf, (by repeat (first | exact s0 | exact sn | refine sk ?_ | refine sd ?_ | refine sA ?_ | refine sR ?_)), ?_⟩)
       refine PL_o rfl rfl (r_storew ty_24 rfl rfl (by repeat (first | exact .head _ | apply Upd.left | apply Upd.tail)) (by simp [uw, toL_len]) (by simp [uw, toL_len]) (uw_plain _) (.inl (by assumption)) ⟨nf, (by repeat (first | exact s0 | exact sn | refine sk ?_ | refine sd ?_ | refine sA ?_ | refine sR ?_)), ?_⟩)
       refine fl J ?_
       refine J19 _ _ (by repeat first | exact .refl | refine .cons rfl ?_) ⟨_, (List.Sublist.refl _), _, _, trivial, ?mem, div_adj ha hb hg.1 hg.2 hp (by simpa using hr1) hne⟩
       case mem => rfl
      ·(try simp only [decide_eq_true_eq, decide_eq_false_iff_not, beq_iff_eq, bne_iff_ne, beq_eq_false_iff_ne, bne_eq_false_iff_eq, Bool.not_eq_true', Bool.not_eq_false'] at hne)
       refine W_skip ?_
       refine J19 _ _ (by repeat first | exact .refl | refine .cons rfl ?_) ⟨_, (List.Sublist.refl _), _, _, trivial, ?mem, div_same ha hb hg.1 hg.2 hp (.inr (by simpa using hne))⟩
       case mem => rfl
     ·skip
      refine WL_n rfl (WL_n rfl (WL_n rfl (WL_n rfl (WL_n rfl (sE rfl (nl J (J20 _ _ (W_false rfl (W_skip ?_)))))))))
      refine J19 _ _ (by repeat first | exact .refl | refine .cons rfl ?_) ⟨_, (List.Sublist.refl _), _, _, trivial, ?mem, div_same ha hb hg.1 hg.2 hp (.inl (by simpa using hr1))⟩
      case mem => rfl
    ·skip
     rintro g M ⟨z, l, -, rfl, ⟨hl16, hlim, hzq, hzr⟩⟩
     simp only [setG]
     refine Sq fun K21 J21 => dr (sk (sk (sk (sd (sd (sk (sk (s0)))))))) [0,4,8,12,16,21,25] [5,6] mix (by kernel_rfl) (fun K J => pQ rfl (q_loadw ty_26 rfl (by repeat (first | exact .head _ | apply List.mem_append_right | apply List.Mem.tail)) (enc_cells_len _)) ?_)
     refine pQ rfl (q_faddr fd_26_1 (by decide) rfl) (pQ rfl (q_load ty_4 rfl (by repeat (first | exact .head _ | apply List.mem_append_right | apply List.Mem.tail)) rfl) ?_)
     refine pQ rfl (q_loadw ty_24 rfl (by repeat (first | exact .head _ | apply List.mem_append_right | apply List.Mem.tail)) (by rw [uw_len, hl16])) ?_
     refine pQ rfl (q_ret en_120 (whole_signed_ret b.neg l hl16 hlim) rfl) ?_
     refine PL_o rfl rfl (r_storew ty_26 rfl rfl (by repeat (first | exact .head _ | apply Upd.left | apply Upd.tail)) (enc_cells_len _) rfl (cells_plain _) (.inl (by assumption)) ⟨nf, (by repeat (first | exact s0 | exact sn | refine sk ?_ | refine sd ?_ | refine sA ?_ | refine sR ?_)), ?_⟩)
     refine PL_o rfl rfl (r_storew ty_26 rfl rfl (by repeat (first | exact .head _ | apply Upd.left | apply Upd.tail)) (sw_len hl16) rfl (cells_plain _) (.inl (by assumption)) ⟨nf, (by repeat (first | exact s0 | exact sn | refine sk ?_ | refine sd ?_ | refine sA ?_ | refine sR ?_)), ?_⟩)
     refine fl J (J21 _ _ (W_ret (ret2 rfl (.inr rfl) ⟨_, _, _, _, _, _, rfl, (by repeat (first | exact .head _ | apply List.mem_append_right | apply List.Mem.tail)), ty_26, _, (takeAll (enc_cells_len _)), (enc_cells_len _), rfl⟩ ⟨_, _, _, _, _, _, rfl, (by repeat (first | exact .head _ | apply List.mem_append_right | apply List.Mem.tail)), ty_26, _, (takeAll (sw_len hl16)), (sw_len hl16), rfl⟩ ?_)))
     (subst hzq; exact congrArg (fun r : R => Value.tuple #[RV (Z.quo a.dec b.dec).enc, RV r]) hzr)

theorem whole_Quo_ret (a b : R) (ha : a.Ok) (hb : b.Ok) :
    Ret Tryz.prog 96 [RV a, RV b] (RV (Z.quo a.dec b.dec).enc) := by
 refine ret_of_W (N := 14) Tryz.func96 rfl rfl (by simp) (fun w0 => ?_)
 simp only [initF, Nat.reduceAdd]
 refine Sq fun K1 J1 => Rk fun K J => WL_r rfl (r_box rfl rfl (fun b2 hb2 => WL_r rfl (r_box rfl rfl (fun b3 hb3 => WL_r rfl (r_alloc z_26 (fun b4 hb4 => nl J (J1 _ _ (Sq fun K2 J2 => Rk fun K J => sQ (q_loadw ty_26 rfl (by repeat (first | exact .head _ | apply List.mem_append_right | apply List.Mem.tail)) (cells_len ha)) rfl ?_))))))))
 refine sQ (q_loadw ty_26 rfl (by repeat (first | exact .head _ | apply List.mem_append_right | apply List.Mem.tail)) (cells_len hb)) rfl ?_
 refine sQ (q_ret en_131 (whole_divided_ret a b ha hb) rfl) rfl (sE rfl (sE rfl (sE rfl (WL_r rfl (r_alloc z_26 (fun b5 hb5 => WL_r rfl (r_alloc z_26 (fun b6 hb6 => WL_r rfl (r_storew ty_26 rfl rfl (by repeat (first | exact .head _ | apply Upd.left | apply Upd.tail)) (enc_cells_len _) rfl (cells_plain _) (.inl (by assumption)) ?_)))))))))
 refine WL_r rfl (r_storew ty_26 rfl rfl (by repeat (first | exact .head _ | apply Upd.left | apply Upd.tail)) (enc_cells_len _) rfl (cells_plain _) (.inl (by assumption)) ?_)
 refine nl J (J2 _ _ (Sq fun K3 J3 => Rk fun K J => sQ (q_loadw ty_26 rfl (by repeat (first | exact .head _ | apply List.mem_append_right | apply List.Mem.tail)) (enc_cells_len _)) rfl ?_))
 refine WL_r rfl (r_storew ty_26 rfl rfl (by repeat (first | exact .head _ | apply Upd.left | apply Upd.tail)) (enc_cells_len _) rfl (cells_plain _) (.inl (by assumption)) ?_)
 refine nl J (J3 _ _ (W_ret (ret1 rfl (.inr rfl) ⟨_, _, _, _, _, _, rfl, (by repeat (first | exact .head _ | apply List.mem_append_right | apply List.Mem.tail)), ty_26, _, (takeAll (enc_cells_len _)), (enc_cells_len _), rfl⟩ ?_)))
 exact rfl

theorem whole_Rem_ret (a b : R) (ha : a.Ok) (hb : b.Ok) :
    Ret Tryz.prog 102 [RV a, RV b] (RV (Z.rem a.dec b.dec).enc) := by
 refine ret_of_W (N := 14) Tryz.func102 rfl rfl (by simp) (fun w0 => ?_)
 simp only [initF, Nat.reduceAdd]
 refine Sq fun K1 J1 => Rk fun K J => WL_r rfl (r_box rfl rfl (fun b2 hb2 => WL_r rfl (r_box rfl rfl (fun b3 hb3 => WL_r rfl (r_alloc z_26 (fun b4 hb4 => nl J (J1 _ _ (Sq fun K2 J2 => Rk fun K J => sQ (q_loadw ty_26 rfl (by repeat (first | exact .head _ | apply List.mem_append_right | apply List.Mem.tail)) (cells_len ha)) rfl ?_))))))))
 refine sQ (q_loadw ty_26 rfl (by repeat (first | exact .head _ | apply List.mem_append_right | apply List.Mem.tail)) (cells_len hb)) rfl ?_
 refine sQ (q_ret en_131 (whole_divided_ret a b ha hb) rfl) rfl (sE rfl (sE rfl (sE rfl (WL_r rfl (r_alloc z_26 (fun b5 hb5 => WL_r rfl (r_alloc z_26 (fun b6 hb6 => WL_r rfl (r_storew ty_26 rfl rfl (by repeat (first | exact .head _ | apply Upd.left | apply Upd.tail)) (enc_cells_len _) rfl (cells_plain _) (.inl (by assumption)) ?_)))))))))
 refine WL_r rfl (r_storew ty_26 rfl rfl (by repeat (first | exact .head _ | apply Upd.left | apply Upd.tail)) (enc_cells_len _) rfl (cells_plain _) (.inl (by assumption)) ?_)
 refine nl J (J2 _ _ (Sq fun K3 J3 => Rk fun K J => sQ (q_loadw ty_26 rfl (by repeat (first | exact .head _ | apply List.mem_append_right | apply List.Mem.tail)) (enc_cells_len _)) rfl ?_))
 refine WL_r rfl (r_storew ty_26 rfl rfl (by repeat (first | exact .head _ | apply Upd.left | apply Upd.tail)) (enc_cells_len _) rfl (cells_plain _) (.inl (by assumption)) ?_)
 refine nl J (J3 _ _ (W_ret (ret1 rfl (.inr rfl) ⟨_, _, _, _, _, _, rfl, (by repeat (first | exact .head _ | apply List.mem_append_right | apply List.Mem.tail)), ty_26, _, (takeAll (enc_cells_len _)), (enc_cells_len _), rfl⟩ ?_)))
 exact rfl

theorem whole_Cmp_ret (a b : R) (ha : a.Ok) (hb : b.Ok) :
    Ret Tryz.prog 101 [RV a, RV b] (.int .i64 (Z.cmp a.dec b.dec)) := by
 refine ret_of_W (N := 47) Tryz.func101 rfl rfl (by simp) (fun w0 => ?_)
 simp only [initF, Nat.reduceAdd]
 refine Sq fun K1 J1 => Rk fun K J => WL_r rfl (r_box rfl rfl (fun b2 hb2 => WL_r rfl (r_box rfl rfl (fun b3 hb3 => sE rfl (nl J (J1 _ _ (Sq fun K2 J2 => W_draw (sk (sk (s0))) (.quiet 0 [1, 2, 5, 6, 7] (.quiet 3 [4, 5, 6, 7] (.both 1 (.quiet 2 [5, 6, 7] (.only 4 (.quiet 5 [6, 7] (.quiet 6 [7] (.quiet 7 [] (.fin)))))) 4 (.only 1 (.quiet 2 [5, 6, 7] (.quiet 5 [6, 7] (.quiet 6 [7] (.quiet 7 [] (.fin))))))))) [0, 1, 2, 3, 4, 5, 6, 7] mix (by kernel_rfl) (by kernel_rfl) (fun K J => pQ rfl (q_loadw ty_26 rfl (by repeat (first | exact .head _ | apply List.mem_append_right | apply List.Mem.tail)) (cells_len ha)) ?_))))))))
 refine pQ rfl (q_loadw ty_26 rfl (by repeat (first | exact .head _ | apply List.mem_append_right | apply List.Mem.tail)) (cells_len hb)) ?_
 refine PL_b ?_ ?_
 ·skip
  refine PL_o rfl rfl (r_bslice us_129 z_26 sz_26 rfl (by decide) rfl (fillG1 ha) (fun b8 hb8 => ⟨(fun _ => by first | exact sd s0 | exact s0), (by repeat (first | exact s0 | exact sn | refine sk ?_ | refine sd ?_ | refine sA ?_ | refine sR ?_)), ?_⟩))
  refine pQ rfl (q_call en_118 rfl (fun w hw => whole_good_ret [a] (ok1 ha) b8 26 w (hw.mem ⟨b8, 26, _⟩ (by first | exact m0 | exact m1)) (by simp))) ?_
  refine PL_o rfl rfl (r_bslice us_129 z_26 sz_26 rfl (by decide) rfl (fillG1 hb) (fun b11 hb11 => ⟨(fun _ => by first | exact sd s0 | exact s0), (by repeat (first | exact s0 | exact sn | refine sk ?_ | refine sd ?_ | refine sA ?_ | refine sR ?_)), ?_⟩))
  refine pQ rfl (q_call en_118 rfl (fun w hw => whole_good_ret [b] (ok1 hb) b11 26 w (hw.mem ⟨b11, 26, _⟩ (by first | exact m0 | exact m1)) (by simp))) ?_
  refine pE rfl (pE rfl (fl J (J2 _ _ (Sq fun K3 J3 => W_block (Sq fun K4 J4 => Rk fun K J => sE rfl (sE rfl (sE rfl ?_)))))))
  cases hga : [a].all R.good
  ·skip
   refine sE rfl (sE rfl (sE rfl (sE rfl (nl J (J4 _ _ ?_)))))
   refine W_cond _ rfl (fun hgb => ?_) (fun hgb => ?_)
   ·(try simp only [decide_eq_true_eq, decide_eq_false_iff_not, beq_iff_eq, bne_iff_ne, beq_eq_false_iff_ne, bne_eq_false_iff_eq, Bool.not_eq_true', Bool.not_eq_false'] at hgb)
    refine Sq fun K5 J5 => Rk fun K J => sE rfl (nl J (J5 _ _ (W_ret (blockK_r (thenK_r (ret1 rfl (.inr rfl) rfl ?_))))))
    exact congrArg _ (cmp_b1 (by simpa using hga) (by simpa using hgb))
   ·(try simp only [decide_eq_true_eq, decide_eq_false_iff_not, beq_iff_eq, bne_iff_ne, beq_eq_false_iff_ne, bne_eq_false_iff_eq, Bool.not_eq_true', Bool.not_eq_false'] at hgb)
    refine Sq fun K6 J6 => Rk fun K J => sE rfl (sE rfl (sE rfl (nl J (J6 _ _ (W_true rfl (Sq fun K7 J7 => Rk fun K J => sE rfl (nl J (J7 _ _ (W_ret (blockK_r (thenK_r (ret1 rfl (.inr rfl) rfl ?_))))))))))))
    exact congrArg _ (cmp_b2 (by simpa using hga) hb (by simpa using hgb))
  ·skip
   refine WL_n rfl (WL_n rfl (sE rfl (sE rfl (nl J (J4 _ _ (W_false rfl (Sq fun K8 J8 => Rk fun K J => sE rfl (sE rfl (sE rfl (nl J (J8 _ _ (W_false rfl (Sq fun K9 J9 => Rk fun K J => sE rfl (sE rfl (sE rfl ?_)))))))))))))))
   refine nl J (J9 _ _ ?_)
   refine W_cond _ rfl (fun hgb => ?_) (fun hgb => ?_)
   ·(try simp only [decide_eq_true_eq, decide_eq_false_iff_not, beq_iff_eq, bne_iff_ne, beq_eq_false_iff_ne, bne_eq_false_iff_eq, Bool.not_eq_true', Bool.not_eq_false'] at hgb)
    refine Sq fun K10 J10 => Rk fun K J => sE rfl (nl J (J10 _ _ (W_ret (blockK_r (thenK_r (ret1 rfl (.inr rfl) rfl ?_))))))
    exact congrArg _ (cmp_b3 ha (by simpa using hga) (by simpa using hgb))
   ·(try simp only [decide_eq_true_eq, decide_eq_false_iff_not, beq_iff_eq, bne_iff_ne, beq_eq_false_iff_ne, bne_eq_false_iff_eq, Bool.not_eq_true', Bool.not_eq_false'] at hgb)
    refine Sq fun K11 J11 => Rk fun K J => sQ (q_faddr fd_26_1 (by decide) rfl) rfl (sQ (q_load ty_4 rfl (by repeat (first | exact .head _ | apply List.mem_append_right | apply List.Mem.tail)) rfl) rfl ?_)
    refine sQ (q_faddr fd_26_1 (by decide) rfl) rfl (sQ (q_load ty_4 rfl (by repeat (first | exact .head _ | apply List.mem_append_right | apply List.Mem.tail)) rfl) rfl ?_)
    refine sQ (q_neqb bo_4 rfl rfl) rfl (sE rfl (nl J (J11 _ _ ?_)))
    refine W_cond _ rfl (fun hn => ?_) (fun hn => ?_)
    ·(try simp only [decide_eq_true_eq, decide_eq_false_iff_not, beq_iff_eq, bne_iff_ne, beq_eq_false_iff_ne, bne_eq_false_iff_eq, Bool.not_eq_true', Bool.not_eq_false'] at hn)
     refine Sq fun K12 J12 => Sq fun K13 J13 => Rk fun K J => sQ (q_faddr fd_26_1 (by decide) rfl) rfl (sQ (q_load ty_4 rfl (by repeat (first | exact .head _ | apply List.mem_append_right | apply List.Mem.tail)) rfl) rfl ?_)
     refine nl J (J13 _ _ ?_)
     refine W_cond _ rfl (fun hs => ?_) (fun hs => ?_)
     ·(try simp only [decide_eq_true_eq, decide_eq_false_iff_not, beq_iff_eq, bne_iff_ne, beq_eq_false_iff_ne, bne_eq_false_iff_eq, Bool.not_eq_true', Bool.not_eq_false'] at hs)
      refine Sq fun K14 J14 => Rk fun K J => sE rfl (nl J (J14 _ _ (W_ret (thenK_r (blockK_r (thenK_r (ret1 rfl (.inr rfl) rfl ?_)))))))
      exact congrArg _ (cmp_lt ha hb (by simpa using hga) (by simpa using hgb) hn hs)
     ·(try simp only [decide_eq_true_eq, decide_eq_false_iff_not, beq_iff_eq, bne_iff_ne, beq_eq_false_iff_ne, bne_eq_false_iff_eq, Bool.not_eq_true', Bool.not_eq_false'] at hs)
      refine W_skip (J12 _ _ (Sq fun K15 J15 => Rk fun K J => sE rfl (nl J (J15 _ _ (W_ret (blockK_r (thenK_r (ret1 rfl (.inr rfl) rfl ?_))))))))
      exact congrArg _ (cmp_gt ha hb (by simpa using hga) (by simpa using hgb) hn (by simpa using hs))
    ·(try simp only [decide_eq_true_eq, decide_eq_false_iff_not, beq_iff_eq, bne_iff_ne, beq_eq_false_iff_ne, bne_eq_false_iff_eq, Bool.not_eq_true', Bool.not_eq_false'] at hn)
     refine Sq fun K16 J16 => Rk fun K J => sQ (q_faddr fd_26_1 (by decide) rfl) rfl (sQ (q_load ty_4 rfl (by repeat (first | exact .head _ | apply List.mem_append_right | apply List.Mem.tail)) rfl) rfl ?_)
     refine sE rfl (nl J (J16 _ _ ?_))
     refine W_cond _ rfl (fun hs => ?_) (fun hs => ?_)
     ·(try simp only [decide_eq_true_eq, decide_eq_false_iff_not, beq_iff_eq, bne_iff_ne, beq_eq_false_iff_ne, bne_eq_false_iff_eq, Bool.not_eq_true', Bool.not_eq_false'] at hs)
      refine Sq fun K17 J17 => Rk fun K J => sQ (q_faddr fd_26_2 (by decide) rfl) rfl (sQ (q_loada (vs := uw b.w) ty_24 rfl (by repeat (first | exact .head _ | apply List.mem_append_right | apply List.Mem.tail)) (cellsW hb.len) ((uw_len _).trans hb.len)) rfl ?_)
      refine sQ (q_faddr fd_26_2 (by decide) rfl) rfl (sQ (q_loada (vs := uw a.w) ty_24 rfl (by repeat (first | exact .head _ | apply List.mem_append_right | apply List.Mem.tail)) (cellsW ha.len) ((uw_len _).trans ha.len)) rfl ?_)
      refine sQ (q_ret en_133 (whole_order_ret b.w a.w hb.len ha.len hb.lim ha.lim) rfl) rfl (sE rfl (nl J (J17 _ _ (W_ret (blockK_r (thenK_r (ret1 rfl (.inr rfl) rfl ?_)))))))
      exact congrArg _ (cmp_nn ha hb (by simpa using hga) (by simpa using hgb) hn hs)
     ·(try simp only [decide_eq_true_eq, decide_eq_false_iff_not, beq_iff_eq, bne_iff_ne, beq_eq_false_iff_ne, bne_eq_false_iff_eq, Bool.not_eq_true', Bool.not_eq_false'] at hs)
      refine W_skip (J3 _ _ (Sq fun K18 J18 => Rk fun K J => sQ (q_faddr fd_26_2 (by decide) rfl) rfl (sQ (q_loada (vs := uw a.w) ty_24 rfl (by repeat (first | exact .head _ | apply List.mem_append_right | apply List.Mem.tail)) (cellsW ha.len) ((uw_len _).trans ha.len)) rfl ?_)))
      refine sQ (q_faddr fd_26_2 (by decide) rfl) rfl (sQ (q_loada (vs := uw b.w) ty_24 rfl (by repeat (first | exact .head _ | apply List.mem_append_right | apply List.Mem.tail)) (cellsW hb.len) ((uw_len _).trans hb.len)) rfl ?_)
      refine sQ (q_ret en_133 (whole_order_ret a.w b.w ha.len hb.len ha.lim hb.lim) rfl) rfl (sE rfl (nl J (J18 _ _ (W_ret (ret1 rfl (.inr rfl) rfl ?_)))))
      exact congrArg _ (cmp_pp ha hb (by simpa using hga) (by simpa using hgb) hn (by simpa using hs))
 ·skip
  refine PL_o rfl rfl (r_bslice us_129 z_26 sz_26 rfl (by decide) rfl (fillG1 hb) (fun b11 hb11 => ⟨(fun _ => by first | exact sd s0 | exact s0), (by repeat (first | exact s0 | exact sn | refine sk ?_ | refine sd ?_ | refine sA ?_ | refine sR ?_)), ?_⟩))
  refine PL_o rfl rfl (r_bslice us_129 z_26 sz_26 rfl (by decide) rfl (fillG1 ha) (fun b8 hb8 => ⟨(fun _ => by first | exact sd s0 | exact s0), (by repeat (first | exact s0 | exact sn | refine sk ?_ | refine sd ?_ | refine sA ?_ | refine sR ?_)), ?_⟩))
  refine pQ rfl (q_call en_118 rfl (fun w hw => whole_good_ret [a] (ok1 ha) b8 26 w (hw.mem ⟨b8, 26, _⟩ (by first | exact m0 | exact m1)) (by simp))) ?_
  refine pQ rfl (q_call en_118 rfl (fun w hw => whole_good_ret [b] (ok1 hb) b11 26 w (hw.mem ⟨b11, 26, _⟩ (by first | exact m0 | exact m1)) (by simp))) ?_
  refine pE rfl (pE rfl (fl J (J2 _ _ (Sq fun K19 J19 => W_block (Sq fun K20 J20 => Rk fun K J => sE rfl (sE rfl (sE rfl ?_)))))))
  cases hga : [a].all R.good
  ·skip
   refine sE rfl (sE rfl (sE rfl (sE rfl (nl J (J20 _ _ ?_)))))
   refine W_cond _ rfl (fun hgb => ?_) (fun hgb => ?_)
   ·(try simp only [decide_eq_true_eq, decide_eq_false_iff_not, beq_iff_eq, bne_iff_ne, beq_eq_false_iff_ne, bne_eq_false_iff_eq, Bool.not_eq_true', Bool.not_eq_false'] at hgb)
    refine Sq fun K21 J21 => Rk fun K J => sE rfl (nl J (J21 _ _ (W_ret (blockK_r (thenK_r (ret1 rfl (.inr rfl) rfl ?_))))))
    exact congrArg _ (cmp_b1 (by simpa using hga) (by simpa using hgb))
   ·(try simp only [decide_eq_true_eq, decide_eq_false_iff_not, beq_iff_eq, bne_iff_ne, beq_eq_false_iff_ne, bne_eq_false_iff_eq, Bool.not_eq_true', Bool.not_eq_false'] at hgb)
    refine Sq fun K22 J22 => Rk fun K J => sE rfl (sE rfl (sE rfl (nl J (J22 _ _ (W_true rfl (Sq fun K23 J23 => Rk fun K J => sE rfl (nl J (J23 _ _ (W_ret (blockK_r (thenK_r (ret1 rfl (.inr rfl) rfl ?_))))))))))))
    exact congrArg _ (cmp_b2 (by simpa using hga) hb (by simpa using hgb))
  ·skip
   refine WL_n rfl (WL_n rfl (sE rfl (sE rfl (nl J (J20 _ _ (W_false rfl (Sq fun K24 J24 => Rk fun K J => sE rfl (sE rfl (sE rfl (nl J (J24 _ _ (W_false rfl (Sq fun K25 J25 => Rk fun K J => sE rfl (sE rfl (sE rfl ?_)))))))))))))))
   refine nl J (J25 _ _ ?_)
   refine W_cond _ rfl (fun hgb => ?_) (fun hgb => ?_)
   ·(try simp only [decide_eq_true_eq, decide_eq_false_iff_not, beq_iff_eq, bne_iff_ne, beq_eq_false_iff_ne, bne_eq_false_iff_eq, Bool.not_eq_true', Bool.not_eq_false'] at hgb)
    refine Sq fun K26 J26 => Rk fun K J => sE rfl (nl J (J26 _ _ (W_ret (blockK_r (thenK_r (ret1 rfl (.inr rfl) rfl ?_))))))
    exact congrArg _ (cmp_b3 ha (by simpa using hga) (by simpa using hgb))
   ·(try simp only [decide_eq_true_eq, decide_eq_false_iff_not, beq_iff_eq, bne_iff_ne, beq_eq_false_iff_ne, bne_eq_false_iff_eq, Bool.not_eq_true', Bool.not_eq_false'] at hgb)
    refine Sq fun K27 J27 => Rk fun K J => sQ (q_faddr fd_26_1 (by decide) rfl) rfl (sQ (q_load ty_4 rfl (by repeat (first | exact .head _ | apply List.mem_append_right | apply List.Mem.tail)) rfl) rfl ?_)
    refine sQ (q_faddr fd_26_1 (by decide) rfl) rfl (sQ (q_load ty_4 rfl (by repeat (first | exact .head _ | apply List.mem_append_right | apply List.Mem.tail)) rfl) rfl ?_)
    refine sQ (q_neqb bo_4 rfl rfl) rfl (sE rfl (nl J (J27 _ _ ?_)))
    refine W_cond _ rfl (fun hn => ?_) (fun hn => ?_)
    ·(try simp only [decide_eq_true_eq, decide_eq_false_iff_not, beq_iff_eq, bne_iff_ne, beq_eq_false_iff_ne, bne_eq_false_iff_eq, Bool.not_eq_true', Bool.not_eq_false'] at hn)
     refine Sq fun K28 J28 => Sq fun K29 J29 => Rk fun K J => sQ (q_faddr fd_26_1 (by decide) rfl) rfl (sQ (q_load ty_4 rfl (by repeat (first | exact .head _ | apply List.mem_append_right | apply List.Mem.tail)) rfl) rfl ?_)
     refine nl J (J29 _ _ ?_)
     refine W_cond _ rfl (fun hs => ?_) (fun hs => ?_)
     ·(try simp only [decide_eq_true_eq, decide_eq_false_iff_not, beq_iff_eq, bne_iff_ne, beq_eq_false_iff_ne, bne_eq_false_iff_eq, Bool.not_eq_true', Bool.not_eq_false'] at hs)
      refine Sq fun K30 J30 => Rk fun K J => sE rfl (nl J (J30 _ _ (W_ret (thenK_r (blockK_r (thenK_r (ret1 rfl (.inr rfl) rfl ?_)))))))
      exact congrArg _ (cmp_lt ha hb (by simpa using hga) (by simpa using hgb) hn hs)
     ·(try simp only [decide_eq_true_eq, decide_eq_false_iff_not, beq_iff_eq, bne_iff_ne, beq_eq_false_iff_ne, bne_eq_false_iff_eq, Bool.not_eq_true', Bool.not_eq_false'] at hs)
      refine W_skip (J28 _ _ (Sq fun K31 J31 => Rk fun K J => sE rfl (nl J (J31 _ _ (W_ret (blockK_r (thenK_r (ret1 rfl (.inr rfl) rfl ?_))))))))
      exact congrArg _ (cmp_gt ha hb (by simpa using hga) (by simpa using hgb) hn (by simpa using hs))
    ·(try simp only [decide_eq_true_eq, decide_eq_false_iff_not, beq_iff_eq, bne_iff_ne, beq_eq_false_iff_ne, bne_eq_false_iff_eq, Bool.not_eq_true', Bool.not_eq_false'] at hn)
     refine Sq fun K32 J32 => Rk fun K J => sQ (q_faddr fd_26_1 (by decide) rfl) rfl (sQ (q_load ty_4 rfl (by repeat (first | exact .head _ | apply List.mem_append_right | apply List.Mem.tail)) rfl) rfl ?_)
     refine sE rfl (nl J (J32 _ _ ?_))
     refine W_cond _ rfl (fun hs => ?_) (fun hs => ?_)
     ·(try simp only [decide_eq_true_eq, decide_eq_false_iff_not, beq_iff_eq, bne_iff_ne, beq_eq_false_iff_ne, bne_eq_false_iff_eq, Bool.not_eq_true', Bool.not_eq_false'] at hs)
      refine Sq fun K33 J33 => Rk fun K J => sQ (q_faddr fd_26_2 (by decide) rfl) rfl (sQ (q_loada (vs := uw b.w) ty_24 rfl (by repeat (first | exact .head _ | apply List.mem_append_right | apply List.Mem.tail)) (cellsW hb.len) ((uw_len _).trans hb.len)) rfl ?_)
      refine sQ (q_faddr fd_26_2 (by decide) rfl) rfl (sQ (q_loada (vs := uw a.w) ty_24 rfl (by repeat (first | exact .head _ | apply List.mem_append_right | apply List.Mem.tail)) (cellsW ha.len) ((uw_len _).trans ha.len)) rfl ?_)
      refine sQ (q_ret en_133 (whole_order_ret b.w a.w hb.len ha.len hb.lim ha.lim) rfl) rfl (sE rfl (nl J (J33 _ _ (W_ret (blockK_r (thenK_r (ret1 rfl (.inr rfl) rfl ?_)))))))
      exact congrArg _ (cmp_nn ha hb (by simpa using hga) (by simpa using hgb) hn hs)
     ·(try simp only [decide_eq_true_eq, decide_eq_false_iff_not, beq_iff_eq, bne_iff_ne, beq_eq_false_iff_ne, bne_eq_false_iff_eq, Bool.not_eq_true', Bool.not_eq_false'] at hs)
      refine W_skip (J19 _ _ (Sq fun K34 J34 => Rk fun K J => sQ (q_faddr fd_26_2 (by decide) rfl) rfl (sQ (q_loada (vs := uw a.w) ty_24 rfl (by repeat (first | exact .head _ | apply List.mem_append_right | apply List.Mem.tail)) (cellsW ha.len) ((uw_len _).trans ha.len)) rfl ?_)))
      refine sQ (q_faddr fd_26_2 (by decide) rfl) rfl (sQ (q_loada (vs := uw b.w) ty_24 rfl (by repeat (first | exact .head _ | apply List.mem_append_right | apply List.Mem.tail)) (cellsW hb.len) ((uw_len _).trans hb.len)) rfl ?_)
      refine sQ (q_ret en_133 (whole_order_ret a.w b.w ha.len hb.len ha.lim hb.lim) rfl) rfl (sE rfl (nl J (J34 _ _ (W_ret (ret1 rfl (.inr rfl) rfl ?_)))))
      exact congrArg _ (cmp_pp ha hb (by simpa using hga) (by simpa using hgb) hn (by simpa using hs))
end Go.Proofs.YtnfbkngfdemkpaaGreatDoor
