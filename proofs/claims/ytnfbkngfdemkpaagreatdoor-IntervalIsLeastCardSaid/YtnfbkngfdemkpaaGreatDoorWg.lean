/- Walks: what these functions return. -/
import Derived.Test.YtnfbkngfdemkpaaGreatDoorFa0
import Derived.Test.YtnfbkngfdemkpaaGreatDoorWa
import Derived.Test.YtnfbkngfdemkpaaGreatDoorWd
import Derived.Test.YtnfbkngfdemkpaaGreatDoorWe
namespace Go.Proofs.YtnfbkngfdemkpaaGreatDoor
open Go.Kn Go.Num
set_option linter.unusedVariables false
set_option linter.unusedSimpArgs false
set_option maxRecDepth 20000
set_option maxHeartbeats 8000000
theorem whole_quotient_ret (xs ys : List Nat) (hx : xs.length = 16) (hy : ys.length = 16) (lx : Lim xs) (ly : Lim ys) (h0 : 0 < val ys) :
    Ret Tryz.prog 129 [UV xs, UV ys] (.tuple #[UV (toL 16 (val xs / val ys)), UV (toL 16 (val xs % val ys))]) := by
 refine ret_of_W (N := 94) Tryz.func129 rfl rfl (by simp) (fun w0 => ?_)
 simp only [initF, Nat.reduceAdd]
 refine Sq fun K1 J1 => Rk fun K J => WL_r rfl (r_box rfl rfl (fun b2 hb2 => WL_r rfl (r_box rfl rfl (fun b3 hb3 => WL_r rfl (r_alloc z_24 (fun b4 hb4 => WL_r rfl (r_alloc z_24 (fun b5 hb5 => nl J (J1 _ _ (Sq fun K2 J2 => dr (sk (sk (sk (sk (s0))))) [0,4,8,12,16,20] [] mix (by kernel_rfl) (fun K J => pQ rfl (q_loadw ty_24 rfl (by repeat (first | exact .head _ | apply List.mem_append_right | apply List.Mem.tail)) (by simp [uw, hy])) ?_)))))))))))
 refine pQ rfl (q_ret en_119 (whole_size_ret ys hy) rfl) (pQ rfl (q_loadw ty_24 rfl (by repeat (first | exact .head _ | apply List.mem_append_right | apply List.Mem.tail)) (by simp [uw, hx])) ?_)
 refine pQ rfl (q_ret en_119 (whole_size_ret xs hx) rfl) (pE rfl (pE rfl (fl J (J2 _ _ (Sq fun K3 J3 => Sq fun K4 J4 => Rk fun K J => sQ (q_loadw ty_24 rfl (by repeat (first | exact .head _ | apply List.mem_append_right | apply List.Mem.tail)) (by simp [uw, hx])) rfl ?_)))))
 refine sQ (q_loadw ty_24 rfl (by repeat (first | exact .head _ | apply List.mem_append_right | apply List.Mem.tail)) (by simp [uw, hy])) rfl ?_
 refine sQ (q_ret en_133 (whole_order_ret xs ys hx hy lx ly) rfl) rfl (sE rfl (nl J (J4 _ _ ?_)))
 refine W_cond _ rfl (fun ho => ?_) (fun ho => ?_)
 ·(try simp only [decide_eq_true_eq, decide_eq_false_iff_not, beq_iff_eq, bne_iff_ne, beq_eq_false_iff_ne, bne_eq_false_iff_eq, Bool.not_eq_true', Bool.not_eq_false'] at ho)
  have hlt := cmpI_neg ho
  refine Sq fun K5 J5 => dr (sd (sd (sk (sk (s0))))) [0,6,9,13] [2,3] mix (by kernel_rfl) (fun K J => pQ rfl (q_builda z_24 ar_24 rfl (.nil _)) (PL_s rfl rfl (q_loadw ty_24 rfl (by repeat (first | exact .head _ | apply List.mem_append_right | apply List.Mem.tail)) (by simp [uw, hx])) ?_))
  refine PL_o rfl rfl (r_storew ty_24 rfl rfl (by repeat (first | exact .head _ | apply Upd.left | apply Upd.tail)) (by simp [uw, List.length_replicate]) (by simp [uw]) (uw_plain _) (.inl (by assumption)) ⟨nf, (by repeat (first | exact s0 | exact sn | refine sk ?_ | refine sd ?_ | refine sA ?_ | refine sR ?_)), ?_⟩)
  refine PL_o rfl rfl (r_storew ty_24 rfl rfl (by repeat (first | exact .head _ | apply Upd.left | apply Upd.tail)) (by simp [uw, hx]) (by simp [uw]) (uw_plain _) (.inl (by assumption)) ⟨nf, (by repeat (first | exact s0 | exact sn | refine sk ?_ | refine sd ?_ | refine sA ?_ | refine sR ?_)), ?_⟩)
  refine fl J (J5 _ _ (W_ret (thenK_r (ret2 rfl (.inr rfl) ⟨_, _, _, _, _, _, rfl, (by repeat (first | exact .head _ | apply List.mem_append_right | apply List.Mem.tail)), ty_24, _, (takeAll (by simp [uw])), (by simp [uw]), rfl⟩ ⟨_, _, _, _, _, _, rfl, (by repeat (first | exact .head _ | apply List.mem_append_right | apply List.Mem.tail)), ty_24, _, (takeAll (by simp [uw, hx])), (by simp [uw, hx]), rfl⟩ ?_))))
  exact quo_less hx lx hlt
 ·(try simp only [decide_eq_true_eq, decide_eq_false_iff_not, beq_iff_eq, bne_iff_ne, beq_eq_false_iff_ne, bne_eq_false_iff_eq, Bool.not_eq_true', Bool.not_eq_false'] at ho)
  have hle := cmpI_ge (Int.not_lt.1 ho)
  have hsp := sz_pos h0
  have hsz := szL_le ys
  rw [hy] at hsz
  refine W_skip (J3 _ _ (Sq fun K6 J6 => Sq fun K7 J7 => Rk fun K J => sE rfl (sE rfl (nl J (J7 _ _ ?_)))))
  refine W_cond _ rfl (fun h29 => ?_) (fun h29 => ?_)
  ·(try simp only [decide_eq_true_eq, decide_eq_false_iff_not, beq_iff_eq, bne_iff_ne, beq_eq_false_iff_ne, bne_eq_false_iff_eq, Bool.not_eq_true', Bool.not_eq_false'] at h29)
   have hsz1 : szL ys = 1 := by omega
   refine Sq fun K8 J8 => Rk fun K J => sQ (q_loadw ty_24 rfl (by repeat (first | exact .head _ | apply List.mem_append_right | apply List.Mem.tail)) (by simp [uw, hx])) rfl ?_
   refine sQ (q_idxa ar_24 rfl rfl (by decide) (by decide)) rfl (sQ (q_load ty_23 rfl (by repeat (first | exact .head _ | apply List.mem_append_right | apply List.Mem.tail)) (uwAt (k := 0) (by omega))) rfl ?_)
   refine sQ (q_ret en_153 (whole_short_ret xs hx lx _ (getD_lt ly 0) (one_pos hsz1)) rfl) rfl (sE rfl (sE rfl (sE rfl (WL_r rfl (r_alloc z_24 (fun b8 hb8 => WL_r rfl (r_storew ty_24 rfl rfl (by repeat (first | exact .head _ | apply Upd.left | apply Upd.tail)) (by simp [uw, toL_len]) (by simp [uw]) (uw_plain _) (.inl (by assumption)) ?_)))))))
   refine sE rfl (nl J (J8 _ _ (Sq fun K9 J9 => Rk fun K J => sQ (q_loadw ty_24 rfl (by repeat (first | exact .head _ | apply List.mem_append_right | apply List.Mem.tail)) (by simp [uw, toL_len])) rfl ?_)))
   refine sE rfl (sQ (q_builda z_24 ar_24 rfl (fill1 _)) rfl (WL_r rfl (r_storew ty_24 rfl rfl (by repeat (first | exact .head _ | apply Upd.left | apply Upd.tail)) (by simp [uw, toL_len]) (by simp [uw]) (uw_plain _) (.inl (by assumption)) ?_)))
   refine WL_r rfl (r_storew ty_24 rfl rfl (by repeat (first | exact .head _ | apply Upd.left | apply Upd.tail)) (by simp [uw, List.length_replicate]) (by simp [uw]) (uw_plain _) (.inl (by assumption)) ?_)
   refine nl J (J9 _ _ (W_ret (thenK_r (ret2 rfl (.inr rfl) ⟨_, _, _, _, _, _, rfl, (by repeat (first | exact .head _ | apply List.mem_append_right | apply List.Mem.tail)), ty_24, _, (takeAll (by simp [uw, toL_len])), (by simp [uw, toL_len]), rfl⟩ ⟨_, _, _, _, _, _, rfl, (by repeat (first | exact .head _ | apply List.mem_append_right | apply List.Mem.tail)), ty_24, _, (takeAll (by simp [uw])), (by simp [uw]), rfl⟩ ?_))))
   exact quo_one ly hsz1
  ·(try simp only [decide_eq_true_eq, decide_eq_false_iff_not, beq_iff_eq, bne_iff_ne, beq_eq_false_iff_ne, bne_eq_false_iff_eq, Bool.not_eq_true', Bool.not_eq_false'] at h29)
   have h2 : 2 ≤ szL ys := by omega
   have D : DV xs ys (szL ys) (32 - bl (ys.getD (szL ys - 1) 0)) := ⟨hx, hy, lx, ly, rfl, h2, rfl, hle⟩
   refine W_skip (J6 _ _ (Sq fun K10 J10 => Rk fun K J => sE rfl (sQ (q_as (q_sub rfl rfl) (congrArg (Value.int .i64) (sub_i64' (b := 1) rfl (by omega) (by omega)))) rfl (sQ (q_idxa ar_24 rfl rfl (by omega) (by omega)) rfl (sQ (q_load ty_23 rfl (by repeat (first | exact .head _ | apply List.mem_append_right | apply List.Mem.tail)) (uwAt (by omega))) rfl ?_)))))
   refine sQ (q_ret en_154 (lz32_ret _ (getD_lt ly _)) rfl) rfl (sE rfl (nl J (J10 _ _ (Sq fun K11 J11 => Rk fun K J => sQ (q_loadw ty_24 rfl (by repeat (first | exact .head _ | apply List.mem_append_right | apply List.Mem.tail)) (by simp [uw, hy])) rfl ?_))))
   refine sE rfl (sQ (q_ret en_148 (whole_up_ret ys hy ly _ D.s32) rfl) rfl (sE rfl (sE rfl (sE rfl (WL_r rfl (r_alloc z_24 (fun b11 hb11 => WL_r rfl (r_storew ty_24 rfl rfl (by repeat (first | exact .head _ | apply Upd.left | apply Upd.tail)) (by simp [uw, toL_len]) (by simp [uw]) (uw_plain _) (.inl (by assumption)) ?_))))))))
   refine sE rfl (nl J (J11 _ _ (Sq fun K12 J12 => Rk fun K J => sQ (q_loadw ty_24 rfl (by repeat (first | exact .head _ | apply List.mem_append_right | apply List.Mem.tail)) (by simp [uw, hx])) rfl ?_)))
   refine sE rfl (sQ (q_ret en_148 (whole_up_ret xs hx lx _ D.s32) rfl) rfl (sE rfl (sE rfl (sE rfl (WL_r rfl (r_alloc z_24 (fun b13 hb13 => WL_r rfl (r_storew ty_24 rfl rfl (by repeat (first | exact .head _ | apply Upd.left | apply Upd.tail)) (by simp [uw, toL_len]) (by simp [uw]) (uw_plain _) (.inl (by assumption)) ?_))))))))
   refine sE rfl (nl J (J12 _ _ (Sq fun K13 J13 => Rk fun K J => WL_r rfl (r_alloc z_134 (fun b15 hb15 => nl J (J13 _ _ (Sq fun K14 J14 => dr (sd (sk (sk (sk (sk (sk (sk (s0)))))))) [0,4,9] [2] mix (by kernel_rfl) (fun K J => pQ rfl (q_slca ar_134 rfl rfl rfl (by decide) (by decide) (by decide) (by decide)) (pQ rfl (q_slca ar_24 rfl rfl rfl (by decide) (by decide) (by decide) (by decide)) ?_)))))))))
   refine PL_o rfl rfl (r_copy sl_106 rfl rfl (by repeat (first | exact .head _ | apply List.mem_append_right | apply List.Mem.tail)) (by repeat (first | exact .head _ | apply Upd.left | apply Upd.tail)) (fun v hv => uw_plain _ v (List.mem_of_mem_drop (List.mem_of_mem_take hv))) (by simp [uw, toL_len]) (by simp [uw]) (copy_uw (toL_len _ _)) (.inl (by assumption)) ⟨nf, (by repeat (first | exact s0 | exact sn | refine sk ?_ | refine sd ?_ | refine sA ?_ | refine sR ?_)), ?_⟩)
   refine fl J (J14 _ _ (Sq fun K15 J15 => Rk fun K J => sE rfl (sQ (q_idxa ar_134 rfl rfl (by decide) (by decide)) rfl (WL_r rfl (r_storeu (k := 16) ty_23 rfl rfl (by repeat (first | exact .head _ | apply Upd.left | apply Upd.tail)) (by simp [toL_len]) (.inl (by assumption)) ?_)))))
   refine nl J (J15 _ _ (Sq fun K16 J16 => Sq fun K17 J17 => Rk fun K J => sE rfl (sE rfl (sQ (q_as (q_sub rfl rfl) (congrArg (Value.int .i64) (sub_i64 D.nm (by have := D.m16; omega)))) rfl (sE rfl (nl J (J17 _ _ (W_block ?_))))))))
   refine W_loop_g [16, 17, 65, 66, 67, 68, 69, 70, 71, 72, 73, 74, 75, 76, 77, 78, 79, 80, 81, 82, 83, 84, 85, 86, 87] (fun g nn M => ∃ (k : Nat) (l : List Nat), (g 16 = .int .i64 ((k : Int) - 1)) ∧ M = [⟨b15, 134, uw l⟩, ⟨b13, 24, uw (toL 16 (val xs * 2 ^ (32 - bl (ys.getD (szL ys - 1) 0))))⟩, ⟨b11, 24, uw (toL 16 (val ys * 2 ^ (32 - bl (ys.getD (szL ys - 1) 0))))⟩, ⟨b5, 24, uw (List.replicate 16 0)⟩, ⟨b4, 24, uw (hpart k (val xs / val ys))⟩, ⟨b3, 24, uw ys⟩, ⟨b2, 24, uw xs⟩] ∧ nn = k + 0 ∧ (k + szL ys ≤ 17 ∧ QI xs ys (32 - bl (ys.getD (szL ys - 1) 0)) k l)) (szL xs - szL ys + 1) ?start ?round
   case start =>
    refine ⟨_, (List.Sublist.refl _), szL xs - szL ys + 1, ((toL 16 (val xs * 2 ^ (32 - bl (ys.getD (szL ys - 1) 0))) ++ [0]).set 16 (val xs * 2 ^ (32 - bl (ys.getD (szL ys - 1) 0)) / 4294967296 ^ 16)), ?a16, ?mem0, rfl, ⟨by have := D.nm; have := D.m16; omega, QI.start D⟩⟩
    case mem0 => rw [← DV.qstart D]
    case a16 => exact congrArg (Value.int .i64) (by omega)
   case round =>
    rintro nn g M ⟨k, l, hg16, rfl, hmeas, ⟨hkn, hq⟩⟩
    subst nn
    simp only [setG, hg16]
    clear hg16
    refine Sq fun K18 J18 => Sq fun K19 J19 => Rk fun K J => sE rfl (sE rfl (nl J (J19 _ _ ?_)))
    refine W_cond _ rfl (fun hc => ?_) (fun hc => ?_)
    ·(try simp only [decide_eq_true_eq, decide_eq_false_iff_not, beq_iff_eq, bne_iff_ne, beq_eq_false_iff_ne, bne_eq_false_iff_eq, Bool.not_eq_true', Bool.not_eq_false'] at hc)
     obtain ⟨m, rfl⟩ : ∃ m, k = m + 1 := ⟨k - 1, by omega⟩
     refine W_skip (J18 _ _ (Sq fun K20 J20 => W_block (Sq fun K21 J21 => Rk fun K J => sQ (q_loadw ty_24 rfl (by repeat (first | exact .head _ | apply List.mem_append_right | apply List.Mem.tail)) (by simp [uw, toL_len])) rfl ?_)))
     refine sE rfl (sQ (q_as (q_move rfl) (congrArg (Value.int .i64) (show (((m + 1 : Nat) : Int) - 1) = (m : Int) by omega))) rfl (WL_r rfl (r_callx en_155 rfl (fun w hw => whole_guess_ret l _ (szL ys) m (hq.qh D (by omega)) b15 134 w (hw.mem _ m0)) (fun d hd => sE rfl (nl J (J21 _ _ (Sq fun K22 J22 => Sq fun K23 J23 => Rk fun K J => sQ (q_loadw ty_24 rfl (by repeat (first | exact .head _ | apply List.mem_append_right | apply List.Mem.tail)) (by simp [uw, toL_len])) rfl ?_)))))))
     refine sE rfl (sQ (q_as (q_move rfl) (congrArg (Value.int .i64) (show (((m + 1 : Nat) : Int) - 1) = (m : Int) by omega))) rfl (sE rfl (WL_r rfl (r_callw en_156 rfl (fun w hw => whole_take_ret l _ (szL ys) m d hq.len hq.lim (toL_len _ _) (toL_lim _ _) (by rw [D.v16]; exact D.vlt) (by omega) (hq.small D) hd.1 b15 134 w (hw.mem _ m0)) (fun x => (by repeat (first | exact .head _ | apply Upd.left | apply Upd.tail))) (.inl (by assumption)) (fun x ht => ?_)))))
     refine nl J (J23 _ _ ?_)
     refine W_cond _ rfl (fun h77 => ?_) (fun h77 => ?_)
     ·(try simp only [decide_eq_true_eq, decide_eq_false_iff_not, beq_iff_eq, bne_iff_ne, beq_eq_false_iff_ne, bne_eq_false_iff_eq, Bool.not_eq_true', Bool.not_eq_false'] at h77)
      refine Sq fun K24 J24 => Rk fun K J => sE rfl (sQ (q_as (q_sub rfl rfl) (congrArg (Value.int .u64) (sub1_u64 rfl (ht.pos (by omega)) (by have := hd.1; omega)))) rfl (sE rfl (nl J (J24 _ _ (Rk fun K J => sQ (q_loadw ty_24 rfl (by repeat (first | exact .head _ | apply List.mem_append_right | apply List.Mem.tail)) (by simp [uw, toL_len])) rfl ?_)))))
      refine sE rfl (sQ (q_as (q_move rfl) (congrArg (Value.int .i64) (show (((m + 1 : Nat) : Int) - 1) = (m : Int) by omega))) rfl (WL_r rfl (r_callw en_157 rfl (fun w hw => whole_give_ret x.1 _ (szL ys) m ht.len ht.lim (toL_len _ _) (toL_lim _ _) (by rw [D.v16]; exact D.vlt) (by omega) ht.small b15 134 w (hw.mem _ m0)) (fun y => (by repeat (first | exact .head _ | apply Upd.left | apply Upd.tail))) (.inl (by assumption)) (fun y hgv => ?_))))
      refine nl J ?_
      obtain ⟨hz, hdz, _⟩ := hq.took1 D hd ht (by omega) hgv
      refine J22 _ _ (Rk fun K J => sQ (q_as (q_move rfl) (congrArg (Value.int .i64) (show (((m + 1 : Nat) : Int) - 1) = (m : Int) by omega))) rfl (sE rfl (sQ (q_as (q_conv in_104 in_23 rfl) (u32_nat _)) rfl (sQ (q_idxa ar_24 rfl rfl (by omega) (by omega)) rfl (WL_r rfl (r_storeu ty_23 rfl rfl (by repeat (first | exact .head _ | apply Upd.left | apply Upd.tail)) (by rw [hpart_len _ (by omega)]; omega) (.inl (by assumption)) ?_))))))
      refine nl J (J20 _ _ (Rk fun K J => sQ (q_as (q_move rfl) (congrArg (Value.int .i64) (show (((m + 1 : Nat) : Int) - 1) = (m : Int) by omega))) rfl (sE rfl (sE rfl (nl J ?_)))))
      refine ⟨(by repeat first | exact .refl | refine .cons rfl ?_), _, _, (List.Sublist.refl _), (by omega), m, _, ?s16, ?mem, rfl, ⟨by omega, hz⟩⟩
      case mem => rw [hdz, hpart_set (by omega)]
      case s16 => exact congrArg (Value.int .i64) (wrap_i64_id (n := (m : Int) - 1) (by unfold I64; omega))
     ·(try simp only [decide_eq_true_eq, decide_eq_false_iff_not, beq_iff_eq, bne_iff_ne, beq_eq_false_iff_ne, bne_eq_false_iff_eq, Bool.not_eq_true', Bool.not_eq_false'] at h77)
      obtain ⟨hz, hdz⟩ := hq.took0 D hd ht (by omega)
      refine W_skip (J22 _ _ (Rk fun K J => sQ (q_as (q_move rfl) (congrArg (Value.int .i64) (show (((m + 1 : Nat) : Int) - 1) = (m : Int) by omega))) rfl (sE rfl (sQ (q_as (q_conv in_104 in_23 rfl) (u32_nat _)) rfl (sQ (q_idxa ar_24 rfl rfl (by omega) (by omega)) rfl (WL_r rfl (r_storeu ty_23 rfl rfl (by repeat (first | exact .head _ | apply Upd.left | apply Upd.tail)) (by rw [hpart_len _ (by omega)]; omega) (.inl (by assumption)) ?_)))))))
      refine nl J (J20 _ _ (Rk fun K J => sQ (q_as (q_move rfl) (congrArg (Value.int .i64) (show (((m + 1 : Nat) : Int) - 1) = (m : Int) by omega))) rfl (sE rfl (sE rfl (nl J ?_)))))
      refine ⟨(by repeat first | exact .refl | refine .cons rfl ?_), _, _, (List.Sublist.refl _), (by omega), m, _, ?s16, ?mem, rfl, ⟨by omega, hz⟩⟩
      case mem => rw [hdz, hpart_set (by omega)]
      case s16 => exact congrArg (Value.int .i64) (wrap_i64_id (n := (m : Int) - 1) (by unfold I64; omega))
    ·(try simp only [decide_eq_true_eq, decide_eq_false_iff_not, beq_iff_eq, bne_iff_ne, beq_eq_false_iff_ne, bne_eq_false_iff_eq, Bool.not_eq_true', Bool.not_eq_false'] at hc)
     obtain rfl : k = 0 := by omega
     refine W_exit (thenK_x (thenK_x (blockK_hit (J16 _ _ (Sq fun K25 J25 => dr (sk (sk (sk (sd (sd (sk (sk (s0)))))))) [0,4,8,12,16,20,25,29] [6,7] mix (by kernel_rfl) (fun K J => pQ rfl (q_loadw ty_24 rfl (by repeat (first | exact .head _ | apply List.mem_append_right | apply List.Mem.tail)) (by rw [uw_len, hpart_len _ (by omega)])) ?_))))))
     refine pQ rfl (q_slca ar_134 rfl rfl rfl (by decide) (by decide) (by decide) (by decide)) (pQ rfl (q_s2a ar_24 rfl (by decide)) (pQ rfl (q_loada (vs := uw (l.take 16)) ty_24 rfl (by repeat (first | exact .head _ | apply List.mem_append_right | apply List.Mem.tail)) uw_lo17 (by simp [uw, hq.len])) ?_))
     refine pE rfl (pQ rfl (q_ret en_149 (whole_down_ret (l.take 16) (by simp [hq.len]) (hq.lim.take 16) _ D.s32) rfl) ?_)
     refine PL_o rfl rfl (r_storew ty_24 rfl rfl (by repeat (first | exact .head _ | apply Upd.left | apply Upd.tail)) (by rw [uw_len, hpart_len _ (by omega)]) (by rw [uw_len, hpart_len _ (by omega)]) (uw_plain _) (.inl (by assumption)) ⟨nf, (by repeat (first | exact s0 | exact sn | refine sk ?_ | refine sd ?_ | refine sA ?_ | refine sR ?_)), ?_⟩)
     refine PL_o rfl rfl (r_storew ty_24 rfl rfl (by repeat (first | exact .head _ | apply Upd.left | apply Upd.tail)) (by simp [uw, toL_len]) (by simp [uw]) (uw_plain _) (.inl (by assumption)) ⟨nf, (by repeat (first | exact s0 | exact sn | refine sk ?_ | refine sd ?_ | refine sA ?_ | refine sR ?_)), ?_⟩)
     refine fl J (J25 _ _ (W_ret (ret2 rfl (.inr rfl) ⟨_, _, _, _, _, _, rfl, (by repeat (first | exact .head _ | apply List.mem_append_right | apply List.Mem.tail)), ty_24, _, (takeAll (by rw [uw_len, hpart_len _ (by omega)])), (by rw [uw_len, hpart_len _ (by omega)]), rfl⟩ ⟨_, _, _, _, _, _, rfl, (by repeat (first | exact .head _ | apply List.mem_append_right | apply List.Mem.tail)), ty_24, _, (takeAll (by simp [uw, toL_len])), (by simp [uw, toL_len]), rfl⟩ ?_)))
     (rw [hpart_all, hq.fin D]; rfl)
end Go.Proofs.YtnfbkngfdemkpaaGreatDoor
