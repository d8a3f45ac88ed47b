/- Walks: what these functions return. -/
import Derived.Test.YtnfbkngfdemkpaaFa0
import Derived.Test.YtnfbkngfdemkpaaSa
import Derived.Test.YtnfbkngfdemkpaaSb
namespace Go.Proofs.Ytnfbkngfdemkpaa
open Go.Kn Go.Num
set_option linter.unusedVariables false
set_option linter.unusedSimpArgs false
set_option maxRecDepth 20000
set_option maxHeartbeats 8000000
theorem skewbackref03_Of_ret (n : Int) (hn : I64 n) :
    Ret Try.prog 36 [.int .i64 n] (RV (Z.of n).enc) := by
 refine ret_of_W (N := 35) Try.func36 rfl rfl (by simp) (fun w0 => ?_)
 simp only [initF, Nat.reduceAdd]
 unfold I64 at hn
 refine Sq fun K1 J1 => Rk fun K J => WL_r rfl (r_alloc z_33 (fun b2 hb2 => nl J (J1 _ _ (Sq fun K2 J2 => Sq fun K3 J3 => Rk fun K J => sE rfl (sE rfl (nl J (J3 _ _ ?_)))))))
 refine W_cond _ rfl (fun h0 => ?_) (fun h0 => ?_)
 ·(try simp only [decide_eq_true_eq, decide_eq_false_iff_not, beq_iff_eq, bne_iff_ne, beq_eq_false_iff_ne, bne_eq_false_iff_eq, Bool.not_eq_true', Bool.not_eq_false'] at h0)
  obtain ⟨m, rfl⟩ : ∃ m : Nat, n = m := ⟨n.toNat, by omega⟩
  refine Sq fun K4 J4 => Rk fun K J => sE rfl (sQ (q_as (q_rem rfl rfl (by decide)) (show _ = IV (m % 65536) from remI _)) rfl (sE rfl (sQ (q_as (q_quo rfl rfl (by decide)) (quo_c 65536 (by omega))) rfl (sQ (q_as (q_rem rfl rfl (by decide)) (show _ = IV (m / 65536 % 65536) from remI _)) rfl (sE rfl (sQ (q_as (q_quo rfl rfl (by decide)) (quo_c 4294967296 (by omega))) rfl (sQ (q_as (q_rem rfl rfl (by decide)) (show _ = IV (m / 4294967296 % 65536) from remI _)) rfl (sE rfl (sQ (q_as (q_quo rfl rfl (by decide)) (quo_c 281474976710656 (by omega))) rfl (WL_r rfl (r_bslice us_88 z_3 sz_3 rfl (by decide) rfl (fillI4 _ _ _ _) (fun b16 hb16 => sQ (q_call en_57 rfl (fun w hw => skewbackref03_number_ret false _ (dl4 m) (dl4_DL (by omega)) (by simp [dl4]) w (SL.sl (SL.mine (l := dl4 m) (.head _) (Nat.le_refl _)) hw))) rfl ?_))))))))))))
  refine WL_r rfl (r_storew ty_33 rfl rfl (by repeat (first | exact .head _ | apply Upd.left | apply Upd.tail)) (enc_cells_len _) rfl (cells_plain _) (.inl (by assumption)) ?_)
  refine nl J (J4 _ _ (W_ret (thenK_r (ret1 rfl (.inr rfl) ⟨_, _, _, _, _, _, rfl, (by repeat (first | exact .head _ | apply List.mem_append_right | apply List.Mem.tail)), ty_33, _, (takeAll (enc_cells_len _)), (enc_cells_len _), rfl⟩ ?_))))
  (rw [dl4_dv, sgn_f]; rfl)
 ·(try simp only [decide_eq_true_eq, decide_eq_false_iff_not, beq_iff_eq, bne_iff_ne, beq_eq_false_iff_ne, bne_eq_false_iff_eq, Bool.not_eq_true', Bool.not_eq_false'] at h0)
  obtain ⟨m, rfl⟩ : ∃ m : Nat, n = -((m : Int) + 1) := ⟨(-n - 1).toNat, by omega⟩
  refine W_skip (J2 _ _ (Sq fun K5 J5 => Rk fun K J => sE rfl (sE rfl (sQ (q_as (q_neg rfl) (congrArg (Value.int .i64) (of_mneg (by omega)))) rfl (sE rfl (nl J (J5 _ _ (Sq fun K6 J6 => Rk fun K J => sE rfl (sQ (q_as (q_rem rfl rfl (by decide)) (show _ = IV (m % 65536) from remI _)) rfl (sE rfl (sQ (q_as (q_quo rfl rfl (by decide)) (quo_c 65536 (by omega))) rfl (sQ (q_as (q_rem rfl rfl (by decide)) (show _ = IV (m / 65536 % 65536) from remI _)) rfl (sE rfl (sQ (q_as (q_quo rfl rfl (by decide)) (quo_c 4294967296 (by omega))) rfl (sQ (q_as (q_rem rfl rfl (by decide)) (show _ = IV (m / 4294967296 % 65536) from remI _)) rfl ?_)))))))))))))))
  refine sE rfl (sQ (q_as (q_quo rfl rfl (by decide)) (quo_c 281474976710656 (by omega))) rfl (WL_r rfl (r_bslice us_88 z_3 sz_3 rfl (by decide) rfl (fillI4 _ _ _ _) (fun b31 hb31 => WL_r rfl (r_bslice us_88 z_3 sz_3 rfl (by decide) rfl (fillI1 1) (fun b32 hb32 => WL_r rfl (r_callslf en_58 rfl (fun w hw => skewbackref03_plus_ret _ _ (dl4 m) [1] (dl4_DL (by omega)) (DL.one (by decide)) (by simp [dl4]) (by simp) w (SL.sl (SL.mine (l := dl4 m) (.tail _ (.head _)) (Nat.le_refl _)) hw) (SL.sl (SL.mine (l := [1]) (.head _) (Nat.le_refl _)) hw)) (fun v9 L9 h9 => ?_))))))))
  refine sQ (q_call en_57 rfl (fun w hw => skewbackref03_number_ret true _ _ (dl_DL _) (Nat.le_trans (dl_len (k := 64) (by rw [dl4_dv]; simp only [dv]; omega)) (by decide)) w (SL.sl (h9.sl.sub (List.sublist_append_left _ _)) hw))) rfl (WL_r rfl (r_storew ty_33 rfl rfl (by repeat (first | exact .head _ | apply Upd.left | apply Upd.tail)) (enc_cells_len _) rfl (cells_plain _) (.inl (by assumption)) ?_))
  refine nl J (J6 _ _ (W_ret (ret1 rfl (.inr rfl) ⟨_, _, _, _, _, _, rfl, (by repeat (first | exact .head _ | apply List.mem_append_right | apply List.Mem.tail)), ty_33, _, (takeAll (enc_cells_len _)), (enc_cells_len _), rfl⟩ ?_)))
  (rw [dv_dl, dl4_dv]; simp only [dv, Nat.mul_zero, Nat.add_zero]; rw [sgn_S]; rfl)
end Go.Proofs.Ytnfbkngfdemkpaa
