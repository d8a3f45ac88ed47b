/- Walks: what these functions return. -/
import Derived.Test.YtnfbkngfdemkpaaGreatDoorFa0
import Derived.Test.YtnfbkngfdemkpaaGreatDoorFa1
import Derived.Test.YtnfbkngfdemkpaaGreatDoorFSl
import Derived.Test.YtnfbkngfdemkpaaGreatDoorSa
import Derived.Test.YtnfbkngfdemkpaaGreatDoorSb
import Derived.Test.YtnfbkngfdemkpaaGreatDoorSf
import Derived.Test.YtnfbkngfdemkpaaGreatDoorSg
import Derived.Test.YtnfbkngfdemkpaaGreatDoorSk
namespace Go.Proofs.YtnfbkngfdemkpaaGreatDoor
open Go.Kn Go.Num
set_option linter.unusedVariables false
set_option linter.unusedSimpArgs false
set_option maxRecDepth 20000
set_option maxHeartbeats 8000000
theorem skewbackref03_Shift_ret (a : I) (b : W) (hpre : 0 ≤ b.1) :
    Ret Tryz.prog 126 [AV [pI a], .int .i64 b.1] (AV [pI (F_skewbackref03_Shift a b)]) := by
 refine ret_of_W (N := 39) Tryz.func126 rfl rfl (by simp) (fun w0 => ?_)
 simp only [initF, Nat.reduceAdd]
 refine Rs fun K J => WL_r rfl (r_boxp rfl rfl (fun b1 hb1 => sN zp_26 rfl fun b2 hb2 => nl J (Sq fun K1 J1 => Rs fun K J => sQ (qL ty_26 rfl m1 rfl) rfl (sC (.bool a.1.good) en_107 (skewbackref03_Good_ret a.1 a.2) rfl rfl rfl (sE rfl (nl J ?_))))))
 rcases bt a.1.good with h3 | h3
 ·skip
  refine W_f (not_f h3) rfl (W_skip (J1 _ _ (Sq fun K2 J2 => Rs fun K J => sQ (qL ty_26 rfl m1 rfl) rfl (WL_r rfl (r_callslf en_127 rfl (fun w hw => skewbackref03_digits_ret a.1 a.2 w) (fun vl4 Ll4 kl4 => ?_))))))
  try simp only [dv_dl, dv_one] at kl4
  refine sQ (q_as (v' := .int .i64 (((dl (val a.1.w)).length : Nat) : Int)) (q_lenl sl_90 rfl (SL.sub kl4.sl (List.sublist_append_left _ _))) rfl) rfl (sE rfl (nl J ?_))
  rcases bt ((((dl (val a.1.w)).length : Nat) : Int) == 0) with h5 | h5
  ·skip
   refine W_t h5 rfl (Rs fun K J => sQ (qL ty_26 rfl (List.mem_append_right _ (List.mem_cons_of_mem _ (List.mem_cons_self))) rfl) rfl (sS [pI a] ty_26 rfl rfl rfl rfl rfl (Upd.left (.head _) _) rfl hb2 (nl J (W_ret (thenK_r (ret1 rfl (.inr rfl) (resP rfl (List.mem_append_right _ (List.mem_cons_self)) ty_26 rfl) ?_))))))
   exact (by exact congrArg (fun r : I => (AV [pI r] : Value)) (show _ = (F_skewbackref03_Shift a b) from bif_t h3 (bif_t h5 rfl)))
  ·skip
   refine W_f h5 rfl (W_skip (J2 _ _ (Sq fun K3 J3 => Rs fun K J => sE rfl (sE rfl (nl J ?_)))))
   rcases bt (decide (512 < b.1)) with h6 | h6
   ·skip
    refine W_t h6 rfl (Rs fun K J => sC (AV [pI (E Z.bad)]) en_125 skewbackref03_Bad_ret rfl rfl rfl (sS [pI (E Z.bad)] ty_26 rfl rfl rfl rfl rfl (Upd.left (.head _) _) rfl hb2 (nl J (W_ret (thenK_r (ret1 rfl (.inr rfl) (resP rfl (List.mem_append_right _ (List.mem_cons_self)) ty_26 rfl) ?_))))))
    exact (by exact congrArg (fun r : I => (AV [pI r] : Value)) (show _ = (F_skewbackref03_Shift a b) from bif_t h3 (bif_f h5 (bif_t h6 rfl))))
   ·skip
    refine W_f h6 rfl (W_skip (J3 _ _ (Sq fun K4 J4 => Rs fun K J => sE rfl (sE rfl (nl J (W_t (decide_eq_true hpre) rfl (ds sn [0,4,8,16,13,21,25,28,33] [8] mix (by kernel_rfl) (fun K J => pQ rfl (qF fd_26_1 rfl rfl) (pQ rfl (qC ty_4 rfl (List.mem_append_right _ (List.mem_cons_of_mem _ (List.mem_cons_self))) rfl) (pQ rfl (qL ty_26 rfl (List.mem_append_right _ (List.mem_cons_of_mem _ (List.mem_cons_self))) rfl) (pE rfl (PL_o rfl rfl (r_callslf en_127 rfl (fun w hw => skewbackref03_digits_ret a.1 a.2 w) (fun vl7 Ll7 kl7 => ⟨(fun _ => sR s0), sn, ?_⟩))))))))))))))
    try simp only [dv_dl, dv_one] at kl7
    refine PL_o rfl rfl (r_callslf en_152 rfl (fun w hw => skewbackref03_power_retW b hpre (Int.not_lt.1 (of_decide_eq_false (by assumption))) w) (fun vl8 Ll8 kl8 => ⟨(fun _ => sR s0), sn, ?_⟩))
    try simp only [dv_dl, dv_one] at kl8
    refine PL_o rfl rfl (r_callslf en_151 rfl (fun w hw => skewbackref03_times_ret vl7 vl8 (dl (val a.1.w)) (dl (2 ^ b.1.toNat)) (dl_DL _) (dl_DL _) (Nat.le_trans (dl_len (k := 32) (lt32 a.2)) (by decide)) (Nat.le_trans (dl_len (k := 33) (pow_bd (Int.not_lt.1 (of_decide_eq_false (by assumption))))) (by decide)) w (SL.sl (SL.sub kl7.sl (sR (List.sublist_append_left _ _))) hw) (SL.sl (SL.sub kl8.sl (List.sublist_append_left _ _)) hw)) (fun vl9 Ll9 kl9 => ⟨(fun _ => sR s0), sn, ?_⟩))
    try simp only [dv_dl, dv_one] at kl9
    refine pQ rfl (q_as (v' := AV [pI (E (Z.of (sgn a.1.neg ((val a.1.w) * (2 ^ b.1.toNat)))))]) (q_call en_99 rfl (fun w hw => skewbackref03_number_ret a.1.neg vl9 (dl ((val a.1.w) * (2 ^ b.1.toNat))) (dl_DL _) (Nat.le_trans (dl_len (k := 65) (dmul (i := 32) (k := 33) (lt32 a.2) (pow_bd (Int.not_lt.1 (of_decide_eq_false (by assumption)))))) (by decide)) w (SL.sl (SL.sub kl9.sl (List.sublist_append_left _ _)) hw))) (by rw [(dv_dl _)]; rfl)) (oS [pI (E (Z.of (sgn a.1.neg ((val a.1.w) * (2 ^ b.1.toNat)))))] ty_26 rfl rfl rfl rfl rfl rfl (Upd.left (Upd.left (Upd.left (Upd.left (.head _) _) _) _) _) rfl hb2 rfl sn (fl J (W_ret (thenK_r (ret1 rfl (.inr rfl) (resP rfl (List.mem_append_right _ (List.mem_append_right _ (List.mem_append_right _ (List.mem_append_right _ (List.mem_cons_self))))) ty_26 rfl) ?_)))))
    exact (by exact congrArg (fun r : I => (AV [pI r] : Value)) (show _ = (F_skewbackref03_Shift a b) from bif_t h3 (bif_f h5 (bif_f h6 rfl))))
 ·skip
  refine W_t (not_t h3) rfl (Rs fun K J => sC (AV [pI (E Z.bad)]) en_125 skewbackref03_Bad_ret rfl rfl rfl (sS [pI (E Z.bad)] ty_26 rfl rfl rfl rfl rfl (.head _) rfl hb2 (nl J (W_ret (thenK_r (ret1 rfl (.inr rfl) (resP rfl m0 ty_26 rfl) ?_))))))
  exact (by exact congrArg (fun r : I => (AV [pI r] : Value)) (show _ = (F_skewbackref03_Shift a b) from bif_f h3 rfl))
end Go.Proofs.YtnfbkngfdemkpaaGreatDoor
