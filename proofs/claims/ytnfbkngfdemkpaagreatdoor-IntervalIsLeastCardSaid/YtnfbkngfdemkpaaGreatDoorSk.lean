/- Walks: what these functions return. -/
import Derived.Test.YtnfbkngfdemkpaaGreatDoorFa0
import Derived.Test.YtnfbkngfdemkpaaGreatDoorFa1
import Derived.Test.YtnfbkngfdemkpaaGreatDoorSa
namespace Go.Proofs.YtnfbkngfdemkpaaGreatDoor
open Go.Kn Go.Num
set_option linter.unusedVariables false
set_option linter.unusedSimpArgs false
set_option maxRecDepth 20000
set_option maxHeartbeats 8000000
theorem skewbackref03_power_ret (k : Nat) (hk : k ≤ 512) (w : World)  :
    Calls Tryz.prog 152 [.int .i64 (k : Int)].toArray w (fun e w' => ∃ v, e = .returned v ∧ Ext w w' ∧ Slf w.heap.size w' v (dl (2 ^ k))) := by
 refine callssl_of_W (N := 16) Tryz.func152 rfl rfl (by simp) ?_
 obtain ⟨w0, rfl⟩ : ∃ w0, w0 = w := ⟨_, rfl⟩
 simp only [initF, Nat.reduceAdd]
 refine Sq fun K1 J1 => Rk fun K J => sE rfl (nl J (J1 _ _ (Sq fun K2 J2 => Rk fun K J => sE rfl (sQ (q_as (q_quo rfl rfl (by decide)) (congrArg (Value.int .i64) (shq 16 (by decide) (by omega)))) rfl (sQ (q_as (q_add rfl rfl) (congrArg (Value.int .i64) (succ_i64 (by omega)))) rfl (WL_r rfl (r_make us_90 on_3 z_3 rfl rfl (by omega) (fun b7 hb7 => sE rfl (nl J (J2 _ _ (Sq fun K3 J3 => Rk fun K J => sE rfl (sE rfl (sQ (q_as (q_quo rfl rfl (by decide)) (congrArg (Value.int .i64) (shq 16 (by decide) (by omega)))) rfl (sE rfl ?_))))))))))))))
 refine sQ (q_as (q_rem rfl rfl (by decide)) (congrArg (Value.int .i64) (shr 16 k))) rfl (sQ (q_as (q_shl rfl rfl (Int.natCast_nonneg _)) (congrArg (Value.int .i64) (shl1 k))) rfl (sQ (q_idxs sl_90 rfl rfl (by omega) (by omega)) rfl (WL_r rfl (r_storei ty_3 rfl rfl (by repeat (first | exact .head _ | apply Upd.left | apply Upd.tail)) (by simp) (.inl (by assumption)) ?_))))
 refine nl J (J3 _ _ (Sq fun K4 J4 => Rk fun K J => sE rfl (sE rfl (nl J (J4 _ _ (W_ret (ret1 rfl (.inr rfl) rfl ?_)))))))
 (rw [← pow_dl k]; exact SLf.mine hb7 (.head _) (by simp) (Nat.le_refl _))
theorem skewbackref03_power_retW (n : W) (h0 : 0 ≤ n.1) (h : n.1 ≤ 512) (w : World) : Calls Tryz.prog 152 [.int .i64 n.1].toArray w (fun e w' => ∃ v, e = .returned v ∧ Ext w w' ∧ Slf w.heap.size w' v (dl (2 ^ n.1.toNat))) := by
  have := skewbackref03_power_ret n.1.toNat (by omega) w
  rwa [Int.toNat_of_nonneg h0] at this

theorem skewbackref03_bit_ret (va : Value) (n k : Nat) (hk : k ≤ 1000000) (w : World) (hva : Sl w va (dl n)) :
    Calls Tryz.prog 128 [va, .int .i64 (k : Int)].toArray w (fun e w' => e = .returned (.int .i64 ((n / 2 ^ k % 2 : Nat) : Int)) ∧ Ext w w') := by
 refine callsq_of_W (N := 13) Tryz.func128 rfl rfl (by simp) ?_
 obtain ⟨w0, rfl⟩ : ∃ w0, w0 = w := ⟨_, rfl⟩
 simp only [initF, Nat.reduceAdd]
 refine Sq fun K1 J1 => Rk fun K J => sE rfl (nl J (J1 _ _ (Sq fun K2 J2 => Rk fun K J => sE rfl (sE rfl (sQ (q_as (q_quo rfl rfl (by decide)) (congrArg (Value.int .i64) (shq 16 (by decide) (by omega)))) rfl (sQ (q_as (q_call en_136 rfl (fun w hw => skewbackref03_digit_ret va (dl n) (k / 16) w (SL.sl (M := _) hva.old hw))) (congrArg (fun z : Nat => Value.int .i64 (z : Int)) (dl_getD n (k / 16)))) rfl (sE rfl (sQ (q_as (q_rem rfl rfl (by decide)) (congrArg (Value.int .i64) (shr 16 k))) rfl (sQ (q_shr rfl rfl (Int.natCast_nonneg _)) rfl (sQ (q_as (q_rem rfl rfl (by decide)) (congrArg (Value.int .i64) (bit_get n k))) rfl (sE rfl (nl J (J2 _ _ (W_ret (ret1 rfl (.inr rfl) rfl ?_)))))))))))))))
 exact rfl

theorem skewbackref03_Bits_ret (a : R) (ha : a.Ok) :
    Ret Tryz.prog 94 [RV a] (.int .i64 ((a.dec.bits : Nat) : Int)) := by
 refine ret_of_W (N := 25) Tryz.func94 rfl rfl (by simp) (fun w0 => ?_)
 simp only [initF, Nat.reduceAdd]
 refine Sq fun K1 J1 => Rk fun K J => WL_r rfl (r_box rfl rfl (fun b1 hb1 => sE rfl (nl J (J1 _ _ (Sq fun K2 J2 => Sq fun K3 J3 => Rk fun K J => sQ (q_loadw ty_26 rfl (by repeat (first | exact .head _ | apply List.mem_append_right | apply List.Mem.tail)) (cells_len ha)) rfl ?_)))))
 refine sQ (q_ret en_107 (skewbackref03_Good_ret a ha) rfl) rfl (sE rfl (nl J (J3 _ _ ?_)))
 refine W_cond _ rfl (fun hg => ?_) (fun hg => ?_)
 ·(try simp only [decide_eq_true_eq, decide_eq_false_iff_not, beq_iff_eq, bne_iff_ne, beq_eq_false_iff_ne, bne_eq_false_iff_eq, Bool.not_eq_true', Bool.not_eq_false'] at hg)
  refine Sq fun K4 J4 => Rk fun K J => sE rfl (nl J (J4 _ _ (W_ret (thenK_r (ret1 rfl (.inr rfl) rfl ?_)))))
  exact congrArg (fun z : Nat => Value.int .i64 (z : Int)) (bits_not (by simpa using hg)).symm
 ·(try simp only [decide_eq_true_eq, decide_eq_false_iff_not, beq_iff_eq, bne_iff_ne, beq_eq_false_iff_ne, bne_eq_false_iff_eq, Bool.not_eq_true', Bool.not_eq_false'] at hg)
  refine W_skip (J2 _ _ (Sq fun K5 J5 => Rk fun K J => sQ (q_loadw ty_26 rfl (by repeat (first | exact .head _ | apply List.mem_append_right | apply List.Mem.tail)) (cells_len ha)) rfl ?_))
  refine WL_r rfl (r_callslf en_127 rfl (fun w hw => skewbackref03_digits_ret a ha w) (fun v L hv => sE rfl (nl J (J5 _ _ (Sq fun K6 J6 => ?_)))))
  have hl32 : (dl (val a.w)).length ≤ 32 := dl_len (by rw [← pow512]; have := val_lt a.w ha.lim; rwa [ha.len] at this)
  refine Rk fun K J => sE rfl (sQ (q_lenl sl_90 rfl (SL.sub hv.sl (List.sublist_append_left _ _))) rfl (sQ (q_as (q_mul rfl rfl) (congrArg (Value.int .i64) (mul16 (Nat.le_trans hl32 (by decide))))) rfl (sE rfl (nl J (J6 _ _ (Sq fun K7 J7 => W_block ?_))))))
  refine W_loop_g [4, 13, 14, 15, 16, 17, 18, 19, 20, 21, 22, 23] (fun g nn M => ∃ (k : Nat), (g 4 = .int .i64 (k : Int)) ∧ M = L ++ [⟨b1, 26, a.cells⟩] ∧ nn = k + 0 ∧ (k ≤ 16 * (dl (val a.w)).length ∧ val a.w < 2 ^ k)) (16 * (dl (val a.w)).length) ?start ?round
  case start =>
   refine ⟨_, (List.Sublist.refl _), 16 * (dl (val a.w)).length, ?a4, ?mem0, rfl, ⟨Nat.le_refl _, bits_start _⟩⟩
   case mem0 => rfl
   case a4 => rfl
  case round =>
   rintro nn g M ⟨k, hg4, rfl, hmeas, ⟨hk, hlt⟩⟩
   subst nn
   simp only [setG, hg4]
   clear hg4
   refine Sq fun K8 J8 => Sq fun K9 J9 => Rk fun K J => sE rfl (sE rfl (sE rfl ?_))
   cases hz : decide ((0 : Int) < (k : Int))
   ·skip
    refine WL_n rfl (WL_n rfl (WL_n rfl (WL_n rfl (WL_n rfl (sE rfl (nl J (J9 _ _ (W_false rfl (W_exit (thenK_x (thenK_x (blockK_hit (J7 _ _ (Sq fun K10 J10 => Rk fun K J => sE rfl (sE rfl (nl J (J10 _ _ (W_ret (ret1 rfl (.inr rfl) rfl ?_)))))))))))))))))))
    exact congrArg (fun z : Nat => Value.int .i64 (z : Int)) (bits_no ha (by simpa using hg) hlt (by have := of_decide_eq_false hz; omega)).symm
   ·skip
    have hz' := of_decide_eq_true hz
    obtain ⟨m, rfl⟩ : ∃ m, k = m + 1 := ⟨k - 1, by omega⟩
    refine sE rfl (sE rfl (sQ (q_as (q_sub rfl rfl) (congrArg (Value.int .i64) (pred_i64 (by omega)))) rfl (sQ (q_call en_128 rfl (fun w hw => skewbackref03_bit_ret v (val a.w) m (by omega) w (SL.sl (SL.sub hv.sl (List.sublist_append_left _ _)) hw))) rfl (sE rfl (sE rfl (nl J (J9 _ _ ?_)))))))
    refine W_cond _ rfl (fun h0 => ?_) (fun h0 => ?_)
    ·(try simp only [decide_eq_true_eq, decide_eq_false_iff_not, beq_iff_eq, bne_iff_ne, beq_eq_false_iff_ne, bne_eq_false_iff_eq, Bool.not_eq_true', Bool.not_eq_false'] at h0)
     refine W_skip (J8 _ _ (W_block (Rk fun K J => sE rfl (sQ (q_as (q_sub rfl rfl) (congrArg (Value.int .i64) (pred_i64 (by omega)))) rfl (sE rfl (nl J ?_))))))
     refine ⟨(by repeat first | exact .refl | refine .cons rfl ?_), _, _, (List.Sublist.refl _), (by omega), m, ?s4, ?mem, rfl, ⟨by omega, bits_down hlt (by omega)⟩⟩
     case mem => rfl
     case s4 => rfl
    ·(try simp only [decide_eq_true_eq, decide_eq_false_iff_not, beq_iff_eq, bne_iff_ne, beq_eq_false_iff_ne, bne_eq_false_iff_eq, Bool.not_eq_true', Bool.not_eq_false'] at h0)
     refine W_exit (thenK_x (thenK_x (blockK_hit (J7 _ _ (Sq fun K11 J11 => Rk fun K J => sE rfl (sE rfl (nl J (J11 _ _ (W_ret (ret1 rfl (.inr rfl) rfl ?_))))))))))
     exact congrArg (fun z : Nat => Value.int .i64 (z : Int)) ((bits_good ha (by simpa using hg)).trans (bits_up hlt (by omega))).symm
end Go.Proofs.YtnfbkngfdemkpaaGreatDoor
