/- Walks: what these functions return. -/
import Derived.Test.YtnfbkngfdemkpaaFa0
import Derived.Test.YtnfbkngfdemkpaaSa
namespace Go.Proofs.Ytnfbkngfdemkpaa
open Go.Kn Go.Num
set_option linter.unusedVariables false
set_option linter.unusedSimpArgs false
set_option maxRecDepth 20000
set_option maxHeartbeats 8000000
theorem skewbackref03_plus_ret (va vb : Value) (la lb : List Nat) (hDa : DL la) (hDb : DL lb) (hna : la.length ≤ 200) (hnb : lb.length ≤ 200) (w : World) (hva : Sl w va la) (hvb : Sl w vb lb) :
    Calls Try.prog 58 [va, vb].toArray w (fun e w' => ∃ v, e = .returned v ∧ Ext w w' ∧ Slf w.heap.size w' v (dl (dv la + dv lb))) := by
 refine callssl_of_W (N := 37) Try.func58 rfl rfl (by simp) ?_
 obtain ⟨w0, rfl⟩ : ∃ w0, w0 = w := ⟨_, rfl⟩
 simp only [initF, Nat.reduceAdd]
 refine Sq fun K1 J1 => Rk fun K J => sE rfl (nl J (J1 _ _ (Sq fun K2 J2 => Rk fun K J => sE rfl (nl J (J2 _ _ (Sq fun K3 J3 => Rk fun K J => sE rfl (nl J (J3 _ _ (Sq fun K4 J4 => Sq fun K5 J5 => Rk fun K J => sE rfl (nl J ?_))))))))))
 refine J5 _ _ (W_block ?_)
 refine W_loop_g [5, 6, 7, 8, 9, 10, 11, 12, 13, 14, 15, 16, 17, 18, 19, 20, 21, 22, 23, 24, 25, 26, 27, 28, 29, 30, 31, 32, 33, 34] (fun g nn M => ∃ (k : Nat) (v : Value) (l : List Nat) (L : List Blk), (g 5 = v ∧ g 6 = .int .i64 ((cD (dv la) (dv lb) k : Nat) : Int) ∧ g 7 = .int .i64 (k : Int)) ∧ M = L ++ [] ∧ nn = max la.length lb.length + 1 - k ∧ (k ≤ max la.length lb.length + 1 ∧ Own w0 3 v l L ∧ DL l ∧ l.length = k ∧ dv l = (dv la + dv lb) % 65536 ^ k)) (max la.length lb.length + 1 - 0) ?start ?round
 case start =>
  refine ⟨_, (List.Sublist.refl _), 0, _, [], [], ⟨?a5, ?a6, ?a7⟩, ?mem0, rfl, ⟨Nat.zero_le _, .nil, DL.nil, rfl, by simp [dv, Nat.mod_one]⟩⟩
  case mem0 => rfl
  case a5 => rfl
  case a6 => rw [cD_zero]; rfl
  case a7 => rfl
 case round =>
  rintro nn g M ⟨k, v, l, L, ⟨hg5, hg6, hg7⟩, rfl, hmeas, ⟨hk, hO, hD, hlen, hdv⟩⟩
  subst nn
  simp only [setG, hg5, hg6, hg7]
  clear hg5 hg6 hg7
  refine Sq fun K6 J6 => Sq fun K7 J7 => Rk fun K J => sE rfl (sE rfl (sQ (q_lenl sl_88 rfl hva.old) rfl (sE rfl (sQ (q_lenl sl_88 rfl hvb.old) rfl (sQ (q_maxn rfl rfl) rfl (sQ (q_as (q_add rfl rfl) (congrArg (Value.int .i64) (succ_i64 (by omega)))) rfl (sE rfl (nl J (J7 _ _ ?_)))))))))
  refine W_cond _ rfl (fun hc => ?_) (fun hc => ?_)
  ·(try simp only [decide_eq_true_eq, decide_eq_false_iff_not, beq_iff_eq, bne_iff_ne, beq_eq_false_iff_ne, bne_eq_false_iff_eq, Bool.not_eq_true', Bool.not_eq_false'] at hc)
   have hc : k < max la.length lb.length + 1 := by omega
   refine W_skip (J6 _ _ (Sq fun K8 J8 => W_block (Sq fun K9 J9 => Rk fun K J => sE rfl (sE rfl (sQ (q_call en_77 rfl (fun w hw => skewbackref03_digit_ret va la k w (SL.sl (M := _) hva.old hw))) rfl (sE rfl (sE rfl (sQ (q_call en_77 rfl (fun w hw => skewbackref03_digit_ret vb lb k w (SL.sl (M := _) hvb.old hw))) rfl (sE rfl (sE rfl (sQ (q_as (q_add rfl rfl) (congrArg (Value.int .i64) ((show _ = ((cD (dv la) (dv lb) k + dg (dv la) k + dg (dv lb) k : Nat) : Int) by rw [getD_dv la k hDa, getD_dv lb k hDb]; exact add3 (dg_lt _ _) (dg_lt _ _) (cD_le _ _ _))))) rfl (sE rfl (nl J (J9 _ _ (Sq fun K10 J10 => Rk fun K J => ?_)))))))))))))))
   refine sE rfl (sE rfl (sQ (q_as (q_rem rfl rfl (by decide)) (remI _)) rfl (WL_r rfl (r_bslice us_88 z_3 sz_3 rfl (by decide) rfl (fillI1 _) (fun b31 hb31 => WL_r rfl (r_append us_88 on_3 rfl rfl hO (SL.mine (l := [(cD (dv la) (dv lb) k + dg (dv la) k + dg (dv lb) k) % 65536]) (.head _) (Nat.le_refl _)) (List.sublist_cons_self _ _) (by simp; omega) (fun v' L' hO' => ?_)))))))
   refine sE rfl (nl J (J10 _ _ (Rk fun K J => sE rfl (sQ (q_as (q_quo rfl rfl (by decide)) (congrArg (Value.int .i64) (quoI (by have := cD_le (dv la) (dv lb) k; have := dg_lt (dv la) k; have := dg_lt (dv lb) k; omega)))) rfl (sE rfl (nl J (J8 _ _ (Rk fun K J => sE rfl (sQ (q_as (q_add rfl rfl) (congrArg (Value.int .i64) (succ_i64 (by omega)))) rfl (sE rfl (nl J ?_)))))))))))
   refine ⟨(by repeat first | exact .refl | refine .cons rfl ?_), _, _, (List.Sublist.refl _), (by omega), k + 1, _, _, _, ⟨?s5, ?s6, ?s7⟩, ?mem, rfl, ⟨by omega, hO', hD.append (DL.one (Nat.mod_lt _ (by decide))), by simp [hlen], plusD_step hlen hdv⟩⟩
   case mem => rfl
   case s5 => rfl
   case s6 => rw [← plusD_carry]; rfl
   case s7 => rfl
  ·(try simp only [decide_eq_true_eq, decide_eq_false_iff_not, beq_iff_eq, bne_iff_ne, beq_eq_false_iff_ne, bne_eq_false_iff_eq, Bool.not_eq_true', Bool.not_eq_false'] at hc)
   obtain rfl : k = max la.length lb.length + 1 := by omega
   refine W_exit (thenK_x (thenK_x (blockK_hit (J4 _ _ (Sq fun K11 J11 => Rk fun K J => sE rfl (sQ (q_call en_75 rfl (fun w hw => skewbackref03_trim_ret v l hD (by omega) w (SL.sl (hO.sl (List.sublist_append_left _ _)) hw))) rfl (sE rfl (nl J (J11 _ _ (W_ret (ret1 rfl (.inr rfl) rfl ?_)))))))))))
   exact trimmedSl hD (by rw [hdv, plusD_all hDa hDb]) (hO.slf (List.sublist_append_left _ _))
end Go.Proofs.Ytnfbkngfdemkpaa
