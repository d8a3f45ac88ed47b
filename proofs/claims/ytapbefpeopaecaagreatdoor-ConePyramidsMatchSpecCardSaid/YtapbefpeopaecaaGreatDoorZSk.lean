/- Walks: what these functions return. -/
import Derived.Test.YtapbefpeopaecaaGreatDoorZFa0
import Derived.Test.YtapbefpeopaecaaGreatDoorZSa
namespace Go.Proofs.YtapbefpeopaecaaGreatDoor
open Go.Kn Go.Num
set_option linter.unusedVariables false
set_option linter.unusedSimpArgs false
set_option maxRecDepth 20000
set_option maxHeartbeats 8000000
theorem gd_ (k : Nat) (hk : k ≤ 512) (w : World)  :
    Calls Tryz.prog 143 [.int .i64 (k : Int)].toArray w (fun e w' => ∃ v, e = .returned v ∧ Ext w w' ∧ Slf w.heap.size w' v (dl (2 ^ k))) := by
 refine e6_ (N := 16) Tryz.func143 rfl rfl (by simp) ?_
 obtain ⟨w0, rfl⟩ : ∃ w0, w0 = w := ⟨_, rfl⟩
 simp only [initF, Nat.reduceAdd]
 refine Sq fun K1 J1 => Rk fun K J => sE rfl (nl J (J1 _ _ (Sq fun K2 J2 => Rk fun K J => sE rfl (sQ (q_as (q_quo rfl rfl (by decide)) (congrArg (Value.int .i64) (shq 16 (by decide) (by omega)))) rfl (sQ (q_as (q_add rfl rfl) (congrArg (Value.int .i64) (c4_ (by omega)))) rfl (WL_r rfl (mU_ us_81 on_3 z_3 rfl rfl (by omega) (fun b7 hb7 => sE rfl (nl J (J2 _ _ (Sq fun K3 J3 => Rk fun K J => sE rfl (sE rfl (sQ (q_as (q_quo rfl rfl (by decide)) (congrArg (Value.int .i64) (shq 16 (by decide) (by omega)))) rfl (sE rfl ?_))))))))))))))
 refine sQ (q_as (q_rem rfl rfl (by decide)) (congrArg (Value.int .i64) (shr 16 k))) rfl (sQ (q_as (q_shl rfl rfl (Int.natCast_nonneg _)) (congrArg (Value.int .i64) (shl1 k))) rfl (sQ (h6_ sl_81 rfl rfl (by omega) (by omega)) rfl (WL_r rfl (ic_ ty_3 rfl rfl (by repeat (first | exact .head _ | apply Upd.left | apply Upd.tail)) (by simp) (.inl (by assumption)) ?_))))
 refine nl J (J3 _ _ (Sq fun K4 J4 => Rk fun K J => sE rfl (sE rfl (nl J (J4 _ _ (W_ret (ret1 rfl (.inr rfl) rfl ?_)))))))
 (rw [← ru_ k]; exact SLf.mine hb7 (.head _) (by simp) (Nat.le_refl _))
theorem gQ_ (va : Value) (n k : Nat) (hk : k ≤ 1000000) (w : World) (hva : Sl w va (dl n)) :
    Calls Tryz.prog 100 [va, .int .i64 (k : Int)].toArray w (fun e w' => e = .returned (.int .i64 ((n / 2 ^ k % 2 : Nat) : Int)) ∧ Ext w w') := by
 refine c8_ (N := 13) Tryz.func100 rfl rfl (by simp) ?_
 obtain ⟨w0, rfl⟩ : ∃ w0, w0 = w := ⟨_, rfl⟩
 simp only [initF, Nat.reduceAdd]
 refine Sq fun K1 J1 => Rk fun K J => sE rfl (nl J (J1 _ _ (Sq fun K2 J2 => Rk fun K J => sE rfl (sE rfl (sQ (q_as (q_quo rfl rfl (by decide)) (congrArg (Value.int .i64) (shq 16 (by decide) (by omega)))) rfl (sQ (q_as (bY_ hw_ rfl (fun w hw => b4_ va (dl n) (k / 16) w (SL.sl (M := _) hva.old hw))) (congrArg (fun z : Nat => Value.int .i64 (z : Int)) (hV_ n (k / 16)))) rfl (sE rfl (sQ (q_as (q_rem rfl rfl (by decide)) (congrArg (Value.int .i64) (shr 16 k))) rfl (sQ (q_shr rfl rfl (Int.natCast_nonneg _)) rfl (sQ (q_as (q_rem rfl rfl (by decide)) (congrArg (Value.int .i64) (q3_ n k))) rfl (sE rfl (nl J (J2 _ _ (W_ret (ret1 rfl (.inr rfl) rfl ?_)))))))))))))))
 exact rfl

theorem cT_ (a : R) (ha : a.Ok) :
    Ret Tryz.prog 52 [RV a] (.int .i64 ((a.dec.bits : Nat) : Int)) := by
 refine as_ (N := 25) Tryz.func52 rfl rfl (by simp) (fun w0 => ?_)
 simp only [initF, Nat.reduceAdd]
 refine Sq fun K1 J1 => Rk fun K J => WL_r rfl (r_box rfl rfl (fun b1 hb1 => sE rfl (nl J (J1 _ _ (Sq fun K2 J2 => Sq fun K3 J3 => Rk fun K J => sQ (aN_ ty_37 rfl (by repeat (first | exact .head _ | apply List.mem_append_right | apply List.Mem.tail)) (aM_ ha)) rfl ?_)))))
 refine sQ (q_ret en_86 (aD_ a ha) rfl) rfl (sE rfl (nl J (J3 _ _ ?_)))
 refine a4_ _ rfl (fun hg => ?_) (fun hg => ?_)
 ·(try simp only [decide_eq_true_eq, decide_eq_false_iff_not, beq_iff_eq, bne_iff_ne, beq_eq_false_iff_ne, bne_eq_false_iff_eq, Bool.not_eq_true', Bool.not_eq_false'] at hg)
  refine Sq fun K4 J4 => Rk fun K J => sE rfl (nl J (J4 _ _ (W_ret (af_ (ret1 rfl (.inr rfl) rfl ?_)))))
  exact congrArg (fun z : Nat => Value.int .i64 (z : Int)) (pc_ (by simpa using hg)).symm
 ·(try simp only [decide_eq_true_eq, decide_eq_false_iff_not, beq_iff_eq, bne_iff_ne, beq_eq_false_iff_ne, bne_eq_false_iff_eq, Bool.not_eq_true', Bool.not_eq_false'] at hg)
  refine aj_ (J2 _ _ (Sq fun K5 J5 => Rk fun K J => sQ (aN_ ty_37 rfl (by repeat (first | exact .head _ | apply List.mem_append_right | apply List.Mem.tail)) (aM_ ha)) rfl ?_))
  refine WL_r rfl (bF_ en_87 rfl (fun w hw => aE_ a ha w) (fun v L hv => sE rfl (nl J (J5 _ _ (Sq fun K6 J6 => ?_)))))
  have hl32 : (dl (val a.w)).length ≤ 32 := cv_ (by rw [← jd_]; have := gw_ a.w ha.lim; rwa [ha.len] at this)
  refine Rk fun K J => sE rfl (sQ (dV_ sl_81 rfl (SL.sub hv.sl (List.sublist_append_left _ _))) rfl (sQ (q_as (q_mul rfl rfl) (congrArg (Value.int .i64) (mul16 (Nat.le_trans hl32 (by decide))))) rfl (sE rfl (nl J (J6 _ _ (Sq fun K7 J7 => ao_ ?_))))))
  refine bI_ [4, 13, 14, 15, 16, 17, 18, 19, 20, 21, 22, 23] (fun g nn M => ∃ (k : Nat), (g 4 = .int .i64 (k : Int)) ∧ M = L ++ [⟨b1, 37, a.cells⟩] ∧ nn = k + 0 ∧ (k ≤ 16 * (dl (val a.w)).length ∧ val a.w < 2 ^ k)) (16 * (dl (val a.w)).length) ?start ?round
  case start =>
   refine ⟨_, (List.Sublist.refl _), 16 * (dl (val a.w)).length, ?a4, ?mem0, rfl, ⟨Nat.le_refl _, mg_ _⟩⟩
   case mem0 => rfl
   case a4 => rfl
  case round =>
   rintro nn g M ⟨k, hg4, rfl, hmeas, ⟨hk, hlt⟩⟩
   subst nn
   simp only [setG, hg4]
   clear hg4
   refine Sq fun K8 J8 => Sq fun K9 J9 => Rk fun K J => sE rfl (sE rfl (sE rfl ?_))
   cases hz : decide ((0 : Int) < (k : Int))
   ·skip
    refine WL_n rfl (WL_n rfl (WL_n rfl (WL_n rfl (WL_n rfl (sE rfl (nl J (J9 _ _ (bU_ rfl (bG_ (aw_ (aw_ (aC_ (J7 _ _ (Sq fun K10 J10 => Rk fun K J => sE rfl (sE rfl (nl J (J10 _ _ (W_ret (ret1 rfl (.inr rfl) rfl ?_)))))))))))))))))))
    exact congrArg (fun z : Nat => Value.int .i64 (z : Int)) (qT_ ha (by simpa using hg) hlt (by have := of_decide_eq_false hz; omega)).symm
   ·skip
    have hz' := of_decide_eq_true hz
    obtain ⟨m, rfl⟩ : ∃ m, k = m + 1 := ⟨k - 1, by omega⟩
    refine sE rfl (sE rfl (sQ (q_as (q_sub rfl rfl) (congrArg (Value.int .i64) (g5_ (by omega)))) rfl (sQ (bY_ so_ rfl (fun w hw => gQ_ v (val a.w) m (by omega) w (SL.sl (SL.sub hv.sl (List.sublist_append_left _ _)) hw))) rfl (sE rfl (sE rfl (nl J (J9 _ _ ?_)))))))
    refine a4_ _ rfl (fun h0 => ?_) (fun h0 => ?_)
    ·(try simp only [decide_eq_true_eq, decide_eq_false_iff_not, beq_iff_eq, bne_iff_ne, beq_eq_false_iff_ne, bne_eq_false_iff_eq, Bool.not_eq_true', Bool.not_eq_false'] at h0)
     refine aj_ (J8 _ _ (ao_ (Rk fun K J => sE rfl (sQ (q_as (q_sub rfl rfl) (congrArg (Value.int .i64) (g5_ (by omega)))) rfl (sE rfl (nl J ?_))))))
     refine ⟨(by repeat first | exact .refl | refine .cons rfl ?_), _, _, (List.Sublist.refl _), (by omega), m, ?s4, ?mem, rfl, ⟨by omega, mG_ hlt (by omega)⟩⟩
     case mem => rfl
     case s4 => rfl
    ·(try simp only [decide_eq_true_eq, decide_eq_false_iff_not, beq_iff_eq, bne_iff_ne, beq_eq_false_iff_ne, bne_eq_false_iff_eq, Bool.not_eq_true', Bool.not_eq_false'] at h0)
     refine bG_ (aw_ (aw_ (aC_ (J7 _ _ (Sq fun K11 J11 => Rk fun K J => sE rfl (sE rfl (nl J (J11 _ _ (W_ret (ret1 rfl (.inr rfl) rfl ?_))))))))))
     exact congrArg (fun z : Nat => Value.int .i64 (z : Int)) ((gE_ ha (by simpa using hg)).trans (qE_ hlt (by omega))).symm
end Go.Proofs.YtapbefpeopaecaaGreatDoor

