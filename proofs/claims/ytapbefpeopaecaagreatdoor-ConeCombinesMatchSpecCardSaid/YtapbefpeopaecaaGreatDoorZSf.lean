/- Walks: what these functions return. -/
import Derived.Test.YtapbefpeopaecaaGreatDoorZFa0
import Derived.Test.YtapbefpeopaecaaGreatDoorZSa
import Derived.Test.YtapbefpeopaecaaGreatDoorZSb
namespace Go.Proofs.YtapbefpeopaecaaGreatDoor
open Go.Kn Go.Num
set_option linter.unusedVariables false
set_option linter.unusedSimpArgs false
set_option maxRecDepth 20000
set_option maxHeartbeats 8000000
theorem bW_ (a : R) (ha : a.Ok) :
    Ret Tryz.prog 88 [RV a] (.tuple #[.int .i64 (wordI a), .bool (wordB a)]) := by
 refine as_ (N := 41) Tryz.func88 rfl rfl (by simp) (fun w0 => ?_)
 simp only [initF, Nat.reduceAdd]
 refine Sq fun K1 J1 => Rk fun K J => WL_r rfl (r_box rfl rfl (fun b1 hb1 => sE rfl (sE rfl (nl J (J1 _ _ (Sq fun K2 J2 => Rk fun K J => sQ (aN_ ty_37 rfl (by repeat (first | exact .head _ | apply List.mem_append_right | apply List.Mem.tail)) (aM_ ha)) rfl ?_))))))
 refine sQ (q_ret en_86 (aD_ a ha) rfl) rfl (sE rfl (nl J (J2 _ _ (Sq fun K3 J3 => Sq fun K4 J4 => Rk fun K J => sE rfl (sE rfl (sE rfl ?_))))))
 cases hg : a.good
 ·skip
  refine WL_n rfl (WL_n rfl (WL_n rfl (WL_n rfl (sE rfl (nl J (J4 _ _ (bQ_ rfl (Sq fun K5 J5 => Rk fun K J => sE rfl (sE rfl (nl J (J5 _ _ (W_ret (af_ (ret2 rfl (.inr rfl) rfl rfl ?_))))))))))))))
  exact n3_ hg
 ·skip
  refine sQ (aS_ bJ_ (by decide) rfl) rfl (sQ (b3_ ar_35 rfl rfl (by decide) (by decide)) rfl (sQ (bn_ ty_34 rfl (by repeat (first | exact .head _ | apply List.mem_append_right | apply List.Mem.tail)) (dU_ (r := a) (k := 1) (by rw [ha.len]; decide))) rfl ?_))
  refine sE rfl (sE rfl (nl J (J4 _ _ ?_)))
  refine a4_ _ rfl (fun h16 => ?_) (fun h16 => ?_)
  ·(try simp only [decide_eq_true_eq, decide_eq_false_iff_not, beq_iff_eq, bne_iff_ne, beq_eq_false_iff_ne, bne_eq_false_iff_eq, Bool.not_eq_true', Bool.not_eq_false'] at h16)
   refine Sq fun K6 J6 => Rk fun K J => sE rfl (sE rfl (nl J (J6 _ _ (W_ret (af_ (ret2 rfl (.inr rfl) rfl rfl ?_))))))
   exact li_ (oG_ ha h16)
  ·(try simp only [decide_eq_true_eq, decide_eq_false_iff_not, beq_iff_eq, bne_iff_ne, beq_eq_false_iff_ne, bne_eq_false_iff_eq, Bool.not_eq_true', Bool.not_eq_false'] at h16)
   refine aj_ (J3 _ _ (Sq fun K7 J7 => Sq fun K8 J8 => Rk fun K J => sE rfl (nl J (J8 _ _ (ao_ ?_)))))
   refine bI_ [2, 3, 5, 17, 18, 19, 20, 21, 22, 23, 24, 25] (fun g nn M => ∃ (k : Nat), (g 5 = .int .i64 (k : Int)) ∧ M = [⟨b1, 37, a.cells⟩] ∧ nn = 16 - k ∧ (2 ≤ k ∧ k ≤ 16 ∧ ∀ j, 2 ≤ j → j < k → a.w.getD j 0 = 0)) (14) ?start ?round
   case start =>
    refine ⟨_, (List.Sublist.refl _), 2, ?a5, ?mem0, rfl, ⟨Nat.le_refl _, by decide, fun j h1 h2 => by omega⟩⟩
    case mem0 => rfl
    case a5 => rfl
   case round =>
    rintro nn g M ⟨k, hg5, rfl, hmeas, ⟨hk2, hk, hz⟩⟩
    subst nn
    simp only [setG, hg5]
    clear hg5
    refine Sq fun K9 J9 => Sq fun K10 J10 => Rk fun K J => sE rfl (sE rfl (nl J (J10 _ _ ?_)))
    refine a4_ _ rfl (fun hc => ?_) (fun hc => ?_)
    ·(try simp only [decide_eq_true_eq, decide_eq_false_iff_not, beq_iff_eq, bne_iff_ne, beq_eq_false_iff_ne, bne_eq_false_iff_eq, Bool.not_eq_true', Bool.not_eq_false'] at hc)
     have hc : k < 16 := by omega
     refine aj_ (J9 _ _ (Sq fun K11 J11 => ao_ (Sq fun K12 J12 => Rk fun K J => sE rfl (sQ (aS_ bJ_ (by decide) rfl) rfl (sQ (b3_ ar_35 rfl rfl (by omega) (by omega)) rfl (sQ (bn_ ty_34 rfl (by repeat (first | exact .head _ | apply List.mem_append_right | apply List.Mem.tail)) (dU_ (r := a) (k := k) (by rw [ha.len]; omega))) rfl ?_))))))
     refine sE rfl (nl J (J12 _ _ ?_))
     refine a4_ _ rfl (fun hz2 => ?_) (fun hz2 => ?_)
     ·(try simp only [decide_eq_true_eq, decide_eq_false_iff_not, beq_iff_eq, bne_iff_ne, beq_eq_false_iff_ne, bne_eq_false_iff_eq, Bool.not_eq_true', Bool.not_eq_false'] at hz2)
      refine Sq fun K13 J13 => Rk fun K J => sE rfl (sE rfl (nl J (J13 _ _ (W_ret (aH_ (af_ (af_ (aH_ (af_ (ret2 rfl (.inr rfl) rfl rfl ?_))))))))))
      exact li_ (mV_ ha hk2 (by omega))
     ·(try simp only [decide_eq_true_eq, decide_eq_false_iff_not, beq_iff_eq, bne_iff_ne, beq_eq_false_iff_ne, bne_eq_false_iff_eq, Bool.not_eq_true', Bool.not_eq_false'] at hz2)
      refine aj_ (J11 _ _ (Rk fun K J => sE rfl (sQ (q_as (q_add rfl rfl) (congrArg (Value.int .i64) (c4_ (by omega)))) rfl (sE rfl (nl J ?_)))))
      refine ⟨(by repeat first | exact .refl | refine .cons rfl ?_), _, _, (List.Sublist.refl _), (by omega), k + 1, ?s5, ?mem, rfl, ⟨by omega, by omega, fun j h1 h2 => by rcases Nat.eq_or_lt_of_le (Nat.le_of_lt_succ h2) with rfl | h3; omega; exact hz j h1 h3⟩⟩
      case mem => rfl
      case s5 => rfl
    ·(try simp only [decide_eq_true_eq, decide_eq_false_iff_not, beq_iff_eq, bne_iff_ne, beq_eq_false_iff_ne, bne_eq_false_iff_eq, Bool.not_eq_true', Bool.not_eq_false'] at hc)
     obtain rfl : k = 16 := by omega
     have hws := lf_ ha (by omega) hz
     refine bG_ (aw_ (aw_ (aC_ (J7 _ _ (Sq fun K14 J14 => Rk fun K J => sQ (aS_ bJ_ (by decide) rfl) rfl (sQ (b3_ ar_35 rfl rfl (by decide) (by decide)) rfl (sQ (bn_ ty_34 rfl (by repeat (first | exact .head _ | apply List.mem_append_right | apply List.Mem.tail)) (dU_ (r := a) (k := 1) (by rw [ha.len]; decide))) rfl ?_)))))))
     refine sQ (bH_ in_34 in_3 rfl) rfl (sE rfl (sQ (aS_ bJ_ (by decide) rfl) rfl (sQ (b3_ ar_35 rfl rfl (by decide) (by decide)) rfl (sQ (bn_ ty_34 rfl (by repeat (first | exact .head _ | apply List.mem_append_right | apply List.Mem.tail)) (dU_ (r := a) (k := 0) (by rw [ha.len]; decide))) rfl ?_))))
     refine sQ (bH_ in_34 in_3 rfl) rfl (sQ (q_as (q_add rfl rfl) (congrArg (Value.int .i64) ((lf_ ha (by omega) hz).1))) rfl (sE rfl (nl J (J14 _ _ (Sq fun K15 J15 => Sq fun K16 J16 => Rk fun K J => sQ (aS_ by_ (by decide) rfl) rfl (sQ (bn_ ty_4 rfl (by repeat (first | exact .head _ | apply List.mem_append_right | apply List.Mem.tail)) rfl) rfl ?_))))))
     refine nl J (J16 _ _ ?_)
     refine a4_ _ rfl (fun hn => ?_) (fun hn => ?_)
     ·(try simp only [decide_eq_true_eq, decide_eq_false_iff_not, beq_iff_eq, bne_iff_ne, beq_eq_false_iff_ne, bne_eq_false_iff_eq, Bool.not_eq_true', Bool.not_eq_false'] at hn)
      refine Sq fun K17 J17 => Rk fun K J => sE rfl (sE rfl (sE rfl (sE rfl (nl J (J17 _ _ (W_ret (af_ (ret2 rfl (.inr rfl) rfl rfl ?_))))))))
      exact om_ hg hws.2 hn
     ·(try simp only [decide_eq_true_eq, decide_eq_false_iff_not, beq_iff_eq, bne_iff_ne, beq_eq_false_iff_ne, bne_eq_false_iff_eq, Bool.not_eq_true', Bool.not_eq_false'] at hn)
      refine aj_ (J15 _ _ (Sq fun K18 J18 => Rk fun K J => sE rfl (sE rfl (sE rfl (nl J (J18 _ _ (W_ret (ret2 rfl (.inr rfl) rfl rfl ?_))))))))
      exact oL_ hg hws.2 hn

theorem aW_ (n : Int) (hn : I64 n) :
    Ret Tryz.prog 74 [.int .i64 n] (RV (Z.of n).enc) := by
 refine as_ (N := 35) Tryz.func74 rfl rfl (by simp) (fun w0 => ?_)
 simp only [initF, Nat.reduceAdd]
 unfold I64 at hn
 refine Sq fun K1 J1 => Rk fun K J => WL_r rfl (br_ z_37 (fun b2 hb2 => nl J (J1 _ _ (Sq fun K2 J2 => Sq fun K3 J3 => Rk fun K J => sE rfl (sE rfl (nl J (J3 _ _ ?_)))))))
 refine a4_ _ rfl (fun h0 => ?_) (fun h0 => ?_)
 ·(try simp only [decide_eq_true_eq, decide_eq_false_iff_not, beq_iff_eq, bne_iff_ne, beq_eq_false_iff_ne, bne_eq_false_iff_eq, Bool.not_eq_true', Bool.not_eq_false'] at h0)
  obtain ⟨m, rfl⟩ : ∃ m : Nat, n = m := ⟨n.toNat, by omega⟩
  refine Sq fun K4 J4 => Rk fun K J => sE rfl (sQ (q_as (q_rem rfl rfl (by decide)) (show _ = IV (m % 65536) from remI _)) rfl (sE rfl (sQ (q_as (q_quo rfl rfl (by decide)) (quo_c 65536 (by omega))) rfl (sQ (q_as (q_rem rfl rfl (by decide)) (show _ = IV (m / 65536 % 65536) from remI _)) rfl (sE rfl (sQ (q_as (q_quo rfl rfl (by decide)) (quo_c 4294967296 (by omega))) rfl (sQ (q_as (q_rem rfl rfl (by decide)) (show _ = IV (m / 4294967296 % 65536) from remI _)) rfl (sE rfl (sQ (q_as (q_quo rfl rfl (by decide)) (quo_c 281474976710656 (by omega))) rfl (WL_r rfl (cM_ us_81 z_3 sz_3 rfl (by decide) rfl (pu_ _ _ _ _) (fun b16 hb16 => sQ (bY_ en_93 rfl (fun w hw => a5_ false _ (dl4 m) (pA_ (by omega)) (by simp [dl4]) w (SL.sl (SL.mine (l := dl4 m) (.head _) (Nat.le_refl _)) hw))) rfl ?_))))))))))))
  refine WL_r rfl (aF_ ty_37 rfl rfl (by repeat (first | exact .head _ | apply Upd.left | apply Upd.tail)) (ad_ _) rfl (at_ _) (.inl (by assumption)) ?_)
  refine nl J (J4 _ _ (W_ret (af_ (ret1 rfl (.inr rfl) ⟨_, _, _, _, _, _, rfl, (by repeat (first | exact .head _ | apply List.mem_append_right | apply List.Mem.tail)), ty_37, _, (be_ (ad_ _)), (ad_ _), rfl⟩ ?_))))
  (rw [nG_, sgn_f]; rfl)
 ·(try simp only [decide_eq_true_eq, decide_eq_false_iff_not, beq_iff_eq, bne_iff_ne, beq_eq_false_iff_ne, bne_eq_false_iff_eq, Bool.not_eq_true', Bool.not_eq_false'] at h0)
  obtain ⟨m, rfl⟩ : ∃ m : Nat, n = -((m : Int) + 1) := ⟨(-n - 1).toNat, by omega⟩
  refine aj_ (J2 _ _ (Sq fun K5 J5 => Rk fun K J => sE rfl (sE rfl (sQ (q_as (q_neg rfl) (congrArg (Value.int .i64) (qp_ (by omega)))) rfl (sE rfl (nl J (J5 _ _ (Sq fun K6 J6 => Rk fun K J => sE rfl (sQ (q_as (q_rem rfl rfl (by decide)) (show _ = IV (m % 65536) from remI _)) rfl (sE rfl (sQ (q_as (q_quo rfl rfl (by decide)) (quo_c 65536 (by omega))) rfl (sQ (q_as (q_rem rfl rfl (by decide)) (show _ = IV (m / 65536 % 65536) from remI _)) rfl (sE rfl (sQ (q_as (q_quo rfl rfl (by decide)) (quo_c 4294967296 (by omega))) rfl (sQ (q_as (q_rem rfl rfl (by decide)) (show _ = IV (m / 4294967296 % 65536) from remI _)) rfl ?_)))))))))))))))
  refine sE rfl (sQ (q_as (q_quo rfl rfl (by decide)) (quo_c 281474976710656 (by omega))) rfl (WL_r rfl (cM_ us_81 z_3 sz_3 rfl (by decide) rfl (pu_ _ _ _ _) (fun b31 hb31 => WL_r rfl (cM_ us_81 z_3 sz_3 rfl (by decide) rfl (h3_ 1) (fun b32 hb32 => WL_r rfl (bF_ l1_ rfl (fun w hw => dy_ _ _ (dl4 m) [1] (pA_ (by omega)) (DL.one (by decide)) (by simp [dl4]) (by simp) w (SL.sl (SL.mine (l := dl4 m) (.tail _ (.head _)) (Nat.le_refl _)) hw) (SL.sl (SL.mine (l := [1]) (.head _) (Nat.le_refl _)) hw)) (fun v9 L9 h9 => ?_))))))))
  refine sQ (bY_ en_93 rfl (fun w hw => a5_ true _ _ (dl_DL _) (Nat.le_trans (cv_ (k := 64) (by rw [nG_]; simp only [dv]; omega)) (by decide)) w (SL.sl (h9.sl.sub (List.sublist_append_left _ _)) hw))) rfl (WL_r rfl (aF_ ty_37 rfl rfl (by repeat (first | exact .head _ | apply Upd.left | apply Upd.tail)) (ad_ _) rfl (at_ _) (.inl (by assumption)) ?_))
  refine nl J (J6 _ _ (W_ret (ret1 rfl (.inr rfl) ⟨_, _, _, _, _, _, rfl, (by repeat (first | exact .head _ | apply List.mem_append_right | apply List.Mem.tail)), ty_37, _, (be_ (ad_ _)), (ad_ _), rfl⟩ ?_)))
  (rw [dv_dl, nG_]; simp only [dv, Nat.mul_zero, Nat.add_zero]; rw [sgn_S]; rfl)
end Go.Proofs.YtapbefpeopaecaaGreatDoor

