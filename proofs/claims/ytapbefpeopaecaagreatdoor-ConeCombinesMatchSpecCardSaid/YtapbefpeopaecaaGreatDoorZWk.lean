/- Walks: what these functions return. -/
import Derived.Test.YtapbefpeopaecaaGreatDoorZFa0
import Derived.Test.YtapbefpeopaecaaGreatDoorZWa
import Derived.Test.YtapbefpeopaecaaGreatDoorZWc
import Derived.Test.YtapbefpeopaecaaGreatDoorZWd
import Derived.Test.YtapbefpeopaecaaGreatDoorZWh
namespace Go.Proofs.YtapbefpeopaecaaGreatDoor
open Go.Kn Go.Num
set_option linter.unusedVariables false
set_option linter.unusedSimpArgs false
set_option maxRecDepth 20000
set_option maxHeartbeats 8000000
theorem ik_ (a : R) (ha : a.Ok) (m : Nat) (hm : (m : Int) ≤ 9223372036854775807) :
    Ret Tryz.prog 95 [RV a, .int .i64 (m : Int)] (RV (Z.shl a.dec (m : Int)).enc) := by
 refine as_ (N := 75) Tryz.func95 rfl rfl (by simp) (fun w0 => ?_)
 simp only [initF, Nat.reduceAdd]
 refine Sq fun K1 J1 => Rk fun K J => WL_r rfl (r_box rfl rfl (fun b2 hb2 => WL_r rfl (br_ z_37 (fun b4 hb4 => nl J (J1 _ _ (Sq fun K2 J2 => ao_ (Sq fun K3 J3 => Rk fun K J => sQ (aN_ ty_37 rfl (by repeat (first | exact .head _ | apply List.mem_append_right | apply List.Mem.tail)) (aM_ ha)) rfl ?_)))))))
 refine WL_r rfl (cM_ fi_ z_37 sz_37 rfl (by decide) rfl (gA_ ha) (fun b9 hb9 => sQ (bY_ fj_ rfl (fun w hw => ci_ [a] (ok1 ha) b9 37 w (hw.mem _ m0) (by simp))) rfl ?_))
 refine sE rfl (sE rfl (nl J (J3 _ _ ?_)))
 refine a4_ _ rfl (fun hg => ?_) (fun hg => ?_)
 ·(try simp only [decide_eq_true_eq, decide_eq_false_iff_not, beq_iff_eq, bne_iff_ne, beq_eq_false_iff_ne, bne_eq_false_iff_eq, Bool.not_eq_true', Bool.not_eq_false'] at hg)
  refine Sq fun K4 J4 => Rk fun K J => sQ (q_ret e7_ cd_ rfl) rfl (WL_r rfl (aF_ ty_37 rfl rfl (by repeat (first | exact .head _ | apply Upd.left | apply Upd.tail)) (ad_ _) rfl (at_ _) (.inl (by assumption)) ?_))
  refine nl J (J4 _ _ (W_ret (aH_ (af_ (ret1 rfl (.inr rfl) ⟨_, _, _, _, _, _, rfl, (by repeat (first | exact .head _ | apply List.mem_append_right | apply List.Mem.tail)), ty_37, _, (be_ (ad_ _)), (ad_ _), rfl⟩ ?_)))))
  (rw [Z.shl, gL_ (by unfold R.dec; rw [if_neg (by simpa using hg)]; rfl)]; rfl)
 ·(try simp only [decide_eq_true_eq, decide_eq_false_iff_not, beq_iff_eq, bne_iff_ne, beq_eq_false_iff_ne, bne_eq_false_iff_eq, Bool.not_eq_true', Bool.not_eq_false'] at hg)
  refine Sq fun K5 J5 => Rk fun K J => sQ (aN_ ty_37 rfl (by repeat (first | exact .head _ | apply List.mem_append_right | apply List.Mem.tail)) (aM_ ha)) rfl ?_
  refine sQ (q_ret fQ_ (cx_ a ha) rfl) rfl (sE rfl (sE rfl (nl J (J5 _ _ ?_))))
  refine a4_ _ rfl (fun hs => ?_) (fun hs => ?_)
  ·(try simp only [decide_eq_true_eq, decide_eq_false_iff_not, beq_iff_eq, bne_iff_ne, beq_eq_false_iff_ne, bne_eq_false_iff_eq, Bool.not_eq_true', Bool.not_eq_false'] at hs)
   refine Sq fun K6 J6 => Rk fun K J => sQ (aN_ ty_37 rfl (by repeat (first | exact .head _ | apply List.mem_append_right | apply List.Mem.tail)) (aM_ ha)) rfl ?_
   refine WL_r rfl (aF_ ty_37 rfl rfl (by repeat (first | exact .head _ | apply Upd.left | apply Upd.tail)) (aM_ ha) rfl (at_ _) (.inl (by assumption)) ?_)
   refine nl J (J6 _ _ (W_ret (aH_ (af_ (ret1 rfl (.inr rfl) ⟨_, _, _, _, _, _, rfl, (by repeat (first | exact .head _ | apply List.mem_append_right | apply List.Mem.tail)), ty_37, _, (be_ (aM_ ha)), (aM_ ha), rfl⟩ ?_)))))
   exact congrArg RV (qK_ ha (by simpa using hg) hs m)
  ·(try simp only [decide_eq_true_eq, decide_eq_false_iff_not, beq_iff_eq, bne_iff_ne, beq_eq_false_iff_ne, bne_eq_false_iff_eq, Bool.not_eq_true', Bool.not_eq_false'] at hs)
   refine Sq fun K7 J7 => Rk fun K J => sE rfl (sE rfl (sE rfl ?_))
   cases h5 : decide ((m : Int) ≥ 512)
   ·skip
    refine sE rfl (sE rfl (sE rfl ?_))
    cases h6 : decide ((m : Int) > 0)
    ·skip
     refine WL_n rfl (WL_n rfl (WL_n rfl (WL_n rfl (WL_n rfl (sE rfl (sE rfl (sE rfl (nl J (J7 _ _ (bU_ rfl (Sq fun K8 J8 => Rk fun K J => sE rfl (sE rfl (sE rfl (nl J (J8 _ _ ?_)))))))))))))))
     refine a4_ _ rfl (fun h33 => ?_) (fun h33 => ?_)
     ·(try simp only [decide_eq_true_eq, decide_eq_false_iff_not, beq_iff_eq, bne_iff_ne, beq_eq_false_iff_ne, bne_eq_false_iff_eq, Bool.not_eq_true', Bool.not_eq_false'] at h33)
      exact absurd h33 (by omega) --done
     ·(try simp only [decide_eq_true_eq, decide_eq_false_iff_not, beq_iff_eq, bne_iff_ne, beq_eq_false_iff_ne, bne_eq_false_iff_eq, Bool.not_eq_true', Bool.not_eq_false'] at h33)
      refine aj_ (J2 _ _ (Sq fun K9 J9 => ?_))
      have hm5 : m < 512 := by have := of_decide_eq_false h5; omega
      have hfar : m / 32 ≤ 15 := by omega
      refine Rk fun K J => WL_r rfl (br_ z_35 (fun b5 hb5 => nl J (J9 _ _ (Sq fun K10 J10 => Rk fun K J => sE rfl (sQ (q_as (q_quo rfl rfl (by decide)) (congrArg (Value.int .i64) (shq 32 (by decide) hm))) rfl (sE rfl (nl J (J10 _ _ (Sq fun K11 J11 => Sq fun K12 J12 => Rk fun K J => sE rfl (sE rfl (nl J (J12 _ _ ?_))))))))))))
      refine a4_ _ rfl (fun h42 => ?_) (fun h42 => ?_)
      ·(try simp only [decide_eq_true_eq, decide_eq_false_iff_not, beq_iff_eq, bne_iff_ne, beq_eq_false_iff_ne, bne_eq_false_iff_eq, Bool.not_eq_true', Bool.not_eq_false'] at h42)
       refine Sq fun K13 J13 => dr (sd (sk (sk (sk (s0))))) [0,4,8,12,17] [4] mix (by kernel_rfl) (fun K J => pE rfl (pQ rfl (gB_ ar_35 rfl rfl rfl (by omega) (by omega) (by omega) (by omega)) (pQ rfl (aS_ bJ_ (by decide) rfl) (pQ rfl (gB_ ar_35 rfl rfl rfl (by decide) (by decide) (by decide) (by decide)) ?_))))
       refine PL_o rfl rfl (l6_ lN_ rfl rfl (by repeat (first | exact .head _ | apply List.mem_append_right | apply List.Mem.tail)) (by repeat (first | exact .head _ | apply Upd.left | apply Upd.tail)) (fun v hv => at_ a v (List.mem_of_mem_drop (List.mem_of_mem_take hv))) (by rw [aM_ ha]; omega) (by simp [uw]; omega) (ld_ ha hfar) (.inl (by assumption)) ⟨nf, (by repeat (first | exact s0 | exact sn | refine sk ?_ | refine sd ?_ | refine sA ?_ | refine sR ?_)), ?_⟩)
       refine fl J (J13 _ _ (Sq fun K14 J14 => Rk fun K J => sQ (aN_ ty_35 rfl (by repeat (first | exact .head _ | apply List.mem_append_right | apply List.Mem.tail)) (by simp [uw, hU_ ha.len (show m / 32 ≤ 16 by omega)])) rfl ?_))
       refine sE rfl (sQ (q_as (q_rem rfl rfl (by decide)) (congrArg (Value.int .i64) (shr 32 m))) rfl (sQ (q_ret k0_ (fF_ (shw a.w (m / 32)) (hU_ ha.len (by omega)) (nh_ ha.lim) (m % 32) (Nat.mod_lt _ (by decide))) rfl) rfl (sE rfl (sE rfl (sE rfl (WL_r rfl (aF_ ty_35 rfl rfl (by repeat (first | exact .head _ | apply Upd.left | apply Upd.tail)) (by simp [uw, a2_]) (by simp [uw, hU_ ha.len (show m / 32 ≤ 16 by omega)]) (cw_ _) (.inl (by assumption)) ?_)))))))
       refine nl J (J14 _ _ (Sq fun K15 J15 => Rk fun K J => sQ (aS_ by_ (by decide) rfl) rfl (sQ (bn_ (v := .bool a.neg) ty_4 rfl (by repeat (first | exact .head _ | apply List.mem_append_right | apply List.Mem.tail)) rfl) rfl ?_)))
       refine sQ (aN_ ty_35 rfl (by repeat (first | exact .head _ | apply List.mem_append_right | apply List.Mem.tail)) (by simp [uw, a2_])) rfl ?_
       refine sQ (q_ret eQ_ (bx_ a.neg (toL 16 (val (shw a.w (m / 32)) * 2 ^ (m % 32))) (by simp [a2_]) (dv_ _ _)) rfl) rfl ?_
       refine WL_r rfl (aF_ ty_37 rfl rfl (by repeat (first | exact .head _ | apply Upd.left | apply Upd.tail)) (cS_ (by simp [a2_])) rfl (at_ _) (.inl (by assumption)) ?_)
       refine nl J (J15 _ _ (W_ret (af_ (ret1 rfl (.inr rfl) ⟨_, _, _, _, _, _, rfl, (by repeat (first | exact .head _ | apply List.mem_append_right | apply List.Mem.tail)), ty_37, _, (be_ (cS_ (by simp [a2_]))), (cS_ (by simp [a2_])), rfl⟩ ?_))))
       exact congrArg RV (pS_ ha (by simpa using hg) (by have := Z.bits_le a.dec; have := of_decide_eq_false h6; omega) hm5)
      ·(try simp only [decide_eq_true_eq, decide_eq_false_iff_not, beq_iff_eq, bne_iff_ne, beq_eq_false_iff_ne, bne_eq_false_iff_eq, Bool.not_eq_true', Bool.not_eq_false'] at h42)
       exact absurd h42 (by omega) --done
    ·skip
     refine sQ (aN_ ty_37 rfl (by repeat (first | exact .head _ | apply List.mem_append_right | apply List.Mem.tail)) (aM_ ha)) rfl ?_
     refine sQ (q_ret mK_ (fN_ a ha) rfl) rfl (sE rfl (sQ (q_as (q_add rfl rfl) (congrArg (Value.int .i64) (show _ = ((a.dec.bits + m : Nat) : Int) from (wi (by have := Z.bits_le a.dec; have := of_decide_eq_false h5; omega)).trans (Int.natCast_add _ _).symm))) rfl (sE rfl (sE rfl (sE rfl (sE rfl (nl J (J7 _ _ ?_))))))))
     refine a4_ _ rfl (fun h18 => ?_) (fun h18 => ?_)
     ·(try simp only [decide_eq_true_eq, decide_eq_false_iff_not, beq_iff_eq, bne_iff_ne, beq_eq_false_iff_ne, bne_eq_false_iff_eq, Bool.not_eq_true', Bool.not_eq_false'] at h18)
      refine Sq fun K16 J16 => Rk fun K J => sQ (q_ret e7_ cd_ rfl) rfl (WL_r rfl (aF_ ty_37 rfl rfl (by repeat (first | exact .head _ | apply Upd.left | apply Upd.tail)) (ad_ _) rfl (at_ _) (.inl (by assumption)) ?_))
      refine nl J (J16 _ _ (W_ret (aH_ (af_ (ret1 rfl (.inr rfl) ⟨_, _, _, _, _, _, rfl, (by repeat (first | exact .head _ | apply List.mem_append_right | apply List.Mem.tail)), ty_37, _, (be_ (ad_ _)), (ad_ _), rfl⟩ ?_)))))
      exact congrArg RV (pj_ ha (by simpa using hg) hs (.inl (by omega)))
     ·(try simp only [decide_eq_true_eq, decide_eq_false_iff_not, beq_iff_eq, bne_iff_ne, beq_eq_false_iff_ne, bne_eq_false_iff_eq, Bool.not_eq_true', Bool.not_eq_false'] at h18)
      refine Sq fun K17 J17 => Rk fun K J => sE rfl (sE rfl (sE rfl (nl J (J17 _ _ ?_))))
      refine a4_ _ rfl (fun h33 => ?_) (fun h33 => ?_)
      ·(try simp only [decide_eq_true_eq, decide_eq_false_iff_not, beq_iff_eq, bne_iff_ne, beq_eq_false_iff_ne, bne_eq_false_iff_eq, Bool.not_eq_true', Bool.not_eq_false'] at h33)
       exact absurd h33 (by omega) --done
      ·(try simp only [decide_eq_true_eq, decide_eq_false_iff_not, beq_iff_eq, bne_iff_ne, beq_eq_false_iff_ne, bne_eq_false_iff_eq, Bool.not_eq_true', Bool.not_eq_false'] at h33)
       refine aj_ (J2 _ _ (Sq fun K18 J18 => ?_))
       have hm5 : m < 512 := by have := of_decide_eq_false h5; omega
       have hfar : m / 32 ≤ 15 := by omega
       refine Rk fun K J => WL_r rfl (br_ z_35 (fun b5 hb5 => nl J (J18 _ _ (Sq fun K19 J19 => Rk fun K J => sE rfl (sQ (q_as (q_quo rfl rfl (by decide)) (congrArg (Value.int .i64) (shq 32 (by decide) hm))) rfl (sE rfl (nl J (J19 _ _ (Sq fun K20 J20 => Sq fun K21 J21 => Rk fun K J => sE rfl (sE rfl (nl J (J21 _ _ ?_))))))))))))
       refine a4_ _ rfl (fun h42 => ?_) (fun h42 => ?_)
       ·(try simp only [decide_eq_true_eq, decide_eq_false_iff_not, beq_iff_eq, bne_iff_ne, beq_eq_false_iff_ne, bne_eq_false_iff_eq, Bool.not_eq_true', Bool.not_eq_false'] at h42)
        refine Sq fun K22 J22 => dr (sd (sk (sk (sk (s0))))) [0,4,8,12,17] [4] mix (by kernel_rfl) (fun K J => pE rfl (pQ rfl (gB_ ar_35 rfl rfl rfl (by omega) (by omega) (by omega) (by omega)) (pQ rfl (aS_ bJ_ (by decide) rfl) (pQ rfl (gB_ ar_35 rfl rfl rfl (by decide) (by decide) (by decide) (by decide)) ?_))))
        refine PL_o rfl rfl (l6_ lN_ rfl rfl (by repeat (first | exact .head _ | apply List.mem_append_right | apply List.Mem.tail)) (by repeat (first | exact .head _ | apply Upd.left | apply Upd.tail)) (fun v hv => at_ a v (List.mem_of_mem_drop (List.mem_of_mem_take hv))) (by rw [aM_ ha]; omega) (by simp [uw]; omega) (ld_ ha hfar) (.inl (by assumption)) ⟨nf, (by repeat (first | exact s0 | exact sn | refine sk ?_ | refine sd ?_ | refine sA ?_ | refine sR ?_)), ?_⟩)
        refine fl J (J22 _ _ (Sq fun K23 J23 => Rk fun K J => sQ (aN_ ty_35 rfl (by repeat (first | exact .head _ | apply List.mem_append_right | apply List.Mem.tail)) (by simp [uw, hU_ ha.len (show m / 32 ≤ 16 by omega)])) rfl ?_))
        refine sE rfl (sQ (q_as (q_rem rfl rfl (by decide)) (congrArg (Value.int .i64) (shr 32 m))) rfl (sQ (q_ret k0_ (fF_ (shw a.w (m / 32)) (hU_ ha.len (by omega)) (nh_ ha.lim) (m % 32) (Nat.mod_lt _ (by decide))) rfl) rfl (sE rfl (sE rfl (sE rfl (WL_r rfl (aF_ ty_35 rfl rfl (by repeat (first | exact .head _ | apply Upd.left | apply Upd.tail)) (by simp [uw, a2_]) (by simp [uw, hU_ ha.len (show m / 32 ≤ 16 by omega)]) (cw_ _) (.inl (by assumption)) ?_)))))))
        refine nl J (J23 _ _ (Sq fun K24 J24 => Rk fun K J => sQ (aS_ by_ (by decide) rfl) rfl (sQ (bn_ (v := .bool a.neg) ty_4 rfl (by repeat (first | exact .head _ | apply List.mem_append_right | apply List.Mem.tail)) rfl) rfl ?_)))
        refine sQ (aN_ ty_35 rfl (by repeat (first | exact .head _ | apply List.mem_append_right | apply List.Mem.tail)) (by simp [uw, a2_])) rfl ?_
        refine sQ (q_ret eQ_ (bx_ a.neg (toL 16 (val (shw a.w (m / 32)) * 2 ^ (m % 32))) (by simp [a2_]) (dv_ _ _)) rfl) rfl ?_
        refine WL_r rfl (aF_ ty_37 rfl rfl (by repeat (first | exact .head _ | apply Upd.left | apply Upd.tail)) (cS_ (by simp [a2_])) rfl (at_ _) (.inl (by assumption)) ?_)
        refine nl J (J24 _ _ (W_ret (af_ (ret1 rfl (.inr rfl) ⟨_, _, _, _, _, _, rfl, (by repeat (first | exact .head _ | apply List.mem_append_right | apply List.Mem.tail)), ty_37, _, (be_ (cS_ (by simp [a2_]))), (cS_ (by simp [a2_])), rfl⟩ ?_))))
        exact congrArg RV (pS_ ha (by simpa using hg) (by omega) hm5)
       ·(try simp only [decide_eq_true_eq, decide_eq_false_iff_not, beq_iff_eq, bne_iff_ne, beq_eq_false_iff_ne, bne_eq_false_iff_eq, Bool.not_eq_true', Bool.not_eq_false'] at h42)
        exact absurd h42 (by omega) --done
   ·skip
    refine WL_n rfl (WL_n rfl (WL_n rfl (WL_n rfl (WL_n rfl (WL_n rfl (WL_n rfl (WL_n rfl (WL_n rfl (sE rfl (sE rfl (nl J (J7 _ _ (bQ_ rfl (Sq fun K25 J25 => Rk fun K J => sQ (q_ret e7_ cd_ rfl) rfl (WL_r rfl (aF_ ty_37 rfl rfl (by repeat (first | exact .head _ | apply Upd.left | apply Upd.tail)) (ad_ _) rfl (at_ _) (.inl (by assumption)) ?_))))))))))))))))
    refine nl J (J25 _ _ (W_ret (aH_ (af_ (ret1 rfl (.inr rfl) ⟨_, _, _, _, _, _, rfl, (by repeat (first | exact .head _ | apply List.mem_append_right | apply List.Mem.tail)), ty_37, _, (be_ (ad_ _)), (ad_ _), rfl⟩ ?_)))))
    exact congrArg RV (pj_ ha (by simpa using hg) hs (.inr (by have := of_decide_eq_true h5; omega)))
theorem gH_ (a : R) (ha : a.Ok) (n : W) (h0 : 0 ≤ n.1) : Ret Tryz.prog 95 [RV a, .int .i64 n.1] (RV (Z.shl a.dec n.1).enc) := by
  obtain ⟨n, hn⟩ := n
  obtain ⟨m, rfl⟩ : ∃ m : Nat, n = (m : Int) := ⟨n.toNat, by simp only at h0; omega⟩
  exact ik_ a ha m (by unfold I64 at hn; omega)
end Go.Proofs.YtapbefpeopaecaaGreatDoor

