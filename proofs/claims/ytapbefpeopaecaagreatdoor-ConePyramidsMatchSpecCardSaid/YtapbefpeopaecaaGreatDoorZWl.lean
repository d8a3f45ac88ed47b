/- Walks: what these functions return. -/
import Derived.Test.YtapbefpeopaecaaGreatDoorZFa0
import Derived.Test.YtapbefpeopaecaaGreatDoorZWa
import Derived.Test.YtapbefpeopaecaaGreatDoorZWc
import Derived.Test.YtapbefpeopaecaaGreatDoorZWd
import Derived.Test.YtapbefpeopaecaaGreatDoorZWh
namespace Go.Proofs.YtapbefpeopaecaaGreatDoor
open Go.Kn Go.Num
set_option linter.unusedVariables false
set_option linter.unusedSimpArgs false
set_option maxRecDepth 20000
set_option maxHeartbeats 8000000
theorem iT_ (a : R) (ha : a.Ok) (hn : a.neg = false) (w : List Nat) (hw : w.length = 16) (hlim : Lim w) (vs : Value) :
    Ret Tryz.prog 138 [RV a, UV w, vs] (RV ⟨false, false, w⟩) := by
 refine as_ (N := 32) Tryz.func138 rfl rfl (by simp) (fun w0 => ?_)
 simp only [initF, Nat.reduceAdd]
 obtain ⟨bd, ng, l⟩ := a
 simp only at hn
 subst hn
 refine Sq fun K1 J1 => Rk fun K J => WL_r rfl (r_box rfl rfl (fun b3 hb3 => WL_r rfl (r_box rfl rfl (fun b4 hb4 => WL_r rfl (br_ z_37 (fun b6 hb6 => nl J (J1 _ _ (Sq fun K2 J2 => Rk fun K J => sQ (aS_ by_ (by decide) rfl) rfl (sQ (bn_ (v := .bool false) ty_4 rfl (by repeat (first | exact .head _ | apply List.mem_append_right | apply List.Mem.tail)) rfl) rfl ?_)))))))))
 refine sQ (aN_ ty_35 rfl (by repeat (first | exact .head _ | apply List.mem_append_right | apply List.Mem.tail)) (by simp [uw, hw])) rfl ?_
 refine sQ (q_ret eQ_ (bx_ false w hw hlim) rfl) rfl (WL_r rfl (br_ z_37 (fun b7 hb7 => WL_r rfl (aF_ ty_37 rfl rfl (by repeat (first | exact .head _ | apply Upd.left | apply Upd.tail)) (cS_ hw) rfl (at_ _) (.inl (by assumption)) ?_))))
 refine nl J (J2 _ _ (Sq fun K3 J3 => Sq fun K4 J4 => dr (sk (sk (sk (sk (s0))))) [0,4,8,12,16,20,24,28,32,36,40,44,48,52,56,60] [] mix (by kernel_rfl) (fun K J => pQ rfl (aS_ by_ (by decide) rfl) (pQ rfl (bn_ (v := .bool false) ty_4 rfl (by repeat (first | exact .head _ | apply List.mem_append_right | apply List.Mem.tail)) rfl) ?_))))
 refine pE rfl (PL_n rfl rfl (PL_n rfl rfl (PL_n rfl rfl (PL_n rfl rfl (PL_n rfl rfl (PL_n rfl rfl (PL_n rfl rfl (PL_n rfl rfl (PL_n rfl rfl (PL_n rfl rfl (PL_n rfl rfl (PL_n rfl rfl (pE rfl (fl J (J4 _ _ (bU_ rfl (aj_ (J3 _ _ (Sq fun K5 J5 => ?_)))))))))))))))))))
 refine Rk fun K J => sQ (aN_ ty_37 rfl (by repeat (first | exact .head _ | apply List.mem_append_right | apply List.Mem.tail)) (cS_ hw)) rfl ?_
 refine WL_r rfl (aF_ ty_37 rfl rfl (by repeat (first | exact .head _ | apply Upd.left | apply Upd.tail)) (cS_ hw) rfl (at_ _) (.inl (by assumption)) ?_)
 refine nl J (J5 _ _ (W_ret (ret1 rfl (.inr rfl) ⟨_, _, _, _, _, _, rfl, (by repeat (first | exact .head _ | apply List.mem_append_right | apply List.Mem.tail)), ty_37, _, (be_ (cS_ hw)), (cS_ hw), rfl⟩ ?_)))
 exact rfl

theorem iR_ (a : R) (ha : a.Ok) (hn : a.neg = false) :
    Ret Tryz.prog 95 [RV a, .int .i64 (-1)] (RV (Z.half a.dec).enc) := by
 refine as_ (N := 75) Tryz.func95 rfl rfl (by simp) (fun w0 => ?_)
 simp only [initF, Nat.reduceAdd]
 refine Sq fun K1 J1 => Rk fun K J => WL_r rfl (r_box rfl rfl (fun b2 hb2 => WL_r rfl (br_ z_37 (fun b4 hb4 => nl J (J1 _ _ (Sq fun K2 J2 => ao_ (Sq fun K3 J3 => Rk fun K J => sQ (aN_ ty_37 rfl (by repeat (first | exact .head _ | apply List.mem_append_right | apply List.Mem.tail)) (aM_ ha)) rfl ?_)))))))
 refine WL_r rfl (cM_ fi_ z_37 sz_37 rfl (by decide) rfl (gA_ ha) (fun b9 hb9 => sQ (bY_ fj_ rfl (fun w hw => ci_ [a] (ok1 ha) b9 37 w (hw.mem _ m0) (by simp))) rfl ?_))
 refine sE rfl (sE rfl (nl J (J3 _ _ ?_)))
 refine a4_ _ rfl (fun hg => ?_) (fun hg => ?_)
 ·(try simp only [decide_eq_true_eq, decide_eq_false_iff_not, beq_iff_eq, bne_iff_ne, beq_eq_false_iff_ne, bne_eq_false_iff_eq, Bool.not_eq_true', Bool.not_eq_false'] at hg)
  refine Sq fun K4 J4 => Rk fun K J => sQ (q_ret e7_ cd_ rfl) rfl (WL_r rfl (aF_ ty_37 rfl rfl (by repeat (first | exact .head _ | apply Upd.left | apply Upd.tail)) (ad_ _) rfl (at_ _) (.inl (by assumption)) ?_))
  refine nl J (J4 _ _ (W_ret (aH_ (af_ (ret1 rfl (.inr rfl) ⟨_, _, _, _, _, _, rfl, (by repeat (first | exact .head _ | apply List.mem_append_right | apply List.Mem.tail)), ty_37, _, (be_ (ad_ _)), (ad_ _), rfl⟩ ?_)))))
  (rw [oS_ (by simpa using hg)]; rfl)
 ·(try simp only [decide_eq_true_eq, decide_eq_false_iff_not, beq_iff_eq, bne_iff_ne, beq_eq_false_iff_ne, bne_eq_false_iff_eq, Bool.not_eq_true', Bool.not_eq_false'] at hg)
  refine Sq fun K5 J5 => Rk fun K J => sQ (aN_ ty_37 rfl (by repeat (first | exact .head _ | apply List.mem_append_right | apply List.Mem.tail)) (aM_ ha)) rfl ?_
  refine sQ (q_ret fQ_ (cx_ a ha) rfl) rfl (sE rfl (sE rfl (nl J (J5 _ _ ?_))))
  refine a4_ _ rfl (fun hs => ?_) (fun hs => ?_)
  ·(try simp only [decide_eq_true_eq, decide_eq_false_iff_not, beq_iff_eq, bne_iff_ne, beq_eq_false_iff_ne, bne_eq_false_iff_eq, Bool.not_eq_true', Bool.not_eq_false'] at hs)
   refine Sq fun K6 J6 => Rk fun K J => sQ (aN_ ty_37 rfl (by repeat (first | exact .head _ | apply List.mem_append_right | apply List.Mem.tail)) (aM_ ha)) rfl ?_
   refine WL_r rfl (aF_ ty_37 rfl rfl (by repeat (first | exact .head _ | apply Upd.left | apply Upd.tail)) (aM_ ha) rfl (at_ _) (.inl (by assumption)) ?_)
   refine nl J (J6 _ _ (W_ret (aH_ (af_ (ret1 rfl (.inr rfl) ⟨_, _, _, _, _, _, rfl, (by repeat (first | exact .head _ | apply List.mem_append_right | apply List.Mem.tail)), ty_37, _, (be_ (aM_ ha)), (aM_ ha), rfl⟩ ?_)))))
   exact congrArg RV (ni_ ha (by simpa using hg) hn hs)
  ·(try simp only [decide_eq_true_eq, decide_eq_false_iff_not, beq_iff_eq, bne_iff_ne, beq_eq_false_iff_ne, bne_eq_false_iff_eq, Bool.not_eq_true', Bool.not_eq_false'] at hs)
   refine Sq fun K7 J7 => Rk fun K J => sE rfl (sE rfl (sE rfl (sE rfl (sE rfl (sE rfl (WL_n rfl (WL_n rfl (WL_n rfl (WL_n rfl (WL_n rfl (sE rfl (sE rfl (sE rfl (nl J (J7 _ _ (bU_ rfl (Sq fun K8 J8 => ?_)))))))))))))))))
   refine Rk fun K J => sE rfl (sE rfl (sE rfl (nl J (J8 _ _ (bU_ rfl (aj_ (J2 _ _ (Sq fun K9 J9 => Rk fun K J => WL_r rfl (br_ z_35 (fun b5 hb5 => nl J (J9 _ _ (Sq fun K10 J10 => Rk fun K J => sE rfl (sQ (q_quo rfl rfl (by decide)) rfl (sE rfl (nl J ?_)))))))))))))))
   refine J10 _ _ (Sq fun K11 J11 => Sq fun K12 J12 => Rk fun K J => sE rfl (sE rfl (nl J (J12 _ _ (bU_ rfl (aj_ (J11 _ _ (Sq fun K13 J13 => dr (sd (sk (sk (sk (s0))))) [0,4,8,12,16,21] [5] mix (by kernel_rfl) (fun K J => pQ rfl (gB_ ar_35 rfl rfl rfl (by decide) (by decide) (by decide) (by decide)) (pQ rfl (aS_ bJ_ (by decide) rfl) (pE rfl (pE rfl (pQ rfl (gB_ ar_35 rfl rfl rfl (by decide) (by decide) (by decide) (by decide)) ?_)))))))))))))
   refine PL_o rfl rfl (l6_ lN_ rfl rfl (by repeat (first | exact .head _ | apply List.mem_append_right | apply List.Mem.tail)) (by repeat (first | exact .head _ | apply Upd.left | apply Upd.tail)) (fun v hv => at_ a v (List.mem_of_mem_drop (List.mem_of_mem_take hv))) (by rw [aM_ ha]; decide) (by simp [uw]) (n1_ ha) (.inl (by assumption)) ⟨nf, (by repeat (first | exact s0 | exact sn | refine sk ?_ | refine sd ?_ | refine sA ?_ | refine sR ?_)), ?_⟩)
   refine fl J (J13 _ _ (Sq fun K14 J14 => dr (sk (sk (sd (sk (s0))))) [0,4,8,12,16,20,24,28,33,36,41] [10] mix (by kernel_rfl) (fun K J => pQ rfl (aN_ ty_37 rfl (by repeat (first | exact .head _ | apply List.mem_append_right | apply List.Mem.tail)) (aM_ ha)) ?_)))
   refine pQ rfl (aN_ ty_35 rfl (by repeat (first | exact .head _ | apply List.mem_append_right | apply List.Mem.tail)) (by simp [uw, ha.len])) ?_
   refine pE rfl (pE rfl (pQ rfl (q_rem rfl rfl (by decide)) (pQ rfl (q_ret pQ_ (hd_ a.w ha.len ha.lim 1 (by decide)) rfl) (pE rfl (pE rfl ?_)))))
   refine PL_o rfl rfl (cM_ us_81 z_3 sz_3 rfl (by decide) rfl (h3_ 1) (fun b73 hb73 => ⟨(fun _ => by first | exact sd s0 | exact s0), (by repeat (first | exact s0 | exact sn | refine sk ?_ | refine sd ?_ | refine sA ?_ | refine sR ?_)), ?_⟩))
   refine pQ rfl (q_ret rs_ (iT_ a ha hn (toL 16 (val a.w / 2 ^ 1)) (a2_ _ _) (dv_ _ _) _) rfl) ?_
   refine PL_o rfl rfl (aF_ ty_37 rfl rfl (by repeat (first | exact .head _ | apply Upd.left | apply Upd.tail)) (cS_ (a2_ _ _)) rfl (at_ _) (.inl (by assumption)) ⟨nf, (by repeat (first | exact s0 | exact sn | refine sk ?_ | refine sd ?_ | refine sA ?_ | refine sR ?_)), ?_⟩)
   refine fl J (J14 _ _ (W_ret (ret1 rfl (.inr rfl) ⟨_, _, _, _, _, _, rfl, (by repeat (first | exact .head _ | apply List.mem_append_right | apply List.Mem.tail)), ty_37, _, (be_ (cS_ (a2_ _ _))), (cS_ (a2_ _ _)), rfl⟩ ?_)))
   exact congrArg RV (oc_ ha (by simpa using hg) hn)
end Go.Proofs.YtapbefpeopaecaaGreatDoor

