/- Walks: what these functions return. -/
import Derived.Test.YtapbefpeopaecaaGreatDoorYGE
import Derived.Test.YtapbefpeopaecaaGreatDoorYFn
import Derived.Test.YtapbefpeopaecaaGreatDoorYGa
import Derived.Test.YtapbefpeopaecaaGreatDoorYVa
import Derived.Test.YtapbefpeopaecaaGreatDoorYWc
import Derived.Test.YtapbefpeopaecaaGreatDoorYWa
import Derived.Test.YtapbefpeopaecaaGreatDoorYWd
import Derived.Test.YtapbefpeopaecaaGreatDoorYWh
namespace Go.Proofs.YtapbefpeopaecaaGreatDoor
open Go.Kn Go.Num
set_option linter.unusedVariables false
set_option linter.unusedSimpArgs false
set_option maxRecDepth 20000
set_option maxHeartbeats 8000000
theorem gQ_ (a : (A3 W)) :
    Ret Tryz.prog 94 [AV [ci .i64 a.x.1, ci .i64 a.y.1, ci .i64 a.z.1]] (.tuple #[AV [ci .i64 ((((ao_ a).1).x).1), ci .i64 ((((ao_ a).1).y).1), ci .i64 ((((ao_ a).1).z).1)], AV [ci .i64 ((((ao_ a).2).x).1), ci .i64 ((((ao_ a).2).y).1), ci .i64 ((((ao_ a).2).z).1)]]) := by
 refine av_ (N := 47) Tryz.func94 rfl rfl (by simp) (fun w0 => ?_)
 simp only [initF, Nat.reduceAdd]
 refine Rs fun K J => WL_r rfl (a1_ rfl rfl (fun b1 hb1 => sN zp_23 rfl fun b2 hb2 => sN zp_23 rfl fun b3 hb3 => nl J (Sq fun K1 J1 => Rs fun K J => sQ (qL ty_23 rfl m2 rfl) rfl (sQ (qA ar_23 rfl rfl rfl) rfl (sQ (qC ty_3 rfl m2 rfl) rfl (sQ (bH_ zp_23 ar_23 rfl (.cons [ci .i64 0] [ci .i64 0, ci .i64 0, ci .i64 0] rfl rfl rfl rfl (.cons [ci .i64 0] [ci .i64 0, ci .i64 0, ci .i64 0] rfl rfl rfl rfl (.cons [ci .i64 a.z.1] [ci .i64 0, ci .i64 0, ci .i64 a.z.1] rfl rfl rfl rfl (.nil _))))) rfl ?_))))))
 refine sQ (h0_ (r := (decide (a.x.1 = 0) && (decide (a.y.1 = 0) && decide (a.z.1 = a.z.1)))) rfl rfl (dU_ 8 (by decide) eg_23 lw_23 (bg_ lv_ci (bg_ lv_ci (d9_ lv_ci))) (bg_ lv_ci (bg_ lv_ci (d9_ lv_ci))) (b6_ rfl eq_ci (b6_ rfl eq_ci (e4_ eq_ci))))) rfl (nl J ?_)
 rcases bt (decide (a.x.1 = 0) && (decide (a.y.1 = 0) && decide (a.z.1 = a.z.1))) with h4 | h4
 ·skip
  refine W_t h4 rfl (Rs fun K J => sQ (bH_ zp_23 ar_23 rfl (.cons [ci .i64 1] [ci .i64 1, ci .i64 0, ci .i64 0] rfl rfl rfl rfl (.cons [ci .i64 0] [ci .i64 1, ci .i64 0, ci .i64 0] rfl rfl rfl rfl (.cons [ci .i64 0] [ci .i64 1, ci .i64 0, ci .i64 0] rfl rfl rfl rfl (.nil _))))) rfl (sQ (bH_ zp_23 ar_23 rfl (.cons [ci .i64 0] [ci .i64 0, ci .i64 0, ci .i64 0] rfl rfl rfl rfl (.cons [ci .i64 1] [ci .i64 0, ci .i64 1, ci .i64 0] rfl rfl rfl rfl (.cons [ci .i64 0] [ci .i64 0, ci .i64 1, ci .i64 0] rfl rfl rfl rfl (.nil _))))) rfl (sS [ci .i64 1, ci .i64 0, ci .i64 0] ty_23 rfl rfl rfl rfl rfl (.tail _ (.head _)) rfl hb2 (sS [ci .i64 0, ci .i64 1, ci .i64 0] ty_23 rfl rfl rfl rfl rfl (.head _) rfl hb3 (nl J (W_ret (ai_ (ret2 rfl (.inr rfl) (resP rfl m1 ty_23 rfl) (resP rfl m0 ty_23 rfl) ?_))))))))
  exact (by exact congrArg (fun r : (A3 W) × (A3 W) => (.tuple #[AV [ci .i64 r.1.x.1, ci .i64 r.1.y.1, ci .i64 r.1.z.1], AV [ci .i64 r.2.x.1, ci .i64 r.2.y.1, ci .i64 r.2.z.1]] : Value)) (show _ = (ao_ a) from bif_t h4 rfl))
 ·skip
  refine W_f h4 rfl (ak_ (J1 _ _ (Rs fun K J => sQ (qL ty_23 rfl m2 rfl) rfl (sQ (q_ret lE_ (dW_ a) rfl) rfl (sN zp_94 rfl fun b5 hb5 => sS [pI ((az_ a).x), pI ((az_ a).y), pI ((az_ a).z)] ty_94 rfl rfl rfl rfl rfl (.head _) rfl hb5 (nl J (ds (sd (sk (sk (sk (s0))))) [0,4,8,12,16,20,24,28,32,36,42,45,49,52] [12] mix (by kernel_rfl) (fun K J => pQ rfl (qA ar_94 rfl rfl rfl) (pQ rfl (qL ty_37 rfl m0 rfl) (pC (AV [pI (E (Z.neg ((az_ a).y).dec))]) k1_ (e1_ ((az_ a).y).1 ((az_ a).y).2) rfl rfl rfl (pQ rfl (qA ar_94 rfl rfl rfl) (pQ rfl (qL ty_37 rfl m0 rfl) (pC (AV [pI (E (Z.of 0))]) en_61 (bJ_ (wl 0).1 (wl 0).2) rfl rfl rfl ?_)))))))))))))
  refine pQ rfl (bH_ zp_94 ar_94 rfl (.cons [pI (E (Z.neg ((az_ a).y).dec))] [pI (E (Z.neg ((az_ a).y).dec)), pI I0, pI I0] rfl rfl rfl rfl (.cons [pI ((az_ a).x)] [pI (E (Z.neg ((az_ a).y).dec)), pI ((az_ a).x), pI I0] rfl rfl rfl rfl (.cons [pI (E (Z.of 0))] [pI (E (Z.neg ((az_ a).y).dec)), pI ((az_ a).x), pI (E (Z.of 0))] rfl rfl rfl rfl (.nil _))))) ?_
  obtain ⟨r6, hr6⟩ := nm ((a2_ (⟨(E (Z.neg ((az_ a).y).dec)), ((az_ a).x), (E (Z.of 0))⟩ : (A3 I))).1 : (A3 W))
  obtain ⟨r7, hr7⟩ := nm ((a2_ (⟨(E (Z.neg ((az_ a).y).dec)), ((az_ a).x), (E (Z.of 0))⟩ : (A3 I))).2 : W)
  refine pC (.tuple #[AV [ci .i64 r6.x.1, ci .i64 r6.y.1, ci .i64 r6.z.1], .int .i64 r7.1]) pi_ (eS_ (⟨(E (Z.neg ((az_ a).y).dec)), ((az_ a).x), (E (Z.of 0))⟩ : (A3 I))) rfl rfl (by rw [hr6, hr7]; first | done | rfl) (pE rfl (pE rfl (tE rfl (PL_o rfl rfl (bk_ zp_23 (fun b8 hb8 => ⟨(fun _ => sd s0), (sd (sd s0)), oS [ci .i64 r6.x.1, ci .i64 r6.y.1, ci .i64 r6.z.1] ty_23 rfl rfl rfl rfl rfl rfl (.head _) rfl hb8 rfl (sd (sd s0)) (pE rfl (fl J (ds (sk (sk (sk (sk (sk (s0)))))) [0,4,8,12,16,20,24,30,33,37,40] [9] mix (by kernel_rfl) (fun K J => pQ rfl (qL ty_94 rfl m1 rfl) (pQ rfl (qL ty_23 rfl m0 rfl) (pQ rfl (q_ret lE_ (dW_ r6) rfl) ?_))))))⟩))))))
  obtain ⟨r9, hr9⟩ := nm ((dR_ (az_ a) (az_ r6)) : (A3 I))
  refine pC (AV [pI r9.x, pI r9.y, pI r9.z]) r1_ (hD_ (az_ a) (az_ r6)) rfl rfl (by rw [hr9]; first | done | rfl) ?_
  obtain ⟨r10, hr10⟩ := nm ((a2_ r9).1 : (A3 W))
  refine pC (.tuple #[AV [ci .i64 r10.x.1, ci .i64 r10.y.1, ci .i64 r10.z.1], .int .i64 (((a2_ r9).2).1)]) pi_ (eS_ r9) rfl rfl (by rw [hr10]; first | done | rfl) (pE rfl (pE rfl (tE rfl (PL_o rfl rfl (bk_ zp_23 (fun b11 hb11 => ⟨(fun _ => sd s0), (sd s0), oS [ci .i64 r10.x.1, ci .i64 r10.y.1, ci .i64 r10.z.1] ty_23 rfl rfl rfl rfl rfl rfl (.head _) rfl hb11 rfl (sd s0) (pE rfl (fl J (Sq fun K2 J2 => ?_)))⟩))))))
  refine bQ_ [37, 38, 39, 40, 41, 42] (fun g M => (g 42 = .bool ((r7.1 != 0) || (((a2_ r9).2).1 != 0))) ∧ M = [⟨b11, 23, flat [ci .i64 r10.x.1, ci .i64 r10.y.1, ci .i64 r10.z.1]⟩, ⟨b8, 23, flat [ci .i64 r6.x.1, ci .i64 r6.y.1, ci .i64 r6.z.1]⟩, ⟨b5, 94, flat [pI ((az_ a).x), pI ((az_ a).y), pI ((az_ a).z)]⟩, ⟨b3, 23, flat [ci .i64 0, ci .i64 0, ci .i64 0]⟩, ⟨b2, 23, flat [ci .i64 0, ci .i64 0, ci .i64 0]⟩, ⟨b1, 23, flat [ci .i64 a.x.1, ci .i64 a.y.1, ci .i64 a.z.1]⟩]) (fun K3 J3 => ?_) ?_
  ·skip
   refine Rk fun K J => sE rfl (sE rfl ?_)
   rcases bt (r7.1 != 0) with h13 | h13
   ·skip
    refine sB h13 rfl (WL_n rfl (WL_n rfl (sE rfl (nl J ?_))))
    refine J3 _ _ (by repeat first | exact .refl | refine .cons rfl ?_) ⟨_, s0, ?s42, rfl⟩
    case s42 => exact congrArg Value.bool (or_t h13)
   ·skip
    refine sB h13 rfl (sE rfl (sE rfl (sE rfl (nl J ?_))))
    refine J3 _ _ (by repeat first | exact .refl | refine .cons rfl ?_) ⟨_, s0, ?s42, rfl⟩
    case s42 => exact congrArg Value.bool (or_f h13 rfl)
  ·skip
   rintro g14 M ⟨hg42, rfl⟩
   simp only [setG, hg42]
   clear hg42
   rcases bt ((r7.1 != 0) || (((a2_ r9).2).1 != 0)) with h15 | h15
   ·skip
    refine W_t h15 rfl (Rs fun K J => sQ (bH_ zp_23 ar_23 rfl (.nil _)) rfl (sQ (bH_ zp_23 ar_23 rfl (.nil _)) rfl (sS [ci .i64 0, ci .i64 0, ci .i64 0] ty_23 rfl rfl rfl rfl rfl (.tail _ (.tail _ (.tail _ (.tail _ (.head _))))) rfl hb2 (sS [ci .i64 0, ci .i64 0, ci .i64 0] ty_23 rfl rfl rfl rfl rfl (.tail _ (.tail _ (.tail _ (.head _)))) rfl hb3 (nl J (W_ret (ai_ (ret2 rfl (.inr rfl) (resP rfl m4 ty_23 rfl) (resP rfl m3 ty_23 rfl) ?_))))))))
    exact (by subst hr10; subst hr9; subst hr7; subst hr6; exact congrArg (fun r : (A3 W) × (A3 W) => (.tuple #[AV [ci .i64 r.1.x.1, ci .i64 r.1.y.1, ci .i64 r.1.z.1], AV [ci .i64 r.2.x.1, ci .i64 r.2.y.1, ci .i64 r.2.z.1]] : Value)) (show _ = (ao_ a) from bif_f h4 (bif_t h15 rfl)))
   ·skip
    refine W_f h15 rfl (ak_ (J2 _ _ (ds (sk (sk (sk (sd (sd (sk (s0))))))) [0,6,9,13] [2,3] mix (by kernel_rfl) (fun K J => pQ rfl (qL ty_23 rfl m1 rfl) (PL_s rfl rfl (ib_ ty_23 rfl m0 rfl) (oS [ci .i64 r6.x.1, ci .i64 r6.y.1, ci .i64 r6.z.1] ty_23 rfl rfl rfl rfl rfl rfl (.tail _ (.tail _ (.tail _ (.tail _ (.head _))))) rfl hb2 rfl (sk (sk (sk (sd (sd s0))))) (oS [ci .i64 r10.x.1, ci .i64 r10.y.1, ci .i64 r10.z.1] ty_23 rfl rfl rfl rfl rfl rfl (.tail _ (.tail _ (.tail _ (.head _)))) rfl hb3 rfl (sk (sk (sk (sd (sd s0))))) (fl J (W_ret (ret2 rfl (.inr rfl) (resP rfl m4 ty_23 rfl) (resP rfl m3 ty_23 rfl) ?_))))))))))
    exact (by subst hr10; subst hr9; subst hr7; subst hr6; exact congrArg (fun r : (A3 W) × (A3 W) => (.tuple #[AV [ci .i64 r.1.x.1, ci .i64 r.1.y.1, ci .i64 r.1.z.1], AV [ci .i64 r.2.x.1, ci .i64 r.2.y.1, ci .i64 r.2.z.1]] : Value)) (show _ = (ao_ a) from bif_f h4 (bif_f h15 rfl)))

theorem d5_ (a : (A3 W)) :
    Ret Tryz.prog 43 [AV [ci .i64 a.x.1, ci .i64 a.y.1, ci .i64 a.z.1]] (AV [pI (((cd_ a).x).n), pI (((cd_ a).x).d), pI (((cd_ a).y).n), pI (((cd_ a).y).d), pI (((cd_ a).z).n), pI (((cd_ a).z).d)]) := by
 refine av_ (N := 13) Tryz.func43 rfl rfl (by simp) (fun w0 => ?_)
 simp only [initF, Nat.reduceAdd]
 refine Rs fun K J => WL_r rfl (a1_ rfl rfl (fun b1 hb1 => sN zp_41 rfl fun b2 hb2 => nl J (ds (sd (sk (s0))) [0,4,8,12,16,20,24,28,32,36,41] [10] mix (by kernel_rfl) (fun K J => pQ rfl (qA ar_23 rfl rfl rfl) (pQ rfl (qC ty_3 rfl m1 rfl) (pQ rfl (q_ret en_62 (cg_ a.x) rfl) (pQ rfl (qA ar_23 rfl rfl rfl) (pQ rfl (qC ty_3 rfl m1 rfl) (pQ rfl (q_ret en_62 (cg_ a.y) rfl) (pQ rfl (qA ar_23 rfl rfl rfl) (pQ rfl (qC ty_3 rfl m1 rfl) (pQ rfl (q_ret en_62 (cg_ a.z) rfl) (pQ rfl (bH_ zp_41 ar_41 rfl (.cons [pI ((aa_ a.x).n), pI ((aa_ a.x).d)] [pI ((aa_ a.x).n), pI ((aa_ a.x).d), pI I0, pI I0, pI I0, pI I0] rfl rfl rfl rfl (.cons [pI ((aa_ a.y).n), pI ((aa_ a.y).d)] [pI ((aa_ a.x).n), pI ((aa_ a.x).d), pI ((aa_ a.y).n), pI ((aa_ a.y).d), pI I0, pI I0] rfl rfl rfl rfl (.cons [pI ((aa_ a.z).n), pI ((aa_ a.z).d)] [pI ((aa_ a.x).n), pI ((aa_ a.x).d), pI ((aa_ a.y).n), pI ((aa_ a.y).d), pI ((aa_ a.z).n), pI ((aa_ a.z).d)] rfl rfl rfl rfl (.nil _))))) (oS [pI ((aa_ a.x).n), pI ((aa_ a.x).d), pI ((aa_ a.y).n), pI ((aa_ a.y).d), pI ((aa_ a.z).n), pI ((aa_ a.z).d)] ty_41 rfl rfl rfl rfl rfl rfl (.head _) rfl hb2 rfl (sd s0) (fl J (W_ret (ret1 rfl (.inr rfl) (resP rfl m0 ty_41 rfl) ?_)))))))))))))))))
 exact (by rfl)

theorem fP_ (a : (A3 Rt)) (b : (A3 Rt)) :
    Ret Tryz.prog 105 [AV [pI a.x.n, pI a.x.d, pI a.y.n, pI a.y.d, pI a.z.n, pI a.z.d], AV [pI b.x.n, pI b.x.d, pI b.y.n, pI b.y.d, pI b.z.n, pI b.z.d]] (AV [pI ((df_ a b).n), pI ((df_ a b).d)]) := by
 refine av_ (N := 22) Tryz.func105 rfl rfl (by simp) (fun w0 => ?_)
 simp only [initF, Nat.reduceAdd]
 refine Rs fun K J => WL_r rfl (a1_ rfl rfl (fun b1 hb1 => WL_r rfl (a1_ rfl rfl (fun b2 hb2 => sN zp_39 rfl fun b3 hb3 => nl J (Rs fun K J => sQ (q_ret en_62 (cg_ (wl 0)) rfl) rfl ?_)))))
 refine sN zp_39 rfl fun b4 hb4 => sS [pI ((aa_ (wl 0)).n), pI ((aa_ (wl 0)).d)] ty_39 rfl rfl rfl rfl rfl (.head _) rfl hb4 ?_
 refine nl J (Sq fun K1 J1 => Rs fun K J => sE rfl (nl J (ar_ (W_un 5 (Un_s (fun K2 J2 => Rs fun K J => sV (.bool true) rfl rfl (nl J (Sq fun K3 J3 => bF_ rfl (ak_ (J3 _ _ (Sq fun K4 J4 => ar_ (Rs fun K J => sE rfl (sE rfl ?_)))))))))))))
 refine nl J (dr (sd (sk (sk (sk (s0))))) [0,4,8,12,16,20,24,28,32,37] [9] mix (by kernel_rfl) (fun K J => pQ rfl (qL ty_39 rfl m0 rfl) (pE rfl (pQ rfl (qA ar_41 rfl rfl rfl) (pQ rfl (qL ty_39 rfl m3 rfl) (pE rfl (pQ rfl (qA ar_41 rfl rfl rfl) (pQ rfl (qL ty_39 rfl m2 rfl) (pQ rfl (q_ret en_67 (b3_ a.x b.x) rfl) ?_)))))))))
 obtain ⟨r5, hr5⟩ := nm ((aA_ (aa_ (wl 0)) (aE_ a.x b.x)) : Rt)
 refine pC (AV [pI r5.n, pI r5.d]) en_66 (bh_ (aa_ (wl 0)) (aE_ a.x b.x)) rfl rfl (by rw [hr5]; first | done | rfl) ?_
 refine oS [pI r5.n, pI r5.d] ty_39 rfl rfl rfl rfl rfl rfl (.head _) rfl hb4 rfl (sd s0) (fl J (J4 _ _ (Rk fun K J => sV (.int .i64 1) rfl rfl (sE rfl (nl J (J2 _ _ (Un_s (fun K5 J5 => Rs fun K J => sV (.bool true) rfl rfl (nl J (Sq fun K6 J6 => bF_ rfl (ak_ (J6 _ _ (Sq fun K7 J7 => ar_ (Rs fun K J => sE rfl ?_))))))))))))))
 refine sE rfl (nl J (dr (sd (sk (sk (sk (s0))))) [0,4,8,12,16,20,24,28,32,37] [9] mix (by kernel_rfl) (fun K J => pQ rfl (qL ty_39 rfl m0 rfl) (pE rfl (pQ rfl (qA ar_41 rfl rfl rfl) (pQ rfl (qL ty_39 rfl m3 rfl) (pE rfl (pQ rfl (qA ar_41 rfl rfl rfl) (pQ rfl (qL ty_39 rfl m2 rfl) (pQ rfl (q_ret en_67 (b3_ a.y b.y) rfl) ?_))))))))))
 obtain ⟨r6, hr6⟩ := nm ((aA_ r5 (aE_ a.y b.y)) : Rt)
 refine pC (AV [pI r6.n, pI r6.d]) en_66 (bh_ r5 (aE_ a.y b.y)) rfl rfl (by rw [hr6]; first | done | rfl) (oS [pI r6.n, pI r6.d] ty_39 rfl rfl rfl rfl rfl rfl (.head _) rfl hb4 rfl (sd s0) (fl J (J7 _ _ (Rk fun K J => sV (.int .i64 2) rfl rfl (sE rfl (nl J (J5 _ _ (Un_s (fun K8 J8 => Rs fun K J => sV (.bool true) rfl rfl (nl J (Sq fun K9 J9 => bF_ rfl (ak_ (J9 _ _ (Sq fun K10 J10 => ar_ (Rs fun K J => ?_)))))))))))))))
 refine sE rfl (sE rfl (nl J (dr (sd (sk (sk (sk (s0))))) [0,4,8,12,16,20,24,28,32,37] [9] mix (by kernel_rfl) (fun K J => pQ rfl (qL ty_39 rfl m0 rfl) (pE rfl (pQ rfl (qA ar_41 rfl rfl rfl) (pQ rfl (qL ty_39 rfl m3 rfl) (pE rfl (pQ rfl (qA ar_41 rfl rfl rfl) (pQ rfl (qL ty_39 rfl m2 rfl) (pQ rfl (q_ret en_67 (b3_ a.z b.z) rfl) ?_)))))))))))
 obtain ⟨r7, hr7⟩ := nm ((aA_ r6 (aE_ a.z b.z)) : Rt)
 refine pC (AV [pI r7.n, pI r7.d]) en_66 (bh_ r6 (aE_ a.z b.z)) rfl rfl (by rw [hr7]; first | done | rfl) (oS [pI r7.n, pI r7.d] ty_39 rfl rfl rfl rfl rfl rfl (.head _) rfl hb4 rfl (sd s0) (fl J (J10 _ _ (Rk fun K J => sV (.int .i64 3) rfl rfl (sE rfl (nl J (J8 _ _ (Un_s (fun K11 J11 => Rs fun K J => sV (.bool false) rfl rfl (nl J (Sq fun K12 J12 => by_ rfl (bB_ (ax_ (ax_ (aF_ (J1 _ _ (Rs fun K J => sQ (qL ty_39 rfl m0 rfl) rfl (sS [pI r7.n, pI r7.d] ty_39 rfl rfl rfl rfl rfl (.tail _ (.head _)) rfl hb3 ?_))))))))))))))))))
 refine nl J (W_ret (ret1 rfl (.inr rfl) (resP rfl m1 ty_39 rfl) ?_))
 exact (by subst hr7; subst hr6; subst hr5; rfl)

theorem hF_ (a : (A3 Rt)) (b : (A3 Rt)) :
    Ret Tryz.prog 69 [AV [pI a.x.n, pI a.x.d, pI a.y.n, pI a.y.d, pI a.z.n, pI a.z.d], AV [pI b.x.n, pI b.x.d, pI b.y.n, pI b.y.d, pI b.z.n, pI b.z.d]] (AV [pI (((dg_ a b).x).n), pI (((dg_ a b).x).d), pI (((dg_ a b).y).n), pI (((dg_ a b).y).d), pI (((dg_ a b).z).n), pI (((dg_ a b).z).d)]) := by
 refine av_ (N := 36) Tryz.func69 rfl rfl (by simp) (fun w0 => ?_)
 simp only [initF, Nat.reduceAdd]
 refine Rs fun K J => WL_r rfl (a1_ rfl rfl (fun b1 hb1 => WL_r rfl (a1_ rfl rfl (fun b2 hb2 => sN zp_41 rfl fun b3 hb3 => nl J (Sq fun K1 J1 => Rs fun K J => sE rfl (nl J (ar_ (W_un 5 (Un_s (fun K2 J2 => Rs fun K J => sV (.bool true) rfl rfl (nl J (Sq fun K3 J3 => bF_ rfl (ak_ (J3 _ _ (Sq fun K4 J4 => ?_)))))))))))))))
 refine ar_ (Rs fun K J => sE rfl (sE rfl (nl J (Rs fun K J => sE rfl (sV (.int .i64 1) rfl rfl (sQ (q_as (v' := .int .i64 1) (q_rem rfl rfl (by decide)) rfl) rfl (sE rfl (sV (.int .i64 2) rfl rfl (sQ (q_as (v' := .int .i64 2) (q_rem rfl rfl (by decide)) rfl) rfl (sE rfl (sE rfl (nl J (dr (sd (sk (sk (s0)))) [0,4,8,12,16,20,24,28,32,36,40,44,48,52,56,60,64,69] [17] mix (by kernel_rfl) (fun K J => pE rfl (pE rfl (pQ rfl (qA ar_41 rfl rfl rfl) (pQ rfl (qL ty_39 rfl m2 rfl) ?_)))))))))))))))))
 refine pE rfl (pQ rfl (qA ar_41 rfl rfl rfl) (pQ rfl (qL ty_39 rfl m1 rfl) (pQ rfl (q_ret en_67 (b3_ a.y b.z) rfl) (pE rfl (pQ rfl (qA ar_41 rfl rfl rfl) (pQ rfl (qL ty_39 rfl m2 rfl) (pE rfl (pQ rfl (qA ar_41 rfl rfl rfl) (pQ rfl (qL ty_39 rfl m1 rfl) (pQ rfl (q_ret en_67 (b3_ a.z b.y) rfl) ?_))))))))))
 obtain ⟨r4, hr4⟩ := nm ((ah_ (aE_ a.y b.z) (aE_ a.z b.y)) : Rt)
 refine pC (AV [pI r4.n, pI r4.d]) en_65 (cl_ (aE_ a.y b.z) (aE_ a.z b.y)) rfl rfl (by rw [hr4]; first | done | rfl) (pQ rfl (qA ar_41 rfl rfl rfl) (oS [pI r4.n, pI r4.d] ty_39 rfl rfl rfl rfl rfl rfl (.head _) rfl hb3 rfl (sd s0) (fl J (J4 _ _ (Rk fun K J => sV (.int .i64 1) rfl rfl (sE rfl (nl J (J2 _ _ (Un_s (fun K5 J5 => Rs fun K J => sV (.bool true) rfl rfl (nl J (Sq fun K6 J6 => bF_ rfl (ak_ (J6 _ _ (Sq fun K7 J7 => ar_ ?_)))))))))))))))
 refine Rs fun K J => sE rfl (sE rfl (nl J (Rs fun K J => sE rfl (sV (.int .i64 2) rfl rfl (sQ (q_as (v' := .int .i64 2) (q_rem rfl rfl (by decide)) rfl) rfl (sE rfl (sV (.int .i64 3) rfl rfl (sQ (q_as (v' := .int .i64 0) (q_rem rfl rfl (by decide)) rfl) rfl (sE rfl (sE rfl (nl J (dr (sd (sk (sk (s0)))) [0,4,8,12,16,20,24,28,32,36,40,44,48,52,56,60,64,69] [17] mix (by kernel_rfl) (fun K J => pE rfl (pE rfl (pQ rfl (qA ar_41 rfl rfl rfl) (pQ rfl (qL ty_39 rfl m2 rfl) (pE rfl ?_)))))))))))))))))
 refine pQ rfl (qA ar_41 rfl rfl rfl) (pQ rfl (qL ty_39 rfl m1 rfl) (pQ rfl (q_ret en_67 (b3_ a.z b.x) rfl) (pE rfl (pQ rfl (qA ar_41 rfl rfl rfl) (pQ rfl (qL ty_39 rfl m2 rfl) (pE rfl (pQ rfl (qA ar_41 rfl rfl rfl) (pQ rfl (qL ty_39 rfl m1 rfl) (pQ rfl (q_ret en_67 (b3_ a.x b.z) rfl) ?_)))))))))
 obtain ⟨r5, hr5⟩ := nm ((ah_ (aE_ a.z b.x) (aE_ a.x b.z)) : Rt)
 refine pC (AV [pI r5.n, pI r5.d]) en_65 (cl_ (aE_ a.z b.x) (aE_ a.x b.z)) rfl rfl (by rw [hr5]; first | done | rfl) (pQ rfl (qA ar_41 rfl rfl rfl) (oS [pI r5.n, pI r5.d] ty_39 rfl rfl rfl rfl rfl rfl (.head _) rfl hb3 rfl (sd s0) (fl J (J7 _ _ (Rk fun K J => sV (.int .i64 2) rfl rfl (sE rfl (nl J (J5 _ _ (Un_s (fun K8 J8 => Rs fun K J => sV (.bool true) rfl rfl (nl J (Sq fun K9 J9 => bF_ rfl (ak_ (J9 _ _ (Sq fun K10 J10 => ar_ ?_)))))))))))))))
 refine Rs fun K J => sE rfl (sE rfl (nl J (Rs fun K J => sE rfl (sV (.int .i64 3) rfl rfl (sQ (q_as (v' := .int .i64 0) (q_rem rfl rfl (by decide)) rfl) rfl (sE rfl (sV (.int .i64 4) rfl rfl (sQ (q_as (v' := .int .i64 1) (q_rem rfl rfl (by decide)) rfl) rfl (sE rfl (sE rfl (nl J (dr (sd (sk (sk (s0)))) [0,4,8,12,16,20,24,28,32,36,40,44,48,52,56,60,64,69] [17] mix (by kernel_rfl) (fun K J => pE rfl (pE rfl (pQ rfl (qA ar_41 rfl rfl rfl) (pQ rfl (qL ty_39 rfl m2 rfl) (pE rfl ?_)))))))))))))))))
 refine pQ rfl (qA ar_41 rfl rfl rfl) (pQ rfl (qL ty_39 rfl m1 rfl) (pQ rfl (q_ret en_67 (b3_ a.x b.y) rfl) (pE rfl (pQ rfl (qA ar_41 rfl rfl rfl) (pQ rfl (qL ty_39 rfl m2 rfl) (pE rfl (pQ rfl (qA ar_41 rfl rfl rfl) (pQ rfl (qL ty_39 rfl m1 rfl) (pQ rfl (q_ret en_67 (b3_ a.y b.x) rfl) ?_)))))))))
 obtain ⟨r6, hr6⟩ := nm ((ah_ (aE_ a.x b.y) (aE_ a.y b.x)) : Rt)
 refine pC (AV [pI r6.n, pI r6.d]) en_65 (cl_ (aE_ a.x b.y) (aE_ a.y b.x)) rfl rfl (by rw [hr6]; first | done | rfl) (pQ rfl (qA ar_41 rfl rfl rfl) (oS [pI r6.n, pI r6.d] ty_39 rfl rfl rfl rfl rfl rfl (.head _) rfl hb3 rfl (sd s0) (fl J (J10 _ _ (Rk fun K J => sV (.int .i64 3) rfl rfl (sE rfl (nl J (J8 _ _ (Un_s (fun K11 J11 => Rs fun K J => sV (.bool false) rfl rfl (nl J (Sq fun K12 J12 => by_ rfl (bB_ (ax_ (ax_ (aF_ (J1 _ _ (Rs fun K J => sQ (qL ty_41 rfl m0 rfl) rfl ?_))))))))))))))))))
 refine sS [pI r4.n, pI r4.d, pI r5.n, pI r5.d, pI r6.n, pI r6.d] ty_41 rfl rfl rfl rfl rfl (.head _) rfl hb3 (nl J (W_ret (ret1 rfl (.inr rfl) (resP rfl m0 ty_41 rfl) ?_)))
 exact (by subst hr6; subst hr5; subst hr4; rfl)

theorem gg_ (a : (A3 W)) (b : (A3 Rt)) :
    Ret Tryz.prog 58 [AV [ci .i64 a.x.1, ci .i64 a.y.1, ci .i64 a.z.1], AV [pI b.x.n, pI b.x.d, pI b.y.n, pI b.y.d, pI b.z.n, pI b.z.d]] (AV [pI ((bG_ a b).n), pI ((bG_ a b).d)]) := by
 refine av_ (N := 9) Tryz.func58 rfl rfl (by simp) (fun w0 => ?_)
 simp only [initF, Nat.reduceAdd]
 refine Rs fun K J => WL_r rfl (a1_ rfl rfl (fun b1 hb1 => WL_r rfl (a1_ rfl rfl (fun b2 hb2 => sN zp_39 rfl fun b3 hb3 => nl J (ds (sd (sk (sk (s0)))) [0,4,8,12,17] [4] mix (by kernel_rfl) (fun K J => pQ rfl (qL ty_23 rfl m2 rfl) ?_))))))
 obtain ⟨r4, hr4⟩ := nm ((cd_ a) : (A3 Rt))
 refine pC (AV [pI r4.x.n, pI r4.x.d, pI r4.y.n, pI r4.y.d, pI r4.z.n, pI r4.z.d]) en_43 (d5_ a) rfl rfl (by rw [hr4]; first | done | rfl) (pQ rfl (qL ty_41 rfl m1 rfl) (pQ rfl (q_ret o1_ (fP_ r4 b) rfl) (oS [pI ((df_ r4 b).n), pI ((df_ r4 b).d)] ty_39 rfl rfl rfl rfl rfl rfl (.head _) rfl hb3 rfl (sd s0) (fl J (W_ret (ret1 rfl (.inr rfl) (resP rfl m0 ty_39 rfl) ?_))))))
 exact (by subst hr4; rfl)

theorem fa_ (a : (A3 Rt)) (b : (A3 Rt)) :
    Ret Tryz.prog 46 [AV [pI a.x.n, pI a.x.d, pI a.y.n, pI a.y.d, pI a.z.n, pI a.z.d], AV [pI b.x.n, pI b.x.d, pI b.y.n, pI b.y.d, pI b.z.n, pI b.z.d]] (AV [pI (((cn_ a b).x).n), pI (((cn_ a b).x).d), pI (((cn_ a b).y).n), pI (((cn_ a b).y).d), pI (((cn_ a b).z).n), pI (((cn_ a b).z).d)]) := by
 refine av_ (N := 20) Tryz.func46 rfl rfl (by simp) (fun w0 => ?_)
 simp only [initF, Nat.reduceAdd]
 refine Rs fun K J => WL_r rfl (a1_ rfl rfl (fun b1 hb1 => WL_r rfl (a1_ rfl rfl (fun b2 hb2 => sN zp_41 rfl fun b3 hb3 => nl J (Sq fun K1 J1 => Rs fun K J => sE rfl (nl J (ar_ (W_un 5 (Un_s (fun K2 J2 => Rs fun K J => sV (.bool true) rfl rfl (nl J (Sq fun K3 J3 => bF_ rfl (ak_ (J3 _ _ (Sq fun K4 J4 => ?_)))))))))))))))
 refine ar_ (Rs fun K J => sE rfl (sE rfl (nl J (dr (sk (sk (sd (s0)))) [0,4,8,12,16,20,24,28,32,37] [9] mix (by kernel_rfl) (fun K J => pE rfl (pE rfl (pQ rfl (qA ar_41 rfl rfl rfl) (pQ rfl (qL ty_39 rfl m2 rfl) (pE rfl (pQ rfl (qA ar_41 rfl rfl rfl) (pQ rfl (qL ty_39 rfl m1 rfl) (pQ rfl (q_ret en_66 (bh_ a.x b.x) rfl) (pQ rfl (qA ar_41 rfl rfl rfl) (oS [pI ((aA_ a.x b.x).n), pI ((aA_ a.x b.x).d)] ty_39 rfl rfl rfl rfl rfl rfl (.tail _ (.tail _ (.head _))) rfl hb1 rfl (sk (sk (sd s0))) (fl J (J4 _ _ (Rk fun K J => sV (.int .i64 1) rfl rfl ?_)))))))))))))))))
 refine sE rfl (nl J (J2 _ _ (Un_s (fun K5 J5 => Rs fun K J => sV (.bool true) rfl rfl (nl J (Sq fun K6 J6 => bF_ rfl (ak_ (J6 _ _ (Sq fun K7 J7 => ar_ (Rs fun K J => sE rfl (sE rfl (nl J (dr (sk (sk (sd (s0)))) [0,4,8,12,16,20,24,28,32,37] [9] mix (by kernel_rfl) (fun K J => pE rfl (pE rfl ?_)))))))))))))))
 refine pQ rfl (qA ar_41 rfl rfl rfl) (pQ rfl (qL ty_39 rfl m2 rfl) (pE rfl (pQ rfl (qA ar_41 rfl rfl rfl) (pQ rfl (qL ty_39 rfl m1 rfl) (pQ rfl (q_ret en_66 (bh_ a.y b.y) rfl) (pQ rfl (qA ar_41 rfl rfl rfl) (oS [pI ((aA_ a.y b.y).n), pI ((aA_ a.y b.y).d)] ty_39 rfl rfl rfl rfl rfl rfl (.tail _ (.tail _ (.head _))) rfl hb1 rfl (sk (sk (sd s0))) (fl J (J7 _ _ (Rk fun K J => sV (.int .i64 2) rfl rfl (sE rfl (nl J (J5 _ _ (Un_s (fun K8 J8 => Rs fun K J => sV (.bool true) rfl rfl (nl J (Sq fun K9 J9 => ?_)))))))))))))))))
 refine bF_ rfl (ak_ (J9 _ _ (Sq fun K10 J10 => ar_ (Rs fun K J => sE rfl (sE rfl (nl J (dr (sk (sk (sd (s0)))) [0,4,8,12,16,20,24,28,32,37] [9] mix (by kernel_rfl) (fun K J => pE rfl (pE rfl (pQ rfl (qA ar_41 rfl rfl rfl) (pQ rfl (qL ty_39 rfl m2 rfl) (pE rfl (pQ rfl (qA ar_41 rfl rfl rfl) (pQ rfl (qL ty_39 rfl m1 rfl) (pQ rfl (q_ret en_66 (bh_ a.z b.z) rfl) (pQ rfl (qA ar_41 rfl rfl rfl) (oS [pI ((aA_ a.z b.z).n), pI ((aA_ a.z b.z).d)] ty_39 rfl rfl rfl rfl rfl rfl (.tail _ (.tail _ (.head _))) rfl hb1 rfl (sk (sk (sd s0))) ?_)))))))))))))))))
 refine fl J (J10 _ _ (Rk fun K J => sV (.int .i64 3) rfl rfl (sE rfl (nl J (J8 _ _ (Un_s (fun K11 J11 => Rs fun K J => sV (.bool false) rfl rfl (nl J (Sq fun K12 J12 => by_ rfl (bB_ (ax_ (ax_ (aF_ (J1 _ _ (Rs fun K J => sQ (qL ty_41 rfl m2 rfl) rfl (sS [pI ((aA_ a.x b.x).n), pI ((aA_ a.x b.x).d), pI ((aA_ a.y b.y).n), pI ((aA_ a.y b.y).d), pI ((aA_ a.z b.z).n), pI ((aA_ a.z b.z).d)] ty_41 rfl rfl rfl rfl rfl (.head _) rfl hb3 (nl J (W_ret ?_))))))))))))))))))
 refine ret1 rfl (.inr rfl) (resP rfl m0 ty_41 rfl) ?_
 exact (by rfl)

theorem fR_ (a : (A3 Rt)) (b : (A3 Rt)) :
    Ret Tryz.prog 47 [AV [pI a.x.n, pI a.x.d, pI a.y.n, pI a.y.d, pI a.z.n, pI a.z.d], AV [pI b.x.n, pI b.x.d, pI b.y.n, pI b.y.d, pI b.z.n, pI b.z.d]] (AV [pI (((ct_ a b).x).n), pI (((ct_ a b).x).d), pI (((ct_ a b).y).n), pI (((ct_ a b).y).d), pI (((ct_ a b).z).n), pI (((ct_ a b).z).d)]) := by
 refine av_ (N := 20) Tryz.func47 rfl rfl (by simp) (fun w0 => ?_)
 simp only [initF, Nat.reduceAdd]
 refine Rs fun K J => WL_r rfl (a1_ rfl rfl (fun b1 hb1 => WL_r rfl (a1_ rfl rfl (fun b2 hb2 => sN zp_41 rfl fun b3 hb3 => nl J (Sq fun K1 J1 => Rs fun K J => sE rfl (nl J (ar_ (W_un 5 (Un_s (fun K2 J2 => Rs fun K J => sV (.bool true) rfl rfl (nl J (Sq fun K3 J3 => bF_ rfl (ak_ (J3 _ _ (Sq fun K4 J4 => ?_)))))))))))))))
 refine ar_ (Rs fun K J => sE rfl (sE rfl (nl J (dr (sk (sk (sd (s0)))) [0,4,8,12,16,20,24,28,32,37] [9] mix (by kernel_rfl) (fun K J => pE rfl (pE rfl (pQ rfl (qA ar_41 rfl rfl rfl) (pQ rfl (qL ty_39 rfl m2 rfl) (pE rfl (pQ rfl (qA ar_41 rfl rfl rfl) (pQ rfl (qL ty_39 rfl m1 rfl) (pQ rfl (q_ret en_65 (cl_ a.x b.x) rfl) (pQ rfl (qA ar_41 rfl rfl rfl) (oS [pI ((ah_ a.x b.x).n), pI ((ah_ a.x b.x).d)] ty_39 rfl rfl rfl rfl rfl rfl (.tail _ (.tail _ (.head _))) rfl hb1 rfl (sk (sk (sd s0))) (fl J (J4 _ _ (Rk fun K J => sV (.int .i64 1) rfl rfl ?_)))))))))))))))))
 refine sE rfl (nl J (J2 _ _ (Un_s (fun K5 J5 => Rs fun K J => sV (.bool true) rfl rfl (nl J (Sq fun K6 J6 => bF_ rfl (ak_ (J6 _ _ (Sq fun K7 J7 => ar_ (Rs fun K J => sE rfl (sE rfl (nl J (dr (sk (sk (sd (s0)))) [0,4,8,12,16,20,24,28,32,37] [9] mix (by kernel_rfl) (fun K J => pE rfl (pE rfl ?_)))))))))))))))
 refine pQ rfl (qA ar_41 rfl rfl rfl) (pQ rfl (qL ty_39 rfl m2 rfl) (pE rfl (pQ rfl (qA ar_41 rfl rfl rfl) (pQ rfl (qL ty_39 rfl m1 rfl) (pQ rfl (q_ret en_65 (cl_ a.y b.y) rfl) (pQ rfl (qA ar_41 rfl rfl rfl) (oS [pI ((ah_ a.y b.y).n), pI ((ah_ a.y b.y).d)] ty_39 rfl rfl rfl rfl rfl rfl (.tail _ (.tail _ (.head _))) rfl hb1 rfl (sk (sk (sd s0))) (fl J (J7 _ _ (Rk fun K J => sV (.int .i64 2) rfl rfl (sE rfl (nl J (J5 _ _ (Un_s (fun K8 J8 => Rs fun K J => sV (.bool true) rfl rfl (nl J (Sq fun K9 J9 => ?_)))))))))))))))))
 refine bF_ rfl (ak_ (J9 _ _ (Sq fun K10 J10 => ar_ (Rs fun K J => sE rfl (sE rfl (nl J (dr (sk (sk (sd (s0)))) [0,4,8,12,16,20,24,28,32,37] [9] mix (by kernel_rfl) (fun K J => pE rfl (pE rfl (pQ rfl (qA ar_41 rfl rfl rfl) (pQ rfl (qL ty_39 rfl m2 rfl) (pE rfl (pQ rfl (qA ar_41 rfl rfl rfl) (pQ rfl (qL ty_39 rfl m1 rfl) (pQ rfl (q_ret en_65 (cl_ a.z b.z) rfl) (pQ rfl (qA ar_41 rfl rfl rfl) (oS [pI ((ah_ a.z b.z).n), pI ((ah_ a.z b.z).d)] ty_39 rfl rfl rfl rfl rfl rfl (.tail _ (.tail _ (.head _))) rfl hb1 rfl (sk (sk (sd s0))) ?_)))))))))))))))))
 refine fl J (J10 _ _ (Rk fun K J => sV (.int .i64 3) rfl rfl (sE rfl (nl J (J8 _ _ (Un_s (fun K11 J11 => Rs fun K J => sV (.bool false) rfl rfl (nl J (Sq fun K12 J12 => by_ rfl (bB_ (ax_ (ax_ (aF_ (J1 _ _ (Rs fun K J => sQ (qL ty_41 rfl m2 rfl) rfl (sS [pI ((ah_ a.x b.x).n), pI ((ah_ a.x b.x).d), pI ((ah_ a.y b.y).n), pI ((ah_ a.y b.y).d), pI ((ah_ a.z b.z).n), pI ((ah_ a.z b.z).d)] ty_41 rfl rfl rfl rfl rfl (.head _) rfl hb3 (nl J (W_ret ?_))))))))))))))))))
 refine ret1 rfl (.inr rfl) (resP rfl m0 ty_41 rfl) ?_
 exact (by rfl)

theorem eO_ (a : Rt) (b : (A3 Rt)) :
    Ret Tryz.prog 45 [AV [pI a.n, pI a.d], AV [pI b.x.n, pI b.x.d, pI b.y.n, pI b.y.d, pI b.z.n, pI b.z.d]] (AV [pI (((b7_ a b).x).n), pI (((b7_ a b).x).d), pI (((b7_ a b).y).n), pI (((b7_ a b).y).d), pI (((b7_ a b).z).n), pI (((b7_ a b).z).d)]) := by
 refine av_ (N := 18) Tryz.func45 rfl rfl (by simp) (fun w0 => ?_)
 simp only [initF, Nat.reduceAdd]
 refine Rs fun K J => WL_r rfl (a1_ rfl rfl (fun b1 hb1 => WL_r rfl (a1_ rfl rfl (fun b2 hb2 => sN zp_41 rfl fun b3 hb3 => nl J (Sq fun K1 J1 => Rs fun K J => sE rfl (nl J (ar_ (W_un 5 (Un_s (fun K2 J2 => Rs fun K J => sV (.bool true) rfl rfl (nl J (Sq fun K3 J3 => bF_ rfl (ak_ (J3 _ _ (Sq fun K4 J4 => ?_)))))))))))))))
 refine ar_ (Rs fun K J => sE rfl (sE rfl (nl J (dr (sk (sd (sk (s0)))) [0,4,8,12,16,20,24,29] [7] mix (by kernel_rfl) (fun K J => pE rfl (pQ rfl (qL ty_39 rfl m2 rfl) (pE rfl (pQ rfl (qA ar_41 rfl rfl rfl) (pQ rfl (qL ty_39 rfl m1 rfl) (pQ rfl (q_ret en_67 (b3_ a b.x) rfl) (pQ rfl (qA ar_41 rfl rfl rfl) (oS [pI ((aE_ a b.x).n), pI ((aE_ a b.x).d)] ty_39 rfl rfl rfl rfl rfl rfl (.tail _ (.head _)) rfl hb2 rfl (sk (sd s0)) (fl J (J4 _ _ (Rk fun K J => sV (.int .i64 1) rfl rfl (sE rfl (nl J ?_)))))))))))))))))
 refine J2 _ _ (Un_s (fun K5 J5 => Rs fun K J => sV (.bool true) rfl rfl (nl J (Sq fun K6 J6 => bF_ rfl (ak_ (J6 _ _ (Sq fun K7 J7 => ar_ (Rs fun K J => sE rfl (sE rfl (nl J (dr (sk (sd (sk (s0)))) [0,4,8,12,16,20,24,29] [7] mix (by kernel_rfl) (fun K J => pE rfl (pQ rfl (qL ty_39 rfl m2 rfl) (pE rfl (pQ rfl (qA ar_41 rfl rfl rfl) ?_)))))))))))))))
 refine pQ rfl (qL ty_39 rfl m1 rfl) (pQ rfl (q_ret en_67 (b3_ a b.y) rfl) (pQ rfl (qA ar_41 rfl rfl rfl) (oS [pI ((aE_ a b.y).n), pI ((aE_ a b.y).d)] ty_39 rfl rfl rfl rfl rfl rfl (.tail _ (.head _)) rfl hb2 rfl (sk (sd s0)) (fl J (J7 _ _ (Rk fun K J => sV (.int .i64 2) rfl rfl (sE rfl (nl J (J5 _ _ (Un_s (fun K8 J8 => Rs fun K J => sV (.bool true) rfl rfl (nl J (Sq fun K9 J9 => bF_ rfl (ak_ (J9 _ _ (Sq fun K10 J10 => ?_))))))))))))))))
 refine ar_ (Rs fun K J => sE rfl (sE rfl (nl J (dr (sk (sd (sk (s0)))) [0,4,8,12,16,20,24,29] [7] mix (by kernel_rfl) (fun K J => pE rfl (pQ rfl (qL ty_39 rfl m2 rfl) (pE rfl (pQ rfl (qA ar_41 rfl rfl rfl) (pQ rfl (qL ty_39 rfl m1 rfl) (pQ rfl (q_ret en_67 (b3_ a b.z) rfl) (pQ rfl (qA ar_41 rfl rfl rfl) (oS [pI ((aE_ a b.z).n), pI ((aE_ a b.z).d)] ty_39 rfl rfl rfl rfl rfl rfl (.tail _ (.head _)) rfl hb2 rfl (sk (sd s0)) (fl J (J10 _ _ (Rk fun K J => sV (.int .i64 3) rfl rfl (sE rfl (nl J ?_)))))))))))))))))
 refine J8 _ _ (Un_s (fun K11 J11 => Rs fun K J => sV (.bool false) rfl rfl (nl J (Sq fun K12 J12 => by_ rfl (bB_ (ax_ (ax_ (aF_ (J1 _ _ (Rs fun K J => sQ (qL ty_41 rfl m1 rfl) rfl (sS [pI ((aE_ a b.x).n), pI ((aE_ a b.x).d), pI ((aE_ a b.y).n), pI ((aE_ a b.y).d), pI ((aE_ a b.z).n), pI ((aE_ a b.z).d)] ty_41 rfl rfl rfl rfl rfl (.head _) rfl hb3 (nl J (W_ret (ret1 rfl (.inr rfl) (resP rfl m0 ty_41 rfl) ?_))))))))))))))
 exact (by rfl)
end Go.Proofs.YtapbefpeopaecaaGreatDoor

namespace Go.Proofs.YtapbefpeopaecaaGreatDoor
open Go.Kn Go.Num
set_option linter.unusedVariables false
set_option linter.unusedSimpArgs false
set_option maxRecDepth 20000
set_option maxHeartbeats 8000000
theorem iz_ (a : R) (ha : a.Ok) (hn : a.neg = false) (w : List Nat) (hw : w.length = 16) (hlim : Lim w) (vs : Value) :
    Ret Tryz.prog 138 [RV a, UV w, vs] (RV ⟨false, false, w⟩) := by
 refine av_ (N := 32) Tryz.func138 rfl rfl (by simp) (fun w0 => ?_)
 simp only [initF, Nat.reduceAdd]
 obtain ⟨bd, ng, l⟩ := a
 simp only at hn
 subst hn
 refine Sq fun K1 J1 => Rk fun K J => WL_r rfl (r_box rfl rfl (fun b3 hb3 => WL_r rfl (r_box rfl rfl (fun b4 hb4 => WL_r rfl (bl_ z_37 (fun b6 hb6 => nl J (J1 _ _ (Sq fun K2 J2 => Rk fun K J => sQ (aW_ bq_ (by decide) rfl) rfl (sQ (bf_ (v := .bool false) ty_4 rfl (by repeat (first | exact .head _ | apply List.mem_append_right | apply List.Mem.tail)) rfl) rfl ?_)))))))))
 refine sQ (aS_ ty_35 rfl (by repeat (first | exact .head _ | apply List.mem_append_right | apply List.Mem.tail)) (by simp [uw, hw])) rfl ?_
 refine sQ (q_ret eu_ (bn_ false w hw hlim) rfl) rfl (WL_r rfl (bl_ z_37 (fun b7 hb7 => WL_r rfl (aG_ ty_37 rfl rfl (by repeat (first | exact .head _ | apply Upd.left | apply Upd.tail)) (cC_ hw) rfl (at_ _) (.inl (by assumption)) ?_))))
 refine nl J (J2 _ _ (Sq fun K3 J3 => Sq fun K4 J4 => dr (sk (sk (sk (sk (s0))))) [0,4,8,12,16,20,24,28,32,36,40,44,48,52,56,60] [] mix (by kernel_rfl) (fun K J => pQ rfl (aW_ bq_ (by decide) rfl) (pQ rfl (bf_ (v := .bool false) ty_4 rfl (by repeat (first | exact .head _ | apply List.mem_append_right | apply List.Mem.tail)) rfl) ?_))))
 refine pE rfl (PL_n rfl rfl (PL_n rfl rfl (PL_n rfl rfl (PL_n rfl rfl (PL_n rfl rfl (PL_n rfl rfl (PL_n rfl rfl (PL_n rfl rfl (PL_n rfl rfl (PL_n rfl rfl (PL_n rfl rfl (PL_n rfl rfl (pE rfl (fl J (J4 _ _ (by_ rfl (ak_ (J3 _ _ (Sq fun K5 J5 => ?_)))))))))))))))))))
 refine Rk fun K J => sQ (aS_ ty_37 rfl (by repeat (first | exact .head _ | apply List.mem_append_right | apply List.Mem.tail)) (cC_ hw)) rfl ?_
 refine WL_r rfl (aG_ ty_37 rfl rfl (by repeat (first | exact .head _ | apply Upd.left | apply Upd.tail)) (cC_ hw) rfl (at_ _) (.inl (by assumption)) ?_)
 refine nl J (J5 _ _ (W_ret (ret1 rfl (.inr rfl) ⟨_, _, _, _, _, _, rfl, (by repeat (first | exact .head _ | apply List.mem_append_right | apply List.Mem.tail)), ty_37, _, (bd_ (cC_ hw)), (cC_ hw), rfl⟩ ?_)))
 exact rfl

theorem iy_ (a : R) (ha : a.Ok) (hn : a.neg = false) :
    Ret Tryz.prog 95 [RV a, .int .i64 (-1)] (RV (Z.half a.dec).enc) := by
 refine av_ (N := 75) Tryz.func95 rfl rfl (by simp) (fun w0 => ?_)
 simp only [initF, Nat.reduceAdd]
 refine Sq fun K1 J1 => Rk fun K J => WL_r rfl (r_box rfl rfl (fun b2 hb2 => WL_r rfl (bl_ z_37 (fun b4 hb4 => nl J (J1 _ _ (Sq fun K2 J2 => ar_ (Sq fun K3 J3 => Rk fun K J => sQ (aS_ ty_37 rfl (by repeat (first | exact .head _ | apply List.mem_append_right | apply List.Mem.tail)) (aQ_ ha)) rfl ?_)))))))
 refine WL_r rfl (cv_ eR_ z_37 sz_37 rfl (by decide) rfl (gs_ ha) (fun b9 hb9 => sQ (bU_ eT_ rfl (fun w hw => bZ_ [a] (ok1 ha) b9 37 w (hw.mem _ m0) (by simp))) rfl ?_))
 refine sE rfl (sE rfl (nl J (J3 _ _ ?_)))
 refine a6_ _ rfl (fun hg => ?_) (fun hg => ?_)
 ·(try simp only [decide_eq_true_eq, decide_eq_false_iff_not, beq_iff_eq, bne_iff_ne, beq_eq_false_iff_ne, bne_eq_false_iff_eq, Bool.not_eq_true', Bool.not_eq_false'] at hg)
  refine Sq fun K4 J4 => Rk fun K J => sQ (q_ret eL_ bW_ rfl) rfl (WL_r rfl (aG_ ty_37 rfl rfl (by repeat (first | exact .head _ | apply Upd.left | apply Upd.tail)) (ag_ _) rfl (at_ _) (.inl (by assumption)) ?_))
  refine nl J (J4 _ _ (W_ret (aB_ (ai_ (ret1 rfl (.inr rfl) ⟨_, _, _, _, _, _, rfl, (by repeat (first | exact .head _ | apply List.mem_append_right | apply List.Mem.tail)), ty_37, _, (bd_ (ag_ _)), (ag_ _), rfl⟩ ?_)))))
  (rw [oT_ (by simpa using hg)]; rfl)
 ·(try simp only [decide_eq_true_eq, decide_eq_false_iff_not, beq_iff_eq, bne_iff_ne, beq_eq_false_iff_ne, bne_eq_false_iff_eq, Bool.not_eq_true', Bool.not_eq_false'] at hg)
  refine Sq fun K5 J5 => Rk fun K J => sQ (aS_ ty_37 rfl (by repeat (first | exact .head _ | apply List.mem_append_right | apply List.Mem.tail)) (aQ_ ha)) rfl ?_
  refine sQ (q_ret fu_ (cf_ a ha) rfl) rfl (sE rfl (sE rfl (nl J (J5 _ _ ?_))))
  refine a6_ _ rfl (fun hs => ?_) (fun hs => ?_)
  ·(try simp only [decide_eq_true_eq, decide_eq_false_iff_not, beq_iff_eq, bne_iff_ne, beq_eq_false_iff_ne, bne_eq_false_iff_eq, Bool.not_eq_true', Bool.not_eq_false'] at hs)
   refine Sq fun K6 J6 => Rk fun K J => sQ (aS_ ty_37 rfl (by repeat (first | exact .head _ | apply List.mem_append_right | apply List.Mem.tail)) (aQ_ ha)) rfl ?_
   refine WL_r rfl (aG_ ty_37 rfl rfl (by repeat (first | exact .head _ | apply Upd.left | apply Upd.tail)) (aQ_ ha) rfl (at_ _) (.inl (by assumption)) ?_)
   refine nl J (J6 _ _ (W_ret (aB_ (ai_ (ret1 rfl (.inr rfl) ⟨_, _, _, _, _, _, rfl, (by repeat (first | exact .head _ | apply List.mem_append_right | apply List.Mem.tail)), ty_37, _, (bd_ (aQ_ ha)), (aQ_ ha), rfl⟩ ?_)))))
   exact congrArg RV (mQ_ ha (by simpa using hg) hn hs)
  ·(try simp only [decide_eq_true_eq, decide_eq_false_iff_not, beq_iff_eq, bne_iff_ne, beq_eq_false_iff_ne, bne_eq_false_iff_eq, Bool.not_eq_true', Bool.not_eq_false'] at hs)
   refine Sq fun K7 J7 => Rk fun K J => sE rfl (sE rfl (sE rfl (sE rfl (sE rfl (sE rfl (WL_n rfl (WL_n rfl (WL_n rfl (WL_n rfl (WL_n rfl (sE rfl (sE rfl (sE rfl (nl J (J7 _ _ (by_ rfl (Sq fun K8 J8 => ?_)))))))))))))))))
   refine Rk fun K J => sE rfl (sE rfl (sE rfl (nl J (J8 _ _ (by_ rfl (ak_ (J2 _ _ (Sq fun K9 J9 => Rk fun K J => WL_r rfl (bl_ z_35 (fun b5 hb5 => nl J (J9 _ _ (Sq fun K10 J10 => Rk fun K J => sE rfl (sQ (q_quo rfl rfl (by decide)) rfl (sE rfl (nl J ?_)))))))))))))))
   refine J10 _ _ (Sq fun K11 J11 => Sq fun K12 J12 => Rk fun K J => sE rfl (sE rfl (nl J (J12 _ _ (by_ rfl (ak_ (J11 _ _ (Sq fun K13 J13 => dr (sd (sk (sk (sk (s0))))) [0,4,8,12,16,21] [5] mix (by kernel_rfl) (fun K J => pQ rfl (gp_ ar_35 rfl rfl rfl (by decide) (by decide) (by decide) (by decide)) (pQ rfl (aW_ bv_ (by decide) rfl) (pE rfl (pE rfl (pQ rfl (gp_ ar_35 rfl rfl rfl (by decide) (by decide) (by decide) (by decide)) ?_)))))))))))))
   refine PL_o rfl rfl (k6_ kB_ rfl rfl (by repeat (first | exact .head _ | apply List.mem_append_right | apply List.Mem.tail)) (by repeat (first | exact .head _ | apply Upd.left | apply Upd.tail)) (fun v hv => at_ a v (List.mem_of_mem_drop (List.mem_of_mem_take hv))) (by rw [aQ_ ha]; decide) (by simp [uw]) (mE_ ha) (.inl (by assumption)) ⟨nf, (by repeat (first | exact s0 | exact sn | refine sk ?_ | refine sd ?_ | refine sA ?_ | refine sR ?_)), ?_⟩)
   refine fl J (J13 _ _ (Sq fun K14 J14 => dr (sk (sk (sd (sk (s0))))) [0,4,8,12,16,20,24,28,33,36,41] [10] mix (by kernel_rfl) (fun K J => pQ rfl (aS_ ty_37 rfl (by repeat (first | exact .head _ | apply List.mem_append_right | apply List.Mem.tail)) (aQ_ ha)) ?_)))
   refine pQ rfl (aS_ ty_35 rfl (by repeat (first | exact .head _ | apply List.mem_append_right | apply List.Mem.tail)) (by simp [uw, ha.len])) ?_
   refine pE rfl (pE rfl (pQ rfl (q_rem rfl rfl (by decide)) (pQ rfl (q_ret pg_ (gI_ a.w ha.len ha.lim 1 (by decide)) rfl) (pE rfl (pE rfl ?_)))))
   refine PL_o rfl rfl (cv_ us_81 z_3 sz_3 rfl (by decide) rfl (hv_ 1) (fun b73 hb73 => ⟨(fun _ => by first | exact sd s0 | exact s0), (by repeat (first | exact s0 | exact sn | refine sk ?_ | refine sd ?_ | refine sA ?_ | refine sR ?_)), ?_⟩))
   refine pQ rfl (q_ret rZ_ (iz_ a ha hn (toL 16 (val a.w / 2 ^ 1)) (a3_ _ _) (dh_ _ _) _) rfl) ?_
   refine PL_o rfl rfl (aG_ ty_37 rfl rfl (by repeat (first | exact .head _ | apply Upd.left | apply Upd.tail)) (cC_ (a3_ _ _)) rfl (at_ _) (.inl (by assumption)) ⟨nf, (by repeat (first | exact s0 | exact sn | refine sk ?_ | refine sd ?_ | refine sA ?_ | refine sR ?_)), ?_⟩)
   refine fl J (J14 _ _ (W_ret (ret1 rfl (.inr rfl) ⟨_, _, _, _, _, _, rfl, (by repeat (first | exact .head _ | apply List.mem_append_right | apply List.Mem.tail)), ty_37, _, (bd_ (cC_ (a3_ _ _))), (cC_ (a3_ _ _)), rfl⟩ ?_)))
   exact congrArg RV (nJ_ ha (by simpa using hg) hn)
end Go.Proofs.YtapbefpeopaecaaGreatDoor

