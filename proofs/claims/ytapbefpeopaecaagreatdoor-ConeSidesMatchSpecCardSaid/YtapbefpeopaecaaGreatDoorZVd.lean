/- Walks: what these functions return. -/
import Derived.Test.YtapbefpeopaecaaGreatDoorZFa0
import Derived.Test.YtapbefpeopaecaaGreatDoorZFn
import Derived.Test.YtapbefpeopaecaaGreatDoorZGa
import Derived.Test.YtapbefpeopaecaaGreatDoorZVa
import Derived.Test.YtapbefpeopaecaaGreatDoorZWc
namespace Go.Proofs.YtapbefpeopaecaaGreatDoor
open Go.Kn Go.Num
set_option linter.unusedVariables false
set_option linter.unusedSimpArgs false
set_option maxRecDepth 20000
set_option maxHeartbeats 8000000
theorem hg_ (a : (A3 W)) :
    Ret Tryz.prog 94 [AV [ci .i64 a.x.1, ci .i64 a.y.1, ci .i64 a.z.1]] (.tuple #[AV [ci .i64 ((((am_ a).1).x).1), ci .i64 ((((am_ a).1).y).1), ci .i64 ((((am_ a).1).z).1)], AV [ci .i64 ((((am_ a).2).x).1), ci .i64 ((((am_ a).2).y).1), ci .i64 ((((am_ a).2).z).1)]]) := by
 refine as_ (N := 47) Tryz.func94 rfl rfl (by simp) (fun w0 => ?_)
 simp only [initF, Nat.reduceAdd]
 refine Rs fun K J => WL_r rfl (aQ_ rfl rfl (fun b1 hb1 => sN zp_23 rfl fun b2 hb2 => sN zp_23 rfl fun b3 hb3 => nl J (Sq fun K1 J1 => Rs fun K J => sQ (qL ty_23 rfl m2 rfl) rfl (sQ (qA ar_23 rfl rfl rfl) rfl (sQ (qC ty_3 rfl m2 rfl) rfl (sQ (bM_ zp_23 ar_23 rfl (.cons [ci .i64 0] [ci .i64 0, ci .i64 0, ci .i64 0] rfl rfl rfl rfl (.cons [ci .i64 0] [ci .i64 0, ci .i64 0, ci .i64 0] rfl rfl rfl rfl (.cons [ci .i64 a.z.1] [ci .i64 0, ci .i64 0, ci .i64 a.z.1] rfl rfl rfl rfl (.nil _))))) rfl ?_))))))
 refine sQ (h4_ (r := (decide (a.x.1 = 0) && (decide (a.y.1 = 0) && decide (a.z.1 = a.z.1)))) rfl rfl (et_ 8 (by decide) eg_23 lw_23 (ch_ lv_ci (ch_ lv_ci (eO_ lv_ci))) (ch_ lv_ci (ch_ lv_ci (eO_ lv_ci))) (dd_ rfl eq_ci (dd_ rfl eq_ci (f0_ eq_ci))))) rfl (nl J ?_)
 rcases bt (decide (a.x.1 = 0) && (decide (a.y.1 = 0) && decide (a.z.1 = a.z.1))) with h4 | h4
 ·skip
  refine W_t h4 rfl (Rs fun K J => sQ (bM_ zp_23 ar_23 rfl (.cons [ci .i64 1] [ci .i64 1, ci .i64 0, ci .i64 0] rfl rfl rfl rfl (.cons [ci .i64 0] [ci .i64 1, ci .i64 0, ci .i64 0] rfl rfl rfl rfl (.cons [ci .i64 0] [ci .i64 1, ci .i64 0, ci .i64 0] rfl rfl rfl rfl (.nil _))))) rfl (sQ (bM_ zp_23 ar_23 rfl (.cons [ci .i64 0] [ci .i64 0, ci .i64 0, ci .i64 0] rfl rfl rfl rfl (.cons [ci .i64 1] [ci .i64 0, ci .i64 1, ci .i64 0] rfl rfl rfl rfl (.cons [ci .i64 0] [ci .i64 0, ci .i64 1, ci .i64 0] rfl rfl rfl rfl (.nil _))))) rfl (sS [ci .i64 1, ci .i64 0, ci .i64 0] ty_23 rfl rfl rfl rfl rfl (.tail _ (.head _)) rfl hb2 (sS [ci .i64 0, ci .i64 1, ci .i64 0] ty_23 rfl rfl rfl rfl rfl (.head _) rfl hb3 (nl J (W_ret (af_ (ret2 rfl (.inr rfl) (resP rfl m1 ty_23 rfl) (resP rfl m0 ty_23 rfl) ?_))))))))
  exact (by exact congrArg (fun r : (A3 W) × (A3 W) => (.tuple #[AV [ci .i64 r.1.x.1, ci .i64 r.1.y.1, ci .i64 r.1.z.1], AV [ci .i64 r.2.x.1, ci .i64 r.2.y.1, ci .i64 r.2.z.1]] : Value)) (show _ = (am_ a) from bif_t h4 rfl))
 ·skip
  refine W_f h4 rfl (aj_ (J1 _ _ (Rs fun K J => sQ (qL ty_23 rfl m2 rfl) rfl (sQ (q_ret lU_ (ec_ a) rfl) rfl (sN zp_94 rfl fun b5 hb5 => sS [pI ((az_ a).x), pI ((az_ a).y), pI ((az_ a).z)] ty_94 rfl rfl rfl rfl rfl (.head _) rfl hb5 (nl J (ds (sd (sk (sk (sk (s0))))) [0,4,8,12,16,20,24,28,32,36,42,45,49,52] [12] mix (by kernel_rfl) (fun K J => pQ rfl (qA ar_94 rfl rfl rfl) (pQ rfl (qL ty_37 rfl m0 rfl) (pC (AV [pI (E (Z.neg ((az_ a).y).dec))]) lV_ (fo_ ((az_ a).y).1 ((az_ a).y).2) rfl rfl rfl (pQ rfl (qA ar_94 rfl rfl rfl) (pQ rfl (qL ty_37 rfl m0 rfl) (pC (AV [pI (E (Z.of 0))]) en_61 (bZ_ (wl 0).1 (wl 0).2) rfl rfl rfl ?_)))))))))))))
  refine pQ rfl (bM_ zp_94 ar_94 rfl (.cons [pI (E (Z.neg ((az_ a).y).dec))] [pI (E (Z.neg ((az_ a).y).dec)), pI I0, pI I0] rfl rfl rfl rfl (.cons [pI ((az_ a).x)] [pI (E (Z.neg ((az_ a).y).dec)), pI ((az_ a).x), pI I0] rfl rfl rfl rfl (.cons [pI (E (Z.of 0))] [pI (E (Z.neg ((az_ a).y).dec)), pI ((az_ a).x), pI (E (Z.of 0))] rfl rfl rfl rfl (.nil _))))) ?_
  obtain ⟨r6, hr6⟩ := nm ((a1_ (⟨(E (Z.neg ((az_ a).y).dec)), ((az_ a).x), (E (Z.of 0))⟩ : (A3 I))).1 : (A3 W))
  obtain ⟨r7, hr7⟩ := nm ((a1_ (⟨(E (Z.neg ((az_ a).y).dec)), ((az_ a).x), (E (Z.of 0))⟩ : (A3 I))).2 : W)
  refine pC (.tuple #[AV [ci .i64 r6.x.1, ci .i64 r6.y.1, ci .i64 r6.z.1], .int .i64 r7.1]) pE_ (fk_ (⟨(E (Z.neg ((az_ a).y).dec)), ((az_ a).x), (E (Z.of 0))⟩ : (A3 I))) rfl rfl (by rw [hr6, hr7]; first | done | rfl) (pE rfl (pE rfl (tE rfl (PL_o rfl rfl (bw_ zp_23 (fun b8 hb8 => ⟨(fun _ => sd s0), (sd (sd s0)), oS [ci .i64 r6.x.1, ci .i64 r6.y.1, ci .i64 r6.z.1] ty_23 rfl rfl rfl rfl rfl rfl (.head _) rfl hb8 rfl (sd (sd s0)) (pE rfl (fl J (ds (sk (sk (sk (sk (sk (s0)))))) [0,4,8,12,16,20,24,30,33,37,40] [9] mix (by kernel_rfl) (fun K J => pQ rfl (qL ty_94 rfl m1 rfl) (pQ rfl (qL ty_23 rfl m0 rfl) (pQ rfl (q_ret lU_ (ec_ r6) rfl) ?_))))))⟩))))))
  obtain ⟨r9, hr9⟩ := nm ((d9_ (az_ a) (az_ r6)) : (A3 I))
  refine pC (AV [pI r9.x, pI r9.y, pI r9.z]) rq_ (h9_ (az_ a) (az_ r6)) rfl rfl (by rw [hr9]; first | done | rfl) ?_
  obtain ⟨r10, hr10⟩ := nm ((a1_ r9).1 : (A3 W))
  refine pC (.tuple #[AV [ci .i64 r10.x.1, ci .i64 r10.y.1, ci .i64 r10.z.1], .int .i64 (((a1_ r9).2).1)]) pE_ (fk_ r9) rfl rfl (by rw [hr10]; first | done | rfl) (pE rfl (pE rfl (tE rfl (PL_o rfl rfl (bw_ zp_23 (fun b11 hb11 => ⟨(fun _ => sd s0), (sd s0), oS [ci .i64 r10.x.1, ci .i64 r10.y.1, ci .i64 r10.z.1] ty_23 rfl rfl rfl rfl rfl rfl (.head _) rfl hb11 rfl (sd s0) (pE rfl (fl J (Sq fun K2 J2 => ?_)))⟩))))))
  refine bV_ [37, 38, 39, 40, 41, 42] (fun g M => (g 42 = .bool ((r7.1 != 0) || (((a1_ r9).2).1 != 0))) ∧ M = [⟨b11, 23, flat [ci .i64 r10.x.1, ci .i64 r10.y.1, ci .i64 r10.z.1]⟩, ⟨b8, 23, flat [ci .i64 r6.x.1, ci .i64 r6.y.1, ci .i64 r6.z.1]⟩, ⟨b5, 94, flat [pI ((az_ a).x), pI ((az_ a).y), pI ((az_ a).z)]⟩, ⟨b3, 23, flat [ci .i64 0, ci .i64 0, ci .i64 0]⟩, ⟨b2, 23, flat [ci .i64 0, ci .i64 0, ci .i64 0]⟩, ⟨b1, 23, flat [ci .i64 a.x.1, ci .i64 a.y.1, ci .i64 a.z.1]⟩]) (fun K3 J3 => ?_) ?_
  ·skip
   refine Rk fun K J => sE rfl (sE rfl ?_)
   rcases bt (r7.1 != 0) with h13 | h13
   ·skip
    refine sB h13 rfl (WL_n rfl (WL_n rfl (sE rfl (nl J ?_))))
    refine J3 _ _ (by repeat first | exact .refl | refine .cons rfl ?_) ⟨_, s0, ?s42, rfl⟩
    case s42 => exact congrArg Value.bool (or_t h13)
   ·skip
    refine sB h13 rfl (sE rfl (sE rfl (sE rfl (nl J ?_))))
    refine J3 _ _ (by repeat first | exact .refl | refine .cons rfl ?_) ⟨_, s0, ?s42, rfl⟩
    case s42 => exact congrArg Value.bool (or_f h13 rfl)
  ·skip
   rintro g14 M ⟨hg42, rfl⟩
   simp only [setG, hg42]
   clear hg42
   rcases bt ((r7.1 != 0) || (((a1_ r9).2).1 != 0)) with h15 | h15
   ·skip
    refine W_t h15 rfl (Rs fun K J => sQ (bM_ zp_23 ar_23 rfl (.nil _)) rfl (sQ (bM_ zp_23 ar_23 rfl (.nil _)) rfl (sS [ci .i64 0, ci .i64 0, ci .i64 0] ty_23 rfl rfl rfl rfl rfl (.tail _ (.tail _ (.tail _ (.tail _ (.head _))))) rfl hb2 (sS [ci .i64 0, ci .i64 0, ci .i64 0] ty_23 rfl rfl rfl rfl rfl (.tail _ (.tail _ (.tail _ (.head _)))) rfl hb3 (nl J (W_ret (af_ (ret2 rfl (.inr rfl) (resP rfl m4 ty_23 rfl) (resP rfl m3 ty_23 rfl) ?_))))))))
    exact (by subst hr10; subst hr9; subst hr7; subst hr6; exact congrArg (fun r : (A3 W) × (A3 W) => (.tuple #[AV [ci .i64 r.1.x.1, ci .i64 r.1.y.1, ci .i64 r.1.z.1], AV [ci .i64 r.2.x.1, ci .i64 r.2.y.1, ci .i64 r.2.z.1]] : Value)) (show _ = (am_ a) from bif_f h4 (bif_t h15 rfl)))
   ·skip
    refine W_f h15 rfl (aj_ (J2 _ _ (ds (sk (sk (sk (sd (sd (sk (s0))))))) [0,6,9,13] [2,3] mix (by kernel_rfl) (fun K J => pQ rfl (qL ty_23 rfl m1 rfl) (PL_s rfl rfl (ix_ ty_23 rfl m0 rfl) (oS [ci .i64 r6.x.1, ci .i64 r6.y.1, ci .i64 r6.z.1] ty_23 rfl rfl rfl rfl rfl rfl (.tail _ (.tail _ (.tail _ (.tail _ (.head _))))) rfl hb2 rfl (sk (sk (sk (sd (sd s0))))) (oS [ci .i64 r10.x.1, ci .i64 r10.y.1, ci .i64 r10.z.1] ty_23 rfl rfl rfl rfl rfl rfl (.tail _ (.tail _ (.tail _ (.head _)))) rfl hb3 rfl (sk (sk (sk (sd (sd s0))))) (fl J (W_ret (ret2 rfl (.inr rfl) (resP rfl m4 ty_23 rfl) (resP rfl m3 ty_23 rfl) ?_))))))))))
    exact (by subst hr10; subst hr9; subst hr7; subst hr6; exact congrArg (fun r : (A3 W) × (A3 W) => (.tuple #[AV [ci .i64 r.1.x.1, ci .i64 r.1.y.1, ci .i64 r.1.z.1], AV [ci .i64 r.2.x.1, ci .i64 r.2.y.1, ci .i64 r.2.z.1]] : Value)) (show _ = (am_ a) from bif_f h4 (bif_f h15 rfl)))

theorem em_ (a : (A3 W)) :
    Ret Tryz.prog 43 [AV [ci .i64 a.x.1, ci .i64 a.y.1, ci .i64 a.z.1]] (AV [pI (((cu_ a).x).n), pI (((cu_ a).x).d), pI (((cu_ a).y).n), pI (((cu_ a).y).d), pI (((cu_ a).z).n), pI (((cu_ a).z).d)]) := by
 refine as_ (N := 13) Tryz.func43 rfl rfl (by simp) (fun w0 => ?_)
 simp only [initF, Nat.reduceAdd]
 refine Rs fun K J => WL_r rfl (aQ_ rfl rfl (fun b1 hb1 => sN zp_41 rfl fun b2 hb2 => nl J (ds (sd (sk (s0))) [0,4,8,12,16,20,24,28,32,36,41] [10] mix (by kernel_rfl) (fun K J => pQ rfl (qA ar_23 rfl rfl rfl) (pQ rfl (qC ty_3 rfl m1 rfl) (pQ rfl (q_ret en_62 (cz_ a.x) rfl) (pQ rfl (qA ar_23 rfl rfl rfl) (pQ rfl (qC ty_3 rfl m1 rfl) (pQ rfl (q_ret en_62 (cz_ a.y) rfl) (pQ rfl (qA ar_23 rfl rfl rfl) (pQ rfl (qC ty_3 rfl m1 rfl) (pQ rfl (q_ret en_62 (cz_ a.z) rfl) (pQ rfl (bM_ zp_41 ar_41 rfl (.cons [pI ((aa_ a.x).n), pI ((aa_ a.x).d)] [pI ((aa_ a.x).n), pI ((aa_ a.x).d), pI I0, pI I0, pI I0, pI I0] rfl rfl rfl rfl (.cons [pI ((aa_ a.y).n), pI ((aa_ a.y).d)] [pI ((aa_ a.x).n), pI ((aa_ a.x).d), pI ((aa_ a.y).n), pI ((aa_ a.y).d), pI I0, pI I0] rfl rfl rfl rfl (.cons [pI ((aa_ a.z).n), pI ((aa_ a.z).d)] [pI ((aa_ a.x).n), pI ((aa_ a.x).d), pI ((aa_ a.y).n), pI ((aa_ a.y).d), pI ((aa_ a.z).n), pI ((aa_ a.z).d)] rfl rfl rfl rfl (.nil _))))) (oS [pI ((aa_ a.x).n), pI ((aa_ a.x).d), pI ((aa_ a.y).n), pI ((aa_ a.y).d), pI ((aa_ a.z).n), pI ((aa_ a.z).d)] ty_41 rfl rfl rfl rfl rfl rfl (.head _) rfl hb2 rfl (sd s0) (fl J (W_ret (ret1 rfl (.inr rfl) (resP rfl m0 ty_41 rfl) ?_)))))))))))))))))
 exact (by rfl)

theorem gh_ (a : (A3 Rt)) (b : (A3 Rt)) :
    Ret Tryz.prog 105 [AV [pI a.x.n, pI a.x.d, pI a.y.n, pI a.y.d, pI a.z.n, pI a.z.d], AV [pI b.x.n, pI b.x.d, pI b.y.n, pI b.y.d, pI b.z.n, pI b.z.d]] (AV [pI ((c6_ a b).n), pI ((c6_ a b).d)]) := by
 refine as_ (N := 22) Tryz.func105 rfl rfl (by simp) (fun w0 => ?_)
 simp only [initF, Nat.reduceAdd]
 refine Rs fun K J => WL_r rfl (aQ_ rfl rfl (fun b1 hb1 => WL_r rfl (aQ_ rfl rfl (fun b2 hb2 => sN zp_39 rfl fun b3 hb3 => nl J (Rs fun K J => sQ (q_ret en_62 (cz_ (wl 0)) rfl) rfl ?_)))))
 refine sN zp_39 rfl fun b4 hb4 => sS [pI ((aa_ (wl 0)).n), pI ((aa_ (wl 0)).d)] ty_39 rfl rfl rfl rfl rfl (.head _) rfl hb4 ?_
 refine nl J (Sq fun K1 J1 => Rs fun K J => sE rfl (nl J (ao_ (W_un 5 (Un_s (fun K2 J2 => Rs fun K J => sV (.bool true) rfl rfl (nl J (Sq fun K3 J3 => bQ_ rfl (aj_ (J3 _ _ (Sq fun K4 J4 => ao_ (Rs fun K J => sE rfl (sE rfl ?_)))))))))))))
 refine nl J (dr (sd (sk (sk (sk (s0))))) [0,4,8,12,16,20,24,28,32,37] [9] mix (by kernel_rfl) (fun K J => pQ rfl (qL ty_39 rfl m0 rfl) (pE rfl (pQ rfl (qA ar_41 rfl rfl rfl) (pQ rfl (qL ty_39 rfl m3 rfl) (pE rfl (pQ rfl (qA ar_41 rfl rfl rfl) (pQ rfl (qL ty_39 rfl m2 rfl) (pQ rfl (q_ret en_67 (ck_ a.x b.x) rfl) ?_)))))))))
 obtain ⟨r5, hr5⟩ := nm ((aB_ (aa_ (wl 0)) (aG_ a.x b.x)) : Rt)
 refine pC (AV [pI r5.n, pI r5.d]) en_66 (bp_ (aa_ (wl 0)) (aG_ a.x b.x)) rfl rfl (by rw [hr5]; first | done | rfl) ?_
 refine oS [pI r5.n, pI r5.d] ty_39 rfl rfl rfl rfl rfl rfl (.head _) rfl hb4 rfl (sd s0) (fl J (J4 _ _ (Rk fun K J => sV (.int .i64 1) rfl rfl (sE rfl (nl J (J2 _ _ (Un_s (fun K5 J5 => Rs fun K J => sV (.bool true) rfl rfl (nl J (Sq fun K6 J6 => bQ_ rfl (aj_ (J6 _ _ (Sq fun K7 J7 => ao_ (Rs fun K J => sE rfl ?_))))))))))))))
 refine sE rfl (nl J (dr (sd (sk (sk (sk (s0))))) [0,4,8,12,16,20,24,28,32,37] [9] mix (by kernel_rfl) (fun K J => pQ rfl (qL ty_39 rfl m0 rfl) (pE rfl (pQ rfl (qA ar_41 rfl rfl rfl) (pQ rfl (qL ty_39 rfl m3 rfl) (pE rfl (pQ rfl (qA ar_41 rfl rfl rfl) (pQ rfl (qL ty_39 rfl m2 rfl) (pQ rfl (q_ret en_67 (ck_ a.y b.y) rfl) ?_))))))))))
 obtain ⟨r6, hr6⟩ := nm ((aB_ r5 (aG_ a.y b.y)) : Rt)
 refine pC (AV [pI r6.n, pI r6.d]) en_66 (bp_ r5 (aG_ a.y b.y)) rfl rfl (by rw [hr6]; first | done | rfl) (oS [pI r6.n, pI r6.d] ty_39 rfl rfl rfl rfl rfl rfl (.head _) rfl hb4 rfl (sd s0) (fl J (J7 _ _ (Rk fun K J => sV (.int .i64 2) rfl rfl (sE rfl (nl J (J5 _ _ (Un_s (fun K8 J8 => Rs fun K J => sV (.bool true) rfl rfl (nl J (Sq fun K9 J9 => bQ_ rfl (aj_ (J9 _ _ (Sq fun K10 J10 => ao_ (Rs fun K J => ?_)))))))))))))))
 refine sE rfl (sE rfl (nl J (dr (sd (sk (sk (sk (s0))))) [0,4,8,12,16,20,24,28,32,37] [9] mix (by kernel_rfl) (fun K J => pQ rfl (qL ty_39 rfl m0 rfl) (pE rfl (pQ rfl (qA ar_41 rfl rfl rfl) (pQ rfl (qL ty_39 rfl m3 rfl) (pE rfl (pQ rfl (qA ar_41 rfl rfl rfl) (pQ rfl (qL ty_39 rfl m2 rfl) (pQ rfl (q_ret en_67 (ck_ a.z b.z) rfl) ?_)))))))))))
 obtain ⟨r7, hr7⟩ := nm ((aB_ r6 (aG_ a.z b.z)) : Rt)
 refine pC (AV [pI r7.n, pI r7.d]) en_66 (bp_ r6 (aG_ a.z b.z)) rfl rfl (by rw [hr7]; first | done | rfl) (oS [pI r7.n, pI r7.d] ty_39 rfl rfl rfl rfl rfl rfl (.head _) rfl hb4 rfl (sd s0) (fl J (J10 _ _ (Rk fun K J => sV (.int .i64 3) rfl rfl (sE rfl (nl J (J8 _ _ (Un_s (fun K11 J11 => Rs fun K J => sV (.bool false) rfl rfl (nl J (Sq fun K12 J12 => bU_ rfl (bG_ (aw_ (aw_ (aC_ (J1 _ _ (Rs fun K J => sQ (qL ty_39 rfl m0 rfl) rfl (sS [pI r7.n, pI r7.d] ty_39 rfl rfl rfl rfl rfl (.tail _ (.head _)) rfl hb3 ?_))))))))))))))))))
 refine nl J (W_ret (ret1 rfl (.inr rfl) (resP rfl m1 ty_39 rfl) ?_))
 exact (by subst hr7; subst hr6; subst hr5; rfl)

theorem h8_ (a : (A3 Rt)) (b : (A3 Rt)) :
    Ret Tryz.prog 69 [AV [pI a.x.n, pI a.x.d, pI a.y.n, pI a.y.d, pI a.z.n, pI a.z.d], AV [pI b.x.n, pI b.x.d, pI b.y.n, pI b.y.d, pI b.z.n, pI b.z.d]] (AV [pI (((c5_ a b).x).n), pI (((c5_ a b).x).d), pI (((c5_ a b).y).n), pI (((c5_ a b).y).d), pI (((c5_ a b).z).n), pI (((c5_ a b).z).d)]) := by
 refine as_ (N := 36) Tryz.func69 rfl rfl (by simp) (fun w0 => ?_)
 simp only [initF, Nat.reduceAdd]
 refine Rs fun K J => WL_r rfl (aQ_ rfl rfl (fun b1 hb1 => WL_r rfl (aQ_ rfl rfl (fun b2 hb2 => sN zp_41 rfl fun b3 hb3 => nl J (Sq fun K1 J1 => Rs fun K J => sE rfl (nl J (ao_ (W_un 5 (Un_s (fun K2 J2 => Rs fun K J => sV (.bool true) rfl rfl (nl J (Sq fun K3 J3 => bQ_ rfl (aj_ (J3 _ _ (Sq fun K4 J4 => ?_)))))))))))))))
 refine ao_ (Rs fun K J => sE rfl (sE rfl (nl J (Rs fun K J => sE rfl (sV (.int .i64 1) rfl rfl (sQ (q_as (v' := .int .i64 1) (q_rem rfl rfl (by decide)) rfl) rfl (sE rfl (sV (.int .i64 2) rfl rfl (sQ (q_as (v' := .int .i64 2) (q_rem rfl rfl (by decide)) rfl) rfl (sE rfl (sE rfl (nl J (dr (sd (sk (sk (s0)))) [0,4,8,12,16,20,24,28,32,36,40,44,48,52,56,60,64,69] [17] mix (by kernel_rfl) (fun K J => pE rfl (pE rfl (pQ rfl (qA ar_41 rfl rfl rfl) (pQ rfl (qL ty_39 rfl m2 rfl) ?_)))))))))))))))))
 refine pE rfl (pQ rfl (qA ar_41 rfl rfl rfl) (pQ rfl (qL ty_39 rfl m1 rfl) (pQ rfl (q_ret en_67 (ck_ a.y b.z) rfl) (pE rfl (pQ rfl (qA ar_41 rfl rfl rfl) (pQ rfl (qL ty_39 rfl m2 rfl) (pE rfl (pQ rfl (qA ar_41 rfl rfl rfl) (pQ rfl (qL ty_39 rfl m1 rfl) (pQ rfl (q_ret en_67 (ck_ a.z b.y) rfl) ?_))))))))))
 obtain ⟨r4, hr4⟩ := nm ((a6_ (aG_ a.y b.z) (aG_ a.z b.y)) : Rt)
 refine pC (AV [pI r4.n, pI r4.d]) en_65 (cD_ (aG_ a.y b.z) (aG_ a.z b.y)) rfl rfl (by rw [hr4]; first | done | rfl) (pQ rfl (qA ar_41 rfl rfl rfl) (oS [pI r4.n, pI r4.d] ty_39 rfl rfl rfl rfl rfl rfl (.head _) rfl hb3 rfl (sd s0) (fl J (J4 _ _ (Rk fun K J => sV (.int .i64 1) rfl rfl (sE rfl (nl J (J2 _ _ (Un_s (fun K5 J5 => Rs fun K J => sV (.bool true) rfl rfl (nl J (Sq fun K6 J6 => bQ_ rfl (aj_ (J6 _ _ (Sq fun K7 J7 => ao_ ?_)))))))))))))))
 refine Rs fun K J => sE rfl (sE rfl (nl J (Rs fun K J => sE rfl (sV (.int .i64 2) rfl rfl (sQ (q_as (v' := .int .i64 2) (q_rem rfl rfl (by decide)) rfl) rfl (sE rfl (sV (.int .i64 3) rfl rfl (sQ (q_as (v' := .int .i64 0) (q_rem rfl rfl (by decide)) rfl) rfl (sE rfl (sE rfl (nl J (dr (sd (sk (sk (s0)))) [0,4,8,12,16,20,24,28,32,36,40,44,48,52,56,60,64,69] [17] mix (by kernel_rfl) (fun K J => pE rfl (pE rfl (pQ rfl (qA ar_41 rfl rfl rfl) (pQ rfl (qL ty_39 rfl m2 rfl) (pE rfl ?_)))))))))))))))))
 refine pQ rfl (qA ar_41 rfl rfl rfl) (pQ rfl (qL ty_39 rfl m1 rfl) (pQ rfl (q_ret en_67 (ck_ a.z b.x) rfl) (pE rfl (pQ rfl (qA ar_41 rfl rfl rfl) (pQ rfl (qL ty_39 rfl m2 rfl) (pE rfl (pQ rfl (qA ar_41 rfl rfl rfl) (pQ rfl (qL ty_39 rfl m1 rfl) (pQ rfl (q_ret en_67 (ck_ a.x b.z) rfl) ?_)))))))))
 obtain ⟨r5, hr5⟩ := nm ((a6_ (aG_ a.z b.x) (aG_ a.x b.z)) : Rt)
 refine pC (AV [pI r5.n, pI r5.d]) en_65 (cD_ (aG_ a.z b.x) (aG_ a.x b.z)) rfl rfl (by rw [hr5]; first | done | rfl) (pQ rfl (qA ar_41 rfl rfl rfl) (oS [pI r5.n, pI r5.d] ty_39 rfl rfl rfl rfl rfl rfl (.head _) rfl hb3 rfl (sd s0) (fl J (J7 _ _ (Rk fun K J => sV (.int .i64 2) rfl rfl (sE rfl (nl J (J5 _ _ (Un_s (fun K8 J8 => Rs fun K J => sV (.bool true) rfl rfl (nl J (Sq fun K9 J9 => bQ_ rfl (aj_ (J9 _ _ (Sq fun K10 J10 => ao_ ?_)))))))))))))))
 refine Rs fun K J => sE rfl (sE rfl (nl J (Rs fun K J => sE rfl (sV (.int .i64 3) rfl rfl (sQ (q_as (v' := .int .i64 0) (q_rem rfl rfl (by decide)) rfl) rfl (sE rfl (sV (.int .i64 4) rfl rfl (sQ (q_as (v' := .int .i64 1) (q_rem rfl rfl (by decide)) rfl) rfl (sE rfl (sE rfl (nl J (dr (sd (sk (sk (s0)))) [0,4,8,12,16,20,24,28,32,36,40,44,48,52,56,60,64,69] [17] mix (by kernel_rfl) (fun K J => pE rfl (pE rfl (pQ rfl (qA ar_41 rfl rfl rfl) (pQ rfl (qL ty_39 rfl m2 rfl) (pE rfl ?_)))))))))))))))))
 refine pQ rfl (qA ar_41 rfl rfl rfl) (pQ rfl (qL ty_39 rfl m1 rfl) (pQ rfl (q_ret en_67 (ck_ a.x b.y) rfl) (pE rfl (pQ rfl (qA ar_41 rfl rfl rfl) (pQ rfl (qL ty_39 rfl m2 rfl) (pE rfl (pQ rfl (qA ar_41 rfl rfl rfl) (pQ rfl (qL ty_39 rfl m1 rfl) (pQ rfl (q_ret en_67 (ck_ a.y b.x) rfl) ?_)))))))))
 obtain ⟨r6, hr6⟩ := nm ((a6_ (aG_ a.x b.y) (aG_ a.y b.x)) : Rt)
 refine pC (AV [pI r6.n, pI r6.d]) en_65 (cD_ (aG_ a.x b.y) (aG_ a.y b.x)) rfl rfl (by rw [hr6]; first | done | rfl) (pQ rfl (qA ar_41 rfl rfl rfl) (oS [pI r6.n, pI r6.d] ty_39 rfl rfl rfl rfl rfl rfl (.head _) rfl hb3 rfl (sd s0) (fl J (J10 _ _ (Rk fun K J => sV (.int .i64 3) rfl rfl (sE rfl (nl J (J8 _ _ (Un_s (fun K11 J11 => Rs fun K J => sV (.bool false) rfl rfl (nl J (Sq fun K12 J12 => bU_ rfl (bG_ (aw_ (aw_ (aC_ (J1 _ _ (Rs fun K J => sQ (qL ty_41 rfl m0 rfl) rfl ?_))))))))))))))))))
 refine sS [pI r4.n, pI r4.d, pI r5.n, pI r5.d, pI r6.n, pI r6.d] ty_41 rfl rfl rfl rfl rfl (.head _) rfl hb3 (nl J (W_ret (ret1 rfl (.inr rfl) (resP rfl m0 ty_41 rfl) ?_)))
 exact (by subst hr6; subst hr5; subst hr4; rfl)

theorem gT_ (a : (A3 W)) (b : (A3 Rt)) :
    Ret Tryz.prog 58 [AV [ci .i64 a.x.1, ci .i64 a.y.1, ci .i64 a.z.1], AV [pI b.x.n, pI b.x.d, pI b.y.n, pI b.y.d, pI b.z.n, pI b.z.d]] (AV [pI ((bO_ a b).n), pI ((bO_ a b).d)]) := by
 refine as_ (N := 9) Tryz.func58 rfl rfl (by simp) (fun w0 => ?_)
 simp only [initF, Nat.reduceAdd]
 refine Rs fun K J => WL_r rfl (aQ_ rfl rfl (fun b1 hb1 => WL_r rfl (aQ_ rfl rfl (fun b2 hb2 => sN zp_39 rfl fun b3 hb3 => nl J (ds (sd (sk (sk (s0)))) [0,4,8,12,17] [4] mix (by kernel_rfl) (fun K J => pQ rfl (qL ty_23 rfl m2 rfl) ?_))))))
 obtain ⟨r4, hr4⟩ := nm ((cu_ a) : (A3 Rt))
 refine pC (AV [pI r4.x.n, pI r4.x.d, pI r4.y.n, pI r4.y.d, pI r4.z.n, pI r4.z.d]) en_43 (em_ a) rfl rfl (by rw [hr4]; first | done | rfl) (pQ rfl (qL ty_41 rfl m1 rfl) (pQ rfl (q_ret p1_ (gh_ r4 b) rfl) (oS [pI ((c6_ r4 b).n), pI ((c6_ r4 b).d)] ty_39 rfl rfl rfl rfl rfl rfl (.head _) rfl hb3 rfl (sd s0) (fl J (W_ret (ret1 rfl (.inr rfl) (resP rfl m0 ty_39 rfl) ?_))))))
 exact (by subst hr4; rfl)

theorem fC_ (a : (A3 Rt)) (b : (A3 Rt)) :
    Ret Tryz.prog 46 [AV [pI a.x.n, pI a.x.d, pI a.y.n, pI a.y.d, pI a.z.n, pI a.z.d], AV [pI b.x.n, pI b.x.d, pI b.y.n, pI b.y.d, pI b.z.n, pI b.z.d]] (AV [pI (((cG_ a b).x).n), pI (((cG_ a b).x).d), pI (((cG_ a b).y).n), pI (((cG_ a b).y).d), pI (((cG_ a b).z).n), pI (((cG_ a b).z).d)]) := by
 refine as_ (N := 20) Tryz.func46 rfl rfl (by simp) (fun w0 => ?_)
 simp only [initF, Nat.reduceAdd]
 refine Rs fun K J => WL_r rfl (aQ_ rfl rfl (fun b1 hb1 => WL_r rfl (aQ_ rfl rfl (fun b2 hb2 => sN zp_41 rfl fun b3 hb3 => nl J (Sq fun K1 J1 => Rs fun K J => sE rfl (nl J (ao_ (W_un 5 (Un_s (fun K2 J2 => Rs fun K J => sV (.bool true) rfl rfl (nl J (Sq fun K3 J3 => bQ_ rfl (aj_ (J3 _ _ (Sq fun K4 J4 => ?_)))))))))))))))
 refine ao_ (Rs fun K J => sE rfl (sE rfl (nl J (dr (sk (sk (sd (s0)))) [0,4,8,12,16,20,24,28,32,37] [9] mix (by kernel_rfl) (fun K J => pE rfl (pE rfl (pQ rfl (qA ar_41 rfl rfl rfl) (pQ rfl (qL ty_39 rfl m2 rfl) (pE rfl (pQ rfl (qA ar_41 rfl rfl rfl) (pQ rfl (qL ty_39 rfl m1 rfl) (pQ rfl (q_ret en_66 (bp_ a.x b.x) rfl) (pQ rfl (qA ar_41 rfl rfl rfl) (oS [pI ((aB_ a.x b.x).n), pI ((aB_ a.x b.x).d)] ty_39 rfl rfl rfl rfl rfl rfl (.tail _ (.tail _ (.head _))) rfl hb1 rfl (sk (sk (sd s0))) (fl J (J4 _ _ (Rk fun K J => sV (.int .i64 1) rfl rfl ?_)))))))))))))))))
 refine sE rfl (nl J (J2 _ _ (Un_s (fun K5 J5 => Rs fun K J => sV (.bool true) rfl rfl (nl J (Sq fun K6 J6 => bQ_ rfl (aj_ (J6 _ _ (Sq fun K7 J7 => ao_ (Rs fun K J => sE rfl (sE rfl (nl J (dr (sk (sk (sd (s0)))) [0,4,8,12,16,20,24,28,32,37] [9] mix (by kernel_rfl) (fun K J => pE rfl (pE rfl ?_)))))))))))))))
 refine pQ rfl (qA ar_41 rfl rfl rfl) (pQ rfl (qL ty_39 rfl m2 rfl) (pE rfl (pQ rfl (qA ar_41 rfl rfl rfl) (pQ rfl (qL ty_39 rfl m1 rfl) (pQ rfl (q_ret en_66 (bp_ a.y b.y) rfl) (pQ rfl (qA ar_41 rfl rfl rfl) (oS [pI ((aB_ a.y b.y).n), pI ((aB_ a.y b.y).d)] ty_39 rfl rfl rfl rfl rfl rfl (.tail _ (.tail _ (.head _))) rfl hb1 rfl (sk (sk (sd s0))) (fl J (J7 _ _ (Rk fun K J => sV (.int .i64 2) rfl rfl (sE rfl (nl J (J5 _ _ (Un_s (fun K8 J8 => Rs fun K J => sV (.bool true) rfl rfl (nl J (Sq fun K9 J9 => ?_)))))))))))))))))
 refine bQ_ rfl (aj_ (J9 _ _ (Sq fun K10 J10 => ao_ (Rs fun K J => sE rfl (sE rfl (nl J (dr (sk (sk (sd (s0)))) [0,4,8,12,16,20,24,28,32,37] [9] mix (by kernel_rfl) (fun K J => pE rfl (pE rfl (pQ rfl (qA ar_41 rfl rfl rfl) (pQ rfl (qL ty_39 rfl m2 rfl) (pE rfl (pQ rfl (qA ar_41 rfl rfl rfl) (pQ rfl (qL ty_39 rfl m1 rfl) (pQ rfl (q_ret en_66 (bp_ a.z b.z) rfl) (pQ rfl (qA ar_41 rfl rfl rfl) (oS [pI ((aB_ a.z b.z).n), pI ((aB_ a.z b.z).d)] ty_39 rfl rfl rfl rfl rfl rfl (.tail _ (.tail _ (.head _))) rfl hb1 rfl (sk (sk (sd s0))) ?_)))))))))))))))))
 refine fl J (J10 _ _ (Rk fun K J => sV (.int .i64 3) rfl rfl (sE rfl (nl J (J8 _ _ (Un_s (fun K11 J11 => Rs fun K J => sV (.bool false) rfl rfl (nl J (Sq fun K12 J12 => bU_ rfl (bG_ (aw_ (aw_ (aC_ (J1 _ _ (Rs fun K J => sQ (qL ty_41 rfl m2 rfl) rfl (sS [pI ((aB_ a.x b.x).n), pI ((aB_ a.x b.x).d), pI ((aB_ a.y b.y).n), pI ((aB_ a.y b.y).d), pI ((aB_ a.z b.z).n), pI ((aB_ a.z b.z).d)] ty_41 rfl rfl rfl rfl rfl (.head _) rfl hb3 (nl J (W_ret ?_))))))))))))))))))
 refine ret1 rfl (.inr rfl) (resP rfl m0 ty_41 rfl) ?_
 exact (by rfl)

theorem gj_ (a : (A3 Rt)) (b : (A3 Rt)) :
    Ret Tryz.prog 47 [AV [pI a.x.n, pI a.x.d, pI a.y.n, pI a.y.d, pI a.z.n, pI a.z.d], AV [pI b.x.n, pI b.x.d, pI b.y.n, pI b.y.d, pI b.z.n, pI b.z.d]] (AV [pI (((cL_ a b).x).n), pI (((cL_ a b).x).d), pI (((cL_ a b).y).n), pI (((cL_ a b).y).d), pI (((cL_ a b).z).n), pI (((cL_ a b).z).d)]) := by
 refine as_ (N := 20) Tryz.func47 rfl rfl (by simp) (fun w0 => ?_)
 simp only [initF, Nat.reduceAdd]
 refine Rs fun K J => WL_r rfl (aQ_ rfl rfl (fun b1 hb1 => WL_r rfl (aQ_ rfl rfl (fun b2 hb2 => sN zp_41 rfl fun b3 hb3 => nl J (Sq fun K1 J1 => Rs fun K J => sE rfl (nl J (ao_ (W_un 5 (Un_s (fun K2 J2 => Rs fun K J => sV (.bool true) rfl rfl (nl J (Sq fun K3 J3 => bQ_ rfl (aj_ (J3 _ _ (Sq fun K4 J4 => ?_)))))))))))))))
 refine ao_ (Rs fun K J => sE rfl (sE rfl (nl J (dr (sk (sk (sd (s0)))) [0,4,8,12,16,20,24,28,32,37] [9] mix (by kernel_rfl) (fun K J => pE rfl (pE rfl (pQ rfl (qA ar_41 rfl rfl rfl) (pQ rfl (qL ty_39 rfl m2 rfl) (pE rfl (pQ rfl (qA ar_41 rfl rfl rfl) (pQ rfl (qL ty_39 rfl m1 rfl) (pQ rfl (q_ret en_65 (cD_ a.x b.x) rfl) (pQ rfl (qA ar_41 rfl rfl rfl) (oS [pI ((a6_ a.x b.x).n), pI ((a6_ a.x b.x).d)] ty_39 rfl rfl rfl rfl rfl rfl (.tail _ (.tail _ (.head _))) rfl hb1 rfl (sk (sk (sd s0))) (fl J (J4 _ _ (Rk fun K J => sV (.int .i64 1) rfl rfl ?_)))))))))))))))))
 refine sE rfl (nl J (J2 _ _ (Un_s (fun K5 J5 => Rs fun K J => sV (.bool true) rfl rfl (nl J (Sq fun K6 J6 => bQ_ rfl (aj_ (J6 _ _ (Sq fun K7 J7 => ao_ (Rs fun K J => sE rfl (sE rfl (nl J (dr (sk (sk (sd (s0)))) [0,4,8,12,16,20,24,28,32,37] [9] mix (by kernel_rfl) (fun K J => pE rfl (pE rfl ?_)))))))))))))))
 refine pQ rfl (qA ar_41 rfl rfl rfl) (pQ rfl (qL ty_39 rfl m2 rfl) (pE rfl (pQ rfl (qA ar_41 rfl rfl rfl) (pQ rfl (qL ty_39 rfl m1 rfl) (pQ rfl (q_ret en_65 (cD_ a.y b.y) rfl) (pQ rfl (qA ar_41 rfl rfl rfl) (oS [pI ((a6_ a.y b.y).n), pI ((a6_ a.y b.y).d)] ty_39 rfl rfl rfl rfl rfl rfl (.tail _ (.tail _ (.head _))) rfl hb1 rfl (sk (sk (sd s0))) (fl J (J7 _ _ (Rk fun K J => sV (.int .i64 2) rfl rfl (sE rfl (nl J (J5 _ _ (Un_s (fun K8 J8 => Rs fun K J => sV (.bool true) rfl rfl (nl J (Sq fun K9 J9 => ?_)))))))))))))))))
 refine bQ_ rfl (aj_ (J9 _ _ (Sq fun K10 J10 => ao_ (Rs fun K J => sE rfl (sE rfl (nl J (dr (sk (sk (sd (s0)))) [0,4,8,12,16,20,24,28,32,37] [9] mix (by kernel_rfl) (fun K J => pE rfl (pE rfl (pQ rfl (qA ar_41 rfl rfl rfl) (pQ rfl (qL ty_39 rfl m2 rfl) (pE rfl (pQ rfl (qA ar_41 rfl rfl rfl) (pQ rfl (qL ty_39 rfl m1 rfl) (pQ rfl (q_ret en_65 (cD_ a.z b.z) rfl) (pQ rfl (qA ar_41 rfl rfl rfl) (oS [pI ((a6_ a.z b.z).n), pI ((a6_ a.z b.z).d)] ty_39 rfl rfl rfl rfl rfl rfl (.tail _ (.tail _ (.head _))) rfl hb1 rfl (sk (sk (sd s0))) ?_)))))))))))))))))
 refine fl J (J10 _ _ (Rk fun K J => sV (.int .i64 3) rfl rfl (sE rfl (nl J (J8 _ _ (Un_s (fun K11 J11 => Rs fun K J => sV (.bool false) rfl rfl (nl J (Sq fun K12 J12 => bU_ rfl (bG_ (aw_ (aw_ (aC_ (J1 _ _ (Rs fun K J => sQ (qL ty_41 rfl m2 rfl) rfl (sS [pI ((a6_ a.x b.x).n), pI ((a6_ a.x b.x).d), pI ((a6_ a.y b.y).n), pI ((a6_ a.y b.y).d), pI ((a6_ a.z b.z).n), pI ((a6_ a.z b.z).d)] ty_41 rfl rfl rfl rfl rfl (.head _) rfl hb3 (nl J (W_ret ?_))))))))))))))))))
 refine ret1 rfl (.inr rfl) (resP rfl m0 ty_41 rfl) ?_
 exact (by rfl)

theorem fe_ (a : Rt) (b : (A3 Rt)) :
    Ret Tryz.prog 45 [AV [pI a.n, pI a.d], AV [pI b.x.n, pI b.x.d, pI b.y.n, pI b.y.d, pI b.z.n, pI b.z.d]] (AV [pI (((cq_ a b).x).n), pI (((cq_ a b).x).d), pI (((cq_ a b).y).n), pI (((cq_ a b).y).d), pI (((cq_ a b).z).n), pI (((cq_ a b).z).d)]) := by
 refine as_ (N := 18) Tryz.func45 rfl rfl (by simp) (fun w0 => ?_)
 simp only [initF, Nat.reduceAdd]
 refine Rs fun K J => WL_r rfl (aQ_ rfl rfl (fun b1 hb1 => WL_r rfl (aQ_ rfl rfl (fun b2 hb2 => sN zp_41 rfl fun b3 hb3 => nl J (Sq fun K1 J1 => Rs fun K J => sE rfl (nl J (ao_ (W_un 5 (Un_s (fun K2 J2 => Rs fun K J => sV (.bool true) rfl rfl (nl J (Sq fun K3 J3 => bQ_ rfl (aj_ (J3 _ _ (Sq fun K4 J4 => ?_)))))))))))))))
 refine ao_ (Rs fun K J => sE rfl (sE rfl (nl J (dr (sk (sd (sk (s0)))) [0,4,8,12,16,20,24,29] [7] mix (by kernel_rfl) (fun K J => pE rfl (pQ rfl (qL ty_39 rfl m2 rfl) (pE rfl (pQ rfl (qA ar_41 rfl rfl rfl) (pQ rfl (qL ty_39 rfl m1 rfl) (pQ rfl (q_ret en_67 (ck_ a b.x) rfl) (pQ rfl (qA ar_41 rfl rfl rfl) (oS [pI ((aG_ a b.x).n), pI ((aG_ a b.x).d)] ty_39 rfl rfl rfl rfl rfl rfl (.tail _ (.head _)) rfl hb2 rfl (sk (sd s0)) (fl J (J4 _ _ (Rk fun K J => sV (.int .i64 1) rfl rfl (sE rfl (nl J ?_)))))))))))))))))
 refine J2 _ _ (Un_s (fun K5 J5 => Rs fun K J => sV (.bool true) rfl rfl (nl J (Sq fun K6 J6 => bQ_ rfl (aj_ (J6 _ _ (Sq fun K7 J7 => ao_ (Rs fun K J => sE rfl (sE rfl (nl J (dr (sk (sd (sk (s0)))) [0,4,8,12,16,20,24,29] [7] mix (by kernel_rfl) (fun K J => pE rfl (pQ rfl (qL ty_39 rfl m2 rfl) (pE rfl (pQ rfl (qA ar_41 rfl rfl rfl) ?_)))))))))))))))
 refine pQ rfl (qL ty_39 rfl m1 rfl) (pQ rfl (q_ret en_67 (ck_ a b.y) rfl) (pQ rfl (qA ar_41 rfl rfl rfl) (oS [pI ((aG_ a b.y).n), pI ((aG_ a b.y).d)] ty_39 rfl rfl rfl rfl rfl rfl (.tail _ (.head _)) rfl hb2 rfl (sk (sd s0)) (fl J (J7 _ _ (Rk fun K J => sV (.int .i64 2) rfl rfl (sE rfl (nl J (J5 _ _ (Un_s (fun K8 J8 => Rs fun K J => sV (.bool true) rfl rfl (nl J (Sq fun K9 J9 => bQ_ rfl (aj_ (J9 _ _ (Sq fun K10 J10 => ?_))))))))))))))))
 refine ao_ (Rs fun K J => sE rfl (sE rfl (nl J (dr (sk (sd (sk (s0)))) [0,4,8,12,16,20,24,29] [7] mix (by kernel_rfl) (fun K J => pE rfl (pQ rfl (qL ty_39 rfl m2 rfl) (pE rfl (pQ rfl (qA ar_41 rfl rfl rfl) (pQ rfl (qL ty_39 rfl m1 rfl) (pQ rfl (q_ret en_67 (ck_ a b.z) rfl) (pQ rfl (qA ar_41 rfl rfl rfl) (oS [pI ((aG_ a b.z).n), pI ((aG_ a b.z).d)] ty_39 rfl rfl rfl rfl rfl rfl (.tail _ (.head _)) rfl hb2 rfl (sk (sd s0)) (fl J (J10 _ _ (Rk fun K J => sV (.int .i64 3) rfl rfl (sE rfl (nl J ?_)))))))))))))))))
 refine J8 _ _ (Un_s (fun K11 J11 => Rs fun K J => sV (.bool false) rfl rfl (nl J (Sq fun K12 J12 => bU_ rfl (bG_ (aw_ (aw_ (aC_ (J1 _ _ (Rs fun K J => sQ (qL ty_41 rfl m1 rfl) rfl (sS [pI ((aG_ a b.x).n), pI ((aG_ a b.x).d), pI ((aG_ a b.y).n), pI ((aG_ a b.y).d), pI ((aG_ a b.z).n), pI ((aG_ a b.z).d)] ty_41 rfl rfl rfl rfl rfl (.head _) rfl hb3 (nl J (W_ret (ret1 rfl (.inr rfl) (resP rfl m0 ty_41 rfl) ?_))))))))))))))
 exact (by rfl)
end Go.Proofs.YtapbefpeopaecaaGreatDoor

