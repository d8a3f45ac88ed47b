/- Walks: what these functions return. -/
import Derived.Test.YtapbefpeopaecaaGreatDoorVGE
import Derived.Test.YtapbefpeopaecaaGreatDoorVFn
import Derived.Test.YtapbefpeopaecaaGreatDoorVGa
import Derived.Test.YtapbefpeopaecaaGreatDoorVGd
import Derived.Test.YtapbefpeopaecaaGreatDoorVSb
import Derived.Test.YtapbefpeopaecaaGreatDoorVSg
import Derived.Test.YtapbefpeopaecaaGreatDoorVSh
import Derived.Test.YtapbefpeopaecaaGreatDoorVSa
namespace Go.Proofs.YtapbefpeopaecaaGreatDoor
open Go.Kn Go.Num
set_option linter.unusedVariables false
set_option linter.unusedSimpArgs false
set_option maxRecDepth 20000
set_option maxHeartbeats 8000000
theorem eo_ (a : (A3 W)) :
    Ret Tryz.prog 82 [AV [ci .i64 a.x.1, ci .i64 a.y.1, ci .i64 a.z.1]] (AV [pI ((aR_ a).x), pI ((aR_ a).y), pI ((aR_ a).z)]) := by
 refine aD_ (N := 13) Tryz.func82 rfl rfl (by simp) (fun w0 => ?_)
 simp only [initF, Nat.reduceAdd]
 refine Rs fun K J => WL_r rfl (a6_ rfl rfl (fun b1 hb1 => sN zp_94 rfl fun b2 hb2 => nl J (ds (sd (sk (s0))) [0,4,8,12,16,20,24,28,32,36,41] [10] mix (by kernel_rfl) (fun K J => pQ rfl (qA ar_23 rfl rfl rfl) (pQ rfl (qC ty_3 rfl m1 rfl) (pC (AV [pI (E (Z.of a.x.1))]) en_74 (bx_ a.x.1 a.x.2) rfl rfl rfl (pQ rfl (qA ar_23 rfl rfl rfl) (pQ rfl (qC ty_3 rfl m1 rfl) (pC (AV [pI (E (Z.of a.y.1))]) en_74 (bx_ a.y.1 a.y.2) rfl rfl rfl (pQ rfl (qA ar_23 rfl rfl rfl) (pQ rfl (qC ty_3 rfl m1 rfl) (pC (AV [pI (E (Z.of a.z.1))]) en_74 (bx_ a.z.1 a.z.2) rfl rfl rfl (pQ rfl (cq_ zp_94 ar_94 rfl (.cons [pI (E (Z.of a.x.1))] [pI (E (Z.of a.x.1)), pI I0, pI I0] rfl rfl rfl rfl (.cons [pI (E (Z.of a.y.1))] [pI (E (Z.of a.x.1)), pI (E (Z.of a.y.1)), pI I0] rfl rfl rfl rfl (.cons [pI (E (Z.of a.z.1))] [pI (E (Z.of a.x.1)), pI (E (Z.of a.y.1)), pI (E (Z.of a.z.1))] rfl rfl rfl rfl (.nil _))))) (oS [pI (E (Z.of a.x.1)), pI (E (Z.of a.y.1)), pI (E (Z.of a.z.1))] ty_94 rfl rfl rfl rfl rfl rfl (.head _) rfl hb2 rfl (sd s0) (fl J (W_ret (ret1 rfl (.inr rfl) (resP rfl m0 ty_94 rfl) ?_)))))))))))))))))
 exact (by rfl)

theorem fD_ (a : (A3 I)) (b : (A3 I)) :
    Ret Tryz.prog 81 [AV [pI a.x, pI a.y, pI a.z], AV [pI b.x, pI b.y, pI b.z]] (AV [pI (b4_ a b)]) := by
 refine aD_ (N := 25) Tryz.func81 rfl rfl (by simp) (fun w0 => ?_)
 simp only [initF, Nat.reduceAdd]
 refine Rs fun K J => WL_r rfl (a6_ rfl rfl (fun b1 hb1 => WL_r rfl (a6_ rfl rfl (fun b2 hb2 => sN zp_37 rfl fun b3 hb3 => nl J (Rs fun K J => sQ (qA ar_94 rfl rfl rfl) rfl (sQ (qL ty_37 rfl m2 rfl) rfl (sQ (qA ar_94 rfl rfl rfl) rfl (sQ (qL ty_37 rfl m1 rfl) rfl (sC (AV [pI (E (Z.mul a.x.dec b.x.dec))]) en_80 (b2_ a.x.1 b.x.1 a.x.2 b.x.2) rfl rfl rfl (sN zp_37 rfl fun b4 hb4 => sS [pI (E (Z.mul a.x.dec b.x.dec))] ty_37 rfl rfl rfl rfl rfl (.head _) rfl hb4 (nl J (ds (sd (sk (sk (sk (s0))))) [0,4,8,12,16,20,24,29] [7] mix (by kernel_rfl) (fun K J => pQ rfl (qL ty_37 rfl m0 rfl) (pQ rfl (qA ar_94 rfl rfl rfl) (pQ rfl (qL ty_37 rfl m3 rfl) (pQ rfl (qA ar_94 rfl rfl rfl) (pQ rfl (qL ty_37 rfl m2 rfl) ?_)))))))))))))))))
 refine pC (AV [pI (E (Z.mul a.y.dec b.y.dec))]) en_80 (b2_ a.y.1 b.y.1 a.y.2 b.y.2) rfl rfl rfl (pC (AV [pI (E (Z.add (Z.mul a.x.dec b.x.dec) (Z.mul a.y.dec b.y.dec)))]) en_79 (dR_ (E (Z.mul a.x.dec b.x.dec)).1 (E (Z.mul a.y.dec b.y.dec)).1 (E (Z.mul a.x.dec b.x.dec)).2 (E (Z.mul a.y.dec b.y.dec)).2) rfl rfl (cg2 (fun p q => AV [pI (E (Z.add p q))]) (E_dec _) (E_dec _)) (oS [pI (E (Z.add (Z.mul a.x.dec b.x.dec) (Z.mul a.y.dec b.y.dec)))] ty_37 rfl rfl rfl rfl rfl rfl (.head _) rfl hb4 rfl (sd s0) (fl J (ds (sk (sd (sk (sk (s0))))) [0,4,8,12,16,20,24,29] [7] mix (by kernel_rfl) (fun K J => pQ rfl (qL ty_37 rfl m0 rfl) (pQ rfl (qA ar_94 rfl rfl rfl) (pQ rfl (qL ty_37 rfl m3 rfl) (pQ rfl (qA ar_94 rfl rfl rfl) (pQ rfl (qL ty_37 rfl m2 rfl) (pC (AV [pI (E (Z.mul a.z.dec b.z.dec))]) en_80 (b2_ a.z.1 b.z.1 a.z.2 b.z.2) rfl rfl rfl ?_))))))))))
 obtain ⟨r5, hr5⟩ := nm ((E (Z.add (Z.add (Z.mul a.x.dec b.x.dec) (Z.mul a.y.dec b.y.dec)) (Z.mul a.z.dec b.z.dec))) : I)
 refine pC (AV [pI r5]) en_79 (dR_ (E (Z.add (Z.mul a.x.dec b.x.dec) (Z.mul a.y.dec b.y.dec))).1 (E (Z.mul a.z.dec b.z.dec)).1 (E (Z.add (Z.mul a.x.dec b.x.dec) (Z.mul a.y.dec b.y.dec))).2 (E (Z.mul a.z.dec b.z.dec)).2) rfl rfl ((cg2 (fun p q => AV [pI (E (Z.add p q))]) (E_dec _) (E_dec _)).trans (by rw [hr5])) (oS [pI r5] ty_37 rfl rfl rfl rfl rfl rfl (.tail _ (.head _)) rfl hb3 rfl (sk (sd s0)) (fl J (W_ret (ret1 rfl (.inr rfl) (resP rfl m1 ty_37 rfl) ?_))))
 exact (by subst hr5; rfl)

theorem f5_ (a : (A3 W)) (b : (A3 W)) :
    Ret Tryz.prog 31 [AV [ci .i64 a.x.1, ci .i64 a.y.1, ci .i64 a.z.1], AV [ci .i64 b.x.1, ci .i64 b.y.1, ci .i64 b.z.1]] (AV [pI (bS_ a b)]) := by
 refine aD_ (N := 10) Tryz.func31 rfl rfl (by simp) (fun w0 => ?_)
 simp only [initF, Nat.reduceAdd]
 refine Rs fun K J => WL_r rfl (a6_ rfl rfl (fun b1 hb1 => WL_r rfl (a6_ rfl rfl (fun b2 hb2 => sN zp_37 rfl fun b3 hb3 => nl J (ds (sd (sk (sk (s0)))) [0,4,8,12,16,21] [5] mix (by kernel_rfl) (fun K J => pQ rfl (qL ty_23 rfl m2 rfl) ?_))))))
 obtain ⟨r4, hr4⟩ := nm ((aR_ a) : (A3 I))
 refine pC (AV [pI r4.x, pI r4.y, pI r4.z]) en_82 (eo_ a) rfl rfl (by rw [hr4]; first | done | rfl) (pQ rfl (qL ty_23 rfl m1 rfl) ?_)
 obtain ⟨r5, hr5⟩ := nm ((aR_ b) : (A3 I))
 refine pC (AV [pI r5.x, pI r5.y, pI r5.z]) en_82 (eo_ b) rfl rfl (by rw [hr5]; first | done | rfl) (pQ rfl (q_ret en_81 (fD_ r4 r5) rfl) (oS [pI (b4_ r4 r5)] ty_37 rfl rfl rfl rfl rfl rfl (.head _) rfl hb3 rfl (sd s0) (fl J (W_ret (ret1 rfl (.inr rfl) (resP rfl m0 ty_37 rfl) ?_)))))
 exact (by subst hr5; subst hr4; rfl)

theorem fY_ (a : (A3 Rt)) (b : (A3 Rt)) :
    Ret Tryz.prog 33 [AV [pI a.x.n, pI a.x.d, pI a.y.n, pI a.y.d, pI a.z.n, pI a.z.d], AV [pI b.x.n, pI b.x.d, pI b.y.n, pI b.y.d, pI b.z.n, pI b.z.d]] (AV [pI (((aH_ a b).x).n), pI (((aH_ a b).x).d), pI (((aH_ a b).y).n), pI (((aH_ a b).y).d), pI (((aH_ a b).z).n), pI (((aH_ a b).z).d)]) := by
 refine aD_ (N := 21) Tryz.func33 rfl rfl (by simp) (fun w0 => ?_)
 simp only [initF, Nat.reduceAdd]
 refine Rs fun K J => WL_r rfl (a6_ rfl rfl (fun b1 hb1 => WL_r rfl (a6_ rfl rfl (fun b2 hb2 => sN zp_41 rfl fun b3 hb3 => nl J (ds (sd (sk (sk (s0)))) [0,4,8,12,16,20,24,28,32,36,40,44,48,52,56,60,65] [16] mix (by kernel_rfl) (fun K J => pQ rfl (qA ar_41 rfl rfl rfl) (pQ rfl (qL ty_39 rfl m2 rfl) (pQ rfl (qA ar_41 rfl rfl rfl) (pQ rfl (qL ty_39 rfl m1 rfl) (pQ rfl (q_ret en_27 (cH_ a.x b.x) rfl) (pQ rfl (qA ar_41 rfl rfl rfl) (pQ rfl (qL ty_39 rfl m2 rfl) (pQ rfl (qA ar_41 rfl rfl rfl) (pQ rfl (qL ty_39 rfl m1 rfl) (pQ rfl (q_ret en_27 (cH_ a.y b.y) rfl) (pQ rfl (qA ar_41 rfl rfl rfl) (pQ rfl (qL ty_39 rfl m2 rfl) (pQ rfl (qA ar_41 rfl rfl rfl) (pQ rfl (qL ty_39 rfl m1 rfl) ?_)))))))))))))))))))
 refine pQ rfl (q_ret en_27 (cH_ a.z b.z) rfl) (pQ rfl (cq_ zp_41 ar_41 rfl (.cons [pI ((ak_ a.x b.x).n), pI ((ak_ a.x b.x).d)] [pI ((ak_ a.x b.x).n), pI ((ak_ a.x b.x).d), pI I0, pI I0, pI I0, pI I0] rfl rfl rfl rfl (.cons [pI ((ak_ a.y b.y).n), pI ((ak_ a.y b.y).d)] [pI ((ak_ a.x b.x).n), pI ((ak_ a.x b.x).d), pI ((ak_ a.y b.y).n), pI ((ak_ a.y b.y).d), pI I0, pI I0] rfl rfl rfl rfl (.cons [pI ((ak_ a.z b.z).n), pI ((ak_ a.z b.z).d)] [pI ((ak_ a.x b.x).n), pI ((ak_ a.x b.x).d), pI ((ak_ a.y b.y).n), pI ((ak_ a.y b.y).d), pI ((ak_ a.z b.z).n), pI ((ak_ a.z b.z).d)] rfl rfl rfl rfl (.nil _))))) (oS [pI ((ak_ a.x b.x).n), pI ((ak_ a.x b.x).d), pI ((ak_ a.y b.y).n), pI ((ak_ a.y b.y).d), pI ((ak_ a.z b.z).n), pI ((ak_ a.z b.z).d)] ty_41 rfl rfl rfl rfl rfl rfl (.head _) rfl hb3 rfl (sd s0) (fl J (W_ret (ret1 rfl (.inr rfl) (resP rfl m0 ty_41 rfl) ?_)))))
 exact (by rfl)

theorem fC_ (a : Rt) (b : (A3 Rt)) :
    Ret Tryz.prog 34 [AV [pI a.n, pI a.d], AV [pI b.x.n, pI b.x.d, pI b.y.n, pI b.y.d, pI b.z.n, pI b.z.d]] (AV [pI (((aw_ a b).x).n), pI (((aw_ a b).x).d), pI (((aw_ a b).y).n), pI (((aw_ a b).y).d), pI (((aw_ a b).z).n), pI (((aw_ a b).z).d)]) := by
 refine aD_ (N := 18) Tryz.func34 rfl rfl (by simp) (fun w0 => ?_)
 simp only [initF, Nat.reduceAdd]
 refine Rs fun K J => WL_r rfl (a6_ rfl rfl (fun b1 hb1 => WL_r rfl (a6_ rfl rfl (fun b2 hb2 => sN zp_41 rfl fun b3 hb3 => nl J (ds (sd (sk (sk (s0)))) [0,4,8,12,16,20,24,28,32,36,40,44,48,53] [13] mix (by kernel_rfl) (fun K J => pQ rfl (qL ty_39 rfl m2 rfl) (pQ rfl (qA ar_41 rfl rfl rfl) (pQ rfl (qL ty_39 rfl m1 rfl) (pQ rfl (q_ret en_38 (cu_ a b.x) rfl) (pQ rfl (qL ty_39 rfl m2 rfl) (pQ rfl (qA ar_41 rfl rfl rfl) (pQ rfl (qL ty_39 rfl m1 rfl) (pQ rfl (q_ret en_38 (cu_ a b.y) rfl) (pQ rfl (qL ty_39 rfl m2 rfl) (pQ rfl (qA ar_41 rfl rfl rfl) (pQ rfl (qL ty_39 rfl m1 rfl) (pQ rfl (q_ret en_38 (cu_ a b.z) rfl) (pQ rfl (cq_ zp_41 ar_41 rfl (.cons [pI ((af_ a b.x).n), pI ((af_ a b.x).d)] [pI ((af_ a b.x).n), pI ((af_ a b.x).d), pI I0, pI I0, pI I0, pI I0] rfl rfl rfl rfl (.cons [pI ((af_ a b.y).n), pI ((af_ a b.y).d)] [pI ((af_ a b.x).n), pI ((af_ a b.x).d), pI ((af_ a b.y).n), pI ((af_ a b.y).d), pI I0, pI I0] rfl rfl rfl rfl (.cons [pI ((af_ a b.z).n), pI ((af_ a b.z).d)] [pI ((af_ a b.x).n), pI ((af_ a b.x).d), pI ((af_ a b.y).n), pI ((af_ a b.y).d), pI ((af_ a b.z).n), pI ((af_ a b.z).d)] rfl rfl rfl rfl (.nil _))))) (oS [pI ((af_ a b.x).n), pI ((af_ a b.x).d), pI ((af_ a b.y).n), pI ((af_ a b.y).d), pI ((af_ a b.z).n), pI ((af_ a b.z).d)] ty_41 rfl rfl rfl rfl rfl rfl (.head _) rfl hb3 rfl (sd s0) ?_)))))))))))))))))))
 refine fl J (W_ret (ret1 rfl (.inr rfl) (resP rfl m0 ty_41 rfl) ?_))
 exact (by rfl)

theorem fP_ (a : (A3 Rt)) (b : (A3 Rt)) :
    Ret Tryz.prog 39 [AV [pI a.x.n, pI a.x.d, pI a.y.n, pI a.y.d, pI a.z.n, pI a.z.d], AV [pI b.x.n, pI b.x.d, pI b.y.n, pI b.y.d, pI b.z.n, pI b.z.d]] (AV [pI ((bd_ a b).n), pI ((bd_ a b).d)]) := by
 refine aD_ (N := 25) Tryz.func39 rfl rfl (by simp) (fun w0 => ?_)
 simp only [initF, Nat.reduceAdd]
 refine Rs fun K J => WL_r rfl (a6_ rfl rfl (fun b1 hb1 => WL_r rfl (a6_ rfl rfl (fun b2 hb2 => sN zp_39 rfl fun b3 hb3 => nl J (Rs fun K J => sQ (qA ar_41 rfl rfl rfl) rfl (sQ (qL ty_39 rfl m2 rfl) rfl (sQ (qA ar_41 rfl rfl rfl) rfl (sQ (qL ty_39 rfl m1 rfl) rfl (sQ (q_ret en_38 (cu_ a.x b.x) rfl) rfl (sN zp_39 rfl fun b4 hb4 => sS [pI ((af_ a.x b.x).n), pI ((af_ a.x b.x).d)] ty_39 rfl rfl rfl rfl rfl (.head _) rfl hb4 (nl J (ds (sd (sk (sk (sk (s0))))) [0,4,8,12,16,20,24,29] [7] mix (by kernel_rfl) (fun K J => pQ rfl (qL ty_39 rfl m0 rfl) (pQ rfl (qA ar_41 rfl rfl rfl) (pQ rfl (qL ty_39 rfl m3 rfl) (pQ rfl (qA ar_41 rfl rfl rfl) (pQ rfl (qL ty_39 rfl m2 rfl) ?_)))))))))))))))))
 refine pQ rfl (q_ret en_38 (cu_ a.y b.y) rfl) ?_
 obtain ⟨r5, hr5⟩ := nm ((ak_ (af_ a.x b.x) (af_ a.y b.y)) : Rt)
 refine pC (AV [pI r5.n, pI r5.d]) en_27 (cH_ (af_ a.x b.x) (af_ a.y b.y)) rfl rfl (by rw [hr5]; first | done | rfl) (oS [pI r5.n, pI r5.d] ty_39 rfl rfl rfl rfl rfl rfl (.head _) rfl hb4 rfl (sd s0) (fl J (ds (sk (sd (sk (sk (s0))))) [0,4,8,12,16,20,24,29] [7] mix (by kernel_rfl) (fun K J => pQ rfl (qL ty_39 rfl m0 rfl) (pQ rfl (qA ar_41 rfl rfl rfl) (pQ rfl (qL ty_39 rfl m3 rfl) (pQ rfl (qA ar_41 rfl rfl rfl) (pQ rfl (qL ty_39 rfl m2 rfl) (pQ rfl (q_ret en_38 (cu_ a.z b.z) rfl) ?_)))))))))
 obtain ⟨r6, hr6⟩ := nm ((ak_ r5 (af_ a.z b.z)) : Rt)
 refine pC (AV [pI r6.n, pI r6.d]) en_27 (cH_ r5 (af_ a.z b.z)) rfl rfl (by rw [hr6]; first | done | rfl) (oS [pI r6.n, pI r6.d] ty_39 rfl rfl rfl rfl rfl rfl (.tail _ (.head _)) rfl hb3 rfl (sk (sd s0)) (fl J (W_ret (ret1 rfl (.inr rfl) (resP rfl m1 ty_39 rfl) ?_))))
 exact (by subst hr6; subst hr5; rfl)

theorem eR_ (a : (A3 W)) :
    Ret Tryz.prog 32 [AV [ci .i64 a.x.1, ci .i64 a.y.1, ci .i64 a.z.1]] (AV [pI (((ao_ a).x).n), pI (((ao_ a).x).d), pI (((ao_ a).y).n), pI (((ao_ a).y).d), pI (((ao_ a).z).n), pI (((ao_ a).z).d)]) := by
 refine aD_ (N := 13) Tryz.func32 rfl rfl (by simp) (fun w0 => ?_)
 simp only [initF, Nat.reduceAdd]
 refine Rs fun K J => WL_r rfl (a6_ rfl rfl (fun b1 hb1 => sN zp_41 rfl fun b2 hb2 => nl J (ds (sd (sk (s0))) [0,4,8,12,16,20,24,28,32,36,41] [10] mix (by kernel_rfl) (fun K J => pQ rfl (qA ar_23 rfl rfl rfl) (pQ rfl (qC ty_3 rfl m1 rfl) (pQ rfl (q_ret en_25 (c5_ a.x) rfl) (pQ rfl (qA ar_23 rfl rfl rfl) (pQ rfl (qC ty_3 rfl m1 rfl) (pQ rfl (q_ret en_25 (c5_ a.y) rfl) (pQ rfl (qA ar_23 rfl rfl rfl) (pQ rfl (qC ty_3 rfl m1 rfl) (pQ rfl (q_ret en_25 (c5_ a.z) rfl) (pQ rfl (cq_ zp_41 ar_41 rfl (.cons [pI ((ag_ a.x).n), pI ((ag_ a.x).d)] [pI ((ag_ a.x).n), pI ((ag_ a.x).d), pI I0, pI I0, pI I0, pI I0] rfl rfl rfl rfl (.cons [pI ((ag_ a.y).n), pI ((ag_ a.y).d)] [pI ((ag_ a.x).n), pI ((ag_ a.x).d), pI ((ag_ a.y).n), pI ((ag_ a.y).d), pI I0, pI I0] rfl rfl rfl rfl (.cons [pI ((ag_ a.z).n), pI ((ag_ a.z).d)] [pI ((ag_ a.x).n), pI ((ag_ a.x).d), pI ((ag_ a.y).n), pI ((ag_ a.y).d), pI ((ag_ a.z).n), pI ((ag_ a.z).d)] rfl rfl rfl rfl (.nil _))))) (oS [pI ((ag_ a.x).n), pI ((ag_ a.x).d), pI ((ag_ a.y).n), pI ((ag_ a.y).d), pI ((ag_ a.z).n), pI ((ag_ a.z).d)] ty_41 rfl rfl rfl rfl rfl rfl (.head _) rfl hb2 rfl (sd s0) (fl J (W_ret (ret1 rfl (.inr rfl) (resP rfl m0 ty_41 rfl) ?_)))))))))))))))))
 exact (by rfl)

theorem fX_ (a : (A3 W)) (b : (A3 Rt)) :
    Ret Tryz.prog 29 [AV [ci .i64 a.x.1, ci .i64 a.y.1, ci .i64 a.z.1], AV [pI b.x.n, pI b.x.d, pI b.y.n, pI b.y.d, pI b.z.n, pI b.z.d]] (AV [pI ((bn_ a b).n), pI ((bn_ a b).d)]) := by
 refine aD_ (N := 9) Tryz.func29 rfl rfl (by simp) (fun w0 => ?_)
 simp only [initF, Nat.reduceAdd]
 refine Rs fun K J => WL_r rfl (a6_ rfl rfl (fun b1 hb1 => WL_r rfl (a6_ rfl rfl (fun b2 hb2 => sN zp_39 rfl fun b3 hb3 => nl J (ds (sd (sk (sk (s0)))) [0,4,8,12,17] [4] mix (by kernel_rfl) (fun K J => pQ rfl (qL ty_23 rfl m2 rfl) ?_))))))
 obtain ⟨r4, hr4⟩ := nm ((ao_ a) : (A3 Rt))
 refine pC (AV [pI r4.x.n, pI r4.x.d, pI r4.y.n, pI r4.y.d, pI r4.z.n, pI r4.z.d]) en_32 (eR_ a) rfl rfl (by rw [hr4]; first | done | rfl) (pQ rfl (qL ty_41 rfl m1 rfl) (pQ rfl (q_ret en_39 (fP_ r4 b) rfl) (oS [pI ((bd_ r4 b).n), pI ((bd_ r4 b).d)] ty_39 rfl rfl rfl rfl rfl rfl (.head _) rfl hb3 rfl (sd s0) (fl J (W_ret (ret1 rfl (.inr rfl) (resP rfl m0 ty_39 rfl) ?_))))))
 exact (by subst hr4; rfl)
end Go.Proofs.YtapbefpeopaecaaGreatDoor

namespace Go.Proofs.YtapbefpeopaecaaGreatDoor
open Go.Kn Go.Num
set_option linter.unusedVariables false
set_option linter.unusedSimpArgs false
set_option maxRecDepth 20000
set_option maxHeartbeats 8000000
theorem ge_ (va : Value) (n k : Nat) (hk : k ≤ 1000000) (w : World) (hva : Sl w va (dl n)) :
    Calls Tryz.prog 100 [va, .int .i64 (k : Int)].toArray w (fun e w' => e = .returned (.int .i64 ((n / 2 ^ k % 2 : Nat) : Int)) ∧ Ext w w') := by
 refine cV_ (N := 13) Tryz.func100 rfl rfl (by simp) ?_
 obtain ⟨w0, rfl⟩ : ∃ w0, w0 = w := ⟨_, rfl⟩
 simp only [initF, Nat.reduceAdd]
 refine Sq fun K1 J1 => Rk fun K J => sE rfl (nl J (J1 _ _ (Sq fun K2 J2 => Rk fun K J => sE rfl (sE rfl (sQ (q_as (q_quo rfl rfl (by decide)) (congrArg (Value.int .i64) (shq 16 (by decide) (by omega)))) rfl (sQ (q_as (bU_ g9_ rfl (fun w hw => bB_ va (dl n) (k / 16) w (SL.sl (M := _) hva.old hw))) (congrArg (fun z : Nat => Value.int .i64 (z : Int)) (hy_ n (k / 16)))) rfl (sE rfl (sQ (q_as (q_rem rfl rfl (by decide)) (congrArg (Value.int .i64) (shr 16 k))) rfl (sQ (q_shr rfl rfl (Int.natCast_nonneg _)) rfl (sQ (q_as (q_rem rfl rfl (by decide)) (congrArg (Value.int .i64) (qp_ n k))) rfl (sE rfl (nl J (J2 _ _ (W_ret (ret1 rfl (.inr rfl) rfl ?_)))))))))))))))
 exact rfl

theorem bh_ (a : R) (ha : a.Ok) :
    Ret Tryz.prog 52 [RV a] (.int .i64 ((a.dec.bits : Nat) : Int)) := by
 refine aD_ (N := 25) Tryz.func52 rfl rfl (by simp) (fun w0 => ?_)
 simp only [initF, Nat.reduceAdd]
 refine Sq fun K1 J1 => Rk fun K J => WL_r rfl (r_box rfl rfl (fun b1 hb1 => sE rfl (nl J (J1 _ _ (Sq fun K2 J2 => Sq fun K3 J3 => Rk fun K J => sQ (aQ_ ty_37 rfl (by repeat (first | exact .head _ | apply List.mem_append_right | apply List.Mem.tail)) (aO_ ha)) rfl ?_)))))
 refine sQ (q_ret en_86 (aS_ a ha) rfl) rfl (sE rfl (nl J (J3 _ _ ?_)))
 refine a1_ _ rfl (fun hg => ?_) (fun hg => ?_)
 ·(try simp only [decide_eq_true_eq, decide_eq_false_iff_not, beq_iff_eq, bne_iff_ne, beq_eq_false_iff_ne, bne_eq_false_iff_eq, Bool.not_eq_true', Bool.not_eq_false'] at hg)
  refine Sq fun K4 J4 => Rk fun K J => sE rfl (nl J (J4 _ _ (W_ret (aj_ (ret1 rfl (.inr rfl) rfl ?_)))))
  exact congrArg (fun z : Nat => Value.int .i64 (z : Int)) (om_ (by simpa using hg)).symm
 ·(try simp only [decide_eq_true_eq, decide_eq_false_iff_not, beq_iff_eq, bne_iff_ne, beq_eq_false_iff_ne, bne_eq_false_iff_eq, Bool.not_eq_true', Bool.not_eq_false'] at hg)
  refine al_ (J2 _ _ (Sq fun K5 J5 => Rk fun K J => sQ (aQ_ ty_37 rfl (by repeat (first | exact .head _ | apply List.mem_append_right | apply List.Mem.tail)) (aO_ ha)) rfl ?_))
  refine WL_r rfl (cl_ en_87 rfl (fun w hw => aY_ a ha w) (fun v L hv => sE rfl (nl J (J5 _ _ (Sq fun K6 J6 => ?_)))))
  have hl32 : (dl (val a.w)).length ≤ 32 := db_ (by rw [← jL_]; have := gs_ a.w ha.lim; rwa [ha.len] at this)
  refine Rk fun K J => sE rfl (sQ (dV_ sl_81 rfl (SL.sub hv.sl (List.sublist_append_left _ _))) rfl (sQ (q_as (q_mul rfl rfl) (congrArg (Value.int .i64) (mul16 (Nat.le_trans hl32 (by decide))))) rfl (sE rfl (nl J (J6 _ _ (Sq fun K7 J7 => at_ ?_))))))
  refine bv_ [4, 13, 14, 15, 16, 17, 18, 19, 20, 21, 22, 23] (fun g nn M => ∃ (k : Nat), (g 4 = .int .i64 (k : Int)) ∧ M = L ++ [⟨b1, 37, a.cells⟩] ∧ nn = k + 0 ∧ (k ≤ 16 * (dl (val a.w)).length ∧ val a.w < 2 ^ k)) (16 * (dl (val a.w)).length) ?start ?round
  case start =>
   refine ⟨_, (List.Sublist.refl _), 16 * (dl (val a.w)).length, ?a4, ?mem0, rfl, ⟨Nat.le_refl _, mk_ _⟩⟩
   case mem0 => rfl
   case a4 => rfl
  case round =>
   rintro nn g M ⟨k, hg4, rfl, hmeas, ⟨hk, hlt⟩⟩
   subst nn
   simp only [setG, hg4]
   clear hg4
   refine Sq fun K8 J8 => Sq fun K9 J9 => Rk fun K J => sE rfl (sE rfl (sE rfl ?_))
   cases hz : decide ((0 : Int) < (k : Int))
   ·skip
    refine WL_n rfl (WL_n rfl (WL_n rfl (WL_n rfl (WL_n rfl (sE rfl (nl J (J9 _ _ (by_ rfl (bp_ (ay_ (ay_ (aF_ (J7 _ _ (Sq fun K10 J10 => Rk fun K J => sE rfl (sE rfl (nl J (J10 _ _ (W_ret (ret1 rfl (.inr rfl) rfl ?_)))))))))))))))))))
    exact congrArg (fun z : Nat => Value.int .i64 (z : Int)) (qz_ ha (by simpa using hg) hlt (by have := of_decide_eq_false hz; omega)).symm
   ·skip
    have hz' := of_decide_eq_true hz
    obtain ⟨m, rfl⟩ : ∃ m, k = m + 1 := ⟨k - 1, by omega⟩
    refine sE rfl (sE rfl (sQ (q_as (q_sub rfl rfl) (congrArg (Value.int .i64) (gw_ (by omega)))) rfl (sQ (bU_ rt_ rfl (fun w hw => ge_ v (val a.w) m (by omega) w (SL.sl (SL.sub hv.sl (List.sublist_append_left _ _)) hw))) rfl (sE rfl (sE rfl (nl J (J9 _ _ ?_)))))))
    refine a1_ _ rfl (fun h0 => ?_) (fun h0 => ?_)
    ·(try simp only [decide_eq_true_eq, decide_eq_false_iff_not, beq_iff_eq, bne_iff_ne, beq_eq_false_iff_ne, bne_eq_false_iff_eq, Bool.not_eq_true', Bool.not_eq_false'] at h0)
     refine al_ (J8 _ _ (at_ (Rk fun K J => sE rfl (sQ (q_as (q_sub rfl rfl) (congrArg (Value.int .i64) (gw_ (by omega)))) rfl (sE rfl (nl J ?_))))))
     refine ⟨(by repeat first | exact .refl | refine .cons rfl ?_), _, _, (List.Sublist.refl _), (by omega), m, ?s4, ?mem, rfl, ⟨by omega, nt_ hlt (by omega)⟩⟩
     case mem => rfl
     case s4 => rfl
    ·(try simp only [decide_eq_true_eq, decide_eq_false_iff_not, beq_iff_eq, bne_iff_ne, beq_eq_false_iff_ne, bne_eq_false_iff_eq, Bool.not_eq_true', Bool.not_eq_false'] at h0)
     refine bp_ (ay_ (ay_ (aF_ (J7 _ _ (Sq fun K11 J11 => Rk fun K J => sE rfl (sE rfl (nl J (J11 _ _ (W_ret (ret1 rfl (.inr rfl) rfl ?_))))))))))
     exact congrArg (fun z : Nat => Value.int .i64 (z : Int)) ((ga_ ha (by simpa using hg)).trans (qg_ hlt (by omega))).symm
end Go.Proofs.YtapbefpeopaecaaGreatDoor

namespace Go.Proofs.YtapbefpeopaecaaGreatDoor
open Go.Kn Go.Num
set_option linter.unusedVariables false
set_option linter.unusedSimpArgs false
set_option maxRecDepth 20000
set_option maxHeartbeats 8000000
end Go.Proofs.YtapbefpeopaecaaGreatDoor

