/- Walks: what these functions return. Arrays of numbers of 16 bits, read at a place that is computed. No program stands in it. What these functions compute, as plain functions. No program stands in it. -/
import Derived.Test.YtapbefpeopaecaaGreatDoorUGE
import Derived.Test.YtapbefpeopaecaaGreatDoorUGa
import Derived.Test.YtapbefpeopaecaaGreatDoorUGd
import Derived.Test.YtapbefpeopaecaaGreatDoorUSb
import Derived.Test.YtapbefpeopaecaaGreatDoorUSg
import Derived.Test.YtapbefpeopaecaaGreatDoorUSh
import Derived.Test.YtapbefpeopaecaaGreatDoorUSa
import Derived.Test.YtapbefpeopaecaaGreatDoorUFGc
namespace Go.Proofs.YtapbefpeopaecaaGreatDoor
open Go.Kn Go.Num
set_option linter.unusedVariables false
set_option linter.unusedSimpArgs false
set_option maxRecDepth 20000
set_option maxHeartbeats 8000000
theorem fK_ (a : (A3 Rt)) (b : (A3 Rt)) :
    Ret Tryz.prog 33 [AV [pI a.x.n, pI a.x.d, pI a.y.n, pI a.y.d, pI a.z.n, pI a.z.d], AV [pI b.x.n, pI b.x.d, pI b.y.n, pI b.y.d, pI b.z.n, pI b.z.d]] (AV [pI (((aQ_ a b).x).n), pI (((aQ_ a b).x).d), pI (((aQ_ a b).y).n), pI (((aQ_ a b).y).d), pI (((aQ_ a b).z).n), pI (((aQ_ a b).z).d)]) := by
 refine aB_ (N := 21) Tryz.func33 rfl rfl (by simp) (fun w0 => ?_)
 simp only [initF, Nat.reduceAdd]
 refine Rs fun K J => WL_r rfl (bd_ rfl rfl (fun b1 hb1 => WL_r rfl (bd_ rfl rfl (fun b2 hb2 => sN zp_41 rfl fun b3 hb3 => nl J (ds (sd (sk (sk (s0)))) [0,4,8,12,16,20,24,28,32,36,40,44,48,52,56,60,65] [16] mix (by kernel_rfl) (fun K J => pQ rfl (qA ar_41 rfl rfl rfl) (pQ rfl (qL ty_39 rfl m2 rfl) (pQ rfl (qA ar_41 rfl rfl rfl) (pQ rfl (qL ty_39 rfl m1 rfl) (pQ rfl (q_ret en_27 (dg_ a.x b.x) rfl) (pQ rfl (qA ar_41 rfl rfl rfl) (pQ rfl (qL ty_39 rfl m2 rfl) (pQ rfl (qA ar_41 rfl rfl rfl) (pQ rfl (qL ty_39 rfl m1 rfl) (pQ rfl (q_ret en_27 (dg_ a.y b.y) rfl) (pQ rfl (qA ar_41 rfl rfl rfl) (pQ rfl (qL ty_39 rfl m2 rfl) (pQ rfl (qA ar_41 rfl rfl rfl) (pQ rfl (qL ty_39 rfl m1 rfl) ?_)))))))))))))))))))
 refine pQ rfl (q_ret en_27 (dg_ a.z b.z) rfl) (pQ rfl (b4_ zp_41 ar_41 rfl (.cons [pI ((ak_ a.x b.x).n), pI ((ak_ a.x b.x).d)] [pI ((ak_ a.x b.x).n), pI ((ak_ a.x b.x).d), pI I0, pI I0, pI I0, pI I0] rfl rfl rfl rfl (.cons [pI ((ak_ a.y b.y).n), pI ((ak_ a.y b.y).d)] [pI ((ak_ a.x b.x).n), pI ((ak_ a.x b.x).d), pI ((ak_ a.y b.y).n), pI ((ak_ a.y b.y).d), pI I0, pI I0] rfl rfl rfl rfl (.cons [pI ((ak_ a.z b.z).n), pI ((ak_ a.z b.z).d)] [pI ((ak_ a.x b.x).n), pI ((ak_ a.x b.x).d), pI ((ak_ a.y b.y).n), pI ((ak_ a.y b.y).d), pI ((ak_ a.z b.z).n), pI ((ak_ a.z b.z).d)] rfl rfl rfl rfl (.nil _))))) (oS [pI ((ak_ a.x b.x).n), pI ((ak_ a.x b.x).d), pI ((ak_ a.y b.y).n), pI ((ak_ a.y b.y).d), pI ((ak_ a.z b.z).n), pI ((ak_ a.z b.z).d)] ty_41 rfl rfl rfl rfl rfl rfl (.head _) rfl hb3 rfl (sd s0) (fl J (W_ret (ret1 rfl (.inr rfl) (resP rfl m0 ty_41 rfl) ?_)))))
 exact (by rfl)

theorem fz_ (a : (A3 Rt)) (b : (A3 Rt)) :
    Ret Tryz.prog 35 [AV [pI a.x.n, pI a.x.d, pI a.y.n, pI a.y.d, pI a.z.n, pI a.z.d], AV [pI b.x.n, pI b.x.d, pI b.y.n, pI b.y.d, pI b.z.n, pI b.z.d]] (AV [pI (((aP_ a b).x).n), pI (((aP_ a b).x).d), pI (((aP_ a b).y).n), pI (((aP_ a b).y).d), pI (((aP_ a b).z).n), pI (((aP_ a b).z).d)]) := by
 refine aB_ (N := 21) Tryz.func35 rfl rfl (by simp) (fun w0 => ?_)
 simp only [initF, Nat.reduceAdd]
 refine Rs fun K J => WL_r rfl (bd_ rfl rfl (fun b1 hb1 => WL_r rfl (bd_ rfl rfl (fun b2 hb2 => sN zp_41 rfl fun b3 hb3 => nl J (ds (sd (sk (sk (s0)))) [0,4,8,12,16,20,24,28,32,36,40,44,48,52,56,60,65] [16] mix (by kernel_rfl) (fun K J => pQ rfl (qA ar_41 rfl rfl rfl) (pQ rfl (qL ty_39 rfl m2 rfl) (pQ rfl (qA ar_41 rfl rfl rfl) (pQ rfl (qL ty_39 rfl m1 rfl) (pQ rfl (q_ret en_55 (dS_ a.x b.x) rfl) (pQ rfl (qA ar_41 rfl rfl rfl) (pQ rfl (qL ty_39 rfl m2 rfl) (pQ rfl (qA ar_41 rfl rfl rfl) (pQ rfl (qL ty_39 rfl m1 rfl) (pQ rfl (q_ret en_55 (dS_ a.y b.y) rfl) (pQ rfl (qA ar_41 rfl rfl rfl) (pQ rfl (qL ty_39 rfl m2 rfl) (pQ rfl (qA ar_41 rfl rfl rfl) (pQ rfl (qL ty_39 rfl m1 rfl) ?_)))))))))))))))))))
 refine pQ rfl (q_ret en_55 (dS_ a.z b.z) rfl) (pQ rfl (b4_ zp_41 ar_41 rfl (.cons [pI ((aq_ a.x b.x).n), pI ((aq_ a.x b.x).d)] [pI ((aq_ a.x b.x).n), pI ((aq_ a.x b.x).d), pI I0, pI I0, pI I0, pI I0] rfl rfl rfl rfl (.cons [pI ((aq_ a.y b.y).n), pI ((aq_ a.y b.y).d)] [pI ((aq_ a.x b.x).n), pI ((aq_ a.x b.x).d), pI ((aq_ a.y b.y).n), pI ((aq_ a.y b.y).d), pI I0, pI I0] rfl rfl rfl rfl (.cons [pI ((aq_ a.z b.z).n), pI ((aq_ a.z b.z).d)] [pI ((aq_ a.x b.x).n), pI ((aq_ a.x b.x).d), pI ((aq_ a.y b.y).n), pI ((aq_ a.y b.y).d), pI ((aq_ a.z b.z).n), pI ((aq_ a.z b.z).d)] rfl rfl rfl rfl (.nil _))))) (oS [pI ((aq_ a.x b.x).n), pI ((aq_ a.x b.x).d), pI ((aq_ a.y b.y).n), pI ((aq_ a.y b.y).d), pI ((aq_ a.z b.z).n), pI ((aq_ a.z b.z).d)] ty_41 rfl rfl rfl rfl rfl rfl (.head _) rfl hb3 rfl (sd s0) (fl J (W_ret (ret1 rfl (.inr rfl) (resP rfl m0 ty_41 rfl) ?_)))))
 exact (by rfl)

theorem fw_ (a : Rt) (b : (A3 Rt)) :
    Ret Tryz.prog 34 [AV [pI a.n, pI a.d], AV [pI b.x.n, pI b.x.d, pI b.y.n, pI b.y.d, pI b.z.n, pI b.z.d]] (AV [pI (((aG_ a b).x).n), pI (((aG_ a b).x).d), pI (((aG_ a b).y).n), pI (((aG_ a b).y).d), pI (((aG_ a b).z).n), pI (((aG_ a b).z).d)]) := by
 refine aB_ (N := 18) Tryz.func34 rfl rfl (by simp) (fun w0 => ?_)
 simp only [initF, Nat.reduceAdd]
 refine Rs fun K J => WL_r rfl (bd_ rfl rfl (fun b1 hb1 => WL_r rfl (bd_ rfl rfl (fun b2 hb2 => sN zp_41 rfl fun b3 hb3 => nl J (ds (sd (sk (sk (s0)))) [0,4,8,12,16,20,24,28,32,36,40,44,48,53] [13] mix (by kernel_rfl) (fun K J => pQ rfl (qL ty_39 rfl m2 rfl) (pQ rfl (qA ar_41 rfl rfl rfl) (pQ rfl (qL ty_39 rfl m1 rfl) (pQ rfl (q_ret en_38 (dL_ a b.x) rfl) (pQ rfl (qL ty_39 rfl m2 rfl) (pQ rfl (qA ar_41 rfl rfl rfl) (pQ rfl (qL ty_39 rfl m1 rfl) (pQ rfl (q_ret en_38 (dL_ a b.y) rfl) (pQ rfl (qL ty_39 rfl m2 rfl) (pQ rfl (qA ar_41 rfl rfl rfl) (pQ rfl (qL ty_39 rfl m1 rfl) (pQ rfl (q_ret en_38 (dL_ a b.z) rfl) (pQ rfl (b4_ zp_41 ar_41 rfl (.cons [pI ((ag_ a b.x).n), pI ((ag_ a b.x).d)] [pI ((ag_ a b.x).n), pI ((ag_ a b.x).d), pI I0, pI I0, pI I0, pI I0] rfl rfl rfl rfl (.cons [pI ((ag_ a b.y).n), pI ((ag_ a b.y).d)] [pI ((ag_ a b.x).n), pI ((ag_ a b.x).d), pI ((ag_ a b.y).n), pI ((ag_ a b.y).d), pI I0, pI I0] rfl rfl rfl rfl (.cons [pI ((ag_ a b.z).n), pI ((ag_ a b.z).d)] [pI ((ag_ a b.x).n), pI ((ag_ a b.x).d), pI ((ag_ a b.y).n), pI ((ag_ a b.y).d), pI ((ag_ a b.z).n), pI ((ag_ a b.z).d)] rfl rfl rfl rfl (.nil _))))) (oS [pI ((ag_ a b.x).n), pI ((ag_ a b.x).d), pI ((ag_ a b.y).n), pI ((ag_ a b.y).d), pI ((ag_ a b.z).n), pI ((ag_ a b.z).d)] ty_41 rfl rfl rfl rfl rfl rfl (.head _) rfl hb3 rfl (sd s0) ?_)))))))))))))))))))
 refine fl J (W_ret (ret1 rfl (.inr rfl) (resP rfl m0 ty_41 rfl) ?_))
 exact (by rfl)

theorem d0_ (a : (A3 W)) :
    Ret Tryz.prog 32 [AV [ci .i64 a.x.1, ci .i64 a.y.1, ci .i64 a.z.1]] (AV [pI (((aj_ a).x).n), pI (((aj_ a).x).d), pI (((aj_ a).y).n), pI (((aj_ a).y).d), pI (((aj_ a).z).n), pI (((aj_ a).z).d)]) := by
 refine aB_ (N := 13) Tryz.func32 rfl rfl (by simp) (fun w0 => ?_)
 simp only [initF, Nat.reduceAdd]
 refine Rs fun K J => WL_r rfl (bd_ rfl rfl (fun b1 hb1 => sN zp_41 rfl fun b2 hb2 => nl J (ds (sd (sk (s0))) [0,4,8,12,16,20,24,28,32,36,41] [10] mix (by kernel_rfl) (fun K J => pQ rfl (qA ar_23 rfl rfl rfl) (pQ rfl (qC ty_3 rfl m1 rfl) (pQ rfl (q_ret en_25 (cU_ a.x) rfl) (pQ rfl (qA ar_23 rfl rfl rfl) (pQ rfl (qC ty_3 rfl m1 rfl) (pQ rfl (q_ret en_25 (cU_ a.y) rfl) (pQ rfl (qA ar_23 rfl rfl rfl) (pQ rfl (qC ty_3 rfl m1 rfl) (pQ rfl (q_ret en_25 (cU_ a.z) rfl) (pQ rfl (b4_ zp_41 ar_41 rfl (.cons [pI ((af_ a.x).n), pI ((af_ a.x).d)] [pI ((af_ a.x).n), pI ((af_ a.x).d), pI I0, pI I0, pI I0, pI I0] rfl rfl rfl rfl (.cons [pI ((af_ a.y).n), pI ((af_ a.y).d)] [pI ((af_ a.x).n), pI ((af_ a.x).d), pI ((af_ a.y).n), pI ((af_ a.y).d), pI I0, pI I0] rfl rfl rfl rfl (.cons [pI ((af_ a.z).n), pI ((af_ a.z).d)] [pI ((af_ a.x).n), pI ((af_ a.x).d), pI ((af_ a.y).n), pI ((af_ a.y).d), pI ((af_ a.z).n), pI ((af_ a.z).d)] rfl rfl rfl rfl (.nil _))))) (oS [pI ((af_ a.x).n), pI ((af_ a.x).d), pI ((af_ a.y).n), pI ((af_ a.y).d), pI ((af_ a.z).n), pI ((af_ a.z).d)] ty_41 rfl rfl rfl rfl rfl rfl (.head _) rfl hb2 rfl (sd s0) (fl J (W_ret (ret1 rfl (.inr rfl) (resP rfl m0 ty_41 rfl) ?_)))))))))))))))))
 exact (by rfl)

end Go.Proofs.YtapbefpeopaecaaGreatDoor

namespace Go.Proofs.YtapbefpeopaecaaGreatDoor
open Go.Kn Go.Num
set_option linter.unusedVariables false
set_option linter.unusedSimpArgs false
set_option maxRecDepth 20000
set_option maxHeartbeats 8000000
end Go.Proofs.YtapbefpeopaecaaGreatDoor

namespace Go.Proofs.YtapbefpeopaecaaGreatDoor
open Go.Kn Go.Num
set_option linter.unusedVariables false
set_option linter.unusedSimpArgs false
set_option maxRecDepth 20000
set_option maxHeartbeats 8000000
end Go.Proofs.YtapbefpeopaecaaGreatDoor

namespace Go.Proofs.YtapbefpeopaecaaGreatDoor
open Go.Kn Go.Num
set_option linter.unusedVariables false
set_option linter.unusedSimpArgs false
set_option maxRecDepth 20000
set_option maxHeartbeats 8000000
theorem fg_ (a : (A3 W)) (b : W) :
    Ret Tryz.prog 23 [AV [ci .i64 a.x.1, ci .i64 a.y.1, ci .i64 a.z.1], .int .i64 b.1] (.bool (au_ a b)) := by
 refine aB_ (N := 34) Tryz.func23 rfl rfl (by simp) (fun w0 => ?_)
 simp only [initF, Nat.reduceAdd]
 refine Rs fun K J => WL_r rfl (bd_ rfl rfl (fun b1 hb1 => sE rfl (nl J (Sq fun K1 J1 => Rs fun K J => sE rfl (nl J (as_ (W_un 5 (Un_s (fun K2 J2 => Sq fun K3 J3 => Rs fun K J => sE rfl (sV (.bool true) rfl rfl (nl J (bx_ rfl (am_ (J3 _ _ (Sq fun K4 J4 => ?_)))))))))))))))
 refine as_ ?_
 refine bM_ [11, 12, 13, 14, 15, 16, 17, 18, 19, 20] (fun g M => (g 20 = .bool (decide (536870912 ≤ a.x.1) || decide (a.x.1 ≤ (-536870912)))) ∧ M = [⟨b1, 23, flat [ci .i64 a.x.1, ci .i64 a.y.1, ci .i64 a.z.1]⟩]) (fun K5 J5 => ?_) ?_
 ·skip
  refine Rk fun K J => sE rfl (sQ (qA ar_23 rfl rfl rfl) rfl (sQ (qC ty_3 rfl m0 rfl) rfl (sE rfl ?_)))
  rcases bt (decide (536870912 ≤ a.x.1)) with h3 | h3
  ·skip
   refine sB h3 rfl (WL_n rfl (WL_n rfl (WL_n rfl (WL_n rfl (sE rfl (nl J ?_))))))
   refine J5 _ _ (by repeat first | exact .refl | refine .cons rfl ?_) ⟨_, s0, ?s20, rfl⟩
   case s20 => exact congrArg Value.bool (or_t h3)
  ·skip
   refine sB h3 rfl (sE rfl (sQ (qA ar_23 rfl rfl rfl) rfl (sQ (qC ty_3 rfl m0 rfl) rfl (sE rfl (sE rfl (nl J ?_))))))
   refine J5 _ _ (by repeat first | exact .refl | refine .cons rfl ?_) ⟨_, s0, ?s20, rfl⟩
   case s20 => exact congrArg Value.bool (or_f h3 rfl)
 ·skip
  rintro g4 M ⟨hg20, rfl⟩
  simp only [setG, hg20]
  clear hg20
  rcases bt (decide (536870912 ≤ a.x.1) || decide (a.x.1 ≤ (-536870912))) with h5 | h5
  ·skip
   refine W_t h5 rfl (Rs fun K J => sE rfl (nl J (W_ret (aM_ (ah_ (ah_ (aM_ (ah_ (ret1 rfl (.inr rfl) rfl ?_)))))))))
   exact (by exact congrArg (fun r : Bool => (.bool r : Value)) (show _ = (au_ a b) from bif_t h5 rfl))
  ·skip
   refine W_f h5 rfl (am_ (J4 _ _ (Rk fun K J => sE rfl (sV (.int .i64 1) rfl rfl (sE rfl (nl J (J2 _ _ (Un_s (fun K6 J6 => Sq fun K7 J7 => Rs fun K J => sE rfl (sV (.bool true) rfl rfl (nl J (bx_ rfl (am_ (J7 _ _ (Sq fun K8 J8 => as_ ?_)))))))))))))))
   refine bM_ [11, 12, 13, 14, 15, 16, 17, 18, 19, 20] (fun g M => (g 20 = .bool (decide (536870912 ≤ a.y.1) || decide (a.y.1 ≤ (-536870912)))) ∧ M = [⟨b1, 23, flat [ci .i64 a.x.1, ci .i64 a.y.1, ci .i64 a.z.1]⟩]) (fun K9 J9 => ?_) ?_
   ·skip
    refine Rk fun K J => sE rfl (sQ (qA ar_23 rfl rfl rfl) rfl (sQ (qC ty_3 rfl m0 rfl) rfl (sE rfl ?_)))
    rcases bt (decide (536870912 ≤ a.y.1)) with h7 | h7
    ·skip
     refine sB h7 rfl (WL_n rfl (WL_n rfl (WL_n rfl (WL_n rfl (sE rfl (nl J ?_))))))
     refine J9 _ _ (by repeat first | exact .refl | refine .cons rfl ?_) ⟨_, s0, ?s20, rfl⟩
     case s20 => exact congrArg Value.bool (or_t h7)
    ·skip
     refine sB h7 rfl (sE rfl (sQ (qA ar_23 rfl rfl rfl) rfl (sQ (qC ty_3 rfl m0 rfl) rfl (sE rfl (sE rfl (nl J ?_))))))
     refine J9 _ _ (by repeat first | exact .refl | refine .cons rfl ?_) ⟨_, s0, ?s20, rfl⟩
     case s20 => exact congrArg Value.bool (or_f h7 rfl)
   ·skip
    rintro g8 M ⟨hg20, rfl⟩
    simp only [setG, hg20]
    clear hg20
    rcases bt (decide (536870912 ≤ a.y.1) || decide (a.y.1 ≤ (-536870912))) with h9 | h9
    ·skip
     refine W_t h9 rfl (Rs fun K J => sE rfl (nl J (W_ret (aM_ (ah_ (ah_ (aM_ (ah_ (ret1 rfl (.inr rfl) rfl ?_)))))))))
     exact (by exact congrArg (fun r : Bool => (.bool r : Value)) (show _ = (au_ a b) from bif_f h5 (bif_t h9 rfl)))
    ·skip
     refine W_f h9 rfl (am_ (J8 _ _ (Rk fun K J => sE rfl (sV (.int .i64 2) rfl rfl (sE rfl (nl J (J6 _ _ (Un_s (fun K10 J10 => Sq fun K11 J11 => Rs fun K J => sE rfl (sV (.bool true) rfl rfl (nl J (bx_ rfl (am_ (J11 _ _ (Sq fun K12 J12 => as_ ?_)))))))))))))))
     refine bM_ [11, 12, 13, 14, 15, 16, 17, 18, 19, 20] (fun g M => (g 20 = .bool (decide (536870912 ≤ a.z.1) || decide (a.z.1 ≤ (-536870912)))) ∧ M = [⟨b1, 23, flat [ci .i64 a.x.1, ci .i64 a.y.1, ci .i64 a.z.1]⟩]) (fun K13 J13 => ?_) ?_
     ·skip
      refine Rk fun K J => sE rfl (sQ (qA ar_23 rfl rfl rfl) rfl (sQ (qC ty_3 rfl m0 rfl) rfl (sE rfl ?_)))
      rcases bt (decide (536870912 ≤ a.z.1)) with h11 | h11
      ·skip
       refine sB h11 rfl (WL_n rfl (WL_n rfl (WL_n rfl (WL_n rfl (sE rfl (nl J ?_))))))
       refine J13 _ _ (by repeat first | exact .refl | refine .cons rfl ?_) ⟨_, s0, ?s20, rfl⟩
       case s20 => exact congrArg Value.bool (or_t h11)
      ·skip
       refine sB h11 rfl (sE rfl (sQ (qA ar_23 rfl rfl rfl) rfl (sQ (qC ty_3 rfl m0 rfl) rfl (sE rfl (sE rfl (nl J ?_))))))
       refine J13 _ _ (by repeat first | exact .refl | refine .cons rfl ?_) ⟨_, s0, ?s20, rfl⟩
       case s20 => exact congrArg Value.bool (or_f h11 rfl)
     ·skip
      rintro g12 M ⟨hg20, rfl⟩
      simp only [setG, hg20]
      clear hg20
      rcases bt (decide (536870912 ≤ a.z.1) || decide (a.z.1 ≤ (-536870912))) with h13 | h13
      ·skip
       refine W_t h13 rfl (Rs fun K J => sE rfl (nl J (W_ret (aM_ (ah_ (ah_ (aM_ (ah_ (ret1 rfl (.inr rfl) rfl ?_)))))))))
       exact (by exact congrArg (fun r : Bool => (.bool r : Value)) (show _ = (au_ a b) from bif_f h5 (bif_f h9 (bif_t h13 rfl))))
      ·skip
       refine W_f h13 rfl (am_ (J12 _ _ (Rk fun K J => sE rfl (sV (.int .i64 3) rfl rfl (sE rfl (nl J (J10 _ _ (Un_s (fun K14 J14 => Sq fun K15 J15 => Rs fun K J => sE rfl (sV (.bool false) rfl rfl (nl J (bu_ rfl (bq_ (ax_ (ax_ (aE_ (J1 _ _ (Rs fun K J => sQ (qL ty_23 rfl m0 rfl) rfl ?_))))))))))))))))))
       refine sQ (b4_ zp_23 ar_23 rfl (.nil _)) rfl ?_
       refine sQ (hz_ (r := (decide (a.x.1 = 0) && (decide (a.y.1 = 0) && decide (a.z.1 = 0)))) rfl rfl (d6_ 8 (by decide) eg_23 lw_23 (cj_ lv_ci (cj_ lv_ci (eK_ lv_ci))) (cj_ lv_ci (cj_ lv_ci (eK_ lv_ci))) (da_ rfl eq_ci (da_ rfl eq_ci (f4_ eq_ci))))) rfl (sE rfl (nl J ?_))
       refine bM_ [4, 24, 25, 26, 27, 28, 29, 30, 31, 32, 33] (fun g M => (g 4 = .bool (!(decide (a.x.1 = 0) && (decide (a.y.1 = 0) && decide (a.z.1 = 0))) && (decide (0 ≤ b.1) && decide (b.1 ≤ 4000)))) ∧ M = [⟨b1, 23, flat [ci .i64 a.x.1, ci .i64 a.y.1, ci .i64 a.z.1]⟩]) (fun K16 J16 => ?_) ?_
       ·skip
        refine Rk fun K J => sE rfl (sE rfl ?_)
        rcases bt (decide (a.x.1 = 0) && (decide (a.y.1 = 0) && decide (a.z.1 = 0))) with h16 | h16
        ·skip
         refine sB (not_f h16) rfl (WL_n rfl (WL_n rfl (sE rfl (sE rfl (WL_n rfl (WL_n rfl (sE rfl (sE rfl (nl J ?_)))))))))
         refine J16 _ _ (by repeat first | exact .refl | refine .cons rfl ?_) ⟨_, s0, ?s4, rfl⟩
         case s4 => exact congrArg Value.bool (hi_ h16)
        ·skip
         refine sB (not_t h16) rfl (sE rfl (sE rfl (sE rfl ?_)))
         rcases bt (decide (0 ≤ b.1)) with h17 | h17
         ·skip
          refine sB h17 rfl (sE rfl (sE rfl (sE rfl (sE rfl (nl J ?_)))))
          refine J16 _ _ (by repeat first | exact .refl | refine .cons rfl ?_) ⟨_, s0, ?s4, rfl⟩
          case s4 => exact congrArg Value.bool (fm_ h16 (and_t h17 rfl))
         ·skip
          refine sB h17 rfl (WL_n rfl (WL_n rfl (sE rfl (sE rfl (nl J ?_)))))
          refine J16 _ _ (by repeat first | exact .refl | refine .cons rfl ?_) ⟨_, s0, ?s4, rfl⟩
          case s4 => exact congrArg Value.bool (fm_ h16 (and_f h17))
       ·skip
        rintro g18 M ⟨hg4, rfl⟩
        simp only [setG, hg4]
        clear hg4
        refine W_ret (ret1 rfl (.inr rfl) rfl ?_)
        exact (by exact congrArg (fun r : Bool => (.bool r : Value)) (show _ = (au_ a b) from bif_f h5 (bif_f h9 (bif_f h13 rfl))))

theorem e6_ (va : Value) (a : (List (A3 Rt))) (vb : Value) (b : (List (A3 Rt))) (w : World) (ha : Slr w elVr va a) (hb : Slr w elVr vb b) :
    Calls Tryz.prog 13 [va, vb].toArray w (fun e w' => e = .returned (.bool (ca_ a b)) ∧ Ext w w') := by
 refine c4_ (N := 26) Tryz.func13 rfl rfl (by simp) ?_
 obtain ⟨w0, rfl⟩ : ∃ w0, w0 = w := ⟨_, rfl⟩
 have Ha := ha.old
 have hm_a := ha.max
 have Hb := hb.old
 have hm_b := hb.max
 simp only [initF, Nat.reduceAdd]
 refine Rs fun K J => sE rfl (nl J (Sq fun K1 J1 => Rs fun K J => sE rfl (sQ (q_as (v' := .int .i64 (((a).length : Nat) : Int)) (eH_ (e := elVr) sl_24 rfl (SLe.sub Ha sn)) rfl) rfl (sE rfl (sQ (q_as (v' := .int .i64 (((b).length : Nat) : Int)) (eH_ (e := elVr) sl_24 rfl (SLe.sub Hb sn)) rfl) rfl (sE rfl (nl J ?_)))))))
 rcases bt ((((a).length : Nat) : Int) != (((b).length : Nat) : Int)) with h1 | h1
 ·skip
  have ph2 := neI_t h1
  refine W_t h1 rfl (Rs fun K J => sE rfl (nl J (W_ret (ah_ (ret1 rfl (.inr rfl) rfl ?_)))))
  exact (by exact congrArg (fun r : Bool => (.bool r : Value)) (show _ = (ca_ a b) from bif_t h1 rfl))
 ·skip
  have ph3 := neI_f h1
  refine W_f h1 rfl (am_ (J1 _ _ (Sq fun K2 J2 => Rs fun K J => sE rfl (nl J ?_))))
  refine gY_ (fun S M h => J2 S M h) [4, 5, 11, 12, 13, 14, 15, 16, 17, 18, 19, 20, 21, 22, 23, 24, 25] (fun g M => ∃ (i : Nat), (bS_ a b ((a.length + 1)) 0) = .inl i ∧ (g 5 = .int .i64 ((i : Nat) : Int)) ∧ M = []) (fun K_u4 hK_u4 => ?_) ?_
  ·skip
   refine as_ ?_
   refine bs_ [4, 5, 11, 12, 13, 14, 15, 16, 17, 18, 19, 20, 21, 22, 23, 24, 25] (fun g nn M => ∃ (i : Nat), (bS_ a b nn i) = (bS_ a b ((a.length + 1)) 0) ∧ a.length - i < nn ∧ (i ≤ a.length) ∧ (g 5 = .int .i64 ((i : Nat) : Int)) ∧ M = []) ((a.length + 1)) ?start ?round
   case start => exact ⟨_, s0, 0, rfl, (by omega), (by omega), rfl, rfl⟩
   case round =>
    rintro nn g M ⟨i, hT0, hq0, hinv0, hg5, rfl⟩
    obtain ⟨k0, rfl⟩ : ∃ m, nn = m + 1 := ⟨nn - 1, by omega⟩
    simp only [setG, hg5]
    clear hg5
    refine Sq fun K7 J7 => Rs fun K J => sE rfl (sE rfl (sQ (q_as (v' := .int .i64 (((a).length : Nat) : Int)) (eH_ (e := elVr) sl_24 rfl (SLe.sub Ha sn)) rfl) rfl (sE rfl (nl J ?_))))
    rcases bt (decide (((i : Nat) : Int) < (((a).length : Nat) : Int))) with h9 | h9
    ·skip
     have ph9 := of_decide_eq_true h9
     refine W_t h9 rfl (am_ (J7 _ _ (Sq fun K8 J8 => as_ (ds sn [0,4,8,12,16,20,24,28,32] [] mix (by kernel_rfl) (fun K J => pE rfl (pE rfl (pQ rfl (q_as (v' := .pointer (some (slb va (i * 108 + 0)))) (ce_ (e := elVr) (l := a) (k := i) sl_24 rfl rfl (SLe.sub Ha sn) (by omega)) rfl) (pQ rfl (q_ldG (e := elVr) (l := a) (k := i) (o := 0) ty_41 rfl (SLe.sub Ha sn) (bF_ V0 (by omega)) rfl) (pE rfl (pE rfl (pQ rfl (q_as (v' := .pointer (some (slb vb (i * 108 + 0)))) (ce_ (e := elVr) (l := b) (k := i) sl_24 rfl rfl (SLe.sub Hb sn) (by omega)) rfl) (pQ rfl (q_ldG (e := elVr) (l := b) (k := i) (o := 0) ty_41 rfl (SLe.sub Hb sn) (bF_ V0 (by omega)) rfl) ?_))))))))))))
     refine pQ rfl (hg_ (r := (decide ((((a.getD i V0).x).n) = (((b.getD i V0).x).n)) && (decide ((((a.getD i V0).x).d) = (((b.getD i V0).x).d)) && (decide ((((a.getD i V0).y).n) = (((b.getD i V0).y).n)) && (decide ((((a.getD i V0).y).d) = (((b.getD i V0).y).d)) && (decide ((((a.getD i V0).z).n) = (((b.getD i V0).z).n)) && decide ((((a.getD i V0).z).d) = (((b.getD i V0).z).d)))))))) rfl rfl (d6_ 8 (by decide) eg_41 lw_41 (cj_ lv_pI (cj_ lv_pI (cj_ lv_pI (cj_ lv_pI (cj_ lv_pI (eK_ lv_pI)))))) (cj_ lv_pI (cj_ lv_pI (cj_ lv_pI (cj_ lv_pI (cj_ lv_pI (eK_ lv_pI)))))) (da_ rfl eq_pI (da_ rfl eq_pI (da_ rfl eq_pI (da_ rfl eq_pI (da_ rfl eq_pI (f4_ eq_pI)))))))) (fl J ?_)
     rcases bt (decide ((((a.getD i V0).x).n) = (((b.getD i V0).x).n)) && (decide ((((a.getD i V0).x).d) = (((b.getD i V0).x).d)) && (decide ((((a.getD i V0).y).n) = (((b.getD i V0).y).n)) && (decide ((((a.getD i V0).y).d) = (((b.getD i V0).y).d)) && (decide ((((a.getD i V0).z).n) = (((b.getD i V0).z).n)) && decide ((((a.getD i V0).z).d) = (((b.getD i V0).z).d))))))) with h10 | h10
     ·skip
      refine W_f (not_f h10) rfl (am_ (J8 _ _ (Rk fun K J => sE rfl (sV (.int .i64 ((i + 1 : Nat) : Int)) rfl (congrArg (Value.int .i64) (wx (by omega) (by omega) (by omega))) (sE rfl (nl J (⟨(by repeat first | exact .refl | refine .cons rfl ?_), _, _, s0, (Nat.lt_succ_self _), i + 1, (by exact (hT0.symm.trans (Eq.symm (bif_t h9 (bif_t h10 rfl)))).symm), (Nat.lt_of_lt_of_le (by omega) (Nat.le_of_lt_succ hq0)), (by omega), rfl, rfl⟩)))))))
     ·skip
      refine W_t (not_t h10) rfl (Rs fun K J => sE rfl (nl J (W_ret (aM_ (ah_ (ah_ (aM_ (ah_ (ah_ (ret1 rfl (.inr rfl) rfl ?_))))))))))
      exact (by exact congrArg (fun r : Bool => (.bool r : Value)) (show _ = (ca_ a b) from bif_f h1 ((sm_q rfl (hT0.symm.trans (Eq.symm (bif_t h9 (bif_f h10 rfl))))))))
    ·skip
     have ph9 := of_decide_eq_false h9
     refine W_f h9 rfl (bq_ (ax_ (ax_ (aE_ (hK_u4 _ _ (by repeat first | exact .refl | refine .cons rfl ?_) ⟨_, s0, i, (by exact hT0.symm.trans (Eq.symm (bif_f h9 rfl))), rfl, rfl⟩)))))
  ·skip
   rintro g M ⟨i, hCu4, hg5, rfl⟩
   simp only [setG, hg5]
   clear hg5
   refine Rs fun K J => sE rfl (nl J (W_ret (ret1 rfl (.inr rfl) rfl ?_)))
   exact (by exact congrArg (fun r : Bool => (.bool r : Value)) (show _ = (ca_ a b) from bif_f h1 (trs (Eq.symm (smS hCu4)) rfl)))
end Go.Proofs.YtapbefpeopaecaaGreatDoor

set_option linter.unusedVariables false
set_option linter.unusedSimpArgs false
namespace Go.Num
open Go Go.Kn
def U16 := {x : Int // 0 ≤ x ∧ x ≤ 65535}
def u160 : U16 := ⟨0, by decide⟩
def elU16 : El U16 := ⟨1, fun x => [ci .u16 x.1], fun _ => rfl⟩
theorem nrem (n m : Nat) : Value.int .i64 (((n : Nat) : Int).tmod ((m : Nat) : Int)) = .int .i64 ((n % m : Nat) : Int) := rfl
theorem qc_ (b k n c : Nat) : Value.pointer (some ⟨b, 0 + ((k : Nat) : Int).toNat * 1, none⟩) = .pointer (some (slb (.slice (some ⟨b, 0, none⟩) n c) (k * 1))) := by
  show _ = Value.pointer (some (Addr.add ⟨b, 0, none⟩ (k * 1)))
  rw [dX_]; rfl
end Go.Num

set_option linter.unusedVariables false
set_option linter.unusedSimpArgs false
namespace Go.Num
open Go Go.Kn
def a0_ (a : (A3 W)) (b : W) (c : (A4 U16)) (r28 : (A3 Rt)) : Nat → Nat → (A3 Rt) → (Nat × (A3 Rt)) ⊕ (Bool)
  | 0, i, mb29 => .inl (i, mb29)
  | k0 + 1, i, mb29 => bif decide (((i : Nat) : Int) < ((((an_ a b).1).length : Nat) : Int)) then (bif (!(bn_ a b (((an_ a b).1).getD i V0)) || (!(a4_ a b (((an_ a b).1).getD i V0)))) then (.inr (false)) else (let r44 : Rt := (af_ (W.cv (([c.x, c.y, c.z, c.t].getD (i % 4) u160).1)))
  let r45 : (A3 Rt) := (aG_ r44 (((an_ a b).1).getD i V0))
  let r46 : (A3 Rt) := (aQ_ mb29 r45)
  (a0_ a b c r28 k0 (i + 1) r46))) else (.inl (i, mb29))
def bE_ (a : (A3 W)) (b : W) (c : (A4 U16)) : Bool :=
  bif ((((au_ a b) && (decide (a.x.1 ≤ 1024) && decide ((-1024) ≤ a.x.1))) && (decide (a.y.1 ≤ 1024) && decide ((-1024) ≤ a.y.1))) && (decide (a.z.1 ≤ 1024) && decide ((-1024) ≤ a.z.1))) then (bif ((((an_ a b).2).1 != 0) || (((((an_ a b).1).length : Nat) : Int) == 0)) then (false) else (let r28 : (A3 Rt) := (aj_ (⟨(wl 0), (wl 0), (wl 0)⟩ : (A3 W)))
  sm (fun (s : Nat × (A3 Rt)) => let i : Nat := s.1
  let mb29 : (A3 Rt) := s.2
  let r55 : (A3 Rt) := (aj_ a)
  let r57 : (A3 Rt) := (aj_ (⟨(wl 0), (wl 0), (wl 0)⟩ : (A3 W)))
  let r58 : (A3 Rt) := (aP_ r57 r55)
  (cn_ && (((bn_ a b r55) && ((a4_ a b r55) && (!(bn_ a b r58) && (!(a4_ a b r58))))) && ((bn_ a b mb29) && (a4_ a b mb29))))) (fun r => r) (a0_ a b c r28 ((((an_ a b).1).length + 1)) 0 r28))) else (cn_)
end Go.Num

