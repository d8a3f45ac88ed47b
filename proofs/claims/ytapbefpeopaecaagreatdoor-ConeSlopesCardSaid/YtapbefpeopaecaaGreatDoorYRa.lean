/- Walks: what these functions return. -/
import Derived.Test.YtapbefpeopaecaaGreatDoorYGE
import Derived.Test.YtapbefpeopaecaaGreatDoorYFn
import Derived.Test.YtapbefpeopaecaaGreatDoorYGa
import Derived.Test.YtapbefpeopaecaaGreatDoorYGd
import Derived.Test.YtapbefpeopaecaaGreatDoorYSb
import Derived.Test.YtapbefpeopaecaaGreatDoorYSg
import Derived.Test.YtapbefpeopaecaaGreatDoorYSh
namespace Go.Proofs.YtapbefpeopaecaaGreatDoor
open Go.Kn Go.Num
set_option linter.unusedVariables false
set_option linter.unusedSimpArgs false
set_option maxRecDepth 20000
set_option maxHeartbeats 8000000
theorem fB_ (a : (A3 W)) :
    Ret Tryz.prog 127 [AV [ci .i64 a.x.1, ci .i64 a.y.1, ci .i64 a.z.1]] (.bool (bX_ a)) := by
 refine av_ (N := 18) Tryz.func127 rfl rfl (by simp) (fun w0 => ?_)
 simp only [initF, Nat.reduceAdd]
 refine Rs fun K J => WL_r rfl (a1_ rfl rfl (fun b1 hb1 => sE rfl (nl J (Sq fun K1 J1 => Rs fun K J => sE rfl (nl J (ar_ (W_un 5 (Un_s (fun K2 J2 => Sq fun K3 J3 => Rs fun K J => sE rfl (sV (.bool true) rfl rfl (nl J (bF_ rfl (ak_ (J3 _ _ (Sq fun K4 J4 => ?_)))))))))))))))
 refine ar_ ?_
 refine bQ_ [8, 9, 10, 11, 12, 13, 14, 15, 16, 17] (fun g M => (g 17 = .bool (decide (2305843009213693952 ≤ a.x.1) || decide (a.x.1 ≤ (-2305843009213693952)))) ∧ M = [⟨b1, 23, flat [ci .i64 a.x.1, ci .i64 a.y.1, ci .i64 a.z.1]⟩]) (fun K5 J5 => ?_) ?_
 ·skip
  refine Rk fun K J => sE rfl (sQ (qA ar_23 rfl rfl rfl) rfl (sQ (qC ty_3 rfl m0 rfl) rfl (sE rfl ?_)))
  rcases bt (decide (2305843009213693952 ≤ a.x.1)) with h3 | h3
  ·skip
   refine sB h3 rfl (WL_n rfl (WL_n rfl (WL_n rfl (WL_n rfl (sE rfl (nl J ?_))))))
   refine J5 _ _ (by repeat first | exact .refl | refine .cons rfl ?_) ⟨_, s0, ?s17, rfl⟩
   case s17 => exact congrArg Value.bool (or_t h3)
  ·skip
   refine sB h3 rfl (sE rfl (sQ (qA ar_23 rfl rfl rfl) rfl (sQ (qC ty_3 rfl m0 rfl) rfl (sE rfl (sE rfl (nl J ?_))))))
   refine J5 _ _ (by repeat first | exact .refl | refine .cons rfl ?_) ⟨_, s0, ?s17, rfl⟩
   case s17 => exact congrArg Value.bool (or_f h3 rfl)
 ·skip
  rintro g4 M ⟨hg17, rfl⟩
  simp only [setG, hg17]
  clear hg17
  rcases bt (decide (2305843009213693952 ≤ a.x.1) || decide (a.x.1 ≤ (-2305843009213693952))) with h5 | h5
  ·skip
   refine W_t h5 rfl (Rs fun K J => sE rfl (nl J (W_ret (aB_ (ai_ (ai_ (aB_ (ai_ (ret1 rfl (.inr rfl) rfl ?_)))))))))
   exact (by exact congrArg (fun r : Bool => (.bool r : Value)) (show _ = (bX_ a) from bif_t h5 rfl))
  ·skip
   refine W_f h5 rfl (ak_ (J4 _ _ (Rk fun K J => sE rfl (sV (.int .i64 1) rfl rfl (sE rfl (nl J (J2 _ _ (Un_s (fun K6 J6 => Sq fun K7 J7 => Rs fun K J => sE rfl (sV (.bool true) rfl rfl (nl J (bF_ rfl (ak_ (J7 _ _ (Sq fun K8 J8 => ar_ ?_)))))))))))))))
   refine bQ_ [8, 9, 10, 11, 12, 13, 14, 15, 16, 17] (fun g M => (g 17 = .bool (decide (2305843009213693952 ≤ a.y.1) || decide (a.y.1 ≤ (-2305843009213693952)))) ∧ M = [⟨b1, 23, flat [ci .i64 a.x.1, ci .i64 a.y.1, ci .i64 a.z.1]⟩]) (fun K9 J9 => ?_) ?_
   ·skip
    refine Rk fun K J => sE rfl (sQ (qA ar_23 rfl rfl rfl) rfl (sQ (qC ty_3 rfl m0 rfl) rfl (sE rfl ?_)))
    rcases bt (decide (2305843009213693952 ≤ a.y.1)) with h7 | h7
    ·skip
     refine sB h7 rfl (WL_n rfl (WL_n rfl (WL_n rfl (WL_n rfl (sE rfl (nl J ?_))))))
     refine J9 _ _ (by repeat first | exact .refl | refine .cons rfl ?_) ⟨_, s0, ?s17, rfl⟩
     case s17 => exact congrArg Value.bool (or_t h7)
    ·skip
     refine sB h7 rfl (sE rfl (sQ (qA ar_23 rfl rfl rfl) rfl (sQ (qC ty_3 rfl m0 rfl) rfl (sE rfl (sE rfl (nl J ?_))))))
     refine J9 _ _ (by repeat first | exact .refl | refine .cons rfl ?_) ⟨_, s0, ?s17, rfl⟩
     case s17 => exact congrArg Value.bool (or_f h7 rfl)
   ·skip
    rintro g8 M ⟨hg17, rfl⟩
    simp only [setG, hg17]
    clear hg17
    rcases bt (decide (2305843009213693952 ≤ a.y.1) || decide (a.y.1 ≤ (-2305843009213693952))) with h9 | h9
    ·skip
     refine W_t h9 rfl (Rs fun K J => sE rfl (nl J (W_ret (aB_ (ai_ (ai_ (aB_ (ai_ (ret1 rfl (.inr rfl) rfl ?_)))))))))
     exact (by exact congrArg (fun r : Bool => (.bool r : Value)) (show _ = (bX_ a) from bif_f h5 (bif_t h9 rfl)))
    ·skip
     refine W_f h9 rfl (ak_ (J8 _ _ (Rk fun K J => sE rfl (sV (.int .i64 2) rfl rfl (sE rfl (nl J (J6 _ _ (Un_s (fun K10 J10 => Sq fun K11 J11 => Rs fun K J => sE rfl (sV (.bool true) rfl rfl (nl J (bF_ rfl (ak_ (J11 _ _ (Sq fun K12 J12 => ar_ ?_)))))))))))))))
     refine bQ_ [8, 9, 10, 11, 12, 13, 14, 15, 16, 17] (fun g M => (g 17 = .bool (decide (2305843009213693952 ≤ a.z.1) || decide (a.z.1 ≤ (-2305843009213693952)))) ∧ M = [⟨b1, 23, flat [ci .i64 a.x.1, ci .i64 a.y.1, ci .i64 a.z.1]⟩]) (fun K13 J13 => ?_) ?_
     ·skip
      refine Rk fun K J => sE rfl (sQ (qA ar_23 rfl rfl rfl) rfl (sQ (qC ty_3 rfl m0 rfl) rfl (sE rfl ?_)))
      rcases bt (decide (2305843009213693952 ≤ a.z.1)) with h11 | h11
      ·skip
       refine sB h11 rfl (WL_n rfl (WL_n rfl (WL_n rfl (WL_n rfl (sE rfl (nl J ?_))))))
       refine J13 _ _ (by repeat first | exact .refl | refine .cons rfl ?_) ⟨_, s0, ?s17, rfl⟩
       case s17 => exact congrArg Value.bool (or_t h11)
      ·skip
       refine sB h11 rfl (sE rfl (sQ (qA ar_23 rfl rfl rfl) rfl (sQ (qC ty_3 rfl m0 rfl) rfl (sE rfl (sE rfl (nl J ?_))))))
       refine J13 _ _ (by repeat first | exact .refl | refine .cons rfl ?_) ⟨_, s0, ?s17, rfl⟩
       case s17 => exact congrArg Value.bool (or_f h11 rfl)
     ·skip
      rintro g12 M ⟨hg17, rfl⟩
      simp only [setG, hg17]
      clear hg17
      rcases bt (decide (2305843009213693952 ≤ a.z.1) || decide (a.z.1 ≤ (-2305843009213693952))) with h13 | h13
      ·skip
       refine W_t h13 rfl (Rs fun K J => sE rfl (nl J (W_ret (aB_ (ai_ (ai_ (aB_ (ai_ (ret1 rfl (.inr rfl) rfl ?_)))))))))
       exact (by exact congrArg (fun r : Bool => (.bool r : Value)) (show _ = (bX_ a) from bif_f h5 (bif_f h9 (bif_t h13 rfl))))
      ·skip
       refine W_f h13 rfl (ak_ (J12 _ _ (Rk fun K J => sE rfl (sV (.int .i64 3) rfl rfl (sE rfl (nl J (J10 _ _ (Un_s (fun K14 J14 => Sq fun K15 J15 => Rs fun K J => sE rfl (sV (.bool false) rfl rfl (nl J (by_ rfl (bB_ (ax_ (ax_ (aF_ (J1 _ _ (Rs fun K J => sE rfl ?_))))))))))))))))))
       refine nl J (W_ret (ret1 rfl (.inr rfl) rfl ?_))
       exact (by exact congrArg (fun r : Bool => (.bool r : Value)) (show _ = (bX_ a) from bif_f h5 (bif_f h9 (bif_f h13 rfl))))

theorem do_ (a : (A3 W)) :
    Ret Tryz.prog 82 [AV [ci .i64 a.x.1, ci .i64 a.y.1, ci .i64 a.z.1]] (AV [pI ((aP_ a).x), pI ((aP_ a).y), pI ((aP_ a).z)]) := by
 refine av_ (N := 13) Tryz.func82 rfl rfl (by simp) (fun w0 => ?_)
 simp only [initF, Nat.reduceAdd]
 refine Rs fun K J => WL_r rfl (a1_ rfl rfl (fun b1 hb1 => sN zp_94 rfl fun b2 hb2 => nl J (ds (sd (sk (s0))) [0,4,8,12,16,20,24,28,32,36,41] [10] mix (by kernel_rfl) (fun K J => pQ rfl (qA ar_23 rfl rfl rfl) (pQ rfl (qC ty_3 rfl m1 rfl) (pC (AV [pI (E (Z.of a.x.1))]) en_74 (a9_ a.x.1 a.x.2) rfl rfl rfl (pQ rfl (qA ar_23 rfl rfl rfl) (pQ rfl (qC ty_3 rfl m1 rfl) (pC (AV [pI (E (Z.of a.y.1))]) en_74 (a9_ a.y.1 a.y.2) rfl rfl rfl (pQ rfl (qA ar_23 rfl rfl rfl) (pQ rfl (qC ty_3 rfl m1 rfl) (pC (AV [pI (E (Z.of a.z.1))]) en_74 (a9_ a.z.1 a.z.2) rfl rfl rfl (pQ rfl (bH_ zp_94 ar_94 rfl (.cons [pI (E (Z.of a.x.1))] [pI (E (Z.of a.x.1)), pI I0, pI I0] rfl rfl rfl rfl (.cons [pI (E (Z.of a.y.1))] [pI (E (Z.of a.x.1)), pI (E (Z.of a.y.1)), pI I0] rfl rfl rfl rfl (.cons [pI (E (Z.of a.z.1))] [pI (E (Z.of a.x.1)), pI (E (Z.of a.y.1)), pI (E (Z.of a.z.1))] rfl rfl rfl rfl (.nil _))))) (oS [pI (E (Z.of a.x.1)), pI (E (Z.of a.y.1)), pI (E (Z.of a.z.1))] ty_94 rfl rfl rfl rfl rfl rfl (.head _) rfl hb2 rfl (sd s0) (fl J (W_ret (ret1 rfl (.inr rfl) (resP rfl m0 ty_94 rfl) ?_)))))))))))))))))
 exact (by rfl)

theorem dH_ (a : I) (b : I) (c : I) (d : I) :
    Ret Tryz.prog 128 [AV [pI a], AV [pI b], AV [pI c], AV [pI d]] (AV [pI (a0_ a b c d)]) := by
 refine av_ (N := 16) Tryz.func128 rfl rfl (by simp) (fun w0 => ?_)
 simp only [initF, Nat.reduceAdd]
 refine Rs fun K J => WL_r rfl (a1_ rfl rfl (fun b1 hb1 => WL_r rfl (a1_ rfl rfl (fun b2 hb2 => WL_r rfl (a1_ rfl rfl (fun b3 hb3 => WL_r rfl (a1_ rfl rfl (fun b4 hb4 => sN zp_37 rfl fun b5 hb5 => nl J (ds (sd (sk (sk (sk (sk (s0)))))) [0,4,8,12,16,20,24,29] [7] mix (by kernel_rfl) (fun K J => pQ rfl (qL ty_37 rfl m4 rfl) (pQ rfl (qL ty_37 rfl m3 rfl) (pC (AV [pI (E (Z.mul a.dec b.dec))]) en_80 (bO_ a.1 b.1 a.2 b.2) rfl rfl rfl (pQ rfl (qL ty_37 rfl m2 rfl) (pQ rfl (qL ty_37 rfl m1 rfl) (pC (AV [pI (E (Z.mul c.dec d.dec))]) en_80 (bO_ c.1 d.1 c.2 d.2) rfl rfl rfl (pC (AV [pI (E (Z.sub (Z.mul a.dec b.dec) (Z.mul c.dec d.dec)))]) rX_ (gf_ (E (Z.mul a.dec b.dec)).1 (E (Z.mul c.dec d.dec)).1 (E (Z.mul a.dec b.dec)).2 (E (Z.mul c.dec d.dec)).2) rfl rfl (cg2 (fun p q => AV [pI (E (Z.sub p q))]) (E_dec _) (E_dec _)) (oS [pI (E (Z.sub (Z.mul a.dec b.dec) (Z.mul c.dec d.dec)))] ty_37 rfl rfl rfl rfl rfl rfl (.head _) rfl hb5 rfl (sd s0) (fl J (W_ret (ret1 rfl (.inr rfl) (resP rfl m0 ty_37 rfl) ?_))))))))))))))))))))
 exact (by rfl)

theorem fK_ (a : (A3 I)) (b : (A3 I)) :
    Ret Tryz.prog 81 [AV [pI a.x, pI a.y, pI a.z], AV [pI b.x, pI b.y, pI b.z]] (AV [pI (b9_ a b)]) := by
 refine av_ (N := 25) Tryz.func81 rfl rfl (by simp) (fun w0 => ?_)
 simp only [initF, Nat.reduceAdd]
 refine Rs fun K J => WL_r rfl (a1_ rfl rfl (fun b1 hb1 => WL_r rfl (a1_ rfl rfl (fun b2 hb2 => sN zp_37 rfl fun b3 hb3 => nl J (Rs fun K J => sQ (qA ar_94 rfl rfl rfl) rfl (sQ (qL ty_37 rfl m2 rfl) rfl (sQ (qA ar_94 rfl rfl rfl) rfl (sQ (qL ty_37 rfl m1 rfl) rfl (sC (AV [pI (E (Z.mul a.x.dec b.x.dec))]) en_80 (bO_ a.x.1 b.x.1 a.x.2 b.x.2) rfl rfl rfl (sN zp_37 rfl fun b4 hb4 => sS [pI (E (Z.mul a.x.dec b.x.dec))] ty_37 rfl rfl rfl rfl rfl (.head _) rfl hb4 (nl J (ds (sd (sk (sk (sk (s0))))) [0,4,8,12,16,20,24,29] [7] mix (by kernel_rfl) (fun K J => pQ rfl (qL ty_37 rfl m0 rfl) (pQ rfl (qA ar_94 rfl rfl rfl) (pQ rfl (qL ty_37 rfl m3 rfl) (pQ rfl (qA ar_94 rfl rfl rfl) (pQ rfl (qL ty_37 rfl m2 rfl) ?_)))))))))))))))))
 refine pC (AV [pI (E (Z.mul a.y.dec b.y.dec))]) en_80 (bO_ a.y.1 b.y.1 a.y.2 b.y.2) rfl rfl rfl (pC (AV [pI (E (Z.add (Z.mul a.x.dec b.x.dec) (Z.mul a.y.dec b.y.dec)))]) en_79 (dv_ (E (Z.mul a.x.dec b.x.dec)).1 (E (Z.mul a.y.dec b.y.dec)).1 (E (Z.mul a.x.dec b.x.dec)).2 (E (Z.mul a.y.dec b.y.dec)).2) rfl rfl (cg2 (fun p q => AV [pI (E (Z.add p q))]) (E_dec _) (E_dec _)) (oS [pI (E (Z.add (Z.mul a.x.dec b.x.dec) (Z.mul a.y.dec b.y.dec)))] ty_37 rfl rfl rfl rfl rfl rfl (.head _) rfl hb4 rfl (sd s0) (fl J (ds (sk (sd (sk (sk (s0))))) [0,4,8,12,16,20,24,29] [7] mix (by kernel_rfl) (fun K J => pQ rfl (qL ty_37 rfl m0 rfl) (pQ rfl (qA ar_94 rfl rfl rfl) (pQ rfl (qL ty_37 rfl m3 rfl) (pQ rfl (qA ar_94 rfl rfl rfl) (pQ rfl (qL ty_37 rfl m2 rfl) (pC (AV [pI (E (Z.mul a.z.dec b.z.dec))]) en_80 (bO_ a.z.1 b.z.1 a.z.2 b.z.2) rfl rfl rfl ?_))))))))))
 obtain ⟨r5, hr5⟩ := nm ((E (Z.add (Z.add (Z.mul a.x.dec b.x.dec) (Z.mul a.y.dec b.y.dec)) (Z.mul a.z.dec b.z.dec))) : I)
 refine pC (AV [pI r5]) en_79 (dv_ (E (Z.add (Z.mul a.x.dec b.x.dec) (Z.mul a.y.dec b.y.dec))).1 (E (Z.mul a.z.dec b.z.dec)).1 (E (Z.add (Z.mul a.x.dec b.x.dec) (Z.mul a.y.dec b.y.dec))).2 (E (Z.mul a.z.dec b.z.dec)).2) rfl rfl ((cg2 (fun p q => AV [pI (E (Z.add p q))]) (E_dec _) (E_dec _)).trans (by rw [hr5])) (oS [pI r5] ty_37 rfl rfl rfl rfl rfl rfl (.tail _ (.head _)) rfl hb3 rfl (sk (sd s0)) (fl J (W_ret (ret1 rfl (.inr rfl) (resP rfl m1 ty_37 rfl) ?_))))
 exact (by subst hr5; rfl)

theorem fo_ (a : (A3 I)) (b : (A3 I)) :
    Ret Tryz.prog 85 [AV [pI a.x, pI a.y, pI a.z], AV [pI b.x, pI b.y, pI b.z]] (AV [pI ((bA_ a b).x), pI ((bA_ a b).y), pI ((bA_ a b).z)]) := by
 refine av_ (N := 33) Tryz.func85 rfl rfl (by simp) (fun w0 => ?_)
 simp only [initF, Nat.reduceAdd]
 refine Rs fun K J => WL_r rfl (a1_ rfl rfl (fun b1 hb1 => WL_r rfl (a1_ rfl rfl (fun b2 hb2 => sN zp_94 rfl fun b3 hb3 => nl J (ds (sd (sk (sk (s0)))) [0,4,8,12,16,20,24,28,32,36,40,44,48,52,56,60,64,68,72,76,80,84,88,92,96,100,104,108,113] [28] mix (by kernel_rfl) (fun K J => pQ rfl (qA ar_94 rfl rfl rfl) (pQ rfl (qL ty_37 rfl m2 rfl) (pQ rfl (qA ar_94 rfl rfl rfl) (pQ rfl (qL ty_37 rfl m1 rfl) (pQ rfl (qA ar_94 rfl rfl rfl) (pQ rfl (qL ty_37 rfl m2 rfl) (pQ rfl (qA ar_94 rfl rfl rfl) (pQ rfl (qL ty_37 rfl m1 rfl) (pQ rfl (q_ret nN_ (dH_ a.y b.z a.z b.y) rfl) (pQ rfl (qA ar_94 rfl rfl rfl) (pQ rfl (qL ty_37 rfl m2 rfl) (pQ rfl (qA ar_94 rfl rfl rfl) (pQ rfl (qL ty_37 rfl m1 rfl) (pQ rfl (qA ar_94 rfl rfl rfl) ?_)))))))))))))))))))
 refine pQ rfl (qL ty_37 rfl m2 rfl) (pQ rfl (qA ar_94 rfl rfl rfl) (pQ rfl (qL ty_37 rfl m1 rfl) (pQ rfl (q_ret nN_ (dH_ a.z b.x a.x b.z) rfl) (pQ rfl (qA ar_94 rfl rfl rfl) (pQ rfl (qL ty_37 rfl m2 rfl) (pQ rfl (qA ar_94 rfl rfl rfl) (pQ rfl (qL ty_37 rfl m1 rfl) (pQ rfl (qA ar_94 rfl rfl rfl) (pQ rfl (qL ty_37 rfl m2 rfl) (pQ rfl (qA ar_94 rfl rfl rfl) (pQ rfl (qL ty_37 rfl m1 rfl) (pQ rfl (q_ret nN_ (dH_ a.x b.y a.y b.x) rfl) (pQ rfl (bH_ zp_94 ar_94 rfl (.cons [pI (a0_ a.y b.z a.z b.y)] [pI (a0_ a.y b.z a.z b.y), pI I0, pI I0] rfl rfl rfl rfl (.cons [pI (a0_ a.z b.x a.x b.z)] [pI (a0_ a.y b.z a.z b.y), pI (a0_ a.z b.x a.x b.z), pI I0] rfl rfl rfl rfl (.cons [pI (a0_ a.x b.y a.y b.x)] [pI (a0_ a.y b.z a.z b.y), pI (a0_ a.z b.x a.x b.z), pI (a0_ a.x b.y a.y b.x)] rfl rfl rfl rfl (.nil _))))) (oS [pI (a0_ a.y b.z a.z b.y), pI (a0_ a.z b.x a.x b.z), pI (a0_ a.x b.y a.y b.x)] ty_94 rfl rfl rfl rfl rfl rfl (.head _) rfl hb3 rfl (sd s0) (fl J (W_ret (ret1 rfl (.inr rfl) (resP rfl m0 ty_94 rfl) ?_)))))))))))))))))
 exact (by rfl)

theorem cR_ (a : (A3 W)) (b : (A3 W)) :
    Ret Tryz.prog 31 [AV [ci .i64 a.x.1, ci .i64 a.y.1, ci .i64 a.z.1], AV [ci .i64 b.x.1, ci .i64 b.y.1, ci .i64 b.z.1]] (AV [pI (an_ a b)]) := by
 refine av_ (N := 10) Tryz.func31 rfl rfl (by simp) (fun w0 => ?_)
 simp only [initF, Nat.reduceAdd]
 refine Rs fun K J => WL_r rfl (a1_ rfl rfl (fun b1 hb1 => WL_r rfl (a1_ rfl rfl (fun b2 hb2 => sN zp_37 rfl fun b3 hb3 => nl J (ds (sd (sk (sk (s0)))) [0,4,8,12,16,21] [5] mix (by kernel_rfl) (fun K J => pQ rfl (qL ty_23 rfl m2 rfl) ?_))))))
 obtain ⟨r4, hr4⟩ := nm ((aP_ a) : (A3 I))
 refine pC (AV [pI r4.x, pI r4.y, pI r4.z]) en_82 (do_ a) rfl rfl (by rw [hr4]; first | done | rfl) (pQ rfl (qL ty_23 rfl m1 rfl) ?_)
 obtain ⟨r5, hr5⟩ := nm ((aP_ b) : (A3 I))
 refine pC (AV [pI r5.x, pI r5.y, pI r5.z]) en_82 (do_ b) rfl rfl (by rw [hr5]; first | done | rfl) (pQ rfl (q_ret en_81 (fK_ r4 r5) rfl) (oS [pI (b9_ r4 r5)] ty_37 rfl rfl rfl rfl rfl rfl (.head _) rfl hb3 rfl (sd s0) (fl J (W_ret (ret1 rfl (.inr rfl) (resP rfl m0 ty_37 rfl) ?_)))))
 exact (by subst hr5; subst hr4; rfl)

theorem d4_ (a : (A3 I)) :
    Ret Tryz.prog 83 [AV [pI a.x, pI a.y, pI a.z]] (AV [ci .i64 ((((aV_ a).v).x).1), ci .i64 ((((aV_ a).v).y).1), ci .i64 ((((aV_ a).v).z).1), ci .i64 (((aV_ a).e).1)]) := by
 refine av_ (N := 55) Tryz.func83 rfl rfl (by simp) (fun w0 => ?_)
 simp only [initF, Nat.reduceAdd]
 refine Rs fun K J => WL_r rfl (a1_ rfl rfl (fun b1 hb1 => sN zp_97 rfl fun b2 hb2 => nl J (Rs fun K J => sC (AV [pI (E (Z.of 0))]) en_74 (a9_ (wl 0).1 (wl 0).2) rfl rfl rfl ?_)))
 refine sN zp_37 rfl fun b3 hb3 => sS [pI (E (Z.of 0))] ty_37 rfl rfl rfl rfl rfl (.head _) rfl hb3 (nl J (Sq fun K1 J1 => Rs fun K J => sE rfl (nl J (ar_ (W_un 5 (Un_s (fun K2 J2 => Sq fun K3 J3 => Rs fun K J => sE rfl (sV (.bool true) rfl rfl (nl J (bF_ rfl (ak_ (J3 _ _ (Sq fun K4 J4 => ar_ ?_)))))))))))))
 refine dr (sd (sk (sk (s0)))) [0,4,8,12,16,21] [5] mix (by kernel_rfl) (fun K J => pQ rfl (qL ty_37 rfl m0 rfl) (pE rfl (pQ rfl (qA ar_94 rfl rfl rfl) (pQ rfl (qL ty_37 rfl m2 rfl) (pC (AV [pI (E (Z.gcd (Z.of 0) a.x.dec))]) en_77 (cN_ (E (Z.of 0)).1 a.x.1 (E (Z.of 0)).2 a.x.2) rfl rfl (cg2 (fun p q => AV [pI (E (Z.gcd p q))]) (E_dec _) rfl) (oS [pI (E (Z.gcd (Z.of 0) a.x.dec))] ty_37 rfl rfl rfl rfl rfl rfl (.head _) rfl hb3 rfl (sd s0) (fl J (J4 _ _ (Rk fun K J => sE rfl (sV (.int .i64 1) rfl rfl (sE rfl (nl J (J2 _ _ (Un_s (fun K5 J5 => Sq fun K6 J6 => Rs fun K J => sE rfl (sV (.bool true) rfl rfl ?_))))))))))))))))
 refine nl J (bF_ rfl (ak_ (J6 _ _ (Sq fun K7 J7 => ar_ (dr (sd (sk (sk (s0)))) [0,4,8,12,16,21] [5] mix (by kernel_rfl) (fun K J => pQ rfl (qL ty_37 rfl m0 rfl) (pE rfl (pQ rfl (qA ar_94 rfl rfl rfl) (pQ rfl (qL ty_37 rfl m2 rfl) (pC (AV [pI (E (Z.gcd (Z.gcd (Z.of 0) a.x.dec) a.y.dec))]) en_77 (cN_ (E (Z.gcd (Z.of 0) a.x.dec)).1 a.y.1 (E (Z.gcd (Z.of 0) a.x.dec)).2 a.y.2) rfl rfl (cg2 (fun p q => AV [pI (E (Z.gcd p q))]) (E_dec _) rfl) (oS [pI (E (Z.gcd (Z.gcd (Z.of 0) a.x.dec) a.y.dec))] ty_37 rfl rfl rfl rfl rfl rfl (.head _) rfl hb3 rfl (sd s0) (fl J (J7 _ _ (Rk fun K J => sE rfl (sV (.int .i64 2) rfl rfl (sE rfl (nl J ?_)))))))))))))))))
 refine J5 _ _ (Un_s (fun K8 J8 => Sq fun K9 J9 => Rs fun K J => sE rfl (sV (.bool true) rfl rfl (nl J (bF_ rfl (ak_ (J9 _ _ (Sq fun K10 J10 => ar_ (dr (sd (sk (sk (s0)))) [0,4,8,12,16,21] [5] mix (by kernel_rfl) (fun K J => pQ rfl (qL ty_37 rfl m0 rfl) (pE rfl (pQ rfl (qA ar_94 rfl rfl rfl) (pQ rfl (qL ty_37 rfl m2 rfl) (pC (AV [pI (E (Z.gcd (Z.gcd (Z.gcd (Z.of 0) a.x.dec) a.y.dec) a.z.dec))]) en_77 (cN_ (E (Z.gcd (Z.gcd (Z.of 0) a.x.dec) a.y.dec)).1 a.z.1 (E (Z.gcd (Z.gcd (Z.of 0) a.x.dec) a.y.dec)).2 a.z.2) rfl rfl (cg2 (fun p q => AV [pI (E (Z.gcd p q))]) (E_dec _) rfl) (oS [pI (E (Z.gcd (Z.gcd (Z.gcd (Z.of 0) a.x.dec) a.y.dec) a.z.dec))] ty_37 rfl rfl rfl rfl rfl rfl (.head _) rfl hb3 rfl (sd s0) (fl J ?_))))))))))))))))
 refine J10 _ _ (Rk fun K J => sE rfl (sV (.int .i64 3) rfl rfl (sE rfl (nl J (J8 _ _ (Un_s (fun K11 J11 => Sq fun K12 J12 => Rs fun K J => sE rfl (sV (.bool false) rfl rfl (nl J (by_ rfl (bB_ (ax_ (ax_ (aF_ (J1 _ _ (Sq fun K13 J13 => Rs fun K J => sQ (qF ea_ rfl rfl) rfl (sQ (qC ty_4 rfl m0 rfl) rfl ?_)))))))))))))))))
 refine nl J ?_
 rcases bt ((E (Z.gcd (Z.gcd (Z.gcd (Z.of 0) a.x.dec) a.y.dec) a.z.dec)).1.bad) with h4 | h4
 ·skip
  refine W_t h4 rfl (Rs fun K J => sQ (cy_ zp_97 pl_97 rfl (.cons [ci .i64 30] [ci .i64 0, ci .i64 0, ci .i64 0, ci .i64 30] rfl rfl rfl rfl (.nil _))) rfl (sS [ci .i64 0, ci .i64 0, ci .i64 0, ci .i64 30] ty_97 rfl rfl rfl rfl rfl (.tail _ (.head _)) rfl hb2 (nl J (W_ret (ai_ (ret1 rfl (.inr rfl) (resP rfl m1 ty_97 rfl) ?_))))))
  exact (by exact congrArg (fun r : Dir => (AV [ci .i64 r.v.x.1, ci .i64 r.v.y.1, ci .i64 r.v.z.1, ci .i64 r.e.1] : Value)) (show _ = (aV_ a) from bif_t h4 rfl))
 ·skip
  refine W_f h4 rfl (ak_ (J13 _ _ (Sq fun K14 J14 => Rs fun K J => sQ (qL ty_37 rfl m0 rfl) rfl (sC (.int .i64 ((Z.signW (Z.gcd (Z.gcd (Z.gcd (Z.of 0) a.x.dec) a.y.dec) a.z.dec)).1)) en_40 (ba_ (E (Z.gcd (Z.gcd (Z.gcd (Z.of 0) a.x.dec) a.y.dec) a.z.dec)).1 (E (Z.gcd (Z.gcd (Z.gcd (Z.of 0) a.x.dec) a.y.dec) a.z.dec)).2) rfl rfl (cg1 (fun p => Value.int .i64 (Z.signW p).1) (E_dec _)) (sE rfl (nl J ?_))))))
  rcases bt ((Z.signW (Z.gcd (Z.gcd (Z.gcd (Z.of 0) a.x.dec) a.y.dec) a.z.dec)).1 == 0) with h5 | h5
  ·skip
   refine W_t h5 rfl (Rs fun K J => sQ (cy_ zp_97 pl_97 rfl (.cons [ci .i64 31] [ci .i64 0, ci .i64 0, ci .i64 0, ci .i64 31] rfl rfl rfl rfl (.nil _))) rfl (sS [ci .i64 0, ci .i64 0, ci .i64 0, ci .i64 31] ty_97 rfl rfl rfl rfl rfl (.tail _ (.head _)) rfl hb2 (nl J (W_ret (ai_ (ret1 rfl (.inr rfl) (resP rfl m1 ty_97 rfl) ?_))))))
   exact (by exact congrArg (fun r : Dir => (AV [ci .i64 r.v.x.1, ci .i64 r.v.y.1, ci .i64 r.v.z.1, ci .i64 r.e.1] : Value)) (show _ = (aV_ a) from bif_f h4 (bif_t h5 rfl)))
  ·skip
   refine W_f h5 rfl (ak_ (J14 _ _ (Rs fun K J => sQ (cy_ zp_97 pl_97 rfl (.nil _)) rfl (sN zp_97 rfl fun b6 hb6 => sS [ci .i64 0, ci .i64 0, ci .i64 0, ci .i64 0] ty_97 rfl rfl rfl rfl rfl (.head _) rfl hb6 (nl J (Sq fun K15 J15 => Rs fun K J => sE rfl (nl J (ar_ (W_un 5 (Un_s (fun K16 J16 => Sq fun K17 J17 => Rs fun K J => sE rfl (sV (.bool true) rfl rfl (nl J ?_)))))))))))))
   refine bF_ rfl (ak_ (J17 _ _ (Sq fun K18 J18 => ar_ (ds (sk (sk (sk (sk (s0))))) [0,4,8,12,16,20,24,28,32,36,40] [] mix (by kernel_rfl) (fun K J => pE rfl (pQ rfl (qA ar_94 rfl rfl rfl) (pQ rfl (qL ty_37 rfl m3 rfl) (pQ rfl (qL ty_37 rfl m1 rfl) ?_))))))))
   obtain ⟨r7, hr7⟩ := nm ((E (Z.quo a.x.dec (Z.gcd (Z.gcd (Z.gcd (Z.of 0) a.x.dec) a.y.dec) a.z.dec))) : I)
   refine pC (AV [pI r7]) en_78 (bC_ a.x.1 (E (Z.gcd (Z.gcd (Z.gcd (Z.of 0) a.x.dec) a.y.dec) a.z.dec)).1 a.x.2 (E (Z.gcd (Z.gcd (Z.gcd (Z.of 0) a.x.dec) a.y.dec) a.z.dec)).2) rfl rfl ((cg2 (fun p q => AV [pI (E (Z.quo p q))]) rfl (E_dec _)).trans (by rw [hr7])) (pC (.tuple #[.int .i64 ((Z.smallW r7.dec).1), .bool r7.dec.small.2]) m0_ (dJ_ r7.1 r7.2) rfl rfl rfl (pE rfl (pE rfl (pE rfl (pE rfl (pE rfl (fl J (Sq fun K19 J19 => Rs fun K J => sE rfl (sE rfl (nl J ?_))))))))))
   rcases bt r7.dec.small.2 with h8 | h8
   ·skip
    refine W_f (not_f h8) rfl (ak_ (J19 _ _ (Rk fun K J => sE rfl (sE rfl (sQ (qF gU_ rfl rfl) rfl (sQ (qA ar_23 rfl rfl rfl) rfl (sS [ci .i64 ((Z.smallW r7.dec).1)] ty_3 rfl rfl rfl rfl rfl (.head _) rfl hb6 (nl J (J18 _ _ (Rk fun K J => sE rfl (sV (.int .i64 1) rfl rfl (sE rfl (nl J (J16 _ _ (Un_s (fun K20 J20 => Sq fun K21 J21 => Rs fun K J => ?_))))))))))))))))
    refine sE rfl (sV (.bool true) rfl rfl (nl J (bF_ rfl (ak_ (J21 _ _ (Sq fun K22 J22 => ar_ (ds (sk (sk (sk (sk (s0))))) [0,4,8,12,16,20,24,28,32,36,40] [] mix (by kernel_rfl) (fun K J => pE rfl (pQ rfl (qA ar_94 rfl rfl rfl) (pQ rfl (qL ty_37 rfl m3 rfl) (pQ rfl (qL ty_37 rfl m1 rfl) ?_)))))))))))
    obtain ⟨r9, hr9⟩ := nm ((E (Z.quo a.y.dec (Z.gcd (Z.gcd (Z.gcd (Z.of 0) a.x.dec) a.y.dec) a.z.dec))) : I)
    refine pC (AV [pI r9]) en_78 (bC_ a.y.1 (E (Z.gcd (Z.gcd (Z.gcd (Z.of 0) a.x.dec) a.y.dec) a.z.dec)).1 a.y.2 (E (Z.gcd (Z.gcd (Z.gcd (Z.of 0) a.x.dec) a.y.dec) a.z.dec)).2) rfl rfl ((cg2 (fun p q => AV [pI (E (Z.quo p q))]) rfl (E_dec _)).trans (by rw [hr9])) (pC (.tuple #[.int .i64 ((Z.smallW r9.dec).1), .bool r9.dec.small.2]) m0_ (dJ_ r9.1 r9.2) rfl rfl rfl (pE rfl (pE rfl (pE rfl (pE rfl (pE rfl (fl J (Sq fun K23 J23 => Rs fun K J => sE rfl (sE rfl (nl J ?_))))))))))
    rcases bt r9.dec.small.2 with h10 | h10
    ·skip
     refine W_f (not_f h10) rfl (ak_ (J23 _ _ (Rk fun K J => sE rfl (sE rfl (sQ (qF gU_ rfl rfl) rfl (sQ (qA ar_23 rfl rfl rfl) rfl (sS [ci .i64 ((Z.smallW r9.dec).1)] ty_3 rfl rfl rfl rfl rfl (.head _) rfl hb6 (nl J (J22 _ _ (Rk fun K J => sE rfl (sV (.int .i64 2) rfl rfl (sE rfl (nl J (J20 _ _ (Un_s (fun K24 J24 => Sq fun K25 J25 => Rs fun K J => ?_))))))))))))))))
     refine sE rfl (sV (.bool true) rfl rfl (nl J (bF_ rfl (ak_ (J25 _ _ (Sq fun K26 J26 => ar_ (ds (sk (sk (sk (sk (s0))))) [0,4,8,12,16,20,24,28,32,36,40] [] mix (by kernel_rfl) (fun K J => pE rfl (pQ rfl (qA ar_94 rfl rfl rfl) (pQ rfl (qL ty_37 rfl m3 rfl) (pQ rfl (qL ty_37 rfl m1 rfl) ?_)))))))))))
     obtain ⟨r11, hr11⟩ := nm ((E (Z.quo a.z.dec (Z.gcd (Z.gcd (Z.gcd (Z.of 0) a.x.dec) a.y.dec) a.z.dec))) : I)
     refine pC (AV [pI r11]) en_78 (bC_ a.z.1 (E (Z.gcd (Z.gcd (Z.gcd (Z.of 0) a.x.dec) a.y.dec) a.z.dec)).1 a.z.2 (E (Z.gcd (Z.gcd (Z.gcd (Z.of 0) a.x.dec) a.y.dec) a.z.dec)).2) rfl rfl ((cg2 (fun p q => AV [pI (E (Z.quo p q))]) rfl (E_dec _)).trans (by rw [hr11])) (pC (.tuple #[.int .i64 ((Z.smallW r11.dec).1), .bool r11.dec.small.2]) m0_ (dJ_ r11.1 r11.2) rfl rfl rfl (pE rfl (pE rfl (pE rfl (pE rfl (pE rfl (fl J (Sq fun K27 J27 => Rs fun K J => sE rfl (sE rfl (nl J ?_))))))))))
     rcases bt r11.dec.small.2 with h12 | h12
     ·skip
      refine W_f (not_f h12) rfl (ak_ (J27 _ _ (Rk fun K J => sE rfl (sE rfl (sQ (qF gU_ rfl rfl) rfl (sQ (qA ar_23 rfl rfl rfl) rfl (sS [ci .i64 ((Z.smallW r11.dec).1)] ty_3 rfl rfl rfl rfl rfl (.head _) rfl hb6 (nl J (J26 _ _ (Rk fun K J => sE rfl (sV (.int .i64 3) rfl rfl (sE rfl (nl J (J24 _ _ (Un_s (fun K28 J28 => Sq fun K29 J29 => Rs fun K J => ?_))))))))))))))))
      refine sE rfl (sV (.bool false) rfl rfl (nl J (by_ rfl (bB_ (ax_ (ax_ (aF_ (J15 _ _ (Rs fun K J => sQ (qF gU_ rfl rfl) rfl (sQ (qL ty_23 rfl m0 rfl) rfl (sQ (q_ret q6_ (fB_ (⟨(Z.smallW r7.dec), (Z.smallW r9.dec), (Z.smallW r11.dec)⟩ : (A3 W))) rfl) rfl (sE rfl (nl J (Sq fun K30 J30 => Rs fun K J => sE rfl (sE rfl (nl J ?_))))))))))))))))
      rcases bt (bX_ (⟨(Z.smallW r7.dec), (Z.smallW r9.dec), (Z.smallW r11.dec)⟩ : (A3 W))) with h13 | h13
      ·skip
       refine W_f (not_f h13) rfl (ak_ (J30 _ _ (Rs fun K J => sQ (qL ty_97 rfl m0 rfl) rfl (sS [ci .i64 ((Z.smallW r7.dec).1), ci .i64 ((Z.smallW r9.dec).1), ci .i64 ((Z.smallW r11.dec).1), ci .i64 0] ty_97 rfl rfl rfl rfl rfl (.tail _ (.tail _ (.head _))) rfl hb2 (nl J (W_ret (ret1 rfl (.inr rfl) (resP rfl m2 ty_97 rfl) ?_)))))))
       exact (by subst hr11; subst hr9; subst hr7; exact congrArg (fun r : Dir => (AV [ci .i64 r.v.x.1, ci .i64 r.v.y.1, ci .i64 r.v.z.1, ci .i64 r.e.1] : Value)) (show _ = (aV_ a) from bif_f h4 (bif_f h5 (bif_t h8 (bif_t h10 (bif_t h12 (bif_t h13 rfl)))))))
      ·skip
       refine W_t (not_t h13) rfl (Rs fun K J => sQ (cy_ zp_97 pl_97 rfl (.cons [ci .i64 30] [ci .i64 0, ci .i64 0, ci .i64 0, ci .i64 30] rfl rfl rfl rfl (.nil _))) rfl (sS [ci .i64 0, ci .i64 0, ci .i64 0, ci .i64 30] ty_97 rfl rfl rfl rfl rfl (.tail _ (.tail _ (.head _))) rfl hb2 (nl J (W_ret (ai_ (ret1 rfl (.inr rfl) (resP rfl m2 ty_97 rfl) ?_))))))
       exact (by subst hr11; subst hr9; subst hr7; exact congrArg (fun r : Dir => (AV [ci .i64 r.v.x.1, ci .i64 r.v.y.1, ci .i64 r.v.z.1, ci .i64 r.e.1] : Value)) (show _ = (aV_ a) from bif_f h4 (bif_f h5 (bif_t h8 (bif_t h10 (bif_t h12 (bif_f h13 rfl)))))))
     ·skip
      refine W_t (not_t h12) rfl (Rs fun K J => sQ (cy_ zp_97 pl_97 rfl (.cons [ci .i64 30] [ci .i64 0, ci .i64 0, ci .i64 0, ci .i64 30] rfl rfl rfl rfl (.nil _))) rfl (sS [ci .i64 0, ci .i64 0, ci .i64 0, ci .i64 30] ty_97 rfl rfl rfl rfl rfl (.tail _ (.tail _ (.head _))) rfl hb2 (nl J (W_ret (ai_ (aB_ (ai_ (ai_ (aB_ (ai_ (ret1 rfl (.inr rfl) (resP rfl m2 ty_97 rfl) ?_)))))))))))
      exact (by subst hr11; subst hr9; subst hr7; exact congrArg (fun r : Dir => (AV [ci .i64 r.v.x.1, ci .i64 r.v.y.1, ci .i64 r.v.z.1, ci .i64 r.e.1] : Value)) (show _ = (aV_ a) from bif_f h4 (bif_f h5 (bif_t h8 (bif_t h10 (bif_f h12 rfl))))))
    ·skip
     refine W_t (not_t h10) rfl (Rs fun K J => sQ (cy_ zp_97 pl_97 rfl (.cons [ci .i64 30] [ci .i64 0, ci .i64 0, ci .i64 0, ci .i64 30] rfl rfl rfl rfl (.nil _))) rfl (sS [ci .i64 0, ci .i64 0, ci .i64 0, ci .i64 30] ty_97 rfl rfl rfl rfl rfl (.tail _ (.tail _ (.head _))) rfl hb2 (nl J (W_ret (ai_ (aB_ (ai_ (ai_ (aB_ (ai_ (ret1 rfl (.inr rfl) (resP rfl m2 ty_97 rfl) ?_)))))))))))
     exact (by subst hr9; subst hr7; exact congrArg (fun r : Dir => (AV [ci .i64 r.v.x.1, ci .i64 r.v.y.1, ci .i64 r.v.z.1, ci .i64 r.e.1] : Value)) (show _ = (aV_ a) from bif_f h4 (bif_f h5 (bif_t h8 (bif_f h10 rfl)))))
   ·skip
    refine W_t (not_t h8) rfl (Rs fun K J => sQ (cy_ zp_97 pl_97 rfl (.cons [ci .i64 30] [ci .i64 0, ci .i64 0, ci .i64 0, ci .i64 30] rfl rfl rfl rfl (.nil _))) rfl (sS [ci .i64 0, ci .i64 0, ci .i64 0, ci .i64 30] ty_97 rfl rfl rfl rfl rfl (.tail _ (.tail _ (.head _))) rfl hb2 (nl J (W_ret (ai_ (aB_ (ai_ (ai_ (aB_ (ai_ (ret1 rfl (.inr rfl) (resP rfl m2 ty_97 rfl) ?_)))))))))))
    exact (by subst hr7; exact congrArg (fun r : Dir => (AV [ci .i64 r.v.x.1, ci .i64 r.v.y.1, ci .i64 r.v.z.1, ci .i64 r.e.1] : Value)) (show _ = (aV_ a) from bif_f h4 (bif_f h5 (bif_f h8 rfl))))

theorem fh_ (a : (A3 W)) :
    Ret Tryz.prog 36 [AV [ci .i64 a.x.1, ci .i64 a.y.1, ci .i64 a.z.1]] (.tuple #[AV [ci .i64 ((((aJ_ a).1).x).1), ci .i64 ((((aJ_ a).1).y).1), ci .i64 ((((aJ_ a).1).z).1)], AV [ci .i64 ((((aJ_ a).2).x).1), ci .i64 ((((aJ_ a).2).y).1), ci .i64 ((((aJ_ a).2).z).1)]]) := by
 refine av_ (N := 47) Tryz.func36 rfl rfl (by simp) (fun w0 => ?_)
 simp only [initF, Nat.reduceAdd]
 refine Rs fun K J => WL_r rfl (a1_ rfl rfl (fun b1 hb1 => sN zp_23 rfl fun b2 hb2 => sN zp_23 rfl fun b3 hb3 => nl J (Sq fun K1 J1 => ?_)))
 refine bQ_ [7, 8, 9, 10, 11, 12, 13, 14] (fun g M => (g 14 = .bool ((a.x.1 == 0) && (a.y.1 == 0))) ∧ M = [⟨b3, 23, flat [ci .i64 0, ci .i64 0, ci .i64 0]⟩, ⟨b2, 23, flat [ci .i64 0, ci .i64 0, ci .i64 0]⟩, ⟨b1, 23, flat [ci .i64 a.x.1, ci .i64 a.y.1, ci .i64 a.z.1]⟩]) (fun K2 J2 => ?_) ?_
 ·skip
  refine Rk fun K J => sQ (qA ar_23 rfl rfl rfl) rfl (sQ (qC ty_3 rfl m2 rfl) rfl (sE rfl ?_))
  rcases bt (a.x.1 == 0) with h5 | h5
  ·skip
   refine sB h5 rfl (sQ (qA ar_23 rfl rfl rfl) rfl (sQ (qC ty_3 rfl m2 rfl) rfl (sE rfl (sE rfl (nl J ?_)))))
   refine J2 _ _ (by repeat first | exact .refl | refine .cons rfl ?_) ⟨_, s0, ?s14, rfl⟩
   case s14 => exact congrArg Value.bool (and_t h5 rfl)
  ·skip
   refine sB h5 rfl (WL_n rfl (WL_n rfl (WL_n rfl (sE rfl (nl J ?_)))))
   refine J2 _ _ (by repeat first | exact .refl | refine .cons rfl ?_) ⟨_, s0, ?s14, rfl⟩
   case s14 => exact congrArg Value.bool (and_f h5)
 ·skip
  rintro g6 M ⟨hg14, rfl⟩
  simp only [setG, hg14]
  clear hg14
  rcases bt ((a.x.1 == 0) && (a.y.1 == 0)) with h7 | h7
  ·skip
   refine W_t h7 rfl (Rs fun K J => sQ (bH_ zp_23 ar_23 rfl (.cons [ci .i64 1] [ci .i64 1, ci .i64 0, ci .i64 0] rfl rfl rfl rfl (.cons [ci .i64 0] [ci .i64 1, ci .i64 0, ci .i64 0] rfl rfl rfl rfl (.cons [ci .i64 0] [ci .i64 1, ci .i64 0, ci .i64 0] rfl rfl rfl rfl (.nil _))))) rfl (sQ (bH_ zp_23 ar_23 rfl (.cons [ci .i64 0] [ci .i64 0, ci .i64 0, ci .i64 0] rfl rfl rfl rfl (.cons [ci .i64 1] [ci .i64 0, ci .i64 1, ci .i64 0] rfl rfl rfl rfl (.cons [ci .i64 0] [ci .i64 0, ci .i64 1, ci .i64 0] rfl rfl rfl rfl (.nil _))))) rfl (sS [ci .i64 1, ci .i64 0, ci .i64 0] ty_23 rfl rfl rfl rfl rfl (.tail _ (.head _)) rfl hb2 (sS [ci .i64 0, ci .i64 1, ci .i64 0] ty_23 rfl rfl rfl rfl rfl (.head _) rfl hb3 (nl J (W_ret (ai_ (ret2 rfl (.inr rfl) (resP rfl m1 ty_23 rfl) (resP rfl m0 ty_23 rfl) ?_))))))))
   exact (by exact congrArg (fun r : (A3 W) × (A3 W) => (.tuple #[AV [ci .i64 r.1.x.1, ci .i64 r.1.y.1, ci .i64 r.1.z.1], AV [ci .i64 r.2.x.1, ci .i64 r.2.y.1, ci .i64 r.2.z.1]] : Value)) (show _ = (aJ_ a) from bif_t h7 rfl))
  ·skip
   refine W_f h7 rfl (ak_ (J1 _ _ (Rs fun K J => sQ (qL ty_23 rfl m2 rfl) rfl ?_)))
   obtain ⟨r8, hr8⟩ := nm ((aP_ a) : (A3 I))
   refine sC (AV [pI r8.x, pI r8.y, pI r8.z]) en_82 (do_ a) rfl rfl (by rw [hr8]; first | done | rfl) (sN zp_94 rfl fun b9 hb9 => sS [pI r8.x, pI r8.y, pI r8.z] ty_94 rfl rfl rfl rfl rfl (.head _) rfl hb9 (nl J (ds (sk (sk (sk (sk (s0))))) [0,4,8,12,16,20,24,28,33,37] [9] mix (by kernel_rfl) (fun K J => pQ rfl (qA ar_94 rfl rfl rfl) (pQ rfl (qL ty_37 rfl m0 rfl) (pC (AV [pI (E (Z.neg r8.y.dec))]) en_84 (dw_ r8.y.1 r8.y.2) rfl rfl rfl (pQ rfl (qA ar_94 rfl rfl rfl) (pQ rfl (qL ty_37 rfl m0 rfl) (pC (AV [pI (E (Z.of 0))]) en_74 (a9_ (wl 0).1 (wl 0).2) rfl rfl rfl ?_)))))))))
   refine pQ rfl (bH_ zp_94 ar_94 rfl (.cons [pI (E (Z.neg r8.y.dec))] [pI (E (Z.neg r8.y.dec)), pI I0, pI I0] rfl rfl rfl rfl (.cons [pI r8.x] [pI (E (Z.neg r8.y.dec)), pI r8.x, pI I0] rfl rfl rfl rfl (.cons [pI (E (Z.of 0))] [pI (E (Z.neg r8.y.dec)), pI r8.x, pI (E (Z.of 0))] rfl rfl rfl rfl (.nil _))))) ?_
   obtain ⟨r10, hr10⟩ := nm ((aV_ (⟨(E (Z.neg r8.y.dec)), r8.x, (E (Z.of 0))⟩ : (A3 I))) : Dir)
   refine pC (AV [ci .i64 r10.v.x.1, ci .i64 r10.v.y.1, ci .i64 r10.v.z.1, ci .i64 r10.e.1]) en_83 (d4_ (⟨(E (Z.neg r8.y.dec)), r8.x, (E (Z.of 0))⟩ : (A3 I))) rfl rfl (by rw [hr10]; first | done | rfl) (PL_o rfl rfl (bk_ zp_97 (fun b11 hb11 => ⟨(fun _ => sd s0), (sd s0), oS [ci .i64 r10.v.x.1, ci .i64 r10.v.y.1, ci .i64 r10.v.z.1, ci .i64 r10.e.1] ty_97 rfl rfl rfl rfl rfl rfl (.head _) rfl hb11 rfl (sd s0) (fl J (ds (sk (sk (sk (sk (sk (s0)))))) [0,4,8,12,16,20,25,29] [7] mix (by kernel_rfl) (fun K J => pQ rfl (qL ty_94 rfl m1 rfl) (pQ rfl (qF gU_ rfl rfl) (pQ rfl (qL ty_23 rfl m0 rfl) ?_)))))⟩)))
   obtain ⟨r12, hr12⟩ := nm ((aP_ r10.v) : (A3 I))
   refine pC (AV [pI r12.x, pI r12.y, pI r12.z]) en_82 (do_ r10.v) rfl rfl (by rw [hr12]; first | done | rfl) ?_
   obtain ⟨r13, hr13⟩ := nm ((bA_ r8 r12) : (A3 I))
   refine pC (AV [pI r13.x, pI r13.y, pI r13.z]) en_85 (fo_ r8 r12) rfl rfl (by rw [hr13]; first | done | rfl) ?_
   obtain ⟨r14, hr14⟩ := nm ((aV_ r13) : Dir)
   refine pC (AV [ci .i64 r14.v.x.1, ci .i64 r14.v.y.1, ci .i64 r14.v.z.1, ci .i64 r14.e.1]) en_83 (d4_ r13) rfl rfl (by rw [hr14]; first | done | rfl) (PL_o rfl rfl (bk_ zp_97 (fun b15 hb15 => ⟨(fun _ => sd s0), (sd s0), oS [ci .i64 r14.v.x.1, ci .i64 r14.v.y.1, ci .i64 r14.v.z.1, ci .i64 r14.e.1] ty_97 rfl rfl rfl rfl rfl rfl (.head _) rfl hb15 rfl (sd s0) (fl J (Sq fun K3 J3 => ?_))⟩)))
   refine bQ_ [33, 34, 35, 36, 37, 38, 39, 40] (fun g M => (g 40 = .bool ((r10.e.1 != 0) || (r14.e.1 != 0))) ∧ M = [⟨b15, 97, flat [ci .i64 r14.v.x.1, ci .i64 r14.v.y.1, ci .i64 r14.v.z.1, ci .i64 r14.e.1]⟩, ⟨b11, 97, flat [ci .i64 r10.v.x.1, ci .i64 r10.v.y.1, ci .i64 r10.v.z.1, ci .i64 r10.e.1]⟩, ⟨b9, 94, flat [pI r8.x, pI r8.y, pI r8.z]⟩, ⟨b3, 23, flat [ci .i64 0, ci .i64 0, ci .i64 0]⟩, ⟨b2, 23, flat [ci .i64 0, ci .i64 0, ci .i64 0]⟩, ⟨b1, 23, flat [ci .i64 a.x.1, ci .i64 a.y.1, ci .i64 a.z.1]⟩]) (fun K4 J4 => ?_) ?_
   ·skip
    refine Rk fun K J => sQ (qF mP_ rfl rfl) rfl (sQ (qC ty_25 rfl m1 rfl) rfl (sE rfl ?_))
    rcases bt (r10.e.1 != 0) with h17 | h17
    ·skip
     refine sB h17 rfl (WL_n rfl (WL_n rfl (WL_n rfl (sE rfl (nl J ?_)))))
     refine J4 _ _ (by repeat first | exact .refl | refine .cons rfl ?_) ⟨_, s0, ?s40, rfl⟩
     case s40 => exact congrArg Value.bool (or_t h17)
    ·skip
     refine sB h17 rfl (sQ (qF mP_ rfl rfl) rfl (sQ (qC ty_25 rfl m0 rfl) rfl (sE rfl (sE rfl (nl J ?_)))))
     refine J4 _ _ (by repeat first | exact .refl | refine .cons rfl ?_) ⟨_, s0, ?s40, rfl⟩
     case s40 => exact congrArg Value.bool (or_f h17 rfl)
   ·skip
    rintro g18 M ⟨hg40, rfl⟩
    simp only [setG, hg40]
    clear hg40
    rcases bt ((r10.e.1 != 0) || (r14.e.1 != 0)) with h19 | h19
    ·skip
     refine W_t h19 rfl (Rs fun K J => sQ (bH_ zp_23 ar_23 rfl (.nil _)) rfl (sQ (bH_ zp_23 ar_23 rfl (.nil _)) rfl (sS [ci .i64 0, ci .i64 0, ci .i64 0] ty_23 rfl rfl rfl rfl rfl (.tail _ (.tail _ (.tail _ (.tail _ (.head _))))) rfl hb2 (sS [ci .i64 0, ci .i64 0, ci .i64 0] ty_23 rfl rfl rfl rfl rfl (.tail _ (.tail _ (.tail _ (.head _)))) rfl hb3 (nl J (W_ret (ai_ (ret2 rfl (.inr rfl) (resP rfl m4 ty_23 rfl) (resP rfl m3 ty_23 rfl) ?_))))))))
     exact (by subst hr14; subst hr13; subst hr12; subst hr10; subst hr8; exact congrArg (fun r : (A3 W) × (A3 W) => (.tuple #[AV [ci .i64 r.1.x.1, ci .i64 r.1.y.1, ci .i64 r.1.z.1], AV [ci .i64 r.2.x.1, ci .i64 r.2.y.1, ci .i64 r.2.z.1]] : Value)) (show _ = (aJ_ a) from bif_f h7 (bif_t h19 rfl)))
    ·skip
     refine W_f h19 rfl (ak_ (J3 _ _ (ds (sk (sk (sk (sd (sd (sk (s0))))))) [0,4,10,14,17,21] [4,5] mix (by kernel_rfl) (fun K J => pQ rfl (qF gU_ rfl rfl) (pQ rfl (qL ty_23 rfl m1 rfl) (PL_s rfl rfl (q_ptr (off' := 0) (aW_ gU_ (by decide) rfl) rfl) (PL_s rfl rfl (ib_ ty_23 rfl m0 rfl) (oS [ci .i64 r10.v.x.1, ci .i64 r10.v.y.1, ci .i64 r10.v.z.1] ty_23 rfl rfl rfl rfl rfl rfl (.tail _ (.tail _ (.tail _ (.tail _ (.head _))))) rfl hb2 rfl (sk (sk (sk (sd (sd s0))))) (oS [ci .i64 r14.v.x.1, ci .i64 r14.v.y.1, ci .i64 r14.v.z.1] ty_23 rfl rfl rfl rfl rfl rfl (.tail _ (.tail _ (.tail _ (.head _)))) rfl hb3 rfl (sk (sk (sk (sd (sd s0))))) (fl J (W_ret (ret2 rfl (.inr rfl) (resP rfl m4 ty_23 rfl) (resP rfl m3 ty_23 rfl) ?_))))))))))))
     exact (by subst hr14; subst hr13; subst hr12; subst hr10; subst hr8; exact congrArg (fun r : (A3 W) × (A3 W) => (.tuple #[AV [ci .i64 r.1.x.1, ci .i64 r.1.y.1, ci .i64 r.1.z.1], AV [ci .i64 r.2.x.1, ci .i64 r.2.y.1, ci .i64 r.2.z.1]] : Value)) (show _ = (aJ_ a) from bif_f h7 (bif_f h19 rfl)))

theorem cF_ (a : (A3 Rt)) (b : (A3 Rt)) :
    Ret Tryz.prog 33 [AV [pI a.x.n, pI a.x.d, pI a.y.n, pI a.y.d, pI a.z.n, pI a.z.d], AV [pI b.x.n, pI b.x.d, pI b.y.n, pI b.y.d, pI b.z.n, pI b.z.d]] (AV [pI (((aD_ a b).x).n), pI (((aD_ a b).x).d), pI (((aD_ a b).y).n), pI (((aD_ a b).y).d), pI (((aD_ a b).z).n), pI (((aD_ a b).z).d)]) := by
 refine av_ (N := 21) Tryz.func33 rfl rfl (by simp) (fun w0 => ?_)
 simp only [initF, Nat.reduceAdd]
 refine Rs fun K J => WL_r rfl (a1_ rfl rfl (fun b1 hb1 => WL_r rfl (a1_ rfl rfl (fun b2 hb2 => sN zp_41 rfl fun b3 hb3 => nl J (ds (sd (sk (sk (s0)))) [0,4,8,12,16,20,24,28,32,36,40,44,48,52,56,60,65] [16] mix (by kernel_rfl) (fun K J => pQ rfl (qA ar_41 rfl rfl rfl) (pQ rfl (qL ty_39 rfl m2 rfl) (pQ rfl (qA ar_41 rfl rfl rfl) (pQ rfl (qL ty_39 rfl m1 rfl) (pQ rfl (q_ret en_27 (cP_ a.x b.x) rfl) (pQ rfl (qA ar_41 rfl rfl rfl) (pQ rfl (qL ty_39 rfl m2 rfl) (pQ rfl (qA ar_41 rfl rfl rfl) (pQ rfl (qL ty_39 rfl m1 rfl) (pQ rfl (q_ret en_27 (cP_ a.y b.y) rfl) (pQ rfl (qA ar_41 rfl rfl rfl) (pQ rfl (qL ty_39 rfl m2 rfl) (pQ rfl (qA ar_41 rfl rfl rfl) (pQ rfl (qL ty_39 rfl m1 rfl) ?_)))))))))))))))))))
 refine pQ rfl (q_ret en_27 (cP_ a.z b.z) rfl) (pQ rfl (bH_ zp_41 ar_41 rfl (.cons [pI ((aq_ a.x b.x).n), pI ((aq_ a.x b.x).d)] [pI ((aq_ a.x b.x).n), pI ((aq_ a.x b.x).d), pI I0, pI I0, pI I0, pI I0] rfl rfl rfl rfl (.cons [pI ((aq_ a.y b.y).n), pI ((aq_ a.y b.y).d)] [pI ((aq_ a.x b.x).n), pI ((aq_ a.x b.x).d), pI ((aq_ a.y b.y).n), pI ((aq_ a.y b.y).d), pI I0, pI I0] rfl rfl rfl rfl (.cons [pI ((aq_ a.z b.z).n), pI ((aq_ a.z b.z).d)] [pI ((aq_ a.x b.x).n), pI ((aq_ a.x b.x).d), pI ((aq_ a.y b.y).n), pI ((aq_ a.y b.y).d), pI ((aq_ a.z b.z).n), pI ((aq_ a.z b.z).d)] rfl rfl rfl rfl (.nil _))))) (oS [pI ((aq_ a.x b.x).n), pI ((aq_ a.x b.x).d), pI ((aq_ a.y b.y).n), pI ((aq_ a.y b.y).d), pI ((aq_ a.z b.z).n), pI ((aq_ a.z b.z).d)] ty_41 rfl rfl rfl rfl rfl rfl (.head _) rfl hb3 rfl (sd s0) (fl J (W_ret (ret1 rfl (.inr rfl) (resP rfl m0 ty_41 rfl) ?_)))))
 exact (by rfl)

theorem dL_ (a : (A3 Rt)) (b : (A3 Rt)) :
    Ret Tryz.prog 35 [AV [pI a.x.n, pI a.x.d, pI a.y.n, pI a.y.d, pI a.z.n, pI a.z.d], AV [pI b.x.n, pI b.x.d, pI b.y.n, pI b.y.d, pI b.z.n, pI b.z.d]] (AV [pI (((aU_ a b).x).n), pI (((aU_ a b).x).d), pI (((aU_ a b).y).n), pI (((aU_ a b).y).d), pI (((aU_ a b).z).n), pI (((aU_ a b).z).d)]) := by
 refine av_ (N := 21) Tryz.func35 rfl rfl (by simp) (fun w0 => ?_)
 simp only [initF, Nat.reduceAdd]
 refine Rs fun K J => WL_r rfl (a1_ rfl rfl (fun b1 hb1 => WL_r rfl (a1_ rfl rfl (fun b2 hb2 => sN zp_41 rfl fun b3 hb3 => nl J (ds (sd (sk (sk (s0)))) [0,4,8,12,16,20,24,28,32,36,40,44,48,52,56,60,65] [16] mix (by kernel_rfl) (fun K J => pQ rfl (qA ar_41 rfl rfl rfl) (pQ rfl (qL ty_39 rfl m2 rfl) (pQ rfl (qA ar_41 rfl rfl rfl) (pQ rfl (qL ty_39 rfl m1 rfl) (pQ rfl (q_ret en_55 (dz_ a.x b.x) rfl) (pQ rfl (qA ar_41 rfl rfl rfl) (pQ rfl (qL ty_39 rfl m2 rfl) (pQ rfl (qA ar_41 rfl rfl rfl) (pQ rfl (qL ty_39 rfl m1 rfl) (pQ rfl (q_ret en_55 (dz_ a.y b.y) rfl) (pQ rfl (qA ar_41 rfl rfl rfl) (pQ rfl (qL ty_39 rfl m2 rfl) (pQ rfl (qA ar_41 rfl rfl rfl) (pQ rfl (qL ty_39 rfl m1 rfl) ?_)))))))))))))))))))
 refine pQ rfl (q_ret en_55 (dz_ a.z b.z) rfl) (pQ rfl (bH_ zp_41 ar_41 rfl (.cons [pI ((aw_ a.x b.x).n), pI ((aw_ a.x b.x).d)] [pI ((aw_ a.x b.x).n), pI ((aw_ a.x b.x).d), pI I0, pI I0, pI I0, pI I0] rfl rfl rfl rfl (.cons [pI ((aw_ a.y b.y).n), pI ((aw_ a.y b.y).d)] [pI ((aw_ a.x b.x).n), pI ((aw_ a.x b.x).d), pI ((aw_ a.y b.y).n), pI ((aw_ a.y b.y).d), pI I0, pI I0] rfl rfl rfl rfl (.cons [pI ((aw_ a.z b.z).n), pI ((aw_ a.z b.z).d)] [pI ((aw_ a.x b.x).n), pI ((aw_ a.x b.x).d), pI ((aw_ a.y b.y).n), pI ((aw_ a.y b.y).d), pI ((aw_ a.z b.z).n), pI ((aw_ a.z b.z).d)] rfl rfl rfl rfl (.nil _))))) (oS [pI ((aw_ a.x b.x).n), pI ((aw_ a.x b.x).d), pI ((aw_ a.y b.y).n), pI ((aw_ a.y b.y).d), pI ((aw_ a.z b.z).n), pI ((aw_ a.z b.z).d)] ty_41 rfl rfl rfl rfl rfl rfl (.head _) rfl hb3 rfl (sd s0) (fl J (W_ret (ret1 rfl (.inr rfl) (resP rfl m0 ty_41 rfl) ?_)))))
 exact (by rfl)

theorem cw_ (a : Rt) (b : (A3 Rt)) :
    Ret Tryz.prog 34 [AV [pI a.n, pI a.d], AV [pI b.x.n, pI b.x.d, pI b.y.n, pI b.y.d, pI b.z.n, pI b.z.d]] (AV [pI (((ae_ a b).x).n), pI (((ae_ a b).x).d), pI (((ae_ a b).y).n), pI (((ae_ a b).y).d), pI (((ae_ a b).z).n), pI (((ae_ a b).z).d)]) := by
 refine av_ (N := 18) Tryz.func34 rfl rfl (by simp) (fun w0 => ?_)
 simp only [initF, Nat.reduceAdd]
 refine Rs fun K J => WL_r rfl (a1_ rfl rfl (fun b1 hb1 => WL_r rfl (a1_ rfl rfl (fun b2 hb2 => sN zp_41 rfl fun b3 hb3 => nl J (ds (sd (sk (sk (s0)))) [0,4,8,12,16,20,24,28,32,36,40,44,48,53] [13] mix (by kernel_rfl) (fun K J => pQ rfl (qL ty_39 rfl m2 rfl) (pQ rfl (qA ar_41 rfl rfl rfl) (pQ rfl (qL ty_39 rfl m1 rfl) (pQ rfl (q_ret en_38 (be_ a b.x) rfl) (pQ rfl (qL ty_39 rfl m2 rfl) (pQ rfl (qA ar_41 rfl rfl rfl) (pQ rfl (qL ty_39 rfl m1 rfl) (pQ rfl (q_ret en_38 (be_ a b.y) rfl) (pQ rfl (qL ty_39 rfl m2 rfl) (pQ rfl (qA ar_41 rfl rfl rfl) (pQ rfl (qL ty_39 rfl m1 rfl) (pQ rfl (q_ret en_38 (be_ a b.z) rfl) (pQ rfl (bH_ zp_41 ar_41 rfl (.cons [pI ((aj_ a b.x).n), pI ((aj_ a b.x).d)] [pI ((aj_ a b.x).n), pI ((aj_ a b.x).d), pI I0, pI I0, pI I0, pI I0] rfl rfl rfl rfl (.cons [pI ((aj_ a b.y).n), pI ((aj_ a b.y).d)] [pI ((aj_ a b.x).n), pI ((aj_ a b.x).d), pI ((aj_ a b.y).n), pI ((aj_ a b.y).d), pI I0, pI I0] rfl rfl rfl rfl (.cons [pI ((aj_ a b.z).n), pI ((aj_ a b.z).d)] [pI ((aj_ a b.x).n), pI ((aj_ a b.x).d), pI ((aj_ a b.y).n), pI ((aj_ a b.y).d), pI ((aj_ a b.z).n), pI ((aj_ a b.z).d)] rfl rfl rfl rfl (.nil _))))) (oS [pI ((aj_ a b.x).n), pI ((aj_ a b.x).d), pI ((aj_ a b.y).n), pI ((aj_ a b.y).d), pI ((aj_ a b.z).n), pI ((aj_ a b.z).d)] ty_41 rfl rfl rfl rfl rfl rfl (.head _) rfl hb3 rfl (sd s0) ?_)))))))))))))))))))
 refine fl J (W_ret (ret1 rfl (.inr rfl) (resP rfl m0 ty_41 rfl) ?_))
 exact (by rfl)

theorem cW_ (a : (A3 Rt)) (b : (A3 Rt)) :
    Ret Tryz.prog 39 [AV [pI a.x.n, pI a.x.d, pI a.y.n, pI a.y.d, pI a.z.n, pI a.z.d], AV [pI b.x.n, pI b.x.d, pI b.y.n, pI b.y.d, pI b.z.n, pI b.z.d]] (AV [pI ((aR_ a b).n), pI ((aR_ a b).d)]) := by
 refine av_ (N := 25) Tryz.func39 rfl rfl (by simp) (fun w0 => ?_)
 simp only [initF, Nat.reduceAdd]
 refine Rs fun K J => WL_r rfl (a1_ rfl rfl (fun b1 hb1 => WL_r rfl (a1_ rfl rfl (fun b2 hb2 => sN zp_39 rfl fun b3 hb3 => nl J (Rs fun K J => sQ (qA ar_41 rfl rfl rfl) rfl (sQ (qL ty_39 rfl m2 rfl) rfl (sQ (qA ar_41 rfl rfl rfl) rfl (sQ (qL ty_39 rfl m1 rfl) rfl (sQ (q_ret en_38 (be_ a.x b.x) rfl) rfl (sN zp_39 rfl fun b4 hb4 => sS [pI ((aj_ a.x b.x).n), pI ((aj_ a.x b.x).d)] ty_39 rfl rfl rfl rfl rfl (.head _) rfl hb4 (nl J (ds (sd (sk (sk (sk (s0))))) [0,4,8,12,16,20,24,29] [7] mix (by kernel_rfl) (fun K J => pQ rfl (qL ty_39 rfl m0 rfl) (pQ rfl (qA ar_41 rfl rfl rfl) (pQ rfl (qL ty_39 rfl m3 rfl) (pQ rfl (qA ar_41 rfl rfl rfl) (pQ rfl (qL ty_39 rfl m2 rfl) ?_)))))))))))))))))
 refine pQ rfl (q_ret en_38 (be_ a.y b.y) rfl) ?_
 obtain ⟨r5, hr5⟩ := nm ((aq_ (aj_ a.x b.x) (aj_ a.y b.y)) : Rt)
 refine pC (AV [pI r5.n, pI r5.d]) en_27 (cP_ (aj_ a.x b.x) (aj_ a.y b.y)) rfl rfl (by rw [hr5]; first | done | rfl) (oS [pI r5.n, pI r5.d] ty_39 rfl rfl rfl rfl rfl rfl (.head _) rfl hb4 rfl (sd s0) (fl J (ds (sk (sd (sk (sk (s0))))) [0,4,8,12,16,20,24,29] [7] mix (by kernel_rfl) (fun K J => pQ rfl (qL ty_39 rfl m0 rfl) (pQ rfl (qA ar_41 rfl rfl rfl) (pQ rfl (qL ty_39 rfl m3 rfl) (pQ rfl (qA ar_41 rfl rfl rfl) (pQ rfl (qL ty_39 rfl m2 rfl) (pQ rfl (q_ret en_38 (be_ a.z b.z) rfl) ?_)))))))))
 obtain ⟨r6, hr6⟩ := nm ((aq_ r5 (aj_ a.z b.z)) : Rt)
 refine pC (AV [pI r6.n, pI r6.d]) en_27 (cP_ r5 (aj_ a.z b.z)) rfl rfl (by rw [hr6]; first | done | rfl) (oS [pI r6.n, pI r6.d] ty_39 rfl rfl rfl rfl rfl rfl (.tail _ (.head _)) rfl hb3 rfl (sk (sd s0)) (fl J (W_ret (ret1 rfl (.inr rfl) (resP rfl m1 ty_39 rfl) ?_))))
 exact (by subst hr6; subst hr5; rfl)

theorem db_ (a : Rt) (b : Rt) (c : Rt) (d : Rt) :
    Ret Tryz.prog 118 [AV [pI a.n, pI a.d], AV [pI b.n, pI b.d], AV [pI c.n, pI c.d], AV [pI d.n, pI d.d]] (AV [pI ((bK_ a b c d).n), pI ((bK_ a b c d).d)]) := by
 refine av_ (N := 16) Tryz.func118 rfl rfl (by simp) (fun w0 => ?_)
 simp only [initF, Nat.reduceAdd]
 refine Rs fun K J => WL_r rfl (a1_ rfl rfl (fun b1 hb1 => WL_r rfl (a1_ rfl rfl (fun b2 hb2 => WL_r rfl (a1_ rfl rfl (fun b3 hb3 => WL_r rfl (a1_ rfl rfl (fun b4 hb4 => sN zp_39 rfl fun b5 hb5 => nl J (ds (sd (sk (sk (sk (sk (s0)))))) [0,4,8,12,16,20,24,29] [7] mix (by kernel_rfl) (fun K J => pQ rfl (qL ty_39 rfl m4 rfl) (pQ rfl (qL ty_39 rfl m3 rfl) (pQ rfl (q_ret en_38 (be_ a b) rfl) (pQ rfl (qL ty_39 rfl m2 rfl) (pQ rfl (qL ty_39 rfl m1 rfl) (pQ rfl (q_ret en_38 (be_ c d) rfl) ?_)))))))))))))))
 obtain ⟨r6, hr6⟩ := nm ((aw_ (aj_ a b) (aj_ c d)) : Rt)
 refine pC (AV [pI r6.n, pI r6.d]) en_55 (dz_ (aj_ a b) (aj_ c d)) rfl rfl (by rw [hr6]; first | done | rfl) (oS [pI r6.n, pI r6.d] ty_39 rfl rfl rfl rfl rfl rfl (.head _) rfl hb5 rfl (sd s0) (fl J (W_ret (ret1 rfl (.inr rfl) (resP rfl m0 ty_39 rfl) ?_))))
 exact (by subst hr6; rfl)

theorem fN_ (a : (A3 Rt)) (b : (A3 Rt)) :
    Ret Tryz.prog 71 [AV [pI a.x.n, pI a.x.d, pI a.y.n, pI a.y.d, pI a.z.n, pI a.z.d], AV [pI b.x.n, pI b.x.d, pI b.y.n, pI b.y.d, pI b.z.n, pI b.z.d]] (AV [pI (((bD_ a b).x).n), pI (((bD_ a b).x).d), pI (((bD_ a b).y).n), pI (((bD_ a b).y).d), pI (((bD_ a b).z).n), pI (((bD_ a b).z).d)]) := by
 refine av_ (N := 33) Tryz.func71 rfl rfl (by simp) (fun w0 => ?_)
 simp only [initF, Nat.reduceAdd]
 refine Rs fun K J => WL_r rfl (a1_ rfl rfl (fun b1 hb1 => WL_r rfl (a1_ rfl rfl (fun b2 hb2 => sN zp_41 rfl fun b3 hb3 => nl J (ds (sd (sk (sk (s0)))) [0,4,8,12,16,20,24,28,32,36,40,44,48,52,56,60,64,68,72,76,80,84,88,92,96,100,104,108,113] [28] mix (by kernel_rfl) (fun K J => pQ rfl (qA ar_41 rfl rfl rfl) (pQ rfl (qL ty_39 rfl m2 rfl) (pQ rfl (qA ar_41 rfl rfl rfl) (pQ rfl (qL ty_39 rfl m1 rfl) (pQ rfl (qA ar_41 rfl rfl rfl) (pQ rfl (qL ty_39 rfl m2 rfl) (pQ rfl (qA ar_41 rfl rfl rfl) (pQ rfl (qL ty_39 rfl m1 rfl) ?_)))))))))))))
 obtain ⟨r4, hr4⟩ := nm ((bK_ a.y b.z a.z b.y) : Rt)
 refine pC (AV [pI r4.n, pI r4.d]) m2_ (db_ a.y b.z a.z b.y) rfl rfl (by rw [hr4]; first | done | rfl) (pQ rfl (qA ar_41 rfl rfl rfl) (pQ rfl (qL ty_39 rfl m2 rfl) (pQ rfl (qA ar_41 rfl rfl rfl) (pQ rfl (qL ty_39 rfl m1 rfl) (pQ rfl (qA ar_41 rfl rfl rfl) (pQ rfl (qL ty_39 rfl m2 rfl) (pQ rfl (qA ar_41 rfl rfl rfl) (pQ rfl (qL ty_39 rfl m1 rfl) ?_))))))))
 obtain ⟨r5, hr5⟩ := nm ((bK_ a.z b.x a.x b.z) : Rt)
 refine pC (AV [pI r5.n, pI r5.d]) m2_ (db_ a.z b.x a.x b.z) rfl rfl (by rw [hr5]; first | done | rfl) (pQ rfl (qA ar_41 rfl rfl rfl) (pQ rfl (qL ty_39 rfl m2 rfl) (pQ rfl (qA ar_41 rfl rfl rfl) (pQ rfl (qL ty_39 rfl m1 rfl) (pQ rfl (qA ar_41 rfl rfl rfl) (pQ rfl (qL ty_39 rfl m2 rfl) (pQ rfl (qA ar_41 rfl rfl rfl) (pQ rfl (qL ty_39 rfl m1 rfl) ?_))))))))
 obtain ⟨r6, hr6⟩ := nm ((bK_ a.x b.y a.y b.x) : Rt)
 refine pC (AV [pI r6.n, pI r6.d]) m2_ (db_ a.x b.y a.y b.x) rfl rfl (by rw [hr6]; first | done | rfl) (pQ rfl (bH_ zp_41 ar_41 rfl (.cons [pI r4.n, pI r4.d] [pI r4.n, pI r4.d, pI I0, pI I0, pI I0, pI I0] rfl rfl rfl rfl (.cons [pI r5.n, pI r5.d] [pI r4.n, pI r4.d, pI r5.n, pI r5.d, pI I0, pI I0] rfl rfl rfl rfl (.cons [pI r6.n, pI r6.d] [pI r4.n, pI r4.d, pI r5.n, pI r5.d, pI r6.n, pI r6.d] rfl rfl rfl rfl (.nil _))))) (oS [pI r4.n, pI r4.d, pI r5.n, pI r5.d, pI r6.n, pI r6.d] ty_41 rfl rfl rfl rfl rfl rfl (.head _) rfl hb3 rfl (sd s0) (fl J (W_ret (ret1 rfl (.inr rfl) (resP rfl m0 ty_41 rfl) ?_)))))
 exact (by subst hr6; subst hr5; subst hr4; rfl)

theorem bS_ (a : (A3 W)) :
    Ret Tryz.prog 32 [AV [ci .i64 a.x.1, ci .i64 a.y.1, ci .i64 a.z.1]] (AV [pI (((ad_ a).x).n), pI (((ad_ a).x).d), pI (((ad_ a).y).n), pI (((ad_ a).y).d), pI (((ad_ a).z).n), pI (((ad_ a).z).d)]) := by
 refine av_ (N := 13) Tryz.func32 rfl rfl (by simp) (fun w0 => ?_)
 simp only [initF, Nat.reduceAdd]
 refine Rs fun K J => WL_r rfl (a1_ rfl rfl (fun b1 hb1 => sN zp_41 rfl fun b2 hb2 => nl J (ds (sd (sk (s0))) [0,4,8,12,16,20,24,28,32,36,41] [10] mix (by kernel_rfl) (fun K J => pQ rfl (qA ar_23 rfl rfl rfl) (pQ rfl (qC ty_3 rfl m1 rfl) (pQ rfl (q_ret en_25 (bx_ a.x) rfl) (pQ rfl (qA ar_23 rfl rfl rfl) (pQ rfl (qC ty_3 rfl m1 rfl) (pQ rfl (q_ret en_25 (bx_ a.y) rfl) (pQ rfl (qA ar_23 rfl rfl rfl) (pQ rfl (qC ty_3 rfl m1 rfl) (pQ rfl (q_ret en_25 (bx_ a.z) rfl) (pQ rfl (bH_ zp_41 ar_41 rfl (.cons [pI ((ac_ a.x).n), pI ((ac_ a.x).d)] [pI ((ac_ a.x).n), pI ((ac_ a.x).d), pI I0, pI I0, pI I0, pI I0] rfl rfl rfl rfl (.cons [pI ((ac_ a.y).n), pI ((ac_ a.y).d)] [pI ((ac_ a.x).n), pI ((ac_ a.x).d), pI ((ac_ a.y).n), pI ((ac_ a.y).d), pI I0, pI I0] rfl rfl rfl rfl (.cons [pI ((ac_ a.z).n), pI ((ac_ a.z).d)] [pI ((ac_ a.x).n), pI ((ac_ a.x).d), pI ((ac_ a.y).n), pI ((ac_ a.y).d), pI ((ac_ a.z).n), pI ((ac_ a.z).d)] rfl rfl rfl rfl (.nil _))))) (oS [pI ((ac_ a.x).n), pI ((ac_ a.x).d), pI ((ac_ a.y).n), pI ((ac_ a.y).d), pI ((ac_ a.z).n), pI ((ac_ a.z).d)] ty_41 rfl rfl rfl rfl rfl rfl (.head _) rfl hb2 rfl (sd s0) (fl J (W_ret (ret1 rfl (.inr rfl) (resP rfl m0 ty_41 rfl) ?_)))))))))))))))))
 exact (by rfl)

theorem fZ_ (a : (A3 W)) (b : (A3 Rt)) :
    Ret Tryz.prog 29 [AV [ci .i64 a.x.1, ci .i64 a.y.1, ci .i64 a.z.1], AV [pI b.x.n, pI b.x.d, pI b.y.n, pI b.y.d, pI b.z.n, pI b.z.d]] (AV [pI ((bb_ a b).n), pI ((bb_ a b).d)]) := by
 refine av_ (N := 9) Tryz.func29 rfl rfl (by simp) (fun w0 => ?_)
 simp only [initF, Nat.reduceAdd]
 refine Rs fun K J => WL_r rfl (a1_ rfl rfl (fun b1 hb1 => WL_r rfl (a1_ rfl rfl (fun b2 hb2 => sN zp_39 rfl fun b3 hb3 => nl J (ds (sd (sk (sk (s0)))) [0,4,8,12,17] [4] mix (by kernel_rfl) (fun K J => pQ rfl (qL ty_23 rfl m2 rfl) ?_))))))
 obtain ⟨r4, hr4⟩ := nm ((ad_ a) : (A3 Rt))
 refine pC (AV [pI r4.x.n, pI r4.x.d, pI r4.y.n, pI r4.y.d, pI r4.z.n, pI r4.z.d]) en_32 (bS_ a) rfl rfl (by rw [hr4]; first | done | rfl) (pQ rfl (qL ty_41 rfl m1 rfl) (pQ rfl (q_ret en_39 (cW_ r4 b) rfl) (oS [pI ((aR_ r4 b).n), pI ((aR_ r4 b).d)] ty_39 rfl rfl rfl rfl rfl rfl (.head _) rfl hb3 rfl (sd s0) (fl J (W_ret (ret1 rfl (.inr rfl) (resP rfl m0 ty_39 rfl) ?_))))))
 exact (by subst hr4; rfl)
end Go.Proofs.YtapbefpeopaecaaGreatDoor

