/- Walks: what these functions return. -/
import Derived.Test.YtapbefpeopaecaaGreatDoorYGE
import Derived.Test.YtapbefpeopaecaaGreatDoorYFn
import Derived.Test.YtapbefpeopaecaaGreatDoorYWc
import Derived.Test.YtapbefpeopaecaaGreatDoorYWe
import Derived.Test.YtapbefpeopaecaaGreatDoorYWh
import Derived.Test.YtapbefpeopaecaaGreatDoorYWi
namespace Go.Proofs.YtapbefpeopaecaaGreatDoor
open Go.Kn Go.Num
set_option linter.unusedVariables false
set_option linter.unusedSimpArgs false
set_option maxRecDepth 20000
set_option maxHeartbeats 8000000
theorem dW_ (a : (A3 W)) :
    Ret Tryz.prog 111 [AV [ci .i64 a.x.1, ci .i64 a.y.1, ci .i64 a.z.1]] (AV [pI ((az_ a).x), pI ((az_ a).y), pI ((az_ a).z)]) := by
 refine av_ (N := 16) Tryz.func111 rfl rfl (by simp) (fun w0 => ?_)
 simp only [initF, Nat.reduceAdd]
 refine Rs fun K J => WL_r rfl (a1_ rfl rfl (fun b1 hb1 => sN zp_94 rfl fun b2 hb2 => nl J (Sq fun K1 J1 => Rs fun K J => sQ (qL ty_23 rfl m1 rfl) rfl (sE rfl (nl J (ar_ (W_un 5 (Un_s (fun K2 J2 => Rs fun K J => sV (.bool true) rfl rfl (nl J (Sq fun K3 J3 => bF_ rfl (ak_ (J3 _ _ (Sq fun K4 J4 => ?_))))))))))))))
 refine ar_ (Rs fun K J => sE rfl (sQ (qJ el_23 rfl rfl rfl rfl) rfl (sE rfl (sE rfl (nl J (Rk fun K J => sE rfl (sE rfl (sC (AV [pI (E (Z.of a.x.1))]) en_61 (bJ_ a.x.1 a.x.2) rfl rfl rfl (sQ (qA ar_94 rfl rfl rfl) rfl (sS [pI (E (Z.of a.x.1))] ty_37 rfl rfl rfl rfl rfl (.head _) rfl hb2 (nl J (J4 _ _ (Rk fun K J => sV (.int .i64 1) rfl rfl (sE rfl (nl J (J2 _ _ ?_))))))))))))))))
 refine Un_s (fun K5 J5 => Rs fun K J => sV (.bool true) rfl rfl (nl J (Sq fun K6 J6 => bF_ rfl (ak_ (J6 _ _ (Sq fun K7 J7 => ar_ (Rs fun K J => sE rfl (sQ (qJ el_23 rfl rfl rfl rfl) rfl (sE rfl (sE rfl (nl J (Rk fun K J => sE rfl (sE rfl (sC (AV [pI (E (Z.of a.y.1))]) en_61 (bJ_ a.y.1 a.y.2) rfl rfl rfl ?_))))))))))))))
 refine sQ (qA ar_94 rfl rfl rfl) rfl (sS [pI (E (Z.of a.y.1))] ty_37 rfl rfl rfl rfl rfl (.head _) rfl hb2 (nl J (J7 _ _ (Rk fun K J => sV (.int .i64 2) rfl rfl (sE rfl (nl J (J5 _ _ (Un_s (fun K8 J8 => Rs fun K J => sV (.bool true) rfl rfl (nl J (Sq fun K9 J9 => bF_ rfl (ak_ (J9 _ _ (Sq fun K10 J10 => ar_ (Rs fun K J => ?_)))))))))))))))
 refine sE rfl (sQ (qJ el_23 rfl rfl rfl rfl) rfl (sE rfl (sE rfl (nl J (Rk fun K J => sE rfl (sE rfl (sC (AV [pI (E (Z.of a.z.1))]) en_61 (bJ_ a.z.1 a.z.2) rfl rfl rfl (sQ (qA ar_94 rfl rfl rfl) rfl (sS [pI (E (Z.of a.z.1))] ty_37 rfl rfl rfl rfl rfl (.head _) rfl hb2 (nl J (J10 _ _ (Rk fun K J => sV (.int .i64 3) rfl rfl (sE rfl (nl J (J8 _ _ (Un_s (fun K11 J11 => Rs fun K J => ?_)))))))))))))))))
 refine sV (.bool false) rfl rfl (nl J (Sq fun K12 J12 => by_ rfl (bB_ (ax_ (ax_ (aF_ (J1 _ _ (Rs fun K J => sQ (qL ty_94 rfl m0 rfl) rfl (sS [pI (E (Z.of a.x.1)), pI (E (Z.of a.y.1)), pI (E (Z.of a.z.1))] ty_94 rfl rfl rfl rfl rfl (.head _) rfl hb2 (nl J (W_ret (ret1 rfl (.inr rfl) (resP rfl m0 ty_94 rfl) ?_))))))))))))
 exact (by rfl)

theorem iu_ (a : (A3 I)) (b : (A3 I)) :
    Ret Tryz.prog 110 [AV [pI a.x, pI a.y, pI a.z], AV [pI b.x, pI b.y, pI b.z]] (AV [pI (eK_ a b)]) := by
 refine av_ (N := 22) Tryz.func110 rfl rfl (by simp) (fun w0 => ?_)
 simp only [initF, Nat.reduceAdd]
 refine Rs fun K J => WL_r rfl (a1_ rfl rfl (fun b1 hb1 => WL_r rfl (a1_ rfl rfl (fun b2 hb2 => sN zp_37 rfl fun b3 hb3 => nl J (Rs fun K J => sC (AV [pI (E (Z.of 0))]) en_61 (bJ_ (wl 0).1 (wl 0).2) rfl rfl rfl ?_)))))
 refine sN zp_37 rfl fun b4 hb4 => sS [pI (E (Z.of 0))] ty_37 rfl rfl rfl rfl rfl (.head _) rfl hb4 (nl J (Sq fun K1 J1 => Rs fun K J => sE rfl (nl J (ar_ (W_un 5 (Un_s (fun K2 J2 => Rs fun K J => sV (.bool true) rfl rfl (nl J (Sq fun K3 J3 => bF_ rfl (ak_ (J3 _ _ (Sq fun K4 J4 => ar_ (Rs fun K J => ?_)))))))))))))
 refine sE rfl (sE rfl (nl J (dr (sd (sk (sk (sk (s0))))) [0,4,8,12,16,20,24,28,32,37] [9] mix (by kernel_rfl) (fun K J => pQ rfl (qL ty_37 rfl m0 rfl) (pE rfl (pQ rfl (qA ar_94 rfl rfl rfl) (pQ rfl (qL ty_37 rfl m3 rfl) (pE rfl (pQ rfl (qA ar_94 rfl rfl rfl) (pQ rfl (qL ty_37 rfl m2 rfl) (pC (AV [pI (E (Z.mul a.x.dec b.x.dec))]) en_96 (bs_ a.x.1 b.x.1 a.x.2 b.x.2) rfl rfl rfl (pC (AV [pI (E (Z.add (Z.of 0) (Z.mul a.x.dec b.x.dec)))]) ip_ (dK_ (E (Z.of 0)).1 (E (Z.mul a.x.dec b.x.dec)).1 (E (Z.of 0)).2 (E (Z.mul a.x.dec b.x.dec)).2) rfl rfl (cg2 (fun p q => AV [pI (E (Z.add p q))]) (E_dec _) (E_dec _)) (oS [pI (E (Z.add (Z.of 0) (Z.mul a.x.dec b.x.dec)))] ty_37 rfl rfl rfl rfl rfl rfl (.head _) rfl hb4 rfl (sd s0) (fl J (J4 _ _ (Rk fun K J => sV (.int .i64 1) rfl rfl (sE rfl (nl J ?_))))))))))))))))))
 refine J2 _ _ (Un_s (fun K5 J5 => Rs fun K J => sV (.bool true) rfl rfl (nl J (Sq fun K6 J6 => bF_ rfl (ak_ (J6 _ _ (Sq fun K7 J7 => ar_ (Rs fun K J => sE rfl (sE rfl (nl J (dr (sd (sk (sk (sk (s0))))) [0,4,8,12,16,20,24,28,32,37] [9] mix (by kernel_rfl) (fun K J => pQ rfl (qL ty_37 rfl m0 rfl) (pE rfl (pQ rfl (qA ar_94 rfl rfl rfl) (pQ rfl (qL ty_37 rfl m3 rfl) ?_)))))))))))))))
 refine pE rfl (pQ rfl (qA ar_94 rfl rfl rfl) (pQ rfl (qL ty_37 rfl m2 rfl) (pC (AV [pI (E (Z.mul a.y.dec b.y.dec))]) en_96 (bs_ a.y.1 b.y.1 a.y.2 b.y.2) rfl rfl rfl ?_)))
 obtain ⟨r5, hr5⟩ := nm ((E (Z.add (Z.add (Z.of 0) (Z.mul a.x.dec b.x.dec)) (Z.mul a.y.dec b.y.dec))) : I)
 refine pC (AV [pI r5]) ip_ (dK_ (E (Z.add (Z.of 0) (Z.mul a.x.dec b.x.dec))).1 (E (Z.mul a.y.dec b.y.dec)).1 (E (Z.add (Z.of 0) (Z.mul a.x.dec b.x.dec))).2 (E (Z.mul a.y.dec b.y.dec)).2) rfl rfl ((cg2 (fun p q => AV [pI (E (Z.add p q))]) (E_dec _) (E_dec _)).trans (by rw [hr5])) (oS [pI r5] ty_37 rfl rfl rfl rfl rfl rfl (.head _) rfl hb4 rfl (sd s0) (fl J (J7 _ _ (Rk fun K J => sV (.int .i64 2) rfl rfl (sE rfl (nl J (J5 _ _ (Un_s (fun K8 J8 => Rs fun K J => sV (.bool true) rfl rfl (nl J (Sq fun K9 J9 => bF_ rfl (ak_ (J9 _ _ (Sq fun K10 J10 => ar_ (Rs fun K J => ?_)))))))))))))))
 refine sE rfl (sE rfl (nl J (dr (sd (sk (sk (sk (s0))))) [0,4,8,12,16,20,24,28,32,37] [9] mix (by kernel_rfl) (fun K J => pQ rfl (qL ty_37 rfl m0 rfl) (pE rfl (pQ rfl (qA ar_94 rfl rfl rfl) (pQ rfl (qL ty_37 rfl m3 rfl) (pE rfl (pQ rfl (qA ar_94 rfl rfl rfl) (pQ rfl (qL ty_37 rfl m2 rfl) (pC (AV [pI (E (Z.mul a.z.dec b.z.dec))]) en_96 (bs_ a.z.1 b.z.1 a.z.2 b.z.2) rfl rfl rfl (pC (AV [pI (E (Z.add r5.dec (Z.mul a.z.dec b.z.dec)))]) ip_ (dK_ r5.1 (E (Z.mul a.z.dec b.z.dec)).1 r5.2 (E (Z.mul a.z.dec b.z.dec)).2) rfl rfl (cg2 (fun p q => AV [pI (E (Z.add p q))]) rfl (E_dec _)) (oS [pI (E (Z.add r5.dec (Z.mul a.z.dec b.z.dec)))] ty_37 rfl rfl rfl rfl rfl rfl (.head _) rfl hb4 rfl (sd s0) (fl J (J10 _ _ (Rk fun K J => sV (.int .i64 3) rfl rfl (sE rfl (nl J ?_))))))))))))))))))
 refine J8 _ _ (Un_s (fun K11 J11 => Rs fun K J => sV (.bool false) rfl rfl (nl J (Sq fun K12 J12 => by_ rfl (bB_ (ax_ (ax_ (aF_ (J1 _ _ (Rs fun K J => sQ (qL ty_37 rfl m0 rfl) rfl (sS [pI (E (Z.add r5.dec (Z.mul a.z.dec b.z.dec)))] ty_37 rfl rfl rfl rfl rfl (.tail _ (.head _)) rfl hb3 (nl J (W_ret (ret1 rfl (.inr rfl) (resP rfl m1 ty_37 rfl) ?_))))))))))))))
 exact (by subst hr5; rfl)

theorem hD_ (a : (A3 I)) (b : (A3 I)) :
    Ret Tryz.prog 134 [AV [pI a.x, pI a.y, pI a.z], AV [pI b.x, pI b.y, pI b.z]] (AV [pI ((dR_ a b).x), pI ((dR_ a b).y), pI ((dR_ a b).z)]) := by
 refine av_ (N := 36) Tryz.func134 rfl rfl (by simp) (fun w0 => ?_)
 simp only [initF, Nat.reduceAdd]
 refine Rs fun K J => WL_r rfl (a1_ rfl rfl (fun b1 hb1 => WL_r rfl (a1_ rfl rfl (fun b2 hb2 => sN zp_94 rfl fun b3 hb3 => nl J (Sq fun K1 J1 => Rs fun K J => sE rfl (nl J (ar_ (W_un 5 (Un_s (fun K2 J2 => Rs fun K J => sV (.bool true) rfl rfl (nl J (Sq fun K3 J3 => bF_ rfl (ak_ (J3 _ _ (Sq fun K4 J4 => ?_)))))))))))))))
 refine ar_ (Rs fun K J => sE rfl (sE rfl (nl J (Rs fun K J => sE rfl (sV (.int .i64 1) rfl rfl (sQ (q_as (v' := .int .i64 1) (q_rem rfl rfl (by decide)) rfl) rfl (sE rfl (sV (.int .i64 2) rfl rfl (sQ (q_as (v' := .int .i64 2) (q_rem rfl rfl (by decide)) rfl) rfl (sE rfl (sE rfl (nl J (dr (sd (sk (sk (s0)))) [0,4,8,12,16,20,24,28,32,36,40,44,48,52,56,60,64,69] [17] mix (by kernel_rfl) (fun K J => pE rfl (pE rfl (pQ rfl (qA ar_94 rfl rfl rfl) (pQ rfl (qL ty_37 rfl m2 rfl) ?_)))))))))))))))))
 refine pE rfl (pQ rfl (qA ar_94 rfl rfl rfl) (pQ rfl (qL ty_37 rfl m1 rfl) (pC (AV [pI (E (Z.mul a.y.dec b.z.dec))]) en_96 (bs_ a.y.1 b.z.1 a.y.2 b.z.2) rfl rfl rfl (pE rfl (pQ rfl (qA ar_94 rfl rfl rfl) (pQ rfl (qL ty_37 rfl m2 rfl) (pE rfl (pQ rfl (qA ar_94 rfl rfl rfl) (pQ rfl (qL ty_37 rfl m1 rfl) (pC (AV [pI (E (Z.mul a.z.dec b.y.dec))]) en_96 (bs_ a.z.1 b.y.1 a.z.2 b.y.2) rfl rfl rfl (pC (AV [pI (E (Z.sub (Z.mul a.y.dec b.z.dec) (Z.mul a.z.dec b.y.dec)))]) kD_ (e0_ (E (Z.mul a.y.dec b.z.dec)).1 (E (Z.mul a.z.dec b.y.dec)).1 (E (Z.mul a.y.dec b.z.dec)).2 (E (Z.mul a.z.dec b.y.dec)).2) rfl rfl (cg2 (fun p q => AV [pI (E (Z.sub p q))]) (E_dec _) (E_dec _)) (pQ rfl (qA ar_94 rfl rfl rfl) (oS [pI (E (Z.sub (Z.mul a.y.dec b.z.dec) (Z.mul a.z.dec b.y.dec)))] ty_37 rfl rfl rfl rfl rfl rfl (.head _) rfl hb3 rfl (sd s0) (fl J (J4 _ _ (Rk fun K J => sV (.int .i64 1) rfl rfl (sE rfl (nl J ?_))))))))))))))))))
 refine J2 _ _ (Un_s (fun K5 J5 => Rs fun K J => sV (.bool true) rfl rfl (nl J (Sq fun K6 J6 => bF_ rfl (ak_ (J6 _ _ (Sq fun K7 J7 => ar_ (Rs fun K J => sE rfl (sE rfl (nl J (Rs fun K J => sE rfl (sV (.int .i64 2) rfl rfl (sQ (q_as (v' := .int .i64 2) (q_rem rfl rfl (by decide)) rfl) rfl (sE rfl ?_))))))))))))))
 refine sV (.int .i64 3) rfl rfl (sQ (q_as (v' := .int .i64 0) (q_rem rfl rfl (by decide)) rfl) rfl (sE rfl (sE rfl (nl J (dr (sd (sk (sk (s0)))) [0,4,8,12,16,20,24,28,32,36,40,44,48,52,56,60,64,69] [17] mix (by kernel_rfl) (fun K J => pE rfl (pE rfl (pQ rfl (qA ar_94 rfl rfl rfl) (pQ rfl (qL ty_37 rfl m2 rfl) (pE rfl (pQ rfl (qA ar_94 rfl rfl rfl) (pQ rfl (qL ty_37 rfl m1 rfl) (pC (AV [pI (E (Z.mul a.z.dec b.x.dec))]) en_96 (bs_ a.z.1 b.x.1 a.z.2 b.x.2) rfl rfl rfl (pE rfl (pQ rfl (qA ar_94 rfl rfl rfl) (pQ rfl (qL ty_37 rfl m2 rfl) (pE rfl (pQ rfl (qA ar_94 rfl rfl rfl) (pQ rfl (qL ty_37 rfl m1 rfl) ?_)))))))))))))))))))
 refine pC (AV [pI (E (Z.mul a.x.dec b.z.dec))]) en_96 (bs_ a.x.1 b.z.1 a.x.2 b.z.2) rfl rfl rfl (pC (AV [pI (E (Z.sub (Z.mul a.z.dec b.x.dec) (Z.mul a.x.dec b.z.dec)))]) kD_ (e0_ (E (Z.mul a.z.dec b.x.dec)).1 (E (Z.mul a.x.dec b.z.dec)).1 (E (Z.mul a.z.dec b.x.dec)).2 (E (Z.mul a.x.dec b.z.dec)).2) rfl rfl (cg2 (fun p q => AV [pI (E (Z.sub p q))]) (E_dec _) (E_dec _)) (pQ rfl (qA ar_94 rfl rfl rfl) (oS [pI (E (Z.sub (Z.mul a.z.dec b.x.dec) (Z.mul a.x.dec b.z.dec)))] ty_37 rfl rfl rfl rfl rfl rfl (.head _) rfl hb3 rfl (sd s0) (fl J (J7 _ _ (Rk fun K J => sV (.int .i64 2) rfl rfl (sE rfl (nl J (J5 _ _ (Un_s (fun K8 J8 => Rs fun K J => sV (.bool true) rfl rfl (nl J (Sq fun K9 J9 => bF_ rfl (ak_ (J9 _ _ (Sq fun K10 J10 => ?_))))))))))))))))
 refine ar_ (Rs fun K J => sE rfl (sE rfl (nl J (Rs fun K J => sE rfl (sV (.int .i64 3) rfl rfl (sQ (q_as (v' := .int .i64 0) (q_rem rfl rfl (by decide)) rfl) rfl (sE rfl (sV (.int .i64 4) rfl rfl (sQ (q_as (v' := .int .i64 1) (q_rem rfl rfl (by decide)) rfl) rfl (sE rfl (sE rfl (nl J (dr (sd (sk (sk (s0)))) [0,4,8,12,16,20,24,28,32,36,40,44,48,52,56,60,64,69] [17] mix (by kernel_rfl) (fun K J => pE rfl (pE rfl (pQ rfl (qA ar_94 rfl rfl rfl) (pQ rfl (qL ty_37 rfl m2 rfl) ?_)))))))))))))))))
 refine pE rfl (pQ rfl (qA ar_94 rfl rfl rfl) (pQ rfl (qL ty_37 rfl m1 rfl) (pC (AV [pI (E (Z.mul a.x.dec b.y.dec))]) en_96 (bs_ a.x.1 b.y.1 a.x.2 b.y.2) rfl rfl rfl (pE rfl (pQ rfl (qA ar_94 rfl rfl rfl) (pQ rfl (qL ty_37 rfl m2 rfl) (pE rfl (pQ rfl (qA ar_94 rfl rfl rfl) (pQ rfl (qL ty_37 rfl m1 rfl) (pC (AV [pI (E (Z.mul a.y.dec b.x.dec))]) en_96 (bs_ a.y.1 b.x.1 a.y.2 b.x.2) rfl rfl rfl (pC (AV [pI (E (Z.sub (Z.mul a.x.dec b.y.dec) (Z.mul a.y.dec b.x.dec)))]) kD_ (e0_ (E (Z.mul a.x.dec b.y.dec)).1 (E (Z.mul a.y.dec b.x.dec)).1 (E (Z.mul a.x.dec b.y.dec)).2 (E (Z.mul a.y.dec b.x.dec)).2) rfl rfl (cg2 (fun p q => AV [pI (E (Z.sub p q))]) (E_dec _) (E_dec _)) (pQ rfl (qA ar_94 rfl rfl rfl) (oS [pI (E (Z.sub (Z.mul a.x.dec b.y.dec) (Z.mul a.y.dec b.x.dec)))] ty_37 rfl rfl rfl rfl rfl rfl (.head _) rfl hb3 rfl (sd s0) (fl J (J10 _ _ (Rk fun K J => sV (.int .i64 3) rfl rfl (sE rfl (nl J ?_))))))))))))))))))
 refine J8 _ _ (Un_s (fun K11 J11 => Rs fun K J => sV (.bool false) rfl rfl (nl J (Sq fun K12 J12 => by_ rfl (bB_ (ax_ (ax_ (aF_ (J1 _ _ (Rs fun K J => sQ (qL ty_94 rfl m0 rfl) rfl (sS [pI (E (Z.sub (Z.mul a.y.dec b.z.dec) (Z.mul a.z.dec b.y.dec))), pI (E (Z.sub (Z.mul a.z.dec b.x.dec) (Z.mul a.x.dec b.z.dec))), pI (E (Z.sub (Z.mul a.x.dec b.y.dec) (Z.mul a.y.dec b.x.dec)))] ty_94 rfl rfl rfl rfl rfl (.head _) rfl hb3 (nl J (W_ret (ret1 rfl (.inr rfl) (resP rfl m0 ty_94 rfl) ?_))))))))))))))
 exact (by rfl)

theorem eD_ (a : (A3 W)) (b : (A3 W)) :
    Ret Tryz.prog 60 [AV [ci .i64 a.x.1, ci .i64 a.y.1, ci .i64 a.z.1], AV [ci .i64 b.x.1, ci .i64 b.y.1, ci .i64 b.z.1]] (AV [pI (bc_ a b)]) := by
 refine av_ (N := 10) Tryz.func60 rfl rfl (by simp) (fun w0 => ?_)
 simp only [initF, Nat.reduceAdd]
 refine Rs fun K J => WL_r rfl (a1_ rfl rfl (fun b1 hb1 => WL_r rfl (a1_ rfl rfl (fun b2 hb2 => sN zp_37 rfl fun b3 hb3 => nl J (ds (sd (sk (sk (s0)))) [0,4,8,12,16,21] [5] mix (by kernel_rfl) (fun K J => pQ rfl (qL ty_23 rfl m2 rfl) (pQ rfl (q_ret lE_ (dW_ a) rfl) (pQ rfl (qL ty_23 rfl m1 rfl) (pQ rfl (q_ret lE_ (dW_ b) rfl) (pQ rfl (q_ret rT_ (iu_ (az_ a) (az_ b)) rfl) (oS [pI (eK_ (az_ a) (az_ b))] ty_37 rfl rfl rfl rfl rfl rfl (.head _) rfl hb3 rfl (sd s0) (fl J (W_ret (ret1 rfl (.inr rfl) (resP rfl m0 ty_37 rfl) ?_))))))))))))))
 exact (by rfl)

theorem eS_ (a : (A3 I)) :
    Ret Tryz.prog 133 [AV [pI a.x, pI a.y, pI a.z]] (.tuple #[AV [ci .i64 ((((a2_ a).1).x).1), ci .i64 ((((a2_ a).1).y).1), ci .i64 ((((a2_ a).1).z).1)], .int .i64 (((a2_ a).2).1)]) := by
 refine av_ (N := 58) Tryz.func133 rfl rfl (by simp) (fun w0 => ?_)
 simp only [initF, Nat.reduceAdd]
 refine Rs fun K J => WL_r rfl (a1_ rfl rfl (fun b1 hb1 => sN zp_23 rfl fun b2 hb2 => sE rfl (nl J (Rs fun K J => sC (AV [pI (E (Z.of 0))]) en_61 (bJ_ (wl 0).1 (wl 0).2) rfl rfl rfl ?_))))
 refine sN zp_37 rfl fun b3 hb3 => sS [pI (E (Z.of 0))] ty_37 rfl rfl rfl rfl rfl (.head _) rfl hb3 (nl J (Sq fun K1 J1 => Rs fun K J => sQ (qL ty_94 rfl m2 rfl) rfl (sE rfl (nl J (ar_ (W_un 5 (Un_s (fun K2 J2 => Rs fun K J => sV (.bool true) rfl rfl (nl J (Sq fun K3 J3 => bF_ rfl (ak_ (J3 _ _ (Sq fun K4 J4 => ar_ ?_)))))))))))))
 refine Rs fun K J => sQ (qI el_94 rfl rfl rfl rfl) rfl (sN zp_37 rfl fun b4 hb4 => sS [pI a.x] ty_37 rfl rfl rfl rfl rfl (.head _) rfl hb4 (nl J (Rk fun K J => sQ (qL ty_37 rfl m1 rfl) rfl (sQ (qL ty_37 rfl m0 rfl) rfl (sC (AV [pI (E (Z.gcd (Z.of 0) a.x.dec))]) hB_ (d7_ (E (Z.of 0)).1 a.x.1 (E (Z.of 0)).2 a.x.2) rfl rfl (cg2 (fun p q => AV [pI (E (Z.gcd p q))]) (E_dec _) rfl) (sS [pI (E (Z.gcd (Z.of 0) a.x.dec))] ty_37 rfl rfl rfl rfl rfl (.tail _ (.head _)) rfl hb3 (nl J (J4 _ _ (Rk fun K J => sV (.int .i64 1) rfl rfl (sE rfl (nl J (J2 _ _ (Un_s (fun K5 J5 => Rs fun K J => sV (.bool true) rfl rfl ?_))))))))))))))
 refine nl J (Sq fun K6 J6 => bF_ rfl (ak_ (J6 _ _ (Sq fun K7 J7 => ar_ (Rs fun K J => sQ (qI el_94 rfl rfl rfl rfl) rfl (sN zp_37 rfl fun b5 hb5 => sS [pI a.y] ty_37 rfl rfl rfl rfl rfl (.head _) rfl hb5 (nl J (Rk fun K J => sQ (qL ty_37 rfl m2 rfl) rfl (sQ (qL ty_37 rfl m0 rfl) rfl (sC (AV [pI (E (Z.gcd (Z.gcd (Z.of 0) a.x.dec) a.y.dec))]) hB_ (d7_ (E (Z.gcd (Z.of 0) a.x.dec)).1 a.y.1 (E (Z.gcd (Z.of 0) a.x.dec)).2 a.y.2) rfl rfl (cg2 (fun p q => AV [pI (E (Z.gcd p q))]) (E_dec _) rfl) (sS [pI (E (Z.gcd (Z.gcd (Z.of 0) a.x.dec) a.y.dec))] ty_37 rfl rfl rfl rfl rfl (.tail _ (.tail _ (.head _))) rfl hb3 (nl J (J7 _ _ (Rk fun K J => ?_))))))))))))))
 refine sV (.int .i64 2) rfl rfl (sE rfl (nl J (J5 _ _ (Un_s (fun K8 J8 => Rs fun K J => sV (.bool true) rfl rfl (nl J (Sq fun K9 J9 => bF_ rfl (ak_ (J9 _ _ (Sq fun K10 J10 => ar_ (Rs fun K J => sQ (qI el_94 rfl rfl rfl rfl) rfl (sN zp_37 rfl fun b6 hb6 => sS [pI a.z] ty_37 rfl rfl rfl rfl rfl (.head _) rfl hb6 (nl J (Rk fun K J => ?_))))))))))))))
 refine sQ (qL ty_37 rfl m3 rfl) rfl (sQ (qL ty_37 rfl m0 rfl) rfl (sC (AV [pI (E (Z.gcd (Z.gcd (Z.gcd (Z.of 0) a.x.dec) a.y.dec) a.z.dec))]) hB_ (d7_ (E (Z.gcd (Z.gcd (Z.of 0) a.x.dec) a.y.dec)).1 a.z.1 (E (Z.gcd (Z.gcd (Z.of 0) a.x.dec) a.y.dec)).2 a.z.2) rfl rfl (cg2 (fun p q => AV [pI (E (Z.gcd p q))]) (E_dec _) rfl) (sS [pI (E (Z.gcd (Z.gcd (Z.gcd (Z.of 0) a.x.dec) a.y.dec) a.z.dec))] ty_37 rfl rfl rfl rfl rfl (.tail _ (.tail _ (.tail _ (.head _)))) rfl hb3 (nl J (J10 _ _ (Rk fun K J => sV (.int .i64 3) rfl rfl (sE rfl (nl J (J8 _ _ (Un_s (fun K11 J11 => Rs fun K J => sV (.bool false) rfl rfl (nl J (Sq fun K12 J12 => by_ rfl (bB_ (ax_ (ax_ (aF_ (J1 _ _ (Sq fun K13 J13 => ?_)))))))))))))))))))
 refine ar_ (Rs fun K J => sQ (qF ea_ rfl rfl) rfl (sQ (qC ty_4 rfl m3 rfl) rfl (sE rfl (nl J ?_))))
 rcases bt ((E (Z.gcd (Z.gcd (Z.gcd (Z.of 0) a.x.dec) a.y.dec) a.z.dec)).1.bad) with h7 | h7
 ·skip
  refine W_t h7 rfl (Rs fun K J => sQ (bH_ zp_23 ar_23 rfl (.nil _)) rfl (sS [ci .i64 0, ci .i64 0, ci .i64 0] ty_23 rfl rfl rfl rfl rfl (.tail _ (.tail _ (.tail _ (.tail _ (.head _))))) rfl hb2 (sE rfl (nl J (W_ret (aB_ (ai_ (ret2 rfl (.inr rfl) (resP rfl m4 ty_23 rfl) rfl ?_))))))))
  exact (by exact congrArg (fun r : (A3 W) × W => (.tuple #[AV [ci .i64 r.1.x.1, ci .i64 r.1.y.1, ci .i64 r.1.z.1], .int .i64 r.2.1] : Value)) (show _ = (a2_ a) from bif_t h7 rfl))
 ·skip
  refine W_f h7 rfl (Rs fun K J => sQ (qL ty_37 rfl m3 rfl) rfl (sC (.int .i64 ((Z.signW (Z.gcd (Z.gcd (Z.gcd (Z.of 0) a.x.dec) a.y.dec) a.z.dec)).1)) fu_ (cf_ (E (Z.gcd (Z.gcd (Z.gcd (Z.of 0) a.x.dec) a.y.dec) a.z.dec)).1 (E (Z.gcd (Z.gcd (Z.gcd (Z.of 0) a.x.dec) a.y.dec) a.z.dec)).2) rfl rfl (cg1 (fun p => Value.int .i64 (Z.signW p).1) (E_dec _)) (sE rfl (sE rfl (nl J ?_)))))
  rcases bt ((Z.signW (Z.gcd (Z.gcd (Z.gcd (Z.of 0) a.x.dec) a.y.dec) a.z.dec)).1 == 0) with h8 | h8
  ·skip
   refine W_t h8 rfl (Rs fun K J => sQ (bH_ zp_23 ar_23 rfl (.nil _)) rfl (sS [ci .i64 0, ci .i64 0, ci .i64 0] ty_23 rfl rfl rfl rfl rfl (.tail _ (.tail _ (.tail _ (.tail _ (.head _))))) rfl hb2 (sE rfl (nl J (W_ret (aB_ (ai_ (ret2 rfl (.inr rfl) (resP rfl m4 ty_23 rfl) rfl ?_))))))))
   exact (by exact congrArg (fun r : (A3 W) × W => (.tuple #[AV [ci .i64 r.1.x.1, ci .i64 r.1.y.1, ci .i64 r.1.z.1], .int .i64 r.2.1] : Value)) (show _ = (a2_ a) from bif_f h7 (bif_t h8 rfl)))
  ·skip
   refine W_f h8 rfl (ak_ (J13 _ _ (Rs fun K J => sN zp_23 rfl fun b9 hb9 => nl J (Sq fun K14 J14 => Rs fun K J => sQ (qL ty_94 rfl m6 rfl) rfl (sE rfl (nl J (ar_ (W_un 5 (Un_s (fun K15 J15 => Rs fun K J => sV (.bool true) rfl rfl (nl J (Sq fun K16 J16 => bF_ rfl (ak_ ?_)))))))))))))
   refine J16 _ _ (Sq fun K17 J17 => ar_ (Rs fun K J => sE rfl (sQ (qI el_94 rfl rfl rfl rfl) rfl (sN zp_37 rfl fun b10 hb10 => sE rfl (sS [pI a.x] ty_37 rfl rfl rfl rfl rfl (.head _) rfl hb10 (nl J (Rs fun K J => sQ (qL ty_37 rfl m0 rfl) rfl (sQ (qL ty_37 rfl m5 rfl) rfl ?_))))))))
   obtain ⟨r11, hr11⟩ := nm ((E (Z.quo a.x.dec (Z.gcd (Z.gcd (Z.gcd (Z.of 0) a.x.dec) a.y.dec) a.z.dec))) : I)
   refine sC (AV [pI r11]) en_97 (cj_ a.x.1 (E (Z.gcd (Z.gcd (Z.gcd (Z.of 0) a.x.dec) a.y.dec) a.z.dec)).1 a.x.2 (E (Z.gcd (Z.gcd (Z.gcd (Z.of 0) a.x.dec) a.y.dec) a.z.dec)).2) rfl rfl ((cg2 (fun p q => AV [pI (E (Z.quo p q))]) rfl (E_dec _)).trans (by rw [hr11])) (sC (.tuple #[.int .i64 ((Z.smallW r11.dec).1), .bool r11.dec.small.2]) jy_ (d1_ r11.1 r11.2) rfl rfl rfl (sE rfl (sE rfl (sE rfl (sE rfl (sE rfl (nl J (Sq fun K18 J18 => ?_))))))))
   refine bQ_ [42, 43, 44, 45, 46, 47, 48, 49, 50, 51] (fun g M => (g 51 = .bool (!r11.dec.small.2 || (decide (2305843009213693952 ≤ (Z.smallW r11.dec).1) || decide ((Z.smallW r11.dec).1 ≤ (-2305843009213693952))))) ∧ M = [⟨b10, 37, flat [pI a.x]⟩, ⟨b9, 23, flat [ci .i64 0, ci .i64 0, ci .i64 0]⟩, ⟨b6, 37, flat [pI a.z]⟩, ⟨b5, 37, flat [pI a.y]⟩, ⟨b4, 37, flat [pI a.x]⟩, ⟨b3, 37, flat [pI (E (Z.gcd (Z.gcd (Z.gcd (Z.of 0) a.x.dec) a.y.dec) a.z.dec))]⟩, ⟨b2, 23, flat [ci .i64 0, ci .i64 0, ci .i64 0]⟩, ⟨b1, 94, flat [pI a.x, pI a.y, pI a.z]⟩]) (fun K19 J19 => ?_) ?_
   ·skip
    refine Rk fun K J => sE rfl (sE rfl ?_)
    rcases bt r11.dec.small.2 with h14 | h14
    ·skip
     refine sB (not_f h14) rfl (sE rfl (sE rfl (sE rfl ?_)))
     rcases bt (decide (2305843009213693952 ≤ (Z.smallW r11.dec).1)) with h15 | h15
     ·skip
      refine sB h15 rfl (WL_n rfl (WL_n rfl (sE rfl (nl J ?_))))
      refine J19 _ _ (by repeat first | exact .refl | refine .cons rfl ?_) ⟨_, s0, ?s51, rfl⟩
      case s51 => exact congrArg Value.bool (nor_t h14 (or_t h15))
     ·skip
      refine sB h15 rfl (sE rfl (sE rfl (sE rfl (nl J ?_))))
      refine J19 _ _ (by repeat first | exact .refl | refine .cons rfl ?_) ⟨_, s0, ?s51, rfl⟩
      case s51 => exact congrArg Value.bool (nor_t h14 (or_f h15 rfl))
    ·skip
     refine sB (not_t h14) rfl (WL_n rfl (WL_n rfl (sE rfl (sE rfl (WL_n rfl (WL_n rfl (sE rfl (nl J ?_))))))))
     refine J19 _ _ (by repeat first | exact .refl | refine .cons rfl ?_) ⟨_, s0, ?s51, rfl⟩
     case s51 => exact congrArg Value.bool (nor_f h14)
   ·skip
    rintro g16 M ⟨hg51, rfl⟩
    simp only [setG, hg51]
    clear hg51
    rcases bt (!r11.dec.small.2 || (decide (2305843009213693952 ≤ (Z.smallW r11.dec).1) || decide ((Z.smallW r11.dec).1 ≤ (-2305843009213693952)))) with h17 | h17
    ·skip
     refine W_t h17 rfl (Rs fun K J => sQ (bH_ zp_23 ar_23 rfl (.nil _)) rfl (sS [ci .i64 0, ci .i64 0, ci .i64 0] ty_23 rfl rfl rfl rfl rfl (.tail _ (.tail _ (.tail _ (.tail _ (.tail _ (.tail _ (.head _))))))) rfl hb2 (sE rfl (nl J (W_ret (ai_ (aB_ (ai_ (ai_ (aB_ (ai_ (ret2 rfl (.inr rfl) (resP rfl m6 ty_23 rfl) rfl ?_))))))))))))
     exact (by subst hr11; exact congrArg (fun r : (A3 W) × W => (.tuple #[AV [ci .i64 r.1.x.1, ci .i64 r.1.y.1, ci .i64 r.1.z.1], .int .i64 r.2.1] : Value)) (show _ = (a2_ a) from bif_f h7 (bif_f h8 (bif_t h17 rfl))))
    ·skip
     refine W_f h17 rfl (ak_ (J18 _ _ (Rk fun K J => sE rfl (sE rfl (sQ (qA ar_23 rfl rfl rfl) rfl (sS [ci .i64 ((Z.smallW r11.dec).1)] ty_3 rfl rfl rfl rfl rfl (.tail _ (.head _)) rfl hb9 (nl J (J17 _ _ (Rk fun K J => sV (.int .i64 1) rfl rfl (sE rfl (nl J (J15 _ _ (Un_s (fun K20 J20 => Rs fun K J => sV (.bool true) rfl rfl (nl J (Sq fun K21 J21 => ?_))))))))))))))))
     refine bF_ rfl (ak_ (J21 _ _ (Sq fun K22 J22 => ar_ (Rs fun K J => sE rfl (sQ (qI el_94 rfl rfl rfl rfl) rfl (sN zp_37 rfl fun b18 hb18 => sE rfl (sS [pI a.y] ty_37 rfl rfl rfl rfl rfl (.head _) rfl hb18 (nl J (Rs fun K J => sQ (qL ty_37 rfl m0 rfl) rfl (sQ (qL ty_37 rfl m6 rfl) rfl ?_))))))))))
     obtain ⟨r19, hr19⟩ := nm ((E (Z.quo a.y.dec (Z.gcd (Z.gcd (Z.gcd (Z.of 0) a.x.dec) a.y.dec) a.z.dec))) : I)
     refine sC (AV [pI r19]) en_97 (cj_ a.y.1 (E (Z.gcd (Z.gcd (Z.gcd (Z.of 0) a.x.dec) a.y.dec) a.z.dec)).1 a.y.2 (E (Z.gcd (Z.gcd (Z.gcd (Z.of 0) a.x.dec) a.y.dec) a.z.dec)).2) rfl rfl ((cg2 (fun p q => AV [pI (E (Z.quo p q))]) rfl (E_dec _)).trans (by rw [hr19])) (sC (.tuple #[.int .i64 ((Z.smallW r19.dec).1), .bool r19.dec.small.2]) jy_ (d1_ r19.1 r19.2) rfl rfl rfl (sE rfl (sE rfl (sE rfl (sE rfl (sE rfl (nl J (Sq fun K23 J23 => ?_))))))))
     refine bQ_ [42, 43, 44, 45, 46, 47, 48, 49, 50, 51] (fun g M => (g 51 = .bool (!r19.dec.small.2 || (decide (2305843009213693952 ≤ (Z.smallW r19.dec).1) || decide ((Z.smallW r19.dec).1 ≤ (-2305843009213693952))))) ∧ M = [⟨b18, 37, flat [pI a.y]⟩, ⟨b10, 37, flat [pI a.x]⟩, ⟨b9, 23, flat [ci .i64 ((Z.smallW r11.dec).1), ci .i64 0, ci .i64 0]⟩, ⟨b6, 37, flat [pI a.z]⟩, ⟨b5, 37, flat [pI a.y]⟩, ⟨b4, 37, flat [pI a.x]⟩, ⟨b3, 37, flat [pI (E (Z.gcd (Z.gcd (Z.gcd (Z.of 0) a.x.dec) a.y.dec) a.z.dec))]⟩, ⟨b2, 23, flat [ci .i64 0, ci .i64 0, ci .i64 0]⟩, ⟨b1, 94, flat [pI a.x, pI a.y, pI a.z]⟩]) (fun K24 J24 => ?_) ?_
     ·skip
      refine Rk fun K J => sE rfl (sE rfl ?_)
      rcases bt r19.dec.small.2 with h22 | h22
      ·skip
       refine sB (not_f h22) rfl (sE rfl (sE rfl (sE rfl ?_)))
       rcases bt (decide (2305843009213693952 ≤ (Z.smallW r19.dec).1)) with h23 | h23
       ·skip
        refine sB h23 rfl (WL_n rfl (WL_n rfl (sE rfl (nl J ?_))))
        refine J24 _ _ (by repeat first | exact .refl | refine .cons rfl ?_) ⟨_, s0, ?s51, rfl⟩
        case s51 => exact congrArg Value.bool (nor_t h22 (or_t h23))
       ·skip
        refine sB h23 rfl (sE rfl (sE rfl (sE rfl (nl J ?_))))
        refine J24 _ _ (by repeat first | exact .refl | refine .cons rfl ?_) ⟨_, s0, ?s51, rfl⟩
        case s51 => exact congrArg Value.bool (nor_t h22 (or_f h23 rfl))
      ·skip
       refine sB (not_t h22) rfl (WL_n rfl (WL_n rfl (sE rfl (sE rfl (WL_n rfl (WL_n rfl (sE rfl (nl J ?_))))))))
       refine J24 _ _ (by repeat first | exact .refl | refine .cons rfl ?_) ⟨_, s0, ?s51, rfl⟩
       case s51 => exact congrArg Value.bool (nor_f h22)
     ·skip
      rintro g24 M ⟨hg51, rfl⟩
      simp only [setG, hg51]
      clear hg51
      rcases bt (!r19.dec.small.2 || (decide (2305843009213693952 ≤ (Z.smallW r19.dec).1) || decide ((Z.smallW r19.dec).1 ≤ (-2305843009213693952)))) with h25 | h25
      ·skip
       refine W_t h25 rfl (Rs fun K J => sQ (bH_ zp_23 ar_23 rfl (.nil _)) rfl (sS [ci .i64 0, ci .i64 0, ci .i64 0] ty_23 rfl rfl rfl rfl rfl (.tail _ (.tail _ (.tail _ (.tail _ (.tail _ (.tail _ (.tail _ (.head _)))))))) rfl hb2 (sE rfl (nl J (W_ret (ai_ (aB_ (ai_ (ai_ (aB_ (ai_ (ret2 rfl (.inr rfl) (resP rfl m7 ty_23 rfl) rfl ?_))))))))))))
       exact (by subst hr19; subst hr11; exact congrArg (fun r : (A3 W) × W => (.tuple #[AV [ci .i64 r.1.x.1, ci .i64 r.1.y.1, ci .i64 r.1.z.1], .int .i64 r.2.1] : Value)) (show _ = (a2_ a) from bif_f h7 (bif_f h8 (bif_f h17 (bif_t h25 rfl)))))
      ·skip
       refine W_f h25 rfl (ak_ (J23 _ _ (Rk fun K J => sE rfl (sE rfl (sQ (qA ar_23 rfl rfl rfl) rfl (sS [ci .i64 ((Z.smallW r19.dec).1)] ty_3 rfl rfl rfl rfl rfl (.tail _ (.tail _ (.head _))) rfl hb9 (nl J (J22 _ _ (Rk fun K J => sV (.int .i64 2) rfl rfl (sE rfl (nl J (J20 _ _ (Un_s (fun K25 J25 => Rs fun K J => sV (.bool true) rfl rfl (nl J (Sq fun K26 J26 => ?_))))))))))))))))
       refine bF_ rfl (ak_ (J26 _ _ (Sq fun K27 J27 => ar_ (Rs fun K J => sE rfl (sQ (qI el_94 rfl rfl rfl rfl) rfl (sN zp_37 rfl fun b26 hb26 => sE rfl (sS [pI a.z] ty_37 rfl rfl rfl rfl rfl (.head _) rfl hb26 (nl J (Rs fun K J => sQ (qL ty_37 rfl m0 rfl) rfl (sQ (qL ty_37 rfl m7 rfl) rfl ?_))))))))))
       obtain ⟨r27, hr27⟩ := nm ((E (Z.quo a.z.dec (Z.gcd (Z.gcd (Z.gcd (Z.of 0) a.x.dec) a.y.dec) a.z.dec))) : I)
       refine sC (AV [pI r27]) en_97 (cj_ a.z.1 (E (Z.gcd (Z.gcd (Z.gcd (Z.of 0) a.x.dec) a.y.dec) a.z.dec)).1 a.z.2 (E (Z.gcd (Z.gcd (Z.gcd (Z.of 0) a.x.dec) a.y.dec) a.z.dec)).2) rfl rfl ((cg2 (fun p q => AV [pI (E (Z.quo p q))]) rfl (E_dec _)).trans (by rw [hr27])) (sC (.tuple #[.int .i64 ((Z.smallW r27.dec).1), .bool r27.dec.small.2]) jy_ (d1_ r27.1 r27.2) rfl rfl rfl (sE rfl (sE rfl (sE rfl (sE rfl (sE rfl (nl J (Sq fun K28 J28 => ?_))))))))
       refine bQ_ [42, 43, 44, 45, 46, 47, 48, 49, 50, 51] (fun g M => (g 51 = .bool (!r27.dec.small.2 || (decide (2305843009213693952 ≤ (Z.smallW r27.dec).1) || decide ((Z.smallW r27.dec).1 ≤ (-2305843009213693952))))) ∧ M = [⟨b26, 37, flat [pI a.z]⟩, ⟨b18, 37, flat [pI a.y]⟩, ⟨b10, 37, flat [pI a.x]⟩, ⟨b9, 23, flat [ci .i64 ((Z.smallW r11.dec).1), ci .i64 ((Z.smallW r19.dec).1), ci .i64 0]⟩, ⟨b6, 37, flat [pI a.z]⟩, ⟨b5, 37, flat [pI a.y]⟩, ⟨b4, 37, flat [pI a.x]⟩, ⟨b3, 37, flat [pI (E (Z.gcd (Z.gcd (Z.gcd (Z.of 0) a.x.dec) a.y.dec) a.z.dec))]⟩, ⟨b2, 23, flat [ci .i64 0, ci .i64 0, ci .i64 0]⟩, ⟨b1, 94, flat [pI a.x, pI a.y, pI a.z]⟩]) (fun K29 J29 => ?_) ?_
       ·skip
        refine Rk fun K J => sE rfl (sE rfl ?_)
        rcases bt r27.dec.small.2 with h30 | h30
        ·skip
         refine sB (not_f h30) rfl (sE rfl (sE rfl (sE rfl ?_)))
         rcases bt (decide (2305843009213693952 ≤ (Z.smallW r27.dec).1)) with h31 | h31
         ·skip
          refine sB h31 rfl (WL_n rfl (WL_n rfl (sE rfl (nl J ?_))))
          refine J29 _ _ (by repeat first | exact .refl | refine .cons rfl ?_) ⟨_, s0, ?s51, rfl⟩
          case s51 => exact congrArg Value.bool (nor_t h30 (or_t h31))
         ·skip
          refine sB h31 rfl (sE rfl (sE rfl (sE rfl (nl J ?_))))
          refine J29 _ _ (by repeat first | exact .refl | refine .cons rfl ?_) ⟨_, s0, ?s51, rfl⟩
          case s51 => exact congrArg Value.bool (nor_t h30 (or_f h31 rfl))
        ·skip
         refine sB (not_t h30) rfl (WL_n rfl (WL_n rfl (sE rfl (sE rfl (WL_n rfl (WL_n rfl (sE rfl (nl J ?_))))))))
         refine J29 _ _ (by repeat first | exact .refl | refine .cons rfl ?_) ⟨_, s0, ?s51, rfl⟩
         case s51 => exact congrArg Value.bool (nor_f h30)
       ·skip
        rintro g32 M ⟨hg51, rfl⟩
        simp only [setG, hg51]
        clear hg51
        rcases bt (!r27.dec.small.2 || (decide (2305843009213693952 ≤ (Z.smallW r27.dec).1) || decide ((Z.smallW r27.dec).1 ≤ (-2305843009213693952)))) with h33 | h33
        ·skip
         refine W_t h33 rfl (Rs fun K J => sQ (bH_ zp_23 ar_23 rfl (.nil _)) rfl (sS [ci .i64 0, ci .i64 0, ci .i64 0] ty_23 rfl rfl rfl rfl rfl (.tail _ (.tail _ (.tail _ (.tail _ (.tail _ (.tail _ (.tail _ (.tail _ (.head _))))))))) rfl hb2 (sE rfl (nl J (W_ret (ai_ (aB_ (ai_ (ai_ (aB_ (ai_ (ret2 rfl (.inr rfl) (resP rfl m8 ty_23 rfl) rfl ?_))))))))))))
         exact (by subst hr27; subst hr19; subst hr11; exact congrArg (fun r : (A3 W) × W => (.tuple #[AV [ci .i64 r.1.x.1, ci .i64 r.1.y.1, ci .i64 r.1.z.1], .int .i64 r.2.1] : Value)) (show _ = (a2_ a) from bif_f h7 (bif_f h8 (bif_f h17 (bif_f h25 (bif_t h33 rfl))))))
        ·skip
         refine W_f h33 rfl (ak_ (J28 _ _ (Rk fun K J => sE rfl (sE rfl (sQ (qA ar_23 rfl rfl rfl) rfl (sS [ci .i64 ((Z.smallW r27.dec).1)] ty_3 rfl rfl rfl rfl rfl (.tail _ (.tail _ (.tail _ (.head _)))) rfl hb9 (nl J (J27 _ _ (Rk fun K J => sV (.int .i64 3) rfl rfl (sE rfl (nl J (J25 _ _ (Un_s (fun K30 J30 => Rs fun K J => sV (.bool false) rfl rfl (nl J (Sq fun K31 J31 => ?_))))))))))))))))
         refine by_ rfl (bB_ (ax_ (ax_ (aF_ (J14 _ _ (Rs fun K J => sQ (qL ty_23 rfl m3 rfl) rfl (sS [ci .i64 ((Z.smallW r11.dec).1), ci .i64 ((Z.smallW r19.dec).1), ci .i64 ((Z.smallW r27.dec).1)] ty_23 rfl rfl rfl rfl rfl (.tail _ (.tail _ (.tail _ (.tail _ (.tail _ (.tail _ (.tail _ (.tail _ (.head _))))))))) rfl hb2 (sE rfl (nl J (W_ret (ret2 rfl (.inr rfl) (resP rfl m8 ty_23 rfl) rfl ?_)))))))))))
         exact (by subst hr27; subst hr19; subst hr11; exact congrArg (fun r : (A3 W) × W => (.tuple #[AV [ci .i64 r.1.x.1, ci .i64 r.1.y.1, ci .i64 r.1.z.1], .int .i64 r.2.1] : Value)) (show _ = (a2_ a) from bif_f h7 (bif_f h8 (bif_f h17 (bif_f h25 (bif_f h33 rfl))))))
end Go.Proofs.YtapbefpeopaecaaGreatDoor

