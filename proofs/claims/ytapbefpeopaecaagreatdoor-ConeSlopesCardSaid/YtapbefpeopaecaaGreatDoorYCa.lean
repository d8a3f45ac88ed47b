/- Walks: what these functions return. -/
import Derived.Test.YtapbefpeopaecaaGreatDoorYGE
import Derived.Test.YtapbefpeopaecaaGreatDoorYFn
import Derived.Test.YtapbefpeopaecaaGreatDoorYGa
import Derived.Test.YtapbefpeopaecaaGreatDoorYGc
import Derived.Test.YtapbefpeopaecaaGreatDoorYVa
import Derived.Test.YtapbefpeopaecaaGreatDoorYVd
import Derived.Test.YtapbefpeopaecaaGreatDoorYWc
import Derived.Test.YtapbefpeopaecaaGreatDoorYWe
import Derived.Test.YtapbefpeopaecaaGreatDoorYWh
import Derived.Test.YtapbefpeopaecaaGreatDoorYPR
namespace Go.Proofs.YtapbefpeopaecaaGreatDoor
open Go.Kn Go.Num
set_option linter.unusedVariables false
set_option linter.unusedSimpArgs false
set_option maxRecDepth 20000
set_option maxHeartbeats 8000000
theorem eQ_ (a : (A3 W)) (b : W) :
    Ret Tryz.prog 42 [AV [ci .i64 a.x.1, ci .i64 a.y.1, ci .i64 a.z.1], .int .i64 b.1] (.bool (b8_ a b)) := by
 refine av_ (N := 29) Tryz.func42 rfl rfl (by simp) (fun w0 => ?_)
 simp only [initF, Nat.reduceAdd]
 refine Rs fun K J => WL_r rfl (a1_ rfl rfl (fun b1 hb1 => sE rfl (nl J (Sq fun K1 J1 => Rs fun K J => sQ (qL ty_23 rfl m0 rfl) rfl (sE rfl (nl J (ar_ (W_un 5 (Un_s (fun K2 J2 => Rs fun K J => sV (.bool true) rfl rfl (nl J (Sq fun K3 J3 => bF_ rfl (ak_ (J3 _ _ (Sq fun K4 J4 => ?_)))))))))))))))
 refine ar_ (Rs fun K J => sQ (qJ el_23 rfl rfl rfl rfl) rfl (sE rfl (nl J ?_)))
 refine bQ_ [11, 12, 13, 14, 15, 16] (fun g M => (g 16 = .bool (decide (536870912 ≤ a.x.1) || decide (a.x.1 ≤ (-536870912)))) ∧ M = [⟨b1, 23, flat [ci .i64 a.x.1, ci .i64 a.y.1, ci .i64 a.z.1]⟩]) (fun K5 J5 => ?_) ?_
 ·skip
  refine Rk fun K J => sE rfl (sE rfl ?_)
  rcases bt (decide (536870912 ≤ a.x.1)) with h3 | h3
  ·skip
   refine sB h3 rfl (WL_n rfl (WL_n rfl (sE rfl (nl J ?_))))
   refine J5 _ _ (by repeat first | exact .refl | refine .cons rfl ?_) ⟨_, s0, ?s16, rfl⟩
   case s16 => exact congrArg Value.bool (or_t h3)
  ·skip
   refine sB h3 rfl (sE rfl (sE rfl (sE rfl (nl J ?_))))
   refine J5 _ _ (by repeat first | exact .refl | refine .cons rfl ?_) ⟨_, s0, ?s16, rfl⟩
   case s16 => exact congrArg Value.bool (or_f h3 rfl)
 ·skip
  rintro g4 M ⟨hg16, rfl⟩
  simp only [setG, hg16]
  clear hg16
  rcases bt (decide (536870912 ≤ a.x.1) || decide (a.x.1 ≤ (-536870912))) with h5 | h5
  ·skip
   refine W_t h5 rfl (Rs fun K J => sE rfl (nl J (W_ret (aB_ (ai_ (ai_ (aB_ (ai_ (ret1 rfl (.inr rfl) rfl ?_)))))))))
   exact (by exact congrArg (fun r : Bool => (.bool r : Value)) (show _ = (b8_ a b) from bif_t h5 rfl))
  ·skip
   refine W_f h5 rfl (ak_ (J4 _ _ (Rk fun K J => sV (.int .i64 1) rfl rfl (sE rfl (nl J (J2 _ _ (Un_s (fun K6 J6 => Rs fun K J => sV (.bool true) rfl rfl (nl J (Sq fun K7 J7 => bF_ rfl (ak_ (J7 _ _ (Sq fun K8 J8 => ar_ (Rs fun K J => sQ (qJ el_23 rfl rfl rfl rfl) rfl ?_))))))))))))))
   refine sE rfl (nl J ?_)
   refine bQ_ [11, 12, 13, 14, 15, 16] (fun g M => (g 16 = .bool (decide (536870912 ≤ a.y.1) || decide (a.y.1 ≤ (-536870912)))) ∧ M = [⟨b1, 23, flat [ci .i64 a.x.1, ci .i64 a.y.1, ci .i64 a.z.1]⟩]) (fun K9 J9 => ?_) ?_
   ·skip
    refine Rk fun K J => sE rfl (sE rfl ?_)
    rcases bt (decide (536870912 ≤ a.y.1)) with h7 | h7
    ·skip
     refine sB h7 rfl (WL_n rfl (WL_n rfl (sE rfl (nl J ?_))))
     refine J9 _ _ (by repeat first | exact .refl | refine .cons rfl ?_) ⟨_, s0, ?s16, rfl⟩
     case s16 => exact congrArg Value.bool (or_t h7)
    ·skip
     refine sB h7 rfl (sE rfl (sE rfl (sE rfl (nl J ?_))))
     refine J9 _ _ (by repeat first | exact .refl | refine .cons rfl ?_) ⟨_, s0, ?s16, rfl⟩
     case s16 => exact congrArg Value.bool (or_f h7 rfl)
   ·skip
    rintro g8 M ⟨hg16, rfl⟩
    simp only [setG, hg16]
    clear hg16
    rcases bt (decide (536870912 ≤ a.y.1) || decide (a.y.1 ≤ (-536870912))) with h9 | h9
    ·skip
     refine W_t h9 rfl (Rs fun K J => sE rfl (nl J (W_ret (aB_ (ai_ (ai_ (aB_ (ai_ (ret1 rfl (.inr rfl) rfl ?_)))))))))
     exact (by exact congrArg (fun r : Bool => (.bool r : Value)) (show _ = (b8_ a b) from bif_f h5 (bif_t h9 rfl)))
    ·skip
     refine W_f h9 rfl (ak_ (J8 _ _ (Rk fun K J => sV (.int .i64 2) rfl rfl (sE rfl (nl J (J6 _ _ (Un_s (fun K10 J10 => Rs fun K J => sV (.bool true) rfl rfl (nl J (Sq fun K11 J11 => bF_ rfl (ak_ (J11 _ _ (Sq fun K12 J12 => ar_ (Rs fun K J => sQ (qJ el_23 rfl rfl rfl rfl) rfl ?_))))))))))))))
     refine sE rfl (nl J ?_)
     refine bQ_ [11, 12, 13, 14, 15, 16] (fun g M => (g 16 = .bool (decide (536870912 ≤ a.z.1) || decide (a.z.1 ≤ (-536870912)))) ∧ M = [⟨b1, 23, flat [ci .i64 a.x.1, ci .i64 a.y.1, ci .i64 a.z.1]⟩]) (fun K13 J13 => ?_) ?_
     ·skip
      refine Rk fun K J => sE rfl (sE rfl ?_)
      rcases bt (decide (536870912 ≤ a.z.1)) with h11 | h11
      ·skip
       refine sB h11 rfl (WL_n rfl (WL_n rfl (sE rfl (nl J ?_))))
       refine J13 _ _ (by repeat first | exact .refl | refine .cons rfl ?_) ⟨_, s0, ?s16, rfl⟩
       case s16 => exact congrArg Value.bool (or_t h11)
      ·skip
       refine sB h11 rfl (sE rfl (sE rfl (sE rfl (nl J ?_))))
       refine J13 _ _ (by repeat first | exact .refl | refine .cons rfl ?_) ⟨_, s0, ?s16, rfl⟩
       case s16 => exact congrArg Value.bool (or_f h11 rfl)
     ·skip
      rintro g12 M ⟨hg16, rfl⟩
      simp only [setG, hg16]
      clear hg16
      rcases bt (decide (536870912 ≤ a.z.1) || decide (a.z.1 ≤ (-536870912))) with h13 | h13
      ·skip
       refine W_t h13 rfl (Rs fun K J => sE rfl (nl J (W_ret (aB_ (ai_ (ai_ (aB_ (ai_ (ret1 rfl (.inr rfl) rfl ?_)))))))))
       exact (by exact congrArg (fun r : Bool => (.bool r : Value)) (show _ = (b8_ a b) from bif_f h5 (bif_f h9 (bif_t h13 rfl))))
      ·skip
       refine W_f h13 rfl (ak_ (J12 _ _ (Rk fun K J => sV (.int .i64 3) rfl rfl (sE rfl (nl J (J10 _ _ (Un_s (fun K14 J14 => Rs fun K J => sV (.bool false) rfl rfl (nl J (Sq fun K15 J15 => by_ rfl (bB_ (ax_ (ax_ (aF_ (J1 _ _ ?_)))))))))))))))
       refine bQ_ [4, 18, 19, 20, 21, 22, 23, 24, 25, 26, 27, 28] (fun g M => (g 4 = .bool (!(decide (a.x.1 = 0) && (decide (a.y.1 = 0) && decide (a.z.1 = 0))) && (decide (0 ≤ b.1) && decide (b.1 ≤ 4000)))) ∧ M = [⟨b1, 23, flat [ci .i64 a.x.1, ci .i64 a.y.1, ci .i64 a.z.1]⟩]) (fun K16 J16 => ?_) ?_
       ·skip
        refine Rk fun K J => sQ (qL ty_23 rfl m0 rfl) rfl (sQ (bH_ zp_23 ar_23 rfl (.nil _)) rfl ?_)
        refine sQ (gw_ (r := (decide (a.x.1 = 0) && (decide (a.y.1 = 0) && decide (a.z.1 = 0)))) rfl rfl (dU_ 8 (by decide) eg_23 lw_23 (bg_ lv_ci (bg_ lv_ci (d9_ lv_ci))) (bg_ lv_ci (bg_ lv_ci (d9_ lv_ci))) (b6_ rfl eq_ci (b6_ rfl eq_ci (e4_ eq_ci))))) rfl ?_
        rcases bt (decide (a.x.1 = 0) && (decide (a.y.1 = 0) && decide (a.z.1 = 0))) with h16 | h16
        ·skip
         refine sB (not_f h16) rfl (WL_n rfl (WL_n rfl (sE rfl (sE rfl (WL_n rfl (WL_n rfl (sE rfl (sE rfl (nl J ?_)))))))))
         refine J16 _ _ (by repeat first | exact .refl | refine .cons rfl ?_) ⟨_, s0, ?s4, rfl⟩
         case s4 => exact congrArg Value.bool (hu_ h16)
        ·skip
         refine sB (not_t h16) rfl (sE rfl (sE rfl (sE rfl ?_)))
         rcases bt (decide (0 ≤ b.1)) with h17 | h17
         ·skip
          refine sB h17 rfl (sE rfl (sE rfl (sE rfl (sE rfl (nl J ?_)))))
          refine J16 _ _ (by repeat first | exact .refl | refine .cons rfl ?_) ⟨_, s0, ?s4, rfl⟩
          case s4 => exact congrArg Value.bool (fz_ h16 (and_t h17 rfl))
         ·skip
          refine sB h17 rfl (WL_n rfl (WL_n rfl (sE rfl (sE rfl (nl J ?_)))))
          refine J16 _ _ (by repeat first | exact .refl | refine .cons rfl ?_) ⟨_, s0, ?s4, rfl⟩
          case s4 => exact congrArg Value.bool (fz_ h16 (and_f h17))
       ·skip
        rintro g18 M ⟨hg4, rfl⟩
        simp only [setG, hg4]
        clear hg4
        refine W_ret (ret1 rfl (.inr rfl) rfl ?_)
        exact (by exact congrArg (fun r : Bool => (.bool r : Value)) (show _ = (b8_ a b) from bif_f h5 (bif_f h9 (bif_f h13 rfl))))

theorem g0_ (a : (A3 W)) (b : W) :
    Ret Tryz.prog 44 [AV [ci .i64 a.x.1, ci .i64 a.y.1, ci .i64 a.z.1], .int .i64 b.1] (.tuple #[AV [ci .i64 (((((b5_ a b).1).x).x).1), ci .i64 (((((b5_ a b).1).x).y).1), ci .i64 (((((b5_ a b).1).x).z).1), ci .i64 (((((b5_ a b).1).y).x).1), ci .i64 (((((b5_ a b).1).y).y).1), ci .i64 (((((b5_ a b).1).y).z).1)], AV [pI ((((b5_ a b).2).x).n), pI ((((b5_ a b).2).x).d), pI ((((b5_ a b).2).y).n), pI ((((b5_ a b).2).y).d)]]) := by
 refine av_ (N := 48) Tryz.func44 rfl rfl (by simp) (fun w0 => ?_)
 simp only [initF, Nat.reduceAdd]
 refine Rs fun K J => WL_r rfl (a1_ rfl rfl (fun b1 hb1 => sN zp_74 rfl fun b2 hb2 => sN zp_75 rfl fun b3 hb3 => nl J (Rs fun K J => sQ (qL ty_23 rfl m2 rfl) rfl (sQ (q_ret en_94 (gQ_ a) rfl) rfl (sE rfl (sE rfl (sE rfl (sQ (qA ar_74 rfl rfl rfl) rfl (sS [ci .i64 ((((ao_ a).1).x).1), ci .i64 ((((ao_ a).1).y).1), ci .i64 ((((ao_ a).1).z).1)] ty_23 rfl rfl rfl rfl rfl (.tail _ (.head _)) rfl hb2 (sQ (qA ar_74 rfl rfl rfl) rfl (sS [ci .i64 ((((ao_ a).2).x).1), ci .i64 ((((ao_ a).2).y).1), ci .i64 ((((ao_ a).2).z).1)] ty_23 rfl rfl rfl rfl rfl (.tail _ (.head _)) rfl hb2 (nl J (ds (sk (sk (sk (s0)))) [0,4,8,12,16,20,24,28,32,37,41] [10] mix (by kernel_rfl) (fun K J => pE rfl (pE rfl (pV (.int .i64 ((W.mul b b).1)) rfl rfl ?_))))))))))))))))
 refine pC (AV [pI (E (Z.of (W.mul b b).1))]) en_61 (bJ_ (W.mul b b).1 (W.mul b b).2) rfl rfl rfl (pQ rfl (qL ty_23 rfl m2 rfl) (pQ rfl (qL ty_23 rfl m2 rfl) (pQ rfl (q_ret en_60 (eD_ a a) rfl) (pC (AV [pI (E (Z.mul (Z.of (W.mul b b).1) (bc_ a a).dec))]) en_96 (bs_ (E (Z.of (W.mul b b).1)).1 (bc_ a a).1 (E (Z.of (W.mul b b).1)).2 (bc_ a a).2) rfl rfl (cg2 (fun p q => AV [pI (E (Z.mul p q))]) (E_dec _) rfl) (pC (AV [pI (E (Z.shl (Z.mul (Z.of (W.mul b b).1) (bc_ a a).dec) 16))]) en_95 (gh_ (E (Z.mul (Z.of (W.mul b b).1) (bc_ a a).dec)).1 (E (Z.mul (Z.of (W.mul b b).1) (bc_ a a).dec)).2 (wl 16) (by decide)) rfl rfl (cg1 (fun p => AV [pI (E (Z.shl p 16))]) (E_dec _)) ?_)))))
 refine PL_o rfl rfl (bk_ zp_37 (fun b4 hb4 => ⟨(fun _ => sd s0), (sd s0), oS [pI (E (Z.shl (Z.mul (Z.of (W.mul b b).1) (bc_ a a).dec) 16))] ty_37 rfl rfl rfl rfl rfl rfl (.head _) rfl hb4 rfl (sd s0) (fl J (Sq fun K1 J1 => Rs fun K J => sE rfl (nl J (ar_ (W_un 4 (Un_s (fun K2 J2 => Rs fun K J => sV (.bool true) rfl rfl (nl J (Sq fun K3 J3 => bF_ rfl (ak_ (J3 _ _ (Sq fun K4 J4 => ar_ (Rs fun K J => ?_)))))))))))))⟩))
 refine sE rfl (sE rfl (nl J (ds (sk (sk (sk (sk (s0))))) [0,4,8,12,16,20,24,28,32,36,40,45,49] [12] mix (by kernel_rfl) (fun K J => pQ rfl (qL ty_37 rfl m0 rfl) (pC (AV [pI (E (Z.of 1000000))]) en_61 (bJ_ (wl 1000000).1 (wl 1000000).2) rfl rfl rfl ?_)))))
 refine pE rfl (pQ rfl (qA ar_74 rfl rfl rfl) (pQ rfl (qL ty_23 rfl m2 rfl) (pE rfl (pQ rfl (qA ar_74 rfl rfl rfl) (pQ rfl (qL ty_23 rfl m2 rfl) (pQ rfl (q_ret en_60 (eD_ ((ao_ a).1) ((ao_ a).1)) rfl) ?_))))))
 obtain ⟨r5, hr5⟩ := nm ((E (Z.mul (Z.of 1000000) (bc_ ((ao_ a).1) ((ao_ a).1)).dec)) : I)
 refine pC (AV [pI r5]) en_96 (bs_ (E (Z.of 1000000)).1 (bc_ ((ao_ a).1) ((ao_ a).1)).1 (E (Z.of 1000000)).2 (bc_ ((ao_ a).1) ((ao_ a).1)).2) rfl rfl ((cg2 (fun p q => AV [pI (E (Z.mul p q))]) (E_dec _) rfl).trans (by rw [hr5])) ?_
 obtain ⟨r6, hr6⟩ := nm ((E (Z.quo (Z.shl (Z.mul (Z.of (W.mul b b).1) (bc_ a a).dec) 16) r5.dec)) : I)
 refine pC (AV [pI r6]) en_97 (cj_ (E (Z.shl (Z.mul (Z.of (W.mul b b).1) (bc_ a a).dec) 16)).1 r5.1 (E (Z.shl (Z.mul (Z.of (W.mul b b).1) (bc_ a a).dec) 16)).2 r5.2) rfl rfl ((cg2 (fun p q => AV [pI (E (Z.quo p q))]) (E_dec _) rfl).trans (by rw [hr6])) (PL_o rfl rfl (bk_ zp_37 (fun b7 hb7 => ⟨(fun _ => sd s0), (sd s0), oS [pI r6] ty_37 rfl rfl rfl rfl rfl rfl (.head _) rfl hb7 rfl (sd s0) (fl J (Rk fun K J => sE rfl (sQ (qL ty_37 rfl m0 rfl) rfl (sQ (q_ret en_98 (gH_ r6) rfl) rfl (sC (AV [pI (E (Z.of 256))]) en_61 (bJ_ (wl 256).1 (wl 256).2) rfl rfl rfl ?_)))))⟩)))
 obtain ⟨r8, hr8⟩ := nm ((ap_ (cQ_ r6) (E (Z.of 256))) : Rt)
 refine sC (AV [pI r8.n, pI r8.d]) en_59 (c1_ (cQ_ r6) (E (Z.of 256))) rfl rfl (by rw [hr8]; first | done | rfl) (sQ (qA ar_75 rfl rfl rfl) rfl (sS [pI r8.n, pI r8.d] ty_39 rfl rfl rfl rfl rfl (.tail _ (.tail _ (.head _))) rfl hb3 (nl J (J4 _ _ (Rk fun K J => sV (.int .i64 1) rfl rfl (sE rfl (nl J (J2 _ _ (Un_s (fun K5 J5 => Rs fun K J => sV (.bool true) rfl rfl (nl J (Sq fun K6 J6 => bF_ rfl (ak_ (J6 _ _ (Sq fun K7 J7 => ar_ ?_)))))))))))))))
 refine Rs fun K J => sE rfl (sE rfl (nl J (ds (sd (sk (sk (sk (sk (s0)))))) [0,4,8,12,16,20,24,28,32,36,40,45,49] [12] mix (by kernel_rfl) (fun K J => pQ rfl (qL ty_37 rfl m1 rfl) (pC (AV [pI (E (Z.of 1000000))]) en_61 (bJ_ (wl 1000000).1 (wl 1000000).2) rfl rfl rfl ?_)))))
 refine pE rfl (pQ rfl (qA ar_74 rfl rfl rfl) (pQ rfl (qL ty_23 rfl m3 rfl) (pE rfl (pQ rfl (qA ar_74 rfl rfl rfl) (pQ rfl (qL ty_23 rfl m3 rfl) (pQ rfl (q_ret en_60 (eD_ ((ao_ a).2) ((ao_ a).2)) rfl) ?_))))))
 obtain ⟨r9, hr9⟩ := nm ((E (Z.mul (Z.of 1000000) (bc_ ((ao_ a).2) ((ao_ a).2)).dec)) : I)
 refine pC (AV [pI r9]) en_96 (bs_ (E (Z.of 1000000)).1 (bc_ ((ao_ a).2) ((ao_ a).2)).1 (E (Z.of 1000000)).2 (bc_ ((ao_ a).2) ((ao_ a).2)).2) rfl rfl ((cg2 (fun p q => AV [pI (E (Z.mul p q))]) (E_dec _) rfl).trans (by rw [hr9])) ?_
 obtain ⟨r10, hr10⟩ := nm ((E (Z.quo (Z.shl (Z.mul (Z.of (W.mul b b).1) (bc_ a a).dec) 16) r9.dec)) : I)
 refine pC (AV [pI r10]) en_97 (cj_ (E (Z.shl (Z.mul (Z.of (W.mul b b).1) (bc_ a a).dec) 16)).1 r9.1 (E (Z.shl (Z.mul (Z.of (W.mul b b).1) (bc_ a a).dec) 16)).2 r9.2) rfl rfl ((cg2 (fun p q => AV [pI (E (Z.quo p q))]) (E_dec _) rfl).trans (by rw [hr10])) (PL_o rfl rfl (bk_ zp_37 (fun b11 hb11 => ⟨(fun _ => sd s0), (sd (sd s0)), oS [pI r10] ty_37 rfl rfl rfl rfl rfl rfl (.head _) rfl hb11 rfl (sd (sd s0)) (fl J (Rk fun K J => sE rfl (sQ (qL ty_37 rfl m0 rfl) rfl (sQ (q_ret en_98 (gH_ r10) rfl) rfl (sC (AV [pI (E (Z.of 256))]) en_61 (bJ_ (wl 256).1 (wl 256).2) rfl rfl rfl ?_)))))⟩)))
 obtain ⟨r12, hr12⟩ := nm ((ap_ (cQ_ r10) (E (Z.of 256))) : Rt)
 refine sC (AV [pI r12.n, pI r12.d]) en_59 (c1_ (cQ_ r10) (E (Z.of 256))) rfl rfl (by rw [hr12]; first | done | rfl) (sQ (qA ar_75 rfl rfl rfl) rfl (sS [pI r12.n, pI r12.d] ty_39 rfl rfl rfl rfl rfl (.tail _ (.tail _ (.tail _ (.head _)))) rfl hb3 (nl J (J7 _ _ (Rk fun K J => sV (.int .i64 2) rfl rfl (sE rfl (nl J (J5 _ _ (Un_s (fun K8 J8 => Rs fun K J => sV (.bool false) rfl rfl (nl J (Sq fun K9 J9 => by_ rfl (bB_ (ax_ (ax_ (aF_ (J1 _ _ (W_sdr (sk (sk (sk (sd (sd (sk (s0))))))) (.quiet 0 [2,3] (.both 1 (.only 2 (.only 3 (.fin))) 2 (.quiet 1 [3] (.only 3 (.fin))))) [0,1] mix (by kernel_rfl) (by kernel_rfl) (fun K J => pQ rfl (qL ty_74 rfl m4 rfl) ?_)))))))))))))))))))
 refine PL_b ?_ ?_
 ·skip
  refine PL_o rfl rfl (jb_ (ib_ ty_75 rfl m3 rfl) ⟨fun _ => s0, (sk (sk (sk (sd (sd s0))))), oS [ci .i64 ((((ao_ a).1).x).1), ci .i64 ((((ao_ a).1).y).1), ci .i64 ((((ao_ a).1).z).1), ci .i64 ((((ao_ a).2).x).1), ci .i64 ((((ao_ a).2).y).1), ci .i64 ((((ao_ a).2).z).1)] ty_74 rfl rfl rfl rfl rfl rfl (.tail _ (.tail _ (.tail _ (.tail _ (.head _))))) rfl hb2 rfl (sk (sk (sk (sd (sd s0))))) (oS [pI r8.n, pI r8.d, pI r12.n, pI r12.d] ty_75 rfl rfl rfl rfl rfl rfl (.tail _ (.tail _ (.tail _ (.head _)))) rfl hb3 rfl (sk (sk (sk (sd (sd s0))))) (fl J (W_ret (ret2 rfl (.inr rfl) (resP rfl m4 ty_74 rfl) (resP rfl m3 ty_75 rfl) ?_))))⟩)
  exact (by subst hr12; subst hr10; subst hr9; subst hr8; subst hr6; subst hr5; rfl)
 ·skip
  refine oS [ci .i64 ((((ao_ a).1).x).1), ci .i64 ((((ao_ a).1).y).1), ci .i64 ((((ao_ a).1).z).1), ci .i64 ((((ao_ a).2).x).1), ci .i64 ((((ao_ a).2).y).1), ci .i64 ((((ao_ a).2).z).1)] ty_74 rfl rfl rfl rfl rfl rfl (.tail _ (.tail _ (.tail _ (.tail _ (.head _))))) rfl hb2 rfl (sk (sk (sk (sd (sd s0))))) (pQ rfl (qL ty_75 rfl m3 rfl) (oS [pI r8.n, pI r8.d, pI r12.n, pI r12.d] ty_75 rfl rfl rfl rfl rfl rfl (.tail _ (.tail _ (.tail _ (.head _)))) rfl hb3 rfl (sk (sk (sk (sd (sd s0))))) (fl J (W_ret (ret2 rfl (.inr rfl) (resP rfl m4 ty_74 rfl) (resP rfl m3 ty_75 rfl) ?_)))))
  exact (by subst hr12; subst hr10; subst hr9; subst hr8; subst hr6; subst hr5; rfl)

theorem eg_ (a : (A3 W)) (b : W) (w : World)  :
    Calls Tryz.prog 10 [AV [ci .i64 a.x.1, ci .i64 a.y.1, ci .i64 a.z.1], .int .i64 b.1].toArray w (fun e w' => ∃ v, e = .returned (.tuple #[v, .int .i64 (((af_ a b).2).1)]) ∧ Ext w w' ∧ Slfe w.heap.size w' elVr v (af_ a b).1) := by
 refine gR_ (n := 55) (fun v => .tuple #[v, .int .i64 (((af_ a b).2).1)]) Tryz.func10 rfl rfl (by simp) ?_
 obtain ⟨w0, rfl⟩ : ∃ w0, w0 = w := ⟨_, rfl⟩
 simp only [initF, Nat.reduceAdd]
 refine Rs fun K J => WL_r rfl (a1_ rfl rfl (fun b1 hb1 => sE rfl (sE rfl (nl J (Sq fun K1 J1 => Rs fun K J => sQ (qL ty_23 rfl m0 rfl) rfl (sE rfl (sQ (q_ret en_42 (eQ_ a b) rfl) rfl (sE rfl (nl J ?_)))))))))
 rcases bt (b8_ a b) with h2 | h2
 ·skip
  refine W_f (not_f h2) rfl (ak_ (J1 _ _ (Rs fun K J => sQ (qL ty_23 rfl m0 rfl) rfl ?_)))
  obtain ⟨r3, hr3⟩ := nm ((cd_ a) : (A3 Rt))
  refine sC (AV [pI r3.x.n, pI r3.x.d, pI r3.y.n, pI r3.y.d, pI r3.z.n, pI r3.z.d]) en_43 (d5_ a) rfl rfl (by rw [hr3]; first | done | rfl) (sN zp_41 rfl fun b4 hb4 => sS [pI r3.x.n, pI r3.x.d, pI r3.y.n, pI r3.y.d, pI r3.z.n, pI r3.z.d] ty_41 rfl rfl rfl rfl rfl (.head _) rfl hb4 (nl J (Sq fun K2 J2 => Rs fun K J => sE rfl (sE rfl (nl J ?_)))))
  rcases bt (b.1 == 0) with h5 | h5
  ·skip
   refine W_t h5 rfl (Rs fun K J => sQ (qL ty_41 rfl m0 rfl) rfl (WL_r rfl (bi_ [[pI r3.x.n, pI r3.x.d, pI r3.y.n, pI r3.y.d, pI r3.z.n, pI r3.z.d]] [pI r3.x.n, pI r3.x.d, pI r3.y.n, pI r3.y.d, pI r3.z.n, pI r3.z.d] us_24 z_41 sz_41 rfl (by decide) rfl rfl ⟨rfl, rfl, rfl, trivial⟩ rfl (fun b6 hb6 => sE rfl (sE rfl (nl J (W_ret (ai_ (ret2 rfl (.inr rfl) rfl rfl ?_)))))))))
   have hE : (([r3], (wl 0)) : (List (A3 Rt)) × W) = (af_ a b) := by subst hr3; exact bif_t h2 (bif_t h5 rfl)
   rw [← hE]
   exact ⟨_, rfl, (SLfe.lit (e := elVr) (l := [r3]) hb6 m0 rfl (Nat.le_of_ble_eq_true rfl) rfl)⟩
  ·skip
   refine W_f h5 rfl (ak_ (J2 _ _ (Rs fun K J => sQ (qL ty_23 rfl m1 rfl) rfl (sE rfl ?_))))
   obtain ⟨r7, hr7⟩ := nm ((b5_ a b).1 : (A2 (A3 W)))
   obtain ⟨r8, hr8⟩ := nm ((b5_ a b).2 : (A2 Rt))
   refine sC (.tuple #[AV [ci .i64 r7.x.x.1, ci .i64 r7.x.y.1, ci .i64 r7.x.z.1, ci .i64 r7.y.x.1, ci .i64 r7.y.y.1, ci .i64 r7.y.z.1], AV [pI r8.x.n, pI r8.x.d, pI r8.y.n, pI r8.y.d]]) en_44 (g0_ a b) rfl rfl (by rw [hr7, hr8]; first | done | rfl) (sE rfl (sE rfl (sE rfl (sN zp_74 rfl fun b9 hb9 => sN zp_75 rfl fun b10 hb10 => sS [ci .i64 r7.x.x.1, ci .i64 r7.x.y.1, ci .i64 r7.x.z.1, ci .i64 r7.y.x.1, ci .i64 r7.y.y.1, ci .i64 r7.y.z.1] ty_74 rfl rfl rfl rfl rfl (.tail _ (.head _)) rfl hb9 (sS [pI r8.x.n, pI r8.x.d, pI r8.y.n, pI r8.y.d] ty_75 rfl rfl rfl rfl rfl (.head _) rfl hb10 (nl J (Rs fun K J => sE rfl (nl J (Sq fun K3 J3 => Rs fun K J => sE rfl (nl J (ar_ (W_un 4 (Un_s (fun K4 J4 => Rs fun K J => ?_))))))))))))))
   refine sV (.bool true) rfl rfl (nl J (Sq fun K5 J5 => bF_ rfl (ak_ (J5 _ _ (Sq fun K6 J6 => ar_ (Rs fun K J => sE rfl (sE rfl (nl J (ds (sk (sk (sk (sk (s0))))) [0,4,8,12,16,20,24,28,33,37] [9] mix (by kernel_rfl) (fun K J => pE rfl (pQ rfl (qA ar_75 rfl rfl rfl) (pQ rfl (qL ty_39 rfl m0 rfl) (pE rfl (pQ rfl (qA ar_74 rfl rfl rfl) (pQ rfl (qL ty_23 rfl m1 rfl) ?_)))))))))))))))
   obtain ⟨r11, hr11⟩ := nm ((cd_ r7.x) : (A3 Rt))
   refine pC (AV [pI r11.x.n, pI r11.x.d, pI r11.y.n, pI r11.y.d, pI r11.z.n, pI r11.z.d]) en_43 (d5_ r7.x) rfl rfl (by rw [hr11]; first | done | rfl) ?_
   obtain ⟨r12, hr12⟩ := nm ((b7_ r8.x r11) : (A3 Rt))
   refine pC (AV [pI r12.x.n, pI r12.x.d, pI r12.y.n, pI r12.y.d, pI r12.z.n, pI r12.z.d]) en_45 (eO_ r8.x r11) rfl rfl (by rw [hr12]; first | done | rfl) (PL_o rfl rfl (bk_ zp_41 (fun b13 hb13 => ⟨(fun _ => sd s0), (sd s0), oS [pI r12.x.n, pI r12.x.d, pI r12.y.n, pI r12.y.d, pI r12.z.n, pI r12.z.d] ty_41 rfl rfl rfl rfl rfl rfl (.head _) rfl hb13 rfl (sd s0) (fl J (dr sn [0,4,8,12,16,20,24,28,32,36,40,44,49,53,56] [13] mix (by kernel_rfl) (fun K J => pE rfl (pE rfl (pQ rfl (q_as (v' := .int .i64 (((([] : List (A3 Rt))).length : Nat) : Int)) (e7_ (e := elVr) sl_24 rfl (SLfe.sle SLfe.nil)) rfl) (pE rfl (pQ rfl (q_as (v' := .int .i64 (((([] : List (A3 Rt))).length : Nat) : Int)) (e7_ (e := elVr) sl_24 rfl (SLfe.sle SLfe.nil)) rfl) (pQ rfl (se_ sl_24 rfl rfl rfl) (pQ rfl (qL ty_41 rfl m3 rfl) (pQ rfl (qL ty_41 rfl m0 rfl) ?_))))))))))⟩)))
   obtain ⟨r14, hr14⟩ := nm ((cn_ r3 r12) : (A3 Rt))
   refine pC (AV [pI r14.x.n, pI r14.x.d, pI r14.y.n, pI r14.y.d, pI r14.z.n, pI r14.z.d]) en_46 (fa_ r3 r12) rfl rfl (by rw [hr14]; first | done | rfl) (pQ rfl (qL ty_41 rfl m3 rfl) (pQ rfl (qL ty_41 rfl m0 rfl) ?_))
   obtain ⟨r15, hr15⟩ := nm ((ct_ r3 r12) : (A3 Rt))
   refine pC (AV [pI r15.x.n, pI r15.x.d, pI r15.y.n, pI r15.y.d, pI r15.z.n, pI r15.z.d]) en_47 (fR_ r3 r12) rfl rfl (by rw [hr15]; first | done | rfl) (PL_o rfl rfl (bi_ [[pI r14.x.n, pI r14.x.d, pI r14.y.n, pI r14.y.d, pI r14.z.n, pI r14.z.d], [pI r15.x.n, pI r15.x.d, pI r15.y.n, pI r15.y.d, pI r15.z.n, pI r15.z.d]] [pI r14.x.n, pI r14.x.d, pI r14.y.n, pI r14.y.d, pI r14.z.n, pI r14.z.d, pI r15.x.n, pI r15.x.d, pI r15.y.n, pI r15.y.d, pI r15.z.n, pI r15.z.d] us_24 z_41 sz_41 rfl (by decide) rfl rfl ⟨rfl, rfl, rfl, rfl, rfl, rfl, trivial⟩ rfl (fun b16 hb16 => ⟨(fun _ => sd s0), sn, PL_o rfl rfl (dy_ (e := elVr) (l := ([] : List (A3 Rt))) (m := [r14, r15]) 408 us_24 (by kernel_rfl) (by decide) rfl rfl OwnG.nil (SLe.lit (e := elVr) (l := [r14, r15]) m0 rfl (Nat.le_of_ble_eq_true rfl) rfl) fq_n (Nat.le_of_ble_eq_true rfl) (by decide) (fun p17 c18 L19 hO20 => ⟨nf, sn, pE rfl (fl J (J6 _ _ (Rk fun K J => sV (.int .i64 1) rfl rfl (sE rfl (nl J (J4 _ _ (Un_s (fun K7 J7 => Rs fun K J => sV (.bool true) rfl rfl (nl J (Sq fun K8 J8 => bF_ rfl (ak_ (J8 _ _ (Sq fun K9 J9 => ?_)))))))))))))⟩))⟩)))
   refine ar_ (Rs fun K J => sE rfl (sE rfl (nl J (ds sn [0,4,8,12,16,20,24,28,33,37] [9] mix (by kernel_rfl) (fun K J => pE rfl (pQ rfl (qA ar_75 rfl rfl rfl) (pQ rfl (qL ty_39 rfl (List.mem_append_right _ (List.mem_cons_of_mem _ (List.mem_cons_of_mem _ (List.mem_cons_self)))) rfl) (pE rfl (pQ rfl (qA ar_74 rfl rfl rfl) (pQ rfl (qL ty_23 rfl (List.mem_append_right _ (List.mem_cons_of_mem _ (List.mem_cons_of_mem _ (List.mem_cons_of_mem _ (List.mem_cons_self))))) rfl) ?_))))))))))
   obtain ⟨r21, hr21⟩ := nm ((cd_ r7.y) : (A3 Rt))
   refine pC (AV [pI r21.x.n, pI r21.x.d, pI r21.y.n, pI r21.y.d, pI r21.z.n, pI r21.z.d]) en_43 (d5_ r7.y) rfl rfl (by rw [hr21]; first | done | rfl) ?_
   obtain ⟨r22, hr22⟩ := nm ((b7_ r8.y r21) : (A3 Rt))
   refine pC (AV [pI r22.x.n, pI r22.x.d, pI r22.y.n, pI r22.y.d, pI r22.z.n, pI r22.z.d]) en_45 (eO_ r8.y r21) rfl rfl (by rw [hr22]; first | done | rfl) (PL_o rfl rfl (bk_ zp_41 (fun b23 hb23 => ⟨(fun _ => sd s0), sn, oS [pI r22.x.n, pI r22.x.d, pI r22.y.n, pI r22.y.d, pI r22.z.n, pI r22.z.d] ty_41 rfl rfl rfl rfl rfl rfl (.head _) rfl hb23 rfl sn (fl J (dr sn [0,4,8,12,16,20,24,28,32,36,40,44,49,53,56] [13] mix (by kernel_rfl) (fun K J => pE rfl (pE rfl (pQ rfl (q_as (v' := .int .i64 ((((([] : List (A3 Rt)) ++ [r14, r15])).length : Nat) : Int)) (e7_ (e := elVr) sl_24 rfl (SLfe.sle (OwnG.slfe hO20 (sd (List.sublist_append_left _ _))))) rfl) (pE rfl (pQ rfl (q_as (v' := .int .i64 ((((([] : List (A3 Rt)) ++ [r14, r15])).length : Nat) : Int)) (e7_ (e := elVr) sl_24 rfl (SLfe.sle (OwnG.slfe hO20 (sd (List.sublist_append_left _ _))))) rfl) (pQ rfl (q_sl3 (e := elVr) (l := (([] : List (A3 Rt)) ++ [r14, r15])) sl_24 rfl rfl rfl (SLfe.sle (OwnG.slfe hO20 (sd (List.sublist_append_left _ _))))) (pQ rfl (qL ty_41 rfl (List.mem_cons_of_mem _ (List.mem_append_right _ (List.mem_cons_of_mem _ (List.mem_cons_of_mem _ (List.mem_cons_of_mem _ (List.mem_cons_of_mem _ (List.mem_cons_self))))))) rfl) (pQ rfl (qL ty_41 rfl m0 rfl) ?_))))))))))⟩)))
   obtain ⟨r24, hr24⟩ := nm ((cn_ r3 r22) : (A3 Rt))
   refine pC (AV [pI r24.x.n, pI r24.x.d, pI r24.y.n, pI r24.y.d, pI r24.z.n, pI r24.z.d]) en_46 (fa_ r3 r22) rfl rfl (by rw [hr24]; first | done | rfl) (pQ rfl (qL ty_41 rfl (List.mem_cons_of_mem _ (List.mem_append_right _ (List.mem_cons_of_mem _ (List.mem_cons_of_mem _ (List.mem_cons_of_mem _ (List.mem_cons_of_mem _ (List.mem_cons_self))))))) rfl) (pQ rfl (qL ty_41 rfl m0 rfl) ?_))
   obtain ⟨r25, hr25⟩ := nm ((ct_ r3 r22) : (A3 Rt))
   refine pC (AV [pI r25.x.n, pI r25.x.d, pI r25.y.n, pI r25.y.d, pI r25.z.n, pI r25.z.d]) en_47 (fR_ r3 r22) rfl rfl (by rw [hr25]; first | done | rfl) (PL_o rfl rfl (bi_ [[pI r24.x.n, pI r24.x.d, pI r24.y.n, pI r24.y.d, pI r24.z.n, pI r24.z.d], [pI r25.x.n, pI r25.x.d, pI r25.y.n, pI r25.y.d, pI r25.z.n, pI r25.z.d]] [pI r24.x.n, pI r24.x.d, pI r24.y.n, pI r24.y.d, pI r24.z.n, pI r24.z.d, pI r25.x.n, pI r25.x.d, pI r25.y.n, pI r25.y.d, pI r25.z.n, pI r25.z.d] us_24 z_41 sz_41 rfl (by decide) rfl rfl ⟨rfl, rfl, rfl, rfl, rfl, rfl, trivial⟩ rfl (fun b26 hb26 => ⟨(fun _ => sd s0), sn, PL_o rfl rfl (mx_ (e := elVr) (l := (([] : List (A3 Rt)) ++ [r14, r15])) (m := [r24, r25]) 408 us_24 (by kernel_rfl) (by decide) rfl rfl (SLe.full (SLfe.sle (OwnG.slfe hO20 (sd (sd (List.sublist_append_left _ _))))) (.inl (Nat.le_of_ble_eq_true rfl))) (Nat.le_of_ble_eq_true rfl) (SLe.lit (e := elVr) (l := [r24, r25]) m0 rfl (Nat.le_of_ble_eq_true rfl) rfl) (Nat.le_of_ble_eq_true rfl) (Nat.le_of_ble_eq_true rfl) (by decide) (fun p27 c28 L29 hO30 => ⟨nf, sn, pE rfl (fl J (J9 _ _ (Rk fun K J => sV (.int .i64 2) rfl rfl (sE rfl (nl J (J7 _ _ (Un_s (fun K10 J10 => Rs fun K J => sV (.bool false) rfl rfl (nl J (Sq fun K11 J11 => by_ rfl (bB_ (ax_ (ax_ (aF_ (J3 _ _ (Rs fun K J => ?_))))))))))))))))⟩))⟩)))
   refine sE rfl (sE rfl (sE rfl (nl J (W_ret (ret2 rfl (.inr rfl) rfl rfl ?_)))))
   have hE : ((((([] : List (A3 Rt)) ++ [r14, r15]) ++ [r24, r25]), (wl 0)) : (List (A3 Rt)) × W) = (af_ a b) := by subst hr25; subst hr24; subst hr22; subst hr21; subst hr15; subst hr14; subst hr12; subst hr11; subst hr8; subst hr7; subst hr3; exact bif_t h2 (bif_f h5 rfl)
   rw [← hE]
   exact ⟨_, rfl, (OwnG.slfe hO30 (List.sublist_append_left _ _))⟩
 ·skip
  refine W_t (not_t h2) rfl (Rs fun K J => sE rfl (sE rfl (nl J (W_ret (ai_ (ret2 rfl (.inr rfl) rfl rfl ?_))))))
  have hE : ((([] : List (A3 Rt)), (wl 1)) : (List (A3 Rt)) × W) = (af_ a b) := by exact bif_f h2 rfl
  rw [← hE]
  exact ⟨_, rfl, SLfe.nil⟩

theorem h9_ (a : (A3 Rt)) :
    Ret Tryz.prog 68 [AV [pI a.x.n, pI a.x.d, pI a.y.n, pI a.y.d, pI a.z.n, pI a.z.d]] (AV [pI ((em_ a).n), pI ((em_ a).d)]) := by
 refine av_ (N := 6) Tryz.func68 rfl rfl (by simp) (fun w0 => ?_)
 simp only [initF, Nat.reduceAdd]
 refine Rs fun K J => WL_r rfl (a1_ rfl rfl (fun b1 hb1 => sN zp_39 rfl fun b2 hb2 => nl J (Rs fun K J => sQ (qL ty_41 rfl m1 rfl) rfl (sQ (qL ty_41 rfl m1 rfl) rfl (sQ (q_ret o1_ (fP_ a a) rfl) rfl (sS [pI ((df_ a a).n), pI ((df_ a a).d)] ty_39 rfl rfl rfl rfl rfl (.head _) rfl hb2 (nl J (W_ret (ret1 rfl (.inr rfl) (resP rfl m0 ty_39 rfl) ?_)))))))))
 exact (by rfl)

theorem fb_ (a : (A3 W)) (b : W) (c : (A3 Rt)) :
    Ret Tryz.prog 17 [AV [ci .i64 a.x.1, ci .i64 a.y.1, ci .i64 a.z.1], .int .i64 b.1, AV [pI c.x.n, pI c.x.d, pI c.y.n, pI c.y.d, pI c.z.n, pI c.z.d]] (.bool (dd_ a b c)) := by
 refine av_ (N := 39) Tryz.func17 rfl rfl (by simp) (fun w0 => ?_)
 simp only [initF, Nat.reduceAdd]
 refine Rs fun K J => WL_r rfl (a1_ rfl rfl (fun b1 hb1 => WL_r rfl (a1_ rfl rfl (fun b2 hb2 => sE rfl (nl J (Rs fun K J => sQ (qL ty_23 rfl m1 rfl) rfl (sQ (qL ty_41 rfl m0 rfl) rfl (sQ (q_ret en_58 (gg_ a c) rfl) rfl (sN zp_39 rfl fun b3 hb3 => sS [pI ((bG_ a c).n), pI ((bG_ a c).d)] ty_39 rfl rfl rfl rfl rfl (.head _) rfl hb3 (nl J (Sq fun K1 J1 => ?_)))))))))))
 refine bQ_ [12, 13, 14, 15, 16, 17, 18, 19, 20] (fun g M => (g 20 = .bool (!(b8_ a b) || decide ((aL_ (bG_ a c)).1 < 0))) ∧ M = [⟨b3, 39, flat [pI ((bG_ a c).n), pI ((bG_ a c).d)]⟩, ⟨b2, 41, flat [pI c.x.n, pI c.x.d, pI c.y.n, pI c.y.d, pI c.z.n, pI c.z.d]⟩, ⟨b1, 23, flat [ci .i64 a.x.1, ci .i64 a.y.1, ci .i64 a.z.1]⟩]) (fun K2 J2 => ?_) ?_
 ·skip
  refine Rk fun K J => sQ (qL ty_23 rfl m2 rfl) rfl (sE rfl (sQ (q_ret en_42 (eQ_ a b) rfl) rfl (sE rfl ?_)))
  rcases bt (b8_ a b) with h5 | h5
  ·skip
   refine sB (not_f h5) rfl (sQ (qL ty_39 rfl m0 rfl) rfl (sQ (q_ret en_63 (a8_ (bG_ a c)) rfl) rfl (sE rfl (sE rfl (nl J ?_)))))
   refine J2 _ _ (by repeat first | exact .refl | refine .cons rfl ?_) ⟨_, s0, ?s20, rfl⟩
   case s20 => exact congrArg Value.bool (nor_t h5 rfl)
  ·skip
   refine sB (not_t h5) rfl (WL_n rfl (WL_n rfl (WL_n rfl (sE rfl (nl J ?_)))))
   refine J2 _ _ (by repeat first | exact .refl | refine .cons rfl ?_) ⟨_, s0, ?s20, rfl⟩
   case s20 => exact congrArg Value.bool (nor_f h5)
 ·skip
  rintro g6 M ⟨hg20, rfl⟩
  simp only [setG, hg20]
  clear hg20
  rcases bt (!(b8_ a b) || decide ((aL_ (bG_ a c)).1 < 0)) with h7 | h7
  ·skip
   refine W_t h7 rfl (Rs fun K J => sE rfl (nl J (W_ret (ai_ (ret1 rfl (.inr rfl) rfl ?_)))))
   exact (by exact congrArg (fun r : Bool => (.bool r : Value)) (show _ = (dd_ a b c) from bif_t h7 rfl))
  ·skip
   refine W_f h7 rfl (ak_ (J1 _ _ (ds (sk (sk (sk (s0)))) [0,4,8,12,16,20,24,29,33] [8] mix (by kernel_rfl) (fun K J => pQ rfl (q_ret en_62 (cg_ (wl 1000000)) rfl) ?_))))
   refine pQ rfl (qL ty_41 rfl m1 rfl) (pQ rfl (qL ty_23 rfl m2 rfl) ?_)
   obtain ⟨r8, hr8⟩ := nm ((cd_ a) : (A3 Rt))
   refine pC (AV [pI r8.x.n, pI r8.x.d, pI r8.y.n, pI r8.y.d, pI r8.z.n, pI r8.z.d]) en_43 (d5_ a) rfl rfl (by rw [hr8]; first | done | rfl) ?_
   obtain ⟨r9, hr9⟩ := nm ((dg_ c r8) : (A3 Rt))
   refine pC (AV [pI r9.x.n, pI r9.x.d, pI r9.y.n, pI r9.y.d, pI r9.z.n, pI r9.z.d]) en_69 (hF_ c r8) rfl rfl (by rw [hr9]; first | done | rfl) (pQ rfl (q_ret en_68 (h9_ r9) rfl) ?_)
   obtain ⟨r10, hr10⟩ := nm ((aE_ (aa_ (wl 1000000)) (em_ r9)) : Rt)
   refine pC (AV [pI r10.n, pI r10.d]) en_67 (b3_ (aa_ (wl 1000000)) (em_ r9)) rfl rfl (by rw [hr10]; first | done | rfl) ?_
   refine PL_o rfl rfl (bk_ zp_39 (fun b11 hb11 => ⟨(fun _ => sd s0), (sd s0), oS [pI r10.n, pI r10.d] ty_39 rfl rfl rfl rfl rfl rfl (.head _) rfl hb11 rfl (sd s0) (fl J (ds (sk (sk (sk (sk (s0))))) [0,4,8,12,16,20,24,28,32,36,40,44] [] mix (by kernel_rfl) (fun K J => pQ rfl (qL ty_39 rfl m0 rfl) (pE rfl (pE rfl (pV (.int .i64 ((W.mul b b).1)) rfl rfl (pQ rfl (q_ret en_62 (cg_ (W.mul b b)) rfl) (pQ rfl (qL ty_39 rfl m1 rfl) (pQ rfl (qL ty_39 rfl m1 rfl) ?_)))))))))⟩))
   obtain ⟨r12, hr12⟩ := nm ((aE_ (bG_ a c) (bG_ a c)) : Rt)
   refine pC (AV [pI r12.n, pI r12.d]) en_67 (b3_ (bG_ a c) (bG_ a c)) rfl rfl (by rw [hr12]; first | done | rfl) ?_
   obtain ⟨r13, hr13⟩ := nm ((aE_ (aa_ (W.mul b b)) r12) : Rt)
   refine pC (AV [pI r13.n, pI r13.d]) en_67 (b3_ (aa_ (W.mul b b)) r12) rfl rfl (by rw [hr13]; first | done | rfl) (pQ rfl (q_ret en_70 (jp_ r10 r13) rfl) (pE rfl (pE rfl (fl J (W_ret (ret1 rfl (.inr rfl) rfl ?_))))))
   exact (by subst hr13; subst hr12; subst hr10; subst hr9; subst hr8; exact congrArg (fun r : Bool => (.bool r : Value)) (show _ = (dd_ a b c) from bif_f h7 rfl))

theorem dP_ (a : (A3 W)) (f : (A3 Rt)) (c0 T0 : Nat) (w : World) (hc0 : w.heap[c0]? = some (.cells (flat [pI f.x.n, pI f.x.d, pI f.y.n, pI f.y.d, pI f.z.n, pI f.z.d]).toArray T0 (0, 0))) :
    Calls Tryz.prog 56 [AV [ci .i64 a.x.1, ci .i64 a.y.1, ci .i64 a.z.1], .pointer (some ⟨c0, 0, none⟩)].toArray w (fun e w' => e = .returned (AV [pI ((as_ a f).n), pI ((as_ a f).d)]) ∧ Ext w w') := by
 refine di_ (N := 13) Tryz.func56 rfl rfl (by simp) ?_
 obtain ⟨w0, rfl⟩ : ∃ w0, w0 = w := ⟨_, rfl⟩
 simp only [initF, Nat.reduceAdd]
 refine Rs fun K J => WL_r rfl (a1_ rfl rfl (fun b1 hb1 => sN zp_39 rfl fun b2 hb2 => nl J (ds (sd (sk (s0))) [0,4,8,12,16,20,24,28,32,37] [9] mix (by kernel_rfl) (fun K J => pQ rfl (qL ty_23 rfl m1 rfl) (pQ rfl (oc_ ty_41 rfl hc0 (by simp) rfl) ?_)))))
 refine pQ rfl (q_ret en_58 (gg_ a f) rfl) (pQ rfl (qL ty_23 rfl m1 rfl) (pQ rfl (qL ty_23 rfl m1 rfl) (pQ rfl (q_ret en_60 (eD_ a a) rfl) (pC (AV [pI (E (Z.of 1))]) en_61 (bJ_ (wl 1).1 (wl 1).2) rfl rfl rfl ?_))))
 obtain ⟨r3, hr3⟩ := nm ((ap_ (bc_ a a) (E (Z.of 1))) : Rt)
 refine pC (AV [pI r3.n, pI r3.d]) en_59 (c1_ (bc_ a a) (E (Z.of 1))) rfl rfl (by rw [hr3]; first | done | rfl) (pQ rfl (q_ret en_57 (cm_ (bG_ a f) r3) rfl) (oS [pI ((ab_ (bG_ a f) r3).n), pI ((ab_ (bG_ a f) r3).d)] ty_39 rfl rfl rfl rfl rfl rfl (.head _) rfl hb2 rfl (sd s0) (fl J (W_ret (ret1 rfl (.inr rfl) (resP rfl m0 ty_39 rfl) ?_)))))
 exact (by subst hr3; rfl)

theorem eB_ (a : (A3 W)) (b : W) (c : (A3 Rt)) (w : World)  :
    Calls Tryz.prog 16 [AV [ci .i64 a.x.1, ci .i64 a.y.1, ci .i64 a.z.1], .int .i64 b.1, AV [pI c.x.n, pI c.x.d, pI c.y.n, pI c.y.d, pI c.z.n, pI c.z.d]].toArray w (fun e w' => ∃ v, e = .returned (.tuple #[v, .bool ((aM_ a b c).2)]) ∧ Ext w w' ∧ Slfe w.heap.size w' elRt v (aM_ a b c).1) := by
 refine gR_ (n := 98) (fun v => .tuple #[v, .bool ((aM_ a b c).2)]) Tryz.func16 rfl rfl (by simp) ?_
 obtain ⟨w0, rfl⟩ : ∃ w0, w0 = w := ⟨_, rfl⟩
 simp only [initF, Nat.reduceAdd]
 refine Rs fun K J => WL_r rfl (a1_ rfl rfl (fun b1 hb1 => WL_r rfl (a1_ rfl rfl (fun b2 hb2 => sE rfl (sE rfl (nl J (Sq fun K1 J1 => Rs fun K J => sQ (qL ty_23 rfl m1 rfl) rfl (sE rfl (sQ (q_ret en_42 (eQ_ a b) rfl) rfl (sE rfl (nl J ?_)))))))))))
 rcases bt (b8_ a b) with h3 | h3
 ·skip
  refine W_f (not_f h3) rfl (ak_ (J1 _ _ (Rs fun K J => sQ (sf_ rfl rfl) rfl (sE rfl (nl J (Rs fun K J => sE rfl (sQ (qL ty_23 rfl m1 rfl) rfl (sQ (h4_ en_56 rfl rfl (fun w hw => dP_ a c _ _ w (hw.mem _ m0))) rfl (sN zp_39 rfl fun b4 hb4 => sS [pI ((as_ a c).n), pI ((as_ a c).d)] ty_39 rfl rfl rfl rfl rfl (.head _) rfl hb4 (nl J (Rs fun K J => sQ (q_ret en_62 (cg_ (wl 0)) rfl) rfl ?_)))))))))))
  refine sN zp_39 rfl fun b5 hb5 => sS [pI ((aa_ (wl 0)).n), pI ((aa_ (wl 0)).d)] ty_39 rfl rfl rfl rfl rfl (.head _) rfl hb5 ?_
  refine nl J (Rs fun K J => sQ (qL ty_23 rfl m3 rfl) rfl (sE rfl ?_))
  obtain ⟨r6, hr6⟩ := nm ((b5_ a b).1 : (A2 (A3 W)))
  obtain ⟨r7, hr7⟩ := nm ((b5_ a b).2 : (A2 Rt))
  refine sC (.tuple #[AV [ci .i64 r6.x.x.1, ci .i64 r6.x.y.1, ci .i64 r6.x.z.1, ci .i64 r6.y.x.1, ci .i64 r6.y.y.1, ci .i64 r6.y.z.1], AV [pI r7.x.n, pI r7.x.d, pI r7.y.n, pI r7.y.d]]) en_44 (g0_ a b) rfl rfl (by rw [hr6, hr7]; first | done | rfl) (sE rfl (sE rfl (sE rfl (sN zp_74 rfl fun b8 hb8 => sN zp_75 rfl fun b9 hb9 => sS [ci .i64 r6.x.x.1, ci .i64 r6.x.y.1, ci .i64 r6.x.z.1, ci .i64 r6.y.x.1, ci .i64 r6.y.y.1, ci .i64 r6.y.z.1] ty_74 rfl rfl rfl rfl rfl (.tail _ (.head _)) rfl hb8 (sS [pI r7.x.n, pI r7.x.d, pI r7.y.n, pI r7.y.d] ty_75 rfl rfl rfl rfl rfl (.head _) rfl hb9 (nl J (Rs fun K J => sE rfl (nl J (Sq fun K2 J2 => Rs fun K J => sE rfl (nl J (ar_ (W_un 4 (Un_s (fun K3 J3 => Rs fun K J => ?_))))))))))))))
  refine sV (.bool true) rfl rfl (nl J (Sq fun K4 J4 => bF_ rfl (ak_ (J4 _ _ (Sq fun K5 J5 => ar_ (Rs fun K J => sE rfl (sE rfl (nl J (Rs fun K J => sE rfl (sE rfl (sQ (qA ar_74 rfl rfl rfl) rfl (sQ (qL ty_23 rfl m1 rfl) rfl (sQ (h4_ en_56 rfl rfl (fun w hw => dP_ r6.x c _ _ w (hw.mem _ m4))) rfl (sN zp_39 rfl fun b10 hb10 => sS [pI ((as_ r6.x c).n), pI ((as_ r6.x c).d)] ty_39 rfl rfl rfl rfl rfl (.head _) rfl hb10 ?_))))))))))))))
  refine nl J (Rs fun K J => sQ (qL ty_39 rfl m3 rfl) rfl (sN zp_39 rfl fun b11 hb11 => sS [pI ((aa_ (wl 0)).n), pI ((aa_ (wl 0)).d)] ty_39 rfl rfl rfl rfl rfl (.head _) rfl hb11 ?_))
  refine nl J (Sq fun K6 J6 => Rs fun K J => sQ (qL ty_39 rfl m1 rfl) rfl (sQ (q_ret en_63 (a8_ (as_ r6.x c)) rfl) rfl (sE rfl (nl J ?_))))
  rcases bt ((aL_ (as_ r6.x c)).1 != 0) with h12 | h12
  ·skip
   refine W_t h12 rfl (Sq fun K7 J7 => Rs fun K J => sE rfl (sQ (qA ar_75 rfl rfl rfl) rfl (sQ (qL ty_39 rfl m2 rfl) rfl (sQ (q_ret en_63 (a8_ r7.x) rfl) rfl (sE rfl (nl J ?_))))))
   rcases bt ((aL_ r7.x).1 == 0) with h13 | h13
   ·skip
    refine W_t h13 rfl (Rs fun K J => sE rfl (sE rfl (nl J (W_ret (ai_ (ai_ (aB_ (ai_ (ai_ (aB_ (ai_ (ret2 rfl (.inr rfl) rfl rfl ?_))))))))))))
    have hE : ((([] : List Rt), false) : (List Rt) × Bool) = (aM_ a b c) := by subst hr7; subst hr6; exact bif_t h3 (bif_t h12 (bif_t h13 rfl))
    rw [← hE]
    exact ⟨_, rfl, SLfe.nil⟩
   ·skip
    refine W_f h13 rfl (ak_ (J7 _ _ (dr (sd (sk (sk (sk (sk (sk (sk (sk (s0))))))))) [0,4,8,12,16,20,25] [6] mix (by kernel_rfl) (fun K J => pQ rfl (qL ty_39 rfl m1 rfl) ?_))))
    obtain ⟨r14, hr14⟩ := nm ((c6_ (as_ r6.x c)) : Rt)
    refine pC (AV [pI r14.n, pI r14.d]) en_64 (eW_ (as_ r6.x c)) rfl rfl (by rw [hr14]; first | done | rfl) (pE rfl (pQ rfl (qA ar_75 rfl rfl rfl) (pQ rfl (qL ty_39 rfl m2 rfl) (pQ rfl (q_ret en_57 (cm_ r14 r7.x) rfl) (oS [pI ((ab_ r14 r7.x).n), pI ((ab_ r14 r7.x).d)] ty_39 rfl rfl rfl rfl rfl rfl (.head _) rfl hb11 rfl (sd s0) (fl J (J6 _ _ (Rs fun K J => sQ (qL ty_39 rfl m5 rfl) rfl (sQ (qL ty_39 rfl m0 rfl) rfl ?_)))))))))
    obtain ⟨r15, hr15⟩ := nm ((ah_ (as_ a c) (ab_ r14 r7.x)) : Rt)
    refine sC (AV [pI r15.n, pI r15.d]) en_65 (cl_ (as_ a c) (ab_ r14 r7.x)) rfl rfl (by rw [hr15]; first | done | rfl) (sS [pI r15.n, pI r15.d] ty_39 rfl rfl rfl rfl rfl (.tail _ (.tail _ (.tail _ (.tail _ (.tail _ (.head _)))))) rfl hb4 (nl J (Rs fun K J => sQ (qL ty_39 rfl m1 rfl) rfl (sQ (q_ret en_63 (a8_ (as_ r6.x c)) rfl) rfl (sE rfl (nl J ?_))))))
    rcases bt (decide (0 ≤ (aL_ (as_ r6.x c)).1)) with h16 | h16
    ·skip
     refine W_t h16 rfl (Rk fun K J => sE rfl (sQ (qL ty_39 rfl m0 rfl) rfl (sQ (qL ty_39 rfl m4 rfl) rfl (WL_r rfl (bi_ [[pI ((ab_ r14 r7.x).n), pI ((ab_ r14 r7.x).d)], [pI ((aa_ (wl 0)).n), pI ((aa_ (wl 0)).d)]] [pI ((ab_ r14 r7.x).n), pI ((ab_ r14 r7.x).d), pI ((aa_ (wl 0)).n), pI ((aa_ (wl 0)).d)] us_43 z_39 sz_39 rfl (by decide) rfl rfl ⟨rfl, rfl, rfl, rfl, rfl, rfl, trivial⟩ rfl (fun b17 hb17 => ?_))))))
     refine WL_r rfl (dy_ (e := elRt) (l := ([] : List Rt)) (m := [(ab_ r14 r7.x), (aa_ (wl 0))]) 136 us_43 (by kernel_rfl) (by decide) rfl rfl OwnG.nil (SLe.lit (e := elRt) (l := [(ab_ r14 r7.x), (aa_ (wl 0))]) m0 rfl (Nat.le_of_ble_eq_true rfl) rfl) fq_n (Nat.le_of_ble_eq_true rfl) (by decide) (fun p18 c19 L20 hO21 => ?_))
     refine sE rfl (nl J (J5 _ _ (Rk fun K J => sV (.int .i64 1) rfl rfl (sE rfl (nl J (J3 _ _ (Un_s (fun K8 J8 => Rs fun K J => sV (.bool true) rfl rfl (nl J (Sq fun K9 J9 => bF_ rfl (ak_ (J9 _ _ (Sq fun K10 J10 => ar_ (Rs fun K J => sE rfl ?_))))))))))))))
     refine sE rfl (nl J (Rs fun K J => sE rfl (sE rfl (sQ (qA ar_74 rfl rfl rfl) rfl (sQ (qL ty_23 rfl (List.mem_append_right _ (List.mem_cons_of_mem _ (List.mem_cons_of_mem _ (List.mem_cons_of_mem _ (List.mem_cons_of_mem _ (List.mem_cons_self)))))) rfl) rfl (sQ (h4_ en_56 rfl rfl (fun w hw => dP_ r6.y c _ _ w (hw.mem _ (List.mem_append_right _ (List.mem_cons_of_mem _ (List.mem_cons_of_mem _ (List.mem_cons_of_mem _ (List.mem_cons_of_mem _ (List.mem_cons_of_mem _ (List.mem_cons_of_mem _ (List.mem_cons_of_mem _ (List.mem_cons_self)))))))))))) rfl (sN zp_39 rfl fun b22 hb22 => sS [pI ((as_ r6.y c).n), pI ((as_ r6.y c).d)] ty_39 rfl rfl rfl rfl rfl (.head _) rfl hb22 (nl J (Rs fun K J => sQ (qL ty_39 rfl (List.mem_cons_of_mem _ (List.mem_append_right _ (List.mem_cons_of_mem _ (List.mem_cons_of_mem _ (List.mem_cons_of_mem _ (List.mem_cons_of_mem _ (List.mem_cons_of_mem _ (List.mem_cons_self)))))))) rfl) rfl (sN zp_39 rfl fun b23 hb23 => sS [pI ((aa_ (wl 0)).n), pI ((aa_ (wl 0)).d)] ty_39 rfl rfl rfl rfl rfl (.head _) rfl hb23 ?_))))))))))
     refine nl J (Sq fun K11 J11 => Rs fun K J => sQ (qL ty_39 rfl m1 rfl) rfl (sQ (q_ret en_63 (a8_ (as_ r6.y c)) rfl) rfl (sE rfl (nl J ?_))))
     rcases bt ((aL_ (as_ r6.y c)).1 != 0) with h24 | h24
     ·skip
      refine W_t h24 rfl (Sq fun K12 J12 => Rs fun K J => sE rfl (sQ (qA ar_75 rfl rfl rfl) rfl (sQ (qL ty_39 rfl (List.mem_cons_of_mem _ (List.mem_cons_of_mem _ (List.mem_append_right _ (List.mem_cons_of_mem _ (List.mem_cons_of_mem _ (List.mem_cons_of_mem _ (List.mem_cons_self))))))) rfl) rfl (sQ (q_ret en_63 (a8_ r7.y) rfl) rfl (sE rfl (nl J ?_))))))
      rcases bt ((aL_ r7.y).1 == 0) with h25 | h25
      ·skip
       refine W_t h25 rfl (Rs fun K J => sE rfl (sE rfl (nl J (W_ret (ai_ (ai_ (aB_ (ai_ (ai_ (aB_ (ai_ (ret2 rfl (.inr rfl) rfl rfl ?_))))))))))))
       have hE : ((([] : List Rt), false) : (List Rt) × Bool) = (aM_ a b c) := by subst hr15; subst hr14; subst hr7; subst hr6; exact bif_t h3 (bif_t h12 (bif_f h13 (bif_t h16 (bif_t h24 (bif_t h25 rfl)))))
       rw [← hE]
       exact ⟨_, rfl, SLfe.nil⟩
      ·skip
       refine W_f h25 rfl (ak_ (J12 _ _ (dr sn [0,4,8,12,16,20,25] [6] mix (by kernel_rfl) (fun K J => pQ rfl (qL ty_39 rfl m1 rfl) ?_))))
       obtain ⟨r26, hr26⟩ := nm ((c6_ (as_ r6.y c)) : Rt)
       refine pC (AV [pI r26.n, pI r26.d]) en_64 (eW_ (as_ r6.y c)) rfl rfl (by rw [hr26]; first | done | rfl) (pE rfl (pQ rfl (qA ar_75 rfl rfl rfl) (pQ rfl (qL ty_39 rfl (List.mem_cons_of_mem _ (List.mem_cons_of_mem _ (List.mem_append_right _ (List.mem_cons_of_mem _ (List.mem_cons_of_mem _ (List.mem_cons_of_mem _ (List.mem_cons_self))))))) rfl) (pQ rfl (q_ret en_57 (cm_ r26 r7.y) rfl) (oS [pI ((ab_ r26 r7.y).n), pI ((ab_ r26 r7.y).d)] ty_39 rfl rfl rfl rfl rfl rfl (.head _) rfl hb23 rfl sn (fl J (J11 _ _ (Rs fun K J => sQ (qL ty_39 rfl (List.mem_cons_of_mem _ (List.mem_cons_of_mem _ (List.mem_append_right _ (List.mem_cons_of_mem _ (List.mem_cons_of_mem _ (List.mem_cons_of_mem _ (List.mem_cons_of_mem _ (List.mem_cons_of_mem _ (List.mem_cons_of_mem _ (List.mem_cons_self)))))))))) rfl) rfl (sQ (qL ty_39 rfl m0 rfl) rfl (sQ (q_ret en_65 (cl_ r15 (ab_ r26 r7.y)) rfl) rfl (sS [pI ((ah_ r15 (ab_ r26 r7.y)).n), pI ((ah_ r15 (ab_ r26 r7.y)).d)] ty_39 rfl rfl rfl rfl rfl (.tail _ (.tail _ (Upd.left (.tail _ (.tail _ (.tail _ (.tail _ (.tail _ (.tail _ (.head _))))))) _))) rfl hb4 (nl J (Rs fun K J => sQ (qL ty_39 rfl m1 rfl) rfl (sQ (q_ret en_63 (a8_ (as_ r6.y c)) rfl) rfl (sE rfl (nl J ?_))))))))))))))))
       rcases bt (decide (0 ≤ (aL_ (as_ r6.y c)).1)) with h27 | h27
       ·skip
        refine W_t h27 rfl (Rk fun K J => sE rfl (sQ (qL ty_39 rfl m0 rfl) rfl (sQ (qL ty_39 rfl (List.mem_cons_of_mem _ (List.mem_cons_of_mem _ (List.mem_append_right _ (List.mem_cons_of_mem _ (List.mem_cons_of_mem _ (List.mem_cons_of_mem _ (List.mem_cons_of_mem _ (List.mem_cons_of_mem _ (List.mem_cons_self))))))))) rfl) rfl (WL_r rfl (bi_ [[pI ((ab_ r26 r7.y).n), pI ((ab_ r26 r7.y).d)], [pI ((aa_ (wl 0)).n), pI ((aa_ (wl 0)).d)]] [pI ((ab_ r26 r7.y).n), pI ((ab_ r26 r7.y).d), pI ((aa_ (wl 0)).n), pI ((aa_ (wl 0)).d)] us_43 z_39 sz_39 rfl (by decide) rfl rfl ⟨rfl, rfl, rfl, rfl, rfl, rfl, trivial⟩ rfl (fun b28 hb28 => ?_))))))
        refine WL_r rfl (dy_ (e := elRt) (l := (([] : List Rt) ++ [(ab_ r14 r7.x), (aa_ (wl 0))])) (m := [(ab_ r26 r7.y), (aa_ (wl 0))]) 136 us_43 (by kernel_rfl) (by decide) rfl rfl hO21 (SLe.lit (e := elRt) (l := [(ab_ r26 r7.y), (aa_ (wl 0))]) m0 rfl (Nat.le_of_ble_eq_true rfl) rfl) (fq_s (fq_s (fq_s fq_l))) (Nat.le_of_ble_eq_true rfl) (by decide) (fun p29 c30 L31 hO32 => ?_))
        refine sE rfl (nl J (J10 _ _ (Rk fun K J => sV (.int .i64 2) rfl rfl (sE rfl (nl J (J8 _ _ (Un_s (fun K13 J13 => Rs fun K J => sV (.bool false) rfl rfl (nl J (Sq fun K14 J14 => by_ rfl (bB_ (ax_ (ax_ (aF_ (J2 _ _ (Sq fun K15 J15 => Rs fun K J => sQ (qL ty_39 rfl (List.mem_append_right _ (List.mem_cons_of_mem _ (List.mem_cons_of_mem _ (List.mem_cons_of_mem _ (List.mem_cons_of_mem _ (List.mem_cons_of_mem _ (List.mem_cons_of_mem _ (List.mem_cons_of_mem _ (List.mem_cons_of_mem _ (List.mem_cons_of_mem _ (List.mem_cons_self))))))))))) rfl) rfl (sQ (q_ret en_63 (a8_ (ah_ r15 (ab_ r26 r7.y))) rfl) rfl ?_)))))))))))))))))
        refine sE rfl (nl J ?_)
        rcases bt (decide ((aL_ (ah_ r15 (ab_ r26 r7.y))).1 < 0)) with h33 | h33
        ·skip
         refine W_t h33 rfl (Rs fun K J => sE rfl (sE rfl (nl J (W_ret (ai_ (ret2 rfl (.inr rfl) rfl rfl ?_))))))
         have hE : ((([] : List Rt), false) : (List Rt) × Bool) = (aM_ a b c) := by subst hr26; subst hr15; subst hr14; subst hr7; subst hr6; exact bif_t h3 (bif_t h12 (bif_f h13 (bif_t h16 (bif_t h24 (bif_f h25 (bif_t h27 (bif_t h33 rfl)))))))
         rw [← hE]
         exact ⟨_, rfl, SLfe.nil⟩
        ·skip
         refine W_f h33 rfl (ak_ (J15 _ _ (Sq fun K16 J16 => Rs fun K J => sE rfl (sE rfl (nl J ?_)))))
         rcases bt (b.1 == 0) with h34 | h34
         ·skip
          refine W_t h34 rfl (Rs fun K J => sQ (qL ty_39 rfl (List.mem_append_right _ (List.mem_cons_of_mem _ (List.mem_cons_of_mem _ (List.mem_cons_of_mem _ (List.mem_cons_of_mem _ (List.mem_cons_of_mem _ (List.mem_cons_of_mem _ (List.mem_cons_of_mem _ (List.mem_cons_of_mem _ (List.mem_cons_of_mem _ (List.mem_cons_self))))))))))) rfl) rfl (WL_r rfl (bi_ [[pI ((ah_ r15 (ab_ r26 r7.y)).n), pI ((ah_ r15 (ab_ r26 r7.y)).d)]] [pI ((ah_ r15 (ab_ r26 r7.y)).n), pI ((ah_ r15 (ab_ r26 r7.y)).d)] us_43 z_39 sz_39 rfl (by decide) rfl rfl ⟨rfl, rfl, rfl, trivial⟩ rfl (fun b35 hb35 => sE rfl (sE rfl (nl J (W_ret (ai_ (ret2 rfl (.inr rfl) rfl rfl ?_)))))))))
          have hE : (([(ah_ r15 (ab_ r26 r7.y))], true) : (List Rt) × Bool) = (aM_ a b c) := by subst hr26; subst hr15; subst hr14; subst hr7; subst hr6; exact bif_t h3 (bif_t h12 (bif_f h13 (bif_t h16 (bif_t h24 (bif_f h25 (bif_t h27 (bif_f h33 (bif_t h34 rfl))))))))
          rw [← hE]
          exact ⟨_, rfl, (SLfe.lit (e := elRt) (l := [(ah_ r15 (ab_ r26 r7.y))]) hb35 m0 rfl (Nat.le_of_ble_eq_true rfl) rfl)⟩
         ·skip
          refine W_f h34 rfl (ak_ (J16 _ _ (ds sn [0,4,8,13,17] [4] mix (by kernel_rfl) (fun K J => pQ rfl (qL ty_39 rfl (List.mem_append_right _ (List.mem_cons_of_mem _ (List.mem_cons_of_mem _ (List.mem_cons_of_mem _ (List.mem_cons_of_mem _ (List.mem_cons_of_mem _ (List.mem_cons_of_mem _ (List.mem_cons_of_mem _ (List.mem_cons_of_mem _ (List.mem_cons_of_mem _ (List.mem_cons_self))))))))))) rfl) (pQ rfl (q_ret en_62 (cg_ (wl 2)) rfl) ?_)))))
          obtain ⟨r36, hr36⟩ := nm ((ab_ (ah_ r15 (ab_ r26 r7.y)) (aa_ (wl 2))) : Rt)
          refine pC (AV [pI r36.n, pI r36.d]) en_57 (cm_ (ah_ r15 (ab_ r26 r7.y)) (aa_ (wl 2))) rfl rfl (by rw [hr36]; first | done | rfl) ?_
          refine PL_o rfl rfl (bk_ zp_39 (fun b37 hb37 => ⟨(fun _ => sd s0), sn, oS [pI r36.n, pI r36.d] ty_39 rfl rfl rfl rfl rfl rfl (.head _) rfl hb37 rfl sn (fl J (ds sn [0,8,12,16,20,24,28,32,36,40,44,48,6,53,56,61] [13,15] mix (by kernel_rfl) (fun K J => pE rfl (pE rfl (pQ rfl (q_as (v' := .pointer (some (slb (.slice p29 ((([] : List Rt) ++ [(ab_ r14 r7.x), (aa_ (wl 0))]) ++ [(ab_ r26 r7.y), (aa_ (wl 0))]).length c30) (0 * 36 + 0)))) (br_ (e := elRt) (l := ((([] : List Rt) ++ [(ab_ r14 r7.x), (aa_ (wl 0))]) ++ [(ab_ r26 r7.y), (aa_ (wl 0))])) (k := 0) sl_43 rfl rfl (SLfe.sle (OwnG.slfe hO32 (sd (List.sublist_append_left _ _)))) (by first | exact Nat.le_of_ble_eq_true rfl | omega)) rfl) ?_)))))⟩))
          refine pQ rfl (q_ldG (e := elRt) (l := ((([] : List Rt) ++ [(ab_ r14 r7.x), (aa_ (wl 0))]) ++ [(ab_ r26 r7.y), (aa_ (wl 0))])) (k := 0) (o := 0) ty_39 rfl (SLfe.sle (OwnG.slfe hO32 (sd (List.sublist_append_left _ _)))) (bo_ Rt0 (by first | exact Nat.le_of_ble_eq_true rfl | omega)) rfl) ?_
          refine pQ rfl (qL ty_39 rfl m0 rfl) ?_
          obtain ⟨r38, hr38⟩ := nm ((aA_ (((([] : List Rt) ++ [(ab_ r14 r7.x), (aa_ (wl 0))]) ++ [(ab_ r26 r7.y), (aa_ (wl 0))]).getD 0 Rt0) r36) : Rt)
          refine pC (AV [pI r38.n, pI r38.d]) en_66 (bh_ (((([] : List Rt) ++ [(ab_ r14 r7.x), (aa_ (wl 0))]) ++ [(ab_ r26 r7.y), (aa_ (wl 0))]).getD 0 Rt0) r36) rfl rfl (by rw [hr38]; first | done | rfl) ?_
          refine pE rfl (pQ rfl (q_as (v' := .pointer (some (slb (.slice p29 ((([] : List Rt) ++ [(ab_ r14 r7.x), (aa_ (wl 0))]) ++ [(ab_ r26 r7.y), (aa_ (wl 0))]).length c30) (1 * 36 + 0)))) (br_ (e := elRt) (l := ((([] : List Rt) ++ [(ab_ r14 r7.x), (aa_ (wl 0))]) ++ [(ab_ r26 r7.y), (aa_ (wl 0))])) (k := 1) sl_43 rfl rfl (SLfe.sle (OwnG.slfe hO32 (sd (List.sublist_append_left _ _)))) (by first | exact Nat.le_of_ble_eq_true rfl | omega)) rfl) ?_)
          refine pQ rfl (q_ldG (e := elRt) (l := ((([] : List Rt) ++ [(ab_ r14 r7.x), (aa_ (wl 0))]) ++ [(ab_ r26 r7.y), (aa_ (wl 0))])) (k := 1) (o := 0) ty_39 rfl (SLfe.sle (OwnG.slfe hO32 (sd (List.sublist_append_left _ _)))) (bo_ Rt0 (by first | exact Nat.le_of_ble_eq_true rfl | omega)) rfl) ?_
          refine pQ rfl (qL ty_39 rfl m0 rfl) ?_
          obtain ⟨r39, hr39⟩ := nm ((aA_ (((([] : List Rt) ++ [(ab_ r14 r7.x), (aa_ (wl 0))]) ++ [(ab_ r26 r7.y), (aa_ (wl 0))]).getD 1 Rt0) r36) : Rt)
          refine pC (AV [pI r39.n, pI r39.d]) en_66 (bh_ (((([] : List Rt) ++ [(ab_ r14 r7.x), (aa_ (wl 0))]) ++ [(ab_ r26 r7.y), (aa_ (wl 0))]).getD 1 Rt0) r36) rfl rfl (by rw [hr39]; first | done | rfl) ?_
          refine pQ rfl (q_as (v' := .pointer (some (slb (.slice p29 ((([] : List Rt) ++ [(ab_ r14 r7.x), (aa_ (wl 0))]) ++ [(ab_ r26 r7.y), (aa_ (wl 0))]).length c30) (0 * 36 + 0)))) (br_ (e := elRt) (l := ((([] : List Rt) ++ [(ab_ r14 r7.x), (aa_ (wl 0))]) ++ [(ab_ r26 r7.y), (aa_ (wl 0))])) (k := 0) sl_43 rfl rfl (SLfe.sle (OwnG.slfe hO32 (sd (List.sublist_append_left _ _)))) (by first | exact Nat.le_of_ble_eq_true rfl | omega)) rfl) ?_
          refine tE rfl (PL_o rfl rfl (dl_ (e := elRt) (l := ((([] : List Rt) ++ [(ab_ r14 r7.x), (aa_ (wl 0))]) ++ [(ab_ r26 r7.y), (aa_ (wl 0))])) (k := 0) (z := r38) ty_39 rfl rfl hO32 (Nat.le_of_ble_eq_true rfl) (fq_s fq_l) rfl rfl (fun L40 hO41 => ⟨nf, sn, ?_⟩)))
          refine pQ rfl (q_as (v' := .pointer (some (slb (.slice p29 ((([] : List Rt) ++ [(ab_ r14 r7.x), (aa_ (wl 0))]) ++ [(ab_ r26 r7.y), (aa_ (wl 0))]).length c30) (1 * 36 + 0)))) (br_ (e := elRt) (l := (((([] : List Rt) ++ [(ab_ r14 r7.x), (aa_ (wl 0))]) ++ [(ab_ r26 r7.y), (aa_ (wl 0))]).set 0 r38)) (k := 1) sl_43 rfl rfl (SLfe.sle (OwnG.slfe hO41 (List.sublist_append_left _ _))) (by first | exact Nat.le_of_ble_eq_true rfl | omega)) rfl) ?_
          refine PL_o rfl rfl (dl_ (e := elRt) (l := (((([] : List Rt) ++ [(ab_ r14 r7.x), (aa_ (wl 0))]) ++ [(ab_ r26 r7.y), (aa_ (wl 0))]).set 0 r38)) (k := 1) (z := r39) ty_39 rfl rfl hO41 (Nat.le_of_ble_eq_true rfl) fq_l rfl rfl (fun L42 hO43 => ⟨nf, sn, ?_⟩))
          refine fl J (Rs fun K J => sE rfl (sE rfl (sE rfl (nl J (W_ret (ret2 rfl (.inr rfl) rfl rfl ?_))))))
          have hE : ((((((([] : List Rt) ++ [(ab_ r14 r7.x), (aa_ (wl 0))]) ++ [(ab_ r26 r7.y), (aa_ (wl 0))]).set 0 r38).set 1 r39), true) : (List Rt) × Bool) = (aM_ a b c) := by subst hr39; subst hr38; subst hr36; subst hr26; subst hr15; subst hr14; subst hr7; subst hr6; exact bif_t h3 (bif_t h12 (bif_f h13 (bif_t h16 (bif_t h24 (bif_f h25 (bif_t h27 (bif_f h33 (bif_f h34 rfl))))))))
          rw [← hE]
          exact ⟨_, rfl, (OwnG.slfe hO43 (List.sublist_append_left _ _))⟩
       ·skip
        refine W_f h27 rfl (Rk fun K J => sE rfl (sQ (qL ty_39 rfl (List.mem_cons_of_mem _ (List.mem_cons_of_mem _ (List.mem_append_right _ (List.mem_cons_of_mem _ (List.mem_cons_of_mem _ (List.mem_cons_of_mem _ (List.mem_cons_of_mem _ (List.mem_cons_of_mem _ (List.mem_cons_self))))))))) rfl) rfl (sQ (qL ty_39 rfl m0 rfl) rfl (WL_r rfl (bi_ [[pI ((aa_ (wl 0)).n), pI ((aa_ (wl 0)).d)], [pI ((ab_ r26 r7.y).n), pI ((ab_ r26 r7.y).d)]] [pI ((aa_ (wl 0)).n), pI ((aa_ (wl 0)).d), pI ((ab_ r26 r7.y).n), pI ((ab_ r26 r7.y).d)] us_43 z_39 sz_39 rfl (by decide) rfl rfl ⟨rfl, rfl, rfl, rfl, rfl, rfl, trivial⟩ rfl (fun b44 hb44 => ?_))))))
        refine WL_r rfl (dy_ (e := elRt) (l := (([] : List Rt) ++ [(ab_ r14 r7.x), (aa_ (wl 0))])) (m := [(aa_ (wl 0)), (ab_ r26 r7.y)]) 136 us_43 (by kernel_rfl) (by decide) rfl rfl hO21 (SLe.lit (e := elRt) (l := [(aa_ (wl 0)), (ab_ r26 r7.y)]) m0 rfl (Nat.le_of_ble_eq_true rfl) rfl) (fq_s (fq_s (fq_s fq_l))) (Nat.le_of_ble_eq_true rfl) (by decide) (fun p45 c46 L47 hO48 => ?_))
        refine sE rfl (nl J (J10 _ _ (Rk fun K J => sV (.int .i64 2) rfl rfl (sE rfl (nl J (J8 _ _ (Un_s (fun K17 J17 => Rs fun K J => sV (.bool false) rfl rfl (nl J (Sq fun K18 J18 => by_ rfl (bB_ (ax_ (ax_ (aF_ (J2 _ _ (Sq fun K19 J19 => Rs fun K J => sQ (qL ty_39 rfl (List.mem_append_right _ (List.mem_cons_of_mem _ (List.mem_cons_of_mem _ (List.mem_cons_of_mem _ (List.mem_cons_of_mem _ (List.mem_cons_of_mem _ (List.mem_cons_of_mem _ (List.mem_cons_of_mem _ (List.mem_cons_of_mem _ (List.mem_cons_of_mem _ (List.mem_cons_self))))))))))) rfl) rfl (sQ (q_ret en_63 (a8_ (ah_ r15 (ab_ r26 r7.y))) rfl) rfl ?_)))))))))))))))))
        refine sE rfl (nl J ?_)
        rcases bt (decide ((aL_ (ah_ r15 (ab_ r26 r7.y))).1 < 0)) with h49 | h49
        ·skip
         refine W_t h49 rfl (Rs fun K J => sE rfl (sE rfl (nl J (W_ret (ai_ (ret2 rfl (.inr rfl) rfl rfl ?_))))))
         have hE : ((([] : List Rt), false) : (List Rt) × Bool) = (aM_ a b c) := by subst hr26; subst hr15; subst hr14; subst hr7; subst hr6; exact bif_t h3 (bif_t h12 (bif_f h13 (bif_t h16 (bif_t h24 (bif_f h25 (bif_f h27 (bif_t h49 rfl)))))))
         rw [← hE]
         exact ⟨_, rfl, SLfe.nil⟩
        ·skip
         refine W_f h49 rfl (ak_ (J19 _ _ (Sq fun K20 J20 => Rs fun K J => sE rfl (sE rfl (nl J ?_)))))
         rcases bt (b.1 == 0) with h50 | h50
         ·skip
          refine W_t h50 rfl (Rs fun K J => sQ (qL ty_39 rfl (List.mem_append_right _ (List.mem_cons_of_mem _ (List.mem_cons_of_mem _ (List.mem_cons_of_mem _ (List.mem_cons_of_mem _ (List.mem_cons_of_mem _ (List.mem_cons_of_mem _ (List.mem_cons_of_mem _ (List.mem_cons_of_mem _ (List.mem_cons_of_mem _ (List.mem_cons_self))))))))))) rfl) rfl (WL_r rfl (bi_ [[pI ((ah_ r15 (ab_ r26 r7.y)).n), pI ((ah_ r15 (ab_ r26 r7.y)).d)]] [pI ((ah_ r15 (ab_ r26 r7.y)).n), pI ((ah_ r15 (ab_ r26 r7.y)).d)] us_43 z_39 sz_39 rfl (by decide) rfl rfl ⟨rfl, rfl, rfl, trivial⟩ rfl (fun b51 hb51 => sE rfl (sE rfl (nl J (W_ret (ai_ (ret2 rfl (.inr rfl) rfl rfl ?_)))))))))
          have hE : (([(ah_ r15 (ab_ r26 r7.y))], true) : (List Rt) × Bool) = (aM_ a b c) := by subst hr26; subst hr15; subst hr14; subst hr7; subst hr6; exact bif_t h3 (bif_t h12 (bif_f h13 (bif_t h16 (bif_t h24 (bif_f h25 (bif_f h27 (bif_f h49 (bif_t h50 rfl))))))))
          rw [← hE]
          exact ⟨_, rfl, (SLfe.lit (e := elRt) (l := [(ah_ r15 (ab_ r26 r7.y))]) hb51 m0 rfl (Nat.le_of_ble_eq_true rfl) rfl)⟩
         ·skip
          refine W_f h50 rfl (ak_ (J20 _ _ (ds sn [0,4,8,13,17] [4] mix (by kernel_rfl) (fun K J => pQ rfl (qL ty_39 rfl (List.mem_append_right _ (List.mem_cons_of_mem _ (List.mem_cons_of_mem _ (List.mem_cons_of_mem _ (List.mem_cons_of_mem _ (List.mem_cons_of_mem _ (List.mem_cons_of_mem _ (List.mem_cons_of_mem _ (List.mem_cons_of_mem _ (List.mem_cons_of_mem _ (List.mem_cons_self))))))))))) rfl) (pQ rfl (q_ret en_62 (cg_ (wl 2)) rfl) ?_)))))
          obtain ⟨r52, hr52⟩ := nm ((ab_ (ah_ r15 (ab_ r26 r7.y)) (aa_ (wl 2))) : Rt)
          refine pC (AV [pI r52.n, pI r52.d]) en_57 (cm_ (ah_ r15 (ab_ r26 r7.y)) (aa_ (wl 2))) rfl rfl (by rw [hr52]; first | done | rfl) ?_
          refine PL_o rfl rfl (bk_ zp_39 (fun b53 hb53 => ⟨(fun _ => sd s0), sn, oS [pI r52.n, pI r52.d] ty_39 rfl rfl rfl rfl rfl rfl (.head _) rfl hb53 rfl sn (fl J (ds sn [0,8,12,16,20,24,28,32,36,40,44,48,6,53,56,61] [13,15] mix (by kernel_rfl) (fun K J => pE rfl (pE rfl (pQ rfl (q_as (v' := .pointer (some (slb (.slice p45 ((([] : List Rt) ++ [(ab_ r14 r7.x), (aa_ (wl 0))]) ++ [(aa_ (wl 0)), (ab_ r26 r7.y)]).length c46) (0 * 36 + 0)))) (br_ (e := elRt) (l := ((([] : List Rt) ++ [(ab_ r14 r7.x), (aa_ (wl 0))]) ++ [(aa_ (wl 0)), (ab_ r26 r7.y)])) (k := 0) sl_43 rfl rfl (SLfe.sle (OwnG.slfe hO48 (sd (List.sublist_append_left _ _)))) (by first | exact Nat.le_of_ble_eq_true rfl | omega)) rfl) ?_)))))⟩))
          refine pQ rfl (q_ldG (e := elRt) (l := ((([] : List Rt) ++ [(ab_ r14 r7.x), (aa_ (wl 0))]) ++ [(aa_ (wl 0)), (ab_ r26 r7.y)])) (k := 0) (o := 0) ty_39 rfl (SLfe.sle (OwnG.slfe hO48 (sd (List.sublist_append_left _ _)))) (bo_ Rt0 (by first | exact Nat.le_of_ble_eq_true rfl | omega)) rfl) ?_
          refine pQ rfl (qL ty_39 rfl m0 rfl) ?_
          obtain ⟨r54, hr54⟩ := nm ((aA_ (((([] : List Rt) ++ [(ab_ r14 r7.x), (aa_ (wl 0))]) ++ [(aa_ (wl 0)), (ab_ r26 r7.y)]).getD 0 Rt0) r52) : Rt)
          refine pC (AV [pI r54.n, pI r54.d]) en_66 (bh_ (((([] : List Rt) ++ [(ab_ r14 r7.x), (aa_ (wl 0))]) ++ [(aa_ (wl 0)), (ab_ r26 r7.y)]).getD 0 Rt0) r52) rfl rfl (by rw [hr54]; first | done | rfl) ?_
          refine pE rfl (pQ rfl (q_as (v' := .pointer (some (slb (.slice p45 ((([] : List Rt) ++ [(ab_ r14 r7.x), (aa_ (wl 0))]) ++ [(aa_ (wl 0)), (ab_ r26 r7.y)]).length c46) (1 * 36 + 0)))) (br_ (e := elRt) (l := ((([] : List Rt) ++ [(ab_ r14 r7.x), (aa_ (wl 0))]) ++ [(aa_ (wl 0)), (ab_ r26 r7.y)])) (k := 1) sl_43 rfl rfl (SLfe.sle (OwnG.slfe hO48 (sd (List.sublist_append_left _ _)))) (by first | exact Nat.le_of_ble_eq_true rfl | omega)) rfl) ?_)
          refine pQ rfl (q_ldG (e := elRt) (l := ((([] : List Rt) ++ [(ab_ r14 r7.x), (aa_ (wl 0))]) ++ [(aa_ (wl 0)), (ab_ r26 r7.y)])) (k := 1) (o := 0) ty_39 rfl (SLfe.sle (OwnG.slfe hO48 (sd (List.sublist_append_left _ _)))) (bo_ Rt0 (by first | exact Nat.le_of_ble_eq_true rfl | omega)) rfl) ?_
          refine pQ rfl (qL ty_39 rfl m0 rfl) ?_
          obtain ⟨r55, hr55⟩ := nm ((aA_ (((([] : List Rt) ++ [(ab_ r14 r7.x), (aa_ (wl 0))]) ++ [(aa_ (wl 0)), (ab_ r26 r7.y)]).getD 1 Rt0) r52) : Rt)
          refine pC (AV [pI r55.n, pI r55.d]) en_66 (bh_ (((([] : List Rt) ++ [(ab_ r14 r7.x), (aa_ (wl 0))]) ++ [(aa_ (wl 0)), (ab_ r26 r7.y)]).getD 1 Rt0) r52) rfl rfl (by rw [hr55]; first | done | rfl) ?_
          refine pQ rfl (q_as (v' := .pointer (some (slb (.slice p45 ((([] : List Rt) ++ [(ab_ r14 r7.x), (aa_ (wl 0))]) ++ [(aa_ (wl 0)), (ab_ r26 r7.y)]).length c46) (0 * 36 + 0)))) (br_ (e := elRt) (l := ((([] : List Rt) ++ [(ab_ r14 r7.x), (aa_ (wl 0))]) ++ [(aa_ (wl 0)), (ab_ r26 r7.y)])) (k := 0) sl_43 rfl rfl (SLfe.sle (OwnG.slfe hO48 (sd (List.sublist_append_left _ _)))) (by first | exact Nat.le_of_ble_eq_true rfl | omega)) rfl) ?_
          refine tE rfl (PL_o rfl rfl (dl_ (e := elRt) (l := ((([] : List Rt) ++ [(ab_ r14 r7.x), (aa_ (wl 0))]) ++ [(aa_ (wl 0)), (ab_ r26 r7.y)])) (k := 0) (z := r54) ty_39 rfl rfl hO48 (Nat.le_of_ble_eq_true rfl) (fq_s fq_l) rfl rfl (fun L56 hO57 => ⟨nf, sn, ?_⟩)))
          refine pQ rfl (q_as (v' := .pointer (some (slb (.slice p45 ((([] : List Rt) ++ [(ab_ r14 r7.x), (aa_ (wl 0))]) ++ [(aa_ (wl 0)), (ab_ r26 r7.y)]).length c46) (1 * 36 + 0)))) (br_ (e := elRt) (l := (((([] : List Rt) ++ [(ab_ r14 r7.x), (aa_ (wl 0))]) ++ [(aa_ (wl 0)), (ab_ r26 r7.y)]).set 0 r54)) (k := 1) sl_43 rfl rfl (SLfe.sle (OwnG.slfe hO57 (List.sublist_append_left _ _))) (by first | exact Nat.le_of_ble_eq_true rfl | omega)) rfl) ?_
          refine PL_o rfl rfl (dl_ (e := elRt) (l := (((([] : List Rt) ++ [(ab_ r14 r7.x), (aa_ (wl 0))]) ++ [(aa_ (wl 0)), (ab_ r26 r7.y)]).set 0 r54)) (k := 1) (z := r55) ty_39 rfl rfl hO57 (Nat.le_of_ble_eq_true rfl) fq_l rfl rfl (fun L58 hO59 => ⟨nf, sn, ?_⟩))
          refine fl J (Rs fun K J => sE rfl (sE rfl (sE rfl (nl J (W_ret (ret2 rfl (.inr rfl) rfl rfl ?_))))))
          have hE : ((((((([] : List Rt) ++ [(ab_ r14 r7.x), (aa_ (wl 0))]) ++ [(aa_ (wl 0)), (ab_ r26 r7.y)]).set 0 r54).set 1 r55), true) : (List Rt) × Bool) = (aM_ a b c) := by subst hr55; subst hr54; subst hr52; subst hr26; subst hr15; subst hr14; subst hr7; subst hr6; exact bif_t h3 (bif_t h12 (bif_f h13 (bif_t h16 (bif_t h24 (bif_f h25 (bif_f h27 (bif_f h49 (bif_f h50 rfl))))))))
          rw [← hE]
          exact ⟨_, rfl, (OwnG.slfe hO59 (List.sublist_append_left _ _))⟩
     ·skip
      refine W_f h24 rfl (ak_ (J11 _ _ (Rs fun K J => sQ (qL ty_39 rfl (List.mem_cons_of_mem _ (List.mem_cons_of_mem _ (List.mem_append_right _ (List.mem_cons_of_mem _ (List.mem_cons_of_mem _ (List.mem_cons_of_mem _ (List.mem_cons_of_mem _ (List.mem_cons_of_mem _ (List.mem_cons_of_mem _ (List.mem_cons_self)))))))))) rfl) rfl (sQ (qL ty_39 rfl m0 rfl) rfl (sQ (q_ret en_65 (cl_ r15 (aa_ (wl 0))) rfl) rfl ?_)))))
      refine sS [pI ((ah_ r15 (aa_ (wl 0))).n), pI ((ah_ r15 (aa_ (wl 0))).d)] ty_39 rfl rfl rfl rfl rfl (.tail _ (.tail _ (Upd.left (.tail _ (.tail _ (.tail _ (.tail _ (.tail _ (.tail _ (.head _))))))) _))) rfl hb4 ?_
      refine nl J (Rs fun K J => sQ (qL ty_39 rfl m1 rfl) rfl (sQ (q_ret en_63 (a8_ (as_ r6.y c)) rfl) rfl (sE rfl (nl J (W_t (li_ h24) rfl (Rk fun K J => sE rfl (sQ (qL ty_39 rfl m0 rfl) rfl (sQ (qL ty_39 rfl (List.mem_cons_of_mem _ (List.mem_cons_of_mem _ (List.mem_append_right _ (List.mem_cons_of_mem _ (List.mem_cons_of_mem _ (List.mem_cons_of_mem _ (List.mem_cons_of_mem _ (List.mem_cons_of_mem _ (List.mem_cons_self))))))))) rfl) rfl (WL_r rfl (bi_ [[pI ((aa_ (wl 0)).n), pI ((aa_ (wl 0)).d)], [pI ((aa_ (wl 0)).n), pI ((aa_ (wl 0)).d)]] [pI ((aa_ (wl 0)).n), pI ((aa_ (wl 0)).d), pI ((aa_ (wl 0)).n), pI ((aa_ (wl 0)).d)] us_43 z_39 sz_39 rfl (by decide) rfl rfl ⟨rfl, rfl, rfl, rfl, rfl, rfl, trivial⟩ rfl (fun b60 hb60 => ?_)))))))))))
      refine WL_r rfl (dy_ (e := elRt) (l := (([] : List Rt) ++ [(ab_ r14 r7.x), (aa_ (wl 0))])) (m := [(aa_ (wl 0)), (aa_ (wl 0))]) 136 us_43 (by kernel_rfl) (by decide) rfl rfl hO21 (SLe.lit (e := elRt) (l := [(aa_ (wl 0)), (aa_ (wl 0))]) m0 rfl (Nat.le_of_ble_eq_true rfl) rfl) (fq_s (fq_s (fq_s fq_l))) (Nat.le_of_ble_eq_true rfl) (by decide) (fun p61 c62 L63 hO64 => ?_))
      refine sE rfl (nl J (J10 _ _ (Rk fun K J => sV (.int .i64 2) rfl rfl (sE rfl (nl J (J8 _ _ (Un_s (fun K21 J21 => Rs fun K J => sV (.bool false) rfl rfl (nl J (Sq fun K22 J22 => by_ rfl (bB_ (ax_ (ax_ (aF_ (J2 _ _ (Sq fun K23 J23 => Rs fun K J => sQ (qL ty_39 rfl (List.mem_append_right _ (List.mem_cons_of_mem _ (List.mem_cons_of_mem _ (List.mem_cons_of_mem _ (List.mem_cons_of_mem _ (List.mem_cons_of_mem _ (List.mem_cons_of_mem _ (List.mem_cons_of_mem _ (List.mem_cons_of_mem _ (List.mem_cons_of_mem _ (List.mem_cons_self))))))))))) rfl) rfl (sQ (q_ret en_63 (a8_ (ah_ r15 (aa_ (wl 0)))) rfl) rfl ?_)))))))))))))))))
      refine sE rfl (nl J ?_)
      rcases bt (decide ((aL_ (ah_ r15 (aa_ (wl 0)))).1 < 0)) with h65 | h65
      ·skip
       refine W_t h65 rfl (Rs fun K J => sE rfl (sE rfl (nl J (W_ret (ai_ (ret2 rfl (.inr rfl) rfl rfl ?_))))))
       have hE : ((([] : List Rt), false) : (List Rt) × Bool) = (aM_ a b c) := by subst hr15; subst hr14; subst hr7; subst hr6; exact bif_t h3 (bif_t h12 (bif_f h13 (bif_t h16 (bif_f h24 (bif_t h65 rfl)))))
       rw [← hE]
       exact ⟨_, rfl, SLfe.nil⟩
      ·skip
       refine W_f h65 rfl (ak_ (J23 _ _ (Sq fun K24 J24 => Rs fun K J => sE rfl (sE rfl (nl J ?_)))))
       rcases bt (b.1 == 0) with h66 | h66
       ·skip
        refine W_t h66 rfl (Rs fun K J => sQ (qL ty_39 rfl (List.mem_append_right _ (List.mem_cons_of_mem _ (List.mem_cons_of_mem _ (List.mem_cons_of_mem _ (List.mem_cons_of_mem _ (List.mem_cons_of_mem _ (List.mem_cons_of_mem _ (List.mem_cons_of_mem _ (List.mem_cons_of_mem _ (List.mem_cons_of_mem _ (List.mem_cons_self))))))))))) rfl) rfl (WL_r rfl (bi_ [[pI ((ah_ r15 (aa_ (wl 0))).n), pI ((ah_ r15 (aa_ (wl 0))).d)]] [pI ((ah_ r15 (aa_ (wl 0))).n), pI ((ah_ r15 (aa_ (wl 0))).d)] us_43 z_39 sz_39 rfl (by decide) rfl rfl ⟨rfl, rfl, rfl, trivial⟩ rfl (fun b67 hb67 => ?_))))
        refine sE rfl (sE rfl (nl J (W_ret (ai_ (ret2 rfl (.inr rfl) rfl rfl ?_)))))
        have hE : (([(ah_ r15 (aa_ (wl 0)))], true) : (List Rt) × Bool) = (aM_ a b c) := by subst hr15; subst hr14; subst hr7; subst hr6; exact bif_t h3 (bif_t h12 (bif_f h13 (bif_t h16 (bif_f h24 (bif_f h65 (bif_t h66 rfl))))))
        rw [← hE]
        exact ⟨_, rfl, (SLfe.lit (e := elRt) (l := [(ah_ r15 (aa_ (wl 0)))]) hb67 m0 rfl (Nat.le_of_ble_eq_true rfl) rfl)⟩
       ·skip
        refine W_f h66 rfl (ak_ (J24 _ _ (ds sn [0,4,8,13,17] [4] mix (by kernel_rfl) (fun K J => pQ rfl (qL ty_39 rfl (List.mem_append_right _ (List.mem_cons_of_mem _ (List.mem_cons_of_mem _ (List.mem_cons_of_mem _ (List.mem_cons_of_mem _ (List.mem_cons_of_mem _ (List.mem_cons_of_mem _ (List.mem_cons_of_mem _ (List.mem_cons_of_mem _ (List.mem_cons_of_mem _ (List.mem_cons_self))))))))))) rfl) (pQ rfl (q_ret en_62 (cg_ (wl 2)) rfl) ?_)))))
        obtain ⟨r68, hr68⟩ := nm ((ab_ (ah_ r15 (aa_ (wl 0))) (aa_ (wl 2))) : Rt)
        refine pC (AV [pI r68.n, pI r68.d]) en_57 (cm_ (ah_ r15 (aa_ (wl 0))) (aa_ (wl 2))) rfl rfl (by rw [hr68]; first | done | rfl) ?_
        refine PL_o rfl rfl (bk_ zp_39 (fun b69 hb69 => ⟨(fun _ => sd s0), sn, oS [pI r68.n, pI r68.d] ty_39 rfl rfl rfl rfl rfl rfl (.head _) rfl hb69 rfl sn (fl J (ds sn [0,8,12,16,20,24,28,32,36,40,44,48,6,53,56,61] [13,15] mix (by kernel_rfl) (fun K J => pE rfl (pE rfl (pQ rfl (q_as (v' := .pointer (some (slb (.slice p61 ((([] : List Rt) ++ [(ab_ r14 r7.x), (aa_ (wl 0))]) ++ [(aa_ (wl 0)), (aa_ (wl 0))]).length c62) (0 * 36 + 0)))) (br_ (e := elRt) (l := ((([] : List Rt) ++ [(ab_ r14 r7.x), (aa_ (wl 0))]) ++ [(aa_ (wl 0)), (aa_ (wl 0))])) (k := 0) sl_43 rfl rfl (SLfe.sle (OwnG.slfe hO64 (sd (List.sublist_append_left _ _)))) (by first | exact Nat.le_of_ble_eq_true rfl | omega)) rfl) ?_)))))⟩))
        refine pQ rfl (q_ldG (e := elRt) (l := ((([] : List Rt) ++ [(ab_ r14 r7.x), (aa_ (wl 0))]) ++ [(aa_ (wl 0)), (aa_ (wl 0))])) (k := 0) (o := 0) ty_39 rfl (SLfe.sle (OwnG.slfe hO64 (sd (List.sublist_append_left _ _)))) (bo_ Rt0 (by first | exact Nat.le_of_ble_eq_true rfl | omega)) rfl) ?_
        refine pQ rfl (qL ty_39 rfl m0 rfl) ?_
        obtain ⟨r70, hr70⟩ := nm ((aA_ (((([] : List Rt) ++ [(ab_ r14 r7.x), (aa_ (wl 0))]) ++ [(aa_ (wl 0)), (aa_ (wl 0))]).getD 0 Rt0) r68) : Rt)
        refine pC (AV [pI r70.n, pI r70.d]) en_66 (bh_ (((([] : List Rt) ++ [(ab_ r14 r7.x), (aa_ (wl 0))]) ++ [(aa_ (wl 0)), (aa_ (wl 0))]).getD 0 Rt0) r68) rfl rfl (by rw [hr70]; first | done | rfl) ?_
        refine pE rfl (pQ rfl (q_as (v' := .pointer (some (slb (.slice p61 ((([] : List Rt) ++ [(ab_ r14 r7.x), (aa_ (wl 0))]) ++ [(aa_ (wl 0)), (aa_ (wl 0))]).length c62) (1 * 36 + 0)))) (br_ (e := elRt) (l := ((([] : List Rt) ++ [(ab_ r14 r7.x), (aa_ (wl 0))]) ++ [(aa_ (wl 0)), (aa_ (wl 0))])) (k := 1) sl_43 rfl rfl (SLfe.sle (OwnG.slfe hO64 (sd (List.sublist_append_left _ _)))) (by first | exact Nat.le_of_ble_eq_true rfl | omega)) rfl) ?_)
        refine pQ rfl (q_ldG (e := elRt) (l := ((([] : List Rt) ++ [(ab_ r14 r7.x), (aa_ (wl 0))]) ++ [(aa_ (wl 0)), (aa_ (wl 0))])) (k := 1) (o := 0) ty_39 rfl (SLfe.sle (OwnG.slfe hO64 (sd (List.sublist_append_left _ _)))) (bo_ Rt0 (by first | exact Nat.le_of_ble_eq_true rfl | omega)) rfl) ?_
        refine pQ rfl (qL ty_39 rfl m0 rfl) ?_
        obtain ⟨r71, hr71⟩ := nm ((aA_ (((([] : List Rt) ++ [(ab_ r14 r7.x), (aa_ (wl 0))]) ++ [(aa_ (wl 0)), (aa_ (wl 0))]).getD 1 Rt0) r68) : Rt)
        refine pC (AV [pI r71.n, pI r71.d]) en_66 (bh_ (((([] : List Rt) ++ [(ab_ r14 r7.x), (aa_ (wl 0))]) ++ [(aa_ (wl 0)), (aa_ (wl 0))]).getD 1 Rt0) r68) rfl rfl (by rw [hr71]; first | done | rfl) ?_
        refine pQ rfl (q_as (v' := .pointer (some (slb (.slice p61 ((([] : List Rt) ++ [(ab_ r14 r7.x), (aa_ (wl 0))]) ++ [(aa_ (wl 0)), (aa_ (wl 0))]).length c62) (0 * 36 + 0)))) (br_ (e := elRt) (l := ((([] : List Rt) ++ [(ab_ r14 r7.x), (aa_ (wl 0))]) ++ [(aa_ (wl 0)), (aa_ (wl 0))])) (k := 0) sl_43 rfl rfl (SLfe.sle (OwnG.slfe hO64 (sd (List.sublist_append_left _ _)))) (by first | exact Nat.le_of_ble_eq_true rfl | omega)) rfl) ?_
        refine tE rfl (PL_o rfl rfl (dl_ (e := elRt) (l := ((([] : List Rt) ++ [(ab_ r14 r7.x), (aa_ (wl 0))]) ++ [(aa_ (wl 0)), (aa_ (wl 0))])) (k := 0) (z := r70) ty_39 rfl rfl hO64 (Nat.le_of_ble_eq_true rfl) (fq_s fq_l) rfl rfl (fun L72 hO73 => ⟨nf, sn, ?_⟩)))
        refine pQ rfl (q_as (v' := .pointer (some (slb (.slice p61 ((([] : List Rt) ++ [(ab_ r14 r7.x), (aa_ (wl 0))]) ++ [(aa_ (wl 0)), (aa_ (wl 0))]).length c62) (1 * 36 + 0)))) (br_ (e := elRt) (l := (((([] : List Rt) ++ [(ab_ r14 r7.x), (aa_ (wl 0))]) ++ [(aa_ (wl 0)), (aa_ (wl 0))]).set 0 r70)) (k := 1) sl_43 rfl rfl (SLfe.sle (OwnG.slfe hO73 (List.sublist_append_left _ _))) (by first | exact Nat.le_of_ble_eq_true rfl | omega)) rfl) ?_
        refine PL_o rfl rfl (dl_ (e := elRt) (l := (((([] : List Rt) ++ [(ab_ r14 r7.x), (aa_ (wl 0))]) ++ [(aa_ (wl 0)), (aa_ (wl 0))]).set 0 r70)) (k := 1) (z := r71) ty_39 rfl rfl hO73 (Nat.le_of_ble_eq_true rfl) fq_l rfl rfl (fun L74 hO75 => ⟨nf, sn, ?_⟩))
        refine fl J (Rs fun K J => sE rfl (sE rfl (sE rfl (nl J (W_ret (ret2 rfl (.inr rfl) rfl rfl ?_))))))
        have hE : ((((((([] : List Rt) ++ [(ab_ r14 r7.x), (aa_ (wl 0))]) ++ [(aa_ (wl 0)), (aa_ (wl 0))]).set 0 r70).set 1 r71), true) : (List Rt) × Bool) = (aM_ a b c) := by subst hr71; subst hr70; subst hr68; subst hr15; subst hr14; subst hr7; subst hr6; exact bif_t h3 (bif_t h12 (bif_f h13 (bif_t h16 (bif_f h24 (bif_f h65 (bif_f h66 rfl))))))
        rw [← hE]
        exact ⟨_, rfl, (OwnG.slfe hO75 (List.sublist_append_left _ _))⟩
    ·skip
     refine W_f h16 rfl (Rk fun K J => sE rfl (sQ (qL ty_39 rfl m4 rfl) rfl (sQ (qL ty_39 rfl m0 rfl) rfl (WL_r rfl (bi_ [[pI ((aa_ (wl 0)).n), pI ((aa_ (wl 0)).d)], [pI ((ab_ r14 r7.x).n), pI ((ab_ r14 r7.x).d)]] [pI ((aa_ (wl 0)).n), pI ((aa_ (wl 0)).d), pI ((ab_ r14 r7.x).n), pI ((ab_ r14 r7.x).d)] us_43 z_39 sz_39 rfl (by decide) rfl rfl ⟨rfl, rfl, rfl, rfl, rfl, rfl, trivial⟩ rfl (fun b76 hb76 => ?_))))))
     refine WL_r rfl (dy_ (e := elRt) (l := ([] : List Rt)) (m := [(aa_ (wl 0)), (ab_ r14 r7.x)]) 136 us_43 (by kernel_rfl) (by decide) rfl rfl OwnG.nil (SLe.lit (e := elRt) (l := [(aa_ (wl 0)), (ab_ r14 r7.x)]) m0 rfl (Nat.le_of_ble_eq_true rfl) rfl) fq_n (Nat.le_of_ble_eq_true rfl) (by decide) (fun p77 c78 L79 hO80 => ?_))
     refine sE rfl (nl J (J5 _ _ (Rk fun K J => sV (.int .i64 1) rfl rfl (sE rfl (nl J (J3 _ _ (Un_s (fun K25 J25 => Rs fun K J => sV (.bool true) rfl rfl (nl J (Sq fun K26 J26 => bF_ rfl (ak_ (J26 _ _ (Sq fun K27 J27 => ar_ (Rs fun K J => sE rfl ?_))))))))))))))
     refine sE rfl (nl J (Rs fun K J => sE rfl (sE rfl (sQ (qA ar_74 rfl rfl rfl) rfl (sQ (qL ty_23 rfl (List.mem_append_right _ (List.mem_cons_of_mem _ (List.mem_cons_of_mem _ (List.mem_cons_of_mem _ (List.mem_cons_of_mem _ (List.mem_cons_self)))))) rfl) rfl (sQ (h4_ en_56 rfl rfl (fun w hw => dP_ r6.y c _ _ w (hw.mem _ (List.mem_append_right _ (List.mem_cons_of_mem _ (List.mem_cons_of_mem _ (List.mem_cons_of_mem _ (List.mem_cons_of_mem _ (List.mem_cons_of_mem _ (List.mem_cons_of_mem _ (List.mem_cons_of_mem _ (List.mem_cons_self)))))))))))) rfl (sN zp_39 rfl fun b81 hb81 => sS [pI ((as_ r6.y c).n), pI ((as_ r6.y c).d)] ty_39 rfl rfl rfl rfl rfl (.head _) rfl hb81 (nl J (Rs fun K J => sQ (qL ty_39 rfl (List.mem_cons_of_mem _ (List.mem_append_right _ (List.mem_cons_of_mem _ (List.mem_cons_of_mem _ (List.mem_cons_of_mem _ (List.mem_cons_of_mem _ (List.mem_cons_of_mem _ (List.mem_cons_self)))))))) rfl) rfl (sN zp_39 rfl fun b82 hb82 => sS [pI ((aa_ (wl 0)).n), pI ((aa_ (wl 0)).d)] ty_39 rfl rfl rfl rfl rfl (.head _) rfl hb82 ?_))))))))))
     refine nl J (Sq fun K28 J28 => Rs fun K J => sQ (qL ty_39 rfl m1 rfl) rfl (sQ (q_ret en_63 (a8_ (as_ r6.y c)) rfl) rfl (sE rfl (nl J ?_))))
     rcases bt ((aL_ (as_ r6.y c)).1 != 0) with h83 | h83
     ·skip
      refine W_t h83 rfl (Sq fun K29 J29 => Rs fun K J => sE rfl (sQ (qA ar_75 rfl rfl rfl) rfl (sQ (qL ty_39 rfl (List.mem_cons_of_mem _ (List.mem_cons_of_mem _ (List.mem_append_right _ (List.mem_cons_of_mem _ (List.mem_cons_of_mem _ (List.mem_cons_of_mem _ (List.mem_cons_self))))))) rfl) rfl (sQ (q_ret en_63 (a8_ r7.y) rfl) rfl (sE rfl (nl J ?_))))))
      rcases bt ((aL_ r7.y).1 == 0) with h84 | h84
      ·skip
       refine W_t h84 rfl (Rs fun K J => sE rfl (sE rfl (nl J (W_ret (ai_ (ai_ (aB_ (ai_ (ai_ (aB_ (ai_ (ret2 rfl (.inr rfl) rfl rfl ?_))))))))))))
       have hE : ((([] : List Rt), false) : (List Rt) × Bool) = (aM_ a b c) := by subst hr15; subst hr14; subst hr7; subst hr6; exact bif_t h3 (bif_t h12 (bif_f h13 (bif_f h16 (bif_t h83 (bif_t h84 rfl)))))
       rw [← hE]
       exact ⟨_, rfl, SLfe.nil⟩
      ·skip
       refine W_f h84 rfl (ak_ (J29 _ _ (dr sn [0,4,8,12,16,20,25] [6] mix (by kernel_rfl) (fun K J => pQ rfl (qL ty_39 rfl m1 rfl) ?_))))
       obtain ⟨r85, hr85⟩ := nm ((c6_ (as_ r6.y c)) : Rt)
       refine pC (AV [pI r85.n, pI r85.d]) en_64 (eW_ (as_ r6.y c)) rfl rfl (by rw [hr85]; first | done | rfl) (pE rfl (pQ rfl (qA ar_75 rfl rfl rfl) (pQ rfl (qL ty_39 rfl (List.mem_cons_of_mem _ (List.mem_cons_of_mem _ (List.mem_append_right _ (List.mem_cons_of_mem _ (List.mem_cons_of_mem _ (List.mem_cons_of_mem _ (List.mem_cons_self))))))) rfl) (pQ rfl (q_ret en_57 (cm_ r85 r7.y) rfl) (oS [pI ((ab_ r85 r7.y).n), pI ((ab_ r85 r7.y).d)] ty_39 rfl rfl rfl rfl rfl rfl (.head _) rfl hb82 rfl sn (fl J (J28 _ _ (Rs fun K J => sQ (qL ty_39 rfl (List.mem_cons_of_mem _ (List.mem_cons_of_mem _ (List.mem_append_right _ (List.mem_cons_of_mem _ (List.mem_cons_of_mem _ (List.mem_cons_of_mem _ (List.mem_cons_of_mem _ (List.mem_cons_of_mem _ (List.mem_cons_of_mem _ (List.mem_cons_self)))))))))) rfl) rfl (sQ (qL ty_39 rfl m0 rfl) rfl (sQ (q_ret en_65 (cl_ r15 (ab_ r85 r7.y)) rfl) rfl (sS [pI ((ah_ r15 (ab_ r85 r7.y)).n), pI ((ah_ r15 (ab_ r85 r7.y)).d)] ty_39 rfl rfl rfl rfl rfl (.tail _ (.tail _ (Upd.left (.tail _ (.tail _ (.tail _ (.tail _ (.tail _ (.tail _ (.head _))))))) _))) rfl hb4 (nl J (Rs fun K J => sQ (qL ty_39 rfl m1 rfl) rfl (sQ (q_ret en_63 (a8_ (as_ r6.y c)) rfl) rfl (sE rfl (nl J ?_))))))))))))))))
       rcases bt (decide (0 ≤ (aL_ (as_ r6.y c)).1)) with h86 | h86
       ·skip
        refine W_t h86 rfl (Rk fun K J => sE rfl (sQ (qL ty_39 rfl m0 rfl) rfl (sQ (qL ty_39 rfl (List.mem_cons_of_mem _ (List.mem_cons_of_mem _ (List.mem_append_right _ (List.mem_cons_of_mem _ (List.mem_cons_of_mem _ (List.mem_cons_of_mem _ (List.mem_cons_of_mem _ (List.mem_cons_of_mem _ (List.mem_cons_self))))))))) rfl) rfl (WL_r rfl (bi_ [[pI ((ab_ r85 r7.y).n), pI ((ab_ r85 r7.y).d)], [pI ((aa_ (wl 0)).n), pI ((aa_ (wl 0)).d)]] [pI ((ab_ r85 r7.y).n), pI ((ab_ r85 r7.y).d), pI ((aa_ (wl 0)).n), pI ((aa_ (wl 0)).d)] us_43 z_39 sz_39 rfl (by decide) rfl rfl ⟨rfl, rfl, rfl, rfl, rfl, rfl, trivial⟩ rfl (fun b87 hb87 => ?_))))))
        refine WL_r rfl (dy_ (e := elRt) (l := (([] : List Rt) ++ [(aa_ (wl 0)), (ab_ r14 r7.x)])) (m := [(ab_ r85 r7.y), (aa_ (wl 0))]) 136 us_43 (by kernel_rfl) (by decide) rfl rfl hO80 (SLe.lit (e := elRt) (l := [(ab_ r85 r7.y), (aa_ (wl 0))]) m0 rfl (Nat.le_of_ble_eq_true rfl) rfl) (fq_s (fq_s (fq_s fq_l))) (Nat.le_of_ble_eq_true rfl) (by decide) (fun p88 c89 L90 hO91 => ?_))
        refine sE rfl (nl J (J27 _ _ (Rk fun K J => sV (.int .i64 2) rfl rfl (sE rfl (nl J (J25 _ _ (Un_s (fun K30 J30 => Rs fun K J => sV (.bool false) rfl rfl (nl J (Sq fun K31 J31 => by_ rfl (bB_ (ax_ (ax_ (aF_ (J2 _ _ (Sq fun K32 J32 => Rs fun K J => sQ (qL ty_39 rfl (List.mem_append_right _ (List.mem_cons_of_mem _ (List.mem_cons_of_mem _ (List.mem_cons_of_mem _ (List.mem_cons_of_mem _ (List.mem_cons_of_mem _ (List.mem_cons_of_mem _ (List.mem_cons_of_mem _ (List.mem_cons_of_mem _ (List.mem_cons_of_mem _ (List.mem_cons_self))))))))))) rfl) rfl (sQ (q_ret en_63 (a8_ (ah_ r15 (ab_ r85 r7.y))) rfl) rfl ?_)))))))))))))))))
        refine sE rfl (nl J ?_)
        rcases bt (decide ((aL_ (ah_ r15 (ab_ r85 r7.y))).1 < 0)) with h92 | h92
        ·skip
         refine W_t h92 rfl (Rs fun K J => sE rfl (sE rfl (nl J (W_ret (ai_ (ret2 rfl (.inr rfl) rfl rfl ?_))))))
         have hE : ((([] : List Rt), false) : (List Rt) × Bool) = (aM_ a b c) := by subst hr85; subst hr15; subst hr14; subst hr7; subst hr6; exact bif_t h3 (bif_t h12 (bif_f h13 (bif_f h16 (bif_t h83 (bif_f h84 (bif_t h86 (bif_t h92 rfl)))))))
         rw [← hE]
         exact ⟨_, rfl, SLfe.nil⟩
        ·skip
         refine W_f h92 rfl (ak_ (J32 _ _ (Sq fun K33 J33 => Rs fun K J => sE rfl (sE rfl (nl J ?_)))))
         rcases bt (b.1 == 0) with h93 | h93
         ·skip
          refine W_t h93 rfl (Rs fun K J => sQ (qL ty_39 rfl (List.mem_append_right _ (List.mem_cons_of_mem _ (List.mem_cons_of_mem _ (List.mem_cons_of_mem _ (List.mem_cons_of_mem _ (List.mem_cons_of_mem _ (List.mem_cons_of_mem _ (List.mem_cons_of_mem _ (List.mem_cons_of_mem _ (List.mem_cons_of_mem _ (List.mem_cons_self))))))))))) rfl) rfl (WL_r rfl (bi_ [[pI ((ah_ r15 (ab_ r85 r7.y)).n), pI ((ah_ r15 (ab_ r85 r7.y)).d)]] [pI ((ah_ r15 (ab_ r85 r7.y)).n), pI ((ah_ r15 (ab_ r85 r7.y)).d)] us_43 z_39 sz_39 rfl (by decide) rfl rfl ⟨rfl, rfl, rfl, trivial⟩ rfl (fun b94 hb94 => sE rfl (sE rfl (nl J (W_ret (ai_ (ret2 rfl (.inr rfl) rfl rfl ?_)))))))))
          have hE : (([(ah_ r15 (ab_ r85 r7.y))], true) : (List Rt) × Bool) = (aM_ a b c) := by subst hr85; subst hr15; subst hr14; subst hr7; subst hr6; exact bif_t h3 (bif_t h12 (bif_f h13 (bif_f h16 (bif_t h83 (bif_f h84 (bif_t h86 (bif_f h92 (bif_t h93 rfl))))))))
          rw [← hE]
          exact ⟨_, rfl, (SLfe.lit (e := elRt) (l := [(ah_ r15 (ab_ r85 r7.y))]) hb94 m0 rfl (Nat.le_of_ble_eq_true rfl) rfl)⟩
         ·skip
          refine W_f h93 rfl (ak_ (J33 _ _ (ds sn [0,4,8,13,17] [4] mix (by kernel_rfl) (fun K J => pQ rfl (qL ty_39 rfl (List.mem_append_right _ (List.mem_cons_of_mem _ (List.mem_cons_of_mem _ (List.mem_cons_of_mem _ (List.mem_cons_of_mem _ (List.mem_cons_of_mem _ (List.mem_cons_of_mem _ (List.mem_cons_of_mem _ (List.mem_cons_of_mem _ (List.mem_cons_of_mem _ (List.mem_cons_self))))))))))) rfl) (pQ rfl (q_ret en_62 (cg_ (wl 2)) rfl) ?_)))))
          obtain ⟨r95, hr95⟩ := nm ((ab_ (ah_ r15 (ab_ r85 r7.y)) (aa_ (wl 2))) : Rt)
          refine pC (AV [pI r95.n, pI r95.d]) en_57 (cm_ (ah_ r15 (ab_ r85 r7.y)) (aa_ (wl 2))) rfl rfl (by rw [hr95]; first | done | rfl) ?_
          refine PL_o rfl rfl (bk_ zp_39 (fun b96 hb96 => ⟨(fun _ => sd s0), sn, oS [pI r95.n, pI r95.d] ty_39 rfl rfl rfl rfl rfl rfl (.head _) rfl hb96 rfl sn (fl J (ds sn [0,8,12,16,20,24,28,32,36,40,44,48,6,53,56,61] [13,15] mix (by kernel_rfl) (fun K J => pE rfl (pE rfl (pQ rfl (q_as (v' := .pointer (some (slb (.slice p88 ((([] : List Rt) ++ [(aa_ (wl 0)), (ab_ r14 r7.x)]) ++ [(ab_ r85 r7.y), (aa_ (wl 0))]).length c89) (0 * 36 + 0)))) (br_ (e := elRt) (l := ((([] : List Rt) ++ [(aa_ (wl 0)), (ab_ r14 r7.x)]) ++ [(ab_ r85 r7.y), (aa_ (wl 0))])) (k := 0) sl_43 rfl rfl (SLfe.sle (OwnG.slfe hO91 (sd (List.sublist_append_left _ _)))) (by first | exact Nat.le_of_ble_eq_true rfl | omega)) rfl) ?_)))))⟩))
          refine pQ rfl (q_ldG (e := elRt) (l := ((([] : List Rt) ++ [(aa_ (wl 0)), (ab_ r14 r7.x)]) ++ [(ab_ r85 r7.y), (aa_ (wl 0))])) (k := 0) (o := 0) ty_39 rfl (SLfe.sle (OwnG.slfe hO91 (sd (List.sublist_append_left _ _)))) (bo_ Rt0 (by first | exact Nat.le_of_ble_eq_true rfl | omega)) rfl) ?_
          refine pQ rfl (qL ty_39 rfl m0 rfl) ?_
          obtain ⟨r97, hr97⟩ := nm ((aA_ (((([] : List Rt) ++ [(aa_ (wl 0)), (ab_ r14 r7.x)]) ++ [(ab_ r85 r7.y), (aa_ (wl 0))]).getD 0 Rt0) r95) : Rt)
          refine pC (AV [pI r97.n, pI r97.d]) en_66 (bh_ (((([] : List Rt) ++ [(aa_ (wl 0)), (ab_ r14 r7.x)]) ++ [(ab_ r85 r7.y), (aa_ (wl 0))]).getD 0 Rt0) r95) rfl rfl (by rw [hr97]; first | done | rfl) ?_
          refine pE rfl (pQ rfl (q_as (v' := .pointer (some (slb (.slice p88 ((([] : List Rt) ++ [(aa_ (wl 0)), (ab_ r14 r7.x)]) ++ [(ab_ r85 r7.y), (aa_ (wl 0))]).length c89) (1 * 36 + 0)))) (br_ (e := elRt) (l := ((([] : List Rt) ++ [(aa_ (wl 0)), (ab_ r14 r7.x)]) ++ [(ab_ r85 r7.y), (aa_ (wl 0))])) (k := 1) sl_43 rfl rfl (SLfe.sle (OwnG.slfe hO91 (sd (List.sublist_append_left _ _)))) (by first | exact Nat.le_of_ble_eq_true rfl | omega)) rfl) ?_)
          refine pQ rfl (q_ldG (e := elRt) (l := ((([] : List Rt) ++ [(aa_ (wl 0)), (ab_ r14 r7.x)]) ++ [(ab_ r85 r7.y), (aa_ (wl 0))])) (k := 1) (o := 0) ty_39 rfl (SLfe.sle (OwnG.slfe hO91 (sd (List.sublist_append_left _ _)))) (bo_ Rt0 (by first | exact Nat.le_of_ble_eq_true rfl | omega)) rfl) ?_
          refine pQ rfl (qL ty_39 rfl m0 rfl) ?_
          obtain ⟨r98, hr98⟩ := nm ((aA_ (((([] : List Rt) ++ [(aa_ (wl 0)), (ab_ r14 r7.x)]) ++ [(ab_ r85 r7.y), (aa_ (wl 0))]).getD 1 Rt0) r95) : Rt)
          refine pC (AV [pI r98.n, pI r98.d]) en_66 (bh_ (((([] : List Rt) ++ [(aa_ (wl 0)), (ab_ r14 r7.x)]) ++ [(ab_ r85 r7.y), (aa_ (wl 0))]).getD 1 Rt0) r95) rfl rfl (by rw [hr98]; first | done | rfl) ?_
          refine pQ rfl (q_as (v' := .pointer (some (slb (.slice p88 ((([] : List Rt) ++ [(aa_ (wl 0)), (ab_ r14 r7.x)]) ++ [(ab_ r85 r7.y), (aa_ (wl 0))]).length c89) (0 * 36 + 0)))) (br_ (e := elRt) (l := ((([] : List Rt) ++ [(aa_ (wl 0)), (ab_ r14 r7.x)]) ++ [(ab_ r85 r7.y), (aa_ (wl 0))])) (k := 0) sl_43 rfl rfl (SLfe.sle (OwnG.slfe hO91 (sd (List.sublist_append_left _ _)))) (by first | exact Nat.le_of_ble_eq_true rfl | omega)) rfl) ?_
          refine tE rfl (PL_o rfl rfl (dl_ (e := elRt) (l := ((([] : List Rt) ++ [(aa_ (wl 0)), (ab_ r14 r7.x)]) ++ [(ab_ r85 r7.y), (aa_ (wl 0))])) (k := 0) (z := r97) ty_39 rfl rfl hO91 (Nat.le_of_ble_eq_true rfl) (fq_s fq_l) rfl rfl (fun L99 hO100 => ⟨nf, sn, ?_⟩)))
          refine pQ rfl (q_as (v' := .pointer (some (slb (.slice p88 ((([] : List Rt) ++ [(aa_ (wl 0)), (ab_ r14 r7.x)]) ++ [(ab_ r85 r7.y), (aa_ (wl 0))]).length c89) (1 * 36 + 0)))) (br_ (e := elRt) (l := (((([] : List Rt) ++ [(aa_ (wl 0)), (ab_ r14 r7.x)]) ++ [(ab_ r85 r7.y), (aa_ (wl 0))]).set 0 r97)) (k := 1) sl_43 rfl rfl (SLfe.sle (OwnG.slfe hO100 (List.sublist_append_left _ _))) (by first | exact Nat.le_of_ble_eq_true rfl | omega)) rfl) ?_
          refine PL_o rfl rfl (dl_ (e := elRt) (l := (((([] : List Rt) ++ [(aa_ (wl 0)), (ab_ r14 r7.x)]) ++ [(ab_ r85 r7.y), (aa_ (wl 0))]).set 0 r97)) (k := 1) (z := r98) ty_39 rfl rfl hO100 (Nat.le_of_ble_eq_true rfl) fq_l rfl rfl (fun L101 hO102 => ⟨nf, sn, ?_⟩))
          refine fl J (Rs fun K J => sE rfl (sE rfl (sE rfl (nl J (W_ret (ret2 rfl (.inr rfl) rfl rfl ?_))))))
          have hE : ((((((([] : List Rt) ++ [(aa_ (wl 0)), (ab_ r14 r7.x)]) ++ [(ab_ r85 r7.y), (aa_ (wl 0))]).set 0 r97).set 1 r98), true) : (List Rt) × Bool) = (aM_ a b c) := by subst hr98; subst hr97; subst hr95; subst hr85; subst hr15; subst hr14; subst hr7; subst hr6; exact bif_t h3 (bif_t h12 (bif_f h13 (bif_f h16 (bif_t h83 (bif_f h84 (bif_t h86 (bif_f h92 (bif_f h93 rfl))))))))
          rw [← hE]
          exact ⟨_, rfl, (OwnG.slfe hO102 (List.sublist_append_left _ _))⟩
       ·skip
        refine W_f h86 rfl (Rk fun K J => sE rfl (sQ (qL ty_39 rfl (List.mem_cons_of_mem _ (List.mem_cons_of_mem _ (List.mem_append_right _ (List.mem_cons_of_mem _ (List.mem_cons_of_mem _ (List.mem_cons_of_mem _ (List.mem_cons_of_mem _ (List.mem_cons_of_mem _ (List.mem_cons_self))))))))) rfl) rfl (sQ (qL ty_39 rfl m0 rfl) rfl (WL_r rfl (bi_ [[pI ((aa_ (wl 0)).n), pI ((aa_ (wl 0)).d)], [pI ((ab_ r85 r7.y).n), pI ((ab_ r85 r7.y).d)]] [pI ((aa_ (wl 0)).n), pI ((aa_ (wl 0)).d), pI ((ab_ r85 r7.y).n), pI ((ab_ r85 r7.y).d)] us_43 z_39 sz_39 rfl (by decide) rfl rfl ⟨rfl, rfl, rfl, rfl, rfl, rfl, trivial⟩ rfl (fun b103 hb103 => ?_))))))
        refine WL_r rfl (dy_ (e := elRt) (l := (([] : List Rt) ++ [(aa_ (wl 0)), (ab_ r14 r7.x)])) (m := [(aa_ (wl 0)), (ab_ r85 r7.y)]) 136 us_43 (by kernel_rfl) (by decide) rfl rfl hO80 (SLe.lit (e := elRt) (l := [(aa_ (wl 0)), (ab_ r85 r7.y)]) m0 rfl (Nat.le_of_ble_eq_true rfl) rfl) (fq_s (fq_s (fq_s fq_l))) (Nat.le_of_ble_eq_true rfl) (by decide) (fun p104 c105 L106 hO107 => ?_))
        refine sE rfl (nl J (J27 _ _ (Rk fun K J => sV (.int .i64 2) rfl rfl (sE rfl (nl J (J25 _ _ (Un_s (fun K34 J34 => Rs fun K J => sV (.bool false) rfl rfl (nl J (Sq fun K35 J35 => by_ rfl (bB_ (ax_ (ax_ (aF_ (J2 _ _ (Sq fun K36 J36 => Rs fun K J => sQ (qL ty_39 rfl (List.mem_append_right _ (List.mem_cons_of_mem _ (List.mem_cons_of_mem _ (List.mem_cons_of_mem _ (List.mem_cons_of_mem _ (List.mem_cons_of_mem _ (List.mem_cons_of_mem _ (List.mem_cons_of_mem _ (List.mem_cons_of_mem _ (List.mem_cons_of_mem _ (List.mem_cons_self))))))))))) rfl) rfl (sQ (q_ret en_63 (a8_ (ah_ r15 (ab_ r85 r7.y))) rfl) rfl ?_)))))))))))))))))
        refine sE rfl (nl J ?_)
        rcases bt (decide ((aL_ (ah_ r15 (ab_ r85 r7.y))).1 < 0)) with h108 | h108
        ·skip
         refine W_t h108 rfl (Rs fun K J => sE rfl (sE rfl (nl J (W_ret (ai_ (ret2 rfl (.inr rfl) rfl rfl ?_))))))
         have hE : ((([] : List Rt), false) : (List Rt) × Bool) = (aM_ a b c) := by subst hr85; subst hr15; subst hr14; subst hr7; subst hr6; exact bif_t h3 (bif_t h12 (bif_f h13 (bif_f h16 (bif_t h83 (bif_f h84 (bif_f h86 (bif_t h108 rfl)))))))
         rw [← hE]
         exact ⟨_, rfl, SLfe.nil⟩
        ·skip
         refine W_f h108 rfl (ak_ (J36 _ _ (Sq fun K37 J37 => Rs fun K J => sE rfl (sE rfl (nl J ?_)))))
         rcases bt (b.1 == 0) with h109 | h109
         ·skip
          refine W_t h109 rfl (Rs fun K J => sQ (qL ty_39 rfl (List.mem_append_right _ (List.mem_cons_of_mem _ (List.mem_cons_of_mem _ (List.mem_cons_of_mem _ (List.mem_cons_of_mem _ (List.mem_cons_of_mem _ (List.mem_cons_of_mem _ (List.mem_cons_of_mem _ (List.mem_cons_of_mem _ (List.mem_cons_of_mem _ (List.mem_cons_self))))))))))) rfl) rfl (WL_r rfl (bi_ [[pI ((ah_ r15 (ab_ r85 r7.y)).n), pI ((ah_ r15 (ab_ r85 r7.y)).d)]] [pI ((ah_ r15 (ab_ r85 r7.y)).n), pI ((ah_ r15 (ab_ r85 r7.y)).d)] us_43 z_39 sz_39 rfl (by decide) rfl rfl ⟨rfl, rfl, rfl, trivial⟩ rfl (fun b110 hb110 => sE rfl (sE rfl (nl J (W_ret (ai_ (ret2 rfl (.inr rfl) rfl rfl ?_)))))))))
          have hE : (([(ah_ r15 (ab_ r85 r7.y))], true) : (List Rt) × Bool) = (aM_ a b c) := by subst hr85; subst hr15; subst hr14; subst hr7; subst hr6; exact bif_t h3 (bif_t h12 (bif_f h13 (bif_f h16 (bif_t h83 (bif_f h84 (bif_f h86 (bif_f h108 (bif_t h109 rfl))))))))
          rw [← hE]
          exact ⟨_, rfl, (SLfe.lit (e := elRt) (l := [(ah_ r15 (ab_ r85 r7.y))]) hb110 m0 rfl (Nat.le_of_ble_eq_true rfl) rfl)⟩
         ·skip
          refine W_f h109 rfl (ak_ (J37 _ _ (ds sn [0,4,8,13,17] [4] mix (by kernel_rfl) (fun K J => pQ rfl (qL ty_39 rfl (List.mem_append_right _ (List.mem_cons_of_mem _ (List.mem_cons_of_mem _ (List.mem_cons_of_mem _ (List.mem_cons_of_mem _ (List.mem_cons_of_mem _ (List.mem_cons_of_mem _ (List.mem_cons_of_mem _ (List.mem_cons_of_mem _ (List.mem_cons_of_mem _ (List.mem_cons_self))))))))))) rfl) (pQ rfl (q_ret en_62 (cg_ (wl 2)) rfl) ?_)))))
          obtain ⟨r111, hr111⟩ := nm ((ab_ (ah_ r15 (ab_ r85 r7.y)) (aa_ (wl 2))) : Rt)
          refine pC (AV [pI r111.n, pI r111.d]) en_57 (cm_ (ah_ r15 (ab_ r85 r7.y)) (aa_ (wl 2))) rfl rfl (by rw [hr111]; first | done | rfl) ?_
          refine PL_o rfl rfl (bk_ zp_39 (fun b112 hb112 => ⟨(fun _ => sd s0), sn, oS [pI r111.n, pI r111.d] ty_39 rfl rfl rfl rfl rfl rfl (.head _) rfl hb112 rfl sn (fl J (ds sn [0,8,12,16,20,24,28,32,36,40,44,48,6,53,56,61] [13,15] mix (by kernel_rfl) (fun K J => pE rfl (pE rfl (pQ rfl (q_as (v' := .pointer (some (slb (.slice p104 ((([] : List Rt) ++ [(aa_ (wl 0)), (ab_ r14 r7.x)]) ++ [(aa_ (wl 0)), (ab_ r85 r7.y)]).length c105) (0 * 36 + 0)))) (br_ (e := elRt) (l := ((([] : List Rt) ++ [(aa_ (wl 0)), (ab_ r14 r7.x)]) ++ [(aa_ (wl 0)), (ab_ r85 r7.y)])) (k := 0) sl_43 rfl rfl (SLfe.sle (OwnG.slfe hO107 (sd (List.sublist_append_left _ _)))) (by first | exact Nat.le_of_ble_eq_true rfl | omega)) rfl) ?_)))))⟩))
          refine pQ rfl (q_ldG (e := elRt) (l := ((([] : List Rt) ++ [(aa_ (wl 0)), (ab_ r14 r7.x)]) ++ [(aa_ (wl 0)), (ab_ r85 r7.y)])) (k := 0) (o := 0) ty_39 rfl (SLfe.sle (OwnG.slfe hO107 (sd (List.sublist_append_left _ _)))) (bo_ Rt0 (by first | exact Nat.le_of_ble_eq_true rfl | omega)) rfl) ?_
          refine pQ rfl (qL ty_39 rfl m0 rfl) ?_
          obtain ⟨r113, hr113⟩ := nm ((aA_ (((([] : List Rt) ++ [(aa_ (wl 0)), (ab_ r14 r7.x)]) ++ [(aa_ (wl 0)), (ab_ r85 r7.y)]).getD 0 Rt0) r111) : Rt)
          refine pC (AV [pI r113.n, pI r113.d]) en_66 (bh_ (((([] : List Rt) ++ [(aa_ (wl 0)), (ab_ r14 r7.x)]) ++ [(aa_ (wl 0)), (ab_ r85 r7.y)]).getD 0 Rt0) r111) rfl rfl (by rw [hr113]; first | done | rfl) ?_
          refine pE rfl (pQ rfl (q_as (v' := .pointer (some (slb (.slice p104 ((([] : List Rt) ++ [(aa_ (wl 0)), (ab_ r14 r7.x)]) ++ [(aa_ (wl 0)), (ab_ r85 r7.y)]).length c105) (1 * 36 + 0)))) (br_ (e := elRt) (l := ((([] : List Rt) ++ [(aa_ (wl 0)), (ab_ r14 r7.x)]) ++ [(aa_ (wl 0)), (ab_ r85 r7.y)])) (k := 1) sl_43 rfl rfl (SLfe.sle (OwnG.slfe hO107 (sd (List.sublist_append_left _ _)))) (by first | exact Nat.le_of_ble_eq_true rfl | omega)) rfl) ?_)
          refine pQ rfl (q_ldG (e := elRt) (l := ((([] : List Rt) ++ [(aa_ (wl 0)), (ab_ r14 r7.x)]) ++ [(aa_ (wl 0)), (ab_ r85 r7.y)])) (k := 1) (o := 0) ty_39 rfl (SLfe.sle (OwnG.slfe hO107 (sd (List.sublist_append_left _ _)))) (bo_ Rt0 (by first | exact Nat.le_of_ble_eq_true rfl | omega)) rfl) ?_
          refine pQ rfl (qL ty_39 rfl m0 rfl) ?_
          obtain ⟨r114, hr114⟩ := nm ((aA_ (((([] : List Rt) ++ [(aa_ (wl 0)), (ab_ r14 r7.x)]) ++ [(aa_ (wl 0)), (ab_ r85 r7.y)]).getD 1 Rt0) r111) : Rt)
          refine pC (AV [pI r114.n, pI r114.d]) en_66 (bh_ (((([] : List Rt) ++ [(aa_ (wl 0)), (ab_ r14 r7.x)]) ++ [(aa_ (wl 0)), (ab_ r85 r7.y)]).getD 1 Rt0) r111) rfl rfl (by rw [hr114]; first | done | rfl) ?_
          refine pQ rfl (q_as (v' := .pointer (some (slb (.slice p104 ((([] : List Rt) ++ [(aa_ (wl 0)), (ab_ r14 r7.x)]) ++ [(aa_ (wl 0)), (ab_ r85 r7.y)]).length c105) (0 * 36 + 0)))) (br_ (e := elRt) (l := ((([] : List Rt) ++ [(aa_ (wl 0)), (ab_ r14 r7.x)]) ++ [(aa_ (wl 0)), (ab_ r85 r7.y)])) (k := 0) sl_43 rfl rfl (SLfe.sle (OwnG.slfe hO107 (sd (List.sublist_append_left _ _)))) (by first | exact Nat.le_of_ble_eq_true rfl | omega)) rfl) ?_
          refine tE rfl (PL_o rfl rfl (dl_ (e := elRt) (l := ((([] : List Rt) ++ [(aa_ (wl 0)), (ab_ r14 r7.x)]) ++ [(aa_ (wl 0)), (ab_ r85 r7.y)])) (k := 0) (z := r113) ty_39 rfl rfl hO107 (Nat.le_of_ble_eq_true rfl) (fq_s fq_l) rfl rfl (fun L115 hO116 => ⟨nf, sn, ?_⟩)))
          refine pQ rfl (q_as (v' := .pointer (some (slb (.slice p104 ((([] : List Rt) ++ [(aa_ (wl 0)), (ab_ r14 r7.x)]) ++ [(aa_ (wl 0)), (ab_ r85 r7.y)]).length c105) (1 * 36 + 0)))) (br_ (e := elRt) (l := (((([] : List Rt) ++ [(aa_ (wl 0)), (ab_ r14 r7.x)]) ++ [(aa_ (wl 0)), (ab_ r85 r7.y)]).set 0 r113)) (k := 1) sl_43 rfl rfl (SLfe.sle (OwnG.slfe hO116 (List.sublist_append_left _ _))) (by first | exact Nat.le_of_ble_eq_true rfl | omega)) rfl) ?_
          refine PL_o rfl rfl (dl_ (e := elRt) (l := (((([] : List Rt) ++ [(aa_ (wl 0)), (ab_ r14 r7.x)]) ++ [(aa_ (wl 0)), (ab_ r85 r7.y)]).set 0 r113)) (k := 1) (z := r114) ty_39 rfl rfl hO116 (Nat.le_of_ble_eq_true rfl) fq_l rfl rfl (fun L117 hO118 => ⟨nf, sn, ?_⟩))
          refine fl J (Rs fun K J => sE rfl (sE rfl (sE rfl (nl J (W_ret (ret2 rfl (.inr rfl) rfl rfl ?_))))))
          have hE : ((((((([] : List Rt) ++ [(aa_ (wl 0)), (ab_ r14 r7.x)]) ++ [(aa_ (wl 0)), (ab_ r85 r7.y)]).set 0 r113).set 1 r114), true) : (List Rt) × Bool) = (aM_ a b c) := by subst hr114; subst hr113; subst hr111; subst hr85; subst hr15; subst hr14; subst hr7; subst hr6; exact bif_t h3 (bif_t h12 (bif_f h13 (bif_f h16 (bif_t h83 (bif_f h84 (bif_f h86 (bif_f h108 (bif_f h109 rfl))))))))
          rw [← hE]
          exact ⟨_, rfl, (OwnG.slfe hO118 (List.sublist_append_left _ _))⟩
     ·skip
      refine W_f h83 rfl (ak_ (J28 _ _ (Rs fun K J => sQ (qL ty_39 rfl (List.mem_cons_of_mem _ (List.mem_cons_of_mem _ (List.mem_append_right _ (List.mem_cons_of_mem _ (List.mem_cons_of_mem _ (List.mem_cons_of_mem _ (List.mem_cons_of_mem _ (List.mem_cons_of_mem _ (List.mem_cons_of_mem _ (List.mem_cons_self)))))))))) rfl) rfl (sQ (qL ty_39 rfl m0 rfl) rfl (sQ (q_ret en_65 (cl_ r15 (aa_ (wl 0))) rfl) rfl ?_)))))
      refine sS [pI ((ah_ r15 (aa_ (wl 0))).n), pI ((ah_ r15 (aa_ (wl 0))).d)] ty_39 rfl rfl rfl rfl rfl (.tail _ (.tail _ (Upd.left (.tail _ (.tail _ (.tail _ (.tail _ (.tail _ (.tail _ (.head _))))))) _))) rfl hb4 ?_
      refine nl J (Rs fun K J => sQ (qL ty_39 rfl m1 rfl) rfl (sQ (q_ret en_63 (a8_ (as_ r6.y c)) rfl) rfl (sE rfl (nl J (W_t (li_ h83) rfl (Rk fun K J => sE rfl (sQ (qL ty_39 rfl m0 rfl) rfl (sQ (qL ty_39 rfl (List.mem_cons_of_mem _ (List.mem_cons_of_mem _ (List.mem_append_right _ (List.mem_cons_of_mem _ (List.mem_cons_of_mem _ (List.mem_cons_of_mem _ (List.mem_cons_of_mem _ (List.mem_cons_of_mem _ (List.mem_cons_self))))))))) rfl) rfl (WL_r rfl (bi_ [[pI ((aa_ (wl 0)).n), pI ((aa_ (wl 0)).d)], [pI ((aa_ (wl 0)).n), pI ((aa_ (wl 0)).d)]] [pI ((aa_ (wl 0)).n), pI ((aa_ (wl 0)).d), pI ((aa_ (wl 0)).n), pI ((aa_ (wl 0)).d)] us_43 z_39 sz_39 rfl (by decide) rfl rfl ⟨rfl, rfl, rfl, rfl, rfl, rfl, trivial⟩ rfl (fun b119 hb119 => ?_)))))))))))
      refine WL_r rfl (dy_ (e := elRt) (l := (([] : List Rt) ++ [(aa_ (wl 0)), (ab_ r14 r7.x)])) (m := [(aa_ (wl 0)), (aa_ (wl 0))]) 136 us_43 (by kernel_rfl) (by decide) rfl rfl hO80 (SLe.lit (e := elRt) (l := [(aa_ (wl 0)), (aa_ (wl 0))]) m0 rfl (Nat.le_of_ble_eq_true rfl) rfl) (fq_s (fq_s (fq_s fq_l))) (Nat.le_of_ble_eq_true rfl) (by decide) (fun p120 c121 L122 hO123 => ?_))
      refine sE rfl (nl J (J27 _ _ (Rk fun K J => sV (.int .i64 2) rfl rfl (sE rfl (nl J (J25 _ _ (Un_s (fun K38 J38 => Rs fun K J => sV (.bool false) rfl rfl (nl J (Sq fun K39 J39 => by_ rfl (bB_ (ax_ (ax_ (aF_ (J2 _ _ (Sq fun K40 J40 => Rs fun K J => sQ (qL ty_39 rfl (List.mem_append_right _ (List.mem_cons_of_mem _ (List.mem_cons_of_mem _ (List.mem_cons_of_mem _ (List.mem_cons_of_mem _ (List.mem_cons_of_mem _ (List.mem_cons_of_mem _ (List.mem_cons_of_mem _ (List.mem_cons_of_mem _ (List.mem_cons_of_mem _ (List.mem_cons_self))))))))))) rfl) rfl (sQ (q_ret en_63 (a8_ (ah_ r15 (aa_ (wl 0)))) rfl) rfl ?_)))))))))))))))))
      refine sE rfl (nl J ?_)
      rcases bt (decide ((aL_ (ah_ r15 (aa_ (wl 0)))).1 < 0)) with h124 | h124
      ·skip
       refine W_t h124 rfl (Rs fun K J => sE rfl (sE rfl (nl J (W_ret (ai_ (ret2 rfl (.inr rfl) rfl rfl ?_))))))
       have hE : ((([] : List Rt), false) : (List Rt) × Bool) = (aM_ a b c) := by subst hr15; subst hr14; subst hr7; subst hr6; exact bif_t h3 (bif_t h12 (bif_f h13 (bif_f h16 (bif_f h83 (bif_t h124 rfl)))))
       rw [← hE]
       exact ⟨_, rfl, SLfe.nil⟩
      ·skip
       refine W_f h124 rfl (ak_ (J40 _ _ (Sq fun K41 J41 => Rs fun K J => sE rfl (sE rfl (nl J ?_)))))
       rcases bt (b.1 == 0) with h125 | h125
       ·skip
        refine W_t h125 rfl (Rs fun K J => sQ (qL ty_39 rfl (List.mem_append_right _ (List.mem_cons_of_mem _ (List.mem_cons_of_mem _ (List.mem_cons_of_mem _ (List.mem_cons_of_mem _ (List.mem_cons_of_mem _ (List.mem_cons_of_mem _ (List.mem_cons_of_mem _ (List.mem_cons_of_mem _ (List.mem_cons_of_mem _ (List.mem_cons_self))))))))))) rfl) rfl (WL_r rfl (bi_ [[pI ((ah_ r15 (aa_ (wl 0))).n), pI ((ah_ r15 (aa_ (wl 0))).d)]] [pI ((ah_ r15 (aa_ (wl 0))).n), pI ((ah_ r15 (aa_ (wl 0))).d)] us_43 z_39 sz_39 rfl (by decide) rfl rfl ⟨rfl, rfl, rfl, trivial⟩ rfl (fun b126 hb126 => ?_))))
        refine sE rfl (sE rfl (nl J (W_ret (ai_ (ret2 rfl (.inr rfl) rfl rfl ?_)))))
        have hE : (([(ah_ r15 (aa_ (wl 0)))], true) : (List Rt) × Bool) = (aM_ a b c) := by subst hr15; subst hr14; subst hr7; subst hr6; exact bif_t h3 (bif_t h12 (bif_f h13 (bif_f h16 (bif_f h83 (bif_f h124 (bif_t h125 rfl))))))
        rw [← hE]
        exact ⟨_, rfl, (SLfe.lit (e := elRt) (l := [(ah_ r15 (aa_ (wl 0)))]) hb126 m0 rfl (Nat.le_of_ble_eq_true rfl) rfl)⟩
       ·skip
        refine W_f h125 rfl (ak_ (J41 _ _ (ds sn [0,4,8,13,17] [4] mix (by kernel_rfl) (fun K J => pQ rfl (qL ty_39 rfl (List.mem_append_right _ (List.mem_cons_of_mem _ (List.mem_cons_of_mem _ (List.mem_cons_of_mem _ (List.mem_cons_of_mem _ (List.mem_cons_of_mem _ (List.mem_cons_of_mem _ (List.mem_cons_of_mem _ (List.mem_cons_of_mem _ (List.mem_cons_of_mem _ (List.mem_cons_self))))))))))) rfl) (pQ rfl (q_ret en_62 (cg_ (wl 2)) rfl) ?_)))))
        obtain ⟨r127, hr127⟩ := nm ((ab_ (ah_ r15 (aa_ (wl 0))) (aa_ (wl 2))) : Rt)
        refine pC (AV [pI r127.n, pI r127.d]) en_57 (cm_ (ah_ r15 (aa_ (wl 0))) (aa_ (wl 2))) rfl rfl (by rw [hr127]; first | done | rfl) ?_
        refine PL_o rfl rfl (bk_ zp_39 (fun b128 hb128 => ⟨(fun _ => sd s0), sn, oS [pI r127.n, pI r127.d] ty_39 rfl rfl rfl rfl rfl rfl (.head _) rfl hb128 rfl sn (fl J (ds sn [0,8,12,16,20,24,28,32,36,40,44,48,6,53,56,61] [13,15] mix (by kernel_rfl) (fun K J => pE rfl (pE rfl (pQ rfl (q_as (v' := .pointer (some (slb (.slice p120 ((([] : List Rt) ++ [(aa_ (wl 0)), (ab_ r14 r7.x)]) ++ [(aa_ (wl 0)), (aa_ (wl 0))]).length c121) (0 * 36 + 0)))) (br_ (e := elRt) (l := ((([] : List Rt) ++ [(aa_ (wl 0)), (ab_ r14 r7.x)]) ++ [(aa_ (wl 0)), (aa_ (wl 0))])) (k := 0) sl_43 rfl rfl (SLfe.sle (OwnG.slfe hO123 (sd (List.sublist_append_left _ _)))) (by first | exact Nat.le_of_ble_eq_true rfl | omega)) rfl) ?_)))))⟩))
        refine pQ rfl (q_ldG (e := elRt) (l := ((([] : List Rt) ++ [(aa_ (wl 0)), (ab_ r14 r7.x)]) ++ [(aa_ (wl 0)), (aa_ (wl 0))])) (k := 0) (o := 0) ty_39 rfl (SLfe.sle (OwnG.slfe hO123 (sd (List.sublist_append_left _ _)))) (bo_ Rt0 (by first | exact Nat.le_of_ble_eq_true rfl | omega)) rfl) ?_
        refine pQ rfl (qL ty_39 rfl m0 rfl) ?_
        obtain ⟨r129, hr129⟩ := nm ((aA_ (((([] : List Rt) ++ [(aa_ (wl 0)), (ab_ r14 r7.x)]) ++ [(aa_ (wl 0)), (aa_ (wl 0))]).getD 0 Rt0) r127) : Rt)
        refine pC (AV [pI r129.n, pI r129.d]) en_66 (bh_ (((([] : List Rt) ++ [(aa_ (wl 0)), (ab_ r14 r7.x)]) ++ [(aa_ (wl 0)), (aa_ (wl 0))]).getD 0 Rt0) r127) rfl rfl (by rw [hr129]; first | done | rfl) ?_
        refine pE rfl (pQ rfl (q_as (v' := .pointer (some (slb (.slice p120 ((([] : List Rt) ++ [(aa_ (wl 0)), (ab_ r14 r7.x)]) ++ [(aa_ (wl 0)), (aa_ (wl 0))]).length c121) (1 * 36 + 0)))) (br_ (e := elRt) (l := ((([] : List Rt) ++ [(aa_ (wl 0)), (ab_ r14 r7.x)]) ++ [(aa_ (wl 0)), (aa_ (wl 0))])) (k := 1) sl_43 rfl rfl (SLfe.sle (OwnG.slfe hO123 (sd (List.sublist_append_left _ _)))) (by first | exact Nat.le_of_ble_eq_true rfl | omega)) rfl) ?_)
        refine pQ rfl (q_ldG (e := elRt) (l := ((([] : List Rt) ++ [(aa_ (wl 0)), (ab_ r14 r7.x)]) ++ [(aa_ (wl 0)), (aa_ (wl 0))])) (k := 1) (o := 0) ty_39 rfl (SLfe.sle (OwnG.slfe hO123 (sd (List.sublist_append_left _ _)))) (bo_ Rt0 (by first | exact Nat.le_of_ble_eq_true rfl | omega)) rfl) ?_
        refine pQ rfl (qL ty_39 rfl m0 rfl) ?_
        obtain ⟨r130, hr130⟩ := nm ((aA_ (((([] : List Rt) ++ [(aa_ (wl 0)), (ab_ r14 r7.x)]) ++ [(aa_ (wl 0)), (aa_ (wl 0))]).getD 1 Rt0) r127) : Rt)
        refine pC (AV [pI r130.n, pI r130.d]) en_66 (bh_ (((([] : List Rt) ++ [(aa_ (wl 0)), (ab_ r14 r7.x)]) ++ [(aa_ (wl 0)), (aa_ (wl 0))]).getD 1 Rt0) r127) rfl rfl (by rw [hr130]; first | done | rfl) ?_
        refine pQ rfl (q_as (v' := .pointer (some (slb (.slice p120 ((([] : List Rt) ++ [(aa_ (wl 0)), (ab_ r14 r7.x)]) ++ [(aa_ (wl 0)), (aa_ (wl 0))]).length c121) (0 * 36 + 0)))) (br_ (e := elRt) (l := ((([] : List Rt) ++ [(aa_ (wl 0)), (ab_ r14 r7.x)]) ++ [(aa_ (wl 0)), (aa_ (wl 0))])) (k := 0) sl_43 rfl rfl (SLfe.sle (OwnG.slfe hO123 (sd (List.sublist_append_left _ _)))) (by first | exact Nat.le_of_ble_eq_true rfl | omega)) rfl) ?_
        refine tE rfl (PL_o rfl rfl (dl_ (e := elRt) (l := ((([] : List Rt) ++ [(aa_ (wl 0)), (ab_ r14 r7.x)]) ++ [(aa_ (wl 0)), (aa_ (wl 0))])) (k := 0) (z := r129) ty_39 rfl rfl hO123 (Nat.le_of_ble_eq_true rfl) (fq_s fq_l) rfl rfl (fun L131 hO132 => ⟨nf, sn, ?_⟩)))
        refine pQ rfl (q_as (v' := .pointer (some (slb (.slice p120 ((([] : List Rt) ++ [(aa_ (wl 0)), (ab_ r14 r7.x)]) ++ [(aa_ (wl 0)), (aa_ (wl 0))]).length c121) (1 * 36 + 0)))) (br_ (e := elRt) (l := (((([] : List Rt) ++ [(aa_ (wl 0)), (ab_ r14 r7.x)]) ++ [(aa_ (wl 0)), (aa_ (wl 0))]).set 0 r129)) (k := 1) sl_43 rfl rfl (SLfe.sle (OwnG.slfe hO132 (List.sublist_append_left _ _))) (by first | exact Nat.le_of_ble_eq_true rfl | omega)) rfl) ?_
        refine PL_o rfl rfl (dl_ (e := elRt) (l := (((([] : List Rt) ++ [(aa_ (wl 0)), (ab_ r14 r7.x)]) ++ [(aa_ (wl 0)), (aa_ (wl 0))]).set 0 r129)) (k := 1) (z := r130) ty_39 rfl rfl hO132 (Nat.le_of_ble_eq_true rfl) fq_l rfl rfl (fun L133 hO134 => ⟨nf, sn, ?_⟩))
        refine fl J (Rs fun K J => sE rfl (sE rfl (sE rfl (nl J (W_ret (ret2 rfl (.inr rfl) rfl rfl ?_))))))
        have hE : ((((((([] : List Rt) ++ [(aa_ (wl 0)), (ab_ r14 r7.x)]) ++ [(aa_ (wl 0)), (aa_ (wl 0))]).set 0 r129).set 1 r130), true) : (List Rt) × Bool) = (aM_ a b c) := by subst hr130; subst hr129; subst hr127; subst hr15; subst hr14; subst hr7; subst hr6; exact bif_t h3 (bif_t h12 (bif_f h13 (bif_f h16 (bif_f h83 (bif_f h124 (bif_f h125 rfl))))))
        rw [← hE]
        exact ⟨_, rfl, (OwnG.slfe hO134 (List.sublist_append_left _ _))⟩
  ·skip
   refine W_f h12 rfl (ak_ (J6 _ _ (Rs fun K J => sQ (qL ty_39 rfl m5 rfl) rfl (sQ (qL ty_39 rfl m0 rfl) rfl ?_))))
   obtain ⟨r135, hr135⟩ := nm ((ah_ (as_ a c) (aa_ (wl 0))) : Rt)
   refine sC (AV [pI r135.n, pI r135.d]) en_65 (cl_ (as_ a c) (aa_ (wl 0))) rfl rfl (by rw [hr135]; first | done | rfl) ?_
   refine sS [pI r135.n, pI r135.d] ty_39 rfl rfl rfl rfl rfl (.tail _ (.tail _ (.tail _ (.tail _ (.tail _ (.head _)))))) rfl hb4 (nl J (Rs fun K J => sQ (qL ty_39 rfl m1 rfl) rfl (sQ (q_ret en_63 (a8_ (as_ r6.x c)) rfl) rfl (sE rfl (nl J (W_t (li_ h12) rfl (Rk fun K J => sE rfl (sQ (qL ty_39 rfl m0 rfl) rfl (sQ (qL ty_39 rfl m4 rfl) rfl (WL_r rfl (bi_ [[pI ((aa_ (wl 0)).n), pI ((aa_ (wl 0)).d)], [pI ((aa_ (wl 0)).n), pI ((aa_ (wl 0)).d)]] [pI ((aa_ (wl 0)).n), pI ((aa_ (wl 0)).d), pI ((aa_ (wl 0)).n), pI ((aa_ (wl 0)).d)] us_43 z_39 sz_39 rfl (by decide) rfl rfl ⟨rfl, rfl, rfl, rfl, rfl, rfl, trivial⟩ rfl (fun b136 hb136 => ?_))))))))))))
   refine WL_r rfl (dy_ (e := elRt) (l := ([] : List Rt)) (m := [(aa_ (wl 0)), (aa_ (wl 0))]) 136 us_43 (by kernel_rfl) (by decide) rfl rfl OwnG.nil (SLe.lit (e := elRt) (l := [(aa_ (wl 0)), (aa_ (wl 0))]) m0 rfl (Nat.le_of_ble_eq_true rfl) rfl) fq_n (Nat.le_of_ble_eq_true rfl) (by decide) (fun p137 c138 L139 hO140 => ?_))
   refine sE rfl (nl J (J5 _ _ (Rk fun K J => sV (.int .i64 1) rfl rfl (sE rfl (nl J (J3 _ _ (Un_s (fun K42 J42 => Rs fun K J => sV (.bool true) rfl rfl (nl J (Sq fun K43 J43 => bF_ rfl (ak_ (J43 _ _ (Sq fun K44 J44 => ar_ (Rs fun K J => sE rfl ?_))))))))))))))
   refine sE rfl (nl J (Rs fun K J => sE rfl (sE rfl (sQ (qA ar_74 rfl rfl rfl) rfl (sQ (qL ty_23 rfl (List.mem_append_right _ (List.mem_cons_of_mem _ (List.mem_cons_of_mem _ (List.mem_cons_of_mem _ (List.mem_cons_of_mem _ (List.mem_cons_self)))))) rfl) rfl (sQ (h4_ en_56 rfl rfl (fun w hw => dP_ r6.y c _ _ w (hw.mem _ (List.mem_append_right _ (List.mem_cons_of_mem _ (List.mem_cons_of_mem _ (List.mem_cons_of_mem _ (List.mem_cons_of_mem _ (List.mem_cons_of_mem _ (List.mem_cons_of_mem _ (List.mem_cons_of_mem _ (List.mem_cons_self)))))))))))) rfl (sN zp_39 rfl fun b141 hb141 => sS [pI ((as_ r6.y c).n), pI ((as_ r6.y c).d)] ty_39 rfl rfl rfl rfl rfl (.head _) rfl hb141 (nl J (Rs fun K J => sQ (qL ty_39 rfl (List.mem_cons_of_mem _ (List.mem_append_right _ (List.mem_cons_of_mem _ (List.mem_cons_of_mem _ (List.mem_cons_of_mem _ (List.mem_cons_of_mem _ (List.mem_cons_of_mem _ (List.mem_cons_self)))))))) rfl) rfl (sN zp_39 rfl fun b142 hb142 => sS [pI ((aa_ (wl 0)).n), pI ((aa_ (wl 0)).d)] ty_39 rfl rfl rfl rfl rfl (.head _) rfl hb142 ?_))))))))))
   refine nl J (Sq fun K45 J45 => Rs fun K J => sQ (qL ty_39 rfl m1 rfl) rfl (sQ (q_ret en_63 (a8_ (as_ r6.y c)) rfl) rfl (sE rfl (nl J ?_))))
   rcases bt ((aL_ (as_ r6.y c)).1 != 0) with h143 | h143
   ·skip
    refine W_t h143 rfl (Sq fun K46 J46 => Rs fun K J => sE rfl (sQ (qA ar_75 rfl rfl rfl) rfl (sQ (qL ty_39 rfl (List.mem_cons_of_mem _ (List.mem_cons_of_mem _ (List.mem_append_right _ (List.mem_cons_of_mem _ (List.mem_cons_of_mem _ (List.mem_cons_of_mem _ (List.mem_cons_self))))))) rfl) rfl (sQ (q_ret en_63 (a8_ r7.y) rfl) rfl (sE rfl (nl J ?_))))))
    rcases bt ((aL_ r7.y).1 == 0) with h144 | h144
    ·skip
     refine W_t h144 rfl (Rs fun K J => sE rfl (sE rfl (nl J (W_ret (ai_ (ai_ (aB_ (ai_ (ai_ (aB_ (ai_ (ret2 rfl (.inr rfl) rfl rfl ?_))))))))))))
     have hE : ((([] : List Rt), false) : (List Rt) × Bool) = (aM_ a b c) := by subst hr135; subst hr7; subst hr6; exact bif_t h3 (bif_f h12 (bif_t h143 (bif_t h144 rfl)))
     rw [← hE]
     exact ⟨_, rfl, SLfe.nil⟩
    ·skip
     refine W_f h144 rfl (ak_ (J46 _ _ (dr sn [0,4,8,12,16,20,25] [6] mix (by kernel_rfl) (fun K J => pQ rfl (qL ty_39 rfl m1 rfl) ?_))))
     obtain ⟨r145, hr145⟩ := nm ((c6_ (as_ r6.y c)) : Rt)
     refine pC (AV [pI r145.n, pI r145.d]) en_64 (eW_ (as_ r6.y c)) rfl rfl (by rw [hr145]; first | done | rfl) (pE rfl (pQ rfl (qA ar_75 rfl rfl rfl) (pQ rfl (qL ty_39 rfl (List.mem_cons_of_mem _ (List.mem_cons_of_mem _ (List.mem_append_right _ (List.mem_cons_of_mem _ (List.mem_cons_of_mem _ (List.mem_cons_of_mem _ (List.mem_cons_self))))))) rfl) (pQ rfl (q_ret en_57 (cm_ r145 r7.y) rfl) (oS [pI ((ab_ r145 r7.y).n), pI ((ab_ r145 r7.y).d)] ty_39 rfl rfl rfl rfl rfl rfl (.head _) rfl hb142 rfl sn (fl J (J45 _ _ (Rs fun K J => sQ (qL ty_39 rfl (List.mem_cons_of_mem _ (List.mem_cons_of_mem _ (List.mem_append_right _ (List.mem_cons_of_mem _ (List.mem_cons_of_mem _ (List.mem_cons_of_mem _ (List.mem_cons_of_mem _ (List.mem_cons_of_mem _ (List.mem_cons_of_mem _ (List.mem_cons_self)))))))))) rfl) rfl (sQ (qL ty_39 rfl m0 rfl) rfl (sQ (q_ret en_65 (cl_ r135 (ab_ r145 r7.y)) rfl) rfl (sS [pI ((ah_ r135 (ab_ r145 r7.y)).n), pI ((ah_ r135 (ab_ r145 r7.y)).d)] ty_39 rfl rfl rfl rfl rfl (.tail _ (.tail _ (Upd.left (.tail _ (.tail _ (.tail _ (.tail _ (.tail _ (.tail _ (.head _))))))) _))) rfl hb4 (nl J (Rs fun K J => sQ (qL ty_39 rfl m1 rfl) rfl (sQ (q_ret en_63 (a8_ (as_ r6.y c)) rfl) rfl (sE rfl (nl J ?_))))))))))))))))
     rcases bt (decide (0 ≤ (aL_ (as_ r6.y c)).1)) with h146 | h146
     ·skip
      refine W_t h146 rfl (Rk fun K J => sE rfl (sQ (qL ty_39 rfl m0 rfl) rfl (sQ (qL ty_39 rfl (List.mem_cons_of_mem _ (List.mem_cons_of_mem _ (List.mem_append_right _ (List.mem_cons_of_mem _ (List.mem_cons_of_mem _ (List.mem_cons_of_mem _ (List.mem_cons_of_mem _ (List.mem_cons_of_mem _ (List.mem_cons_self))))))))) rfl) rfl (WL_r rfl (bi_ [[pI ((ab_ r145 r7.y).n), pI ((ab_ r145 r7.y).d)], [pI ((aa_ (wl 0)).n), pI ((aa_ (wl 0)).d)]] [pI ((ab_ r145 r7.y).n), pI ((ab_ r145 r7.y).d), pI ((aa_ (wl 0)).n), pI ((aa_ (wl 0)).d)] us_43 z_39 sz_39 rfl (by decide) rfl rfl ⟨rfl, rfl, rfl, rfl, rfl, rfl, trivial⟩ rfl (fun b147 hb147 => ?_))))))
      refine WL_r rfl (dy_ (e := elRt) (l := (([] : List Rt) ++ [(aa_ (wl 0)), (aa_ (wl 0))])) (m := [(ab_ r145 r7.y), (aa_ (wl 0))]) 136 us_43 (by kernel_rfl) (by decide) rfl rfl hO140 (SLe.lit (e := elRt) (l := [(ab_ r145 r7.y), (aa_ (wl 0))]) m0 rfl (Nat.le_of_ble_eq_true rfl) rfl) (fq_s (fq_s (fq_s fq_l))) (Nat.le_of_ble_eq_true rfl) (by decide) (fun p148 c149 L150 hO151 => ?_))
      refine sE rfl (nl J (J44 _ _ (Rk fun K J => sV (.int .i64 2) rfl rfl (sE rfl (nl J (J42 _ _ (Un_s (fun K47 J47 => Rs fun K J => sV (.bool false) rfl rfl (nl J (Sq fun K48 J48 => by_ rfl (bB_ (ax_ (ax_ (aF_ (J2 _ _ (Sq fun K49 J49 => Rs fun K J => sQ (qL ty_39 rfl (List.mem_append_right _ (List.mem_cons_of_mem _ (List.mem_cons_of_mem _ (List.mem_cons_of_mem _ (List.mem_cons_of_mem _ (List.mem_cons_of_mem _ (List.mem_cons_of_mem _ (List.mem_cons_of_mem _ (List.mem_cons_of_mem _ (List.mem_cons_of_mem _ (List.mem_cons_self))))))))))) rfl) rfl (sQ (q_ret en_63 (a8_ (ah_ r135 (ab_ r145 r7.y))) rfl) rfl ?_)))))))))))))))))
      refine sE rfl (nl J ?_)
      rcases bt (decide ((aL_ (ah_ r135 (ab_ r145 r7.y))).1 < 0)) with h152 | h152
      ·skip
       refine W_t h152 rfl (Rs fun K J => sE rfl (sE rfl (nl J (W_ret (ai_ (ret2 rfl (.inr rfl) rfl rfl ?_))))))
       have hE : ((([] : List Rt), false) : (List Rt) × Bool) = (aM_ a b c) := by subst hr145; subst hr135; subst hr7; subst hr6; exact bif_t h3 (bif_f h12 (bif_t h143 (bif_f h144 (bif_t h146 (bif_t h152 rfl)))))
       rw [← hE]
       exact ⟨_, rfl, SLfe.nil⟩
      ·skip
       refine W_f h152 rfl (ak_ (J49 _ _ (Sq fun K50 J50 => Rs fun K J => sE rfl (sE rfl (nl J ?_)))))
       rcases bt (b.1 == 0) with h153 | h153
       ·skip
        refine W_t h153 rfl (Rs fun K J => sQ (qL ty_39 rfl (List.mem_append_right _ (List.mem_cons_of_mem _ (List.mem_cons_of_mem _ (List.mem_cons_of_mem _ (List.mem_cons_of_mem _ (List.mem_cons_of_mem _ (List.mem_cons_of_mem _ (List.mem_cons_of_mem _ (List.mem_cons_of_mem _ (List.mem_cons_of_mem _ (List.mem_cons_self))))))))))) rfl) rfl (WL_r rfl (bi_ [[pI ((ah_ r135 (ab_ r145 r7.y)).n), pI ((ah_ r135 (ab_ r145 r7.y)).d)]] [pI ((ah_ r135 (ab_ r145 r7.y)).n), pI ((ah_ r135 (ab_ r145 r7.y)).d)] us_43 z_39 sz_39 rfl (by decide) rfl rfl ⟨rfl, rfl, rfl, trivial⟩ rfl (fun b154 hb154 => sE rfl (sE rfl (nl J (W_ret (ai_ (ret2 rfl (.inr rfl) rfl rfl ?_)))))))))
        have hE : (([(ah_ r135 (ab_ r145 r7.y))], true) : (List Rt) × Bool) = (aM_ a b c) := by subst hr145; subst hr135; subst hr7; subst hr6; exact bif_t h3 (bif_f h12 (bif_t h143 (bif_f h144 (bif_t h146 (bif_f h152 (bif_t h153 rfl))))))
        rw [← hE]
        exact ⟨_, rfl, (SLfe.lit (e := elRt) (l := [(ah_ r135 (ab_ r145 r7.y))]) hb154 m0 rfl (Nat.le_of_ble_eq_true rfl) rfl)⟩
       ·skip
        refine W_f h153 rfl (ak_ (J50 _ _ (ds sn [0,4,8,13,17] [4] mix (by kernel_rfl) (fun K J => pQ rfl (qL ty_39 rfl (List.mem_append_right _ (List.mem_cons_of_mem _ (List.mem_cons_of_mem _ (List.mem_cons_of_mem _ (List.mem_cons_of_mem _ (List.mem_cons_of_mem _ (List.mem_cons_of_mem _ (List.mem_cons_of_mem _ (List.mem_cons_of_mem _ (List.mem_cons_of_mem _ (List.mem_cons_self))))))))))) rfl) (pQ rfl (q_ret en_62 (cg_ (wl 2)) rfl) ?_)))))
        obtain ⟨r155, hr155⟩ := nm ((ab_ (ah_ r135 (ab_ r145 r7.y)) (aa_ (wl 2))) : Rt)
        refine pC (AV [pI r155.n, pI r155.d]) en_57 (cm_ (ah_ r135 (ab_ r145 r7.y)) (aa_ (wl 2))) rfl rfl (by rw [hr155]; first | done | rfl) ?_
        refine PL_o rfl rfl (bk_ zp_39 (fun b156 hb156 => ⟨(fun _ => sd s0), sn, oS [pI r155.n, pI r155.d] ty_39 rfl rfl rfl rfl rfl rfl (.head _) rfl hb156 rfl sn (fl J (ds sn [0,8,12,16,20,24,28,32,36,40,44,48,6,53,56,61] [13,15] mix (by kernel_rfl) (fun K J => pE rfl (pE rfl (pQ rfl (q_as (v' := .pointer (some (slb (.slice p148 ((([] : List Rt) ++ [(aa_ (wl 0)), (aa_ (wl 0))]) ++ [(ab_ r145 r7.y), (aa_ (wl 0))]).length c149) (0 * 36 + 0)))) (br_ (e := elRt) (l := ((([] : List Rt) ++ [(aa_ (wl 0)), (aa_ (wl 0))]) ++ [(ab_ r145 r7.y), (aa_ (wl 0))])) (k := 0) sl_43 rfl rfl (SLfe.sle (OwnG.slfe hO151 (sd (List.sublist_append_left _ _)))) (by first | exact Nat.le_of_ble_eq_true rfl | omega)) rfl) ?_)))))⟩))
        refine pQ rfl (q_ldG (e := elRt) (l := ((([] : List Rt) ++ [(aa_ (wl 0)), (aa_ (wl 0))]) ++ [(ab_ r145 r7.y), (aa_ (wl 0))])) (k := 0) (o := 0) ty_39 rfl (SLfe.sle (OwnG.slfe hO151 (sd (List.sublist_append_left _ _)))) (bo_ Rt0 (by first | exact Nat.le_of_ble_eq_true rfl | omega)) rfl) ?_
        refine pQ rfl (qL ty_39 rfl m0 rfl) ?_
        obtain ⟨r157, hr157⟩ := nm ((aA_ (((([] : List Rt) ++ [(aa_ (wl 0)), (aa_ (wl 0))]) ++ [(ab_ r145 r7.y), (aa_ (wl 0))]).getD 0 Rt0) r155) : Rt)
        refine pC (AV [pI r157.n, pI r157.d]) en_66 (bh_ (((([] : List Rt) ++ [(aa_ (wl 0)), (aa_ (wl 0))]) ++ [(ab_ r145 r7.y), (aa_ (wl 0))]).getD 0 Rt0) r155) rfl rfl (by rw [hr157]; first | done | rfl) ?_
        refine pE rfl (pQ rfl (q_as (v' := .pointer (some (slb (.slice p148 ((([] : List Rt) ++ [(aa_ (wl 0)), (aa_ (wl 0))]) ++ [(ab_ r145 r7.y), (aa_ (wl 0))]).length c149) (1 * 36 + 0)))) (br_ (e := elRt) (l := ((([] : List Rt) ++ [(aa_ (wl 0)), (aa_ (wl 0))]) ++ [(ab_ r145 r7.y), (aa_ (wl 0))])) (k := 1) sl_43 rfl rfl (SLfe.sle (OwnG.slfe hO151 (sd (List.sublist_append_left _ _)))) (by first | exact Nat.le_of_ble_eq_true rfl | omega)) rfl) ?_)
        refine pQ rfl (q_ldG (e := elRt) (l := ((([] : List Rt) ++ [(aa_ (wl 0)), (aa_ (wl 0))]) ++ [(ab_ r145 r7.y), (aa_ (wl 0))])) (k := 1) (o := 0) ty_39 rfl (SLfe.sle (OwnG.slfe hO151 (sd (List.sublist_append_left _ _)))) (bo_ Rt0 (by first | exact Nat.le_of_ble_eq_true rfl | omega)) rfl) ?_
        refine pQ rfl (qL ty_39 rfl m0 rfl) ?_
        obtain ⟨r158, hr158⟩ := nm ((aA_ (((([] : List Rt) ++ [(aa_ (wl 0)), (aa_ (wl 0))]) ++ [(ab_ r145 r7.y), (aa_ (wl 0))]).getD 1 Rt0) r155) : Rt)
        refine pC (AV [pI r158.n, pI r158.d]) en_66 (bh_ (((([] : List Rt) ++ [(aa_ (wl 0)), (aa_ (wl 0))]) ++ [(ab_ r145 r7.y), (aa_ (wl 0))]).getD 1 Rt0) r155) rfl rfl (by rw [hr158]; first | done | rfl) ?_
        refine pQ rfl (q_as (v' := .pointer (some (slb (.slice p148 ((([] : List Rt) ++ [(aa_ (wl 0)), (aa_ (wl 0))]) ++ [(ab_ r145 r7.y), (aa_ (wl 0))]).length c149) (0 * 36 + 0)))) (br_ (e := elRt) (l := ((([] : List Rt) ++ [(aa_ (wl 0)), (aa_ (wl 0))]) ++ [(ab_ r145 r7.y), (aa_ (wl 0))])) (k := 0) sl_43 rfl rfl (SLfe.sle (OwnG.slfe hO151 (sd (List.sublist_append_left _ _)))) (by first | exact Nat.le_of_ble_eq_true rfl | omega)) rfl) ?_
        refine tE rfl (PL_o rfl rfl (dl_ (e := elRt) (l := ((([] : List Rt) ++ [(aa_ (wl 0)), (aa_ (wl 0))]) ++ [(ab_ r145 r7.y), (aa_ (wl 0))])) (k := 0) (z := r157) ty_39 rfl rfl hO151 (Nat.le_of_ble_eq_true rfl) (fq_s fq_l) rfl rfl (fun L159 hO160 => ⟨nf, sn, ?_⟩)))
        refine pQ rfl (q_as (v' := .pointer (some (slb (.slice p148 ((([] : List Rt) ++ [(aa_ (wl 0)), (aa_ (wl 0))]) ++ [(ab_ r145 r7.y), (aa_ (wl 0))]).length c149) (1 * 36 + 0)))) (br_ (e := elRt) (l := (((([] : List Rt) ++ [(aa_ (wl 0)), (aa_ (wl 0))]) ++ [(ab_ r145 r7.y), (aa_ (wl 0))]).set 0 r157)) (k := 1) sl_43 rfl rfl (SLfe.sle (OwnG.slfe hO160 (List.sublist_append_left _ _))) (by first | exact Nat.le_of_ble_eq_true rfl | omega)) rfl) ?_
        refine PL_o rfl rfl (dl_ (e := elRt) (l := (((([] : List Rt) ++ [(aa_ (wl 0)), (aa_ (wl 0))]) ++ [(ab_ r145 r7.y), (aa_ (wl 0))]).set 0 r157)) (k := 1) (z := r158) ty_39 rfl rfl hO160 (Nat.le_of_ble_eq_true rfl) fq_l rfl rfl (fun L161 hO162 => ⟨nf, sn, ?_⟩))
        refine fl J (Rs fun K J => sE rfl (sE rfl (sE rfl (nl J (W_ret (ret2 rfl (.inr rfl) rfl rfl ?_))))))
        have hE : ((((((([] : List Rt) ++ [(aa_ (wl 0)), (aa_ (wl 0))]) ++ [(ab_ r145 r7.y), (aa_ (wl 0))]).set 0 r157).set 1 r158), true) : (List Rt) × Bool) = (aM_ a b c) := by subst hr158; subst hr157; subst hr155; subst hr145; subst hr135; subst hr7; subst hr6; exact bif_t h3 (bif_f h12 (bif_t h143 (bif_f h144 (bif_t h146 (bif_f h152 (bif_f h153 rfl))))))
        rw [← hE]
        exact ⟨_, rfl, (OwnG.slfe hO162 (List.sublist_append_left _ _))⟩
     ·skip
      refine W_f h146 rfl (Rk fun K J => sE rfl (sQ (qL ty_39 rfl (List.mem_cons_of_mem _ (List.mem_cons_of_mem _ (List.mem_append_right _ (List.mem_cons_of_mem _ (List.mem_cons_of_mem _ (List.mem_cons_of_mem _ (List.mem_cons_of_mem _ (List.mem_cons_of_mem _ (List.mem_cons_self))))))))) rfl) rfl (sQ (qL ty_39 rfl m0 rfl) rfl (WL_r rfl (bi_ [[pI ((aa_ (wl 0)).n), pI ((aa_ (wl 0)).d)], [pI ((ab_ r145 r7.y).n), pI ((ab_ r145 r7.y).d)]] [pI ((aa_ (wl 0)).n), pI ((aa_ (wl 0)).d), pI ((ab_ r145 r7.y).n), pI ((ab_ r145 r7.y).d)] us_43 z_39 sz_39 rfl (by decide) rfl rfl ⟨rfl, rfl, rfl, rfl, rfl, rfl, trivial⟩ rfl (fun b163 hb163 => ?_))))))
      refine WL_r rfl (dy_ (e := elRt) (l := (([] : List Rt) ++ [(aa_ (wl 0)), (aa_ (wl 0))])) (m := [(aa_ (wl 0)), (ab_ r145 r7.y)]) 136 us_43 (by kernel_rfl) (by decide) rfl rfl hO140 (SLe.lit (e := elRt) (l := [(aa_ (wl 0)), (ab_ r145 r7.y)]) m0 rfl (Nat.le_of_ble_eq_true rfl) rfl) (fq_s (fq_s (fq_s fq_l))) (Nat.le_of_ble_eq_true rfl) (by decide) (fun p164 c165 L166 hO167 => ?_))
      refine sE rfl (nl J (J44 _ _ (Rk fun K J => sV (.int .i64 2) rfl rfl (sE rfl (nl J (J42 _ _ (Un_s (fun K51 J51 => Rs fun K J => sV (.bool false) rfl rfl (nl J (Sq fun K52 J52 => by_ rfl (bB_ (ax_ (ax_ (aF_ (J2 _ _ (Sq fun K53 J53 => Rs fun K J => sQ (qL ty_39 rfl (List.mem_append_right _ (List.mem_cons_of_mem _ (List.mem_cons_of_mem _ (List.mem_cons_of_mem _ (List.mem_cons_of_mem _ (List.mem_cons_of_mem _ (List.mem_cons_of_mem _ (List.mem_cons_of_mem _ (List.mem_cons_of_mem _ (List.mem_cons_of_mem _ (List.mem_cons_self))))))))))) rfl) rfl (sQ (q_ret en_63 (a8_ (ah_ r135 (ab_ r145 r7.y))) rfl) rfl ?_)))))))))))))))))
      refine sE rfl (nl J ?_)
      rcases bt (decide ((aL_ (ah_ r135 (ab_ r145 r7.y))).1 < 0)) with h168 | h168
      ·skip
       refine W_t h168 rfl (Rs fun K J => sE rfl (sE rfl (nl J (W_ret (ai_ (ret2 rfl (.inr rfl) rfl rfl ?_))))))
       have hE : ((([] : List Rt), false) : (List Rt) × Bool) = (aM_ a b c) := by subst hr145; subst hr135; subst hr7; subst hr6; exact bif_t h3 (bif_f h12 (bif_t h143 (bif_f h144 (bif_f h146 (bif_t h168 rfl)))))
       rw [← hE]
       exact ⟨_, rfl, SLfe.nil⟩
      ·skip
       refine W_f h168 rfl (ak_ (J53 _ _ (Sq fun K54 J54 => Rs fun K J => sE rfl (sE rfl (nl J ?_)))))
       rcases bt (b.1 == 0) with h169 | h169
       ·skip
        refine W_t h169 rfl (Rs fun K J => sQ (qL ty_39 rfl (List.mem_append_right _ (List.mem_cons_of_mem _ (List.mem_cons_of_mem _ (List.mem_cons_of_mem _ (List.mem_cons_of_mem _ (List.mem_cons_of_mem _ (List.mem_cons_of_mem _ (List.mem_cons_of_mem _ (List.mem_cons_of_mem _ (List.mem_cons_of_mem _ (List.mem_cons_self))))))))))) rfl) rfl (WL_r rfl (bi_ [[pI ((ah_ r135 (ab_ r145 r7.y)).n), pI ((ah_ r135 (ab_ r145 r7.y)).d)]] [pI ((ah_ r135 (ab_ r145 r7.y)).n), pI ((ah_ r135 (ab_ r145 r7.y)).d)] us_43 z_39 sz_39 rfl (by decide) rfl rfl ⟨rfl, rfl, rfl, trivial⟩ rfl (fun b170 hb170 => sE rfl (sE rfl (nl J (W_ret (ai_ (ret2 rfl (.inr rfl) rfl rfl ?_)))))))))
        have hE : (([(ah_ r135 (ab_ r145 r7.y))], true) : (List Rt) × Bool) = (aM_ a b c) := by subst hr145; subst hr135; subst hr7; subst hr6; exact bif_t h3 (bif_f h12 (bif_t h143 (bif_f h144 (bif_f h146 (bif_f h168 (bif_t h169 rfl))))))
        rw [← hE]
        exact ⟨_, rfl, (SLfe.lit (e := elRt) (l := [(ah_ r135 (ab_ r145 r7.y))]) hb170 m0 rfl (Nat.le_of_ble_eq_true rfl) rfl)⟩
       ·skip
        refine W_f h169 rfl (ak_ (J54 _ _ (ds sn [0,4,8,13,17] [4] mix (by kernel_rfl) (fun K J => pQ rfl (qL ty_39 rfl (List.mem_append_right _ (List.mem_cons_of_mem _ (List.mem_cons_of_mem _ (List.mem_cons_of_mem _ (List.mem_cons_of_mem _ (List.mem_cons_of_mem _ (List.mem_cons_of_mem _ (List.mem_cons_of_mem _ (List.mem_cons_of_mem _ (List.mem_cons_of_mem _ (List.mem_cons_self))))))))))) rfl) (pQ rfl (q_ret en_62 (cg_ (wl 2)) rfl) ?_)))))
        obtain ⟨r171, hr171⟩ := nm ((ab_ (ah_ r135 (ab_ r145 r7.y)) (aa_ (wl 2))) : Rt)
        refine pC (AV [pI r171.n, pI r171.d]) en_57 (cm_ (ah_ r135 (ab_ r145 r7.y)) (aa_ (wl 2))) rfl rfl (by rw [hr171]; first | done | rfl) ?_
        refine PL_o rfl rfl (bk_ zp_39 (fun b172 hb172 => ⟨(fun _ => sd s0), sn, oS [pI r171.n, pI r171.d] ty_39 rfl rfl rfl rfl rfl rfl (.head _) rfl hb172 rfl sn (fl J (ds sn [0,8,12,16,20,24,28,32,36,40,44,48,6,53,56,61] [13,15] mix (by kernel_rfl) (fun K J => pE rfl (pE rfl (pQ rfl (q_as (v' := .pointer (some (slb (.slice p164 ((([] : List Rt) ++ [(aa_ (wl 0)), (aa_ (wl 0))]) ++ [(aa_ (wl 0)), (ab_ r145 r7.y)]).length c165) (0 * 36 + 0)))) (br_ (e := elRt) (l := ((([] : List Rt) ++ [(aa_ (wl 0)), (aa_ (wl 0))]) ++ [(aa_ (wl 0)), (ab_ r145 r7.y)])) (k := 0) sl_43 rfl rfl (SLfe.sle (OwnG.slfe hO167 (sd (List.sublist_append_left _ _)))) (by first | exact Nat.le_of_ble_eq_true rfl | omega)) rfl) ?_)))))⟩))
        refine pQ rfl (q_ldG (e := elRt) (l := ((([] : List Rt) ++ [(aa_ (wl 0)), (aa_ (wl 0))]) ++ [(aa_ (wl 0)), (ab_ r145 r7.y)])) (k := 0) (o := 0) ty_39 rfl (SLfe.sle (OwnG.slfe hO167 (sd (List.sublist_append_left _ _)))) (bo_ Rt0 (by first | exact Nat.le_of_ble_eq_true rfl | omega)) rfl) ?_
        refine pQ rfl (qL ty_39 rfl m0 rfl) ?_
        obtain ⟨r173, hr173⟩ := nm ((aA_ (((([] : List Rt) ++ [(aa_ (wl 0)), (aa_ (wl 0))]) ++ [(aa_ (wl 0)), (ab_ r145 r7.y)]).getD 0 Rt0) r171) : Rt)
        refine pC (AV [pI r173.n, pI r173.d]) en_66 (bh_ (((([] : List Rt) ++ [(aa_ (wl 0)), (aa_ (wl 0))]) ++ [(aa_ (wl 0)), (ab_ r145 r7.y)]).getD 0 Rt0) r171) rfl rfl (by rw [hr173]; first | done | rfl) ?_
        refine pE rfl (pQ rfl (q_as (v' := .pointer (some (slb (.slice p164 ((([] : List Rt) ++ [(aa_ (wl 0)), (aa_ (wl 0))]) ++ [(aa_ (wl 0)), (ab_ r145 r7.y)]).length c165) (1 * 36 + 0)))) (br_ (e := elRt) (l := ((([] : List Rt) ++ [(aa_ (wl 0)), (aa_ (wl 0))]) ++ [(aa_ (wl 0)), (ab_ r145 r7.y)])) (k := 1) sl_43 rfl rfl (SLfe.sle (OwnG.slfe hO167 (sd (List.sublist_append_left _ _)))) (by first | exact Nat.le_of_ble_eq_true rfl | omega)) rfl) ?_)
        refine pQ rfl (q_ldG (e := elRt) (l := ((([] : List Rt) ++ [(aa_ (wl 0)), (aa_ (wl 0))]) ++ [(aa_ (wl 0)), (ab_ r145 r7.y)])) (k := 1) (o := 0) ty_39 rfl (SLfe.sle (OwnG.slfe hO167 (sd (List.sublist_append_left _ _)))) (bo_ Rt0 (by first | exact Nat.le_of_ble_eq_true rfl | omega)) rfl) ?_
        refine pQ rfl (qL ty_39 rfl m0 rfl) ?_
        obtain ⟨r174, hr174⟩ := nm ((aA_ (((([] : List Rt) ++ [(aa_ (wl 0)), (aa_ (wl 0))]) ++ [(aa_ (wl 0)), (ab_ r145 r7.y)]).getD 1 Rt0) r171) : Rt)
        refine pC (AV [pI r174.n, pI r174.d]) en_66 (bh_ (((([] : List Rt) ++ [(aa_ (wl 0)), (aa_ (wl 0))]) ++ [(aa_ (wl 0)), (ab_ r145 r7.y)]).getD 1 Rt0) r171) rfl rfl (by rw [hr174]; first | done | rfl) ?_
        refine pQ rfl (q_as (v' := .pointer (some (slb (.slice p164 ((([] : List Rt) ++ [(aa_ (wl 0)), (aa_ (wl 0))]) ++ [(aa_ (wl 0)), (ab_ r145 r7.y)]).length c165) (0 * 36 + 0)))) (br_ (e := elRt) (l := ((([] : List Rt) ++ [(aa_ (wl 0)), (aa_ (wl 0))]) ++ [(aa_ (wl 0)), (ab_ r145 r7.y)])) (k := 0) sl_43 rfl rfl (SLfe.sle (OwnG.slfe hO167 (sd (List.sublist_append_left _ _)))) (by first | exact Nat.le_of_ble_eq_true rfl | omega)) rfl) ?_
        refine tE rfl (PL_o rfl rfl (dl_ (e := elRt) (l := ((([] : List Rt) ++ [(aa_ (wl 0)), (aa_ (wl 0))]) ++ [(aa_ (wl 0)), (ab_ r145 r7.y)])) (k := 0) (z := r173) ty_39 rfl rfl hO167 (Nat.le_of_ble_eq_true rfl) (fq_s fq_l) rfl rfl (fun L175 hO176 => ⟨nf, sn, ?_⟩)))
        refine pQ rfl (q_as (v' := .pointer (some (slb (.slice p164 ((([] : List Rt) ++ [(aa_ (wl 0)), (aa_ (wl 0))]) ++ [(aa_ (wl 0)), (ab_ r145 r7.y)]).length c165) (1 * 36 + 0)))) (br_ (e := elRt) (l := (((([] : List Rt) ++ [(aa_ (wl 0)), (aa_ (wl 0))]) ++ [(aa_ (wl 0)), (ab_ r145 r7.y)]).set 0 r173)) (k := 1) sl_43 rfl rfl (SLfe.sle (OwnG.slfe hO176 (List.sublist_append_left _ _))) (by first | exact Nat.le_of_ble_eq_true rfl | omega)) rfl) ?_
        refine PL_o rfl rfl (dl_ (e := elRt) (l := (((([] : List Rt) ++ [(aa_ (wl 0)), (aa_ (wl 0))]) ++ [(aa_ (wl 0)), (ab_ r145 r7.y)]).set 0 r173)) (k := 1) (z := r174) ty_39 rfl rfl hO176 (Nat.le_of_ble_eq_true rfl) fq_l rfl rfl (fun L177 hO178 => ⟨nf, sn, ?_⟩))
        refine fl J (Rs fun K J => sE rfl (sE rfl (sE rfl (nl J (W_ret (ret2 rfl (.inr rfl) rfl rfl ?_))))))
        have hE : ((((((([] : List Rt) ++ [(aa_ (wl 0)), (aa_ (wl 0))]) ++ [(aa_ (wl 0)), (ab_ r145 r7.y)]).set 0 r173).set 1 r174), true) : (List Rt) × Bool) = (aM_ a b c) := by subst hr174; subst hr173; subst hr171; subst hr145; subst hr135; subst hr7; subst hr6; exact bif_t h3 (bif_f h12 (bif_t h143 (bif_f h144 (bif_f h146 (bif_f h168 (bif_f h169 rfl))))))
        rw [← hE]
        exact ⟨_, rfl, (OwnG.slfe hO178 (List.sublist_append_left _ _))⟩
   ·skip
    refine W_f h143 rfl (ak_ (J45 _ _ (Rs fun K J => sQ (qL ty_39 rfl (List.mem_cons_of_mem _ (List.mem_cons_of_mem _ (List.mem_append_right _ (List.mem_cons_of_mem _ (List.mem_cons_of_mem _ (List.mem_cons_of_mem _ (List.mem_cons_of_mem _ (List.mem_cons_of_mem _ (List.mem_cons_of_mem _ (List.mem_cons_self)))))))))) rfl) rfl (sQ (qL ty_39 rfl m0 rfl) rfl (sQ (q_ret en_65 (cl_ r135 (aa_ (wl 0))) rfl) rfl ?_)))))
    refine sS [pI ((ah_ r135 (aa_ (wl 0))).n), pI ((ah_ r135 (aa_ (wl 0))).d)] ty_39 rfl rfl rfl rfl rfl (.tail _ (.tail _ (Upd.left (.tail _ (.tail _ (.tail _ (.tail _ (.tail _ (.tail _ (.head _))))))) _))) rfl hb4 ?_
    refine nl J (Rs fun K J => sQ (qL ty_39 rfl m1 rfl) rfl (sQ (q_ret en_63 (a8_ (as_ r6.y c)) rfl) rfl (sE rfl (nl J (W_t (li_ h143) rfl (Rk fun K J => sE rfl (sQ (qL ty_39 rfl m0 rfl) rfl (sQ (qL ty_39 rfl (List.mem_cons_of_mem _ (List.mem_cons_of_mem _ (List.mem_append_right _ (List.mem_cons_of_mem _ (List.mem_cons_of_mem _ (List.mem_cons_of_mem _ (List.mem_cons_of_mem _ (List.mem_cons_of_mem _ (List.mem_cons_self))))))))) rfl) rfl (WL_r rfl (bi_ [[pI ((aa_ (wl 0)).n), pI ((aa_ (wl 0)).d)], [pI ((aa_ (wl 0)).n), pI ((aa_ (wl 0)).d)]] [pI ((aa_ (wl 0)).n), pI ((aa_ (wl 0)).d), pI ((aa_ (wl 0)).n), pI ((aa_ (wl 0)).d)] us_43 z_39 sz_39 rfl (by decide) rfl rfl ⟨rfl, rfl, rfl, rfl, rfl, rfl, trivial⟩ rfl (fun b179 hb179 => ?_)))))))))))
    refine WL_r rfl (dy_ (e := elRt) (l := (([] : List Rt) ++ [(aa_ (wl 0)), (aa_ (wl 0))])) (m := [(aa_ (wl 0)), (aa_ (wl 0))]) 136 us_43 (by kernel_rfl) (by decide) rfl rfl hO140 (SLe.lit (e := elRt) (l := [(aa_ (wl 0)), (aa_ (wl 0))]) m0 rfl (Nat.le_of_ble_eq_true rfl) rfl) (fq_s (fq_s (fq_s fq_l))) (Nat.le_of_ble_eq_true rfl) (by decide) (fun p180 c181 L182 hO183 => ?_))
    refine sE rfl (nl J (J44 _ _ (Rk fun K J => sV (.int .i64 2) rfl rfl (sE rfl (nl J (J42 _ _ (Un_s (fun K55 J55 => Rs fun K J => sV (.bool false) rfl rfl (nl J (Sq fun K56 J56 => by_ rfl (bB_ (ax_ (ax_ (aF_ (J2 _ _ (Sq fun K57 J57 => Rs fun K J => sQ (qL ty_39 rfl (List.mem_append_right _ (List.mem_cons_of_mem _ (List.mem_cons_of_mem _ (List.mem_cons_of_mem _ (List.mem_cons_of_mem _ (List.mem_cons_of_mem _ (List.mem_cons_of_mem _ (List.mem_cons_of_mem _ (List.mem_cons_of_mem _ (List.mem_cons_of_mem _ (List.mem_cons_self))))))))))) rfl) rfl (sQ (q_ret en_63 (a8_ (ah_ r135 (aa_ (wl 0)))) rfl) rfl ?_)))))))))))))))))
    refine sE rfl (nl J ?_)
    rcases bt (decide ((aL_ (ah_ r135 (aa_ (wl 0)))).1 < 0)) with h184 | h184
    ·skip
     refine W_t h184 rfl (Rs fun K J => sE rfl (sE rfl (nl J (W_ret (ai_ (ret2 rfl (.inr rfl) rfl rfl ?_))))))
     have hE : ((([] : List Rt), false) : (List Rt) × Bool) = (aM_ a b c) := by subst hr135; subst hr7; subst hr6; exact bif_t h3 (bif_f h12 (bif_f h143 (bif_t h184 rfl)))
     rw [← hE]
     exact ⟨_, rfl, SLfe.nil⟩
    ·skip
     refine W_f h184 rfl (ak_ (J57 _ _ (Sq fun K58 J58 => Rs fun K J => sE rfl (sE rfl (nl J ?_)))))
     rcases bt (b.1 == 0) with h185 | h185
     ·skip
      refine W_t h185 rfl (Rs fun K J => sQ (qL ty_39 rfl (List.mem_append_right _ (List.mem_cons_of_mem _ (List.mem_cons_of_mem _ (List.mem_cons_of_mem _ (List.mem_cons_of_mem _ (List.mem_cons_of_mem _ (List.mem_cons_of_mem _ (List.mem_cons_of_mem _ (List.mem_cons_of_mem _ (List.mem_cons_of_mem _ (List.mem_cons_self))))))))))) rfl) rfl (WL_r rfl (bi_ [[pI ((ah_ r135 (aa_ (wl 0))).n), pI ((ah_ r135 (aa_ (wl 0))).d)]] [pI ((ah_ r135 (aa_ (wl 0))).n), pI ((ah_ r135 (aa_ (wl 0))).d)] us_43 z_39 sz_39 rfl (by decide) rfl rfl ⟨rfl, rfl, rfl, trivial⟩ rfl (fun b186 hb186 => ?_))))
      refine sE rfl (sE rfl (nl J (W_ret (ai_ (ret2 rfl (.inr rfl) rfl rfl ?_)))))
      have hE : (([(ah_ r135 (aa_ (wl 0)))], true) : (List Rt) × Bool) = (aM_ a b c) := by subst hr135; subst hr7; subst hr6; exact bif_t h3 (bif_f h12 (bif_f h143 (bif_f h184 (bif_t h185 rfl))))
      rw [← hE]
      exact ⟨_, rfl, (SLfe.lit (e := elRt) (l := [(ah_ r135 (aa_ (wl 0)))]) hb186 m0 rfl (Nat.le_of_ble_eq_true rfl) rfl)⟩
     ·skip
      refine W_f h185 rfl (ak_ (J58 _ _ (ds sn [0,4,8,13,17] [4] mix (by kernel_rfl) (fun K J => pQ rfl (qL ty_39 rfl (List.mem_append_right _ (List.mem_cons_of_mem _ (List.mem_cons_of_mem _ (List.mem_cons_of_mem _ (List.mem_cons_of_mem _ (List.mem_cons_of_mem _ (List.mem_cons_of_mem _ (List.mem_cons_of_mem _ (List.mem_cons_of_mem _ (List.mem_cons_of_mem _ (List.mem_cons_self))))))))))) rfl) (pQ rfl (q_ret en_62 (cg_ (wl 2)) rfl) ?_)))))
      obtain ⟨r187, hr187⟩ := nm ((ab_ (ah_ r135 (aa_ (wl 0))) (aa_ (wl 2))) : Rt)
      refine pC (AV [pI r187.n, pI r187.d]) en_57 (cm_ (ah_ r135 (aa_ (wl 0))) (aa_ (wl 2))) rfl rfl (by rw [hr187]; first | done | rfl) ?_
      refine PL_o rfl rfl (bk_ zp_39 (fun b188 hb188 => ⟨(fun _ => sd s0), sn, oS [pI r187.n, pI r187.d] ty_39 rfl rfl rfl rfl rfl rfl (.head _) rfl hb188 rfl sn (fl J (ds sn [0,8,12,16,20,24,28,32,36,40,44,48,6,53,56,61] [13,15] mix (by kernel_rfl) (fun K J => pE rfl (pE rfl (pQ rfl (q_as (v' := .pointer (some (slb (.slice p180 ((([] : List Rt) ++ [(aa_ (wl 0)), (aa_ (wl 0))]) ++ [(aa_ (wl 0)), (aa_ (wl 0))]).length c181) (0 * 36 + 0)))) (br_ (e := elRt) (l := ((([] : List Rt) ++ [(aa_ (wl 0)), (aa_ (wl 0))]) ++ [(aa_ (wl 0)), (aa_ (wl 0))])) (k := 0) sl_43 rfl rfl (SLfe.sle (OwnG.slfe hO183 (sd (List.sublist_append_left _ _)))) (by first | exact Nat.le_of_ble_eq_true rfl | omega)) rfl) ?_)))))⟩))
      refine pQ rfl (q_ldG (e := elRt) (l := ((([] : List Rt) ++ [(aa_ (wl 0)), (aa_ (wl 0))]) ++ [(aa_ (wl 0)), (aa_ (wl 0))])) (k := 0) (o := 0) ty_39 rfl (SLfe.sle (OwnG.slfe hO183 (sd (List.sublist_append_left _ _)))) (bo_ Rt0 (by first | exact Nat.le_of_ble_eq_true rfl | omega)) rfl) ?_
      refine pQ rfl (qL ty_39 rfl m0 rfl) ?_
      obtain ⟨r189, hr189⟩ := nm ((aA_ (((([] : List Rt) ++ [(aa_ (wl 0)), (aa_ (wl 0))]) ++ [(aa_ (wl 0)), (aa_ (wl 0))]).getD 0 Rt0) r187) : Rt)
      refine pC (AV [pI r189.n, pI r189.d]) en_66 (bh_ (((([] : List Rt) ++ [(aa_ (wl 0)), (aa_ (wl 0))]) ++ [(aa_ (wl 0)), (aa_ (wl 0))]).getD 0 Rt0) r187) rfl rfl (by rw [hr189]; first | done | rfl) ?_
      refine pE rfl (pQ rfl (q_as (v' := .pointer (some (slb (.slice p180 ((([] : List Rt) ++ [(aa_ (wl 0)), (aa_ (wl 0))]) ++ [(aa_ (wl 0)), (aa_ (wl 0))]).length c181) (1 * 36 + 0)))) (br_ (e := elRt) (l := ((([] : List Rt) ++ [(aa_ (wl 0)), (aa_ (wl 0))]) ++ [(aa_ (wl 0)), (aa_ (wl 0))])) (k := 1) sl_43 rfl rfl (SLfe.sle (OwnG.slfe hO183 (sd (List.sublist_append_left _ _)))) (by first | exact Nat.le_of_ble_eq_true rfl | omega)) rfl) ?_)
      refine pQ rfl (q_ldG (e := elRt) (l := ((([] : List Rt) ++ [(aa_ (wl 0)), (aa_ (wl 0))]) ++ [(aa_ (wl 0)), (aa_ (wl 0))])) (k := 1) (o := 0) ty_39 rfl (SLfe.sle (OwnG.slfe hO183 (sd (List.sublist_append_left _ _)))) (bo_ Rt0 (by first | exact Nat.le_of_ble_eq_true rfl | omega)) rfl) ?_
      refine pQ rfl (qL ty_39 rfl m0 rfl) ?_
      obtain ⟨r190, hr190⟩ := nm ((aA_ (((([] : List Rt) ++ [(aa_ (wl 0)), (aa_ (wl 0))]) ++ [(aa_ (wl 0)), (aa_ (wl 0))]).getD 1 Rt0) r187) : Rt)
      refine pC (AV [pI r190.n, pI r190.d]) en_66 (bh_ (((([] : List Rt) ++ [(aa_ (wl 0)), (aa_ (wl 0))]) ++ [(aa_ (wl 0)), (aa_ (wl 0))]).getD 1 Rt0) r187) rfl rfl (by rw [hr190]; first | done | rfl) ?_
      refine pQ rfl (q_as (v' := .pointer (some (slb (.slice p180 ((([] : List Rt) ++ [(aa_ (wl 0)), (aa_ (wl 0))]) ++ [(aa_ (wl 0)), (aa_ (wl 0))]).length c181) (0 * 36 + 0)))) (br_ (e := elRt) (l := ((([] : List Rt) ++ [(aa_ (wl 0)), (aa_ (wl 0))]) ++ [(aa_ (wl 0)), (aa_ (wl 0))])) (k := 0) sl_43 rfl rfl (SLfe.sle (OwnG.slfe hO183 (sd (List.sublist_append_left _ _)))) (by first | exact Nat.le_of_ble_eq_true rfl | omega)) rfl) ?_
      refine tE rfl (PL_o rfl rfl (dl_ (e := elRt) (l := ((([] : List Rt) ++ [(aa_ (wl 0)), (aa_ (wl 0))]) ++ [(aa_ (wl 0)), (aa_ (wl 0))])) (k := 0) (z := r189) ty_39 rfl rfl hO183 (Nat.le_of_ble_eq_true rfl) (fq_s fq_l) rfl rfl (fun L191 hO192 => ⟨nf, sn, ?_⟩)))
      refine pQ rfl (q_as (v' := .pointer (some (slb (.slice p180 ((([] : List Rt) ++ [(aa_ (wl 0)), (aa_ (wl 0))]) ++ [(aa_ (wl 0)), (aa_ (wl 0))]).length c181) (1 * 36 + 0)))) (br_ (e := elRt) (l := (((([] : List Rt) ++ [(aa_ (wl 0)), (aa_ (wl 0))]) ++ [(aa_ (wl 0)), (aa_ (wl 0))]).set 0 r189)) (k := 1) sl_43 rfl rfl (SLfe.sle (OwnG.slfe hO192 (List.sublist_append_left _ _))) (by first | exact Nat.le_of_ble_eq_true rfl | omega)) rfl) ?_
      refine PL_o rfl rfl (dl_ (e := elRt) (l := (((([] : List Rt) ++ [(aa_ (wl 0)), (aa_ (wl 0))]) ++ [(aa_ (wl 0)), (aa_ (wl 0))]).set 0 r189)) (k := 1) (z := r190) ty_39 rfl rfl hO192 (Nat.le_of_ble_eq_true rfl) fq_l rfl rfl (fun L193 hO194 => ⟨nf, sn, ?_⟩))
      refine fl J (Rs fun K J => sE rfl (sE rfl (sE rfl (nl J (W_ret (ret2 rfl (.inr rfl) rfl rfl ?_))))))
      have hE : ((((((([] : List Rt) ++ [(aa_ (wl 0)), (aa_ (wl 0))]) ++ [(aa_ (wl 0)), (aa_ (wl 0))]).set 0 r189).set 1 r190), true) : (List Rt) × Bool) = (aM_ a b c) := by subst hr190; subst hr189; subst hr187; subst hr135; subst hr7; subst hr6; exact bif_t h3 (bif_f h12 (bif_f h143 (bif_f h184 (bif_f h185 rfl))))
      rw [← hE]
      exact ⟨_, rfl, (OwnG.slfe hO194 (List.sublist_append_left _ _))⟩
 ·skip
  refine W_t (not_t h3) rfl (Rs fun K J => sE rfl (sE rfl (nl J (W_ret (ai_ (ret2 rfl (.inr rfl) rfl rfl ?_))))))
  have hE : ((([] : List Rt), false) : (List Rt) × Bool) = (aM_ a b c) := by exact bif_f h3 rfl
  rw [← hE]
  exact ⟨_, rfl, SLfe.nil⟩

theorem f8_ (a : (A3 W)) (b : W) (c : (A3 Rt)) :
    Ret Tryz.prog 19 [AV [ci .i64 a.x.1, ci .i64 a.y.1, ci .i64 a.z.1], .int .i64 b.1, AV [pI c.x.n, pI c.x.d, pI c.y.n, pI c.y.d, pI c.z.n, pI c.z.d]] (.bool (ey_ a b c)) := by
 refine av_ (N := 17) Tryz.func19 rfl rfl (by simp) (fun w0 => ?_)
 simp only [initF, Nat.reduceAdd]
 refine Rs fun K J => WL_r rfl (a1_ rfl rfl (fun b1 hb1 => WL_r rfl (a1_ rfl rfl (fun b2 hb2 => sE rfl (nl J (Rs fun K J => sQ (qL ty_23 rfl m1 rfl) rfl (sE rfl (sQ (qL ty_41 rfl m0 rfl) rfl (WL_r rfl (fq_ (e := elRt) (l := (aM_ a b c).1) (fun v => .tuple #[v, .bool ((aM_ a b c).2)]) en_16 rfl (fun w hw => eB_ a b c w) (fun p3 c4 L5 hF6 => sE rfl (sE rfl (sE rfl (sE rfl (sE rfl (nl J (Rs fun K J => sE rfl (sE rfl (nl J ?_)))))))))))))))))))
 refine W_ret (ret1 rfl (.inr rfl) rfl ?_)
 exact (by rfl)

theorem hE_ (vl : Value) (l : (List (A3 Rt))) (vk : Value) (k : (List Rt)) (w : World) (hl : Slr w elVr vl l) (hk : Slr w elRt vk k) :
    Calls Tryz.prog 21 [vl, vk].toArray w (fun e w' => e = .returned (AV [pI (((cS_ l k).x).n), pI (((cS_ l k).x).d), pI (((cS_ l k).y).n), pI (((cS_ l k).y).d), pI (((cS_ l k).z).n), pI (((cS_ l k).z).d)]) ∧ Ext w w') := by
 refine di_ (N := 30) Tryz.func21 rfl rfl (by simp) ?_
 obtain ⟨w0, rfl⟩ : ∃ w0, w0 = w := ⟨_, rfl⟩
 have Hl := hl.old
 have hm_l := hl.max
 have Hk := hk.old
 have hm_k := hk.max
 simp only [initF, Nat.reduceAdd]
 refine Rs fun K J => sN zp_41 rfl fun b1 hb1 => nl J (Rs fun K J => sQ (bH_ zp_23 ar_23 rfl (.nil _)) rfl ?_)
 obtain ⟨r2, hr2⟩ := nm ((cd_ (⟨(wl 0), (wl 0), (wl 0)⟩ : (A3 W))) : (A3 Rt))
 refine sC (AV [pI r2.x.n, pI r2.x.d, pI r2.y.n, pI r2.y.d, pI r2.z.n, pI r2.z.d]) en_43 (d5_ (⟨(wl 0), (wl 0), (wl 0)⟩ : (A3 W))) rfl rfl (by rw [hr2]; first | done | rfl) ?_
 refine sN zp_41 rfl fun b3 hb3 => sS [pI r2.x.n, pI r2.x.d, pI r2.y.n, pI r2.y.d, pI r2.z.n, pI r2.z.d] ty_41 rfl rfl rfl rfl rfl (.head _) rfl hb3 (nl J (Sq fun K1 J1 => Rs fun K J => sE rfl (sQ (q_as (v' := .int .i64 (((l).length : Nat) : Int)) (e7_ (e := elVr) sl_24 rfl (SLe.sub Hl sn)) rfl) rfl (sE rfl (sQ (q_as (v' := .int .i64 (((k).length : Nat) : Int)) (e7_ (e := elRt) sl_43 rfl (SLe.sub Hk sn)) rfl) rfl (sQ (pz_ rfl rfl) rfl (sE rfl (nl J ?_))))))))
 refine ia_ (fun S M h => J1 S M h) [6, 14, 15, 16, 17, 18, 19, 20, 21, 22, 23, 24, 25, 26, 27, 28] (fun g M => ∃ (i : Nat) (mb3 : (A3 Rt)), (c8_ l k r2 ((min l.length k.length + 1)) 0 r2) = (i, mb3) ∧ (g 14 = .int .i64 ((i : Nat) : Int)) ∧ M = [⟨b3, 41, flat [pI mb3.x.n, pI mb3.x.d, pI mb3.y.n, pI mb3.y.d, pI mb3.z.n, pI mb3.z.d]⟩, ⟨b1, 41, flat [pI I0, pI I0, pI I0, pI I0, pI I0, pI I0]⟩]) (fun K_u4 hK_u4 => ?_) ?_
 ·skip
  refine ar_ ?_
  refine bN_ [6, 14, 15, 16, 17, 18, 19, 20, 21, 22, 23, 24, 25, 26, 27, 28] (fun g nn M => ∃ (i : Nat) (mb3 : (A3 Rt)), (c8_ l k r2 nn i mb3) = (c8_ l k r2 ((min l.length k.length + 1)) 0 r2) ∧ min l.length k.length - i < nn ∧ (i ≤ min l.length k.length) ∧ (g 14 = .int .i64 ((i : Nat) : Int)) ∧ M = [⟨b3, 41, flat [pI mb3.x.n, pI mb3.x.d, pI mb3.y.n, pI mb3.y.d, pI mb3.z.n, pI mb3.z.d]⟩, ⟨b1, 41, flat [pI I0, pI I0, pI I0, pI I0, pI I0, pI I0]⟩]) ((min l.length k.length + 1)) ?start ?round
  case start => exact ⟨_, s0, 0, r2, rfl, (by omega), (by omega), rfl, rfl⟩
  case round =>
   rintro nn g M ⟨i, mb3, hT0, hq0, hinv0, hg14, rfl⟩
   obtain ⟨k0, rfl⟩ : ∃ m, nn = m + 1 := ⟨nn - 1, by omega⟩
   simp only [setG, hg14]
   clear hg14
   refine Rs fun K J => sE rfl (nl J (Sq fun K6 J6 => ?_))
   rcases bt (decide (((i : Nat) : Int) < (((min ((l).length) ((k).length)) : Nat) : Int))) with h11 | h11
   ·skip
    have ph11 := of_decide_eq_true h11
    refine W_t h11 rfl (ak_ (J6 _ _ (Sq fun K7 J7 => ar_ (Rs fun K J => sE rfl (sE rfl (nl J (dr (sd (sk (s0))) [0,4,8,12,16,20,24,28,32,36,40,45] [11] mix (by kernel_rfl) (fun K J => pQ rfl (qL ty_41 rfl m0 rfl) (pE rfl (pE rfl (pQ rfl (q_as (v' := .pointer (some (slb vk (i * 36 + 0)))) (br_ (e := elRt) (l := k) (k := i) sl_43 rfl rfl (SLe.sub Hk sn) (by omega)) rfl) (pQ rfl (q_ldG (e := elRt) (l := k) (k := i) (o := 0) ty_39 rfl (SLe.sub Hk sn) (bo_ Rt0 (by omega)) rfl) (pE rfl (pE rfl (pQ rfl (q_as (v' := .pointer (some (slb vl (i * 108 + 0)))) (br_ (e := elVr) (l := l) (k := i) sl_24 rfl rfl (SLe.sub Hl sn) (by omega)) rfl) (pQ rfl (q_ldG (e := elVr) (l := l) (k := i) (o := 0) ty_41 rfl (SLe.sub Hl sn) (bo_ V0 (by omega)) rfl) ?_))))))))))))))))
    obtain ⟨r12, hr12⟩ := nm ((b7_ (k.getD i Rt0) (l.getD i V0)) : (A3 Rt))
    refine pC (AV [pI r12.x.n, pI r12.x.d, pI r12.y.n, pI r12.y.d, pI r12.z.n, pI r12.z.d]) en_45 (eO_ (k.getD i Rt0) (l.getD i V0)) rfl rfl (by rw [hr12]; first | done | rfl) ?_
    obtain ⟨r13, hr13⟩ := nm ((cn_ mb3 r12) : (A3 Rt))
    refine pC (AV [pI r13.x.n, pI r13.x.d, pI r13.y.n, pI r13.y.d, pI r13.z.n, pI r13.z.d]) en_46 (fa_ mb3 r12) rfl rfl (by rw [hr13]; first | done | rfl) (oS [pI r13.x.n, pI r13.x.d, pI r13.y.n, pI r13.y.d, pI r13.z.n, pI r13.z.d] ty_41 rfl rfl rfl rfl rfl rfl (.head _) rfl hb3 rfl (sd s0) (fl J (J7 _ _ (Rk fun K J => sV (.int .i64 ((i + 1 : Nat) : Int)) rfl (congrArg (Value.int .i64) (wx (by omega) (by omega) (by omega))) (sE rfl (nl J (⟨(by repeat first | exact .refl | refine .cons rfl ?_), _, _, s0, (Nat.lt_succ_self _), i + 1, r13, (by subst hr13; subst hr12; exact (hT0.symm.trans (Eq.symm (bif_t h11 rfl))).symm), (Nat.lt_of_lt_of_le (by omega) (Nat.le_of_lt_succ hq0)), (by omega), rfl, rfl⟩)))))))
   ·skip
    have ph11 := of_decide_eq_false h11
    refine W_f h11 rfl (bB_ (ax_ (ax_ (aF_ (hK_u4 _ _ (by repeat first | exact .refl | refine .cons rfl ?_) ⟨_, s0, i, mb3, (by exact hT0.symm.trans (Eq.symm (bif_f h11 rfl))), rfl, rfl⟩)))))
 ·skip
  rintro g M ⟨i, mb3, hCu4, hg14, rfl⟩
  simp only [setG, hg14]
  clear hg14
  refine Rs fun K J => sQ (qL ty_41 rfl m0 rfl) rfl (sS [pI mb3.x.n, pI mb3.x.d, pI mb3.y.n, pI mb3.y.d, pI mb3.z.n, pI mb3.z.d] ty_41 rfl rfl rfl rfl rfl (.tail _ (.head _)) rfl hb1 (nl J (W_ret (ret1 rfl (.inr rfl) (resP rfl m1 ty_41 rfl) ?_))))
  exact (by subst hr2; exact congrArg (fun r : (A3 Rt) => (AV [pI r.x.n, pI r.x.d, pI r.y.n, pI r.y.d, pI r.z.n, pI r.z.d] : Value)) (show _ = (cS_ l k) from (by unfold cS_; exact trs (Eq.symm (apS hCu4)) rfl)))
end Go.Proofs.YtapbefpeopaecaaGreatDoor

