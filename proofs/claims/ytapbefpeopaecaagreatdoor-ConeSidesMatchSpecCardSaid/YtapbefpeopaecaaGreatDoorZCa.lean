/- Walks: what these functions return. -/
import Derived.Test.YtapbefpeopaecaaGreatDoorZFa0
import Derived.Test.YtapbefpeopaecaaGreatDoorZFc
import Derived.Test.YtapbefpeopaecaaGreatDoorZGa
import Derived.Test.YtapbefpeopaecaaGreatDoorZGc
import Derived.Test.YtapbefpeopaecaaGreatDoorZGf
import Derived.Test.YtapbefpeopaecaaGreatDoorZVa
import Derived.Test.YtapbefpeopaecaaGreatDoorZVd
import Derived.Test.YtapbefpeopaecaaGreatDoorZWc
import Derived.Test.YtapbefpeopaecaaGreatDoorZWe
import Derived.Test.YtapbefpeopaecaaGreatDoorZWh
import Derived.Test.YtapbefpeopaecaaGreatDoorZWl
import Derived.Test.YtapbefpeopaecaaGreatDoorZWq
namespace Go.Proofs.YtapbefpeopaecaaGreatDoor
open Go.Kn Go.Num
set_option linter.unusedVariables false
set_option linter.unusedSimpArgs false
set_option maxRecDepth 20000
set_option maxHeartbeats 8000000
theorem fh_ (a : (A3 W)) (b : W) :
    Ret Tryz.prog 42 [AV [ci .i64 a.x.1, ci .i64 a.y.1, ci .i64 a.z.1], .int .i64 b.1] (.bool (cp_ a b)) := by
 refine as_ (N := 29) Tryz.func42 rfl rfl (by simp) (fun w0 => ?_)
 simp only [initF, Nat.reduceAdd]
 refine Rs fun K J => WL_r rfl (aQ_ rfl rfl (fun b1 hb1 => sE rfl (nl J (Sq fun K1 J1 => Rs fun K J => sQ (qL ty_23 rfl m0 rfl) rfl (sE rfl (nl J (ao_ (W_un 5 (Un_s (fun K2 J2 => Rs fun K J => sV (.bool true) rfl rfl (nl J (Sq fun K3 J3 => bQ_ rfl (aj_ (J3 _ _ (Sq fun K4 J4 => ?_)))))))))))))))
 refine ao_ (Rs fun K J => sQ (qJ el_23 rfl rfl rfl rfl) rfl (sE rfl (nl J ?_)))
 refine bV_ [11, 12, 13, 14, 15, 16] (fun g M => (g 16 = .bool (decide (536870912 ≤ a.x.1) || decide (a.x.1 ≤ (-536870912)))) ∧ M = [⟨b1, 23, flat [ci .i64 a.x.1, ci .i64 a.y.1, ci .i64 a.z.1]⟩]) (fun K5 J5 => ?_) ?_
 ·skip
  refine Rk fun K J => sE rfl (sE rfl ?_)
  rcases bt (decide (536870912 ≤ a.x.1)) with h3 | h3
  ·skip
   refine sB h3 rfl (WL_n rfl (WL_n rfl (sE rfl (nl J ?_))))
   refine J5 _ _ (by repeat first | exact .refl | refine .cons rfl ?_) ⟨_, s0, ?s16, rfl⟩
   case s16 => exact congrArg Value.bool (or_t h3)
  ·skip
   refine sB h3 rfl (sE rfl (sE rfl (sE rfl (nl J ?_))))
   refine J5 _ _ (by repeat first | exact .refl | refine .cons rfl ?_) ⟨_, s0, ?s16, rfl⟩
   case s16 => exact congrArg Value.bool (or_f h3 rfl)
 ·skip
  rintro g4 M ⟨hg16, rfl⟩
  simp only [setG, hg16]
  clear hg16
  rcases bt (decide (536870912 ≤ a.x.1) || decide (a.x.1 ≤ (-536870912))) with h5 | h5
  ·skip
   refine W_t h5 rfl (Rs fun K J => sE rfl (nl J (W_ret (aH_ (af_ (af_ (aH_ (af_ (ret1 rfl (.inr rfl) rfl ?_)))))))))
   exact (by exact congrArg (fun r : Bool => (.bool r : Value)) (show _ = (cp_ a b) from bif_t h5 rfl))
  ·skip
   refine W_f h5 rfl (aj_ (J4 _ _ (Rk fun K J => sV (.int .i64 1) rfl rfl (sE rfl (nl J (J2 _ _ (Un_s (fun K6 J6 => Rs fun K J => sV (.bool true) rfl rfl (nl J (Sq fun K7 J7 => bQ_ rfl (aj_ (J7 _ _ (Sq fun K8 J8 => ao_ (Rs fun K J => sQ (qJ el_23 rfl rfl rfl rfl) rfl ?_))))))))))))))
   refine sE rfl (nl J ?_)
   refine bV_ [11, 12, 13, 14, 15, 16] (fun g M => (g 16 = .bool (decide (536870912 ≤ a.y.1) || decide (a.y.1 ≤ (-536870912)))) ∧ M = [⟨b1, 23, flat [ci .i64 a.x.1, ci .i64 a.y.1, ci .i64 a.z.1]⟩]) (fun K9 J9 => ?_) ?_
   ·skip
    refine Rk fun K J => sE rfl (sE rfl ?_)
    rcases bt (decide (536870912 ≤ a.y.1)) with h7 | h7
    ·skip
     refine sB h7 rfl (WL_n rfl (WL_n rfl (sE rfl (nl J ?_))))
     refine J9 _ _ (by repeat first | exact .refl | refine .cons rfl ?_) ⟨_, s0, ?s16, rfl⟩
     case s16 => exact congrArg Value.bool (or_t h7)
    ·skip
     refine sB h7 rfl (sE rfl (sE rfl (sE rfl (nl J ?_))))
     refine J9 _ _ (by repeat first | exact .refl | refine .cons rfl ?_) ⟨_, s0, ?s16, rfl⟩
     case s16 => exact congrArg Value.bool (or_f h7 rfl)
   ·skip
    rintro g8 M ⟨hg16, rfl⟩
    simp only [setG, hg16]
    clear hg16
    rcases bt (decide (536870912 ≤ a.y.1) || decide (a.y.1 ≤ (-536870912))) with h9 | h9
    ·skip
     refine W_t h9 rfl (Rs fun K J => sE rfl (nl J (W_ret (aH_ (af_ (af_ (aH_ (af_ (ret1 rfl (.inr rfl) rfl ?_)))))))))
     exact (by exact congrArg (fun r : Bool => (.bool r : Value)) (show _ = (cp_ a b) from bif_f h5 (bif_t h9 rfl)))
    ·skip
     refine W_f h9 rfl (aj_ (J8 _ _ (Rk fun K J => sV (.int .i64 2) rfl rfl (sE rfl (nl J (J6 _ _ (Un_s (fun K10 J10 => Rs fun K J => sV (.bool true) rfl rfl (nl J (Sq fun K11 J11 => bQ_ rfl (aj_ (J11 _ _ (Sq fun K12 J12 => ao_ (Rs fun K J => sQ (qJ el_23 rfl rfl rfl rfl) rfl ?_))))))))))))))
     refine sE rfl (nl J ?_)
     refine bV_ [11, 12, 13, 14, 15, 16] (fun g M => (g 16 = .bool (decide (536870912 ≤ a.z.1) || decide (a.z.1 ≤ (-536870912)))) ∧ M = [⟨b1, 23, flat [ci .i64 a.x.1, ci .i64 a.y.1, ci .i64 a.z.1]⟩]) (fun K13 J13 => ?_) ?_
     ·skip
      refine Rk fun K J => sE rfl (sE rfl ?_)
      rcases bt (decide (536870912 ≤ a.z.1)) with h11 | h11
      ·skip
       refine sB h11 rfl (WL_n rfl (WL_n rfl (sE rfl (nl J ?_))))
       refine J13 _ _ (by repeat first | exact .refl | refine .cons rfl ?_) ⟨_, s0, ?s16, rfl⟩
       case s16 => exact congrArg Value.bool (or_t h11)
      ·skip
       refine sB h11 rfl (sE rfl (sE rfl (sE rfl (nl J ?_))))
       refine J13 _ _ (by repeat first | exact .refl | refine .cons rfl ?_) ⟨_, s0, ?s16, rfl⟩
       case s16 => exact congrArg Value.bool (or_f h11 rfl)
     ·skip
      rintro g12 M ⟨hg16, rfl⟩
      simp only [setG, hg16]
      clear hg16
      rcases bt (decide (536870912 ≤ a.z.1) || decide (a.z.1 ≤ (-536870912))) with h13 | h13
      ·skip
       refine W_t h13 rfl (Rs fun K J => sE rfl (nl J (W_ret (aH_ (af_ (af_ (aH_ (af_ (ret1 rfl (.inr rfl) rfl ?_)))))))))
       exact (by exact congrArg (fun r : Bool => (.bool r : Value)) (show _ = (cp_ a b) from bif_f h5 (bif_f h9 (bif_t h13 rfl))))
      ·skip
       refine W_f h13 rfl (aj_ (J12 _ _ (Rk fun K J => sV (.int .i64 3) rfl rfl (sE rfl (nl J (J10 _ _ (Un_s (fun K14 J14 => Rs fun K J => sV (.bool false) rfl rfl (nl J (Sq fun K15 J15 => bU_ rfl (bG_ (aw_ (aw_ (aC_ (J1 _ _ ?_)))))))))))))))
       refine bV_ [4, 18, 19, 20, 21, 22, 23, 24, 25, 26, 27, 28] (fun g M => (g 4 = .bool (!(decide (a.x.1 = 0) && (decide (a.y.1 = 0) && decide (a.z.1 = 0))) && (decide (0 ≤ b.1) && decide (b.1 ≤ 4000)))) ∧ M = [⟨b1, 23, flat [ci .i64 a.x.1, ci .i64 a.y.1, ci .i64 a.z.1]⟩]) (fun K16 J16 => ?_) ?_
       ·skip
        refine Rk fun K J => sQ (qL ty_23 rfl m0 rfl) rfl (sQ (bM_ zp_23 ar_23 rfl (.nil _)) rfl ?_)
        refine sQ (hZ_ (r := (decide (a.x.1 = 0) && (decide (a.y.1 = 0) && decide (a.z.1 = 0)))) rfl rfl (et_ 8 (by decide) eg_23 lw_23 (ch_ lv_ci (ch_ lv_ci (eO_ lv_ci))) (ch_ lv_ci (ch_ lv_ci (eO_ lv_ci))) (dd_ rfl eq_ci (dd_ rfl eq_ci (f0_ eq_ci))))) rfl ?_
        rcases bt (decide (a.x.1 = 0) && (decide (a.y.1 = 0) && decide (a.z.1 = 0))) with h16 | h16
        ·skip
         refine sB (not_f h16) rfl (WL_n rfl (WL_n rfl (sE rfl (sE rfl (WL_n rfl (WL_n rfl (sE rfl (sE rfl (nl J ?_)))))))))
         refine J16 _ _ (by repeat first | exact .refl | refine .cons rfl ?_) ⟨_, s0, ?s4, rfl⟩
         case s4 => exact congrArg Value.bool (hX_ h16)
        ·skip
         refine sB (not_t h16) rfl (sE rfl (sE rfl (sE rfl ?_)))
         rcases bt (decide (0 ≤ b.1)) with h17 | h17
         ·skip
          refine sB h17 rfl (sE rfl (sE rfl (sE rfl (sE rfl (nl J ?_)))))
          refine J16 _ _ (by repeat first | exact .refl | refine .cons rfl ?_) ⟨_, s0, ?s4, rfl⟩
          case s4 => exact congrArg Value.bool (fS_ h16 (and_t h17 rfl))
         ·skip
          refine sB h17 rfl (WL_n rfl (WL_n rfl (sE rfl (sE rfl (nl J ?_)))))
          refine J16 _ _ (by repeat first | exact .refl | refine .cons rfl ?_) ⟨_, s0, ?s4, rfl⟩
          case s4 => exact congrArg Value.bool (fS_ h16 (and_f h17))
       ·skip
        rintro g18 M ⟨hg4, rfl⟩
        simp only [setG, hg4]
        clear hg4
        refine W_ret (ret1 rfl (.inr rfl) rfl ?_)
        exact (by exact congrArg (fun r : Bool => (.bool r : Value)) (show _ = (cp_ a b) from bif_f h5 (bif_f h9 (bif_f h13 rfl))))

theorem hr_ (a : (A3 W)) (b : W) :
    Ret Tryz.prog 44 [AV [ci .i64 a.x.1, ci .i64 a.y.1, ci .i64 a.z.1], .int .i64 b.1] (.tuple #[AV [ci .i64 (((((cn_ a b).1).x).x).1), ci .i64 (((((cn_ a b).1).x).y).1), ci .i64 (((((cn_ a b).1).x).z).1), ci .i64 (((((cn_ a b).1).y).x).1), ci .i64 (((((cn_ a b).1).y).y).1), ci .i64 (((((cn_ a b).1).y).z).1)], AV [pI ((((cn_ a b).2).x).n), pI ((((cn_ a b).2).x).d), pI ((((cn_ a b).2).y).n), pI ((((cn_ a b).2).y).d)]]) := by
 refine as_ (N := 48) Tryz.func44 rfl rfl (by simp) (fun w0 => ?_)
 simp only [initF, Nat.reduceAdd]
 refine Rs fun K J => WL_r rfl (aQ_ rfl rfl (fun b1 hb1 => sN zp_74 rfl fun b2 hb2 => sN zp_75 rfl fun b3 hb3 => nl J (Rs fun K J => sQ (qL ty_23 rfl m2 rfl) rfl (sQ (q_ret en_94 (hg_ a) rfl) rfl (sE rfl (sE rfl (sE rfl (sQ (qA ar_74 rfl rfl rfl) rfl (sS [ci .i64 ((((am_ a).1).x).1), ci .i64 ((((am_ a).1).y).1), ci .i64 ((((am_ a).1).z).1)] ty_23 rfl rfl rfl rfl rfl (.tail _ (.head _)) rfl hb2 (sQ (qA ar_74 rfl rfl rfl) rfl (sS [ci .i64 ((((am_ a).2).x).1), ci .i64 ((((am_ a).2).y).1), ci .i64 ((((am_ a).2).z).1)] ty_23 rfl rfl rfl rfl rfl (.tail _ (.head _)) rfl hb2 (nl J (ds (sk (sk (sk (s0)))) [0,4,8,12,16,20,24,28,32,37,41] [10] mix (by kernel_rfl) (fun K J => pE rfl (pE rfl (pV (.int .i64 ((W.mul b b).1)) rfl rfl ?_))))))))))))))))
 refine pC (AV [pI (E (Z.of (W.mul b b).1))]) en_61 (bZ_ (W.mul b b).1 (W.mul b b).2) rfl rfl rfl (pQ rfl (qL ty_23 rfl m2 rfl) (pQ rfl (qL ty_23 rfl m2 rfl) (pQ rfl (q_ret en_60 (e3_ a a) rfl) (pC (AV [pI (E (Z.mul (Z.of (W.mul b b).1) (bi_ a a).dec))]) en_96 (bE_ (E (Z.of (W.mul b b).1)).1 (bi_ a a).1 (E (Z.of (W.mul b b).1)).2 (bi_ a a).2) rfl rfl (cg2 (fun p q => AV [pI (E (Z.mul p q))]) (E_dec _) rfl) (pC (AV [pI (E (Z.shl (Z.mul (Z.of (W.mul b b).1) (bi_ a a).dec) 16))]) en_95 (gH_ (E (Z.mul (Z.of (W.mul b b).1) (bi_ a a).dec)).1 (E (Z.mul (Z.of (W.mul b b).1) (bi_ a a).dec)).2 (wl 16) (by decide)) rfl rfl (cg1 (fun p => AV [pI (E (Z.shl p 16))]) (E_dec _)) ?_)))))
 refine PL_o rfl rfl (bw_ zp_37 (fun b4 hb4 => ⟨(fun _ => sd s0), (sd s0), oS [pI (E (Z.shl (Z.mul (Z.of (W.mul b b).1) (bi_ a a).dec) 16))] ty_37 rfl rfl rfl rfl rfl rfl (.head _) rfl hb4 rfl (sd s0) (fl J (Sq fun K1 J1 => Rs fun K J => sE rfl (nl J (ao_ (W_un 4 (Un_s (fun K2 J2 => Rs fun K J => sV (.bool true) rfl rfl (nl J (Sq fun K3 J3 => bQ_ rfl (aj_ (J3 _ _ (Sq fun K4 J4 => ao_ (Rs fun K J => ?_)))))))))))))⟩))
 refine sE rfl (sE rfl (nl J (ds (sk (sk (sk (sk (s0))))) [0,4,8,12,16,20,24,28,32,36,40,45,49] [12] mix (by kernel_rfl) (fun K J => pQ rfl (qL ty_37 rfl m0 rfl) (pC (AV [pI (E (Z.of 1000000))]) en_61 (bZ_ (wl 1000000).1 (wl 1000000).2) rfl rfl rfl ?_)))))
 refine pE rfl (pQ rfl (qA ar_74 rfl rfl rfl) (pQ rfl (qL ty_23 rfl m2 rfl) (pE rfl (pQ rfl (qA ar_74 rfl rfl rfl) (pQ rfl (qL ty_23 rfl m2 rfl) (pQ rfl (q_ret en_60 (e3_ ((am_ a).1) ((am_ a).1)) rfl) ?_))))))
 obtain ⟨r5, hr5⟩ := nm ((E (Z.mul (Z.of 1000000) (bi_ ((am_ a).1) ((am_ a).1)).dec)) : I)
 refine pC (AV [pI r5]) en_96 (bE_ (E (Z.of 1000000)).1 (bi_ ((am_ a).1) ((am_ a).1)).1 (E (Z.of 1000000)).2 (bi_ ((am_ a).1) ((am_ a).1)).2) rfl rfl ((cg2 (fun p q => AV [pI (E (Z.mul p q))]) (E_dec _) rfl).trans (by rw [hr5])) ?_
 obtain ⟨r6, hr6⟩ := nm ((E (Z.quo (Z.shl (Z.mul (Z.of (W.mul b b).1) (bi_ a a).dec) 16) r5.dec)) : I)
 refine pC (AV [pI r6]) en_97 (cH_ (E (Z.shl (Z.mul (Z.of (W.mul b b).1) (bi_ a a).dec) 16)).1 r5.1 (E (Z.shl (Z.mul (Z.of (W.mul b b).1) (bi_ a a).dec) 16)).2 r5.2) rfl rfl ((cg2 (fun p q => AV [pI (E (Z.quo p q))]) (E_dec _) rfl).trans (by rw [hr6])) (PL_o rfl rfl (bw_ zp_37 (fun b7 hb7 => ⟨(fun _ => sd s0), (sd s0), oS [pI r6] ty_37 rfl rfl rfl rfl rfl rfl (.head _) rfl hb7 rfl (sd s0) (fl J (Rk fun K J => sE rfl (sQ (qL ty_37 rfl m0 rfl) rfl (sQ (q_ret en_98 (he_ r6) rfl) rfl (sC (AV [pI (E (Z.of 256))]) en_61 (bZ_ (wl 256).1 (wl 256).2) rfl rfl rfl ?_)))))⟩)))
 obtain ⟨r8, hr8⟩ := nm ((ap_ (c0_ r6) (E (Z.of 256))) : Rt)
 refine sC (AV [pI r8.n, pI r8.d]) en_59 (df_ (c0_ r6) (E (Z.of 256))) rfl rfl (by rw [hr8]; first | done | rfl) (sQ (qA ar_75 rfl rfl rfl) rfl (sS [pI r8.n, pI r8.d] ty_39 rfl rfl rfl rfl rfl (.tail _ (.tail _ (.head _))) rfl hb3 (nl J (J4 _ _ (Rk fun K J => sV (.int .i64 1) rfl rfl (sE rfl (nl J (J2 _ _ (Un_s (fun K5 J5 => Rs fun K J => sV (.bool true) rfl rfl (nl J (Sq fun K6 J6 => bQ_ rfl (aj_ (J6 _ _ (Sq fun K7 J7 => ao_ ?_)))))))))))))))
 refine Rs fun K J => sE rfl (sE rfl (nl J (ds (sd (sk (sk (sk (sk (s0)))))) [0,4,8,12,16,20,24,28,32,36,40,45,49] [12] mix (by kernel_rfl) (fun K J => pQ rfl (qL ty_37 rfl m1 rfl) (pC (AV [pI (E (Z.of 1000000))]) en_61 (bZ_ (wl 1000000).1 (wl 1000000).2) rfl rfl rfl ?_)))))
 refine pE rfl (pQ rfl (qA ar_74 rfl rfl rfl) (pQ rfl (qL ty_23 rfl m3 rfl) (pE rfl (pQ rfl (qA ar_74 rfl rfl rfl) (pQ rfl (qL ty_23 rfl m3 rfl) (pQ rfl (q_ret en_60 (e3_ ((am_ a).2) ((am_ a).2)) rfl) ?_))))))
 obtain ⟨r9, hr9⟩ := nm ((E (Z.mul (Z.of 1000000) (bi_ ((am_ a).2) ((am_ a).2)).dec)) : I)
 refine pC (AV [pI r9]) en_96 (bE_ (E (Z.of 1000000)).1 (bi_ ((am_ a).2) ((am_ a).2)).1 (E (Z.of 1000000)).2 (bi_ ((am_ a).2) ((am_ a).2)).2) rfl rfl ((cg2 (fun p q => AV [pI (E (Z.mul p q))]) (E_dec _) rfl).trans (by rw [hr9])) ?_
 obtain ⟨r10, hr10⟩ := nm ((E (Z.quo (Z.shl (Z.mul (Z.of (W.mul b b).1) (bi_ a a).dec) 16) r9.dec)) : I)
 refine pC (AV [pI r10]) en_97 (cH_ (E (Z.shl (Z.mul (Z.of (W.mul b b).1) (bi_ a a).dec) 16)).1 r9.1 (E (Z.shl (Z.mul (Z.of (W.mul b b).1) (bi_ a a).dec) 16)).2 r9.2) rfl rfl ((cg2 (fun p q => AV [pI (E (Z.quo p q))]) (E_dec _) rfl).trans (by rw [hr10])) (PL_o rfl rfl (bw_ zp_37 (fun b11 hb11 => ⟨(fun _ => sd s0), (sd (sd s0)), oS [pI r10] ty_37 rfl rfl rfl rfl rfl rfl (.head _) rfl hb11 rfl (sd (sd s0)) (fl J (Rk fun K J => sE rfl (sQ (qL ty_37 rfl m0 rfl) rfl (sQ (q_ret en_98 (he_ r10) rfl) rfl (sC (AV [pI (E (Z.of 256))]) en_61 (bZ_ (wl 256).1 (wl 256).2) rfl rfl rfl ?_)))))⟩)))
 obtain ⟨r12, hr12⟩ := nm ((ap_ (c0_ r10) (E (Z.of 256))) : Rt)
 refine sC (AV [pI r12.n, pI r12.d]) en_59 (df_ (c0_ r10) (E (Z.of 256))) rfl rfl (by rw [hr12]; first | done | rfl) (sQ (qA ar_75 rfl rfl rfl) rfl (sS [pI r12.n, pI r12.d] ty_39 rfl rfl rfl rfl rfl (.tail _ (.tail _ (.tail _ (.head _)))) rfl hb3 (nl J (J7 _ _ (Rk fun K J => sV (.int .i64 2) rfl rfl (sE rfl (nl J (J5 _ _ (Un_s (fun K8 J8 => Rs fun K J => sV (.bool false) rfl rfl (nl J (Sq fun K9 J9 => bU_ rfl (bG_ (aw_ (aw_ (aC_ (J1 _ _ (W_sdr (sk (sk (sk (sd (sd (sk (s0))))))) (.quiet 0 [2,3] (.both 1 (.only 2 (.only 3 (.fin))) 2 (.quiet 1 [3] (.only 3 (.fin))))) [0,1] mix (by kernel_rfl) (by kernel_rfl) (fun K J => pQ rfl (qL ty_74 rfl m4 rfl) ?_)))))))))))))))))))
 refine PL_b ?_ ?_
 ·skip
  refine PL_o rfl rfl (jP_ (ix_ ty_75 rfl m3 rfl) ⟨fun _ => s0, (sk (sk (sk (sd (sd s0))))), oS [ci .i64 ((((am_ a).1).x).1), ci .i64 ((((am_ a).1).y).1), ci .i64 ((((am_ a).1).z).1), ci .i64 ((((am_ a).2).x).1), ci .i64 ((((am_ a).2).y).1), ci .i64 ((((am_ a).2).z).1)] ty_74 rfl rfl rfl rfl rfl rfl (.tail _ (.tail _ (.tail _ (.tail _ (.head _))))) rfl hb2 rfl (sk (sk (sk (sd (sd s0))))) (oS [pI r8.n, pI r8.d, pI r12.n, pI r12.d] ty_75 rfl rfl rfl rfl rfl rfl (.tail _ (.tail _ (.tail _ (.head _)))) rfl hb3 rfl (sk (sk (sk (sd (sd s0))))) (fl J (W_ret (ret2 rfl (.inr rfl) (resP rfl m4 ty_74 rfl) (resP rfl m3 ty_75 rfl) ?_))))⟩)
  exact (by subst hr12; subst hr10; subst hr9; subst hr8; subst hr6; subst hr5; rfl)
 ·skip
  refine oS [ci .i64 ((((am_ a).1).x).1), ci .i64 ((((am_ a).1).y).1), ci .i64 ((((am_ a).1).z).1), ci .i64 ((((am_ a).2).x).1), ci .i64 ((((am_ a).2).y).1), ci .i64 ((((am_ a).2).z).1)] ty_74 rfl rfl rfl rfl rfl rfl (.tail _ (.tail _ (.tail _ (.tail _ (.head _))))) rfl hb2 rfl (sk (sk (sk (sd (sd s0))))) (pQ rfl (qL ty_75 rfl m3 rfl) (oS [pI r8.n, pI r8.d, pI r12.n, pI r12.d] ty_75 rfl rfl rfl rfl rfl rfl (.tail _ (.tail _ (.tail _ (.head _)))) rfl hb3 rfl (sk (sk (sk (sd (sd s0))))) (fl J (W_ret (ret2 rfl (.inr rfl) (resP rfl m4 ty_74 rfl) (resP rfl m3 ty_75 rfl) ?_)))))
  exact (by subst hr12; subst hr10; subst hr9; subst hr8; subst hr6; subst hr5; rfl)

theorem ey_ (a : (A3 W)) (b : W) (w : World)  :
    Calls Tryz.prog 10 [AV [ci .i64 a.x.1, ci .i64 a.y.1, ci .i64 a.z.1], .int .i64 b.1].toArray w (fun e w' => ∃ v, e = .returned (.tuple #[v, .int .i64 (((a8_ a b).2).1)]) ∧ Ext w w' ∧ Slfe w.heap.size w' elVr v (a8_ a b).1) := by
 refine fv_ (n := 55) (fun v => .tuple #[v, .int .i64 (((a8_ a b).2).1)]) Tryz.func10 rfl rfl (by simp) ?_
 obtain ⟨w0, rfl⟩ : ∃ w0, w0 = w := ⟨_, rfl⟩
 simp only [initF, Nat.reduceAdd]
 refine Rs fun K J => WL_r rfl (aQ_ rfl rfl (fun b1 hb1 => sE rfl (sE rfl (nl J (Sq fun K1 J1 => Rs fun K J => sQ (qL ty_23 rfl m0 rfl) rfl (sE rfl (sQ (q_ret en_42 (fh_ a b) rfl) rfl (sE rfl (nl J ?_)))))))))
 rcases bt (cp_ a b) with h2 | h2
 ·skip
  refine W_f (not_f h2) rfl (aj_ (J1 _ _ (Rs fun K J => sQ (qL ty_23 rfl m0 rfl) rfl ?_)))
  obtain ⟨r3, hr3⟩ := nm ((cu_ a) : (A3 Rt))
  refine sC (AV [pI r3.x.n, pI r3.x.d, pI r3.y.n, pI r3.y.d, pI r3.z.n, pI r3.z.d]) en_43 (em_ a) rfl rfl (by rw [hr3]; first | done | rfl) (sN zp_41 rfl fun b4 hb4 => sS [pI r3.x.n, pI r3.x.d, pI r3.y.n, pI r3.y.d, pI r3.z.n, pI r3.z.d] ty_41 rfl rfl rfl rfl rfl (.head _) rfl hb4 (nl J (Sq fun K2 J2 => Rs fun K J => sE rfl (sE rfl (nl J ?_)))))
  rcases bt (b.1 == 0) with h5 | h5
  ·skip
   refine W_t h5 rfl (Rs fun K J => sQ (qL ty_41 rfl m0 rfl) rfl (WL_r rfl (b1_ [[pI r3.x.n, pI r3.x.d, pI r3.y.n, pI r3.y.d, pI r3.z.n, pI r3.z.d]] [pI r3.x.n, pI r3.x.d, pI r3.y.n, pI r3.y.d, pI r3.z.n, pI r3.z.d] us_24 z_41 sz_41 rfl (by decide) rfl rfl ⟨rfl, rfl, rfl, trivial⟩ rfl (fun b6 hb6 => sE rfl (sE rfl (nl J (W_ret (af_ (ret2 rfl (.inr rfl) rfl rfl ?_)))))))))
   have hE : (([r3], (wl 0)) : (List (A3 Rt)) × W) = (a8_ a b) := by subst hr3; exact bif_t h2 (bif_t h5 rfl)
   rw [← hE]
   exact ⟨_, rfl, (SLfe.lit (e := elVr) (l := [r3]) hb6 m0 rfl (Nat.le_of_ble_eq_true rfl) rfl)⟩
  ·skip
   refine W_f h5 rfl (aj_ (J2 _ _ (Rs fun K J => sQ (qL ty_23 rfl m1 rfl) rfl (sE rfl ?_))))
   obtain ⟨r7, hr7⟩ := nm ((cn_ a b).1 : (A2 (A3 W)))
   obtain ⟨r8, hr8⟩ := nm ((cn_ a b).2 : (A2 Rt))
   refine sC (.tuple #[AV [ci .i64 r7.x.x.1, ci .i64 r7.x.y.1, ci .i64 r7.x.z.1, ci .i64 r7.y.x.1, ci .i64 r7.y.y.1, ci .i64 r7.y.z.1], AV [pI r8.x.n, pI r8.x.d, pI r8.y.n, pI r8.y.d]]) en_44 (hr_ a b) rfl rfl (by rw [hr7, hr8]; first | done | rfl) (sE rfl (sE rfl (sE rfl (sN zp_74 rfl fun b9 hb9 => sN zp_75 rfl fun b10 hb10 => sS [ci .i64 r7.x.x.1, ci .i64 r7.x.y.1, ci .i64 r7.x.z.1, ci .i64 r7.y.x.1, ci .i64 r7.y.y.1, ci .i64 r7.y.z.1] ty_74 rfl rfl rfl rfl rfl (.tail _ (.head _)) rfl hb9 (sS [pI r8.x.n, pI r8.x.d, pI r8.y.n, pI r8.y.d] ty_75 rfl rfl rfl rfl rfl (.head _) rfl hb10 (nl J (Rs fun K J => sE rfl (nl J (Sq fun K3 J3 => Rs fun K J => sE rfl (nl J (ao_ (W_un 4 (Un_s (fun K4 J4 => Rs fun K J => ?_))))))))))))))
   refine sV (.bool true) rfl rfl (nl J (Sq fun K5 J5 => bQ_ rfl (aj_ (J5 _ _ (Sq fun K6 J6 => ao_ (Rs fun K J => sE rfl (sE rfl (nl J (ds (sk (sk (sk (sk (s0))))) [0,4,8,12,16,20,24,28,33,37] [9] mix (by kernel_rfl) (fun K J => pE rfl (pQ rfl (qA ar_75 rfl rfl rfl) (pQ rfl (qL ty_39 rfl m0 rfl) (pE rfl (pQ rfl (qA ar_74 rfl rfl rfl) (pQ rfl (qL ty_23 rfl m1 rfl) ?_)))))))))))))))
   obtain ⟨r11, hr11⟩ := nm ((cu_ r7.x) : (A3 Rt))
   refine pC (AV [pI r11.x.n, pI r11.x.d, pI r11.y.n, pI r11.y.d, pI r11.z.n, pI r11.z.d]) en_43 (em_ r7.x) rfl rfl (by rw [hr11]; first | done | rfl) ?_
   obtain ⟨r12, hr12⟩ := nm ((cq_ r8.x r11) : (A3 Rt))
   refine pC (AV [pI r12.x.n, pI r12.x.d, pI r12.y.n, pI r12.y.d, pI r12.z.n, pI r12.z.d]) en_45 (fe_ r8.x r11) rfl rfl (by rw [hr12]; first | done | rfl) (PL_o rfl rfl (bw_ zp_41 (fun b13 hb13 => ⟨(fun _ => sd s0), (sd s0), oS [pI r12.x.n, pI r12.x.d, pI r12.y.n, pI r12.y.d, pI r12.z.n, pI r12.z.d] ty_41 rfl rfl rfl rfl rfl rfl (.head _) rfl hb13 rfl (sd s0) (fl J (dr sn [0,4,8,12,16,20,24,28,32,36,40,44,49,53,56] [13] mix (by kernel_rfl) (fun K J => pE rfl (pE rfl (pQ rfl (q_as (v' := .int .i64 (((([] : List (A3 Rt))).length : Nat) : Int)) (eC_ (e := elVr) sl_24 rfl (SLfe.sle SLfe.nil)) rfl) (pE rfl (pQ rfl (q_as (v' := .int .i64 (((([] : List (A3 Rt))).length : Nat) : Int)) (eC_ (e := elVr) sl_24 rfl (SLfe.sle SLfe.nil)) rfl) (pQ rfl (rM_ sl_24 rfl rfl rfl) (pQ rfl (qL ty_41 rfl m3 rfl) (pQ rfl (qL ty_41 rfl m0 rfl) ?_))))))))))⟩)))
   obtain ⟨r14, hr14⟩ := nm ((cG_ r3 r12) : (A3 Rt))
   refine pC (AV [pI r14.x.n, pI r14.x.d, pI r14.y.n, pI r14.y.d, pI r14.z.n, pI r14.z.d]) en_46 (fC_ r3 r12) rfl rfl (by rw [hr14]; first | done | rfl) (pQ rfl (qL ty_41 rfl m3 rfl) (pQ rfl (qL ty_41 rfl m0 rfl) ?_))
   obtain ⟨r15, hr15⟩ := nm ((cL_ r3 r12) : (A3 Rt))
   refine pC (AV [pI r15.x.n, pI r15.x.d, pI r15.y.n, pI r15.y.d, pI r15.z.n, pI r15.z.d]) en_47 (gj_ r3 r12) rfl rfl (by rw [hr15]; first | done | rfl) (PL_o rfl rfl (b1_ [[pI r14.x.n, pI r14.x.d, pI r14.y.n, pI r14.y.d, pI r14.z.n, pI r14.z.d], [pI r15.x.n, pI r15.x.d, pI r15.y.n, pI r15.y.d, pI r15.z.n, pI r15.z.d]] [pI r14.x.n, pI r14.x.d, pI r14.y.n, pI r14.y.d, pI r14.z.n, pI r14.z.d, pI r15.x.n, pI r15.x.d, pI r15.y.n, pI r15.y.d, pI r15.z.n, pI r15.z.d] us_24 z_41 sz_41 rfl (by decide) rfl rfl ⟨rfl, rfl, rfl, rfl, rfl, rfl, trivial⟩ rfl (fun b16 hb16 => ⟨(fun _ => sd s0), sn, PL_o rfl rfl (dL_ (e := elVr) (l := ([] : List (A3 Rt))) (m := [r14, r15]) 408 us_24 (by kernel_rfl) (by decide) rfl rfl OwnG.nil (SLe.lit (e := elVr) (l := [r14, r15]) m0 rfl (Nat.le_of_ble_eq_true rfl) rfl) fq_n (Nat.le_of_ble_eq_true rfl) (by decide) (fun p17 c18 L19 hO20 => ⟨nf, sn, pE rfl (fl J (J6 _ _ (Rk fun K J => sV (.int .i64 1) rfl rfl (sE rfl (nl J (J4 _ _ (Un_s (fun K7 J7 => Rs fun K J => sV (.bool true) rfl rfl (nl J (Sq fun K8 J8 => bQ_ rfl (aj_ (J8 _ _ (Sq fun K9 J9 => ?_)))))))))))))⟩))⟩)))
   refine ao_ (Rs fun K J => sE rfl (sE rfl (nl J (ds sn [0,4,8,12,16,20,24,28,33,37] [9] mix (by kernel_rfl) (fun K J => pE rfl (pQ rfl (qA ar_75 rfl rfl rfl) (pQ rfl (qL ty_39 rfl (List.mem_append_right _ (List.mem_cons_of_mem _ (List.mem_cons_of_mem _ (List.mem_cons_self)))) rfl) (pE rfl (pQ rfl (qA ar_74 rfl rfl rfl) (pQ rfl (qL ty_23 rfl (List.mem_append_right _ (List.mem_cons_of_mem _ (List.mem_cons_of_mem _ (List.mem_cons_of_mem _ (List.mem_cons_self))))) rfl) ?_))))))))))
   obtain ⟨r21, hr21⟩ := nm ((cu_ r7.y) : (A3 Rt))
   refine pC (AV [pI r21.x.n, pI r21.x.d, pI r21.y.n, pI r21.y.d, pI r21.z.n, pI r21.z.d]) en_43 (em_ r7.y) rfl rfl (by rw [hr21]; first | done | rfl) ?_
   obtain ⟨r22, hr22⟩ := nm ((cq_ r8.y r21) : (A3 Rt))
   refine pC (AV [pI r22.x.n, pI r22.x.d, pI r22.y.n, pI r22.y.d, pI r22.z.n, pI r22.z.d]) en_45 (fe_ r8.y r21) rfl rfl (by rw [hr22]; first | done | rfl) (PL_o rfl rfl (bw_ zp_41 (fun b23 hb23 => ⟨(fun _ => sd s0), sn, oS [pI r22.x.n, pI r22.x.d, pI r22.y.n, pI r22.y.d, pI r22.z.n, pI r22.z.d] ty_41 rfl rfl rfl rfl rfl rfl (.head _) rfl hb23 rfl sn (fl J (dr sn [0,4,8,12,16,20,24,28,32,36,40,44,49,53,56] [13] mix (by kernel_rfl) (fun K J => pE rfl (pE rfl (pQ rfl (q_as (v' := .int .i64 ((((([] : List (A3 Rt)) ++ [r14, r15])).length : Nat) : Int)) (eC_ (e := elVr) sl_24 rfl (SLfe.sle (OwnG.slfe hO20 (sd (List.sublist_append_left _ _))))) rfl) (pE rfl (pQ rfl (q_as (v' := .int .i64 ((((([] : List (A3 Rt)) ++ [r14, r15])).length : Nat) : Int)) (eC_ (e := elVr) sl_24 rfl (SLfe.sle (OwnG.slfe hO20 (sd (List.sublist_append_left _ _))))) rfl) (pQ rfl (q_sl3 (e := elVr) (l := (([] : List (A3 Rt)) ++ [r14, r15])) sl_24 rfl rfl rfl (SLfe.sle (OwnG.slfe hO20 (sd (List.sublist_append_left _ _))))) (pQ rfl (qL ty_41 rfl (List.mem_cons_of_mem _ (List.mem_append_right _ (List.mem_cons_of_mem _ (List.mem_cons_of_mem _ (List.mem_cons_of_mem _ (List.mem_cons_of_mem _ (List.mem_cons_self))))))) rfl) (pQ rfl (qL ty_41 rfl m0 rfl) ?_))))))))))⟩)))
   obtain ⟨r24, hr24⟩ := nm ((cG_ r3 r22) : (A3 Rt))
   refine pC (AV [pI r24.x.n, pI r24.x.d, pI r24.y.n, pI r24.y.d, pI r24.z.n, pI r24.z.d]) en_46 (fC_ r3 r22) rfl rfl (by rw [hr24]; first | done | rfl) (pQ rfl (qL ty_41 rfl (List.mem_cons_of_mem _ (List.mem_append_right _ (List.mem_cons_of_mem _ (List.mem_cons_of_mem _ (List.mem_cons_of_mem _ (List.mem_cons_of_mem _ (List.mem_cons_self))))))) rfl) (pQ rfl (qL ty_41 rfl m0 rfl) ?_))
   obtain ⟨r25, hr25⟩ := nm ((cL_ r3 r22) : (A3 Rt))
   refine pC (AV [pI r25.x.n, pI r25.x.d, pI r25.y.n, pI r25.y.d, pI r25.z.n, pI r25.z.d]) en_47 (gj_ r3 r22) rfl rfl (by rw [hr25]; first | done | rfl) (PL_o rfl rfl (b1_ [[pI r24.x.n, pI r24.x.d, pI r24.y.n, pI r24.y.d, pI r24.z.n, pI r24.z.d], [pI r25.x.n, pI r25.x.d, pI r25.y.n, pI r25.y.d, pI r25.z.n, pI r25.z.d]] [pI r24.x.n, pI r24.x.d, pI r24.y.n, pI r24.y.d, pI r24.z.n, pI r24.z.d, pI r25.x.n, pI r25.x.d, pI r25.y.n, pI r25.y.d, pI r25.z.n, pI r25.z.d] us_24 z_41 sz_41 rfl (by decide) rfl rfl ⟨rfl, rfl, rfl, rfl, rfl, rfl, trivial⟩ rfl (fun b26 hb26 => ⟨(fun _ => sd s0), sn, PL_o rfl rfl (nl_ (e := elVr) (l := (([] : List (A3 Rt)) ++ [r14, r15])) (m := [r24, r25]) 408 us_24 (by kernel_rfl) (by decide) rfl rfl (SLe.full (SLfe.sle (OwnG.slfe hO20 (sd (sd (List.sublist_append_left _ _))))) (.inl (Nat.le_of_ble_eq_true rfl))) (Nat.le_of_ble_eq_true rfl) (SLe.lit (e := elVr) (l := [r24, r25]) m0 rfl (Nat.le_of_ble_eq_true rfl) rfl) (Nat.le_of_ble_eq_true rfl) (Nat.le_of_ble_eq_true rfl) (by decide) (fun p27 c28 L29 hO30 => ⟨nf, sn, pE rfl (fl J (J9 _ _ (Rk fun K J => sV (.int .i64 2) rfl rfl (sE rfl (nl J (J7 _ _ (Un_s (fun K10 J10 => Rs fun K J => sV (.bool false) rfl rfl (nl J (Sq fun K11 J11 => bU_ rfl (bG_ (aw_ (aw_ (aC_ (J3 _ _ (Rs fun K J => ?_))))))))))))))))⟩))⟩)))
   refine sE rfl (sE rfl (sE rfl (nl J (W_ret (ret2 rfl (.inr rfl) rfl rfl ?_)))))
   have hE : ((((([] : List (A3 Rt)) ++ [r14, r15]) ++ [r24, r25]), (wl 0)) : (List (A3 Rt)) × W) = (a8_ a b) := by subst hr25; subst hr24; subst hr22; subst hr21; subst hr15; subst hr14; subst hr12; subst hr11; subst hr8; subst hr7; subst hr3; exact bif_t h2 (bif_f h5 rfl)
   rw [← hE]
   exact ⟨_, rfl, (OwnG.slfe hO30 (List.sublist_append_left _ _))⟩
 ·skip
  refine W_t (not_t h2) rfl (Rs fun K J => sE rfl (sE rfl (nl J (W_ret (af_ (ret2 rfl (.inr rfl) rfl rfl ?_))))))
  have hE : ((([] : List (A3 Rt)), (wl 1)) : (List (A3 Rt)) × W) = (a8_ a b) := by exact bif_f h2 rfl
  rw [← hE]
  exact ⟨_, rfl, SLfe.nil⟩

theorem iJ_ (a : (A3 Rt)) :
    Ret Tryz.prog 68 [AV [pI a.x.n, pI a.x.d, pI a.y.n, pI a.y.d, pI a.z.n, pI a.z.d]] (AV [pI ((en_ a).n), pI ((en_ a).d)]) := by
 refine as_ (N := 6) Tryz.func68 rfl rfl (by simp) (fun w0 => ?_)
 simp only [initF, Nat.reduceAdd]
 refine Rs fun K J => WL_r rfl (aQ_ rfl rfl (fun b1 hb1 => sN zp_39 rfl fun b2 hb2 => nl J (Rs fun K J => sQ (qL ty_41 rfl m1 rfl) rfl (sQ (qL ty_41 rfl m1 rfl) rfl (sQ (q_ret p1_ (gh_ a a) rfl) rfl (sS [pI ((c6_ a a).n), pI ((c6_ a a).d)] ty_39 rfl rfl rfl rfl rfl (.head _) rfl hb2 (nl J (W_ret (ret1 rfl (.inr rfl) (resP rfl m0 ty_39 rfl) ?_)))))))))
 exact (by rfl)

theorem eK_ (a : (A3 W)) (b : W) (c : (A3 Rt)) :
    Ret Tryz.prog 17 [AV [ci .i64 a.x.1, ci .i64 a.y.1, ci .i64 a.z.1], .int .i64 b.1, AV [pI c.x.n, pI c.x.d, pI c.y.n, pI c.y.d, pI c.z.n, pI c.z.d]] (.bool (ct_ a b c)) := by
 refine as_ (N := 39) Tryz.func17 rfl rfl (by simp) (fun w0 => ?_)
 simp only [initF, Nat.reduceAdd]
 refine Rs fun K J => WL_r rfl (aQ_ rfl rfl (fun b1 hb1 => WL_r rfl (aQ_ rfl rfl (fun b2 hb2 => sE rfl (nl J (Rs fun K J => sQ (qL ty_23 rfl m1 rfl) rfl (sQ (qL ty_41 rfl m0 rfl) rfl (sQ (q_ret en_58 (gT_ a c) rfl) rfl (sN zp_39 rfl fun b3 hb3 => sS [pI ((bO_ a c).n), pI ((bO_ a c).d)] ty_39 rfl rfl rfl rfl rfl (.head _) rfl hb3 (nl J (Sq fun K1 J1 => ?_)))))))))))
 refine bV_ [12, 13, 14, 15, 16, 17, 18, 19, 20] (fun g M => (g 20 = .bool (!(cp_ a b) || decide ((aI_ (bO_ a c)).1 < 0))) ∧ M = [⟨b3, 39, flat [pI ((bO_ a c).n), pI ((bO_ a c).d)]⟩, ⟨b2, 41, flat [pI c.x.n, pI c.x.d, pI c.y.n, pI c.y.d, pI c.z.n, pI c.z.d]⟩, ⟨b1, 23, flat [ci .i64 a.x.1, ci .i64 a.y.1, ci .i64 a.z.1]⟩]) (fun K2 J2 => ?_) ?_
 ·skip
  refine Rk fun K J => sQ (qL ty_23 rfl m2 rfl) rfl (sE rfl (sQ (q_ret en_42 (fh_ a b) rfl) rfl (sE rfl ?_)))
  rcases bt (cp_ a b) with h5 | h5
  ·skip
   refine sB (not_f h5) rfl (sQ (qL ty_39 rfl m0 rfl) rfl (sQ (q_ret en_63 (ba_ (bO_ a c)) rfl) rfl (sE rfl (sE rfl (nl J ?_)))))
   refine J2 _ _ (by repeat first | exact .refl | refine .cons rfl ?_) ⟨_, s0, ?s20, rfl⟩
   case s20 => exact congrArg Value.bool (nor_t h5 rfl)
  ·skip
   refine sB (not_t h5) rfl (WL_n rfl (WL_n rfl (WL_n rfl (sE rfl (nl J ?_)))))
   refine J2 _ _ (by repeat first | exact .refl | refine .cons rfl ?_) ⟨_, s0, ?s20, rfl⟩
   case s20 => exact congrArg Value.bool (nor_f h5)
 ·skip
  rintro g6 M ⟨hg20, rfl⟩
  simp only [setG, hg20]
  clear hg20
  rcases bt (!(cp_ a b) || decide ((aI_ (bO_ a c)).1 < 0)) with h7 | h7
  ·skip
   refine W_t h7 rfl (Rs fun K J => sE rfl (nl J (W_ret (af_ (ret1 rfl (.inr rfl) rfl ?_)))))
   exact (by exact congrArg (fun r : Bool => (.bool r : Value)) (show _ = (ct_ a b c) from bif_t h7 rfl))
  ·skip
   refine W_f h7 rfl (aj_ (J1 _ _ (ds (sk (sk (sk (s0)))) [0,4,8,12,16,20,24,29,33] [8] mix (by kernel_rfl) (fun K J => pQ rfl (q_ret en_62 (cz_ (wl 1000000)) rfl) ?_))))
   refine pQ rfl (qL ty_41 rfl m1 rfl) (pQ rfl (qL ty_23 rfl m2 rfl) ?_)
   obtain ⟨r8, hr8⟩ := nm ((cu_ a) : (A3 Rt))
   refine pC (AV [pI r8.x.n, pI r8.x.d, pI r8.y.n, pI r8.y.d, pI r8.z.n, pI r8.z.d]) en_43 (em_ a) rfl rfl (by rw [hr8]; first | done | rfl) ?_
   obtain ⟨r9, hr9⟩ := nm ((c5_ c r8) : (A3 Rt))
   refine pC (AV [pI r9.x.n, pI r9.x.d, pI r9.y.n, pI r9.y.d, pI r9.z.n, pI r9.z.d]) en_69 (h8_ c r8) rfl rfl (by rw [hr9]; first | done | rfl) (pQ rfl (q_ret en_68 (iJ_ r9) rfl) ?_)
   obtain ⟨r10, hr10⟩ := nm ((aG_ (aa_ (wl 1000000)) (en_ r9)) : Rt)
   refine pC (AV [pI r10.n, pI r10.d]) en_67 (ck_ (aa_ (wl 1000000)) (en_ r9)) rfl rfl (by rw [hr10]; first | done | rfl) ?_
   refine PL_o rfl rfl (bw_ zp_39 (fun b11 hb11 => ⟨(fun _ => sd s0), (sd s0), oS [pI r10.n, pI r10.d] ty_39 rfl rfl rfl rfl rfl rfl (.head _) rfl hb11 rfl (sd s0) (fl J (ds (sk (sk (sk (sk (s0))))) [0,4,8,12,16,20,24,28,32,36,40,44] [] mix (by kernel_rfl) (fun K J => pQ rfl (qL ty_39 rfl m0 rfl) (pE rfl (pE rfl (pV (.int .i64 ((W.mul b b).1)) rfl rfl (pQ rfl (q_ret en_62 (cz_ (W.mul b b)) rfl) (pQ rfl (qL ty_39 rfl m1 rfl) (pQ rfl (qL ty_39 rfl m1 rfl) ?_)))))))))⟩))
   obtain ⟨r12, hr12⟩ := nm ((aG_ (bO_ a c) (bO_ a c)) : Rt)
   refine pC (AV [pI r12.n, pI r12.d]) en_67 (ck_ (bO_ a c) (bO_ a c)) rfl rfl (by rw [hr12]; first | done | rfl) ?_
   obtain ⟨r13, hr13⟩ := nm ((aG_ (aa_ (W.mul b b)) r12) : Rt)
   refine pC (AV [pI r13.n, pI r13.d]) en_67 (ck_ (aa_ (W.mul b b)) r12) rfl rfl (by rw [hr13]; first | done | rfl) (pQ rfl (q_ret en_70 (jE_ r10 r13) rfl) (pE rfl (pE rfl (fl J (W_ret (ret1 rfl (.inr rfl) rfl ?_))))))
   exact (by subst hr13; subst hr12; subst hr10; subst hr9; subst hr8; exact congrArg (fun r : Bool => (.bool r : Value)) (show _ = (ct_ a b c) from bif_f h7 rfl))

theorem d6_ (a : (A3 W)) (f : (A3 Rt)) (c0 T0 : Nat) (w : World) (hc0 : w.heap[c0]? = some (.cells (flat [pI f.x.n, pI f.x.d, pI f.y.n, pI f.y.d, pI f.z.n, pI f.z.d]).toArray T0 (0, 0))) :
    Calls Tryz.prog 56 [AV [ci .i64 a.x.1, ci .i64 a.y.1, ci .i64 a.z.1], .pointer (some ⟨c0, 0, none⟩)].toArray w (fun e w' => e = .returned (AV [pI ((aq_ a f).n), pI ((aq_ a f).d)]) ∧ Ext w w') := by
 refine c8_ (N := 13) Tryz.func56 rfl rfl (by simp) ?_
 obtain ⟨w0, rfl⟩ : ∃ w0, w0 = w := ⟨_, rfl⟩
 simp only [initF, Nat.reduceAdd]
 refine Rs fun K J => WL_r rfl (aQ_ rfl rfl (fun b1 hb1 => sN zp_39 rfl fun b2 hb2 => nl J (ds (sd (sk (s0))) [0,4,8,12,16,20,24,28,32,37] [9] mix (by kernel_rfl) (fun K J => pQ rfl (qL ty_23 rfl m1 rfl) (pQ rfl (oE_ ty_41 rfl hc0 (by simp) rfl) ?_)))))
 refine pQ rfl (q_ret en_58 (gT_ a f) rfl) (pQ rfl (qL ty_23 rfl m1 rfl) (pQ rfl (qL ty_23 rfl m1 rfl) (pQ rfl (q_ret en_60 (e3_ a a) rfl) (pC (AV [pI (E (Z.of 1))]) en_61 (bZ_ (wl 1).1 (wl 1).2) rfl rfl rfl ?_))))
 obtain ⟨r3, hr3⟩ := nm ((ap_ (bi_ a a) (E (Z.of 1))) : Rt)
 refine pC (AV [pI r3.n, pI r3.d]) en_59 (df_ (bi_ a a) (E (Z.of 1))) rfl rfl (by rw [hr3]; first | done | rfl) ?_
 obtain ⟨r4, hr4⟩ := nm ((ab_ (bO_ a f) r3) : Rt)
 refine pC (AV [pI r4.n, pI r4.d]) en_57 (cE_ (bO_ a f) r3) rfl rfl (by rw [hr4]; first | done | rfl) (oS [pI r4.n, pI r4.d] ty_39 rfl rfl rfl rfl rfl rfl (.head _) rfl hb2 rfl (sd s0) (fl J (W_ret (ret1 rfl (.inr rfl) (resP rfl m0 ty_39 rfl) ?_))))
 exact (by subst hr4; subst hr3; rfl)

theorem ev_ (a : (A3 W)) (b : W) (c : (A3 Rt)) (w : World)  :
    Calls Tryz.prog 16 [AV [ci .i64 a.x.1, ci .i64 a.y.1, ci .i64 a.z.1], .int .i64 b.1, AV [pI c.x.n, pI c.x.d, pI c.y.n, pI c.y.d, pI c.z.n, pI c.z.d]].toArray w (fun e w' => ∃ v, e = .returned (.tuple #[v, .bool ((ay_ a b c).2)]) ∧ Ext w w' ∧ Slfe w.heap.size w' elRt v (ay_ a b c).1) := by
 refine fv_ (n := 98) (fun v => .tuple #[v, .bool ((ay_ a b c).2)]) Tryz.func16 rfl rfl (by simp) ?_
 obtain ⟨w0, rfl⟩ : ∃ w0, w0 = w := ⟨_, rfl⟩
 simp only [initF, Nat.reduceAdd]
 refine Rs fun K J => WL_r rfl (aQ_ rfl rfl (fun b1 hb1 => WL_r rfl (aQ_ rfl rfl (fun b2 hb2 => sE rfl (sE rfl (nl J (Sq fun K1 J1 => Rs fun K J => sQ (qL ty_23 rfl m1 rfl) rfl (sE rfl (sQ (q_ret en_42 (fh_ a b) rfl) rfl (sE rfl (nl J ?_)))))))))))
 rcases bt (cp_ a b) with h3 | h3
 ·skip
  refine W_f (not_f h3) rfl (aj_ (J1 _ _ (Rs fun K J => sQ (r5_ rfl rfl) rfl (sE rfl (nl J (Rs fun K J => sE rfl (sQ (qL ty_23 rfl m1 rfl) rfl (sQ (ip_ en_56 rfl rfl (fun w hw => d6_ a c _ _ w (hw.mem _ m0))) rfl (sN zp_39 rfl fun b4 hb4 => sS [pI ((aq_ a c).n), pI ((aq_ a c).d)] ty_39 rfl rfl rfl rfl rfl (.head _) rfl hb4 (nl J (Rs fun K J => sQ (q_ret en_62 (cz_ (wl 0)) rfl) rfl ?_)))))))))))
  refine sN zp_39 rfl fun b5 hb5 => sS [pI ((aa_ (wl 0)).n), pI ((aa_ (wl 0)).d)] ty_39 rfl rfl rfl rfl rfl (.head _) rfl hb5 ?_
  refine nl J (Rs fun K J => sQ (qL ty_23 rfl m3 rfl) rfl (sE rfl ?_))
  obtain ⟨r6, hr6⟩ := nm ((cn_ a b).1 : (A2 (A3 W)))
  obtain ⟨r7, hr7⟩ := nm ((cn_ a b).2 : (A2 Rt))
  refine sC (.tuple #[AV [ci .i64 r6.x.x.1, ci .i64 r6.x.y.1, ci .i64 r6.x.z.1, ci .i64 r6.y.x.1, ci .i64 r6.y.y.1, ci .i64 r6.y.z.1], AV [pI r7.x.n, pI r7.x.d, pI r7.y.n, pI r7.y.d]]) en_44 (hr_ a b) rfl rfl (by rw [hr6, hr7]; first | done | rfl) (sE rfl (sE rfl (sE rfl (sN zp_74 rfl fun b8 hb8 => sN zp_75 rfl fun b9 hb9 => sS [ci .i64 r6.x.x.1, ci .i64 r6.x.y.1, ci .i64 r6.x.z.1, ci .i64 r6.y.x.1, ci .i64 r6.y.y.1, ci .i64 r6.y.z.1] ty_74 rfl rfl rfl rfl rfl (.tail _ (.head _)) rfl hb8 (sS [pI r7.x.n, pI r7.x.d, pI r7.y.n, pI r7.y.d] ty_75 rfl rfl rfl rfl rfl (.head _) rfl hb9 (nl J (Rs fun K J => sE rfl (nl J (Sq fun K2 J2 => Rs fun K J => sE rfl (nl J (ao_ (W_un 4 (Un_s (fun K3 J3 => Rs fun K J => ?_))))))))))))))
  refine sV (.bool true) rfl rfl (nl J (Sq fun K4 J4 => bQ_ rfl (aj_ (J4 _ _ (Sq fun K5 J5 => ao_ (Rs fun K J => sE rfl (sE rfl (nl J (Rs fun K J => sE rfl (sE rfl (sQ (qA ar_74 rfl rfl rfl) rfl (sQ (qL ty_23 rfl m1 rfl) rfl (sQ (ip_ en_56 rfl rfl (fun w hw => d6_ r6.x c _ _ w (hw.mem _ m4))) rfl (sN zp_39 rfl fun b10 hb10 => sS [pI ((aq_ r6.x c).n), pI ((aq_ r6.x c).d)] ty_39 rfl rfl rfl rfl rfl (.head _) rfl hb10 ?_))))))))))))))
  refine nl J (Rs fun K J => sQ (qL ty_39 rfl m3 rfl) rfl (sN zp_39 rfl fun b11 hb11 => sS [pI ((aa_ (wl 0)).n), pI ((aa_ (wl 0)).d)] ty_39 rfl rfl rfl rfl rfl (.head _) rfl hb11 ?_))
  refine nl J (Sq fun K6 J6 => Rs fun K J => sQ (qL ty_39 rfl m1 rfl) rfl (sQ (q_ret en_63 (ba_ (aq_ r6.x c)) rfl) rfl (sE rfl (nl J ?_))))
  rcases bt ((aI_ (aq_ r6.x c)).1 != 0) with h12 | h12
  ·skip
   refine W_t h12 rfl (Sq fun K7 J7 => Rs fun K J => sE rfl (sQ (qA ar_75 rfl rfl rfl) rfl (sQ (qL ty_39 rfl m2 rfl) rfl (sQ (q_ret en_63 (ba_ r7.x) rfl) rfl (sE rfl (nl J ?_))))))
   rcases bt ((aI_ r7.x).1 == 0) with h13 | h13
   ·skip
    refine W_t h13 rfl (Rs fun K J => sE rfl (sE rfl (nl J (W_ret (af_ (af_ (aH_ (af_ (af_ (aH_ (af_ (ret2 rfl (.inr rfl) rfl rfl ?_))))))))))))
    have hE : ((([] : List Rt), false) : (List Rt) × Bool) = (ay_ a b c) := by subst hr7; subst hr6; exact bif_t h3 (bif_t h12 (bif_t h13 rfl))
    rw [← hE]
    exact ⟨_, rfl, SLfe.nil⟩
   ·skip
    refine W_f h13 rfl (aj_ (J7 _ _ (dr (sd (sk (sk (sk (sk (sk (sk (sk (s0))))))))) [0,4,8,12,16,20,25] [6] mix (by kernel_rfl) (fun K J => pQ rfl (qL ty_39 rfl m1 rfl) ?_))))
    obtain ⟨r14, hr14⟩ := nm ((c9_ (aq_ r6.x c)) : Rt)
    refine pC (AV [pI r14.n, pI r14.d]) en_64 (ft_ (aq_ r6.x c)) rfl rfl (by rw [hr14]; first | done | rfl) (pE rfl (pQ rfl (qA ar_75 rfl rfl rfl) (pQ rfl (qL ty_39 rfl m2 rfl) (pQ rfl (q_ret en_57 (cE_ r14 r7.x) rfl) (oS [pI ((ab_ r14 r7.x).n), pI ((ab_ r14 r7.x).d)] ty_39 rfl rfl rfl rfl rfl rfl (.head _) rfl hb11 rfl (sd s0) (fl J (J6 _ _ (Rs fun K J => sQ (qL ty_39 rfl m5 rfl) rfl (sQ (qL ty_39 rfl m0 rfl) rfl ?_)))))))))
    obtain ⟨r15, hr15⟩ := nm ((a6_ (aq_ a c) (ab_ r14 r7.x)) : Rt)
    refine sC (AV [pI r15.n, pI r15.d]) en_65 (cD_ (aq_ a c) (ab_ r14 r7.x)) rfl rfl (by rw [hr15]; first | done | rfl) (sS [pI r15.n, pI r15.d] ty_39 rfl rfl rfl rfl rfl (.tail _ (.tail _ (.tail _ (.tail _ (.tail _ (.head _)))))) rfl hb4 (nl J (Rs fun K J => sQ (qL ty_39 rfl m1 rfl) rfl (sQ (q_ret en_63 (ba_ (aq_ r6.x c)) rfl) rfl (sE rfl (nl J ?_))))))
    rcases bt (decide (0 ≤ (aI_ (aq_ r6.x c)).1)) with h16 | h16
    ·skip
     refine W_t h16 rfl (Rk fun K J => sE rfl (sQ (qL ty_39 rfl m0 rfl) rfl (sQ (qL ty_39 rfl m4 rfl) rfl (WL_r rfl (b1_ [[pI ((ab_ r14 r7.x).n), pI ((ab_ r14 r7.x).d)], [pI ((aa_ (wl 0)).n), pI ((aa_ (wl 0)).d)]] [pI ((ab_ r14 r7.x).n), pI ((ab_ r14 r7.x).d), pI ((aa_ (wl 0)).n), pI ((aa_ (wl 0)).d)] us_43 z_39 sz_39 rfl (by decide) rfl rfl ⟨rfl, rfl, rfl, rfl, rfl, rfl, trivial⟩ rfl (fun b17 hb17 => ?_))))))
     refine WL_r rfl (dL_ (e := elRt) (l := ([] : List Rt)) (m := [(ab_ r14 r7.x), (aa_ (wl 0))]) 136 us_43 (by kernel_rfl) (by decide) rfl rfl OwnG.nil (SLe.lit (e := elRt) (l := [(ab_ r14 r7.x), (aa_ (wl 0))]) m0 rfl (Nat.le_of_ble_eq_true rfl) rfl) fq_n (Nat.le_of_ble_eq_true rfl) (by decide) (fun p18 c19 L20 hO21 => ?_))
     refine sE rfl (nl J (J5 _ _ (Rk fun K J => sV (.int .i64 1) rfl rfl (sE rfl (nl J (J3 _ _ (Un_s (fun K8 J8 => Rs fun K J => sV (.bool true) rfl rfl (nl J (Sq fun K9 J9 => bQ_ rfl (aj_ (J9 _ _ (Sq fun K10 J10 => ao_ (Rs fun K J => sE rfl ?_))))))))))))))
     refine sE rfl (nl J (Rs fun K J => sE rfl (sE rfl (sQ (qA ar_74 rfl rfl rfl) rfl (sQ (qL ty_23 rfl (List.mem_append_right _ (List.mem_cons_of_mem _ (List.mem_cons_of_mem _ (List.mem_cons_of_mem _ (List.mem_cons_of_mem _ (List.mem_cons_self)))))) rfl) rfl (sQ (ip_ en_56 rfl rfl (fun w hw => d6_ r6.y c _ _ w (hw.mem _ (List.mem_append_right _ (List.mem_cons_of_mem _ (List.mem_cons_of_mem _ (List.mem_cons_of_mem _ (List.mem_cons_of_mem _ (List.mem_cons_of_mem _ (List.mem_cons_of_mem _ (List.mem_cons_of_mem _ (List.mem_cons_self)))))))))))) rfl (sN zp_39 rfl fun b22 hb22 => sS [pI ((aq_ r6.y c).n), pI ((aq_ r6.y c).d)] ty_39 rfl rfl rfl rfl rfl (.head _) rfl hb22 (nl J (Rs fun K J => sQ (qL ty_39 rfl (List.mem_cons_of_mem _ (List.mem_append_right _ (List.mem_cons_of_mem _ (List.mem_cons_of_mem _ (List.mem_cons_of_mem _ (List.mem_cons_of_mem _ (List.mem_cons_of_mem _ (List.mem_cons_self)))))))) rfl) rfl (sN zp_39 rfl fun b23 hb23 => sS [pI ((aa_ (wl 0)).n), pI ((aa_ (wl 0)).d)] ty_39 rfl rfl rfl rfl rfl (.head _) rfl hb23 ?_))))))))))
     refine nl J (Sq fun K11 J11 => Rs fun K J => sQ (qL ty_39 rfl m1 rfl) rfl (sQ (q_ret en_63 (ba_ (aq_ r6.y c)) rfl) rfl (sE rfl (nl J ?_))))
     rcases bt ((aI_ (aq_ r6.y c)).1 != 0) with h24 | h24
     ·skip
      refine W_t h24 rfl (Sq fun K12 J12 => Rs fun K J => sE rfl (sQ (qA ar_75 rfl rfl rfl) rfl (sQ (qL ty_39 rfl (List.mem_cons_of_mem _ (List.mem_cons_of_mem _ (List.mem_append_right _ (List.mem_cons_of_mem _ (List.mem_cons_of_mem _ (List.mem_cons_of_mem _ (List.mem_cons_self))))))) rfl) rfl (sQ (q_ret en_63 (ba_ r7.y) rfl) rfl (sE rfl (nl J ?_))))))
      rcases bt ((aI_ r7.y).1 == 0) with h25 | h25
      ·skip
       refine W_t h25 rfl (Rs fun K J => sE rfl (sE rfl (nl J (W_ret (af_ (af_ (aH_ (af_ (af_ (aH_ (af_ (ret2 rfl (.inr rfl) rfl rfl ?_))))))))))))
       have hE : ((([] : List Rt), false) : (List Rt) × Bool) = (ay_ a b c) := by subst hr15; subst hr14; subst hr7; subst hr6; exact bif_t h3 (bif_t h12 (bif_f h13 (bif_t h16 (bif_t h24 (bif_t h25 rfl)))))
       rw [← hE]
       exact ⟨_, rfl, SLfe.nil⟩
      ·skip
       refine W_f h25 rfl (aj_ (J12 _ _ (dr sn [0,4,8,12,16,20,25] [6] mix (by kernel_rfl) (fun K J => pQ rfl (qL ty_39 rfl m1 rfl) ?_))))
       obtain ⟨r26, hr26⟩ := nm ((c9_ (aq_ r6.y c)) : Rt)
       refine pC (AV [pI r26.n, pI r26.d]) en_64 (ft_ (aq_ r6.y c)) rfl rfl (by rw [hr26]; first | done | rfl) (pE rfl (pQ rfl (qA ar_75 rfl rfl rfl) (pQ rfl (qL ty_39 rfl (List.mem_cons_of_mem _ (List.mem_cons_of_mem _ (List.mem_append_right _ (List.mem_cons_of_mem _ (List.mem_cons_of_mem _ (List.mem_cons_of_mem _ (List.mem_cons_self))))))) rfl) (pQ rfl (q_ret en_57 (cE_ r26 r7.y) rfl) (oS [pI ((ab_ r26 r7.y).n), pI ((ab_ r26 r7.y).d)] ty_39 rfl rfl rfl rfl rfl rfl (.head _) rfl hb23 rfl sn (fl J (J11 _ _ (Rs fun K J => sQ (qL ty_39 rfl (List.mem_cons_of_mem _ (List.mem_cons_of_mem _ (List.mem_append_right _ (List.mem_cons_of_mem _ (List.mem_cons_of_mem _ (List.mem_cons_of_mem _ (List.mem_cons_of_mem _ (List.mem_cons_of_mem _ (List.mem_cons_of_mem _ (List.mem_cons_self)))))))))) rfl) rfl (sQ (qL ty_39 rfl m0 rfl) rfl ?_)))))))))
       obtain ⟨r27, hr27⟩ := nm ((a6_ r15 (ab_ r26 r7.y)) : Rt)
       refine sC (AV [pI r27.n, pI r27.d]) en_65 (cD_ r15 (ab_ r26 r7.y)) rfl rfl (by rw [hr27]; first | done | rfl) (sS [pI r27.n, pI r27.d] ty_39 rfl rfl rfl rfl rfl (.tail _ (.tail _ (Upd.left (.tail _ (.tail _ (.tail _ (.tail _ (.tail _ (.tail _ (.head _))))))) _))) rfl hb4 (nl J (Rs fun K J => sQ (qL ty_39 rfl m1 rfl) rfl (sQ (q_ret en_63 (ba_ (aq_ r6.y c)) rfl) rfl (sE rfl (nl J ?_))))))
       rcases bt (decide (0 ≤ (aI_ (aq_ r6.y c)).1)) with h28 | h28
       ·skip
        refine W_t h28 rfl (Rk fun K J => sE rfl (sQ (qL ty_39 rfl m0 rfl) rfl (sQ (qL ty_39 rfl (List.mem_cons_of_mem _ (List.mem_cons_of_mem _ (List.mem_append_right _ (List.mem_cons_of_mem _ (List.mem_cons_of_mem _ (List.mem_cons_of_mem _ (List.mem_cons_of_mem _ (List.mem_cons_of_mem _ (List.mem_cons_self))))))))) rfl) rfl (WL_r rfl (b1_ [[pI ((ab_ r26 r7.y).n), pI ((ab_ r26 r7.y).d)], [pI ((aa_ (wl 0)).n), pI ((aa_ (wl 0)).d)]] [pI ((ab_ r26 r7.y).n), pI ((ab_ r26 r7.y).d), pI ((aa_ (wl 0)).n), pI ((aa_ (wl 0)).d)] us_43 z_39 sz_39 rfl (by decide) rfl rfl ⟨rfl, rfl, rfl, rfl, rfl, rfl, trivial⟩ rfl (fun b29 hb29 => ?_))))))
        refine WL_r rfl (dL_ (e := elRt) (l := (([] : List Rt) ++ [(ab_ r14 r7.x), (aa_ (wl 0))])) (m := [(ab_ r26 r7.y), (aa_ (wl 0))]) 136 us_43 (by kernel_rfl) (by decide) rfl rfl hO21 (SLe.lit (e := elRt) (l := [(ab_ r26 r7.y), (aa_ (wl 0))]) m0 rfl (Nat.le_of_ble_eq_true rfl) rfl) (fq_s (fq_s (fq_s fq_l))) (Nat.le_of_ble_eq_true rfl) (by decide) (fun p30 c31 L32 hO33 => ?_))
        refine sE rfl (nl J (J10 _ _ (Rk fun K J => sV (.int .i64 2) rfl rfl (sE rfl (nl J (J8 _ _ (Un_s (fun K13 J13 => Rs fun K J => sV (.bool false) rfl rfl (nl J (Sq fun K14 J14 => bU_ rfl (bG_ (aw_ (aw_ (aC_ (J2 _ _ (Sq fun K15 J15 => Rs fun K J => sQ (qL ty_39 rfl (List.mem_append_right _ (List.mem_cons_of_mem _ (List.mem_cons_of_mem _ (List.mem_cons_of_mem _ (List.mem_cons_of_mem _ (List.mem_cons_of_mem _ (List.mem_cons_of_mem _ (List.mem_cons_of_mem _ (List.mem_cons_of_mem _ (List.mem_cons_of_mem _ (List.mem_cons_self))))))))))) rfl) rfl (sQ (q_ret en_63 (ba_ r27) rfl) rfl ?_)))))))))))))))))
        refine sE rfl (nl J ?_)
        rcases bt (decide ((aI_ r27).1 < 0)) with h34 | h34
        ·skip
         refine W_t h34 rfl (Rs fun K J => sE rfl (sE rfl (nl J (W_ret (af_ (ret2 rfl (.inr rfl) rfl rfl ?_))))))
         have hE : ((([] : List Rt), false) : (List Rt) × Bool) = (ay_ a b c) := by subst hr27; subst hr26; subst hr15; subst hr14; subst hr7; subst hr6; exact bif_t h3 (bif_t h12 (bif_f h13 (bif_t h16 (bif_t h24 (bif_f h25 (bif_t h28 (bif_t h34 rfl)))))))
         rw [← hE]
         exact ⟨_, rfl, SLfe.nil⟩
        ·skip
         refine W_f h34 rfl (aj_ (J15 _ _ (Sq fun K16 J16 => Rs fun K J => sE rfl (sE rfl (nl J ?_)))))
         rcases bt (b.1 == 0) with h35 | h35
         ·skip
          refine W_t h35 rfl (Rs fun K J => sQ (qL ty_39 rfl (List.mem_append_right _ (List.mem_cons_of_mem _ (List.mem_cons_of_mem _ (List.mem_cons_of_mem _ (List.mem_cons_of_mem _ (List.mem_cons_of_mem _ (List.mem_cons_of_mem _ (List.mem_cons_of_mem _ (List.mem_cons_of_mem _ (List.mem_cons_of_mem _ (List.mem_cons_self))))))))))) rfl) rfl (WL_r rfl (b1_ [[pI r27.n, pI r27.d]] [pI r27.n, pI r27.d] us_43 z_39 sz_39 rfl (by decide) rfl rfl ⟨rfl, rfl, rfl, trivial⟩ rfl (fun b36 hb36 => sE rfl (sE rfl (nl J (W_ret (af_ (ret2 rfl (.inr rfl) rfl rfl ?_)))))))))
          have hE : (([r27], true) : (List Rt) × Bool) = (ay_ a b c) := by subst hr27; subst hr26; subst hr15; subst hr14; subst hr7; subst hr6; exact bif_t h3 (bif_t h12 (bif_f h13 (bif_t h16 (bif_t h24 (bif_f h25 (bif_t h28 (bif_f h34 (bif_t h35 rfl))))))))
          rw [← hE]
          exact ⟨_, rfl, (SLfe.lit (e := elRt) (l := [r27]) hb36 m0 rfl (Nat.le_of_ble_eq_true rfl) rfl)⟩
         ·skip
          refine W_f h35 rfl (aj_ (J16 _ _ (ds sn [0,4,8,13,17] [4] mix (by kernel_rfl) (fun K J => pQ rfl (qL ty_39 rfl (List.mem_append_right _ (List.mem_cons_of_mem _ (List.mem_cons_of_mem _ (List.mem_cons_of_mem _ (List.mem_cons_of_mem _ (List.mem_cons_of_mem _ (List.mem_cons_of_mem _ (List.mem_cons_of_mem _ (List.mem_cons_of_mem _ (List.mem_cons_of_mem _ (List.mem_cons_self))))))))))) rfl) (pQ rfl (q_ret en_62 (cz_ (wl 2)) rfl) ?_)))))
          obtain ⟨r37, hr37⟩ := nm ((ab_ r27 (aa_ (wl 2))) : Rt)
          refine pC (AV [pI r37.n, pI r37.d]) en_57 (cE_ r27 (aa_ (wl 2))) rfl rfl (by rw [hr37]; first | done | rfl) ?_
          refine PL_o rfl rfl (bw_ zp_39 (fun b38 hb38 => ⟨(fun _ => sd s0), sn, oS [pI r37.n, pI r37.d] ty_39 rfl rfl rfl rfl rfl rfl (.head _) rfl hb38 rfl sn (fl J (ds sn [0,8,12,16,20,24,28,32,36,40,44,48,6,53,56,61] [13,15] mix (by kernel_rfl) (fun K J => pE rfl (pE rfl (pQ rfl (q_as (v' := .pointer (some (slb (.slice p30 ((([] : List Rt) ++ [(ab_ r14 r7.x), (aa_ (wl 0))]) ++ [(ab_ r26 r7.y), (aa_ (wl 0))]).length c31) (0 * 36 + 0)))) (cj_ (e := elRt) (l := ((([] : List Rt) ++ [(ab_ r14 r7.x), (aa_ (wl 0))]) ++ [(ab_ r26 r7.y), (aa_ (wl 0))])) (k := 0) sl_43 rfl rfl (SLfe.sle (OwnG.slfe hO33 (sd (List.sublist_append_left _ _)))) (by first | exact Nat.le_of_ble_eq_true rfl | omega)) rfl) ?_)))))⟩))
          refine pQ rfl (q_ldG (e := elRt) (l := ((([] : List Rt) ++ [(ab_ r14 r7.x), (aa_ (wl 0))]) ++ [(ab_ r26 r7.y), (aa_ (wl 0))])) (k := 0) (o := 0) ty_39 rfl (SLfe.sle (OwnG.slfe hO33 (sd (List.sublist_append_left _ _)))) (cs_ Rt0 (by first | exact Nat.le_of_ble_eq_true rfl | omega)) rfl) ?_
          refine pQ rfl (qL ty_39 rfl m0 rfl) ?_
          obtain ⟨r39, hr39⟩ := nm ((aB_ (((([] : List Rt) ++ [(ab_ r14 r7.x), (aa_ (wl 0))]) ++ [(ab_ r26 r7.y), (aa_ (wl 0))]).getD 0 Rt0) r37) : Rt)
          refine pC (AV [pI r39.n, pI r39.d]) en_66 (bp_ (((([] : List Rt) ++ [(ab_ r14 r7.x), (aa_ (wl 0))]) ++ [(ab_ r26 r7.y), (aa_ (wl 0))]).getD 0 Rt0) r37) rfl rfl (by rw [hr39]; first | done | rfl) ?_
          refine pE rfl (pQ rfl (q_as (v' := .pointer (some (slb (.slice p30 ((([] : List Rt) ++ [(ab_ r14 r7.x), (aa_ (wl 0))]) ++ [(ab_ r26 r7.y), (aa_ (wl 0))]).length c31) (1 * 36 + 0)))) (cj_ (e := elRt) (l := ((([] : List Rt) ++ [(ab_ r14 r7.x), (aa_ (wl 0))]) ++ [(ab_ r26 r7.y), (aa_ (wl 0))])) (k := 1) sl_43 rfl rfl (SLfe.sle (OwnG.slfe hO33 (sd (List.sublist_append_left _ _)))) (by first | exact Nat.le_of_ble_eq_true rfl | omega)) rfl) ?_)
          refine pQ rfl (q_ldG (e := elRt) (l := ((([] : List Rt) ++ [(ab_ r14 r7.x), (aa_ (wl 0))]) ++ [(ab_ r26 r7.y), (aa_ (wl 0))])) (k := 1) (o := 0) ty_39 rfl (SLfe.sle (OwnG.slfe hO33 (sd (List.sublist_append_left _ _)))) (cs_ Rt0 (by first | exact Nat.le_of_ble_eq_true rfl | omega)) rfl) ?_
          refine pQ rfl (qL ty_39 rfl m0 rfl) ?_
          obtain ⟨r40, hr40⟩ := nm ((aB_ (((([] : List Rt) ++ [(ab_ r14 r7.x), (aa_ (wl 0))]) ++ [(ab_ r26 r7.y), (aa_ (wl 0))]).getD 1 Rt0) r37) : Rt)
          refine pC (AV [pI r40.n, pI r40.d]) en_66 (bp_ (((([] : List Rt) ++ [(ab_ r14 r7.x), (aa_ (wl 0))]) ++ [(ab_ r26 r7.y), (aa_ (wl 0))]).getD 1 Rt0) r37) rfl rfl (by rw [hr40]; first | done | rfl) ?_
          refine pQ rfl (q_as (v' := .pointer (some (slb (.slice p30 ((([] : List Rt) ++ [(ab_ r14 r7.x), (aa_ (wl 0))]) ++ [(ab_ r26 r7.y), (aa_ (wl 0))]).length c31) (0 * 36 + 0)))) (cj_ (e := elRt) (l := ((([] : List Rt) ++ [(ab_ r14 r7.x), (aa_ (wl 0))]) ++ [(ab_ r26 r7.y), (aa_ (wl 0))])) (k := 0) sl_43 rfl rfl (SLfe.sle (OwnG.slfe hO33 (sd (List.sublist_append_left _ _)))) (by first | exact Nat.le_of_ble_eq_true rfl | omega)) rfl) ?_
          refine tE rfl (PL_o rfl rfl (dB_ (e := elRt) (l := ((([] : List Rt) ++ [(ab_ r14 r7.x), (aa_ (wl 0))]) ++ [(ab_ r26 r7.y), (aa_ (wl 0))])) (k := 0) (z := r39) ty_39 rfl rfl hO33 (Nat.le_of_ble_eq_true rfl) (fq_s fq_l) rfl rfl (fun L41 hO42 => ⟨nf, sn, ?_⟩)))
          refine pQ rfl (q_as (v' := .pointer (some (slb (.slice p30 ((([] : List Rt) ++ [(ab_ r14 r7.x), (aa_ (wl 0))]) ++ [(ab_ r26 r7.y), (aa_ (wl 0))]).length c31) (1 * 36 + 0)))) (cj_ (e := elRt) (l := (((([] : List Rt) ++ [(ab_ r14 r7.x), (aa_ (wl 0))]) ++ [(ab_ r26 r7.y), (aa_ (wl 0))]).set 0 r39)) (k := 1) sl_43 rfl rfl (SLfe.sle (OwnG.slfe hO42 (List.sublist_append_left _ _))) (by first | exact Nat.le_of_ble_eq_true rfl | omega)) rfl) ?_
          refine PL_o rfl rfl (dB_ (e := elRt) (l := (((([] : List Rt) ++ [(ab_ r14 r7.x), (aa_ (wl 0))]) ++ [(ab_ r26 r7.y), (aa_ (wl 0))]).set 0 r39)) (k := 1) (z := r40) ty_39 rfl rfl hO42 (Nat.le_of_ble_eq_true rfl) fq_l rfl rfl (fun L43 hO44 => ⟨nf, sn, ?_⟩))
          refine fl J (Rs fun K J => sE rfl (sE rfl (sE rfl (nl J (W_ret (ret2 rfl (.inr rfl) rfl rfl ?_))))))
          have hE : ((((((([] : List Rt) ++ [(ab_ r14 r7.x), (aa_ (wl 0))]) ++ [(ab_ r26 r7.y), (aa_ (wl 0))]).set 0 r39).set 1 r40), true) : (List Rt) × Bool) = (ay_ a b c) := by subst hr40; subst hr39; subst hr37; subst hr27; subst hr26; subst hr15; subst hr14; subst hr7; subst hr6; exact bif_t h3 (bif_t h12 (bif_f h13 (bif_t h16 (bif_t h24 (bif_f h25 (bif_t h28 (bif_f h34 (bif_f h35 rfl))))))))
          rw [← hE]
          exact ⟨_, rfl, (OwnG.slfe hO44 (List.sublist_append_left _ _))⟩
       ·skip
        refine W_f h28 rfl (Rk fun K J => sE rfl (sQ (qL ty_39 rfl (List.mem_cons_of_mem _ (List.mem_cons_of_mem _ (List.mem_append_right _ (List.mem_cons_of_mem _ (List.mem_cons_of_mem _ (List.mem_cons_of_mem _ (List.mem_cons_of_mem _ (List.mem_cons_of_mem _ (List.mem_cons_self))))))))) rfl) rfl (sQ (qL ty_39 rfl m0 rfl) rfl (WL_r rfl (b1_ [[pI ((aa_ (wl 0)).n), pI ((aa_ (wl 0)).d)], [pI ((ab_ r26 r7.y).n), pI ((ab_ r26 r7.y).d)]] [pI ((aa_ (wl 0)).n), pI ((aa_ (wl 0)).d), pI ((ab_ r26 r7.y).n), pI ((ab_ r26 r7.y).d)] us_43 z_39 sz_39 rfl (by decide) rfl rfl ⟨rfl, rfl, rfl, rfl, rfl, rfl, trivial⟩ rfl (fun b45 hb45 => ?_))))))
        refine WL_r rfl (dL_ (e := elRt) (l := (([] : List Rt) ++ [(ab_ r14 r7.x), (aa_ (wl 0))])) (m := [(aa_ (wl 0)), (ab_ r26 r7.y)]) 136 us_43 (by kernel_rfl) (by decide) rfl rfl hO21 (SLe.lit (e := elRt) (l := [(aa_ (wl 0)), (ab_ r26 r7.y)]) m0 rfl (Nat.le_of_ble_eq_true rfl) rfl) (fq_s (fq_s (fq_s fq_l))) (Nat.le_of_ble_eq_true rfl) (by decide) (fun p46 c47 L48 hO49 => ?_))
        refine sE rfl (nl J (J10 _ _ (Rk fun K J => sV (.int .i64 2) rfl rfl (sE rfl (nl J (J8 _ _ (Un_s (fun K17 J17 => Rs fun K J => sV (.bool false) rfl rfl (nl J (Sq fun K18 J18 => bU_ rfl (bG_ (aw_ (aw_ (aC_ (J2 _ _ (Sq fun K19 J19 => Rs fun K J => sQ (qL ty_39 rfl (List.mem_append_right _ (List.mem_cons_of_mem _ (List.mem_cons_of_mem _ (List.mem_cons_of_mem _ (List.mem_cons_of_mem _ (List.mem_cons_of_mem _ (List.mem_cons_of_mem _ (List.mem_cons_of_mem _ (List.mem_cons_of_mem _ (List.mem_cons_of_mem _ (List.mem_cons_self))))))))))) rfl) rfl (sQ (q_ret en_63 (ba_ r27) rfl) rfl ?_)))))))))))))))))
        refine sE rfl (nl J ?_)
        rcases bt (decide ((aI_ r27).1 < 0)) with h50 | h50
        ·skip
         refine W_t h50 rfl (Rs fun K J => sE rfl (sE rfl (nl J (W_ret (af_ (ret2 rfl (.inr rfl) rfl rfl ?_))))))
         have hE : ((([] : List Rt), false) : (List Rt) × Bool) = (ay_ a b c) := by subst hr27; subst hr26; subst hr15; subst hr14; subst hr7; subst hr6; exact bif_t h3 (bif_t h12 (bif_f h13 (bif_t h16 (bif_t h24 (bif_f h25 (bif_f h28 (bif_t h50 rfl)))))))
         rw [← hE]
         exact ⟨_, rfl, SLfe.nil⟩
        ·skip
         refine W_f h50 rfl (aj_ (J19 _ _ (Sq fun K20 J20 => Rs fun K J => sE rfl (sE rfl (nl J ?_)))))
         rcases bt (b.1 == 0) with h51 | h51
         ·skip
          refine W_t h51 rfl (Rs fun K J => sQ (qL ty_39 rfl (List.mem_append_right _ (List.mem_cons_of_mem _ (List.mem_cons_of_mem _ (List.mem_cons_of_mem _ (List.mem_cons_of_mem _ (List.mem_cons_of_mem _ (List.mem_cons_of_mem _ (List.mem_cons_of_mem _ (List.mem_cons_of_mem _ (List.mem_cons_of_mem _ (List.mem_cons_self))))))))))) rfl) rfl (WL_r rfl (b1_ [[pI r27.n, pI r27.d]] [pI r27.n, pI r27.d] us_43 z_39 sz_39 rfl (by decide) rfl rfl ⟨rfl, rfl, rfl, trivial⟩ rfl (fun b52 hb52 => sE rfl (sE rfl (nl J (W_ret (af_ (ret2 rfl (.inr rfl) rfl rfl ?_)))))))))
          have hE : (([r27], true) : (List Rt) × Bool) = (ay_ a b c) := by subst hr27; subst hr26; subst hr15; subst hr14; subst hr7; subst hr6; exact bif_t h3 (bif_t h12 (bif_f h13 (bif_t h16 (bif_t h24 (bif_f h25 (bif_f h28 (bif_f h50 (bif_t h51 rfl))))))))
          rw [← hE]
          exact ⟨_, rfl, (SLfe.lit (e := elRt) (l := [r27]) hb52 m0 rfl (Nat.le_of_ble_eq_true rfl) rfl)⟩
         ·skip
          refine W_f h51 rfl (aj_ (J20 _ _ (ds sn [0,4,8,13,17] [4] mix (by kernel_rfl) (fun K J => pQ rfl (qL ty_39 rfl (List.mem_append_right _ (List.mem_cons_of_mem _ (List.mem_cons_of_mem _ (List.mem_cons_of_mem _ (List.mem_cons_of_mem _ (List.mem_cons_of_mem _ (List.mem_cons_of_mem _ (List.mem_cons_of_mem _ (List.mem_cons_of_mem _ (List.mem_cons_of_mem _ (List.mem_cons_self))))))))))) rfl) (pQ rfl (q_ret en_62 (cz_ (wl 2)) rfl) ?_)))))
          obtain ⟨r53, hr53⟩ := nm ((ab_ r27 (aa_ (wl 2))) : Rt)
          refine pC (AV [pI r53.n, pI r53.d]) en_57 (cE_ r27 (aa_ (wl 2))) rfl rfl (by rw [hr53]; first | done | rfl) ?_
          refine PL_o rfl rfl (bw_ zp_39 (fun b54 hb54 => ⟨(fun _ => sd s0), sn, oS [pI r53.n, pI r53.d] ty_39 rfl rfl rfl rfl rfl rfl (.head _) rfl hb54 rfl sn (fl J (ds sn [0,8,12,16,20,24,28,32,36,40,44,48,6,53,56,61] [13,15] mix (by kernel_rfl) (fun K J => pE rfl (pE rfl (pQ rfl (q_as (v' := .pointer (some (slb (.slice p46 ((([] : List Rt) ++ [(ab_ r14 r7.x), (aa_ (wl 0))]) ++ [(aa_ (wl 0)), (ab_ r26 r7.y)]).length c47) (0 * 36 + 0)))) (cj_ (e := elRt) (l := ((([] : List Rt) ++ [(ab_ r14 r7.x), (aa_ (wl 0))]) ++ [(aa_ (wl 0)), (ab_ r26 r7.y)])) (k := 0) sl_43 rfl rfl (SLfe.sle (OwnG.slfe hO49 (sd (List.sublist_append_left _ _)))) (by first | exact Nat.le_of_ble_eq_true rfl | omega)) rfl) ?_)))))⟩))
          refine pQ rfl (q_ldG (e := elRt) (l := ((([] : List Rt) ++ [(ab_ r14 r7.x), (aa_ (wl 0))]) ++ [(aa_ (wl 0)), (ab_ r26 r7.y)])) (k := 0) (o := 0) ty_39 rfl (SLfe.sle (OwnG.slfe hO49 (sd (List.sublist_append_left _ _)))) (cs_ Rt0 (by first | exact Nat.le_of_ble_eq_true rfl | omega)) rfl) ?_
          refine pQ rfl (qL ty_39 rfl m0 rfl) ?_
          obtain ⟨r55, hr55⟩ := nm ((aB_ (((([] : List Rt) ++ [(ab_ r14 r7.x), (aa_ (wl 0))]) ++ [(aa_ (wl 0)), (ab_ r26 r7.y)]).getD 0 Rt0) r53) : Rt)
          refine pC (AV [pI r55.n, pI r55.d]) en_66 (bp_ (((([] : List Rt) ++ [(ab_ r14 r7.x), (aa_ (wl 0))]) ++ [(aa_ (wl 0)), (ab_ r26 r7.y)]).getD 0 Rt0) r53) rfl rfl (by rw [hr55]; first | done | rfl) ?_
          refine pE rfl (pQ rfl (q_as (v' := .pointer (some (slb (.slice p46 ((([] : List Rt) ++ [(ab_ r14 r7.x), (aa_ (wl 0))]) ++ [(aa_ (wl 0)), (ab_ r26 r7.y)]).length c47) (1 * 36 + 0)))) (cj_ (e := elRt) (l := ((([] : List Rt) ++ [(ab_ r14 r7.x), (aa_ (wl 0))]) ++ [(aa_ (wl 0)), (ab_ r26 r7.y)])) (k := 1) sl_43 rfl rfl (SLfe.sle (OwnG.slfe hO49 (sd (List.sublist_append_left _ _)))) (by first | exact Nat.le_of_ble_eq_true rfl | omega)) rfl) ?_)
          refine pQ rfl (q_ldG (e := elRt) (l := ((([] : List Rt) ++ [(ab_ r14 r7.x), (aa_ (wl 0))]) ++ [(aa_ (wl 0)), (ab_ r26 r7.y)])) (k := 1) (o := 0) ty_39 rfl (SLfe.sle (OwnG.slfe hO49 (sd (List.sublist_append_left _ _)))) (cs_ Rt0 (by first | exact Nat.le_of_ble_eq_true rfl | omega)) rfl) ?_
          refine pQ rfl (qL ty_39 rfl m0 rfl) ?_
          obtain ⟨r56, hr56⟩ := nm ((aB_ (((([] : List Rt) ++ [(ab_ r14 r7.x), (aa_ (wl 0))]) ++ [(aa_ (wl 0)), (ab_ r26 r7.y)]).getD 1 Rt0) r53) : Rt)
          refine pC (AV [pI r56.n, pI r56.d]) en_66 (bp_ (((([] : List Rt) ++ [(ab_ r14 r7.x), (aa_ (wl 0))]) ++ [(aa_ (wl 0)), (ab_ r26 r7.y)]).getD 1 Rt0) r53) rfl rfl (by rw [hr56]; first | done | rfl) ?_
          refine pQ rfl (q_as (v' := .pointer (some (slb (.slice p46 ((([] : List Rt) ++ [(ab_ r14 r7.x), (aa_ (wl 0))]) ++ [(aa_ (wl 0)), (ab_ r26 r7.y)]).length c47) (0 * 36 + 0)))) (cj_ (e := elRt) (l := ((([] : List Rt) ++ [(ab_ r14 r7.x), (aa_ (wl 0))]) ++ [(aa_ (wl 0)), (ab_ r26 r7.y)])) (k := 0) sl_43 rfl rfl (SLfe.sle (OwnG.slfe hO49 (sd (List.sublist_append_left _ _)))) (by first | exact Nat.le_of_ble_eq_true rfl | omega)) rfl) ?_
          refine tE rfl (PL_o rfl rfl (dB_ (e := elRt) (l := ((([] : List Rt) ++ [(ab_ r14 r7.x), (aa_ (wl 0))]) ++ [(aa_ (wl 0)), (ab_ r26 r7.y)])) (k := 0) (z := r55) ty_39 rfl rfl hO49 (Nat.le_of_ble_eq_true rfl) (fq_s fq_l) rfl rfl (fun L57 hO58 => ⟨nf, sn, ?_⟩)))
          refine pQ rfl (q_as (v' := .pointer (some (slb (.slice p46 ((([] : List Rt) ++ [(ab_ r14 r7.x), (aa_ (wl 0))]) ++ [(aa_ (wl 0)), (ab_ r26 r7.y)]).length c47) (1 * 36 + 0)))) (cj_ (e := elRt) (l := (((([] : List Rt) ++ [(ab_ r14 r7.x), (aa_ (wl 0))]) ++ [(aa_ (wl 0)), (ab_ r26 r7.y)]).set 0 r55)) (k := 1) sl_43 rfl rfl (SLfe.sle (OwnG.slfe hO58 (List.sublist_append_left _ _))) (by first | exact Nat.le_of_ble_eq_true rfl | omega)) rfl) ?_
          refine PL_o rfl rfl (dB_ (e := elRt) (l := (((([] : List Rt) ++ [(ab_ r14 r7.x), (aa_ (wl 0))]) ++ [(aa_ (wl 0)), (ab_ r26 r7.y)]).set 0 r55)) (k := 1) (z := r56) ty_39 rfl rfl hO58 (Nat.le_of_ble_eq_true rfl) fq_l rfl rfl (fun L59 hO60 => ⟨nf, sn, ?_⟩))
          refine fl J (Rs fun K J => sE rfl (sE rfl (sE rfl (nl J (W_ret (ret2 rfl (.inr rfl) rfl rfl ?_))))))
          have hE : ((((((([] : List Rt) ++ [(ab_ r14 r7.x), (aa_ (wl 0))]) ++ [(aa_ (wl 0)), (ab_ r26 r7.y)]).set 0 r55).set 1 r56), true) : (List Rt) × Bool) = (ay_ a b c) := by subst hr56; subst hr55; subst hr53; subst hr27; subst hr26; subst hr15; subst hr14; subst hr7; subst hr6; exact bif_t h3 (bif_t h12 (bif_f h13 (bif_t h16 (bif_t h24 (bif_f h25 (bif_f h28 (bif_f h50 (bif_f h51 rfl))))))))
          rw [← hE]
          exact ⟨_, rfl, (OwnG.slfe hO60 (List.sublist_append_left _ _))⟩
     ·skip
      refine W_f h24 rfl (aj_ (J11 _ _ (Rs fun K J => sQ (qL ty_39 rfl (List.mem_cons_of_mem _ (List.mem_cons_of_mem _ (List.mem_append_right _ (List.mem_cons_of_mem _ (List.mem_cons_of_mem _ (List.mem_cons_of_mem _ (List.mem_cons_of_mem _ (List.mem_cons_of_mem _ (List.mem_cons_of_mem _ (List.mem_cons_self)))))))))) rfl) rfl (sQ (qL ty_39 rfl m0 rfl) rfl ?_))))
      obtain ⟨r61, hr61⟩ := nm ((a6_ r15 (aa_ (wl 0))) : Rt)
      refine sC (AV [pI r61.n, pI r61.d]) en_65 (cD_ r15 (aa_ (wl 0))) rfl rfl (by rw [hr61]; first | done | rfl) ?_
      refine sS [pI r61.n, pI r61.d] ty_39 rfl rfl rfl rfl rfl (.tail _ (.tail _ (Upd.left (.tail _ (.tail _ (.tail _ (.tail _ (.tail _ (.tail _ (.head _))))))) _))) rfl hb4 (nl J (Rs fun K J => sQ (qL ty_39 rfl m1 rfl) rfl (sQ (q_ret en_63 (ba_ (aq_ r6.y c)) rfl) rfl (sE rfl (nl J (W_t (k4_ h24) rfl (Rk fun K J => sE rfl (sQ (qL ty_39 rfl m0 rfl) rfl (sQ (qL ty_39 rfl (List.mem_cons_of_mem _ (List.mem_cons_of_mem _ (List.mem_append_right _ (List.mem_cons_of_mem _ (List.mem_cons_of_mem _ (List.mem_cons_of_mem _ (List.mem_cons_of_mem _ (List.mem_cons_of_mem _ (List.mem_cons_self))))))))) rfl) rfl (WL_r rfl (b1_ [[pI ((aa_ (wl 0)).n), pI ((aa_ (wl 0)).d)], [pI ((aa_ (wl 0)).n), pI ((aa_ (wl 0)).d)]] [pI ((aa_ (wl 0)).n), pI ((aa_ (wl 0)).d), pI ((aa_ (wl 0)).n), pI ((aa_ (wl 0)).d)] us_43 z_39 sz_39 rfl (by decide) rfl rfl ⟨rfl, rfl, rfl, rfl, rfl, rfl, trivial⟩ rfl (fun b62 hb62 => ?_))))))))))))
      refine WL_r rfl (dL_ (e := elRt) (l := (([] : List Rt) ++ [(ab_ r14 r7.x), (aa_ (wl 0))])) (m := [(aa_ (wl 0)), (aa_ (wl 0))]) 136 us_43 (by kernel_rfl) (by decide) rfl rfl hO21 (SLe.lit (e := elRt) (l := [(aa_ (wl 0)), (aa_ (wl 0))]) m0 rfl (Nat.le_of_ble_eq_true rfl) rfl) (fq_s (fq_s (fq_s fq_l))) (Nat.le_of_ble_eq_true rfl) (by decide) (fun p63 c64 L65 hO66 => ?_))
      refine sE rfl (nl J (J10 _ _ (Rk fun K J => sV (.int .i64 2) rfl rfl (sE rfl (nl J (J8 _ _ (Un_s (fun K21 J21 => Rs fun K J => sV (.bool false) rfl rfl (nl J (Sq fun K22 J22 => bU_ rfl (bG_ (aw_ (aw_ (aC_ (J2 _ _ (Sq fun K23 J23 => Rs fun K J => sQ (qL ty_39 rfl (List.mem_append_right _ (List.mem_cons_of_mem _ (List.mem_cons_of_mem _ (List.mem_cons_of_mem _ (List.mem_cons_of_mem _ (List.mem_cons_of_mem _ (List.mem_cons_of_mem _ (List.mem_cons_of_mem _ (List.mem_cons_of_mem _ (List.mem_cons_of_mem _ (List.mem_cons_self))))))))))) rfl) rfl (sQ (q_ret en_63 (ba_ r61) rfl) rfl ?_)))))))))))))))))
      refine sE rfl (nl J ?_)
      rcases bt (decide ((aI_ r61).1 < 0)) with h67 | h67
      ·skip
       refine W_t h67 rfl (Rs fun K J => sE rfl (sE rfl (nl J (W_ret (af_ (ret2 rfl (.inr rfl) rfl rfl ?_))))))
       have hE : ((([] : List Rt), false) : (List Rt) × Bool) = (ay_ a b c) := by subst hr61; subst hr15; subst hr14; subst hr7; subst hr6; exact bif_t h3 (bif_t h12 (bif_f h13 (bif_t h16 (bif_f h24 (bif_t h67 rfl)))))
       rw [← hE]
       exact ⟨_, rfl, SLfe.nil⟩
      ·skip
       refine W_f h67 rfl (aj_ (J23 _ _ (Sq fun K24 J24 => Rs fun K J => sE rfl (sE rfl (nl J ?_)))))
       rcases bt (b.1 == 0) with h68 | h68
       ·skip
        refine W_t h68 rfl (Rs fun K J => sQ (qL ty_39 rfl (List.mem_append_right _ (List.mem_cons_of_mem _ (List.mem_cons_of_mem _ (List.mem_cons_of_mem _ (List.mem_cons_of_mem _ (List.mem_cons_of_mem _ (List.mem_cons_of_mem _ (List.mem_cons_of_mem _ (List.mem_cons_of_mem _ (List.mem_cons_of_mem _ (List.mem_cons_self))))))))))) rfl) rfl (WL_r rfl (b1_ [[pI r61.n, pI r61.d]] [pI r61.n, pI r61.d] us_43 z_39 sz_39 rfl (by decide) rfl rfl ⟨rfl, rfl, rfl, trivial⟩ rfl (fun b69 hb69 => sE rfl (sE rfl (nl J (W_ret (af_ (ret2 rfl (.inr rfl) rfl rfl ?_)))))))))
        have hE : (([r61], true) : (List Rt) × Bool) = (ay_ a b c) := by subst hr61; subst hr15; subst hr14; subst hr7; subst hr6; exact bif_t h3 (bif_t h12 (bif_f h13 (bif_t h16 (bif_f h24 (bif_f h67 (bif_t h68 rfl))))))
        rw [← hE]
        exact ⟨_, rfl, (SLfe.lit (e := elRt) (l := [r61]) hb69 m0 rfl (Nat.le_of_ble_eq_true rfl) rfl)⟩
       ·skip
        refine W_f h68 rfl (aj_ (J24 _ _ (ds sn [0,4,8,13,17] [4] mix (by kernel_rfl) (fun K J => pQ rfl (qL ty_39 rfl (List.mem_append_right _ (List.mem_cons_of_mem _ (List.mem_cons_of_mem _ (List.mem_cons_of_mem _ (List.mem_cons_of_mem _ (List.mem_cons_of_mem _ (List.mem_cons_of_mem _ (List.mem_cons_of_mem _ (List.mem_cons_of_mem _ (List.mem_cons_of_mem _ (List.mem_cons_self))))))))))) rfl) (pQ rfl (q_ret en_62 (cz_ (wl 2)) rfl) ?_)))))
        obtain ⟨r70, hr70⟩ := nm ((ab_ r61 (aa_ (wl 2))) : Rt)
        refine pC (AV [pI r70.n, pI r70.d]) en_57 (cE_ r61 (aa_ (wl 2))) rfl rfl (by rw [hr70]; first | done | rfl) ?_
        refine PL_o rfl rfl (bw_ zp_39 (fun b71 hb71 => ⟨(fun _ => sd s0), sn, oS [pI r70.n, pI r70.d] ty_39 rfl rfl rfl rfl rfl rfl (.head _) rfl hb71 rfl sn (fl J (ds sn [0,8,12,16,20,24,28,32,36,40,44,48,6,53,56,61] [13,15] mix (by kernel_rfl) (fun K J => pE rfl (pE rfl (pQ rfl (q_as (v' := .pointer (some (slb (.slice p63 ((([] : List Rt) ++ [(ab_ r14 r7.x), (aa_ (wl 0))]) ++ [(aa_ (wl 0)), (aa_ (wl 0))]).length c64) (0 * 36 + 0)))) (cj_ (e := elRt) (l := ((([] : List Rt) ++ [(ab_ r14 r7.x), (aa_ (wl 0))]) ++ [(aa_ (wl 0)), (aa_ (wl 0))])) (k := 0) sl_43 rfl rfl (SLfe.sle (OwnG.slfe hO66 (sd (List.sublist_append_left _ _)))) (by first | exact Nat.le_of_ble_eq_true rfl | omega)) rfl) ?_)))))⟩))
        refine pQ rfl (q_ldG (e := elRt) (l := ((([] : List Rt) ++ [(ab_ r14 r7.x), (aa_ (wl 0))]) ++ [(aa_ (wl 0)), (aa_ (wl 0))])) (k := 0) (o := 0) ty_39 rfl (SLfe.sle (OwnG.slfe hO66 (sd (List.sublist_append_left _ _)))) (cs_ Rt0 (by first | exact Nat.le_of_ble_eq_true rfl | omega)) rfl) ?_
        refine pQ rfl (qL ty_39 rfl m0 rfl) ?_
        obtain ⟨r72, hr72⟩ := nm ((aB_ (((([] : List Rt) ++ [(ab_ r14 r7.x), (aa_ (wl 0))]) ++ [(aa_ (wl 0)), (aa_ (wl 0))]).getD 0 Rt0) r70) : Rt)
        refine pC (AV [pI r72.n, pI r72.d]) en_66 (bp_ (((([] : List Rt) ++ [(ab_ r14 r7.x), (aa_ (wl 0))]) ++ [(aa_ (wl 0)), (aa_ (wl 0))]).getD 0 Rt0) r70) rfl rfl (by rw [hr72]; first | done | rfl) ?_
        refine pE rfl (pQ rfl (q_as (v' := .pointer (some (slb (.slice p63 ((([] : List Rt) ++ [(ab_ r14 r7.x), (aa_ (wl 0))]) ++ [(aa_ (wl 0)), (aa_ (wl 0))]).length c64) (1 * 36 + 0)))) (cj_ (e := elRt) (l := ((([] : List Rt) ++ [(ab_ r14 r7.x), (aa_ (wl 0))]) ++ [(aa_ (wl 0)), (aa_ (wl 0))])) (k := 1) sl_43 rfl rfl (SLfe.sle (OwnG.slfe hO66 (sd (List.sublist_append_left _ _)))) (by first | exact Nat.le_of_ble_eq_true rfl | omega)) rfl) ?_)
        refine pQ rfl (q_ldG (e := elRt) (l := ((([] : List Rt) ++ [(ab_ r14 r7.x), (aa_ (wl 0))]) ++ [(aa_ (wl 0)), (aa_ (wl 0))])) (k := 1) (o := 0) ty_39 rfl (SLfe.sle (OwnG.slfe hO66 (sd (List.sublist_append_left _ _)))) (cs_ Rt0 (by first | exact Nat.le_of_ble_eq_true rfl | omega)) rfl) ?_
        refine pQ rfl (qL ty_39 rfl m0 rfl) ?_
        obtain ⟨r73, hr73⟩ := nm ((aB_ (((([] : List Rt) ++ [(ab_ r14 r7.x), (aa_ (wl 0))]) ++ [(aa_ (wl 0)), (aa_ (wl 0))]).getD 1 Rt0) r70) : Rt)
        refine pC (AV [pI r73.n, pI r73.d]) en_66 (bp_ (((([] : List Rt) ++ [(ab_ r14 r7.x), (aa_ (wl 0))]) ++ [(aa_ (wl 0)), (aa_ (wl 0))]).getD 1 Rt0) r70) rfl rfl (by rw [hr73]; first | done | rfl) ?_
        refine pQ rfl (q_as (v' := .pointer (some (slb (.slice p63 ((([] : List Rt) ++ [(ab_ r14 r7.x), (aa_ (wl 0))]) ++ [(aa_ (wl 0)), (aa_ (wl 0))]).length c64) (0 * 36 + 0)))) (cj_ (e := elRt) (l := ((([] : List Rt) ++ [(ab_ r14 r7.x), (aa_ (wl 0))]) ++ [(aa_ (wl 0)), (aa_ (wl 0))])) (k := 0) sl_43 rfl rfl (SLfe.sle (OwnG.slfe hO66 (sd (List.sublist_append_left _ _)))) (by first | exact Nat.le_of_ble_eq_true rfl | omega)) rfl) ?_
        refine tE rfl (PL_o rfl rfl (dB_ (e := elRt) (l := ((([] : List Rt) ++ [(ab_ r14 r7.x), (aa_ (wl 0))]) ++ [(aa_ (wl 0)), (aa_ (wl 0))])) (k := 0) (z := r72) ty_39 rfl rfl hO66 (Nat.le_of_ble_eq_true rfl) (fq_s fq_l) rfl rfl (fun L74 hO75 => ⟨nf, sn, ?_⟩)))
        refine pQ rfl (q_as (v' := .pointer (some (slb (.slice p63 ((([] : List Rt) ++ [(ab_ r14 r7.x), (aa_ (wl 0))]) ++ [(aa_ (wl 0)), (aa_ (wl 0))]).length c64) (1 * 36 + 0)))) (cj_ (e := elRt) (l := (((([] : List Rt) ++ [(ab_ r14 r7.x), (aa_ (wl 0))]) ++ [(aa_ (wl 0)), (aa_ (wl 0))]).set 0 r72)) (k := 1) sl_43 rfl rfl (SLfe.sle (OwnG.slfe hO75 (List.sublist_append_left _ _))) (by first | exact Nat.le_of_ble_eq_true rfl | omega)) rfl) ?_
        refine PL_o rfl rfl (dB_ (e := elRt) (l := (((([] : List Rt) ++ [(ab_ r14 r7.x), (aa_ (wl 0))]) ++ [(aa_ (wl 0)), (aa_ (wl 0))]).set 0 r72)) (k := 1) (z := r73) ty_39 rfl rfl hO75 (Nat.le_of_ble_eq_true rfl) fq_l rfl rfl (fun L76 hO77 => ⟨nf, sn, ?_⟩))
        refine fl J (Rs fun K J => sE rfl (sE rfl (sE rfl (nl J (W_ret (ret2 rfl (.inr rfl) rfl rfl ?_))))))
        have hE : ((((((([] : List Rt) ++ [(ab_ r14 r7.x), (aa_ (wl 0))]) ++ [(aa_ (wl 0)), (aa_ (wl 0))]).set 0 r72).set 1 r73), true) : (List Rt) × Bool) = (ay_ a b c) := by subst hr73; subst hr72; subst hr70; subst hr61; subst hr15; subst hr14; subst hr7; subst hr6; exact bif_t h3 (bif_t h12 (bif_f h13 (bif_t h16 (bif_f h24 (bif_f h67 (bif_f h68 rfl))))))
        rw [← hE]
        exact ⟨_, rfl, (OwnG.slfe hO77 (List.sublist_append_left _ _))⟩
    ·skip
     refine W_f h16 rfl (Rk fun K J => sE rfl (sQ (qL ty_39 rfl m4 rfl) rfl (sQ (qL ty_39 rfl m0 rfl) rfl (WL_r rfl (b1_ [[pI ((aa_ (wl 0)).n), pI ((aa_ (wl 0)).d)], [pI ((ab_ r14 r7.x).n), pI ((ab_ r14 r7.x).d)]] [pI ((aa_ (wl 0)).n), pI ((aa_ (wl 0)).d), pI ((ab_ r14 r7.x).n), pI ((ab_ r14 r7.x).d)] us_43 z_39 sz_39 rfl (by decide) rfl rfl ⟨rfl, rfl, rfl, rfl, rfl, rfl, trivial⟩ rfl (fun b78 hb78 => ?_))))))
     refine WL_r rfl (dL_ (e := elRt) (l := ([] : List Rt)) (m := [(aa_ (wl 0)), (ab_ r14 r7.x)]) 136 us_43 (by kernel_rfl) (by decide) rfl rfl OwnG.nil (SLe.lit (e := elRt) (l := [(aa_ (wl 0)), (ab_ r14 r7.x)]) m0 rfl (Nat.le_of_ble_eq_true rfl) rfl) fq_n (Nat.le_of_ble_eq_true rfl) (by decide) (fun p79 c80 L81 hO82 => ?_))
     refine sE rfl (nl J (J5 _ _ (Rk fun K J => sV (.int .i64 1) rfl rfl (sE rfl (nl J (J3 _ _ (Un_s (fun K25 J25 => Rs fun K J => sV (.bool true) rfl rfl (nl J (Sq fun K26 J26 => bQ_ rfl (aj_ (J26 _ _ (Sq fun K27 J27 => ao_ (Rs fun K J => sE rfl ?_))))))))))))))
     refine sE rfl (nl J (Rs fun K J => sE rfl (sE rfl (sQ (qA ar_74 rfl rfl rfl) rfl (sQ (qL ty_23 rfl (List.mem_append_right _ (List.mem_cons_of_mem _ (List.mem_cons_of_mem _ (List.mem_cons_of_mem _ (List.mem_cons_of_mem _ (List.mem_cons_self)))))) rfl) rfl (sQ (ip_ en_56 rfl rfl (fun w hw => d6_ r6.y c _ _ w (hw.mem _ (List.mem_append_right _ (List.mem_cons_of_mem _ (List.mem_cons_of_mem _ (List.mem_cons_of_mem _ (List.mem_cons_of_mem _ (List.mem_cons_of_mem _ (List.mem_cons_of_mem _ (List.mem_cons_of_mem _ (List.mem_cons_self)))))))))))) rfl (sN zp_39 rfl fun b83 hb83 => sS [pI ((aq_ r6.y c).n), pI ((aq_ r6.y c).d)] ty_39 rfl rfl rfl rfl rfl (.head _) rfl hb83 (nl J (Rs fun K J => sQ (qL ty_39 rfl (List.mem_cons_of_mem _ (List.mem_append_right _ (List.mem_cons_of_mem _ (List.mem_cons_of_mem _ (List.mem_cons_of_mem _ (List.mem_cons_of_mem _ (List.mem_cons_of_mem _ (List.mem_cons_self)))))))) rfl) rfl (sN zp_39 rfl fun b84 hb84 => sS [pI ((aa_ (wl 0)).n), pI ((aa_ (wl 0)).d)] ty_39 rfl rfl rfl rfl rfl (.head _) rfl hb84 ?_))))))))))
     refine nl J (Sq fun K28 J28 => Rs fun K J => sQ (qL ty_39 rfl m1 rfl) rfl (sQ (q_ret en_63 (ba_ (aq_ r6.y c)) rfl) rfl (sE rfl (nl J ?_))))
     rcases bt ((aI_ (aq_ r6.y c)).1 != 0) with h85 | h85
     ·skip
      refine W_t h85 rfl (Sq fun K29 J29 => Rs fun K J => sE rfl (sQ (qA ar_75 rfl rfl rfl) rfl (sQ (qL ty_39 rfl (List.mem_cons_of_mem _ (List.mem_cons_of_mem _ (List.mem_append_right _ (List.mem_cons_of_mem _ (List.mem_cons_of_mem _ (List.mem_cons_of_mem _ (List.mem_cons_self))))))) rfl) rfl (sQ (q_ret en_63 (ba_ r7.y) rfl) rfl (sE rfl (nl J ?_))))))
      rcases bt ((aI_ r7.y).1 == 0) with h86 | h86
      ·skip
       refine W_t h86 rfl (Rs fun K J => sE rfl (sE rfl (nl J (W_ret (af_ (af_ (aH_ (af_ (af_ (aH_ (af_ (ret2 rfl (.inr rfl) rfl rfl ?_))))))))))))
       have hE : ((([] : List Rt), false) : (List Rt) × Bool) = (ay_ a b c) := by subst hr15; subst hr14; subst hr7; subst hr6; exact bif_t h3 (bif_t h12 (bif_f h13 (bif_f h16 (bif_t h85 (bif_t h86 rfl)))))
       rw [← hE]
       exact ⟨_, rfl, SLfe.nil⟩
      ·skip
       refine W_f h86 rfl (aj_ (J29 _ _ (dr sn [0,4,8,12,16,20,25] [6] mix (by kernel_rfl) (fun K J => pQ rfl (qL ty_39 rfl m1 rfl) ?_))))
       obtain ⟨r87, hr87⟩ := nm ((c9_ (aq_ r6.y c)) : Rt)
       refine pC (AV [pI r87.n, pI r87.d]) en_64 (ft_ (aq_ r6.y c)) rfl rfl (by rw [hr87]; first | done | rfl) (pE rfl (pQ rfl (qA ar_75 rfl rfl rfl) (pQ rfl (qL ty_39 rfl (List.mem_cons_of_mem _ (List.mem_cons_of_mem _ (List.mem_append_right _ (List.mem_cons_of_mem _ (List.mem_cons_of_mem _ (List.mem_cons_of_mem _ (List.mem_cons_self))))))) rfl) (pQ rfl (q_ret en_57 (cE_ r87 r7.y) rfl) (oS [pI ((ab_ r87 r7.y).n), pI ((ab_ r87 r7.y).d)] ty_39 rfl rfl rfl rfl rfl rfl (.head _) rfl hb84 rfl sn (fl J (J28 _ _ (Rs fun K J => sQ (qL ty_39 rfl (List.mem_cons_of_mem _ (List.mem_cons_of_mem _ (List.mem_append_right _ (List.mem_cons_of_mem _ (List.mem_cons_of_mem _ (List.mem_cons_of_mem _ (List.mem_cons_of_mem _ (List.mem_cons_of_mem _ (List.mem_cons_of_mem _ (List.mem_cons_self)))))))))) rfl) rfl (sQ (qL ty_39 rfl m0 rfl) rfl ?_)))))))))
       obtain ⟨r88, hr88⟩ := nm ((a6_ r15 (ab_ r87 r7.y)) : Rt)
       refine sC (AV [pI r88.n, pI r88.d]) en_65 (cD_ r15 (ab_ r87 r7.y)) rfl rfl (by rw [hr88]; first | done | rfl) (sS [pI r88.n, pI r88.d] ty_39 rfl rfl rfl rfl rfl (.tail _ (.tail _ (Upd.left (.tail _ (.tail _ (.tail _ (.tail _ (.tail _ (.tail _ (.head _))))))) _))) rfl hb4 (nl J (Rs fun K J => sQ (qL ty_39 rfl m1 rfl) rfl (sQ (q_ret en_63 (ba_ (aq_ r6.y c)) rfl) rfl (sE rfl (nl J ?_))))))
       rcases bt (decide (0 ≤ (aI_ (aq_ r6.y c)).1)) with h89 | h89
       ·skip
        refine W_t h89 rfl (Rk fun K J => sE rfl (sQ (qL ty_39 rfl m0 rfl) rfl (sQ (qL ty_39 rfl (List.mem_cons_of_mem _ (List.mem_cons_of_mem _ (List.mem_append_right _ (List.mem_cons_of_mem _ (List.mem_cons_of_mem _ (List.mem_cons_of_mem _ (List.mem_cons_of_mem _ (List.mem_cons_of_mem _ (List.mem_cons_self))))))))) rfl) rfl (WL_r rfl (b1_ [[pI ((ab_ r87 r7.y).n), pI ((ab_ r87 r7.y).d)], [pI ((aa_ (wl 0)).n), pI ((aa_ (wl 0)).d)]] [pI ((ab_ r87 r7.y).n), pI ((ab_ r87 r7.y).d), pI ((aa_ (wl 0)).n), pI ((aa_ (wl 0)).d)] us_43 z_39 sz_39 rfl (by decide) rfl rfl ⟨rfl, rfl, rfl, rfl, rfl, rfl, trivial⟩ rfl (fun b90 hb90 => ?_))))))
        refine WL_r rfl (dL_ (e := elRt) (l := (([] : List Rt) ++ [(aa_ (wl 0)), (ab_ r14 r7.x)])) (m := [(ab_ r87 r7.y), (aa_ (wl 0))]) 136 us_43 (by kernel_rfl) (by decide) rfl rfl hO82 (SLe.lit (e := elRt) (l := [(ab_ r87 r7.y), (aa_ (wl 0))]) m0 rfl (Nat.le_of_ble_eq_true rfl) rfl) (fq_s (fq_s (fq_s fq_l))) (Nat.le_of_ble_eq_true rfl) (by decide) (fun p91 c92 L93 hO94 => ?_))
        refine sE rfl (nl J (J27 _ _ (Rk fun K J => sV (.int .i64 2) rfl rfl (sE rfl (nl J (J25 _ _ (Un_s (fun K30 J30 => Rs fun K J => sV (.bool false) rfl rfl (nl J (Sq fun K31 J31 => bU_ rfl (bG_ (aw_ (aw_ (aC_ (J2 _ _ (Sq fun K32 J32 => Rs fun K J => sQ (qL ty_39 rfl (List.mem_append_right _ (List.mem_cons_of_mem _ (List.mem_cons_of_mem _ (List.mem_cons_of_mem _ (List.mem_cons_of_mem _ (List.mem_cons_of_mem _ (List.mem_cons_of_mem _ (List.mem_cons_of_mem _ (List.mem_cons_of_mem _ (List.mem_cons_of_mem _ (List.mem_cons_self))))))))))) rfl) rfl (sQ (q_ret en_63 (ba_ r88) rfl) rfl ?_)))))))))))))))))
        refine sE rfl (nl J ?_)
        rcases bt (decide ((aI_ r88).1 < 0)) with h95 | h95
        ·skip
         refine W_t h95 rfl (Rs fun K J => sE rfl (sE rfl (nl J (W_ret (af_ (ret2 rfl (.inr rfl) rfl rfl ?_))))))
         have hE : ((([] : List Rt), false) : (List Rt) × Bool) = (ay_ a b c) := by subst hr88; subst hr87; subst hr15; subst hr14; subst hr7; subst hr6; exact bif_t h3 (bif_t h12 (bif_f h13 (bif_f h16 (bif_t h85 (bif_f h86 (bif_t h89 (bif_t h95 rfl)))))))
         rw [← hE]
         exact ⟨_, rfl, SLfe.nil⟩
        ·skip
         refine W_f h95 rfl (aj_ (J32 _ _ (Sq fun K33 J33 => Rs fun K J => sE rfl (sE rfl (nl J ?_)))))
         rcases bt (b.1 == 0) with h96 | h96
         ·skip
          refine W_t h96 rfl (Rs fun K J => sQ (qL ty_39 rfl (List.mem_append_right _ (List.mem_cons_of_mem _ (List.mem_cons_of_mem _ (List.mem_cons_of_mem _ (List.mem_cons_of_mem _ (List.mem_cons_of_mem _ (List.mem_cons_of_mem _ (List.mem_cons_of_mem _ (List.mem_cons_of_mem _ (List.mem_cons_of_mem _ (List.mem_cons_self))))))))))) rfl) rfl (WL_r rfl (b1_ [[pI r88.n, pI r88.d]] [pI r88.n, pI r88.d] us_43 z_39 sz_39 rfl (by decide) rfl rfl ⟨rfl, rfl, rfl, trivial⟩ rfl (fun b97 hb97 => sE rfl (sE rfl (nl J (W_ret (af_ (ret2 rfl (.inr rfl) rfl rfl ?_)))))))))
          have hE : (([r88], true) : (List Rt) × Bool) = (ay_ a b c) := by subst hr88; subst hr87; subst hr15; subst hr14; subst hr7; subst hr6; exact bif_t h3 (bif_t h12 (bif_f h13 (bif_f h16 (bif_t h85 (bif_f h86 (bif_t h89 (bif_f h95 (bif_t h96 rfl))))))))
          rw [← hE]
          exact ⟨_, rfl, (SLfe.lit (e := elRt) (l := [r88]) hb97 m0 rfl (Nat.le_of_ble_eq_true rfl) rfl)⟩
         ·skip
          refine W_f h96 rfl (aj_ (J33 _ _ (ds sn [0,4,8,13,17] [4] mix (by kernel_rfl) (fun K J => pQ rfl (qL ty_39 rfl (List.mem_append_right _ (List.mem_cons_of_mem _ (List.mem_cons_of_mem _ (List.mem_cons_of_mem _ (List.mem_cons_of_mem _ (List.mem_cons_of_mem _ (List.mem_cons_of_mem _ (List.mem_cons_of_mem _ (List.mem_cons_of_mem _ (List.mem_cons_of_mem _ (List.mem_cons_self))))))))))) rfl) (pQ rfl (q_ret en_62 (cz_ (wl 2)) rfl) ?_)))))
          obtain ⟨r98, hr98⟩ := nm ((ab_ r88 (aa_ (wl 2))) : Rt)
          refine pC (AV [pI r98.n, pI r98.d]) en_57 (cE_ r88 (aa_ (wl 2))) rfl rfl (by rw [hr98]; first | done | rfl) ?_
          refine PL_o rfl rfl (bw_ zp_39 (fun b99 hb99 => ⟨(fun _ => sd s0), sn, oS [pI r98.n, pI r98.d] ty_39 rfl rfl rfl rfl rfl rfl (.head _) rfl hb99 rfl sn (fl J (ds sn [0,8,12,16,20,24,28,32,36,40,44,48,6,53,56,61] [13,15] mix (by kernel_rfl) (fun K J => pE rfl (pE rfl (pQ rfl (q_as (v' := .pointer (some (slb (.slice p91 ((([] : List Rt) ++ [(aa_ (wl 0)), (ab_ r14 r7.x)]) ++ [(ab_ r87 r7.y), (aa_ (wl 0))]).length c92) (0 * 36 + 0)))) (cj_ (e := elRt) (l := ((([] : List Rt) ++ [(aa_ (wl 0)), (ab_ r14 r7.x)]) ++ [(ab_ r87 r7.y), (aa_ (wl 0))])) (k := 0) sl_43 rfl rfl (SLfe.sle (OwnG.slfe hO94 (sd (List.sublist_append_left _ _)))) (by first | exact Nat.le_of_ble_eq_true rfl | omega)) rfl) ?_)))))⟩))
          refine pQ rfl (q_ldG (e := elRt) (l := ((([] : List Rt) ++ [(aa_ (wl 0)), (ab_ r14 r7.x)]) ++ [(ab_ r87 r7.y), (aa_ (wl 0))])) (k := 0) (o := 0) ty_39 rfl (SLfe.sle (OwnG.slfe hO94 (sd (List.sublist_append_left _ _)))) (cs_ Rt0 (by first | exact Nat.le_of_ble_eq_true rfl | omega)) rfl) ?_
          refine pQ rfl (qL ty_39 rfl m0 rfl) ?_
          obtain ⟨r100, hr100⟩ := nm ((aB_ (((([] : List Rt) ++ [(aa_ (wl 0)), (ab_ r14 r7.x)]) ++ [(ab_ r87 r7.y), (aa_ (wl 0))]).getD 0 Rt0) r98) : Rt)
          refine pC (AV [pI r100.n, pI r100.d]) en_66 (bp_ (((([] : List Rt) ++ [(aa_ (wl 0)), (ab_ r14 r7.x)]) ++ [(ab_ r87 r7.y), (aa_ (wl 0))]).getD 0 Rt0) r98) rfl rfl (by rw [hr100]; first | done | rfl) ?_
          refine pE rfl (pQ rfl (q_as (v' := .pointer (some (slb (.slice p91 ((([] : List Rt) ++ [(aa_ (wl 0)), (ab_ r14 r7.x)]) ++ [(ab_ r87 r7.y), (aa_ (wl 0))]).length c92) (1 * 36 + 0)))) (cj_ (e := elRt) (l := ((([] : List Rt) ++ [(aa_ (wl 0)), (ab_ r14 r7.x)]) ++ [(ab_ r87 r7.y), (aa_ (wl 0))])) (k := 1) sl_43 rfl rfl (SLfe.sle (OwnG.slfe hO94 (sd (List.sublist_append_left _ _)))) (by first | exact Nat.le_of_ble_eq_true rfl | omega)) rfl) ?_)
          refine pQ rfl (q_ldG (e := elRt) (l := ((([] : List Rt) ++ [(aa_ (wl 0)), (ab_ r14 r7.x)]) ++ [(ab_ r87 r7.y), (aa_ (wl 0))])) (k := 1) (o := 0) ty_39 rfl (SLfe.sle (OwnG.slfe hO94 (sd (List.sublist_append_left _ _)))) (cs_ Rt0 (by first | exact Nat.le_of_ble_eq_true rfl | omega)) rfl) ?_
          refine pQ rfl (qL ty_39 rfl m0 rfl) ?_
          obtain ⟨r101, hr101⟩ := nm ((aB_ (((([] : List Rt) ++ [(aa_ (wl 0)), (ab_ r14 r7.x)]) ++ [(ab_ r87 r7.y), (aa_ (wl 0))]).getD 1 Rt0) r98) : Rt)
          refine pC (AV [pI r101.n, pI r101.d]) en_66 (bp_ (((([] : List Rt) ++ [(aa_ (wl 0)), (ab_ r14 r7.x)]) ++ [(ab_ r87 r7.y), (aa_ (wl 0))]).getD 1 Rt0) r98) rfl rfl (by rw [hr101]; first | done | rfl) ?_
          refine pQ rfl (q_as (v' := .pointer (some (slb (.slice p91 ((([] : List Rt) ++ [(aa_ (wl 0)), (ab_ r14 r7.x)]) ++ [(ab_ r87 r7.y), (aa_ (wl 0))]).length c92) (0 * 36 + 0)))) (cj_ (e := elRt) (l := ((([] : List Rt) ++ [(aa_ (wl 0)), (ab_ r14 r7.x)]) ++ [(ab_ r87 r7.y), (aa_ (wl 0))])) (k := 0) sl_43 rfl rfl (SLfe.sle (OwnG.slfe hO94 (sd (List.sublist_append_left _ _)))) (by first | exact Nat.le_of_ble_eq_true rfl | omega)) rfl) ?_
          refine tE rfl (PL_o rfl rfl (dB_ (e := elRt) (l := ((([] : List Rt) ++ [(aa_ (wl 0)), (ab_ r14 r7.x)]) ++ [(ab_ r87 r7.y), (aa_ (wl 0))])) (k := 0) (z := r100) ty_39 rfl rfl hO94 (Nat.le_of_ble_eq_true rfl) (fq_s fq_l) rfl rfl (fun L102 hO103 => ⟨nf, sn, ?_⟩)))
          refine pQ rfl (q_as (v' := .pointer (some (slb (.slice p91 ((([] : List Rt) ++ [(aa_ (wl 0)), (ab_ r14 r7.x)]) ++ [(ab_ r87 r7.y), (aa_ (wl 0))]).length c92) (1 * 36 + 0)))) (cj_ (e := elRt) (l := (((([] : List Rt) ++ [(aa_ (wl 0)), (ab_ r14 r7.x)]) ++ [(ab_ r87 r7.y), (aa_ (wl 0))]).set 0 r100)) (k := 1) sl_43 rfl rfl (SLfe.sle (OwnG.slfe hO103 (List.sublist_append_left _ _))) (by first | exact Nat.le_of_ble_eq_true rfl | omega)) rfl) ?_
          refine PL_o rfl rfl (dB_ (e := elRt) (l := (((([] : List Rt) ++ [(aa_ (wl 0)), (ab_ r14 r7.x)]) ++ [(ab_ r87 r7.y), (aa_ (wl 0))]).set 0 r100)) (k := 1) (z := r101) ty_39 rfl rfl hO103 (Nat.le_of_ble_eq_true rfl) fq_l rfl rfl (fun L104 hO105 => ⟨nf, sn, ?_⟩))
          refine fl J (Rs fun K J => sE rfl (sE rfl (sE rfl (nl J (W_ret (ret2 rfl (.inr rfl) rfl rfl ?_))))))
          have hE : ((((((([] : List Rt) ++ [(aa_ (wl 0)), (ab_ r14 r7.x)]) ++ [(ab_ r87 r7.y), (aa_ (wl 0))]).set 0 r100).set 1 r101), true) : (List Rt) × Bool) = (ay_ a b c) := by subst hr101; subst hr100; subst hr98; subst hr88; subst hr87; subst hr15; subst hr14; subst hr7; subst hr6; exact bif_t h3 (bif_t h12 (bif_f h13 (bif_f h16 (bif_t h85 (bif_f h86 (bif_t h89 (bif_f h95 (bif_f h96 rfl))))))))
          rw [← hE]
          exact ⟨_, rfl, (OwnG.slfe hO105 (List.sublist_append_left _ _))⟩
       ·skip
        refine W_f h89 rfl (Rk fun K J => sE rfl (sQ (qL ty_39 rfl (List.mem_cons_of_mem _ (List.mem_cons_of_mem _ (List.mem_append_right _ (List.mem_cons_of_mem _ (List.mem_cons_of_mem _ (List.mem_cons_of_mem _ (List.mem_cons_of_mem _ (List.mem_cons_of_mem _ (List.mem_cons_self))))))))) rfl) rfl (sQ (qL ty_39 rfl m0 rfl) rfl (WL_r rfl (b1_ [[pI ((aa_ (wl 0)).n), pI ((aa_ (wl 0)).d)], [pI ((ab_ r87 r7.y).n), pI ((ab_ r87 r7.y).d)]] [pI ((aa_ (wl 0)).n), pI ((aa_ (wl 0)).d), pI ((ab_ r87 r7.y).n), pI ((ab_ r87 r7.y).d)] us_43 z_39 sz_39 rfl (by decide) rfl rfl ⟨rfl, rfl, rfl, rfl, rfl, rfl, trivial⟩ rfl (fun b106 hb106 => ?_))))))
        refine WL_r rfl (dL_ (e := elRt) (l := (([] : List Rt) ++ [(aa_ (wl 0)), (ab_ r14 r7.x)])) (m := [(aa_ (wl 0)), (ab_ r87 r7.y)]) 136 us_43 (by kernel_rfl) (by decide) rfl rfl hO82 (SLe.lit (e := elRt) (l := [(aa_ (wl 0)), (ab_ r87 r7.y)]) m0 rfl (Nat.le_of_ble_eq_true rfl) rfl) (fq_s (fq_s (fq_s fq_l))) (Nat.le_of_ble_eq_true rfl) (by decide) (fun p107 c108 L109 hO110 => ?_))
        refine sE rfl (nl J (J27 _ _ (Rk fun K J => sV (.int .i64 2) rfl rfl (sE rfl (nl J (J25 _ _ (Un_s (fun K34 J34 => Rs fun K J => sV (.bool false) rfl rfl (nl J (Sq fun K35 J35 => bU_ rfl (bG_ (aw_ (aw_ (aC_ (J2 _ _ (Sq fun K36 J36 => Rs fun K J => sQ (qL ty_39 rfl (List.mem_append_right _ (List.mem_cons_of_mem _ (List.mem_cons_of_mem _ (List.mem_cons_of_mem _ (List.mem_cons_of_mem _ (List.mem_cons_of_mem _ (List.mem_cons_of_mem _ (List.mem_cons_of_mem _ (List.mem_cons_of_mem _ (List.mem_cons_of_mem _ (List.mem_cons_self))))))))))) rfl) rfl (sQ (q_ret en_63 (ba_ r88) rfl) rfl ?_)))))))))))))))))
        refine sE rfl (nl J ?_)
        rcases bt (decide ((aI_ r88).1 < 0)) with h111 | h111
        ·skip
         refine W_t h111 rfl (Rs fun K J => sE rfl (sE rfl (nl J (W_ret (af_ (ret2 rfl (.inr rfl) rfl rfl ?_))))))
         have hE : ((([] : List Rt), false) : (List Rt) × Bool) = (ay_ a b c) := by subst hr88; subst hr87; subst hr15; subst hr14; subst hr7; subst hr6; exact bif_t h3 (bif_t h12 (bif_f h13 (bif_f h16 (bif_t h85 (bif_f h86 (bif_f h89 (bif_t h111 rfl)))))))
         rw [← hE]
         exact ⟨_, rfl, SLfe.nil⟩
        ·skip
         refine W_f h111 rfl (aj_ (J36 _ _ (Sq fun K37 J37 => Rs fun K J => sE rfl (sE rfl (nl J ?_)))))
         rcases bt (b.1 == 0) with h112 | h112
         ·skip
          refine W_t h112 rfl (Rs fun K J => sQ (qL ty_39 rfl (List.mem_append_right _ (List.mem_cons_of_mem _ (List.mem_cons_of_mem _ (List.mem_cons_of_mem _ (List.mem_cons_of_mem _ (List.mem_cons_of_mem _ (List.mem_cons_of_mem _ (List.mem_cons_of_mem _ (List.mem_cons_of_mem _ (List.mem_cons_of_mem _ (List.mem_cons_self))))))))))) rfl) rfl (WL_r rfl (b1_ [[pI r88.n, pI r88.d]] [pI r88.n, pI r88.d] us_43 z_39 sz_39 rfl (by decide) rfl rfl ⟨rfl, rfl, rfl, trivial⟩ rfl (fun b113 hb113 => sE rfl (sE rfl (nl J (W_ret (af_ (ret2 rfl (.inr rfl) rfl rfl ?_)))))))))
          have hE : (([r88], true) : (List Rt) × Bool) = (ay_ a b c) := by subst hr88; subst hr87; subst hr15; subst hr14; subst hr7; subst hr6; exact bif_t h3 (bif_t h12 (bif_f h13 (bif_f h16 (bif_t h85 (bif_f h86 (bif_f h89 (bif_f h111 (bif_t h112 rfl))))))))
          rw [← hE]
          exact ⟨_, rfl, (SLfe.lit (e := elRt) (l := [r88]) hb113 m0 rfl (Nat.le_of_ble_eq_true rfl) rfl)⟩
         ·skip
          refine W_f h112 rfl (aj_ (J37 _ _ (ds sn [0,4,8,13,17] [4] mix (by kernel_rfl) (fun K J => pQ rfl (qL ty_39 rfl (List.mem_append_right _ (List.mem_cons_of_mem _ (List.mem_cons_of_mem _ (List.mem_cons_of_mem _ (List.mem_cons_of_mem _ (List.mem_cons_of_mem _ (List.mem_cons_of_mem _ (List.mem_cons_of_mem _ (List.mem_cons_of_mem _ (List.mem_cons_of_mem _ (List.mem_cons_self))))))))))) rfl) (pQ rfl (q_ret en_62 (cz_ (wl 2)) rfl) ?_)))))
          obtain ⟨r114, hr114⟩ := nm ((ab_ r88 (aa_ (wl 2))) : Rt)
          refine pC (AV [pI r114.n, pI r114.d]) en_57 (cE_ r88 (aa_ (wl 2))) rfl rfl (by rw [hr114]; first | done | rfl) ?_
          refine PL_o rfl rfl (bw_ zp_39 (fun b115 hb115 => ⟨(fun _ => sd s0), sn, oS [pI r114.n, pI r114.d] ty_39 rfl rfl rfl rfl rfl rfl (.head _) rfl hb115 rfl sn (fl J (ds sn [0,8,12,16,20,24,28,32,36,40,44,48,6,53,56,61] [13,15] mix (by kernel_rfl) (fun K J => pE rfl (pE rfl (pQ rfl (q_as (v' := .pointer (some (slb (.slice p107 ((([] : List Rt) ++ [(aa_ (wl 0)), (ab_ r14 r7.x)]) ++ [(aa_ (wl 0)), (ab_ r87 r7.y)]).length c108) (0 * 36 + 0)))) (cj_ (e := elRt) (l := ((([] : List Rt) ++ [(aa_ (wl 0)), (ab_ r14 r7.x)]) ++ [(aa_ (wl 0)), (ab_ r87 r7.y)])) (k := 0) sl_43 rfl rfl (SLfe.sle (OwnG.slfe hO110 (sd (List.sublist_append_left _ _)))) (by first | exact Nat.le_of_ble_eq_true rfl | omega)) rfl) ?_)))))⟩))
          refine pQ rfl (q_ldG (e := elRt) (l := ((([] : List Rt) ++ [(aa_ (wl 0)), (ab_ r14 r7.x)]) ++ [(aa_ (wl 0)), (ab_ r87 r7.y)])) (k := 0) (o := 0) ty_39 rfl (SLfe.sle (OwnG.slfe hO110 (sd (List.sublist_append_left _ _)))) (cs_ Rt0 (by first | exact Nat.le_of_ble_eq_true rfl | omega)) rfl) ?_
          refine pQ rfl (qL ty_39 rfl m0 rfl) ?_
          obtain ⟨r116, hr116⟩ := nm ((aB_ (((([] : List Rt) ++ [(aa_ (wl 0)), (ab_ r14 r7.x)]) ++ [(aa_ (wl 0)), (ab_ r87 r7.y)]).getD 0 Rt0) r114) : Rt)
          refine pC (AV [pI r116.n, pI r116.d]) en_66 (bp_ (((([] : List Rt) ++ [(aa_ (wl 0)), (ab_ r14 r7.x)]) ++ [(aa_ (wl 0)), (ab_ r87 r7.y)]).getD 0 Rt0) r114) rfl rfl (by rw [hr116]; first | done | rfl) ?_
          refine pE rfl (pQ rfl (q_as (v' := .pointer (some (slb (.slice p107 ((([] : List Rt) ++ [(aa_ (wl 0)), (ab_ r14 r7.x)]) ++ [(aa_ (wl 0)), (ab_ r87 r7.y)]).length c108) (1 * 36 + 0)))) (cj_ (e := elRt) (l := ((([] : List Rt) ++ [(aa_ (wl 0)), (ab_ r14 r7.x)]) ++ [(aa_ (wl 0)), (ab_ r87 r7.y)])) (k := 1) sl_43 rfl rfl (SLfe.sle (OwnG.slfe hO110 (sd (List.sublist_append_left _ _)))) (by first | exact Nat.le_of_ble_eq_true rfl | omega)) rfl) ?_)
          refine pQ rfl (q_ldG (e := elRt) (l := ((([] : List Rt) ++ [(aa_ (wl 0)), (ab_ r14 r7.x)]) ++ [(aa_ (wl 0)), (ab_ r87 r7.y)])) (k := 1) (o := 0) ty_39 rfl (SLfe.sle (OwnG.slfe hO110 (sd (List.sublist_append_left _ _)))) (cs_ Rt0 (by first | exact Nat.le_of_ble_eq_true rfl | omega)) rfl) ?_
          refine pQ rfl (qL ty_39 rfl m0 rfl) ?_
          obtain ⟨r117, hr117⟩ := nm ((aB_ (((([] : List Rt) ++ [(aa_ (wl 0)), (ab_ r14 r7.x)]) ++ [(aa_ (wl 0)), (ab_ r87 r7.y)]).getD 1 Rt0) r114) : Rt)
          refine pC (AV [pI r117.n, pI r117.d]) en_66 (bp_ (((([] : List Rt) ++ [(aa_ (wl 0)), (ab_ r14 r7.x)]) ++ [(aa_ (wl 0)), (ab_ r87 r7.y)]).getD 1 Rt0) r114) rfl rfl (by rw [hr117]; first | done | rfl) ?_
          refine pQ rfl (q_as (v' := .pointer (some (slb (.slice p107 ((([] : List Rt) ++ [(aa_ (wl 0)), (ab_ r14 r7.x)]) ++ [(aa_ (wl 0)), (ab_ r87 r7.y)]).length c108) (0 * 36 + 0)))) (cj_ (e := elRt) (l := ((([] : List Rt) ++ [(aa_ (wl 0)), (ab_ r14 r7.x)]) ++ [(aa_ (wl 0)), (ab_ r87 r7.y)])) (k := 0) sl_43 rfl rfl (SLfe.sle (OwnG.slfe hO110 (sd (List.sublist_append_left _ _)))) (by first | exact Nat.le_of_ble_eq_true rfl | omega)) rfl) ?_
          refine tE rfl (PL_o rfl rfl (dB_ (e := elRt) (l := ((([] : List Rt) ++ [(aa_ (wl 0)), (ab_ r14 r7.x)]) ++ [(aa_ (wl 0)), (ab_ r87 r7.y)])) (k := 0) (z := r116) ty_39 rfl rfl hO110 (Nat.le_of_ble_eq_true rfl) (fq_s fq_l) rfl rfl (fun L118 hO119 => ⟨nf, sn, ?_⟩)))
          refine pQ rfl (q_as (v' := .pointer (some (slb (.slice p107 ((([] : List Rt) ++ [(aa_ (wl 0)), (ab_ r14 r7.x)]) ++ [(aa_ (wl 0)), (ab_ r87 r7.y)]).length c108) (1 * 36 + 0)))) (cj_ (e := elRt) (l := (((([] : List Rt) ++ [(aa_ (wl 0)), (ab_ r14 r7.x)]) ++ [(aa_ (wl 0)), (ab_ r87 r7.y)]).set 0 r116)) (k := 1) sl_43 rfl rfl (SLfe.sle (OwnG.slfe hO119 (List.sublist_append_left _ _))) (by first | exact Nat.le_of_ble_eq_true rfl | omega)) rfl) ?_
          refine PL_o rfl rfl (dB_ (e := elRt) (l := (((([] : List Rt) ++ [(aa_ (wl 0)), (ab_ r14 r7.x)]) ++ [(aa_ (wl 0)), (ab_ r87 r7.y)]).set 0 r116)) (k := 1) (z := r117) ty_39 rfl rfl hO119 (Nat.le_of_ble_eq_true rfl) fq_l rfl rfl (fun L120 hO121 => ⟨nf, sn, ?_⟩))
          refine fl J (Rs fun K J => sE rfl (sE rfl (sE rfl (nl J (W_ret (ret2 rfl (.inr rfl) rfl rfl ?_))))))
          have hE : ((((((([] : List Rt) ++ [(aa_ (wl 0)), (ab_ r14 r7.x)]) ++ [(aa_ (wl 0)), (ab_ r87 r7.y)]).set 0 r116).set 1 r117), true) : (List Rt) × Bool) = (ay_ a b c) := by subst hr117; subst hr116; subst hr114; subst hr88; subst hr87; subst hr15; subst hr14; subst hr7; subst hr6; exact bif_t h3 (bif_t h12 (bif_f h13 (bif_f h16 (bif_t h85 (bif_f h86 (bif_f h89 (bif_f h111 (bif_f h112 rfl))))))))
          rw [← hE]
          exact ⟨_, rfl, (OwnG.slfe hO121 (List.sublist_append_left _ _))⟩
     ·skip
      refine W_f h85 rfl (aj_ (J28 _ _ (Rs fun K J => sQ (qL ty_39 rfl (List.mem_cons_of_mem _ (List.mem_cons_of_mem _ (List.mem_append_right _ (List.mem_cons_of_mem _ (List.mem_cons_of_mem _ (List.mem_cons_of_mem _ (List.mem_cons_of_mem _ (List.mem_cons_of_mem _ (List.mem_cons_of_mem _ (List.mem_cons_self)))))))))) rfl) rfl (sQ (qL ty_39 rfl m0 rfl) rfl ?_))))
      obtain ⟨r122, hr122⟩ := nm ((a6_ r15 (aa_ (wl 0))) : Rt)
      refine sC (AV [pI r122.n, pI r122.d]) en_65 (cD_ r15 (aa_ (wl 0))) rfl rfl (by rw [hr122]; first | done | rfl) ?_
      refine sS [pI r122.n, pI r122.d] ty_39 rfl rfl rfl rfl rfl (.tail _ (.tail _ (Upd.left (.tail _ (.tail _ (.tail _ (.tail _ (.tail _ (.tail _ (.head _))))))) _))) rfl hb4 (nl J (Rs fun K J => sQ (qL ty_39 rfl m1 rfl) rfl (sQ (q_ret en_63 (ba_ (aq_ r6.y c)) rfl) rfl (sE rfl (nl J (W_t (k4_ h85) rfl (Rk fun K J => sE rfl (sQ (qL ty_39 rfl m0 rfl) rfl (sQ (qL ty_39 rfl (List.mem_cons_of_mem _ (List.mem_cons_of_mem _ (List.mem_append_right _ (List.mem_cons_of_mem _ (List.mem_cons_of_mem _ (List.mem_cons_of_mem _ (List.mem_cons_of_mem _ (List.mem_cons_of_mem _ (List.mem_cons_self))))))))) rfl) rfl (WL_r rfl (b1_ [[pI ((aa_ (wl 0)).n), pI ((aa_ (wl 0)).d)], [pI ((aa_ (wl 0)).n), pI ((aa_ (wl 0)).d)]] [pI ((aa_ (wl 0)).n), pI ((aa_ (wl 0)).d), pI ((aa_ (wl 0)).n), pI ((aa_ (wl 0)).d)] us_43 z_39 sz_39 rfl (by decide) rfl rfl ⟨rfl, rfl, rfl, rfl, rfl, rfl, trivial⟩ rfl (fun b123 hb123 => ?_))))))))))))
      refine WL_r rfl (dL_ (e := elRt) (l := (([] : List Rt) ++ [(aa_ (wl 0)), (ab_ r14 r7.x)])) (m := [(aa_ (wl 0)), (aa_ (wl 0))]) 136 us_43 (by kernel_rfl) (by decide) rfl rfl hO82 (SLe.lit (e := elRt) (l := [(aa_ (wl 0)), (aa_ (wl 0))]) m0 rfl (Nat.le_of_ble_eq_true rfl) rfl) (fq_s (fq_s (fq_s fq_l))) (Nat.le_of_ble_eq_true rfl) (by decide) (fun p124 c125 L126 hO127 => ?_))
      refine sE rfl (nl J (J27 _ _ (Rk fun K J => sV (.int .i64 2) rfl rfl (sE rfl (nl J (J25 _ _ (Un_s (fun K38 J38 => Rs fun K J => sV (.bool false) rfl rfl (nl J (Sq fun K39 J39 => bU_ rfl (bG_ (aw_ (aw_ (aC_ (J2 _ _ (Sq fun K40 J40 => Rs fun K J => sQ (qL ty_39 rfl (List.mem_append_right _ (List.mem_cons_of_mem _ (List.mem_cons_of_mem _ (List.mem_cons_of_mem _ (List.mem_cons_of_mem _ (List.mem_cons_of_mem _ (List.mem_cons_of_mem _ (List.mem_cons_of_mem _ (List.mem_cons_of_mem _ (List.mem_cons_of_mem _ (List.mem_cons_self))))))))))) rfl) rfl (sQ (q_ret en_63 (ba_ r122) rfl) rfl ?_)))))))))))))))))
      refine sE rfl (nl J ?_)
      rcases bt (decide ((aI_ r122).1 < 0)) with h128 | h128
      ·skip
       refine W_t h128 rfl (Rs fun K J => sE rfl (sE rfl (nl J (W_ret (af_ (ret2 rfl (.inr rfl) rfl rfl ?_))))))
       have hE : ((([] : List Rt), false) : (List Rt) × Bool) = (ay_ a b c) := by subst hr122; subst hr15; subst hr14; subst hr7; subst hr6; exact bif_t h3 (bif_t h12 (bif_f h13 (bif_f h16 (bif_f h85 (bif_t h128 rfl)))))
       rw [← hE]
       exact ⟨_, rfl, SLfe.nil⟩
      ·skip
       refine W_f h128 rfl (aj_ (J40 _ _ (Sq fun K41 J41 => Rs fun K J => sE rfl (sE rfl (nl J ?_)))))
       rcases bt (b.1 == 0) with h129 | h129
       ·skip
        refine W_t h129 rfl (Rs fun K J => sQ (qL ty_39 rfl (List.mem_append_right _ (List.mem_cons_of_mem _ (List.mem_cons_of_mem _ (List.mem_cons_of_mem _ (List.mem_cons_of_mem _ (List.mem_cons_of_mem _ (List.mem_cons_of_mem _ (List.mem_cons_of_mem _ (List.mem_cons_of_mem _ (List.mem_cons_of_mem _ (List.mem_cons_self))))))))))) rfl) rfl (WL_r rfl (b1_ [[pI r122.n, pI r122.d]] [pI r122.n, pI r122.d] us_43 z_39 sz_39 rfl (by decide) rfl rfl ⟨rfl, rfl, rfl, trivial⟩ rfl (fun b130 hb130 => sE rfl (sE rfl (nl J (W_ret (af_ (ret2 rfl (.inr rfl) rfl rfl ?_)))))))))
        have hE : (([r122], true) : (List Rt) × Bool) = (ay_ a b c) := by subst hr122; subst hr15; subst hr14; subst hr7; subst hr6; exact bif_t h3 (bif_t h12 (bif_f h13 (bif_f h16 (bif_f h85 (bif_f h128 (bif_t h129 rfl))))))
        rw [← hE]
        exact ⟨_, rfl, (SLfe.lit (e := elRt) (l := [r122]) hb130 m0 rfl (Nat.le_of_ble_eq_true rfl) rfl)⟩
       ·skip
        refine W_f h129 rfl (aj_ (J41 _ _ (ds sn [0,4,8,13,17] [4] mix (by kernel_rfl) (fun K J => pQ rfl (qL ty_39 rfl (List.mem_append_right _ (List.mem_cons_of_mem _ (List.mem_cons_of_mem _ (List.mem_cons_of_mem _ (List.mem_cons_of_mem _ (List.mem_cons_of_mem _ (List.mem_cons_of_mem _ (List.mem_cons_of_mem _ (List.mem_cons_of_mem _ (List.mem_cons_of_mem _ (List.mem_cons_self))))))))))) rfl) (pQ rfl (q_ret en_62 (cz_ (wl 2)) rfl) ?_)))))
        obtain ⟨r131, hr131⟩ := nm ((ab_ r122 (aa_ (wl 2))) : Rt)
        refine pC (AV [pI r131.n, pI r131.d]) en_57 (cE_ r122 (aa_ (wl 2))) rfl rfl (by rw [hr131]; first | done | rfl) ?_
        refine PL_o rfl rfl (bw_ zp_39 (fun b132 hb132 => ⟨(fun _ => sd s0), sn, oS [pI r131.n, pI r131.d] ty_39 rfl rfl rfl rfl rfl rfl (.head _) rfl hb132 rfl sn (fl J (ds sn [0,8,12,16,20,24,28,32,36,40,44,48,6,53,56,61] [13,15] mix (by kernel_rfl) (fun K J => pE rfl (pE rfl (pQ rfl (q_as (v' := .pointer (some (slb (.slice p124 ((([] : List Rt) ++ [(aa_ (wl 0)), (ab_ r14 r7.x)]) ++ [(aa_ (wl 0)), (aa_ (wl 0))]).length c125) (0 * 36 + 0)))) (cj_ (e := elRt) (l := ((([] : List Rt) ++ [(aa_ (wl 0)), (ab_ r14 r7.x)]) ++ [(aa_ (wl 0)), (aa_ (wl 0))])) (k := 0) sl_43 rfl rfl (SLfe.sle (OwnG.slfe hO127 (sd (List.sublist_append_left _ _)))) (by first | exact Nat.le_of_ble_eq_true rfl | omega)) rfl) ?_)))))⟩))
        refine pQ rfl (q_ldG (e := elRt) (l := ((([] : List Rt) ++ [(aa_ (wl 0)), (ab_ r14 r7.x)]) ++ [(aa_ (wl 0)), (aa_ (wl 0))])) (k := 0) (o := 0) ty_39 rfl (SLfe.sle (OwnG.slfe hO127 (sd (List.sublist_append_left _ _)))) (cs_ Rt0 (by first | exact Nat.le_of_ble_eq_true rfl | omega)) rfl) ?_
        refine pQ rfl (qL ty_39 rfl m0 rfl) ?_
        obtain ⟨r133, hr133⟩ := nm ((aB_ (((([] : List Rt) ++ [(aa_ (wl 0)), (ab_ r14 r7.x)]) ++ [(aa_ (wl 0)), (aa_ (wl 0))]).getD 0 Rt0) r131) : Rt)
        refine pC (AV [pI r133.n, pI r133.d]) en_66 (bp_ (((([] : List Rt) ++ [(aa_ (wl 0)), (ab_ r14 r7.x)]) ++ [(aa_ (wl 0)), (aa_ (wl 0))]).getD 0 Rt0) r131) rfl rfl (by rw [hr133]; first | done | rfl) ?_
        refine pE rfl (pQ rfl (q_as (v' := .pointer (some (slb (.slice p124 ((([] : List Rt) ++ [(aa_ (wl 0)), (ab_ r14 r7.x)]) ++ [(aa_ (wl 0)), (aa_ (wl 0))]).length c125) (1 * 36 + 0)))) (cj_ (e := elRt) (l := ((([] : List Rt) ++ [(aa_ (wl 0)), (ab_ r14 r7.x)]) ++ [(aa_ (wl 0)), (aa_ (wl 0))])) (k := 1) sl_43 rfl rfl (SLfe.sle (OwnG.slfe hO127 (sd (List.sublist_append_left _ _)))) (by first | exact Nat.le_of_ble_eq_true rfl | omega)) rfl) ?_)
        refine pQ rfl (q_ldG (e := elRt) (l := ((([] : List Rt) ++ [(aa_ (wl 0)), (ab_ r14 r7.x)]) ++ [(aa_ (wl 0)), (aa_ (wl 0))])) (k := 1) (o := 0) ty_39 rfl (SLfe.sle (OwnG.slfe hO127 (sd (List.sublist_append_left _ _)))) (cs_ Rt0 (by first | exact Nat.le_of_ble_eq_true rfl | omega)) rfl) ?_
        refine pQ rfl (qL ty_39 rfl m0 rfl) ?_
        obtain ⟨r134, hr134⟩ := nm ((aB_ (((([] : List Rt) ++ [(aa_ (wl 0)), (ab_ r14 r7.x)]) ++ [(aa_ (wl 0)), (aa_ (wl 0))]).getD 1 Rt0) r131) : Rt)
        refine pC (AV [pI r134.n, pI r134.d]) en_66 (bp_ (((([] : List Rt) ++ [(aa_ (wl 0)), (ab_ r14 r7.x)]) ++ [(aa_ (wl 0)), (aa_ (wl 0))]).getD 1 Rt0) r131) rfl rfl (by rw [hr134]; first | done | rfl) ?_
        refine pQ rfl (q_as (v' := .pointer (some (slb (.slice p124 ((([] : List Rt) ++ [(aa_ (wl 0)), (ab_ r14 r7.x)]) ++ [(aa_ (wl 0)), (aa_ (wl 0))]).length c125) (0 * 36 + 0)))) (cj_ (e := elRt) (l := ((([] : List Rt) ++ [(aa_ (wl 0)), (ab_ r14 r7.x)]) ++ [(aa_ (wl 0)), (aa_ (wl 0))])) (k := 0) sl_43 rfl rfl (SLfe.sle (OwnG.slfe hO127 (sd (List.sublist_append_left _ _)))) (by first | exact Nat.le_of_ble_eq_true rfl | omega)) rfl) ?_
        refine tE rfl (PL_o rfl rfl (dB_ (e := elRt) (l := ((([] : List Rt) ++ [(aa_ (wl 0)), (ab_ r14 r7.x)]) ++ [(aa_ (wl 0)), (aa_ (wl 0))])) (k := 0) (z := r133) ty_39 rfl rfl hO127 (Nat.le_of_ble_eq_true rfl) (fq_s fq_l) rfl rfl (fun L135 hO136 => ⟨nf, sn, ?_⟩)))
        refine pQ rfl (q_as (v' := .pointer (some (slb (.slice p124 ((([] : List Rt) ++ [(aa_ (wl 0)), (ab_ r14 r7.x)]) ++ [(aa_ (wl 0)), (aa_ (wl 0))]).length c125) (1 * 36 + 0)))) (cj_ (e := elRt) (l := (((([] : List Rt) ++ [(aa_ (wl 0)), (ab_ r14 r7.x)]) ++ [(aa_ (wl 0)), (aa_ (wl 0))]).set 0 r133)) (k := 1) sl_43 rfl rfl (SLfe.sle (OwnG.slfe hO136 (List.sublist_append_left _ _))) (by first | exact Nat.le_of_ble_eq_true rfl | omega)) rfl) ?_
        refine PL_o rfl rfl (dB_ (e := elRt) (l := (((([] : List Rt) ++ [(aa_ (wl 0)), (ab_ r14 r7.x)]) ++ [(aa_ (wl 0)), (aa_ (wl 0))]).set 0 r133)) (k := 1) (z := r134) ty_39 rfl rfl hO136 (Nat.le_of_ble_eq_true rfl) fq_l rfl rfl (fun L137 hO138 => ⟨nf, sn, ?_⟩))
        refine fl J (Rs fun K J => sE rfl (sE rfl (sE rfl (nl J (W_ret (ret2 rfl (.inr rfl) rfl rfl ?_))))))
        have hE : ((((((([] : List Rt) ++ [(aa_ (wl 0)), (ab_ r14 r7.x)]) ++ [(aa_ (wl 0)), (aa_ (wl 0))]).set 0 r133).set 1 r134), true) : (List Rt) × Bool) = (ay_ a b c) := by subst hr134; subst hr133; subst hr131; subst hr122; subst hr15; subst hr14; subst hr7; subst hr6; exact bif_t h3 (bif_t h12 (bif_f h13 (bif_f h16 (bif_f h85 (bif_f h128 (bif_f h129 rfl))))))
        rw [← hE]
        exact ⟨_, rfl, (OwnG.slfe hO138 (List.sublist_append_left _ _))⟩
  ·skip
   refine W_f h12 rfl (aj_ (J6 _ _ (Rs fun K J => sQ (qL ty_39 rfl m5 rfl) rfl (sQ (qL ty_39 rfl m0 rfl) rfl ?_))))
   obtain ⟨r139, hr139⟩ := nm ((a6_ (aq_ a c) (aa_ (wl 0))) : Rt)
   refine sC (AV [pI r139.n, pI r139.d]) en_65 (cD_ (aq_ a c) (aa_ (wl 0))) rfl rfl (by rw [hr139]; first | done | rfl) ?_
   refine sS [pI r139.n, pI r139.d] ty_39 rfl rfl rfl rfl rfl (.tail _ (.tail _ (.tail _ (.tail _ (.tail _ (.head _)))))) rfl hb4 (nl J (Rs fun K J => sQ (qL ty_39 rfl m1 rfl) rfl (sQ (q_ret en_63 (ba_ (aq_ r6.x c)) rfl) rfl (sE rfl (nl J (W_t (k4_ h12) rfl (Rk fun K J => sE rfl (sQ (qL ty_39 rfl m0 rfl) rfl (sQ (qL ty_39 rfl m4 rfl) rfl (WL_r rfl (b1_ [[pI ((aa_ (wl 0)).n), pI ((aa_ (wl 0)).d)], [pI ((aa_ (wl 0)).n), pI ((aa_ (wl 0)).d)]] [pI ((aa_ (wl 0)).n), pI ((aa_ (wl 0)).d), pI ((aa_ (wl 0)).n), pI ((aa_ (wl 0)).d)] us_43 z_39 sz_39 rfl (by decide) rfl rfl ⟨rfl, rfl, rfl, rfl, rfl, rfl, trivial⟩ rfl (fun b140 hb140 => ?_))))))))))))
   refine WL_r rfl (dL_ (e := elRt) (l := ([] : List Rt)) (m := [(aa_ (wl 0)), (aa_ (wl 0))]) 136 us_43 (by kernel_rfl) (by decide) rfl rfl OwnG.nil (SLe.lit (e := elRt) (l := [(aa_ (wl 0)), (aa_ (wl 0))]) m0 rfl (Nat.le_of_ble_eq_true rfl) rfl) fq_n (Nat.le_of_ble_eq_true rfl) (by decide) (fun p141 c142 L143 hO144 => ?_))
   refine sE rfl (nl J (J5 _ _ (Rk fun K J => sV (.int .i64 1) rfl rfl (sE rfl (nl J (J3 _ _ (Un_s (fun K42 J42 => Rs fun K J => sV (.bool true) rfl rfl (nl J (Sq fun K43 J43 => bQ_ rfl (aj_ (J43 _ _ (Sq fun K44 J44 => ao_ (Rs fun K J => sE rfl ?_))))))))))))))
   refine sE rfl (nl J (Rs fun K J => sE rfl (sE rfl (sQ (qA ar_74 rfl rfl rfl) rfl (sQ (qL ty_23 rfl (List.mem_append_right _ (List.mem_cons_of_mem _ (List.mem_cons_of_mem _ (List.mem_cons_of_mem _ (List.mem_cons_of_mem _ (List.mem_cons_self)))))) rfl) rfl (sQ (ip_ en_56 rfl rfl (fun w hw => d6_ r6.y c _ _ w (hw.mem _ (List.mem_append_right _ (List.mem_cons_of_mem _ (List.mem_cons_of_mem _ (List.mem_cons_of_mem _ (List.mem_cons_of_mem _ (List.mem_cons_of_mem _ (List.mem_cons_of_mem _ (List.mem_cons_of_mem _ (List.mem_cons_self)))))))))))) rfl (sN zp_39 rfl fun b145 hb145 => sS [pI ((aq_ r6.y c).n), pI ((aq_ r6.y c).d)] ty_39 rfl rfl rfl rfl rfl (.head _) rfl hb145 (nl J (Rs fun K J => sQ (qL ty_39 rfl (List.mem_cons_of_mem _ (List.mem_append_right _ (List.mem_cons_of_mem _ (List.mem_cons_of_mem _ (List.mem_cons_of_mem _ (List.mem_cons_of_mem _ (List.mem_cons_of_mem _ (List.mem_cons_self)))))))) rfl) rfl (sN zp_39 rfl fun b146 hb146 => sS [pI ((aa_ (wl 0)).n), pI ((aa_ (wl 0)).d)] ty_39 rfl rfl rfl rfl rfl (.head _) rfl hb146 ?_))))))))))
   refine nl J (Sq fun K45 J45 => Rs fun K J => sQ (qL ty_39 rfl m1 rfl) rfl (sQ (q_ret en_63 (ba_ (aq_ r6.y c)) rfl) rfl (sE rfl (nl J ?_))))
   rcases bt ((aI_ (aq_ r6.y c)).1 != 0) with h147 | h147
   ·skip
    refine W_t h147 rfl (Sq fun K46 J46 => Rs fun K J => sE rfl (sQ (qA ar_75 rfl rfl rfl) rfl (sQ (qL ty_39 rfl (List.mem_cons_of_mem _ (List.mem_cons_of_mem _ (List.mem_append_right _ (List.mem_cons_of_mem _ (List.mem_cons_of_mem _ (List.mem_cons_of_mem _ (List.mem_cons_self))))))) rfl) rfl (sQ (q_ret en_63 (ba_ r7.y) rfl) rfl (sE rfl (nl J ?_))))))
    rcases bt ((aI_ r7.y).1 == 0) with h148 | h148
    ·skip
     refine W_t h148 rfl (Rs fun K J => sE rfl (sE rfl (nl J (W_ret (af_ (af_ (aH_ (af_ (af_ (aH_ (af_ (ret2 rfl (.inr rfl) rfl rfl ?_))))))))))))
     have hE : ((([] : List Rt), false) : (List Rt) × Bool) = (ay_ a b c) := by subst hr139; subst hr7; subst hr6; exact bif_t h3 (bif_f h12 (bif_t h147 (bif_t h148 rfl)))
     rw [← hE]
     exact ⟨_, rfl, SLfe.nil⟩
    ·skip
     refine W_f h148 rfl (aj_ (J46 _ _ (dr sn [0,4,8,12,16,20,25] [6] mix (by kernel_rfl) (fun K J => pQ rfl (qL ty_39 rfl m1 rfl) ?_))))
     obtain ⟨r149, hr149⟩ := nm ((c9_ (aq_ r6.y c)) : Rt)
     refine pC (AV [pI r149.n, pI r149.d]) en_64 (ft_ (aq_ r6.y c)) rfl rfl (by rw [hr149]; first | done | rfl) (pE rfl (pQ rfl (qA ar_75 rfl rfl rfl) (pQ rfl (qL ty_39 rfl (List.mem_cons_of_mem _ (List.mem_cons_of_mem _ (List.mem_append_right _ (List.mem_cons_of_mem _ (List.mem_cons_of_mem _ (List.mem_cons_of_mem _ (List.mem_cons_self))))))) rfl) (pQ rfl (q_ret en_57 (cE_ r149 r7.y) rfl) (oS [pI ((ab_ r149 r7.y).n), pI ((ab_ r149 r7.y).d)] ty_39 rfl rfl rfl rfl rfl rfl (.head _) rfl hb146 rfl sn (fl J (J45 _ _ (Rs fun K J => sQ (qL ty_39 rfl (List.mem_cons_of_mem _ (List.mem_cons_of_mem _ (List.mem_append_right _ (List.mem_cons_of_mem _ (List.mem_cons_of_mem _ (List.mem_cons_of_mem _ (List.mem_cons_of_mem _ (List.mem_cons_of_mem _ (List.mem_cons_of_mem _ (List.mem_cons_self)))))))))) rfl) rfl (sQ (qL ty_39 rfl m0 rfl) rfl ?_)))))))))
     obtain ⟨r150, hr150⟩ := nm ((a6_ r139 (ab_ r149 r7.y)) : Rt)
     refine sC (AV [pI r150.n, pI r150.d]) en_65 (cD_ r139 (ab_ r149 r7.y)) rfl rfl (by rw [hr150]; first | done | rfl) (sS [pI r150.n, pI r150.d] ty_39 rfl rfl rfl rfl rfl (.tail _ (.tail _ (Upd.left (.tail _ (.tail _ (.tail _ (.tail _ (.tail _ (.tail _ (.head _))))))) _))) rfl hb4 (nl J (Rs fun K J => sQ (qL ty_39 rfl m1 rfl) rfl (sQ (q_ret en_63 (ba_ (aq_ r6.y c)) rfl) rfl (sE rfl (nl J ?_))))))
     rcases bt (decide (0 ≤ (aI_ (aq_ r6.y c)).1)) with h151 | h151
     ·skip
      refine W_t h151 rfl (Rk fun K J => sE rfl (sQ (qL ty_39 rfl m0 rfl) rfl (sQ (qL ty_39 rfl (List.mem_cons_of_mem _ (List.mem_cons_of_mem _ (List.mem_append_right _ (List.mem_cons_of_mem _ (List.mem_cons_of_mem _ (List.mem_cons_of_mem _ (List.mem_cons_of_mem _ (List.mem_cons_of_mem _ (List.mem_cons_self))))))))) rfl) rfl (WL_r rfl (b1_ [[pI ((ab_ r149 r7.y).n), pI ((ab_ r149 r7.y).d)], [pI ((aa_ (wl 0)).n), pI ((aa_ (wl 0)).d)]] [pI ((ab_ r149 r7.y).n), pI ((ab_ r149 r7.y).d), pI ((aa_ (wl 0)).n), pI ((aa_ (wl 0)).d)] us_43 z_39 sz_39 rfl (by decide) rfl rfl ⟨rfl, rfl, rfl, rfl, rfl, rfl, trivial⟩ rfl (fun b152 hb152 => ?_))))))
      refine WL_r rfl (dL_ (e := elRt) (l := (([] : List Rt) ++ [(aa_ (wl 0)), (aa_ (wl 0))])) (m := [(ab_ r149 r7.y), (aa_ (wl 0))]) 136 us_43 (by kernel_rfl) (by decide) rfl rfl hO144 (SLe.lit (e := elRt) (l := [(ab_ r149 r7.y), (aa_ (wl 0))]) m0 rfl (Nat.le_of_ble_eq_true rfl) rfl) (fq_s (fq_s (fq_s fq_l))) (Nat.le_of_ble_eq_true rfl) (by decide) (fun p153 c154 L155 hO156 => ?_))
      refine sE rfl (nl J (J44 _ _ (Rk fun K J => sV (.int .i64 2) rfl rfl (sE rfl (nl J (J42 _ _ (Un_s (fun K47 J47 => Rs fun K J => sV (.bool false) rfl rfl (nl J (Sq fun K48 J48 => bU_ rfl (bG_ (aw_ (aw_ (aC_ (J2 _ _ (Sq fun K49 J49 => Rs fun K J => sQ (qL ty_39 rfl (List.mem_append_right _ (List.mem_cons_of_mem _ (List.mem_cons_of_mem _ (List.mem_cons_of_mem _ (List.mem_cons_of_mem _ (List.mem_cons_of_mem _ (List.mem_cons_of_mem _ (List.mem_cons_of_mem _ (List.mem_cons_of_mem _ (List.mem_cons_of_mem _ (List.mem_cons_self))))))))))) rfl) rfl (sQ (q_ret en_63 (ba_ r150) rfl) rfl ?_)))))))))))))))))
      refine sE rfl (nl J ?_)
      rcases bt (decide ((aI_ r150).1 < 0)) with h157 | h157
      ·skip
       refine W_t h157 rfl (Rs fun K J => sE rfl (sE rfl (nl J (W_ret (af_ (ret2 rfl (.inr rfl) rfl rfl ?_))))))
       have hE : ((([] : List Rt), false) : (List Rt) × Bool) = (ay_ a b c) := by subst hr150; subst hr149; subst hr139; subst hr7; subst hr6; exact bif_t h3 (bif_f h12 (bif_t h147 (bif_f h148 (bif_t h151 (bif_t h157 rfl)))))
       rw [← hE]
       exact ⟨_, rfl, SLfe.nil⟩
      ·skip
       refine W_f h157 rfl (aj_ (J49 _ _ (Sq fun K50 J50 => Rs fun K J => sE rfl (sE rfl (nl J ?_)))))
       rcases bt (b.1 == 0) with h158 | h158
       ·skip
        refine W_t h158 rfl (Rs fun K J => sQ (qL ty_39 rfl (List.mem_append_right _ (List.mem_cons_of_mem _ (List.mem_cons_of_mem _ (List.mem_cons_of_mem _ (List.mem_cons_of_mem _ (List.mem_cons_of_mem _ (List.mem_cons_of_mem _ (List.mem_cons_of_mem _ (List.mem_cons_of_mem _ (List.mem_cons_of_mem _ (List.mem_cons_self))))))))))) rfl) rfl (WL_r rfl (b1_ [[pI r150.n, pI r150.d]] [pI r150.n, pI r150.d] us_43 z_39 sz_39 rfl (by decide) rfl rfl ⟨rfl, rfl, rfl, trivial⟩ rfl (fun b159 hb159 => sE rfl (sE rfl (nl J (W_ret (af_ (ret2 rfl (.inr rfl) rfl rfl ?_)))))))))
        have hE : (([r150], true) : (List Rt) × Bool) = (ay_ a b c) := by subst hr150; subst hr149; subst hr139; subst hr7; subst hr6; exact bif_t h3 (bif_f h12 (bif_t h147 (bif_f h148 (bif_t h151 (bif_f h157 (bif_t h158 rfl))))))
        rw [← hE]
        exact ⟨_, rfl, (SLfe.lit (e := elRt) (l := [r150]) hb159 m0 rfl (Nat.le_of_ble_eq_true rfl) rfl)⟩
       ·skip
        refine W_f h158 rfl (aj_ (J50 _ _ (ds sn [0,4,8,13,17] [4] mix (by kernel_rfl) (fun K J => pQ rfl (qL ty_39 rfl (List.mem_append_right _ (List.mem_cons_of_mem _ (List.mem_cons_of_mem _ (List.mem_cons_of_mem _ (List.mem_cons_of_mem _ (List.mem_cons_of_mem _ (List.mem_cons_of_mem _ (List.mem_cons_of_mem _ (List.mem_cons_of_mem _ (List.mem_cons_of_mem _ (List.mem_cons_self))))))))))) rfl) (pQ rfl (q_ret en_62 (cz_ (wl 2)) rfl) ?_)))))
        obtain ⟨r160, hr160⟩ := nm ((ab_ r150 (aa_ (wl 2))) : Rt)
        refine pC (AV [pI r160.n, pI r160.d]) en_57 (cE_ r150 (aa_ (wl 2))) rfl rfl (by rw [hr160]; first | done | rfl) ?_
        refine PL_o rfl rfl (bw_ zp_39 (fun b161 hb161 => ⟨(fun _ => sd s0), sn, oS [pI r160.n, pI r160.d] ty_39 rfl rfl rfl rfl rfl rfl (.head _) rfl hb161 rfl sn (fl J (ds sn [0,8,12,16,20,24,28,32,36,40,44,48,6,53,56,61] [13,15] mix (by kernel_rfl) (fun K J => pE rfl (pE rfl (pQ rfl (q_as (v' := .pointer (some (slb (.slice p153 ((([] : List Rt) ++ [(aa_ (wl 0)), (aa_ (wl 0))]) ++ [(ab_ r149 r7.y), (aa_ (wl 0))]).length c154) (0 * 36 + 0)))) (cj_ (e := elRt) (l := ((([] : List Rt) ++ [(aa_ (wl 0)), (aa_ (wl 0))]) ++ [(ab_ r149 r7.y), (aa_ (wl 0))])) (k := 0) sl_43 rfl rfl (SLfe.sle (OwnG.slfe hO156 (sd (List.sublist_append_left _ _)))) (by first | exact Nat.le_of_ble_eq_true rfl | omega)) rfl) ?_)))))⟩))
        refine pQ rfl (q_ldG (e := elRt) (l := ((([] : List Rt) ++ [(aa_ (wl 0)), (aa_ (wl 0))]) ++ [(ab_ r149 r7.y), (aa_ (wl 0))])) (k := 0) (o := 0) ty_39 rfl (SLfe.sle (OwnG.slfe hO156 (sd (List.sublist_append_left _ _)))) (cs_ Rt0 (by first | exact Nat.le_of_ble_eq_true rfl | omega)) rfl) ?_
        refine pQ rfl (qL ty_39 rfl m0 rfl) ?_
        obtain ⟨r162, hr162⟩ := nm ((aB_ (((([] : List Rt) ++ [(aa_ (wl 0)), (aa_ (wl 0))]) ++ [(ab_ r149 r7.y), (aa_ (wl 0))]).getD 0 Rt0) r160) : Rt)
        refine pC (AV [pI r162.n, pI r162.d]) en_66 (bp_ (((([] : List Rt) ++ [(aa_ (wl 0)), (aa_ (wl 0))]) ++ [(ab_ r149 r7.y), (aa_ (wl 0))]).getD 0 Rt0) r160) rfl rfl (by rw [hr162]; first | done | rfl) ?_
        refine pE rfl (pQ rfl (q_as (v' := .pointer (some (slb (.slice p153 ((([] : List Rt) ++ [(aa_ (wl 0)), (aa_ (wl 0))]) ++ [(ab_ r149 r7.y), (aa_ (wl 0))]).length c154) (1 * 36 + 0)))) (cj_ (e := elRt) (l := ((([] : List Rt) ++ [(aa_ (wl 0)), (aa_ (wl 0))]) ++ [(ab_ r149 r7.y), (aa_ (wl 0))])) (k := 1) sl_43 rfl rfl (SLfe.sle (OwnG.slfe hO156 (sd (List.sublist_append_left _ _)))) (by first | exact Nat.le_of_ble_eq_true rfl | omega)) rfl) ?_)
        refine pQ rfl (q_ldG (e := elRt) (l := ((([] : List Rt) ++ [(aa_ (wl 0)), (aa_ (wl 0))]) ++ [(ab_ r149 r7.y), (aa_ (wl 0))])) (k := 1) (o := 0) ty_39 rfl (SLfe.sle (OwnG.slfe hO156 (sd (List.sublist_append_left _ _)))) (cs_ Rt0 (by first | exact Nat.le_of_ble_eq_true rfl | omega)) rfl) ?_
        refine pQ rfl (qL ty_39 rfl m0 rfl) ?_
        obtain ⟨r163, hr163⟩ := nm ((aB_ (((([] : List Rt) ++ [(aa_ (wl 0)), (aa_ (wl 0))]) ++ [(ab_ r149 r7.y), (aa_ (wl 0))]).getD 1 Rt0) r160) : Rt)
        refine pC (AV [pI r163.n, pI r163.d]) en_66 (bp_ (((([] : List Rt) ++ [(aa_ (wl 0)), (aa_ (wl 0))]) ++ [(ab_ r149 r7.y), (aa_ (wl 0))]).getD 1 Rt0) r160) rfl rfl (by rw [hr163]; first | done | rfl) ?_
        refine pQ rfl (q_as (v' := .pointer (some (slb (.slice p153 ((([] : List Rt) ++ [(aa_ (wl 0)), (aa_ (wl 0))]) ++ [(ab_ r149 r7.y), (aa_ (wl 0))]).length c154) (0 * 36 + 0)))) (cj_ (e := elRt) (l := ((([] : List Rt) ++ [(aa_ (wl 0)), (aa_ (wl 0))]) ++ [(ab_ r149 r7.y), (aa_ (wl 0))])) (k := 0) sl_43 rfl rfl (SLfe.sle (OwnG.slfe hO156 (sd (List.sublist_append_left _ _)))) (by first | exact Nat.le_of_ble_eq_true rfl | omega)) rfl) ?_
        refine tE rfl (PL_o rfl rfl (dB_ (e := elRt) (l := ((([] : List Rt) ++ [(aa_ (wl 0)), (aa_ (wl 0))]) ++ [(ab_ r149 r7.y), (aa_ (wl 0))])) (k := 0) (z := r162) ty_39 rfl rfl hO156 (Nat.le_of_ble_eq_true rfl) (fq_s fq_l) rfl rfl (fun L164 hO165 => ⟨nf, sn, ?_⟩)))
        refine pQ rfl (q_as (v' := .pointer (some (slb (.slice p153 ((([] : List Rt) ++ [(aa_ (wl 0)), (aa_ (wl 0))]) ++ [(ab_ r149 r7.y), (aa_ (wl 0))]).length c154) (1 * 36 + 0)))) (cj_ (e := elRt) (l := (((([] : List Rt) ++ [(aa_ (wl 0)), (aa_ (wl 0))]) ++ [(ab_ r149 r7.y), (aa_ (wl 0))]).set 0 r162)) (k := 1) sl_43 rfl rfl (SLfe.sle (OwnG.slfe hO165 (List.sublist_append_left _ _))) (by first | exact Nat.le_of_ble_eq_true rfl | omega)) rfl) ?_
        refine PL_o rfl rfl (dB_ (e := elRt) (l := (((([] : List Rt) ++ [(aa_ (wl 0)), (aa_ (wl 0))]) ++ [(ab_ r149 r7.y), (aa_ (wl 0))]).set 0 r162)) (k := 1) (z := r163) ty_39 rfl rfl hO165 (Nat.le_of_ble_eq_true rfl) fq_l rfl rfl (fun L166 hO167 => ⟨nf, sn, ?_⟩))
        refine fl J (Rs fun K J => sE rfl (sE rfl (sE rfl (nl J (W_ret (ret2 rfl (.inr rfl) rfl rfl ?_))))))
        have hE : ((((((([] : List Rt) ++ [(aa_ (wl 0)), (aa_ (wl 0))]) ++ [(ab_ r149 r7.y), (aa_ (wl 0))]).set 0 r162).set 1 r163), true) : (List Rt) × Bool) = (ay_ a b c) := by subst hr163; subst hr162; subst hr160; subst hr150; subst hr149; subst hr139; subst hr7; subst hr6; exact bif_t h3 (bif_f h12 (bif_t h147 (bif_f h148 (bif_t h151 (bif_f h157 (bif_f h158 rfl))))))
        rw [← hE]
        exact ⟨_, rfl, (OwnG.slfe hO167 (List.sublist_append_left _ _))⟩
     ·skip
      refine W_f h151 rfl (Rk fun K J => sE rfl (sQ (qL ty_39 rfl (List.mem_cons_of_mem _ (List.mem_cons_of_mem _ (List.mem_append_right _ (List.mem_cons_of_mem _ (List.mem_cons_of_mem _ (List.mem_cons_of_mem _ (List.mem_cons_of_mem _ (List.mem_cons_of_mem _ (List.mem_cons_self))))))))) rfl) rfl (sQ (qL ty_39 rfl m0 rfl) rfl (WL_r rfl (b1_ [[pI ((aa_ (wl 0)).n), pI ((aa_ (wl 0)).d)], [pI ((ab_ r149 r7.y).n), pI ((ab_ r149 r7.y).d)]] [pI ((aa_ (wl 0)).n), pI ((aa_ (wl 0)).d), pI ((ab_ r149 r7.y).n), pI ((ab_ r149 r7.y).d)] us_43 z_39 sz_39 rfl (by decide) rfl rfl ⟨rfl, rfl, rfl, rfl, rfl, rfl, trivial⟩ rfl (fun b168 hb168 => ?_))))))
      refine WL_r rfl (dL_ (e := elRt) (l := (([] : List Rt) ++ [(aa_ (wl 0)), (aa_ (wl 0))])) (m := [(aa_ (wl 0)), (ab_ r149 r7.y)]) 136 us_43 (by kernel_rfl) (by decide) rfl rfl hO144 (SLe.lit (e := elRt) (l := [(aa_ (wl 0)), (ab_ r149 r7.y)]) m0 rfl (Nat.le_of_ble_eq_true rfl) rfl) (fq_s (fq_s (fq_s fq_l))) (Nat.le_of_ble_eq_true rfl) (by decide) (fun p169 c170 L171 hO172 => ?_))
      refine sE rfl (nl J (J44 _ _ (Rk fun K J => sV (.int .i64 2) rfl rfl (sE rfl (nl J (J42 _ _ (Un_s (fun K51 J51 => Rs fun K J => sV (.bool false) rfl rfl (nl J (Sq fun K52 J52 => bU_ rfl (bG_ (aw_ (aw_ (aC_ (J2 _ _ (Sq fun K53 J53 => Rs fun K J => sQ (qL ty_39 rfl (List.mem_append_right _ (List.mem_cons_of_mem _ (List.mem_cons_of_mem _ (List.mem_cons_of_mem _ (List.mem_cons_of_mem _ (List.mem_cons_of_mem _ (List.mem_cons_of_mem _ (List.mem_cons_of_mem _ (List.mem_cons_of_mem _ (List.mem_cons_of_mem _ (List.mem_cons_self))))))))))) rfl) rfl (sQ (q_ret en_63 (ba_ r150) rfl) rfl ?_)))))))))))))))))
      refine sE rfl (nl J ?_)
      rcases bt (decide ((aI_ r150).1 < 0)) with h173 | h173
      ·skip
       refine W_t h173 rfl (Rs fun K J => sE rfl (sE rfl (nl J (W_ret (af_ (ret2 rfl (.inr rfl) rfl rfl ?_))))))
       have hE : ((([] : List Rt), false) : (List Rt) × Bool) = (ay_ a b c) := by subst hr150; subst hr149; subst hr139; subst hr7; subst hr6; exact bif_t h3 (bif_f h12 (bif_t h147 (bif_f h148 (bif_f h151 (bif_t h173 rfl)))))
       rw [← hE]
       exact ⟨_, rfl, SLfe.nil⟩
      ·skip
       refine W_f h173 rfl (aj_ (J53 _ _ (Sq fun K54 J54 => Rs fun K J => sE rfl (sE rfl (nl J ?_)))))
       rcases bt (b.1 == 0) with h174 | h174
       ·skip
        refine W_t h174 rfl (Rs fun K J => sQ (qL ty_39 rfl (List.mem_append_right _ (List.mem_cons_of_mem _ (List.mem_cons_of_mem _ (List.mem_cons_of_mem _ (List.mem_cons_of_mem _ (List.mem_cons_of_mem _ (List.mem_cons_of_mem _ (List.mem_cons_of_mem _ (List.mem_cons_of_mem _ (List.mem_cons_of_mem _ (List.mem_cons_self))))))))))) rfl) rfl (WL_r rfl (b1_ [[pI r150.n, pI r150.d]] [pI r150.n, pI r150.d] us_43 z_39 sz_39 rfl (by decide) rfl rfl ⟨rfl, rfl, rfl, trivial⟩ rfl (fun b175 hb175 => sE rfl (sE rfl (nl J (W_ret (af_ (ret2 rfl (.inr rfl) rfl rfl ?_)))))))))
        have hE : (([r150], true) : (List Rt) × Bool) = (ay_ a b c) := by subst hr150; subst hr149; subst hr139; subst hr7; subst hr6; exact bif_t h3 (bif_f h12 (bif_t h147 (bif_f h148 (bif_f h151 (bif_f h173 (bif_t h174 rfl))))))
        rw [← hE]
        exact ⟨_, rfl, (SLfe.lit (e := elRt) (l := [r150]) hb175 m0 rfl (Nat.le_of_ble_eq_true rfl) rfl)⟩
       ·skip
        refine W_f h174 rfl (aj_ (J54 _ _ (ds sn [0,4,8,13,17] [4] mix (by kernel_rfl) (fun K J => pQ rfl (qL ty_39 rfl (List.mem_append_right _ (List.mem_cons_of_mem _ (List.mem_cons_of_mem _ (List.mem_cons_of_mem _ (List.mem_cons_of_mem _ (List.mem_cons_of_mem _ (List.mem_cons_of_mem _ (List.mem_cons_of_mem _ (List.mem_cons_of_mem _ (List.mem_cons_of_mem _ (List.mem_cons_self))))))))))) rfl) (pQ rfl (q_ret en_62 (cz_ (wl 2)) rfl) ?_)))))
        obtain ⟨r176, hr176⟩ := nm ((ab_ r150 (aa_ (wl 2))) : Rt)
        refine pC (AV [pI r176.n, pI r176.d]) en_57 (cE_ r150 (aa_ (wl 2))) rfl rfl (by rw [hr176]; first | done | rfl) ?_
        refine PL_o rfl rfl (bw_ zp_39 (fun b177 hb177 => ⟨(fun _ => sd s0), sn, oS [pI r176.n, pI r176.d] ty_39 rfl rfl rfl rfl rfl rfl (.head _) rfl hb177 rfl sn (fl J (ds sn [0,8,12,16,20,24,28,32,36,40,44,48,6,53,56,61] [13,15] mix (by kernel_rfl) (fun K J => pE rfl (pE rfl (pQ rfl (q_as (v' := .pointer (some (slb (.slice p169 ((([] : List Rt) ++ [(aa_ (wl 0)), (aa_ (wl 0))]) ++ [(aa_ (wl 0)), (ab_ r149 r7.y)]).length c170) (0 * 36 + 0)))) (cj_ (e := elRt) (l := ((([] : List Rt) ++ [(aa_ (wl 0)), (aa_ (wl 0))]) ++ [(aa_ (wl 0)), (ab_ r149 r7.y)])) (k := 0) sl_43 rfl rfl (SLfe.sle (OwnG.slfe hO172 (sd (List.sublist_append_left _ _)))) (by first | exact Nat.le_of_ble_eq_true rfl | omega)) rfl) ?_)))))⟩))
        refine pQ rfl (q_ldG (e := elRt) (l := ((([] : List Rt) ++ [(aa_ (wl 0)), (aa_ (wl 0))]) ++ [(aa_ (wl 0)), (ab_ r149 r7.y)])) (k := 0) (o := 0) ty_39 rfl (SLfe.sle (OwnG.slfe hO172 (sd (List.sublist_append_left _ _)))) (cs_ Rt0 (by first | exact Nat.le_of_ble_eq_true rfl | omega)) rfl) ?_
        refine pQ rfl (qL ty_39 rfl m0 rfl) ?_
        obtain ⟨r178, hr178⟩ := nm ((aB_ (((([] : List Rt) ++ [(aa_ (wl 0)), (aa_ (wl 0))]) ++ [(aa_ (wl 0)), (ab_ r149 r7.y)]).getD 0 Rt0) r176) : Rt)
        refine pC (AV [pI r178.n, pI r178.d]) en_66 (bp_ (((([] : List Rt) ++ [(aa_ (wl 0)), (aa_ (wl 0))]) ++ [(aa_ (wl 0)), (ab_ r149 r7.y)]).getD 0 Rt0) r176) rfl rfl (by rw [hr178]; first | done | rfl) ?_
        refine pE rfl (pQ rfl (q_as (v' := .pointer (some (slb (.slice p169 ((([] : List Rt) ++ [(aa_ (wl 0)), (aa_ (wl 0))]) ++ [(aa_ (wl 0)), (ab_ r149 r7.y)]).length c170) (1 * 36 + 0)))) (cj_ (e := elRt) (l := ((([] : List Rt) ++ [(aa_ (wl 0)), (aa_ (wl 0))]) ++ [(aa_ (wl 0)), (ab_ r149 r7.y)])) (k := 1) sl_43 rfl rfl (SLfe.sle (OwnG.slfe hO172 (sd (List.sublist_append_left _ _)))) (by first | exact Nat.le_of_ble_eq_true rfl | omega)) rfl) ?_)
        refine pQ rfl (q_ldG (e := elRt) (l := ((([] : List Rt) ++ [(aa_ (wl 0)), (aa_ (wl 0))]) ++ [(aa_ (wl 0)), (ab_ r149 r7.y)])) (k := 1) (o := 0) ty_39 rfl (SLfe.sle (OwnG.slfe hO172 (sd (List.sublist_append_left _ _)))) (cs_ Rt0 (by first | exact Nat.le_of_ble_eq_true rfl | omega)) rfl) ?_
        refine pQ rfl (qL ty_39 rfl m0 rfl) ?_
        obtain ⟨r179, hr179⟩ := nm ((aB_ (((([] : List Rt) ++ [(aa_ (wl 0)), (aa_ (wl 0))]) ++ [(aa_ (wl 0)), (ab_ r149 r7.y)]).getD 1 Rt0) r176) : Rt)
        refine pC (AV [pI r179.n, pI r179.d]) en_66 (bp_ (((([] : List Rt) ++ [(aa_ (wl 0)), (aa_ (wl 0))]) ++ [(aa_ (wl 0)), (ab_ r149 r7.y)]).getD 1 Rt0) r176) rfl rfl (by rw [hr179]; first | done | rfl) ?_
        refine pQ rfl (q_as (v' := .pointer (some (slb (.slice p169 ((([] : List Rt) ++ [(aa_ (wl 0)), (aa_ (wl 0))]) ++ [(aa_ (wl 0)), (ab_ r149 r7.y)]).length c170) (0 * 36 + 0)))) (cj_ (e := elRt) (l := ((([] : List Rt) ++ [(aa_ (wl 0)), (aa_ (wl 0))]) ++ [(aa_ (wl 0)), (ab_ r149 r7.y)])) (k := 0) sl_43 rfl rfl (SLfe.sle (OwnG.slfe hO172 (sd (List.sublist_append_left _ _)))) (by first | exact Nat.le_of_ble_eq_true rfl | omega)) rfl) ?_
        refine tE rfl (PL_o rfl rfl (dB_ (e := elRt) (l := ((([] : List Rt) ++ [(aa_ (wl 0)), (aa_ (wl 0))]) ++ [(aa_ (wl 0)), (ab_ r149 r7.y)])) (k := 0) (z := r178) ty_39 rfl rfl hO172 (Nat.le_of_ble_eq_true rfl) (fq_s fq_l) rfl rfl (fun L180 hO181 => ⟨nf, sn, ?_⟩)))
        refine pQ rfl (q_as (v' := .pointer (some (slb (.slice p169 ((([] : List Rt) ++ [(aa_ (wl 0)), (aa_ (wl 0))]) ++ [(aa_ (wl 0)), (ab_ r149 r7.y)]).length c170) (1 * 36 + 0)))) (cj_ (e := elRt) (l := (((([] : List Rt) ++ [(aa_ (wl 0)), (aa_ (wl 0))]) ++ [(aa_ (wl 0)), (ab_ r149 r7.y)]).set 0 r178)) (k := 1) sl_43 rfl rfl (SLfe.sle (OwnG.slfe hO181 (List.sublist_append_left _ _))) (by first | exact Nat.le_of_ble_eq_true rfl | omega)) rfl) ?_
        refine PL_o rfl rfl (dB_ (e := elRt) (l := (((([] : List Rt) ++ [(aa_ (wl 0)), (aa_ (wl 0))]) ++ [(aa_ (wl 0)), (ab_ r149 r7.y)]).set 0 r178)) (k := 1) (z := r179) ty_39 rfl rfl hO181 (Nat.le_of_ble_eq_true rfl) fq_l rfl rfl (fun L182 hO183 => ⟨nf, sn, ?_⟩))
        refine fl J (Rs fun K J => sE rfl (sE rfl (sE rfl (nl J (W_ret (ret2 rfl (.inr rfl) rfl rfl ?_))))))
        have hE : ((((((([] : List Rt) ++ [(aa_ (wl 0)), (aa_ (wl 0))]) ++ [(aa_ (wl 0)), (ab_ r149 r7.y)]).set 0 r178).set 1 r179), true) : (List Rt) × Bool) = (ay_ a b c) := by subst hr179; subst hr178; subst hr176; subst hr150; subst hr149; subst hr139; subst hr7; subst hr6; exact bif_t h3 (bif_f h12 (bif_t h147 (bif_f h148 (bif_f h151 (bif_f h173 (bif_f h174 rfl))))))
        rw [← hE]
        exact ⟨_, rfl, (OwnG.slfe hO183 (List.sublist_append_left _ _))⟩
   ·skip
    refine W_f h147 rfl (aj_ (J45 _ _ (Rs fun K J => sQ (qL ty_39 rfl (List.mem_cons_of_mem _ (List.mem_cons_of_mem _ (List.mem_append_right _ (List.mem_cons_of_mem _ (List.mem_cons_of_mem _ (List.mem_cons_of_mem _ (List.mem_cons_of_mem _ (List.mem_cons_of_mem _ (List.mem_cons_of_mem _ (List.mem_cons_self)))))))))) rfl) rfl (sQ (qL ty_39 rfl m0 rfl) rfl ?_))))
    obtain ⟨r184, hr184⟩ := nm ((a6_ r139 (aa_ (wl 0))) : Rt)
    refine sC (AV [pI r184.n, pI r184.d]) en_65 (cD_ r139 (aa_ (wl 0))) rfl rfl (by rw [hr184]; first | done | rfl) ?_
    refine sS [pI r184.n, pI r184.d] ty_39 rfl rfl rfl rfl rfl (.tail _ (.tail _ (Upd.left (.tail _ (.tail _ (.tail _ (.tail _ (.tail _ (.tail _ (.head _))))))) _))) rfl hb4 (nl J (Rs fun K J => sQ (qL ty_39 rfl m1 rfl) rfl (sQ (q_ret en_63 (ba_ (aq_ r6.y c)) rfl) rfl (sE rfl (nl J (W_t (k4_ h147) rfl (Rk fun K J => sE rfl (sQ (qL ty_39 rfl m0 rfl) rfl (sQ (qL ty_39 rfl (List.mem_cons_of_mem _ (List.mem_cons_of_mem _ (List.mem_append_right _ (List.mem_cons_of_mem _ (List.mem_cons_of_mem _ (List.mem_cons_of_mem _ (List.mem_cons_of_mem _ (List.mem_cons_of_mem _ (List.mem_cons_self))))))))) rfl) rfl (WL_r rfl (b1_ [[pI ((aa_ (wl 0)).n), pI ((aa_ (wl 0)).d)], [pI ((aa_ (wl 0)).n), pI ((aa_ (wl 0)).d)]] [pI ((aa_ (wl 0)).n), pI ((aa_ (wl 0)).d), pI ((aa_ (wl 0)).n), pI ((aa_ (wl 0)).d)] us_43 z_39 sz_39 rfl (by decide) rfl rfl ⟨rfl, rfl, rfl, rfl, rfl, rfl, trivial⟩ rfl (fun b185 hb185 => ?_))))))))))))
    refine WL_r rfl (dL_ (e := elRt) (l := (([] : List Rt) ++ [(aa_ (wl 0)), (aa_ (wl 0))])) (m := [(aa_ (wl 0)), (aa_ (wl 0))]) 136 us_43 (by kernel_rfl) (by decide) rfl rfl hO144 (SLe.lit (e := elRt) (l := [(aa_ (wl 0)), (aa_ (wl 0))]) m0 rfl (Nat.le_of_ble_eq_true rfl) rfl) (fq_s (fq_s (fq_s fq_l))) (Nat.le_of_ble_eq_true rfl) (by decide) (fun p186 c187 L188 hO189 => ?_))
    refine sE rfl (nl J (J44 _ _ (Rk fun K J => sV (.int .i64 2) rfl rfl (sE rfl (nl J (J42 _ _ (Un_s (fun K55 J55 => Rs fun K J => sV (.bool false) rfl rfl (nl J (Sq fun K56 J56 => bU_ rfl (bG_ (aw_ (aw_ (aC_ (J2 _ _ (Sq fun K57 J57 => Rs fun K J => sQ (qL ty_39 rfl (List.mem_append_right _ (List.mem_cons_of_mem _ (List.mem_cons_of_mem _ (List.mem_cons_of_mem _ (List.mem_cons_of_mem _ (List.mem_cons_of_mem _ (List.mem_cons_of_mem _ (List.mem_cons_of_mem _ (List.mem_cons_of_mem _ (List.mem_cons_of_mem _ (List.mem_cons_self))))))))))) rfl) rfl (sQ (q_ret en_63 (ba_ r184) rfl) rfl ?_)))))))))))))))))
    refine sE rfl (nl J ?_)
    rcases bt (decide ((aI_ r184).1 < 0)) with h190 | h190
    ·skip
     refine W_t h190 rfl (Rs fun K J => sE rfl (sE rfl (nl J (W_ret (af_ (ret2 rfl (.inr rfl) rfl rfl ?_))))))
     have hE : ((([] : List Rt), false) : (List Rt) × Bool) = (ay_ a b c) := by subst hr184; subst hr139; subst hr7; subst hr6; exact bif_t h3 (bif_f h12 (bif_f h147 (bif_t h190 rfl)))
     rw [← hE]
     exact ⟨_, rfl, SLfe.nil⟩
    ·skip
     refine W_f h190 rfl (aj_ (J57 _ _ (Sq fun K58 J58 => Rs fun K J => sE rfl (sE rfl (nl J ?_)))))
     rcases bt (b.1 == 0) with h191 | h191
     ·skip
      refine W_t h191 rfl (Rs fun K J => sQ (qL ty_39 rfl (List.mem_append_right _ (List.mem_cons_of_mem _ (List.mem_cons_of_mem _ (List.mem_cons_of_mem _ (List.mem_cons_of_mem _ (List.mem_cons_of_mem _ (List.mem_cons_of_mem _ (List.mem_cons_of_mem _ (List.mem_cons_of_mem _ (List.mem_cons_of_mem _ (List.mem_cons_self))))))))))) rfl) rfl (WL_r rfl (b1_ [[pI r184.n, pI r184.d]] [pI r184.n, pI r184.d] us_43 z_39 sz_39 rfl (by decide) rfl rfl ⟨rfl, rfl, rfl, trivial⟩ rfl (fun b192 hb192 => sE rfl (sE rfl (nl J (W_ret (af_ (ret2 rfl (.inr rfl) rfl rfl ?_)))))))))
      have hE : (([r184], true) : (List Rt) × Bool) = (ay_ a b c) := by subst hr184; subst hr139; subst hr7; subst hr6; exact bif_t h3 (bif_f h12 (bif_f h147 (bif_f h190 (bif_t h191 rfl))))
      rw [← hE]
      exact ⟨_, rfl, (SLfe.lit (e := elRt) (l := [r184]) hb192 m0 rfl (Nat.le_of_ble_eq_true rfl) rfl)⟩
     ·skip
      refine W_f h191 rfl (aj_ (J58 _ _ (ds sn [0,4,8,13,17] [4] mix (by kernel_rfl) (fun K J => pQ rfl (qL ty_39 rfl (List.mem_append_right _ (List.mem_cons_of_mem _ (List.mem_cons_of_mem _ (List.mem_cons_of_mem _ (List.mem_cons_of_mem _ (List.mem_cons_of_mem _ (List.mem_cons_of_mem _ (List.mem_cons_of_mem _ (List.mem_cons_of_mem _ (List.mem_cons_of_mem _ (List.mem_cons_self))))))))))) rfl) (pQ rfl (q_ret en_62 (cz_ (wl 2)) rfl) ?_)))))
      obtain ⟨r193, hr193⟩ := nm ((ab_ r184 (aa_ (wl 2))) : Rt)
      refine pC (AV [pI r193.n, pI r193.d]) en_57 (cE_ r184 (aa_ (wl 2))) rfl rfl (by rw [hr193]; first | done | rfl) ?_
      refine PL_o rfl rfl (bw_ zp_39 (fun b194 hb194 => ⟨(fun _ => sd s0), sn, oS [pI r193.n, pI r193.d] ty_39 rfl rfl rfl rfl rfl rfl (.head _) rfl hb194 rfl sn (fl J (ds sn [0,8,12,16,20,24,28,32,36,40,44,48,6,53,56,61] [13,15] mix (by kernel_rfl) (fun K J => pE rfl (pE rfl (pQ rfl (q_as (v' := .pointer (some (slb (.slice p186 ((([] : List Rt) ++ [(aa_ (wl 0)), (aa_ (wl 0))]) ++ [(aa_ (wl 0)), (aa_ (wl 0))]).length c187) (0 * 36 + 0)))) (cj_ (e := elRt) (l := ((([] : List Rt) ++ [(aa_ (wl 0)), (aa_ (wl 0))]) ++ [(aa_ (wl 0)), (aa_ (wl 0))])) (k := 0) sl_43 rfl rfl (SLfe.sle (OwnG.slfe hO189 (sd (List.sublist_append_left _ _)))) (by first | exact Nat.le_of_ble_eq_true rfl | omega)) rfl) ?_)))))⟩))
      refine pQ rfl (q_ldG (e := elRt) (l := ((([] : List Rt) ++ [(aa_ (wl 0)), (aa_ (wl 0))]) ++ [(aa_ (wl 0)), (aa_ (wl 0))])) (k := 0) (o := 0) ty_39 rfl (SLfe.sle (OwnG.slfe hO189 (sd (List.sublist_append_left _ _)))) (cs_ Rt0 (by first | exact Nat.le_of_ble_eq_true rfl | omega)) rfl) ?_
      refine pQ rfl (qL ty_39 rfl m0 rfl) ?_
      obtain ⟨r195, hr195⟩ := nm ((aB_ (((([] : List Rt) ++ [(aa_ (wl 0)), (aa_ (wl 0))]) ++ [(aa_ (wl 0)), (aa_ (wl 0))]).getD 0 Rt0) r193) : Rt)
      refine pC (AV [pI r195.n, pI r195.d]) en_66 (bp_ (((([] : List Rt) ++ [(aa_ (wl 0)), (aa_ (wl 0))]) ++ [(aa_ (wl 0)), (aa_ (wl 0))]).getD 0 Rt0) r193) rfl rfl (by rw [hr195]; first | done | rfl) ?_
      refine pE rfl (pQ rfl (q_as (v' := .pointer (some (slb (.slice p186 ((([] : List Rt) ++ [(aa_ (wl 0)), (aa_ (wl 0))]) ++ [(aa_ (wl 0)), (aa_ (wl 0))]).length c187) (1 * 36 + 0)))) (cj_ (e := elRt) (l := ((([] : List Rt) ++ [(aa_ (wl 0)), (aa_ (wl 0))]) ++ [(aa_ (wl 0)), (aa_ (wl 0))])) (k := 1) sl_43 rfl rfl (SLfe.sle (OwnG.slfe hO189 (sd (List.sublist_append_left _ _)))) (by first | exact Nat.le_of_ble_eq_true rfl | omega)) rfl) ?_)
      refine pQ rfl (q_ldG (e := elRt) (l := ((([] : List Rt) ++ [(aa_ (wl 0)), (aa_ (wl 0))]) ++ [(aa_ (wl 0)), (aa_ (wl 0))])) (k := 1) (o := 0) ty_39 rfl (SLfe.sle (OwnG.slfe hO189 (sd (List.sublist_append_left _ _)))) (cs_ Rt0 (by first | exact Nat.le_of_ble_eq_true rfl | omega)) rfl) ?_
      refine pQ rfl (qL ty_39 rfl m0 rfl) ?_
      obtain ⟨r196, hr196⟩ := nm ((aB_ (((([] : List Rt) ++ [(aa_ (wl 0)), (aa_ (wl 0))]) ++ [(aa_ (wl 0)), (aa_ (wl 0))]).getD 1 Rt0) r193) : Rt)
      refine pC (AV [pI r196.n, pI r196.d]) en_66 (bp_ (((([] : List Rt) ++ [(aa_ (wl 0)), (aa_ (wl 0))]) ++ [(aa_ (wl 0)), (aa_ (wl 0))]).getD 1 Rt0) r193) rfl rfl (by rw [hr196]; first | done | rfl) ?_
      refine pQ rfl (q_as (v' := .pointer (some (slb (.slice p186 ((([] : List Rt) ++ [(aa_ (wl 0)), (aa_ (wl 0))]) ++ [(aa_ (wl 0)), (aa_ (wl 0))]).length c187) (0 * 36 + 0)))) (cj_ (e := elRt) (l := ((([] : List Rt) ++ [(aa_ (wl 0)), (aa_ (wl 0))]) ++ [(aa_ (wl 0)), (aa_ (wl 0))])) (k := 0) sl_43 rfl rfl (SLfe.sle (OwnG.slfe hO189 (sd (List.sublist_append_left _ _)))) (by first | exact Nat.le_of_ble_eq_true rfl | omega)) rfl) ?_
      refine tE rfl (PL_o rfl rfl (dB_ (e := elRt) (l := ((([] : List Rt) ++ [(aa_ (wl 0)), (aa_ (wl 0))]) ++ [(aa_ (wl 0)), (aa_ (wl 0))])) (k := 0) (z := r195) ty_39 rfl rfl hO189 (Nat.le_of_ble_eq_true rfl) (fq_s fq_l) rfl rfl (fun L197 hO198 => ⟨nf, sn, ?_⟩)))
      refine pQ rfl (q_as (v' := .pointer (some (slb (.slice p186 ((([] : List Rt) ++ [(aa_ (wl 0)), (aa_ (wl 0))]) ++ [(aa_ (wl 0)), (aa_ (wl 0))]).length c187) (1 * 36 + 0)))) (cj_ (e := elRt) (l := (((([] : List Rt) ++ [(aa_ (wl 0)), (aa_ (wl 0))]) ++ [(aa_ (wl 0)), (aa_ (wl 0))]).set 0 r195)) (k := 1) sl_43 rfl rfl (SLfe.sle (OwnG.slfe hO198 (List.sublist_append_left _ _))) (by first | exact Nat.le_of_ble_eq_true rfl | omega)) rfl) ?_
      refine PL_o rfl rfl (dB_ (e := elRt) (l := (((([] : List Rt) ++ [(aa_ (wl 0)), (aa_ (wl 0))]) ++ [(aa_ (wl 0)), (aa_ (wl 0))]).set 0 r195)) (k := 1) (z := r196) ty_39 rfl rfl hO198 (Nat.le_of_ble_eq_true rfl) fq_l rfl rfl (fun L199 hO200 => ⟨nf, sn, ?_⟩))
      refine fl J (Rs fun K J => sE rfl (sE rfl (sE rfl (nl J (W_ret (ret2 rfl (.inr rfl) rfl rfl ?_))))))
      have hE : ((((((([] : List Rt) ++ [(aa_ (wl 0)), (aa_ (wl 0))]) ++ [(aa_ (wl 0)), (aa_ (wl 0))]).set 0 r195).set 1 r196), true) : (List Rt) × Bool) = (ay_ a b c) := by subst hr196; subst hr195; subst hr193; subst hr184; subst hr139; subst hr7; subst hr6; exact bif_t h3 (bif_f h12 (bif_f h147 (bif_f h190 (bif_f h191 rfl))))
      rw [← hE]
      exact ⟨_, rfl, (OwnG.slfe hO200 (List.sublist_append_left _ _))⟩
 ·skip
  refine W_t (not_t h3) rfl (Rs fun K J => sE rfl (sE rfl (nl J (W_ret (af_ (ret2 rfl (.inr rfl) rfl rfl ?_))))))
  have hE : ((([] : List Rt), false) : (List Rt) × Bool) = (ay_ a b c) := by exact bif_f h3 rfl
  rw [← hE]
  exact ⟨_, rfl, SLfe.nil⟩

theorem fE_ (a : (A3 W)) (b : W) (c : (A3 Rt)) :
    Ret Tryz.prog 19 [AV [ci .i64 a.x.1, ci .i64 a.y.1, ci .i64 a.z.1], .int .i64 b.1, AV [pI c.x.n, pI c.x.d, pI c.y.n, pI c.y.d, pI c.z.n, pI c.z.d]] (.bool (dE_ a b c)) := by
 refine as_ (N := 17) Tryz.func19 rfl rfl (by simp) (fun w0 => ?_)
 simp only [initF, Nat.reduceAdd]
 refine Rs fun K J => WL_r rfl (aQ_ rfl rfl (fun b1 hb1 => WL_r rfl (aQ_ rfl rfl (fun b2 hb2 => sE rfl (nl J (Rs fun K J => sQ (qL ty_23 rfl m1 rfl) rfl (sE rfl (sQ (qL ty_41 rfl m0 rfl) rfl (WL_r rfl (eY_ (e := elRt) (l := (ay_ a b c).1) (fun v => .tuple #[v, .bool ((ay_ a b c).2)]) en_16 rfl (fun w hw => ev_ a b c w) (fun p3 c4 L5 hF6 => sE rfl (sE rfl (sE rfl (sE rfl (sE rfl (nl J (Rs fun K J => sE rfl (sE rfl (nl J ?_)))))))))))))))))))
 refine W_ret (ret1 rfl (.inr rfl) rfl ?_)
 exact (by rfl)

theorem gk_ (vl : Value) (l : (List (A3 Rt))) (vk : Value) (k : (List Rt)) (w : World) (hl : Slr w elVr vl l) (hk : Slr w elRt vk k) :
    Calls Tryz.prog 21 [vl, vk].toArray w (fun e w' => e = .returned (AV [pI (((aO_ l k).x).n), pI (((aO_ l k).x).d), pI (((aO_ l k).y).n), pI (((aO_ l k).y).d), pI (((aO_ l k).z).n), pI (((aO_ l k).z).d)]) ∧ Ext w w') := by
 refine c8_ (N := 30) Tryz.func21 rfl rfl (by simp) ?_
 obtain ⟨w0, rfl⟩ : ∃ w0, w0 = w := ⟨_, rfl⟩
 have Hl := hl.old
 have hm_l := hl.max
 have Hk := hk.old
 have hm_k := hk.max
 simp only [initF, Nat.reduceAdd]
 refine Rs fun K J => sN zp_41 rfl fun b1 hb1 => nl J (Rs fun K J => sQ (bM_ zp_23 ar_23 rfl (.nil _)) rfl ?_)
 obtain ⟨r2, hr2⟩ := nm ((cu_ (⟨(wl 0), (wl 0), (wl 0)⟩ : (A3 W))) : (A3 Rt))
 refine sC (AV [pI r2.x.n, pI r2.x.d, pI r2.y.n, pI r2.y.d, pI r2.z.n, pI r2.z.d]) en_43 (em_ (⟨(wl 0), (wl 0), (wl 0)⟩ : (A3 W))) rfl rfl (by rw [hr2]; first | done | rfl) ?_
 refine sN zp_41 rfl fun b3 hb3 => sS [pI r2.x.n, pI r2.x.d, pI r2.y.n, pI r2.y.d, pI r2.z.n, pI r2.z.d] ty_41 rfl rfl rfl rfl rfl (.head _) rfl hb3 (nl J (Sq fun K1 J1 => Rs fun K J => sE rfl (sQ (q_as (v' := .int .i64 (((l).length : Nat) : Int)) (eC_ (e := elVr) sl_24 rfl (SLe.sub Hl sn)) rfl) rfl (sE rfl (sQ (q_as (v' := .int .i64 (((k).length : Nat) : Int)) (eC_ (e := elRt) sl_43 rfl (SLe.sub Hk sn)) rfl) rfl (sQ (pR_ rfl rfl) rfl (sE rfl (nl J ?_))))))))
 refine gN_ (fun S M h => J1 S M h) [6, 14, 15, 16, 17, 18, 19, 20, 21, 22, 23, 24, 25, 26, 27, 28] (fun g M => ∃ (i : Nat) (mb3 : (A3 Rt)), (cP_ l k r2 ((min l.length k.length + 1)) 0 r2) = (i, mb3) ∧ (g 14 = .int .i64 ((i : Nat) : Int)) ∧ M = [⟨b3, 41, flat [pI mb3.x.n, pI mb3.x.d, pI mb3.y.n, pI mb3.y.d, pI mb3.z.n, pI mb3.z.d]⟩, ⟨b1, 41, flat [pI I0, pI I0, pI I0, pI I0, pI I0, pI I0]⟩]) (fun K_u4 hK_u4 => ?_) ?_
 ·skip
  refine ao_ ?_
  refine bI_ [6, 14, 15, 16, 17, 18, 19, 20, 21, 22, 23, 24, 25, 26, 27, 28] (fun g nn M => ∃ (i : Nat) (mb3 : (A3 Rt)), (cP_ l k r2 nn i mb3) = (cP_ l k r2 ((min l.length k.length + 1)) 0 r2) ∧ min l.length k.length - i < nn ∧ (i ≤ min l.length k.length) ∧ (g 14 = .int .i64 ((i : Nat) : Int)) ∧ M = [⟨b3, 41, flat [pI mb3.x.n, pI mb3.x.d, pI mb3.y.n, pI mb3.y.d, pI mb3.z.n, pI mb3.z.d]⟩, ⟨b1, 41, flat [pI I0, pI I0, pI I0, pI I0, pI I0, pI I0]⟩]) ((min l.length k.length + 1)) ?start ?round
  case start => exact ⟨_, s0, 0, r2, rfl, (by omega), (by omega), rfl, rfl⟩
  case round =>
   rintro nn g M ⟨i, mb3, hT0, hq0, hinv0, hg14, rfl⟩
   obtain ⟨k0, rfl⟩ : ∃ m, nn = m + 1 := ⟨nn - 1, by omega⟩
   simp only [setG, hg14]
   clear hg14
   refine Rs fun K J => sE rfl (nl J (Sq fun K6 J6 => ?_))
   rcases bt (decide (((i : Nat) : Int) < (((min ((l).length) ((k).length)) : Nat) : Int))) with h11 | h11
   ·skip
    have ph11 := of_decide_eq_true h11
    refine W_t h11 rfl (aj_ (J6 _ _ (Sq fun K7 J7 => ao_ (Rs fun K J => sE rfl (sE rfl (nl J (dr (sd (sk (s0))) [0,4,8,12,16,20,24,28,32,36,40,45] [11] mix (by kernel_rfl) (fun K J => pQ rfl (qL ty_41 rfl m0 rfl) (pE rfl (pE rfl (pQ rfl (q_as (v' := .pointer (some (slb vk (i * 36 + 0)))) (cj_ (e := elRt) (l := k) (k := i) sl_43 rfl rfl (SLe.sub Hk sn) (by omega)) rfl) (pQ rfl (q_ldG (e := elRt) (l := k) (k := i) (o := 0) ty_39 rfl (SLe.sub Hk sn) (cs_ Rt0 (by omega)) rfl) (pE rfl (pE rfl (pQ rfl (q_as (v' := .pointer (some (slb vl (i * 108 + 0)))) (cj_ (e := elVr) (l := l) (k := i) sl_24 rfl rfl (SLe.sub Hl sn) (by omega)) rfl) (pQ rfl (q_ldG (e := elVr) (l := l) (k := i) (o := 0) ty_41 rfl (SLe.sub Hl sn) (cs_ V0 (by omega)) rfl) ?_))))))))))))))))
    obtain ⟨r12, hr12⟩ := nm ((cq_ (k.getD i Rt0) (l.getD i V0)) : (A3 Rt))
    refine pC (AV [pI r12.x.n, pI r12.x.d, pI r12.y.n, pI r12.y.d, pI r12.z.n, pI r12.z.d]) en_45 (fe_ (k.getD i Rt0) (l.getD i V0)) rfl rfl (by rw [hr12]; first | done | rfl) ?_
    obtain ⟨r13, hr13⟩ := nm ((cG_ mb3 r12) : (A3 Rt))
    refine pC (AV [pI r13.x.n, pI r13.x.d, pI r13.y.n, pI r13.y.d, pI r13.z.n, pI r13.z.d]) en_46 (fC_ mb3 r12) rfl rfl (by rw [hr13]; first | done | rfl) (oS [pI r13.x.n, pI r13.x.d, pI r13.y.n, pI r13.y.d, pI r13.z.n, pI r13.z.d] ty_41 rfl rfl rfl rfl rfl rfl (.head _) rfl hb3 rfl (sd s0) (fl J (J7 _ _ (Rk fun K J => sV (.int .i64 ((i + 1 : Nat) : Int)) rfl (congrArg (Value.int .i64) (wx (by omega) (by omega) (by omega))) (sE rfl (nl J (⟨(by repeat first | exact .refl | refine .cons rfl ?_), _, _, s0, (Nat.lt_succ_self _), i + 1, r13, (by subst hr13; subst hr12; exact (hT0.symm.trans (Eq.symm (bif_t h11 rfl))).symm), (Nat.lt_of_lt_of_le (by omega) (Nat.le_of_lt_succ hq0)), (by omega), rfl, rfl⟩)))))))
   ·skip
    have ph11 := of_decide_eq_false h11
    refine W_f h11 rfl (bG_ (aw_ (aw_ (aC_ (hK_u4 _ _ (by repeat first | exact .refl | refine .cons rfl ?_) ⟨_, s0, i, mb3, (by exact hT0.symm.trans (Eq.symm (bif_f h11 rfl))), rfl, rfl⟩)))))
 ·skip
  rintro g M ⟨i, mb3, hCu4, hg14, rfl⟩
  simp only [setG, hg14]
  clear hg14
  refine Rs fun K J => sQ (qL ty_41 rfl m0 rfl) rfl (sS [pI mb3.x.n, pI mb3.x.d, pI mb3.y.n, pI mb3.y.d, pI mb3.z.n, pI mb3.z.d] ty_41 rfl rfl rfl rfl rfl (.tail _ (.head _)) rfl hb1 (nl J (W_ret (ret1 rfl (.inr rfl) (resP rfl m1 ty_41 rfl) ?_))))
  exact (by subst hr2; exact congrArg (fun r : (A3 Rt) => (AV [pI r.x.n, pI r.x.d, pI r.y.n, pI r.y.d, pI r.z.n, pI r.z.d] : Value)) (show _ = (aO_ l k) from (by unfold aO_; exact trs (Eq.symm (apS hCu4)) rfl)))
end Go.Proofs.YtapbefpeopaecaaGreatDoor

