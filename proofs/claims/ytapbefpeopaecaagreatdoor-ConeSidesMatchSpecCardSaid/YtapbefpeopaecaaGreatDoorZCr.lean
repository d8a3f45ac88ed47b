/- Walks: what these functions return. -/
import Derived.Test.YtapbefpeopaecaaGreatDoorZFa0
import Derived.Test.YtapbefpeopaecaaGreatDoorZFc
import Derived.Test.YtapbefpeopaecaaGreatDoorZGa
import Derived.Test.YtapbefpeopaecaaGreatDoorZGc
import Derived.Test.YtapbefpeopaecaaGreatDoorZGd
import Derived.Test.YtapbefpeopaecaaGreatDoorZGf
import Derived.Test.YtapbefpeopaecaaGreatDoorZRa
import Derived.Test.YtapbefpeopaecaaGreatDoorZSf
import Derived.Test.YtapbefpeopaecaaGreatDoorZSg
import Derived.Test.YtapbefpeopaecaaGreatDoorZSk
import Derived.Test.YtapbefpeopaecaaGreatDoorZSl
namespace Go.Proofs.YtapbefpeopaecaaGreatDoor
open Go.Kn Go.Num
set_option linter.unusedVariables false
set_option linter.unusedSimpArgs false
set_option maxRecDepth 20000
set_option maxHeartbeats 8000000
theorem dP_ (a : (A3 W)) (b : W) :
    Ret Tryz.prog 23 [AV [ci .i64 a.x.1, ci .i64 a.y.1, ci .i64 a.z.1], .int .i64 b.1] (.bool (a3_ a b)) := by
 refine as_ (N := 34) Tryz.func23 rfl rfl (by simp) (fun w0 => ?_)
 simp only [initF, Nat.reduceAdd]
 refine Rs fun K J => WL_r rfl (aQ_ rfl rfl (fun b1 hb1 => sE rfl (nl J (Sq fun K1 J1 => Rs fun K J => sE rfl (nl J (ao_ (W_un 5 (Un_s (fun K2 J2 => Sq fun K3 J3 => Rs fun K J => sE rfl (sV (.bool true) rfl rfl (nl J (bQ_ rfl (aj_ (J3 _ _ (Sq fun K4 J4 => ?_)))))))))))))))
 refine ao_ ?_
 refine bV_ [11, 12, 13, 14, 15, 16, 17, 18, 19, 20] (fun g M => (g 20 = .bool (decide (536870912 ≤ a.x.1) || decide (a.x.1 ≤ (-536870912)))) ∧ M = [⟨b1, 23, flat [ci .i64 a.x.1, ci .i64 a.y.1, ci .i64 a.z.1]⟩]) (fun K5 J5 => ?_) ?_
 ·skip
  refine Rk fun K J => sE rfl (sQ (qA ar_23 rfl rfl rfl) rfl (sQ (qC ty_3 rfl m0 rfl) rfl (sE rfl ?_)))
  rcases bt (decide (536870912 ≤ a.x.1)) with h3 | h3
  ·skip
   refine sB h3 rfl (WL_n rfl (WL_n rfl (WL_n rfl (WL_n rfl (sE rfl (nl J ?_))))))
   refine J5 _ _ (by repeat first | exact .refl | refine .cons rfl ?_) ⟨_, s0, ?s20, rfl⟩
   case s20 => exact congrArg Value.bool (or_t h3)
  ·skip
   refine sB h3 rfl (sE rfl (sQ (qA ar_23 rfl rfl rfl) rfl (sQ (qC ty_3 rfl m0 rfl) rfl (sE rfl (sE rfl (nl J ?_))))))
   refine J5 _ _ (by repeat first | exact .refl | refine .cons rfl ?_) ⟨_, s0, ?s20, rfl⟩
   case s20 => exact congrArg Value.bool (or_f h3 rfl)
 ·skip
  rintro g4 M ⟨hg20, rfl⟩
  simp only [setG, hg20]
  clear hg20
  rcases bt (decide (536870912 ≤ a.x.1) || decide (a.x.1 ≤ (-536870912))) with h5 | h5
  ·skip
   refine W_t h5 rfl (Rs fun K J => sE rfl (nl J (W_ret (aH_ (af_ (af_ (aH_ (af_ (ret1 rfl (.inr rfl) rfl ?_)))))))))
   exact (by exact congrArg (fun r : Bool => (.bool r : Value)) (show _ = (a3_ a b) from bif_t h5 rfl))
  ·skip
   refine W_f h5 rfl (aj_ (J4 _ _ (Rk fun K J => sE rfl (sV (.int .i64 1) rfl rfl (sE rfl (nl J (J2 _ _ (Un_s (fun K6 J6 => Sq fun K7 J7 => Rs fun K J => sE rfl (sV (.bool true) rfl rfl (nl J (bQ_ rfl (aj_ (J7 _ _ (Sq fun K8 J8 => ao_ ?_)))))))))))))))
   refine bV_ [11, 12, 13, 14, 15, 16, 17, 18, 19, 20] (fun g M => (g 20 = .bool (decide (536870912 ≤ a.y.1) || decide (a.y.1 ≤ (-536870912)))) ∧ M = [⟨b1, 23, flat [ci .i64 a.x.1, ci .i64 a.y.1, ci .i64 a.z.1]⟩]) (fun K9 J9 => ?_) ?_
   ·skip
    refine Rk fun K J => sE rfl (sQ (qA ar_23 rfl rfl rfl) rfl (sQ (qC ty_3 rfl m0 rfl) rfl (sE rfl ?_)))
    rcases bt (decide (536870912 ≤ a.y.1)) with h7 | h7
    ·skip
     refine sB h7 rfl (WL_n rfl (WL_n rfl (WL_n rfl (WL_n rfl (sE rfl (nl J ?_))))))
     refine J9 _ _ (by repeat first | exact .refl | refine .cons rfl ?_) ⟨_, s0, ?s20, rfl⟩
     case s20 => exact congrArg Value.bool (or_t h7)
    ·skip
     refine sB h7 rfl (sE rfl (sQ (qA ar_23 rfl rfl rfl) rfl (sQ (qC ty_3 rfl m0 rfl) rfl (sE rfl (sE rfl (nl J ?_))))))
     refine J9 _ _ (by repeat first | exact .refl | refine .cons rfl ?_) ⟨_, s0, ?s20, rfl⟩
     case s20 => exact congrArg Value.bool (or_f h7 rfl)
   ·skip
    rintro g8 M ⟨hg20, rfl⟩
    simp only [setG, hg20]
    clear hg20
    rcases bt (decide (536870912 ≤ a.y.1) || decide (a.y.1 ≤ (-536870912))) with h9 | h9
    ·skip
     refine W_t h9 rfl (Rs fun K J => sE rfl (nl J (W_ret (aH_ (af_ (af_ (aH_ (af_ (ret1 rfl (.inr rfl) rfl ?_)))))))))
     exact (by exact congrArg (fun r : Bool => (.bool r : Value)) (show _ = (a3_ a b) from bif_f h5 (bif_t h9 rfl)))
    ·skip
     refine W_f h9 rfl (aj_ (J8 _ _ (Rk fun K J => sE rfl (sV (.int .i64 2) rfl rfl (sE rfl (nl J (J6 _ _ (Un_s (fun K10 J10 => Sq fun K11 J11 => Rs fun K J => sE rfl (sV (.bool true) rfl rfl (nl J (bQ_ rfl (aj_ (J11 _ _ (Sq fun K12 J12 => ao_ ?_)))))))))))))))
     refine bV_ [11, 12, 13, 14, 15, 16, 17, 18, 19, 20] (fun g M => (g 20 = .bool (decide (536870912 ≤ a.z.1) || decide (a.z.1 ≤ (-536870912)))) ∧ M = [⟨b1, 23, flat [ci .i64 a.x.1, ci .i64 a.y.1, ci .i64 a.z.1]⟩]) (fun K13 J13 => ?_) ?_
     ·skip
      refine Rk fun K J => sE rfl (sQ (qA ar_23 rfl rfl rfl) rfl (sQ (qC ty_3 rfl m0 rfl) rfl (sE rfl ?_)))
      rcases bt (decide (536870912 ≤ a.z.1)) with h11 | h11
      ·skip
       refine sB h11 rfl (WL_n rfl (WL_n rfl (WL_n rfl (WL_n rfl (sE rfl (nl J ?_))))))
       refine J13 _ _ (by repeat first | exact .refl | refine .cons rfl ?_) ⟨_, s0, ?s20, rfl⟩
       case s20 => exact congrArg Value.bool (or_t h11)
      ·skip
       refine sB h11 rfl (sE rfl (sQ (qA ar_23 rfl rfl rfl) rfl (sQ (qC ty_3 rfl m0 rfl) rfl (sE rfl (sE rfl (nl J ?_))))))
       refine J13 _ _ (by repeat first | exact .refl | refine .cons rfl ?_) ⟨_, s0, ?s20, rfl⟩
       case s20 => exact congrArg Value.bool (or_f h11 rfl)
     ·skip
      rintro g12 M ⟨hg20, rfl⟩
      simp only [setG, hg20]
      clear hg20
      rcases bt (decide (536870912 ≤ a.z.1) || decide (a.z.1 ≤ (-536870912))) with h13 | h13
      ·skip
       refine W_t h13 rfl (Rs fun K J => sE rfl (nl J (W_ret (aH_ (af_ (af_ (aH_ (af_ (ret1 rfl (.inr rfl) rfl ?_)))))))))
       exact (by exact congrArg (fun r : Bool => (.bool r : Value)) (show _ = (a3_ a b) from bif_f h5 (bif_f h9 (bif_t h13 rfl))))
      ·skip
       refine W_f h13 rfl (aj_ (J12 _ _ (Rk fun K J => sE rfl (sV (.int .i64 3) rfl rfl (sE rfl (nl J (J10 _ _ (Un_s (fun K14 J14 => Sq fun K15 J15 => Rs fun K J => sE rfl (sV (.bool false) rfl rfl (nl J (bU_ rfl (bG_ (aw_ (aw_ (aC_ (J1 _ _ (Rs fun K J => sQ (qL ty_23 rfl m0 rfl) rfl ?_))))))))))))))))))
       refine sQ (bM_ zp_23 ar_23 rfl (.nil _)) rfl ?_
       refine sQ (h4_ (r := (decide (a.x.1 = 0) && (decide (a.y.1 = 0) && decide (a.z.1 = 0)))) rfl rfl (et_ 8 (by decide) eg_23 lw_23 (ch_ lv_ci (ch_ lv_ci (eO_ lv_ci))) (ch_ lv_ci (ch_ lv_ci (eO_ lv_ci))) (dd_ rfl eq_ci (dd_ rfl eq_ci (f0_ eq_ci))))) rfl (sE rfl (nl J ?_))
       refine bV_ [4, 24, 25, 26, 27, 28, 29, 30, 31, 32, 33] (fun g M => (g 4 = .bool (!(decide (a.x.1 = 0) && (decide (a.y.1 = 0) && decide (a.z.1 = 0))) && (decide (0 ≤ b.1) && decide (b.1 ≤ 4000)))) ∧ M = [⟨b1, 23, flat [ci .i64 a.x.1, ci .i64 a.y.1, ci .i64 a.z.1]⟩]) (fun K16 J16 => ?_) ?_
       ·skip
        refine Rk fun K J => sE rfl (sE rfl ?_)
        rcases bt (decide (a.x.1 = 0) && (decide (a.y.1 = 0) && decide (a.z.1 = 0))) with h16 | h16
        ·skip
         refine sB (not_f h16) rfl (WL_n rfl (WL_n rfl (sE rfl (sE rfl (WL_n rfl (WL_n rfl (sE rfl (sE rfl (nl J ?_)))))))))
         refine J16 _ _ (by repeat first | exact .refl | refine .cons rfl ?_) ⟨_, s0, ?s4, rfl⟩
         case s4 => exact congrArg Value.bool (hX_ h16)
        ·skip
         refine sB (not_t h16) rfl (sE rfl (sE rfl (sE rfl ?_)))
         rcases bt (decide (0 ≤ b.1)) with h17 | h17
         ·skip
          refine sB h17 rfl (sE rfl (sE rfl (sE rfl (sE rfl (nl J ?_)))))
          refine J16 _ _ (by repeat first | exact .refl | refine .cons rfl ?_) ⟨_, s0, ?s4, rfl⟩
          case s4 => exact congrArg Value.bool (fS_ h16 (and_t h17 rfl))
         ·skip
          refine sB h17 rfl (WL_n rfl (WL_n rfl (sE rfl (sE rfl (nl J ?_)))))
          refine J16 _ _ (by repeat first | exact .refl | refine .cons rfl ?_) ⟨_, s0, ?s4, rfl⟩
          case s4 => exact congrArg Value.bool (fS_ h16 (and_f h17))
       ·skip
        rintro g18 M ⟨hg4, rfl⟩
        simp only [setG, hg4]
        clear hg4
        refine W_ret (ret1 rfl (.inr rfl) rfl ?_)
        exact (by exact congrArg (fun r : Bool => (.bool r : Value)) (show _ = (a3_ a b) from bif_f h5 (bif_f h9 (bif_f h13 rfl))))

theorem dW_ (a : (A3 Rt)) :
    Ret Tryz.prog 14 [AV [pI a.x.n, pI a.x.d, pI a.y.n, pI a.y.d, pI a.z.n, pI a.z.d]] (.bool (bm_ a)) := by
 refine as_ (N := 29) Tryz.func14 rfl rfl (by simp) (fun w0 => ?_)
 simp only [initF, Nat.reduceAdd]
 refine Rs fun K J => WL_r rfl (aQ_ rfl rfl (fun b1 hb1 => sE rfl (nl J (Sq fun K1 J1 => Rs fun K J => sE rfl (nl J (ao_ (W_un 5 (Un_s (fun K2 J2 => Sq fun K3 J3 => Rs fun K J => sE rfl (sV (.bool true) rfl rfl (nl J (bQ_ rfl (aj_ (J3 _ _ (Sq fun K4 J4 => ?_)))))))))))))))
 refine ao_ ?_
 refine bV_ [8, 9, 10, 11, 12, 13, 14, 15, 16, 17, 18, 19, 20, 21, 22, 23, 24, 25, 26, 27, 28] (fun g M => (g 28 = .bool (!(ae_ a.x) || (decide (48 < (Z.bitsW a.x.n.dec).1) || decide (17 < (Z.bitsW a.x.d.dec).1)))) ∧ M = [⟨b1, 41, flat [pI a.x.n, pI a.x.d, pI a.y.n, pI a.y.d, pI a.z.n, pI a.z.d]⟩]) (fun K5 J5 => ?_) ?_
 ·skip
  refine Rk fun K J => sE rfl (sQ (qA ar_41 rfl rfl rfl) rfl (sQ (qL ty_39 rfl m0 rfl) rfl (sQ (q_ret en_51 (bo_ a.x) rfl) rfl (sE rfl ?_))))
  rcases bt (ae_ a.x) with h4 | h4
  ·skip
   refine sB (not_f h4) rfl (sE rfl (sQ (qA ar_41 rfl rfl rfl) rfl (sQ (qF cI_ rfl rfl) rfl (sQ (qL ty_37 rfl m0 rfl) rfl (sC (.int .i64 ((Z.bitsW a.x.n.dec).1)) en_52 (cT_ a.x.n.1 a.x.n.2) rfl rfl rfl (sE rfl (sE rfl ?_)))))))
   rcases bt (decide (48 < (Z.bitsW a.x.n.dec).1)) with h5 | h5
   ·skip
    refine sB h5 rfl (WL_n rfl (WL_n rfl (WL_n rfl (WL_n rfl (WL_n rfl (WL_n rfl (sE rfl (nl J ?_))))))))
    refine J5 _ _ (by repeat first | exact .refl | refine .cons rfl ?_) ⟨_, s0, ?s28, rfl⟩
    case s28 => exact congrArg Value.bool (nor_t h4 (or_t h5))
   ·skip
    refine sB h5 rfl (sE rfl (sQ (qA ar_41 rfl rfl rfl) rfl (sQ (qF b7_ rfl rfl) rfl (sQ (qL ty_37 rfl m0 rfl) rfl (sC (.int .i64 ((Z.bitsW a.x.d.dec).1)) en_52 (cT_ a.x.d.1 a.x.d.2) rfl rfl rfl (sE rfl (sE rfl (nl J ?_))))))))
    refine J5 _ _ (by repeat first | exact .refl | refine .cons rfl ?_) ⟨_, s0, ?s28, rfl⟩
    case s28 => exact congrArg Value.bool (nor_t h4 (or_f h5 rfl))
  ·skip
   refine sB (not_t h4) rfl (WL_n rfl (WL_n rfl (WL_n rfl (WL_n rfl (WL_n rfl (WL_n rfl (sE rfl (sE rfl (WL_n rfl (WL_n rfl (WL_n rfl (WL_n rfl (WL_n rfl (WL_n rfl (sE rfl (nl J ?_))))))))))))))))
   refine J5 _ _ (by repeat first | exact .refl | refine .cons rfl ?_) ⟨_, s0, ?s28, rfl⟩
   case s28 => exact congrArg Value.bool (nor_f h4)
 ·skip
  rintro g6 M ⟨hg28, rfl⟩
  simp only [setG, hg28]
  clear hg28
  rcases bt (!(ae_ a.x) || (decide (48 < (Z.bitsW a.x.n.dec).1) || decide (17 < (Z.bitsW a.x.d.dec).1))) with h7 | h7
  ·skip
   refine W_t h7 rfl (Rs fun K J => sE rfl (nl J (W_ret (aH_ (af_ (af_ (aH_ (af_ (ret1 rfl (.inr rfl) rfl ?_)))))))))
   exact (by exact congrArg (fun r : Bool => (.bool r : Value)) (show _ = (bm_ a) from bif_t h7 rfl))
  ·skip
   refine W_f h7 rfl (aj_ (J4 _ _ (Rk fun K J => sE rfl (sV (.int .i64 1) rfl rfl (sE rfl (nl J (J2 _ _ (Un_s (fun K6 J6 => Sq fun K7 J7 => Rs fun K J => sE rfl (sV (.bool true) rfl rfl (nl J (bQ_ rfl (aj_ (J7 _ _ (Sq fun K8 J8 => ao_ ?_)))))))))))))))
   refine bV_ [8, 9, 10, 11, 12, 13, 14, 15, 16, 17, 18, 19, 20, 21, 22, 23, 24, 25, 26, 27, 28] (fun g M => (g 28 = .bool (!(ae_ a.y) || (decide (48 < (Z.bitsW a.y.n.dec).1) || decide (17 < (Z.bitsW a.y.d.dec).1)))) ∧ M = [⟨b1, 41, flat [pI a.x.n, pI a.x.d, pI a.y.n, pI a.y.d, pI a.z.n, pI a.z.d]⟩]) (fun K9 J9 => ?_) ?_
   ·skip
    refine Rk fun K J => sE rfl (sQ (qA ar_41 rfl rfl rfl) rfl (sQ (qL ty_39 rfl m0 rfl) rfl (sQ (q_ret en_51 (bo_ a.y) rfl) rfl (sE rfl ?_))))
    rcases bt (ae_ a.y) with h10 | h10
    ·skip
     refine sB (not_f h10) rfl (sE rfl (sQ (qA ar_41 rfl rfl rfl) rfl (sQ (qF cI_ rfl rfl) rfl (sQ (qL ty_37 rfl m0 rfl) rfl (sC (.int .i64 ((Z.bitsW a.y.n.dec).1)) en_52 (cT_ a.y.n.1 a.y.n.2) rfl rfl rfl (sE rfl (sE rfl ?_)))))))
     rcases bt (decide (48 < (Z.bitsW a.y.n.dec).1)) with h11 | h11
     ·skip
      refine sB h11 rfl (WL_n rfl (WL_n rfl (WL_n rfl (WL_n rfl (WL_n rfl (WL_n rfl (sE rfl (nl J ?_))))))))
      refine J9 _ _ (by repeat first | exact .refl | refine .cons rfl ?_) ⟨_, s0, ?s28, rfl⟩
      case s28 => exact congrArg Value.bool (nor_t h10 (or_t h11))
     ·skip
      refine sB h11 rfl (sE rfl (sQ (qA ar_41 rfl rfl rfl) rfl (sQ (qF b7_ rfl rfl) rfl (sQ (qL ty_37 rfl m0 rfl) rfl (sC (.int .i64 ((Z.bitsW a.y.d.dec).1)) en_52 (cT_ a.y.d.1 a.y.d.2) rfl rfl rfl (sE rfl (sE rfl (nl J ?_))))))))
      refine J9 _ _ (by repeat first | exact .refl | refine .cons rfl ?_) ⟨_, s0, ?s28, rfl⟩
      case s28 => exact congrArg Value.bool (nor_t h10 (or_f h11 rfl))
    ·skip
     refine sB (not_t h10) rfl (WL_n rfl (WL_n rfl (WL_n rfl (WL_n rfl (WL_n rfl (WL_n rfl (sE rfl (sE rfl (WL_n rfl (WL_n rfl (WL_n rfl (WL_n rfl (WL_n rfl (WL_n rfl (sE rfl (nl J ?_))))))))))))))))
     refine J9 _ _ (by repeat first | exact .refl | refine .cons rfl ?_) ⟨_, s0, ?s28, rfl⟩
     case s28 => exact congrArg Value.bool (nor_f h10)
   ·skip
    rintro g12 M ⟨hg28, rfl⟩
    simp only [setG, hg28]
    clear hg28
    rcases bt (!(ae_ a.y) || (decide (48 < (Z.bitsW a.y.n.dec).1) || decide (17 < (Z.bitsW a.y.d.dec).1))) with h13 | h13
    ·skip
     refine W_t h13 rfl (Rs fun K J => sE rfl (nl J (W_ret (aH_ (af_ (af_ (aH_ (af_ (ret1 rfl (.inr rfl) rfl ?_)))))))))
     exact (by exact congrArg (fun r : Bool => (.bool r : Value)) (show _ = (bm_ a) from bif_f h7 (bif_t h13 rfl)))
    ·skip
     refine W_f h13 rfl (aj_ (J8 _ _ (Rk fun K J => sE rfl (sV (.int .i64 2) rfl rfl (sE rfl (nl J (J6 _ _ (Un_s (fun K10 J10 => Sq fun K11 J11 => Rs fun K J => sE rfl (sV (.bool true) rfl rfl (nl J (bQ_ rfl (aj_ (J11 _ _ (Sq fun K12 J12 => ao_ ?_)))))))))))))))
     refine bV_ [8, 9, 10, 11, 12, 13, 14, 15, 16, 17, 18, 19, 20, 21, 22, 23, 24, 25, 26, 27, 28] (fun g M => (g 28 = .bool (!(ae_ a.z) || (decide (48 < (Z.bitsW a.z.n.dec).1) || decide (17 < (Z.bitsW a.z.d.dec).1)))) ∧ M = [⟨b1, 41, flat [pI a.x.n, pI a.x.d, pI a.y.n, pI a.y.d, pI a.z.n, pI a.z.d]⟩]) (fun K13 J13 => ?_) ?_
     ·skip
      refine Rk fun K J => sE rfl (sQ (qA ar_41 rfl rfl rfl) rfl (sQ (qL ty_39 rfl m0 rfl) rfl (sQ (q_ret en_51 (bo_ a.z) rfl) rfl (sE rfl ?_))))
      rcases bt (ae_ a.z) with h16 | h16
      ·skip
       refine sB (not_f h16) rfl (sE rfl (sQ (qA ar_41 rfl rfl rfl) rfl (sQ (qF cI_ rfl rfl) rfl (sQ (qL ty_37 rfl m0 rfl) rfl (sC (.int .i64 ((Z.bitsW a.z.n.dec).1)) en_52 (cT_ a.z.n.1 a.z.n.2) rfl rfl rfl (sE rfl (sE rfl ?_)))))))
       rcases bt (decide (48 < (Z.bitsW a.z.n.dec).1)) with h17 | h17
       ·skip
        refine sB h17 rfl (WL_n rfl (WL_n rfl (WL_n rfl (WL_n rfl (WL_n rfl (WL_n rfl (sE rfl (nl J ?_))))))))
        refine J13 _ _ (by repeat first | exact .refl | refine .cons rfl ?_) ⟨_, s0, ?s28, rfl⟩
        case s28 => exact congrArg Value.bool (nor_t h16 (or_t h17))
       ·skip
        refine sB h17 rfl (sE rfl (sQ (qA ar_41 rfl rfl rfl) rfl (sQ (qF b7_ rfl rfl) rfl (sQ (qL ty_37 rfl m0 rfl) rfl (sC (.int .i64 ((Z.bitsW a.z.d.dec).1)) en_52 (cT_ a.z.d.1 a.z.d.2) rfl rfl rfl (sE rfl (sE rfl (nl J ?_))))))))
        refine J13 _ _ (by repeat first | exact .refl | refine .cons rfl ?_) ⟨_, s0, ?s28, rfl⟩
        case s28 => exact congrArg Value.bool (nor_t h16 (or_f h17 rfl))
      ·skip
       refine sB (not_t h16) rfl (WL_n rfl (WL_n rfl (WL_n rfl (WL_n rfl (WL_n rfl (WL_n rfl (sE rfl (sE rfl (WL_n rfl (WL_n rfl (WL_n rfl (WL_n rfl (WL_n rfl (WL_n rfl (sE rfl (nl J ?_))))))))))))))))
       refine J13 _ _ (by repeat first | exact .refl | refine .cons rfl ?_) ⟨_, s0, ?s28, rfl⟩
       case s28 => exact congrArg Value.bool (nor_f h16)
     ·skip
      rintro g18 M ⟨hg28, rfl⟩
      simp only [setG, hg28]
      clear hg28
      rcases bt (!(ae_ a.z) || (decide (48 < (Z.bitsW a.z.n.dec).1) || decide (17 < (Z.bitsW a.z.d.dec).1))) with h19 | h19
      ·skip
       refine W_t h19 rfl (Rs fun K J => sE rfl (nl J (W_ret (aH_ (af_ (af_ (aH_ (af_ (ret1 rfl (.inr rfl) rfl ?_)))))))))
       exact (by exact congrArg (fun r : Bool => (.bool r : Value)) (show _ = (bm_ a) from bif_f h7 (bif_f h13 (bif_t h19 rfl))))
      ·skip
       refine W_f h19 rfl (aj_ (J12 _ _ (Rk fun K J => sE rfl (sV (.int .i64 3) rfl rfl (sE rfl (nl J (J10 _ _ (Un_s (fun K14 J14 => Sq fun K15 J15 => Rs fun K J => sE rfl (sV (.bool false) rfl rfl (nl J (bU_ rfl (bG_ (aw_ (aw_ (aC_ (J1 _ _ (Rs fun K J => sE rfl ?_))))))))))))))))))
       refine nl J (W_ret (ret1 rfl (.inr rfl) rfl ?_))
       exact (by exact congrArg (fun r : Bool => (.bool r : Value)) (show _ = (bm_ a) from bif_f h7 (bif_f h13 (bif_f h19 rfl))))

theorem do_ (a : (A3 W)) (b : W) (c : (A3 W)) :
    Ret Tryz.prog 48 [AV [ci .i64 a.x.1, ci .i64 a.y.1, ci .i64 a.z.1], .int .i64 b.1, AV [ci .i64 c.x.1, ci .i64 c.y.1, ci .i64 c.z.1]] (AV [pI ((aA_ a b c).n), pI ((aA_ a b c).d)]) := by
 refine as_ (N := 31) Tryz.func48 rfl rfl (by simp) (fun w0 => ?_)
 simp only [initF, Nat.reduceAdd]
 refine Rs fun K J => WL_r rfl (aQ_ rfl rfl (fun b1 hb1 => WL_r rfl (aQ_ rfl rfl (fun b2 hb2 => sN zp_39 rfl fun b3 hb3 => nl J (ds (sk (sk (sk (s0)))) [0,4,8,12,16,20,24,28,33,37] [9] mix (by kernel_rfl) (fun K J => pE rfl (pE rfl (pV (.int .i64 ((W.mul b b).1)) rfl rfl (pC (AV [pI (E (Z.of (W.mul b b).1))]) en_74 (aW_ (W.mul b b).1 (W.mul b b).2) rfl rfl rfl (pQ rfl (qL ty_23 rfl m2 rfl) (pQ rfl (qL ty_23 rfl m2 rfl) (pQ rfl (q_ret en_31 (ej_ a a) rfl) (pC (AV [pI (E (Z.mul (Z.of (W.mul b b).1) (a0_ a a).dec))]) en_80 (bt_ (E (Z.of (W.mul b b).1)).1 (a0_ a a).1 (E (Z.of (W.mul b b).1)).2 (a0_ a a).2) rfl rfl (cg2 (fun p q => AV [pI (E (Z.mul p q))]) (E_dec _) rfl) (PL_o rfl rfl (bw_ zp_37 (fun b4 hb4 => ⟨(fun _ => sd s0), (sd s0), oS [pI (E (Z.mul (Z.of (W.mul b b).1) (a0_ a a).dec))] ty_37 rfl rfl rfl rfl rfl rfl (.head _) rfl hb4 rfl (sd s0) (fl J (ds (sd (sk (sk (sk (s0))))) [0,4,8,13] [3] mix (by kernel_rfl) (fun K J => pQ rfl (qL ty_37 rfl m0 rfl) (pC (AV [pI (E (Z.of 65536))]) en_74 (aW_ (wl 65536).1 (wl 65536).2) rfl rfl rfl ?_))))⟩))))))))))))))))
 obtain ⟨r5, hr5⟩ := nm ((E (Z.mul (Z.mul (Z.of (W.mul b b).1) (a0_ a a).dec) (Z.of 65536))) : I)
 refine pC (AV [pI r5]) en_80 (bt_ (E (Z.mul (Z.of (W.mul b b).1) (a0_ a a).dec)).1 (E (Z.of 65536)).1 (E (Z.mul (Z.of (W.mul b b).1) (a0_ a a).dec)).2 (E (Z.of 65536)).2) rfl rfl ((cg2 (fun p q => AV [pI (E (Z.mul p q))]) (E_dec _) (E_dec _)).trans (by rw [hr5])) (oS [pI r5] ty_37 rfl rfl rfl rfl rfl rfl (.head _) rfl hb4 rfl (sd s0) (fl J (ds (sk (sk (sk (sk (s0))))) [0,4,8,12,16,21,25] [6] mix (by kernel_rfl) (fun K J => pC (AV [pI (E (Z.of 1000000))]) en_74 (aW_ (wl 1000000).1 (wl 1000000).2) rfl rfl rfl ?_))))
 refine pQ rfl (qL ty_23 rfl m2 rfl) (pQ rfl (qL ty_23 rfl m2 rfl) (pQ rfl (q_ret en_31 (ej_ c c) rfl) (pC (AV [pI (E (Z.mul (Z.of 1000000) (a0_ c c).dec))]) en_80 (bt_ (E (Z.of 1000000)).1 (a0_ c c).1 (E (Z.of 1000000)).2 (a0_ c c).2) rfl rfl (cg2 (fun p q => AV [pI (E (Z.mul p q))]) (E_dec _) rfl) (PL_o rfl rfl (bw_ zp_37 (fun b6 hb6 => ⟨(fun _ => sd s0), (sd s0), oS [pI (E (Z.mul (Z.of 1000000) (a0_ c c).dec))] ty_37 rfl rfl rfl rfl rfl rfl (.head _) rfl hb6 rfl (sd s0) (fl J (Rs fun K J => sQ (qL ty_37 rfl m1 rfl) rfl (sQ (qL ty_37 rfl m0 rfl) rfl ?_)))⟩))))))
 obtain ⟨r7, hr7⟩ := nm ((E (Z.quo r5.dec (Z.mul (Z.of 1000000) (a0_ c c).dec))) : I)
 refine sC (AV [pI r7]) en_78 (bB_ r5.1 (E (Z.mul (Z.of 1000000) (a0_ c c).dec)).1 r5.2 (E (Z.mul (Z.of 1000000) (a0_ c c).dec)).2) rfl rfl ((cg2 (fun p q => AV [pI (E (Z.quo p q))]) rfl (E_dec _)).trans (by rw [hr7])) (sC (AV [pI (E (Z.sqrt r7.dec))]) en_99 (gm_ r7.1 r7.2) rfl rfl rfl (sC (AV [pI (E (Z.of 256))]) en_74 (aW_ (wl 256).1 (wl 256).2) rfl rfl rfl ?_))
 obtain ⟨r8, hr8⟩ := nm ((ai_ (E (Z.sqrt r7.dec)) (E (Z.of 256))) : Rt)
 refine sC (AV [pI r8.n, pI r8.d]) en_73 (b9_ (E (Z.sqrt r7.dec)) (E (Z.of 256))) rfl rfl (by rw [hr8]; first | done | rfl) (sS [pI r8.n, pI r8.d] ty_39 rfl rfl rfl rfl rfl (.tail _ (.tail _ (.head _))) rfl hb3 (nl J (W_ret (ret1 rfl (.inr rfl) (resP rfl m2 ty_39 rfl) ?_))))
 exact (by subst hr8; subst hr7; subst hr5; rfl)

theorem fI_ (a : (A3 W)) (b : W) (w : World)  :
    Calls Tryz.prog 11 [AV [ci .i64 a.x.1, ci .i64 a.y.1, ci .i64 a.z.1], .int .i64 b.1].toArray w (fun e w' => ∃ v, e = .returned (.agg #[v, .int .i64 (((aJ_ a b).e).1)]) ∧ Ext w w' ∧ Slfe w.heap.size w' elVr v (aJ_ a b).l) := by
 refine fv_ (n := 57) (fun v => .agg #[v, .int .i64 (((aJ_ a b).e).1)]) Tryz.func11 rfl rfl (by simp) ?_
 obtain ⟨w0, rfl⟩ : ∃ w0, w0 = w := ⟨_, rfl⟩
 simp only [initF, Nat.reduceAdd]
 refine Rs fun K J => WL_r rfl (aQ_ rfl rfl (fun b1 hb1 => sN zp_29 rfl fun b2 hb2 => nl J (Rs fun K J => sQ (qL ty_23 rfl m1 rfl) rfl (sE rfl (sQ (q_ret en_23 (dP_ a b) rfl) rfl (sE rfl (nl J (Sq fun K1 J1 => Rs fun K J => sE rfl (sE rfl (nl J ?_))))))))))
 rcases bt (a3_ a b) with h3 | h3
 ·skip
  refine W_f (not_f h3) rfl (aj_ (J1 _ _ (Rs fun K J => sQ (qL ty_23 rfl m1 rfl) rfl ?_)))
  obtain ⟨r4, hr4⟩ := nm ((bf_ a) : (A3 Rt))
  refine sC (AV [pI r4.x.n, pI r4.x.d, pI r4.y.n, pI r4.y.d, pI r4.z.n, pI r4.z.d]) en_32 (db_ a) rfl rfl (by rw [hr4]; first | done | rfl) (sN zp_41 rfl fun b5 hb5 => sS [pI r4.x.n, pI r4.x.d, pI r4.y.n, pI r4.y.d, pI r4.z.n, pI r4.z.d] ty_41 rfl rfl rfl rfl rfl (.head _) rfl hb5 (nl J (Sq fun K2 J2 => Rs fun K J => sE rfl (sE rfl (nl J ?_)))))
  rcases bt (b.1 == 0) with h6 | h6
  ·skip
   refine W_t h6 rfl (Rs fun K J => sQ (qL ty_41 rfl m0 rfl) rfl (WL_r rfl (b1_ [[pI r4.x.n, pI r4.x.d, pI r4.y.n, pI r4.y.d, pI r4.z.n, pI r4.z.d]] [pI r4.x.n, pI r4.x.d, pI r4.y.n, pI r4.y.d, pI r4.z.n, pI r4.z.d] us_24 z_41 sz_41 rfl (by decide) rfl rfl ⟨rfl, rfl, rfl, trivial⟩ rfl (fun b7 hb7 => sQ (b2_ zp_29 pl_29 rfl (.cons [csl (some ⟨b7, 0, none⟩) 1 1] [csl (some ⟨b7, 0, none⟩) 1 1, ci .i64 0] rfl rfl rfl rfl (.nil _))) rfl (sS [csl (some ⟨b7, 0, none⟩) 1 1, ci .i64 0] ty_29 rfl rfl rfl rfl rfl (.tail _ (.tail _ (.head _))) rfl hb2 (nl J (W_ret (af_ (ret1 rfl (.inr rfl) (resP rfl m2 ty_29 rfl) ?_)))))))))
   have hE : ((⟨[r4], (wl 0)⟩ : Edg) : Edg) = (aJ_ a b) := by subst hr4; exact bif_t h3 (bif_t h6 rfl)
   rw [← hE]
   exact ⟨_, rfl, (SLfe.lit (e := elVr) (l := [r4]) hb7 m0 rfl (Nat.le_of_ble_eq_true rfl) rfl)⟩
  ·skip
   refine W_f h6 rfl (aj_ (J2 _ _ (Rs fun K J => sQ (qL ty_23 rfl m2 rfl) rfl ?_)))
   obtain ⟨r8, hr8⟩ := nm ((av_ a).1 : (A3 W))
   obtain ⟨r9, hr9⟩ := nm ((av_ a).2 : (A3 W))
   refine sC (.tuple #[AV [ci .i64 r8.x.1, ci .i64 r8.y.1, ci .i64 r8.z.1], AV [ci .i64 r9.x.1, ci .i64 r9.y.1, ci .i64 r9.z.1]]) en_36 (eq_ a) rfl rfl (by rw [hr8, hr9]; first | done | rfl) (sE rfl (sE rfl (sE rfl (sN zp_23 rfl fun b10 hb10 => sN zp_23 rfl fun b11 hb11 => sS [ci .i64 r8.x.1, ci .i64 r8.y.1, ci .i64 r8.z.1] ty_23 rfl rfl rfl rfl rfl (.tail _ (.head _)) rfl hb10 (sS [ci .i64 r9.x.1, ci .i64 r9.y.1, ci .i64 r9.z.1] ty_23 rfl rfl rfl rfl rfl (.head _) rfl hb11 (nl J (ds (sk (sk (sk (sk (sk (s0)))))) [0,4,8,12,16,20,24,29,33] [8] mix (by kernel_rfl) (fun K J => pQ rfl (qL ty_23 rfl m4 rfl) (pE rfl (pQ rfl (qL ty_23 rfl m1 rfl) (pQ rfl (q_ret en_48 (do_ a b r8) rfl) (pQ rfl (qL ty_23 rfl m1 rfl) ?_))))))))))))
   obtain ⟨r12, hr12⟩ := nm ((bf_ r8) : (A3 Rt))
   refine pC (AV [pI r12.x.n, pI r12.x.d, pI r12.y.n, pI r12.y.d, pI r12.z.n, pI r12.z.d]) en_32 (db_ r8) rfl rfl (by rw [hr12]; first | done | rfl) ?_
   obtain ⟨r13, hr13⟩ := nm ((bl_ (aA_ a b r8) r12) : (A3 Rt))
   refine pC (AV [pI r13.x.n, pI r13.x.d, pI r13.y.n, pI r13.y.d, pI r13.z.n, pI r13.z.d]) en_34 (d3_ (aA_ a b r8) r12) rfl rfl (by rw [hr13]; first | done | rfl) (PL_o rfl rfl (bw_ zp_41 (fun b14 hb14 => ⟨(fun _ => sd s0), (sd s0), oS [pI r13.x.n, pI r13.x.d, pI r13.y.n, pI r13.y.d, pI r13.z.n, pI r13.z.d] ty_41 rfl rfl rfl rfl rfl rfl (.head _) rfl hb14 rfl (sd s0) (fl J (ds (sk (sk (sd (sk (sk (sk (s0))))))) [0,4,8,12,16,20,24,29,33] [8] mix (by kernel_rfl) (fun K J => pQ rfl (qL ty_23 rfl m5 rfl) (pE rfl (pQ rfl (qL ty_23 rfl m1 rfl) (pQ rfl (q_ret en_48 (do_ a b r9) rfl) (pQ rfl (qL ty_23 rfl m1 rfl) ?_)))))))⟩)))
   obtain ⟨r15, hr15⟩ := nm ((bf_ r9) : (A3 Rt))
   refine pC (AV [pI r15.x.n, pI r15.x.d, pI r15.y.n, pI r15.y.d, pI r15.z.n, pI r15.z.d]) en_32 (db_ r9) rfl rfl (by rw [hr15]; first | done | rfl) ?_
   obtain ⟨r16, hr16⟩ := nm ((bl_ (aA_ a b r9) r15) : (A3 Rt))
   refine pC (AV [pI r16.x.n, pI r16.x.d, pI r16.y.n, pI r16.y.d, pI r16.z.n, pI r16.z.d]) en_34 (d3_ (aA_ a b r9) r15) rfl rfl (by rw [hr16]; first | done | rfl) (PL_o rfl rfl (bw_ zp_41 (fun b17 hb17 => ⟨(fun _ => sd s0), (sd (sk (sk (sd s0)))), oS [pI r16.x.n, pI r16.x.d, pI r16.y.n, pI r16.y.d, pI r16.z.n, pI r16.z.d] ty_41 rfl rfl rfl rfl rfl rfl (.head _) rfl hb17 rfl (sd (sk (sk (sd s0)))) (fl J (ds (sk (sk (sk (sk (sk (sd (sk (s0)))))))) [0,4,8,12,16,20,24,28,32,36,40,44,49,52,57] [14] mix (by kernel_rfl) (fun K J => pQ rfl (qL ty_41 rfl m4 rfl) (pQ rfl (qL ty_41 rfl m1 rfl) ?_))))⟩)))
   obtain ⟨r18, hr18⟩ := nm ((bs_ r4 r13) : (A3 Rt))
   refine pC (AV [pI r18.x.n, pI r18.x.d, pI r18.y.n, pI r18.y.d, pI r18.z.n, pI r18.z.d]) en_33 (eb_ r4 r13) rfl rfl (by rw [hr18]; first | done | rfl) (pQ rfl (qL ty_41 rfl m4 rfl) (pQ rfl (qL ty_41 rfl m1 rfl) ?_))
   obtain ⟨r19, hr19⟩ := nm ((bC_ r4 r13) : (A3 Rt))
   refine pC (AV [pI r19.x.n, pI r19.x.d, pI r19.y.n, pI r19.y.d, pI r19.z.n, pI r19.z.d]) en_35 (eL_ r4 r13) rfl rfl (by rw [hr19]; first | done | rfl) (pQ rfl (qL ty_41 rfl m4 rfl) (pQ rfl (qL ty_41 rfl m0 rfl) ?_))
   obtain ⟨r20, hr20⟩ := nm ((bs_ r4 r16) : (A3 Rt))
   refine pC (AV [pI r20.x.n, pI r20.x.d, pI r20.y.n, pI r20.y.d, pI r20.z.n, pI r20.z.d]) en_33 (eb_ r4 r16) rfl rfl (by rw [hr20]; first | done | rfl) (pQ rfl (qL ty_41 rfl m4 rfl) (pQ rfl (qL ty_41 rfl m0 rfl) ?_))
   obtain ⟨r21, hr21⟩ := nm ((bC_ r4 r16) : (A3 Rt))
   refine pC (AV [pI r21.x.n, pI r21.x.d, pI r21.y.n, pI r21.y.d, pI r21.z.n, pI r21.z.d]) en_35 (eL_ r4 r16) rfl rfl (by rw [hr21]; first | done | rfl) (PL_o rfl rfl (b1_ [[pI r18.x.n, pI r18.x.d, pI r18.y.n, pI r18.y.d, pI r18.z.n, pI r18.z.d], [pI r19.x.n, pI r19.x.d, pI r19.y.n, pI r19.y.d, pI r19.z.n, pI r19.z.d], [pI r20.x.n, pI r20.x.d, pI r20.y.n, pI r20.y.d, pI r20.z.n, pI r20.z.d], [pI r21.x.n, pI r21.x.d, pI r21.y.n, pI r21.y.d, pI r21.z.n, pI r21.z.d]] [pI r18.x.n, pI r18.x.d, pI r18.y.n, pI r18.y.d, pI r18.z.n, pI r18.z.d, pI r19.x.n, pI r19.x.d, pI r19.y.n, pI r19.y.d, pI r19.z.n, pI r19.z.d, pI r20.x.n, pI r20.x.d, pI r20.y.n, pI r20.y.d, pI r20.z.n, pI r20.z.d, pI r21.x.n, pI r21.x.d, pI r21.y.n, pI r21.y.d, pI r21.z.n, pI r21.z.d] us_24 z_41 sz_41 rfl (by decide) rfl rfl ⟨rfl, rfl, rfl, rfl, rfl, rfl, rfl, rfl, rfl, rfl, rfl, rfl, trivial⟩ rfl (fun b22 hb22 => ⟨(fun _ => sd s0), (sd (sk (sk (sk (sk (sk (sd s0))))))), pQ rfl (b2_ zp_29 pl_29 rfl (.cons [csl (some ⟨b22, 0, none⟩) 4 4] [csl (some ⟨b22, 0, none⟩) 4 4, ci .i64 0] rfl rfl rfl rfl (.nil _))) (oS [csl (some ⟨b22, 0, none⟩) 4 4, ci .i64 0] ty_29 rfl rfl rfl rfl rfl rfl (.tail _ (.tail _ (.tail _ (.tail _ (.tail _ (.tail _ (.head _))))))) rfl hb2 rfl (sd (sk (sk (sk (sk (sk (sd s0))))))) (fl J (W_ret (ret1 rfl (.inr rfl) (resP rfl m6 ty_29 rfl) ?_))))⟩)))
   have hE : ((⟨[r18, r19, r20, r21], (wl 0)⟩ : Edg) : Edg) = (aJ_ a b) := by subst hr21; subst hr20; subst hr19; subst hr18; subst hr16; subst hr15; subst hr13; subst hr12; subst hr9; subst hr8; subst hr4; exact bif_t h3 (bif_f h6 rfl)
   rw [← hE]
   exact ⟨_, rfl, (SLfe.lit (e := elVr) (l := [r18, r19, r20, r21]) hb22 m0 rfl (Nat.le_of_ble_eq_true rfl) rfl)⟩
 ·skip
  refine W_t (not_t h3) rfl (Rs fun K J => sQ (b2_ zp_29 pl_29 rfl (.cons [ci .i64 1] [csl none 0 0, ci .i64 1] rfl rfl rfl rfl (.nil _))) rfl (sS [csl none 0 0, ci .i64 1] ty_29 rfl rfl rfl rfl rfl (.head _) rfl hb2 (nl J (W_ret (af_ (ret1 rfl (.inr rfl) (resP rfl m0 ty_29 rfl) ?_))))))
  have hE : ((⟨([] : List (A3 Rt)), (wl 1)⟩ : Edg) : Edg) = (aJ_ a b) := by exact bif_f h3 rfl
  rw [← hE]
  exact ⟨_, rfl, SLfe.nil⟩

theorem fR_ (a : (A3 W)) (b : W) (c : (A3 Rt)) :
    Ret Tryz.prog 18 [AV [ci .i64 a.x.1, ci .i64 a.y.1, ci .i64 a.z.1], .int .i64 b.1, AV [pI c.x.n, pI c.x.d, pI c.y.n, pI c.y.d, pI c.z.n, pI c.z.d]] (.bool (b8_ a b c)) := by
 refine as_ (N := 46) Tryz.func18 rfl rfl (by simp) (fun w0 => ?_)
 simp only [initF, Nat.reduceAdd]
 refine Rs fun K J => WL_r rfl (aQ_ rfl rfl (fun b1 hb1 => WL_r rfl (aQ_ rfl rfl (fun b2 hb2 => sE rfl (nl J (Rs fun K J => sQ (qL ty_23 rfl m1 rfl) rfl (sE rfl (sQ (q_ret en_23 (dP_ a b) rfl) rfl (sE rfl (nl J (Rs fun K J => sQ (qL ty_23 rfl m1 rfl) rfl (sQ (qL ty_41 rfl m0 rfl) rfl (sQ (q_ret en_29 (eN_ a c) rfl) rfl (sN zp_39 rfl fun b3 hb3 => sS [pI ((aV_ a c).n), pI ((aV_ a c).d)] ty_39 rfl rfl rfl rfl rfl (.head _) rfl hb3 (nl J (Sq fun K1 J1 => ?_))))))))))))))))
 refine bV_ [18, 19, 20, 21, 22, 23, 24] (fun g M => (g 24 = .bool (!(a3_ a b) || decide ((aL_ (aV_ a c)).1 < 0))) ∧ M = [⟨b3, 39, flat [pI ((aV_ a c).n), pI ((aV_ a c).d)]⟩, ⟨b2, 41, flat [pI c.x.n, pI c.x.d, pI c.y.n, pI c.y.d, pI c.z.n, pI c.z.d]⟩, ⟨b1, 23, flat [ci .i64 a.x.1, ci .i64 a.y.1, ci .i64 a.z.1]⟩]) (fun K2 J2 => ?_) ?_
 ·skip
  refine Rk fun K J => sE rfl (sE rfl ?_)
  rcases bt (a3_ a b) with h5 | h5
  ·skip
   refine sB (not_f h5) rfl (sQ (qL ty_39 rfl m0 rfl) rfl (sQ (q_ret en_26 (cC_ (aV_ a c)) rfl) rfl (sE rfl (sE rfl (nl J ?_)))))
   refine J2 _ _ (by repeat first | exact .refl | refine .cons rfl ?_) ⟨_, s0, ?s24, rfl⟩
   case s24 => exact congrArg Value.bool (nor_t h5 rfl)
  ·skip
   refine sB (not_t h5) rfl (WL_n rfl (WL_n rfl (WL_n rfl (sE rfl (nl J ?_)))))
   refine J2 _ _ (by repeat first | exact .refl | refine .cons rfl ?_) ⟨_, s0, ?s24, rfl⟩
   case s24 => exact congrArg Value.bool (nor_f h5)
 ·skip
  rintro g6 M ⟨hg24, rfl⟩
  simp only [setG, hg24]
  clear hg24
  rcases bt (!(a3_ a b) || decide ((aL_ (aV_ a c)).1 < 0)) with h7 | h7
  ·skip
   refine W_t h7 rfl (Rs fun K J => sE rfl (nl J (W_ret (af_ (ret1 rfl (.inr rfl) rfl ?_)))))
   exact (by exact congrArg (fun r : Bool => (.bool r : Value)) (show _ = (b8_ a b c) from bif_t h7 rfl))
  ·skip
   refine W_f h7 rfl (aj_ (J1 _ _ (ds (sk (sk (sk (s0)))) [0,4,8,12,17,21] [5] mix (by kernel_rfl) (fun K J => pQ rfl (qL ty_41 rfl m1 rfl) (pQ rfl (qL ty_23 rfl m2 rfl) ?_)))))
   obtain ⟨r8, hr8⟩ := nm ((bf_ a) : (A3 Rt))
   refine pC (AV [pI r8.x.n, pI r8.x.d, pI r8.y.n, pI r8.y.d, pI r8.z.n, pI r8.z.d]) en_32 (db_ a) rfl rfl (by rw [hr8]; first | done | rfl) ?_
   obtain ⟨r9, hr9⟩ := nm ((b6_ c r8) : (A3 Rt))
   refine pC (AV [pI r9.x.n, pI r9.x.d, pI r9.y.n, pI r9.y.d, pI r9.z.n, pI r9.z.d]) en_71 (f4_ c r8) rfl rfl (by rw [hr9]; first | done | rfl) (PL_o rfl rfl (bw_ zp_41 (fun b10 hb10 => ⟨(fun _ => sd s0), (sd s0), oS [pI r9.x.n, pI r9.x.d, pI r9.y.n, pI r9.y.d, pI r9.z.n, pI r9.z.d] ty_41 rfl rfl rfl rfl rfl rfl (.head _) rfl hb10 rfl (sd s0) (fl J (ds (sd (sk (sk (sk (s0))))) [0,4,8,12,16,21,25] [6] mix (by kernel_rfl) (fun K J => pQ rfl (q_ret en_25 (cl_ (wl 1000000)) rfl) ?_)))⟩)))
   refine pQ rfl (qL ty_41 rfl m0 rfl) (pQ rfl (qL ty_41 rfl m0 rfl) (pQ rfl (q_ret en_39 (eE_ r9 r9) rfl) ?_))
   obtain ⟨r11, hr11⟩ := nm ((ah_ (ac_ (wl 1000000)) (b5_ r9 r9)) : Rt)
   refine pC (AV [pI r11.n, pI r11.d]) en_38 (bv_ (ac_ (wl 1000000)) (b5_ r9 r9)) rfl rfl (by rw [hr11]; first | done | rfl) ?_
   refine PL_o rfl rfl (bw_ zp_39 (fun b12 hb12 => ⟨(fun _ => sd s0), (sd (sd s0)), oS [pI r11.n, pI r11.d] ty_39 rfl rfl rfl rfl rfl rfl (.head _) rfl hb12 rfl (sd (sd s0)) (fl J (ds (sk (sk (sk (sk (sk (s0)))))) [0,4,8,12,16,20,24,28,33,37] [9] mix (by kernel_rfl) (fun K J => pE rfl (pE rfl (pV (.int .i64 ((W.mul b b).1)) rfl rfl (pQ rfl (q_ret en_25 (cl_ (W.mul b b)) rfl) (pQ rfl (qL ty_39 rfl m2 rfl) (pQ rfl (qL ty_39 rfl m2 rfl) ?_))))))))⟩))
   obtain ⟨r13, hr13⟩ := nm ((ah_ (aV_ a c) (aV_ a c)) : Rt)
   refine pC (AV [pI r13.n, pI r13.d]) en_38 (bv_ (aV_ a c) (aV_ a c)) rfl rfl (by rw [hr13]; first | done | rfl) ?_
   obtain ⟨r14, hr14⟩ := nm ((ah_ (ac_ (W.mul b b)) r13) : Rt)
   refine pC (AV [pI r14.n, pI r14.d]) en_38 (bv_ (ac_ (W.mul b b)) r13) rfl rfl (by rw [hr14]; first | done | rfl) (PL_o rfl rfl (bw_ zp_39 (fun b15 hb15 => ⟨(fun _ => sd s0), (sd s0), oS [pI r14.n, pI r14.d] ty_39 rfl rfl rfl rfl rfl rfl (.head _) rfl hb15 rfl (sd s0) (fl J (Rs fun K J => sQ (qL ty_39 rfl m1 rfl) rfl (sQ (qL ty_39 rfl m0 rfl) rfl (sQ (q_ret en_72 (gD_ r11 r14) rfl) rfl (sE rfl (sE rfl (nl J (W_ret (ret1 rfl (.inr rfl) rfl ?_)))))))))⟩)))
   exact (by subst hr14; subst hr13; subst hr11; subst hr9; subst hr8; exact congrArg (fun r : Bool => (.bool r : Value)) (show _ = (b8_ a b c) from bif_f h7 rfl))

theorem d0_ (a : (A3 W)) (b : (A3 Rt)) :
    Ret Tryz.prog 53 [AV [ci .i64 a.x.1, ci .i64 a.y.1, ci .i64 a.z.1], AV [pI b.x.n, pI b.x.d, pI b.y.n, pI b.y.d, pI b.z.n, pI b.z.d]] (AV [pI ((al_ a b).n), pI ((al_ a b).d)]) := by
 refine as_ (N := 13) Tryz.func53 rfl rfl (by simp) (fun w0 => ?_)
 simp only [initF, Nat.reduceAdd]
 refine Rs fun K J => WL_r rfl (aQ_ rfl rfl (fun b1 hb1 => WL_r rfl (aQ_ rfl rfl (fun b2 hb2 => sN zp_39 rfl fun b3 hb3 => nl J (ds (sd (sk (sk (s0)))) [0,4,8,12,16,20,24,28,33] [8] mix (by kernel_rfl) (fun K J => pQ rfl (qL ty_23 rfl m2 rfl) (pQ rfl (qL ty_41 rfl m1 rfl) (pQ rfl (q_ret en_29 (eN_ a b) rfl) (pQ rfl (qL ty_23 rfl m2 rfl) (pQ rfl (qL ty_23 rfl m2 rfl) (pQ rfl (q_ret en_31 (ej_ a a) rfl) ?_)))))))))))
 obtain ⟨r4, hr4⟩ := nm ((dh_ (a0_ a a)) : Rt)
 refine pC (AV [pI r4.n, pI r4.d]) en_30 (ge_ (a0_ a a)) rfl rfl (by rw [hr4]; first | done | rfl) ?_
 obtain ⟨r5, hr5⟩ := nm ((bL_ (aV_ a b) r4) : Rt)
 refine pC (AV [pI r5.n, pI r5.d]) en_28 (fd_ (aV_ a b) r4) rfl rfl (by rw [hr5]; first | done | rfl) (oS [pI r5.n, pI r5.d] ty_39 rfl rfl rfl rfl rfl rfl (.head _) rfl hb3 rfl (sd s0) (fl J (W_ret (ret1 rfl (.inr rfl) (resP rfl m0 ty_39 rfl) ?_))))
 exact (by subst hr5; subst hr4; rfl)

theorem eH_ (a : Rt) (b : Rt) :
    Ret Tryz.prog 54 [AV [pI a.n, pI a.d], AV [pI b.n, pI b.d]] (.tuple #[AV [pI (((aR_ a b).1).n), pI (((aR_ a b).1).d)], .bool ((aR_ a b).2)]) := by
 refine as_ (N := 18) Tryz.func54 rfl rfl (by simp) (fun w0 => ?_)
 simp only [initF, Nat.reduceAdd]
 refine Rs fun K J => WL_r rfl (aQ_ rfl rfl (fun b1 hb1 => WL_r rfl (aQ_ rfl rfl (fun b2 hb2 => sN zp_39 rfl fun b3 hb3 => sE rfl (nl J (Sq fun K1 J1 => Rs fun K J => sQ (qL ty_39 rfl m2 rfl) rfl (sQ (q_ret en_26 (cC_ a) rfl) rfl (sE rfl (nl J ?_)))))))))
 rcases bt ((aL_ a).1 == 0) with h4 | h4
 ·skip
  refine W_t h4 rfl (Rs fun K J => sQ (q_ret en_25 (cl_ (wl 0)) rfl) rfl ?_)
  refine sS [pI ((ac_ (wl 0)).n), pI ((ac_ (wl 0)).d)] ty_39 rfl rfl rfl rfl rfl (.head _) rfl hb3 ?_
  refine sE rfl (nl J (W_ret (af_ (ret2 rfl (.inr rfl) (resP rfl m0 ty_39 rfl) rfl ?_))))
  exact (by exact congrArg (fun r : Rt × Bool => (.tuple #[AV [pI r.1.n, pI r.1.d], .bool r.2] : Value)) (show _ = (aR_ a b) from bif_t h4 rfl))
 ·skip
  refine W_f h4 rfl (aj_ (J1 _ _ (Sq fun K2 J2 => Rs fun K J => sQ (qL ty_39 rfl m1 rfl) rfl (sQ (q_ret en_26 (cC_ b) rfl) rfl (sE rfl (nl J ?_))))))
  rcases bt ((aL_ b).1 == 0) with h5 | h5
  ·skip
   refine W_t h5 rfl (Rs fun K J => sQ (q_ret en_25 (cl_ (wl 0)) rfl) rfl ?_)
   refine sS [pI ((ac_ (wl 0)).n), pI ((ac_ (wl 0)).d)] ty_39 rfl rfl rfl rfl rfl (.head _) rfl hb3 ?_
   refine sE rfl (nl J (W_ret (af_ (ret2 rfl (.inr rfl) (resP rfl m0 ty_39 rfl) rfl ?_))))
   exact (by exact congrArg (fun r : Rt × Bool => (.tuple #[AV [pI r.1.n, pI r.1.d], .bool r.2] : Value)) (show _ = (aR_ a b) from bif_f h4 (bif_t h5 rfl)))
  ·skip
   refine W_f h5 rfl (aj_ (J2 _ _ (ds (sd (sk (sk (s0)))) [0,4,8,12,17,20] [4] mix (by kernel_rfl) (fun K J => pQ rfl (qL ty_39 rfl m2 rfl) (pQ rfl (q_ret sb_ (gz_ a) rfl) (pQ rfl (qL ty_39 rfl m1 rfl) ?_))))))
   obtain ⟨r6, hr6⟩ := nm ((bL_ (bz_ a) b) : Rt)
   refine pC (AV [pI r6.n, pI r6.d]) en_28 (fd_ (bz_ a) b) rfl rfl (by rw [hr6]; first | done | rfl) (oS [pI r6.n, pI r6.d] ty_39 rfl rfl rfl rfl rfl rfl (.head _) rfl hb3 rfl (sd s0) (pE rfl (fl J (W_ret (ret2 rfl (.inr rfl) (resP rfl m0 ty_39 rfl) rfl ?_)))))
   exact (by subst hr6; exact congrArg (fun r : Rt × Bool => (.tuple #[AV [pI r.1.n, pI r.1.d], .bool r.2] : Value)) (show _ = (aR_ a b) from bif_f h4 (bif_f h5 rfl)))

theorem fX_ (a : (A3 W)) (b : W) (c : (A3 Rt)) (w : World)  :
    Calls Tryz.prog 15 [AV [ci .i64 a.x.1, ci .i64 a.y.1, ci .i64 a.z.1], .int .i64 b.1, AV [pI c.x.n, pI c.x.d, pI c.y.n, pI c.y.d, pI c.z.n, pI c.z.d]].toArray w (fun e w' => ∃ v, e = .returned (.agg #[v, .bool ((ax_ a b c).is)]) ∧ Ext w w' ∧ Slfe w.heap.size w' elRt v (ax_ a b c).l) := by
 refine fv_ (n := 112) (fun v => .agg #[v, .bool ((ax_ a b c).is)]) Tryz.func15 rfl rfl (by simp) ?_
 obtain ⟨w0, rfl⟩ : ∃ w0, w0 = w := ⟨_, rfl⟩
 simp only [initF, Nat.reduceAdd]
 refine Rs fun K J => WL_r rfl (aQ_ rfl rfl (fun b1 hb1 => WL_r rfl (aQ_ rfl rfl (fun b2 hb2 => sN zp_45 rfl fun b3 hb3 => nl J (Rs fun K J => sQ (qL ty_23 rfl m2 rfl) rfl (sE rfl (sQ (q_ret en_23 (dP_ a b) rfl) rfl (sE rfl (nl J (Sq fun K1 J1 => Rs fun K J => sE rfl (sE rfl (nl J ?_))))))))))))
 rcases bt (a3_ a b) with h4 | h4
 ·skip
  refine W_f (not_f h4) rfl (aj_ (J1 _ _ (Rs fun K J => sQ (qL ty_23 rfl m2 rfl) rfl ?_)))
  obtain ⟨r5, hr5⟩ := nm ((av_ a).1 : (A3 W))
  obtain ⟨r6, hr6⟩ := nm ((av_ a).2 : (A3 W))
  refine sC (.tuple #[AV [ci .i64 r5.x.1, ci .i64 r5.y.1, ci .i64 r5.z.1], AV [ci .i64 r6.x.1, ci .i64 r6.y.1, ci .i64 r6.z.1]]) en_36 (eq_ a) rfl rfl (by rw [hr5, hr6]; first | done | rfl) (sE rfl (sE rfl (sE rfl (sN zp_23 rfl fun b7 hb7 => sN zp_23 rfl fun b8 hb8 => sS [ci .i64 r5.x.1, ci .i64 r5.y.1, ci .i64 r5.z.1] ty_23 rfl rfl rfl rfl rfl (.tail _ (.head _)) rfl hb7 (sS [ci .i64 r6.x.1, ci .i64 r6.y.1, ci .i64 r6.z.1] ty_23 rfl rfl rfl rfl rfl (.head _) rfl hb8 (nl J (Rs fun K J => sQ (qL ty_23 rfl m1 rfl) rfl (sQ (qL ty_41 rfl m3 rfl) rfl (sQ (q_ret en_53 (d0_ r5 c) rfl) rfl (sN zp_39 rfl fun b9 hb9 => sS [pI ((al_ r5 c).n), pI ((al_ r5 c).d)] ty_39 rfl rfl rfl rfl rfl (.head _) rfl hb9 (nl J (Rs fun K J => sQ (qL ty_23 rfl m1 rfl) rfl (sQ (qL ty_41 rfl m4 rfl) rfl (sQ (q_ret en_53 (d0_ r6 c) rfl) rfl ?_))))))))))))))
  refine sN zp_39 rfl fun b10 hb10 => sS [pI ((al_ r6 c).n), pI ((al_ r6 c).d)] ty_39 rfl rfl rfl rfl rfl (.head _) rfl hb10 (nl J (ds (sk (sk (sk (sk (sk (sk (sk (s0)))))))) [0,4,8,12,16,20,24,28,34,37,41,44] [10] mix (by kernel_rfl) (fun K J => pQ rfl (qL ty_39 rfl m1 rfl) (pQ rfl (qL ty_23 rfl m6 rfl) (pE rfl (pQ rfl (qL ty_23 rfl m3 rfl) (pQ rfl (q_ret en_48 (do_ a b r5) rfl) ?_)))))))
  obtain ⟨r11, hr11⟩ := nm ((aR_ (al_ r5 c) (aA_ a b r5)).1 : Rt)
  refine pC (.tuple #[AV [pI r11.n, pI r11.d], .bool ((aR_ (al_ r5 c) (aA_ a b r5)).2)]) en_54 (eH_ (al_ r5 c) (aA_ a b r5)) rfl rfl (by rw [hr11]; first | done | rfl) (pE rfl (pE rfl (tE rfl (PL_o rfl rfl (bw_ zp_39 (fun b12 hb12 => ⟨(fun _ => sd s0), (sd s0), oS [pI r11.n, pI r11.d] ty_39 rfl rfl rfl rfl rfl rfl (.head _) rfl hb12 rfl (sd s0) (pE rfl (fl J (ds (sk (sk (sk (sk (sk (sk (sk (sk (s0))))))))) [0,4,8,12,16,20,24,28,34,37,41,44] [10] mix (by kernel_rfl) (fun K J => pQ rfl (qL ty_39 rfl m1 rfl) (pQ rfl (qL ty_23 rfl m7 rfl) (pE rfl (pQ rfl (qL ty_23 rfl m3 rfl) (pQ rfl (q_ret en_48 (do_ a b r6) rfl) ?_))))))))⟩))))))
  obtain ⟨r13, hr13⟩ := nm ((aR_ (al_ r6 c) (aA_ a b r6)).1 : Rt)
  refine pC (.tuple #[AV [pI r13.n, pI r13.d], .bool ((aR_ (al_ r6 c) (aA_ a b r6)).2)]) en_54 (eH_ (al_ r6 c) (aA_ a b r6)) rfl rfl (by rw [hr13]; first | done | rfl) (pE rfl (pE rfl (tE rfl (PL_o rfl rfl (bw_ zp_39 (fun b14 hb14 => ⟨(fun _ => sd s0), (sd s0), oS [pI r13.n, pI r13.d] ty_39 rfl rfl rfl rfl rfl rfl (.head _) rfl hb14 rfl (sd s0) (pE rfl (fl J (ds (sk (sk (sk (sk (sk (sk (sk (sk (sk (s0)))))))))) [0,4,8,12,16,20,24,29,33] [8] mix (by kernel_rfl) (fun K J => pQ rfl (qL ty_23 rfl m8 rfl) (pQ rfl (qL ty_41 rfl m7 rfl) (pQ rfl (q_ret en_53 (d0_ a c) rfl) (pQ rfl (qL ty_39 rfl m1 rfl) ?_)))))))⟩))))))
  obtain ⟨r15, hr15⟩ := nm ((ak_ (al_ a c) r11) : Rt)
  refine pC (AV [pI r15.n, pI r15.d]) en_55 (c3_ (al_ a c) r11) rfl rfl (by rw [hr15]; first | done | rfl) (pQ rfl (qL ty_39 rfl m0 rfl) (pQ rfl (q_ret en_55 (c3_ r15 r13) rfl) (PL_o rfl rfl (bw_ zp_39 (fun b16 hb16 => ⟨(fun _ => sd s0), (sd s0), oS [pI ((ak_ r15 r13).n), pI ((ak_ r15 r13).d)] ty_39 rfl rfl rfl rfl rfl rfl (.head _) rfl hb16 rfl (sd s0) (fl J (Sq fun K2 J2 => ?_))⟩)))))
  refine bV_ [62, 63, 64, 65, 66, 67, 68, 69, 70, 71, 72] (fun g M => (g 72 = .bool (!((aR_ (al_ r5 c) (aA_ a b r5)).2) || (!((aR_ (al_ r6 c) (aA_ a b r6)).2) || decide ((aL_ (ak_ r15 r13)).1 < 0)))) ∧ M = [⟨b16, 39, flat [pI ((ak_ r15 r13).n), pI ((ak_ r15 r13).d)]⟩, ⟨b14, 39, flat [pI r13.n, pI r13.d]⟩, ⟨b12, 39, flat [pI r11.n, pI r11.d]⟩, ⟨b10, 39, flat [pI ((al_ r6 c).n), pI ((al_ r6 c).d)]⟩, ⟨b9, 39, flat [pI ((al_ r5 c).n), pI ((al_ r5 c).d)]⟩, ⟨b8, 23, flat [ci .i64 r6.x.1, ci .i64 r6.y.1, ci .i64 r6.z.1]⟩, ⟨b7, 23, flat [ci .i64 r5.x.1, ci .i64 r5.y.1, ci .i64 r5.z.1]⟩, ⟨b3, 45, flat [csl none 0 0, cb false]⟩, ⟨b2, 41, flat [pI c.x.n, pI c.x.d, pI c.y.n, pI c.y.d, pI c.z.n, pI c.z.d]⟩, ⟨b1, 23, flat [ci .i64 a.x.1, ci .i64 a.y.1, ci .i64 a.z.1]⟩]) (fun K3 J3 => ?_) ?_
  ·skip
   refine Rk fun K J => sE rfl (sE rfl ?_)
   rcases bt ((aR_ (al_ r5 c) (aA_ a b r5)).2) with h19 | h19
   ·skip
    refine sB (not_f h19) rfl (sE rfl (sE rfl (sE rfl ?_)))
    rcases bt ((aR_ (al_ r6 c) (aA_ a b r6)).2) with h20 | h20
    ·skip
     refine sB (not_f h20) rfl (sQ (qL ty_39 rfl m0 rfl) rfl (sQ (q_ret en_26 (cC_ (ak_ r15 r13)) rfl) rfl (sE rfl (sE rfl (nl J ?_)))))
     refine J3 _ _ (by repeat first | exact .refl | refine .cons rfl ?_) ⟨_, s0, ?s72, rfl⟩
     case s72 => exact congrArg Value.bool (nor_t h19 (nor_t h20 rfl))
    ·skip
     refine sB (not_t h20) rfl (WL_n rfl (WL_n rfl (WL_n rfl (sE rfl (nl J ?_)))))
     refine J3 _ _ (by repeat first | exact .refl | refine .cons rfl ?_) ⟨_, s0, ?s72, rfl⟩
     case s72 => exact congrArg Value.bool (nor_t h19 (nor_f h20))
   ·skip
    refine sB (not_t h19) rfl (WL_n rfl (WL_n rfl (sE rfl (sE rfl (WL_n rfl (WL_n rfl (WL_n rfl (sE rfl (nl J ?_)))))))))
    refine J3 _ _ (by repeat first | exact .refl | refine .cons rfl ?_) ⟨_, s0, ?s72, rfl⟩
    case s72 => exact congrArg Value.bool (nor_f h19)
  ·skip
   rintro g21 M ⟨hg72, rfl⟩
   simp only [setG, hg72]
   clear hg72
   rcases bt (!((aR_ (al_ r5 c) (aA_ a b r5)).2) || (!((aR_ (al_ r6 c) (aA_ a b r6)).2) || decide ((aL_ (ak_ r15 r13)).1 < 0))) with h22 | h22
   ·skip
    refine W_t h22 rfl (Rs fun K J => sQ (b2_ zp_45 pl_45 rfl (.nil _)) rfl (sS [csl none 0 0, cb false] ty_45 rfl rfl rfl rfl rfl (.tail _ (.tail _ (.tail _ (.tail _ (.tail _ (.tail _ (.tail _ (.head _)))))))) rfl hb3 (nl J (W_ret (af_ (ret1 rfl (.inr rfl) (resP rfl m7 ty_45 rfl) ?_))))))
    have hE : ((⟨([] : List Rt), false⟩ : Pts) : Pts) = (ax_ a b c) := by subst hr15; subst hr13; subst hr11; subst hr6; subst hr5; exact bif_t h4 (bif_t h22 rfl)
    rw [← hE]
    exact ⟨_, rfl, SLfe.nil⟩
   ·skip
    refine W_f h22 rfl (aj_ (J2 _ _ (Sq fun K4 J4 => Rs fun K J => sE rfl (sE rfl (nl J ?_)))))
    rcases bt (b.1 == 0) with h23 | h23
    ·skip
     refine W_t h23 rfl (Rs fun K J => sQ (qL ty_39 rfl m0 rfl) rfl (WL_r rfl (b1_ [[pI ((ak_ r15 r13).n), pI ((ak_ r15 r13).d)]] [pI ((ak_ r15 r13).n), pI ((ak_ r15 r13).d)] us_43 z_39 sz_39 rfl (by decide) rfl rfl ⟨rfl, rfl, rfl, trivial⟩ rfl (fun b24 hb24 => sQ (b2_ zp_45 pl_45 rfl (.cons [csl (some ⟨b24, 0, none⟩) 1 1] [csl (some ⟨b24, 0, none⟩) 1 1, cb false] rfl rfl rfl rfl (.cons [cb true] [csl (some ⟨b24, 0, none⟩) 1 1, cb true] rfl rfl rfl rfl (.nil _)))) rfl (sS [csl (some ⟨b24, 0, none⟩) 1 1, cb true] ty_45 rfl rfl rfl rfl rfl (.tail _ (.tail _ (.tail _ (.tail _ (.tail _ (.tail _ (.tail _ (.tail _ (.head _))))))))) rfl hb3 (nl J (W_ret (af_ (ret1 rfl (.inr rfl) (resP rfl m8 ty_45 rfl) ?_)))))))))
     have hE : ((⟨[(ak_ r15 r13)], true⟩ : Pts) : Pts) = (ax_ a b c) := by subst hr15; subst hr13; subst hr11; subst hr6; subst hr5; exact bif_t h4 (bif_f h22 (bif_t h23 rfl))
     rw [← hE]
     exact ⟨_, rfl, (SLfe.lit (e := elRt) (l := [(ak_ r15 r13)]) hb24 m0 rfl (Nat.le_of_ble_eq_true rfl) rfl)⟩
    ·skip
     refine W_f h23 rfl (aj_ (J4 _ _ (ds (sk (sk (sk (sk (sk (sk (sk (sk (sk (sk (s0))))))))))) [0,4,8,13,17] [4] mix (by kernel_rfl) (fun K J => pQ rfl (qL ty_39 rfl m0 rfl) ?_))))
     obtain ⟨r25, hr25⟩ := nm ((au_ (wl 1) (wl 2)) : Rt)
     refine pC (AV [pI r25.n, pI r25.d]) en_37 (dA_ (wl 1) (wl 2)) rfl rfl (by rw [hr25]; first | done | rfl) ?_
     obtain ⟨r26, hr26⟩ := nm ((ah_ (ak_ r15 r13) r25) : Rt)
     refine pC (AV [pI r26.n, pI r26.d]) en_38 (bv_ (ak_ r15 r13) r25) rfl rfl (by rw [hr26]; first | done | rfl) (PL_o rfl rfl (bw_ zp_39 (fun b27 hb27 => ⟨(fun _ => sd s0), (sd s0), oS [pI r26.n, pI r26.d] ty_39 rfl rfl rfl rfl rfl rfl (.head _) rfl hb27 rfl (sd s0) (fl J (Rs fun K J => sQ (q_ret en_25 (cl_ (wl 0)) rfl) rfl ?_))⟩)))
     refine sN zp_39 rfl fun b28 hb28 => sS [pI ((ac_ (wl 0)).n), pI ((ac_ (wl 0)).d)] ty_39 rfl rfl rfl rfl rfl (.head _) rfl hb28 ?_
     refine nl J (ds (sk (sk (sk (sk (sk (sk (sk (sk (sk (sk (sk (sk (s0))))))))))))) [0,4,8,12,16,20,25,28] [] mix (by kernel_rfl) (fun K J => pQ rfl (qL ty_39 rfl m4 rfl) (pQ rfl (qL ty_39 rfl m1 rfl) (pQ rfl (q_ret en_27 (cr_ r11 r26) rfl) (pQ rfl (qL ty_39 rfl m1 rfl) (pQ rfl (qL ty_39 rfl m3 rfl) (pQ rfl (qL ty_39 rfl m0 rfl) (PL_o rfl rfl (b1_ [[pI ((ag_ r11 r26).n), pI ((ag_ r11 r26).d)], [pI r26.n, pI r26.d], [pI r13.n, pI r13.d], [pI ((ac_ (wl 0)).n), pI ((ac_ (wl 0)).d)]] [pI ((ag_ r11 r26).n), pI ((ag_ r11 r26).d), pI r26.n, pI r26.d, pI r13.n, pI r13.d, pI ((ac_ (wl 0)).n), pI ((ac_ (wl 0)).d)] us_43 z_39 sz_39 rfl (by decide) rfl rfl ⟨rfl, rfl, rfl, rfl, rfl, rfl, rfl, rfl, rfl, rfl, rfl, rfl, trivial⟩ rfl (fun b29 hb29 => ⟨(fun _ => sd s0), (sd s0), ?_⟩))))))))))
     refine pE rfl (fl J (Sq fun K5 J5 => Rs fun K J => sQ (qL ty_39 rfl m7 rfl) rfl (sQ (q_ret en_26 (cC_ (al_ r5 c)) rfl) rfl (sE rfl (nl J ?_)))))
     rcases bt (decide ((aL_ (al_ r5 c)).1 < 0)) with h30 | h30
     ·skip
      refine W_t h30 rfl (Rs fun K J => sE rfl (sQ (qL ty_39 rfl m2 rfl) rfl (sQ (q_as (v' := .pointer (some ⟨b29, 0, none⟩)) (cj_ (e := elRt) (l := [(ag_ r11 r26), r26, r13, (ac_ (wl 0))]) (k := 0) sl_43 rfl rfl (SLe.lit (e := elRt) (l := [(ag_ r11 r26), r26, r13, (ac_ (wl 0))]) m0 rfl (Nat.le_of_ble_eq_true rfl) rfl) (Nat.le_of_ble_eq_true rfl)) rfl) rfl ?_)))
      refine sS [pI r26.n, pI r26.d] ty_39 rfl rfl rfl rfl rfl (.head _) rfl hb29 (nl J (Rk fun K J => sE rfl (sQ (qL ty_39 rfl m5 rfl) rfl (sQ (qL ty_39 rfl m2 rfl) rfl (sQ (q_ret en_27 (cr_ r11 r26) rfl) rfl (sQ (q_as (v' := .pointer (some ⟨b29, 36, none⟩)) (cj_ (e := elRt) (l := [r26, r26, r13, (ac_ (wl 0))]) (k := 1) sl_43 rfl rfl (SLe.lit (e := elRt) (l := [r26, r26, r13, (ac_ (wl 0))]) m0 rfl (Nat.le_of_ble_eq_true rfl) rfl) (Nat.le_of_ble_eq_true rfl)) rfl) rfl ?_))))))
      refine sS [pI ((ag_ r11 r26).n), pI ((ag_ r11 r26).d)] ty_39 rfl rfl rfl rfl rfl (.head _) rfl hb29 (nl J (J5 _ _ (Sq fun K6 J6 => Rs fun K J => sQ (qL ty_39 rfl m6 rfl) rfl (sQ (q_ret en_26 (cC_ (al_ r6 c)) rfl) rfl (sE rfl (nl J ?_))))))
      rcases bt (decide ((aL_ (al_ r6 c)).1 < 0)) with h31 | h31
      ·skip
       refine W_t h31 rfl (Rs fun K J => sE rfl (sQ (qL ty_39 rfl m1 rfl) rfl (sQ (q_as (v' := .pointer (some ⟨b29, 72, none⟩)) (cj_ (e := elRt) (l := [r26, (ag_ r11 r26), r13, (ac_ (wl 0))]) (k := 2) sl_43 rfl rfl (SLe.lit (e := elRt) (l := [r26, (ag_ r11 r26), r13, (ac_ (wl 0))]) m0 rfl (Nat.le_of_ble_eq_true rfl) rfl) (Nat.le_of_ble_eq_true rfl)) rfl) rfl ?_)))
       refine sS [pI ((ac_ (wl 0)).n), pI ((ac_ (wl 0)).d)] ty_39 rfl rfl rfl rfl rfl (.head _) rfl hb29 ?_
       refine nl J (Rk fun K J => sE rfl (sQ (qL ty_39 rfl m4 rfl) rfl (sQ (q_as (v' := .pointer (some ⟨b29, 108, none⟩)) (cj_ (e := elRt) (l := [r26, (ag_ r11 r26), (ac_ (wl 0)), (ac_ (wl 0))]) (k := 3) sl_43 rfl rfl (SLe.lit (e := elRt) (l := [r26, (ag_ r11 r26), (ac_ (wl 0)), (ac_ (wl 0))]) m0 rfl (Nat.le_of_ble_eq_true rfl) rfl) (Nat.le_of_ble_eq_true rfl)) rfl) rfl ?_)))
       refine sS [pI r13.n, pI r13.d] ty_39 rfl rfl rfl rfl rfl (.head _) rfl hb29 (nl J (J6 _ _ (Rs fun K J => sE rfl (sQ (b2_ zp_45 pl_45 rfl (.cons [csl (some ⟨b29, 0, none⟩) 4 4] [csl (some ⟨b29, 0, none⟩) 4 4, cb false] rfl rfl rfl rfl (.cons [cb true] [csl (some ⟨b29, 0, none⟩) 4 4, cb true] rfl rfl rfl rfl (.nil _)))) rfl (sS [csl (some ⟨b29, 0, none⟩) 4 4, cb true] ty_45 rfl rfl rfl rfl rfl (.tail _ (.tail _ (.tail _ (.tail _ (.tail _ (.tail _ (.tail _ (.tail _ (.tail _ (.tail _ (.head _))))))))))) rfl hb3 (nl J (W_ret (ret1 rfl (.inr rfl) (resP rfl m10 ty_45 rfl) ?_))))))))
       have hE : ((⟨[r26, (ag_ r11 r26), (ac_ (wl 0)), r13], true⟩ : Pts) : Pts) = (ax_ a b c) := by subst hr26; subst hr25; subst hr15; subst hr13; subst hr11; subst hr6; subst hr5; exact bif_t h4 (bif_f h22 (bif_f h23 (bif_t h30 (bif_t h31 rfl))))
       rw [← hE]
       exact ⟨_, rfl, (SLfe.lit (e := elRt) (l := [r26, (ag_ r11 r26), (ac_ (wl 0)), r13]) hb29 m0 rfl (Nat.le_of_ble_eq_true rfl) rfl)⟩
      ·skip
       refine W_f h31 rfl (aj_ (J6 _ _ (Rs fun K J => sE rfl (sQ (b2_ zp_45 pl_45 rfl (.cons [csl (some ⟨b29, 0, none⟩) 4 4] [csl (some ⟨b29, 0, none⟩) 4 4, cb false] rfl rfl rfl rfl (.cons [cb true] [csl (some ⟨b29, 0, none⟩) 4 4, cb true] rfl rfl rfl rfl (.nil _)))) rfl (sS [csl (some ⟨b29, 0, none⟩) 4 4, cb true] ty_45 rfl rfl rfl rfl rfl (.tail _ (.tail _ (.tail _ (.tail _ (.tail _ (.tail _ (.tail _ (.tail _ (.tail _ (.tail _ (.head _))))))))))) rfl hb3 (nl J (W_ret (ret1 rfl (.inr rfl) (resP rfl m10 ty_45 rfl) ?_))))))))
       have hE : ((⟨[r26, (ag_ r11 r26), r13, (ac_ (wl 0))], true⟩ : Pts) : Pts) = (ax_ a b c) := by subst hr26; subst hr25; subst hr15; subst hr13; subst hr11; subst hr6; subst hr5; exact bif_t h4 (bif_f h22 (bif_f h23 (bif_t h30 (bif_f h31 rfl))))
       rw [← hE]
       exact ⟨_, rfl, (SLfe.lit (e := elRt) (l := [r26, (ag_ r11 r26), r13, (ac_ (wl 0))]) hb29 m0 rfl (Nat.le_of_ble_eq_true rfl) rfl)⟩
     ·skip
      refine W_f h30 rfl (aj_ (J5 _ _ (Sq fun K7 J7 => Rs fun K J => sQ (qL ty_39 rfl m6 rfl) rfl (sQ (q_ret en_26 (cC_ (al_ r6 c)) rfl) rfl (sE rfl (nl J ?_))))))
      rcases bt (decide ((aL_ (al_ r6 c)).1 < 0)) with h32 | h32
      ·skip
       refine W_t h32 rfl (Rs fun K J => sE rfl (sQ (qL ty_39 rfl m1 rfl) rfl (sQ (q_as (v' := .pointer (some ⟨b29, 72, none⟩)) (cj_ (e := elRt) (l := [(ag_ r11 r26), r26, r13, (ac_ (wl 0))]) (k := 2) sl_43 rfl rfl (SLe.lit (e := elRt) (l := [(ag_ r11 r26), r26, r13, (ac_ (wl 0))]) m0 rfl (Nat.le_of_ble_eq_true rfl) rfl) (Nat.le_of_ble_eq_true rfl)) rfl) rfl ?_)))
       refine sS [pI ((ac_ (wl 0)).n), pI ((ac_ (wl 0)).d)] ty_39 rfl rfl rfl rfl rfl (.head _) rfl hb29 ?_
       refine nl J (Rk fun K J => sE rfl (sQ (qL ty_39 rfl m4 rfl) rfl (sQ (q_as (v' := .pointer (some ⟨b29, 108, none⟩)) (cj_ (e := elRt) (l := [(ag_ r11 r26), r26, (ac_ (wl 0)), (ac_ (wl 0))]) (k := 3) sl_43 rfl rfl (SLe.lit (e := elRt) (l := [(ag_ r11 r26), r26, (ac_ (wl 0)), (ac_ (wl 0))]) m0 rfl (Nat.le_of_ble_eq_true rfl) rfl) (Nat.le_of_ble_eq_true rfl)) rfl) rfl ?_)))
       refine sS [pI r13.n, pI r13.d] ty_39 rfl rfl rfl rfl rfl (.head _) rfl hb29 (nl J (J7 _ _ (Rs fun K J => sE rfl (sQ (b2_ zp_45 pl_45 rfl (.cons [csl (some ⟨b29, 0, none⟩) 4 4] [csl (some ⟨b29, 0, none⟩) 4 4, cb false] rfl rfl rfl rfl (.cons [cb true] [csl (some ⟨b29, 0, none⟩) 4 4, cb true] rfl rfl rfl rfl (.nil _)))) rfl (sS [csl (some ⟨b29, 0, none⟩) 4 4, cb true] ty_45 rfl rfl rfl rfl rfl (.tail _ (.tail _ (.tail _ (.tail _ (.tail _ (.tail _ (.tail _ (.tail _ (.tail _ (.tail _ (.head _))))))))))) rfl hb3 (nl J (W_ret (ret1 rfl (.inr rfl) (resP rfl m10 ty_45 rfl) ?_))))))))
       have hE : ((⟨[(ag_ r11 r26), r26, (ac_ (wl 0)), r13], true⟩ : Pts) : Pts) = (ax_ a b c) := by subst hr26; subst hr25; subst hr15; subst hr13; subst hr11; subst hr6; subst hr5; exact bif_t h4 (bif_f h22 (bif_f h23 (bif_f h30 (bif_t h32 rfl))))
       rw [← hE]
       exact ⟨_, rfl, (SLfe.lit (e := elRt) (l := [(ag_ r11 r26), r26, (ac_ (wl 0)), r13]) hb29 m0 rfl (Nat.le_of_ble_eq_true rfl) rfl)⟩
      ·skip
       refine W_f h32 rfl (aj_ (J7 _ _ (Rs fun K J => sE rfl (sQ (b2_ zp_45 pl_45 rfl (.cons [csl (some ⟨b29, 0, none⟩) 4 4] [csl (some ⟨b29, 0, none⟩) 4 4, cb false] rfl rfl rfl rfl (.cons [cb true] [csl (some ⟨b29, 0, none⟩) 4 4, cb true] rfl rfl rfl rfl (.nil _)))) rfl (sS [csl (some ⟨b29, 0, none⟩) 4 4, cb true] ty_45 rfl rfl rfl rfl rfl (.tail _ (.tail _ (.tail _ (.tail _ (.tail _ (.tail _ (.tail _ (.tail _ (.tail _ (.tail _ (.head _))))))))))) rfl hb3 (nl J (W_ret (ret1 rfl (.inr rfl) (resP rfl m10 ty_45 rfl) ?_))))))))
       have hE : ((⟨[(ag_ r11 r26), r26, r13, (ac_ (wl 0))], true⟩ : Pts) : Pts) = (ax_ a b c) := by subst hr26; subst hr25; subst hr15; subst hr13; subst hr11; subst hr6; subst hr5; exact bif_t h4 (bif_f h22 (bif_f h23 (bif_f h30 (bif_f h32 rfl))))
       rw [← hE]
       exact ⟨_, rfl, (SLfe.lit (e := elRt) (l := [(ag_ r11 r26), r26, r13, (ac_ (wl 0))]) hb29 m0 rfl (Nat.le_of_ble_eq_true rfl) rfl)⟩
 ·skip
  refine W_t (not_t h4) rfl (Rs fun K J => sQ (b2_ zp_45 pl_45 rfl (.nil _)) rfl (sS [csl none 0 0, cb false] ty_45 rfl rfl rfl rfl rfl (.head _) rfl hb3 (nl J (W_ret (af_ (ret1 rfl (.inr rfl) (resP rfl m0 ty_45 rfl) ?_))))))
  have hE : ((⟨([] : List Rt), false⟩ : Pts) : Pts) = (ax_ a b c) := by exact bif_f h4 rfl
  rw [← hE]
  exact ⟨_, rfl, SLfe.nil⟩

theorem fH_ (vl : Value) (l : (List (A3 Rt))) (vk : Value) (k : (List Rt)) (w : World) (hl : Slr w elVr vl l) (hk : Slr w elRt vk k) :
    Calls Tryz.prog 22 [vl, vk].toArray w (fun e w' => e = .returned (AV [pI (((an_ l k).x).n), pI (((an_ l k).x).d), pI (((an_ l k).y).n), pI (((an_ l k).y).d), pI (((an_ l k).z).n), pI (((an_ l k).z).d)]) ∧ Ext w w') := by
 refine c8_ (N := 33) Tryz.func22 rfl rfl (by simp) ?_
 obtain ⟨w0, rfl⟩ : ∃ w0, w0 = w := ⟨_, rfl⟩
 have Hl := hl.old
 have hm_l := hl.max
 have Hk := hk.old
 have hm_k := hk.max
 simp only [initF, Nat.reduceAdd]
 refine Rs fun K J => sN zp_41 rfl fun b1 hb1 => nl J (Rs fun K J => sQ (bM_ zp_23 ar_23 rfl (.nil _)) rfl ?_)
 obtain ⟨r2, hr2⟩ := nm ((bf_ (⟨(wl 0), (wl 0), (wl 0)⟩ : (A3 W))) : (A3 Rt))
 refine sC (AV [pI r2.x.n, pI r2.x.d, pI r2.y.n, pI r2.y.d, pI r2.z.n, pI r2.z.d]) en_32 (db_ (⟨(wl 0), (wl 0), (wl 0)⟩ : (A3 W))) rfl rfl (by rw [hr2]; first | done | rfl) ?_
 refine sN zp_41 rfl fun b3 hb3 => sS [pI r2.x.n, pI r2.x.d, pI r2.y.n, pI r2.y.d, pI r2.z.n, pI r2.z.d] ty_41 rfl rfl rfl rfl rfl (.head _) rfl hb3 (nl J (Sq fun K1 J1 => Rs fun K J => sE rfl (nl J ?_)))
 refine gN_ (fun S M h => J1 S M h) [6, 9, 10, 11, 12, 13, 14, 15, 16, 17, 18, 19, 20, 21, 22, 23, 24, 25, 26, 27, 28, 29, 30, 31] (fun g M => ∃ (i : Nat) (mb3 : (A3 Rt)), (bX_ l k r2 ((min l.length k.length + 1)) 0 r2) = (i, mb3) ∧ (g 6 = .int .i64 ((i : Nat) : Int)) ∧ M = [⟨b3, 41, flat [pI mb3.x.n, pI mb3.x.d, pI mb3.y.n, pI mb3.y.d, pI mb3.z.n, pI mb3.z.d]⟩, ⟨b1, 41, flat [pI I0, pI I0, pI I0, pI I0, pI I0, pI I0]⟩]) (fun K_u4 hK_u4 => ?_) ?_
 ·skip
  refine ao_ ?_
  refine bI_ [6, 9, 10, 11, 12, 13, 14, 15, 16, 17, 18, 19, 20, 21, 22, 23, 24, 25, 26, 27, 28, 29, 30, 31] (fun g nn M => ∃ (i : Nat) (mb3 : (A3 Rt)), (bX_ l k r2 nn i mb3) = (bX_ l k r2 ((min l.length k.length + 1)) 0 r2) ∧ min l.length k.length - i < nn ∧ (i ≤ min l.length k.length) ∧ (g 6 = .int .i64 ((i : Nat) : Int)) ∧ M = [⟨b3, 41, flat [pI mb3.x.n, pI mb3.x.d, pI mb3.y.n, pI mb3.y.d, pI mb3.z.n, pI mb3.z.d]⟩, ⟨b1, 41, flat [pI I0, pI I0, pI I0, pI I0, pI I0, pI I0]⟩]) ((min l.length k.length + 1)) ?start ?round
  case start => exact ⟨_, s0, 0, r2, rfl, (by omega), (by omega), rfl, rfl⟩
  case round =>
   rintro nn g M ⟨i, mb3, hT0, hq0, hinv0, hg6, rfl⟩
   obtain ⟨k0, rfl⟩ : ∃ m, nn = m + 1 := ⟨nn - 1, by omega⟩
   simp only [setG, hg6]
   clear hg6
   refine Sq fun K8 J8 => ?_
   refine bV_ [9, 10, 11, 12, 13, 14, 15, 16, 17, 18] (fun g M => (g 18 = .bool (decide (((i : Nat) : Int) < (((l).length : Nat) : Int)) && decide (((i : Nat) : Int) < (((k).length : Nat) : Int)))) ∧ M = [⟨b3, 41, flat [pI mb3.x.n, pI mb3.x.d, pI mb3.y.n, pI mb3.y.d, pI mb3.z.n, pI mb3.z.d]⟩, ⟨b1, 41, flat [pI I0, pI I0, pI I0, pI I0, pI I0, pI I0]⟩]) (fun K9 J9 => ?_) ?_
   ·skip
    refine Rk fun K J => sE rfl (sE rfl (sQ (q_as (v' := .int .i64 (((l).length : Nat) : Int)) (eC_ (e := elVr) sl_24 rfl (SLe.sub Hl sn)) rfl) rfl (sE rfl ?_)))
    rcases bt (decide (((i : Nat) : Int) < (((l).length : Nat) : Int))) with h18 | h18
    ·skip
     have ph18 := of_decide_eq_true h18
     refine sB h18 rfl (sE rfl (sE rfl (sQ (q_as (v' := .int .i64 (((k).length : Nat) : Int)) (eC_ (e := elRt) sl_43 rfl (SLe.sub Hk sn)) rfl) rfl (sE rfl (sE rfl (nl J ?_))))))
     refine J9 _ _ (by repeat first | exact .refl | refine .cons rfl ?_) ⟨_, s0, ?s18, rfl⟩
     case s18 => exact congrArg Value.bool (and_t h18 rfl)
    ·skip
     have ph18 := of_decide_eq_false h18
     refine sB h18 rfl (WL_n rfl (WL_n rfl (WL_n rfl (WL_n rfl (sE rfl (nl J ?_))))))
     refine J9 _ _ (by repeat first | exact .refl | refine .cons rfl ?_) ⟨_, s0, ?s18, rfl⟩
     case s18 => exact congrArg Value.bool (and_f h18)
   ·skip
    rintro g19 M ⟨hg18, rfl⟩
    simp only [setG, hg18]
    clear hg18
    rcases bt (decide (((i : Nat) : Int) < (((l).length : Nat) : Int)) && decide (((i : Nat) : Int) < (((k).length : Nat) : Int))) with h20 | h20
    ·skip
     have ph20 := rD_ h20
     refine W_t h20 rfl (aj_ (J8 _ _ (Sq fun K10 J10 => ao_ (dr (sd (sk (s0))) [0,4,8,12,16,20,24,28,32,36,40,45] [11] mix (by kernel_rfl) (fun K J => pQ rfl (qL ty_41 rfl m0 rfl) (pE rfl (pE rfl (pQ rfl (q_as (v' := .pointer (some (slb vk (i * 36 + 0)))) (cj_ (e := elRt) (l := k) (k := i) sl_43 rfl rfl (SLe.sub Hk sn) (by omega)) rfl) (pQ rfl (q_ldG (e := elRt) (l := k) (k := i) (o := 0) ty_39 rfl (SLe.sub Hk sn) (cs_ Rt0 (by omega)) rfl) (pE rfl (pE rfl (pQ rfl (q_as (v' := .pointer (some (slb vl (i * 108 + 0)))) (cj_ (e := elVr) (l := l) (k := i) sl_24 rfl rfl (SLe.sub Hl sn) (by omega)) rfl) (pQ rfl (q_ldG (e := elVr) (l := l) (k := i) (o := 0) ty_41 rfl (SLe.sub Hl sn) (cs_ V0 (by omega)) rfl) ?_)))))))))))))
     obtain ⟨r21, hr21⟩ := nm ((bl_ (k.getD i Rt0) (l.getD i V0)) : (A3 Rt))
     refine pC (AV [pI r21.x.n, pI r21.x.d, pI r21.y.n, pI r21.y.d, pI r21.z.n, pI r21.z.d]) en_34 (d3_ (k.getD i Rt0) (l.getD i V0)) rfl rfl (by rw [hr21]; first | done | rfl) ?_
     obtain ⟨r22, hr22⟩ := nm ((bs_ mb3 r21) : (A3 Rt))
     refine pC (AV [pI r22.x.n, pI r22.x.d, pI r22.y.n, pI r22.y.d, pI r22.z.n, pI r22.z.d]) en_33 (eb_ mb3 r21) rfl rfl (by rw [hr22]; first | done | rfl) (oS [pI r22.x.n, pI r22.x.d, pI r22.y.n, pI r22.y.d, pI r22.z.n, pI r22.z.d] ty_41 rfl rfl rfl rfl rfl rfl (.head _) rfl hb3 rfl (sd s0) (fl J (J10 _ _ (Rk fun K J => sE rfl (sV (.int .i64 ((i + 1 : Nat) : Int)) rfl (congrArg (Value.int .i64) (wx (by omega) (by omega) (by omega))) (sE rfl (nl J (⟨(by repeat first | exact .refl | refine .cons rfl ?_), _, _, s0, (Nat.lt_succ_self _), i + 1, r22, (by subst hr22; subst hr21; exact (hT0.symm.trans (Eq.symm (bif_t h20 rfl))).symm), (Nat.lt_of_lt_of_le (by omega) (Nat.le_of_lt_succ hq0)), (by omega), rfl, rfl⟩))))))))
    ·skip
     have ph20 := rV_ h20
     refine W_f h20 rfl (bG_ (aw_ (aw_ (aC_ (hK_u4 _ _ (by repeat first | exact .refl | refine .cons rfl ?_) ⟨_, s0, i, mb3, (by exact hT0.symm.trans (Eq.symm (bif_f h20 rfl))), rfl, rfl⟩)))))
 ·skip
  rintro g M ⟨i, mb3, hCu4, hg6, rfl⟩
  simp only [setG, hg6]
  clear hg6
  refine Rs fun K J => sQ (qL ty_41 rfl m0 rfl) rfl (sS [pI mb3.x.n, pI mb3.x.d, pI mb3.y.n, pI mb3.y.d, pI mb3.z.n, pI mb3.z.d] ty_41 rfl rfl rfl rfl rfl (.tail _ (.head _)) rfl hb1 (nl J (W_ret (ret1 rfl (.inr rfl) (resP rfl m1 ty_41 rfl) ?_))))
  exact (by subst hr2; exact congrArg (fun r : (A3 Rt) => (AV [pI r.x.n, pI r.x.d, pI r.y.n, pI r.y.d, pI r.z.n, pI r.z.d] : Value)) (show _ = (an_ l k) from (by unfold an_; exact trs (Eq.symm (apS hCu4)) rfl)))

theorem ep_ (va : Value) (a : (List (A3 Rt))) (vb : Value) (b : (List (A3 Rt))) (w : World) (ha : Slr w elVr va a) (hb : Slr w elVr vb b) :
    Calls Tryz.prog 13 [va, vb].toArray w (fun e w' => e = .returned (.bool (bu_ a b)) ∧ Ext w w') := by
 refine c8_ (N := 26) Tryz.func13 rfl rfl (by simp) ?_
 obtain ⟨w0, rfl⟩ : ∃ w0, w0 = w := ⟨_, rfl⟩
 have Ha := ha.old
 have hm_a := ha.max
 have Hb := hb.old
 have hm_b := hb.max
 simp only [initF, Nat.reduceAdd]
 refine Rs fun K J => sE rfl (nl J (Sq fun K1 J1 => Rs fun K J => sE rfl (sQ (q_as (v' := .int .i64 (((a).length : Nat) : Int)) (eC_ (e := elVr) sl_24 rfl (SLe.sub Ha sn)) rfl) rfl (sE rfl (sQ (q_as (v' := .int .i64 (((b).length : Nat) : Int)) (eC_ (e := elVr) sl_24 rfl (SLe.sub Hb sn)) rfl) rfl (sE rfl (nl J ?_)))))))
 rcases bt ((((a).length : Nat) : Int) != (((b).length : Nat) : Int)) with h1 | h1
 ·skip
  have ph2 := neI_t h1
  refine W_t h1 rfl (Rs fun K J => sE rfl (nl J (W_ret (af_ (ret1 rfl (.inr rfl) rfl ?_)))))
  exact (by exact congrArg (fun r : Bool => (.bool r : Value)) (show _ = (bu_ a b) from bif_t h1 rfl))
 ·skip
  have ph3 := neI_f h1
  refine W_f h1 rfl (aj_ (J1 _ _ (Sq fun K2 J2 => Rs fun K J => sE rfl (nl J ?_))))
  refine gN_ (fun S M h => J2 S M h) [4, 5, 11, 12, 13, 14, 15, 16, 17, 18, 19, 20, 21, 22, 23, 24, 25] (fun g M => ∃ (i : Nat), (bR_ a b ((a.length + 1)) 0) = .inl i ∧ (g 5 = .int .i64 ((i : Nat) : Int)) ∧ M = []) (fun K_u4 hK_u4 => ?_) ?_
  ·skip
   refine ao_ ?_
   refine bI_ [4, 5, 11, 12, 13, 14, 15, 16, 17, 18, 19, 20, 21, 22, 23, 24, 25] (fun g nn M => ∃ (i : Nat), (bR_ a b nn i) = (bR_ a b ((a.length + 1)) 0) ∧ a.length - i < nn ∧ (i ≤ a.length) ∧ (g 5 = .int .i64 ((i : Nat) : Int)) ∧ M = []) ((a.length + 1)) ?start ?round
   case start => exact ⟨_, s0, 0, rfl, (by omega), (by omega), rfl, rfl⟩
   case round =>
    rintro nn g M ⟨i, hT0, hq0, hinv0, hg5, rfl⟩
    obtain ⟨k0, rfl⟩ : ∃ m, nn = m + 1 := ⟨nn - 1, by omega⟩
    simp only [setG, hg5]
    clear hg5
    refine Sq fun K7 J7 => Rs fun K J => sE rfl (sE rfl (sQ (q_as (v' := .int .i64 (((a).length : Nat) : Int)) (eC_ (e := elVr) sl_24 rfl (SLe.sub Ha sn)) rfl) rfl (sE rfl (nl J ?_))))
    rcases bt (decide (((i : Nat) : Int) < (((a).length : Nat) : Int))) with h9 | h9
    ·skip
     have ph9 := of_decide_eq_true h9
     refine W_t h9 rfl (aj_ (J7 _ _ (Sq fun K8 J8 => ao_ (ds sn [0,4,8,12,16,20,24,28,32] [] mix (by kernel_rfl) (fun K J => pE rfl (pE rfl (pQ rfl (q_as (v' := .pointer (some (slb va (i * 108 + 0)))) (cj_ (e := elVr) (l := a) (k := i) sl_24 rfl rfl (SLe.sub Ha sn) (by omega)) rfl) (pQ rfl (q_ldG (e := elVr) (l := a) (k := i) (o := 0) ty_41 rfl (SLe.sub Ha sn) (cs_ V0 (by omega)) rfl) (pE rfl (pE rfl (pQ rfl (q_as (v' := .pointer (some (slb vb (i * 108 + 0)))) (cj_ (e := elVr) (l := b) (k := i) sl_24 rfl rfl (SLe.sub Hb sn) (by omega)) rfl) (pQ rfl (q_ldG (e := elVr) (l := b) (k := i) (o := 0) ty_41 rfl (SLe.sub Hb sn) (cs_ V0 (by omega)) rfl) ?_))))))))))))
     refine pQ rfl (hZ_ (r := (decide ((((a.getD i V0).x).n) = (((b.getD i V0).x).n)) && (decide ((((a.getD i V0).x).d) = (((b.getD i V0).x).d)) && (decide ((((a.getD i V0).y).n) = (((b.getD i V0).y).n)) && (decide ((((a.getD i V0).y).d) = (((b.getD i V0).y).d)) && (decide ((((a.getD i V0).z).n) = (((b.getD i V0).z).n)) && decide ((((a.getD i V0).z).d) = (((b.getD i V0).z).d)))))))) rfl rfl (et_ 8 (by decide) eg_41 lw_41 (ch_ lv_pI (ch_ lv_pI (ch_ lv_pI (ch_ lv_pI (ch_ lv_pI (eO_ lv_pI)))))) (ch_ lv_pI (ch_ lv_pI (ch_ lv_pI (ch_ lv_pI (ch_ lv_pI (eO_ lv_pI)))))) (dd_ rfl eq_pI (dd_ rfl eq_pI (dd_ rfl eq_pI (dd_ rfl eq_pI (dd_ rfl eq_pI (f0_ eq_pI)))))))) (fl J ?_)
     rcases bt (decide ((((a.getD i V0).x).n) = (((b.getD i V0).x).n)) && (decide ((((a.getD i V0).x).d) = (((b.getD i V0).x).d)) && (decide ((((a.getD i V0).y).n) = (((b.getD i V0).y).n)) && (decide ((((a.getD i V0).y).d) = (((b.getD i V0).y).d)) && (decide ((((a.getD i V0).z).n) = (((b.getD i V0).z).n)) && decide ((((a.getD i V0).z).d) = (((b.getD i V0).z).d))))))) with h10 | h10
     ·skip
      refine W_f (not_f h10) rfl (aj_ (J8 _ _ (Rk fun K J => sE rfl (sV (.int .i64 ((i + 1 : Nat) : Int)) rfl (congrArg (Value.int .i64) (wx (by omega) (by omega) (by omega))) (sE rfl (nl J (⟨(by repeat first | exact .refl | refine .cons rfl ?_), _, _, s0, (Nat.lt_succ_self _), i + 1, (by exact (hT0.symm.trans (Eq.symm (bif_t h9 (bif_t h10 rfl)))).symm), (Nat.lt_of_lt_of_le (by omega) (Nat.le_of_lt_succ hq0)), (by omega), rfl, rfl⟩)))))))
     ·skip
      refine W_t (not_t h10) rfl (Rs fun K J => sE rfl (nl J (W_ret (aH_ (af_ (af_ (aH_ (af_ (af_ (ret1 rfl (.inr rfl) rfl ?_))))))))))
      exact (by exact congrArg (fun r : Bool => (.bool r : Value)) (show _ = (bu_ a b) from bif_f h1 ((sm_q rfl (hT0.symm.trans (Eq.symm (bif_t h9 (bif_f h10 rfl))))))))
    ·skip
     have ph9 := of_decide_eq_false h9
     refine W_f h9 rfl (bG_ (aw_ (aw_ (aC_ (hK_u4 _ _ (by repeat first | exact .refl | refine .cons rfl ?_) ⟨_, s0, i, (by exact hT0.symm.trans (Eq.symm (bif_f h9 rfl))), rfl, rfl⟩)))))
  ·skip
   rintro g M ⟨i, hCu4, hg5, rfl⟩
   simp only [setG, hg5]
   clear hg5
   refine Rs fun K J => sE rfl (nl J (W_ret (ret1 rfl (.inr rfl) rfl ?_)))
   exact (by exact congrArg (fun r : Bool => (.bool r : Value)) (show _ = (bu_ a b) from bif_f h1 (trs (Eq.symm (smS hCu4)) rfl)))
end Go.Proofs.YtapbefpeopaecaaGreatDoor

