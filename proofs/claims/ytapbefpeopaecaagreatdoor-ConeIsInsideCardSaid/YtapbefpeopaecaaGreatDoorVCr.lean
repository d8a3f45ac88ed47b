/- Walks: what these functions return. What these functions compute, as plain functions. No program stands in it. -/
import Derived.Test.YtapbefpeopaecaaGreatDoorVGE
import Derived.Test.YtapbefpeopaecaaGreatDoorVFn
import Derived.Test.YtapbefpeopaecaaGreatDoorVGa
import Derived.Test.YtapbefpeopaecaaGreatDoorVGd
import Derived.Test.YtapbefpeopaecaaGreatDoorVRa
import Derived.Test.YtapbefpeopaecaaGreatDoorVSb
import Derived.Test.YtapbefpeopaecaaGreatDoorVSg
namespace Go.Proofs.YtapbefpeopaecaaGreatDoor
open Go.Kn Go.Num
set_option linter.unusedVariables false
set_option linter.unusedSimpArgs false
set_option maxRecDepth 20000
set_option maxHeartbeats 8000000
theorem fr_ (a : (A3 W)) (b : W) :
    Ret Tryz.prog 23 [AV [ci .i64 a.x.1, ci .i64 a.y.1, ci .i64 a.z.1], .int .i64 b.1] (.bool (aJ_ a b)) := by
 refine aD_ (N := 34) Tryz.func23 rfl rfl (by simp) (fun w0 => ?_)
 simp only [initF, Nat.reduceAdd]
 refine Rs fun K J => WL_r rfl (a6_ rfl rfl (fun b1 hb1 => sE rfl (nl J (Sq fun K1 J1 => Rs fun K J => sE rfl (nl J (at_ (W_un 5 (Un_s (fun K2 J2 => Sq fun K3 J3 => Rs fun K J => sE rfl (sV (.bool true) rfl rfl (nl J (bE_ rfl (al_ (J3 _ _ (Sq fun K4 J4 => ?_)))))))))))))))
 refine at_ ?_
 refine bP_ [11, 12, 13, 14, 15, 16, 17, 18, 19, 20] (fun g M => (g 20 = .bool (decide (536870912 ≤ a.x.1) || decide (a.x.1 ≤ (-536870912)))) ∧ M = [⟨b1, 23, flat [ci .i64 a.x.1, ci .i64 a.y.1, ci .i64 a.z.1]⟩]) (fun K5 J5 => ?_) ?_
 ·skip
  refine Rk fun K J => sE rfl (sQ (qA ar_23 rfl rfl rfl) rfl (sQ (qC ty_3 rfl m0 rfl) rfl (sE rfl ?_)))
  rcases bt (decide (536870912 ≤ a.x.1)) with h3 | h3
  ·skip
   refine sB h3 rfl (WL_n rfl (WL_n rfl (WL_n rfl (WL_n rfl (sE rfl (nl J ?_))))))
   refine J5 _ _ (by repeat first | exact .refl | refine .cons rfl ?_) ⟨_, s0, ?s20, rfl⟩
   case s20 => exact congrArg Value.bool (or_t h3)
  ·skip
   refine sB h3 rfl (sE rfl (sQ (qA ar_23 rfl rfl rfl) rfl (sQ (qC ty_3 rfl m0 rfl) rfl (sE rfl (sE rfl (nl J ?_))))))
   refine J5 _ _ (by repeat first | exact .refl | refine .cons rfl ?_) ⟨_, s0, ?s20, rfl⟩
   case s20 => exact congrArg Value.bool (or_f h3 rfl)
 ·skip
  rintro g4 M ⟨hg20, rfl⟩
  simp only [setG, hg20]
  clear hg20
  rcases bt (decide (536870912 ≤ a.x.1) || decide (a.x.1 ≤ (-536870912))) with h5 | h5
  ·skip
   refine W_t h5 rfl (Rs fun K J => sE rfl (nl J (W_ret (aL_ (aj_ (aj_ (aL_ (aj_ (ret1 rfl (.inr rfl) rfl ?_)))))))))
   exact (by exact congrArg (fun r : Bool => (.bool r : Value)) (show _ = (aJ_ a b) from bif_t h5 rfl))
  ·skip
   refine W_f h5 rfl (al_ (J4 _ _ (Rk fun K J => sE rfl (sV (.int .i64 1) rfl rfl (sE rfl (nl J (J2 _ _ (Un_s (fun K6 J6 => Sq fun K7 J7 => Rs fun K J => sE rfl (sV (.bool true) rfl rfl (nl J (bE_ rfl (al_ (J7 _ _ (Sq fun K8 J8 => at_ ?_)))))))))))))))
   refine bP_ [11, 12, 13, 14, 15, 16, 17, 18, 19, 20] (fun g M => (g 20 = .bool (decide (536870912 ≤ a.y.1) || decide (a.y.1 ≤ (-536870912)))) ∧ M = [⟨b1, 23, flat [ci .i64 a.x.1, ci .i64 a.y.1, ci .i64 a.z.1]⟩]) (fun K9 J9 => ?_) ?_
   ·skip
    refine Rk fun K J => sE rfl (sQ (qA ar_23 rfl rfl rfl) rfl (sQ (qC ty_3 rfl m0 rfl) rfl (sE rfl ?_)))
    rcases bt (decide (536870912 ≤ a.y.1)) with h7 | h7
    ·skip
     refine sB h7 rfl (WL_n rfl (WL_n rfl (WL_n rfl (WL_n rfl (sE rfl (nl J ?_))))))
     refine J9 _ _ (by repeat first | exact .refl | refine .cons rfl ?_) ⟨_, s0, ?s20, rfl⟩
     case s20 => exact congrArg Value.bool (or_t h7)
    ·skip
     refine sB h7 rfl (sE rfl (sQ (qA ar_23 rfl rfl rfl) rfl (sQ (qC ty_3 rfl m0 rfl) rfl (sE rfl (sE rfl (nl J ?_))))))
     refine J9 _ _ (by repeat first | exact .refl | refine .cons rfl ?_) ⟨_, s0, ?s20, rfl⟩
     case s20 => exact congrArg Value.bool (or_f h7 rfl)
   ·skip
    rintro g8 M ⟨hg20, rfl⟩
    simp only [setG, hg20]
    clear hg20
    rcases bt (decide (536870912 ≤ a.y.1) || decide (a.y.1 ≤ (-536870912))) with h9 | h9
    ·skip
     refine W_t h9 rfl (Rs fun K J => sE rfl (nl J (W_ret (aL_ (aj_ (aj_ (aL_ (aj_ (ret1 rfl (.inr rfl) rfl ?_)))))))))
     exact (by exact congrArg (fun r : Bool => (.bool r : Value)) (show _ = (aJ_ a b) from bif_f h5 (bif_t h9 rfl)))
    ·skip
     refine W_f h9 rfl (al_ (J8 _ _ (Rk fun K J => sE rfl (sV (.int .i64 2) rfl rfl (sE rfl (nl J (J6 _ _ (Un_s (fun K10 J10 => Sq fun K11 J11 => Rs fun K J => sE rfl (sV (.bool true) rfl rfl (nl J (bE_ rfl (al_ (J11 _ _ (Sq fun K12 J12 => at_ ?_)))))))))))))))
     refine bP_ [11, 12, 13, 14, 15, 16, 17, 18, 19, 20] (fun g M => (g 20 = .bool (decide (536870912 ≤ a.z.1) || decide (a.z.1 ≤ (-536870912)))) ∧ M = [⟨b1, 23, flat [ci .i64 a.x.1, ci .i64 a.y.1, ci .i64 a.z.1]⟩]) (fun K13 J13 => ?_) ?_
     ·skip
      refine Rk fun K J => sE rfl (sQ (qA ar_23 rfl rfl rfl) rfl (sQ (qC ty_3 rfl m0 rfl) rfl (sE rfl ?_)))
      rcases bt (decide (536870912 ≤ a.z.1)) with h11 | h11
      ·skip
       refine sB h11 rfl (WL_n rfl (WL_n rfl (WL_n rfl (WL_n rfl (sE rfl (nl J ?_))))))
       refine J13 _ _ (by repeat first | exact .refl | refine .cons rfl ?_) ⟨_, s0, ?s20, rfl⟩
       case s20 => exact congrArg Value.bool (or_t h11)
      ·skip
       refine sB h11 rfl (sE rfl (sQ (qA ar_23 rfl rfl rfl) rfl (sQ (qC ty_3 rfl m0 rfl) rfl (sE rfl (sE rfl (nl J ?_))))))
       refine J13 _ _ (by repeat first | exact .refl | refine .cons rfl ?_) ⟨_, s0, ?s20, rfl⟩
       case s20 => exact congrArg Value.bool (or_f h11 rfl)
     ·skip
      rintro g12 M ⟨hg20, rfl⟩
      simp only [setG, hg20]
      clear hg20
      rcases bt (decide (536870912 ≤ a.z.1) || decide (a.z.1 ≤ (-536870912))) with h13 | h13
      ·skip
       refine W_t h13 rfl (Rs fun K J => sE rfl (nl J (W_ret (aL_ (aj_ (aj_ (aL_ (aj_ (ret1 rfl (.inr rfl) rfl ?_)))))))))
       exact (by exact congrArg (fun r : Bool => (.bool r : Value)) (show _ = (aJ_ a b) from bif_f h5 (bif_f h9 (bif_t h13 rfl))))
      ·skip
       refine W_f h13 rfl (al_ (J12 _ _ (Rk fun K J => sE rfl (sV (.int .i64 3) rfl rfl (sE rfl (nl J (J10 _ _ (Un_s (fun K14 J14 => Sq fun K15 J15 => Rs fun K J => sE rfl (sV (.bool false) rfl rfl (nl J (by_ rfl (bp_ (ay_ (ay_ (aF_ (J1 _ _ (Rs fun K J => sQ (qL ty_23 rfl m0 rfl) rfl ?_))))))))))))))))))
       refine sQ (cq_ zp_23 ar_23 rfl (.nil _)) rfl ?_
       refine sQ (hm_ (r := (decide (a.x.1 = 0) && (decide (a.y.1 = 0) && decide (a.z.1 = 0)))) rfl rfl (dY_ 8 (by decide) eg_23 lw_23 (bK_ lv_ci (bK_ lv_ci (ef_ lv_ci))) (bK_ lv_ci (bK_ lv_ci (ef_ lv_ci))) (cO_ rfl eq_ci (cO_ rfl eq_ci (fp_ eq_ci))))) rfl (sE rfl (nl J ?_))
       refine bP_ [4, 24, 25, 26, 27, 28, 29, 30, 31, 32, 33] (fun g M => (g 4 = .bool (!(decide (a.x.1 = 0) && (decide (a.y.1 = 0) && decide (a.z.1 = 0))) && (decide (0 ≤ b.1) && decide (b.1 ≤ 4000)))) ∧ M = [⟨b1, 23, flat [ci .i64 a.x.1, ci .i64 a.y.1, ci .i64 a.z.1]⟩]) (fun K16 J16 => ?_) ?_
       ·skip
        refine Rk fun K J => sE rfl (sE rfl ?_)
        rcases bt (decide (a.x.1 = 0) && (decide (a.y.1 = 0) && decide (a.z.1 = 0))) with h16 | h16
        ·skip
         refine sB (not_f h16) rfl (WL_n rfl (WL_n rfl (sE rfl (sE rfl (WL_n rfl (WL_n rfl (sE rfl (sE rfl (nl J ?_)))))))))
         refine J16 _ _ (by repeat first | exact .refl | refine .cons rfl ?_) ⟨_, s0, ?s4, rfl⟩
         case s4 => exact congrArg Value.bool (io_ h16)
        ·skip
         refine sB (not_t h16) rfl (sE rfl (sE rfl (sE rfl ?_)))
         rcases bt (decide (0 ≤ b.1)) with h17 | h17
         ·skip
          refine sB h17 rfl (sE rfl (sE rfl (sE rfl (sE rfl (nl J ?_)))))
          refine J16 _ _ (by repeat first | exact .refl | refine .cons rfl ?_) ⟨_, s0, ?s4, rfl⟩
          case s4 => exact congrArg Value.bool (fR_ h16 (and_t h17 rfl))
         ·skip
          refine sB h17 rfl (WL_n rfl (WL_n rfl (sE rfl (sE rfl (nl J ?_)))))
          refine J16 _ _ (by repeat first | exact .refl | refine .cons rfl ?_) ⟨_, s0, ?s4, rfl⟩
          case s4 => exact congrArg Value.bool (fR_ h16 (and_f h17))
       ·skip
        rintro g18 M ⟨hg4, rfl⟩
        simp only [setG, hg4]
        clear hg4
        refine W_ret (ret1 rfl (.inr rfl) rfl ?_)
        exact (by exact congrArg (fun r : Bool => (.bool r : Value)) (show _ = (aJ_ a b) from bif_f h5 (bif_f h9 (bif_f h13 rfl))))

theorem fA_ (a : (A3 Rt)) :
    Ret Tryz.prog 14 [AV [pI a.x.n, pI a.x.d, pI a.y.n, pI a.y.d, pI a.z.n, pI a.z.d]] (.bool (bc_ a)) := by
 refine aD_ (N := 29) Tryz.func14 rfl rfl (by simp) (fun w0 => ?_)
 simp only [initF, Nat.reduceAdd]
 refine Rs fun K J => WL_r rfl (a6_ rfl rfl (fun b1 hb1 => sE rfl (nl J (Sq fun K1 J1 => Rs fun K J => sE rfl (nl J (at_ (W_un 5 (Un_s (fun K2 J2 => Sq fun K3 J3 => Rs fun K J => sE rfl (sV (.bool true) rfl rfl (nl J (bE_ rfl (al_ (J3 _ _ (Sq fun K4 J4 => ?_)))))))))))))))
 refine at_ ?_
 refine bP_ [8, 9, 10, 11, 12, 13, 14, 15, 16, 17, 18, 19, 20, 21, 22, 23, 24, 25, 26, 27, 28] (fun g M => (g 28 = .bool (!(ae_ a.x) || (decide (48 < (Z.bitsW a.x.n.dec).1) || decide (17 < (Z.bitsW a.x.d.dec).1)))) ∧ M = [⟨b1, 41, flat [pI a.x.n, pI a.x.d, pI a.y.n, pI a.y.d, pI a.z.n, pI a.z.d]⟩]) (fun K5 J5 => ?_) ?_
 ·skip
  refine Rk fun K J => sE rfl (sQ (qA ar_41 rfl rfl rfl) rfl (sQ (qL ty_39 rfl m0 rfl) rfl (sQ (q_ret en_51 (bI_ a.x) rfl) rfl (sE rfl ?_))))
  rcases bt (ae_ a.x) with h4 | h4
  ·skip
   refine sB (not_f h4) rfl (sE rfl (sQ (qA ar_41 rfl rfl rfl) rfl (sQ (qF ct_ rfl rfl) rfl (sQ (qL ty_37 rfl m0 rfl) rfl (sC (.int .i64 ((Z.bitsW a.x.n.dec).1)) en_52 (bh_ a.x.n.1 a.x.n.2) rfl rfl rfl (sE rfl (sE rfl ?_)))))))
   rcases bt (decide (48 < (Z.bitsW a.x.n.dec).1)) with h5 | h5
   ·skip
    refine sB h5 rfl (WL_n rfl (WL_n rfl (WL_n rfl (WL_n rfl (WL_n rfl (WL_n rfl (sE rfl (nl J ?_))))))))
    refine J5 _ _ (by repeat first | exact .refl | refine .cons rfl ?_) ⟨_, s0, ?s28, rfl⟩
    case s28 => exact congrArg Value.bool (nor_t h4 (or_t h5))
   ·skip
    refine sB h5 rfl (sE rfl (sQ (qA ar_41 rfl rfl rfl) rfl (sQ (qF bL_ rfl rfl) rfl (sQ (qL ty_37 rfl m0 rfl) rfl (sC (.int .i64 ((Z.bitsW a.x.d.dec).1)) en_52 (bh_ a.x.d.1 a.x.d.2) rfl rfl rfl (sE rfl (sE rfl (nl J ?_))))))))
    refine J5 _ _ (by repeat first | exact .refl | refine .cons rfl ?_) ⟨_, s0, ?s28, rfl⟩
    case s28 => exact congrArg Value.bool (nor_t h4 (or_f h5 rfl))
  ·skip
   refine sB (not_t h4) rfl (WL_n rfl (WL_n rfl (WL_n rfl (WL_n rfl (WL_n rfl (WL_n rfl (sE rfl (sE rfl (WL_n rfl (WL_n rfl (WL_n rfl (WL_n rfl (WL_n rfl (WL_n rfl (sE rfl (nl J ?_))))))))))))))))
   refine J5 _ _ (by repeat first | exact .refl | refine .cons rfl ?_) ⟨_, s0, ?s28, rfl⟩
   case s28 => exact congrArg Value.bool (nor_f h4)
 ·skip
  rintro g6 M ⟨hg28, rfl⟩
  simp only [setG, hg28]
  clear hg28
  rcases bt (!(ae_ a.x) || (decide (48 < (Z.bitsW a.x.n.dec).1) || decide (17 < (Z.bitsW a.x.d.dec).1))) with h7 | h7
  ·skip
   refine W_t h7 rfl (Rs fun K J => sE rfl (nl J (W_ret (aL_ (aj_ (aj_ (aL_ (aj_ (ret1 rfl (.inr rfl) rfl ?_)))))))))
   exact (by exact congrArg (fun r : Bool => (.bool r : Value)) (show _ = (bc_ a) from bif_t h7 rfl))
  ·skip
   refine W_f h7 rfl (al_ (J4 _ _ (Rk fun K J => sE rfl (sV (.int .i64 1) rfl rfl (sE rfl (nl J (J2 _ _ (Un_s (fun K6 J6 => Sq fun K7 J7 => Rs fun K J => sE rfl (sV (.bool true) rfl rfl (nl J (bE_ rfl (al_ (J7 _ _ (Sq fun K8 J8 => at_ ?_)))))))))))))))
   refine bP_ [8, 9, 10, 11, 12, 13, 14, 15, 16, 17, 18, 19, 20, 21, 22, 23, 24, 25, 26, 27, 28] (fun g M => (g 28 = .bool (!(ae_ a.y) || (decide (48 < (Z.bitsW a.y.n.dec).1) || decide (17 < (Z.bitsW a.y.d.dec).1)))) ∧ M = [⟨b1, 41, flat [pI a.x.n, pI a.x.d, pI a.y.n, pI a.y.d, pI a.z.n, pI a.z.d]⟩]) (fun K9 J9 => ?_) ?_
   ·skip
    refine Rk fun K J => sE rfl (sQ (qA ar_41 rfl rfl rfl) rfl (sQ (qL ty_39 rfl m0 rfl) rfl (sQ (q_ret en_51 (bI_ a.y) rfl) rfl (sE rfl ?_))))
    rcases bt (ae_ a.y) with h10 | h10
    ·skip
     refine sB (not_f h10) rfl (sE rfl (sQ (qA ar_41 rfl rfl rfl) rfl (sQ (qF ct_ rfl rfl) rfl (sQ (qL ty_37 rfl m0 rfl) rfl (sC (.int .i64 ((Z.bitsW a.y.n.dec).1)) en_52 (bh_ a.y.n.1 a.y.n.2) rfl rfl rfl (sE rfl (sE rfl ?_)))))))
     rcases bt (decide (48 < (Z.bitsW a.y.n.dec).1)) with h11 | h11
     ·skip
      refine sB h11 rfl (WL_n rfl (WL_n rfl (WL_n rfl (WL_n rfl (WL_n rfl (WL_n rfl (sE rfl (nl J ?_))))))))
      refine J9 _ _ (by repeat first | exact .refl | refine .cons rfl ?_) ⟨_, s0, ?s28, rfl⟩
      case s28 => exact congrArg Value.bool (nor_t h10 (or_t h11))
     ·skip
      refine sB h11 rfl (sE rfl (sQ (qA ar_41 rfl rfl rfl) rfl (sQ (qF bL_ rfl rfl) rfl (sQ (qL ty_37 rfl m0 rfl) rfl (sC (.int .i64 ((Z.bitsW a.y.d.dec).1)) en_52 (bh_ a.y.d.1 a.y.d.2) rfl rfl rfl (sE rfl (sE rfl (nl J ?_))))))))
      refine J9 _ _ (by repeat first | exact .refl | refine .cons rfl ?_) ⟨_, s0, ?s28, rfl⟩
      case s28 => exact congrArg Value.bool (nor_t h10 (or_f h11 rfl))
    ·skip
     refine sB (not_t h10) rfl (WL_n rfl (WL_n rfl (WL_n rfl (WL_n rfl (WL_n rfl (WL_n rfl (sE rfl (sE rfl (WL_n rfl (WL_n rfl (WL_n rfl (WL_n rfl (WL_n rfl (WL_n rfl (sE rfl (nl J ?_))))))))))))))))
     refine J9 _ _ (by repeat first | exact .refl | refine .cons rfl ?_) ⟨_, s0, ?s28, rfl⟩
     case s28 => exact congrArg Value.bool (nor_f h10)
   ·skip
    rintro g12 M ⟨hg28, rfl⟩
    simp only [setG, hg28]
    clear hg28
    rcases bt (!(ae_ a.y) || (decide (48 < (Z.bitsW a.y.n.dec).1) || decide (17 < (Z.bitsW a.y.d.dec).1))) with h13 | h13
    ·skip
     refine W_t h13 rfl (Rs fun K J => sE rfl (nl J (W_ret (aL_ (aj_ (aj_ (aL_ (aj_ (ret1 rfl (.inr rfl) rfl ?_)))))))))
     exact (by exact congrArg (fun r : Bool => (.bool r : Value)) (show _ = (bc_ a) from bif_f h7 (bif_t h13 rfl)))
    ·skip
     refine W_f h13 rfl (al_ (J8 _ _ (Rk fun K J => sE rfl (sV (.int .i64 2) rfl rfl (sE rfl (nl J (J6 _ _ (Un_s (fun K10 J10 => Sq fun K11 J11 => Rs fun K J => sE rfl (sV (.bool true) rfl rfl (nl J (bE_ rfl (al_ (J11 _ _ (Sq fun K12 J12 => at_ ?_)))))))))))))))
     refine bP_ [8, 9, 10, 11, 12, 13, 14, 15, 16, 17, 18, 19, 20, 21, 22, 23, 24, 25, 26, 27, 28] (fun g M => (g 28 = .bool (!(ae_ a.z) || (decide (48 < (Z.bitsW a.z.n.dec).1) || decide (17 < (Z.bitsW a.z.d.dec).1)))) ∧ M = [⟨b1, 41, flat [pI a.x.n, pI a.x.d, pI a.y.n, pI a.y.d, pI a.z.n, pI a.z.d]⟩]) (fun K13 J13 => ?_) ?_
     ·skip
      refine Rk fun K J => sE rfl (sQ (qA ar_41 rfl rfl rfl) rfl (sQ (qL ty_39 rfl m0 rfl) rfl (sQ (q_ret en_51 (bI_ a.z) rfl) rfl (sE rfl ?_))))
      rcases bt (ae_ a.z) with h16 | h16
      ·skip
       refine sB (not_f h16) rfl (sE rfl (sQ (qA ar_41 rfl rfl rfl) rfl (sQ (qF ct_ rfl rfl) rfl (sQ (qL ty_37 rfl m0 rfl) rfl (sC (.int .i64 ((Z.bitsW a.z.n.dec).1)) en_52 (bh_ a.z.n.1 a.z.n.2) rfl rfl rfl (sE rfl (sE rfl ?_)))))))
       rcases bt (decide (48 < (Z.bitsW a.z.n.dec).1)) with h17 | h17
       ·skip
        refine sB h17 rfl (WL_n rfl (WL_n rfl (WL_n rfl (WL_n rfl (WL_n rfl (WL_n rfl (sE rfl (nl J ?_))))))))
        refine J13 _ _ (by repeat first | exact .refl | refine .cons rfl ?_) ⟨_, s0, ?s28, rfl⟩
        case s28 => exact congrArg Value.bool (nor_t h16 (or_t h17))
       ·skip
        refine sB h17 rfl (sE rfl (sQ (qA ar_41 rfl rfl rfl) rfl (sQ (qF bL_ rfl rfl) rfl (sQ (qL ty_37 rfl m0 rfl) rfl (sC (.int .i64 ((Z.bitsW a.z.d.dec).1)) en_52 (bh_ a.z.d.1 a.z.d.2) rfl rfl rfl (sE rfl (sE rfl (nl J ?_))))))))
        refine J13 _ _ (by repeat first | exact .refl | refine .cons rfl ?_) ⟨_, s0, ?s28, rfl⟩
        case s28 => exact congrArg Value.bool (nor_t h16 (or_f h17 rfl))
      ·skip
       refine sB (not_t h16) rfl (WL_n rfl (WL_n rfl (WL_n rfl (WL_n rfl (WL_n rfl (WL_n rfl (sE rfl (sE rfl (WL_n rfl (WL_n rfl (WL_n rfl (WL_n rfl (WL_n rfl (WL_n rfl (sE rfl (nl J ?_))))))))))))))))
       refine J13 _ _ (by repeat first | exact .refl | refine .cons rfl ?_) ⟨_, s0, ?s28, rfl⟩
       case s28 => exact congrArg Value.bool (nor_f h16)
     ·skip
      rintro g18 M ⟨hg28, rfl⟩
      simp only [setG, hg28]
      clear hg28
      rcases bt (!(ae_ a.z) || (decide (48 < (Z.bitsW a.z.n.dec).1) || decide (17 < (Z.bitsW a.z.d.dec).1))) with h19 | h19
      ·skip
       refine W_t h19 rfl (Rs fun K J => sE rfl (nl J (W_ret (aL_ (aj_ (aj_ (aL_ (aj_ (ret1 rfl (.inr rfl) rfl ?_)))))))))
       exact (by exact congrArg (fun r : Bool => (.bool r : Value)) (show _ = (bc_ a) from bif_f h7 (bif_f h13 (bif_t h19 rfl))))
      ·skip
       refine W_f h19 rfl (al_ (J12 _ _ (Rk fun K J => sE rfl (sV (.int .i64 3) rfl rfl (sE rfl (nl J (J10 _ _ (Un_s (fun K14 J14 => Sq fun K15 J15 => Rs fun K J => sE rfl (sV (.bool false) rfl rfl (nl J (by_ rfl (bp_ (ay_ (ay_ (aF_ (J1 _ _ (Rs fun K J => sE rfl ?_))))))))))))))))))
       refine nl J (W_ret (ret1 rfl (.inr rfl) rfl ?_))
       exact (by exact congrArg (fun r : Bool => (.bool r : Value)) (show _ = (bc_ a) from bif_f h7 (bif_f h13 (bif_f h19 rfl))))

theorem fH_ (a : (A3 W)) (b : (A3 Rt)) :
    Ret Tryz.prog 24 [AV [ci .i64 a.x.1, ci .i64 a.y.1, ci .i64 a.z.1], AV [pI b.x.n, pI b.x.d, pI b.y.n, pI b.y.d, pI b.z.n, pI b.z.d]] (.bool (bt_ a b)) := by
 refine aD_ (N := 36) Tryz.func24 rfl rfl (by simp) (fun w0 => ?_)
 simp only [initF, Nat.reduceAdd]
 refine Rs fun K J => WL_r rfl (a6_ rfl rfl (fun b1 hb1 => WL_r rfl (a6_ rfl rfl (fun b2 hb2 => sE rfl (nl J (Sq fun K1 J1 => Rs fun K J => sE rfl (nl J (at_ (W_un 5 (Un_s (fun K2 J2 => Sq fun K3 J3 => Rs fun K J => sE rfl (sV (.bool true) rfl rfl (nl J (bE_ rfl (al_ (J3 _ _ ?_))))))))))))))))
 refine Sq fun K4 J4 => at_ ?_
 refine bP_ [10, 11, 12, 13, 14, 15, 16, 17, 18, 19, 20, 21, 22, 23, 24, 25, 26, 27, 28, 29, 30, 31, 32, 33, 34, 35] (fun g M => (g 35 = .bool (decide (1024 < a.x.1) || (decide (a.x.1 < (-1024)) || (decide (20 < (Z.bitsW b.x.n.dec).1) || decide (8 < (Z.bitsW b.x.d.dec).1))))) ∧ M = [⟨b2, 41, flat [pI b.x.n, pI b.x.d, pI b.y.n, pI b.y.d, pI b.z.n, pI b.z.d]⟩, ⟨b1, 23, flat [ci .i64 a.x.1, ci .i64 a.y.1, ci .i64 a.z.1]⟩]) (fun K5 J5 => ?_) ?_
 ·skip
  refine Rk fun K J => sE rfl (sQ (qA ar_23 rfl rfl rfl) rfl (sQ (qC ty_3 rfl m1 rfl) rfl (sE rfl ?_)))
  rcases bt (decide (1024 < a.x.1)) with h6 | h6
  ·skip
   refine sB h6 rfl (WL_n rfl (WL_n rfl (WL_n rfl (WL_n rfl (sE rfl (sE rfl (WL_n rfl (WL_n rfl (WL_n rfl (WL_n rfl (WL_n rfl (WL_n rfl (sE rfl (sE rfl (WL_n rfl (WL_n rfl (WL_n rfl (WL_n rfl (WL_n rfl ?_)))))))))))))))))))
   refine WL_n rfl (sE rfl (nl J ?_))
   refine J5 _ _ (by repeat first | exact .refl | refine .cons rfl ?_) ⟨_, s0, ?s35, rfl⟩
   case s35 => exact congrArg Value.bool (or_t h6)
  ·skip
   refine sB h6 rfl (sE rfl (sQ (qA ar_23 rfl rfl rfl) rfl (sQ (qC ty_3 rfl m1 rfl) rfl (sE rfl (sE rfl ?_)))))
   rcases bt (decide (a.x.1 < (-1024))) with h7 | h7
   ·skip
    refine sB h7 rfl (WL_n rfl (WL_n rfl (WL_n rfl (WL_n rfl (WL_n rfl (WL_n rfl (sE rfl (sE rfl (WL_n rfl (WL_n rfl (WL_n rfl (WL_n rfl (WL_n rfl (WL_n rfl (sE rfl (nl J ?_))))))))))))))))
    refine J5 _ _ (by repeat first | exact .refl | refine .cons rfl ?_) ⟨_, s0, ?s35, rfl⟩
    case s35 => exact congrArg Value.bool (or_f h6 (or_t h7))
   ·skip
    refine sB h7 rfl (sE rfl (sQ (qA ar_41 rfl rfl rfl) rfl (sQ (qF ct_ rfl rfl) rfl (sQ (qL ty_37 rfl m0 rfl) rfl (sC (.int .i64 ((Z.bitsW b.x.n.dec).1)) en_52 (bh_ b.x.n.1 b.x.n.2) rfl rfl rfl (sE rfl (sE rfl ?_)))))))
    rcases bt (decide (20 < (Z.bitsW b.x.n.dec).1)) with h8 | h8
    ·skip
     refine sB h8 rfl (WL_n rfl (WL_n rfl (WL_n rfl (WL_n rfl (WL_n rfl (WL_n rfl (sE rfl (nl J ?_))))))))
     refine J5 _ _ (by repeat first | exact .refl | refine .cons rfl ?_) ⟨_, s0, ?s35, rfl⟩
     case s35 => exact congrArg Value.bool (or_f h6 (or_f h7 (or_t h8)))
    ·skip
     refine sB h8 rfl (sE rfl (sQ (qA ar_41 rfl rfl rfl) rfl (sQ (qF bL_ rfl rfl) rfl (sQ (qL ty_37 rfl m0 rfl) rfl (sC (.int .i64 ((Z.bitsW b.x.d.dec).1)) en_52 (bh_ b.x.d.1 b.x.d.2) rfl rfl rfl (sE rfl (sE rfl (nl J ?_))))))))
     refine J5 _ _ (by repeat first | exact .refl | refine .cons rfl ?_) ⟨_, s0, ?s35, rfl⟩
     case s35 => exact congrArg Value.bool (or_f h6 (or_f h7 (or_f h8 rfl)))
 ·skip
  rintro g9 M ⟨hg35, rfl⟩
  simp only [setG, hg35]
  clear hg35
  rcases bt (decide (1024 < a.x.1) || (decide (a.x.1 < (-1024)) || (decide (20 < (Z.bitsW b.x.n.dec).1) || decide (8 < (Z.bitsW b.x.d.dec).1)))) with h10 | h10
  ·skip
   refine W_t h10 rfl (Rs fun K J => sE rfl (nl J (W_ret (aL_ (aj_ (aj_ (aL_ (aj_ (ret1 rfl (.inr rfl) rfl ?_)))))))))
   exact (by exact congrArg (fun r : Bool => (.bool r : Value)) (show _ = (bt_ a b) from bif_t h10 rfl))
  ·skip
   refine W_f h10 rfl (al_ (J4 _ _ (Rk fun K J => sE rfl (sV (.int .i64 1) rfl rfl (sE rfl (nl J (J2 _ _ (Un_s (fun K6 J6 => Sq fun K7 J7 => Rs fun K J => sE rfl (sV (.bool true) rfl rfl (nl J (bE_ rfl (al_ (J7 _ _ (Sq fun K8 J8 => at_ ?_)))))))))))))))
   refine bP_ [10, 11, 12, 13, 14, 15, 16, 17, 18, 19, 20, 21, 22, 23, 24, 25, 26, 27, 28, 29, 30, 31, 32, 33, 34, 35] (fun g M => (g 35 = .bool (decide (1024 < a.y.1) || (decide (a.y.1 < (-1024)) || (decide (20 < (Z.bitsW b.y.n.dec).1) || decide (8 < (Z.bitsW b.y.d.dec).1))))) ∧ M = [⟨b2, 41, flat [pI b.x.n, pI b.x.d, pI b.y.n, pI b.y.d, pI b.z.n, pI b.z.d]⟩, ⟨b1, 23, flat [ci .i64 a.x.1, ci .i64 a.y.1, ci .i64 a.z.1]⟩]) (fun K9 J9 => ?_) ?_
   ·skip
    refine Rk fun K J => sE rfl (sQ (qA ar_23 rfl rfl rfl) rfl (sQ (qC ty_3 rfl m1 rfl) rfl (sE rfl ?_)))
    rcases bt (decide (1024 < a.y.1)) with h14 | h14
    ·skip
     refine sB h14 rfl (WL_n rfl (WL_n rfl (WL_n rfl (WL_n rfl (sE rfl (sE rfl (WL_n rfl (WL_n rfl (WL_n rfl (WL_n rfl (WL_n rfl (WL_n rfl (sE rfl (sE rfl (WL_n rfl (WL_n rfl (WL_n rfl (WL_n rfl (WL_n rfl ?_)))))))))))))))))))
     refine WL_n rfl (sE rfl (nl J ?_))
     refine J9 _ _ (by repeat first | exact .refl | refine .cons rfl ?_) ⟨_, s0, ?s35, rfl⟩
     case s35 => exact congrArg Value.bool (or_t h14)
    ·skip
     refine sB h14 rfl (sE rfl (sQ (qA ar_23 rfl rfl rfl) rfl (sQ (qC ty_3 rfl m1 rfl) rfl (sE rfl (sE rfl ?_)))))
     rcases bt (decide (a.y.1 < (-1024))) with h15 | h15
     ·skip
      refine sB h15 rfl (WL_n rfl (WL_n rfl (WL_n rfl (WL_n rfl (WL_n rfl (WL_n rfl (sE rfl (sE rfl (WL_n rfl (WL_n rfl (WL_n rfl (WL_n rfl (WL_n rfl (WL_n rfl (sE rfl (nl J ?_))))))))))))))))
      refine J9 _ _ (by repeat first | exact .refl | refine .cons rfl ?_) ⟨_, s0, ?s35, rfl⟩
      case s35 => exact congrArg Value.bool (or_f h14 (or_t h15))
     ·skip
      refine sB h15 rfl (sE rfl (sQ (qA ar_41 rfl rfl rfl) rfl (sQ (qF ct_ rfl rfl) rfl (sQ (qL ty_37 rfl m0 rfl) rfl (sC (.int .i64 ((Z.bitsW b.y.n.dec).1)) en_52 (bh_ b.y.n.1 b.y.n.2) rfl rfl rfl (sE rfl (sE rfl ?_)))))))
      rcases bt (decide (20 < (Z.bitsW b.y.n.dec).1)) with h16 | h16
      ·skip
       refine sB h16 rfl (WL_n rfl (WL_n rfl (WL_n rfl (WL_n rfl (WL_n rfl (WL_n rfl (sE rfl (nl J ?_))))))))
       refine J9 _ _ (by repeat first | exact .refl | refine .cons rfl ?_) ⟨_, s0, ?s35, rfl⟩
       case s35 => exact congrArg Value.bool (or_f h14 (or_f h15 (or_t h16)))
      ·skip
       refine sB h16 rfl (sE rfl (sQ (qA ar_41 rfl rfl rfl) rfl (sQ (qF bL_ rfl rfl) rfl (sQ (qL ty_37 rfl m0 rfl) rfl (sC (.int .i64 ((Z.bitsW b.y.d.dec).1)) en_52 (bh_ b.y.d.1 b.y.d.2) rfl rfl rfl (sE rfl (sE rfl (nl J ?_))))))))
       refine J9 _ _ (by repeat first | exact .refl | refine .cons rfl ?_) ⟨_, s0, ?s35, rfl⟩
       case s35 => exact congrArg Value.bool (or_f h14 (or_f h15 (or_f h16 rfl)))
   ·skip
    rintro g17 M ⟨hg35, rfl⟩
    simp only [setG, hg35]
    clear hg35
    rcases bt (decide (1024 < a.y.1) || (decide (a.y.1 < (-1024)) || (decide (20 < (Z.bitsW b.y.n.dec).1) || decide (8 < (Z.bitsW b.y.d.dec).1)))) with h18 | h18
    ·skip
     refine W_t h18 rfl (Rs fun K J => sE rfl (nl J (W_ret (aL_ (aj_ (aj_ (aL_ (aj_ (ret1 rfl (.inr rfl) rfl ?_)))))))))
     exact (by exact congrArg (fun r : Bool => (.bool r : Value)) (show _ = (bt_ a b) from bif_f h10 (bif_t h18 rfl)))
    ·skip
     refine W_f h18 rfl (al_ (J8 _ _ (Rk fun K J => sE rfl (sV (.int .i64 2) rfl rfl (sE rfl (nl J (J6 _ _ (Un_s (fun K10 J10 => Sq fun K11 J11 => Rs fun K J => sE rfl (sV (.bool true) rfl rfl (nl J (bE_ rfl (al_ (J11 _ _ (Sq fun K12 J12 => at_ ?_)))))))))))))))
     refine bP_ [10, 11, 12, 13, 14, 15, 16, 17, 18, 19, 20, 21, 22, 23, 24, 25, 26, 27, 28, 29, 30, 31, 32, 33, 34, 35] (fun g M => (g 35 = .bool (decide (1024 < a.z.1) || (decide (a.z.1 < (-1024)) || (decide (20 < (Z.bitsW b.z.n.dec).1) || decide (8 < (Z.bitsW b.z.d.dec).1))))) ∧ M = [⟨b2, 41, flat [pI b.x.n, pI b.x.d, pI b.y.n, pI b.y.d, pI b.z.n, pI b.z.d]⟩, ⟨b1, 23, flat [ci .i64 a.x.1, ci .i64 a.y.1, ci .i64 a.z.1]⟩]) (fun K13 J13 => ?_) ?_
     ·skip
      refine Rk fun K J => sE rfl (sQ (qA ar_23 rfl rfl rfl) rfl (sQ (qC ty_3 rfl m1 rfl) rfl (sE rfl ?_)))
      rcases bt (decide (1024 < a.z.1)) with h22 | h22
      ·skip
       refine sB h22 rfl (WL_n rfl (WL_n rfl (WL_n rfl (WL_n rfl (sE rfl (sE rfl (WL_n rfl (WL_n rfl (WL_n rfl (WL_n rfl (WL_n rfl (WL_n rfl (sE rfl (sE rfl (WL_n rfl (WL_n rfl (WL_n rfl (WL_n rfl (WL_n rfl ?_)))))))))))))))))))
       refine WL_n rfl (sE rfl (nl J ?_))
       refine J13 _ _ (by repeat first | exact .refl | refine .cons rfl ?_) ⟨_, s0, ?s35, rfl⟩
       case s35 => exact congrArg Value.bool (or_t h22)
      ·skip
       refine sB h22 rfl (sE rfl (sQ (qA ar_23 rfl rfl rfl) rfl (sQ (qC ty_3 rfl m1 rfl) rfl (sE rfl (sE rfl ?_)))))
       rcases bt (decide (a.z.1 < (-1024))) with h23 | h23
       ·skip
        refine sB h23 rfl (WL_n rfl (WL_n rfl (WL_n rfl (WL_n rfl (WL_n rfl (WL_n rfl (sE rfl (sE rfl (WL_n rfl (WL_n rfl (WL_n rfl (WL_n rfl (WL_n rfl (WL_n rfl (sE rfl (nl J ?_))))))))))))))))
        refine J13 _ _ (by repeat first | exact .refl | refine .cons rfl ?_) ⟨_, s0, ?s35, rfl⟩
        case s35 => exact congrArg Value.bool (or_f h22 (or_t h23))
       ·skip
        refine sB h23 rfl (sE rfl (sQ (qA ar_41 rfl rfl rfl) rfl (sQ (qF ct_ rfl rfl) rfl (sQ (qL ty_37 rfl m0 rfl) rfl (sC (.int .i64 ((Z.bitsW b.z.n.dec).1)) en_52 (bh_ b.z.n.1 b.z.n.2) rfl rfl rfl (sE rfl (sE rfl ?_)))))))
        rcases bt (decide (20 < (Z.bitsW b.z.n.dec).1)) with h24 | h24
        ·skip
         refine sB h24 rfl (WL_n rfl (WL_n rfl (WL_n rfl (WL_n rfl (WL_n rfl (WL_n rfl (sE rfl (nl J ?_))))))))
         refine J13 _ _ (by repeat first | exact .refl | refine .cons rfl ?_) ⟨_, s0, ?s35, rfl⟩
         case s35 => exact congrArg Value.bool (or_f h22 (or_f h23 (or_t h24)))
        ·skip
         refine sB h24 rfl (sE rfl (sQ (qA ar_41 rfl rfl rfl) rfl (sQ (qF bL_ rfl rfl) rfl (sQ (qL ty_37 rfl m0 rfl) rfl (sC (.int .i64 ((Z.bitsW b.z.d.dec).1)) en_52 (bh_ b.z.d.1 b.z.d.2) rfl rfl rfl (sE rfl (sE rfl (nl J ?_))))))))
         refine J13 _ _ (by repeat first | exact .refl | refine .cons rfl ?_) ⟨_, s0, ?s35, rfl⟩
         case s35 => exact congrArg Value.bool (or_f h22 (or_f h23 (or_f h24 rfl)))
     ·skip
      rintro g25 M ⟨hg35, rfl⟩
      simp only [setG, hg35]
      clear hg35
      rcases bt (decide (1024 < a.z.1) || (decide (a.z.1 < (-1024)) || (decide (20 < (Z.bitsW b.z.n.dec).1) || decide (8 < (Z.bitsW b.z.d.dec).1)))) with h26 | h26
      ·skip
       refine W_t h26 rfl (Rs fun K J => sE rfl (nl J (W_ret (aL_ (aj_ (aj_ (aL_ (aj_ (ret1 rfl (.inr rfl) rfl ?_)))))))))
       exact (by exact congrArg (fun r : Bool => (.bool r : Value)) (show _ = (bt_ a b) from bif_f h10 (bif_f h18 (bif_t h26 rfl))))
      ·skip
       refine W_f h26 rfl (al_ (J12 _ _ (Rk fun K J => sE rfl (sV (.int .i64 3) rfl rfl (sE rfl (nl J (J10 _ _ (Un_s (fun K14 J14 => Sq fun K15 J15 => Rs fun K J => sE rfl (sV (.bool false) rfl rfl (nl J (by_ rfl (bp_ (ay_ (ay_ (aF_ (J1 _ _ (Rs fun K J => sE rfl ?_))))))))))))))))))
       refine nl J (W_ret (ret1 rfl (.inr rfl) rfl ?_))
       exact (by exact congrArg (fun r : Bool => (.bool r : Value)) (show _ = (bt_ a b) from bif_f h10 (bif_f h18 (bif_f h26 rfl))))

theorem fl_ (vl : Value) (l : (List (A3 Rt))) (vk : Value) (k : (List Rt)) (w : World) (hl : Slr w elVr vl l) (hk : Slr w elRt vk k) :
    Calls Tryz.prog 22 [vl, vk].toArray w (fun e w' => e = .returned (AV [pI (((aq_ l k).x).n), pI (((aq_ l k).x).d), pI (((aq_ l k).y).n), pI (((aq_ l k).y).d), pI (((aq_ l k).z).n), pI (((aq_ l k).z).d)]) ∧ Ext w w') := by
 refine cV_ (N := 33) Tryz.func22 rfl rfl (by simp) ?_
 obtain ⟨w0, rfl⟩ : ∃ w0, w0 = w := ⟨_, rfl⟩
 have Hl := hl.old
 have hm_l := hl.max
 have Hk := hk.old
 have hm_k := hk.max
 simp only [initF, Nat.reduceAdd]
 refine Rs fun K J => sN zp_41 rfl fun b1 hb1 => nl J (Rs fun K J => sQ (cq_ zp_23 ar_23 rfl (.nil _)) rfl ?_)
 obtain ⟨r2, hr2⟩ := nm ((ao_ (⟨(wl 0), (wl 0), (wl 0)⟩ : (A3 W))) : (A3 Rt))
 refine sC (AV [pI r2.x.n, pI r2.x.d, pI r2.y.n, pI r2.y.d, pI r2.z.n, pI r2.z.d]) en_32 (eR_ (⟨(wl 0), (wl 0), (wl 0)⟩ : (A3 W))) rfl rfl (by rw [hr2]; first | done | rfl) ?_
 refine sN zp_41 rfl fun b3 hb3 => sS [pI r2.x.n, pI r2.x.d, pI r2.y.n, pI r2.y.d, pI r2.z.n, pI r2.z.d] ty_41 rfl rfl rfl rfl rfl (.head _) rfl hb3 (nl J (Sq fun K1 J1 => Rs fun K J => sE rfl (nl J ?_)))
 refine gN_ (fun S M h => J1 S M h) [6, 9, 10, 11, 12, 13, 14, 15, 16, 17, 18, 19, 20, 21, 22, 23, 24, 25, 26, 27, 28, 29, 30, 31] (fun g M => ∃ (i : Nat) (mb3 : (A3 Rt)), (ca_ l k r2 ((min l.length k.length + 1)) 0 r2) = (i, mb3) ∧ (g 6 = .int .i64 ((i : Nat) : Int)) ∧ M = [⟨b3, 41, flat [pI mb3.x.n, pI mb3.x.d, pI mb3.y.n, pI mb3.y.d, pI mb3.z.n, pI mb3.z.d]⟩, ⟨b1, 41, flat [pI I0, pI I0, pI I0, pI I0, pI I0, pI I0]⟩]) (fun K_u4 hK_u4 => ?_) ?_
 ·skip
  refine at_ ?_
  refine bv_ [6, 9, 10, 11, 12, 13, 14, 15, 16, 17, 18, 19, 20, 21, 22, 23, 24, 25, 26, 27, 28, 29, 30, 31] (fun g nn M => ∃ (i : Nat) (mb3 : (A3 Rt)), (ca_ l k r2 nn i mb3) = (ca_ l k r2 ((min l.length k.length + 1)) 0 r2) ∧ min l.length k.length - i < nn ∧ (i ≤ min l.length k.length) ∧ (g 6 = .int .i64 ((i : Nat) : Int)) ∧ M = [⟨b3, 41, flat [pI mb3.x.n, pI mb3.x.d, pI mb3.y.n, pI mb3.y.d, pI mb3.z.n, pI mb3.z.d]⟩, ⟨b1, 41, flat [pI I0, pI I0, pI I0, pI I0, pI I0, pI I0]⟩]) ((min l.length k.length + 1)) ?start ?round
  case start => exact ⟨_, s0, 0, r2, rfl, (by omega), (by omega), rfl, rfl⟩
  case round =>
   rintro nn g M ⟨i, mb3, hT0, hq0, hinv0, hg6, rfl⟩
   obtain ⟨k0, rfl⟩ : ∃ m, nn = m + 1 := ⟨nn - 1, by omega⟩
   simp only [setG, hg6]
   clear hg6
   refine Sq fun K8 J8 => ?_
   refine bP_ [9, 10, 11, 12, 13, 14, 15, 16, 17, 18] (fun g M => (g 18 = .bool (decide (((i : Nat) : Int) < (((l).length : Nat) : Int)) && decide (((i : Nat) : Int) < (((k).length : Nat) : Int)))) ∧ M = [⟨b3, 41, flat [pI mb3.x.n, pI mb3.x.d, pI mb3.y.n, pI mb3.y.d, pI mb3.z.n, pI mb3.z.d]⟩, ⟨b1, 41, flat [pI I0, pI I0, pI I0, pI I0, pI I0, pI I0]⟩]) (fun K9 J9 => ?_) ?_
   ·skip
    refine Rk fun K J => sE rfl (sE rfl (sQ (q_as (v' := .int .i64 (((l).length : Nat) : Int)) (eg_ (e := elVr) sl_24 rfl (SLe.sub Hl sn)) rfl) rfl (sE rfl ?_)))
    rcases bt (decide (((i : Nat) : Int) < (((l).length : Nat) : Int))) with h22 | h22
    ·skip
     have ph22 := of_decide_eq_true h22
     refine sB h22 rfl (sE rfl (sE rfl (sQ (q_as (v' := .int .i64 (((k).length : Nat) : Int)) (eg_ (e := elRt) sl_43 rfl (SLe.sub Hk sn)) rfl) rfl (sE rfl (sE rfl (nl J ?_))))))
     refine J9 _ _ (by repeat first | exact .refl | refine .cons rfl ?_) ⟨_, s0, ?s18, rfl⟩
     case s18 => exact congrArg Value.bool (and_t h22 rfl)
    ·skip
     have ph22 := of_decide_eq_false h22
     refine sB h22 rfl (WL_n rfl (WL_n rfl (WL_n rfl (WL_n rfl (sE rfl (nl J ?_))))))
     refine J9 _ _ (by repeat first | exact .refl | refine .cons rfl ?_) ⟨_, s0, ?s18, rfl⟩
     case s18 => exact congrArg Value.bool (and_f h22)
   ·skip
    rintro g23 M ⟨hg18, rfl⟩
    simp only [setG, hg18]
    clear hg18
    rcases bt (decide (((i : Nat) : Int) < (((l).length : Nat) : Int)) && decide (((i : Nat) : Int) < (((k).length : Nat) : Int))) with h24 | h24
    ·skip
     have ph25 := of_decide_eq_true (Bool.and_eq_true_iff.1 h24).1
     have ph26 := of_decide_eq_true (Bool.and_eq_true_iff.1 h24).2
     refine W_t h24 rfl (al_ (J8 _ _ (Sq fun K10 J10 => at_ (dr (sd (sk (s0))) [0,4,8,12,16,20,24,28,32,36,40,45] [11] mix (by kernel_rfl) (fun K J => pQ rfl (qL ty_41 rfl m0 rfl) (pE rfl (pE rfl (pQ rfl (q_as (v' := .pointer (some (slb vk (i * 36 + 0)))) (cp_ (e := elRt) (l := k) (k := i) sl_43 rfl rfl (SLe.sub Hk sn) (by omega)) rfl) (pQ rfl (q_ldG (e := elRt) (l := k) (k := i) (o := 0) ty_39 rfl (SLe.sub Hk sn) (b5_ Rt0 (by omega)) rfl) (pE rfl (pE rfl (pQ rfl (q_as (v' := .pointer (some (slb vl (i * 108 + 0)))) (cp_ (e := elVr) (l := l) (k := i) sl_24 rfl rfl (SLe.sub Hl sn) (by omega)) rfl) (pQ rfl (q_ldG (e := elVr) (l := l) (k := i) (o := 0) ty_41 rfl (SLe.sub Hl sn) (b5_ V0 (by omega)) rfl) ?_)))))))))))))
     obtain ⟨r27, hr27⟩ := nm ((aw_ (k.getD i Rt0) (l.getD i V0)) : (A3 Rt))
     refine pC (AV [pI r27.x.n, pI r27.x.d, pI r27.y.n, pI r27.y.d, pI r27.z.n, pI r27.z.d]) en_34 (fC_ (k.getD i Rt0) (l.getD i V0)) rfl rfl (by rw [hr27]; first | done | rfl) ?_
     obtain ⟨r28, hr28⟩ := nm ((aH_ mb3 r27) : (A3 Rt))
     refine pC (AV [pI r28.x.n, pI r28.x.d, pI r28.y.n, pI r28.y.d, pI r28.z.n, pI r28.z.d]) en_33 (fY_ mb3 r27) rfl rfl (by rw [hr28]; first | done | rfl) (oS [pI r28.x.n, pI r28.x.d, pI r28.y.n, pI r28.y.d, pI r28.z.n, pI r28.z.d] ty_41 rfl rfl rfl rfl rfl rfl (.head _) rfl hb3 rfl (sd s0) (fl J (J10 _ _ (Rk fun K J => sE rfl (sV (.int .i64 ((i + 1 : Nat) : Int)) rfl (congrArg (Value.int .i64) (wx (by omega) (by omega) (by omega))) (sE rfl (nl J (⟨(by repeat first | exact .refl | refine .cons rfl ?_), _, _, s0, (Nat.lt_succ_self _), i + 1, r28, (by subst hr28; subst hr27; exact (hT0.symm.trans (Eq.symm (bif_t h24 rfl))).symm), (Nat.lt_of_lt_of_le (by omega) (Nat.le_of_lt_succ hq0)), (by omega), rfl, rfl⟩))))))))
    ·skip
     refine W_f h24 rfl (bp_ (ay_ (ay_ (aF_ (hK_u4 _ _ (by repeat first | exact .refl | refine .cons rfl ?_) ⟨_, s0, i, mb3, (by exact hT0.symm.trans (Eq.symm (bif_f h24 rfl))), rfl, rfl⟩)))))
 ·skip
  rintro g M ⟨i, mb3, hCu4, hg6, rfl⟩
  simp only [setG, hg6]
  clear hg6
  refine Rs fun K J => sQ (qL ty_41 rfl m0 rfl) rfl (sS [pI mb3.x.n, pI mb3.x.d, pI mb3.y.n, pI mb3.y.d, pI mb3.z.n, pI mb3.z.d] ty_41 rfl rfl rfl rfl rfl (.tail _ (.head _)) rfl hb1 (nl J (W_ret (ret1 rfl (.inr rfl) (resP rfl m1 ty_41 rfl) ?_))))
  exact (by subst hr2; exact congrArg (fun r : (A3 Rt) => (AV [pI r.x.n, pI r.x.d, pI r.y.n, pI r.y.d, pI r.z.n, pI r.z.d] : Value)) (show _ = (aq_ l k) from (by unfold aq_; exact trs (Eq.symm (apS hCu4)) rfl)))

theorem fd_ (va : Value) (a : (List (A3 Rt))) (vb : Value) (b : (List (A3 Rt))) (w : World) (ha : Slr w elVr va a) (hb : Slr w elVr vb b) :
    Calls Tryz.prog 13 [va, vb].toArray w (fun e w' => e = .returned (.bool (co_ a b)) ∧ Ext w w') := by
 refine cV_ (N := 26) Tryz.func13 rfl rfl (by simp) ?_
 obtain ⟨w0, rfl⟩ : ∃ w0, w0 = w := ⟨_, rfl⟩
 have Ha := ha.old
 have hm_a := ha.max
 have Hb := hb.old
 have hm_b := hb.max
 simp only [initF, Nat.reduceAdd]
 refine Rs fun K J => sE rfl (nl J (Sq fun K1 J1 => Rs fun K J => sE rfl (sQ (q_as (v' := .int .i64 (((a).length : Nat) : Int)) (eg_ (e := elVr) sl_24 rfl (SLe.sub Ha sn)) rfl) rfl (sE rfl (sQ (q_as (v' := .int .i64 (((b).length : Nat) : Int)) (eg_ (e := elVr) sl_24 rfl (SLe.sub Hb sn)) rfl) rfl (sE rfl (nl J ?_)))))))
 rcases bt ((((a).length : Nat) : Int) != (((b).length : Nat) : Int)) with h1 | h1
 ·skip
  have ph2 := neI_t h1
  refine W_t h1 rfl (Rs fun K J => sE rfl (nl J (W_ret (aj_ (ret1 rfl (.inr rfl) rfl ?_)))))
  exact (by exact congrArg (fun r : Bool => (.bool r : Value)) (show _ = (co_ a b) from bif_t h1 rfl))
 ·skip
  have ph3 := neI_f h1
  refine W_f h1 rfl (al_ (J1 _ _ (Sq fun K2 J2 => Rs fun K J => sE rfl (nl J ?_))))
  refine gN_ (fun S M h => J2 S M h) [4, 5, 11, 12, 13, 14, 15, 16, 17, 18, 19, 20, 21, 22, 23, 24, 25] (fun g M => ∃ (i : Nat), (b6_ a b ((a.length + 1)) 0) = .inl i ∧ (g 5 = .int .i64 ((i : Nat) : Int)) ∧ M = []) (fun K_u4 hK_u4 => ?_) ?_
  ·skip
   refine at_ ?_
   refine bv_ [4, 5, 11, 12, 13, 14, 15, 16, 17, 18, 19, 20, 21, 22, 23, 24, 25] (fun g nn M => ∃ (i : Nat), (b6_ a b nn i) = (b6_ a b ((a.length + 1)) 0) ∧ a.length - i < nn ∧ (i ≤ a.length) ∧ (g 5 = .int .i64 ((i : Nat) : Int)) ∧ M = []) ((a.length + 1)) ?start ?round
   case start => exact ⟨_, s0, 0, rfl, (by omega), (by omega), rfl, rfl⟩
   case round =>
    rintro nn g M ⟨i, hT0, hq0, hinv0, hg5, rfl⟩
    obtain ⟨k0, rfl⟩ : ∃ m, nn = m + 1 := ⟨nn - 1, by omega⟩
    simp only [setG, hg5]
    clear hg5
    refine Sq fun K7 J7 => Rs fun K J => sE rfl (sE rfl (sQ (q_as (v' := .int .i64 (((a).length : Nat) : Int)) (eg_ (e := elVr) sl_24 rfl (SLe.sub Ha sn)) rfl) rfl (sE rfl (nl J ?_))))
    rcases bt (decide (((i : Nat) : Int) < (((a).length : Nat) : Int))) with h9 | h9
    ·skip
     have ph9 := of_decide_eq_true h9
     refine W_t h9 rfl (al_ (J7 _ _ (Sq fun K8 J8 => at_ (ds sn [0,4,8,12,16,20,24,28,32] [] mix (by kernel_rfl) (fun K J => pE rfl (pE rfl (pQ rfl (q_as (v' := .pointer (some (slb va (i * 108 + 0)))) (cp_ (e := elVr) (l := a) (k := i) sl_24 rfl rfl (SLe.sub Ha sn) (by omega)) rfl) (pQ rfl (q_ldG (e := elVr) (l := a) (k := i) (o := 0) ty_41 rfl (SLe.sub Ha sn) (b5_ V0 (by omega)) rfl) (pE rfl (pE rfl (pQ rfl (q_as (v' := .pointer (some (slb vb (i * 108 + 0)))) (cp_ (e := elVr) (l := b) (k := i) sl_24 rfl rfl (SLe.sub Hb sn) (by omega)) rfl) (pQ rfl (q_ldG (e := elVr) (l := b) (k := i) (o := 0) ty_41 rfl (SLe.sub Hb sn) (b5_ V0 (by omega)) rfl) ?_))))))))))))
     refine pQ rfl (hI_ (r := (decide ((((a.getD i V0).x).n) = (((b.getD i V0).x).n)) && (decide ((((a.getD i V0).x).d) = (((b.getD i V0).x).d)) && (decide ((((a.getD i V0).y).n) = (((b.getD i V0).y).n)) && (decide ((((a.getD i V0).y).d) = (((b.getD i V0).y).d)) && (decide ((((a.getD i V0).z).n) = (((b.getD i V0).z).n)) && decide ((((a.getD i V0).z).d) = (((b.getD i V0).z).d)))))))) rfl rfl (dY_ 8 (by decide) eg_41 lw_41 (bK_ lv_pI (bK_ lv_pI (bK_ lv_pI (bK_ lv_pI (bK_ lv_pI (ef_ lv_pI)))))) (bK_ lv_pI (bK_ lv_pI (bK_ lv_pI (bK_ lv_pI (bK_ lv_pI (ef_ lv_pI)))))) (cO_ rfl eq_pI (cO_ rfl eq_pI (cO_ rfl eq_pI (cO_ rfl eq_pI (cO_ rfl eq_pI (fp_ eq_pI)))))))) (fl J ?_)
     rcases bt (decide ((((a.getD i V0).x).n) = (((b.getD i V0).x).n)) && (decide ((((a.getD i V0).x).d) = (((b.getD i V0).x).d)) && (decide ((((a.getD i V0).y).n) = (((b.getD i V0).y).n)) && (decide ((((a.getD i V0).y).d) = (((b.getD i V0).y).d)) && (decide ((((a.getD i V0).z).n) = (((b.getD i V0).z).n)) && decide ((((a.getD i V0).z).d) = (((b.getD i V0).z).d))))))) with h10 | h10
     ·skip
      refine W_f (not_f h10) rfl (al_ (J8 _ _ (Rk fun K J => sE rfl (sV (.int .i64 ((i + 1 : Nat) : Int)) rfl (congrArg (Value.int .i64) (wx (by omega) (by omega) (by omega))) (sE rfl (nl J (⟨(by repeat first | exact .refl | refine .cons rfl ?_), _, _, s0, (Nat.lt_succ_self _), i + 1, (by exact (hT0.symm.trans (Eq.symm (bif_t h9 (bif_t h10 rfl)))).symm), (Nat.lt_of_lt_of_le (by omega) (Nat.le_of_lt_succ hq0)), (by omega), rfl, rfl⟩)))))))
     ·skip
      refine W_t (not_t h10) rfl (Rs fun K J => sE rfl (nl J (W_ret (aL_ (aj_ (aj_ (aL_ (aj_ (aj_ (ret1 rfl (.inr rfl) rfl ?_))))))))))
      exact (by exact congrArg (fun r : Bool => (.bool r : Value)) (show _ = (co_ a b) from bif_f h1 ((sm_q rfl (hT0.symm.trans (Eq.symm (bif_t h9 (bif_f h10 rfl))))))))
    ·skip
     have ph9 := of_decide_eq_false h9
     refine W_f h9 rfl (bp_ (ay_ (ay_ (aF_ (hK_u4 _ _ (by repeat first | exact .refl | refine .cons rfl ?_) ⟨_, s0, i, (by exact hT0.symm.trans (Eq.symm (bif_f h9 rfl))), rfl, rfl⟩)))))
  ·skip
   rintro g M ⟨i, hCu4, hg5, rfl⟩
   simp only [setG, hg5]
   clear hg5
   refine Rs fun K J => sE rfl (nl J (W_ret (ret1 rfl (.inr rfl) rfl ?_)))
   exact (by exact congrArg (fun r : Bool => (.bool r : Value)) (show _ = (co_ a b) from bif_f h1 (trs (Eq.symm (smS hCu4)) rfl)))
end Go.Proofs.YtapbefpeopaecaaGreatDoor

set_option linter.unusedVariables false
set_option linter.unusedSimpArgs false
namespace Go.Num
open Go Go.Kn
def bg_ (a : (A3 W)) (b : W) (c : (A3 Rt)) : List Rt → Rt → (Rt) ⊕ (Bool)
  | [], mb28 => .inl mb28
  | x0 :: l0, mb28 => bif decide ((aI_ x0).1 < 0) then (.inr (false)) else ((bg_ a b c l0 (ak_ mb28 x0)))
def be_ (a : (A3 W)) (b : W) (c : (A3 Rt)) : Bool :=
  bif (!(bc_ c) || (!(aJ_ a b) || (!(bt_ a c)))) then (bG_) else (bif (((ai_ a b c).2 != (c3_ a b c)) || ((ai_ a b c).2 && (!(cj_ a b c)))) then (false) else (bif (ai_ a b c).2 then (bif ((((av_ a b).2).1 != 0) || (((((av_ a b).1).length : Nat) : Int) != ((((ai_ a b c).1).length : Nat) : Int))) then (false) else (sm (fun (s : Rt) => let mb28 : Rt := s
  let r43 : Rt := (bO_ (bS_ a a))
  let r44 : Rt := (a8_ (bn_ a c) r43)
  (bG_ && ((decide (mb28.n = r44.n) && decide (mb28.d = r44.d)) && (decide ((((aq_ ((av_ a b).1) ((ai_ a b c).1)).x).n) = c.x.n) && (decide ((((aq_ ((av_ a b).1) ((ai_ a b c).1)).x).d) = c.x.d) && (decide ((((aq_ ((av_ a b).1) ((ai_ a b c).1)).y).n) = c.y.n) && (decide ((((aq_ ((av_ a b).1) ((ai_ a b c).1)).y).d) = c.y.d) && (decide ((((aq_ ((av_ a b).1) ((ai_ a b c).1)).z).n) = c.z.n) && decide ((((aq_ ((av_ a b).1) ((ai_ a b c).1)).z).d) = c.z.d))))))))) (fun r => r) (bg_ a b c (ai_ a b c).1 (ag_ (wl 0))))) else ((bG_ && (((((ai_ a b c).1).length : Nat) : Int) == 0)))))
end Go.Num

