/- Walks: what these functions return. -/
import Derived.Test.YtnfbkngfdemkpaaGreatDoorFa0
import Derived.Test.YtnfbkngfdemkpaaGreatDoorFa2
import Derived.Test.YtnfbkngfdemkpaaGreatDoorFa3
import Derived.Test.YtnfbkngfdemkpaaGreatDoorFl
import Derived.Test.YtnfbkngfdemkpaaGreatDoorGa
import Derived.Test.YtnfbkngfdemkpaaGreatDoorGf
import Derived.Test.YtnfbkngfdemkpaaGreatDoorIa
import Derived.Test.YtnfbkngfdemkpaaGreatDoorLa
namespace Go.Proofs.YtnfbkngfdemkpaaGreatDoor
open Go.Kn Go.Num
set_option linter.unusedVariables false
set_option linter.unusedSimpArgs false
set_option maxRecDepth 20000
set_option maxHeartbeats 8000000
theorem skewbacklaw05_IntervalIncludes_ret (a : Iv) (b : Iv) (c : Rt) (d : Rt) (e : Int) :
    Ret Tryz.prog 8 [AV [pI a.lo.n, pI a.lo.d, pI a.hi.n, pI a.hi.d], AV [pI b.lo.n, pI b.lo.d, pI b.hi.n, pI b.hi.d], AV [pI c.n, pI c.d], AV [pI d.n, pI d.d], .int .u8 e] (.bool (F_skewbacklaw05_IntervalIncludes a b c d e)) := by
 refine ret_of_W (N := 115) Tryz.func8 rfl rfl (by simp) (fun w0 => ?_)
 simp only [initF, Nat.reduceAdd]
 refine Rs fun K J => WL_r rfl (r_boxp rfl rfl (fun b1 hb1 => WL_r rfl (r_boxp rfl rfl (fun b2 hb2 => WL_r rfl (r_boxp rfl rfl (fun b3 hb3 => WL_r rfl (r_boxp rfl rfl (fun b4 hb4 => sE rfl (nl J (Sq fun K1 J1 => ?_))))))))))
 refine W_join [13, 14, 15, 16, 17, 18, 19, 20, 21, 22, 23, 24, 25, 26, 27, 28, 29, 30] (fun g M => (g 30 = .bool (!(F_skewbacklaw05_short a (wl 60)) || (!(F_skewbacklaw05_short b (wl 60)) || (!(F_skewbacklaw05_few c (wl 60)) || (!(F_skewbacklaw05_few d (wl 60))))))) ∧ M = [⟨b4, 28, flat [pI d.n, pI d.d]⟩, ⟨b3, 28, flat [pI c.n, pI c.d]⟩, ⟨b2, 31, flat [pI b.lo.n, pI b.lo.d, pI b.hi.n, pI b.hi.d]⟩, ⟨b1, 31, flat [pI a.lo.n, pI a.lo.d, pI a.hi.n, pI a.hi.d]⟩]) (fun K2 J2 => ?_) ?_
 ·skip
  refine Rk fun K J => sQ (qL ty_31 rfl m3 rfl) rfl (sQ (q_ret en_27 (skewbacklaw05_short_ret a (wl 60)) rfl) rfl ?_)
  refine sE rfl ?_
  rcases bt (F_skewbacklaw05_short a (wl 60)) with h8 | h8
  ·skip
   refine sB (not_f h8) rfl (sQ (qL ty_31 rfl m2 rfl) rfl (sQ (q_ret en_27 (skewbacklaw05_short_ret b (wl 60)) rfl) rfl ?_))
   refine sE rfl (sE rfl ?_)
   rcases bt (F_skewbacklaw05_short b (wl 60)) with h9 | h9
   ·skip
    refine sB (not_f h9) rfl (sQ (qL ty_28 rfl m1 rfl) rfl (sQ (q_ret en_53 (skewbacklaw05_few_ret c (wl 60)) rfl) rfl ?_))
    refine sE rfl (sE rfl ?_)
    rcases bt (F_skewbacklaw05_few c (wl 60)) with h10 | h10
    ·skip
     refine sB (not_f h10) rfl (sQ (qL ty_28 rfl m0 rfl) rfl (sQ (q_ret en_53 (skewbacklaw05_few_ret d (wl 60)) rfl) rfl ?_))
     refine sE rfl (sE rfl (nl J ?_))
     refine J2 _ _ (by repeat first | exact .refl | refine .cons rfl ?_) ⟨_, s0, ?s30, rfl⟩
     case s30 => exact congrArg Value.bool (nor_t h8 (nor_t h9 (nor_t h10 rfl)))
    ·skip
     refine sB (not_t h10) rfl (WL_n rfl (WL_n rfl (WL_n rfl (sE rfl (nl J ?_)))))
     refine J2 _ _ (by repeat first | exact .refl | refine .cons rfl ?_) ⟨_, s0, ?s30, rfl⟩
     case s30 => exact congrArg Value.bool (nor_t h8 (nor_t h9 (nor_f h10)))
   ·skip
    refine sB (not_t h9) rfl (WL_n rfl (WL_n rfl (WL_n rfl (sE rfl (sE rfl (WL_n rfl (WL_n rfl (WL_n rfl (sE rfl (nl J ?_))))))))))
    refine J2 _ _ (by repeat first | exact .refl | refine .cons rfl ?_) ⟨_, s0, ?s30, rfl⟩
    case s30 => exact congrArg Value.bool (nor_t h8 (nor_f h9))
  ·skip
   refine sB (not_t h8) rfl (WL_n rfl (WL_n rfl (WL_n rfl (sE rfl (sE rfl (WL_n rfl (WL_n rfl (WL_n rfl (sE rfl (sE rfl (WL_n rfl (WL_n rfl (WL_n rfl (sE rfl (nl J ?_)))))))))))))))
   refine J2 _ _ (by repeat first | exact .refl | refine .cons rfl ?_) ⟨_, s0, ?s30, rfl⟩
   case s30 => exact congrArg Value.bool (nor_f h8)
 ·skip
  rintro g11 M ⟨hg30, rfl⟩
  simp only [setG, hg30]
  clear hg30
  rcases bt (!(F_skewbacklaw05_short a (wl 60)) || (!(F_skewbacklaw05_short b (wl 60)) || (!(F_skewbacklaw05_few c (wl 60)) || (!(F_skewbacklaw05_few d (wl 60)))))) with h12 | h12
  ·skip
   refine W_t h12 rfl (Rs fun K J => sQ (q_ret en_10 skewbacklaw05_sanity_ret  rfl) rfl (sE rfl (nl J (W_ret (thenK_r (ret1 rfl (.inr rfl) rfl ?_))))))
   exact (by exact congrArg (fun r : Bool => (.bool r : Value)) (show _ = (F_skewbacklaw05_IntervalIncludes a b c d e) from bif_t h12 rfl))
  ·skip
   refine W_f h12 rfl (W_skip (J1 _ _ (Rs fun K J => sQ (qL ty_31 rfl m3 rfl) rfl (sQ (qL ty_28 rfl m1 rfl) rfl (sQ (q_ret en_54 (skewbacklaw05_clamp_ret a c) rfl) rfl (sS [pI ((F_skewbacklaw05_clamp a c).n), pI ((F_skewbacklaw05_clamp a c).d)] ty_28 rfl rfl rfl rfl rfl (.tail _ (.head _)) rfl hb3 (nl J (Rs fun K J => sQ (qL ty_31 rfl m2 rfl) rfl (sQ (qL ty_28 rfl m0 rfl) rfl (sQ (q_ret en_54 (skewbacklaw05_clamp_ret b d) rfl) rfl (sS [pI ((F_skewbacklaw05_clamp b d).n), pI ((F_skewbacklaw05_clamp b d).d)] ty_28 rfl rfl rfl rfl rfl (.head _) rfl hb4 (nl J (Sq fun K3 J3 => ?_)))))))))))))
   refine W_join [38, 39, 40, 41, 42, 43, 44, 45, 46, 47, 48, 49, 50, 51, 52, 53, 54, 55, 56, 57, 58, 59, 60, 61, 62, 63, 64, 65] (fun g M => (g 65 = .bool (!(F_interval_Has (F_interval_Add a b) (F_ratio_Add (F_skewbacklaw05_clamp a c) (F_skewbacklaw05_clamp b d))) || (!(F_interval_Has (F_interval_Sub a b) (F_ratio_Sub (F_skewbacklaw05_clamp a c) (F_skewbacklaw05_clamp b d))) || (!(F_interval_Has (F_interval_Mul a b) (F_ratio_Mul (F_skewbacklaw05_clamp a c) (F_skewbacklaw05_clamp b d))))))) ∧ M = [⟨b4, 28, flat [pI ((F_skewbacklaw05_clamp b d).n), pI ((F_skewbacklaw05_clamp b d).d)]⟩, ⟨b3, 28, flat [pI ((F_skewbacklaw05_clamp a c).n), pI ((F_skewbacklaw05_clamp a c).d)]⟩, ⟨b2, 31, flat [pI b.lo.n, pI b.lo.d, pI b.hi.n, pI b.hi.d]⟩, ⟨b1, 31, flat [pI a.lo.n, pI a.lo.d, pI a.hi.n, pI a.hi.d]⟩]) (fun K4 J4 => ?_) ?_
   ·skip
    refine dr (sk (sk (sk (sk (s0))))) [0,4,8,12,16,20,24,28,32,36,40,44,48,52,56,60,64,68,72,76,80,84,88,92,96,100,104,108] [] mix (by kernel_rfl) (fun K J => pQ rfl (qL ty_31 rfl m3 rfl) (pQ rfl (qL ty_31 rfl m2 rfl) (pQ rfl (q_ret en_28 (interval_Add_ret a b) rfl) (pQ rfl (qL ty_28 rfl m1 rfl) (pQ rfl (qL ty_28 rfl m0 rfl) (pQ rfl (q_ret en_55 (ratio_Add_ret (F_skewbacklaw05_clamp a c) (F_skewbacklaw05_clamp b d)) rfl) (pQ rfl (q_ret en_17 (interval_Has_ret (F_interval_Add a b) (F_ratio_Add (F_skewbacklaw05_clamp a c) (F_skewbacklaw05_clamp b d))) rfl) (pE rfl ?_))))))))
    rcases bt (F_interval_Has (F_interval_Add a b) (F_ratio_Add (F_skewbacklaw05_clamp a c) (F_skewbacklaw05_clamp b d))) with h17 | h17
    ·skip
     refine pB (not_f h17) rfl (pQ rfl (qL ty_31 rfl m3 rfl) (pQ rfl (qL ty_31 rfl m2 rfl) (pQ rfl (q_ret en_29 (interval_Sub_ret a b) rfl) (pQ rfl (qL ty_28 rfl m1 rfl) (pQ rfl (qL ty_28 rfl m0 rfl) (pQ rfl (q_ret en_56 (ratio_Sub_ret (F_skewbacklaw05_clamp a c) (F_skewbacklaw05_clamp b d)) rfl) (pQ rfl (q_ret en_17 (interval_Has_ret (F_interval_Sub a b) (F_ratio_Sub (F_skewbacklaw05_clamp a c) (F_skewbacklaw05_clamp b d))) rfl) (pE rfl (pE rfl ?_)))))))))
     rcases bt (F_interval_Has (F_interval_Sub a b) (F_ratio_Sub (F_skewbacklaw05_clamp a c) (F_skewbacklaw05_clamp b d))) with h18 | h18
     ·skip
      refine pB (not_f h18) rfl (pQ rfl (qL ty_31 rfl m3 rfl) (pQ rfl (qL ty_31 rfl m2 rfl) (pQ rfl (q_ret en_30 (interval_Mul_ret a b) rfl) (pQ rfl (qL ty_28 rfl m1 rfl) (pQ rfl (qL ty_28 rfl m0 rfl) (pQ rfl (q_ret en_36 (ratio_Mul_ret (F_skewbacklaw05_clamp a c) (F_skewbacklaw05_clamp b d)) rfl) (pQ rfl (q_ret en_17 (interval_Has_ret (F_interval_Mul a b) (F_ratio_Mul (F_skewbacklaw05_clamp a c) (F_skewbacklaw05_clamp b d))) rfl) (pE rfl (pE rfl (fl J ?_))))))))))
      refine J4 _ _ (by repeat first | exact .refl | refine .cons rfl ?_) ⟨_, s0, ?s65, rfl⟩
      case s65 => exact congrArg Value.bool (nor_t h17 (nor_t h18 rfl))
     ·skip
      refine pB (not_t h18) rfl (PL_n rfl rfl (PL_n rfl rfl (PL_n rfl rfl (PL_n rfl rfl (PL_n rfl rfl (PL_n rfl rfl (PL_n rfl rfl (PL_n rfl rfl (pE rfl (fl J ?_))))))))))
      refine J4 _ _ (by repeat first | exact .refl | refine .cons rfl ?_) ⟨_, s0, ?s65, rfl⟩
      case s65 => exact congrArg Value.bool (nor_t h17 (nor_f h18))
    ·skip
     refine pB (not_t h17) rfl (PL_n rfl rfl (PL_n rfl rfl (PL_n rfl rfl (PL_n rfl rfl (PL_n rfl rfl (PL_n rfl rfl (PL_n rfl rfl (PL_n rfl rfl (pE rfl (pE rfl (PL_n rfl rfl (PL_n rfl rfl (PL_n rfl rfl (PL_n rfl rfl (PL_n rfl rfl (PL_n rfl rfl (PL_n rfl rfl (PL_n rfl rfl (pE rfl ?_)))))))))))))))))))
     refine fl J ?_
     refine J4 _ _ (by repeat first | exact .refl | refine .cons rfl ?_) ⟨_, s0, ?s65, rfl⟩
     case s65 => exact congrArg Value.bool (nor_f h17)
   ·skip
    rintro g19 M ⟨hg65, rfl⟩
    simp only [setG, hg65]
    clear hg65
    rcases bt (!(F_interval_Has (F_interval_Add a b) (F_ratio_Add (F_skewbacklaw05_clamp a c) (F_skewbacklaw05_clamp b d))) || (!(F_interval_Has (F_interval_Sub a b) (F_ratio_Sub (F_skewbacklaw05_clamp a c) (F_skewbacklaw05_clamp b d))) || (!(F_interval_Has (F_interval_Mul a b) (F_ratio_Mul (F_skewbacklaw05_clamp a c) (F_skewbacklaw05_clamp b d)))))) with h20 | h20
    ·skip
     refine W_t h20 rfl (Rs fun K J => sE rfl (nl J (W_ret (thenK_r (ret1 rfl (.inr rfl) rfl ?_)))))
     exact (by exact congrArg (fun r : Bool => (.bool r : Value)) (show _ = (F_skewbacklaw05_IntervalIncludes a b c d e) from bif_f h12 (bif_t h20 rfl)))
    ·skip
     refine W_f h20 rfl (W_skip (J3 _ _ (Sq fun K5 J5 => ?_)))
     refine W_join [66, 67, 68, 69, 70, 71, 72, 73, 74, 75, 76, 77, 78, 79] (fun g M => (g 79 = .bool (!(F_interval_Has b (F_ratio_Of (wl 0))) && (!(F_interval_Has (F_interval_Div a b) (F_ratio_Div (F_skewbacklaw05_clamp a c) (F_skewbacklaw05_clamp b d)))))) ∧ M = [⟨b4, 28, flat [pI ((F_skewbacklaw05_clamp b d).n), pI ((F_skewbacklaw05_clamp b d).d)]⟩, ⟨b3, 28, flat [pI ((F_skewbacklaw05_clamp a c).n), pI ((F_skewbacklaw05_clamp a c).d)]⟩, ⟨b2, 31, flat [pI b.lo.n, pI b.lo.d, pI b.hi.n, pI b.hi.d]⟩, ⟨b1, 31, flat [pI a.lo.n, pI a.lo.d, pI a.hi.n, pI a.hi.d]⟩]) (fun K6 J6 => ?_) ?_
     ·skip
      refine dr (sk (sk (sk (sk (s0))))) [0,4,8,12,16,20,24,28,32,36,40,44,48,52] [] mix (by kernel_rfl) (fun K J => pQ rfl (qL ty_31 rfl m2 rfl) (pQ rfl (q_ret en_38 (ratio_Of_ret (wl 0)) rfl) ?_))
      refine pQ rfl (q_ret en_17 (interval_Has_ret b (F_ratio_Of (wl 0))) rfl) ?_
      refine pE rfl ?_
      rcases bt (F_interval_Has b (F_ratio_Of (wl 0))) with h22 | h22
      ·skip
       refine pB (not_f h22) rfl (PL_n rfl rfl (PL_n rfl rfl (PL_n rfl rfl (PL_n rfl rfl (PL_n rfl rfl (PL_n rfl rfl (PL_n rfl rfl (PL_n rfl rfl (pE rfl (fl J ?_))))))))))
       refine J6 _ _ (by repeat first | exact .refl | refine .cons rfl ?_) ⟨_, s0, ?s79, rfl⟩
       case s79 => exact congrArg Value.bool (nand_t h22)
      ·skip
       refine pB (not_t h22) rfl (pQ rfl (qL ty_31 rfl m3 rfl) (pQ rfl (qL ty_31 rfl m2 rfl) (pQ rfl (q_ret en_35 (interval_Div_ret a b) rfl) (pQ rfl (qL ty_28 rfl m1 rfl) (pQ rfl (qL ty_28 rfl m0 rfl) (pQ rfl (q_ret en_39 (ratio_Div_ret (F_skewbacklaw05_clamp a c) (F_skewbacklaw05_clamp b d)) rfl) (pQ rfl (q_ret en_17 (interval_Has_ret (F_interval_Div a b) (F_ratio_Div (F_skewbacklaw05_clamp a c) (F_skewbacklaw05_clamp b d))) rfl) (pE rfl (pE rfl (fl J ?_))))))))))
       refine J6 _ _ (by repeat first | exact .refl | refine .cons rfl ?_) ⟨_, s0, ?s79, rfl⟩
       case s79 => exact congrArg Value.bool (nand_f h22 rfl)
     ·skip
      rintro g23 M ⟨hg79, rfl⟩
      simp only [setG, hg79]
      clear hg79
      rcases bt (!(F_interval_Has b (F_ratio_Of (wl 0))) && (!(F_interval_Has (F_interval_Div a b) (F_ratio_Div (F_skewbacklaw05_clamp a c) (F_skewbacklaw05_clamp b d))))) with h24 | h24
      ·skip
       refine W_t h24 rfl (Rs fun K J => sE rfl (nl J (W_ret (thenK_r (ret1 rfl (.inr rfl) rfl ?_)))))
       exact (by exact congrArg (fun r : Bool => (.bool r : Value)) (show _ = (F_skewbacklaw05_IntervalIncludes a b c d e) from bif_f h12 (bif_f h20 (bif_t h24 rfl))))
      ·skip
       refine W_f h24 rfl (W_skip (J5 _ _ (Rs fun K J => sQ (q_ret en_38 (ratio_Of_ret (wl 1)) rfl) rfl ?_)))
       refine sN zp_28 rfl fun b25 hb25 => sS [pI ((F_ratio_Of (wl 1)).n), pI ((F_ratio_Of (wl 1)).d)] ty_28 rfl rfl rfl rfl rfl (.head _) rfl hb25 ?_
       refine nl J (Sq fun K7 J7 => Rs fun K J => sE rfl (nl J ?_))
       refine W_join3 (fun S M h => J7 S M h) [12, 81, 82, 83, 84, 85, 86, 87, 88, 89, 90] (fun g M => ∃ (i : W) (mb25 : Rt), (F_skewbacklaw05_IntervalIncludes_loop0 a b c d e ((W.cv (e.tmod 5)).1.toNat + 1) (wl 0) (F_ratio_Of (wl 1))) = (i, mb25) ∧ (g 12 = .int .i64 i.1) ∧ M = [⟨b25, 28, flat [pI mb25.n, pI mb25.d]⟩, ⟨b4, 28, flat [pI ((F_skewbacklaw05_clamp b d).n), pI ((F_skewbacklaw05_clamp b d).d)]⟩, ⟨b3, 28, flat [pI ((F_skewbacklaw05_clamp a c).n), pI ((F_skewbacklaw05_clamp a c).d)]⟩, ⟨b2, 31, flat [pI b.lo.n, pI b.lo.d, pI b.hi.n, pI b.hi.d]⟩, ⟨b1, 31, flat [pI a.lo.n, pI a.lo.d, pI a.hi.n, pI a.hi.d]⟩]) (fun K_u26 hK_u26 => ?_) ?_
       ·skip
        refine W_block ?_
        refine W_loop_g [12, 81, 82, 83, 84, 85, 86, 87, 88, 89, 90] (fun g nn M => ∃ (i : W) (mb25 : Rt), (F_skewbacklaw05_IntervalIncludes_loop0 a b c d e nn i mb25) = (F_skewbacklaw05_IntervalIncludes_loop0 a b c d e ((W.cv (e.tmod 5)).1.toNat + 1) (wl 0) (F_ratio_Of (wl 1))) ∧ ((W.cv (e.tmod 5)).1 - i.1).toNat < nn ∧ (True) ∧ (g 12 = .int .i64 i.1) ∧ M = [⟨b25, 28, flat [pI mb25.n, pI mb25.d]⟩, ⟨b4, 28, flat [pI ((F_skewbacklaw05_clamp b d).n), pI ((F_skewbacklaw05_clamp b d).d)]⟩, ⟨b3, 28, flat [pI ((F_skewbacklaw05_clamp a c).n), pI ((F_skewbacklaw05_clamp a c).d)]⟩, ⟨b2, 31, flat [pI b.lo.n, pI b.lo.d, pI b.hi.n, pI b.hi.d]⟩, ⟨b1, 31, flat [pI a.lo.n, pI a.lo.d, pI a.hi.n, pI a.hi.d]⟩]) ((W.cv (e.tmod 5)).1.toNat + 1) ?start ?round
        case start => exact ⟨_, s0, (wl 0), (F_ratio_Of (wl 1)), rfl, (cnt_start (W.cv (e.tmod 5))), trivial, rfl, rfl⟩
        case round =>
         rintro nn g M ⟨i, mb25, hT0, hq0, hinv0, hg12, rfl⟩
         obtain ⟨k0, rfl⟩ : ∃ m, nn = m + 1 := ⟨nn - 1, by omega⟩
         simp only [setG, hg12]
         clear hg12
         refine Sq fun K12 J12 => Rs fun K J => sE rfl (sE rfl (sQ (q_as (v' := .int .u8 (e.tmod 5)) (q_rem rfl rfl (by decide)) rfl) rfl (sQ (q_as (v' := .int .i64 ((W.cv (e.tmod 5)).1)) (q_conv in_5 in_3 rfl) rfl) rfl (sE rfl (nl J ?_)))))
         rcases bt (decide (i.1 < (W.cv (e.tmod 5)).1)) with h31 | h31
         ·skip
          refine W_t h31 rfl (W_skip (J12 _ _ (Sq fun K13 J13 => W_block (Rk fun K J => sQ (qL ty_28 rfl m0 rfl) rfl (sQ (qL ty_28 rfl m2 rfl) rfl ?_)))))
          obtain ⟨r32, hr32⟩ := nm ((F_ratio_Mul mb25 (F_skewbacklaw05_clamp a c)) : Rt)
          refine sC (AV [pI r32.n, pI r32.d]) en_36 (ratio_Mul_ret mb25 (F_skewbacklaw05_clamp a c)) rfl rfl (by rw [hr32]; first | done | rfl) (sS [pI r32.n, pI r32.d] ty_28 rfl rfl rfl rfl rfl (.head _) rfl hb25 (nl J (J13 _ _ (Rk fun K J => sE rfl (sV (.int .i64 ((W.add i (wl 1)).1)) rfl rfl ?_)))))
          refine sE rfl (nl J (⟨(by repeat first | exact .refl | refine .cons rfl ?_), _, _, s0, (Nat.lt_succ_self _), (W.add i (wl 1)), r32, (by subst hr32; exact (hT0.symm.trans (Eq.symm (bif_t h31 rfl))).symm), (Nat.lt_of_lt_of_le (cnt_dec h31) (Nat.le_of_lt_succ hq0)), trivial, rfl, rfl⟩))
         ·skip
          refine W_f h31 rfl (W_exit (thenK_x (thenK_x (blockK_hit (hK_u26 _ _ (by repeat first | exact .refl | refine .cons rfl ?_) ⟨_, s0, i, mb25, (by exact hT0.symm.trans (Eq.symm (bif_f h31 rfl))), rfl, rfl⟩)))))
       ·skip
        rintro g M ⟨i, mb25, hCu26, hg12, rfl⟩
        simp only [setG, hg12]
        clear hg12
        refine W_join [10, 91, 92, 93, 94, 95, 96, 97, 98, 99, 100, 101, 102, 103, 104, 105, 106, 107, 108, 109, 110, 111, 112, 113, 114] (fun g M => (g 10 = .bool (F_skewbacklaw05_sanity && ((F_interval_Has (F_interval_Neg a) (F_ratio_Neg (F_skewbacklaw05_clamp a c))) && ((F_interval_Has (F_interval_Abs a) (F_ratio_Abs (F_skewbacklaw05_clamp a c))) && (F_interval_Has (F_interval_Power a (W.cv (e.tmod 5))) mb25))))) ∧ M = [⟨b25, 28, flat [pI mb25.n, pI mb25.d]⟩, ⟨b4, 28, flat [pI ((F_skewbacklaw05_clamp b d).n), pI ((F_skewbacklaw05_clamp b d).d)]⟩, ⟨b3, 28, flat [pI ((F_skewbacklaw05_clamp a c).n), pI ((F_skewbacklaw05_clamp a c).d)]⟩, ⟨b2, 31, flat [pI b.lo.n, pI b.lo.d, pI b.hi.n, pI b.hi.d]⟩, ⟨b1, 31, flat [pI a.lo.n, pI a.lo.d, pI a.hi.n, pI a.hi.d]⟩]) (fun K14 J14 => ?_) ?_
        ·skip
         refine dr (sk (sk (sk (sk (sk (s0)))))) [0,4,8,12,16,20,24,28,32,36,40,44,48,52,56,60,64,68,72,76,80,84,88,92,96] [] mix (by kernel_rfl) (fun K J => pQ rfl (q_ret en_10 skewbacklaw05_sanity_ret  rfl) ?_)
         rcases bt F_skewbacklaw05_sanity with h36 | h36
         ·skip
          refine pB h36 rfl (pQ rfl (qL ty_31 rfl m4 rfl) (pQ rfl (q_ret en_31 (interval_Neg_ret a) rfl) (pQ rfl (qL ty_28 rfl m2 rfl) (pQ rfl (q_ret en_57 (ratio_Neg_ret (F_skewbacklaw05_clamp a c)) rfl) (pQ rfl (q_ret en_17 (interval_Has_ret (F_interval_Neg a) (F_ratio_Neg (F_skewbacklaw05_clamp a c))) rfl) (pE rfl ?_))))))
          rcases bt (F_interval_Has (F_interval_Neg a) (F_ratio_Neg (F_skewbacklaw05_clamp a c))) with h37 | h37
          ·skip
           refine pB h37 rfl (pQ rfl (qL ty_31 rfl m4 rfl) (pQ rfl (q_ret en_32 (interval_Abs_ret a) rfl) (pQ rfl (qL ty_28 rfl m2 rfl) (pQ rfl (q_ret en_40 (ratio_Abs_ret (F_skewbacklaw05_clamp a c)) rfl) (pQ rfl (q_ret en_17 (interval_Has_ret (F_interval_Abs a) (F_ratio_Abs (F_skewbacklaw05_clamp a c))) rfl) (pE rfl ?_))))))
           rcases bt (F_interval_Has (F_interval_Abs a) (F_ratio_Abs (F_skewbacklaw05_clamp a c))) with h38 | h38
           ·skip
            refine pB h38 rfl (pQ rfl (qL ty_31 rfl m4 rfl) (pE rfl (pQ rfl (q_as (v' := .int .u8 (e.tmod 5)) (q_rem rfl rfl (by decide)) rfl) (pQ rfl (q_as (v' := .int .i64 ((W.cv (e.tmod 5)).1)) (q_conv in_5 in_3 rfl) rfl) (pQ rfl (q_ret en_33 (interval_Power_ret a (W.cv (e.tmod 5))) rfl) (pQ rfl (qL ty_28 rfl m0 rfl) (pQ rfl (q_ret en_17 (interval_Has_ret (F_interval_Power a (W.cv (e.tmod 5))) mb25) rfl) (pE rfl (pE rfl (fl J ?_))))))))))
            refine J14 _ _ (by repeat first | exact .refl | refine .cons rfl ?_) ⟨_, s0, ?s10, rfl⟩
            case s10 => exact congrArg Value.bool (and_t h36 (and_t h37 (and_t h38 rfl)))
           ·skip
            refine pB h38 rfl (PL_n rfl rfl (PL_n rfl rfl (PL_n rfl rfl (PL_n rfl rfl (PL_n rfl rfl (PL_n rfl rfl (PL_n rfl rfl (pE rfl (pE rfl (fl J ?_))))))))))
            refine J14 _ _ (by repeat first | exact .refl | refine .cons rfl ?_) ⟨_, s0, ?s10, rfl⟩
            case s10 => exact congrArg Value.bool (and_t h36 (and_t h37 (and_f h38)))
          ·skip
           refine pB h37 rfl (PL_n rfl rfl (PL_n rfl rfl (PL_n rfl rfl (PL_n rfl rfl (PL_n rfl rfl (pE rfl (pE rfl (PL_n rfl rfl (PL_n rfl rfl (PL_n rfl rfl (PL_n rfl rfl (PL_n rfl rfl (PL_n rfl rfl (PL_n rfl rfl (pE rfl (pE rfl (fl J ?_)))))))))))))))))
           refine J14 _ _ (by repeat first | exact .refl | refine .cons rfl ?_) ⟨_, s0, ?s10, rfl⟩
           case s10 => exact congrArg Value.bool (and_t h36 (and_f h37))
         ·skip
          refine pB h36 rfl (PL_n rfl rfl (PL_n rfl rfl (PL_n rfl rfl (PL_n rfl rfl (PL_n rfl rfl (pE rfl (pE rfl (PL_n rfl rfl (PL_n rfl rfl (PL_n rfl rfl (PL_n rfl rfl (PL_n rfl rfl (pE rfl (pE rfl (PL_n rfl rfl (PL_n rfl rfl (PL_n rfl rfl (PL_n rfl rfl (PL_n rfl rfl ?_)))))))))))))))))))
          refine PL_n rfl rfl (PL_n rfl rfl (pE rfl (pE rfl (fl J ?_))))
          refine J14 _ _ (by repeat first | exact .refl | refine .cons rfl ?_) ⟨_, s0, ?s10, rfl⟩
          case s10 => exact congrArg Value.bool (and_f h36)
        ·skip
         rintro g39 M ⟨hg10, rfl⟩
         simp only [setG, hg10]
         clear hg10
         refine W_ret (ret1 rfl (.inr rfl) rfl ?_)
         exact (by exact congrArg (fun r : Bool => (.bool r : Value)) (show _ = (F_skewbacklaw05_IntervalIncludes a b c d e) from bif_f h12 (bif_f h20 (bif_f h24 (ap_ hCu26 rfl)))))
end Go.Proofs.YtnfbkngfdemkpaaGreatDoor
