/- Walks: what these functions return. -/
import Derived.Test.YtnfbkngfdemkpaaGreatDoorFa0
import Derived.Test.YtnfbkngfdemkpaaGreatDoorFa2
import Derived.Test.YtnfbkngfdemkpaaGreatDoorFa3
import Derived.Test.YtnfbkngfdemkpaaGreatDoorFl
import Derived.Test.YtnfbkngfdemkpaaGreatDoorIa
import Derived.Test.YtnfbkngfdemkpaaGreatDoorLa
namespace Go.Proofs.YtnfbkngfdemkpaaGreatDoor
open Go.Kn Go.Num
set_option linter.unusedVariables false
set_option linter.unusedSimpArgs false
set_option maxRecDepth 20000
set_option maxHeartbeats 8000000
theorem skewbacklaw05_IntervalIsMonotone_ret (a : Iv) (b : Iv) (c : Iv) (d : Iv) (e : Int) :
    Ret Tryz.prog 4 [AV [pI a.lo.n, pI a.lo.d, pI a.hi.n, pI a.hi.d], AV [pI b.lo.n, pI b.lo.d, pI b.hi.n, pI b.hi.d], AV [pI c.lo.n, pI c.lo.d, pI c.hi.n, pI c.hi.d], AV [pI d.lo.n, pI d.lo.d, pI d.hi.n, pI d.hi.d], .int .u8 e] (.bool (F_skewbacklaw05_IntervalIsMonotone a b c d e)) := by
 refine ret_of_W (N := 136) Tryz.func4 rfl rfl (by simp) (fun w0 => ?_)
 simp only [initF, Nat.reduceAdd]
 refine Rs fun K J => WL_r rfl (r_boxp rfl rfl (fun b1 hb1 => WL_r rfl (r_boxp rfl rfl (fun b2 hb2 => WL_r rfl (r_boxp rfl rfl (fun b3 hb3 => WL_r rfl (r_boxp rfl rfl (fun b4 hb4 => sE rfl (nl J (Sq fun K1 J1 => ?_))))))))))
 refine W_join [18, 19, 20, 21, 22, 23, 24, 25, 26, 27, 28, 29, 30, 31, 32, 33, 34, 35] (fun g M => (g 35 = .bool (!(F_skewbacklaw05_short a (wl 40)) || (!(F_skewbacklaw05_short b (wl 40)) || (!(F_skewbacklaw05_short c (wl 40)) || (!(F_skewbacklaw05_short d (wl 40))))))) ∧ M = [⟨b4, 31, flat [pI d.lo.n, pI d.lo.d, pI d.hi.n, pI d.hi.d]⟩, ⟨b3, 31, flat [pI c.lo.n, pI c.lo.d, pI c.hi.n, pI c.hi.d]⟩, ⟨b2, 31, flat [pI b.lo.n, pI b.lo.d, pI b.hi.n, pI b.hi.d]⟩, ⟨b1, 31, flat [pI a.lo.n, pI a.lo.d, pI a.hi.n, pI a.hi.d]⟩]) (fun K2 J2 => ?_) ?_
 ·skip
  refine Rk fun K J => sQ (qL ty_31 rfl m3 rfl) rfl (sQ (q_ret en_27 (skewbacklaw05_short_ret a (wl 40)) rfl) rfl ?_)
  refine sE rfl ?_
  rcases bt (F_skewbacklaw05_short a (wl 40)) with h8 | h8
  ·skip
   refine sB (not_f h8) rfl (sQ (qL ty_31 rfl m2 rfl) rfl (sQ (q_ret en_27 (skewbacklaw05_short_ret b (wl 40)) rfl) rfl ?_))
   refine sE rfl (sE rfl ?_)
   rcases bt (F_skewbacklaw05_short b (wl 40)) with h9 | h9
   ·skip
    refine sB (not_f h9) rfl (sQ (qL ty_31 rfl m1 rfl) rfl (sQ (q_ret en_27 (skewbacklaw05_short_ret c (wl 40)) rfl) rfl ?_))
    refine sE rfl (sE rfl ?_)
    rcases bt (F_skewbacklaw05_short c (wl 40)) with h10 | h10
    ·skip
     refine sB (not_f h10) rfl (sQ (qL ty_31 rfl m0 rfl) rfl (sQ (q_ret en_27 (skewbacklaw05_short_ret d (wl 40)) rfl) rfl ?_))
     refine sE rfl (sE rfl (nl J ?_))
     refine J2 _ _ (by repeat first | exact .refl | refine .cons rfl ?_) ⟨_, s0, ?s35, rfl⟩
     case s35 => exact congrArg Value.bool (nor_t h8 (nor_t h9 (nor_t h10 rfl)))
    ·skip
     refine sB (not_t h10) rfl (WL_n rfl (WL_n rfl (WL_n rfl (sE rfl (nl J ?_)))))
     refine J2 _ _ (by repeat first | exact .refl | refine .cons rfl ?_) ⟨_, s0, ?s35, rfl⟩
     case s35 => exact congrArg Value.bool (nor_t h8 (nor_t h9 (nor_f h10)))
   ·skip
    refine sB (not_t h9) rfl (WL_n rfl (WL_n rfl (WL_n rfl (sE rfl (sE rfl (WL_n rfl (WL_n rfl (WL_n rfl (sE rfl (nl J ?_))))))))))
    refine J2 _ _ (by repeat first | exact .refl | refine .cons rfl ?_) ⟨_, s0, ?s35, rfl⟩
    case s35 => exact congrArg Value.bool (nor_t h8 (nor_f h9))
  ·skip
   refine sB (not_t h8) rfl (WL_n rfl (WL_n rfl (WL_n rfl (sE rfl (sE rfl (WL_n rfl (WL_n rfl (WL_n rfl (sE rfl (sE rfl (WL_n rfl (WL_n rfl (WL_n rfl (sE rfl (nl J ?_)))))))))))))))
   refine J2 _ _ (by repeat first | exact .refl | refine .cons rfl ?_) ⟨_, s0, ?s35, rfl⟩
   case s35 => exact congrArg Value.bool (nor_f h8)
 ·skip
  rintro g11 M ⟨hg35, rfl⟩
  simp only [setG, hg35]
  clear hg35
  rcases bt (!(F_skewbacklaw05_short a (wl 40)) || (!(F_skewbacklaw05_short b (wl 40)) || (!(F_skewbacklaw05_short c (wl 40)) || (!(F_skewbacklaw05_short d (wl 40)))))) with h12 | h12
  ·skip
   refine W_t h12 rfl (Rs fun K J => sQ (q_ret en_10 skewbacklaw05_sanity_ret  rfl) rfl (sE rfl (nl J (W_ret (thenK_r (ret1 rfl (.inr rfl) rfl ?_))))))
   exact (by exact congrArg (fun r : Bool => (.bool r : Value)) (show _ = (F_skewbacklaw05_IntervalIsMonotone a b c d e) from bif_t h12 rfl))
  ·skip
   refine W_f h12 rfl (W_skip (J1 _ _ (Rs fun K J => sQ (qL ty_31 rfl m3 rfl) rfl (sQ (qL ty_31 rfl m1 rfl) rfl ?_))))
   obtain ⟨r13, hr13⟩ := nm ((F_interval_Meet a c).1 : Iv)
   refine sC (.tuple #[AV [pI r13.lo.n, pI r13.lo.d, pI r13.hi.n, pI r13.hi.d], .bool ((F_interval_Meet a c).2)]) en_19 (interval_Meet_ret a c) rfl rfl (by rw [hr13]; first | done | rfl) (sE rfl (sE rfl (sE rfl (sN zp_31 rfl fun b14 hb14 => sS [pI r13.lo.n, pI r13.lo.d, pI r13.hi.n, pI r13.hi.d] ty_31 rfl rfl rfl rfl rfl (.head _) rfl hb14 (sE rfl (nl J (Rs fun K J => sQ (qL ty_31 rfl m3 rfl) rfl (sQ (qL ty_31 rfl m1 rfl) rfl ?_))))))))
   obtain ⟨r15, hr15⟩ := nm ((F_interval_Meet b d).1 : Iv)
   refine sC (.tuple #[AV [pI r15.lo.n, pI r15.lo.d, pI r15.hi.n, pI r15.hi.d], .bool ((F_interval_Meet b d).2)]) en_19 (interval_Meet_ret b d) rfl rfl (by rw [hr15]; first | done | rfl) (sE rfl (sE rfl (sE rfl (sN zp_31 rfl fun b16 hb16 => sS [pI r15.lo.n, pI r15.lo.d, pI r15.hi.n, pI r15.hi.d] ty_31 rfl rfl rfl rfl rfl (.head _) rfl hb16 (sE rfl (nl J (Sq fun K3 J3 => ?_)))))))
   refine W_join [49, 50, 51, 52, 53, 54] (fun g M => (g 54 = .bool (!((F_interval_Meet a c).2) || (!(F_interval_Meet b d).2))) ∧ M = [⟨b16, 31, flat [pI r15.lo.n, pI r15.lo.d, pI r15.hi.n, pI r15.hi.d]⟩, ⟨b14, 31, flat [pI r13.lo.n, pI r13.lo.d, pI r13.hi.n, pI r13.hi.d]⟩, ⟨b4, 31, flat [pI d.lo.n, pI d.lo.d, pI d.hi.n, pI d.hi.d]⟩, ⟨b3, 31, flat [pI c.lo.n, pI c.lo.d, pI c.hi.n, pI c.hi.d]⟩, ⟨b2, 31, flat [pI b.lo.n, pI b.lo.d, pI b.hi.n, pI b.hi.d]⟩, ⟨b1, 31, flat [pI a.lo.n, pI a.lo.d, pI a.hi.n, pI a.hi.d]⟩]) (fun K4 J4 => ?_) ?_
   ·skip
    refine Rk fun K J => sE rfl (sE rfl ?_)
    rcases bt ((F_interval_Meet a c).2) with h18 | h18
    ·skip
     refine sB (not_f h18) rfl (sE rfl (sE rfl (sE rfl (nl J ?_))))
     refine J4 _ _ (by repeat first | exact .refl | refine .cons rfl ?_) ⟨_, s0, ?s54, rfl⟩
     case s54 => exact congrArg Value.bool (nor_t h18 rfl)
    ·skip
     refine sB (not_t h18) rfl (WL_n rfl (WL_n rfl (sE rfl (nl J ?_))))
     refine J4 _ _ (by repeat first | exact .refl | refine .cons rfl ?_) ⟨_, s0, ?s54, rfl⟩
     case s54 => exact congrArg Value.bool (nor_f h18)
   ·skip
    rintro g19 M ⟨hg54, rfl⟩
    simp only [setG, hg54]
    clear hg54
    rcases bt (!((F_interval_Meet a c).2) || (!(F_interval_Meet b d).2)) with h20 | h20
    ·skip
     refine W_t h20 rfl (Rs fun K J => sQ (q_ret en_10 skewbacklaw05_sanity_ret  rfl) rfl (sE rfl (nl J (W_ret (thenK_r (ret1 rfl (.inr rfl) rfl ?_))))))
     exact (by subst hr15; subst hr13; exact congrArg (fun r : Bool => (.bool r : Value)) (show _ = (F_skewbacklaw05_IntervalIsMonotone a b c d e) from bif_f h12 (bif_t h20 rfl)))
    ·skip
     refine W_f h20 rfl (W_skip (J3 _ _ (Rs fun K J => sE rfl (sQ (q_as (v' := .int .u8 (e.tmod 5)) (q_rem rfl rfl (by decide)) rfl) rfl (sQ (q_as (v' := .int .i64 ((W.cv (e.tmod 5)).1)) (q_conv in_5 in_3 rfl) rfl) rfl (sE rfl (nl J ?_)))))))
     refine W_join [16, 59, 60, 61, 62, 63, 64, 65, 66, 67, 68, 69, 70, 71, 72, 73, 74, 75, 76, 77, 78, 79, 80, 81, 82, 83] (fun g M => (g 16 = .bool ((F_interval_Inside (F_interval_Add r13 r15) (F_interval_Add a b)) && ((F_interval_Inside (F_interval_Sub r13 r15) (F_interval_Sub a b)) && (F_interval_Inside (F_interval_Mul r13 r15) (F_interval_Mul a b))))) ∧ M = [⟨b16, 31, flat [pI r15.lo.n, pI r15.lo.d, pI r15.hi.n, pI r15.hi.d]⟩, ⟨b14, 31, flat [pI r13.lo.n, pI r13.lo.d, pI r13.hi.n, pI r13.hi.d]⟩, ⟨b4, 31, flat [pI d.lo.n, pI d.lo.d, pI d.hi.n, pI d.hi.d]⟩, ⟨b3, 31, flat [pI c.lo.n, pI c.lo.d, pI c.hi.n, pI c.hi.d]⟩, ⟨b2, 31, flat [pI b.lo.n, pI b.lo.d, pI b.hi.n, pI b.hi.d]⟩, ⟨b1, 31, flat [pI a.lo.n, pI a.lo.d, pI a.hi.n, pI a.hi.d]⟩]) (fun K5 J5 => ?_) ?_
     ·skip
      refine dr (sk (sk (sk (sk (sk (sk (s0))))))) [0,4,8,12,16,20,24,28,32,36,40,44,48,52,56,60,64,68,72,76,80,84,88,92,96,100] [] mix (by kernel_rfl) (fun K J => pQ rfl (qL ty_31 rfl m1 rfl) (pQ rfl (qL ty_31 rfl m0 rfl) (pQ rfl (q_ret en_28 (interval_Add_ret r13 r15) rfl) (pQ rfl (qL ty_31 rfl m5 rfl) (pQ rfl (qL ty_31 rfl m4 rfl) (pQ rfl (q_ret en_28 (interval_Add_ret a b) rfl) (pQ rfl (q_ret en_21 (interval_Inside_ret (F_interval_Add r13 r15) (F_interval_Add a b)) rfl) ?_)))))))
      rcases bt (F_interval_Inside (F_interval_Add r13 r15) (F_interval_Add a b)) with h25 | h25
      ·skip
       refine pB h25 rfl (pQ rfl (qL ty_31 rfl m1 rfl) (pQ rfl (qL ty_31 rfl m0 rfl) (pQ rfl (q_ret en_29 (interval_Sub_ret r13 r15) rfl) (pQ rfl (qL ty_31 rfl m5 rfl) (pQ rfl (qL ty_31 rfl m4 rfl) (pQ rfl (q_ret en_29 (interval_Sub_ret a b) rfl) (pQ rfl (q_ret en_21 (interval_Inside_ret (F_interval_Sub r13 r15) (F_interval_Sub a b)) rfl) (pE rfl ?_))))))))
       rcases bt (F_interval_Inside (F_interval_Sub r13 r15) (F_interval_Sub a b)) with h26 | h26
       ·skip
        refine pB h26 rfl (pQ rfl (qL ty_31 rfl m1 rfl) (pQ rfl (qL ty_31 rfl m0 rfl) (pQ rfl (q_ret en_30 (interval_Mul_ret r13 r15) rfl) (pQ rfl (qL ty_31 rfl m5 rfl) (pQ rfl (qL ty_31 rfl m4 rfl) (pQ rfl (q_ret en_30 (interval_Mul_ret a b) rfl) (pQ rfl (q_ret en_21 (interval_Inside_ret (F_interval_Mul r13 r15) (F_interval_Mul a b)) rfl) (pE rfl (pE rfl (fl J ?_))))))))))
        refine J5 _ _ (by repeat first | exact .refl | refine .cons rfl ?_) ⟨_, s0, ?s16, rfl⟩
        case s16 => exact congrArg Value.bool (and_t h25 (and_t h26 rfl))
       ·skip
        refine pB h26 rfl (PL_n rfl rfl (PL_n rfl rfl (PL_n rfl rfl (PL_n rfl rfl (PL_n rfl rfl (PL_n rfl rfl (PL_n rfl rfl (pE rfl (pE rfl (fl J ?_))))))))))
        refine J5 _ _ (by repeat first | exact .refl | refine .cons rfl ?_) ⟨_, s0, ?s16, rfl⟩
        case s16 => exact congrArg Value.bool (and_t h25 (and_f h26))
      ·skip
       refine pB h25 rfl (PL_n rfl rfl (PL_n rfl rfl (PL_n rfl rfl (PL_n rfl rfl (PL_n rfl rfl (PL_n rfl rfl (PL_n rfl rfl (pE rfl (pE rfl (PL_n rfl rfl (PL_n rfl rfl (PL_n rfl rfl (PL_n rfl rfl (PL_n rfl rfl (PL_n rfl rfl (PL_n rfl rfl (pE rfl (pE rfl (fl J ?_)))))))))))))))))))
       refine J5 _ _ (by repeat first | exact .refl | refine .cons rfl ?_) ⟨_, s0, ?s16, rfl⟩
       case s16 => exact congrArg Value.bool (and_f h25)
     ·skip
      rintro g27 M ⟨hg16, rfl⟩
      simp only [setG, hg16]
      clear hg16
      refine W_join [17, 84, 85, 86, 87, 88, 89, 90, 91, 92, 93, 94, 95, 96, 97, 98, 99, 100, 101, 102, 103, 104, 105, 106, 107, 108, 109, 110, 111, 112, 113] (fun g M => (g 17 = .bool ((F_interval_Inside (F_interval_Neg r13) (F_interval_Neg a)) && ((F_interval_Inside (F_interval_Abs r13) (F_interval_Abs a)) && ((F_interval_Inside (F_interval_Power r13 (W.cv (e.tmod 5))) (F_interval_Power a (W.cv (e.tmod 5)))) && (F_interval_Inside (F_interval_Widen r13 (W.cv (e.tmod 5))) (F_interval_Widen a (W.cv (e.tmod 5)))))))) ∧ M = [⟨b16, 31, flat [pI r15.lo.n, pI r15.lo.d, pI r15.hi.n, pI r15.hi.d]⟩, ⟨b14, 31, flat [pI r13.lo.n, pI r13.lo.d, pI r13.hi.n, pI r13.hi.d]⟩, ⟨b4, 31, flat [pI d.lo.n, pI d.lo.d, pI d.hi.n, pI d.hi.d]⟩, ⟨b3, 31, flat [pI c.lo.n, pI c.lo.d, pI c.hi.n, pI c.hi.d]⟩, ⟨b2, 31, flat [pI b.lo.n, pI b.lo.d, pI b.hi.n, pI b.hi.d]⟩, ⟨b1, 31, flat [pI a.lo.n, pI a.lo.d, pI a.hi.n, pI a.hi.d]⟩]) (fun K6 J6 => ?_) ?_
      ·skip
       refine dr (sk (sk (sk (sk (sk (sk (s0))))))) [0,4,8,12,16,20,24,28,32,36,40,44,48,52,56,60,64,68,72,76,80,84,88,92,96,100,104,108,112,116,120] [] mix (by kernel_rfl) (fun K J => pQ rfl (qL ty_31 rfl m1 rfl) (pQ rfl (q_ret en_31 (interval_Neg_ret r13) rfl) (pQ rfl (qL ty_31 rfl m5 rfl) (pQ rfl (q_ret en_31 (interval_Neg_ret a) rfl) (pQ rfl (q_ret en_21 (interval_Inside_ret (F_interval_Neg r13) (F_interval_Neg a)) rfl) ?_)))))
       rcases bt (F_interval_Inside (F_interval_Neg r13) (F_interval_Neg a)) with h33 | h33
       ·skip
        refine pB h33 rfl (pQ rfl (qL ty_31 rfl m1 rfl) (pQ rfl (q_ret en_32 (interval_Abs_ret r13) rfl) (pQ rfl (qL ty_31 rfl m5 rfl) (pQ rfl (q_ret en_32 (interval_Abs_ret a) rfl) (pQ rfl (q_ret en_21 (interval_Inside_ret (F_interval_Abs r13) (F_interval_Abs a)) rfl) (pE rfl ?_))))))
        rcases bt (F_interval_Inside (F_interval_Abs r13) (F_interval_Abs a)) with h34 | h34
        ·skip
         refine pB h34 rfl (pQ rfl (qL ty_31 rfl m1 rfl) (pE rfl (pQ rfl (q_ret en_33 (interval_Power_ret r13 (W.cv (e.tmod 5))) rfl) (pQ rfl (qL ty_31 rfl m5 rfl) (pE rfl (pQ rfl (q_ret en_33 (interval_Power_ret a (W.cv (e.tmod 5))) rfl) (pQ rfl (q_ret en_21 (interval_Inside_ret (F_interval_Power r13 (W.cv (e.tmod 5))) (F_interval_Power a (W.cv (e.tmod 5)))) rfl) (pE rfl ?_))))))))
         rcases bt (F_interval_Inside (F_interval_Power r13 (W.cv (e.tmod 5))) (F_interval_Power a (W.cv (e.tmod 5)))) with h35 | h35
         ·skip
          refine pB h35 rfl (pQ rfl (qL ty_31 rfl m1 rfl) (pE rfl (pQ rfl (q_ret en_34 (interval_Widen_ret r13 (W.cv (e.tmod 5))) rfl) (pQ rfl (qL ty_31 rfl m5 rfl) (pE rfl (pQ rfl (q_ret en_34 (interval_Widen_ret a (W.cv (e.tmod 5))) rfl) (pQ rfl (q_ret en_21 (interval_Inside_ret (F_interval_Widen r13 (W.cv (e.tmod 5))) (F_interval_Widen a (W.cv (e.tmod 5)))) rfl) (pE rfl (pE rfl (fl J ?_))))))))))
          refine J6 _ _ (by repeat first | exact .refl | refine .cons rfl ?_) ⟨_, s0, ?s17, rfl⟩
          case s17 => exact congrArg Value.bool (and_t h33 (and_t h34 (and_t h35 rfl)))
         ·skip
          refine pB h35 rfl (PL_n rfl rfl (PL_n rfl rfl (PL_n rfl rfl (PL_n rfl rfl (PL_n rfl rfl (PL_n rfl rfl (PL_n rfl rfl (pE rfl (pE rfl (fl J ?_))))))))))
          refine J6 _ _ (by repeat first | exact .refl | refine .cons rfl ?_) ⟨_, s0, ?s17, rfl⟩
          case s17 => exact congrArg Value.bool (and_t h33 (and_t h34 (and_f h35)))
        ·skip
         refine pB h34 rfl (PL_n rfl rfl (PL_n rfl rfl (PL_n rfl rfl (PL_n rfl rfl (PL_n rfl rfl (PL_n rfl rfl (PL_n rfl rfl (pE rfl (pE rfl (PL_n rfl rfl (PL_n rfl rfl (PL_n rfl rfl (PL_n rfl rfl (PL_n rfl rfl (PL_n rfl rfl (PL_n rfl rfl (pE rfl (pE rfl (fl J ?_)))))))))))))))))))
         refine J6 _ _ (by repeat first | exact .refl | refine .cons rfl ?_) ⟨_, s0, ?s17, rfl⟩
         case s17 => exact congrArg Value.bool (and_t h33 (and_f h34))
       ·skip
        refine pB h33 rfl (PL_n rfl rfl (PL_n rfl rfl (PL_n rfl rfl (PL_n rfl rfl (PL_n rfl rfl (pE rfl (pE rfl (PL_n rfl rfl (PL_n rfl rfl (PL_n rfl rfl (PL_n rfl rfl (PL_n rfl rfl (PL_n rfl rfl (PL_n rfl rfl (pE rfl (pE rfl (PL_n rfl rfl (PL_n rfl rfl (PL_n rfl rfl ?_)))))))))))))))))))
        refine PL_n rfl rfl (PL_n rfl rfl (PL_n rfl rfl (PL_n rfl rfl (pE rfl (pE rfl (fl J ?_))))))
        refine J6 _ _ (by repeat first | exact .refl | refine .cons rfl ?_) ⟨_, s0, ?s17, rfl⟩
        case s17 => exact congrArg Value.bool (and_f h33)
      ·skip
       rintro g36 M ⟨hg17, rfl⟩
       simp only [setG, hg17]
       clear hg17
       refine W_join [10, 114, 115, 116, 117, 118, 119, 120, 121, 122, 123, 124, 125, 126, 127, 128, 129, 130, 131, 132, 133, 134, 135] (fun g M => (g 10 = .bool (F_skewbacklaw05_sanity && (((F_interval_Inside (F_interval_Add r13 r15) (F_interval_Add a b)) && ((F_interval_Inside (F_interval_Sub r13 r15) (F_interval_Sub a b)) && (F_interval_Inside (F_interval_Mul r13 r15) (F_interval_Mul a b)))) && (((F_interval_Inside (F_interval_Neg r13) (F_interval_Neg a)) && ((F_interval_Inside (F_interval_Abs r13) (F_interval_Abs a)) && ((F_interval_Inside (F_interval_Power r13 (W.cv (e.tmod 5))) (F_interval_Power a (W.cv (e.tmod 5)))) && (F_interval_Inside (F_interval_Widen r13 (W.cv (e.tmod 5))) (F_interval_Widen a (W.cv (e.tmod 5))))))) && ((F_interval_IsBad (F_interval_Div a b)) || (F_interval_Inside (F_interval_Div r13 r15) (F_interval_Div a b))))))) ∧ M = [⟨b16, 31, flat [pI r15.lo.n, pI r15.lo.d, pI r15.hi.n, pI r15.hi.d]⟩, ⟨b14, 31, flat [pI r13.lo.n, pI r13.lo.d, pI r13.hi.n, pI r13.hi.d]⟩, ⟨b4, 31, flat [pI d.lo.n, pI d.lo.d, pI d.hi.n, pI d.hi.d]⟩, ⟨b3, 31, flat [pI c.lo.n, pI c.lo.d, pI c.hi.n, pI c.hi.d]⟩, ⟨b2, 31, flat [pI b.lo.n, pI b.lo.d, pI b.hi.n, pI b.hi.d]⟩, ⟨b1, 31, flat [pI a.lo.n, pI a.lo.d, pI a.hi.n, pI a.hi.d]⟩]) (fun K7 J7 => ?_) ?_
       ·skip
        refine dr (sk (sk (sk (sk (sk (sk (s0))))))) [0,4,8,12,16,20,24,28,32,36,40,44,48,52,56,60,64,68,72,76,80,84,88] [] mix (by kernel_rfl) (fun K J => pQ rfl (q_ret en_10 skewbacklaw05_sanity_ret  rfl) ?_)
        rcases bt F_skewbacklaw05_sanity with h41 | h41
        ·skip
         refine pB h41 rfl (pE rfl (pE rfl ?_))
         rcases bt ((F_interval_Inside (F_interval_Add r13 r15) (F_interval_Add a b)) && ((F_interval_Inside (F_interval_Sub r13 r15) (F_interval_Sub a b)) && (F_interval_Inside (F_interval_Mul r13 r15) (F_interval_Mul a b)))) with h42 | h42
         ·skip
          refine pB h42 rfl (pE rfl (pE rfl ?_))
          rcases bt ((F_interval_Inside (F_interval_Neg r13) (F_interval_Neg a)) && ((F_interval_Inside (F_interval_Abs r13) (F_interval_Abs a)) && ((F_interval_Inside (F_interval_Power r13 (W.cv (e.tmod 5))) (F_interval_Power a (W.cv (e.tmod 5)))) && (F_interval_Inside (F_interval_Widen r13 (W.cv (e.tmod 5))) (F_interval_Widen a (W.cv (e.tmod 5))))))) with h43 | h43
          ·skip
           refine pB h43 rfl (pQ rfl (qL ty_31 rfl m5 rfl) (pQ rfl (qL ty_31 rfl m4 rfl) (pQ rfl (q_ret en_35 (interval_Div_ret a b) rfl) (pQ rfl (q_ret en_15 (interval_IsBad_ret (F_interval_Div a b)) rfl) ?_))))
           rcases bt (F_interval_IsBad (F_interval_Div a b)) with h44 | h44
           ·skip
            refine pB h44 rfl (PL_n rfl rfl (PL_n rfl rfl (PL_n rfl rfl (PL_n rfl rfl (PL_n rfl rfl (PL_n rfl rfl (PL_n rfl rfl (pE rfl (pE rfl (pE rfl (fl J ?_)))))))))))
            refine J7 _ _ (by repeat first | exact .refl | refine .cons rfl ?_) ⟨_, s0, ?s10, rfl⟩
            case s10 => exact congrArg Value.bool (and_t h41 (and_t h42 (and_t h43 (or_t h44))))
           ·skip
            refine pB h44 rfl (pQ rfl (qL ty_31 rfl m1 rfl) (pQ rfl (qL ty_31 rfl m0 rfl) (pQ rfl (q_ret en_35 (interval_Div_ret r13 r15) rfl) (pQ rfl (qL ty_31 rfl m5 rfl) (pQ rfl (qL ty_31 rfl m4 rfl) (pQ rfl (q_ret en_35 (interval_Div_ret a b) rfl) (pQ rfl (q_ret en_21 (interval_Inside_ret (F_interval_Div r13 r15) (F_interval_Div a b)) rfl) (pE rfl (pE rfl (pE rfl (fl J ?_)))))))))))
            refine J7 _ _ (by repeat first | exact .refl | refine .cons rfl ?_) ⟨_, s0, ?s10, rfl⟩
            case s10 => exact congrArg Value.bool (and_t h41 (and_t h42 (and_t h43 (or_f h44 rfl))))
          ·skip
           refine pB h43 rfl (PL_n rfl rfl (PL_n rfl rfl (PL_n rfl rfl (PL_n rfl rfl (PL_n rfl rfl (PL_n rfl rfl (PL_n rfl rfl (PL_n rfl rfl (PL_n rfl rfl (PL_n rfl rfl (PL_n rfl rfl (PL_n rfl rfl (PL_n rfl rfl (pE rfl (pE rfl (fl J ?_))))))))))))))))
           refine J7 _ _ (by repeat first | exact .refl | refine .cons rfl ?_) ⟨_, s0, ?s10, rfl⟩
           case s10 => exact congrArg Value.bool (and_t h41 (and_t h42 (and_f h43)))
         ·skip
          refine pB h42 rfl (PL_n rfl rfl (pE rfl (pE rfl (PL_n rfl rfl (PL_n rfl rfl (PL_n rfl rfl (PL_n rfl rfl (PL_n rfl rfl (PL_n rfl rfl (PL_n rfl rfl (PL_n rfl rfl (PL_n rfl rfl (PL_n rfl rfl (PL_n rfl rfl (PL_n rfl rfl (PL_n rfl rfl (pE rfl (pE rfl (fl J ?_)))))))))))))))))))
          refine J7 _ _ (by repeat first | exact .refl | refine .cons rfl ?_) ⟨_, s0, ?s10, rfl⟩
          case s10 => exact congrArg Value.bool (and_t h41 (and_f h42))
        ·skip
         refine pB h41 rfl (PL_n rfl rfl (pE rfl (pE rfl (PL_n rfl rfl (pE rfl (pE rfl (PL_n rfl rfl (PL_n rfl rfl (PL_n rfl rfl (PL_n rfl rfl (PL_n rfl rfl (PL_n rfl rfl (PL_n rfl rfl (PL_n rfl rfl (PL_n rfl rfl (PL_n rfl rfl (PL_n rfl rfl (PL_n rfl rfl (PL_n rfl rfl ?_)))))))))))))))))))
         refine pE rfl (pE rfl (fl J ?_))
         refine J7 _ _ (by repeat first | exact .refl | refine .cons rfl ?_) ⟨_, s0, ?s10, rfl⟩
         case s10 => exact congrArg Value.bool (and_f h41)
       ·skip
        rintro g45 M ⟨hg10, rfl⟩
        simp only [setG, hg10]
        clear hg10
        refine W_ret (ret1 rfl (.inr rfl) rfl ?_)
        exact (by subst hr15; subst hr13; exact congrArg (fun r : Bool => (.bool r : Value)) (show _ = (F_skewbacklaw05_IntervalIsMonotone a b c d e) from bif_f h12 (bif_f h20 rfl)))
end Go.Proofs.YtnfbkngfdemkpaaGreatDoor
