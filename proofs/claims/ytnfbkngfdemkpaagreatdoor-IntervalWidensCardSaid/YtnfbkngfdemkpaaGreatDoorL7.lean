/- Walks: what these functions return. -/
import Derived.Test.YtnfbkngfdemkpaaGreatDoorFa0
import Derived.Test.YtnfbkngfdemkpaaGreatDoorFa2
import Derived.Test.YtnfbkngfdemkpaaGreatDoorFa3
import Derived.Test.YtnfbkngfdemkpaaGreatDoorFl
import Derived.Test.YtnfbkngfdemkpaaGreatDoorGa
import Derived.Test.YtnfbkngfdemkpaaGreatDoorGc
import Derived.Test.YtnfbkngfdemkpaaGreatDoorGf
import Derived.Test.YtnfbkngfdemkpaaGreatDoorIa
import Derived.Test.YtnfbkngfdemkpaaGreatDoorLa
import Derived.Test.YtnfbkngfdemkpaaGreatDoorSf
namespace Go.Proofs.YtnfbkngfdemkpaaGreatDoor
open Go.Kn Go.Num
set_option linter.unusedVariables false
set_option linter.unusedSimpArgs false
set_option maxRecDepth 20000
set_option maxHeartbeats 8000000
theorem skewbacklaw05_IntervalWidens_ret (a : Iv) (b : Int) :
    Ret Tryz.prog 9 [AV [pI a.lo.n, pI a.lo.d, pI a.hi.n, pI a.hi.d], .int .u8 b] (.bool (F_skewbacklaw05_IntervalWidens a b)) := by
 refine ret_of_W (N := 116) Tryz.func9 rfl rfl (by simp) (fun w0 => ?_)
 simp only [initF, Nat.reduceAdd]
 refine Rs fun K J => WL_r rfl (r_boxp rfl rfl (fun b1 hb1 => sE rfl (nl J (Sq fun K1 J1 => Rs fun K J => sQ (qL ty_31 rfl m0 rfl) rfl (sQ (q_ret en_27 (skewbacklaw05_short_ret a (wl 100)) rfl) rfl ?_)))))
 refine sE rfl (nl J ?_)
 rcases bt (F_skewbacklaw05_short a (wl 100)) with h2 | h2
 ·skip
  refine W_f (not_f h2) rfl (W_skip (J1 _ _ (Rs fun K J => sE rfl (sQ (q_as (v' := .int .u8 (b.tmod 101)) (q_rem rfl rfl (by decide)) rfl) rfl (sQ (q_as (v' := .int .i64 ((W.cv (b.tmod 101)).1)) (q_conv in_5 in_3 rfl) rfl) rfl (sE rfl (nl J (Rs fun K J => sQ (qL ty_31 rfl m0 rfl) rfl (sE rfl ?_)))))))))
  obtain ⟨r3, hr3⟩ := nm ((F_interval_Widen a (W.cv (b.tmod 101))) : Iv)
  refine sC (AV [pI r3.lo.n, pI r3.lo.d, pI r3.hi.n, pI r3.hi.d]) en_34 (interval_Widen_ret a (W.cv (b.tmod 101))) rfl rfl (by rw [hr3]; first | done | rfl) (sN zp_31 rfl fun b4 hb4 => sS [pI r3.lo.n, pI r3.lo.d, pI r3.hi.n, pI r3.hi.d] ty_31 rfl rfl rfl rfl rfl (.head _) rfl hb4 (nl J (Rs fun K J => sQ (q_ret en_38 (ratio_Of_ret (wl 1)) rfl) rfl ?_)))
  refine sN zp_28 rfl fun b5 hb5 => sS [pI ((F_ratio_Of (wl 1)).n), pI ((F_ratio_Of (wl 1)).d)] ty_28 rfl rfl rfl rfl rfl (.head _) rfl hb5 ?_
  refine nl J (Sq fun K2 J2 => Rs fun K J => sE rfl (nl J ?_))
  refine W_join3 (fun S M h => J2 S M h) [8, 27, 28, 29, 30, 31, 32, 33, 34] (fun g M => ∃ (i : W) (mb5 : Rt), (F_skewbacklaw05_IntervalWidens_loop0 a b r3 ((W.cv (b.tmod 101)).1.toNat + 1) (wl 0) (F_ratio_Of (wl 1))) = (i, mb5) ∧ (g 8 = .int .i64 i.1) ∧ M = [⟨b5, 28, flat [pI mb5.n, pI mb5.d]⟩, ⟨b4, 31, flat [pI r3.lo.n, pI r3.lo.d, pI r3.hi.n, pI r3.hi.d]⟩, ⟨b1, 31, flat [pI a.lo.n, pI a.lo.d, pI a.hi.n, pI a.hi.d]⟩]) (fun K_u6 hK_u6 => ?_) ?_
  ·skip
   refine W_block ?_
   refine W_loop_g [8, 27, 28, 29, 30, 31, 32, 33, 34] (fun g nn M => ∃ (i : W) (mb5 : Rt), (F_skewbacklaw05_IntervalWidens_loop0 a b r3 nn i mb5) = (F_skewbacklaw05_IntervalWidens_loop0 a b r3 ((W.cv (b.tmod 101)).1.toNat + 1) (wl 0) (F_ratio_Of (wl 1))) ∧ ((W.cv (b.tmod 101)).1 - i.1).toNat < nn ∧ (True) ∧ (g 8 = .int .i64 i.1) ∧ M = [⟨b5, 28, flat [pI mb5.n, pI mb5.d]⟩, ⟨b4, 31, flat [pI r3.lo.n, pI r3.lo.d, pI r3.hi.n, pI r3.hi.d]⟩, ⟨b1, 31, flat [pI a.lo.n, pI a.lo.d, pI a.hi.n, pI a.hi.d]⟩]) ((W.cv (b.tmod 101)).1.toNat + 1) ?start ?round
   case start => exact ⟨_, s0, (wl 0), (F_ratio_Of (wl 1)), rfl, (cnt_start (W.cv (b.tmod 101))), trivial, rfl, rfl⟩
   case round =>
    rintro nn g M ⟨i, mb5, hT0, hq0, hinv0, hg8, rfl⟩
    obtain ⟨k0, rfl⟩ : ∃ m, nn = m + 1 := ⟨nn - 1, by omega⟩
    simp only [setG, hg8]
    clear hg8
    refine Sq fun K7 J7 => Rs fun K J => sE rfl (sE rfl (sE rfl (nl J ?_)))
    rcases bt (decide (i.1 < (W.cv (b.tmod 101)).1)) with h11 | h11
    ·skip
     refine W_t h11 rfl (W_skip (J7 _ _ (Sq fun K8 J8 => W_block (dr (sd (sk (sk (s0)))) [0,4,8,13] [3] mix (by kernel_rfl) (fun K J => pQ rfl (qL ty_28 rfl m0 rfl) (pQ rfl (q_ret en_58 (ratio_Frac_ret (wl 1) (wl 2)) rfl) ?_))))))
     obtain ⟨r12, hr12⟩ := nm ((F_ratio_Mul mb5 (F_ratio_Frac (wl 1) (wl 2))) : Rt)
     refine pC (AV [pI r12.n, pI r12.d]) en_36 (ratio_Mul_ret mb5 (F_ratio_Frac (wl 1) (wl 2))) rfl rfl (by rw [hr12]; first | done | rfl) ?_
     refine oS [pI r12.n, pI r12.d] ty_28 rfl rfl rfl rfl rfl rfl (.head _) rfl hb5 rfl (sd s0) (fl J (J8 _ _ (Rk fun K J => sE rfl (sV (.int .i64 ((W.add i (wl 1)).1)) rfl rfl ?_))))
     refine sE rfl (nl J (⟨(by repeat first | exact .refl | refine .cons rfl ?_), _, _, s0, (Nat.lt_succ_self _), (W.add i (wl 1)), r12, (by subst hr12; exact (hT0.symm.trans (Eq.symm (bif_t h11 rfl))).symm), (Nat.lt_of_lt_of_le (cnt_dec h11) (Nat.le_of_lt_succ hq0)), trivial, rfl, rfl⟩))
    ·skip
     refine W_f h11 rfl (W_exit (thenK_x (thenK_x (blockK_hit (hK_u6 _ _ (by repeat first | exact .refl | refine .cons rfl ?_) ⟨_, s0, i, mb5, (by exact hT0.symm.trans (Eq.symm (bif_f h11 rfl))), rfl, rfl⟩)))))
  ·skip
   rintro g M ⟨i, mb5, hCu6, hg8, rfl⟩
   simp only [setG, hg8]
   clear hg8
   refine Rs fun K J => sQ (qF fd_31_0 rfl rfl) rfl (sQ (qL ty_28 rfl m1 rfl) rfl (sQ (qL ty_28 rfl m0 rfl) rfl (sQ (q_ret en_39 (ratio_Div_ret r3.lo mb5) rfl) rfl (sN zp_28 rfl fun b13 hb13 => sS [pI ((F_ratio_Div r3.lo mb5).n), pI ((F_ratio_Div r3.lo mb5).d)] ty_28 rfl rfl rfl rfl rfl (.head _) rfl hb13 (nl J (Rs fun K J => sQ (qF fd_31_1 rfl rfl) rfl (sQ (qL ty_28 rfl m2 rfl) rfl (sQ (qL ty_28 rfl m1 rfl) rfl (sQ (q_ret en_39 (ratio_Div_ret r3.hi mb5) rfl) rfl (sN zp_28 rfl fun b14 hb14 => sS [pI ((F_ratio_Div r3.hi mb5).n), pI ((F_ratio_Div r3.hi mb5).d)] ty_28 rfl rfl rfl rfl rfl (.head _) rfl hb14 (nl J (ds (sk (sk (sk (sk (sk (s0)))))) [0,4,8,12,16,21,25] [6] mix (by kernel_rfl) (fun K J => pQ rfl (qL ty_31 rfl m3 rfl) (pQ rfl (q_ret en_48 (interval_Width_ret r3) rfl) (pQ rfl (qL ty_31 rfl m4 rfl) ?_)))))))))))))))
   refine pQ rfl (q_ret en_48 (interval_Width_ret a) rfl) ?_
   obtain ⟨r15, hr15⟩ := nm ((F_ratio_Sub (F_interval_Width r3) (F_interval_Width a)) : Rt)
   refine pC (AV [pI r15.n, pI r15.d]) en_56 (ratio_Sub_ret (F_interval_Width r3) (F_interval_Width a)) rfl rfl (by rw [hr15]; first | done | rfl) (PL_o rfl rfl (r_allocp zp_28 (fun b16 hb16 => ⟨(fun _ => sd s0), (sd s0), oS [pI r15.n, pI r15.d] ty_28 rfl rfl rfl rfl rfl rfl (.head _) rfl hb16 rfl (sd s0) (fl J (Sq fun K9 J9 => ?_))⟩)))
   refine W_join [48, 49, 50, 51, 52, 53, 54, 55, 56, 57, 58, 59, 60, 61, 62, 63, 64, 65, 66, 67, 68, 69, 70, 71, 72, 73, 74, 75, 76, 77, 78] (fun g M => (g 78 = .bool (!(F_interval_Inside a r3) || (!(decide (((F_ratio_Div r3.lo mb5).d) = (E (Z.of 1)))) || (!(decide (((F_ratio_Div r3.hi mb5).d) = (E (Z.of 1)))) || (decide (0 ≤ (F_ratio_Cmp r15 (F_ratio_Add mb5 mb5)).1) || (!(decide ((((F_interval_Widen r3 (W.cv (b.tmod 101))).lo).n) = r3.lo.n) && (decide ((((F_interval_Widen r3 (W.cv (b.tmod 101))).lo).d) = r3.lo.d) && (decide ((((F_interval_Widen r3 (W.cv (b.tmod 101))).hi).n) = r3.hi.n) && decide ((((F_interval_Widen r3 (W.cv (b.tmod 101))).hi).d) = r3.hi.d)))))))))) ∧ M = [⟨b16, 28, flat [pI r15.n, pI r15.d]⟩, ⟨b14, 28, flat [pI ((F_ratio_Div r3.hi mb5).n), pI ((F_ratio_Div r3.hi mb5).d)]⟩, ⟨b13, 28, flat [pI ((F_ratio_Div r3.lo mb5).n), pI ((F_ratio_Div r3.lo mb5).d)]⟩, ⟨b5, 28, flat [pI mb5.n, pI mb5.d]⟩, ⟨b4, 31, flat [pI r3.lo.n, pI r3.lo.d, pI r3.hi.n, pI r3.hi.d]⟩, ⟨b1, 31, flat [pI a.lo.n, pI a.lo.d, pI a.hi.n, pI a.hi.d]⟩]) (fun K10 J10 => ?_) ?_
   ·skip
    refine dr (sk (sk (sk (sk (sk (sk (s0))))))) [0,4,8,12,16,20,24,28,32,36,40,44,48,52,56,60,64,68,72,76,80,84,88,92,96,100,104,108,112,116,120] [] mix (by kernel_rfl) (fun K J => pQ rfl (qL ty_31 rfl m5 rfl) (pQ rfl (qL ty_31 rfl m4 rfl) (pQ rfl (q_ret en_21 (interval_Inside_ret a r3) rfl) (pE rfl ?_))))
    rcases bt (F_interval_Inside a r3) with h21 | h21
    ·skip
     refine pB (not_f h21) rfl (pQ rfl (qF fd_28_1 rfl rfl) (pQ rfl (qL ty_26 rfl m2 rfl) (pC (AV [pI (E (Z.of 1))]) en_59 (skewbackref03_Of_ret (wl 1).1 (wl 1).2) rfl rfl rfl ?_)))
     refine pQ rfl (q_neqa (r := decide (((F_ratio_Div r3.lo mb5).d) = (E (Z.of 1)))) rfl rfl (eqOk_of 8 (by decide) eg_26 lw_26 (lv_one lv_pI) (lv_one lv_pI) (eqP_one eq_pI))) (pE rfl ?_)
     rcases bt (decide (((F_ratio_Div r3.lo mb5).d) = (E (Z.of 1)))) with h22 | h22
     ·skip
      refine pB (not_f h22) rfl (pQ rfl (qF fd_28_1 rfl rfl) (pQ rfl (qL ty_26 rfl m1 rfl) (pC (AV [pI (E (Z.of 1))]) en_59 (skewbackref03_Of_ret (wl 1).1 (wl 1).2) rfl rfl rfl ?_)))
      refine pQ rfl (q_neqa (r := decide (((F_ratio_Div r3.hi mb5).d) = (E (Z.of 1)))) rfl rfl (eqOk_of 8 (by decide) eg_26 lw_26 (lv_one lv_pI) (lv_one lv_pI) (eqP_one eq_pI))) (pE rfl ?_)
      rcases bt (decide (((F_ratio_Div r3.hi mb5).d) = (E (Z.of 1)))) with h23 | h23
      ·skip
       refine pB (not_f h23) rfl (pQ rfl (qL ty_28 rfl m0 rfl) (pQ rfl (qL ty_28 rfl m3 rfl) (pQ rfl (qL ty_28 rfl m3 rfl) (pQ rfl (q_ret en_55 (ratio_Add_ret mb5 mb5) rfl) (pQ rfl (q_ret en_60 (ratio_Cmp_ret r15 (F_ratio_Add mb5 mb5)) rfl) (pE rfl (pE rfl ?_)))))))
       rcases bt (decide (0 ≤ (F_ratio_Cmp r15 (F_ratio_Add mb5 mb5)).1)) with h24 | h24
       ·skip
        refine pB h24 rfl (PL_n rfl rfl (PL_n rfl rfl (PL_n rfl rfl (PL_n rfl rfl (PL_n rfl rfl (pE rfl (fl J ?_)))))))
        refine J10 _ _ (by repeat first | exact .refl | refine .cons rfl ?_) ⟨_, s0, ?s78, rfl⟩
        case s78 => exact congrArg Value.bool (nor_t h21 (nor_t h22 (nor_t h23 (or_t h24))))
       ·skip
        refine pB h24 rfl (pQ rfl (qL ty_31 rfl m4 rfl) (pE rfl (pQ rfl (q_ret en_34 (interval_Widen_ret r3 (W.cv (b.tmod 101))) rfl) (pQ rfl (qL ty_31 rfl m4 rfl) ?_))))
        refine pQ rfl (q_neqa (r := (decide ((((F_interval_Widen r3 (W.cv (b.tmod 101))).lo).n) = r3.lo.n) && (decide ((((F_interval_Widen r3 (W.cv (b.tmod 101))).lo).d) = r3.lo.d) && (decide ((((F_interval_Widen r3 (W.cv (b.tmod 101))).hi).n) = r3.hi.n) && decide ((((F_interval_Widen r3 (W.cv (b.tmod 101))).hi).d) = r3.hi.d))))) rfl rfl (eqOk_of 8 (by decide) eg_31 lw_31 (lv_cons lv_pI (lv_cons lv_pI (lv_cons lv_pI (lv_one lv_pI)))) (lv_cons lv_pI (lv_cons lv_pI (lv_cons lv_pI (lv_one lv_pI)))) (eqP_cons rfl eq_pI (eqP_cons rfl eq_pI (eqP_cons rfl eq_pI (eqP_one eq_pI)))))) (pE rfl (fl J ?_))
        refine J10 _ _ (by repeat first | exact .refl | refine .cons rfl ?_) ⟨_, s0, ?s78, rfl⟩
        case s78 => exact congrArg Value.bool (nor_t h21 (nor_t h22 (nor_t h23 (or_f h24 rfl))))
      ·skip
       refine pB (not_t h23) rfl (PL_n rfl rfl (PL_n rfl rfl (PL_n rfl rfl (PL_n rfl rfl (PL_n rfl rfl (PL_n rfl rfl (pE rfl (pE rfl (PL_n rfl rfl (PL_n rfl rfl (PL_n rfl rfl (PL_n rfl rfl (PL_n rfl rfl (pE rfl (fl J ?_)))))))))))))))
       refine J10 _ _ (by repeat first | exact .refl | refine .cons rfl ?_) ⟨_, s0, ?s78, rfl⟩
       case s78 => exact congrArg Value.bool (nor_t h21 (nor_t h22 (nor_f h23)))
     ·skip
      refine pB (not_t h22) rfl (PL_n rfl rfl (PL_n rfl rfl (PL_n rfl rfl (PL_n rfl rfl (pE rfl (pE rfl (PL_n rfl rfl (PL_n rfl rfl (PL_n rfl rfl (PL_n rfl rfl (PL_n rfl rfl (PL_n rfl rfl (pE rfl (pE rfl (PL_n rfl rfl (PL_n rfl rfl (PL_n rfl rfl (PL_n rfl rfl (PL_n rfl rfl ?_)))))))))))))))))))
      refine pE rfl (fl J ?_)
      refine J10 _ _ (by repeat first | exact .refl | refine .cons rfl ?_) ⟨_, s0, ?s78, rfl⟩
      case s78 => exact congrArg Value.bool (nor_t h21 (nor_f h22))
    ·skip
     refine pB (not_t h21) rfl (PL_n rfl rfl (PL_n rfl rfl (PL_n rfl rfl (PL_n rfl rfl (pE rfl (pE rfl (PL_n rfl rfl (PL_n rfl rfl (PL_n rfl rfl (PL_n rfl rfl (pE rfl (pE rfl (PL_n rfl rfl (PL_n rfl rfl (PL_n rfl rfl (PL_n rfl rfl (PL_n rfl rfl (PL_n rfl rfl (pE rfl ?_)))))))))))))))))))
     refine pE rfl (PL_n rfl rfl (PL_n rfl rfl (PL_n rfl rfl (PL_n rfl rfl (PL_n rfl rfl (pE rfl (fl J ?_)))))))
     refine J10 _ _ (by repeat first | exact .refl | refine .cons rfl ?_) ⟨_, s0, ?s78, rfl⟩
     case s78 => exact congrArg Value.bool (nor_f h21)
   ·skip
    rintro g25 M ⟨hg78, rfl⟩
    simp only [setG, hg78]
    clear hg78
    rcases bt (!(F_interval_Inside a r3) || (!(decide (((F_ratio_Div r3.lo mb5).d) = (E (Z.of 1)))) || (!(decide (((F_ratio_Div r3.hi mb5).d) = (E (Z.of 1)))) || (decide (0 ≤ (F_ratio_Cmp r15 (F_ratio_Add mb5 mb5)).1) || (!(decide ((((F_interval_Widen r3 (W.cv (b.tmod 101))).lo).n) = r3.lo.n) && (decide ((((F_interval_Widen r3 (W.cv (b.tmod 101))).lo).d) = r3.lo.d) && (decide ((((F_interval_Widen r3 (W.cv (b.tmod 101))).hi).n) = r3.hi.n) && decide ((((F_interval_Widen r3 (W.cv (b.tmod 101))).hi).d) = r3.hi.d))))))))) with h26 | h26
    ·skip
     refine W_t h26 rfl (Rs fun K J => sE rfl (nl J (W_ret (thenK_r (ret1 rfl (.inr rfl) rfl ?_)))))
     exact (by subst hr15; subst hr3; exact congrArg (fun r : Bool => (.bool r : Value)) (show _ = (F_skewbacklaw05_IntervalWidens a b) from bif_t h2 (ap_ hCu6 (bif_t h26 rfl))))
    ·skip
     refine W_f h26 rfl (W_skip (J9 _ _ (Rs fun K J => sQ (qL ty_31 rfl m5 rfl) rfl ?_)))
     obtain ⟨r27, hr27⟩ := nm ((F_interval_Split a).1 : Iv)
     obtain ⟨r28, hr28⟩ := nm ((F_interval_Split a).2 : Iv)
     refine sC (.tuple #[AV [pI r27.lo.n, pI r27.lo.d, pI r27.hi.n, pI r27.hi.d], AV [pI r28.lo.n, pI r28.lo.d, pI r28.hi.n, pI r28.hi.d]]) en_51 (interval_Split_ret a) rfl rfl (by rw [hr27, hr28]; first | done | rfl) (sE rfl (sE rfl (sE rfl (sN zp_31 rfl fun b29 hb29 => sN zp_31 rfl fun b30 hb30 => sS [pI r27.lo.n, pI r27.lo.d, pI r27.hi.n, pI r27.hi.d] ty_31 rfl rfl rfl rfl rfl (.tail _ (.head _)) rfl hb29 (sS [pI r28.lo.n, pI r28.lo.d, pI r28.hi.n, pI r28.hi.d] ty_31 rfl rfl rfl rfl rfl (.head _) rfl hb30 (nl J (Rs fun K J => sQ (qL ty_31 rfl m1 rfl) rfl (sQ (qL ty_31 rfl m0 rfl) rfl ?_))))))))
     obtain ⟨r31, hr31⟩ := nm ((F_interval_Meet r27 r28).1 : Iv)
     refine sC (.tuple #[AV [pI r31.lo.n, pI r31.lo.d, pI r31.hi.n, pI r31.hi.d], .bool ((F_interval_Meet r27 r28).2)]) en_19 (interval_Meet_ret r27 r28) rfl rfl (by rw [hr31]; first | done | rfl) (sE rfl (sE rfl (sE rfl (sN zp_31 rfl fun b32 hb32 => sS [pI r31.lo.n, pI r31.lo.d, pI r31.hi.n, pI r31.hi.d] ty_31 rfl rfl rfl rfl rfl (.head _) rfl hb32 (sE rfl (nl J ?_))))))
     refine W_join [4, 90, 91, 92, 93, 94, 95, 96, 97, 98, 99, 100, 101, 102, 103, 104, 105, 106, 107, 108, 109, 110, 111, 112, 113, 114, 115] (fun g M => (g 4 = .bool (F_skewbacklaw05_sanity && ((F_interval_Meet r27 r28).2 && ((decide (r31.lo.n = (((F_interval_Of r27.hi).lo).n)) && (decide (r31.lo.d = (((F_interval_Of r27.hi).lo).d)) && (decide (r31.hi.n = (((F_interval_Of r27.hi).hi).n)) && decide (r31.hi.d = (((F_interval_Of r27.hi).hi).d))))) && ((decide ((((F_interval_Hull [r27, r28]).lo).n) = a.lo.n) && (decide ((((F_interval_Hull [r27, r28]).lo).d) = a.lo.d) && (decide ((((F_interval_Hull [r27, r28]).hi).n) = a.hi.n) && decide ((((F_interval_Hull [r27, r28]).hi).d) = a.hi.d)))) && (decide (((F_interval_Width r27).n) = ((F_interval_Width r28).n)) && decide (((F_interval_Width r27).d) = ((F_interval_Width r28).d)))))))) ∧ M = [⟨b32, 31, flat [pI r31.lo.n, pI r31.lo.d, pI r31.hi.n, pI r31.hi.d]⟩, ⟨b30, 31, flat [pI r28.lo.n, pI r28.lo.d, pI r28.hi.n, pI r28.hi.d]⟩, ⟨b29, 31, flat [pI r27.lo.n, pI r27.lo.d, pI r27.hi.n, pI r27.hi.d]⟩, ⟨b16, 28, flat [pI r15.n, pI r15.d]⟩, ⟨b14, 28, flat [pI ((F_ratio_Div r3.hi mb5).n), pI ((F_ratio_Div r3.hi mb5).d)]⟩, ⟨b13, 28, flat [pI ((F_ratio_Div r3.lo mb5).n), pI ((F_ratio_Div r3.lo mb5).d)]⟩, ⟨b5, 28, flat [pI mb5.n, pI mb5.d]⟩, ⟨b4, 31, flat [pI r3.lo.n, pI r3.lo.d, pI r3.hi.n, pI r3.hi.d]⟩, ⟨b1, 31, flat [pI a.lo.n, pI a.lo.d, pI a.hi.n, pI a.hi.d]⟩]) (fun K11 J11 => ?_) ?_
     ·skip
      refine dr (sk (sk (sk (sk (sk (sk (sk (sk (sk (s0)))))))))) [0,4,8,12,16,20,24,28,32,36,40,44,48,52,64,57,60,68,72,76,80,84,88,92,96,100,104] [] mix (by kernel_rfl) (fun K J => pQ rfl (q_ret en_10 skewbacklaw05_sanity_ret  rfl) ?_)
      rcases bt F_skewbacklaw05_sanity with h38 | h38
      ·skip
       refine pB h38 rfl (pE rfl (pE rfl ?_))
       rcases bt ((F_interval_Meet r27 r28).2) with h39 | h39
       ·skip
        refine pB h39 rfl (pQ rfl (qL ty_31 rfl m0 rfl) (pQ rfl (qF fd_31_1 rfl rfl) (pQ rfl (qL ty_28 rfl m2 rfl) (pQ rfl (q_ret en_13 (interval_Of_ret r27.hi) rfl) ?_))))
        refine pQ rfl (q_eqla (r := (decide (r31.lo.n = (((F_interval_Of r27.hi).lo).n)) && (decide (r31.lo.d = (((F_interval_Of r27.hi).lo).d)) && (decide (r31.hi.n = (((F_interval_Of r27.hi).hi).n)) && decide (r31.hi.d = (((F_interval_Of r27.hi).hi).d)))))) rfl rfl (eqOk_of 8 (by decide) eg_31 lw_31 (lv_cons lv_pI (lv_cons lv_pI (lv_cons lv_pI (lv_one lv_pI)))) (lv_cons lv_pI (lv_cons lv_pI (lv_cons lv_pI (lv_one lv_pI)))) (eqP_cons rfl eq_pI (eqP_cons rfl eq_pI (eqP_cons rfl eq_pI (eqP_one eq_pI)))))) (pE rfl ?_)
        rcases bt (decide (r31.lo.n = (((F_interval_Of r27.hi).lo).n)) && (decide (r31.lo.d = (((F_interval_Of r27.hi).lo).d)) && (decide (r31.hi.n = (((F_interval_Of r27.hi).hi).n)) && decide (r31.hi.d = (((F_interval_Of r27.hi).hi).d))))) with h40 | h40
        ·skip
         refine pB h40 rfl (pQ rfl (qL ty_31 rfl m2 rfl) (pQ rfl (qL ty_31 rfl m1 rfl) (pQ rfl (qL ty_31 rfl m8 rfl) (PL_o rfl rfl (r_bsliceA [[pI r27.lo.n, pI r27.lo.d, pI r27.hi.n, pI r27.hi.d], [pI r28.lo.n, pI r28.lo.d, pI r28.hi.n, pI r28.hi.d]] [pI r27.lo.n, pI r27.lo.d, pI r27.hi.n, pI r27.hi.d, pI r28.lo.n, pI r28.lo.d, pI r28.hi.n, pI r28.hi.d] us_22 z_31 sz_31 rfl (by decide) rfl rfl ⟨rfl, rfl, rfl, rfl, rfl, rfl, trivial⟩ rfl (fun b41 hb41 => ⟨(fun _ => sd s0), (sd s0), pQ rfl (q_as (v' := AV [pI (((F_interval_Hull [r27, r28]).lo).n), pI (((F_interval_Hull [r27, r28]).lo).d), pI (((F_interval_Hull [r27, r28]).hi).n), pI (((F_interval_Hull [r27, r28]).hi).d)]) (q_call en_25 rfl (fun w hw => interval_Hull_ret _ ([r27, r28]) w (SLe.ap hw (SLe.lit (e := elIv) (l := [r27, r28]) m0 rfl (Nat.le_of_ble_eq_true rfl) rfl)))) rfl) ?_⟩))))))
         refine pQ rfl (q_eqla (r := (decide ((((F_interval_Hull [r27, r28]).lo).n) = a.lo.n) && (decide ((((F_interval_Hull [r27, r28]).lo).d) = a.lo.d) && (decide ((((F_interval_Hull [r27, r28]).hi).n) = a.hi.n) && decide ((((F_interval_Hull [r27, r28]).hi).d) = a.hi.d))))) rfl rfl (eqOk_of 8 (by decide) eg_31 lw_31 (lv_cons lv_pI (lv_cons lv_pI (lv_cons lv_pI (lv_one lv_pI)))) (lv_cons lv_pI (lv_cons lv_pI (lv_cons lv_pI (lv_one lv_pI)))) (eqP_cons rfl eq_pI (eqP_cons rfl eq_pI (eqP_cons rfl eq_pI (eqP_one eq_pI)))))) (pE rfl ?_)
         rcases bt (decide ((((F_interval_Hull [r27, r28]).lo).n) = a.lo.n) && (decide ((((F_interval_Hull [r27, r28]).lo).d) = a.lo.d) && (decide ((((F_interval_Hull [r27, r28]).hi).n) = a.hi.n) && decide ((((F_interval_Hull [r27, r28]).hi).d) = a.hi.d)))) with h42 | h42
         ·skip
          refine pB h42 rfl (pQ rfl (qL ty_31 rfl m3 rfl) (pQ rfl (q_ret en_48 (interval_Width_ret r27) rfl) (pQ rfl (qL ty_31 rfl m2 rfl) (pQ rfl (q_ret en_48 (interval_Width_ret r28) rfl) ?_))))
          refine pQ rfl (q_eqla (r := (decide (((F_interval_Width r27).n) = ((F_interval_Width r28).n)) && decide (((F_interval_Width r27).d) = ((F_interval_Width r28).d)))) rfl rfl (eqOk_of 8 (by decide) eg_28 lw_28 (lv_cons lv_pI (lv_one lv_pI)) (lv_cons lv_pI (lv_one lv_pI)) (eqP_cons rfl eq_pI (eqP_one eq_pI)))) (pE rfl (pE rfl (fl J ?_)))
          refine J11 _ _ (by repeat first | exact .refl | refine .cons rfl ?_) ⟨_, (sd (s0)), ?s4, rfl⟩
          case s4 => exact congrArg Value.bool (and_t h38 (and_t h39 (and_t h40 (and_t h42 rfl))))
         ·skip
          refine pB h42 rfl (PL_n rfl rfl (PL_n rfl rfl (PL_n rfl rfl (PL_n rfl rfl (PL_n rfl rfl (pE rfl (pE rfl (fl J ?_))))))))
          refine J11 _ _ (by repeat first | exact .refl | refine .cons rfl ?_) ⟨_, (sd (s0)), ?s4, rfl⟩
          case s4 => exact congrArg Value.bool (and_t h38 (and_t h39 (and_t h40 (and_f h42))))
        ·skip
         refine pB h40 rfl (PL_n rfl rfl (PL_n rfl rfl (PL_n rfl rfl (PL_on rfl rfl (PL_n rfl rfl (PL_n rfl rfl (pE rfl (pE rfl (PL_n rfl rfl (PL_n rfl rfl (PL_n rfl rfl (PL_n rfl rfl (PL_n rfl rfl (pE rfl (pE rfl (fl J ?_))))))))))))))))
         refine J11 _ _ (by repeat first | exact .refl | refine .cons rfl ?_) ⟨_, s0, ?s4, rfl⟩
         case s4 => exact congrArg Value.bool (and_t h38 (and_t h39 (and_f h40)))
       ·skip
        refine pB h39 rfl (PL_n rfl rfl (PL_n rfl rfl (PL_n rfl rfl (PL_n rfl rfl (PL_n rfl rfl (pE rfl (pE rfl (PL_n rfl rfl (PL_n rfl rfl (PL_n rfl rfl (PL_on rfl rfl (PL_n rfl rfl (PL_n rfl rfl (pE rfl (pE rfl (PL_n rfl rfl (PL_n rfl rfl (PL_n rfl rfl (PL_n rfl rfl ?_)))))))))))))))))))
        refine PL_n rfl rfl (pE rfl (pE rfl (fl J ?_)))
        refine J11 _ _ (by repeat first | exact .refl | refine .cons rfl ?_) ⟨_, s0, ?s4, rfl⟩
        case s4 => exact congrArg Value.bool (and_t h38 (and_f h39))
      ·skip
       refine pB h38 rfl (PL_n rfl rfl (pE rfl (pE rfl (PL_n rfl rfl (PL_n rfl rfl (PL_n rfl rfl (PL_n rfl rfl (PL_n rfl rfl (pE rfl (pE rfl (PL_n rfl rfl (PL_n rfl rfl (PL_n rfl rfl (PL_on rfl rfl (PL_n rfl rfl (PL_n rfl rfl (pE rfl (pE rfl (PL_n rfl rfl ?_)))))))))))))))))))
       refine PL_n rfl rfl (PL_n rfl rfl (PL_n rfl rfl (PL_n rfl rfl (pE rfl (pE rfl (fl J ?_))))))
       refine J11 _ _ (by repeat first | exact .refl | refine .cons rfl ?_) ⟨_, s0, ?s4, rfl⟩
       case s4 => exact congrArg Value.bool (and_f h38)
     ·skip
      rintro g43 M ⟨hg4, rfl⟩
      simp only [setG, hg4]
      clear hg4
      refine W_ret (ret1 rfl (.inr rfl) rfl ?_)
      exact (by subst hr31; subst hr28; subst hr27; subst hr15; subst hr3; exact congrArg (fun r : Bool => (.bool r : Value)) (show _ = (F_skewbacklaw05_IntervalWidens a b) from bif_t h2 (ap_ hCu6 (bif_f h26 rfl))))
 ·skip
  refine W_t (not_t h2) rfl (Rs fun K J => sQ (q_ret en_10 skewbacklaw05_sanity_ret  rfl) rfl (sE rfl (nl J (W_ret (thenK_r (ret1 rfl (.inr rfl) rfl ?_))))))
  exact (by exact congrArg (fun r : Bool => (.bool r : Value)) (show _ = (F_skewbacklaw05_IntervalWidens a b) from bif_f h2 rfl))
end Go.Proofs.YtnfbkngfdemkpaaGreatDoor
