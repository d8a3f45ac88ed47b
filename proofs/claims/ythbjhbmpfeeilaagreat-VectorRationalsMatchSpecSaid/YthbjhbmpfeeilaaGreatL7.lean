/- Walks: what these functions return. -/
import Derived.Test.YthbjhbmpfeeilaaGreatFa0
import Derived.Test.YthbjhbmpfeeilaaGreatFz
import Derived.Test.YthbjhbmpfeeilaaGreatGd
import Derived.Test.YthbjhbmpfeeilaaGreatLa
import Derived.Test.YthbjhbmpfeeilaaGreatRz
import Derived.Test.YthbjhbmpfeeilaaGreatVd
namespace Go.Proofs.YthbjhbmpfeeilaaGreat
open Go.Kn Go.Num
set_option linter.unusedVariables false
set_option linter.unusedSimpArgs false
set_option maxRecDepth 20000
set_option maxHeartbeats 8000000
theorem skewbacklaw06_VectorRationalsMatchSpec_ret (a : (A3 Rt)) (b : (A3 Rt)) (c : Rt) (d : (A3 W)) :
    Ret Tryz.prog 3 [AV [pI a.x.n, pI a.x.d, pI a.y.n, pI a.y.d, pI a.z.n, pI a.z.d], AV [pI b.x.n, pI b.x.d, pI b.y.n, pI b.y.d, pI b.z.n, pI b.z.d], AV [pI c.n, pI c.d], AV [ci .i64 d.x.1, ci .i64 d.y.1, ci .i64 d.z.1]] (.bool (F_skewbacklaw06_VectorRationalsMatchSpec a b c d)) := by
 refine ret_of_W (N := 105) Tryz.func3 rfl rfl (by simp) (fun w0 => ?_)
 simp only [initF, Nat.reduceAdd]
 refine Rs fun K J => WL_r rfl (r_boxp rfl rfl (fun b1 hb1 => WL_r rfl (r_boxp rfl rfl (fun b2 hb2 => WL_r rfl (r_boxp rfl rfl (fun b3 hb3 => WL_r rfl (r_boxp rfl rfl (fun b4 hb4 => sE rfl (nl J (Sq fun K1 J1 => ?_))))))))))
 refine W_join [11, 12, 13, 14, 15, 16, 17, 18, 19, 20, 21, 22, 23] (fun g M => (g 23 = .bool (!(F_skewbackref06_Valid a) || (!(F_skewbackref06_Valid b) || (!(F_skewbackref04_Valid c))))) ∧ M = [⟨b4, 31, flat [ci .i64 d.x.1, ci .i64 d.y.1, ci .i64 d.z.1]⟩, ⟨b3, 27, flat [pI c.n, pI c.d]⟩, ⟨b2, 29, flat [pI b.x.n, pI b.x.d, pI b.y.n, pI b.y.d, pI b.z.n, pI b.z.d]⟩, ⟨b1, 29, flat [pI a.x.n, pI a.x.d, pI a.y.n, pI a.y.d, pI a.z.n, pI a.z.d]⟩]) (fun K2 J2 => ?_) ?_
 ·skip
  refine Rk fun K J => sQ (qL ty_29 rfl m3 rfl) rfl (sQ (q_ret en_4 (skewbackref06_Valid_ret a) rfl) rfl (sE rfl ?_))
  rcases bt (F_skewbackref06_Valid a) with h7 | h7
  ·skip
   refine sB (not_f h7) rfl (sQ (qL ty_29 rfl m2 rfl) rfl (sQ (q_ret en_4 (skewbackref06_Valid_ret b) rfl) rfl (sE rfl (sE rfl ?_))))
   rcases bt (F_skewbackref06_Valid b) with h8 | h8
   ·skip
    refine sB (not_f h8) rfl (sQ (qL ty_27 rfl m1 rfl) rfl (sQ (q_ret en_5 (skewbackref04_Valid_ret c) rfl) rfl (sE rfl (sE rfl (nl J ?_)))))
    refine J2 _ _ (by repeat first | exact .refl | refine .cons rfl ?_) ⟨_, s0, ?s23, rfl⟩
    case s23 => exact congrArg Value.bool (nor_t h7 (nor_t h8 rfl))
   ·skip
    refine sB (not_t h8) rfl (WL_n rfl (WL_n rfl (WL_n rfl (sE rfl (nl J ?_)))))
    refine J2 _ _ (by repeat first | exact .refl | refine .cons rfl ?_) ⟨_, s0, ?s23, rfl⟩
    case s23 => exact congrArg Value.bool (nor_t h7 (nor_f h8))
  ·skip
   refine sB (not_t h7) rfl (WL_n rfl (WL_n rfl (WL_n rfl (sE rfl (sE rfl (WL_n rfl (WL_n rfl (WL_n rfl (sE rfl (nl J ?_))))))))))
   refine J2 _ _ (by repeat first | exact .refl | refine .cons rfl ?_) ⟨_, s0, ?s23, rfl⟩
   case s23 => exact congrArg Value.bool (nor_f h7)
 ·skip
  rintro g9 M ⟨hg23, rfl⟩
  simp only [setG, hg23]
  clear hg23
  rcases bt (!(F_skewbackref06_Valid a) || (!(F_skewbackref06_Valid b) || (!(F_skewbackref04_Valid c)))) with h10 | h10
  ·skip
   refine W_t h10 rfl (Rs fun K J => sQ (q_ret en_6 skewbacklaw06_sanity_ret  rfl) rfl (sE rfl (nl J (W_ret (thenK_r (ret1 rfl (.inr rfl) rfl ?_))))))
   exact (by exact congrArg (fun r : Bool => (.bool r : Value)) (show _ = (F_skewbacklaw06_VectorRationalsMatchSpec a b c d) from bif_t h10 rfl))
  ·skip
   refine W_f h10 rfl (W_skip (J1 _ _ ?_))
   refine W_join [9, 25, 26, 27, 28, 29, 30, 31, 32, 33, 34, 35, 36, 37, 38, 39, 40, 41, 42, 43, 44, 45, 46, 47, 48, 49] (fun g M => (g 9 = .bool ((decide ((((F_vector_Plus a b).x).n) = (((F_skewbackref06_Plus a b).x).n)) && (decide ((((F_vector_Plus a b).x).d) = (((F_skewbackref06_Plus a b).x).d)) && (decide ((((F_vector_Plus a b).y).n) = (((F_skewbackref06_Plus a b).y).n)) && (decide ((((F_vector_Plus a b).y).d) = (((F_skewbackref06_Plus a b).y).d)) && (decide ((((F_vector_Plus a b).z).n) = (((F_skewbackref06_Plus a b).z).n)) && decide ((((F_vector_Plus a b).z).d) = (((F_skewbackref06_Plus a b).z).d))))))) && ((decide ((((F_vector_Minus a b).x).n) = (((F_skewbackref06_Minus a b).x).n)) && (decide ((((F_vector_Minus a b).x).d) = (((F_skewbackref06_Minus a b).x).d)) && (decide ((((F_vector_Minus a b).y).n) = (((F_skewbackref06_Minus a b).y).n)) && (decide ((((F_vector_Minus a b).y).d) = (((F_skewbackref06_Minus a b).y).d)) && (decide ((((F_vector_Minus a b).z).n) = (((F_skewbackref06_Minus a b).z).n)) && decide ((((F_vector_Minus a b).z).d) = (((F_skewbackref06_Minus a b).z).d))))))) && (decide ((((F_vector_Times c a).x).n) = (((F_skewbackref06_Times c a).x).n)) && (decide ((((F_vector_Times c a).x).d) = (((F_skewbackref06_Times c a).x).d)) && (decide ((((F_vector_Times c a).y).n) = (((F_skewbackref06_Times c a).y).n)) && (decide ((((F_vector_Times c a).y).d) = (((F_skewbackref06_Times c a).y).d)) && (decide ((((F_vector_Times c a).z).n) = (((F_skewbackref06_Times c a).z).n)) && decide ((((F_vector_Times c a).z).d) = (((F_skewbackref06_Times c a).z).d)))))))))) ∧ M = [⟨b4, 31, flat [ci .i64 d.x.1, ci .i64 d.y.1, ci .i64 d.z.1]⟩, ⟨b3, 27, flat [pI c.n, pI c.d]⟩, ⟨b2, 29, flat [pI b.x.n, pI b.x.d, pI b.y.n, pI b.y.d, pI b.z.n, pI b.z.d]⟩, ⟨b1, 29, flat [pI a.x.n, pI a.x.d, pI a.y.n, pI a.y.d, pI a.z.n, pI a.z.d]⟩]) (fun K3 J3 => ?_) ?_
   ·skip
    refine dr (sk (sk (sk (sk (s0))))) [0,4,8,12,16,20,24,28,32,36,40,44,48,52,56,60,64,68,72,76,80,84,88,92,96,100] [] mix (by kernel_rfl) (fun K J => pQ rfl (qL ty_29 rfl m3 rfl) (pQ rfl (qL ty_29 rfl m2 rfl) (pQ rfl (q_ret en_7 (vector_Plus_ret a b) rfl) (pQ rfl (qL ty_29 rfl m3 rfl) (pQ rfl (qL ty_29 rfl m2 rfl) (pQ rfl (q_ret en_8 (skewbackref06_Plus_ret a b) rfl) (pQ rfl (q_eqla (r := (decide ((((F_vector_Plus a b).x).n) = (((F_skewbackref06_Plus a b).x).n)) && (decide ((((F_vector_Plus a b).x).d) = (((F_skewbackref06_Plus a b).x).d)) && (decide ((((F_vector_Plus a b).y).n) = (((F_skewbackref06_Plus a b).y).n)) && (decide ((((F_vector_Plus a b).y).d) = (((F_skewbackref06_Plus a b).y).d)) && (decide ((((F_vector_Plus a b).z).n) = (((F_skewbackref06_Plus a b).z).n)) && decide ((((F_vector_Plus a b).z).d) = (((F_skewbackref06_Plus a b).z).d)))))))) rfl rfl (eqOk_of 8 (by decide) eg_29 lw_29 (lv_cons lv_pI (lv_cons lv_pI (lv_cons lv_pI (lv_cons lv_pI (lv_cons lv_pI (lv_one lv_pI)))))) (lv_cons lv_pI (lv_cons lv_pI (lv_cons lv_pI (lv_cons lv_pI (lv_cons lv_pI (lv_one lv_pI)))))) (eqP_cons rfl eq_pI (eqP_cons rfl eq_pI (eqP_cons rfl eq_pI (eqP_cons rfl eq_pI (eqP_cons rfl eq_pI (eqP_one eq_pI)))))))) ?_)))))))
    rcases bt (decide ((((F_vector_Plus a b).x).n) = (((F_skewbackref06_Plus a b).x).n)) && (decide ((((F_vector_Plus a b).x).d) = (((F_skewbackref06_Plus a b).x).d)) && (decide ((((F_vector_Plus a b).y).n) = (((F_skewbackref06_Plus a b).y).n)) && (decide ((((F_vector_Plus a b).y).d) = (((F_skewbackref06_Plus a b).y).d)) && (decide ((((F_vector_Plus a b).z).n) = (((F_skewbackref06_Plus a b).z).n)) && decide ((((F_vector_Plus a b).z).d) = (((F_skewbackref06_Plus a b).z).d))))))) with h15 | h15
    ·skip
     refine pB h15 rfl (pQ rfl (qL ty_29 rfl m3 rfl) (pQ rfl (qL ty_29 rfl m2 rfl) (pQ rfl (q_ret en_9 (vector_Minus_ret a b) rfl) (pQ rfl (qL ty_29 rfl m3 rfl) (pQ rfl (qL ty_29 rfl m2 rfl) (pQ rfl (q_ret en_10 (skewbackref06_Minus_ret a b) rfl) (pQ rfl (q_eqla (r := (decide ((((F_vector_Minus a b).x).n) = (((F_skewbackref06_Minus a b).x).n)) && (decide ((((F_vector_Minus a b).x).d) = (((F_skewbackref06_Minus a b).x).d)) && (decide ((((F_vector_Minus a b).y).n) = (((F_skewbackref06_Minus a b).y).n)) && (decide ((((F_vector_Minus a b).y).d) = (((F_skewbackref06_Minus a b).y).d)) && (decide ((((F_vector_Minus a b).z).n) = (((F_skewbackref06_Minus a b).z).n)) && decide ((((F_vector_Minus a b).z).d) = (((F_skewbackref06_Minus a b).z).d)))))))) rfl rfl (eqOk_of 8 (by decide) eg_29 lw_29 (lv_cons lv_pI (lv_cons lv_pI (lv_cons lv_pI (lv_cons lv_pI (lv_cons lv_pI (lv_one lv_pI)))))) (lv_cons lv_pI (lv_cons lv_pI (lv_cons lv_pI (lv_cons lv_pI (lv_cons lv_pI (lv_one lv_pI)))))) (eqP_cons rfl eq_pI (eqP_cons rfl eq_pI (eqP_cons rfl eq_pI (eqP_cons rfl eq_pI (eqP_cons rfl eq_pI (eqP_one eq_pI)))))))) (pE rfl ?_))))))))
     rcases bt (decide ((((F_vector_Minus a b).x).n) = (((F_skewbackref06_Minus a b).x).n)) && (decide ((((F_vector_Minus a b).x).d) = (((F_skewbackref06_Minus a b).x).d)) && (decide ((((F_vector_Minus a b).y).n) = (((F_skewbackref06_Minus a b).y).n)) && (decide ((((F_vector_Minus a b).y).d) = (((F_skewbackref06_Minus a b).y).d)) && (decide ((((F_vector_Minus a b).z).n) = (((F_skewbackref06_Minus a b).z).n)) && decide ((((F_vector_Minus a b).z).d) = (((F_skewbackref06_Minus a b).z).d))))))) with h16 | h16
     ·skip
      refine pB h16 rfl (pQ rfl (qL ty_27 rfl m1 rfl) (pQ rfl (qL ty_29 rfl m3 rfl) (pQ rfl (q_ret en_11 (vector_Times_ret c a) rfl) (pQ rfl (qL ty_27 rfl m1 rfl) (pQ rfl (qL ty_29 rfl m3 rfl) (pQ rfl (q_ret en_12 (skewbackref06_Times_ret c a) rfl) (pQ rfl (q_eqla (r := (decide ((((F_vector_Times c a).x).n) = (((F_skewbackref06_Times c a).x).n)) && (decide ((((F_vector_Times c a).x).d) = (((F_skewbackref06_Times c a).x).d)) && (decide ((((F_vector_Times c a).y).n) = (((F_skewbackref06_Times c a).y).n)) && (decide ((((F_vector_Times c a).y).d) = (((F_skewbackref06_Times c a).y).d)) && (decide ((((F_vector_Times c a).z).n) = (((F_skewbackref06_Times c a).z).n)) && decide ((((F_vector_Times c a).z).d) = (((F_skewbackref06_Times c a).z).d)))))))) rfl rfl (eqOk_of 8 (by decide) eg_29 lw_29 (lv_cons lv_pI (lv_cons lv_pI (lv_cons lv_pI (lv_cons lv_pI (lv_cons lv_pI (lv_one lv_pI)))))) (lv_cons lv_pI (lv_cons lv_pI (lv_cons lv_pI (lv_cons lv_pI (lv_cons lv_pI (lv_one lv_pI)))))) (eqP_cons rfl eq_pI (eqP_cons rfl eq_pI (eqP_cons rfl eq_pI (eqP_cons rfl eq_pI (eqP_cons rfl eq_pI (eqP_one eq_pI)))))))) (pE rfl (pE rfl (fl J ?_))))))))))
      refine J3 _ _ (by repeat first | exact .refl | refine .cons rfl ?_) ⟨_, s0, ?s9, rfl⟩
      case s9 => exact congrArg Value.bool (and_t h15 (and_t h16 rfl))
     ·skip
      refine pB h16 rfl (PL_n rfl rfl (PL_n rfl rfl (PL_n rfl rfl (PL_n rfl rfl (PL_n rfl rfl (PL_n rfl rfl (PL_n rfl rfl (pE rfl (pE rfl (fl J ?_))))))))))
      refine J3 _ _ (by repeat first | exact .refl | refine .cons rfl ?_) ⟨_, s0, ?s9, rfl⟩
      case s9 => exact congrArg Value.bool (and_t h15 (and_f h16))
    ·skip
     refine pB h15 rfl (PL_n rfl rfl (PL_n rfl rfl (PL_n rfl rfl (PL_n rfl rfl (PL_n rfl rfl (PL_n rfl rfl (PL_n rfl rfl (pE rfl (pE rfl (PL_n rfl rfl (PL_n rfl rfl (PL_n rfl rfl (PL_n rfl rfl (PL_n rfl rfl (PL_n rfl rfl (PL_n rfl rfl (pE rfl (pE rfl (fl J ?_)))))))))))))))))))
     refine J3 _ _ (by repeat first | exact .refl | refine .cons rfl ?_) ⟨_, s0, ?s9, rfl⟩
     case s9 => exact congrArg Value.bool (and_f h15)
   ·skip
    rintro g17 M ⟨hg9, rfl⟩
    simp only [setG, hg9]
    clear hg9
    refine W_join [10, 50, 51, 52, 53, 54, 55, 56, 57, 58, 59, 60, 61, 62, 63, 64, 65, 66, 67, 68, 69, 70, 71, 72, 73, 74] (fun g M => (g 10 = .bool ((decide (((F_vector_Inner a b).n) = ((F_skewbackref06_Inner a b).n)) && decide (((F_vector_Inner a b).d) = ((F_skewbackref06_Inner a b).d))) && ((decide ((((F_vector_Outer a b).x).n) = (((F_skewbackref06_Outer a b).x).n)) && (decide ((((F_vector_Outer a b).x).d) = (((F_skewbackref06_Outer a b).x).d)) && (decide ((((F_vector_Outer a b).y).n) = (((F_skewbackref06_Outer a b).y).n)) && (decide ((((F_vector_Outer a b).y).d) = (((F_skewbackref06_Outer a b).y).d)) && (decide ((((F_vector_Outer a b).z).n) = (((F_skewbackref06_Outer a b).z).n)) && decide ((((F_vector_Outer a b).z).d) = (((F_skewbackref06_Outer a b).z).d))))))) && (decide (((F_vector_Side d a).n) = ((F_skewbackref06_Side d a).n)) && decide (((F_vector_Side d a).d) = ((F_skewbackref06_Side d a).d)))))) ∧ M = [⟨b4, 31, flat [ci .i64 d.x.1, ci .i64 d.y.1, ci .i64 d.z.1]⟩, ⟨b3, 27, flat [pI c.n, pI c.d]⟩, ⟨b2, 29, flat [pI b.x.n, pI b.x.d, pI b.y.n, pI b.y.d, pI b.z.n, pI b.z.d]⟩, ⟨b1, 29, flat [pI a.x.n, pI a.x.d, pI a.y.n, pI a.y.d, pI a.z.n, pI a.z.d]⟩]) (fun K4 J4 => ?_) ?_
    ·skip
     refine dr (sk (sk (sk (sk (s0))))) [0,4,8,12,16,20,24,28,32,36,40,44,48,52,56,60,64,68,72,76,80,84,88,92,96,100] [] mix (by kernel_rfl) (fun K J => pQ rfl (qL ty_29 rfl m3 rfl) (pQ rfl (qL ty_29 rfl m2 rfl) (pQ rfl (q_ret en_13 (vector_Inner_ret a b) rfl) (pQ rfl (qL ty_29 rfl m3 rfl) (pQ rfl (qL ty_29 rfl m2 rfl) (pQ rfl (q_ret en_14 (skewbackref06_Inner_ret a b) rfl) (pQ rfl (q_eqla (r := (decide (((F_vector_Inner a b).n) = ((F_skewbackref06_Inner a b).n)) && decide (((F_vector_Inner a b).d) = ((F_skewbackref06_Inner a b).d)))) rfl rfl (eqOk_of 8 (by decide) eg_27 lw_27 (lv_cons lv_pI (lv_one lv_pI)) (lv_cons lv_pI (lv_one lv_pI)) (eqP_cons rfl eq_pI (eqP_one eq_pI)))) ?_)))))))
     rcases bt (decide (((F_vector_Inner a b).n) = ((F_skewbackref06_Inner a b).n)) && decide (((F_vector_Inner a b).d) = ((F_skewbackref06_Inner a b).d))) with h20 | h20
     ·skip
      refine pB h20 rfl (pQ rfl (qL ty_29 rfl m3 rfl) (pQ rfl (qL ty_29 rfl m2 rfl) (pQ rfl (q_ret en_15 (vector_Outer_ret a b) rfl) (pQ rfl (qL ty_29 rfl m3 rfl) (pQ rfl (qL ty_29 rfl m2 rfl) (pQ rfl (q_ret en_16 (skewbackref06_Outer_ret a b) rfl) (pQ rfl (q_eqla (r := (decide ((((F_vector_Outer a b).x).n) = (((F_skewbackref06_Outer a b).x).n)) && (decide ((((F_vector_Outer a b).x).d) = (((F_skewbackref06_Outer a b).x).d)) && (decide ((((F_vector_Outer a b).y).n) = (((F_skewbackref06_Outer a b).y).n)) && (decide ((((F_vector_Outer a b).y).d) = (((F_skewbackref06_Outer a b).y).d)) && (decide ((((F_vector_Outer a b).z).n) = (((F_skewbackref06_Outer a b).z).n)) && decide ((((F_vector_Outer a b).z).d) = (((F_skewbackref06_Outer a b).z).d)))))))) rfl rfl (eqOk_of 8 (by decide) eg_29 lw_29 (lv_cons lv_pI (lv_cons lv_pI (lv_cons lv_pI (lv_cons lv_pI (lv_cons lv_pI (lv_one lv_pI)))))) (lv_cons lv_pI (lv_cons lv_pI (lv_cons lv_pI (lv_cons lv_pI (lv_cons lv_pI (lv_one lv_pI)))))) (eqP_cons rfl eq_pI (eqP_cons rfl eq_pI (eqP_cons rfl eq_pI (eqP_cons rfl eq_pI (eqP_cons rfl eq_pI (eqP_one eq_pI)))))))) (pE rfl ?_))))))))
      rcases bt (decide ((((F_vector_Outer a b).x).n) = (((F_skewbackref06_Outer a b).x).n)) && (decide ((((F_vector_Outer a b).x).d) = (((F_skewbackref06_Outer a b).x).d)) && (decide ((((F_vector_Outer a b).y).n) = (((F_skewbackref06_Outer a b).y).n)) && (decide ((((F_vector_Outer a b).y).d) = (((F_skewbackref06_Outer a b).y).d)) && (decide ((((F_vector_Outer a b).z).n) = (((F_skewbackref06_Outer a b).z).n)) && decide ((((F_vector_Outer a b).z).d) = (((F_skewbackref06_Outer a b).z).d))))))) with h21 | h21
      ·skip
       refine pB h21 rfl (pQ rfl (qL ty_31 rfl m0 rfl) (pQ rfl (qL ty_29 rfl m3 rfl) (pQ rfl (q_ret en_17 (vector_Side_ret d a) rfl) (pQ rfl (qL ty_31 rfl m0 rfl) (pQ rfl (qL ty_29 rfl m3 rfl) (pQ rfl (q_ret en_18 (skewbackref06_Side_ret d a) rfl) (pQ rfl (q_eqla (r := (decide (((F_vector_Side d a).n) = ((F_skewbackref06_Side d a).n)) && decide (((F_vector_Side d a).d) = ((F_skewbackref06_Side d a).d)))) rfl rfl (eqOk_of 8 (by decide) eg_27 lw_27 (lv_cons lv_pI (lv_one lv_pI)) (lv_cons lv_pI (lv_one lv_pI)) (eqP_cons rfl eq_pI (eqP_one eq_pI)))) (pE rfl (pE rfl (fl J ?_))))))))))
       refine J4 _ _ (by repeat first | exact .refl | refine .cons rfl ?_) ⟨_, s0, ?s10, rfl⟩
       case s10 => exact congrArg Value.bool (and_t h20 (and_t h21 rfl))
      ·skip
       refine pB h21 rfl (PL_n rfl rfl (PL_n rfl rfl (PL_n rfl rfl (PL_n rfl rfl (PL_n rfl rfl (PL_n rfl rfl (PL_n rfl rfl (pE rfl (pE rfl (fl J ?_))))))))))
       refine J4 _ _ (by repeat first | exact .refl | refine .cons rfl ?_) ⟨_, s0, ?s10, rfl⟩
       case s10 => exact congrArg Value.bool (and_t h20 (and_f h21))
     ·skip
      refine pB h20 rfl (PL_n rfl rfl (PL_n rfl rfl (PL_n rfl rfl (PL_n rfl rfl (PL_n rfl rfl (PL_n rfl rfl (PL_n rfl rfl (pE rfl (pE rfl (PL_n rfl rfl (PL_n rfl rfl (PL_n rfl rfl (PL_n rfl rfl (PL_n rfl rfl (PL_n rfl rfl (PL_n rfl rfl (pE rfl (pE rfl (fl J ?_)))))))))))))))))))
      refine J4 _ _ (by repeat first | exact .refl | refine .cons rfl ?_) ⟨_, s0, ?s10, rfl⟩
      case s10 => exact congrArg Value.bool (and_f h20)
    ·skip
     rintro g22 M ⟨hg10, rfl⟩
     simp only [setG, hg10]
     clear hg10
     refine W_join [8, 75, 76, 77, 78, 79, 80, 81, 82, 83, 84, 85, 86, 87, 88, 89, 90, 91, 92, 93, 94, 95, 96, 97, 98, 99, 100, 101, 102, 103, 104] (fun g M => (g 8 = .bool (F_skewbacklaw06_sanity && (((decide ((((F_vector_Plus a b).x).n) = (((F_skewbackref06_Plus a b).x).n)) && (decide ((((F_vector_Plus a b).x).d) = (((F_skewbackref06_Plus a b).x).d)) && (decide ((((F_vector_Plus a b).y).n) = (((F_skewbackref06_Plus a b).y).n)) && (decide ((((F_vector_Plus a b).y).d) = (((F_skewbackref06_Plus a b).y).d)) && (decide ((((F_vector_Plus a b).z).n) = (((F_skewbackref06_Plus a b).z).n)) && decide ((((F_vector_Plus a b).z).d) = (((F_skewbackref06_Plus a b).z).d))))))) && ((decide ((((F_vector_Minus a b).x).n) = (((F_skewbackref06_Minus a b).x).n)) && (decide ((((F_vector_Minus a b).x).d) = (((F_skewbackref06_Minus a b).x).d)) && (decide ((((F_vector_Minus a b).y).n) = (((F_skewbackref06_Minus a b).y).n)) && (decide ((((F_vector_Minus a b).y).d) = (((F_skewbackref06_Minus a b).y).d)) && (decide ((((F_vector_Minus a b).z).n) = (((F_skewbackref06_Minus a b).z).n)) && decide ((((F_vector_Minus a b).z).d) = (((F_skewbackref06_Minus a b).z).d))))))) && (decide ((((F_vector_Times c a).x).n) = (((F_skewbackref06_Times c a).x).n)) && (decide ((((F_vector_Times c a).x).d) = (((F_skewbackref06_Times c a).x).d)) && (decide ((((F_vector_Times c a).y).n) = (((F_skewbackref06_Times c a).y).n)) && (decide ((((F_vector_Times c a).y).d) = (((F_skewbackref06_Times c a).y).d)) && (decide ((((F_vector_Times c a).z).n) = (((F_skewbackref06_Times c a).z).n)) && decide ((((F_vector_Times c a).z).d) = (((F_skewbackref06_Times c a).z).d))))))))) && (((decide (((F_vector_Inner a b).n) = ((F_skewbackref06_Inner a b).n)) && decide (((F_vector_Inner a b).d) = ((F_skewbackref06_Inner a b).d))) && ((decide ((((F_vector_Outer a b).x).n) = (((F_skewbackref06_Outer a b).x).n)) && (decide ((((F_vector_Outer a b).x).d) = (((F_skewbackref06_Outer a b).x).d)) && (decide ((((F_vector_Outer a b).y).n) = (((F_skewbackref06_Outer a b).y).n)) && (decide ((((F_vector_Outer a b).y).d) = (((F_skewbackref06_Outer a b).y).d)) && (decide ((((F_vector_Outer a b).z).n) = (((F_skewbackref06_Outer a b).z).n)) && decide ((((F_vector_Outer a b).z).d) = (((F_skewbackref06_Outer a b).z).d))))))) && (decide (((F_vector_Side d a).n) = ((F_skewbackref06_Side d a).n)) && decide (((F_vector_Side d a).d) = ((F_skewbackref06_Side d a).d))))) && ((decide ((((F_vector_Of d).x).n) = (((F_skewbackref06_Of d).x).n)) && (decide ((((F_vector_Of d).x).d) = (((F_skewbackref06_Of d).x).d)) && (decide ((((F_vector_Of d).y).n) = (((F_skewbackref06_Of d).y).n)) && (decide ((((F_vector_Of d).y).d) = (((F_skewbackref06_Of d).y).d)) && (decide ((((F_vector_Of d).z).n) = (((F_skewbackref06_Of d).z).n)) && decide ((((F_vector_Of d).z).d) = (((F_skewbackref06_Of d).z).d))))))) && (((F_vector_Bad a) == (F_skewbackref06_Bad a)) && ((F_vector_Before a b) == (F_skewbackref06_Before a b)))))))) ∧ M = [⟨b4, 31, flat [ci .i64 d.x.1, ci .i64 d.y.1, ci .i64 d.z.1]⟩, ⟨b3, 27, flat [pI c.n, pI c.d]⟩, ⟨b2, 29, flat [pI b.x.n, pI b.x.d, pI b.y.n, pI b.y.d, pI b.z.n, pI b.z.d]⟩, ⟨b1, 29, flat [pI a.x.n, pI a.x.d, pI a.y.n, pI a.y.d, pI a.z.n, pI a.z.d]⟩]) (fun K5 J5 => ?_) ?_
     ·skip
      refine dr (sk (sk (sk (sk (s0))))) [0,4,8,12,16,20,24,28,32,36,40,44,48,52,56,60,64,68,72,76,80,84,88,92,96,100,104,108,112,116,120] [] mix (by kernel_rfl) (fun K J => pQ rfl (q_ret en_6 skewbacklaw06_sanity_ret  rfl) ?_)
      rcases bt F_skewbacklaw06_sanity with h28 | h28
      ·skip
       refine pB h28 rfl (pE rfl (pE rfl ?_))
       rcases bt ((decide ((((F_vector_Plus a b).x).n) = (((F_skewbackref06_Plus a b).x).n)) && (decide ((((F_vector_Plus a b).x).d) = (((F_skewbackref06_Plus a b).x).d)) && (decide ((((F_vector_Plus a b).y).n) = (((F_skewbackref06_Plus a b).y).n)) && (decide ((((F_vector_Plus a b).y).d) = (((F_skewbackref06_Plus a b).y).d)) && (decide ((((F_vector_Plus a b).z).n) = (((F_skewbackref06_Plus a b).z).n)) && decide ((((F_vector_Plus a b).z).d) = (((F_skewbackref06_Plus a b).z).d))))))) && ((decide ((((F_vector_Minus a b).x).n) = (((F_skewbackref06_Minus a b).x).n)) && (decide ((((F_vector_Minus a b).x).d) = (((F_skewbackref06_Minus a b).x).d)) && (decide ((((F_vector_Minus a b).y).n) = (((F_skewbackref06_Minus a b).y).n)) && (decide ((((F_vector_Minus a b).y).d) = (((F_skewbackref06_Minus a b).y).d)) && (decide ((((F_vector_Minus a b).z).n) = (((F_skewbackref06_Minus a b).z).n)) && decide ((((F_vector_Minus a b).z).d) = (((F_skewbackref06_Minus a b).z).d))))))) && (decide ((((F_vector_Times c a).x).n) = (((F_skewbackref06_Times c a).x).n)) && (decide ((((F_vector_Times c a).x).d) = (((F_skewbackref06_Times c a).x).d)) && (decide ((((F_vector_Times c a).y).n) = (((F_skewbackref06_Times c a).y).n)) && (decide ((((F_vector_Times c a).y).d) = (((F_skewbackref06_Times c a).y).d)) && (decide ((((F_vector_Times c a).z).n) = (((F_skewbackref06_Times c a).z).n)) && decide ((((F_vector_Times c a).z).d) = (((F_skewbackref06_Times c a).z).d))))))))) with h29 | h29
       ·skip
        refine pB h29 rfl (pE rfl (pE rfl ?_))
        rcases bt ((decide (((F_vector_Inner a b).n) = ((F_skewbackref06_Inner a b).n)) && decide (((F_vector_Inner a b).d) = ((F_skewbackref06_Inner a b).d))) && ((decide ((((F_vector_Outer a b).x).n) = (((F_skewbackref06_Outer a b).x).n)) && (decide ((((F_vector_Outer a b).x).d) = (((F_skewbackref06_Outer a b).x).d)) && (decide ((((F_vector_Outer a b).y).n) = (((F_skewbackref06_Outer a b).y).n)) && (decide ((((F_vector_Outer a b).y).d) = (((F_skewbackref06_Outer a b).y).d)) && (decide ((((F_vector_Outer a b).z).n) = (((F_skewbackref06_Outer a b).z).n)) && decide ((((F_vector_Outer a b).z).d) = (((F_skewbackref06_Outer a b).z).d))))))) && (decide (((F_vector_Side d a).n) = ((F_skewbackref06_Side d a).n)) && decide (((F_vector_Side d a).d) = ((F_skewbackref06_Side d a).d))))) with h30 | h30
        ·skip
         refine pB h30 rfl (pQ rfl (qL ty_31 rfl m0 rfl) (pQ rfl (q_ret en_19 (vector_Of_ret d) rfl) (pQ rfl (qL ty_31 rfl m0 rfl) (pQ rfl (q_ret en_20 (skewbackref06_Of_ret d) rfl) (pQ rfl (q_eqla (r := (decide ((((F_vector_Of d).x).n) = (((F_skewbackref06_Of d).x).n)) && (decide ((((F_vector_Of d).x).d) = (((F_skewbackref06_Of d).x).d)) && (decide ((((F_vector_Of d).y).n) = (((F_skewbackref06_Of d).y).n)) && (decide ((((F_vector_Of d).y).d) = (((F_skewbackref06_Of d).y).d)) && (decide ((((F_vector_Of d).z).n) = (((F_skewbackref06_Of d).z).n)) && decide ((((F_vector_Of d).z).d) = (((F_skewbackref06_Of d).z).d)))))))) rfl rfl (eqOk_of 8 (by decide) eg_29 lw_29 (lv_cons lv_pI (lv_cons lv_pI (lv_cons lv_pI (lv_cons lv_pI (lv_cons lv_pI (lv_one lv_pI)))))) (lv_cons lv_pI (lv_cons lv_pI (lv_cons lv_pI (lv_cons lv_pI (lv_cons lv_pI (lv_one lv_pI)))))) (eqP_cons rfl eq_pI (eqP_cons rfl eq_pI (eqP_cons rfl eq_pI (eqP_cons rfl eq_pI (eqP_cons rfl eq_pI (eqP_one eq_pI)))))))) (pE rfl ?_))))))
         rcases bt (decide ((((F_vector_Of d).x).n) = (((F_skewbackref06_Of d).x).n)) && (decide ((((F_vector_Of d).x).d) = (((F_skewbackref06_Of d).x).d)) && (decide ((((F_vector_Of d).y).n) = (((F_skewbackref06_Of d).y).n)) && (decide ((((F_vector_Of d).y).d) = (((F_skewbackref06_Of d).y).d)) && (decide ((((F_vector_Of d).z).n) = (((F_skewbackref06_Of d).z).n)) && decide ((((F_vector_Of d).z).d) = (((F_skewbackref06_Of d).z).d))))))) with h31 | h31
         ·skip
          refine pB h31 rfl (pQ rfl (qL ty_29 rfl m3 rfl) (pQ rfl (q_ret en_21 (vector_Bad_ret a) rfl) (pQ rfl (qL ty_29 rfl m3 rfl) (pQ rfl (q_ret en_22 (skewbackref06_Bad_ret a) rfl) (pQ rfl (q_as (v' := .bool ((F_vector_Bad a) == (F_skewbackref06_Bad a))) (q_eqlb bo_4 rfl rfl) rfl) (pE rfl ?_))))))
          rcases bt ((F_vector_Bad a) == (F_skewbackref06_Bad a)) with h32 | h32
          ·skip
           refine pB h32 rfl (pQ rfl (qL ty_29 rfl m3 rfl) (pQ rfl (qL ty_29 rfl m2 rfl) (pQ rfl (q_ret en_23 (vector_Before_ret a b) rfl) (pQ rfl (qL ty_29 rfl m3 rfl) (pQ rfl (qL ty_29 rfl m2 rfl) (pQ rfl (q_ret en_24 (skewbackref06_Before_ret a b) rfl) (pQ rfl (q_as (v' := .bool ((F_vector_Before a b) == (F_skewbackref06_Before a b))) (q_eqlb bo_4 rfl rfl) rfl) (pE rfl (pE rfl (fl J ?_))))))))))
           refine J5 _ _ (by repeat first | exact .refl | refine .cons rfl ?_) ⟨_, s0, ?s8, rfl⟩
           case s8 => exact congrArg Value.bool (and_t h28 (and_t h29 (and_t h30 (and_t h31 (and_t h32 rfl)))))
          ·skip
           refine pB h32 rfl (PL_n rfl rfl (PL_n rfl rfl (PL_n rfl rfl (PL_n rfl rfl (PL_n rfl rfl (PL_n rfl rfl (PL_n rfl rfl (pE rfl (pE rfl (fl J ?_))))))))))
           refine J5 _ _ (by repeat first | exact .refl | refine .cons rfl ?_) ⟨_, s0, ?s8, rfl⟩
           case s8 => exact congrArg Value.bool (and_t h28 (and_t h29 (and_t h30 (and_t h31 (and_f h32)))))
         ·skip
          refine pB h31 rfl (PL_n rfl rfl (PL_n rfl rfl (PL_n rfl rfl (PL_n rfl rfl (PL_n rfl rfl (pE rfl (pE rfl (PL_n rfl rfl (PL_n rfl rfl (PL_n rfl rfl (PL_n rfl rfl (PL_n rfl rfl (PL_n rfl rfl (PL_n rfl rfl (pE rfl (pE rfl (fl J ?_)))))))))))))))))
          refine J5 _ _ (by repeat first | exact .refl | refine .cons rfl ?_) ⟨_, s0, ?s8, rfl⟩
          case s8 => exact congrArg Value.bool (and_t h28 (and_t h29 (and_t h30 (and_f h31))))
        ·skip
         refine pB h30 rfl (PL_n rfl rfl (PL_n rfl rfl (PL_n rfl rfl (PL_n rfl rfl (PL_n rfl rfl (pE rfl (pE rfl (PL_n rfl rfl (PL_n rfl rfl (PL_n rfl rfl (PL_n rfl rfl (PL_n rfl rfl (pE rfl (pE rfl (PL_n rfl rfl (PL_n rfl rfl (PL_n rfl rfl (PL_n rfl rfl (PL_n rfl rfl ?_)))))))))))))))))))
         refine PL_n rfl rfl (PL_n rfl rfl (pE rfl (pE rfl (fl J ?_))))
         refine J5 _ _ (by repeat first | exact .refl | refine .cons rfl ?_) ⟨_, s0, ?s8, rfl⟩
         case s8 => exact congrArg Value.bool (and_t h28 (and_t h29 (and_f h30)))
       ·skip
        refine pB h29 rfl (PL_n rfl rfl (pE rfl (pE rfl (PL_n rfl rfl (PL_n rfl rfl (PL_n rfl rfl (PL_n rfl rfl (PL_n rfl rfl (pE rfl (pE rfl (PL_n rfl rfl (PL_n rfl rfl (PL_n rfl rfl (PL_n rfl rfl (PL_n rfl rfl (pE rfl (pE rfl (PL_n rfl rfl (PL_n rfl rfl ?_)))))))))))))))))))
        refine PL_n rfl rfl (PL_n rfl rfl (PL_n rfl rfl (PL_n rfl rfl (PL_n rfl rfl (pE rfl (pE rfl (fl J ?_)))))))
        refine J5 _ _ (by repeat first | exact .refl | refine .cons rfl ?_) ⟨_, s0, ?s8, rfl⟩
        case s8 => exact congrArg Value.bool (and_t h28 (and_f h29))
      ·skip
       refine pB h28 rfl (PL_n rfl rfl (pE rfl (pE rfl (PL_n rfl rfl (pE rfl (pE rfl (PL_n rfl rfl (PL_n rfl rfl (PL_n rfl rfl (PL_n rfl rfl (PL_n rfl rfl (pE rfl (pE rfl (PL_n rfl rfl (PL_n rfl rfl (PL_n rfl rfl (PL_n rfl rfl (PL_n rfl rfl (pE rfl ?_)))))))))))))))))))
       refine pE rfl (PL_n rfl rfl (PL_n rfl rfl (PL_n rfl rfl (PL_n rfl rfl (PL_n rfl rfl (PL_n rfl rfl (PL_n rfl rfl (pE rfl (pE rfl (fl J ?_))))))))))
       refine J5 _ _ (by repeat first | exact .refl | refine .cons rfl ?_) ⟨_, s0, ?s8, rfl⟩
       case s8 => exact congrArg Value.bool (and_f h28)
     ·skip
      rintro g33 M ⟨hg8, rfl⟩
      simp only [setG, hg8]
      clear hg8
      refine W_ret (ret1 rfl (.inr rfl) rfl ?_)
      exact (by exact congrArg (fun r : Bool => (.bool r : Value)) (show _ = (F_skewbacklaw06_VectorRationalsMatchSpec a b c d) from bif_f h10 rfl))
end Go.Proofs.YthbjhbmpfeeilaaGreat
