/- Walks: what these functions return. -/
import Derived.Test.YthbjhbmpfeeilaaGreatFa0
import Derived.Test.YthbjhbmpfeeilaaGreatFn
import Derived.Test.YthbjhbmpfeeilaaGreatGa
import Derived.Test.YthbjhbmpfeeilaaGreatSf
import Derived.Test.YthbjhbmpfeeilaaGreatVa
import Derived.Test.YthbjhbmpfeeilaaGreatVd
namespace Go.Proofs.YthbjhbmpfeeilaaGreat
open Go.Kn Go.Num
set_option linter.unusedVariables false
set_option linter.unusedSimpArgs false
set_option maxRecDepth 20000
set_option maxHeartbeats 8000000
theorem skewbacklaw06_numbers_ret (a : W) (b : W) (c : W) :
    Ret Tryz.prog 30 [.int .i64 a.1, .int .i64 b.1, .int .i64 c.1] (AV [pI ((F_skewbacklaw06_numbers a b c).x), pI ((F_skewbacklaw06_numbers a b c).y), pI ((F_skewbacklaw06_numbers a b c).z)]) := by
 refine ret_of_W (N := 14) Tryz.func30 rfl rfl (by simp) (fun w0 => ?_)
 simp only [initF, Nat.reduceAdd]
 refine Rs fun K J => sN zp_45 rfl fun b1 hb1 => nl J (Rs fun K J => sE rfl (sC (AV [pI (E (Z.of a.1))]) en_28 (skewbackref03_Of_ret a.1 a.2) rfl rfl rfl (sE rfl (sC (AV [pI (E (Z.of b.1))]) en_28 (skewbackref03_Of_ret b.1 b.2) rfl rfl rfl (sE rfl (sC (AV [pI (E (Z.of c.1))]) en_28 (skewbackref03_Of_ret c.1 c.2) rfl rfl rfl (sQ (q_buildap zp_45 ar_45 rfl (.cons [pI (E (Z.of a.1))] [pI (E (Z.of a.1)), pI I0, pI I0] rfl rfl rfl rfl (.cons [pI (E (Z.of b.1))] [pI (E (Z.of a.1)), pI (E (Z.of b.1)), pI I0] rfl rfl rfl rfl (.cons [pI (E (Z.of c.1))] [pI (E (Z.of a.1)), pI (E (Z.of b.1)), pI (E (Z.of c.1))] rfl rfl rfl rfl (.nil _))))) rfl (sS [pI (E (Z.of a.1)), pI (E (Z.of b.1)), pI (E (Z.of c.1))] ty_45 rfl rfl rfl rfl rfl (.head _) rfl hb1 (nl J (W_ret (ret1 rfl (.inr rfl) (resP rfl m0 ty_45 rfl) ?_)))))))))))
 exact (by rfl)

theorem skewbacklaw06_sanity_ret  :
    Ret Tryz.prog 6 [] (.bool F_skewbacklaw06_sanity) := by
 refine ret_of_W (N := 126) Tryz.func6 rfl rfl (by simp) (fun w0 => ?_)
 simp only [initF, Nat.reduceAdd]
 obtain ⟨q0, hq0⟩ := nm ((F_vector_Dot (⟨(wl 1), (wl 2), (wl 3)⟩ : (A3 W)) (⟨(wl 4), (wl (-5)), (wl 6)⟩ : (A3 W))) : I)
 obtain ⟨q1, hq1⟩ := nm ((E (Z.of 12)) : I)
 obtain ⟨q2, hq2⟩ := nm ((F_vector_Cross (⟨(wl 1), (wl 2), (wl 3)⟩ : (A3 W)) (⟨(wl 4), (wl (-5)), (wl 6)⟩ : (A3 W))) : (A3 I))
 obtain ⟨q3, hq3⟩ := nm ((F_skewbacklaw06_numbers (wl 27) (wl 6) (wl (-13))) : (A3 I))
 obtain ⟨q4, hq4⟩ := nm ((F_skewbacklaw06_numbers (wl 6) (wl (-9)) (wl 0)) : (A3 I))
 obtain ⟨q5, hq5⟩ := nm ((F_vector_Primitive q4).1 : (A3 W))
 obtain ⟨q6, hq6⟩ := nm ((F_vector_Primitive q4).2 : W)
 obtain ⟨q7, hq7⟩ := nm ((F_skewbacklaw06_numbers (wl 0) (wl 0) (wl 0)) : (A3 I))
 obtain ⟨q8, hq8⟩ := nm ((F_vector_Primitive q7).1 : (A3 W))
 obtain ⟨q9, hq9⟩ := nm ((F_vector_Primitive q7).2 : W)
 obtain ⟨q10, hq10⟩ := nm ((F_vector_Tangents (⟨(wl 0), (wl 0), (wl 5)⟩ : (A3 W))).1 : (A3 W))
 obtain ⟨q11, hq11⟩ := nm ((F_vector_Tangents (⟨(wl 0), (wl 0), (wl 5)⟩ : (A3 W))).2 : (A3 W))
 obtain ⟨q12, hq12⟩ := nm ((F_vector_Tangents (⟨(wl 3), (wl 0), (wl 4)⟩ : (A3 W))).1 : (A3 W))
 obtain ⟨q13, hq13⟩ := nm ((F_vector_Tangents (⟨(wl 3), (wl 0), (wl 4)⟩ : (A3 W))).2 : (A3 W))
 obtain ⟨q14, hq14⟩ := nm ((F_vector_Orient (⟨(wl 0), (wl 0), (wl 0)⟩ : (A3 W)) (⟨(wl 1), (wl 0), (wl 0)⟩ : (A3 W)) (⟨(wl 0), (wl 1), (wl 0)⟩ : (A3 W)) (⟨(wl 0), (wl 0), (wl 1)⟩ : (A3 W))) : W)
 obtain ⟨q15, hq15⟩ := nm ((F_skewbackref04_Frac (wl 1) (wl 2)) : Rt)
 obtain ⟨q16, hq16⟩ := nm ((F_skewbackref04_Of (wl 0)) : Rt)
 obtain ⟨q17, hq17⟩ := nm ((F_skewbackref04_Of (wl 1)) : Rt)
 obtain ⟨q18, hq18⟩ := nm ((F_skewbackref04_Of (wl 2)) : Rt)
 obtain ⟨q19, hq19⟩ := nm ((F_skewbackref04_Of (wl 5)) : Rt)
 obtain ⟨q20, hq20⟩ := nm ((F_skewbackref04_Frac (wl 1) (wl 3)) : Rt)
 obtain ⟨q21, hq21⟩ := nm ((F_vector_Inner (⟨q15, q16, q17⟩ : (A3 Rt)) (⟨q18, q19, q20⟩ : (A3 Rt))) : Rt)
 obtain ⟨q22, hq22⟩ := nm ((F_skewbackref04_Frac (wl 4) (wl 3)) : Rt)
 obtain ⟨q23, hq23⟩ := nm ((F_vector_Add (⟨(wl 1), (wl 2), (wl 3)⟩ : (A3 W)) (⟨(wl 4), (wl (-5)), (wl 6)⟩ : (A3 W))) : (A3 W))
 obtain ⟨q24, hq24⟩ := nm ((F_vector_Less (⟨(wl 1), (wl 2), (wl 3)⟩ : (A3 W)) (⟨(wl 4), (wl (-5)), (wl 6)⟩ : (A3 W))) : Bool)
 obtain ⟨q25, hq25⟩ := nm ((F_vector_Bad (⟨q15, q16, q17⟩ : (A3 Rt))) : Bool)
 refine Rs fun K J => sE rfl (nl J (Rs fun K J => sQ (q_buildap zp_31 ar_31 rfl (.cons [ci .i64 1] [ci .i64 1, ci .i64 0, ci .i64 0] rfl rfl rfl rfl (.cons [ci .i64 2] [ci .i64 1, ci .i64 2, ci .i64 0] rfl rfl rfl rfl (.cons [ci .i64 3] [ci .i64 1, ci .i64 2, ci .i64 3] rfl rfl rfl rfl (.nil _))))) rfl (sN zp_31 rfl fun b1 hb1 => sS [ci .i64 1, ci .i64 2, ci .i64 3] ty_31 rfl rfl rfl rfl rfl (.head _) rfl hb1 (nl J (Rs fun K J => sQ (q_buildap zp_31 ar_31 rfl (.cons [ci .i64 4] [ci .i64 4, ci .i64 0, ci .i64 0] rfl rfl rfl rfl (.cons [ci .i64 (-5)] [ci .i64 4, ci .i64 (-5), ci .i64 0] rfl rfl rfl rfl (.cons [ci .i64 6] [ci .i64 4, ci .i64 (-5), ci .i64 6] rfl rfl rfl rfl (.nil _))))) rfl (sN zp_31 rfl fun b2 hb2 => sS [ci .i64 4, ci .i64 (-5), ci .i64 6] ty_31 rfl rfl rfl rfl rfl (.head _) rfl hb2 (nl J ?_)))))))
 refine W_join [3, 18, 19, 20, 21, 22, 23, 24, 25, 26, 27, 28, 29] (fun g M => (g 3 = .bool (decide (q0 = q1) && (decide (q2.x = q3.x) && (decide (q2.y = q3.y) && decide (q2.z = q3.z))))) ∧ M = [⟨b2, 31, flat [ci .i64 4, ci .i64 (-5), ci .i64 6]⟩, ⟨b1, 31, flat [ci .i64 1, ci .i64 2, ci .i64 3]⟩]) (fun K1 J1 => ?_) ?_
 ·skip
  refine Rk fun K J => sQ (qL ty_31 rfl m1 rfl) rfl (sQ (qL ty_31 rfl m0 rfl) rfl (sC (AV [pI q0]) en_27 (vector_Dot_ret (⟨(wl 1), (wl 2), (wl 3)⟩ : (A3 W)) (⟨(wl 4), (wl (-5)), (wl 6)⟩ : (A3 W))) rfl rfl (by rw [hq0]; first | done | rfl) ?_))
  refine sC (AV [pI q1]) en_28 (skewbackref03_Of_ret (wl 12).1 (wl 12).2) rfl rfl (by rw [hq1]; first | done | rfl) ?_
  refine sQ (q_eqla (r := decide (q0 = q1)) rfl rfl (eqOk_of 8 (by decide) eg_25 lw_25 (lv_one lv_pI) (lv_one lv_pI) (eqP_one eq_pI))) rfl ?_
  rcases bt (decide (q0 = q1)) with h4 | h4
  ·skip
   refine sB h4 rfl (sQ (qL ty_31 rfl m1 rfl) rfl (sQ (qL ty_31 rfl m0 rfl) rfl (sC (AV [pI q2.x, pI q2.y, pI q2.z]) en_29 (vector_Cross_ret (⟨(wl 1), (wl 2), (wl 3)⟩ : (A3 W)) (⟨(wl 4), (wl (-5)), (wl 6)⟩ : (A3 W))) rfl rfl (by rw [hq2]; first | done | rfl) ?_)))
   refine sC (AV [pI q3.x, pI q3.y, pI q3.z]) en_30 (skewbacklaw06_numbers_ret (wl 27) (wl 6) (wl (-13))) rfl rfl (by rw [hq3]; first | done | rfl) ?_
   refine sQ (q_eqla (r := (decide (q2.x = q3.x) && (decide (q2.y = q3.y) && decide (q2.z = q3.z)))) rfl rfl (eqOk_of 8 (by decide) eg_45 lw_45 (lv_cons lv_pI (lv_cons lv_pI (lv_one lv_pI))) (lv_cons lv_pI (lv_cons lv_pI (lv_one lv_pI))) (eqP_cons rfl eq_pI (eqP_cons rfl eq_pI (eqP_one eq_pI))))) rfl (sE rfl (sE rfl (nl J ?_)))
   refine J1 _ _ (by repeat first | exact .refl | refine .cons rfl ?_) ⟨_, s0, ?s3, rfl⟩
   case s3 => exact congrArg Value.bool (and_t h4 rfl)
  ·skip
   refine sB h4 rfl (WL_n rfl (WL_n rfl (WL_n rfl (WL_n rfl (WL_n rfl (sE rfl (sE rfl (nl J ?_))))))))
   refine J1 _ _ (by repeat first | exact .refl | refine .cons rfl ?_) ⟨_, s0, ?s3, rfl⟩
   case s3 => exact congrArg Value.bool (and_f h4)
 ·skip
  rintro g5 M ⟨hg3, rfl⟩
  simp only [setG, hg3]
  clear hg3
  refine Rs fun K J => sC (AV [pI q4.x, pI q4.y, pI q4.z]) en_30 (skewbacklaw06_numbers_ret (wl 6) (wl (-9)) (wl 0)) rfl rfl (by rw [hq4]; first | done | rfl) ?_
  refine sC (.tuple #[AV [ci .i64 q5.x.1, ci .i64 q5.y.1, ci .i64 q5.z.1], .int .i64 q6.1]) en_31 (vector_Primitive_ret q4) rfl rfl (by rw [hq5, hq6]; first | done | rfl) (sE rfl (sE rfl (sE rfl (sN zp_31 rfl fun b6 hb6 => sS [ci .i64 q5.x.1, ci .i64 q5.y.1, ci .i64 q5.z.1] ty_31 rfl rfl rfl rfl rfl (.head _) rfl hb6 (sE rfl (nl J (Rs fun K J => sC (AV [pI q7.x, pI q7.y, pI q7.z]) en_30 (skewbacklaw06_numbers_ret (wl 0) (wl 0) (wl 0)) rfl rfl (by rw [hq7]; first | done | rfl) ?_)))))))
  refine sC (.tuple #[AV [ci .i64 q8.x.1, ci .i64 q8.y.1, ci .i64 q8.z.1], .int .i64 q9.1]) en_31 (vector_Primitive_ret q7) rfl rfl (by rw [hq8, hq9]; first | done | rfl) (sE rfl (sE rfl (sE rfl (sN zp_31 rfl fun b7 hb7 => sS [ci .i64 q8.x.1, ci .i64 q8.y.1, ci .i64 q8.z.1] ty_31 rfl rfl rfl rfl rfl (.head _) rfl hb7 (sE rfl (nl J (Rs fun K J => sQ (q_buildap zp_31 ar_31 rfl (.cons [ci .i64 0] [ci .i64 0, ci .i64 0, ci .i64 0] rfl rfl rfl rfl (.cons [ci .i64 0] [ci .i64 0, ci .i64 0, ci .i64 0] rfl rfl rfl rfl (.cons [ci .i64 5] [ci .i64 0, ci .i64 0, ci .i64 5] rfl rfl rfl rfl (.nil _))))) rfl (sC (.tuple #[AV [ci .i64 q10.x.1, ci .i64 q10.y.1, ci .i64 q10.z.1], AV [ci .i64 q11.x.1, ci .i64 q11.y.1, ci .i64 q11.z.1]]) en_32 (vector_Tangents_ret (⟨(wl 0), (wl 0), (wl 5)⟩ : (A3 W))) rfl rfl (by rw [hq10, hq11]; first | done | rfl) ?_))))))))
  refine sE rfl (sE rfl (sE rfl (sN zp_31 rfl fun b8 hb8 => sN zp_31 rfl fun b9 hb9 => sS [ci .i64 q10.x.1, ci .i64 q10.y.1, ci .i64 q10.z.1] ty_31 rfl rfl rfl rfl rfl (.tail _ (.head _)) rfl hb8 (sS [ci .i64 q11.x.1, ci .i64 q11.y.1, ci .i64 q11.z.1] ty_31 rfl rfl rfl rfl rfl (.head _) rfl hb9 (nl J (Rs fun K J => sQ (q_buildap zp_31 ar_31 rfl (.cons [ci .i64 3] [ci .i64 3, ci .i64 0, ci .i64 0] rfl rfl rfl rfl (.cons [ci .i64 0] [ci .i64 3, ci .i64 0, ci .i64 0] rfl rfl rfl rfl (.cons [ci .i64 4] [ci .i64 3, ci .i64 0, ci .i64 4] rfl rfl rfl rfl (.nil _))))) rfl (sC (.tuple #[AV [ci .i64 q12.x.1, ci .i64 q12.y.1, ci .i64 q12.z.1], AV [ci .i64 q13.x.1, ci .i64 q13.y.1, ci .i64 q13.z.1]]) en_32 (vector_Tangents_ret (⟨(wl 3), (wl 0), (wl 4)⟩ : (A3 W))) rfl rfl (by rw [hq12, hq13]; first | done | rfl) ?_)))))))
  refine sE rfl (sE rfl (sE rfl (sN zp_31 rfl fun b10 hb10 => sN zp_31 rfl fun b11 hb11 => sS [ci .i64 q12.x.1, ci .i64 q12.y.1, ci .i64 q12.z.1] ty_31 rfl rfl rfl rfl rfl (.tail _ (.head _)) rfl hb10 (sS [ci .i64 q13.x.1, ci .i64 q13.y.1, ci .i64 q13.z.1] ty_31 rfl rfl rfl rfl rfl (.head _) rfl hb11 (nl J ?_)))))
  refine W_join [12, 50, 51, 52, 53, 54, 55, 56, 57, 58, 59, 60, 61, 62, 63, 64, 65, 66, 67, 68, 69, 70, 71, 72, 73, 74, 75, 76, 77, 78, 79, 80] (fun g M => (g 12 = .bool ((decide (q5.x.1 = 2) && (decide (q5.y.1 = (-3)) && decide (q5.z.1 = 0))) && ((q6.1 == 0) && ((q9.1 == 31) && ((decide (q10.x.1 = 1) && (decide (q10.y.1 = 0) && decide (q10.z.1 = 0))) && ((decide (q11.x.1 = 0) && (decide (q11.y.1 = 1) && decide (q11.z.1 = 0))) && ((decide (q12.x.1 = 0) && (decide (q12.y.1 = 1) && decide (q12.z.1 = 0))) && (decide (q13.x.1 = (-4)) && (decide (q13.y.1 = 0) && decide (q13.z.1 = 3)))))))))) ∧ M = [⟨b11, 31, flat [ci .i64 q13.x.1, ci .i64 q13.y.1, ci .i64 q13.z.1]⟩, ⟨b10, 31, flat [ci .i64 q12.x.1, ci .i64 q12.y.1, ci .i64 q12.z.1]⟩, ⟨b9, 31, flat [ci .i64 q11.x.1, ci .i64 q11.y.1, ci .i64 q11.z.1]⟩, ⟨b8, 31, flat [ci .i64 q10.x.1, ci .i64 q10.y.1, ci .i64 q10.z.1]⟩, ⟨b7, 31, flat [ci .i64 q8.x.1, ci .i64 q8.y.1, ci .i64 q8.z.1]⟩, ⟨b6, 31, flat [ci .i64 q5.x.1, ci .i64 q5.y.1, ci .i64 q5.z.1]⟩, ⟨b2, 31, flat [ci .i64 4, ci .i64 (-5), ci .i64 6]⟩, ⟨b1, 31, flat [ci .i64 1, ci .i64 2, ci .i64 3]⟩]) (fun K2 J2 => ?_) ?_
  ·skip
   refine Rk fun K J => sQ (qL ty_31 rfl m5 rfl) rfl (sQ (q_buildap zp_31 ar_31 rfl (.cons [ci .i64 2] [ci .i64 2, ci .i64 0, ci .i64 0] rfl rfl rfl rfl (.cons [ci .i64 (-3)] [ci .i64 2, ci .i64 (-3), ci .i64 0] rfl rfl rfl rfl (.cons [ci .i64 0] [ci .i64 2, ci .i64 (-3), ci .i64 0] rfl rfl rfl rfl (.nil _))))) rfl (sQ (q_eqla (r := (decide (q5.x.1 = 2) && (decide (q5.y.1 = (-3)) && decide (q5.z.1 = 0)))) rfl rfl (eqOk_of 8 (by decide) eg_31 lw_31 (lv_cons lv_ci (lv_cons lv_ci (lv_one lv_ci))) (lv_cons lv_ci (lv_cons lv_ci (lv_one lv_ci))) (eqP_cons rfl eq_ci (eqP_cons rfl eq_ci (eqP_one eq_ci))))) rfl ?_))
   rcases bt (decide (q5.x.1 = 2) && (decide (q5.y.1 = (-3)) && decide (q5.z.1 = 0))) with h18 | h18
   ·skip
    refine sB h18 rfl (sE rfl (sE rfl (sE rfl ?_)))
    rcases bt (q6.1 == 0) with h19 | h19
    ·skip
     refine sB h19 rfl (sE rfl (sE rfl (sE rfl ?_)))
     rcases bt (q9.1 == 31) with h20 | h20
     ·skip
      refine sB h20 rfl (sQ (qL ty_31 rfl m3 rfl) rfl (sQ (q_buildap zp_31 ar_31 rfl (.cons [ci .i64 1] [ci .i64 1, ci .i64 0, ci .i64 0] rfl rfl rfl rfl (.cons [ci .i64 0] [ci .i64 1, ci .i64 0, ci .i64 0] rfl rfl rfl rfl (.cons [ci .i64 0] [ci .i64 1, ci .i64 0, ci .i64 0] rfl rfl rfl rfl (.nil _))))) rfl (sQ (q_eqla (r := (decide (q10.x.1 = 1) && (decide (q10.y.1 = 0) && decide (q10.z.1 = 0)))) rfl rfl (eqOk_of 8 (by decide) eg_31 lw_31 (lv_cons lv_ci (lv_cons lv_ci (lv_one lv_ci))) (lv_cons lv_ci (lv_cons lv_ci (lv_one lv_ci))) (eqP_cons rfl eq_ci (eqP_cons rfl eq_ci (eqP_one eq_ci))))) rfl (sE rfl ?_))))
      rcases bt (decide (q10.x.1 = 1) && (decide (q10.y.1 = 0) && decide (q10.z.1 = 0))) with h21 | h21
      ·skip
       refine sB h21 rfl (sQ (qL ty_31 rfl m2 rfl) rfl (sQ (q_buildap zp_31 ar_31 rfl (.cons [ci .i64 0] [ci .i64 0, ci .i64 0, ci .i64 0] rfl rfl rfl rfl (.cons [ci .i64 1] [ci .i64 0, ci .i64 1, ci .i64 0] rfl rfl rfl rfl (.cons [ci .i64 0] [ci .i64 0, ci .i64 1, ci .i64 0] rfl rfl rfl rfl (.nil _))))) rfl (sQ (q_eqla (r := (decide (q11.x.1 = 0) && (decide (q11.y.1 = 1) && decide (q11.z.1 = 0)))) rfl rfl (eqOk_of 8 (by decide) eg_31 lw_31 (lv_cons lv_ci (lv_cons lv_ci (lv_one lv_ci))) (lv_cons lv_ci (lv_cons lv_ci (lv_one lv_ci))) (eqP_cons rfl eq_ci (eqP_cons rfl eq_ci (eqP_one eq_ci))))) rfl (sE rfl ?_))))
       rcases bt (decide (q11.x.1 = 0) && (decide (q11.y.1 = 1) && decide (q11.z.1 = 0))) with h22 | h22
       ·skip
        refine sB h22 rfl (sQ (qL ty_31 rfl m1 rfl) rfl (sQ (q_buildap zp_31 ar_31 rfl (.cons [ci .i64 0] [ci .i64 0, ci .i64 0, ci .i64 0] rfl rfl rfl rfl (.cons [ci .i64 1] [ci .i64 0, ci .i64 1, ci .i64 0] rfl rfl rfl rfl (.cons [ci .i64 0] [ci .i64 0, ci .i64 1, ci .i64 0] rfl rfl rfl rfl (.nil _))))) rfl (sQ (q_eqla (r := (decide (q12.x.1 = 0) && (decide (q12.y.1 = 1) && decide (q12.z.1 = 0)))) rfl rfl (eqOk_of 8 (by decide) eg_31 lw_31 (lv_cons lv_ci (lv_cons lv_ci (lv_one lv_ci))) (lv_cons lv_ci (lv_cons lv_ci (lv_one lv_ci))) (eqP_cons rfl eq_ci (eqP_cons rfl eq_ci (eqP_one eq_ci))))) rfl (sE rfl ?_))))
        rcases bt (decide (q12.x.1 = 0) && (decide (q12.y.1 = 1) && decide (q12.z.1 = 0))) with h23 | h23
        ·skip
         refine sB h23 rfl (sQ (qL ty_31 rfl m0 rfl) rfl (sQ (q_buildap zp_31 ar_31 rfl (.cons [ci .i64 (-4)] [ci .i64 (-4), ci .i64 0, ci .i64 0] rfl rfl rfl rfl (.cons [ci .i64 0] [ci .i64 (-4), ci .i64 0, ci .i64 0] rfl rfl rfl rfl (.cons [ci .i64 3] [ci .i64 (-4), ci .i64 0, ci .i64 3] rfl rfl rfl rfl (.nil _))))) rfl (sQ (q_eqla (r := (decide (q13.x.1 = (-4)) && (decide (q13.y.1 = 0) && decide (q13.z.1 = 3)))) rfl rfl (eqOk_of 8 (by decide) eg_31 lw_31 (lv_cons lv_ci (lv_cons lv_ci (lv_one lv_ci))) (lv_cons lv_ci (lv_cons lv_ci (lv_one lv_ci))) (eqP_cons rfl eq_ci (eqP_cons rfl eq_ci (eqP_one eq_ci))))) rfl (sE rfl (sE rfl (nl J ?_))))))
         refine J2 _ _ (by repeat first | exact .refl | refine .cons rfl ?_) ⟨_, s0, ?s12, rfl⟩
         case s12 => exact congrArg Value.bool (and_t h18 (and_t h19 (and_t h20 (and_t h21 (and_t h22 (and_t h23 rfl))))))
        ·skip
         refine sB h23 rfl (WL_n rfl (WL_n rfl (WL_n rfl (sE rfl (sE rfl (nl J ?_))))))
         refine J2 _ _ (by repeat first | exact .refl | refine .cons rfl ?_) ⟨_, s0, ?s12, rfl⟩
         case s12 => exact congrArg Value.bool (and_t h18 (and_t h19 (and_t h20 (and_t h21 (and_t h22 (and_f h23))))))
       ·skip
        refine sB h22 rfl (WL_n rfl (WL_n rfl (WL_n rfl (sE rfl (sE rfl (WL_n rfl (WL_n rfl (WL_n rfl (sE rfl (sE rfl (nl J ?_)))))))))))
        refine J2 _ _ (by repeat first | exact .refl | refine .cons rfl ?_) ⟨_, s0, ?s12, rfl⟩
        case s12 => exact congrArg Value.bool (and_t h18 (and_t h19 (and_t h20 (and_t h21 (and_f h22)))))
      ·skip
       refine sB h21 rfl (WL_n rfl (WL_n rfl (WL_n rfl (sE rfl (sE rfl (WL_n rfl (WL_n rfl (WL_n rfl (sE rfl (sE rfl (WL_n rfl (WL_n rfl (WL_n rfl (sE rfl (sE rfl (nl J ?_))))))))))))))))
       refine J2 _ _ (by repeat first | exact .refl | refine .cons rfl ?_) ⟨_, s0, ?s12, rfl⟩
       case s12 => exact congrArg Value.bool (and_t h18 (and_t h19 (and_t h20 (and_f h21))))
     ·skip
      refine sB h20 rfl (WL_n rfl (WL_n rfl (WL_n rfl (sE rfl (sE rfl (WL_n rfl (WL_n rfl (WL_n rfl (sE rfl (sE rfl (WL_n rfl (WL_n rfl (WL_n rfl (sE rfl (sE rfl (WL_n rfl (WL_n rfl (WL_n rfl (sE rfl ?_)))))))))))))))))))
      refine sE rfl (nl J ?_)
      refine J2 _ _ (by repeat first | exact .refl | refine .cons rfl ?_) ⟨_, s0, ?s12, rfl⟩
      case s12 => exact congrArg Value.bool (and_t h18 (and_t h19 (and_f h20)))
    ·skip
     refine sB h19 rfl (WL_n rfl (WL_n rfl (sE rfl (sE rfl (WL_n rfl (WL_n rfl (WL_n rfl (sE rfl (sE rfl (WL_n rfl (WL_n rfl (WL_n rfl (sE rfl (sE rfl (WL_n rfl (WL_n rfl (WL_n rfl (sE rfl (sE rfl ?_)))))))))))))))))))
     refine WL_n rfl (WL_n rfl (WL_n rfl (sE rfl (sE rfl (nl J ?_)))))
     refine J2 _ _ (by repeat first | exact .refl | refine .cons rfl ?_) ⟨_, s0, ?s12, rfl⟩
     case s12 => exact congrArg Value.bool (and_t h18 (and_f h19))
   ·skip
    refine sB h18 rfl (WL_n rfl (WL_n rfl (sE rfl (sE rfl (WL_n rfl (WL_n rfl (sE rfl (sE rfl (WL_n rfl (WL_n rfl (WL_n rfl (sE rfl (sE rfl (WL_n rfl (WL_n rfl (WL_n rfl (sE rfl (sE rfl (WL_n rfl ?_)))))))))))))))))))
    refine WL_n rfl (WL_n rfl (sE rfl (sE rfl (WL_n rfl (WL_n rfl (WL_n rfl (sE rfl (sE rfl (nl J ?_)))))))))
    refine J2 _ _ (by repeat first | exact .refl | refine .cons rfl ?_) ⟨_, s0, ?s12, rfl⟩
    case s12 => exact congrArg Value.bool (and_f h18)
  ·skip
   rintro g24 M ⟨hg12, rfl⟩
   simp only [setG, hg12]
   clear hg12
   refine Rs fun K J => sQ (q_buildap zp_31 ar_31 rfl (.nil _)) rfl (sQ (q_buildap zp_31 ar_31 rfl (.cons [ci .i64 1] [ci .i64 1, ci .i64 0, ci .i64 0] rfl rfl rfl rfl (.cons [ci .i64 0] [ci .i64 1, ci .i64 0, ci .i64 0] rfl rfl rfl rfl (.cons [ci .i64 0] [ci .i64 1, ci .i64 0, ci .i64 0] rfl rfl rfl rfl (.nil _))))) rfl (sQ (q_buildap zp_31 ar_31 rfl (.cons [ci .i64 0] [ci .i64 0, ci .i64 0, ci .i64 0] rfl rfl rfl rfl (.cons [ci .i64 1] [ci .i64 0, ci .i64 1, ci .i64 0] rfl rfl rfl rfl (.cons [ci .i64 0] [ci .i64 0, ci .i64 1, ci .i64 0] rfl rfl rfl rfl (.nil _))))) rfl (sQ (q_buildap zp_31 ar_31 rfl (.cons [ci .i64 0] [ci .i64 0, ci .i64 0, ci .i64 0] rfl rfl rfl rfl (.cons [ci .i64 0] [ci .i64 0, ci .i64 0, ci .i64 0] rfl rfl rfl rfl (.cons [ci .i64 1] [ci .i64 0, ci .i64 0, ci .i64 1] rfl rfl rfl rfl (.nil _))))) rfl (sC (.int .i64 q14.1) en_33 (vector_Orient_ret (⟨(wl 0), (wl 0), (wl 0)⟩ : (A3 W)) (⟨(wl 1), (wl 0), (wl 0)⟩ : (A3 W)) (⟨(wl 0), (wl 1), (wl 0)⟩ : (A3 W)) (⟨(wl 0), (wl 0), (wl 1)⟩ : (A3 W))) rfl rfl (by rw [hq14]; first | done | rfl) ?_))))
   refine sE rfl (nl J (Rs fun K J => sC (AV [pI q15.n, pI q15.d]) en_34 (skewbackref04_Frac_ret (wl 1) (wl 2)) rfl rfl (by rw [hq15]; first | done | rfl) ?_))
   refine sC (AV [pI q16.n, pI q16.d]) en_35 (skewbackref04_Of_ret (wl 0)) rfl rfl (by rw [hq16]; first | done | rfl) ?_
   refine sC (AV [pI q17.n, pI q17.d]) en_35 (skewbackref04_Of_ret (wl 1)) rfl rfl (by rw [hq17]; first | done | rfl) ?_
   refine sQ (q_buildap zp_29 ar_29 rfl (.cons [pI q15.n, pI q15.d] [pI q15.n, pI q15.d, pI I0, pI I0, pI I0, pI I0] rfl rfl rfl rfl (.cons [pI q16.n, pI q16.d] [pI q15.n, pI q15.d, pI q16.n, pI q16.d, pI I0, pI I0] rfl rfl rfl rfl (.cons [pI q17.n, pI q17.d] [pI q15.n, pI q15.d, pI q16.n, pI q16.d, pI q17.n, pI q17.d] rfl rfl rfl rfl (.nil _))))) rfl (sN zp_29 rfl fun b25 hb25 => sS [pI q15.n, pI q15.d, pI q16.n, pI q16.d, pI q17.n, pI q17.d] ty_29 rfl rfl rfl rfl rfl (.head _) rfl hb25 (nl J (Rs fun K J => sC (AV [pI q18.n, pI q18.d]) en_35 (skewbackref04_Of_ret (wl 2)) rfl rfl (by rw [hq18]; first | done | rfl) ?_)))
   refine sC (AV [pI q19.n, pI q19.d]) en_35 (skewbackref04_Of_ret (wl 5)) rfl rfl (by rw [hq19]; first | done | rfl) ?_
   refine sC (AV [pI q20.n, pI q20.d]) en_34 (skewbackref04_Frac_ret (wl 1) (wl 3)) rfl rfl (by rw [hq20]; first | done | rfl) ?_
   refine sQ (q_buildap zp_29 ar_29 rfl (.cons [pI q18.n, pI q18.d] [pI q18.n, pI q18.d, pI I0, pI I0, pI I0, pI I0] rfl rfl rfl rfl (.cons [pI q19.n, pI q19.d] [pI q18.n, pI q18.d, pI q19.n, pI q19.d, pI I0, pI I0] rfl rfl rfl rfl (.cons [pI q20.n, pI q20.d] [pI q18.n, pI q18.d, pI q19.n, pI q19.d, pI q20.n, pI q20.d] rfl rfl rfl rfl (.nil _))))) rfl (sN zp_29 rfl fun b26 hb26 => sS [pI q18.n, pI q18.d, pI q19.n, pI q19.d, pI q20.n, pI q20.d] ty_29 rfl rfl rfl rfl rfl (.head _) rfl hb26 (nl J ?_))
   refine W_join [0, 94, 95, 96, 97, 98, 99, 100, 101, 102, 103, 104, 105, 106, 107, 108, 109, 110, 111, 112, 113, 114, 115, 116, 117, 118, 119, 120, 121, 122, 123, 124, 125] (fun g M => (g 0 = .bool ((decide (q0 = q1) && (decide (q2.x = q3.x) && (decide (q2.y = q3.y) && decide (q2.z = q3.z)))) && (((decide (q5.x.1 = 2) && (decide (q5.y.1 = (-3)) && decide (q5.z.1 = 0))) && ((q6.1 == 0) && ((q9.1 == 31) && ((decide (q10.x.1 = 1) && (decide (q10.y.1 = 0) && decide (q10.z.1 = 0))) && ((decide (q11.x.1 = 0) && (decide (q11.y.1 = 1) && decide (q11.z.1 = 0))) && ((decide (q12.x.1 = 0) && (decide (q12.y.1 = 1) && decide (q12.z.1 = 0))) && (decide (q13.x.1 = (-4)) && (decide (q13.y.1 = 0) && decide (q13.z.1 = 3))))))))) && ((q14.1 == 1) && ((decide (q21.n = q22.n) && decide (q21.d = q22.d)) && ((decide (q23.x.1 = 5) && (decide (q23.y.1 = (-3)) && decide (q23.z.1 = 9))) && (q24 && (!q25)))))))) ∧ M = [⟨b26, 29, flat [pI q18.n, pI q18.d, pI q19.n, pI q19.d, pI q20.n, pI q20.d]⟩, ⟨b25, 29, flat [pI q15.n, pI q15.d, pI q16.n, pI q16.d, pI q17.n, pI q17.d]⟩, ⟨b11, 31, flat [ci .i64 q13.x.1, ci .i64 q13.y.1, ci .i64 q13.z.1]⟩, ⟨b10, 31, flat [ci .i64 q12.x.1, ci .i64 q12.y.1, ci .i64 q12.z.1]⟩, ⟨b9, 31, flat [ci .i64 q11.x.1, ci .i64 q11.y.1, ci .i64 q11.z.1]⟩, ⟨b8, 31, flat [ci .i64 q10.x.1, ci .i64 q10.y.1, ci .i64 q10.z.1]⟩, ⟨b7, 31, flat [ci .i64 q8.x.1, ci .i64 q8.y.1, ci .i64 q8.z.1]⟩, ⟨b6, 31, flat [ci .i64 q5.x.1, ci .i64 q5.y.1, ci .i64 q5.z.1]⟩, ⟨b2, 31, flat [ci .i64 4, ci .i64 (-5), ci .i64 6]⟩, ⟨b1, 31, flat [ci .i64 1, ci .i64 2, ci .i64 3]⟩]) (fun K3 J3 => ?_) ?_
   ·skip
    refine Rk fun K J => sE rfl ?_
    rcases bt (decide (q0 = q1) && (decide (q2.x = q3.x) && (decide (q2.y = q3.y) && decide (q2.z = q3.z)))) with h33 | h33
    ·skip
     refine sB h33 rfl (sE rfl (sE rfl ?_))
     rcases bt ((decide (q5.x.1 = 2) && (decide (q5.y.1 = (-3)) && decide (q5.z.1 = 0))) && ((q6.1 == 0) && ((q9.1 == 31) && ((decide (q10.x.1 = 1) && (decide (q10.y.1 = 0) && decide (q10.z.1 = 0))) && ((decide (q11.x.1 = 0) && (decide (q11.y.1 = 1) && decide (q11.z.1 = 0))) && ((decide (q12.x.1 = 0) && (decide (q12.y.1 = 1) && decide (q12.z.1 = 0))) && (decide (q13.x.1 = (-4)) && (decide (q13.y.1 = 0) && decide (q13.z.1 = 3))))))))) with h34 | h34
     ·skip
      refine sB h34 rfl (sE rfl (sE rfl (sE rfl ?_)))
      rcases bt (q14.1 == 1) with h35 | h35
      ·skip
       refine sB h35 rfl (sQ (qL ty_29 rfl m1 rfl) rfl (sQ (qL ty_29 rfl m0 rfl) rfl (sC (AV [pI q21.n, pI q21.d]) en_13 (vector_Inner_ret (⟨q15, q16, q17⟩ : (A3 Rt)) (⟨q18, q19, q20⟩ : (A3 Rt))) rfl rfl (by rw [hq21]; first | done | rfl) (sC (AV [pI q22.n, pI q22.d]) en_34 (skewbackref04_Frac_ret (wl 4) (wl 3)) rfl rfl (by rw [hq22]; first | done | rfl) ?_))))
       refine sQ (q_eqla (r := (decide (q21.n = q22.n) && decide (q21.d = q22.d))) rfl rfl (eqOk_of 8 (by decide) eg_27 lw_27 (lv_cons lv_pI (lv_one lv_pI)) (lv_cons lv_pI (lv_one lv_pI)) (eqP_cons rfl eq_pI (eqP_one eq_pI)))) rfl (sE rfl ?_)
       rcases bt (decide (q21.n = q22.n) && decide (q21.d = q22.d)) with h36 | h36
       ·skip
        refine sB h36 rfl (sQ (qL ty_31 rfl m9 rfl) rfl (sQ (qL ty_31 rfl m8 rfl) rfl (sC (AV [ci .i64 q23.x.1, ci .i64 q23.y.1, ci .i64 q23.z.1]) en_36 (vector_Add_ret (⟨(wl 1), (wl 2), (wl 3)⟩ : (A3 W)) (⟨(wl 4), (wl (-5)), (wl 6)⟩ : (A3 W))) rfl rfl (by rw [hq23]; first | done | rfl) ?_)))
        refine sQ (q_buildap zp_31 ar_31 rfl (.cons [ci .i64 5] [ci .i64 5, ci .i64 0, ci .i64 0] rfl rfl rfl rfl (.cons [ci .i64 (-3)] [ci .i64 5, ci .i64 (-3), ci .i64 0] rfl rfl rfl rfl (.cons [ci .i64 9] [ci .i64 5, ci .i64 (-3), ci .i64 9] rfl rfl rfl rfl (.nil _))))) rfl (sQ (q_eqla (r := (decide (q23.x.1 = 5) && (decide (q23.y.1 = (-3)) && decide (q23.z.1 = 9)))) rfl rfl (eqOk_of 8 (by decide) eg_31 lw_31 (lv_cons lv_ci (lv_cons lv_ci (lv_one lv_ci))) (lv_cons lv_ci (lv_cons lv_ci (lv_one lv_ci))) (eqP_cons rfl eq_ci (eqP_cons rfl eq_ci (eqP_one eq_ci))))) rfl (sE rfl ?_))
        rcases bt (decide (q23.x.1 = 5) && (decide (q23.y.1 = (-3)) && decide (q23.z.1 = 9))) with h37 | h37
        ·skip
         refine sB h37 rfl (sQ (qL ty_31 rfl m9 rfl) rfl (sQ (qL ty_31 rfl m8 rfl) rfl (sC (.bool q24) en_37 (vector_Less_ret (⟨(wl 1), (wl 2), (wl 3)⟩ : (A3 W)) (⟨(wl 4), (wl (-5)), (wl 6)⟩ : (A3 W))) rfl rfl (by rw [hq24]; first | done | rfl) ?_)))
         refine sE rfl ?_
         rcases bt q24 with h38 | h38
         ·skip
          refine sB h38 rfl (sQ (qL ty_29 rfl m1 rfl) rfl (sC (.bool q25) en_21 (vector_Bad_ret (⟨q15, q16, q17⟩ : (A3 Rt))) rfl rfl (by rw [hq25]; first | done | rfl) (sE rfl (sE rfl (sE rfl (nl J ?_))))))
          refine J3 _ _ (by repeat first | exact .refl | refine .cons rfl ?_) ⟨_, s0, ?s0, rfl⟩
          case s0 => exact congrArg Value.bool (and_t h33 (and_t h34 (and_t h35 (and_t h36 (and_t h37 (and_t h38 rfl))))))
         ·skip
          refine sB h38 rfl (WL_n rfl (WL_n rfl (WL_n rfl (sE rfl (sE rfl (nl J ?_))))))
          refine J3 _ _ (by repeat first | exact .refl | refine .cons rfl ?_) ⟨_, s0, ?s0, rfl⟩
          case s0 => exact congrArg Value.bool (and_t h33 (and_t h34 (and_t h35 (and_t h36 (and_t h37 (and_f h38))))))
        ·skip
         refine sB h37 rfl (WL_n rfl (WL_n rfl (WL_n rfl (sE rfl (sE rfl (WL_n rfl (WL_n rfl (WL_n rfl (sE rfl (sE rfl (nl J ?_)))))))))))
         refine J3 _ _ (by repeat first | exact .refl | refine .cons rfl ?_) ⟨_, s0, ?s0, rfl⟩
         case s0 => exact congrArg Value.bool (and_t h33 (and_t h34 (and_t h35 (and_t h36 (and_f h37)))))
       ·skip
        refine sB h36 rfl (WL_n rfl (WL_n rfl (WL_n rfl (WL_n rfl (WL_n rfl (sE rfl (sE rfl (WL_n rfl (WL_n rfl (WL_n rfl (sE rfl (sE rfl (WL_n rfl (WL_n rfl (WL_n rfl (sE rfl (sE rfl (nl J ?_))))))))))))))))))
        refine J3 _ _ (by repeat first | exact .refl | refine .cons rfl ?_) ⟨_, s0, ?s0, rfl⟩
        case s0 => exact congrArg Value.bool (and_t h33 (and_t h34 (and_t h35 (and_f h36))))
      ·skip
       refine sB h35 rfl (WL_n rfl (WL_n rfl (WL_n rfl (WL_n rfl (WL_n rfl (sE rfl (sE rfl (WL_n rfl (WL_n rfl (WL_n rfl (WL_n rfl (WL_n rfl (sE rfl (sE rfl (WL_n rfl (WL_n rfl (WL_n rfl (sE rfl (sE rfl ?_)))))))))))))))))))
       refine WL_n rfl (WL_n rfl (WL_n rfl (sE rfl (sE rfl (nl J ?_)))))
       refine J3 _ _ (by repeat first | exact .refl | refine .cons rfl ?_) ⟨_, s0, ?s0, rfl⟩
       case s0 => exact congrArg Value.bool (and_t h33 (and_t h34 (and_f h35)))
     ·skip
      refine sB h34 rfl (WL_n rfl (WL_n rfl (sE rfl (sE rfl (WL_n rfl (WL_n rfl (WL_n rfl (WL_n rfl (WL_n rfl (sE rfl (sE rfl (WL_n rfl (WL_n rfl (WL_n rfl (WL_n rfl (WL_n rfl (sE rfl (sE rfl (WL_n rfl ?_)))))))))))))))))))
      refine WL_n rfl (WL_n rfl (sE rfl (sE rfl (WL_n rfl (WL_n rfl (WL_n rfl (sE rfl (sE rfl (nl J ?_)))))))))
      refine J3 _ _ (by repeat first | exact .refl | refine .cons rfl ?_) ⟨_, s0, ?s0, rfl⟩
      case s0 => exact congrArg Value.bool (and_t h33 (and_f h34))
    ·skip
     refine sB h33 rfl (WL_n rfl (sE rfl (sE rfl (WL_n rfl (WL_n rfl (sE rfl (sE rfl (WL_n rfl (WL_n rfl (WL_n rfl (WL_n rfl (WL_n rfl (sE rfl (sE rfl (WL_n rfl (WL_n rfl (WL_n rfl (WL_n rfl (WL_n rfl ?_)))))))))))))))))))
     refine sE rfl (sE rfl (WL_n rfl (WL_n rfl (WL_n rfl (sE rfl (sE rfl (WL_n rfl (WL_n rfl (WL_n rfl (sE rfl (sE rfl (nl J ?_))))))))))))
     refine J3 _ _ (by repeat first | exact .refl | refine .cons rfl ?_) ⟨_, s0, ?s0, rfl⟩
     case s0 => exact congrArg Value.bool (and_f h33)
   ·skip
    rintro g39 M ⟨hg0, rfl⟩
    simp only [setG, hg0]
    clear hg0
    refine W_ret (ret1 rfl (.inr rfl) rfl ?_)
    exact (by subst hq25; subst hq24; subst hq23; subst hq22; subst hq21; subst hq20; subst hq19; subst hq18; subst hq17; subst hq16; subst hq15; subst hq14; subst hq13; subst hq12; subst hq11; subst hq10; subst hq9; subst hq8; subst hq7; subst hq6; subst hq5; subst hq4; subst hq3; subst hq2; subst hq1; subst hq0; rfl)
end Go.Proofs.YthbjhbmpfeeilaaGreat
