/- Walks: what these functions return. -/
import Derived.Test.YtnfbkngfdemkpaaGreatDoorFa0
import Derived.Test.YtnfbkngfdemkpaaGreatDoorFi
import Derived.Test.YtnfbkngfdemkpaaGreatDoorGa
import Derived.Test.YtnfbkngfdemkpaaGreatDoorGd
import Derived.Test.YtnfbkngfdemkpaaGreatDoorGf
import Derived.Test.YtnfbkngfdemkpaaGreatDoorIa
import Derived.Test.YtnfbkngfdemkpaaGreatDoorIr
import Derived.Test.YtnfbkngfdemkpaaGreatDoorSk
namespace Go.Proofs.YtnfbkngfdemkpaaGreatDoor
open Go.Kn Go.Num
set_option linter.unusedVariables false
set_option linter.unusedSimpArgs false
set_option maxRecDepth 20000
set_option maxHeartbeats 8000000
theorem skewbacklaw05_of_ret (a : W) (b : W) :
    Ret Tryz.prog 61 [.int .i64 a.1, .int .i64 b.1] (AV [pI (((F_skewbacklaw05_of a b).lo).n), pI (((F_skewbacklaw05_of a b).lo).d), pI (((F_skewbacklaw05_of a b).hi).n), pI (((F_skewbacklaw05_of a b).hi).d)]) := by
 refine ret_of_W (N := 10) Tryz.func61 rfl rfl (by simp) (fun w0 => ?_)
 simp only [initF, Nat.reduceAdd]
 refine Rs fun K J => sN zp_31 rfl fun b1 hb1 => nl J (Rs fun K J => sE rfl (sQ (q_ret en_38 (ratio_Of_ret a) rfl) rfl (sE rfl (sQ (q_ret en_38 (ratio_Of_ret b) rfl) rfl ?_))))
 obtain ⟨r2, hr2⟩ := nm ((F_interval_Make (F_ratio_Of a) (F_ratio_Of b)) : Iv)
 refine sC (AV [pI r2.lo.n, pI r2.lo.d, pI r2.hi.n, pI r2.hi.d]) en_11 (interval_Make_ret (F_ratio_Of a) (F_ratio_Of b)) rfl rfl (by rw [hr2]; first | done | rfl) (sS [pI r2.lo.n, pI r2.lo.d, pI r2.hi.n, pI r2.hi.d] ty_31 rfl rfl rfl rfl rfl (.head _) rfl hb1 (nl J (W_ret (ret1 rfl (.inr rfl) (resP rfl m0 ty_31 rfl) ?_))))
 exact (by subst hr2; rfl)

theorem skewbacklaw05_between_ret (a : W) (b : W) (c : W) (d : W) :
    Ret Tryz.prog 62 [.int .i64 a.1, .int .i64 b.1, .int .i64 c.1, .int .i64 d.1] (AV [pI (((F_skewbacklaw05_between a b c d).lo).n), pI (((F_skewbacklaw05_between a b c d).lo).d), pI (((F_skewbacklaw05_between a b c d).hi).n), pI (((F_skewbacklaw05_between a b c d).hi).d)]) := by
 refine ret_of_W (N := 16) Tryz.func62 rfl rfl (by simp) (fun w0 => ?_)
 simp only [initF, Nat.reduceAdd]
 refine Rs fun K J => sN zp_31 rfl fun b1 hb1 => nl J (Rs fun K J => sE rfl (sE rfl (sQ (q_ret en_104 (skewbackref04_Frac_ret a b) rfl) rfl (sE rfl (sE rfl (sQ (q_ret en_104 (skewbackref04_Frac_ret c d) rfl) rfl (sQ (q_buildsp zp_31 pl_31 rfl (.cons [pI ((F_skewbackref04_Frac a b).n), pI ((F_skewbackref04_Frac a b).d)] [pI ((F_skewbackref04_Frac a b).n), pI ((F_skewbackref04_Frac a b).d), pI I0, pI I0] rfl rfl rfl rfl (.cons [pI ((F_skewbackref04_Frac c d).n), pI ((F_skewbackref04_Frac c d).d)] [pI ((F_skewbackref04_Frac a b).n), pI ((F_skewbackref04_Frac a b).d), pI ((F_skewbackref04_Frac c d).n), pI ((F_skewbackref04_Frac c d).d)] rfl rfl rfl rfl (.nil _)))) rfl (sS [pI ((F_skewbackref04_Frac a b).n), pI ((F_skewbackref04_Frac a b).d), pI ((F_skewbackref04_Frac c d).n), pI ((F_skewbackref04_Frac c d).d)] ty_31 rfl rfl rfl rfl rfl (.head _) rfl hb1 (nl J (W_ret (ret1 rfl (.inr rfl) (resP rfl m0 ty_31 rfl) ?_)))))))))))
 exact (by rfl)

theorem skewbacklaw05_sanity_ret  :
    Ret Tryz.prog 10 [] (.bool F_skewbacklaw05_sanity) := by
 refine ret_of_W (N := 127) Tryz.func10 rfl rfl (by simp) (fun w0 => ?_)
 simp only [initF, Nat.reduceAdd]
 obtain ⟨q0, hq0⟩ := nm ((F_skewbacklaw05_of (wl 1) (wl 2)) : Iv)
 obtain ⟨q1, hq1⟩ := nm ((F_skewbacklaw05_of (wl (-1)) (wl 3)) : Iv)
 obtain ⟨q2, hq2⟩ := nm ((F_interval_Add q0 q1) : Iv)
 obtain ⟨q3, hq3⟩ := nm ((F_skewbacklaw05_between (wl 0) (wl 1) (wl 5) (wl 1)) : Iv)
 obtain ⟨q4, hq4⟩ := nm ((F_interval_Sub q0 q1) : Iv)
 obtain ⟨q5, hq5⟩ := nm ((F_skewbacklaw05_between (wl (-2)) (wl 1) (wl 3) (wl 1)) : Iv)
 obtain ⟨q6, hq6⟩ := nm ((F_skewbacklaw05_of (wl (-1)) (wl 2)) : Iv)
 obtain ⟨q7, hq7⟩ := nm ((F_skewbacklaw05_of (wl (-3)) (wl 1)) : Iv)
 obtain ⟨q8, hq8⟩ := nm ((F_interval_Mul q6 q7) : Iv)
 obtain ⟨q9, hq9⟩ := nm ((F_skewbacklaw05_between (wl (-6)) (wl 1) (wl 3) (wl 1)) : Iv)
 obtain ⟨q10, hq10⟩ := nm ((F_skewbacklaw05_of (wl 4) (wl 8)) : Iv)
 obtain ⟨q11, hq11⟩ := nm ((F_interval_Div q0 q10) : Iv)
 obtain ⟨q12, hq12⟩ := nm ((F_skewbacklaw05_between (wl 1) (wl 8) (wl 1) (wl 2)) : Iv)
 obtain ⟨q13, hq13⟩ := nm ((F_skewbacklaw05_of (wl (-1)) (wl 1)) : Iv)
 obtain ⟨q14, hq14⟩ := nm ((F_interval_Div q0 q13) : Iv)
 obtain ⟨q15, hq15⟩ := nm ((F_interval_IsBad q14) : Bool)
 obtain ⟨q16, hq16⟩ := nm ((F_skewbacklaw05_of (wl (-3)) (wl 2)) : Iv)
 obtain ⟨q17, hq17⟩ := nm ((F_interval_Abs q16) : Iv)
 obtain ⟨q18, hq18⟩ := nm ((F_skewbacklaw05_between (wl 0) (wl 1) (wl 3) (wl 1)) : Iv)
 obtain ⟨q19, hq19⟩ := nm ((F_interval_Power q16 (wl 2)) : Iv)
 obtain ⟨q20, hq20⟩ := nm ((F_skewbacklaw05_between (wl 0) (wl 1) (wl 9) (wl 1)) : Iv)
 obtain ⟨q21, hq21⟩ := nm ((F_interval_Power q16 (wl 3)) : Iv)
 obtain ⟨q22, hq22⟩ := nm ((F_skewbacklaw05_between (wl (-27)) (wl 1) (wl 8) (wl 1)) : Iv)
 obtain ⟨q23, hq23⟩ := nm ((F_skewbacklaw05_of (wl 0) (wl 3)) : Iv)
 obtain ⟨q24, hq24⟩ := nm ((F_skewbacklaw05_of (wl 2) (wl 5)) : Iv)
 obtain ⟨q25, hq25⟩ := nm ((F_interval_Meet q23 q24).1 : Iv)
 obtain ⟨q26, hq26⟩ := nm ((F_interval_Meet q23 q24).2 : Bool)
 obtain ⟨q27, hq27⟩ := nm ((F_skewbacklaw05_of (wl 0) (wl 1)) : Iv)
 obtain ⟨q28, hq28⟩ := nm ((F_skewbacklaw05_of (wl 2) (wl 3)) : Iv)
 obtain ⟨q29, hq29⟩ := nm ((F_interval_Meet q27 q28).1 : Iv)
 obtain ⟨q30, hq30⟩ := nm ((F_interval_Meet q27 q28).2 : Bool)
 obtain ⟨q31, hq31⟩ := nm ((F_skewbacklaw05_of (wl 3) (wl 4)) : Iv)
 obtain ⟨q32, hq32⟩ := nm ((F_interval_Hull [q27, q31]) : Iv)
 obtain ⟨q33, hq33⟩ := nm ((F_skewbacklaw05_between (wl 0) (wl 1) (wl 4) (wl 1)) : Iv)
 obtain ⟨q34, hq34⟩ := nm ((F_skewbacklaw05_between (wl 2) (wl 1) (wl 3) (wl 1)) : Iv)
 obtain ⟨q35, hq35⟩ := nm ((F_interval_Split q27).1 : Iv)
 obtain ⟨q36, hq36⟩ := nm ((F_interval_Split q27).2 : Iv)
 obtain ⟨q37, hq37⟩ := nm ((F_ratio_Frac (wl 1) (wl 3)) : Rt)
 obtain ⟨q38, hq38⟩ := nm ((F_ratio_Frac (wl 2) (wl 5)) : Rt)
 obtain ⟨q39, hq39⟩ := nm ((F_interval_Make q37 q38) : Iv)
 obtain ⟨q40, hq40⟩ := nm ((F_interval_Widen q39 (wl 2)) : Iv)
 obtain ⟨q41, hq41⟩ := nm ((F_skewbacklaw05_between (wl 1) (wl 4) (wl 1) (wl 2)) : Iv)
 obtain ⟨q42, hq42⟩ := nm ((F_skewbacklaw05_between (wl 0) (wl 1) (wl 1) (wl 2)) : Iv)
 obtain ⟨q43, hq43⟩ := nm ((F_skewbacklaw05_between (wl 1) (wl 2) (wl 1) (wl 1)) : Iv)
 obtain ⟨q44, hq44⟩ := nm (F_interval_Bad : Iv)
 obtain ⟨q45, hq45⟩ := nm (F_skewbackref05_Bad : Iv)
 refine Rs fun K J => sE rfl (nl J ?_)
 refine W_join [1, 12, 13, 14, 15, 16, 17, 18, 19, 20, 21, 22, 23] (fun g M => (g 1 = .bool ((decide (q2.lo.n = q3.lo.n) && (decide (q2.lo.d = q3.lo.d) && (decide (q2.hi.n = q3.hi.n) && decide (q2.hi.d = q3.hi.d)))) && (decide (q4.lo.n = q5.lo.n) && (decide (q4.lo.d = q5.lo.d) && (decide (q4.hi.n = q5.hi.n) && decide (q4.hi.d = q5.hi.d)))))) ∧ M = []) (fun K1 J1 => ?_) ?_
 ·skip
  refine Rk fun K J => sC (AV [pI q0.lo.n, pI q0.lo.d, pI q0.hi.n, pI q0.hi.d]) en_61 (skewbacklaw05_of_ret (wl 1) (wl 2)) rfl rfl (by rw [hq0]; first | done | rfl) ?_
  refine sC (AV [pI q1.lo.n, pI q1.lo.d, pI q1.hi.n, pI q1.hi.d]) en_61 (skewbacklaw05_of_ret (wl (-1)) (wl 3)) rfl rfl (by rw [hq1]; first | done | rfl) ?_
  refine sC (AV [pI q2.lo.n, pI q2.lo.d, pI q2.hi.n, pI q2.hi.d]) en_28 (interval_Add_ret q0 q1) rfl rfl (by rw [hq2]; first | done | rfl) (sC (AV [pI q3.lo.n, pI q3.lo.d, pI q3.hi.n, pI q3.hi.d]) en_62 (skewbacklaw05_between_ret (wl 0) (wl 1) (wl 5) (wl 1)) rfl rfl (by rw [hq3]; first | done | rfl) ?_)
  refine sQ (q_eqla (r := (decide (q2.lo.n = q3.lo.n) && (decide (q2.lo.d = q3.lo.d) && (decide (q2.hi.n = q3.hi.n) && decide (q2.hi.d = q3.hi.d))))) rfl rfl (eqOk_of 8 (by decide) eg_31 lw_31 (lv_cons lv_pI (lv_cons lv_pI (lv_cons lv_pI (lv_one lv_pI)))) (lv_cons lv_pI (lv_cons lv_pI (lv_cons lv_pI (lv_one lv_pI)))) (eqP_cons rfl eq_pI (eqP_cons rfl eq_pI (eqP_cons rfl eq_pI (eqP_one eq_pI)))))) rfl ?_
  rcases bt (decide (q2.lo.n = q3.lo.n) && (decide (q2.lo.d = q3.lo.d) && (decide (q2.hi.n = q3.hi.n) && decide (q2.hi.d = q3.hi.d)))) with h2 | h2
  ·skip
   refine sB h2 rfl (sC (AV [pI q0.lo.n, pI q0.lo.d, pI q0.hi.n, pI q0.hi.d]) en_61 (skewbacklaw05_of_ret (wl 1) (wl 2)) rfl rfl (by rw [hq0]; first | done | rfl) ?_)
   refine sC (AV [pI q1.lo.n, pI q1.lo.d, pI q1.hi.n, pI q1.hi.d]) en_61 (skewbacklaw05_of_ret (wl (-1)) (wl 3)) rfl rfl (by rw [hq1]; first | done | rfl) ?_
   refine sC (AV [pI q4.lo.n, pI q4.lo.d, pI q4.hi.n, pI q4.hi.d]) en_29 (interval_Sub_ret q0 q1) rfl rfl (by rw [hq4]; first | done | rfl) (sC (AV [pI q5.lo.n, pI q5.lo.d, pI q5.hi.n, pI q5.hi.d]) en_62 (skewbacklaw05_between_ret (wl (-2)) (wl 1) (wl 3) (wl 1)) rfl rfl (by rw [hq5]; first | done | rfl) ?_)
   refine sQ (q_eqla (r := (decide (q4.lo.n = q5.lo.n) && (decide (q4.lo.d = q5.lo.d) && (decide (q4.hi.n = q5.hi.n) && decide (q4.hi.d = q5.hi.d))))) rfl rfl (eqOk_of 8 (by decide) eg_31 lw_31 (lv_cons lv_pI (lv_cons lv_pI (lv_cons lv_pI (lv_one lv_pI)))) (lv_cons lv_pI (lv_cons lv_pI (lv_cons lv_pI (lv_one lv_pI)))) (eqP_cons rfl eq_pI (eqP_cons rfl eq_pI (eqP_cons rfl eq_pI (eqP_one eq_pI)))))) rfl (sE rfl (sE rfl (nl J ?_)))
   refine J1 _ _ (by repeat first | exact .refl | refine .cons rfl ?_) ⟨_, s0, ?s1, rfl⟩
   case s1 => exact congrArg Value.bool (and_t h2 rfl)
  ·skip
   refine sB h2 rfl (WL_n rfl (WL_n rfl (WL_n rfl (WL_n rfl (WL_n rfl (sE rfl (sE rfl (nl J ?_))))))))
   refine J1 _ _ (by repeat first | exact .refl | refine .cons rfl ?_) ⟨_, s0, ?s1, rfl⟩
   case s1 => exact congrArg Value.bool (and_f h2)
 ·skip
  rintro g3 M ⟨hg1, rfl⟩
  simp only [setG, hg1]
  clear hg1
  refine W_join [2, 24, 25, 26, 27, 28, 29, 30, 31, 32, 33, 34, 35, 36, 37, 38, 39, 40, 41] (fun g M => (g 2 = .bool ((decide (q8.lo.n = q9.lo.n) && (decide (q8.lo.d = q9.lo.d) && (decide (q8.hi.n = q9.hi.n) && decide (q8.hi.d = q9.hi.d)))) && ((decide (q11.lo.n = q12.lo.n) && (decide (q11.lo.d = q12.lo.d) && (decide (q11.hi.n = q12.hi.n) && decide (q11.hi.d = q12.hi.d)))) && q15))) ∧ M = []) (fun K2 J2 => ?_) ?_
  ·skip
   refine Rk fun K J => sC (AV [pI q6.lo.n, pI q6.lo.d, pI q6.hi.n, pI q6.hi.d]) en_61 (skewbacklaw05_of_ret (wl (-1)) (wl 2)) rfl rfl (by rw [hq6]; first | done | rfl) ?_
   refine sC (AV [pI q7.lo.n, pI q7.lo.d, pI q7.hi.n, pI q7.hi.d]) en_61 (skewbacklaw05_of_ret (wl (-3)) (wl 1)) rfl rfl (by rw [hq7]; first | done | rfl) ?_
   refine sC (AV [pI q8.lo.n, pI q8.lo.d, pI q8.hi.n, pI q8.hi.d]) en_30 (interval_Mul_ret q6 q7) rfl rfl (by rw [hq8]; first | done | rfl) (sC (AV [pI q9.lo.n, pI q9.lo.d, pI q9.hi.n, pI q9.hi.d]) en_62 (skewbacklaw05_between_ret (wl (-6)) (wl 1) (wl 3) (wl 1)) rfl rfl (by rw [hq9]; first | done | rfl) ?_)
   refine sQ (q_eqla (r := (decide (q8.lo.n = q9.lo.n) && (decide (q8.lo.d = q9.lo.d) && (decide (q8.hi.n = q9.hi.n) && decide (q8.hi.d = q9.hi.d))))) rfl rfl (eqOk_of 8 (by decide) eg_31 lw_31 (lv_cons lv_pI (lv_cons lv_pI (lv_cons lv_pI (lv_one lv_pI)))) (lv_cons lv_pI (lv_cons lv_pI (lv_cons lv_pI (lv_one lv_pI)))) (eqP_cons rfl eq_pI (eqP_cons rfl eq_pI (eqP_cons rfl eq_pI (eqP_one eq_pI)))))) rfl ?_
   rcases bt (decide (q8.lo.n = q9.lo.n) && (decide (q8.lo.d = q9.lo.d) && (decide (q8.hi.n = q9.hi.n) && decide (q8.hi.d = q9.hi.d)))) with h6 | h6
   ·skip
    refine sB h6 rfl (sC (AV [pI q0.lo.n, pI q0.lo.d, pI q0.hi.n, pI q0.hi.d]) en_61 (skewbacklaw05_of_ret (wl 1) (wl 2)) rfl rfl (by rw [hq0]; first | done | rfl) ?_)
    refine sC (AV [pI q10.lo.n, pI q10.lo.d, pI q10.hi.n, pI q10.hi.d]) en_61 (skewbacklaw05_of_ret (wl 4) (wl 8)) rfl rfl (by rw [hq10]; first | done | rfl) ?_
    refine sC (AV [pI q11.lo.n, pI q11.lo.d, pI q11.hi.n, pI q11.hi.d]) en_35 (interval_Div_ret q0 q10) rfl rfl (by rw [hq11]; first | done | rfl) (sC (AV [pI q12.lo.n, pI q12.lo.d, pI q12.hi.n, pI q12.hi.d]) en_62 (skewbacklaw05_between_ret (wl 1) (wl 8) (wl 1) (wl 2)) rfl rfl (by rw [hq12]; first | done | rfl) ?_)
    refine sQ (q_eqla (r := (decide (q11.lo.n = q12.lo.n) && (decide (q11.lo.d = q12.lo.d) && (decide (q11.hi.n = q12.hi.n) && decide (q11.hi.d = q12.hi.d))))) rfl rfl (eqOk_of 8 (by decide) eg_31 lw_31 (lv_cons lv_pI (lv_cons lv_pI (lv_cons lv_pI (lv_one lv_pI)))) (lv_cons lv_pI (lv_cons lv_pI (lv_cons lv_pI (lv_one lv_pI)))) (eqP_cons rfl eq_pI (eqP_cons rfl eq_pI (eqP_cons rfl eq_pI (eqP_one eq_pI)))))) rfl (sE rfl ?_)
    rcases bt (decide (q11.lo.n = q12.lo.n) && (decide (q11.lo.d = q12.lo.d) && (decide (q11.hi.n = q12.hi.n) && decide (q11.hi.d = q12.hi.d)))) with h7 | h7
    ·skip
     refine sB h7 rfl (sC (AV [pI q0.lo.n, pI q0.lo.d, pI q0.hi.n, pI q0.hi.d]) en_61 (skewbacklaw05_of_ret (wl 1) (wl 2)) rfl rfl (by rw [hq0]; first | done | rfl) ?_)
     refine sC (AV [pI q13.lo.n, pI q13.lo.d, pI q13.hi.n, pI q13.hi.d]) en_61 (skewbacklaw05_of_ret (wl (-1)) (wl 1)) rfl rfl (by rw [hq13]; first | done | rfl) ?_
     refine sC (AV [pI q14.lo.n, pI q14.lo.d, pI q14.hi.n, pI q14.hi.d]) en_35 (interval_Div_ret q0 q13) rfl rfl (by rw [hq14]; first | done | rfl) (sC (.bool q15) en_15 (interval_IsBad_ret q14) rfl rfl (by rw [hq15]; first | done | rfl) (sE rfl (sE rfl (nl J ?_))))
     refine J2 _ _ (by repeat first | exact .refl | refine .cons rfl ?_) ⟨_, s0, ?s2, rfl⟩
     case s2 => exact congrArg Value.bool (and_t h6 (and_t h7 rfl))
    ·skip
     refine sB h7 rfl (WL_n rfl (WL_n rfl (WL_n rfl (WL_n rfl (sE rfl (sE rfl (nl J ?_)))))))
     refine J2 _ _ (by repeat first | exact .refl | refine .cons rfl ?_) ⟨_, s0, ?s2, rfl⟩
     case s2 => exact congrArg Value.bool (and_t h6 (and_f h7))
   ·skip
    refine sB h6 rfl (WL_n rfl (WL_n rfl (WL_n rfl (WL_n rfl (WL_n rfl (sE rfl (sE rfl (WL_n rfl (WL_n rfl (WL_n rfl (WL_n rfl (sE rfl (sE rfl (nl J ?_))))))))))))))
    refine J2 _ _ (by repeat first | exact .refl | refine .cons rfl ?_) ⟨_, s0, ?s2, rfl⟩
    case s2 => exact congrArg Value.bool (and_f h6)
  ·skip
   rintro g8 M ⟨hg2, rfl⟩
   simp only [setG, hg2]
   clear hg2
   refine W_join [3, 42, 43, 44, 45, 46, 47, 48, 49, 50, 51, 52, 53, 54, 55, 56, 57] (fun g M => (g 3 = .bool ((decide (q17.lo.n = q18.lo.n) && (decide (q17.lo.d = q18.lo.d) && (decide (q17.hi.n = q18.hi.n) && decide (q17.hi.d = q18.hi.d)))) && ((decide (q19.lo.n = q20.lo.n) && (decide (q19.lo.d = q20.lo.d) && (decide (q19.hi.n = q20.hi.n) && decide (q19.hi.d = q20.hi.d)))) && (decide (q21.lo.n = q22.lo.n) && (decide (q21.lo.d = q22.lo.d) && (decide (q21.hi.n = q22.hi.n) && decide (q21.hi.d = q22.hi.d))))))) ∧ M = []) (fun K3 J3 => ?_) ?_
   ·skip
    refine Rk fun K J => sC (AV [pI q16.lo.n, pI q16.lo.d, pI q16.hi.n, pI q16.hi.d]) en_61 (skewbacklaw05_of_ret (wl (-3)) (wl 2)) rfl rfl (by rw [hq16]; first | done | rfl) ?_
    refine sC (AV [pI q17.lo.n, pI q17.lo.d, pI q17.hi.n, pI q17.hi.d]) en_32 (interval_Abs_ret q16) rfl rfl (by rw [hq17]; first | done | rfl) (sC (AV [pI q18.lo.n, pI q18.lo.d, pI q18.hi.n, pI q18.hi.d]) en_62 (skewbacklaw05_between_ret (wl 0) (wl 1) (wl 3) (wl 1)) rfl rfl (by rw [hq18]; first | done | rfl) ?_)
    refine sQ (q_eqla (r := (decide (q17.lo.n = q18.lo.n) && (decide (q17.lo.d = q18.lo.d) && (decide (q17.hi.n = q18.hi.n) && decide (q17.hi.d = q18.hi.d))))) rfl rfl (eqOk_of 8 (by decide) eg_31 lw_31 (lv_cons lv_pI (lv_cons lv_pI (lv_cons lv_pI (lv_one lv_pI)))) (lv_cons lv_pI (lv_cons lv_pI (lv_cons lv_pI (lv_one lv_pI)))) (eqP_cons rfl eq_pI (eqP_cons rfl eq_pI (eqP_cons rfl eq_pI (eqP_one eq_pI)))))) rfl ?_
    rcases bt (decide (q17.lo.n = q18.lo.n) && (decide (q17.lo.d = q18.lo.d) && (decide (q17.hi.n = q18.hi.n) && decide (q17.hi.d = q18.hi.d)))) with h11 | h11
    ·skip
     refine sB h11 rfl (sC (AV [pI q16.lo.n, pI q16.lo.d, pI q16.hi.n, pI q16.hi.d]) en_61 (skewbacklaw05_of_ret (wl (-3)) (wl 2)) rfl rfl (by rw [hq16]; first | done | rfl) ?_)
     refine sC (AV [pI q19.lo.n, pI q19.lo.d, pI q19.hi.n, pI q19.hi.d]) en_33 (interval_Power_ret q16 (wl 2)) rfl rfl (by rw [hq19]; first | done | rfl) ?_
     refine sC (AV [pI q20.lo.n, pI q20.lo.d, pI q20.hi.n, pI q20.hi.d]) en_62 (skewbacklaw05_between_ret (wl 0) (wl 1) (wl 9) (wl 1)) rfl rfl (by rw [hq20]; first | done | rfl) ?_
     refine sQ (q_eqla (r := (decide (q19.lo.n = q20.lo.n) && (decide (q19.lo.d = q20.lo.d) && (decide (q19.hi.n = q20.hi.n) && decide (q19.hi.d = q20.hi.d))))) rfl rfl (eqOk_of 8 (by decide) eg_31 lw_31 (lv_cons lv_pI (lv_cons lv_pI (lv_cons lv_pI (lv_one lv_pI)))) (lv_cons lv_pI (lv_cons lv_pI (lv_cons lv_pI (lv_one lv_pI)))) (eqP_cons rfl eq_pI (eqP_cons rfl eq_pI (eqP_cons rfl eq_pI (eqP_one eq_pI)))))) rfl (sE rfl ?_)
     rcases bt (decide (q19.lo.n = q20.lo.n) && (decide (q19.lo.d = q20.lo.d) && (decide (q19.hi.n = q20.hi.n) && decide (q19.hi.d = q20.hi.d)))) with h12 | h12
     ·skip
      refine sB h12 rfl (sC (AV [pI q16.lo.n, pI q16.lo.d, pI q16.hi.n, pI q16.hi.d]) en_61 (skewbacklaw05_of_ret (wl (-3)) (wl 2)) rfl rfl (by rw [hq16]; first | done | rfl) ?_)
      refine sC (AV [pI q21.lo.n, pI q21.lo.d, pI q21.hi.n, pI q21.hi.d]) en_33 (interval_Power_ret q16 (wl 3)) rfl rfl (by rw [hq21]; first | done | rfl) ?_
      refine sC (AV [pI q22.lo.n, pI q22.lo.d, pI q22.hi.n, pI q22.hi.d]) en_62 (skewbacklaw05_between_ret (wl (-27)) (wl 1) (wl 8) (wl 1)) rfl rfl (by rw [hq22]; first | done | rfl) ?_
      refine sQ (q_eqla (r := (decide (q21.lo.n = q22.lo.n) && (decide (q21.lo.d = q22.lo.d) && (decide (q21.hi.n = q22.hi.n) && decide (q21.hi.d = q22.hi.d))))) rfl rfl (eqOk_of 8 (by decide) eg_31 lw_31 (lv_cons lv_pI (lv_cons lv_pI (lv_cons lv_pI (lv_one lv_pI)))) (lv_cons lv_pI (lv_cons lv_pI (lv_cons lv_pI (lv_one lv_pI)))) (eqP_cons rfl eq_pI (eqP_cons rfl eq_pI (eqP_cons rfl eq_pI (eqP_one eq_pI)))))) rfl (sE rfl (sE rfl (nl J ?_)))
      refine J3 _ _ (by repeat first | exact .refl | refine .cons rfl ?_) ⟨_, s0, ?s3, rfl⟩
      case s3 => exact congrArg Value.bool (and_t h11 (and_t h12 rfl))
     ·skip
      refine sB h12 rfl (WL_n rfl (WL_n rfl (WL_n rfl (WL_n rfl (sE rfl (sE rfl (nl J ?_)))))))
      refine J3 _ _ (by repeat first | exact .refl | refine .cons rfl ?_) ⟨_, s0, ?s3, rfl⟩
      case s3 => exact congrArg Value.bool (and_t h11 (and_f h12))
    ·skip
     refine sB h11 rfl (WL_n rfl (WL_n rfl (WL_n rfl (WL_n rfl (sE rfl (sE rfl (WL_n rfl (WL_n rfl (WL_n rfl (WL_n rfl (sE rfl (sE rfl (nl J ?_)))))))))))))
     refine J3 _ _ (by repeat first | exact .refl | refine .cons rfl ?_) ⟨_, s0, ?s3, rfl⟩
     case s3 => exact congrArg Value.bool (and_f h11)
   ·skip
    rintro g13 M ⟨hg3, rfl⟩
    simp only [setG, hg3]
    clear hg3
    refine Rs fun K J => sC (AV [pI q23.lo.n, pI q23.lo.d, pI q23.hi.n, pI q23.hi.d]) en_61 (skewbacklaw05_of_ret (wl 0) (wl 3)) rfl rfl (by rw [hq23]; first | done | rfl) ?_
    refine sC (AV [pI q24.lo.n, pI q24.lo.d, pI q24.hi.n, pI q24.hi.d]) en_61 (skewbacklaw05_of_ret (wl 2) (wl 5)) rfl rfl (by rw [hq24]; first | done | rfl) ?_
    refine sC (.tuple #[AV [pI q25.lo.n, pI q25.lo.d, pI q25.hi.n, pI q25.hi.d], .bool q26]) en_19 (interval_Meet_ret q23 q24) rfl rfl (by rw [hq25, hq26]; first | done | rfl) (sE rfl (sE rfl (sE rfl (sN zp_31 rfl fun b14 hb14 => sS [pI q25.lo.n, pI q25.lo.d, pI q25.hi.n, pI q25.hi.d] ty_31 rfl rfl rfl rfl rfl (.head _) rfl hb14 (sE rfl (nl J (Rs fun K J => sC (AV [pI q27.lo.n, pI q27.lo.d, pI q27.hi.n, pI q27.hi.d]) en_61 (skewbacklaw05_of_ret (wl 0) (wl 1)) rfl rfl (by rw [hq27]; first | done | rfl) ?_)))))))
    refine sC (AV [pI q28.lo.n, pI q28.lo.d, pI q28.hi.n, pI q28.hi.d]) en_61 (skewbacklaw05_of_ret (wl 2) (wl 3)) rfl rfl (by rw [hq28]; first | done | rfl) ?_
    refine sC (.tuple #[AV [pI q29.lo.n, pI q29.lo.d, pI q29.hi.n, pI q29.hi.d], .bool q30]) en_19 (interval_Meet_ret q27 q28) rfl rfl (by rw [hq29, hq30]; first | done | rfl) (sE rfl (sE rfl (sE rfl (sN zp_31 rfl fun b15 hb15 => sS [pI q29.lo.n, pI q29.lo.d, pI q29.hi.n, pI q29.hi.d] ty_31 rfl rfl rfl rfl rfl (.head _) rfl hb15 (sE rfl (nl J ?_))))))
    refine W_join [8, 70, 71, 72, 73, 74, 75, 76, 77, 78, 79, 80, 81, 82, 83, 84, 85, 86, 87] (fun g M => (g 8 = .bool ((decide (q32.lo.n = q33.lo.n) && (decide (q32.lo.d = q33.lo.d) && (decide (q32.hi.n = q33.hi.n) && decide (q32.hi.d = q33.hi.d)))) && ((decide (q25.lo.n = q34.lo.n) && (decide (q25.lo.d = q34.lo.d) && (decide (q25.hi.n = q34.hi.n) && decide (q25.hi.d = q34.hi.d)))) && (q26 && (!q30))))) ∧ M = [⟨b15, 31, flat [pI q29.lo.n, pI q29.lo.d, pI q29.hi.n, pI q29.hi.d]⟩, ⟨b14, 31, flat [pI q25.lo.n, pI q25.lo.d, pI q25.hi.n, pI q25.hi.d]⟩]) (fun K4 J4 => ?_) ?_
    ·skip
     refine dr (sk (sk (s0))) [0,4,9,12,16,20,24,28,32,36,40,44,48,52,56,60,64,68,72] [] mix (by kernel_rfl) (fun K J => pC (AV [pI q27.lo.n, pI q27.lo.d, pI q27.hi.n, pI q27.hi.d]) en_61 (skewbacklaw05_of_ret (wl 0) (wl 1)) rfl rfl (by rw [hq27]; first | done | rfl) ?_)
     refine pC (AV [pI q31.lo.n, pI q31.lo.d, pI q31.hi.n, pI q31.hi.d]) en_61 (skewbacklaw05_of_ret (wl 3) (wl 4)) rfl rfl (by rw [hq31]; first | done | rfl) ?_
     refine PL_o rfl rfl (r_bsliceA [[pI q27.lo.n, pI q27.lo.d, pI q27.hi.n, pI q27.hi.d], [pI q31.lo.n, pI q31.lo.d, pI q31.hi.n, pI q31.hi.d]] [pI q27.lo.n, pI q27.lo.d, pI q27.hi.n, pI q27.hi.d, pI q31.lo.n, pI q31.lo.d, pI q31.hi.n, pI q31.hi.d] us_22 z_31 sz_31 rfl (by decide) rfl rfl ⟨rfl, rfl, rfl, rfl, rfl, rfl, trivial⟩ rfl (fun b21 hb21 => ⟨(fun _ => sd s0), (sd s0), pQ rfl (q_as (v' := AV [pI q32.lo.n, pI q32.lo.d, pI q32.hi.n, pI q32.hi.d]) (q_call en_25 rfl (fun w hw => interval_Hull_ret _ ([q27, q31]) w (SLe.ap hw (SLe.lit (e := elIv) (l := [q27, q31]) m0 rfl (Nat.le_of_ble_eq_true rfl) rfl)))) (by rw [hq32]; first | done | rfl)) (pC (AV [pI q33.lo.n, pI q33.lo.d, pI q33.hi.n, pI q33.hi.d]) en_62 (skewbacklaw05_between_ret (wl 0) (wl 1) (wl 4) (wl 1)) rfl rfl (by rw [hq33]; first | done | rfl) ?_)⟩))
     refine pQ rfl (q_eqla (r := (decide (q32.lo.n = q33.lo.n) && (decide (q32.lo.d = q33.lo.d) && (decide (q32.hi.n = q33.hi.n) && decide (q32.hi.d = q33.hi.d))))) rfl rfl (eqOk_of 8 (by decide) eg_31 lw_31 (lv_cons lv_pI (lv_cons lv_pI (lv_cons lv_pI (lv_one lv_pI)))) (lv_cons lv_pI (lv_cons lv_pI (lv_cons lv_pI (lv_one lv_pI)))) (eqP_cons rfl eq_pI (eqP_cons rfl eq_pI (eqP_cons rfl eq_pI (eqP_one eq_pI)))))) ?_
     rcases bt (decide (q32.lo.n = q33.lo.n) && (decide (q32.lo.d = q33.lo.d) && (decide (q32.hi.n = q33.hi.n) && decide (q32.hi.d = q33.hi.d)))) with h22 | h22
     ·skip
      refine pB h22 rfl (pQ rfl (qL ty_31 rfl m2 rfl) (pC (AV [pI q34.lo.n, pI q34.lo.d, pI q34.hi.n, pI q34.hi.d]) en_62 (skewbacklaw05_between_ret (wl 2) (wl 1) (wl 3) (wl 1)) rfl rfl (by rw [hq34]; first | done | rfl) ?_))
      refine pQ rfl (q_eqla (r := (decide (q25.lo.n = q34.lo.n) && (decide (q25.lo.d = q34.lo.d) && (decide (q25.hi.n = q34.hi.n) && decide (q25.hi.d = q34.hi.d))))) rfl rfl (eqOk_of 8 (by decide) eg_31 lw_31 (lv_cons lv_pI (lv_cons lv_pI (lv_cons lv_pI (lv_one lv_pI)))) (lv_cons lv_pI (lv_cons lv_pI (lv_cons lv_pI (lv_one lv_pI)))) (eqP_cons rfl eq_pI (eqP_cons rfl eq_pI (eqP_cons rfl eq_pI (eqP_one eq_pI)))))) (pE rfl ?_)
      rcases bt (decide (q25.lo.n = q34.lo.n) && (decide (q25.lo.d = q34.lo.d) && (decide (q25.hi.n = q34.hi.n) && decide (q25.hi.d = q34.hi.d)))) with h23 | h23
      ·skip
       refine pB h23 rfl (pE rfl (pE rfl ?_))
       rcases bt q26 with h24 | h24
       ·skip
        refine pB h24 rfl (pE rfl (pE rfl (pE rfl (pE rfl (fl J ?_)))))
        refine J4 _ _ (by repeat first | exact .refl | refine .cons rfl ?_) ⟨_, (sd (s0)), ?s8, rfl⟩
        case s8 => exact congrArg Value.bool (and_t h22 (and_t h23 (and_t h24 rfl)))
       ·skip
        refine pB h24 rfl (PL_n rfl rfl (PL_n rfl rfl (pE rfl (pE rfl (fl J ?_)))))
        refine J4 _ _ (by repeat first | exact .refl | refine .cons rfl ?_) ⟨_, (sd (s0)), ?s8, rfl⟩
        case s8 => exact congrArg Value.bool (and_t h22 (and_t h23 (and_f h24)))
      ·skip
       refine pB h23 rfl (PL_n rfl rfl (pE rfl (pE rfl (PL_n rfl rfl (PL_n rfl rfl (pE rfl (pE rfl (fl J ?_))))))))
       refine J4 _ _ (by repeat first | exact .refl | refine .cons rfl ?_) ⟨_, (sd (s0)), ?s8, rfl⟩
       case s8 => exact congrArg Value.bool (and_t h22 (and_f h23))
     ·skip
      refine pB h22 rfl (PL_n rfl rfl (PL_n rfl rfl (PL_n rfl rfl (pE rfl (pE rfl (PL_n rfl rfl (pE rfl (pE rfl (PL_n rfl rfl (PL_n rfl rfl (pE rfl (pE rfl (fl J ?_)))))))))))))
      refine J4 _ _ (by repeat first | exact .refl | refine .cons rfl ?_) ⟨_, (sd (s0)), ?s8, rfl⟩
      case s8 => exact congrArg Value.bool (and_f h22)
    ·skip
     rintro g25 M ⟨hg8, rfl⟩
     simp only [setG, hg8]
     clear hg8
     refine Rs fun K J => sC (AV [pI q27.lo.n, pI q27.lo.d, pI q27.hi.n, pI q27.hi.d]) en_61 (skewbacklaw05_of_ret (wl 0) (wl 1)) rfl rfl (by rw [hq27]; first | done | rfl) ?_
     refine sC (.tuple #[AV [pI q35.lo.n, pI q35.lo.d, pI q35.hi.n, pI q35.hi.d], AV [pI q36.lo.n, pI q36.lo.d, pI q36.hi.n, pI q36.hi.d]]) en_51 (interval_Split_ret q27) rfl rfl (by rw [hq35, hq36]; first | done | rfl) (sE rfl (sE rfl (sE rfl (sN zp_31 rfl fun b26 hb26 => sN zp_31 rfl fun b27 hb27 => sS [pI q35.lo.n, pI q35.lo.d, pI q35.hi.n, pI q35.hi.d] ty_31 rfl rfl rfl rfl rfl (.tail _ (.head _)) rfl hb26 (sS [pI q36.lo.n, pI q36.lo.d, pI q36.hi.n, pI q36.hi.d] ty_31 rfl rfl rfl rfl rfl (.head _) rfl hb27 (nl J ?_))))))
     refine W_join [11, 93, 94, 95, 96, 97, 98, 99, 100, 101, 102, 103, 104, 105, 106, 107, 108] (fun g M => (g 11 = .bool ((decide (q40.lo.n = q41.lo.n) && (decide (q40.lo.d = q41.lo.d) && (decide (q40.hi.n = q41.hi.n) && decide (q40.hi.d = q41.hi.d)))) && ((decide (q35.lo.n = q42.lo.n) && (decide (q35.lo.d = q42.lo.d) && (decide (q35.hi.n = q42.hi.n) && decide (q35.hi.d = q42.hi.d)))) && (decide (q36.lo.n = q43.lo.n) && (decide (q36.lo.d = q43.lo.d) && (decide (q36.hi.n = q43.hi.n) && decide (q36.hi.d = q43.hi.d))))))) ∧ M = [⟨b27, 31, flat [pI q36.lo.n, pI q36.lo.d, pI q36.hi.n, pI q36.hi.d]⟩, ⟨b26, 31, flat [pI q35.lo.n, pI q35.lo.d, pI q35.hi.n, pI q35.hi.d]⟩, ⟨b15, 31, flat [pI q29.lo.n, pI q29.lo.d, pI q29.hi.n, pI q29.hi.d]⟩, ⟨b14, 31, flat [pI q25.lo.n, pI q25.lo.d, pI q25.hi.n, pI q25.hi.d]⟩]) (fun K5 J5 => ?_) ?_
     ·skip
      refine dr (sk (sk (sk (sk (s0))))) [0,4,8,12,16,20,24,28,32,36,40,44,48,52,56,60,64] [] mix (by kernel_rfl) (fun K J => pC (AV [pI q37.n, pI q37.d]) en_58 (ratio_Frac_ret (wl 1) (wl 3)) rfl rfl (by rw [hq37]; first | done | rfl) ?_)
      refine pC (AV [pI q38.n, pI q38.d]) en_58 (ratio_Frac_ret (wl 2) (wl 5)) rfl rfl (by rw [hq38]; first | done | rfl) ?_
      refine pC (AV [pI q39.lo.n, pI q39.lo.d, pI q39.hi.n, pI q39.hi.d]) en_11 (interval_Make_ret q37 q38) rfl rfl (by rw [hq39]; first | done | rfl) (pC (AV [pI q40.lo.n, pI q40.lo.d, pI q40.hi.n, pI q40.hi.d]) en_34 (interval_Widen_ret q39 (wl 2)) rfl rfl (by rw [hq40]; first | done | rfl) ?_)
      refine pC (AV [pI q41.lo.n, pI q41.lo.d, pI q41.hi.n, pI q41.hi.d]) en_62 (skewbacklaw05_between_ret (wl 1) (wl 4) (wl 1) (wl 2)) rfl rfl (by rw [hq41]; first | done | rfl) ?_
      refine pQ rfl (q_eqla (r := (decide (q40.lo.n = q41.lo.n) && (decide (q40.lo.d = q41.lo.d) && (decide (q40.hi.n = q41.hi.n) && decide (q40.hi.d = q41.hi.d))))) rfl rfl (eqOk_of 8 (by decide) eg_31 lw_31 (lv_cons lv_pI (lv_cons lv_pI (lv_cons lv_pI (lv_one lv_pI)))) (lv_cons lv_pI (lv_cons lv_pI (lv_cons lv_pI (lv_one lv_pI)))) (eqP_cons rfl eq_pI (eqP_cons rfl eq_pI (eqP_cons rfl eq_pI (eqP_one eq_pI)))))) ?_
      rcases bt (decide (q40.lo.n = q41.lo.n) && (decide (q40.lo.d = q41.lo.d) && (decide (q40.hi.n = q41.hi.n) && decide (q40.hi.d = q41.hi.d)))) with h30 | h30
      ·skip
       refine pB h30 rfl (pQ rfl (qL ty_31 rfl m1 rfl) (pC (AV [pI q42.lo.n, pI q42.lo.d, pI q42.hi.n, pI q42.hi.d]) en_62 (skewbacklaw05_between_ret (wl 0) (wl 1) (wl 1) (wl 2)) rfl rfl (by rw [hq42]; first | done | rfl) ?_))
       refine pQ rfl (q_eqla (r := (decide (q35.lo.n = q42.lo.n) && (decide (q35.lo.d = q42.lo.d) && (decide (q35.hi.n = q42.hi.n) && decide (q35.hi.d = q42.hi.d))))) rfl rfl (eqOk_of 8 (by decide) eg_31 lw_31 (lv_cons lv_pI (lv_cons lv_pI (lv_cons lv_pI (lv_one lv_pI)))) (lv_cons lv_pI (lv_cons lv_pI (lv_cons lv_pI (lv_one lv_pI)))) (eqP_cons rfl eq_pI (eqP_cons rfl eq_pI (eqP_cons rfl eq_pI (eqP_one eq_pI)))))) (pE rfl ?_)
       rcases bt (decide (q35.lo.n = q42.lo.n) && (decide (q35.lo.d = q42.lo.d) && (decide (q35.hi.n = q42.hi.n) && decide (q35.hi.d = q42.hi.d)))) with h31 | h31
       ·skip
        refine pB h31 rfl (pQ rfl (qL ty_31 rfl m0 rfl) (pC (AV [pI q43.lo.n, pI q43.lo.d, pI q43.hi.n, pI q43.hi.d]) en_62 (skewbacklaw05_between_ret (wl 1) (wl 2) (wl 1) (wl 1)) rfl rfl (by rw [hq43]; first | done | rfl) ?_))
        refine pQ rfl (q_eqla (r := (decide (q36.lo.n = q43.lo.n) && (decide (q36.lo.d = q43.lo.d) && (decide (q36.hi.n = q43.hi.n) && decide (q36.hi.d = q43.hi.d))))) rfl rfl (eqOk_of 8 (by decide) eg_31 lw_31 (lv_cons lv_pI (lv_cons lv_pI (lv_cons lv_pI (lv_one lv_pI)))) (lv_cons lv_pI (lv_cons lv_pI (lv_cons lv_pI (lv_one lv_pI)))) (eqP_cons rfl eq_pI (eqP_cons rfl eq_pI (eqP_cons rfl eq_pI (eqP_one eq_pI)))))) (pE rfl (pE rfl (fl J ?_)))
        refine J5 _ _ (by repeat first | exact .refl | refine .cons rfl ?_) ⟨_, s0, ?s11, rfl⟩
        case s11 => exact congrArg Value.bool (and_t h30 (and_t h31 rfl))
       ·skip
        refine pB h31 rfl (PL_n rfl rfl (PL_n rfl rfl (PL_n rfl rfl (pE rfl (pE rfl (fl J ?_))))))
        refine J5 _ _ (by repeat first | exact .refl | refine .cons rfl ?_) ⟨_, s0, ?s11, rfl⟩
        case s11 => exact congrArg Value.bool (and_t h30 (and_f h31))
      ·skip
       refine pB h30 rfl (PL_n rfl rfl (PL_n rfl rfl (PL_n rfl rfl (pE rfl (pE rfl (PL_n rfl rfl (PL_n rfl rfl (PL_n rfl rfl (pE rfl (pE rfl (fl J ?_)))))))))))
       refine J5 _ _ (by repeat first | exact .refl | refine .cons rfl ?_) ⟨_, s0, ?s11, rfl⟩
       case s11 => exact congrArg Value.bool (and_f h30)
     ·skip
      rintro g32 M ⟨hg11, rfl⟩
      simp only [setG, hg11]
      clear hg11
      refine W_join [0, 109, 110, 111, 112, 113, 114, 115, 116, 117, 118, 119, 120, 121, 122, 123, 124, 125, 126] (fun g M => (g 0 = .bool (((decide (q2.lo.n = q3.lo.n) && (decide (q2.lo.d = q3.lo.d) && (decide (q2.hi.n = q3.hi.n) && decide (q2.hi.d = q3.hi.d)))) && (decide (q4.lo.n = q5.lo.n) && (decide (q4.lo.d = q5.lo.d) && (decide (q4.hi.n = q5.hi.n) && decide (q4.hi.d = q5.hi.d))))) && (((decide (q8.lo.n = q9.lo.n) && (decide (q8.lo.d = q9.lo.d) && (decide (q8.hi.n = q9.hi.n) && decide (q8.hi.d = q9.hi.d)))) && ((decide (q11.lo.n = q12.lo.n) && (decide (q11.lo.d = q12.lo.d) && (decide (q11.hi.n = q12.hi.n) && decide (q11.hi.d = q12.hi.d)))) && q15)) && (((decide (q17.lo.n = q18.lo.n) && (decide (q17.lo.d = q18.lo.d) && (decide (q17.hi.n = q18.hi.n) && decide (q17.hi.d = q18.hi.d)))) && ((decide (q19.lo.n = q20.lo.n) && (decide (q19.lo.d = q20.lo.d) && (decide (q19.hi.n = q20.hi.n) && decide (q19.hi.d = q20.hi.d)))) && (decide (q21.lo.n = q22.lo.n) && (decide (q21.lo.d = q22.lo.d) && (decide (q21.hi.n = q22.hi.n) && decide (q21.hi.d = q22.hi.d)))))) && (((decide (q32.lo.n = q33.lo.n) && (decide (q32.lo.d = q33.lo.d) && (decide (q32.hi.n = q33.hi.n) && decide (q32.hi.d = q33.hi.d)))) && ((decide (q25.lo.n = q34.lo.n) && (decide (q25.lo.d = q34.lo.d) && (decide (q25.hi.n = q34.hi.n) && decide (q25.hi.d = q34.hi.d)))) && (q26 && (!q30)))) && (((decide (q40.lo.n = q41.lo.n) && (decide (q40.lo.d = q41.lo.d) && (decide (q40.hi.n = q41.hi.n) && decide (q40.hi.d = q41.hi.d)))) && ((decide (q35.lo.n = q42.lo.n) && (decide (q35.lo.d = q42.lo.d) && (decide (q35.hi.n = q42.hi.n) && decide (q35.hi.d = q42.hi.d)))) && (decide (q36.lo.n = q43.lo.n) && (decide (q36.lo.d = q43.lo.d) && (decide (q36.hi.n = q43.hi.n) && decide (q36.hi.d = q43.hi.d)))))) && (decide (q44.lo.n = q45.lo.n) && (decide (q44.lo.d = q45.lo.d) && (decide (q44.hi.n = q45.hi.n) && decide (q44.hi.d = q45.hi.d)))))))))) ∧ M = [⟨b27, 31, flat [pI q36.lo.n, pI q36.lo.d, pI q36.hi.n, pI q36.hi.d]⟩, ⟨b26, 31, flat [pI q35.lo.n, pI q35.lo.d, pI q35.hi.n, pI q35.hi.d]⟩, ⟨b15, 31, flat [pI q29.lo.n, pI q29.lo.d, pI q29.hi.n, pI q29.hi.d]⟩, ⟨b14, 31, flat [pI q25.lo.n, pI q25.lo.d, pI q25.hi.n, pI q25.hi.d]⟩]) (fun K6 J6 => ?_) ?_
      ·skip
       refine Rk fun K J => sE rfl ?_
       rcases bt ((decide (q2.lo.n = q3.lo.n) && (decide (q2.lo.d = q3.lo.d) && (decide (q2.hi.n = q3.hi.n) && decide (q2.hi.d = q3.hi.d)))) && (decide (q4.lo.n = q5.lo.n) && (decide (q4.lo.d = q5.lo.d) && (decide (q4.hi.n = q5.hi.n) && decide (q4.hi.d = q5.hi.d))))) with h38 | h38
       ·skip
        refine sB h38 rfl (sE rfl (sE rfl ?_))
        rcases bt ((decide (q8.lo.n = q9.lo.n) && (decide (q8.lo.d = q9.lo.d) && (decide (q8.hi.n = q9.hi.n) && decide (q8.hi.d = q9.hi.d)))) && ((decide (q11.lo.n = q12.lo.n) && (decide (q11.lo.d = q12.lo.d) && (decide (q11.hi.n = q12.hi.n) && decide (q11.hi.d = q12.hi.d)))) && q15)) with h39 | h39
        ·skip
         refine sB h39 rfl (sE rfl (sE rfl ?_))
         rcases bt ((decide (q17.lo.n = q18.lo.n) && (decide (q17.lo.d = q18.lo.d) && (decide (q17.hi.n = q18.hi.n) && decide (q17.hi.d = q18.hi.d)))) && ((decide (q19.lo.n = q20.lo.n) && (decide (q19.lo.d = q20.lo.d) && (decide (q19.hi.n = q20.hi.n) && decide (q19.hi.d = q20.hi.d)))) && (decide (q21.lo.n = q22.lo.n) && (decide (q21.lo.d = q22.lo.d) && (decide (q21.hi.n = q22.hi.n) && decide (q21.hi.d = q22.hi.d)))))) with h40 | h40
         ·skip
          refine sB h40 rfl (sE rfl (sE rfl ?_))
          rcases bt ((decide (q32.lo.n = q33.lo.n) && (decide (q32.lo.d = q33.lo.d) && (decide (q32.hi.n = q33.hi.n) && decide (q32.hi.d = q33.hi.d)))) && ((decide (q25.lo.n = q34.lo.n) && (decide (q25.lo.d = q34.lo.d) && (decide (q25.hi.n = q34.hi.n) && decide (q25.hi.d = q34.hi.d)))) && (q26 && (!q30)))) with h41 | h41
          ·skip
           refine sB h41 rfl (sE rfl (sE rfl ?_))
           rcases bt ((decide (q40.lo.n = q41.lo.n) && (decide (q40.lo.d = q41.lo.d) && (decide (q40.hi.n = q41.hi.n) && decide (q40.hi.d = q41.hi.d)))) && ((decide (q35.lo.n = q42.lo.n) && (decide (q35.lo.d = q42.lo.d) && (decide (q35.hi.n = q42.hi.n) && decide (q35.hi.d = q42.hi.d)))) && (decide (q36.lo.n = q43.lo.n) && (decide (q36.lo.d = q43.lo.d) && (decide (q36.hi.n = q43.hi.n) && decide (q36.hi.d = q43.hi.d)))))) with h42 | h42
           ·skip
            refine sB h42 rfl (sC (AV [pI q44.lo.n, pI q44.lo.d, pI q44.hi.n, pI q44.hi.d]) en_63 interval_Bad_ret rfl rfl (by rw [hq44]; first | done | rfl) (sC (AV [pI q45.lo.n, pI q45.lo.d, pI q45.hi.n, pI q45.hi.d]) en_64 skewbackref05_Bad_ret rfl rfl (by rw [hq45]; first | done | rfl) ?_))
            refine sQ (q_eqla (r := (decide (q44.lo.n = q45.lo.n) && (decide (q44.lo.d = q45.lo.d) && (decide (q44.hi.n = q45.hi.n) && decide (q44.hi.d = q45.hi.d))))) rfl rfl (eqOk_of 8 (by decide) eg_31 lw_31 (lv_cons lv_pI (lv_cons lv_pI (lv_cons lv_pI (lv_one lv_pI)))) (lv_cons lv_pI (lv_cons lv_pI (lv_cons lv_pI (lv_one lv_pI)))) (eqP_cons rfl eq_pI (eqP_cons rfl eq_pI (eqP_cons rfl eq_pI (eqP_one eq_pI)))))) rfl (sE rfl (sE rfl (nl J ?_)))
            refine J6 _ _ (by repeat first | exact .refl | refine .cons rfl ?_) ⟨_, s0, ?s0, rfl⟩
            case s0 => exact congrArg Value.bool (and_t h38 (and_t h39 (and_t h40 (and_t h41 (and_t h42 rfl)))))
           ·skip
            refine sB h42 rfl (WL_n rfl (WL_n rfl (WL_n rfl (sE rfl (sE rfl (nl J ?_))))))
            refine J6 _ _ (by repeat first | exact .refl | refine .cons rfl ?_) ⟨_, s0, ?s0, rfl⟩
            case s0 => exact congrArg Value.bool (and_t h38 (and_t h39 (and_t h40 (and_t h41 (and_f h42)))))
          ·skip
           refine sB h41 rfl (WL_n rfl (sE rfl (sE rfl (WL_n rfl (WL_n rfl (WL_n rfl (sE rfl (sE rfl (nl J ?_)))))))))
           refine J6 _ _ (by repeat first | exact .refl | refine .cons rfl ?_) ⟨_, s0, ?s0, rfl⟩
           case s0 => exact congrArg Value.bool (and_t h38 (and_t h39 (and_t h40 (and_f h41))))
         ·skip
          refine sB h40 rfl (WL_n rfl (sE rfl (sE rfl (WL_n rfl (sE rfl (sE rfl (WL_n rfl (WL_n rfl (WL_n rfl (sE rfl (sE rfl (nl J ?_))))))))))))
          refine J6 _ _ (by repeat first | exact .refl | refine .cons rfl ?_) ⟨_, s0, ?s0, rfl⟩
          case s0 => exact congrArg Value.bool (and_t h38 (and_t h39 (and_f h40)))
        ·skip
         refine sB h39 rfl (WL_n rfl (sE rfl (sE rfl (WL_n rfl (sE rfl (sE rfl (WL_n rfl (sE rfl (sE rfl (WL_n rfl (WL_n rfl (WL_n rfl (sE rfl (sE rfl (nl J ?_)))))))))))))))
         refine J6 _ _ (by repeat first | exact .refl | refine .cons rfl ?_) ⟨_, s0, ?s0, rfl⟩
         case s0 => exact congrArg Value.bool (and_t h38 (and_f h39))
       ·skip
        refine sB h38 rfl (WL_n rfl (sE rfl (sE rfl (WL_n rfl (sE rfl (sE rfl (WL_n rfl (sE rfl (sE rfl (WL_n rfl (sE rfl (sE rfl (WL_n rfl (WL_n rfl (WL_n rfl (sE rfl (sE rfl (nl J ?_))))))))))))))))))
        refine J6 _ _ (by repeat first | exact .refl | refine .cons rfl ?_) ⟨_, s0, ?s0, rfl⟩
        case s0 => exact congrArg Value.bool (and_f h38)
      ·skip
       rintro g43 M ⟨hg0, rfl⟩
       simp only [setG, hg0]
       clear hg0
       refine W_ret (ret1 rfl (.inr rfl) rfl ?_)
       exact (by subst hq45; subst hq44; subst hq43; subst hq42; subst hq41; subst hq40; subst hq39; subst hq38; subst hq37; subst hq36; subst hq35; subst hq34; subst hq33; subst hq32; subst hq31; subst hq30; subst hq29; subst hq28; subst hq27; subst hq26; subst hq25; subst hq24; subst hq23; subst hq22; subst hq21; subst hq20; subst hq19; subst hq18; subst hq17; subst hq16; subst hq15; subst hq14; subst hq13; subst hq12; subst hq11; subst hq10; subst hq9; subst hq8; subst hq7; subst hq6; subst hq5; subst hq4; subst hq3; subst hq2; subst hq1; subst hq0; rfl)

theorem skewbacklaw05_few_ret (a : Rt) (b : W) :
    Ret Tryz.prog 53 [AV [pI a.n, pI a.d], .int .i64 b.1] (.bool (F_skewbacklaw05_few a b)) := by
 refine ret_of_W (N := 21) Tryz.func53 rfl rfl (by simp) (fun w0 => ?_)
 simp only [initF, Nat.reduceAdd]
 refine Rs fun K J => WL_r rfl (r_boxp rfl rfl (fun b1 hb1 => sE rfl (nl J ?_)))
 refine W_join [4, 5, 6, 7, 8, 9, 10, 11, 12, 13, 14, 15, 16, 17, 18, 19, 20] (fun g M => (g 4 = .bool ((F_skewbackref04_Good a) && (decide ((Z.bitsW a.n.dec).1 ≤ b.1) && decide ((Z.bitsW a.d.dec).1 ≤ b.1)))) ∧ M = [⟨b1, 28, flat [pI a.n, pI a.d]⟩]) (fun K1 J1 => ?_) ?_
 ·skip
  refine Rk fun K J => sQ (qL ty_28 rfl m0 rfl) rfl (sQ (q_ret en_66 (skewbackref04_Good_ret a) rfl) rfl ?_)
  rcases bt (F_skewbackref04_Good a) with h4 | h4
  ·skip
   refine sB h4 rfl (sQ (qF fd_28_0 rfl rfl) rfl (sQ (qL ty_26 rfl m0 rfl) rfl (sC (.int .i64 ((Z.bitsW a.n.dec).1)) en_94 (skewbackref03_Bits_ret a.n.1 a.n.2) rfl rfl rfl (sE rfl (sE rfl (sE rfl ?_))))))
   rcases bt (decide ((Z.bitsW a.n.dec).1 ≤ b.1)) with h5 | h5
   ·skip
    refine sB h5 rfl (sQ (qF fd_28_1 rfl rfl) rfl (sQ (qL ty_26 rfl m0 rfl) rfl (sC (.int .i64 ((Z.bitsW a.d.dec).1)) en_94 (skewbackref03_Bits_ret a.d.1 a.d.2) rfl rfl rfl (sE rfl (sE rfl (sE rfl (sE rfl (nl J ?_))))))))
    refine J1 _ _ (by repeat first | exact .refl | refine .cons rfl ?_) ⟨_, s0, ?s4, rfl⟩
    case s4 => exact congrArg Value.bool (and_t h4 (and_t h5 rfl))
   ·skip
    refine sB h5 rfl (WL_n rfl (WL_n rfl (WL_n rfl (WL_n rfl (WL_n rfl (sE rfl (sE rfl (nl J ?_))))))))
    refine J1 _ _ (by repeat first | exact .refl | refine .cons rfl ?_) ⟨_, s0, ?s4, rfl⟩
    case s4 => exact congrArg Value.bool (and_t h4 (and_f h5))
  ·skip
   refine sB h4 rfl (WL_n rfl (WL_n rfl (WL_n rfl (WL_n rfl (WL_n rfl (sE rfl (sE rfl (WL_n rfl (WL_n rfl (WL_n rfl (WL_n rfl (WL_n rfl (sE rfl (sE rfl (nl J ?_)))))))))))))))
   refine J1 _ _ (by repeat first | exact .refl | refine .cons rfl ?_) ⟨_, s0, ?s4, rfl⟩
   case s4 => exact congrArg Value.bool (and_f h4)
 ·skip
  rintro g6 M ⟨hg4, rfl⟩
  simp only [setG, hg4]
  clear hg4
  refine W_ret (ret1 rfl (.inr rfl) rfl ?_)
  exact (by rfl)

theorem skewbacklaw05_short_ret (a : Iv) (b : W) :
    Ret Tryz.prog 27 [AV [pI a.lo.n, pI a.lo.d, pI a.hi.n, pI a.hi.d], .int .i64 b.1] (.bool (F_skewbacklaw05_short a b)) := by
 refine ret_of_W (N := 20) Tryz.func27 rfl rfl (by simp) (fun w0 => ?_)
 simp only [initF, Nat.reduceAdd]
 refine Rs fun K J => WL_r rfl (r_boxp rfl rfl (fun b1 hb1 => sE rfl (nl J ?_)))
 refine W_join [4, 5, 6, 7, 8, 9, 10, 11, 12, 13, 14, 15, 16, 17, 18, 19] (fun g M => (g 4 = .bool (!(F_skewbackref05_IsBad a) && ((F_skewbacklaw05_few a.lo b) && (F_skewbacklaw05_few a.hi b)))) ∧ M = [⟨b1, 31, flat [pI a.lo.n, pI a.lo.d, pI a.hi.n, pI a.hi.d]⟩]) (fun K1 J1 => ?_) ?_
 ·skip
  refine Rk fun K J => sQ (qL ty_31 rfl m0 rfl) rfl (sQ (q_ret en_16 (skewbackref05_IsBad_ret a) rfl) rfl (sE rfl ?_))
  rcases bt (F_skewbackref05_IsBad a) with h4 | h4
  ·skip
   refine sB (not_f h4) rfl (WL_n rfl (WL_n rfl (WL_n rfl (WL_n rfl (sE rfl (sE rfl (WL_n rfl (WL_n rfl (WL_n rfl (WL_n rfl (sE rfl (sE rfl (nl J ?_)))))))))))))
   refine J1 _ _ (by repeat first | exact .refl | refine .cons rfl ?_) ⟨_, s0, ?s4, rfl⟩
   case s4 => exact congrArg Value.bool (nand_t h4)
  ·skip
   refine sB (not_t h4) rfl (sQ (qF fd_31_0 rfl rfl) rfl (sQ (qL ty_28 rfl m0 rfl) rfl (sE rfl (sQ (q_ret en_53 (skewbacklaw05_few_ret a.lo b) rfl) rfl (sE rfl ?_)))))
   rcases bt (F_skewbacklaw05_few a.lo b) with h5 | h5
   ·skip
    refine sB h5 rfl (sQ (qF fd_31_1 rfl rfl) rfl (sQ (qL ty_28 rfl m0 rfl) rfl (sE rfl (sQ (q_ret en_53 (skewbacklaw05_few_ret a.hi b) rfl) rfl (sE rfl (sE rfl (nl J ?_)))))))
    refine J1 _ _ (by repeat first | exact .refl | refine .cons rfl ?_) ⟨_, s0, ?s4, rfl⟩
    case s4 => exact congrArg Value.bool (nand_f h4 (and_t h5 rfl))
   ·skip
    refine sB h5 rfl (WL_n rfl (WL_n rfl (WL_n rfl (WL_n rfl (sE rfl (sE rfl (nl J ?_)))))))
    refine J1 _ _ (by repeat first | exact .refl | refine .cons rfl ?_) ⟨_, s0, ?s4, rfl⟩
    case s4 => exact congrArg Value.bool (nand_f h4 (and_f h5))
 ·skip
  rintro g6 M ⟨hg4, rfl⟩
  simp only [setG, hg4]
  clear hg4
  refine W_ret (ret1 rfl (.inr rfl) rfl ?_)
  exact (by rfl)

theorem skewbacklaw05_clamp_ret (a : Iv) (b : Rt) :
    Ret Tryz.prog 54 [AV [pI a.lo.n, pI a.lo.d, pI a.hi.n, pI a.hi.d], AV [pI b.n, pI b.d]] (AV [pI ((F_skewbacklaw05_clamp a b).n), pI ((F_skewbacklaw05_clamp a b).d)]) := by
 refine ret_of_W (N := 12) Tryz.func54 rfl rfl (by simp) (fun w0 => ?_)
 simp only [initF, Nat.reduceAdd]
 refine Rs fun K J => WL_r rfl (r_boxp rfl rfl (fun b1 hb1 => WL_r rfl (r_boxp rfl rfl (fun b2 hb2 => sN zp_28 rfl fun b3 hb3 => nl J (ds (sd (sk (sk (s0)))) [0,4,8,12,16,20,24,29] [7] mix (by kernel_rfl) (fun K J => pQ rfl (qF fd_31_0 rfl rfl) (pQ rfl (qL ty_28 rfl m2 rfl) (pQ rfl (qF fd_31_1 rfl rfl) (pQ rfl (qL ty_28 rfl m2 rfl) (pQ rfl (qL ty_28 rfl m1 rfl) (pQ rfl (q_ret en_70 (ratio_Min_ret a.hi b) rfl) ?_)))))))))))
 obtain ⟨r4, hr4⟩ := nm ((F_ratio_Max a.lo (F_ratio_Min a.hi b)) : Rt)
 refine pC (AV [pI r4.n, pI r4.d]) en_69 (ratio_Max_ret a.lo (F_ratio_Min a.hi b)) rfl rfl (by rw [hr4]; first | done | rfl) (oS [pI r4.n, pI r4.d] ty_28 rfl rfl rfl rfl rfl rfl (.head _) rfl hb3 rfl (sd s0) (fl J (W_ret (ret1 rfl (.inr rfl) (resP rfl m0 ty_28 rfl) ?_))))
 exact (by subst hr4; rfl)

theorem skewbacklaw05_attained_ret (a : Iv) (vl : Value) (l : (List Rt)) (w : World) (hl : Slr w elRt vl l) :
    Calls Tryz.prog 37 [AV [pI a.lo.n, pI a.lo.d, pI a.hi.n, pI a.hi.d], vl].toArray w (fun e w' => e = .returned (.bool (F_skewbacklaw05_attained a l)) ∧ Ext w w') := by
 refine callsq_of_W (N := 38) Tryz.func37 rfl rfl (by simp) ?_
 obtain ⟨w0, rfl⟩ : ∃ w0, w0 = w := ⟨_, rfl⟩
 have Hl := hl.old
 have hm_l := hl.max
 simp only [initF, Nat.reduceAdd]
 refine Rs fun K J => WL_r rfl (r_boxp rfl rfl (fun b1 hb1 => sE rfl (nl J (Rs fun K J => sE rfl (nl J (Rs fun K J => sE rfl (nl J (Sq fun K1 J1 => Rs fun K J => sE rfl (nl J ?_)))))))))
 refine W_join3 (fun S M h => J1 S M h) [5, 6, 7, 8, 9, 10, 11, 12, 13, 14, 15, 16, 17, 18, 19, 20, 21, 22, 23, 24, 25, 26, 27, 28, 29, 30, 31, 32, 33] (fun g M => ∃ (lo : Bool) (hi : Bool), (F_skewbacklaw05_attained_loop0 a l l false false) = (lo, hi) ∧ (g 5 = .bool lo ∧ g 6 = .bool hi) ∧ M = [⟨b1, 31, flat [pI a.lo.n, pI a.lo.d, pI a.hi.n, pI a.hi.d]⟩]) (fun K_u2 hK_u2 => ?_) ?_
 ·skip
  refine W_block ?_
  have hmx0 : (l).length ≤ 9223372036854775807 := hm_l
  refine W_loop_g [5, 6, 7, 8, 9, 10, 11, 12, 13, 14, 15, 16, 17, 18, 19, 20, 21, 22, 23, 24, 25, 26, 27, 28, 29, 30, 31, 32, 33] (fun g nn M => ∃ (i0 : Nat) (l0 : List Rt) (lo : Bool) (hi : Bool), (F_skewbacklaw05_attained_loop0 a l l0 lo hi) = (F_skewbacklaw05_attained_loop0 a l l false false) ∧ (l).drop i0 = l0 ∧ l0.length = nn ∧ g 7 = .int .i64 ((i0 : Nat) : Int) ∧ (g 5 = .bool lo ∧ g 6 = .bool hi) ∧ M = [⟨b1, 31, flat [pI a.lo.n, pI a.lo.d, pI a.hi.n, pI a.hi.d]⟩]) (l).length ?start ?round
  case start => exact ⟨_, s0, 0, l, false, false, rfl, rfl, rfl, rfl, ⟨rfl, rfl⟩, rfl⟩
  case round =>
   rintro nn g M ⟨i0, l0, lo, hi, hT0, hr0, rfl, hgi, ⟨hg5, hg6⟩, rfl⟩
   simp only [setG, hgi, hg5, hg6]
   clear hgi hg5 hg6
   refine Sq fun K6 J6 => Rs fun K J => sE rfl (sE rfl (sQ (q_as (v' := .int .i64 (((l).length : Nat) : Int)) (q_lenG (e := elRt) sl_53 rfl (SLe.sub Hl sn)) rfl) rfl (sE rfl (nl J ?_))))
   rcases l0 with _ | ⟨x0, l0⟩
   ·skip
    have h16 := dec_nil hr0
    refine W_f h16 rfl (W_exit (thenK_x (thenK_x (blockK_hit (hK_u2 _ _ (by repeat first | exact .refl | refine .cons rfl ?_) ⟨_, s0, lo, hi, (by exact hT0.symm.trans (Eq.symm (rfl))), ⟨rfl, rfl⟩, rfl⟩)))))
   ·skip
    have h17 := dec_cons hr0
    have g18 := drop_cons hr0
    refine W_t h17 rfl (W_skip (J6 _ _ ?_))
    refine W_join [5, 6, 14, 15, 16, 17, 18, 19, 20, 21, 22, 23, 24, 25, 26, 27, 28, 29, 30, 31, 32, 33] (fun g M => (g 5 = .bool (lo || (decide (a.lo.n = x0.n) && decide (a.lo.d = x0.d))) ∧ g 6 = .bool (hi || (decide (a.hi.n = x0.n) && decide (a.hi.d = x0.d)))) ∧ M = [⟨b1, 31, flat [pI a.lo.n, pI a.lo.d, pI a.hi.n, pI a.hi.d]⟩]) (fun K9 J9 => ?_) ?_
    ·skip
     refine W_block (ds (sk (s0)) [0,4,8,12,16,20,24,28,32,36,40] [] mix (by kernel_rfl) (fun K J => pE rfl ?_))
     rcases bt lo with h25 | h25
     ·skip
      refine pB h25 rfl (PL_n rfl rfl (PL_n rfl rfl (PL_n rfl rfl (PL_n rfl rfl (PL_n rfl rfl (PL_n rfl rfl (PL_n rfl rfl (pE rfl (pE rfl (fl J (dr (sk (s0)) [0,4,8,12,16,20,24,28,32,36,40] [] mix (by kernel_rfl) (fun K J => pE rfl ?_))))))))))))
      rcases bt hi with h26 | h26
      ·skip
       refine pB h26 rfl (PL_n rfl rfl (PL_n rfl rfl (PL_n rfl rfl (PL_n rfl rfl (PL_n rfl rfl (PL_n rfl rfl (PL_n rfl rfl (pE rfl (pE rfl (fl J ?_))))))))))
       refine J9 _ _ (by repeat first | exact .refl | refine .cons rfl ?_) ⟨_, s0, ⟨?s5, ?s6⟩, rfl⟩
       case s5 => exact congrArg Value.bool (or_t h25)
       case s6 => exact congrArg Value.bool (or_t h26)
      ·skip
       refine pB h26 rfl (pQ rfl (qF fd_31_1 rfl rfl) (pQ rfl (qL ty_28 rfl m0 rfl) (pE rfl (pE rfl (pQ rfl (q_as (v' := .pointer (some (slb vl (i0 * 36 + 0)))) (q_idxG (e := elRt) (l := l) (k := i0) sl_53 rfl rfl (SLe.sub Hl sn) g18.2.1) rfl) (pQ rfl (q_ldG (e := elRt) (l := l) (k := i0) (o := 0) ty_28 rfl (SLe.sub Hl sn) g18.1 rfl) ?_))))))
       refine pQ rfl (q_eqla (r := (decide (a.hi.n = x0.n) && decide (a.hi.d = x0.d))) rfl rfl (eqOk_of 8 (by decide) eg_28 lw_28 (lv_cons lv_pI (lv_one lv_pI)) (lv_cons lv_pI (lv_one lv_pI)) (eqP_cons rfl eq_pI (eqP_one eq_pI)))) (pE rfl (pE rfl (fl J ?_)))
       refine J9 _ _ (by repeat first | exact .refl | refine .cons rfl ?_) ⟨_, s0, ⟨?s5, ?s6⟩, rfl⟩
       case s5 => exact congrArg Value.bool (or_t h25)
       case s6 => exact congrArg Value.bool (or_f h26 rfl)
     ·skip
      refine pB h25 rfl (pQ rfl (qF fd_31_0 rfl rfl) (pQ rfl (qL ty_28 rfl m0 rfl) (pE rfl (pE rfl (pQ rfl (q_as (v' := .pointer (some (slb vl (i0 * 36 + 0)))) (q_idxG (e := elRt) (l := l) (k := i0) sl_53 rfl rfl (SLe.sub Hl sn) g18.2.1) rfl) (pQ rfl (q_ldG (e := elRt) (l := l) (k := i0) (o := 0) ty_28 rfl (SLe.sub Hl sn) g18.1 rfl) ?_))))))
      refine pQ rfl (q_eqla (r := (decide (a.lo.n = x0.n) && decide (a.lo.d = x0.d))) rfl rfl (eqOk_of 8 (by decide) eg_28 lw_28 (lv_cons lv_pI (lv_one lv_pI)) (lv_cons lv_pI (lv_one lv_pI)) (eqP_cons rfl eq_pI (eqP_one eq_pI)))) (pE rfl (pE rfl (fl J (dr (sk (s0)) [0,4,8,12,16,20,24,28,32,36,40] [] mix (by kernel_rfl) (fun K J => pE rfl ?_)))))
      rcases bt hi with h27 | h27
      ·skip
       refine pB h27 rfl (PL_n rfl rfl (PL_n rfl rfl (PL_n rfl rfl (PL_n rfl rfl (PL_n rfl rfl (PL_n rfl rfl (PL_n rfl rfl (pE rfl (pE rfl (fl J ?_))))))))))
       refine J9 _ _ (by repeat first | exact .refl | refine .cons rfl ?_) ⟨_, s0, ⟨?s5, ?s6⟩, rfl⟩
       case s5 => exact congrArg Value.bool (or_f h25 rfl)
       case s6 => exact congrArg Value.bool (or_t h27)
      ·skip
       refine pB h27 rfl (pQ rfl (qF fd_31_1 rfl rfl) (pQ rfl (qL ty_28 rfl m0 rfl) (pE rfl (pE rfl (pQ rfl (q_as (v' := .pointer (some (slb vl (i0 * 36 + 0)))) (q_idxG (e := elRt) (l := l) (k := i0) sl_53 rfl rfl (SLe.sub Hl sn) g18.2.1) rfl) (pQ rfl (q_ldG (e := elRt) (l := l) (k := i0) (o := 0) ty_28 rfl (SLe.sub Hl sn) g18.1 rfl) ?_))))))
       refine pQ rfl (q_eqla (r := (decide (a.hi.n = x0.n) && decide (a.hi.d = x0.d))) rfl rfl (eqOk_of 8 (by decide) eg_28 lw_28 (lv_cons lv_pI (lv_one lv_pI)) (lv_cons lv_pI (lv_one lv_pI)) (eqP_cons rfl eq_pI (eqP_one eq_pI)))) (pE rfl (pE rfl (fl J ?_)))
       refine J9 _ _ (by repeat first | exact .refl | refine .cons rfl ?_) ⟨_, s0, ⟨?s5, ?s6⟩, rfl⟩
       case s5 => exact congrArg Value.bool (or_f h25 rfl)
       case s6 => exact congrArg Value.bool (or_f h27 rfl)
    ·skip
     rintro g28 M ⟨⟨hg5, hg6⟩, rfl⟩
     simp only [setG, hg5, hg6]
     clear hg5 hg6
     refine Rk fun K J => sE rfl (sV (.int .i64 ((i0 + 1 : Nat) : Int)) rfl (congrArg (Value.int .i64) (nxt g18.2.1 hmx0)) (sE rfl (nl J (⟨(by repeat first | exact .refl | refine .cons rfl ?_), _, _, s0, (Nat.lt_succ_self _), i0 + 1, l0, (lo || (decide (a.lo.n = x0.n) && decide (a.lo.d = x0.d))), (hi || (decide (a.hi.n = x0.n) && decide (a.hi.d = x0.d))), (by exact (hT0.symm.trans (Eq.symm (rfl))).symm), g18.2.2, rfl, rfl, ⟨rfl, rfl⟩, rfl⟩))))
 ·skip
  rintro g M ⟨lo, hi, hCu2, ⟨hg5, hg6⟩, rfl⟩
  simp only [setG, hg5, hg6]
  clear hg5 hg6
  refine W_join [4, 34, 35, 36, 37] (fun g M => (g 4 = .bool (lo && hi)) ∧ M = [⟨b1, 31, flat [pI a.lo.n, pI a.lo.d, pI a.hi.n, pI a.hi.d]⟩]) (fun K10 J10 => ?_) ?_
  ·skip
   refine Rk fun K J => sE rfl ?_
   rcases bt lo with h30 | h30
   ·skip
    refine sB h30 rfl (sE rfl (sE rfl (sE rfl (nl J ?_))))
    refine J10 _ _ (by repeat first | exact .refl | refine .cons rfl ?_) ⟨_, s0, ?s4, rfl⟩
    case s4 => exact congrArg Value.bool (and_t h30 rfl)
   ·skip
    refine sB h30 rfl (WL_n rfl (sE rfl (sE rfl (nl J ?_))))
    refine J10 _ _ (by repeat first | exact .refl | refine .cons rfl ?_) ⟨_, s0, ?s4, rfl⟩
    case s4 => exact congrArg Value.bool (and_f h30)
  ·skip
   rintro g31 M ⟨hg4, rfl⟩
   simp only [setG, hg4]
   clear hg4
   refine W_ret (ret1 rfl (.inr rfl) rfl ?_)
   exact (by exact congrArg (fun r : Bool => (.bool r : Value)) (show _ = (F_skewbacklaw05_attained a l) from ap_ hCu2 rfl))
end Go.Proofs.YtnfbkngfdemkpaaGreatDoor
