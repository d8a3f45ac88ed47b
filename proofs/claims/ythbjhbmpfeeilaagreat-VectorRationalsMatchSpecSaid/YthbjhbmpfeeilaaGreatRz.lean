/- Walks: what these functions return. -/
import Derived.Test.YthbjhbmpfeeilaaGreatFa0
import Derived.Test.YthbjhbmpfeeilaaGreatFz
import Derived.Test.YthbjhbmpfeeilaaGreatGa
import Derived.Test.YthbjhbmpfeeilaaGreatGc
import Derived.Test.YthbjhbmpfeeilaaGreatGd
namespace Go.Proofs.YthbjhbmpfeeilaaGreat
open Go.Kn Go.Num
set_option linter.unusedVariables false
set_option linter.unusedSimpArgs false
set_option maxRecDepth 20000
set_option maxHeartbeats 8000000
theorem skewbackref06_Valid_ret (a : (A3 Rt)) :
    Ret Tryz.prog 4 [AV [pI a.x.n, pI a.x.d, pI a.y.n, pI a.y.d, pI a.z.n, pI a.z.d]] (.bool (F_skewbackref06_Valid a)) := by
 refine ret_of_W (N := 16) Tryz.func4 rfl rfl (by simp) (fun w0 => ?_)
 simp only [initF, Nat.reduceAdd]
 refine Rs fun K J => WL_r rfl (r_boxp rfl rfl (fun b1 hb1 => sE rfl (nl J ?_)))
 refine W_join [2, 3, 4, 5, 6, 7, 8, 9, 10, 11, 12, 13, 14, 15] (fun g M => (g 2 = .bool ((F_skewbackref04_Valid a.x) && ((F_skewbackref04_Valid a.y) && (F_skewbackref04_Valid a.z)))) ∧ M = [⟨b1, 29, flat [pI a.x.n, pI a.x.d, pI a.y.n, pI a.y.d, pI a.z.n, pI a.z.d]⟩]) (fun K1 J1 => ?_) ?_
 ·skip
  refine Rk fun K J => sQ (qA ar_29 rfl rfl rfl) rfl (sQ (qL ty_27 rfl m0 rfl) rfl (sQ (q_ret en_5 (skewbackref04_Valid_ret a.x) rfl) rfl ?_))
  rcases bt (F_skewbackref04_Valid a.x) with h4 | h4
  ·skip
   refine sB h4 rfl (sQ (qA ar_29 rfl rfl rfl) rfl (sQ (qL ty_27 rfl m0 rfl) rfl (sQ (q_ret en_5 (skewbackref04_Valid_ret a.y) rfl) rfl (sE rfl ?_))))
   rcases bt (F_skewbackref04_Valid a.y) with h5 | h5
   ·skip
    refine sB h5 rfl (sQ (qA ar_29 rfl rfl rfl) rfl (sQ (qL ty_27 rfl m0 rfl) rfl (sQ (q_ret en_5 (skewbackref04_Valid_ret a.z) rfl) rfl (sE rfl (sE rfl (nl J ?_))))))
    refine J1 _ _ (by repeat first | exact .refl | refine .cons rfl ?_) ⟨_, s0, ?s2, rfl⟩
    case s2 => exact congrArg Value.bool (and_t h4 (and_t h5 rfl))
   ·skip
    refine sB h5 rfl (WL_n rfl (WL_n rfl (WL_n rfl (sE rfl (sE rfl (nl J ?_))))))
    refine J1 _ _ (by repeat first | exact .refl | refine .cons rfl ?_) ⟨_, s0, ?s2, rfl⟩
    case s2 => exact congrArg Value.bool (and_t h4 (and_f h5))
  ·skip
   refine sB h4 rfl (WL_n rfl (WL_n rfl (WL_n rfl (sE rfl (sE rfl (WL_n rfl (WL_n rfl (WL_n rfl (sE rfl (sE rfl (nl J ?_)))))))))))
   refine J1 _ _ (by repeat first | exact .refl | refine .cons rfl ?_) ⟨_, s0, ?s2, rfl⟩
   case s2 => exact congrArg Value.bool (and_f h4)
 ·skip
  rintro g6 M ⟨hg2, rfl⟩
  simp only [setG, hg2]
  clear hg2
  refine W_ret (ret1 rfl (.inr rfl) rfl ?_)
  exact (by rfl)

theorem skewbackref06_Plus_ret (a : (A3 Rt)) (b : (A3 Rt)) :
    Ret Tryz.prog 8 [AV [pI a.x.n, pI a.x.d, pI a.y.n, pI a.y.d, pI a.z.n, pI a.z.d], AV [pI b.x.n, pI b.x.d, pI b.y.n, pI b.y.d, pI b.z.n, pI b.z.d]] (AV [pI (((F_skewbackref06_Plus a b).x).n), pI (((F_skewbackref06_Plus a b).x).d), pI (((F_skewbackref06_Plus a b).y).n), pI (((F_skewbackref06_Plus a b).y).d), pI (((F_skewbackref06_Plus a b).z).n), pI (((F_skewbackref06_Plus a b).z).d)]) := by
 refine ret_of_W (N := 21) Tryz.func8 rfl rfl (by simp) (fun w0 => ?_)
 simp only [initF, Nat.reduceAdd]
 refine Rs fun K J => WL_r rfl (r_boxp rfl rfl (fun b1 hb1 => WL_r rfl (r_boxp rfl rfl (fun b2 hb2 => sN zp_29 rfl fun b3 hb3 => nl J (ds (sd (sk (sk (s0)))) [0,4,8,12,16,20,24,28,32,36,40,44,48,52,56,60,65] [16] mix (by kernel_rfl) (fun K J => pQ rfl (qA ar_29 rfl rfl rfl) (pQ rfl (qL ty_27 rfl m2 rfl) (pQ rfl (qA ar_29 rfl rfl rfl) (pQ rfl (qL ty_27 rfl m1 rfl) (pQ rfl (q_ret en_39 (skewbackref04_Add_ret a.x b.x) rfl) (pQ rfl (qA ar_29 rfl rfl rfl) (pQ rfl (qL ty_27 rfl m2 rfl) (pQ rfl (qA ar_29 rfl rfl rfl) (pQ rfl (qL ty_27 rfl m1 rfl) (pQ rfl (q_ret en_39 (skewbackref04_Add_ret a.y b.y) rfl) (pQ rfl (qA ar_29 rfl rfl rfl) (pQ rfl (qL ty_27 rfl m2 rfl) (pQ rfl (qA ar_29 rfl rfl rfl) (pQ rfl (qL ty_27 rfl m1 rfl) ?_)))))))))))))))))))
 refine pQ rfl (q_ret en_39 (skewbackref04_Add_ret a.z b.z) rfl) (pQ rfl (q_buildap zp_29 ar_29 rfl (.cons [pI ((F_skewbackref04_Add a.x b.x).n), pI ((F_skewbackref04_Add a.x b.x).d)] [pI ((F_skewbackref04_Add a.x b.x).n), pI ((F_skewbackref04_Add a.x b.x).d), pI I0, pI I0, pI I0, pI I0] rfl rfl rfl rfl (.cons [pI ((F_skewbackref04_Add a.y b.y).n), pI ((F_skewbackref04_Add a.y b.y).d)] [pI ((F_skewbackref04_Add a.x b.x).n), pI ((F_skewbackref04_Add a.x b.x).d), pI ((F_skewbackref04_Add a.y b.y).n), pI ((F_skewbackref04_Add a.y b.y).d), pI I0, pI I0] rfl rfl rfl rfl (.cons [pI ((F_skewbackref04_Add a.z b.z).n), pI ((F_skewbackref04_Add a.z b.z).d)] [pI ((F_skewbackref04_Add a.x b.x).n), pI ((F_skewbackref04_Add a.x b.x).d), pI ((F_skewbackref04_Add a.y b.y).n), pI ((F_skewbackref04_Add a.y b.y).d), pI ((F_skewbackref04_Add a.z b.z).n), pI ((F_skewbackref04_Add a.z b.z).d)] rfl rfl rfl rfl (.nil _))))) (oS [pI ((F_skewbackref04_Add a.x b.x).n), pI ((F_skewbackref04_Add a.x b.x).d), pI ((F_skewbackref04_Add a.y b.y).n), pI ((F_skewbackref04_Add a.y b.y).d), pI ((F_skewbackref04_Add a.z b.z).n), pI ((F_skewbackref04_Add a.z b.z).d)] ty_29 rfl rfl rfl rfl rfl rfl (.head _) rfl hb3 rfl (sd s0) (fl J (W_ret (ret1 rfl (.inr rfl) (resP rfl m0 ty_29 rfl) ?_)))))
 exact (by rfl)

theorem skewbackref06_Minus_ret (a : (A3 Rt)) (b : (A3 Rt)) :
    Ret Tryz.prog 10 [AV [pI a.x.n, pI a.x.d, pI a.y.n, pI a.y.d, pI a.z.n, pI a.z.d], AV [pI b.x.n, pI b.x.d, pI b.y.n, pI b.y.d, pI b.z.n, pI b.z.d]] (AV [pI (((F_skewbackref06_Minus a b).x).n), pI (((F_skewbackref06_Minus a b).x).d), pI (((F_skewbackref06_Minus a b).y).n), pI (((F_skewbackref06_Minus a b).y).d), pI (((F_skewbackref06_Minus a b).z).n), pI (((F_skewbackref06_Minus a b).z).d)]) := by
 refine ret_of_W (N := 21) Tryz.func10 rfl rfl (by simp) (fun w0 => ?_)
 simp only [initF, Nat.reduceAdd]
 refine Rs fun K J => WL_r rfl (r_boxp rfl rfl (fun b1 hb1 => WL_r rfl (r_boxp rfl rfl (fun b2 hb2 => sN zp_29 rfl fun b3 hb3 => nl J (ds (sd (sk (sk (s0)))) [0,4,8,12,16,20,24,28,32,36,40,44,48,52,56,60,65] [16] mix (by kernel_rfl) (fun K J => pQ rfl (qA ar_29 rfl rfl rfl) (pQ rfl (qL ty_27 rfl m2 rfl) (pQ rfl (qA ar_29 rfl rfl rfl) (pQ rfl (qL ty_27 rfl m1 rfl) (pQ rfl (q_ret en_41 (skewbackref04_Sub_ret a.x b.x) rfl) (pQ rfl (qA ar_29 rfl rfl rfl) (pQ rfl (qL ty_27 rfl m2 rfl) (pQ rfl (qA ar_29 rfl rfl rfl) (pQ rfl (qL ty_27 rfl m1 rfl) (pQ rfl (q_ret en_41 (skewbackref04_Sub_ret a.y b.y) rfl) (pQ rfl (qA ar_29 rfl rfl rfl) (pQ rfl (qL ty_27 rfl m2 rfl) (pQ rfl (qA ar_29 rfl rfl rfl) (pQ rfl (qL ty_27 rfl m1 rfl) ?_)))))))))))))))))))
 refine pQ rfl (q_ret en_41 (skewbackref04_Sub_ret a.z b.z) rfl) (pQ rfl (q_buildap zp_29 ar_29 rfl (.cons [pI ((F_skewbackref04_Sub a.x b.x).n), pI ((F_skewbackref04_Sub a.x b.x).d)] [pI ((F_skewbackref04_Sub a.x b.x).n), pI ((F_skewbackref04_Sub a.x b.x).d), pI I0, pI I0, pI I0, pI I0] rfl rfl rfl rfl (.cons [pI ((F_skewbackref04_Sub a.y b.y).n), pI ((F_skewbackref04_Sub a.y b.y).d)] [pI ((F_skewbackref04_Sub a.x b.x).n), pI ((F_skewbackref04_Sub a.x b.x).d), pI ((F_skewbackref04_Sub a.y b.y).n), pI ((F_skewbackref04_Sub a.y b.y).d), pI I0, pI I0] rfl rfl rfl rfl (.cons [pI ((F_skewbackref04_Sub a.z b.z).n), pI ((F_skewbackref04_Sub a.z b.z).d)] [pI ((F_skewbackref04_Sub a.x b.x).n), pI ((F_skewbackref04_Sub a.x b.x).d), pI ((F_skewbackref04_Sub a.y b.y).n), pI ((F_skewbackref04_Sub a.y b.y).d), pI ((F_skewbackref04_Sub a.z b.z).n), pI ((F_skewbackref04_Sub a.z b.z).d)] rfl rfl rfl rfl (.nil _))))) (oS [pI ((F_skewbackref04_Sub a.x b.x).n), pI ((F_skewbackref04_Sub a.x b.x).d), pI ((F_skewbackref04_Sub a.y b.y).n), pI ((F_skewbackref04_Sub a.y b.y).d), pI ((F_skewbackref04_Sub a.z b.z).n), pI ((F_skewbackref04_Sub a.z b.z).d)] ty_29 rfl rfl rfl rfl rfl rfl (.head _) rfl hb3 rfl (sd s0) (fl J (W_ret (ret1 rfl (.inr rfl) (resP rfl m0 ty_29 rfl) ?_)))))
 exact (by rfl)

theorem skewbackref06_Times_ret (a : Rt) (b : (A3 Rt)) :
    Ret Tryz.prog 12 [AV [pI a.n, pI a.d], AV [pI b.x.n, pI b.x.d, pI b.y.n, pI b.y.d, pI b.z.n, pI b.z.d]] (AV [pI (((F_skewbackref06_Times a b).x).n), pI (((F_skewbackref06_Times a b).x).d), pI (((F_skewbackref06_Times a b).y).n), pI (((F_skewbackref06_Times a b).y).d), pI (((F_skewbackref06_Times a b).z).n), pI (((F_skewbackref06_Times a b).z).d)]) := by
 refine ret_of_W (N := 18) Tryz.func12 rfl rfl (by simp) (fun w0 => ?_)
 simp only [initF, Nat.reduceAdd]
 refine Rs fun K J => WL_r rfl (r_boxp rfl rfl (fun b1 hb1 => WL_r rfl (r_boxp rfl rfl (fun b2 hb2 => sN zp_29 rfl fun b3 hb3 => nl J (ds (sd (sk (sk (s0)))) [0,4,8,12,16,20,24,28,32,36,40,44,48,53] [13] mix (by kernel_rfl) (fun K J => pQ rfl (qL ty_27 rfl m2 rfl) (pQ rfl (qA ar_29 rfl rfl rfl) (pQ rfl (qL ty_27 rfl m1 rfl) (pQ rfl (q_ret en_43 (skewbackref04_Mul_ret a b.x) rfl) (pQ rfl (qL ty_27 rfl m2 rfl) (pQ rfl (qA ar_29 rfl rfl rfl) (pQ rfl (qL ty_27 rfl m1 rfl) (pQ rfl (q_ret en_43 (skewbackref04_Mul_ret a b.y) rfl) (pQ rfl (qL ty_27 rfl m2 rfl) (pQ rfl (qA ar_29 rfl rfl rfl) (pQ rfl (qL ty_27 rfl m1 rfl) (pQ rfl (q_ret en_43 (skewbackref04_Mul_ret a b.z) rfl) (pQ rfl (q_buildap zp_29 ar_29 rfl (.cons [pI ((F_skewbackref04_Mul a b.x).n), pI ((F_skewbackref04_Mul a b.x).d)] [pI ((F_skewbackref04_Mul a b.x).n), pI ((F_skewbackref04_Mul a b.x).d), pI I0, pI I0, pI I0, pI I0] rfl rfl rfl rfl (.cons [pI ((F_skewbackref04_Mul a b.y).n), pI ((F_skewbackref04_Mul a b.y).d)] [pI ((F_skewbackref04_Mul a b.x).n), pI ((F_skewbackref04_Mul a b.x).d), pI ((F_skewbackref04_Mul a b.y).n), pI ((F_skewbackref04_Mul a b.y).d), pI I0, pI I0] rfl rfl rfl rfl (.cons [pI ((F_skewbackref04_Mul a b.z).n), pI ((F_skewbackref04_Mul a b.z).d)] [pI ((F_skewbackref04_Mul a b.x).n), pI ((F_skewbackref04_Mul a b.x).d), pI ((F_skewbackref04_Mul a b.y).n), pI ((F_skewbackref04_Mul a b.y).d), pI ((F_skewbackref04_Mul a b.z).n), pI ((F_skewbackref04_Mul a b.z).d)] rfl rfl rfl rfl (.nil _))))) (oS [pI ((F_skewbackref04_Mul a b.x).n), pI ((F_skewbackref04_Mul a b.x).d), pI ((F_skewbackref04_Mul a b.y).n), pI ((F_skewbackref04_Mul a b.y).d), pI ((F_skewbackref04_Mul a b.z).n), pI ((F_skewbackref04_Mul a b.z).d)] ty_29 rfl rfl rfl rfl rfl rfl (.head _) rfl hb3 rfl (sd s0) ?_)))))))))))))))))))
 refine fl J (W_ret (ret1 rfl (.inr rfl) (resP rfl m0 ty_29 rfl) ?_))
 exact (by rfl)

theorem skewbackref06_Inner_ret (a : (A3 Rt)) (b : (A3 Rt)) :
    Ret Tryz.prog 14 [AV [pI a.x.n, pI a.x.d, pI a.y.n, pI a.y.d, pI a.z.n, pI a.z.d], AV [pI b.x.n, pI b.x.d, pI b.y.n, pI b.y.d, pI b.z.n, pI b.z.d]] (AV [pI ((F_skewbackref06_Inner a b).n), pI ((F_skewbackref06_Inner a b).d)]) := by
 refine ret_of_W (N := 25) Tryz.func14 rfl rfl (by simp) (fun w0 => ?_)
 simp only [initF, Nat.reduceAdd]
 refine Rs fun K J => WL_r rfl (r_boxp rfl rfl (fun b1 hb1 => WL_r rfl (r_boxp rfl rfl (fun b2 hb2 => sN zp_27 rfl fun b3 hb3 => nl J (Rs fun K J => sQ (qA ar_29 rfl rfl rfl) rfl (sQ (qL ty_27 rfl m2 rfl) rfl (sQ (qA ar_29 rfl rfl rfl) rfl (sQ (qL ty_27 rfl m1 rfl) rfl (sQ (q_ret en_43 (skewbackref04_Mul_ret a.x b.x) rfl) rfl (sN zp_27 rfl fun b4 hb4 => sS [pI ((F_skewbackref04_Mul a.x b.x).n), pI ((F_skewbackref04_Mul a.x b.x).d)] ty_27 rfl rfl rfl rfl rfl (.head _) rfl hb4 (nl J (ds (sd (sk (sk (sk (s0))))) [0,4,8,12,16,20,24,29] [7] mix (by kernel_rfl) (fun K J => pQ rfl (qL ty_27 rfl m0 rfl) (pQ rfl (qA ar_29 rfl rfl rfl) (pQ rfl (qL ty_27 rfl m3 rfl) (pQ rfl (qA ar_29 rfl rfl rfl) (pQ rfl (qL ty_27 rfl m2 rfl) ?_)))))))))))))))))
 refine pQ rfl (q_ret en_43 (skewbackref04_Mul_ret a.y b.y) rfl) ?_
 obtain ⟨r5, hr5⟩ := nm ((F_skewbackref04_Add (F_skewbackref04_Mul a.x b.x) (F_skewbackref04_Mul a.y b.y)) : Rt)
 refine pC (AV [pI r5.n, pI r5.d]) en_39 (skewbackref04_Add_ret (F_skewbackref04_Mul a.x b.x) (F_skewbackref04_Mul a.y b.y)) rfl rfl (by rw [hr5]; first | done | rfl) (oS [pI r5.n, pI r5.d] ty_27 rfl rfl rfl rfl rfl rfl (.head _) rfl hb4 rfl (sd s0) (fl J (ds (sk (sd (sk (sk (s0))))) [0,4,8,12,16,20,24,29] [7] mix (by kernel_rfl) (fun K J => pQ rfl (qL ty_27 rfl m0 rfl) (pQ rfl (qA ar_29 rfl rfl rfl) (pQ rfl (qL ty_27 rfl m3 rfl) (pQ rfl (qA ar_29 rfl rfl rfl) (pQ rfl (qL ty_27 rfl m2 rfl) (pQ rfl (q_ret en_43 (skewbackref04_Mul_ret a.z b.z) rfl) ?_)))))))))
 obtain ⟨r6, hr6⟩ := nm ((F_skewbackref04_Add r5 (F_skewbackref04_Mul a.z b.z)) : Rt)
 refine pC (AV [pI r6.n, pI r6.d]) en_39 (skewbackref04_Add_ret r5 (F_skewbackref04_Mul a.z b.z)) rfl rfl (by rw [hr6]; first | done | rfl) (oS [pI r6.n, pI r6.d] ty_27 rfl rfl rfl rfl rfl rfl (.tail _ (.head _)) rfl hb3 rfl (sk (sd s0)) (fl J (W_ret (ret1 rfl (.inr rfl) (resP rfl m1 ty_27 rfl) ?_))))
 exact (by subst hr6; subst hr5; rfl)

theorem skewbackref06_difference_ret (a : Rt) (b : Rt) (c : Rt) (d : Rt) :
    Ret Tryz.prog 45 [AV [pI a.n, pI a.d], AV [pI b.n, pI b.d], AV [pI c.n, pI c.d], AV [pI d.n, pI d.d]] (AV [pI ((F_skewbackref06_difference a b c d).n), pI ((F_skewbackref06_difference a b c d).d)]) := by
 refine ret_of_W (N := 16) Tryz.func45 rfl rfl (by simp) (fun w0 => ?_)
 simp only [initF, Nat.reduceAdd]
 refine Rs fun K J => WL_r rfl (r_boxp rfl rfl (fun b1 hb1 => WL_r rfl (r_boxp rfl rfl (fun b2 hb2 => WL_r rfl (r_boxp rfl rfl (fun b3 hb3 => WL_r rfl (r_boxp rfl rfl (fun b4 hb4 => sN zp_27 rfl fun b5 hb5 => nl J (ds (sd (sk (sk (sk (sk (s0)))))) [0,4,8,12,16,20,24,29] [7] mix (by kernel_rfl) (fun K J => pQ rfl (qL ty_27 rfl m4 rfl) (pQ rfl (qL ty_27 rfl m3 rfl) (pQ rfl (q_ret en_43 (skewbackref04_Mul_ret a b) rfl) (pQ rfl (qL ty_27 rfl m2 rfl) (pQ rfl (qL ty_27 rfl m1 rfl) (pQ rfl (q_ret en_43 (skewbackref04_Mul_ret c d) rfl) ?_)))))))))))))))
 obtain ⟨r6, hr6⟩ := nm ((F_skewbackref04_Sub (F_skewbackref04_Mul a b) (F_skewbackref04_Mul c d)) : Rt)
 refine pC (AV [pI r6.n, pI r6.d]) en_41 (skewbackref04_Sub_ret (F_skewbackref04_Mul a b) (F_skewbackref04_Mul c d)) rfl rfl (by rw [hr6]; first | done | rfl) (oS [pI r6.n, pI r6.d] ty_27 rfl rfl rfl rfl rfl rfl (.head _) rfl hb5 rfl (sd s0) (fl J (W_ret (ret1 rfl (.inr rfl) (resP rfl m0 ty_27 rfl) ?_))))
 exact (by subst hr6; rfl)

theorem skewbackref06_Outer_ret (a : (A3 Rt)) (b : (A3 Rt)) :
    Ret Tryz.prog 16 [AV [pI a.x.n, pI a.x.d, pI a.y.n, pI a.y.d, pI a.z.n, pI a.z.d], AV [pI b.x.n, pI b.x.d, pI b.y.n, pI b.y.d, pI b.z.n, pI b.z.d]] (AV [pI (((F_skewbackref06_Outer a b).x).n), pI (((F_skewbackref06_Outer a b).x).d), pI (((F_skewbackref06_Outer a b).y).n), pI (((F_skewbackref06_Outer a b).y).d), pI (((F_skewbackref06_Outer a b).z).n), pI (((F_skewbackref06_Outer a b).z).d)]) := by
 refine ret_of_W (N := 33) Tryz.func16 rfl rfl (by simp) (fun w0 => ?_)
 simp only [initF, Nat.reduceAdd]
 refine Rs fun K J => WL_r rfl (r_boxp rfl rfl (fun b1 hb1 => WL_r rfl (r_boxp rfl rfl (fun b2 hb2 => sN zp_29 rfl fun b3 hb3 => nl J (ds (sd (sk (sk (s0)))) [0,4,8,12,16,20,24,28,32,36,40,44,48,52,56,60,64,68,72,76,80,84,88,92,96,100,104,108,113] [28] mix (by kernel_rfl) (fun K J => pQ rfl (qA ar_29 rfl rfl rfl) (pQ rfl (qL ty_27 rfl m2 rfl) (pQ rfl (qA ar_29 rfl rfl rfl) (pQ rfl (qL ty_27 rfl m1 rfl) (pQ rfl (qA ar_29 rfl rfl rfl) (pQ rfl (qL ty_27 rfl m2 rfl) (pQ rfl (qA ar_29 rfl rfl rfl) (pQ rfl (qL ty_27 rfl m1 rfl) ?_)))))))))))))
 obtain ⟨r4, hr4⟩ := nm ((F_skewbackref06_difference a.y b.z a.z b.y) : Rt)
 refine pC (AV [pI r4.n, pI r4.d]) en_45 (skewbackref06_difference_ret a.y b.z a.z b.y) rfl rfl (by rw [hr4]; first | done | rfl) (pQ rfl (qA ar_29 rfl rfl rfl) (pQ rfl (qL ty_27 rfl m2 rfl) (pQ rfl (qA ar_29 rfl rfl rfl) (pQ rfl (qL ty_27 rfl m1 rfl) (pQ rfl (qA ar_29 rfl rfl rfl) (pQ rfl (qL ty_27 rfl m2 rfl) (pQ rfl (qA ar_29 rfl rfl rfl) (pQ rfl (qL ty_27 rfl m1 rfl) ?_))))))))
 obtain ⟨r5, hr5⟩ := nm ((F_skewbackref06_difference a.z b.x a.x b.z) : Rt)
 refine pC (AV [pI r5.n, pI r5.d]) en_45 (skewbackref06_difference_ret a.z b.x a.x b.z) rfl rfl (by rw [hr5]; first | done | rfl) (pQ rfl (qA ar_29 rfl rfl rfl) (pQ rfl (qL ty_27 rfl m2 rfl) (pQ rfl (qA ar_29 rfl rfl rfl) (pQ rfl (qL ty_27 rfl m1 rfl) (pQ rfl (qA ar_29 rfl rfl rfl) (pQ rfl (qL ty_27 rfl m2 rfl) (pQ rfl (qA ar_29 rfl rfl rfl) (pQ rfl (qL ty_27 rfl m1 rfl) ?_))))))))
 obtain ⟨r6, hr6⟩ := nm ((F_skewbackref06_difference a.x b.y a.y b.x) : Rt)
 refine pC (AV [pI r6.n, pI r6.d]) en_45 (skewbackref06_difference_ret a.x b.y a.y b.x) rfl rfl (by rw [hr6]; first | done | rfl) (pQ rfl (q_buildap zp_29 ar_29 rfl (.cons [pI r4.n, pI r4.d] [pI r4.n, pI r4.d, pI I0, pI I0, pI I0, pI I0] rfl rfl rfl rfl (.cons [pI r5.n, pI r5.d] [pI r4.n, pI r4.d, pI r5.n, pI r5.d, pI I0, pI I0] rfl rfl rfl rfl (.cons [pI r6.n, pI r6.d] [pI r4.n, pI r4.d, pI r5.n, pI r5.d, pI r6.n, pI r6.d] rfl rfl rfl rfl (.nil _))))) (oS [pI r4.n, pI r4.d, pI r5.n, pI r5.d, pI r6.n, pI r6.d] ty_29 rfl rfl rfl rfl rfl rfl (.head _) rfl hb3 rfl (sd s0) (fl J (W_ret (ret1 rfl (.inr rfl) (resP rfl m0 ty_29 rfl) ?_)))))
 exact (by subst hr6; subst hr5; subst hr4; rfl)

theorem skewbackref06_Of_ret (a : (A3 W)) :
    Ret Tryz.prog 20 [AV [ci .i64 a.x.1, ci .i64 a.y.1, ci .i64 a.z.1]] (AV [pI (((F_skewbackref06_Of a).x).n), pI (((F_skewbackref06_Of a).x).d), pI (((F_skewbackref06_Of a).y).n), pI (((F_skewbackref06_Of a).y).d), pI (((F_skewbackref06_Of a).z).n), pI (((F_skewbackref06_Of a).z).d)]) := by
 refine ret_of_W (N := 13) Tryz.func20 rfl rfl (by simp) (fun w0 => ?_)
 simp only [initF, Nat.reduceAdd]
 refine Rs fun K J => WL_r rfl (r_boxp rfl rfl (fun b1 hb1 => sN zp_29 rfl fun b2 hb2 => nl J (ds (sd (sk (s0))) [0,4,8,12,16,20,24,28,32,36,41] [10] mix (by kernel_rfl) (fun K J => pQ rfl (qA ar_31 rfl rfl rfl) (pQ rfl (qC ty_3 rfl m1 rfl) (pQ rfl (q_ret en_35 (skewbackref04_Of_ret a.x) rfl) (pQ rfl (qA ar_31 rfl rfl rfl) (pQ rfl (qC ty_3 rfl m1 rfl) (pQ rfl (q_ret en_35 (skewbackref04_Of_ret a.y) rfl) (pQ rfl (qA ar_31 rfl rfl rfl) (pQ rfl (qC ty_3 rfl m1 rfl) (pQ rfl (q_ret en_35 (skewbackref04_Of_ret a.z) rfl) (pQ rfl (q_buildap zp_29 ar_29 rfl (.cons [pI ((F_skewbackref04_Of a.x).n), pI ((F_skewbackref04_Of a.x).d)] [pI ((F_skewbackref04_Of a.x).n), pI ((F_skewbackref04_Of a.x).d), pI I0, pI I0, pI I0, pI I0] rfl rfl rfl rfl (.cons [pI ((F_skewbackref04_Of a.y).n), pI ((F_skewbackref04_Of a.y).d)] [pI ((F_skewbackref04_Of a.x).n), pI ((F_skewbackref04_Of a.x).d), pI ((F_skewbackref04_Of a.y).n), pI ((F_skewbackref04_Of a.y).d), pI I0, pI I0] rfl rfl rfl rfl (.cons [pI ((F_skewbackref04_Of a.z).n), pI ((F_skewbackref04_Of a.z).d)] [pI ((F_skewbackref04_Of a.x).n), pI ((F_skewbackref04_Of a.x).d), pI ((F_skewbackref04_Of a.y).n), pI ((F_skewbackref04_Of a.y).d), pI ((F_skewbackref04_Of a.z).n), pI ((F_skewbackref04_Of a.z).d)] rfl rfl rfl rfl (.nil _))))) (oS [pI ((F_skewbackref04_Of a.x).n), pI ((F_skewbackref04_Of a.x).d), pI ((F_skewbackref04_Of a.y).n), pI ((F_skewbackref04_Of a.y).d), pI ((F_skewbackref04_Of a.z).n), pI ((F_skewbackref04_Of a.z).d)] ty_29 rfl rfl rfl rfl rfl rfl (.head _) rfl hb2 rfl (sd s0) (fl J (W_ret (ret1 rfl (.inr rfl) (resP rfl m0 ty_29 rfl) ?_)))))))))))))))))
 exact (by rfl)

theorem skewbackref06_Side_ret (a : (A3 W)) (b : (A3 Rt)) :
    Ret Tryz.prog 18 [AV [ci .i64 a.x.1, ci .i64 a.y.1, ci .i64 a.z.1], AV [pI b.x.n, pI b.x.d, pI b.y.n, pI b.y.d, pI b.z.n, pI b.z.d]] (AV [pI ((F_skewbackref06_Side a b).n), pI ((F_skewbackref06_Side a b).d)]) := by
 refine ret_of_W (N := 9) Tryz.func18 rfl rfl (by simp) (fun w0 => ?_)
 simp only [initF, Nat.reduceAdd]
 refine Rs fun K J => WL_r rfl (r_boxp rfl rfl (fun b1 hb1 => WL_r rfl (r_boxp rfl rfl (fun b2 hb2 => sN zp_27 rfl fun b3 hb3 => nl J (ds (sd (sk (sk (s0)))) [0,4,8,12,17] [4] mix (by kernel_rfl) (fun K J => pQ rfl (qL ty_31 rfl m2 rfl) ?_))))))
 obtain ⟨r4, hr4⟩ := nm ((F_skewbackref06_Of a) : (A3 Rt))
 refine pC (AV [pI r4.x.n, pI r4.x.d, pI r4.y.n, pI r4.y.d, pI r4.z.n, pI r4.z.d]) en_20 (skewbackref06_Of_ret a) rfl rfl (by rw [hr4]; first | done | rfl) (pQ rfl (qL ty_29 rfl m1 rfl) (pQ rfl (q_ret en_14 (skewbackref06_Inner_ret r4 b) rfl) (oS [pI ((F_skewbackref06_Inner r4 b).n), pI ((F_skewbackref06_Inner r4 b).d)] ty_27 rfl rfl rfl rfl rfl rfl (.head _) rfl hb3 rfl (sd s0) (fl J (W_ret (ret1 rfl (.inr rfl) (resP rfl m0 ty_27 rfl) ?_))))))
 exact (by subst hr4; rfl)

theorem skewbackref06_Bad_ret (a : (A3 Rt)) :
    Ret Tryz.prog 22 [AV [pI a.x.n, pI a.x.d, pI a.y.n, pI a.y.d, pI a.z.n, pI a.z.d]] (.bool (F_skewbackref06_Bad a)) := by
 refine ret_of_W (N := 19) Tryz.func22 rfl rfl (by simp) (fun w0 => ?_)
 simp only [initF, Nat.reduceAdd]
 refine Rs fun K J => WL_r rfl (r_boxp rfl rfl (fun b1 hb1 => sE rfl (nl J ?_)))
 refine W_join [2, 3, 4, 5, 6, 7, 8, 9, 10, 11, 12, 13, 14, 15, 16, 17, 18] (fun g M => (g 2 = .bool (a.x.n.1.bad || (a.y.n.1.bad || a.z.n.1.bad))) ∧ M = [⟨b1, 29, flat [pI a.x.n, pI a.x.d, pI a.y.n, pI a.y.d, pI a.z.n, pI a.z.d]⟩]) (fun K1 J1 => ?_) ?_
 ·skip
  refine Rk fun K J => sQ (qA ar_29 rfl rfl rfl) rfl (sQ (qF fd_27_0 rfl rfl) rfl (sQ (qF fd_25_0 rfl rfl) rfl (sQ (qC ty_4 rfl m0 rfl) rfl ?_)))
  rcases bt a.x.n.1.bad with h4 | h4
  ·skip
   refine sB h4 rfl (WL_n rfl (WL_n rfl (WL_n rfl (WL_n rfl (sE rfl (sE rfl (WL_n rfl (WL_n rfl (WL_n rfl (WL_n rfl (sE rfl (sE rfl (nl J ?_)))))))))))))
   refine J1 _ _ (by repeat first | exact .refl | refine .cons rfl ?_) ⟨_, s0, ?s2, rfl⟩
   case s2 => exact congrArg Value.bool (or_t h4)
  ·skip
   refine sB h4 rfl (sQ (qA ar_29 rfl rfl rfl) rfl (sQ (qF fd_27_0 rfl rfl) rfl (sQ (qF fd_25_0 rfl rfl) rfl (sQ (qC ty_4 rfl m0 rfl) rfl (sE rfl ?_)))))
   rcases bt a.y.n.1.bad with h5 | h5
   ·skip
    refine sB h5 rfl (WL_n rfl (WL_n rfl (WL_n rfl (WL_n rfl (sE rfl (sE rfl (nl J ?_)))))))
    refine J1 _ _ (by repeat first | exact .refl | refine .cons rfl ?_) ⟨_, s0, ?s2, rfl⟩
    case s2 => exact congrArg Value.bool (or_f h4 (or_t h5))
   ·skip
    refine sB h5 rfl (sQ (qA ar_29 rfl rfl rfl) rfl (sQ (qF fd_27_0 rfl rfl) rfl (sQ (qF fd_25_0 rfl rfl) rfl (sQ (qC ty_4 rfl m0 rfl) rfl (sE rfl (sE rfl (nl J ?_)))))))
    refine J1 _ _ (by repeat first | exact .refl | refine .cons rfl ?_) ⟨_, s0, ?s2, rfl⟩
    case s2 => exact congrArg Value.bool (or_f h4 (or_f h5 rfl))
 ·skip
  rintro g6 M ⟨hg2, rfl⟩
  simp only [setG, hg2]
  clear hg2
  refine W_ret (ret1 rfl (.inr rfl) rfl ?_)
  exact (by rfl)

theorem skewbackref06_Before_ret (a : (A3 Rt)) (b : (A3 Rt)) :
    Ret Tryz.prog 24 [AV [pI a.x.n, pI a.x.d, pI a.y.n, pI a.y.d, pI a.z.n, pI a.z.d], AV [pI b.x.n, pI b.x.d, pI b.y.n, pI b.y.d, pI b.z.n, pI b.z.d]] (.bool (F_skewbackref06_Before a b)) := by
 refine ret_of_W (N := 22) Tryz.func24 rfl rfl (by simp) (fun w0 => ?_)
 simp only [initF, Nat.reduceAdd]
 refine Rs fun K J => WL_r rfl (r_boxp rfl rfl (fun b1 hb1 => WL_r rfl (r_boxp rfl rfl (fun b2 hb2 => sE rfl (nl J (Sq fun K1 J1 => Rs fun K J => sE rfl (nl J (W_block (W_un 5 (Un_s (fun K2 J2 => Sq fun K3 J3 => Rs fun K J => sE rfl (sV (.bool true) rfl rfl (nl J (W_true rfl (W_skip (J3 _ _ ?_))))))))))))))))
 refine Sq fun K4 J4 => W_block (ds (sk (sk (s0))) [0,4,8,12,16,20,24,28] [] mix (by kernel_rfl) (fun K J => pE rfl (pQ rfl (qA ar_29 rfl rfl rfl) (pQ rfl (qL ty_27 rfl m1 rfl) (pE rfl (pQ rfl (qA ar_29 rfl rfl rfl) (pQ rfl (qL ty_27 rfl m0 rfl) (pQ rfl (q_ret en_47 (skewbackref04_Cmp_ret a.x b.x) rfl) (pE rfl (fl J (Rs fun K J => sE rfl (sE rfl (nl J ?_)))))))))))))
 rcases bt ((F_skewbackref04_Cmp a.x b.x).1 != 0) with h3 | h3
 ·skip
  refine W_t h3 rfl (Rs fun K J => sE rfl (sE rfl (sE rfl (nl J (W_ret (blockK_r (thenK_r (thenK_r (blockK_r (thenK_r (ret1 rfl (.inr rfl) rfl ?_)))))))))))
  exact (by exact congrArg (fun r : Bool => (.bool r : Value)) (show _ = (F_skewbackref06_Before a b) from bif_t h3 rfl))
 ·skip
  refine W_f h3 rfl (W_skip (J4 _ _ (Rk fun K J => sE rfl (sV (.int .i64 1) rfl rfl (sE rfl (nl J (J2 _ _ (Un_s (fun K5 J5 => Sq fun K6 J6 => Rs fun K J => sE rfl (sV (.bool true) rfl rfl (nl J (W_true rfl (W_skip (J6 _ _ (Sq fun K7 J7 => W_block ?_)))))))))))))))
  refine ds (sk (sk (s0))) [0,4,8,12,16,20,24,28] [] mix (by kernel_rfl) (fun K J => pE rfl (pQ rfl (qA ar_29 rfl rfl rfl) (pQ rfl (qL ty_27 rfl m1 rfl) (pE rfl (pQ rfl (qA ar_29 rfl rfl rfl) (pQ rfl (qL ty_27 rfl m0 rfl) (pQ rfl (q_ret en_47 (skewbackref04_Cmp_ret a.y b.y) rfl) (pE rfl (fl J (Rs fun K J => sE rfl (sE rfl (nl J ?_))))))))))))
  rcases bt ((F_skewbackref04_Cmp a.y b.y).1 != 0) with h4 | h4
  ·skip
   refine W_t h4 rfl (Rs fun K J => sE rfl (sE rfl (sE rfl (nl J (W_ret (blockK_r (thenK_r (thenK_r (blockK_r (thenK_r (ret1 rfl (.inr rfl) rfl ?_)))))))))))
   exact (by exact congrArg (fun r : Bool => (.bool r : Value)) (show _ = (F_skewbackref06_Before a b) from bif_f h3 (bif_t h4 rfl)))
  ·skip
   refine W_f h4 rfl (W_skip (J7 _ _ (Rk fun K J => sE rfl (sV (.int .i64 2) rfl rfl (sE rfl (nl J (J5 _ _ (Un_s (fun K8 J8 => Sq fun K9 J9 => Rs fun K J => sE rfl (sV (.bool true) rfl rfl (nl J (W_true rfl (W_skip (J9 _ _ (Sq fun K10 J10 => W_block ?_)))))))))))))))
   refine ds (sk (sk (s0))) [0,4,8,12,16,20,24,28] [] mix (by kernel_rfl) (fun K J => pE rfl (pQ rfl (qA ar_29 rfl rfl rfl) (pQ rfl (qL ty_27 rfl m1 rfl) (pE rfl (pQ rfl (qA ar_29 rfl rfl rfl) (pQ rfl (qL ty_27 rfl m0 rfl) (pQ rfl (q_ret en_47 (skewbackref04_Cmp_ret a.z b.z) rfl) (pE rfl (fl J (Rs fun K J => sE rfl (sE rfl (nl J ?_))))))))))))
   rcases bt ((F_skewbackref04_Cmp a.z b.z).1 != 0) with h5 | h5
   ·skip
    refine W_t h5 rfl (Rs fun K J => sE rfl (sE rfl (sE rfl (nl J (W_ret (blockK_r (thenK_r (thenK_r (blockK_r (thenK_r (ret1 rfl (.inr rfl) rfl ?_)))))))))))
    exact (by exact congrArg (fun r : Bool => (.bool r : Value)) (show _ = (F_skewbackref06_Before a b) from bif_f h3 (bif_f h4 (bif_t h5 rfl))))
   ·skip
    refine W_f h5 rfl (W_skip (J10 _ _ (Rk fun K J => sE rfl (sV (.int .i64 3) rfl rfl (sE rfl (nl J (J8 _ _ (Un_s (fun K11 J11 => Sq fun K12 J12 => Rs fun K J => sE rfl (sV (.bool false) rfl rfl (nl J (W_false rfl (W_exit (thenK_x (thenK_x (blockK_hit (J1 _ _ (Rs fun K J => sE rfl ?_))))))))))))))))))
    refine nl J (W_ret (ret1 rfl (.inr rfl) rfl ?_))
    exact (by exact congrArg (fun r : Bool => (.bool r : Value)) (show _ = (F_skewbackref06_Before a b) from bif_f h3 (bif_f h4 (bif_f h5 rfl))))

theorem vector_Plus_ret (a : (A3 Rt)) (b : (A3 Rt)) :
    Ret Tryz.prog 7 [AV [pI a.x.n, pI a.x.d, pI a.y.n, pI a.y.d, pI a.z.n, pI a.z.d], AV [pI b.x.n, pI b.x.d, pI b.y.n, pI b.y.d, pI b.z.n, pI b.z.d]] (AV [pI (((F_vector_Plus a b).x).n), pI (((F_vector_Plus a b).x).d), pI (((F_vector_Plus a b).y).n), pI (((F_vector_Plus a b).y).d), pI (((F_vector_Plus a b).z).n), pI (((F_vector_Plus a b).z).d)]) := by
 refine ret_of_W (N := 20) Tryz.func7 rfl rfl (by simp) (fun w0 => ?_)
 simp only [initF, Nat.reduceAdd]
 refine Rs fun K J => WL_r rfl (r_boxp rfl rfl (fun b1 hb1 => WL_r rfl (r_boxp rfl rfl (fun b2 hb2 => sN zp_29 rfl fun b3 hb3 => nl J (Sq fun K1 J1 => Rs fun K J => sE rfl (nl J (W_block (W_un 5 (Un_s (fun K2 J2 => Rs fun K J => sV (.bool true) rfl rfl (nl J (Sq fun K3 J3 => W_true rfl (W_skip (J3 _ _ (Sq fun K4 J4 => ?_)))))))))))))))
 refine W_block (Rs fun K J => sE rfl (sE rfl (nl J (dr (sk (sk (sd (s0)))) [0,4,8,12,16,20,24,28,32,37] [9] mix (by kernel_rfl) (fun K J => pE rfl (pE rfl (pQ rfl (qA ar_29 rfl rfl rfl) (pQ rfl (qL ty_27 rfl m2 rfl) (pE rfl (pQ rfl (qA ar_29 rfl rfl rfl) (pQ rfl (qL ty_27 rfl m1 rfl) (pQ rfl (q_ret en_38 (ratio_Add_ret a.x b.x) rfl) (pQ rfl (qA ar_29 rfl rfl rfl) (oS [pI ((F_ratio_Add a.x b.x).n), pI ((F_ratio_Add a.x b.x).d)] ty_27 rfl rfl rfl rfl rfl rfl (.tail _ (.tail _ (.head _))) rfl hb1 rfl (sk (sk (sd s0))) (fl J (J4 _ _ (Rk fun K J => sV (.int .i64 1) rfl rfl ?_)))))))))))))))))
 refine sE rfl (nl J (J2 _ _ (Un_s (fun K5 J5 => Rs fun K J => sV (.bool true) rfl rfl (nl J (Sq fun K6 J6 => W_true rfl (W_skip (J6 _ _ (Sq fun K7 J7 => W_block (Rs fun K J => sE rfl (sE rfl (nl J (dr (sk (sk (sd (s0)))) [0,4,8,12,16,20,24,28,32,37] [9] mix (by kernel_rfl) (fun K J => pE rfl (pE rfl ?_)))))))))))))))
 refine pQ rfl (qA ar_29 rfl rfl rfl) (pQ rfl (qL ty_27 rfl m2 rfl) (pE rfl (pQ rfl (qA ar_29 rfl rfl rfl) (pQ rfl (qL ty_27 rfl m1 rfl) (pQ rfl (q_ret en_38 (ratio_Add_ret a.y b.y) rfl) (pQ rfl (qA ar_29 rfl rfl rfl) (oS [pI ((F_ratio_Add a.y b.y).n), pI ((F_ratio_Add a.y b.y).d)] ty_27 rfl rfl rfl rfl rfl rfl (.tail _ (.tail _ (.head _))) rfl hb1 rfl (sk (sk (sd s0))) (fl J (J7 _ _ (Rk fun K J => sV (.int .i64 2) rfl rfl (sE rfl (nl J (J5 _ _ (Un_s (fun K8 J8 => Rs fun K J => sV (.bool true) rfl rfl (nl J (Sq fun K9 J9 => ?_)))))))))))))))))
 refine W_true rfl (W_skip (J9 _ _ (Sq fun K10 J10 => W_block (Rs fun K J => sE rfl (sE rfl (nl J (dr (sk (sk (sd (s0)))) [0,4,8,12,16,20,24,28,32,37] [9] mix (by kernel_rfl) (fun K J => pE rfl (pE rfl (pQ rfl (qA ar_29 rfl rfl rfl) (pQ rfl (qL ty_27 rfl m2 rfl) (pE rfl (pQ rfl (qA ar_29 rfl rfl rfl) (pQ rfl (qL ty_27 rfl m1 rfl) (pQ rfl (q_ret en_38 (ratio_Add_ret a.z b.z) rfl) (pQ rfl (qA ar_29 rfl rfl rfl) (oS [pI ((F_ratio_Add a.z b.z).n), pI ((F_ratio_Add a.z b.z).d)] ty_27 rfl rfl rfl rfl rfl rfl (.tail _ (.tail _ (.head _))) rfl hb1 rfl (sk (sk (sd s0))) ?_)))))))))))))))))
 refine fl J (J10 _ _ (Rk fun K J => sV (.int .i64 3) rfl rfl (sE rfl (nl J (J8 _ _ (Un_s (fun K11 J11 => Rs fun K J => sV (.bool false) rfl rfl (nl J (Sq fun K12 J12 => W_false rfl (W_exit (thenK_x (thenK_x (blockK_hit (J1 _ _ (Rs fun K J => sQ (qL ty_29 rfl m2 rfl) rfl (sS [pI ((F_ratio_Add a.x b.x).n), pI ((F_ratio_Add a.x b.x).d), pI ((F_ratio_Add a.y b.y).n), pI ((F_ratio_Add a.y b.y).d), pI ((F_ratio_Add a.z b.z).n), pI ((F_ratio_Add a.z b.z).d)] ty_29 rfl rfl rfl rfl rfl (.head _) rfl hb3 (nl J (W_ret ?_))))))))))))))))))
 refine ret1 rfl (.inr rfl) (resP rfl m0 ty_29 rfl) ?_
 exact (by rfl)

theorem vector_Minus_ret (a : (A3 Rt)) (b : (A3 Rt)) :
    Ret Tryz.prog 9 [AV [pI a.x.n, pI a.x.d, pI a.y.n, pI a.y.d, pI a.z.n, pI a.z.d], AV [pI b.x.n, pI b.x.d, pI b.y.n, pI b.y.d, pI b.z.n, pI b.z.d]] (AV [pI (((F_vector_Minus a b).x).n), pI (((F_vector_Minus a b).x).d), pI (((F_vector_Minus a b).y).n), pI (((F_vector_Minus a b).y).d), pI (((F_vector_Minus a b).z).n), pI (((F_vector_Minus a b).z).d)]) := by
 refine ret_of_W (N := 20) Tryz.func9 rfl rfl (by simp) (fun w0 => ?_)
 simp only [initF, Nat.reduceAdd]
 refine Rs fun K J => WL_r rfl (r_boxp rfl rfl (fun b1 hb1 => WL_r rfl (r_boxp rfl rfl (fun b2 hb2 => sN zp_29 rfl fun b3 hb3 => nl J (Sq fun K1 J1 => Rs fun K J => sE rfl (nl J (W_block (W_un 5 (Un_s (fun K2 J2 => Rs fun K J => sV (.bool true) rfl rfl (nl J (Sq fun K3 J3 => W_true rfl (W_skip (J3 _ _ (Sq fun K4 J4 => ?_)))))))))))))))
 refine W_block (Rs fun K J => sE rfl (sE rfl (nl J (dr (sk (sk (sd (s0)))) [0,4,8,12,16,20,24,28,32,37] [9] mix (by kernel_rfl) (fun K J => pE rfl (pE rfl (pQ rfl (qA ar_29 rfl rfl rfl) (pQ rfl (qL ty_27 rfl m2 rfl) (pE rfl (pQ rfl (qA ar_29 rfl rfl rfl) (pQ rfl (qL ty_27 rfl m1 rfl) (pQ rfl (q_ret en_40 (ratio_Sub_ret a.x b.x) rfl) (pQ rfl (qA ar_29 rfl rfl rfl) (oS [pI ((F_ratio_Sub a.x b.x).n), pI ((F_ratio_Sub a.x b.x).d)] ty_27 rfl rfl rfl rfl rfl rfl (.tail _ (.tail _ (.head _))) rfl hb1 rfl (sk (sk (sd s0))) (fl J (J4 _ _ (Rk fun K J => sV (.int .i64 1) rfl rfl ?_)))))))))))))))))
 refine sE rfl (nl J (J2 _ _ (Un_s (fun K5 J5 => Rs fun K J => sV (.bool true) rfl rfl (nl J (Sq fun K6 J6 => W_true rfl (W_skip (J6 _ _ (Sq fun K7 J7 => W_block (Rs fun K J => sE rfl (sE rfl (nl J (dr (sk (sk (sd (s0)))) [0,4,8,12,16,20,24,28,32,37] [9] mix (by kernel_rfl) (fun K J => pE rfl (pE rfl ?_)))))))))))))))
 refine pQ rfl (qA ar_29 rfl rfl rfl) (pQ rfl (qL ty_27 rfl m2 rfl) (pE rfl (pQ rfl (qA ar_29 rfl rfl rfl) (pQ rfl (qL ty_27 rfl m1 rfl) (pQ rfl (q_ret en_40 (ratio_Sub_ret a.y b.y) rfl) (pQ rfl (qA ar_29 rfl rfl rfl) (oS [pI ((F_ratio_Sub a.y b.y).n), pI ((F_ratio_Sub a.y b.y).d)] ty_27 rfl rfl rfl rfl rfl rfl (.tail _ (.tail _ (.head _))) rfl hb1 rfl (sk (sk (sd s0))) (fl J (J7 _ _ (Rk fun K J => sV (.int .i64 2) rfl rfl (sE rfl (nl J (J5 _ _ (Un_s (fun K8 J8 => Rs fun K J => sV (.bool true) rfl rfl (nl J (Sq fun K9 J9 => ?_)))))))))))))))))
 refine W_true rfl (W_skip (J9 _ _ (Sq fun K10 J10 => W_block (Rs fun K J => sE rfl (sE rfl (nl J (dr (sk (sk (sd (s0)))) [0,4,8,12,16,20,24,28,32,37] [9] mix (by kernel_rfl) (fun K J => pE rfl (pE rfl (pQ rfl (qA ar_29 rfl rfl rfl) (pQ rfl (qL ty_27 rfl m2 rfl) (pE rfl (pQ rfl (qA ar_29 rfl rfl rfl) (pQ rfl (qL ty_27 rfl m1 rfl) (pQ rfl (q_ret en_40 (ratio_Sub_ret a.z b.z) rfl) (pQ rfl (qA ar_29 rfl rfl rfl) (oS [pI ((F_ratio_Sub a.z b.z).n), pI ((F_ratio_Sub a.z b.z).d)] ty_27 rfl rfl rfl rfl rfl rfl (.tail _ (.tail _ (.head _))) rfl hb1 rfl (sk (sk (sd s0))) ?_)))))))))))))))))
 refine fl J (J10 _ _ (Rk fun K J => sV (.int .i64 3) rfl rfl (sE rfl (nl J (J8 _ _ (Un_s (fun K11 J11 => Rs fun K J => sV (.bool false) rfl rfl (nl J (Sq fun K12 J12 => W_false rfl (W_exit (thenK_x (thenK_x (blockK_hit (J1 _ _ (Rs fun K J => sQ (qL ty_29 rfl m2 rfl) rfl (sS [pI ((F_ratio_Sub a.x b.x).n), pI ((F_ratio_Sub a.x b.x).d), pI ((F_ratio_Sub a.y b.y).n), pI ((F_ratio_Sub a.y b.y).d), pI ((F_ratio_Sub a.z b.z).n), pI ((F_ratio_Sub a.z b.z).d)] ty_29 rfl rfl rfl rfl rfl (.head _) rfl hb3 (nl J (W_ret ?_))))))))))))))))))
 refine ret1 rfl (.inr rfl) (resP rfl m0 ty_29 rfl) ?_
 exact (by rfl)

theorem vector_Times_ret (a : Rt) (b : (A3 Rt)) :
    Ret Tryz.prog 11 [AV [pI a.n, pI a.d], AV [pI b.x.n, pI b.x.d, pI b.y.n, pI b.y.d, pI b.z.n, pI b.z.d]] (AV [pI (((F_vector_Times a b).x).n), pI (((F_vector_Times a b).x).d), pI (((F_vector_Times a b).y).n), pI (((F_vector_Times a b).y).d), pI (((F_vector_Times a b).z).n), pI (((F_vector_Times a b).z).d)]) := by
 refine ret_of_W (N := 18) Tryz.func11 rfl rfl (by simp) (fun w0 => ?_)
 simp only [initF, Nat.reduceAdd]
 refine Rs fun K J => WL_r rfl (r_boxp rfl rfl (fun b1 hb1 => WL_r rfl (r_boxp rfl rfl (fun b2 hb2 => sN zp_29 rfl fun b3 hb3 => nl J (Sq fun K1 J1 => Rs fun K J => sE rfl (nl J (W_block (W_un 5 (Un_s (fun K2 J2 => Rs fun K J => sV (.bool true) rfl rfl (nl J (Sq fun K3 J3 => W_true rfl (W_skip (J3 _ _ (Sq fun K4 J4 => ?_)))))))))))))))
 refine W_block (Rs fun K J => sE rfl (sE rfl (nl J (dr (sk (sd (sk (s0)))) [0,4,8,12,16,20,24,29] [7] mix (by kernel_rfl) (fun K J => pE rfl (pQ rfl (qL ty_27 rfl m2 rfl) (pE rfl (pQ rfl (qA ar_29 rfl rfl rfl) (pQ rfl (qL ty_27 rfl m1 rfl) (pQ rfl (q_ret en_42 (ratio_Mul_ret a b.x) rfl) (pQ rfl (qA ar_29 rfl rfl rfl) (oS [pI ((F_ratio_Mul a b.x).n), pI ((F_ratio_Mul a b.x).d)] ty_27 rfl rfl rfl rfl rfl rfl (.tail _ (.head _)) rfl hb2 rfl (sk (sd s0)) (fl J (J4 _ _ (Rk fun K J => sV (.int .i64 1) rfl rfl (sE rfl (nl J ?_)))))))))))))))))
 refine J2 _ _ (Un_s (fun K5 J5 => Rs fun K J => sV (.bool true) rfl rfl (nl J (Sq fun K6 J6 => W_true rfl (W_skip (J6 _ _ (Sq fun K7 J7 => W_block (Rs fun K J => sE rfl (sE rfl (nl J (dr (sk (sd (sk (s0)))) [0,4,8,12,16,20,24,29] [7] mix (by kernel_rfl) (fun K J => pE rfl (pQ rfl (qL ty_27 rfl m2 rfl) (pE rfl (pQ rfl (qA ar_29 rfl rfl rfl) ?_)))))))))))))))
 refine pQ rfl (qL ty_27 rfl m1 rfl) (pQ rfl (q_ret en_42 (ratio_Mul_ret a b.y) rfl) (pQ rfl (qA ar_29 rfl rfl rfl) (oS [pI ((F_ratio_Mul a b.y).n), pI ((F_ratio_Mul a b.y).d)] ty_27 rfl rfl rfl rfl rfl rfl (.tail _ (.head _)) rfl hb2 rfl (sk (sd s0)) (fl J (J7 _ _ (Rk fun K J => sV (.int .i64 2) rfl rfl (sE rfl (nl J (J5 _ _ (Un_s (fun K8 J8 => Rs fun K J => sV (.bool true) rfl rfl (nl J (Sq fun K9 J9 => W_true rfl (W_skip (J9 _ _ (Sq fun K10 J10 => ?_))))))))))))))))
 refine W_block (Rs fun K J => sE rfl (sE rfl (nl J (dr (sk (sd (sk (s0)))) [0,4,8,12,16,20,24,29] [7] mix (by kernel_rfl) (fun K J => pE rfl (pQ rfl (qL ty_27 rfl m2 rfl) (pE rfl (pQ rfl (qA ar_29 rfl rfl rfl) (pQ rfl (qL ty_27 rfl m1 rfl) (pQ rfl (q_ret en_42 (ratio_Mul_ret a b.z) rfl) (pQ rfl (qA ar_29 rfl rfl rfl) (oS [pI ((F_ratio_Mul a b.z).n), pI ((F_ratio_Mul a b.z).d)] ty_27 rfl rfl rfl rfl rfl rfl (.tail _ (.head _)) rfl hb2 rfl (sk (sd s0)) (fl J (J10 _ _ (Rk fun K J => sV (.int .i64 3) rfl rfl (sE rfl (nl J ?_)))))))))))))))))
 refine J8 _ _ (Un_s (fun K11 J11 => Rs fun K J => sV (.bool false) rfl rfl (nl J (Sq fun K12 J12 => W_false rfl (W_exit (thenK_x (thenK_x (blockK_hit (J1 _ _ (Rs fun K J => sQ (qL ty_29 rfl m1 rfl) rfl (sS [pI ((F_ratio_Mul a b.x).n), pI ((F_ratio_Mul a b.x).d), pI ((F_ratio_Mul a b.y).n), pI ((F_ratio_Mul a b.y).d), pI ((F_ratio_Mul a b.z).n), pI ((F_ratio_Mul a b.z).d)] ty_29 rfl rfl rfl rfl rfl (.head _) rfl hb3 (nl J (W_ret (ret1 rfl (.inr rfl) (resP rfl m0 ty_29 rfl) ?_))))))))))))))
 exact (by rfl)

theorem vector_Before_ret (a : (A3 Rt)) (b : (A3 Rt)) :
    Ret Tryz.prog 23 [AV [pI a.x.n, pI a.x.d, pI a.y.n, pI a.y.d, pI a.z.n, pI a.z.d], AV [pI b.x.n, pI b.x.d, pI b.y.n, pI b.y.d, pI b.z.n, pI b.z.d]] (.bool (F_vector_Before a b)) := by
 refine ret_of_W (N := 22) Tryz.func23 rfl rfl (by simp) (fun w0 => ?_)
 simp only [initF, Nat.reduceAdd]
 refine Rs fun K J => WL_r rfl (r_boxp rfl rfl (fun b1 hb1 => WL_r rfl (r_boxp rfl rfl (fun b2 hb2 => sE rfl (nl J (Sq fun K1 J1 => Rs fun K J => sE rfl (nl J (W_block (W_un 5 (Un_s (fun K2 J2 => Rs fun K J => sV (.bool true) rfl rfl (nl J (Sq fun K3 J3 => W_true rfl (W_skip (J3 _ _ (Sq fun K4 J4 => ?_))))))))))))))))
 refine W_block (Rs fun K J => sE rfl (sE rfl (nl J (ds (sk (sk (s0))) [0,4,8,12,16,20,24,28] [] mix (by kernel_rfl) (fun K J => pE rfl (pQ rfl (qA ar_29 rfl rfl rfl) (pQ rfl (qL ty_27 rfl m1 rfl) (pE rfl (pQ rfl (qA ar_29 rfl rfl rfl) (pQ rfl (qL ty_27 rfl m0 rfl) (pQ rfl (q_ret en_46 (ratio_Cmp_ret a.x b.x) rfl) (pE rfl (fl J (Rs fun K J => sE rfl (sE rfl (nl J ?_))))))))))))))))
 rcases bt ((F_ratio_Cmp a.x b.x).1 != 0) with h3 | h3
 ·skip
  refine W_t h3 rfl (Rs fun K J => sE rfl (sE rfl (sE rfl (nl J (W_ret (blockK_r (thenK_r (thenK_r (blockK_r (thenK_r (ret1 rfl (.inr rfl) rfl ?_)))))))))))
  exact (by exact congrArg (fun r : Bool => (.bool r : Value)) (show _ = (F_vector_Before a b) from bif_t h3 rfl))
 ·skip
  refine W_f h3 rfl (W_skip (J4 _ _ (Rk fun K J => sV (.int .i64 1) rfl rfl (sE rfl (nl J (J2 _ _ (Un_s (fun K5 J5 => Rs fun K J => sV (.bool true) rfl rfl (nl J (Sq fun K6 J6 => W_true rfl (W_skip (J6 _ _ (Sq fun K7 J7 => W_block (Rs fun K J => sE rfl ?_))))))))))))))
  refine sE rfl (nl J (ds (sk (sk (s0))) [0,4,8,12,16,20,24,28] [] mix (by kernel_rfl) (fun K J => pE rfl (pQ rfl (qA ar_29 rfl rfl rfl) (pQ rfl (qL ty_27 rfl m1 rfl) (pE rfl (pQ rfl (qA ar_29 rfl rfl rfl) (pQ rfl (qL ty_27 rfl m0 rfl) (pQ rfl (q_ret en_46 (ratio_Cmp_ret a.y b.y) rfl) (pE rfl (fl J (Rs fun K J => sE rfl (sE rfl (nl J ?_))))))))))))))
  rcases bt ((F_ratio_Cmp a.y b.y).1 != 0) with h4 | h4
  ·skip
   refine W_t h4 rfl (Rs fun K J => sE rfl (sE rfl (sE rfl (nl J (W_ret (blockK_r (thenK_r (thenK_r (blockK_r (thenK_r (ret1 rfl (.inr rfl) rfl ?_)))))))))))
   exact (by exact congrArg (fun r : Bool => (.bool r : Value)) (show _ = (F_vector_Before a b) from bif_f h3 (bif_t h4 rfl)))
  ·skip
   refine W_f h4 rfl (W_skip (J7 _ _ (Rk fun K J => sV (.int .i64 2) rfl rfl (sE rfl (nl J (J5 _ _ (Un_s (fun K8 J8 => Rs fun K J => sV (.bool true) rfl rfl (nl J (Sq fun K9 J9 => W_true rfl (W_skip (J9 _ _ (Sq fun K10 J10 => W_block (Rs fun K J => sE rfl ?_))))))))))))))
   refine sE rfl (nl J (ds (sk (sk (s0))) [0,4,8,12,16,20,24,28] [] mix (by kernel_rfl) (fun K J => pE rfl (pQ rfl (qA ar_29 rfl rfl rfl) (pQ rfl (qL ty_27 rfl m1 rfl) (pE rfl (pQ rfl (qA ar_29 rfl rfl rfl) (pQ rfl (qL ty_27 rfl m0 rfl) (pQ rfl (q_ret en_46 (ratio_Cmp_ret a.z b.z) rfl) (pE rfl (fl J (Rs fun K J => sE rfl (sE rfl (nl J ?_))))))))))))))
   rcases bt ((F_ratio_Cmp a.z b.z).1 != 0) with h5 | h5
   ·skip
    refine W_t h5 rfl (Rs fun K J => sE rfl (sE rfl (sE rfl (nl J (W_ret (blockK_r (thenK_r (thenK_r (blockK_r (thenK_r (ret1 rfl (.inr rfl) rfl ?_)))))))))))
    exact (by exact congrArg (fun r : Bool => (.bool r : Value)) (show _ = (F_vector_Before a b) from bif_f h3 (bif_f h4 (bif_t h5 rfl))))
   ·skip
    refine W_f h5 rfl (W_skip (J10 _ _ (Rk fun K J => sV (.int .i64 3) rfl rfl (sE rfl (nl J (J8 _ _ (Un_s (fun K11 J11 => Rs fun K J => sV (.bool false) rfl rfl (nl J (Sq fun K12 J12 => W_false rfl (W_exit (thenK_x (thenK_x (blockK_hit (J1 _ _ (Rs fun K J => sE rfl (nl J (W_ret ?_))))))))))))))))))
    refine ret1 rfl (.inr rfl) rfl ?_
    exact (by exact congrArg (fun r : Bool => (.bool r : Value)) (show _ = (F_vector_Before a b) from bif_f h3 (bif_f h4 (bif_f h5 rfl))))
end Go.Proofs.YthbjhbmpfeeilaaGreat
