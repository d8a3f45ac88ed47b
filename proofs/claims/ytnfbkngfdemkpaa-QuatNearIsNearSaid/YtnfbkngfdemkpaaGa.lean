/- Walks: what these functions return. -/
import Derived.Test.YtnfbkngfdemkpaaFa0
import Derived.Test.YtnfbkngfdemkpaaFn
import Derived.Test.YtnfbkngfdemkpaaWa
import Derived.Test.YtnfbkngfdemkpaaWc
import Derived.Test.YtnfbkngfdemkpaaWh
import Derived.Test.YtnfbkngfdemkpaaWi
namespace Go.Proofs.Ytnfbkngfdemkpaa
open Go.Kn Go.Num
set_option linter.unusedVariables false
set_option linter.unusedSimpArgs false
set_option maxRecDepth 20000
set_option maxHeartbeats 8000000
theorem ratio_one_ret  :
    Ret Try.prog 61 [] (AV [pI F_ratio_one]) := by
 refine ret_of_W (N := 2) Try.func61 rfl rfl (by simp) (fun w0 => ?_)
 simp only [initF, Nat.reduceAdd]
 obtain ⟨q0, hq0⟩ := nm ((E (Z.of 1)) : I)
 refine Rs fun K J => sN zp_33 rfl fun b1 hb1 => nl J (Rs fun K J => sC (AV [pI q0]) en_13 (whole_Of_ret (wl 1).1 (wl 1).2) rfl rfl (by rw [hq0]; first | done | rfl) ?_)
 refine sS [pI q0] ty_33 rfl rfl rfl rfl rfl (.head _) rfl hb1 (nl J (W_ret (ret1 rfl (.inr rfl) (resP rfl m0 ty_33 rfl) ?_)))
 exact (by subst hq0; rfl)

theorem ratio_Bad_ret  :
    Ret Try.prog 63 [] (AV [pI F_ratio_Bad.n, pI F_ratio_Bad.d]) := by
 refine ret_of_W (N := 4) Try.func63 rfl rfl (by simp) (fun w0 => ?_)
 simp only [initF, Nat.reduceAdd]
 obtain ⟨q0, hq0⟩ := nm ((E Z.bad) : I)
 obtain ⟨q1, hq1⟩ := nm (F_ratio_one : I)
 refine Rs fun K J => sN zp_44 rfl fun b1 hb1 => nl J (Rs fun K J => sC (AV [pI q0]) en_49 whole_Bad_ret rfl rfl (by rw [hq0]; first | done | rfl) (sC (AV [pI q1]) en_61 ratio_one_ret rfl rfl (by rw [hq1]; first | done | rfl) (sQ (q_buildsp zp_44 pl_44 rfl (.cons [pI q0] [pI q0, pI I0] rfl rfl rfl rfl (.cons [pI q1] [pI q0, pI q1] rfl rfl rfl rfl (.nil _)))) rfl (sS [pI q0, pI q1] ty_44 rfl rfl rfl rfl rfl (.head _) rfl hb1 (nl J (W_ret (ret1 rfl (.inr rfl) (resP rfl m0 ty_44 rfl) ?_)))))))
 exact (by subst hq1; subst hq0; rfl)

theorem ratio_good_ret (a : I) :
    Ret Try.prog 62 [AV [pI a]] (.bool (F_ratio_good a)) := by
 refine ret_of_W (N := 10) Try.func62 rfl rfl (by simp) (fun w0 => ?_)
 simp only [initF, Nat.reduceAdd]
 refine Rs fun K J => WL_r rfl (r_boxp rfl rfl (fun b1 hb1 => sE rfl (nl J ?_)))
 refine W_join [2, 3, 4, 5, 6, 7, 8, 9] (fun g M => (g 2 = .bool (!a.1.bad && a.1.valid)) ∧ M = [⟨b1, 33, flat [pI a]⟩]) (fun K1 J1 => ?_) ?_
 ·skip
  refine Rk fun K J => sQ (qF fd_33_0 rfl rfl) rfl (sQ (qC ty_4 rfl m0 rfl) rfl (sE rfl ?_))
  rcases bt a.1.bad with h3 | h3
  ·skip
   refine sB (not_f h3) rfl (WL_n rfl (WL_n rfl (sE rfl (sE rfl (nl J ?_)))))
   refine J1 _ _ (by repeat first | exact .refl | refine .cons rfl ?_) ⟨_, s0, ?s2, rfl⟩
   case s2 => exact congrArg Value.bool (nand_t h3)
  ·skip
   refine sB (not_t h3) rfl (sQ (qL ty_33 rfl m0 rfl) rfl (sC (.bool a.1.valid) en_25 (whole_Valid_ret a.1 a.2) rfl rfl rfl (sE rfl (sE rfl (nl J ?_)))))
   refine J1 _ _ (by repeat first | exact .refl | refine .cons rfl ?_) ⟨_, s0, ?s2, rfl⟩
   case s2 => exact congrArg Value.bool (nand_f h3 rfl)
 ·skip
  rintro g4 M ⟨hg2, rfl⟩
  simp only [setG, hg2]
  clear hg2
  refine W_ret (ret1 rfl (.inr rfl) rfl ?_)
  exact (by rfl)

theorem ratio_Make_ret (a : I) (b : I) :
    Ret Try.prog 44 [AV [pI a], AV [pI b]] (AV [pI ((F_ratio_Make a b).n), pI ((F_ratio_Make a b).d)]) := by
 refine ret_of_W (N := 35) Try.func44 rfl rfl (by simp) (fun w0 => ?_)
 simp only [initF, Nat.reduceAdd]
 refine Rs fun K J => WL_r rfl (r_boxp rfl rfl (fun b1 hb1 => WL_r rfl (r_boxp rfl rfl (fun b2 hb2 => sN zp_44 rfl fun b3 hb3 => nl J (Sq fun K1 J1 => ?_)))))
 refine W_join [6, 7, 8, 9, 10, 11, 12, 13, 14, 15, 16, 17, 18] (fun g M => (g 18 = .bool (!(F_ratio_good a) || (!(F_ratio_good b) || ((Z.signW b.dec).1 == 0)))) ∧ M = [⟨b3, 44, flat [pI I0, pI I0]⟩, ⟨b2, 33, flat [pI b]⟩, ⟨b1, 33, flat [pI a]⟩]) (fun K2 J2 => ?_) ?_
 ·skip
  refine Rk fun K J => sQ (qL ty_33 rfl m2 rfl) rfl (sQ (q_ret en_62 (ratio_good_ret a) rfl) rfl (sE rfl ?_))
  rcases bt (F_ratio_good a) with h6 | h6
  ·skip
   refine sB (not_f h6) rfl (sQ (qL ty_33 rfl m1 rfl) rfl (sQ (q_ret en_62 (ratio_good_ret b) rfl) rfl (sE rfl (sE rfl ?_))))
   rcases bt (F_ratio_good b) with h7 | h7
   ·skip
    refine sB (not_f h7) rfl (sQ (qL ty_33 rfl m1 rfl) rfl (sC (.int .i64 ((Z.signW b.dec).1)) en_30 (whole_Sign_ret b.1 b.2) rfl rfl rfl (sE rfl (sE rfl (nl J ?_)))))
    refine J2 _ _ (by repeat first | exact .refl | refine .cons rfl ?_) ⟨_, s0, ?s18, rfl⟩
    case s18 => exact congrArg Value.bool (nor_t h6 (nor_t h7 rfl))
   ·skip
    refine sB (not_t h7) rfl (WL_n rfl (WL_n rfl (WL_n rfl (sE rfl (nl J ?_)))))
    refine J2 _ _ (by repeat first | exact .refl | refine .cons rfl ?_) ⟨_, s0, ?s18, rfl⟩
    case s18 => exact congrArg Value.bool (nor_t h6 (nor_f h7))
  ·skip
   refine sB (not_t h6) rfl (WL_n rfl (WL_n rfl (WL_n rfl (sE rfl (sE rfl (WL_n rfl (WL_n rfl (WL_n rfl (sE rfl (nl J ?_))))))))))
   refine J2 _ _ (by repeat first | exact .refl | refine .cons rfl ?_) ⟨_, s0, ?s18, rfl⟩
   case s18 => exact congrArg Value.bool (nor_f h6)
 ·skip
  rintro g8 M ⟨hg18, rfl⟩
  simp only [setG, hg18]
  clear hg18
  rcases bt (!(F_ratio_good a) || (!(F_ratio_good b) || ((Z.signW b.dec).1 == 0))) with h9 | h9
  ·skip
   refine W_t h9 rfl (Rs fun K J => sQ (q_ret en_63 ratio_Bad_ret  rfl) rfl (sS [pI F_ratio_Bad.n, pI F_ratio_Bad.d] ty_44 rfl rfl rfl rfl rfl (.head _) rfl hb3 (nl J (W_ret (thenK_r (ret1 rfl (.inr rfl) (resP rfl m0 ty_44 rfl) ?_))))))
   exact (by exact congrArg (fun r : Rt => (AV [pI r.n, pI r.d] : Value)) (show _ = (F_ratio_Make a b) from bif_t h9 rfl))
  ·skip
   refine W_f h9 rfl (W_skip (J1 _ _ (Rs fun K J => sQ (qL ty_33 rfl m2 rfl) rfl (sQ (qL ty_33 rfl m1 rfl) rfl (sC (AV [pI (E (Z.gcd a.dec b.dec))]) en_27 (whole_Gcd_ret a.1 b.1 a.2 b.2) rfl rfl rfl (sN zp_33 rfl fun b10 hb10 => sS [pI (E (Z.gcd a.dec b.dec))] ty_33 rfl rfl rfl rfl rfl (.head _) rfl hb10 (nl J (Sq fun K3 J3 => Rs fun K J => sQ (qL ty_33 rfl m2 rfl) rfl (sC (.int .i64 ((Z.signW b.dec).1)) en_30 (whole_Sign_ret b.1 b.2) rfl rfl rfl (sE rfl (nl J ?_)))))))))))
   rcases bt (decide ((Z.signW b.dec).1 < 0)) with h11 | h11
   ·skip
    refine W_t h11 rfl (Rk fun K J => sQ (qL ty_33 rfl m0 rfl) rfl (sC (AV [pI (E (Z.neg (Z.gcd a.dec b.dec)))]) en_53 (whole_Neg_ret (E (Z.gcd a.dec b.dec)).1 (E (Z.gcd a.dec b.dec)).2) rfl rfl (cg1 (fun p => AV [pI (E (Z.neg p))]) (E_dec _)) (sS [pI (E (Z.neg (Z.gcd a.dec b.dec)))] ty_33 rfl rfl rfl rfl rfl (.head _) rfl hb10 (nl J (J3 _ _ (ds (sk (sd (sk (sk (s0))))) [0,4,8,12,16,20,24,29] [7] mix (by kernel_rfl) (fun K J => pQ rfl (qL ty_33 rfl m3 rfl) (pQ rfl (qL ty_33 rfl m0 rfl) (pC (AV [pI (E (Z.quo a.dec (Z.neg (Z.gcd a.dec b.dec))))]) en_31 (whole_Quo_ret a.1 (E (Z.neg (Z.gcd a.dec b.dec))).1 a.2 (E (Z.neg (Z.gcd a.dec b.dec))).2) rfl rfl (cg2 (fun p q => AV [pI (E (Z.quo p q))]) rfl (E_dec _)) (pQ rfl (qL ty_33 rfl m2 rfl) (pQ rfl (qL ty_33 rfl m0 rfl) (pC (AV [pI (E (Z.quo b.dec (Z.neg (Z.gcd a.dec b.dec))))]) en_31 (whole_Quo_ret b.1 (E (Z.neg (Z.gcd a.dec b.dec))).1 b.2 (E (Z.neg (Z.gcd a.dec b.dec))).2) rfl rfl (cg2 (fun p q => AV [pI (E (Z.quo p q))]) rfl (E_dec _)) (pQ rfl (q_buildsp zp_44 pl_44 rfl (.cons [pI (E (Z.quo a.dec (Z.neg (Z.gcd a.dec b.dec))))] [pI (E (Z.quo a.dec (Z.neg (Z.gcd a.dec b.dec)))), pI I0] rfl rfl rfl rfl (.cons [pI (E (Z.quo b.dec (Z.neg (Z.gcd a.dec b.dec))))] [pI (E (Z.quo a.dec (Z.neg (Z.gcd a.dec b.dec)))), pI (E (Z.quo b.dec (Z.neg (Z.gcd a.dec b.dec))))] rfl rfl rfl rfl (.nil _)))) (oS [pI (E (Z.quo a.dec (Z.neg (Z.gcd a.dec b.dec)))), pI (E (Z.quo b.dec (Z.neg (Z.gcd a.dec b.dec))))] ty_44 rfl rfl rfl rfl rfl rfl (.tail _ (.head _)) rfl hb3 rfl (sk (sd s0)) (fl J (W_ret (ret1 rfl (.inr rfl) (resP rfl m1 ty_44 rfl) ?_)))))))))))))))))
    exact (by exact congrArg (fun r : Rt => (AV [pI r.n, pI r.d] : Value)) (show _ = (F_ratio_Make a b) from bif_f h9 (bif_t h11 rfl)))
   ·skip
    refine W_f h11 rfl (W_skip (J3 _ _ (ds (sk (sd (sk (sk (s0))))) [0,4,8,12,16,20,24,29] [7] mix (by kernel_rfl) (fun K J => pQ rfl (qL ty_33 rfl m3 rfl) (pQ rfl (qL ty_33 rfl m0 rfl) (pC (AV [pI (E (Z.quo a.dec (Z.gcd a.dec b.dec)))]) en_31 (whole_Quo_ret a.1 (E (Z.gcd a.dec b.dec)).1 a.2 (E (Z.gcd a.dec b.dec)).2) rfl rfl (cg2 (fun p q => AV [pI (E (Z.quo p q))]) rfl (E_dec _)) (pQ rfl (qL ty_33 rfl m2 rfl) (pQ rfl (qL ty_33 rfl m0 rfl) (pC (AV [pI (E (Z.quo b.dec (Z.gcd a.dec b.dec)))]) en_31 (whole_Quo_ret b.1 (E (Z.gcd a.dec b.dec)).1 b.2 (E (Z.gcd a.dec b.dec)).2) rfl rfl (cg2 (fun p q => AV [pI (E (Z.quo p q))]) rfl (E_dec _)) (pQ rfl (q_buildsp zp_44 pl_44 rfl (.cons [pI (E (Z.quo a.dec (Z.gcd a.dec b.dec)))] [pI (E (Z.quo a.dec (Z.gcd a.dec b.dec))), pI I0] rfl rfl rfl rfl (.cons [pI (E (Z.quo b.dec (Z.gcd a.dec b.dec)))] [pI (E (Z.quo a.dec (Z.gcd a.dec b.dec))), pI (E (Z.quo b.dec (Z.gcd a.dec b.dec)))] rfl rfl rfl rfl (.nil _)))) (oS [pI (E (Z.quo a.dec (Z.gcd a.dec b.dec))), pI (E (Z.quo b.dec (Z.gcd a.dec b.dec)))] ty_44 rfl rfl rfl rfl rfl rfl (.tail _ (.head _)) rfl hb3 rfl (sk (sd s0)) (fl J (W_ret (ret1 rfl (.inr rfl) (resP rfl m1 ty_44 rfl) ?_))))))))))))))
    exact (by exact congrArg (fun r : Rt => (AV [pI r.n, pI r.d] : Value)) (show _ = (F_ratio_Make a b) from bif_f h9 (bif_f h11 rfl)))

theorem ratio_Whole_ret (a : I) :
    Ret Try.prog 43 [AV [pI a]] (AV [pI ((F_ratio_Whole a).n), pI ((F_ratio_Whole a).d)]) := by
 refine ret_of_W (N := 6) Try.func43 rfl rfl (by simp) (fun w0 => ?_)
 simp only [initF, Nat.reduceAdd]
 refine Rs fun K J => WL_r rfl (r_boxp rfl rfl (fun b1 hb1 => sN zp_44 rfl fun b2 hb2 => nl J (ds (sd (sk (s0))) [0,4,8,13] [3] mix (by kernel_rfl) (fun K J => pQ rfl (qL ty_33 rfl m1 rfl) (pQ rfl (q_ret en_61 ratio_one_ret  rfl) (pQ rfl (q_ret en_44 (ratio_Make_ret a F_ratio_one) rfl) (oS [pI ((F_ratio_Make a F_ratio_one).n), pI ((F_ratio_Make a F_ratio_one).d)] ty_44 rfl rfl rfl rfl rfl rfl (.head _) rfl hb2 rfl (sd s0) (fl J (W_ret (ret1 rfl (.inr rfl) (resP rfl m0 ty_44 rfl) ?_))))))))))
 exact (by rfl)

theorem ratio_Of_ret (a : W) :
    Ret Try.prog 18 [.int .i64 a.1] (AV [pI ((F_ratio_Of a).n), pI ((F_ratio_Of a).d)]) := by
 refine ret_of_W (N := 6) Try.func18 rfl rfl (by simp) (fun w0 => ?_)
 simp only [initF, Nat.reduceAdd]
 refine Rs fun K J => sN zp_44 rfl fun b1 hb1 => nl J (Rs fun K J => sE rfl (sC (AV [pI (E (Z.of a.1))]) en_13 (whole_Of_ret a.1 a.2) rfl rfl rfl (sQ (q_ret en_43 (ratio_Whole_ret (E (Z.of a.1))) rfl) rfl (sS [pI ((F_ratio_Whole (E (Z.of a.1))).n), pI ((F_ratio_Whole (E (Z.of a.1))).d)] ty_44 rfl rfl rfl rfl rfl (.head _) rfl hb1 (nl J (W_ret (ret1 rfl (.inr rfl) (resP rfl m0 ty_44 rfl) ?_)))))))
 exact (by rfl)

theorem ratio_Frac_ret (a : W) (b : W) :
    Ret Try.prog 21 [.int .i64 a.1, .int .i64 b.1] (AV [pI ((F_ratio_Frac a b).n), pI ((F_ratio_Frac a b).d)]) := by
 refine ret_of_W (N := 10) Try.func21 rfl rfl (by simp) (fun w0 => ?_)
 simp only [initF, Nat.reduceAdd]
 refine Rs fun K J => sN zp_44 rfl fun b1 hb1 => nl J (Rs fun K J => sE rfl (sC (AV [pI (E (Z.of a.1))]) en_13 (whole_Of_ret a.1 a.2) rfl rfl rfl (sE rfl (sC (AV [pI (E (Z.of b.1))]) en_13 (whole_Of_ret b.1 b.2) rfl rfl rfl ?_))))
 obtain ⟨r2, hr2⟩ := nm ((F_ratio_Make (E (Z.of a.1)) (E (Z.of b.1))) : Rt)
 refine sC (AV [pI r2.n, pI r2.d]) en_44 (ratio_Make_ret (E (Z.of a.1)) (E (Z.of b.1))) rfl rfl (by rw [hr2]; first | done | rfl) (sS [pI r2.n, pI r2.d] ty_44 rfl rfl rfl rfl rfl (.head _) rfl hb1 (nl J (W_ret (ret1 rfl (.inr rfl) (resP rfl m0 ty_44 rfl) ?_))))
 exact (by subst hr2; rfl)
end Go.Proofs.Ytnfbkngfdemkpaa
