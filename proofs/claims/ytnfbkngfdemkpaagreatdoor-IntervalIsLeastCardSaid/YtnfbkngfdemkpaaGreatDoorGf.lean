/- Walks: what these functions return. -/
import Derived.Test.YtnfbkngfdemkpaaGreatDoorFa0
import Derived.Test.YtnfbkngfdemkpaaGreatDoorFi
import Derived.Test.YtnfbkngfdemkpaaGreatDoorGa
import Derived.Test.YtnfbkngfdemkpaaGreatDoorGc
import Derived.Test.YtnfbkngfdemkpaaGreatDoorGd
import Derived.Test.YtnfbkngfdemkpaaGreatDoorSg
import Derived.Test.YtnfbkngfdemkpaaGreatDoorSl
import Derived.Test.YtnfbkngfdemkpaaGreatDoorWc
import Derived.Test.YtnfbkngfdemkpaaGreatDoorWh
import Derived.Test.YtnfbkngfdemkpaaGreatDoorWk
namespace Go.Proofs.YtnfbkngfdemkpaaGreatDoor
open Go.Kn Go.Num
set_option linter.unusedVariables false
set_option linter.unusedSimpArgs false
set_option maxRecDepth 20000
set_option maxHeartbeats 8000000
theorem ratio_Frac_ret (a : W) (b : W) :
    Ret Tryz.prog 58 [.int .i64 a.1, .int .i64 b.1] (AV [pI ((F_ratio_Frac a b).n), pI ((F_ratio_Frac a b).d)]) := by
 refine ret_of_W (N := 10) Tryz.func58 rfl rfl (by simp) (fun w0 => ?_)
 simp only [initF, Nat.reduceAdd]
 refine Rs fun K J => sN zp_28 rfl fun b1 hb1 => nl J (Rs fun K J => sE rfl (sC (AV [pI (E (Z.of a.1))]) en_80 (whole_Of_ret a.1 a.2) rfl rfl rfl (sE rfl (sC (AV [pI (E (Z.of b.1))]) en_80 (whole_Of_ret b.1 b.2) rfl rfl rfl ?_))))
 obtain ⟨r2, hr2⟩ := nm ((F_ratio_Make (E (Z.of a.1)) (E (Z.of b.1))) : Rt)
 refine sC (AV [pI r2.n, pI r2.d]) en_77 (ratio_Make_ret (E (Z.of a.1)) (E (Z.of b.1))) rfl rfl (by rw [hr2]; first | done | rfl) (sS [pI r2.n, pI r2.d] ty_28 rfl rfl rfl rfl rfl (.head _) rfl hb1 (nl J (W_ret (ret1 rfl (.inr rfl) (resP rfl m0 ty_28 rfl) ?_))))
 exact (by subst hr2; rfl)

theorem ratio_Sign_ret (a : Rt) :
    Ret Tryz.prog 74 [AV [pI a.n, pI a.d]] (.int .i64 ((F_ratio_Sign a).1)) := by
 refine ret_of_W (N := 9) Tryz.func74 rfl rfl (by simp) (fun w0 => ?_)
 simp only [initF, Nat.reduceAdd]
 refine Rs fun K J => WL_r rfl (r_boxp rfl rfl (fun b1 hb1 => sE rfl (nl J (Sq fun K1 J1 => Rs fun K J => sQ (qL ty_28 rfl m0 rfl) rfl (sQ (q_ret en_65 (ratio_Good_ret a) rfl) rfl (sE rfl (nl J ?_)))))))
 rcases bt (F_ratio_Good a) with h2 | h2
 ·skip
  refine W_f (not_f h2) rfl (W_skip (J1 _ _ (Rs fun K J => sQ (qF fd_28_0 rfl rfl) rfl (sQ (qL ty_26 rfl m0 rfl) rfl (sC (.int .i64 ((Z.signW a.n.dec).1)) en_103 (whole_Sign_ret a.n.1 a.n.2) rfl rfl rfl (sE rfl (nl J (W_ret (ret1 rfl (.inr rfl) rfl ?_)))))))))
  exact (by exact congrArg (fun r : W => (.int .i64 r.1 : Value)) (show _ = (F_ratio_Sign a) from bif_t h2 rfl))
 ·skip
  refine W_t (not_t h2) rfl (Rs fun K J => sE rfl (nl J (W_ret (thenK_r (ret1 rfl (.inr rfl) rfl ?_)))))
  exact (by exact congrArg (fun r : W => (.int .i64 r.1 : Value)) (show _ = (F_ratio_Sign a) from bif_f h2 rfl))

theorem ratio_Abs_ret (a : Rt) :
    Ret Tryz.prog 40 [AV [pI a.n, pI a.d]] (AV [pI ((F_ratio_Abs a).n), pI ((F_ratio_Abs a).d)]) := by
 refine ret_of_W (N := 11) Tryz.func40 rfl rfl (by simp) (fun w0 => ?_)
 simp only [initF, Nat.reduceAdd]
 refine Rs fun K J => WL_r rfl (r_boxp rfl rfl (fun b1 hb1 => sN zp_28 rfl fun b2 hb2 => nl J (Sq fun K1 J1 => Rs fun K J => sQ (qL ty_28 rfl m1 rfl) rfl (sQ (q_ret en_74 (ratio_Sign_ret a) rfl) rfl (sE rfl (nl J ?_))))))
 rcases bt (decide ((F_ratio_Sign a).1 < 0)) with h3 | h3
 ·skip
  refine W_t h3 rfl (Rs fun K J => sQ (qL ty_28 rfl m1 rfl) rfl (sQ (q_ret en_57 (ratio_Neg_ret a) rfl) rfl (sS [pI ((F_ratio_Neg a).n), pI ((F_ratio_Neg a).d)] ty_28 rfl rfl rfl rfl rfl (.head _) rfl hb2 (nl J (W_ret (thenK_r (ret1 rfl (.inr rfl) (resP rfl m0 ty_28 rfl) ?_)))))))
  exact (by exact congrArg (fun r : Rt => (AV [pI r.n, pI r.d] : Value)) (show _ = (F_ratio_Abs a) from bif_t h3 rfl))
 ·skip
  refine W_f h3 rfl (W_skip (J1 _ _ (Rs fun K J => sQ (qL ty_28 rfl m1 rfl) rfl (sQ (q_ret en_57 (ratio_Neg_ret a) rfl) rfl (sQ (q_ret en_57 (ratio_Neg_ret (F_ratio_Neg a)) rfl) rfl (sS [pI ((F_ratio_Neg (F_ratio_Neg a)).n), pI ((F_ratio_Neg (F_ratio_Neg a)).d)] ty_28 rfl rfl rfl rfl rfl (.head _) rfl hb2 (nl J (W_ret (ret1 rfl (.inr rfl) (resP rfl m0 ty_28 rfl) ?_)))))))))
  exact (by exact congrArg (fun r : Rt => (AV [pI r.n, pI r.d] : Value)) (show _ = (F_ratio_Abs a) from bif_f h3 rfl))

theorem ratio_Div_ret (a : Rt) (b : Rt) :
    Ret Tryz.prog 39 [AV [pI a.n, pI a.d], AV [pI b.n, pI b.d]] (AV [pI ((F_ratio_Div a b).n), pI ((F_ratio_Div a b).d)]) := by
 refine ret_of_W (N := 16) Tryz.func39 rfl rfl (by simp) (fun w0 => ?_)
 simp only [initF, Nat.reduceAdd]
 refine Rs fun K J => WL_r rfl (r_boxp rfl rfl (fun b1 hb1 => WL_r rfl (r_boxp rfl rfl (fun b2 hb2 => sN zp_28 rfl fun b3 hb3 => nl J (Sq fun K1 J1 => Rs fun K J => sQ (qL ty_28 rfl m1 rfl) rfl (sQ (q_ret en_65 (ratio_Good_ret b) rfl) rfl (sE rfl (nl J ?_))))))))
 rcases bt (F_ratio_Good b) with h4 | h4
 ·skip
  refine W_f (not_f h4) rfl (W_skip (J1 _ _ (ds (sd (sk (sk (s0)))) [0,4,8,12,16,20,24,29] [7] mix (by kernel_rfl) (fun K J => pQ rfl (qL ty_28 rfl m2 rfl) (pQ rfl (qF fd_28_1 rfl rfl) (pQ rfl (qL ty_26 rfl m1 rfl) (pQ rfl (qF fd_28_0 rfl rfl) (pQ rfl (qL ty_26 rfl m1 rfl) (pQ rfl (q_ret en_77 (ratio_Make_ret b.d b.n) rfl) ?_)))))))))
  obtain ⟨r5, hr5⟩ := nm ((F_ratio_Mul a (F_ratio_Make b.d b.n)) : Rt)
  refine pC (AV [pI r5.n, pI r5.d]) en_36 (ratio_Mul_ret a (F_ratio_Make b.d b.n)) rfl rfl (by rw [hr5]; first | done | rfl) (oS [pI r5.n, pI r5.d] ty_28 rfl rfl rfl rfl rfl rfl (.head _) rfl hb3 rfl (sd s0) (fl J (W_ret (ret1 rfl (.inr rfl) (resP rfl m0 ty_28 rfl) ?_))))
  exact (by subst hr5; exact congrArg (fun r : Rt => (AV [pI r.n, pI r.d] : Value)) (show _ = (F_ratio_Div a b) from bif_t h4 rfl))
 ·skip
  refine W_t (not_t h4) rfl (Rs fun K J => sQ (q_ret en_76 ratio_Bad_ret  rfl) rfl (sS [pI F_ratio_Bad.n, pI F_ratio_Bad.d] ty_28 rfl rfl rfl rfl rfl (.head _) rfl hb3 (nl J (W_ret (thenK_r (ret1 rfl (.inr rfl) (resP rfl m0 ty_28 rfl) ?_))))))
  exact (by exact congrArg (fun r : Rt => (AV [pI r.n, pI r.d] : Value)) (show _ = (F_ratio_Div a b) from bif_f h4 rfl))

theorem ratio_Mid_ret (a : Rt) (b : Rt) :
    Ret Tryz.prog 92 [AV [pI a.n, pI a.d], AV [pI b.n, pI b.d]] (AV [pI ((F_ratio_Mid a b).n), pI ((F_ratio_Mid a b).d)]) := by
 refine ret_of_W (N := 10) Tryz.func92 rfl rfl (by simp) (fun w0 => ?_)
 simp only [initF, Nat.reduceAdd]
 refine Rs fun K J => WL_r rfl (r_boxp rfl rfl (fun b1 hb1 => WL_r rfl (r_boxp rfl rfl (fun b2 hb2 => sN zp_28 rfl fun b3 hb3 => nl J (Rs fun K J => sQ (qL ty_28 rfl m2 rfl) rfl (sQ (qL ty_28 rfl m1 rfl) rfl (sQ (q_ret en_55 (ratio_Add_ret a b) rfl) rfl (sQ (q_ret en_58 (ratio_Frac_ret (wl 1) (wl 2)) rfl) rfl ?_))))))))
 obtain ⟨r4, hr4⟩ := nm ((F_ratio_Mul (F_ratio_Add a b) (F_ratio_Frac (wl 1) (wl 2))) : Rt)
 refine sC (AV [pI r4.n, pI r4.d]) en_36 (ratio_Mul_ret (F_ratio_Add a b) (F_ratio_Frac (wl 1) (wl 2))) rfl rfl (by rw [hr4]; first | done | rfl) ?_
 refine sS [pI r4.n, pI r4.d] ty_28 rfl rfl rfl rfl rfl (.head _) rfl hb3 (nl J (W_ret (ret1 rfl (.inr rfl) (resP rfl m0 ty_28 rfl) ?_)))
 exact (by subst hr4; rfl)

theorem ratio_Min_ret (a : Rt) (b : Rt) :
    Ret Tryz.prog 70 [AV [pI a.n, pI a.d], AV [pI b.n, pI b.d]] (AV [pI ((F_ratio_Min a b).n), pI ((F_ratio_Min a b).d)]) := by
 refine ret_of_W (N := 22) Tryz.func70 rfl rfl (by simp) (fun w0 => ?_)
 simp only [initF, Nat.reduceAdd]
 refine Rs fun K J => WL_r rfl (r_boxp rfl rfl (fun b1 hb1 => WL_r rfl (r_boxp rfl rfl (fun b2 hb2 => sN zp_28 rfl fun b3 hb3 => nl J (Sq fun K1 J1 => W_block ?_)))))
 refine W_join [5, 6, 7, 8, 9, 10, 11, 12, 13] (fun g M => (g 5 = .bool (!(F_ratio_Good a) || (!(F_ratio_Good b)))) ∧ M = [⟨b3, 28, flat [pI I0, pI I0]⟩, ⟨b2, 28, flat [pI b.n, pI b.d]⟩, ⟨b1, 28, flat [pI a.n, pI a.d]⟩]) (fun K2 J2 => ?_) ?_
 ·skip
  refine Rk fun K J => sQ (qL ty_28 rfl m2 rfl) rfl (sQ (q_ret en_65 (ratio_Good_ret a) rfl) rfl (sE rfl ?_))
  rcases bt (F_ratio_Good a) with h5 | h5
  ·skip
   refine sB (not_f h5) rfl (sQ (qL ty_28 rfl m1 rfl) rfl (sQ (q_ret en_65 (ratio_Good_ret b) rfl) rfl (sE rfl (sE rfl (sE rfl (nl J ?_))))))
   refine J2 _ _ (by repeat first | exact .refl | refine .cons rfl ?_) ⟨_, s0, ?s5, rfl⟩
   case s5 => exact congrArg Value.bool (nor_t h5 rfl)
  ·skip
   refine sB (not_t h5) rfl (WL_n rfl (WL_n rfl (WL_n rfl (sE rfl (sE rfl (nl J ?_))))))
   refine J2 _ _ (by repeat first | exact .refl | refine .cons rfl ?_) ⟨_, s0, ?s5, rfl⟩
   case s5 => exact congrArg Value.bool (nor_f h5)
 ·skip
  rintro g6 M ⟨hg5, rfl⟩
  simp only [setG, hg5]
  clear hg5
  rcases bt (!(F_ratio_Good a) || (!(F_ratio_Good b))) with h7 | h7
  ·skip
   refine W_t h7 rfl (Rs fun K J => sQ (q_ret en_76 ratio_Bad_ret  rfl) rfl (sS [pI F_ratio_Bad.n, pI F_ratio_Bad.d] ty_28 rfl rfl rfl rfl rfl (.head _) rfl hb3 (nl J (W_ret (blockK_r (thenK_r (ret1 rfl (.inr rfl) (resP rfl m0 ty_28 rfl) ?_)))))))
   exact (by exact congrArg (fun r : Rt => (AV [pI r.n, pI r.d] : Value)) (show _ = (F_ratio_Min a b) from bif_t h7 rfl))
  ·skip
   refine W_f h7 rfl (Rs fun K J => sQ (qL ty_28 rfl m2 rfl) rfl (sQ (qL ty_28 rfl m1 rfl) rfl (sQ (q_ret en_60 (ratio_Cmp_ret a b) rfl) rfl (sE rfl (sE rfl (nl J ?_))))))
   rcases bt (decide (0 < (F_ratio_Cmp a b).1)) with h8 | h8
   ·skip
    refine W_t h8 rfl (Rs fun K J => sQ (qL ty_28 rfl m1 rfl) rfl (sS [pI b.n, pI b.d] ty_28 rfl rfl rfl rfl rfl (.head _) rfl hb3 (nl J (W_ret (blockK_r (thenK_r (ret1 rfl (.inr rfl) (resP rfl m0 ty_28 rfl) ?_)))))))
    exact (by exact congrArg (fun r : Rt => (AV [pI r.n, pI r.d] : Value)) (show _ = (F_ratio_Min a b) from bif_f h7 (bif_t h8 rfl)))
   ·skip
    refine W_f h8 rfl (W_skip (J1 _ _ (Rs fun K J => sQ (qL ty_28 rfl m2 rfl) rfl (sS [pI a.n, pI a.d] ty_28 rfl rfl rfl rfl rfl (.head _) rfl hb3 (nl J (W_ret (ret1 rfl (.inr rfl) (resP rfl m0 ty_28 rfl) ?_)))))))
    exact (by exact congrArg (fun r : Rt => (AV [pI r.n, pI r.d] : Value)) (show _ = (F_ratio_Min a b) from bif_f h7 (bif_f h8 rfl)))

theorem ratio_Max_ret (a : Rt) (b : Rt) :
    Ret Tryz.prog 69 [AV [pI a.n, pI a.d], AV [pI b.n, pI b.d]] (AV [pI ((F_ratio_Max a b).n), pI ((F_ratio_Max a b).d)]) := by
 refine ret_of_W (N := 22) Tryz.func69 rfl rfl (by simp) (fun w0 => ?_)
 simp only [initF, Nat.reduceAdd]
 refine Rs fun K J => WL_r rfl (r_boxp rfl rfl (fun b1 hb1 => WL_r rfl (r_boxp rfl rfl (fun b2 hb2 => sN zp_28 rfl fun b3 hb3 => nl J (Sq fun K1 J1 => W_block ?_)))))
 refine W_join [5, 6, 7, 8, 9, 10, 11, 12, 13] (fun g M => (g 5 = .bool (!(F_ratio_Good a) || (!(F_ratio_Good b)))) ∧ M = [⟨b3, 28, flat [pI I0, pI I0]⟩, ⟨b2, 28, flat [pI b.n, pI b.d]⟩, ⟨b1, 28, flat [pI a.n, pI a.d]⟩]) (fun K2 J2 => ?_) ?_
 ·skip
  refine Rk fun K J => sQ (qL ty_28 rfl m2 rfl) rfl (sQ (q_ret en_65 (ratio_Good_ret a) rfl) rfl (sE rfl ?_))
  rcases bt (F_ratio_Good a) with h5 | h5
  ·skip
   refine sB (not_f h5) rfl (sQ (qL ty_28 rfl m1 rfl) rfl (sQ (q_ret en_65 (ratio_Good_ret b) rfl) rfl (sE rfl (sE rfl (sE rfl (nl J ?_))))))
   refine J2 _ _ (by repeat first | exact .refl | refine .cons rfl ?_) ⟨_, s0, ?s5, rfl⟩
   case s5 => exact congrArg Value.bool (nor_t h5 rfl)
  ·skip
   refine sB (not_t h5) rfl (WL_n rfl (WL_n rfl (WL_n rfl (sE rfl (sE rfl (nl J ?_))))))
   refine J2 _ _ (by repeat first | exact .refl | refine .cons rfl ?_) ⟨_, s0, ?s5, rfl⟩
   case s5 => exact congrArg Value.bool (nor_f h5)
 ·skip
  rintro g6 M ⟨hg5, rfl⟩
  simp only [setG, hg5]
  clear hg5
  rcases bt (!(F_ratio_Good a) || (!(F_ratio_Good b))) with h7 | h7
  ·skip
   refine W_t h7 rfl (Rs fun K J => sQ (q_ret en_76 ratio_Bad_ret  rfl) rfl (sS [pI F_ratio_Bad.n, pI F_ratio_Bad.d] ty_28 rfl rfl rfl rfl rfl (.head _) rfl hb3 (nl J (W_ret (blockK_r (thenK_r (ret1 rfl (.inr rfl) (resP rfl m0 ty_28 rfl) ?_)))))))
   exact (by exact congrArg (fun r : Rt => (AV [pI r.n, pI r.d] : Value)) (show _ = (F_ratio_Max a b) from bif_t h7 rfl))
  ·skip
   refine W_f h7 rfl (Rs fun K J => sQ (qL ty_28 rfl m2 rfl) rfl (sQ (qL ty_28 rfl m1 rfl) rfl (sQ (q_ret en_60 (ratio_Cmp_ret a b) rfl) rfl (sE rfl (sE rfl (nl J ?_))))))
   rcases bt (decide ((F_ratio_Cmp a b).1 < 0)) with h8 | h8
   ·skip
    refine W_t h8 rfl (Rs fun K J => sQ (qL ty_28 rfl m1 rfl) rfl (sS [pI b.n, pI b.d] ty_28 rfl rfl rfl rfl rfl (.head _) rfl hb3 (nl J (W_ret (blockK_r (thenK_r (ret1 rfl (.inr rfl) (resP rfl m0 ty_28 rfl) ?_)))))))
    exact (by exact congrArg (fun r : Rt => (AV [pI r.n, pI r.d] : Value)) (show _ = (F_ratio_Max a b) from bif_f h7 (bif_t h8 rfl)))
   ·skip
    refine W_f h8 rfl (W_skip (J1 _ _ (Rs fun K J => sQ (qL ty_28 rfl m2 rfl) rfl (sS [pI a.n, pI a.d] ty_28 rfl rfl rfl rfl rfl (.head _) rfl hb3 (nl J (W_ret (ret1 rfl (.inr rfl) (resP rfl m0 ty_28 rfl) ?_)))))))
    exact (by exact congrArg (fun r : Rt => (AV [pI r.n, pI r.d] : Value)) (show _ = (F_ratio_Max a b) from bif_f h7 (bif_f h8 rfl)))

theorem ratio_Dyadic_ret (a : Rt) (b : W) :
    Ret Tryz.prog 75 [AV [pI a.n, pI a.d], .int .i64 b.1] (.tuple #[AV [pI (((F_ratio_Dyadic a b).1).n), pI (((F_ratio_Dyadic a b).1).d)], AV [pI (((F_ratio_Dyadic a b).2).n), pI (((F_ratio_Dyadic a b).2).d)]]) := by
 refine ret_of_W (N := 54) Tryz.func75 rfl rfl (by simp) (fun w0 => ?_)
 simp only [initF, Nat.reduceAdd]
 refine Rs fun K J => WL_r rfl (r_boxp rfl rfl (fun b1 hb1 => sN zp_28 rfl fun b2 hb2 => sN zp_28 rfl fun b3 hb3 => nl J (Sq fun K1 J1 => ?_)))
 refine W_join [8, 9, 10, 11, 12, 13, 14, 15, 16, 17, 18] (fun g M => (g 18 = .bool (!(F_ratio_Good a) || (decide (b.1 < 0) || decide (256 < b.1)))) ∧ M = [⟨b3, 28, flat [pI I0, pI I0]⟩, ⟨b2, 28, flat [pI I0, pI I0]⟩, ⟨b1, 28, flat [pI a.n, pI a.d]⟩]) (fun K2 J2 => ?_) ?_
 ·skip
  refine Rk fun K J => sQ (qL ty_28 rfl m2 rfl) rfl (sQ (q_ret en_65 (ratio_Good_ret a) rfl) rfl (sE rfl ?_))
  rcases bt (F_ratio_Good a) with h6 | h6
  ·skip
   refine sB (not_f h6) rfl (sE rfl (sE rfl (sE rfl ?_)))
   rcases bt (decide (b.1 < 0)) with h7 | h7
   ·skip
    refine sB h7 rfl (WL_n rfl (WL_n rfl (sE rfl (nl J ?_))))
    refine J2 _ _ (by repeat first | exact .refl | refine .cons rfl ?_) ⟨_, s0, ?s18, rfl⟩
    case s18 => exact congrArg Value.bool (nor_t h6 (or_t h7))
   ·skip
    refine sB h7 rfl (sE rfl (sE rfl (sE rfl (nl J ?_))))
    refine J2 _ _ (by repeat first | exact .refl | refine .cons rfl ?_) ⟨_, s0, ?s18, rfl⟩
    case s18 => exact congrArg Value.bool (nor_t h6 (or_f h7 rfl))
  ·skip
   refine sB (not_t h6) rfl (WL_n rfl (WL_n rfl (sE rfl (sE rfl (WL_n rfl (WL_n rfl (sE rfl (nl J ?_))))))))
   refine J2 _ _ (by repeat first | exact .refl | refine .cons rfl ?_) ⟨_, s0, ?s18, rfl⟩
   case s18 => exact congrArg Value.bool (nor_f h6)
 ·skip
  rintro g8 M ⟨hg18, rfl⟩
  simp only [setG, hg18]
  clear hg18
  rcases bt (!(F_ratio_Good a) || (decide (b.1 < 0) || decide (256 < b.1))) with h9 | h9
  ·skip
   refine W_t h9 rfl (Rs fun K J => sQ (q_ret en_76 ratio_Bad_ret  rfl) rfl (sQ (q_ret en_76 ratio_Bad_ret  rfl) rfl (sS [pI F_ratio_Bad.n, pI F_ratio_Bad.d] ty_28 rfl rfl rfl rfl rfl (.tail _ (.head _)) rfl hb2 (sS [pI F_ratio_Bad.n, pI F_ratio_Bad.d] ty_28 rfl rfl rfl rfl rfl (.head _) rfl hb3 (nl J (W_ret (thenK_r (ret2 rfl (.inr rfl) (resP rfl m1 ty_28 rfl) (resP rfl m0 ty_28 rfl) ?_))))))))
   exact (by exact congrArg (fun r : Rt × Rt => (.tuple #[AV [pI r.1.n, pI r.1.d], AV [pI r.2.n, pI r.2.d]] : Value)) (show _ = (F_ratio_Dyadic a b) from bif_t h9 rfl))
  ·skip
   refine W_f h9 rfl (W_skip (J1 _ _ (Rs fun K J => sQ (qF fd_28_0 rfl rfl) rfl (sQ (qL ty_26 rfl m2 rfl) rfl (sE rfl (sC (AV [pI (E (Z.shl a.n.dec b.1))]) en_116 (whole_Shift_ret a.n.1 a.n.2 b (Int.not_lt.1 (of_decide_eq_false (by first | assumption | exact or3_b (by assumption))))) rfl rfl rfl ?_))))))
   refine sQ (q_ret en_106 ratio_one_ret  rfl) rfl (sE rfl (sC (AV [pI (E (Z.shl F_ratio_one.dec b.1))]) en_116 (whole_Shift_ret F_ratio_one.1 F_ratio_one.2 b (Int.not_lt.1 (of_decide_eq_false (by first | assumption | exact or3_b (by assumption))))) rfl rfl rfl ?_))
   refine sN zp_26 rfl fun b10 hb10 => sN zp_26 rfl fun b11 hb11 => sS [pI (E (Z.shl a.n.dec b.1))] ty_26 rfl rfl rfl rfl rfl (.tail _ (.head _)) rfl hb10 (sS [pI (E (Z.shl F_ratio_one.dec b.1))] ty_26 rfl rfl rfl rfl rfl (.head _) rfl hb11 (nl J (ds (sk (sk (sk (sd (sk (s0)))))) [0,4,8,12,16,20,25] [6] mix (by kernel_rfl) (fun K J => pQ rfl (qL ty_26 rfl m1 rfl) (pQ rfl (qF fd_28_1 rfl rfl) (pQ rfl (qL ty_26 rfl m4 rfl) (pC (AV [pI (E (Z.quo (Z.shl a.n.dec b.1) a.d.dec))]) en_96 (whole_Quo_ret (E (Z.shl a.n.dec b.1)).1 a.d.1 (E (Z.shl a.n.dec b.1)).2 a.d.2) rfl rfl (cg2 (fun p q => AV [pI (E (Z.quo p q))]) (E_dec _) rfl) (pQ rfl (qL ty_26 rfl m0 rfl) ?_))))))))
   obtain ⟨r12, hr12⟩ := nm ((F_ratio_Make (E (Z.quo (Z.shl a.n.dec b.1) a.d.dec)) (E (Z.shl F_ratio_one.dec b.1))) : Rt)
   refine pC (AV [pI r12.n, pI r12.d]) en_77 (ratio_Make_ret (E (Z.quo (Z.shl a.n.dec b.1) a.d.dec)) (E (Z.shl F_ratio_one.dec b.1))) rfl rfl (by rw [hr12]; first | done | rfl) (oS [pI r12.n, pI r12.d] ty_28 rfl rfl rfl rfl rfl rfl (.tail _ (.tail _ (.tail _ (.head _)))) rfl hb2 rfl (sk (sk (sk (sd s0)))) (fl J (ds (sk (sk (sd (sk (sk (s0)))))) [0,4,8,12,16,20,24,28,33] [8] mix (by kernel_rfl) (fun K J => pQ rfl (qL ty_26 rfl m1 rfl) (pC (AV [pI (E (Z.neg (Z.shl a.n.dec b.1)))]) en_98 (whole_Neg_ret (E (Z.shl a.n.dec b.1)).1 (E (Z.shl a.n.dec b.1)).2) rfl rfl (cg1 (fun p => AV [pI (E (Z.neg p))]) (E_dec _)) (pQ rfl (qF fd_28_1 rfl rfl) (pQ rfl (qL ty_26 rfl m4 rfl) (pC (AV [pI (E (Z.quo (Z.neg (Z.shl a.n.dec b.1)) a.d.dec))]) en_96 (whole_Quo_ret (E (Z.neg (Z.shl a.n.dec b.1))).1 a.d.1 (E (Z.neg (Z.shl a.n.dec b.1))).2 a.d.2) rfl rfl (cg2 (fun p q => AV [pI (E (Z.quo p q))]) (E_dec _) rfl) (pC (AV [pI (E (Z.neg (Z.quo (Z.neg (Z.shl a.n.dec b.1)) a.d.dec)))]) en_98 (whole_Neg_ret (E (Z.quo (Z.neg (Z.shl a.n.dec b.1)) a.d.dec)).1 (E (Z.quo (Z.neg (Z.shl a.n.dec b.1)) a.d.dec)).2) rfl rfl (cg1 (fun p => AV [pI (E (Z.neg p))]) (E_dec _)) (pQ rfl (qL ty_26 rfl m0 rfl) ?_))))))))))
   obtain ⟨r13, hr13⟩ := nm ((F_ratio_Make (E (Z.neg (Z.quo (Z.neg (Z.shl a.n.dec b.1)) a.d.dec))) (E (Z.shl F_ratio_one.dec b.1))) : Rt)
   refine pC (AV [pI r13.n, pI r13.d]) en_77 (ratio_Make_ret (E (Z.neg (Z.quo (Z.neg (Z.shl a.n.dec b.1)) a.d.dec))) (E (Z.shl F_ratio_one.dec b.1))) rfl rfl (by rw [hr13]; first | done | rfl) (oS [pI r13.n, pI r13.d] ty_28 rfl rfl rfl rfl rfl rfl (.tail _ (.tail _ (.head _))) rfl hb3 rfl (sk (sk (sd s0))) (fl J (Sq fun K3 J3 => ?_)))
   refine W_join [42, 43, 44, 45, 46, 47, 48, 49] (fun g M => (g 49 = .bool (!(F_ratio_Good r12) || (!(F_ratio_Good r13)))) ∧ M = [⟨b11, 26, flat [pI (E (Z.shl F_ratio_one.dec b.1))]⟩, ⟨b10, 26, flat [pI (E (Z.shl a.n.dec b.1))]⟩, ⟨b3, 28, flat [pI r13.n, pI r13.d]⟩, ⟨b2, 28, flat [pI r12.n, pI r12.d]⟩, ⟨b1, 28, flat [pI a.n, pI a.d]⟩]) (fun K4 J4 => ?_) ?_
   ·skip
    refine Rk fun K J => sQ (qL ty_28 rfl m3 rfl) rfl (sQ (q_ret en_65 (ratio_Good_ret r12) rfl) rfl (sE rfl ?_))
    rcases bt (F_ratio_Good r12) with h15 | h15
    ·skip
     refine sB (not_f h15) rfl (sQ (qL ty_28 rfl m2 rfl) rfl (sQ (q_ret en_65 (ratio_Good_ret r13) rfl) rfl (sE rfl (sE rfl (nl J ?_)))))
     refine J4 _ _ (by repeat first | exact .refl | refine .cons rfl ?_) ⟨_, s0, ?s49, rfl⟩
     case s49 => exact congrArg Value.bool (nor_t h15 rfl)
    ·skip
     refine sB (not_t h15) rfl (WL_n rfl (WL_n rfl (WL_n rfl (sE rfl (nl J ?_)))))
     refine J4 _ _ (by repeat first | exact .refl | refine .cons rfl ?_) ⟨_, s0, ?s49, rfl⟩
     case s49 => exact congrArg Value.bool (nor_f h15)
   ·skip
    rintro g16 M ⟨hg49, rfl⟩
    simp only [setG, hg49]
    clear hg49
    rcases bt (!(F_ratio_Good r12) || (!(F_ratio_Good r13))) with h17 | h17
    ·skip
     refine W_t h17 rfl (Rs fun K J => sQ (q_ret en_76 ratio_Bad_ret  rfl) rfl (sQ (q_ret en_76 ratio_Bad_ret  rfl) rfl (sS [pI F_ratio_Bad.n, pI F_ratio_Bad.d] ty_28 rfl rfl rfl rfl rfl (.tail _ (.tail _ (.tail _ (.head _)))) rfl hb2 (sS [pI F_ratio_Bad.n, pI F_ratio_Bad.d] ty_28 rfl rfl rfl rfl rfl (.tail _ (.tail _ (.head _))) rfl hb3 (nl J (W_ret (thenK_r (ret2 rfl (.inr rfl) (resP rfl m3 ty_28 rfl) (resP rfl m2 ty_28 rfl) ?_))))))))
     exact (by subst hr13; subst hr12; exact congrArg (fun r : Rt × Rt => (.tuple #[AV [pI r.1.n, pI r.1.d], AV [pI r.2.n, pI r.2.d]] : Value)) (show _ = (F_ratio_Dyadic a b) from bif_f h9 (bif_t h17 rfl)))
    ·skip
     refine W_f h17 rfl (W_skip (J3 _ _ (W_sdr (sk (sk (sd (sd (sk (s0)))))) (.quiet 0 [2,3] (.both 1 (.only 2 (.only 3 (.fin))) 2 (.quiet 1 [3] (.only 3 (.fin))))) [0,1] mix (by kernel_rfl) (by kernel_rfl) (fun K J => pQ rfl (qL ty_28 rfl m3 rfl) ?_))))
     refine PL_b ?_ ?_
     ·skip
      refine PL_o rfl rfl (OpR_of_Q (q_loadp ty_28 rfl m2 rfl) ⟨fun _ => s0, (sk (sk (sd (sd s0)))), oS [pI r12.n, pI r12.d] ty_28 rfl rfl rfl rfl rfl rfl (.tail _ (.tail _ (.tail _ (.head _)))) rfl hb2 rfl (sk (sk (sd (sd s0)))) (oS [pI r13.n, pI r13.d] ty_28 rfl rfl rfl rfl rfl rfl (.tail _ (.tail _ (.head _))) rfl hb3 rfl (sk (sk (sd (sd s0)))) (fl J (W_ret (ret2 rfl (.inr rfl) (resP rfl m3 ty_28 rfl) (resP rfl m2 ty_28 rfl) ?_))))⟩)
      exact (by subst hr13; subst hr12; exact congrArg (fun r : Rt × Rt => (.tuple #[AV [pI r.1.n, pI r.1.d], AV [pI r.2.n, pI r.2.d]] : Value)) (show _ = (F_ratio_Dyadic a b) from bif_f h9 (bif_f h17 rfl)))
     ·skip
      refine oS [pI r12.n, pI r12.d] ty_28 rfl rfl rfl rfl rfl rfl (.tail _ (.tail _ (.tail _ (.head _)))) rfl hb2 rfl (sk (sk (sd (sd s0)))) (pQ rfl (qL ty_28 rfl m2 rfl) (oS [pI r13.n, pI r13.d] ty_28 rfl rfl rfl rfl rfl rfl (.tail _ (.tail _ (.head _))) rfl hb3 rfl (sk (sk (sd (sd s0)))) (fl J (W_ret (ret2 rfl (.inr rfl) (resP rfl m3 ty_28 rfl) (resP rfl m2 ty_28 rfl) ?_)))))
      exact (by subst hr13; subst hr12; exact congrArg (fun r : Rt × Rt => (.tuple #[AV [pI r.1.n, pI r.1.d], AV [pI r.2.n, pI r.2.d]] : Value)) (show _ = (F_ratio_Dyadic a b) from bif_f h9 (bif_f h17 rfl)))

theorem skewbackref04_Sign_ret (a : Rt) :
    Ret Tryz.prog 88 [AV [pI a.n, pI a.d]] (.int .i64 ((F_skewbackref04_Sign a).1)) := by
 refine ret_of_W (N := 9) Tryz.func88 rfl rfl (by simp) (fun w0 => ?_)
 simp only [initF, Nat.reduceAdd]
 refine Rs fun K J => WL_r rfl (r_boxp rfl rfl (fun b1 hb1 => sE rfl (nl J (Sq fun K1 J1 => Rs fun K J => sQ (qL ty_28 rfl m0 rfl) rfl (sQ (q_ret en_66 (skewbackref04_Good_ret a) rfl) rfl (sE rfl (nl J ?_)))))))
 rcases bt (F_skewbackref04_Good a) with h2 | h2
 ·skip
  refine W_f (not_f h2) rfl (W_skip (J1 _ _ (Rs fun K J => sQ (qF fd_28_0 rfl rfl) rfl (sQ (qL ty_26 rfl m0 rfl) rfl (sC (.int .i64 ((Z.signW a.n.dec).1)) en_108 (skewbackref03_Sign_ret a.n.1 a.n.2) rfl rfl rfl (sE rfl (nl J (W_ret (ret1 rfl (.inr rfl) rfl ?_)))))))))
  exact (by exact congrArg (fun r : W => (.int .i64 r.1 : Value)) (show _ = (F_skewbackref04_Sign a) from bif_t h2 rfl))
 ·skip
  refine W_t (not_t h2) rfl (Rs fun K J => sE rfl (nl J (W_ret (thenK_r (ret1 rfl (.inr rfl) rfl ?_)))))
  exact (by exact congrArg (fun r : W => (.int .i64 r.1 : Value)) (show _ = (F_skewbackref04_Sign a) from bif_f h2 rfl))

theorem skewbackref04_Div_ret (a : Rt) (b : Rt) :
    Ret Tryz.prog 86 [AV [pI a.n, pI a.d], AV [pI b.n, pI b.d]] (AV [pI ((F_skewbackref04_Div a b).n), pI ((F_skewbackref04_Div a b).d)]) := by
 refine ret_of_W (N := 16) Tryz.func86 rfl rfl (by simp) (fun w0 => ?_)
 simp only [initF, Nat.reduceAdd]
 refine Rs fun K J => WL_r rfl (r_boxp rfl rfl (fun b1 hb1 => WL_r rfl (r_boxp rfl rfl (fun b2 hb2 => sN zp_28 rfl fun b3 hb3 => nl J (Sq fun K1 J1 => Rs fun K J => sQ (qL ty_28 rfl m1 rfl) rfl (sQ (q_ret en_66 (skewbackref04_Good_ret b) rfl) rfl (sE rfl (nl J ?_))))))))
 rcases bt (F_skewbackref04_Good b) with h4 | h4
 ·skip
  refine W_f (not_f h4) rfl (W_skip (J1 _ _ (ds (sd (sk (sk (s0)))) [0,4,8,12,16,20,24,29] [7] mix (by kernel_rfl) (fun K J => pQ rfl (qL ty_28 rfl m2 rfl) (pQ rfl (qF fd_28_1 rfl rfl) (pQ rfl (qL ty_26 rfl m1 rfl) (pQ rfl (qF fd_28_0 rfl rfl) (pQ rfl (qL ty_26 rfl m1 rfl) (pQ rfl (q_ret en_121 (skewbackref04_Make_ret b.d b.n) rfl) ?_)))))))))
  obtain ⟨r5, hr5⟩ := nm ((F_skewbackref04_Mul a (F_skewbackref04_Make b.d b.n)) : Rt)
  refine pC (AV [pI r5.n, pI r5.d]) en_84 (skewbackref04_Mul_ret a (F_skewbackref04_Make b.d b.n)) rfl rfl (by rw [hr5]; first | done | rfl) (oS [pI r5.n, pI r5.d] ty_28 rfl rfl rfl rfl rfl rfl (.head _) rfl hb3 rfl (sd s0) (fl J (W_ret (ret1 rfl (.inr rfl) (resP rfl m0 ty_28 rfl) ?_))))
  exact (by subst hr5; exact congrArg (fun r : Rt => (AV [pI r.n, pI r.d] : Value)) (show _ = (F_skewbackref04_Div a b) from bif_t h4 rfl))
 ·skip
  refine W_t (not_t h4) rfl (Rs fun K J => sQ (q_ret en_90 skewbackref04_Bad_ret  rfl) rfl (sS [pI F_skewbackref04_Bad.n, pI F_skewbackref04_Bad.d] ty_28 rfl rfl rfl rfl rfl (.head _) rfl hb3 (nl J (W_ret (thenK_r (ret1 rfl (.inr rfl) (resP rfl m0 ty_28 rfl) ?_))))))
  exact (by exact congrArg (fun r : Rt => (AV [pI r.n, pI r.d] : Value)) (show _ = (F_skewbackref04_Div a b) from bif_f h4 rfl))

theorem skewbackref04_Mid_ret (a : Rt) (b : Rt) :
    Ret Tryz.prog 93 [AV [pI a.n, pI a.d], AV [pI b.n, pI b.d]] (AV [pI ((F_skewbackref04_Mid a b).n), pI ((F_skewbackref04_Mid a b).d)]) := by
 refine ret_of_W (N := 10) Tryz.func93 rfl rfl (by simp) (fun w0 => ?_)
 simp only [initF, Nat.reduceAdd]
 refine Rs fun K J => WL_r rfl (r_boxp rfl rfl (fun b1 hb1 => WL_r rfl (r_boxp rfl rfl (fun b2 hb2 => sN zp_28 rfl fun b3 hb3 => nl J (Rs fun K J => sQ (qL ty_28 rfl m2 rfl) rfl (sQ (qL ty_28 rfl m1 rfl) rfl (sQ (q_ret en_81 (skewbackref04_Add_ret a b) rfl) rfl ?_)))))))
 obtain ⟨r4, hr4⟩ := nm ((F_skewbackref04_Frac (wl 1) (wl 2)) : Rt)
 refine sC (AV [pI r4.n, pI r4.d]) en_104 (skewbackref04_Frac_ret (wl 1) (wl 2)) rfl rfl (by rw [hr4]; first | done | rfl) ?_
 obtain ⟨r5, hr5⟩ := nm ((F_skewbackref04_Mul (F_skewbackref04_Add a b) r4) : Rt)
 refine sC (AV [pI r5.n, pI r5.d]) en_84 (skewbackref04_Mul_ret (F_skewbackref04_Add a b) r4) rfl rfl (by rw [hr5]; first | done | rfl) (sS [pI r5.n, pI r5.d] ty_28 rfl rfl rfl rfl rfl (.head _) rfl hb3 (nl J (W_ret (ret1 rfl (.inr rfl) (resP rfl m0 ty_28 rfl) ?_))))
 exact (by subst hr5; subst hr4; rfl)

theorem skewbackref04_Min_ret (a : Rt) (b : Rt) :
    Ret Tryz.prog 72 [AV [pI a.n, pI a.d], AV [pI b.n, pI b.d]] (AV [pI ((F_skewbackref04_Min a b).n), pI ((F_skewbackref04_Min a b).d)]) := by
 refine ret_of_W (N := 20) Tryz.func72 rfl rfl (by simp) (fun w0 => ?_)
 simp only [initF, Nat.reduceAdd]
 refine Rs fun K J => WL_r rfl (r_boxp rfl rfl (fun b1 hb1 => WL_r rfl (r_boxp rfl rfl (fun b2 hb2 => sN zp_28 rfl fun b3 hb3 => nl J (Sq fun K1 J1 => ?_)))))
 refine W_join [5, 6, 7, 8, 9, 10, 11, 12] (fun g M => (g 12 = .bool (!(F_skewbackref04_Good a) || (!(F_skewbackref04_Good b)))) ∧ M = [⟨b3, 28, flat [pI I0, pI I0]⟩, ⟨b2, 28, flat [pI b.n, pI b.d]⟩, ⟨b1, 28, flat [pI a.n, pI a.d]⟩]) (fun K2 J2 => ?_) ?_
 ·skip
  refine Rk fun K J => sQ (qL ty_28 rfl m2 rfl) rfl (sQ (q_ret en_66 (skewbackref04_Good_ret a) rfl) rfl (sE rfl ?_))
  rcases bt (F_skewbackref04_Good a) with h5 | h5
  ·skip
   refine sB (not_f h5) rfl (sQ (qL ty_28 rfl m1 rfl) rfl (sQ (q_ret en_66 (skewbackref04_Good_ret b) rfl) rfl (sE rfl (sE rfl (nl J ?_)))))
   refine J2 _ _ (by repeat first | exact .refl | refine .cons rfl ?_) ⟨_, s0, ?s12, rfl⟩
   case s12 => exact congrArg Value.bool (nor_t h5 rfl)
  ·skip
   refine sB (not_t h5) rfl (WL_n rfl (WL_n rfl (WL_n rfl (sE rfl (nl J ?_)))))
   refine J2 _ _ (by repeat first | exact .refl | refine .cons rfl ?_) ⟨_, s0, ?s12, rfl⟩
   case s12 => exact congrArg Value.bool (nor_f h5)
 ·skip
  rintro g6 M ⟨hg12, rfl⟩
  simp only [setG, hg12]
  clear hg12
  rcases bt (!(F_skewbackref04_Good a) || (!(F_skewbackref04_Good b))) with h7 | h7
  ·skip
   refine W_t h7 rfl (Rs fun K J => sQ (q_ret en_90 skewbackref04_Bad_ret  rfl) rfl (sS [pI F_skewbackref04_Bad.n, pI F_skewbackref04_Bad.d] ty_28 rfl rfl rfl rfl rfl (.head _) rfl hb3 (nl J (W_ret (thenK_r (ret1 rfl (.inr rfl) (resP rfl m0 ty_28 rfl) ?_))))))
   exact (by exact congrArg (fun r : Rt => (AV [pI r.n, pI r.d] : Value)) (show _ = (F_skewbackref04_Min a b) from bif_t h7 rfl))
  ·skip
   refine W_f h7 rfl (W_skip (J1 _ _ (Sq fun K3 J3 => Rs fun K J => sQ (qL ty_28 rfl m2 rfl) rfl (sQ (qL ty_28 rfl m1 rfl) rfl (sQ (q_ret en_67 (skewbackref04_Cmp_ret a b) rfl) rfl (sE rfl (nl J ?_)))))))
   rcases bt (decide ((F_skewbackref04_Cmp a b).1 ≤ 0)) with h8 | h8
   ·skip
    refine W_t h8 rfl (Rs fun K J => sQ (qL ty_28 rfl m2 rfl) rfl (sS [pI a.n, pI a.d] ty_28 rfl rfl rfl rfl rfl (.head _) rfl hb3 (nl J (W_ret (thenK_r (ret1 rfl (.inr rfl) (resP rfl m0 ty_28 rfl) ?_))))))
    exact (by exact congrArg (fun r : Rt => (AV [pI r.n, pI r.d] : Value)) (show _ = (F_skewbackref04_Min a b) from bif_f h7 (bif_t h8 rfl)))
   ·skip
    refine W_f h8 rfl (W_skip (J3 _ _ (Rs fun K J => sQ (qL ty_28 rfl m1 rfl) rfl (sS [pI b.n, pI b.d] ty_28 rfl rfl rfl rfl rfl (.head _) rfl hb3 (nl J (W_ret (ret1 rfl (.inr rfl) (resP rfl m0 ty_28 rfl) ?_)))))))
    exact (by exact congrArg (fun r : Rt => (AV [pI r.n, pI r.d] : Value)) (show _ = (F_skewbackref04_Min a b) from bif_f h7 (bif_f h8 rfl)))

theorem skewbackref04_Max_ret (a : Rt) (b : Rt) :
    Ret Tryz.prog 71 [AV [pI a.n, pI a.d], AV [pI b.n, pI b.d]] (AV [pI ((F_skewbackref04_Max a b).n), pI ((F_skewbackref04_Max a b).d)]) := by
 refine ret_of_W (N := 11) Tryz.func71 rfl rfl (by simp) (fun w0 => ?_)
 simp only [initF, Nat.reduceAdd]
 refine Rs fun K J => WL_r rfl (r_boxp rfl rfl (fun b1 hb1 => WL_r rfl (r_boxp rfl rfl (fun b2 hb2 => sN zp_28 rfl fun b3 hb3 => nl J (ds (sd (sk (sk (s0)))) [0,4,8,12,16,20,25] [6] mix (by kernel_rfl) (fun K J => pQ rfl (qL ty_28 rfl m2 rfl) (pQ rfl (q_ret en_87 (skewbackref04_Neg_ret a) rfl) (pQ rfl (qL ty_28 rfl m1 rfl) (pQ rfl (q_ret en_87 (skewbackref04_Neg_ret b) rfl) ?_)))))))))
 obtain ⟨r4, hr4⟩ := nm ((F_skewbackref04_Min (F_skewbackref04_Neg a) (F_skewbackref04_Neg b)) : Rt)
 refine pC (AV [pI r4.n, pI r4.d]) en_72 (skewbackref04_Min_ret (F_skewbackref04_Neg a) (F_skewbackref04_Neg b)) rfl rfl (by rw [hr4]; first | done | rfl) (pQ rfl (q_ret en_87 (skewbackref04_Neg_ret r4) rfl) (oS [pI ((F_skewbackref04_Neg r4).n), pI ((F_skewbackref04_Neg r4).d)] ty_28 rfl rfl rfl rfl rfl rfl (.head _) rfl hb3 rfl (sd s0) (fl J (W_ret (ret1 rfl (.inr rfl) (resP rfl m0 ty_28 rfl) ?_)))))
 exact (by subst hr4; rfl)

theorem skewbackref04_Dyadic_ret (a : Rt) (b : W) :
    Ret Tryz.prog 91 [AV [pI a.n, pI a.d], .int .i64 b.1] (AV [pI (((F_skewbackref04_Dyadic a b).lo).n), pI (((F_skewbackref04_Dyadic a b).lo).d), pI (((F_skewbackref04_Dyadic a b).hi).n), pI (((F_skewbackref04_Dyadic a b).hi).d)]) := by
 refine ret_of_W (N := 62) Tryz.func91 rfl rfl (by simp) (fun w0 => ?_)
 simp only [initF, Nat.reduceAdd]
 refine Rs fun K J => WL_r rfl (r_boxp rfl rfl (fun b1 hb1 => sN zp_85 rfl fun b2 hb2 => nl J (Sq fun K1 J1 => ?_)))
 refine W_join [10, 11, 12, 13, 14, 15, 16, 17, 18, 19, 20] (fun g M => (g 20 = .bool (!(F_skewbackref04_Good a) || (decide (b.1 < 0) || decide (256 < b.1)))) ∧ M = [⟨b2, 85, flat [pI I0, pI I0, pI I0, pI I0]⟩, ⟨b1, 28, flat [pI a.n, pI a.d]⟩]) (fun K2 J2 => ?_) ?_
 ·skip
  refine Rk fun K J => sQ (qL ty_28 rfl m1 rfl) rfl (sQ (q_ret en_66 (skewbackref04_Good_ret a) rfl) rfl (sE rfl ?_))
  rcases bt (F_skewbackref04_Good a) with h5 | h5
  ·skip
   refine sB (not_f h5) rfl (sE rfl (sE rfl (sE rfl ?_)))
   rcases bt (decide (b.1 < 0)) with h6 | h6
   ·skip
    refine sB h6 rfl (WL_n rfl (WL_n rfl (sE rfl (nl J ?_))))
    refine J2 _ _ (by repeat first | exact .refl | refine .cons rfl ?_) ⟨_, s0, ?s20, rfl⟩
    case s20 => exact congrArg Value.bool (nor_t h5 (or_t h6))
   ·skip
    refine sB h6 rfl (sE rfl (sE rfl (sE rfl (nl J ?_))))
    refine J2 _ _ (by repeat first | exact .refl | refine .cons rfl ?_) ⟨_, s0, ?s20, rfl⟩
    case s20 => exact congrArg Value.bool (nor_t h5 (or_f h6 rfl))
  ·skip
   refine sB (not_t h5) rfl (WL_n rfl (WL_n rfl (sE rfl (sE rfl (WL_n rfl (WL_n rfl (sE rfl (nl J ?_))))))))
   refine J2 _ _ (by repeat first | exact .refl | refine .cons rfl ?_) ⟨_, s0, ?s20, rfl⟩
   case s20 => exact congrArg Value.bool (nor_f h5)
 ·skip
  rintro g7 M ⟨hg20, rfl⟩
  simp only [setG, hg20]
  clear hg20
  rcases bt (!(F_skewbackref04_Good a) || (decide (b.1 < 0) || decide (256 < b.1))) with h8 | h8
  ·skip
   refine W_t h8 rfl (Rs fun K J => sQ (q_ret en_90 skewbackref04_Bad_ret  rfl) rfl (sQ (q_ret en_90 skewbackref04_Bad_ret  rfl) rfl (sQ (q_buildsp zp_85 pl_85 rfl (.cons [pI F_skewbackref04_Bad.n, pI F_skewbackref04_Bad.d] [pI F_skewbackref04_Bad.n, pI F_skewbackref04_Bad.d, pI I0, pI I0] rfl rfl rfl rfl (.cons [pI F_skewbackref04_Bad.n, pI F_skewbackref04_Bad.d] [pI F_skewbackref04_Bad.n, pI F_skewbackref04_Bad.d, pI F_skewbackref04_Bad.n, pI F_skewbackref04_Bad.d] rfl rfl rfl rfl (.nil _)))) rfl (sS [pI F_skewbackref04_Bad.n, pI F_skewbackref04_Bad.d, pI F_skewbackref04_Bad.n, pI F_skewbackref04_Bad.d] ty_85 rfl rfl rfl rfl rfl (.head _) rfl hb2 (nl J (W_ret (thenK_r (ret1 rfl (.inr rfl) (resP rfl m0 ty_85 rfl) ?_))))))))
   exact (by exact congrArg (fun r : Iv => (AV [pI r.lo.n, pI r.lo.d, pI r.hi.n, pI r.hi.d] : Value)) (show _ = (F_skewbackref04_Dyadic a b) from bif_t h8 rfl))
  ·skip
   refine W_f h8 rfl (W_skip (J1 _ _ (Rs fun K J => sQ (qF fd_28_0 rfl rfl) rfl (sQ (qL ty_26 rfl m1 rfl) rfl (sE rfl (sQ (q_ret en_126 (skewbackref03_Shift_ret a.n b (Int.not_lt.1 (of_decide_eq_false (by first | assumption | exact or3_b (by assumption))))) rfl) rfl ?_))))))
   refine sN zp_26 rfl fun b9 hb9 => sS [pI (F_skewbackref03_Shift a.n b)] ty_26 rfl rfl rfl rfl rfl (.head _) rfl hb9 (nl J (Rs fun K J => sQ (qL ty_26 rfl m0 rfl) rfl (sQ (qF fd_28_1 rfl rfl) rfl (sQ (qL ty_26 rfl m2 rfl) rfl (sC (AV [pI (E (Z.quo (F_skewbackref03_Shift a.n b).dec a.d.dec))]) en_113 (skewbackref03_Quo_ret (F_skewbackref03_Shift a.n b).1 a.d.1 (F_skewbackref03_Shift a.n b).2 a.d.2) rfl rfl rfl (sN zp_26 rfl fun b10 hb10 => sS [pI (E (Z.quo (F_skewbackref03_Shift a.n b).dec a.d.dec))] ty_26 rfl rfl rfl rfl rfl (.head _) rfl hb10 (nl J (ds (sk (sk (sk (sk (s0))))) [0,4,8,12,16,20,25,29] [7] mix (by kernel_rfl) (fun K J => pQ rfl (qL ty_26 rfl m1 rfl) (pC (AV [pI (E (Z.neg (F_skewbackref03_Shift a.n b).dec))]) en_124 (skewbackref03_Neg_ret (F_skewbackref03_Shift a.n b).1 (F_skewbackref03_Shift a.n b).2) rfl rfl rfl (pQ rfl (qF fd_28_1 rfl rfl) (pQ rfl (qL ty_26 rfl m3 rfl) (pC (AV [pI (E (Z.quo (Z.neg (F_skewbackref03_Shift a.n b).dec) a.d.dec))]) en_113 (skewbackref03_Quo_ret (E (Z.neg (F_skewbackref03_Shift a.n b).dec)).1 a.d.1 (E (Z.neg (F_skewbackref03_Shift a.n b).dec)).2 a.d.2) rfl rfl (cg2 (fun p q => AV [pI (E (Z.quo p q))]) (E_dec _) rfl) (pC (AV [pI (E (Z.neg (Z.quo (Z.neg (F_skewbackref03_Shift a.n b).dec) a.d.dec)))]) en_124 (skewbackref03_Neg_ret (E (Z.quo (Z.neg (F_skewbackref03_Shift a.n b).dec) a.d.dec)).1 (E (Z.quo (Z.neg (F_skewbackref03_Shift a.n b).dec) a.d.dec)).2) rfl rfl (cg1 (fun p => AV [pI (E (Z.neg p))]) (E_dec _)) (PL_o rfl rfl (r_allocp zp_26 (fun b11 hb11 => ⟨(fun _ => sd s0), (sd s0), oS [pI (E (Z.neg (Z.quo (Z.neg (F_skewbackref03_Shift a.n b).dec) a.d.dec)))] ty_26 rfl rfl rfl rfl rfl rfl (.head _) rfl hb11 rfl (sd s0) ?_⟩)))))))))))))))))
   refine fl J (Rs fun K J => sQ (q_ret en_110 skewbackref04_one_ret  rfl) rfl (sE rfl (sQ (q_ret en_126 (skewbackref03_Shift_ret F_skewbackref04_one b (Int.not_lt.1 (of_decide_eq_false (by first | assumption | exact or3_b (by assumption))))) rfl) rfl ?_)))
   refine sN zp_26 rfl fun b12 hb12 => sS [pI (F_skewbackref03_Shift F_skewbackref04_one b)] ty_26 rfl rfl rfl rfl rfl (.head _) rfl hb12 (nl J (ds (sk (sk (sk (sd (sk (sk (s0))))))) [0,4,8,12,16,20,24,29,33] [8] mix (by kernel_rfl) (fun K J => pQ rfl (qL ty_26 rfl m2 rfl) (pQ rfl (qL ty_26 rfl m0 rfl) ?_))))
   obtain ⟨r13, hr13⟩ := nm ((F_skewbackref04_Make (E (Z.quo (F_skewbackref03_Shift a.n b).dec a.d.dec)) (F_skewbackref03_Shift F_skewbackref04_one b)) : Rt)
   refine pC (AV [pI r13.n, pI r13.d]) en_121 (skewbackref04_Make_ret (E (Z.quo (F_skewbackref03_Shift a.n b).dec a.d.dec)) (F_skewbackref03_Shift F_skewbackref04_one b)) rfl rfl (by rw [hr13]; first | done | rfl) (pQ rfl (qL ty_26 rfl m1 rfl) (pQ rfl (qL ty_26 rfl m0 rfl) ?_))
   obtain ⟨r14, hr14⟩ := nm ((F_skewbackref04_Make (E (Z.neg (Z.quo (Z.neg (F_skewbackref03_Shift a.n b).dec) a.d.dec))) (F_skewbackref03_Shift F_skewbackref04_one b)) : Rt)
   refine pC (AV [pI r14.n, pI r14.d]) en_121 (skewbackref04_Make_ret (E (Z.neg (Z.quo (Z.neg (F_skewbackref03_Shift a.n b).dec) a.d.dec))) (F_skewbackref03_Shift F_skewbackref04_one b)) rfl rfl (by rw [hr14]; first | done | rfl) (pQ rfl (q_buildsp zp_85 pl_85 rfl (.cons [pI r13.n, pI r13.d] [pI r13.n, pI r13.d, pI I0, pI I0] rfl rfl rfl rfl (.cons [pI r14.n, pI r14.d] [pI r13.n, pI r13.d, pI r14.n, pI r14.d] rfl rfl rfl rfl (.nil _)))) (PL_o rfl rfl (r_allocp zp_85 (fun b15 hb15 => ⟨(fun _ => sd s0), (sd (sk (sk (sk (sd s0))))), oS [pI r13.n, pI r13.d, pI r14.n, pI r14.d] ty_85 rfl rfl rfl rfl rfl rfl (.head _) rfl hb15 rfl (sd (sk (sk (sk (sd s0))))) (fl J (Sq fun K3 J3 => ?_))⟩))))
   refine W_join [48, 49, 50, 51, 52, 53, 54, 55, 56, 57] (fun g M => (g 57 = .bool (!(F_skewbackref04_Good r13) || (!(F_skewbackref04_Good r14)))) ∧ M = [⟨b15, 85, flat [pI r13.n, pI r13.d, pI r14.n, pI r14.d]⟩, ⟨b12, 26, flat [pI (F_skewbackref03_Shift F_skewbackref04_one b)]⟩, ⟨b11, 26, flat [pI (E (Z.neg (Z.quo (Z.neg (F_skewbackref03_Shift a.n b).dec) a.d.dec)))]⟩, ⟨b10, 26, flat [pI (E (Z.quo (F_skewbackref03_Shift a.n b).dec a.d.dec))]⟩, ⟨b9, 26, flat [pI (F_skewbackref03_Shift a.n b)]⟩, ⟨b2, 85, flat [pI I0, pI I0, pI I0, pI I0]⟩, ⟨b1, 28, flat [pI a.n, pI a.d]⟩]) (fun K4 J4 => ?_) ?_
   ·skip
    refine Rk fun K J => sQ (qF fd_85_0 rfl rfl) rfl (sQ (qL ty_28 rfl m0 rfl) rfl (sQ (q_ret en_66 (skewbackref04_Good_ret r13) rfl) rfl (sE rfl ?_)))
    rcases bt (F_skewbackref04_Good r13) with h17 | h17
    ·skip
     refine sB (not_f h17) rfl (sQ (qF fd_85_1 rfl rfl) rfl (sQ (qL ty_28 rfl m0 rfl) rfl (sQ (q_ret en_66 (skewbackref04_Good_ret r14) rfl) rfl (sE rfl (sE rfl (nl J ?_))))))
     refine J4 _ _ (by repeat first | exact .refl | refine .cons rfl ?_) ⟨_, s0, ?s57, rfl⟩
     case s57 => exact congrArg Value.bool (nor_t h17 rfl)
    ·skip
     refine sB (not_t h17) rfl (WL_n rfl (WL_n rfl (WL_n rfl (WL_n rfl (sE rfl (nl J ?_))))))
     refine J4 _ _ (by repeat first | exact .refl | refine .cons rfl ?_) ⟨_, s0, ?s57, rfl⟩
     case s57 => exact congrArg Value.bool (nor_f h17)
   ·skip
    rintro g18 M ⟨hg57, rfl⟩
    simp only [setG, hg57]
    clear hg57
    rcases bt (!(F_skewbackref04_Good r13) || (!(F_skewbackref04_Good r14))) with h19 | h19
    ·skip
     refine W_t h19 rfl (Rs fun K J => sQ (q_ret en_90 skewbackref04_Bad_ret  rfl) rfl (sQ (q_ret en_90 skewbackref04_Bad_ret  rfl) rfl (sQ (q_buildsp zp_85 pl_85 rfl (.cons [pI F_skewbackref04_Bad.n, pI F_skewbackref04_Bad.d] [pI F_skewbackref04_Bad.n, pI F_skewbackref04_Bad.d, pI I0, pI I0] rfl rfl rfl rfl (.cons [pI F_skewbackref04_Bad.n, pI F_skewbackref04_Bad.d] [pI F_skewbackref04_Bad.n, pI F_skewbackref04_Bad.d, pI F_skewbackref04_Bad.n, pI F_skewbackref04_Bad.d] rfl rfl rfl rfl (.nil _)))) rfl (sS [pI F_skewbackref04_Bad.n, pI F_skewbackref04_Bad.d, pI F_skewbackref04_Bad.n, pI F_skewbackref04_Bad.d] ty_85 rfl rfl rfl rfl rfl (.tail _ (.tail _ (.tail _ (.tail _ (.tail _ (.head _)))))) rfl hb2 (nl J (W_ret (thenK_r (ret1 rfl (.inr rfl) (resP rfl m5 ty_85 rfl) ?_))))))))
     exact (by subst hr14; subst hr13; exact congrArg (fun r : Iv => (AV [pI r.lo.n, pI r.lo.d, pI r.hi.n, pI r.hi.d] : Value)) (show _ = (F_skewbackref04_Dyadic a b) from bif_f h8 (bif_t h19 rfl)))
    ·skip
     refine W_f h19 rfl (W_skip (J3 _ _ (Rs fun K J => sQ (qL ty_85 rfl m0 rfl) rfl (sS [pI r13.n, pI r13.d, pI r14.n, pI r14.d] ty_85 rfl rfl rfl rfl rfl (.tail _ (.tail _ (.tail _ (.tail _ (.tail _ (.head _)))))) rfl hb2 (nl J (W_ret (ret1 rfl (.inr rfl) (resP rfl m5 ty_85 rfl) ?_)))))))
     exact (by subst hr14; subst hr13; exact congrArg (fun r : Iv => (AV [pI r.lo.n, pI r.lo.d, pI r.hi.n, pI r.hi.d] : Value)) (show _ = (F_skewbackref04_Dyadic a b) from bif_f h8 (bif_f h19 rfl)))
end Go.Proofs.YtnfbkngfdemkpaaGreatDoor
