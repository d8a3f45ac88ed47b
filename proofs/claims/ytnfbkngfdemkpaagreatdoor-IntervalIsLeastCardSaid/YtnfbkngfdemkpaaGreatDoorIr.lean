/- Walks: what these functions return. -/
import Derived.Test.YtnfbkngfdemkpaaGreatDoorFa0
import Derived.Test.YtnfbkngfdemkpaaGreatDoorFi
import Derived.Test.YtnfbkngfdemkpaaGreatDoorGa
import Derived.Test.YtnfbkngfdemkpaaGreatDoorGc
import Derived.Test.YtnfbkngfdemkpaaGreatDoorGd
import Derived.Test.YtnfbkngfdemkpaaGreatDoorGf
namespace Go.Proofs.YtnfbkngfdemkpaaGreatDoor
open Go.Kn Go.Num
set_option linter.unusedVariables false
set_option linter.unusedSimpArgs false
set_option maxRecDepth 20000
set_option maxHeartbeats 8000000
theorem skewbackref05_Bad_ret  :
    Ret Tryz.prog 64 [] (AV [pI F_skewbackref05_Bad.lo.n, pI F_skewbackref05_Bad.lo.d, pI F_skewbackref05_Bad.hi.n, pI F_skewbackref05_Bad.hi.d]) := by
 refine ret_of_W (N := 4) Tryz.func64 rfl rfl (by simp) (fun w0 => ?_)
 simp only [initF, Nat.reduceAdd]
 obtain ⟨q0, hq0⟩ := nm (F_skewbackref04_Bad : Rt)
 refine Rs fun K J => sN zp_31 rfl fun b1 hb1 => nl J (Rs fun K J => sC (AV [pI q0.n, pI q0.d]) en_90 skewbackref04_Bad_ret rfl rfl (by rw [hq0]; first | done | rfl) (sC (AV [pI q0.n, pI q0.d]) en_90 skewbackref04_Bad_ret rfl rfl (by rw [hq0]; first | done | rfl) (sQ (q_buildsp zp_31 pl_31 rfl (.cons [pI q0.n, pI q0.d] [pI q0.n, pI q0.d, pI I0, pI I0] rfl rfl rfl rfl (.cons [pI q0.n, pI q0.d] [pI q0.n, pI q0.d, pI q0.n, pI q0.d] rfl rfl rfl rfl (.nil _)))) rfl (sS [pI q0.n, pI q0.d, pI q0.n, pI q0.d] ty_31 rfl rfl rfl rfl rfl (.head _) rfl hb1 (nl J (W_ret (ret1 rfl (.inr rfl) (resP rfl m0 ty_31 rfl) ?_)))))))
 exact (by subst hq0; rfl)

theorem skewbackref05_IsBad_ret (a : Iv) :
    Ret Tryz.prog 16 [AV [pI a.lo.n, pI a.lo.d, pI a.hi.n, pI a.hi.d]] (.bool (F_skewbackref05_IsBad a)) := by
 refine ret_of_W (N := 19) Tryz.func16 rfl rfl (by simp) (fun w0 => ?_)
 simp only [initF, Nat.reduceAdd]
 refine Rs fun K J => WL_r rfl (r_boxp rfl rfl (fun b1 hb1 => sE rfl (nl J (Sq fun K1 J1 => ?_))))
 refine W_join [3, 4, 5, 6, 7, 8, 9, 10, 11, 12] (fun g M => (g 12 = .bool (!(F_skewbackref04_Good a.lo) || (!(F_skewbackref04_Good a.hi)))) ∧ M = [⟨b1, 31, flat [pI a.lo.n, pI a.lo.d, pI a.hi.n, pI a.hi.d]⟩]) (fun K2 J2 => ?_) ?_
 ·skip
  refine Rk fun K J => sQ (qF fd_31_0 rfl rfl) rfl (sQ (qL ty_28 rfl m0 rfl) rfl (sQ (q_ret en_66 (skewbackref04_Good_ret a.lo) rfl) rfl (sE rfl ?_)))
  rcases bt (F_skewbackref04_Good a.lo) with h3 | h3
  ·skip
   refine sB (not_f h3) rfl (sQ (qF fd_31_1 rfl rfl) rfl (sQ (qL ty_28 rfl m0 rfl) rfl (sQ (q_ret en_66 (skewbackref04_Good_ret a.hi) rfl) rfl (sE rfl (sE rfl (nl J ?_))))))
   refine J2 _ _ (by repeat first | exact .refl | refine .cons rfl ?_) ⟨_, s0, ?s12, rfl⟩
   case s12 => exact congrArg Value.bool (nor_t h3 rfl)
  ·skip
   refine sB (not_t h3) rfl (WL_n rfl (WL_n rfl (WL_n rfl (WL_n rfl (sE rfl (nl J ?_))))))
   refine J2 _ _ (by repeat first | exact .refl | refine .cons rfl ?_) ⟨_, s0, ?s12, rfl⟩
   case s12 => exact congrArg Value.bool (nor_f h3)
 ·skip
  rintro g4 M ⟨hg12, rfl⟩
  simp only [setG, hg12]
  clear hg12
  rcases bt (!(F_skewbackref04_Good a.lo) || (!(F_skewbackref04_Good a.hi))) with h5 | h5
  ·skip
   refine W_t h5 rfl (Rs fun K J => sE rfl (nl J (W_ret (thenK_r (ret1 rfl (.inr rfl) rfl ?_)))))
   exact (by exact congrArg (fun r : Bool => (.bool r : Value)) (show _ = (F_skewbackref05_IsBad a) from bif_t h5 rfl))
  ·skip
   refine W_f h5 rfl (W_skip (J1 _ _ (Rs fun K J => sQ (qF fd_31_0 rfl rfl) rfl (sQ (qL ty_28 rfl m0 rfl) rfl (sQ (qF fd_31_1 rfl rfl) rfl (sQ (qL ty_28 rfl m0 rfl) rfl (sQ (q_ret en_67 (skewbackref04_Cmp_ret a.lo a.hi) rfl) rfl (sE rfl (sE rfl (nl J (W_ret (ret1 rfl (.inr rfl) rfl ?_))))))))))))
   exact (by exact congrArg (fun r : Bool => (.bool r : Value)) (show _ = (F_skewbackref05_IsBad a) from bif_f h5 rfl))

theorem skewbackref05_Make_ret (a : Rt) (b : Rt) :
    Ret Tryz.prog 12 [AV [pI a.n, pI a.d], AV [pI b.n, pI b.d]] (AV [pI (((F_skewbackref05_Make a b).lo).n), pI (((F_skewbackref05_Make a b).lo).d), pI (((F_skewbackref05_Make a b).hi).n), pI (((F_skewbackref05_Make a b).hi).d)]) := by
 refine ret_of_W (N := 15) Tryz.func12 rfl rfl (by simp) (fun w0 => ?_)
 simp only [initF, Nat.reduceAdd]
 refine Rs fun K J => WL_r rfl (r_boxp rfl rfl (fun b1 hb1 => WL_r rfl (r_boxp rfl rfl (fun b2 hb2 => sN zp_31 rfl fun b3 hb3 => nl J (Rs fun K J => sQ (qL ty_28 rfl m2 rfl) rfl (sQ (qL ty_28 rfl m1 rfl) rfl (sQ (q_buildsp zp_31 pl_31 rfl (.cons [pI a.n, pI a.d] [pI a.n, pI a.d, pI I0, pI I0] rfl rfl rfl rfl (.cons [pI b.n, pI b.d] [pI a.n, pI a.d, pI b.n, pI b.d] rfl rfl rfl rfl (.nil _)))) rfl (sN zp_31 rfl fun b4 hb4 => sS [pI a.n, pI a.d, pI b.n, pI b.d] ty_31 rfl rfl rfl rfl rfl (.head _) rfl hb4 (nl J (Rs fun K J => sQ (qL ty_31 rfl m0 rfl) rfl (sQ (q_ret en_16 (skewbackref05_IsBad_ret (⟨a, b⟩ : Iv)) rfl) rfl (sE rfl (nl J (Sq fun K1 J1 => Rs fun K J => sE rfl ?_))))))))))))))
 refine nl J ?_
 rcases bt (F_skewbackref05_IsBad (⟨a, b⟩ : Iv)) with h5 | h5
 ·skip
  refine W_t h5 rfl (Rs fun K J => ?_)
  obtain ⟨r6, hr6⟩ := nm (F_skewbackref05_Bad : Iv)
  refine sC (AV [pI r6.lo.n, pI r6.lo.d, pI r6.hi.n, pI r6.hi.d]) en_64 skewbackref05_Bad_ret rfl rfl (by rw [hr6]; first | done | rfl) (sS [pI r6.lo.n, pI r6.lo.d, pI r6.hi.n, pI r6.hi.d] ty_31 rfl rfl rfl rfl rfl (.tail _ (.head _)) rfl hb3 (nl J (W_ret (thenK_r (ret1 rfl (.inr rfl) (resP rfl m1 ty_31 rfl) ?_)))))
  exact (by subst hr6; exact congrArg (fun r : Iv => (AV [pI r.lo.n, pI r.lo.d, pI r.hi.n, pI r.hi.d] : Value)) (show _ = (F_skewbackref05_Make a b) from bif_t h5 rfl))
 ·skip
  refine W_f h5 rfl (W_skip (J1 _ _ (Rs fun K J => sQ (qL ty_31 rfl m0 rfl) rfl (sS [pI a.n, pI a.d, pI b.n, pI b.d] ty_31 rfl rfl rfl rfl rfl (.tail _ (.head _)) rfl hb3 (nl J (W_ret (ret1 rfl (.inr rfl) (resP rfl m1 ty_31 rfl) ?_)))))))
  exact (by exact congrArg (fun r : Iv => (AV [pI r.lo.n, pI r.lo.d, pI r.hi.n, pI r.hi.d] : Value)) (show _ = (F_skewbackref05_Make a b) from bif_f h5 rfl))

theorem skewbackref05_Add_ret (a : Iv) (b : Iv) :
    Ret Tryz.prog 41 [AV [pI a.lo.n, pI a.lo.d, pI a.hi.n, pI a.hi.d], AV [pI b.lo.n, pI b.lo.d, pI b.hi.n, pI b.hi.d]] (AV [pI (((F_skewbackref05_Add a b).lo).n), pI (((F_skewbackref05_Add a b).lo).d), pI (((F_skewbackref05_Add a b).hi).n), pI (((F_skewbackref05_Add a b).hi).d)]) := by
 refine ret_of_W (N := 23) Tryz.func41 rfl rfl (by simp) (fun w0 => ?_)
 simp only [initF, Nat.reduceAdd]
 refine Rs fun K J => WL_r rfl (r_boxp rfl rfl (fun b1 hb1 => WL_r rfl (r_boxp rfl rfl (fun b2 hb2 => sN zp_31 rfl fun b3 hb3 => nl J (Sq fun K1 J1 => ?_)))))
 refine W_join [5, 6, 7, 8, 9, 10] (fun g M => (g 10 = .bool ((F_skewbackref05_IsBad a) || (F_skewbackref05_IsBad b))) ∧ M = [⟨b3, 31, flat [pI I0, pI I0, pI I0, pI I0]⟩, ⟨b2, 31, flat [pI b.lo.n, pI b.lo.d, pI b.hi.n, pI b.hi.d]⟩, ⟨b1, 31, flat [pI a.lo.n, pI a.lo.d, pI a.hi.n, pI a.hi.d]⟩]) (fun K2 J2 => ?_) ?_
 ·skip
  refine Rk fun K J => sQ (qL ty_31 rfl m2 rfl) rfl (sQ (q_ret en_16 (skewbackref05_IsBad_ret a) rfl) rfl ?_)
  rcases bt (F_skewbackref05_IsBad a) with h5 | h5
  ·skip
   refine sB h5 rfl (WL_n rfl (WL_n rfl (sE rfl (nl J ?_))))
   refine J2 _ _ (by repeat first | exact .refl | refine .cons rfl ?_) ⟨_, s0, ?s10, rfl⟩
   case s10 => exact congrArg Value.bool (or_t h5)
  ·skip
   refine sB h5 rfl (sQ (qL ty_31 rfl m1 rfl) rfl (sQ (q_ret en_16 (skewbackref05_IsBad_ret b) rfl) rfl (sE rfl (nl J ?_))))
   refine J2 _ _ (by repeat first | exact .refl | refine .cons rfl ?_) ⟨_, s0, ?s10, rfl⟩
   case s10 => exact congrArg Value.bool (or_f h5 rfl)
 ·skip
  rintro g6 M ⟨hg10, rfl⟩
  simp only [setG, hg10]
  clear hg10
  rcases bt ((F_skewbackref05_IsBad a) || (F_skewbackref05_IsBad b)) with h7 | h7
  ·skip
   refine W_t h7 rfl (Rs fun K J => ?_)
   obtain ⟨r8, hr8⟩ := nm (F_skewbackref05_Bad : Iv)
   refine sC (AV [pI r8.lo.n, pI r8.lo.d, pI r8.hi.n, pI r8.hi.d]) en_64 skewbackref05_Bad_ret rfl rfl (by rw [hr8]; first | done | rfl) (sS [pI r8.lo.n, pI r8.lo.d, pI r8.hi.n, pI r8.hi.d] ty_31 rfl rfl rfl rfl rfl (.head _) rfl hb3 (nl J (W_ret (thenK_r (ret1 rfl (.inr rfl) (resP rfl m0 ty_31 rfl) ?_)))))
   exact (by subst hr8; exact congrArg (fun r : Iv => (AV [pI r.lo.n, pI r.lo.d, pI r.hi.n, pI r.hi.d] : Value)) (show _ = (F_skewbackref05_Add a b) from bif_t h7 rfl))
  ·skip
   refine W_f h7 rfl (W_skip (J1 _ _ (ds (sd (sk (sk (s0)))) [0,4,8,12,16,20,24,28,32,36,40,45] [11] mix (by kernel_rfl) (fun K J => pQ rfl (qF fd_31_0 rfl rfl) (pQ rfl (qL ty_28 rfl m2 rfl) (pQ rfl (qF fd_31_0 rfl rfl) (pQ rfl (qL ty_28 rfl m1 rfl) (pQ rfl (q_ret en_81 (skewbackref04_Add_ret a.lo b.lo) rfl) (pQ rfl (qF fd_31_1 rfl rfl) (pQ rfl (qL ty_28 rfl m2 rfl) (pQ rfl (qF fd_31_1 rfl rfl) (pQ rfl (qL ty_28 rfl m1 rfl) (pQ rfl (q_ret en_81 (skewbackref04_Add_ret a.hi b.hi) rfl) ?_)))))))))))))
   obtain ⟨r9, hr9⟩ := nm ((F_skewbackref05_Make (F_skewbackref04_Add a.lo b.lo) (F_skewbackref04_Add a.hi b.hi)) : Iv)
   refine pC (AV [pI r9.lo.n, pI r9.lo.d, pI r9.hi.n, pI r9.hi.d]) en_12 (skewbackref05_Make_ret (F_skewbackref04_Add a.lo b.lo) (F_skewbackref04_Add a.hi b.hi)) rfl rfl (by rw [hr9]; first | done | rfl) (oS [pI r9.lo.n, pI r9.lo.d, pI r9.hi.n, pI r9.hi.d] ty_31 rfl rfl rfl rfl rfl rfl (.head _) rfl hb3 rfl (sd s0) (fl J (W_ret (ret1 rfl (.inr rfl) (resP rfl m0 ty_31 rfl) ?_))))
   exact (by subst hr9; exact congrArg (fun r : Iv => (AV [pI r.lo.n, pI r.lo.d, pI r.hi.n, pI r.hi.d] : Value)) (show _ = (F_skewbackref05_Add a b) from bif_f h7 rfl))

theorem skewbackref05_Sub_ret (a : Iv) (b : Iv) :
    Ret Tryz.prog 42 [AV [pI a.lo.n, pI a.lo.d, pI a.hi.n, pI a.hi.d], AV [pI b.lo.n, pI b.lo.d, pI b.hi.n, pI b.hi.d]] (AV [pI (((F_skewbackref05_Sub a b).lo).n), pI (((F_skewbackref05_Sub a b).lo).d), pI (((F_skewbackref05_Sub a b).hi).n), pI (((F_skewbackref05_Sub a b).hi).d)]) := by
 refine ret_of_W (N := 23) Tryz.func42 rfl rfl (by simp) (fun w0 => ?_)
 simp only [initF, Nat.reduceAdd]
 refine Rs fun K J => WL_r rfl (r_boxp rfl rfl (fun b1 hb1 => WL_r rfl (r_boxp rfl rfl (fun b2 hb2 => sN zp_31 rfl fun b3 hb3 => nl J (Sq fun K1 J1 => ?_)))))
 refine W_join [5, 6, 7, 8, 9, 10] (fun g M => (g 10 = .bool ((F_skewbackref05_IsBad a) || (F_skewbackref05_IsBad b))) ∧ M = [⟨b3, 31, flat [pI I0, pI I0, pI I0, pI I0]⟩, ⟨b2, 31, flat [pI b.lo.n, pI b.lo.d, pI b.hi.n, pI b.hi.d]⟩, ⟨b1, 31, flat [pI a.lo.n, pI a.lo.d, pI a.hi.n, pI a.hi.d]⟩]) (fun K2 J2 => ?_) ?_
 ·skip
  refine Rk fun K J => sQ (qL ty_31 rfl m2 rfl) rfl (sQ (q_ret en_16 (skewbackref05_IsBad_ret a) rfl) rfl ?_)
  rcases bt (F_skewbackref05_IsBad a) with h5 | h5
  ·skip
   refine sB h5 rfl (WL_n rfl (WL_n rfl (sE rfl (nl J ?_))))
   refine J2 _ _ (by repeat first | exact .refl | refine .cons rfl ?_) ⟨_, s0, ?s10, rfl⟩
   case s10 => exact congrArg Value.bool (or_t h5)
  ·skip
   refine sB h5 rfl (sQ (qL ty_31 rfl m1 rfl) rfl (sQ (q_ret en_16 (skewbackref05_IsBad_ret b) rfl) rfl (sE rfl (nl J ?_))))
   refine J2 _ _ (by repeat first | exact .refl | refine .cons rfl ?_) ⟨_, s0, ?s10, rfl⟩
   case s10 => exact congrArg Value.bool (or_f h5 rfl)
 ·skip
  rintro g6 M ⟨hg10, rfl⟩
  simp only [setG, hg10]
  clear hg10
  rcases bt ((F_skewbackref05_IsBad a) || (F_skewbackref05_IsBad b)) with h7 | h7
  ·skip
   refine W_t h7 rfl (Rs fun K J => ?_)
   obtain ⟨r8, hr8⟩ := nm (F_skewbackref05_Bad : Iv)
   refine sC (AV [pI r8.lo.n, pI r8.lo.d, pI r8.hi.n, pI r8.hi.d]) en_64 skewbackref05_Bad_ret rfl rfl (by rw [hr8]; first | done | rfl) (sS [pI r8.lo.n, pI r8.lo.d, pI r8.hi.n, pI r8.hi.d] ty_31 rfl rfl rfl rfl rfl (.head _) rfl hb3 (nl J (W_ret (thenK_r (ret1 rfl (.inr rfl) (resP rfl m0 ty_31 rfl) ?_)))))
   exact (by subst hr8; exact congrArg (fun r : Iv => (AV [pI r.lo.n, pI r.lo.d, pI r.hi.n, pI r.hi.d] : Value)) (show _ = (F_skewbackref05_Sub a b) from bif_t h7 rfl))
  ·skip
   refine W_f h7 rfl (W_skip (J1 _ _ (ds (sd (sk (sk (s0)))) [0,4,8,12,16,20,24,28,32,36,40,45] [11] mix (by kernel_rfl) (fun K J => pQ rfl (qF fd_31_0 rfl rfl) (pQ rfl (qL ty_28 rfl m2 rfl) (pQ rfl (qF fd_31_1 rfl rfl) (pQ rfl (qL ty_28 rfl m1 rfl) (pQ rfl (q_ret en_82 (skewbackref04_Sub_ret a.lo b.hi) rfl) (pQ rfl (qF fd_31_1 rfl rfl) (pQ rfl (qL ty_28 rfl m2 rfl) (pQ rfl (qF fd_31_0 rfl rfl) (pQ rfl (qL ty_28 rfl m1 rfl) (pQ rfl (q_ret en_82 (skewbackref04_Sub_ret a.hi b.lo) rfl) ?_)))))))))))))
   obtain ⟨r9, hr9⟩ := nm ((F_skewbackref05_Make (F_skewbackref04_Sub a.lo b.hi) (F_skewbackref04_Sub a.hi b.lo)) : Iv)
   refine pC (AV [pI r9.lo.n, pI r9.lo.d, pI r9.hi.n, pI r9.hi.d]) en_12 (skewbackref05_Make_ret (F_skewbackref04_Sub a.lo b.hi) (F_skewbackref04_Sub a.hi b.lo)) rfl rfl (by rw [hr9]; first | done | rfl) (oS [pI r9.lo.n, pI r9.lo.d, pI r9.hi.n, pI r9.hi.d] ty_31 rfl rfl rfl rfl rfl rfl (.head _) rfl hb3 rfl (sd s0) (fl J (W_ret (ret1 rfl (.inr rfl) (resP rfl m0 ty_31 rfl) ?_))))
   exact (by subst hr9; exact congrArg (fun r : Iv => (AV [pI r.lo.n, pI r.lo.d, pI r.hi.n, pI r.hi.d] : Value)) (show _ = (F_skewbackref05_Sub a b) from bif_f h7 rfl))

theorem skewbackref05_Neg_ret (a : Iv) :
    Ret Tryz.prog 45 [AV [pI a.lo.n, pI a.lo.d, pI a.hi.n, pI a.hi.d]] (AV [pI (((F_skewbackref05_Neg a).lo).n), pI (((F_skewbackref05_Neg a).lo).d), pI (((F_skewbackref05_Neg a).hi).n), pI (((F_skewbackref05_Neg a).hi).d)]) := by
 refine ret_of_W (N := 13) Tryz.func45 rfl rfl (by simp) (fun w0 => ?_)
 simp only [initF, Nat.reduceAdd]
 refine Rs fun K J => WL_r rfl (r_boxp rfl rfl (fun b1 hb1 => sN zp_31 rfl fun b2 hb2 => nl J (Sq fun K1 J1 => Rs fun K J => sQ (qL ty_31 rfl m1 rfl) rfl (sQ (q_ret en_16 (skewbackref05_IsBad_ret a) rfl) rfl (nl J ?_)))))
 rcases bt (F_skewbackref05_IsBad a) with h3 | h3
 ·skip
  refine W_t h3 rfl (Rs fun K J => ?_)
  obtain ⟨r4, hr4⟩ := nm (F_skewbackref05_Bad : Iv)
  refine sC (AV [pI r4.lo.n, pI r4.lo.d, pI r4.hi.n, pI r4.hi.d]) en_64 skewbackref05_Bad_ret rfl rfl (by rw [hr4]; first | done | rfl) (sS [pI r4.lo.n, pI r4.lo.d, pI r4.hi.n, pI r4.hi.d] ty_31 rfl rfl rfl rfl rfl (.head _) rfl hb2 (nl J (W_ret (thenK_r (ret1 rfl (.inr rfl) (resP rfl m0 ty_31 rfl) ?_)))))
  exact (by subst hr4; exact congrArg (fun r : Iv => (AV [pI r.lo.n, pI r.lo.d, pI r.hi.n, pI r.hi.d] : Value)) (show _ = (F_skewbackref05_Neg a) from bif_t h3 rfl))
 ·skip
  refine W_f h3 rfl (W_skip (J1 _ _ (ds (sd (sk (s0))) [0,4,8,12,16,20,24,29] [7] mix (by kernel_rfl) (fun K J => pQ rfl (qF fd_31_1 rfl rfl) (pQ rfl (qL ty_28 rfl m1 rfl) (pQ rfl (q_ret en_87 (skewbackref04_Neg_ret a.hi) rfl) (pQ rfl (qF fd_31_0 rfl rfl) (pQ rfl (qL ty_28 rfl m1 rfl) (pQ rfl (q_ret en_87 (skewbackref04_Neg_ret a.lo) rfl) ?_)))))))))
  obtain ⟨r5, hr5⟩ := nm ((F_skewbackref05_Make (F_skewbackref04_Neg a.hi) (F_skewbackref04_Neg a.lo)) : Iv)
  refine pC (AV [pI r5.lo.n, pI r5.lo.d, pI r5.hi.n, pI r5.hi.d]) en_12 (skewbackref05_Make_ret (F_skewbackref04_Neg a.hi) (F_skewbackref04_Neg a.lo)) rfl rfl (by rw [hr5]; first | done | rfl) (oS [pI r5.lo.n, pI r5.lo.d, pI r5.hi.n, pI r5.hi.d] ty_31 rfl rfl rfl rfl rfl rfl (.head _) rfl hb2 rfl (sd s0) (fl J (W_ret (ret1 rfl (.inr rfl) (resP rfl m0 ty_31 rfl) ?_))))
  exact (by subst hr5; exact congrArg (fun r : Iv => (AV [pI r.lo.n, pI r.lo.d, pI r.hi.n, pI r.hi.d] : Value)) (show _ = (F_skewbackref05_Neg a) from bif_f h3 rfl))

theorem skewbackref05_around_ret (vl : Value) (l : (List Rt)) (w : World) (hl : Slr w elRt vl l) (hpre : 0 < l.length) :
    Calls Tryz.prog 83 [vl].toArray w (fun e w' => e = .returned (AV [pI (((F_skewbackref05_around l).lo).n), pI (((F_skewbackref05_around l).lo).d), pI (((F_skewbackref05_around l).hi).n), pI (((F_skewbackref05_around l).hi).d)]) ∧ Ext w w') := by
 refine callsq_of_W (N := 40) Tryz.func83 rfl rfl (by simp) ?_
 obtain ⟨w0, rfl⟩ : ∃ w0, w0 = w := ⟨_, rfl⟩
 have Hl := hl.old
 have hm_l := hl.max
 simp only [initF, Nat.reduceAdd]
 refine Rs fun K J => sN zp_31 rfl fun b1 hb1 => nl J (Rs fun K J => sE rfl (sQ (q_as (v' := .pointer (some (slb vl (0 * 36 + 0)))) (q_idxG (e := elRt) (l := l) (k := 0) sl_53 rfl rfl (SLe.sub Hl sn) (by omega)) rfl) rfl (sQ (q_ldG (e := elRt) (l := l) (k := 0) (o := 0) ty_28 rfl (SLe.sub Hl sn) (getD_some _ (by omega)) rfl) rfl (sN zp_28 rfl fun b2 hb2 => sS [pI ((l.getD 0 Rt0).n), pI ((l.getD 0 Rt0).d)] ty_28 rfl rfl rfl rfl rfl (.head _) rfl hb2 (nl J (Rs fun K J => sE rfl (sQ (q_as (v' := .pointer (some (slb vl (0 * 36 + 0)))) (q_idxG (e := elRt) (l := l) (k := 0) sl_53 rfl rfl (SLe.sub Hl sn) (by omega)) rfl) rfl (sQ (q_ldG (e := elRt) (l := l) (k := 0) (o := 0) ty_28 rfl (SLe.sub Hl sn) (getD_some _ (by omega)) rfl) rfl (sN zp_28 rfl fun b3 hb3 => sS [pI ((l.getD 0 Rt0).n), pI ((l.getD 0 Rt0).d)] ty_28 rfl rfl rfl rfl rfl (.head _) rfl hb3 (nl J (Sq fun K1 J1 => Rs fun K J => sE rfl ?_)))))))))))
 refine nl J ?_
 refine W_join3 (fun S M h => J1 S M h) [5, 12, 13, 14, 15, 16, 17, 18, 19, 20, 21, 22, 23, 24, 25, 26, 27, 28, 29, 30, 31, 32, 33, 34, 35, 36] (fun g M => ∃ (mb3 : Rt) (mb2 : Rt), (F_skewbackref05_around_loop0 l l (l.getD 0 Rt0) (l.getD 0 Rt0)) = .inl (mb3, mb2) ∧ (True) ∧ M = [⟨b3, 28, flat [pI mb3.n, pI mb3.d]⟩, ⟨b2, 28, flat [pI mb2.n, pI mb2.d]⟩, ⟨b1, 31, flat [pI I0, pI I0, pI I0, pI I0]⟩]) (fun K_u4 hK_u4 => ?_) ?_
 ·skip
  refine W_block ?_
  have hmx0 : (l).length ≤ 9223372036854775807 := hm_l
  refine W_loop_g [5, 12, 13, 14, 15, 16, 17, 18, 19, 20, 21, 22, 23, 24, 25, 26, 27, 28, 29, 30, 31, 32, 33, 34, 35, 36] (fun g nn M => ∃ (i0 : Nat) (l0 : List Rt) (mb3 : Rt) (mb2 : Rt), (F_skewbackref05_around_loop0 l l0 mb3 mb2) = (F_skewbackref05_around_loop0 l l (l.getD 0 Rt0) (l.getD 0 Rt0)) ∧ (l).drop i0 = l0 ∧ l0.length = nn ∧ g 5 = .int .i64 ((i0 : Nat) : Int) ∧ (True) ∧ M = [⟨b3, 28, flat [pI mb3.n, pI mb3.d]⟩, ⟨b2, 28, flat [pI mb2.n, pI mb2.d]⟩, ⟨b1, 31, flat [pI I0, pI I0, pI I0, pI I0]⟩]) (l).length ?start ?round
  case start => exact ⟨_, s0, 0, l, (l.getD 0 Rt0), (l.getD 0 Rt0), rfl, rfl, rfl, rfl, trivial, rfl⟩
  case round =>
   rintro nn g M ⟨i0, l0, mb3, mb2, hT0, hr0, rfl, hgi, -, rfl⟩
   simp only [setG, hgi]
   clear hgi
   refine Sq fun K8 J8 => Rs fun K J => sE rfl (sE rfl (sQ (q_as (v' := .int .i64 (((l).length : Nat) : Int)) (q_lenG (e := elRt) sl_53 rfl (SLe.sub Hl sn)) rfl) rfl (sE rfl (nl J ?_))))
   rcases l0 with _ | ⟨x0, l0⟩
   ·skip
    have h17 := dec_nil hr0
    refine W_f h17 rfl (W_exit (thenK_x (thenK_x (blockK_hit (hK_u4 _ _ (by repeat first | exact .refl | refine .cons rfl ?_) ⟨_, s0, mb3, mb2, (by exact hT0.symm.trans (Eq.symm (rfl))), trivial, rfl⟩)))))
   ·skip
    have h18 := dec_cons hr0
    have g19 := drop_cons hr0
    refine W_t h18 rfl (W_skip (J8 _ _ (Sq fun K9 J9 => W_block (Sq fun K10 J10 => Rs fun K J => sE rfl (sE rfl (sQ (q_as (v' := .pointer (some (slb vl (i0 * 36 + 0)))) (q_idxG (e := elRt) (l := l) (k := i0) sl_53 rfl rfl (SLe.sub Hl sn) g19.2.1) rfl) rfl (sQ (q_ldG (e := elRt) (l := l) (k := i0) (o := 0) ty_28 rfl (SLe.sub Hl sn) g19.1 rfl) rfl (sQ (q_ret en_66 (skewbackref04_Good_ret x0) rfl) rfl (sE rfl (nl J ?_))))))))))
    rcases bt (F_skewbackref04_Good x0) with h20 | h20
    ·skip
     refine W_f (not_f h20) rfl (W_skip (J10 _ _ (ds (sk (sd (sk (s0)))) [0,4,8,12,16,20,25] [6] mix (by kernel_rfl) (fun K J => pQ rfl (qL ty_28 rfl m1 rfl) (pE rfl (pE rfl (pQ rfl (q_as (v' := .pointer (some (slb vl (i0 * 36 + 0)))) (q_idxG (e := elRt) (l := l) (k := i0) sl_53 rfl rfl (SLe.sub Hl sn) g19.2.1) rfl) (pQ rfl (q_ldG (e := elRt) (l := l) (k := i0) (o := 0) ty_28 rfl (SLe.sub Hl sn) g19.1 rfl) (pQ rfl (q_ret en_72 (skewbackref04_Min_ret mb2 x0) rfl) (oS [pI ((F_skewbackref04_Min mb2 x0).n), pI ((F_skewbackref04_Min mb2 x0).d)] ty_28 rfl rfl rfl rfl rfl rfl (.tail _ (.head _)) rfl hb2 rfl (sk (sd s0)) (fl J (dr (sd (sk (sk (s0)))) [0,4,8,12,16,20,25] [6] mix (by kernel_rfl) (fun K J => pQ rfl (qL ty_28 rfl m0 rfl) (pE rfl (pE rfl (pQ rfl (q_as (v' := .pointer (some (slb vl (i0 * 36 + 0)))) (q_idxG (e := elRt) (l := l) (k := i0) sl_53 rfl rfl (SLe.sub Hl sn) g19.2.1) rfl) (pQ rfl (q_ldG (e := elRt) (l := l) (k := i0) (o := 0) ty_28 rfl (SLe.sub Hl sn) g19.1 rfl) (pQ rfl (q_ret en_71 (skewbackref04_Max_ret mb3 x0) rfl) (oS [pI ((F_skewbackref04_Max mb3 x0).n), pI ((F_skewbackref04_Max mb3 x0).d)] ty_28 rfl rfl rfl rfl rfl rfl (.head _) rfl hb3 rfl (sd s0) ?_)))))))))))))))))))
     refine fl J (J9 _ _ (Rk fun K J => sE rfl (sV (.int .i64 ((i0 + 1 : Nat) : Int)) rfl (congrArg (Value.int .i64) (nxt g19.2.1 hmx0)) (sE rfl (nl J (⟨(by repeat first | exact .refl | refine .cons rfl ?_), _, _, s0, (Nat.lt_succ_self _), i0 + 1, l0, (F_skewbackref04_Max mb3 x0), (F_skewbackref04_Min mb2 x0), (by exact (hT0.symm.trans (Eq.symm (bif_t h20 rfl))).symm), g19.2.2, rfl, rfl, trivial, rfl⟩))))))
    ·skip
     refine W_t (not_t h20) rfl (Rs fun K J => ?_)
     obtain ⟨r21, hr21⟩ := nm (F_skewbackref05_Bad : Iv)
     refine sC (AV [pI r21.lo.n, pI r21.lo.d, pI r21.hi.n, pI r21.hi.d]) en_64 skewbackref05_Bad_ret rfl rfl (by rw [hr21]; first | done | rfl) (sS [pI r21.lo.n, pI r21.lo.d, pI r21.hi.n, pI r21.hi.d] ty_31 rfl rfl rfl rfl rfl (.tail _ (.tail _ (.head _))) rfl hb1 (nl J (W_ret (thenK_r (blockK_r (thenK_r (thenK_r (blockK_r (thenK_r (thenK_r (ret1 rfl (.inr rfl) (resP rfl m2 ty_31 rfl) ?_)))))))))))
     exact (by subst hr21; exact congrArg (fun r : Iv => (AV [pI r.lo.n, pI r.lo.d, pI r.hi.n, pI r.hi.d] : Value)) (show _ = (F_skewbackref05_around l) from (sm_q rfl (hT0.symm.trans (Eq.symm (bif_f h20 rfl))))))
 ·skip
  rintro g M ⟨mb3, mb2, hCu4, -, rfl⟩
  simp only [setG]
  refine Rs fun K J => sQ (qL ty_28 rfl m1 rfl) rfl (sQ (qL ty_28 rfl m0 rfl) rfl ?_)
  obtain ⟨r22, hr22⟩ := nm ((F_skewbackref05_Make mb2 mb3) : Iv)
  refine sC (AV [pI r22.lo.n, pI r22.lo.d, pI r22.hi.n, pI r22.hi.d]) en_12 (skewbackref05_Make_ret mb2 mb3) rfl rfl (by rw [hr22]; first | done | rfl) (sS [pI r22.lo.n, pI r22.lo.d, pI r22.hi.n, pI r22.hi.d] ty_31 rfl rfl rfl rfl rfl (.tail _ (.tail _ (.head _))) rfl hb1 (nl J (W_ret (ret1 rfl (.inr rfl) (resP rfl m2 ty_31 rfl) ?_))))
  exact (by subst hr22; exact congrArg (fun r : Iv => (AV [pI r.lo.n, pI r.lo.d, pI r.hi.n, pI r.hi.d] : Value)) (show _ = (F_skewbackref05_around l) from sm_l hCu4 rfl))

theorem skewbackref05_Has_ret (a : Iv) (b : Rt) :
    Ret Tryz.prog 18 [AV [pI a.lo.n, pI a.lo.d, pI a.hi.n, pI a.hi.d], AV [pI b.n, pI b.d]] (.bool (F_skewbackref05_Has a b)) := by
 refine ret_of_W (N := 24) Tryz.func18 rfl rfl (by simp) (fun w0 => ?_)
 simp only [initF, Nat.reduceAdd]
 refine Rs fun K J => WL_r rfl (r_boxp rfl rfl (fun b1 hb1 => WL_r rfl (r_boxp rfl rfl (fun b2 hb2 => sE rfl (nl J (Sq fun K1 J1 => ?_))))))
 refine W_join [5, 6, 7, 8, 9, 10, 11] (fun g M => (g 11 = .bool ((F_skewbackref05_IsBad a) || (!(F_skewbackref04_Good b)))) ∧ M = [⟨b2, 28, flat [pI b.n, pI b.d]⟩, ⟨b1, 31, flat [pI a.lo.n, pI a.lo.d, pI a.hi.n, pI a.hi.d]⟩]) (fun K2 J2 => ?_) ?_
 ·skip
  refine Rk fun K J => sQ (qL ty_31 rfl m1 rfl) rfl (sQ (q_ret en_16 (skewbackref05_IsBad_ret a) rfl) rfl ?_)
  rcases bt (F_skewbackref05_IsBad a) with h4 | h4
  ·skip
   refine sB h4 rfl (WL_n rfl (WL_n rfl (WL_n rfl (sE rfl (nl J ?_)))))
   refine J2 _ _ (by repeat first | exact .refl | refine .cons rfl ?_) ⟨_, s0, ?s11, rfl⟩
   case s11 => exact congrArg Value.bool (or_t h4)
  ·skip
   refine sB h4 rfl (sQ (qL ty_28 rfl m0 rfl) rfl (sQ (q_ret en_66 (skewbackref04_Good_ret b) rfl) rfl (sE rfl (sE rfl (nl J ?_)))))
   refine J2 _ _ (by repeat first | exact .refl | refine .cons rfl ?_) ⟨_, s0, ?s11, rfl⟩
   case s11 => exact congrArg Value.bool (or_f h4 rfl)
 ·skip
  rintro g5 M ⟨hg11, rfl⟩
  simp only [setG, hg11]
  clear hg11
  rcases bt ((F_skewbackref05_IsBad a) || (!(F_skewbackref04_Good b))) with h6 | h6
  ·skip
   refine W_t h6 rfl (Rs fun K J => sE rfl (nl J (W_ret (thenK_r (ret1 rfl (.inr rfl) rfl ?_)))))
   exact (by exact congrArg (fun r : Bool => (.bool r : Value)) (show _ = (F_skewbackref05_Has a b) from bif_t h6 rfl))
  ·skip
   refine W_f h6 rfl (W_skip (J1 _ _ ?_))
   refine W_join [4, 12, 13, 14, 15, 16, 17, 18, 19, 20, 21, 22, 23] (fun g M => (g 4 = .bool (decide ((F_skewbackref04_Cmp a.lo b).1 ≤ 0) && decide ((F_skewbackref04_Cmp b a.hi).1 ≤ 0))) ∧ M = [⟨b2, 28, flat [pI b.n, pI b.d]⟩, ⟨b1, 31, flat [pI a.lo.n, pI a.lo.d, pI a.hi.n, pI a.hi.d]⟩]) (fun K3 J3 => ?_) ?_
   ·skip
    refine Rk fun K J => sQ (qF fd_31_0 rfl rfl) rfl (sQ (qL ty_28 rfl m1 rfl) rfl (sQ (qL ty_28 rfl m0 rfl) rfl (sQ (q_ret en_67 (skewbackref04_Cmp_ret a.lo b) rfl) rfl (sE rfl ?_))))
    rcases bt (decide ((F_skewbackref04_Cmp a.lo b).1 ≤ 0)) with h8 | h8
    ·skip
     refine sB h8 rfl (sQ (qL ty_28 rfl m0 rfl) rfl (sQ (qF fd_31_1 rfl rfl) rfl (sQ (qL ty_28 rfl m1 rfl) rfl (sQ (q_ret en_67 (skewbackref04_Cmp_ret b a.hi) rfl) rfl (sE rfl (sE rfl (sE rfl (nl J ?_))))))))
     refine J3 _ _ (by repeat first | exact .refl | refine .cons rfl ?_) ⟨_, s0, ?s4, rfl⟩
     case s4 => exact congrArg Value.bool (and_t h8 rfl)
    ·skip
     refine sB h8 rfl (WL_n rfl (WL_n rfl (WL_n rfl (WL_n rfl (WL_n rfl (sE rfl (sE rfl (nl J ?_))))))))
     refine J3 _ _ (by repeat first | exact .refl | refine .cons rfl ?_) ⟨_, s0, ?s4, rfl⟩
     case s4 => exact congrArg Value.bool (and_f h8)
   ·skip
    rintro g9 M ⟨hg4, rfl⟩
    simp only [setG, hg4]
    clear hg4
    refine W_ret (ret1 rfl (.inr rfl) rfl ?_)
    exact (by exact congrArg (fun r : Bool => (.bool r : Value)) (show _ = (F_skewbackref05_Has a b) from bif_f h6 rfl))

theorem skewbackref05_Mul_ret (a : Iv) (b : Iv) :
    Ret Tryz.prog 43 [AV [pI a.lo.n, pI a.lo.d, pI a.hi.n, pI a.hi.d], AV [pI b.lo.n, pI b.lo.d, pI b.hi.n, pI b.hi.d]] (AV [pI (((F_skewbackref05_Mul a b).lo).n), pI (((F_skewbackref05_Mul a b).lo).d), pI (((F_skewbackref05_Mul a b).hi).n), pI (((F_skewbackref05_Mul a b).hi).d)]) := by
 refine ret_of_W (N := 34) Tryz.func43 rfl rfl (by simp) (fun w0 => ?_)
 simp only [initF, Nat.reduceAdd]
 refine Rs fun K J => WL_r rfl (r_boxp rfl rfl (fun b1 hb1 => WL_r rfl (r_boxp rfl rfl (fun b2 hb2 => sN zp_31 rfl fun b3 hb3 => nl J (Sq fun K1 J1 => ?_)))))
 refine W_join [5, 6, 7, 8, 9, 10] (fun g M => (g 10 = .bool ((F_skewbackref05_IsBad a) || (F_skewbackref05_IsBad b))) ∧ M = [⟨b3, 31, flat [pI I0, pI I0, pI I0, pI I0]⟩, ⟨b2, 31, flat [pI b.lo.n, pI b.lo.d, pI b.hi.n, pI b.hi.d]⟩, ⟨b1, 31, flat [pI a.lo.n, pI a.lo.d, pI a.hi.n, pI a.hi.d]⟩]) (fun K2 J2 => ?_) ?_
 ·skip
  refine Rk fun K J => sQ (qL ty_31 rfl m2 rfl) rfl (sQ (q_ret en_16 (skewbackref05_IsBad_ret a) rfl) rfl ?_)
  rcases bt (F_skewbackref05_IsBad a) with h5 | h5
  ·skip
   refine sB h5 rfl (WL_n rfl (WL_n rfl (sE rfl (nl J ?_))))
   refine J2 _ _ (by repeat first | exact .refl | refine .cons rfl ?_) ⟨_, s0, ?s10, rfl⟩
   case s10 => exact congrArg Value.bool (or_t h5)
  ·skip
   refine sB h5 rfl (sQ (qL ty_31 rfl m1 rfl) rfl (sQ (q_ret en_16 (skewbackref05_IsBad_ret b) rfl) rfl (sE rfl (nl J ?_))))
   refine J2 _ _ (by repeat first | exact .refl | refine .cons rfl ?_) ⟨_, s0, ?s10, rfl⟩
   case s10 => exact congrArg Value.bool (or_f h5 rfl)
 ·skip
  rintro g6 M ⟨hg10, rfl⟩
  simp only [setG, hg10]
  clear hg10
  rcases bt ((F_skewbackref05_IsBad a) || (F_skewbackref05_IsBad b)) with h7 | h7
  ·skip
   refine W_t h7 rfl (Rs fun K J => ?_)
   obtain ⟨r8, hr8⟩ := nm (F_skewbackref05_Bad : Iv)
   refine sC (AV [pI r8.lo.n, pI r8.lo.d, pI r8.hi.n, pI r8.hi.d]) en_64 skewbackref05_Bad_ret rfl rfl (by rw [hr8]; first | done | rfl) (sS [pI r8.lo.n, pI r8.lo.d, pI r8.hi.n, pI r8.hi.d] ty_31 rfl rfl rfl rfl rfl (.head _) rfl hb3 (nl J (W_ret (thenK_r (ret1 rfl (.inr rfl) (resP rfl m0 ty_31 rfl) ?_)))))
   exact (by subst hr8; exact congrArg (fun r : Iv => (AV [pI r.lo.n, pI r.lo.d, pI r.hi.n, pI r.hi.d] : Value)) (show _ = (F_skewbackref05_Mul a b) from bif_t h7 rfl))
  ·skip
   refine W_f h7 rfl (W_skip (J1 _ _ (ds (sd (sk (sk (s0)))) [0,4,8,12,16,20,24,28,32,36,40,44,48,52,56,60,64,68,72,76,81,84,89] [22] mix (by kernel_rfl) (fun K J => pQ rfl (qF fd_31_0 rfl rfl) (pQ rfl (qL ty_28 rfl m2 rfl) (pQ rfl (qF fd_31_0 rfl rfl) (pQ rfl (qL ty_28 rfl m1 rfl) (pQ rfl (q_ret en_84 (skewbackref04_Mul_ret a.lo b.lo) rfl) (pQ rfl (qF fd_31_0 rfl rfl) (pQ rfl (qL ty_28 rfl m2 rfl) (pQ rfl (qF fd_31_1 rfl rfl) (pQ rfl (qL ty_28 rfl m1 rfl) (pQ rfl (q_ret en_84 (skewbackref04_Mul_ret a.lo b.hi) rfl) (pQ rfl (qF fd_31_1 rfl rfl) (pQ rfl (qL ty_28 rfl m2 rfl) (pQ rfl (qF fd_31_0 rfl rfl) (pQ rfl (qL ty_28 rfl m1 rfl) (pQ rfl (q_ret en_84 (skewbackref04_Mul_ret a.hi b.lo) rfl) (pQ rfl (qF fd_31_1 rfl rfl) ?_)))))))))))))))))))
   refine pQ rfl (qL ty_28 rfl m2 rfl) (pQ rfl (qF fd_31_1 rfl rfl) (pQ rfl (qL ty_28 rfl m1 rfl) (pQ rfl (q_ret en_84 (skewbackref04_Mul_ret a.hi b.hi) rfl) (PL_o rfl rfl (r_bsliceA [[pI ((F_skewbackref04_Mul a.lo b.lo).n), pI ((F_skewbackref04_Mul a.lo b.lo).d)], [pI ((F_skewbackref04_Mul a.lo b.hi).n), pI ((F_skewbackref04_Mul a.lo b.hi).d)], [pI ((F_skewbackref04_Mul a.hi b.lo).n), pI ((F_skewbackref04_Mul a.hi b.lo).d)], [pI ((F_skewbackref04_Mul a.hi b.hi).n), pI ((F_skewbackref04_Mul a.hi b.hi).d)]] [pI ((F_skewbackref04_Mul a.lo b.lo).n), pI ((F_skewbackref04_Mul a.lo b.lo).d), pI ((F_skewbackref04_Mul a.lo b.hi).n), pI ((F_skewbackref04_Mul a.lo b.hi).d), pI ((F_skewbackref04_Mul a.hi b.lo).n), pI ((F_skewbackref04_Mul a.hi b.lo).d), pI ((F_skewbackref04_Mul a.hi b.hi).n), pI ((F_skewbackref04_Mul a.hi b.hi).d)] us_53 z_28 sz_28 rfl (by decide) rfl rfl ⟨rfl, rfl, rfl, rfl, rfl, rfl, rfl, rfl, rfl, rfl, rfl, rfl, trivial⟩ rfl (fun b9 hb9 => ⟨(fun _ => sd s0), (sd (sd s0)), ?_⟩))))))
   obtain ⟨r10, hr10⟩ := nm ((F_skewbackref05_around [(F_skewbackref04_Mul a.lo b.lo), (F_skewbackref04_Mul a.lo b.hi), (F_skewbackref04_Mul a.hi b.lo), (F_skewbackref04_Mul a.hi b.hi)]) : Iv)
   refine pQ rfl (q_as (v' := AV [pI r10.lo.n, pI r10.lo.d, pI r10.hi.n, pI r10.hi.d]) (q_call en_83 rfl (fun w hw => skewbackref05_around_ret _ ([(F_skewbackref04_Mul a.lo b.lo), (F_skewbackref04_Mul a.lo b.hi), (F_skewbackref04_Mul a.hi b.lo), (F_skewbackref04_Mul a.hi b.hi)]) w (SLe.ap hw (SLe.lit (e := elRt) (l := [(F_skewbackref04_Mul a.lo b.lo), (F_skewbackref04_Mul a.lo b.hi), (F_skewbackref04_Mul a.hi b.lo), (F_skewbackref04_Mul a.hi b.hi)]) m0 rfl (Nat.le_of_ble_eq_true rfl) rfl)) (by simp))) (by rw [hr10]; first | done | rfl)) ?_
   refine oS [pI r10.lo.n, pI r10.lo.d, pI r10.hi.n, pI r10.hi.d] ty_31 rfl rfl rfl rfl rfl rfl (.tail _ (.head _)) rfl hb3 rfl (sd (sd s0)) (fl J (W_ret (ret1 rfl (.inr rfl) (resP rfl m1 ty_31 rfl) ?_)))
   exact (by subst hr10; exact congrArg (fun r : Iv => (AV [pI r.lo.n, pI r.lo.d, pI r.hi.n, pI r.hi.d] : Value)) (show _ = (F_skewbackref05_Mul a b) from bif_f h7 rfl))

theorem skewbackref05_Div_ret (a : Iv) (b : Iv) :
    Ret Tryz.prog 44 [AV [pI a.lo.n, pI a.lo.d, pI a.hi.n, pI a.hi.d], AV [pI b.lo.n, pI b.lo.d, pI b.hi.n, pI b.hi.d]] (AV [pI (((F_skewbackref05_Div a b).lo).n), pI (((F_skewbackref05_Div a b).lo).d), pI (((F_skewbackref05_Div a b).hi).n), pI (((F_skewbackref05_Div a b).hi).d)]) := by
 refine ret_of_W (N := 39) Tryz.func44 rfl rfl (by simp) (fun w0 => ?_)
 simp only [initF, Nat.reduceAdd]
 refine Rs fun K J => WL_r rfl (r_boxp rfl rfl (fun b1 hb1 => WL_r rfl (r_boxp rfl rfl (fun b2 hb2 => sN zp_31 rfl fun b3 hb3 => nl J (Sq fun K1 J1 => ?_)))))
 refine W_join [5, 6, 7, 8, 9, 10, 11, 12, 13, 14, 15] (fun g M => (g 15 = .bool ((F_skewbackref05_IsBad a) || ((F_skewbackref05_IsBad b) || (F_skewbackref05_Has b (F_skewbackref04_Of (wl 0)))))) ∧ M = [⟨b3, 31, flat [pI I0, pI I0, pI I0, pI I0]⟩, ⟨b2, 31, flat [pI b.lo.n, pI b.lo.d, pI b.hi.n, pI b.hi.d]⟩, ⟨b1, 31, flat [pI a.lo.n, pI a.lo.d, pI a.hi.n, pI a.hi.d]⟩]) (fun K2 J2 => ?_) ?_
 ·skip
  refine dr (sk (sk (sk (s0)))) [0,4,8,12,16,20,24,28,32,36,40] [] mix (by kernel_rfl) (fun K J => pQ rfl (qL ty_31 rfl m2 rfl) (pQ rfl (q_ret en_16 (skewbackref05_IsBad_ret a) rfl) ?_))
  rcases bt (F_skewbackref05_IsBad a) with h6 | h6
  ·skip
   refine pB h6 rfl (PL_n rfl rfl (PL_n rfl rfl (pE rfl (pE rfl (PL_n rfl rfl (PL_n rfl rfl (PL_n rfl rfl (pE rfl (fl J ?_)))))))))
   refine J2 _ _ (by repeat first | exact .refl | refine .cons rfl ?_) ⟨_, s0, ?s15, rfl⟩
   case s15 => exact congrArg Value.bool (or_t h6)
  ·skip
   refine pB h6 rfl (pQ rfl (qL ty_31 rfl m1 rfl) (pQ rfl (q_ret en_16 (skewbackref05_IsBad_ret b) rfl) (pE rfl ?_)))
   rcases bt (F_skewbackref05_IsBad b) with h7 | h7
   ·skip
    refine pB h7 rfl (PL_n rfl rfl (PL_n rfl rfl (PL_n rfl rfl (pE rfl (fl J ?_)))))
    refine J2 _ _ (by repeat first | exact .refl | refine .cons rfl ?_) ⟨_, s0, ?s15, rfl⟩
    case s15 => exact congrArg Value.bool (or_f h6 (or_t h7))
   ·skip
    refine pB h7 rfl (pQ rfl (qL ty_31 rfl m1 rfl) (pQ rfl (q_ret en_85 (skewbackref04_Of_ret (wl 0)) rfl) ?_))
    refine pQ rfl (q_ret en_18 (skewbackref05_Has_ret b (F_skewbackref04_Of (wl 0))) rfl) ?_
    refine pE rfl (fl J ?_)
    refine J2 _ _ (by repeat first | exact .refl | refine .cons rfl ?_) ⟨_, s0, ?s15, rfl⟩
    case s15 => exact congrArg Value.bool (or_f h6 (or_f h7 rfl))
 ·skip
  rintro g8 M ⟨hg15, rfl⟩
  simp only [setG, hg15]
  clear hg15
  rcases bt ((F_skewbackref05_IsBad a) || ((F_skewbackref05_IsBad b) || (F_skewbackref05_Has b (F_skewbackref04_Of (wl 0))))) with h9 | h9
  ·skip
   refine W_t h9 rfl (Rs fun K J => ?_)
   obtain ⟨r10, hr10⟩ := nm (F_skewbackref05_Bad : Iv)
   refine sC (AV [pI r10.lo.n, pI r10.lo.d, pI r10.hi.n, pI r10.hi.d]) en_64 skewbackref05_Bad_ret rfl rfl (by rw [hr10]; first | done | rfl) (sS [pI r10.lo.n, pI r10.lo.d, pI r10.hi.n, pI r10.hi.d] ty_31 rfl rfl rfl rfl rfl (.head _) rfl hb3 (nl J (W_ret (thenK_r (ret1 rfl (.inr rfl) (resP rfl m0 ty_31 rfl) ?_)))))
   exact (by subst hr10; exact congrArg (fun r : Iv => (AV [pI r.lo.n, pI r.lo.d, pI r.hi.n, pI r.hi.d] : Value)) (show _ = (F_skewbackref05_Div a b) from bif_t h9 rfl))
  ·skip
   refine W_f h9 rfl (W_skip (J1 _ _ (ds (sd (sk (sk (s0)))) [0,4,8,12,16,20,24,28,32,36,40,44,48,52,56,60,64,68,72,76,81,84,89] [22] mix (by kernel_rfl) (fun K J => pQ rfl (qF fd_31_0 rfl rfl) (pQ rfl (qL ty_28 rfl m2 rfl) (pQ rfl (qF fd_31_0 rfl rfl) (pQ rfl (qL ty_28 rfl m1 rfl) (pQ rfl (q_ret en_86 (skewbackref04_Div_ret a.lo b.lo) rfl) (pQ rfl (qF fd_31_0 rfl rfl) (pQ rfl (qL ty_28 rfl m2 rfl) (pQ rfl (qF fd_31_1 rfl rfl) (pQ rfl (qL ty_28 rfl m1 rfl) (pQ rfl (q_ret en_86 (skewbackref04_Div_ret a.lo b.hi) rfl) (pQ rfl (qF fd_31_1 rfl rfl) (pQ rfl (qL ty_28 rfl m2 rfl) (pQ rfl (qF fd_31_0 rfl rfl) (pQ rfl (qL ty_28 rfl m1 rfl) (pQ rfl (q_ret en_86 (skewbackref04_Div_ret a.hi b.lo) rfl) (pQ rfl (qF fd_31_1 rfl rfl) ?_)))))))))))))))))))
   refine pQ rfl (qL ty_28 rfl m2 rfl) (pQ rfl (qF fd_31_1 rfl rfl) (pQ rfl (qL ty_28 rfl m1 rfl) (pQ rfl (q_ret en_86 (skewbackref04_Div_ret a.hi b.hi) rfl) (PL_o rfl rfl (r_bsliceA [[pI ((F_skewbackref04_Div a.lo b.lo).n), pI ((F_skewbackref04_Div a.lo b.lo).d)], [pI ((F_skewbackref04_Div a.lo b.hi).n), pI ((F_skewbackref04_Div a.lo b.hi).d)], [pI ((F_skewbackref04_Div a.hi b.lo).n), pI ((F_skewbackref04_Div a.hi b.lo).d)], [pI ((F_skewbackref04_Div a.hi b.hi).n), pI ((F_skewbackref04_Div a.hi b.hi).d)]] [pI ((F_skewbackref04_Div a.lo b.lo).n), pI ((F_skewbackref04_Div a.lo b.lo).d), pI ((F_skewbackref04_Div a.lo b.hi).n), pI ((F_skewbackref04_Div a.lo b.hi).d), pI ((F_skewbackref04_Div a.hi b.lo).n), pI ((F_skewbackref04_Div a.hi b.lo).d), pI ((F_skewbackref04_Div a.hi b.hi).n), pI ((F_skewbackref04_Div a.hi b.hi).d)] us_53 z_28 sz_28 rfl (by decide) rfl rfl ⟨rfl, rfl, rfl, rfl, rfl, rfl, rfl, rfl, rfl, rfl, rfl, rfl, trivial⟩ rfl (fun b11 hb11 => ⟨(fun _ => sd s0), (sd (sd s0)), ?_⟩))))))
   obtain ⟨r12, hr12⟩ := nm ((F_skewbackref05_around [(F_skewbackref04_Div a.lo b.lo), (F_skewbackref04_Div a.lo b.hi), (F_skewbackref04_Div a.hi b.lo), (F_skewbackref04_Div a.hi b.hi)]) : Iv)
   refine pQ rfl (q_as (v' := AV [pI r12.lo.n, pI r12.lo.d, pI r12.hi.n, pI r12.hi.d]) (q_call en_83 rfl (fun w hw => skewbackref05_around_ret _ ([(F_skewbackref04_Div a.lo b.lo), (F_skewbackref04_Div a.lo b.hi), (F_skewbackref04_Div a.hi b.lo), (F_skewbackref04_Div a.hi b.hi)]) w (SLe.ap hw (SLe.lit (e := elRt) (l := [(F_skewbackref04_Div a.lo b.lo), (F_skewbackref04_Div a.lo b.hi), (F_skewbackref04_Div a.hi b.lo), (F_skewbackref04_Div a.hi b.hi)]) m0 rfl (Nat.le_of_ble_eq_true rfl) rfl)) (by simp))) (by rw [hr12]; first | done | rfl)) ?_
   refine oS [pI r12.lo.n, pI r12.lo.d, pI r12.hi.n, pI r12.hi.d] ty_31 rfl rfl rfl rfl rfl rfl (.tail _ (.head _)) rfl hb3 rfl (sd (sd s0)) (fl J (W_ret (ret1 rfl (.inr rfl) (resP rfl m1 ty_31 rfl) ?_)))
   exact (by subst hr12; exact congrArg (fun r : Iv => (AV [pI r.lo.n, pI r.lo.d, pI r.hi.n, pI r.hi.d] : Value)) (show _ = (F_skewbackref05_Div a b) from bif_f h9 rfl))

theorem skewbackref05_Abs_ret (a : Iv) :
    Ret Tryz.prog 46 [AV [pI a.lo.n, pI a.lo.d, pI a.hi.n, pI a.hi.d]] (AV [pI (((F_skewbackref05_Abs a).lo).n), pI (((F_skewbackref05_Abs a).lo).d), pI (((F_skewbackref05_Abs a).hi).n), pI (((F_skewbackref05_Abs a).hi).d)]) := by
 refine ret_of_W (N := 25) Tryz.func46 rfl rfl (by simp) (fun w0 => ?_)
 simp only [initF, Nat.reduceAdd]
 refine Rs fun K J => WL_r rfl (r_boxp rfl rfl (fun b1 hb1 => sN zp_31 rfl fun b2 hb2 => nl J (Sq fun K1 J1 => Rs fun K J => sQ (qL ty_31 rfl m1 rfl) rfl (sQ (q_ret en_16 (skewbackref05_IsBad_ret a) rfl) rfl (nl J ?_)))))
 rcases bt (F_skewbackref05_IsBad a) with h3 | h3
 ·skip
  refine W_t h3 rfl (Rs fun K J => ?_)
  obtain ⟨r4, hr4⟩ := nm (F_skewbackref05_Bad : Iv)
  refine sC (AV [pI r4.lo.n, pI r4.lo.d, pI r4.hi.n, pI r4.hi.d]) en_64 skewbackref05_Bad_ret rfl rfl (by rw [hr4]; first | done | rfl) (sS [pI r4.lo.n, pI r4.lo.d, pI r4.hi.n, pI r4.hi.d] ty_31 rfl rfl rfl rfl rfl (.head _) rfl hb2 (nl J (W_ret (thenK_r (ret1 rfl (.inr rfl) (resP rfl m0 ty_31 rfl) ?_)))))
  exact (by subst hr4; exact congrArg (fun r : Iv => (AV [pI r.lo.n, pI r.lo.d, pI r.hi.n, pI r.hi.d] : Value)) (show _ = (F_skewbackref05_Abs a) from bif_t h3 rfl))
 ·skip
  refine W_f h3 rfl (W_skip (J1 _ _ (Sq fun K2 J2 => Rs fun K J => sQ (qF fd_31_0 rfl rfl) rfl (sQ (qL ty_28 rfl m1 rfl) rfl (sQ (q_ret en_88 (skewbackref04_Sign_ret a.lo) rfl) rfl (sE rfl (nl J ?_)))))))
  rcases bt (decide (0 ≤ (F_skewbackref04_Sign a.lo).1)) with h5 | h5
  ·skip
   refine W_t h5 rfl (Rs fun K J => sQ (qL ty_31 rfl m1 rfl) rfl (sS [pI a.lo.n, pI a.lo.d, pI a.hi.n, pI a.hi.d] ty_31 rfl rfl rfl rfl rfl (.head _) rfl hb2 (nl J (W_ret (thenK_r (ret1 rfl (.inr rfl) (resP rfl m0 ty_31 rfl) ?_))))))
   exact (by exact congrArg (fun r : Iv => (AV [pI r.lo.n, pI r.lo.d, pI r.hi.n, pI r.hi.d] : Value)) (show _ = (F_skewbackref05_Abs a) from bif_f h3 (bif_t h5 rfl)))
  ·skip
   refine W_f h5 rfl (W_skip (J2 _ _ (Sq fun K3 J3 => Rs fun K J => sQ (qF fd_31_1 rfl rfl) rfl (sQ (qL ty_28 rfl m1 rfl) rfl (sQ (q_ret en_88 (skewbackref04_Sign_ret a.hi) rfl) rfl (sE rfl (nl J ?_)))))))
   rcases bt (decide ((F_skewbackref04_Sign a.hi).1 ≤ 0)) with h6 | h6
   ·skip
    refine W_t h6 rfl (Rs fun K J => sQ (qL ty_31 rfl m1 rfl) rfl ?_)
    obtain ⟨r7, hr7⟩ := nm ((F_skewbackref05_Neg a) : Iv)
    refine sC (AV [pI r7.lo.n, pI r7.lo.d, pI r7.hi.n, pI r7.hi.d]) en_45 (skewbackref05_Neg_ret a) rfl rfl (by rw [hr7]; first | done | rfl) (sS [pI r7.lo.n, pI r7.lo.d, pI r7.hi.n, pI r7.hi.d] ty_31 rfl rfl rfl rfl rfl (.head _) rfl hb2 (nl J (W_ret (thenK_r (ret1 rfl (.inr rfl) (resP rfl m0 ty_31 rfl) ?_)))))
    exact (by subst hr7; exact congrArg (fun r : Iv => (AV [pI r.lo.n, pI r.lo.d, pI r.hi.n, pI r.hi.d] : Value)) (show _ = (F_skewbackref05_Abs a) from bif_f h3 (bif_f h5 (bif_t h6 rfl))))
   ·skip
    refine W_f h6 rfl (W_skip (J3 _ _ (ds (sd (sk (s0))) [0,4,8,12,16,20,24,28,33] [8] mix (by kernel_rfl) (fun K J => pQ rfl (q_ret en_85 (skewbackref04_Of_ret (wl 0)) rfl) ?_))))
    refine pQ rfl (qF fd_31_0 rfl rfl) (pQ rfl (qL ty_28 rfl m1 rfl) (pQ rfl (q_ret en_87 (skewbackref04_Neg_ret a.lo) rfl) (pQ rfl (qF fd_31_1 rfl rfl) (pQ rfl (qL ty_28 rfl m1 rfl) ?_))))
    obtain ⟨r8, hr8⟩ := nm ((F_skewbackref04_Max (F_skewbackref04_Neg a.lo) a.hi) : Rt)
    refine pC (AV [pI r8.n, pI r8.d]) en_71 (skewbackref04_Max_ret (F_skewbackref04_Neg a.lo) a.hi) rfl rfl (by rw [hr8]; first | done | rfl) ?_
    obtain ⟨r9, hr9⟩ := nm ((F_skewbackref05_Make (F_skewbackref04_Of (wl 0)) r8) : Iv)
    refine pC (AV [pI r9.lo.n, pI r9.lo.d, pI r9.hi.n, pI r9.hi.d]) en_12 (skewbackref05_Make_ret (F_skewbackref04_Of (wl 0)) r8) rfl rfl (by rw [hr9]; first | done | rfl) ?_
    refine oS [pI r9.lo.n, pI r9.lo.d, pI r9.hi.n, pI r9.hi.d] ty_31 rfl rfl rfl rfl rfl rfl (.head _) rfl hb2 rfl (sd s0) (fl J (W_ret (ret1 rfl (.inr rfl) (resP rfl m0 ty_31 rfl) ?_)))
    exact (by subst hr9; subst hr8; exact congrArg (fun r : Iv => (AV [pI r.lo.n, pI r.lo.d, pI r.hi.n, pI r.hi.d] : Value)) (show _ = (F_skewbackref05_Abs a) from bif_f h3 (bif_f h5 (bif_f h6 rfl))))

theorem skewbackref05_power_ret (a : Rt) (b : W) :
    Ret Tryz.prog 89 [AV [pI a.n, pI a.d], .int .i64 b.1] (AV [pI ((F_skewbackref05_power a b).n), pI ((F_skewbackref05_power a b).d)]) := by
 refine ret_of_W (N := 17) Tryz.func89 rfl rfl (by simp) (fun w0 => ?_)
 simp only [initF, Nat.reduceAdd]
 refine Rs fun K J => WL_r rfl (r_boxp rfl rfl (fun b1 hb1 => sN zp_28 rfl fun b2 hb2 => nl J (Rs fun K J => sQ (q_ret en_85 (skewbackref04_Of_ret (wl 1)) rfl) rfl ?_)))
 refine sN zp_28 rfl fun b3 hb3 => sS [pI ((F_skewbackref04_Of (wl 1)).n), pI ((F_skewbackref04_Of (wl 1)).d)] ty_28 rfl rfl rfl rfl rfl (.head _) rfl hb3 ?_
 refine nl J (Sq fun K1 J1 => Rs fun K J => sE rfl (nl J ?_))
 refine W_join3 (fun S M h => J1 S M h) [6, 8, 9, 10, 11, 12, 13, 14, 15] (fun g M => ∃ (i : W) (mb3 : Rt), (F_skewbackref05_power_loop0 a b (b.1.toNat + 1) (wl 0) (F_skewbackref04_Of (wl 1))) = (i, mb3) ∧ (g 6 = .int .i64 i.1) ∧ M = [⟨b3, 28, flat [pI mb3.n, pI mb3.d]⟩, ⟨b2, 28, flat [pI I0, pI I0]⟩, ⟨b1, 28, flat [pI a.n, pI a.d]⟩]) (fun K_u4 hK_u4 => ?_) ?_
 ·skip
  refine W_block ?_
  refine W_loop_g [6, 8, 9, 10, 11, 12, 13, 14, 15] (fun g nn M => ∃ (i : W) (mb3 : Rt), (F_skewbackref05_power_loop0 a b nn i mb3) = (F_skewbackref05_power_loop0 a b (b.1.toNat + 1) (wl 0) (F_skewbackref04_Of (wl 1))) ∧ (b.1 - i.1).toNat < nn ∧ (True) ∧ (g 6 = .int .i64 i.1) ∧ M = [⟨b3, 28, flat [pI mb3.n, pI mb3.d]⟩, ⟨b2, 28, flat [pI I0, pI I0]⟩, ⟨b1, 28, flat [pI a.n, pI a.d]⟩]) (b.1.toNat + 1) ?start ?round
  case start => exact ⟨_, s0, (wl 0), (F_skewbackref04_Of (wl 1)), rfl, (cnt_start b), trivial, rfl, rfl⟩
  case round =>
   rintro nn g M ⟨i, mb3, hT0, hq0, hinv0, hg6, rfl⟩
   obtain ⟨k0, rfl⟩ : ∃ m, nn = m + 1 := ⟨nn - 1, by omega⟩
   simp only [setG, hg6]
   clear hg6
   refine Sq fun K6 J6 => Rs fun K J => sE rfl (sE rfl (sE rfl (nl J ?_)))
   rcases bt (decide (i.1 < b.1)) with h8 | h8
   ·skip
    refine W_t h8 rfl (W_skip (J6 _ _ (Sq fun K7 J7 => W_block (Rk fun K J => sQ (qL ty_28 rfl m0 rfl) rfl (sQ (qL ty_28 rfl m2 rfl) rfl (sQ (q_ret en_84 (skewbackref04_Mul_ret mb3 a) rfl) rfl (sS [pI ((F_skewbackref04_Mul mb3 a).n), pI ((F_skewbackref04_Mul mb3 a).d)] ty_28 rfl rfl rfl rfl rfl (.head _) rfl hb3 (nl J (J7 _ _ (Rk fun K J => sE rfl (sV (.int .i64 ((W.add i (wl 1)).1)) rfl rfl ?_)))))))))))
    refine sE rfl (nl J (⟨(by repeat first | exact .refl | refine .cons rfl ?_), _, _, s0, (Nat.lt_succ_self _), (W.add i (wl 1)), (F_skewbackref04_Mul mb3 a), (by exact (hT0.symm.trans (Eq.symm (bif_t h8 rfl))).symm), (Nat.lt_of_lt_of_le (cnt_dec h8) (Nat.le_of_lt_succ hq0)), trivial, rfl, rfl⟩))
   ·skip
    refine W_f h8 rfl (W_exit (thenK_x (thenK_x (blockK_hit (hK_u4 _ _ (by repeat first | exact .refl | refine .cons rfl ?_) ⟨_, s0, i, mb3, (by exact hT0.symm.trans (Eq.symm (bif_f h8 rfl))), rfl, rfl⟩)))))
 ·skip
  rintro g M ⟨i, mb3, hCu4, hg6, rfl⟩
  simp only [setG, hg6]
  clear hg6
  refine Rs fun K J => sQ (qL ty_28 rfl m0 rfl) rfl (sS [pI mb3.n, pI mb3.d] ty_28 rfl rfl rfl rfl rfl (.tail _ (.head _)) rfl hb2 (nl J (W_ret (ret1 rfl (.inr rfl) (resP rfl m1 ty_28 rfl) ?_))))
  exact (by exact congrArg (fun r : Rt => (AV [pI r.n, pI r.d] : Value)) (show _ = (F_skewbackref05_power a b) from ap_ hCu4 rfl))

theorem skewbackref05_Power_ret (a : Iv) (b : W) :
    Ret Tryz.prog 47 [AV [pI a.lo.n, pI a.lo.d, pI a.hi.n, pI a.hi.d], .int .i64 b.1] (AV [pI (((F_skewbackref05_Power a b).lo).n), pI (((F_skewbackref05_Power a b).lo).d), pI (((F_skewbackref05_Power a b).hi).n), pI (((F_skewbackref05_Power a b).hi).d)]) := by
 refine ret_of_W (N := 32) Tryz.func47 rfl rfl (by simp) (fun w0 => ?_)
 simp only [initF, Nat.reduceAdd]
 refine Rs fun K J => WL_r rfl (r_boxp rfl rfl (fun b1 hb1 => sN zp_31 rfl fun b2 hb2 => nl J (Sq fun K1 J1 => ?_)))
 refine W_join [6, 7, 8, 9, 10, 11, 12, 13, 14, 15] (fun g M => (g 15 = .bool ((F_skewbackref05_IsBad a) || (decide (b.1 < 0) || decide (32 < b.1)))) ∧ M = [⟨b2, 31, flat [pI I0, pI I0, pI I0, pI I0]⟩, ⟨b1, 31, flat [pI a.lo.n, pI a.lo.d, pI a.hi.n, pI a.hi.d]⟩]) (fun K2 J2 => ?_) ?_
 ·skip
  refine Rk fun K J => sQ (qL ty_31 rfl m1 rfl) rfl (sQ (q_ret en_16 (skewbackref05_IsBad_ret a) rfl) rfl ?_)
  rcases bt (F_skewbackref05_IsBad a) with h5 | h5
  ·skip
   refine sB h5 rfl (WL_n rfl (WL_n rfl (sE rfl (sE rfl (WL_n rfl (WL_n rfl (sE rfl (nl J ?_))))))))
   refine J2 _ _ (by repeat first | exact .refl | refine .cons rfl ?_) ⟨_, s0, ?s15, rfl⟩
   case s15 => exact congrArg Value.bool (or_t h5)
  ·skip
   refine sB h5 rfl (sE rfl (sE rfl (sE rfl ?_)))
   rcases bt (decide (b.1 < 0)) with h6 | h6
   ·skip
    refine sB h6 rfl (WL_n rfl (WL_n rfl (sE rfl (nl J ?_))))
    refine J2 _ _ (by repeat first | exact .refl | refine .cons rfl ?_) ⟨_, s0, ?s15, rfl⟩
    case s15 => exact congrArg Value.bool (or_f h5 (or_t h6))
   ·skip
    refine sB h6 rfl (sE rfl (sE rfl (sE rfl (nl J ?_))))
    refine J2 _ _ (by repeat first | exact .refl | refine .cons rfl ?_) ⟨_, s0, ?s15, rfl⟩
    case s15 => exact congrArg Value.bool (or_f h5 (or_f h6 rfl))
 ·skip
  rintro g7 M ⟨hg15, rfl⟩
  simp only [setG, hg15]
  clear hg15
  rcases bt ((F_skewbackref05_IsBad a) || (decide (b.1 < 0) || decide (32 < b.1))) with h8 | h8
  ·skip
   refine W_t h8 rfl (Rs fun K J => ?_)
   obtain ⟨r9, hr9⟩ := nm (F_skewbackref05_Bad : Iv)
   refine sC (AV [pI r9.lo.n, pI r9.lo.d, pI r9.hi.n, pI r9.hi.d]) en_64 skewbackref05_Bad_ret rfl rfl (by rw [hr9]; first | done | rfl) (sS [pI r9.lo.n, pI r9.lo.d, pI r9.hi.n, pI r9.hi.d] ty_31 rfl rfl rfl rfl rfl (.head _) rfl hb2 (nl J (W_ret (thenK_r (ret1 rfl (.inr rfl) (resP rfl m0 ty_31 rfl) ?_)))))
   exact (by subst hr9; exact congrArg (fun r : Iv => (AV [pI r.lo.n, pI r.lo.d, pI r.hi.n, pI r.hi.d] : Value)) (show _ = (F_skewbackref05_Power a b) from bif_t h8 rfl))
  ·skip
   refine W_f h8 rfl (W_skip (J1 _ _ (Rs fun K J => sQ (qL ty_31 rfl m1 rfl) rfl (sN zp_31 rfl fun b10 hb10 => sS [pI a.lo.n, pI a.lo.d, pI a.hi.n, pI a.hi.d] ty_31 rfl rfl rfl rfl rfl (.head _) rfl hb10 (nl J (Sq fun K3 J3 => Rs fun K J => sE rfl (sQ (q_as (v' := .int .i64 ((W.rem b (wl 2)).1)) (q_rem rfl rfl (by decide)) rfl) rfl ?_)))))))
   refine sE rfl (nl J ?_)
   rcases bt ((W.rem b (wl 2)).1 == 0) with h11 | h11
   ·skip
    refine W_t h11 rfl (Rk fun K J => sQ (qL ty_31 rfl m2 rfl) rfl ?_)
    obtain ⟨r12, hr12⟩ := nm ((F_skewbackref05_Abs a) : Iv)
    refine sC (AV [pI r12.lo.n, pI r12.lo.d, pI r12.hi.n, pI r12.hi.d]) en_46 (skewbackref05_Abs_ret a) rfl rfl (by rw [hr12]; first | done | rfl) (sS [pI r12.lo.n, pI r12.lo.d, pI r12.hi.n, pI r12.hi.d] ty_31 rfl rfl rfl rfl rfl (.head _) rfl hb10 (nl J (J3 _ _ (ds (sk (sd (sk (s0)))) [0,4,8,12,16,20,24,28,32,37] [9] mix (by kernel_rfl) (fun K J => pQ rfl (qF fd_31_0 rfl rfl) (pQ rfl (qL ty_28 rfl m0 rfl) (pE rfl (pQ rfl (q_ret en_89 (skewbackref05_power_ret r12.lo b) rfl) (pQ rfl (qF fd_31_1 rfl rfl) (pQ rfl (qL ty_28 rfl m0 rfl) (pE rfl (pQ rfl (q_ret en_89 (skewbackref05_power_ret r12.hi b) rfl) ?_))))))))))))
    obtain ⟨r13, hr13⟩ := nm ((F_skewbackref05_Make (F_skewbackref05_power r12.lo b) (F_skewbackref05_power r12.hi b)) : Iv)
    refine pC (AV [pI r13.lo.n, pI r13.lo.d, pI r13.hi.n, pI r13.hi.d]) en_12 (skewbackref05_Make_ret (F_skewbackref05_power r12.lo b) (F_skewbackref05_power r12.hi b)) rfl rfl (by rw [hr13]; first | done | rfl) (oS [pI r13.lo.n, pI r13.lo.d, pI r13.hi.n, pI r13.hi.d] ty_31 rfl rfl rfl rfl rfl rfl (.tail _ (.head _)) rfl hb2 rfl (sk (sd s0)) (fl J (W_ret (ret1 rfl (.inr rfl) (resP rfl m1 ty_31 rfl) ?_))))
    exact (by subst hr13; subst hr12; exact congrArg (fun r : Iv => (AV [pI r.lo.n, pI r.lo.d, pI r.hi.n, pI r.hi.d] : Value)) (show _ = (F_skewbackref05_Power a b) from bif_f h8 (bif_t h11 rfl)))
   ·skip
    refine W_f h11 rfl (W_skip (J3 _ _ (ds (sk (sd (sk (s0)))) [0,4,8,12,16,20,24,28,32,37] [9] mix (by kernel_rfl) (fun K J => pQ rfl (qF fd_31_0 rfl rfl) (pQ rfl (qL ty_28 rfl m0 rfl) (pE rfl (pQ rfl (q_ret en_89 (skewbackref05_power_ret a.lo b) rfl) (pQ rfl (qF fd_31_1 rfl rfl) (pQ rfl (qL ty_28 rfl m0 rfl) (pE rfl (pQ rfl (q_ret en_89 (skewbackref05_power_ret a.hi b) rfl) ?_)))))))))))
    obtain ⟨r14, hr14⟩ := nm ((F_skewbackref05_Make (F_skewbackref05_power a.lo b) (F_skewbackref05_power a.hi b)) : Iv)
    refine pC (AV [pI r14.lo.n, pI r14.lo.d, pI r14.hi.n, pI r14.hi.d]) en_12 (skewbackref05_Make_ret (F_skewbackref05_power a.lo b) (F_skewbackref05_power a.hi b)) rfl rfl (by rw [hr14]; first | done | rfl) (oS [pI r14.lo.n, pI r14.lo.d, pI r14.hi.n, pI r14.hi.d] ty_31 rfl rfl rfl rfl rfl rfl (.tail _ (.head _)) rfl hb2 rfl (sk (sd s0)) (fl J (W_ret (ret1 rfl (.inr rfl) (resP rfl m1 ty_31 rfl) ?_))))
    exact (by subst hr14; exact congrArg (fun r : Iv => (AV [pI r.lo.n, pI r.lo.d, pI r.hi.n, pI r.hi.d] : Value)) (show _ = (F_skewbackref05_Power a b) from bif_f h8 (bif_f h11 rfl)))

theorem skewbackref05_Hull_ret (vl : Value) (l : (List Iv)) (w : World) (hl : Slr w elIv vl l) :
    Calls Tryz.prog 26 [vl].toArray w (fun e w' => e = .returned (AV [pI (((F_skewbackref05_Hull l).lo).n), pI (((F_skewbackref05_Hull l).lo).d), pI (((F_skewbackref05_Hull l).hi).n), pI (((F_skewbackref05_Hull l).hi).d)]) ∧ Ext w w') := by
 refine callsq_of_W (N := 44) Tryz.func26 rfl rfl (by simp) ?_
 obtain ⟨w0, rfl⟩ : ∃ w0, w0 = w := ⟨_, rfl⟩
 have Hl := hl.old
 have hm_l := hl.max
 simp only [initF, Nat.reduceAdd]
 refine Rs fun K J => sN zp_31 rfl fun b1 hb1 => nl J (Sq fun K1 J1 => Rs fun K J => sE rfl (sQ (q_as (v' := .int .i64 (((l).length : Nat) : Int)) (q_lenG (e := elIv) sl_22 rfl (SLe.sub Hl sn)) rfl) rfl (sE rfl (nl J ?_))))
 rcases bt ((((l).length : Nat) : Int) == 0) with h2 | h2
 ·skip
  have ph2 := beqI_t h2
  refine W_t h2 rfl (Rs fun K J => ?_)
  obtain ⟨r3, hr3⟩ := nm (F_skewbackref05_Bad : Iv)
  refine sC (AV [pI r3.lo.n, pI r3.lo.d, pI r3.hi.n, pI r3.hi.d]) en_64 skewbackref05_Bad_ret rfl rfl (by rw [hr3]; first | done | rfl) (sS [pI r3.lo.n, pI r3.lo.d, pI r3.hi.n, pI r3.hi.d] ty_31 rfl rfl rfl rfl rfl (.head _) rfl hb1 (nl J (W_ret (thenK_r (ret1 rfl (.inr rfl) (resP rfl m0 ty_31 rfl) ?_)))))
  exact (by subst hr3; exact congrArg (fun r : Iv => (AV [pI r.lo.n, pI r.lo.d, pI r.hi.n, pI r.hi.d] : Value)) (show _ = (F_skewbackref05_Hull l) from bif_t h2 rfl))
 ·skip
  have ph2 := beqI_f h2
  refine W_f h2 rfl (W_skip (J1 _ _ (Rs fun K J => sE rfl (sQ (q_as (v' := .pointer (some (slb vl (0 * 72 + 0)))) (q_idxG (e := elIv) (l := l) (k := 0) sl_22 rfl rfl (SLe.sub Hl sn) (by omega)) rfl) rfl (sQ (q_ldG (e := elIv) (l := l) (k := 0) (o := 0) ty_31 rfl (SLe.sub Hl sn) (getD_some _ (by omega)) rfl) rfl (sN zp_31 rfl fun b4 hb4 => sS [pI (((l.getD 0 Iv0).lo).n), pI (((l.getD 0 Iv0).lo).d), pI (((l.getD 0 Iv0).hi).n), pI (((l.getD 0 Iv0).hi).d)] ty_31 rfl rfl rfl rfl rfl (.head _) rfl hb4 (nl J (Sq fun K2 J2 => Rs fun K J => sE rfl (nl J ?_)))))))))
  refine W_join3 (fun S M h => J2 S M h) [4, 5, 13, 14, 15, 16, 17, 18, 19, 20, 21, 22, 23, 24, 25, 26, 27, 28, 29, 30, 31, 32, 33, 34, 35, 36, 37, 38, 39, 40, 41, 42] (fun g M => ∃ (mb4 : Iv), (F_skewbackref05_Hull_loop0 l l (l.getD 0 Iv0)) = .inl mb4 ∧ (True) ∧ M = [⟨b4, 31, flat [pI mb4.lo.n, pI mb4.lo.d, pI mb4.hi.n, pI mb4.hi.d]⟩, ⟨b1, 31, flat [pI I0, pI I0, pI I0, pI I0]⟩]) (fun K_u5 hK_u5 => ?_) ?_
  ·skip
   refine W_block ?_
   have hmx0 : (l).length ≤ 9223372036854775807 := hm_l
   refine W_loop_g [4, 5, 13, 14, 15, 16, 17, 18, 19, 20, 21, 22, 23, 24, 25, 26, 27, 28, 29, 30, 31, 32, 33, 34, 35, 36, 37, 38, 39, 40, 41, 42] (fun g nn M => ∃ (i0 : Nat) (l0 : List Iv) (mb4 : Iv), (F_skewbackref05_Hull_loop0 l l0 mb4) = (F_skewbackref05_Hull_loop0 l l (l.getD 0 Iv0)) ∧ (l).drop i0 = l0 ∧ l0.length = nn ∧ g 4 = .int .i64 ((i0 : Nat) : Int) ∧ (True) ∧ M = [⟨b4, 31, flat [pI mb4.lo.n, pI mb4.lo.d, pI mb4.hi.n, pI mb4.hi.d]⟩, ⟨b1, 31, flat [pI I0, pI I0, pI I0, pI I0]⟩]) (l).length ?start ?round
   case start => exact ⟨_, s0, 0, l, (l.getD 0 Iv0), rfl, rfl, rfl, rfl, trivial, rfl⟩
   case round =>
    rintro nn g M ⟨i0, l0, mb4, hT0, hr0, rfl, hgi, -, rfl⟩
    simp only [setG, hgi]
    clear hgi
    refine Sq fun K9 J9 => Rs fun K J => sE rfl (sE rfl (sQ (q_as (v' := .int .i64 (((l).length : Nat) : Int)) (q_lenG (e := elIv) sl_22 rfl (SLe.sub Hl sn)) rfl) rfl (sE rfl (nl J ?_))))
    rcases l0 with _ | ⟨x0, l0⟩
    ·skip
     have h20 := dec_nil hr0
     refine W_f h20 rfl (W_exit (thenK_x (thenK_x (blockK_hit (hK_u5 _ _ (by repeat first | exact .refl | refine .cons rfl ?_) ⟨_, s0, mb4, (by exact hT0.symm.trans (Eq.symm (rfl))), trivial, rfl⟩)))))
    ·skip
     have h21 := dec_cons hr0
     have g22 := drop_cons hr0
     refine W_t h21 rfl (W_skip (J9 _ _ (Sq fun K10 J10 => W_block (Rs fun K J => sE rfl (sE rfl (sQ (q_as (v' := .pointer (some (slb vl (i0 * 72 + 0)))) (q_idxG (e := elIv) (l := l) (k := i0) sl_22 rfl rfl (SLe.sub Hl sn) g22.2.1) rfl) rfl (sQ (q_ldG (e := elIv) (l := l) (k := i0) (o := 0) ty_31 rfl (SLe.sub Hl sn) g22.1 rfl) rfl (sQ (q_ret en_16 (skewbackref05_IsBad_ret x0) rfl) rfl (sE rfl (nl J (Sq fun K11 J11 => Rs fun K J => sE rfl (nl J ?_))))))))))))
     rcases bt (F_skewbackref05_IsBad x0) with h23 | h23
     ·skip
      refine W_t h23 rfl (Rs fun K J => ?_)
      obtain ⟨r24, hr24⟩ := nm (F_skewbackref05_Bad : Iv)
      refine sC (AV [pI r24.lo.n, pI r24.lo.d, pI r24.hi.n, pI r24.hi.d]) en_64 skewbackref05_Bad_ret rfl rfl (by rw [hr24]; first | done | rfl) (sS [pI r24.lo.n, pI r24.lo.d, pI r24.hi.n, pI r24.hi.d] ty_31 rfl rfl rfl rfl rfl (.tail _ (.head _)) rfl hb1 (nl J (W_ret (thenK_r (blockK_r (thenK_r (thenK_r (blockK_r (thenK_r (thenK_r (ret1 rfl (.inr rfl) (resP rfl m1 ty_31 rfl) ?_)))))))))))
      exact (by subst hr24; exact congrArg (fun r : Iv => (AV [pI r.lo.n, pI r.lo.d, pI r.hi.n, pI r.hi.d] : Value)) (show _ = (F_skewbackref05_Hull l) from bif_f h2 ((sm_q rfl (hT0.symm.trans (Eq.symm (bif_t h23 rfl)))))))
     ·skip
      refine W_f h23 rfl (W_skip (J11 _ _ (dr (sd (sk (s0))) [0,4,8,12,16,20,24,28,32,36,40,44,48,52,56,60,64,69] [17] mix (by kernel_rfl) (fun K J => pQ rfl (qF fd_31_0 rfl rfl) (pQ rfl (qL ty_28 rfl m0 rfl) (pE rfl (pE rfl (pQ rfl (q_as (v' := .pointer (some (slb vl (i0 * 72 + 0)))) (q_idxG (e := elIv) (l := l) (k := i0) sl_22 rfl rfl (SLe.sub Hl sn) g22.2.1) rfl) (pQ rfl (q_as (v' := .pointer (some (slb vl (i0 * 72 + 0)))) (q_fldG fd_31_0 rfl rfl) rfl) (pQ rfl (q_ldG (e := elIv) (l := l) (k := i0) (o := 0) ty_28 rfl (SLe.sub Hl sn) g22.1 rfl) (pQ rfl (q_ret en_72 (skewbackref04_Min_ret mb4.lo x0.lo) rfl) (pQ rfl (qF fd_31_1 rfl rfl) (pQ rfl (qL ty_28 rfl m0 rfl) (pE rfl (pE rfl (pQ rfl (q_as (v' := .pointer (some (slb vl (i0 * 72 + 0)))) (q_idxG (e := elIv) (l := l) (k := i0) sl_22 rfl rfl (SLe.sub Hl sn) g22.2.1) rfl) (pQ rfl (q_as (v' := .pointer (some (slb vl (i0 * 72 + 36)))) (q_fldG fd_31_1 rfl rfl) rfl) (pQ rfl (q_ldG (e := elIv) (l := l) (k := i0) (o := 36) ty_28 rfl (SLe.sub Hl sn) g22.1 rfl) (pQ rfl (q_ret en_71 (skewbackref04_Max_ret mb4.hi x0.hi) rfl) ?_)))))))))))))))))))
      obtain ⟨r25, hr25⟩ := nm ((F_skewbackref05_Make (F_skewbackref04_Min mb4.lo x0.lo) (F_skewbackref04_Max mb4.hi x0.hi)) : Iv)
      refine pC (AV [pI r25.lo.n, pI r25.lo.d, pI r25.hi.n, pI r25.hi.d]) en_12 (skewbackref05_Make_ret (F_skewbackref04_Min mb4.lo x0.lo) (F_skewbackref04_Max mb4.hi x0.hi)) rfl rfl (by rw [hr25]; first | done | rfl) (oS [pI r25.lo.n, pI r25.lo.d, pI r25.hi.n, pI r25.hi.d] ty_31 rfl rfl rfl rfl rfl rfl (.head _) rfl hb4 rfl (sd s0) (fl J (J10 _ _ (Rk fun K J => sE rfl (sV (.int .i64 ((i0 + 1 : Nat) : Int)) rfl (congrArg (Value.int .i64) (nxt g22.2.1 hmx0)) (sE rfl (nl J (⟨(by repeat first | exact .refl | refine .cons rfl ?_), _, _, s0, (Nat.lt_succ_self _), i0 + 1, l0, r25, (by subst hr25; exact (hT0.symm.trans (Eq.symm (bif_f h23 rfl))).symm), g22.2.2, rfl, rfl, trivial, rfl⟩))))))))
  ·skip
   rintro g M ⟨mb4, hCu5, -, rfl⟩
   simp only [setG]
   refine Rs fun K J => sQ (qL ty_31 rfl m0 rfl) rfl (sS [pI mb4.lo.n, pI mb4.lo.d, pI mb4.hi.n, pI mb4.hi.d] ty_31 rfl rfl rfl rfl rfl (.tail _ (.head _)) rfl hb1 (nl J (W_ret (ret1 rfl (.inr rfl) (resP rfl m1 ty_31 rfl) ?_))))
   exact (by exact congrArg (fun r : Iv => (AV [pI r.lo.n, pI r.lo.d, pI r.hi.n, pI r.hi.d] : Value)) (show _ = (F_skewbackref05_Hull l) from bif_f h2 (sm_l hCu5 rfl)))

theorem skewbackref05_Meet_ret (a : Iv) (b : Iv) :
    Ret Tryz.prog 20 [AV [pI a.lo.n, pI a.lo.d, pI a.hi.n, pI a.hi.d], AV [pI b.lo.n, pI b.lo.d, pI b.hi.n, pI b.hi.d]] (AV [pI ((((F_skewbackref05_Meet a b).a).lo).n), pI ((((F_skewbackref05_Meet a b).a).lo).d), pI ((((F_skewbackref05_Meet a b).a).hi).n), pI ((((F_skewbackref05_Meet a b).a).hi).d), cb ((F_skewbackref05_Meet a b).is)]) := by
 refine ret_of_W (N := 32) Tryz.func20 rfl rfl (by simp) (fun w0 => ?_)
 simp only [initF, Nat.reduceAdd]
 refine Rs fun K J => WL_r rfl (r_boxp rfl rfl (fun b1 hb1 => WL_r rfl (r_boxp rfl rfl (fun b2 hb2 => sN zp_39 rfl fun b3 hb3 => nl J (Sq fun K1 J1 => ?_)))))
 refine W_join [7, 8, 9, 10, 11, 12] (fun g M => (g 12 = .bool ((F_skewbackref05_IsBad a) || (F_skewbackref05_IsBad b))) ∧ M = [⟨b3, 39, flat [pI I0, pI I0, pI I0, pI I0, cb false]⟩, ⟨b2, 31, flat [pI b.lo.n, pI b.lo.d, pI b.hi.n, pI b.hi.d]⟩, ⟨b1, 31, flat [pI a.lo.n, pI a.lo.d, pI a.hi.n, pI a.hi.d]⟩]) (fun K2 J2 => ?_) ?_
 ·skip
  refine Rk fun K J => sQ (qL ty_31 rfl m2 rfl) rfl (sQ (q_ret en_16 (skewbackref05_IsBad_ret a) rfl) rfl ?_)
  rcases bt (F_skewbackref05_IsBad a) with h5 | h5
  ·skip
   refine sB h5 rfl (WL_n rfl (WL_n rfl (sE rfl (nl J ?_))))
   refine J2 _ _ (by repeat first | exact .refl | refine .cons rfl ?_) ⟨_, s0, ?s12, rfl⟩
   case s12 => exact congrArg Value.bool (or_t h5)
  ·skip
   refine sB h5 rfl (sQ (qL ty_31 rfl m1 rfl) rfl (sQ (q_ret en_16 (skewbackref05_IsBad_ret b) rfl) rfl (sE rfl (nl J ?_))))
   refine J2 _ _ (by repeat first | exact .refl | refine .cons rfl ?_) ⟨_, s0, ?s12, rfl⟩
   case s12 => exact congrArg Value.bool (or_f h5 rfl)
 ·skip
  rintro g6 M ⟨hg12, rfl⟩
  simp only [setG, hg12]
  clear hg12
  rcases bt ((F_skewbackref05_IsBad a) || (F_skewbackref05_IsBad b)) with h7 | h7
  ·skip
   refine W_t h7 rfl (Rs fun K J => ?_)
   obtain ⟨r8, hr8⟩ := nm (F_skewbackref05_Bad : Iv)
   refine sC (AV [pI r8.lo.n, pI r8.lo.d, pI r8.hi.n, pI r8.hi.d]) en_64 skewbackref05_Bad_ret rfl rfl (by rw [hr8]; first | done | rfl) (sQ (q_buildsp zp_39 pl_39 rfl (.cons [pI r8.lo.n, pI r8.lo.d, pI r8.hi.n, pI r8.hi.d] [pI r8.lo.n, pI r8.lo.d, pI r8.hi.n, pI r8.hi.d, cb false] rfl rfl rfl rfl (.nil _))) rfl (sS [pI r8.lo.n, pI r8.lo.d, pI r8.hi.n, pI r8.hi.d, cb false] ty_39 rfl rfl rfl rfl rfl (.head _) rfl hb3 (nl J (W_ret (thenK_r (ret1 rfl (.inr rfl) (resP rfl m0 ty_39 rfl) ?_))))))
   exact (by subst hr8; exact congrArg (fun r : Met => (AV [pI r.a.lo.n, pI r.a.lo.d, pI r.a.hi.n, pI r.a.hi.d, cb r.is] : Value)) (show _ = (F_skewbackref05_Meet a b) from bif_t h7 rfl))
  ·skip
   refine W_f h7 rfl (W_skip (J1 _ _ (ds (sk (sk (sk (s0)))) [0,4,8,12,16,20,24,28,32,36,40,45,49] [12] mix (by kernel_rfl) (fun K J => pQ rfl (qF fd_31_0 rfl rfl) (pQ rfl (qL ty_28 rfl m2 rfl) (pQ rfl (qF fd_31_0 rfl rfl) (pQ rfl (qL ty_28 rfl m1 rfl) (pQ rfl (q_ret en_71 (skewbackref04_Max_ret a.lo b.lo) rfl) (pQ rfl (qF fd_31_1 rfl rfl) (pQ rfl (qL ty_28 rfl m2 rfl) (pQ rfl (qF fd_31_1 rfl rfl) (pQ rfl (qL ty_28 rfl m1 rfl) (pQ rfl (q_ret en_72 (skewbackref04_Min_ret a.hi b.hi) rfl) ?_)))))))))))))
   obtain ⟨r9, hr9⟩ := nm ((F_skewbackref05_Make (F_skewbackref04_Max a.lo b.lo) (F_skewbackref04_Min a.hi b.hi)) : Iv)
   refine pC (AV [pI r9.lo.n, pI r9.lo.d, pI r9.hi.n, pI r9.hi.d]) en_12 (skewbackref05_Make_ret (F_skewbackref04_Max a.lo b.lo) (F_skewbackref04_Min a.hi b.hi)) rfl rfl (by rw [hr9]; first | done | rfl) (PL_o rfl rfl (r_allocp zp_31 (fun b10 hb10 => ⟨(fun _ => sd s0), (sd s0), oS [pI r9.lo.n, pI r9.lo.d, pI r9.hi.n, pI r9.hi.d] ty_31 rfl rfl rfl rfl rfl rfl (.head _) rfl hb10 rfl (sd s0) (fl J (Rs fun K J => sQ (qL ty_31 rfl m0 rfl) rfl (sQ (q_ret en_16 (skewbackref05_IsBad_ret r9) rfl) rfl (sE rfl (nl J (Rs fun K J => sQ (qL ty_31 rfl m0 rfl) rfl (sE rfl (sE rfl (sQ (q_buildsp zp_39 pl_39 rfl (.cons [pI r9.lo.n, pI r9.lo.d, pI r9.hi.n, pI r9.hi.d] [pI r9.lo.n, pI r9.lo.d, pI r9.hi.n, pI r9.hi.d, cb false] rfl rfl rfl rfl (.cons [cb (!(F_skewbackref05_IsBad r9))] [pI r9.lo.n, pI r9.lo.d, pI r9.hi.n, pI r9.hi.d, cb (!(F_skewbackref05_IsBad r9))] rfl rfl rfl rfl (.nil _)))) rfl (sS [pI r9.lo.n, pI r9.lo.d, pI r9.hi.n, pI r9.hi.d, cb (!(F_skewbackref05_IsBad r9))] ty_39 rfl rfl rfl rfl rfl (.tail _ (.head _)) rfl hb3 (nl J (W_ret (ret1 rfl (.inr rfl) (resP rfl m1 ty_39 rfl) ?_)))))))))))))⟩)))
   exact (by subst hr9; exact congrArg (fun r : Met => (AV [pI r.a.lo.n, pI r.a.lo.d, pI r.a.hi.n, pI r.a.hi.d, cb r.is] : Value)) (show _ = (F_skewbackref05_Meet a b) from bif_f h7 rfl))

theorem skewbackref05_Inside_ret (a : Iv) (b : Iv) :
    Ret Tryz.prog 22 [AV [pI a.lo.n, pI a.lo.d, pI a.hi.n, pI a.hi.d], AV [pI b.lo.n, pI b.lo.d, pI b.hi.n, pI b.hi.d]] (.bool (F_skewbackref05_Inside a b)) := by
 refine ret_of_W (N := 21) Tryz.func22 rfl rfl (by simp) (fun w0 => ?_)
 simp only [initF, Nat.reduceAdd]
 refine Rs fun K J => WL_r rfl (r_boxp rfl rfl (fun b1 hb1 => WL_r rfl (r_boxp rfl rfl (fun b2 hb2 => sE rfl (nl J (Sq fun K1 J1 => ?_))))))
 refine W_join [5, 6, 7, 8, 9, 10] (fun g M => (g 10 = .bool ((F_skewbackref05_IsBad a) || (F_skewbackref05_IsBad b))) ∧ M = [⟨b2, 31, flat [pI b.lo.n, pI b.lo.d, pI b.hi.n, pI b.hi.d]⟩, ⟨b1, 31, flat [pI a.lo.n, pI a.lo.d, pI a.hi.n, pI a.hi.d]⟩]) (fun K2 J2 => ?_) ?_
 ·skip
  refine Rk fun K J => sQ (qL ty_31 rfl m1 rfl) rfl (sQ (q_ret en_16 (skewbackref05_IsBad_ret a) rfl) rfl ?_)
  rcases bt (F_skewbackref05_IsBad a) with h4 | h4
  ·skip
   refine sB h4 rfl (WL_n rfl (WL_n rfl (sE rfl (nl J ?_))))
   refine J2 _ _ (by repeat first | exact .refl | refine .cons rfl ?_) ⟨_, s0, ?s10, rfl⟩
   case s10 => exact congrArg Value.bool (or_t h4)
  ·skip
   refine sB h4 rfl (sQ (qL ty_31 rfl m0 rfl) rfl (sQ (q_ret en_16 (skewbackref05_IsBad_ret b) rfl) rfl (sE rfl (nl J ?_))))
   refine J2 _ _ (by repeat first | exact .refl | refine .cons rfl ?_) ⟨_, s0, ?s10, rfl⟩
   case s10 => exact congrArg Value.bool (or_f h4 rfl)
 ·skip
  rintro g5 M ⟨hg10, rfl⟩
  simp only [setG, hg10]
  clear hg10
  rcases bt ((F_skewbackref05_IsBad a) || (F_skewbackref05_IsBad b)) with h6 | h6
  ·skip
   refine W_t h6 rfl (Rs fun K J => sE rfl (nl J (W_ret (thenK_r (ret1 rfl (.inr rfl) rfl ?_)))))
   exact (by exact congrArg (fun r : Bool => (.bool r : Value)) (show _ = (F_skewbackref05_Inside a b) from bif_t h6 rfl))
  ·skip
   refine W_f h6 rfl (W_skip (J1 _ _ ?_))
   refine W_join [4, 11, 12, 13, 14, 15, 16, 17, 18, 19, 20] (fun g M => (g 4 = .bool ((F_skewbackref05_Has b a.lo) && (F_skewbackref05_Has b a.hi))) ∧ M = [⟨b2, 31, flat [pI b.lo.n, pI b.lo.d, pI b.hi.n, pI b.hi.d]⟩, ⟨b1, 31, flat [pI a.lo.n, pI a.lo.d, pI a.hi.n, pI a.hi.d]⟩]) (fun K3 J3 => ?_) ?_
   ·skip
    refine Rk fun K J => sQ (qL ty_31 rfl m0 rfl) rfl (sQ (qF fd_31_0 rfl rfl) rfl (sQ (qL ty_28 rfl m1 rfl) rfl (sQ (q_ret en_18 (skewbackref05_Has_ret b a.lo) rfl) rfl ?_)))
    rcases bt (F_skewbackref05_Has b a.lo) with h8 | h8
    ·skip
     refine sB h8 rfl (sQ (qL ty_31 rfl m0 rfl) rfl (sQ (qF fd_31_1 rfl rfl) rfl (sQ (qL ty_28 rfl m1 rfl) rfl (sQ (q_ret en_18 (skewbackref05_Has_ret b a.hi) rfl) rfl (sE rfl (sE rfl (nl J ?_)))))))
     refine J3 _ _ (by repeat first | exact .refl | refine .cons rfl ?_) ⟨_, s0, ?s4, rfl⟩
     case s4 => exact congrArg Value.bool (and_t h8 rfl)
    ·skip
     refine sB h8 rfl (WL_n rfl (WL_n rfl (WL_n rfl (WL_n rfl (sE rfl (sE rfl (nl J ?_)))))))
     refine J3 _ _ (by repeat first | exact .refl | refine .cons rfl ?_) ⟨_, s0, ?s4, rfl⟩
     case s4 => exact congrArg Value.bool (and_f h8)
   ·skip
    rintro g9 M ⟨hg4, rfl⟩
    simp only [setG, hg4]
    clear hg4
    refine W_ret (ret1 rfl (.inr rfl) rfl ?_)
    exact (by exact congrArg (fun r : Bool => (.bool r : Value)) (show _ = (F_skewbackref05_Inside a b) from bif_f h6 rfl))

theorem skewbackref05_Cmp_ret (a : Iv) (b : Iv) :
    Ret Tryz.prog 24 [AV [pI a.lo.n, pI a.lo.d, pI a.hi.n, pI a.hi.d], AV [pI b.lo.n, pI b.lo.d, pI b.hi.n, pI b.hi.d]] (.int .i64 ((F_skewbackref05_Cmp a b).1)) := by
 refine ret_of_W (N := 23) Tryz.func24 rfl rfl (by simp) (fun w0 => ?_)
 simp only [initF, Nat.reduceAdd]
 refine Rs fun K J => WL_r rfl (r_boxp rfl rfl (fun b1 hb1 => WL_r rfl (r_boxp rfl rfl (fun b2 hb2 => sE rfl (nl J (Sq fun K1 J1 => ?_))))))
 refine W_join [5, 6, 7, 8, 9, 10] (fun g M => (g 10 = .bool ((F_skewbackref05_IsBad a) || (F_skewbackref05_IsBad b))) ∧ M = [⟨b2, 31, flat [pI b.lo.n, pI b.lo.d, pI b.hi.n, pI b.hi.d]⟩, ⟨b1, 31, flat [pI a.lo.n, pI a.lo.d, pI a.hi.n, pI a.hi.d]⟩]) (fun K2 J2 => ?_) ?_
 ·skip
  refine Rk fun K J => sQ (qL ty_31 rfl m1 rfl) rfl (sQ (q_ret en_16 (skewbackref05_IsBad_ret a) rfl) rfl ?_)
  rcases bt (F_skewbackref05_IsBad a) with h4 | h4
  ·skip
   refine sB h4 rfl (WL_n rfl (WL_n rfl (sE rfl (nl J ?_))))
   refine J2 _ _ (by repeat first | exact .refl | refine .cons rfl ?_) ⟨_, s0, ?s10, rfl⟩
   case s10 => exact congrArg Value.bool (or_t h4)
  ·skip
   refine sB h4 rfl (sQ (qL ty_31 rfl m0 rfl) rfl (sQ (q_ret en_16 (skewbackref05_IsBad_ret b) rfl) rfl (sE rfl (nl J ?_))))
   refine J2 _ _ (by repeat first | exact .refl | refine .cons rfl ?_) ⟨_, s0, ?s10, rfl⟩
   case s10 => exact congrArg Value.bool (or_f h4 rfl)
 ·skip
  rintro g5 M ⟨hg10, rfl⟩
  simp only [setG, hg10]
  clear hg10
  rcases bt ((F_skewbackref05_IsBad a) || (F_skewbackref05_IsBad b)) with h6 | h6
  ·skip
   refine W_t h6 rfl (Rs fun K J => sE rfl (nl J (W_ret (thenK_r (ret1 rfl (.inr rfl) rfl ?_)))))
   exact (by exact congrArg (fun r : W => (.int .i64 r.1 : Value)) (show _ = (F_skewbackref05_Cmp a b) from bif_t h6 rfl))
  ·skip
   refine W_f h6 rfl (W_skip (J1 _ _ (Sq fun K3 J3 => Rs fun K J => sQ (qF fd_31_1 rfl rfl) rfl (sQ (qL ty_28 rfl m1 rfl) rfl (sQ (qF fd_31_0 rfl rfl) rfl (sQ (qL ty_28 rfl m0 rfl) rfl (sQ (q_ret en_67 (skewbackref04_Cmp_ret a.hi b.lo) rfl) rfl (sE rfl (nl J ?_)))))))))
   rcases bt (decide ((F_skewbackref04_Cmp a.hi b.lo).1 < 0)) with h7 | h7
   ·skip
    refine W_t h7 rfl (Rs fun K J => sE rfl (nl J (W_ret (thenK_r (ret1 rfl (.inr rfl) rfl ?_)))))
    exact (by exact congrArg (fun r : W => (.int .i64 r.1 : Value)) (show _ = (F_skewbackref05_Cmp a b) from bif_f h6 (bif_t h7 rfl)))
   ·skip
    refine W_f h7 rfl (W_skip (J3 _ _ (Sq fun K4 J4 => Rs fun K J => sQ (qF fd_31_0 rfl rfl) rfl (sQ (qL ty_28 rfl m1 rfl) rfl (sQ (qF fd_31_1 rfl rfl) rfl (sQ (qL ty_28 rfl m0 rfl) rfl (sQ (q_ret en_67 (skewbackref04_Cmp_ret a.lo b.hi) rfl) rfl (sE rfl (nl J ?_)))))))))
    rcases bt (decide (0 < (F_skewbackref04_Cmp a.lo b.hi).1)) with h8 | h8
    ·skip
     refine W_t h8 rfl (Rs fun K J => sE rfl (nl J (W_ret (thenK_r (ret1 rfl (.inr rfl) rfl ?_)))))
     exact (by exact congrArg (fun r : W => (.int .i64 r.1 : Value)) (show _ = (F_skewbackref05_Cmp a b) from bif_f h6 (bif_f h7 (bif_t h8 rfl))))
    ·skip
     refine W_f h8 rfl (W_skip (J4 _ _ (Rs fun K J => sE rfl (nl J (W_ret (ret1 rfl (.inr rfl) rfl ?_))))))
     exact (by exact congrArg (fun r : W => (.int .i64 r.1 : Value)) (show _ = (F_skewbackref05_Cmp a b) from bif_f h6 (bif_f h7 (bif_f h8 rfl))))

theorem skewbackref05_Width_ret (a : Iv) :
    Ret Tryz.prog 49 [AV [pI a.lo.n, pI a.lo.d, pI a.hi.n, pI a.hi.d]] (AV [pI ((F_skewbackref05_Width a).n), pI ((F_skewbackref05_Width a).d)]) := by
 refine ret_of_W (N := 11) Tryz.func49 rfl rfl (by simp) (fun w0 => ?_)
 simp only [initF, Nat.reduceAdd]
 refine Rs fun K J => WL_r rfl (r_boxp rfl rfl (fun b1 hb1 => sN zp_28 rfl fun b2 hb2 => nl J (Sq fun K1 J1 => Rs fun K J => sQ (qL ty_31 rfl m1 rfl) rfl (sQ (q_ret en_16 (skewbackref05_IsBad_ret a) rfl) rfl (nl J ?_)))))
 rcases bt (F_skewbackref05_IsBad a) with h3 | h3
 ·skip
  refine W_t h3 rfl (Rs fun K J => sQ (q_ret en_90 skewbackref04_Bad_ret  rfl) rfl (sS [pI F_skewbackref04_Bad.n, pI F_skewbackref04_Bad.d] ty_28 rfl rfl rfl rfl rfl (.head _) rfl hb2 (nl J (W_ret (thenK_r (ret1 rfl (.inr rfl) (resP rfl m0 ty_28 rfl) ?_))))))
  exact (by exact congrArg (fun r : Rt => (AV [pI r.n, pI r.d] : Value)) (show _ = (F_skewbackref05_Width a) from bif_t h3 rfl))
 ·skip
  refine W_f h3 rfl (W_skip (J1 _ _ (Rs fun K J => sQ (qF fd_31_1 rfl rfl) rfl (sQ (qL ty_28 rfl m1 rfl) rfl (sQ (qF fd_31_0 rfl rfl) rfl (sQ (qL ty_28 rfl m1 rfl) rfl (sQ (q_ret en_82 (skewbackref04_Sub_ret a.hi a.lo) rfl) rfl (sS [pI ((F_skewbackref04_Sub a.hi a.lo).n), pI ((F_skewbackref04_Sub a.hi a.lo).d)] ty_28 rfl rfl rfl rfl rfl (.head _) rfl hb2 (nl J (W_ret (ret1 rfl (.inr rfl) (resP rfl m0 ty_28 rfl) ?_)))))))))))
  exact (by exact congrArg (fun r : Rt => (AV [pI r.n, pI r.d] : Value)) (show _ = (F_skewbackref05_Width a) from bif_f h3 rfl))

theorem skewbackref05_Split_ret (a : Iv) :
    Ret Tryz.prog 52 [AV [pI a.lo.n, pI a.lo.d, pI a.hi.n, pI a.hi.d]] (AV [pI ((((F_skewbackref05_Split a).x).lo).n), pI ((((F_skewbackref05_Split a).x).lo).d), pI ((((F_skewbackref05_Split a).x).hi).n), pI ((((F_skewbackref05_Split a).x).hi).d), pI ((((F_skewbackref05_Split a).y).lo).n), pI ((((F_skewbackref05_Split a).y).lo).d), pI ((((F_skewbackref05_Split a).y).hi).n), pI ((((F_skewbackref05_Split a).y).hi).d)]) := by
 refine ret_of_W (N := 23) Tryz.func52 rfl rfl (by simp) (fun w0 => ?_)
 simp only [initF, Nat.reduceAdd]
 refine Rs fun K J => WL_r rfl (r_boxp rfl rfl (fun b1 hb1 => sN zp_60 rfl fun b2 hb2 => nl J (Sq fun K1 J1 => Rs fun K J => sQ (qL ty_31 rfl m1 rfl) rfl (sQ (q_ret en_16 (skewbackref05_IsBad_ret a) rfl) rfl (nl J ?_)))))
 rcases bt (F_skewbackref05_IsBad a) with h3 | h3
 ·skip
  refine W_t h3 rfl (Rs fun K J => ?_)
  obtain ⟨r4, hr4⟩ := nm (F_skewbackref05_Bad : Iv)
  refine sC (AV [pI r4.lo.n, pI r4.lo.d, pI r4.hi.n, pI r4.hi.d]) en_64 skewbackref05_Bad_ret rfl rfl (by rw [hr4]; first | done | rfl) ?_
  obtain ⟨r5, hr5⟩ := nm (F_skewbackref05_Bad : Iv)
  refine sC (AV [pI r5.lo.n, pI r5.lo.d, pI r5.hi.n, pI r5.hi.d]) en_64 skewbackref05_Bad_ret rfl rfl (by rw [hr5]; first | done | rfl) (sQ (q_buildap zp_60 ar_60 rfl (.cons [pI r4.lo.n, pI r4.lo.d, pI r4.hi.n, pI r4.hi.d] [pI r4.lo.n, pI r4.lo.d, pI r4.hi.n, pI r4.hi.d, pI I0, pI I0, pI I0, pI I0] rfl rfl rfl rfl (.cons [pI r5.lo.n, pI r5.lo.d, pI r5.hi.n, pI r5.hi.d] [pI r4.lo.n, pI r4.lo.d, pI r4.hi.n, pI r4.hi.d, pI r5.lo.n, pI r5.lo.d, pI r5.hi.n, pI r5.hi.d] rfl rfl rfl rfl (.nil _)))) rfl (sS [pI r4.lo.n, pI r4.lo.d, pI r4.hi.n, pI r4.hi.d, pI r5.lo.n, pI r5.lo.d, pI r5.hi.n, pI r5.hi.d] ty_60 rfl rfl rfl rfl rfl (.head _) rfl hb2 (nl J (W_ret (thenK_r (ret1 rfl (.inr rfl) (resP rfl m0 ty_60 rfl) ?_))))))
  exact (by subst hr5; subst hr4; exact congrArg (fun r : (A2 Iv) => (AV [pI r.x.lo.n, pI r.x.lo.d, pI r.x.hi.n, pI r.x.hi.d, pI r.y.lo.n, pI r.y.lo.d, pI r.y.hi.n, pI r.y.hi.d] : Value)) (show _ = (F_skewbackref05_Split a) from bif_t h3 rfl))
 ·skip
  refine W_f h3 rfl (W_skip (J1 _ _ (Rs fun K J => sQ (qF fd_31_0 rfl rfl) rfl (sQ (qL ty_28 rfl m1 rfl) rfl (sQ (qF fd_31_1 rfl rfl) rfl (sQ (qL ty_28 rfl m1 rfl) rfl (sQ (q_ret en_93 (skewbackref04_Mid_ret a.lo a.hi) rfl) rfl (sN zp_28 rfl fun b6 hb6 => sS [pI ((F_skewbackref04_Mid a.lo a.hi).n), pI ((F_skewbackref04_Mid a.lo a.hi).d)] ty_28 rfl rfl rfl rfl rfl (.head _) rfl hb6 (nl J (ds (sk (sd (sk (s0)))) [0,4,8,12,16,20,24,28,32,37] [9] mix (by kernel_rfl) (fun K J => pQ rfl (qF fd_31_0 rfl rfl) (pQ rfl (qL ty_28 rfl m2 rfl) (pQ rfl (qL ty_28 rfl m0 rfl) ?_)))))))))))))
  obtain ⟨r7, hr7⟩ := nm ((F_skewbackref05_Make a.lo (F_skewbackref04_Mid a.lo a.hi)) : Iv)
  refine pC (AV [pI r7.lo.n, pI r7.lo.d, pI r7.hi.n, pI r7.hi.d]) en_12 (skewbackref05_Make_ret a.lo (F_skewbackref04_Mid a.lo a.hi)) rfl rfl (by rw [hr7]; first | done | rfl) (pQ rfl (qL ty_28 rfl m0 rfl) (pQ rfl (qF fd_31_1 rfl rfl) (pQ rfl (qL ty_28 rfl m2 rfl) ?_)))
  obtain ⟨r8, hr8⟩ := nm ((F_skewbackref05_Make (F_skewbackref04_Mid a.lo a.hi) a.hi) : Iv)
  refine pC (AV [pI r8.lo.n, pI r8.lo.d, pI r8.hi.n, pI r8.hi.d]) en_12 (skewbackref05_Make_ret (F_skewbackref04_Mid a.lo a.hi) a.hi) rfl rfl (by rw [hr8]; first | done | rfl) (pQ rfl (q_buildap zp_60 ar_60 rfl (.cons [pI r7.lo.n, pI r7.lo.d, pI r7.hi.n, pI r7.hi.d] [pI r7.lo.n, pI r7.lo.d, pI r7.hi.n, pI r7.hi.d, pI I0, pI I0, pI I0, pI I0] rfl rfl rfl rfl (.cons [pI r8.lo.n, pI r8.lo.d, pI r8.hi.n, pI r8.hi.d] [pI r7.lo.n, pI r7.lo.d, pI r7.hi.n, pI r7.hi.d, pI r8.lo.n, pI r8.lo.d, pI r8.hi.n, pI r8.hi.d] rfl rfl rfl rfl (.nil _)))) (oS [pI r7.lo.n, pI r7.lo.d, pI r7.hi.n, pI r7.hi.d, pI r8.lo.n, pI r8.lo.d, pI r8.hi.n, pI r8.hi.d] ty_60 rfl rfl rfl rfl rfl rfl (.tail _ (.head _)) rfl hb2 rfl (sk (sd s0)) (fl J (W_ret (ret1 rfl (.inr rfl) (resP rfl m1 ty_60 rfl) ?_)))))
  exact (by subst hr8; subst hr7; exact congrArg (fun r : (A2 Iv) => (AV [pI r.x.lo.n, pI r.x.lo.d, pI r.x.hi.n, pI r.x.hi.d, pI r.y.lo.n, pI r.y.lo.d, pI r.y.hi.n, pI r.y.hi.d] : Value)) (show _ = (F_skewbackref05_Split a) from bif_f h3 rfl))

theorem skewbackref05_Widen_ret (a : Iv) (b : W) :
    Ret Tryz.prog 50 [AV [pI a.lo.n, pI a.lo.d, pI a.hi.n, pI a.hi.d], .int .i64 b.1] (AV [pI (((F_skewbackref05_Widen a b).lo).n), pI (((F_skewbackref05_Widen a b).lo).d), pI (((F_skewbackref05_Widen a b).hi).n), pI (((F_skewbackref05_Widen a b).hi).d)]) := by
 refine ret_of_W (N := 23) Tryz.func50 rfl rfl (by simp) (fun w0 => ?_)
 simp only [initF, Nat.reduceAdd]
 refine Rs fun K J => WL_r rfl (r_boxp rfl rfl (fun b1 hb1 => sN zp_31 rfl fun b2 hb2 => nl J (Sq fun K1 J1 => Rs fun K J => sQ (qL ty_31 rfl m1 rfl) rfl (sQ (q_ret en_16 (skewbackref05_IsBad_ret a) rfl) rfl (nl J ?_)))))
 rcases bt (F_skewbackref05_IsBad a) with h3 | h3
 ·skip
  refine W_t h3 rfl (Rs fun K J => ?_)
  obtain ⟨r4, hr4⟩ := nm (F_skewbackref05_Bad : Iv)
  refine sC (AV [pI r4.lo.n, pI r4.lo.d, pI r4.hi.n, pI r4.hi.d]) en_64 skewbackref05_Bad_ret rfl rfl (by rw [hr4]; first | done | rfl) (sS [pI r4.lo.n, pI r4.lo.d, pI r4.hi.n, pI r4.hi.d] ty_31 rfl rfl rfl rfl rfl (.head _) rfl hb2 (nl J (W_ret (thenK_r (ret1 rfl (.inr rfl) (resP rfl m0 ty_31 rfl) ?_)))))
  exact (by subst hr4; exact congrArg (fun r : Iv => (AV [pI r.lo.n, pI r.lo.d, pI r.hi.n, pI r.hi.d] : Value)) (show _ = (F_skewbackref05_Widen a b) from bif_t h3 rfl))
 ·skip
  refine W_f h3 rfl (W_skip (J1 _ _ (Rs fun K J => sQ (qF fd_31_0 rfl rfl) rfl (sQ (qL ty_28 rfl m1 rfl) rfl (sE rfl ?_)))))
  obtain ⟨r5, hr5⟩ := nm ((F_skewbackref04_Dyadic a.lo b) : Iv)
  refine sC (AV [pI r5.lo.n, pI r5.lo.d, pI r5.hi.n, pI r5.hi.d]) en_91 (skewbackref04_Dyadic_ret a.lo b) rfl rfl (by rw [hr5]; first | done | rfl) (sN zp_85 rfl fun b6 hb6 => sS [pI r5.lo.n, pI r5.lo.d, pI r5.hi.n, pI r5.hi.d] ty_85 rfl rfl rfl rfl rfl (.head _) rfl hb6 (nl J (Rs fun K J => sQ (qF fd_31_1 rfl rfl) rfl (sQ (qL ty_28 rfl m2 rfl) rfl (sE rfl ?_)))))
  obtain ⟨r7, hr7⟩ := nm ((F_skewbackref04_Dyadic a.hi b) : Iv)
  refine sC (AV [pI r7.lo.n, pI r7.lo.d, pI r7.hi.n, pI r7.hi.d]) en_91 (skewbackref04_Dyadic_ret a.hi b) rfl rfl (by rw [hr7]; first | done | rfl) (sN zp_85 rfl fun b8 hb8 => sS [pI r7.lo.n, pI r7.lo.d, pI r7.hi.n, pI r7.hi.d] ty_85 rfl rfl rfl rfl rfl (.head _) rfl hb8 (nl J (Rs fun K J => sQ (qF fd_85_0 rfl rfl) rfl (sQ (qL ty_28 rfl m1 rfl) rfl (sQ (qF fd_85_1 rfl rfl) rfl (sQ (qL ty_28 rfl m0 rfl) rfl ?_))))))
  obtain ⟨r9, hr9⟩ := nm ((F_skewbackref05_Make r5.lo r7.hi) : Iv)
  refine sC (AV [pI r9.lo.n, pI r9.lo.d, pI r9.hi.n, pI r9.hi.d]) en_12 (skewbackref05_Make_ret r5.lo r7.hi) rfl rfl (by rw [hr9]; first | done | rfl) (sS [pI r9.lo.n, pI r9.lo.d, pI r9.hi.n, pI r9.hi.d] ty_31 rfl rfl rfl rfl rfl (.tail _ (.tail _ (.head _))) rfl hb2 (nl J (W_ret (ret1 rfl (.inr rfl) (resP rfl m2 ty_31 rfl) ?_))))
  exact (by subst hr9; subst hr7; subst hr5; exact congrArg (fun r : Iv => (AV [pI r.lo.n, pI r.lo.d, pI r.hi.n, pI r.hi.d] : Value)) (show _ = (F_skewbackref05_Widen a b) from bif_f h3 rfl))

theorem skewbackref05_Right_ret (a : Iv) :
    Ret Tryz.prog 14 [AV [pI a.lo.n, pI a.lo.d, pI a.hi.n, pI a.hi.d]] (.bool (F_skewbackref05_Right a)) := by
 refine ret_of_W (N := 13) Tryz.func14 rfl rfl (by simp) (fun w0 => ?_)
 simp only [initF, Nat.reduceAdd]
 refine Rs fun K J => WL_r rfl (r_boxp rfl rfl (fun b1 hb1 => sE rfl (nl J (Rs fun K J => sQ (qL ty_31 rfl m0 rfl) rfl (sQ (q_ret en_16 (skewbackref05_IsBad_ret a) rfl) rfl (sE rfl (nl J ?_)))))))
 refine W_join [2, 6, 7, 8, 9, 10, 11, 12] (fun g M => (g 2 = .bool (!(F_skewbackref05_IsBad a) || (decide (a.lo.n = F_skewbackref05_Bad.lo.n) && (decide (a.lo.d = F_skewbackref05_Bad.lo.d) && (decide (a.hi.n = F_skewbackref05_Bad.hi.n) && decide (a.hi.d = F_skewbackref05_Bad.hi.d)))))) ∧ M = [⟨b1, 31, flat [pI a.lo.n, pI a.lo.d, pI a.hi.n, pI a.hi.d]⟩]) (fun K1 J1 => ?_) ?_
 ·skip
  refine dr (sk (s0)) [0,4,8,12,16,20,24,28] [] mix (by kernel_rfl) (fun K J => pE rfl (pE rfl ?_))
  rcases bt (F_skewbackref05_IsBad a) with h3 | h3
  ·skip
   refine pB (not_f h3) rfl (pQ rfl (qL ty_31 rfl m0 rfl) (pQ rfl (q_ret en_64 skewbackref05_Bad_ret  rfl) ?_))
   refine pQ rfl (q_eqla (r := (decide (a.lo.n = F_skewbackref05_Bad.lo.n) && (decide (a.lo.d = F_skewbackref05_Bad.lo.d) && (decide (a.hi.n = F_skewbackref05_Bad.hi.n) && decide (a.hi.d = F_skewbackref05_Bad.hi.d))))) rfl rfl (eqOk_of 8 (by decide) eg_31 lw_31 (lv_cons lv_pI (lv_cons lv_pI (lv_cons lv_pI (lv_one lv_pI)))) (lv_cons lv_pI (lv_cons lv_pI (lv_cons lv_pI (lv_one lv_pI)))) (eqP_cons rfl eq_pI (eqP_cons rfl eq_pI (eqP_cons rfl eq_pI (eqP_one eq_pI)))))) (pE rfl (pE rfl (fl J ?_)))
   refine J1 _ _ (by repeat first | exact .refl | refine .cons rfl ?_) ⟨_, s0, ?s2, rfl⟩
   case s2 => exact congrArg Value.bool (nor_t h3 rfl)
  ·skip
   refine pB (not_t h3) rfl (PL_n rfl rfl (PL_n rfl rfl (PL_n rfl rfl (pE rfl (pE rfl (fl J ?_))))))
   refine J1 _ _ (by repeat first | exact .refl | refine .cons rfl ?_) ⟨_, s0, ?s2, rfl⟩
   case s2 => exact congrArg Value.bool (nor_f h3)
 ·skip
  rintro g4 M ⟨hg2, rfl⟩
  simp only [setG, hg2]
  clear hg2
  refine W_ret (ret1 rfl (.inr rfl) rfl ?_)
  exact (by rfl)
end Go.Proofs.YtnfbkngfdemkpaaGreatDoor
