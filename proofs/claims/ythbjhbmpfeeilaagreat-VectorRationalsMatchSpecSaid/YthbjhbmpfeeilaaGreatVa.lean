/- Walks: what these functions return. -/
import Derived.Test.YthbjhbmpfeeilaaGreatFa0
import Derived.Test.YthbjhbmpfeeilaaGreatFn
import Derived.Test.YthbjhbmpfeeilaaGreatWc
import Derived.Test.YthbjhbmpfeeilaaGreatWe
import Derived.Test.YthbjhbmpfeeilaaGreatWh
import Derived.Test.YthbjhbmpfeeilaaGreatWi
namespace Go.Proofs.YthbjhbmpfeeilaaGreat
open Go.Kn Go.Num
set_option linter.unusedVariables false
set_option linter.unusedSimpArgs false
set_option maxRecDepth 20000
set_option maxHeartbeats 8000000
theorem vector_Add_ret (a : (A3 W)) (b : (A3 W)) :
    Ret Tryz.prog 36 [AV [ci .i64 a.x.1, ci .i64 a.y.1, ci .i64 a.z.1], AV [ci .i64 b.x.1, ci .i64 b.y.1, ci .i64 b.z.1]] (AV [ci .i64 (((F_vector_Add a b).x).1), ci .i64 (((F_vector_Add a b).y).1), ci .i64 (((F_vector_Add a b).z).1)]) := by
 refine ret_of_W (N := 19) Tryz.func36 rfl rfl (by simp) (fun w0 => ?_)
 simp only [initF, Nat.reduceAdd]
 refine Rs fun K J => WL_r rfl (r_boxp rfl rfl (fun b1 hb1 => WL_r rfl (r_boxp rfl rfl (fun b2 hb2 => sN zp_31 rfl fun b3 hb3 => nl J (Sq fun K1 J1 => Rs fun K J => sE rfl (nl J (W_block (W_un 5 (Un_s (fun K2 J2 => Rs fun K J => sV (.bool true) rfl rfl (nl J (Sq fun K3 J3 => W_true rfl (W_skip (J3 _ _ (Sq fun K4 J4 => ?_)))))))))))))))
 refine W_block (Rs fun K J => sE rfl (sE rfl (nl J (dr (sk (sk (sd (s0)))) [0,4,8,12,16,20,24,28,33] [8] mix (by kernel_rfl) (fun K J => pE rfl (pQ rfl (qA ar_31 rfl rfl rfl) (pQ rfl (qC ty_3 rfl m2 rfl) (pE rfl (pQ rfl (qA ar_31 rfl rfl rfl) (pQ rfl (qC ty_3 rfl m1 rfl) (pV (.int .i64 ((W.add a.x b.x).1)) rfl rfl (pQ rfl (qA ar_31 rfl rfl rfl) (oS [ci .i64 ((W.add a.x b.x).1)] ty_3 rfl rfl rfl rfl rfl rfl (.tail _ (.tail _ (.head _))) rfl hb1 rfl (sk (sk (sd s0))) (fl J (J4 _ _ (Rk fun K J => sV (.int .i64 1) rfl rfl (sE rfl ?_)))))))))))))))))
 refine nl J (J2 _ _ (Un_s (fun K5 J5 => Rs fun K J => sV (.bool true) rfl rfl (nl J (Sq fun K6 J6 => W_true rfl (W_skip (J6 _ _ (Sq fun K7 J7 => W_block (Rs fun K J => sE rfl (sE rfl (nl J (dr (sk (sk (sd (s0)))) [0,4,8,12,16,20,24,28,33] [8] mix (by kernel_rfl) (fun K J => pE rfl (pQ rfl (qA ar_31 rfl rfl rfl) (pQ rfl (qC ty_3 rfl m2 rfl) ?_)))))))))))))))
 refine pE rfl (pQ rfl (qA ar_31 rfl rfl rfl) (pQ rfl (qC ty_3 rfl m1 rfl) (pV (.int .i64 ((W.add a.y b.y).1)) rfl rfl (pQ rfl (qA ar_31 rfl rfl rfl) (oS [ci .i64 ((W.add a.y b.y).1)] ty_3 rfl rfl rfl rfl rfl rfl (.tail _ (.tail _ (.head _))) rfl hb1 rfl (sk (sk (sd s0))) (fl J (J7 _ _ (Rk fun K J => sV (.int .i64 2) rfl rfl (sE rfl (nl J (J5 _ _ (Un_s (fun K8 J8 => Rs fun K J => sV (.bool true) rfl rfl (nl J (Sq fun K9 J9 => W_true rfl (W_skip ?_))))))))))))))))
 refine J9 _ _ (Sq fun K10 J10 => W_block (Rs fun K J => sE rfl (sE rfl (nl J (dr (sk (sk (sd (s0)))) [0,4,8,12,16,20,24,28,33] [8] mix (by kernel_rfl) (fun K J => pE rfl (pQ rfl (qA ar_31 rfl rfl rfl) (pQ rfl (qC ty_3 rfl m2 rfl) (pE rfl (pQ rfl (qA ar_31 rfl rfl rfl) (pQ rfl (qC ty_3 rfl m1 rfl) (pV (.int .i64 ((W.add a.z b.z).1)) rfl rfl (pQ rfl (qA ar_31 rfl rfl rfl) (oS [ci .i64 ((W.add a.z b.z).1)] ty_3 rfl rfl rfl rfl rfl rfl (.tail _ (.tail _ (.head _))) rfl hb1 rfl (sk (sk (sd s0))) (fl J (J10 _ _ (Rk fun K J => ?_)))))))))))))))))
 refine sV (.int .i64 3) rfl rfl (sE rfl (nl J (J8 _ _ (Un_s (fun K11 J11 => Rs fun K J => sV (.bool false) rfl rfl (nl J (Sq fun K12 J12 => W_false rfl (W_exit (thenK_x (thenK_x (blockK_hit (J1 _ _ (Rs fun K J => sQ (qL ty_31 rfl m2 rfl) rfl (sS [ci .i64 ((W.add a.x b.x).1), ci .i64 ((W.add a.y b.y).1), ci .i64 ((W.add a.z b.z).1)] ty_31 rfl rfl rfl rfl rfl (.head _) rfl hb3 (nl J (W_ret (ret1 rfl (.inr rfl) (resP rfl m0 ty_31 rfl) ?_)))))))))))))))))
 exact (by rfl)

theorem vector_Less_ret (a : (A3 W)) (b : (A3 W)) :
    Ret Tryz.prog 37 [AV [ci .i64 a.x.1, ci .i64 a.y.1, ci .i64 a.z.1], AV [ci .i64 b.x.1, ci .i64 b.y.1, ci .i64 b.z.1]] (.bool (F_vector_Less a b)) := by
 refine ret_of_W (N := 24) Tryz.func37 rfl rfl (by simp) (fun w0 => ?_)
 simp only [initF, Nat.reduceAdd]
 refine Rs fun K J => WL_r rfl (r_boxp rfl rfl (fun b1 hb1 => WL_r rfl (r_boxp rfl rfl (fun b2 hb2 => sE rfl (nl J (Sq fun K1 J1 => Rs fun K J => sE rfl (nl J (W_block (W_un 5 (Un_s (fun K2 J2 => Rs fun K J => sV (.bool true) rfl rfl (nl J (Sq fun K3 J3 => W_true rfl (W_skip (J3 _ _ (Sq fun K4 J4 => ?_))))))))))))))))
 refine W_block (Rs fun K J => sE rfl (sE rfl (nl J (ds (sk (sk (s0))) [0,4,8,12,16,20,24] [] mix (by kernel_rfl) (fun K J => pE rfl (pQ rfl (qA ar_31 rfl rfl rfl) (pQ rfl (qC ty_3 rfl m1 rfl) (pE rfl (pQ rfl (qA ar_31 rfl rfl rfl) (pQ rfl (qC ty_3 rfl m0 rfl) (pE rfl (fl J ?_))))))))))))
 rcases bt (a.x.1 != b.x.1) with h3 | h3
 ·skip
  refine W_t h3 rfl (ds (sk (sk (s0))) [0,4,8,12,16,20,24,28] [] mix (by kernel_rfl) (fun K J => pE rfl (pQ rfl (qA ar_31 rfl rfl rfl) (pQ rfl (qC ty_3 rfl m1 rfl) (pE rfl (pQ rfl (qA ar_31 rfl rfl rfl) (pQ rfl (qC ty_3 rfl m0 rfl) (pE rfl (pE rfl (fl J (W_ret (blockK_r (thenK_r (thenK_r (blockK_r (thenK_r (ret1 rfl (.inr rfl) rfl ?_)))))))))))))))))
  exact (by exact congrArg (fun r : Bool => (.bool r : Value)) (show _ = (F_vector_Less a b) from bif_t h3 rfl))
 ·skip
  refine W_f h3 rfl (W_skip (J4 _ _ (Rk fun K J => sV (.int .i64 1) rfl rfl (sE rfl (nl J (J2 _ _ (Un_s (fun K5 J5 => Rs fun K J => sV (.bool true) rfl rfl (nl J (Sq fun K6 J6 => W_true rfl (W_skip (J6 _ _ (Sq fun K7 J7 => W_block (Rs fun K J => sE rfl ?_))))))))))))))
  refine sE rfl (nl J (ds (sk (sk (s0))) [0,4,8,12,16,20,24] [] mix (by kernel_rfl) (fun K J => pE rfl (pQ rfl (qA ar_31 rfl rfl rfl) (pQ rfl (qC ty_3 rfl m1 rfl) (pE rfl (pQ rfl (qA ar_31 rfl rfl rfl) (pQ rfl (qC ty_3 rfl m0 rfl) (pE rfl (fl J ?_))))))))))
  rcases bt (a.y.1 != b.y.1) with h4 | h4
  ·skip
   refine W_t h4 rfl (ds (sk (sk (s0))) [0,4,8,12,16,20,24,28] [] mix (by kernel_rfl) (fun K J => pE rfl (pQ rfl (qA ar_31 rfl rfl rfl) (pQ rfl (qC ty_3 rfl m1 rfl) (pE rfl (pQ rfl (qA ar_31 rfl rfl rfl) (pQ rfl (qC ty_3 rfl m0 rfl) (pE rfl (pE rfl (fl J (W_ret (blockK_r (thenK_r (thenK_r (blockK_r (thenK_r (ret1 rfl (.inr rfl) rfl ?_)))))))))))))))))
   exact (by exact congrArg (fun r : Bool => (.bool r : Value)) (show _ = (F_vector_Less a b) from bif_f h3 (bif_t h4 rfl)))
  ·skip
   refine W_f h4 rfl (W_skip (J7 _ _ (Rk fun K J => sV (.int .i64 2) rfl rfl (sE rfl (nl J (J5 _ _ (Un_s (fun K8 J8 => Rs fun K J => sV (.bool true) rfl rfl (nl J (Sq fun K9 J9 => W_true rfl (W_skip (J9 _ _ (Sq fun K10 J10 => W_block (Rs fun K J => sE rfl ?_))))))))))))))
   refine sE rfl (nl J (ds (sk (sk (s0))) [0,4,8,12,16,20,24] [] mix (by kernel_rfl) (fun K J => pE rfl (pQ rfl (qA ar_31 rfl rfl rfl) (pQ rfl (qC ty_3 rfl m1 rfl) (pE rfl (pQ rfl (qA ar_31 rfl rfl rfl) (pQ rfl (qC ty_3 rfl m0 rfl) (pE rfl (fl J ?_))))))))))
   rcases bt (a.z.1 != b.z.1) with h5 | h5
   ·skip
    refine W_t h5 rfl (ds (sk (sk (s0))) [0,4,8,12,16,20,24,28] [] mix (by kernel_rfl) (fun K J => pE rfl (pQ rfl (qA ar_31 rfl rfl rfl) (pQ rfl (qC ty_3 rfl m1 rfl) (pE rfl (pQ rfl (qA ar_31 rfl rfl rfl) (pQ rfl (qC ty_3 rfl m0 rfl) (pE rfl (pE rfl (fl J (W_ret (blockK_r (thenK_r (thenK_r (blockK_r (thenK_r (ret1 rfl (.inr rfl) rfl ?_)))))))))))))))))
    exact (by exact congrArg (fun r : Bool => (.bool r : Value)) (show _ = (F_vector_Less a b) from bif_f h3 (bif_f h4 (bif_t h5 rfl))))
   ·skip
    refine W_f h5 rfl (W_skip (J10 _ _ (Rk fun K J => sV (.int .i64 3) rfl rfl (sE rfl (nl J (J8 _ _ (Un_s (fun K11 J11 => Rs fun K J => sV (.bool false) rfl rfl (nl J (Sq fun K12 J12 => W_false rfl (W_exit (thenK_x (thenK_x (blockK_hit (J1 _ _ (Rs fun K J => sE rfl (nl J (W_ret ?_))))))))))))))))))
    refine ret1 rfl (.inr rfl) rfl ?_
    exact (by exact congrArg (fun r : Bool => (.bool r : Value)) (show _ = (F_vector_Less a b) from bif_f h3 (bif_f h4 (bif_f h5 rfl))))

theorem vector_numbers_ret (a : (A3 W)) :
    Ret Tryz.prog 54 [AV [ci .i64 a.x.1, ci .i64 a.y.1, ci .i64 a.z.1]] (AV [pI ((F_vector_numbers a).x), pI ((F_vector_numbers a).y), pI ((F_vector_numbers a).z)]) := by
 refine ret_of_W (N := 16) Tryz.func54 rfl rfl (by simp) (fun w0 => ?_)
 simp only [initF, Nat.reduceAdd]
 refine Rs fun K J => WL_r rfl (r_boxp rfl rfl (fun b1 hb1 => sN zp_45 rfl fun b2 hb2 => nl J (Sq fun K1 J1 => Rs fun K J => sQ (qL ty_31 rfl m1 rfl) rfl (sE rfl (nl J (W_block (W_un 5 (Un_s (fun K2 J2 => Rs fun K J => sV (.bool true) rfl rfl (nl J (Sq fun K3 J3 => W_true rfl (W_skip (J3 _ _ (Sq fun K4 J4 => ?_))))))))))))))
 refine W_block (Rs fun K J => sE rfl (sQ (qJ el_31 rfl rfl rfl rfl) rfl (sE rfl (sE rfl (nl J (Rk fun K J => sE rfl (sE rfl (sC (AV [pI (E (Z.of a.x.1))]) en_58 (whole_Of_ret a.x.1 a.x.2) rfl rfl rfl (sQ (qA ar_45 rfl rfl rfl) rfl (sS [pI (E (Z.of a.x.1))] ty_25 rfl rfl rfl rfl rfl (.head _) rfl hb2 (nl J (J4 _ _ (Rk fun K J => sV (.int .i64 1) rfl rfl (sE rfl (nl J (J2 _ _ ?_))))))))))))))))
 refine Un_s (fun K5 J5 => Rs fun K J => sV (.bool true) rfl rfl (nl J (Sq fun K6 J6 => W_true rfl (W_skip (J6 _ _ (Sq fun K7 J7 => W_block (Rs fun K J => sE rfl (sQ (qJ el_31 rfl rfl rfl rfl) rfl (sE rfl (sE rfl (nl J (Rk fun K J => sE rfl (sE rfl (sC (AV [pI (E (Z.of a.y.1))]) en_58 (whole_Of_ret a.y.1 a.y.2) rfl rfl rfl ?_))))))))))))))
 refine sQ (qA ar_45 rfl rfl rfl) rfl (sS [pI (E (Z.of a.y.1))] ty_25 rfl rfl rfl rfl rfl (.head _) rfl hb2 (nl J (J7 _ _ (Rk fun K J => sV (.int .i64 2) rfl rfl (sE rfl (nl J (J5 _ _ (Un_s (fun K8 J8 => Rs fun K J => sV (.bool true) rfl rfl (nl J (Sq fun K9 J9 => W_true rfl (W_skip (J9 _ _ (Sq fun K10 J10 => W_block (Rs fun K J => ?_)))))))))))))))
 refine sE rfl (sQ (qJ el_31 rfl rfl rfl rfl) rfl (sE rfl (sE rfl (nl J (Rk fun K J => sE rfl (sE rfl (sC (AV [pI (E (Z.of a.z.1))]) en_58 (whole_Of_ret a.z.1 a.z.2) rfl rfl rfl (sQ (qA ar_45 rfl rfl rfl) rfl (sS [pI (E (Z.of a.z.1))] ty_25 rfl rfl rfl rfl rfl (.head _) rfl hb2 (nl J (J10 _ _ (Rk fun K J => sV (.int .i64 3) rfl rfl (sE rfl (nl J (J8 _ _ (Un_s (fun K11 J11 => Rs fun K J => ?_)))))))))))))))))
 refine sV (.bool false) rfl rfl (nl J (Sq fun K12 J12 => W_false rfl (W_exit (thenK_x (thenK_x (blockK_hit (J1 _ _ (Rs fun K J => sQ (qL ty_45 rfl m0 rfl) rfl (sS [pI (E (Z.of a.x.1)), pI (E (Z.of a.y.1)), pI (E (Z.of a.z.1))] ty_45 rfl rfl rfl rfl rfl (.head _) rfl hb2 (nl J (W_ret (ret1 rfl (.inr rfl) (resP rfl m0 ty_45 rfl) ?_))))))))))))
 exact (by rfl)

theorem vector_dot_ret (a : (A3 I)) (b : (A3 I)) :
    Ret Tryz.prog 53 [AV [pI a.x, pI a.y, pI a.z], AV [pI b.x, pI b.y, pI b.z]] (AV [pI (F_vector_dot a b)]) := by
 refine ret_of_W (N := 22) Tryz.func53 rfl rfl (by simp) (fun w0 => ?_)
 simp only [initF, Nat.reduceAdd]
 refine Rs fun K J => WL_r rfl (r_boxp rfl rfl (fun b1 hb1 => WL_r rfl (r_boxp rfl rfl (fun b2 hb2 => sN zp_25 rfl fun b3 hb3 => nl J (Rs fun K J => sC (AV [pI (E (Z.of 0))]) en_58 (whole_Of_ret (wl 0).1 (wl 0).2) rfl rfl rfl ?_)))))
 refine sN zp_25 rfl fun b4 hb4 => sS [pI (E (Z.of 0))] ty_25 rfl rfl rfl rfl rfl (.head _) rfl hb4 (nl J (Sq fun K1 J1 => Rs fun K J => sE rfl (nl J (W_block (W_un 5 (Un_s (fun K2 J2 => Rs fun K J => sV (.bool true) rfl rfl (nl J (Sq fun K3 J3 => W_true rfl (W_skip (J3 _ _ (Sq fun K4 J4 => W_block (Rs fun K J => ?_)))))))))))))
 refine sE rfl (sE rfl (nl J (dr (sd (sk (sk (sk (s0))))) [0,4,8,12,16,20,24,28,32,37] [9] mix (by kernel_rfl) (fun K J => pQ rfl (qL ty_25 rfl m0 rfl) (pE rfl (pQ rfl (qA ar_45 rfl rfl rfl) (pQ rfl (qL ty_25 rfl m3 rfl) (pE rfl (pQ rfl (qA ar_45 rfl rfl rfl) (pQ rfl (qL ty_25 rfl m2 rfl) (pC (AV [pI (E (Z.mul a.x.dec b.x.dec))]) en_71 (whole_Mul_ret a.x.1 b.x.1 a.x.2 b.x.2) rfl rfl rfl (pC (AV [pI (E (Z.add (Z.of 0) (Z.mul a.x.dec b.x.dec)))]) en_70 (whole_Add_ret (E (Z.of 0)).1 (E (Z.mul a.x.dec b.x.dec)).1 (E (Z.of 0)).2 (E (Z.mul a.x.dec b.x.dec)).2) rfl rfl (cg2 (fun p q => AV [pI (E (Z.add p q))]) (E_dec _) (E_dec _)) (oS [pI (E (Z.add (Z.of 0) (Z.mul a.x.dec b.x.dec)))] ty_25 rfl rfl rfl rfl rfl rfl (.head _) rfl hb4 rfl (sd s0) (fl J (J4 _ _ (Rk fun K J => sV (.int .i64 1) rfl rfl (sE rfl (nl J ?_))))))))))))))))))
 refine J2 _ _ (Un_s (fun K5 J5 => Rs fun K J => sV (.bool true) rfl rfl (nl J (Sq fun K6 J6 => W_true rfl (W_skip (J6 _ _ (Sq fun K7 J7 => W_block (Rs fun K J => sE rfl (sE rfl (nl J (dr (sd (sk (sk (sk (s0))))) [0,4,8,12,16,20,24,28,32,37] [9] mix (by kernel_rfl) (fun K J => pQ rfl (qL ty_25 rfl m0 rfl) (pE rfl (pQ rfl (qA ar_45 rfl rfl rfl) (pQ rfl (qL ty_25 rfl m3 rfl) ?_)))))))))))))))
 refine pE rfl (pQ rfl (qA ar_45 rfl rfl rfl) (pQ rfl (qL ty_25 rfl m2 rfl) (pC (AV [pI (E (Z.mul a.y.dec b.y.dec))]) en_71 (whole_Mul_ret a.y.1 b.y.1 a.y.2 b.y.2) rfl rfl rfl ?_)))
 obtain ⟨r5, hr5⟩ := nm ((E (Z.add (Z.add (Z.of 0) (Z.mul a.x.dec b.x.dec)) (Z.mul a.y.dec b.y.dec))) : I)
 refine pC (AV [pI r5]) en_70 (whole_Add_ret (E (Z.add (Z.of 0) (Z.mul a.x.dec b.x.dec))).1 (E (Z.mul a.y.dec b.y.dec)).1 (E (Z.add (Z.of 0) (Z.mul a.x.dec b.x.dec))).2 (E (Z.mul a.y.dec b.y.dec)).2) rfl rfl ((cg2 (fun p q => AV [pI (E (Z.add p q))]) (E_dec _) (E_dec _)).trans (by rw [hr5])) (oS [pI r5] ty_25 rfl rfl rfl rfl rfl rfl (.head _) rfl hb4 rfl (sd s0) (fl J (J7 _ _ (Rk fun K J => sV (.int .i64 2) rfl rfl (sE rfl (nl J (J5 _ _ (Un_s (fun K8 J8 => Rs fun K J => sV (.bool true) rfl rfl (nl J (Sq fun K9 J9 => W_true rfl (W_skip (J9 _ _ (Sq fun K10 J10 => W_block (Rs fun K J => ?_)))))))))))))))
 refine sE rfl (sE rfl (nl J (dr (sd (sk (sk (sk (s0))))) [0,4,8,12,16,20,24,28,32,37] [9] mix (by kernel_rfl) (fun K J => pQ rfl (qL ty_25 rfl m0 rfl) (pE rfl (pQ rfl (qA ar_45 rfl rfl rfl) (pQ rfl (qL ty_25 rfl m3 rfl) (pE rfl (pQ rfl (qA ar_45 rfl rfl rfl) (pQ rfl (qL ty_25 rfl m2 rfl) (pC (AV [pI (E (Z.mul a.z.dec b.z.dec))]) en_71 (whole_Mul_ret a.z.1 b.z.1 a.z.2 b.z.2) rfl rfl rfl (pC (AV [pI (E (Z.add r5.dec (Z.mul a.z.dec b.z.dec)))]) en_70 (whole_Add_ret r5.1 (E (Z.mul a.z.dec b.z.dec)).1 r5.2 (E (Z.mul a.z.dec b.z.dec)).2) rfl rfl (cg2 (fun p q => AV [pI (E (Z.add p q))]) rfl (E_dec _)) (oS [pI (E (Z.add r5.dec (Z.mul a.z.dec b.z.dec)))] ty_25 rfl rfl rfl rfl rfl rfl (.head _) rfl hb4 rfl (sd s0) (fl J (J10 _ _ (Rk fun K J => sV (.int .i64 3) rfl rfl (sE rfl (nl J ?_))))))))))))))))))
 refine J8 _ _ (Un_s (fun K11 J11 => Rs fun K J => sV (.bool false) rfl rfl (nl J (Sq fun K12 J12 => W_false rfl (W_exit (thenK_x (thenK_x (blockK_hit (J1 _ _ (Rs fun K J => sQ (qL ty_25 rfl m0 rfl) rfl (sS [pI (E (Z.add r5.dec (Z.mul a.z.dec b.z.dec)))] ty_25 rfl rfl rfl rfl rfl (.tail _ (.head _)) rfl hb3 (nl J (W_ret (ret1 rfl (.inr rfl) (resP rfl m1 ty_25 rfl) ?_))))))))))))))
 exact (by subst hr5; rfl)

theorem vector_cross_ret (a : (A3 I)) (b : (A3 I)) :
    Ret Tryz.prog 57 [AV [pI a.x, pI a.y, pI a.z], AV [pI b.x, pI b.y, pI b.z]] (AV [pI ((F_vector_cross a b).x), pI ((F_vector_cross a b).y), pI ((F_vector_cross a b).z)]) := by
 refine ret_of_W (N := 36) Tryz.func57 rfl rfl (by simp) (fun w0 => ?_)
 simp only [initF, Nat.reduceAdd]
 refine Rs fun K J => WL_r rfl (r_boxp rfl rfl (fun b1 hb1 => WL_r rfl (r_boxp rfl rfl (fun b2 hb2 => sN zp_45 rfl fun b3 hb3 => nl J (Sq fun K1 J1 => Rs fun K J => sE rfl (nl J (W_block (W_un 5 (Un_s (fun K2 J2 => Rs fun K J => sV (.bool true) rfl rfl (nl J (Sq fun K3 J3 => W_true rfl (W_skip (J3 _ _ (Sq fun K4 J4 => ?_)))))))))))))))
 refine W_block (Rs fun K J => sE rfl (sE rfl (nl J (Rs fun K J => sE rfl (sV (.int .i64 1) rfl rfl (sQ (q_as (v' := .int .i64 1) (q_rem rfl rfl (by decide)) rfl) rfl (sE rfl (sV (.int .i64 2) rfl rfl (sQ (q_as (v' := .int .i64 2) (q_rem rfl rfl (by decide)) rfl) rfl (sE rfl (sE rfl (nl J (dr (sd (sk (sk (s0)))) [0,4,8,12,16,20,24,28,32,36,40,44,48,52,56,60,64,69] [17] mix (by kernel_rfl) (fun K J => pE rfl (pE rfl (pQ rfl (qA ar_45 rfl rfl rfl) (pQ rfl (qL ty_25 rfl m2 rfl) ?_)))))))))))))))))
 refine pE rfl (pQ rfl (qA ar_45 rfl rfl rfl) (pQ rfl (qL ty_25 rfl m1 rfl) (pC (AV [pI (E (Z.mul a.y.dec b.z.dec))]) en_71 (whole_Mul_ret a.y.1 b.z.1 a.y.2 b.z.2) rfl rfl rfl (pE rfl (pQ rfl (qA ar_45 rfl rfl rfl) (pQ rfl (qL ty_25 rfl m2 rfl) (pE rfl (pQ rfl (qA ar_45 rfl rfl rfl) (pQ rfl (qL ty_25 rfl m1 rfl) (pC (AV [pI (E (Z.mul a.z.dec b.y.dec))]) en_71 (whole_Mul_ret a.z.1 b.y.1 a.z.2 b.y.2) rfl rfl rfl (pC (AV [pI (E (Z.sub (Z.mul a.y.dec b.z.dec) (Z.mul a.z.dec b.y.dec)))]) en_65 (whole_Sub_ret (E (Z.mul a.y.dec b.z.dec)).1 (E (Z.mul a.z.dec b.y.dec)).1 (E (Z.mul a.y.dec b.z.dec)).2 (E (Z.mul a.z.dec b.y.dec)).2) rfl rfl (cg2 (fun p q => AV [pI (E (Z.sub p q))]) (E_dec _) (E_dec _)) (pQ rfl (qA ar_45 rfl rfl rfl) (oS [pI (E (Z.sub (Z.mul a.y.dec b.z.dec) (Z.mul a.z.dec b.y.dec)))] ty_25 rfl rfl rfl rfl rfl rfl (.head _) rfl hb3 rfl (sd s0) (fl J (J4 _ _ (Rk fun K J => sV (.int .i64 1) rfl rfl (sE rfl (nl J ?_))))))))))))))))))
 refine J2 _ _ (Un_s (fun K5 J5 => Rs fun K J => sV (.bool true) rfl rfl (nl J (Sq fun K6 J6 => W_true rfl (W_skip (J6 _ _ (Sq fun K7 J7 => W_block (Rs fun K J => sE rfl (sE rfl (nl J (Rs fun K J => sE rfl (sV (.int .i64 2) rfl rfl (sQ (q_as (v' := .int .i64 2) (q_rem rfl rfl (by decide)) rfl) rfl (sE rfl ?_))))))))))))))
 refine sV (.int .i64 3) rfl rfl (sQ (q_as (v' := .int .i64 0) (q_rem rfl rfl (by decide)) rfl) rfl (sE rfl (sE rfl (nl J (dr (sd (sk (sk (s0)))) [0,4,8,12,16,20,24,28,32,36,40,44,48,52,56,60,64,69] [17] mix (by kernel_rfl) (fun K J => pE rfl (pE rfl (pQ rfl (qA ar_45 rfl rfl rfl) (pQ rfl (qL ty_25 rfl m2 rfl) (pE rfl (pQ rfl (qA ar_45 rfl rfl rfl) (pQ rfl (qL ty_25 rfl m1 rfl) (pC (AV [pI (E (Z.mul a.z.dec b.x.dec))]) en_71 (whole_Mul_ret a.z.1 b.x.1 a.z.2 b.x.2) rfl rfl rfl (pE rfl (pQ rfl (qA ar_45 rfl rfl rfl) (pQ rfl (qL ty_25 rfl m2 rfl) (pE rfl (pQ rfl (qA ar_45 rfl rfl rfl) (pQ rfl (qL ty_25 rfl m1 rfl) ?_)))))))))))))))))))
 refine pC (AV [pI (E (Z.mul a.x.dec b.z.dec))]) en_71 (whole_Mul_ret a.x.1 b.z.1 a.x.2 b.z.2) rfl rfl rfl (pC (AV [pI (E (Z.sub (Z.mul a.z.dec b.x.dec) (Z.mul a.x.dec b.z.dec)))]) en_65 (whole_Sub_ret (E (Z.mul a.z.dec b.x.dec)).1 (E (Z.mul a.x.dec b.z.dec)).1 (E (Z.mul a.z.dec b.x.dec)).2 (E (Z.mul a.x.dec b.z.dec)).2) rfl rfl (cg2 (fun p q => AV [pI (E (Z.sub p q))]) (E_dec _) (E_dec _)) (pQ rfl (qA ar_45 rfl rfl rfl) (oS [pI (E (Z.sub (Z.mul a.z.dec b.x.dec) (Z.mul a.x.dec b.z.dec)))] ty_25 rfl rfl rfl rfl rfl rfl (.head _) rfl hb3 rfl (sd s0) (fl J (J7 _ _ (Rk fun K J => sV (.int .i64 2) rfl rfl (sE rfl (nl J (J5 _ _ (Un_s (fun K8 J8 => Rs fun K J => sV (.bool true) rfl rfl (nl J (Sq fun K9 J9 => W_true rfl (W_skip (J9 _ _ (Sq fun K10 J10 => ?_))))))))))))))))
 refine W_block (Rs fun K J => sE rfl (sE rfl (nl J (Rs fun K J => sE rfl (sV (.int .i64 3) rfl rfl (sQ (q_as (v' := .int .i64 0) (q_rem rfl rfl (by decide)) rfl) rfl (sE rfl (sV (.int .i64 4) rfl rfl (sQ (q_as (v' := .int .i64 1) (q_rem rfl rfl (by decide)) rfl) rfl (sE rfl (sE rfl (nl J (dr (sd (sk (sk (s0)))) [0,4,8,12,16,20,24,28,32,36,40,44,48,52,56,60,64,69] [17] mix (by kernel_rfl) (fun K J => pE rfl (pE rfl (pQ rfl (qA ar_45 rfl rfl rfl) (pQ rfl (qL ty_25 rfl m2 rfl) ?_)))))))))))))))))
 refine pE rfl (pQ rfl (qA ar_45 rfl rfl rfl) (pQ rfl (qL ty_25 rfl m1 rfl) (pC (AV [pI (E (Z.mul a.x.dec b.y.dec))]) en_71 (whole_Mul_ret a.x.1 b.y.1 a.x.2 b.y.2) rfl rfl rfl (pE rfl (pQ rfl (qA ar_45 rfl rfl rfl) (pQ rfl (qL ty_25 rfl m2 rfl) (pE rfl (pQ rfl (qA ar_45 rfl rfl rfl) (pQ rfl (qL ty_25 rfl m1 rfl) (pC (AV [pI (E (Z.mul a.y.dec b.x.dec))]) en_71 (whole_Mul_ret a.y.1 b.x.1 a.y.2 b.x.2) rfl rfl rfl (pC (AV [pI (E (Z.sub (Z.mul a.x.dec b.y.dec) (Z.mul a.y.dec b.x.dec)))]) en_65 (whole_Sub_ret (E (Z.mul a.x.dec b.y.dec)).1 (E (Z.mul a.y.dec b.x.dec)).1 (E (Z.mul a.x.dec b.y.dec)).2 (E (Z.mul a.y.dec b.x.dec)).2) rfl rfl (cg2 (fun p q => AV [pI (E (Z.sub p q))]) (E_dec _) (E_dec _)) (pQ rfl (qA ar_45 rfl rfl rfl) (oS [pI (E (Z.sub (Z.mul a.x.dec b.y.dec) (Z.mul a.y.dec b.x.dec)))] ty_25 rfl rfl rfl rfl rfl rfl (.head _) rfl hb3 rfl (sd s0) (fl J (J10 _ _ (Rk fun K J => sV (.int .i64 3) rfl rfl (sE rfl (nl J ?_))))))))))))))))))
 refine J8 _ _ (Un_s (fun K11 J11 => Rs fun K J => sV (.bool false) rfl rfl (nl J (Sq fun K12 J12 => W_false rfl (W_exit (thenK_x (thenK_x (blockK_hit (J1 _ _ (Rs fun K J => sQ (qL ty_45 rfl m0 rfl) rfl (sS [pI (E (Z.sub (Z.mul a.y.dec b.z.dec) (Z.mul a.z.dec b.y.dec))), pI (E (Z.sub (Z.mul a.z.dec b.x.dec) (Z.mul a.x.dec b.z.dec))), pI (E (Z.sub (Z.mul a.x.dec b.y.dec) (Z.mul a.y.dec b.x.dec)))] ty_45 rfl rfl rfl rfl rfl (.head _) rfl hb3 (nl J (W_ret (ret1 rfl (.inr rfl) (resP rfl m0 ty_45 rfl) ?_))))))))))))))
 exact (by rfl)

theorem vector_Dot_ret (a : (A3 W)) (b : (A3 W)) :
    Ret Tryz.prog 27 [AV [ci .i64 a.x.1, ci .i64 a.y.1, ci .i64 a.z.1], AV [ci .i64 b.x.1, ci .i64 b.y.1, ci .i64 b.z.1]] (AV [pI (F_vector_Dot a b)]) := by
 refine ret_of_W (N := 10) Tryz.func27 rfl rfl (by simp) (fun w0 => ?_)
 simp only [initF, Nat.reduceAdd]
 refine Rs fun K J => WL_r rfl (r_boxp rfl rfl (fun b1 hb1 => WL_r rfl (r_boxp rfl rfl (fun b2 hb2 => sN zp_25 rfl fun b3 hb3 => nl J (ds (sd (sk (sk (s0)))) [0,4,8,12,16,21] [5] mix (by kernel_rfl) (fun K J => pQ rfl (qL ty_31 rfl m2 rfl) (pQ rfl (q_ret en_54 (vector_numbers_ret a) rfl) (pQ rfl (qL ty_31 rfl m1 rfl) (pQ rfl (q_ret en_54 (vector_numbers_ret b) rfl) (pQ rfl (q_ret en_53 (vector_dot_ret (F_vector_numbers a) (F_vector_numbers b)) rfl) (oS [pI (F_vector_dot (F_vector_numbers a) (F_vector_numbers b))] ty_25 rfl rfl rfl rfl rfl rfl (.head _) rfl hb3 rfl (sd s0) (fl J (W_ret (ret1 rfl (.inr rfl) (resP rfl m0 ty_25 rfl) ?_))))))))))))))
 exact (by rfl)

theorem vector_Cross_ret (a : (A3 W)) (b : (A3 W)) :
    Ret Tryz.prog 29 [AV [ci .i64 a.x.1, ci .i64 a.y.1, ci .i64 a.z.1], AV [ci .i64 b.x.1, ci .i64 b.y.1, ci .i64 b.z.1]] (AV [pI ((F_vector_Cross a b).x), pI ((F_vector_Cross a b).y), pI ((F_vector_Cross a b).z)]) := by
 refine ret_of_W (N := 10) Tryz.func29 rfl rfl (by simp) (fun w0 => ?_)
 simp only [initF, Nat.reduceAdd]
 refine Rs fun K J => WL_r rfl (r_boxp rfl rfl (fun b1 hb1 => WL_r rfl (r_boxp rfl rfl (fun b2 hb2 => sN zp_45 rfl fun b3 hb3 => nl J (ds (sd (sk (sk (s0)))) [0,4,8,12,16,21] [5] mix (by kernel_rfl) (fun K J => pQ rfl (qL ty_31 rfl m2 rfl) (pQ rfl (q_ret en_54 (vector_numbers_ret a) rfl) (pQ rfl (qL ty_31 rfl m1 rfl) (pQ rfl (q_ret en_54 (vector_numbers_ret b) rfl) ?_)))))))))
 obtain ⟨r4, hr4⟩ := nm ((F_vector_cross (F_vector_numbers a) (F_vector_numbers b)) : (A3 I))
 refine pC (AV [pI r4.x, pI r4.y, pI r4.z]) en_57 (vector_cross_ret (F_vector_numbers a) (F_vector_numbers b)) rfl rfl (by rw [hr4]; first | done | rfl) (oS [pI r4.x, pI r4.y, pI r4.z] ty_45 rfl rfl rfl rfl rfl rfl (.head _) rfl hb3 rfl (sd s0) (fl J (W_ret (ret1 rfl (.inr rfl) (resP rfl m0 ty_45 rfl) ?_))))
 exact (by subst hr4; rfl)

theorem vector_Primitive_ret (a : (A3 I)) :
    Ret Tryz.prog 31 [AV [pI a.x, pI a.y, pI a.z]] (.tuple #[AV [ci .i64 ((((F_vector_Primitive a).1).x).1), ci .i64 ((((F_vector_Primitive a).1).y).1), ci .i64 ((((F_vector_Primitive a).1).z).1)], .int .i64 (((F_vector_Primitive a).2).1)]) := by
 refine ret_of_W (N := 58) Tryz.func31 rfl rfl (by simp) (fun w0 => ?_)
 simp only [initF, Nat.reduceAdd]
 refine Rs fun K J => WL_r rfl (r_boxp rfl rfl (fun b1 hb1 => sN zp_31 rfl fun b2 hb2 => sE rfl (nl J (Rs fun K J => sC (AV [pI (E (Z.of 0))]) en_58 (whole_Of_ret (wl 0).1 (wl 0).2) rfl rfl rfl ?_))))
 refine sN zp_25 rfl fun b3 hb3 => sS [pI (E (Z.of 0))] ty_25 rfl rfl rfl rfl rfl (.head _) rfl hb3 (nl J (Sq fun K1 J1 => Rs fun K J => sQ (qL ty_45 rfl m2 rfl) rfl (sE rfl (nl J (W_block (W_un 5 (Un_s (fun K2 J2 => Rs fun K J => sV (.bool true) rfl rfl (nl J (Sq fun K3 J3 => W_true rfl (W_skip (J3 _ _ (Sq fun K4 J4 => W_block ?_)))))))))))))
 refine Rs fun K J => sQ (qI el_45 rfl rfl rfl rfl) rfl (sN zp_25 rfl fun b4 hb4 => sS [pI a.x] ty_25 rfl rfl rfl rfl rfl (.head _) rfl hb4 (nl J (Rk fun K J => sQ (qL ty_25 rfl m1 rfl) rfl (sQ (qL ty_25 rfl m0 rfl) rfl (sC (AV [pI (E (Z.gcd (Z.of 0) a.x.dec))]) en_59 (whole_Gcd_ret (E (Z.of 0)).1 a.x.1 (E (Z.of 0)).2 a.x.2) rfl rfl (cg2 (fun p q => AV [pI (E (Z.gcd p q))]) (E_dec _) rfl) (sS [pI (E (Z.gcd (Z.of 0) a.x.dec))] ty_25 rfl rfl rfl rfl rfl (.tail _ (.head _)) rfl hb3 (nl J (J4 _ _ (Rk fun K J => sV (.int .i64 1) rfl rfl (sE rfl (nl J (J2 _ _ (Un_s (fun K5 J5 => Rs fun K J => sV (.bool true) rfl rfl ?_))))))))))))))
 refine nl J (Sq fun K6 J6 => W_true rfl (W_skip (J6 _ _ (Sq fun K7 J7 => W_block (Rs fun K J => sQ (qI el_45 rfl rfl rfl rfl) rfl (sN zp_25 rfl fun b5 hb5 => sS [pI a.y] ty_25 rfl rfl rfl rfl rfl (.head _) rfl hb5 (nl J (Rk fun K J => sQ (qL ty_25 rfl m2 rfl) rfl (sQ (qL ty_25 rfl m0 rfl) rfl (sC (AV [pI (E (Z.gcd (Z.gcd (Z.of 0) a.x.dec) a.y.dec))]) en_59 (whole_Gcd_ret (E (Z.gcd (Z.of 0) a.x.dec)).1 a.y.1 (E (Z.gcd (Z.of 0) a.x.dec)).2 a.y.2) rfl rfl (cg2 (fun p q => AV [pI (E (Z.gcd p q))]) (E_dec _) rfl) (sS [pI (E (Z.gcd (Z.gcd (Z.of 0) a.x.dec) a.y.dec))] ty_25 rfl rfl rfl rfl rfl (.tail _ (.tail _ (.head _))) rfl hb3 (nl J (J7 _ _ (Rk fun K J => ?_))))))))))))))
 refine sV (.int .i64 2) rfl rfl (sE rfl (nl J (J5 _ _ (Un_s (fun K8 J8 => Rs fun K J => sV (.bool true) rfl rfl (nl J (Sq fun K9 J9 => W_true rfl (W_skip (J9 _ _ (Sq fun K10 J10 => W_block (Rs fun K J => sQ (qI el_45 rfl rfl rfl rfl) rfl (sN zp_25 rfl fun b6 hb6 => sS [pI a.z] ty_25 rfl rfl rfl rfl rfl (.head _) rfl hb6 (nl J (Rk fun K J => ?_))))))))))))))
 refine sQ (qL ty_25 rfl m3 rfl) rfl (sQ (qL ty_25 rfl m0 rfl) rfl (sC (AV [pI (E (Z.gcd (Z.gcd (Z.gcd (Z.of 0) a.x.dec) a.y.dec) a.z.dec))]) en_59 (whole_Gcd_ret (E (Z.gcd (Z.gcd (Z.of 0) a.x.dec) a.y.dec)).1 a.z.1 (E (Z.gcd (Z.gcd (Z.of 0) a.x.dec) a.y.dec)).2 a.z.2) rfl rfl (cg2 (fun p q => AV [pI (E (Z.gcd p q))]) (E_dec _) rfl) (sS [pI (E (Z.gcd (Z.gcd (Z.gcd (Z.of 0) a.x.dec) a.y.dec) a.z.dec))] ty_25 rfl rfl rfl rfl rfl (.tail _ (.tail _ (.tail _ (.head _)))) rfl hb3 (nl J (J10 _ _ (Rk fun K J => sV (.int .i64 3) rfl rfl (sE rfl (nl J (J8 _ _ (Un_s (fun K11 J11 => Rs fun K J => sV (.bool false) rfl rfl (nl J (Sq fun K12 J12 => W_false rfl (W_exit (thenK_x (thenK_x (blockK_hit (J1 _ _ (Sq fun K13 J13 => ?_)))))))))))))))))))
 refine W_block (Rs fun K J => sQ (qF fd_25_0 rfl rfl) rfl (sQ (qC ty_4 rfl m3 rfl) rfl (sE rfl (nl J ?_))))
 rcases bt ((E (Z.gcd (Z.gcd (Z.gcd (Z.of 0) a.x.dec) a.y.dec) a.z.dec)).1.bad) with h7 | h7
 ·skip
  refine W_t h7 rfl (Rs fun K J => sQ (q_buildap zp_31 ar_31 rfl (.nil _)) rfl (sS [ci .i64 0, ci .i64 0, ci .i64 0] ty_31 rfl rfl rfl rfl rfl (.tail _ (.tail _ (.tail _ (.tail _ (.head _))))) rfl hb2 (sE rfl (nl J (W_ret (blockK_r (thenK_r (ret2 rfl (.inr rfl) (resP rfl m4 ty_31 rfl) rfl ?_))))))))
  exact (by exact congrArg (fun r : (A3 W) × W => (.tuple #[AV [ci .i64 r.1.x.1, ci .i64 r.1.y.1, ci .i64 r.1.z.1], .int .i64 r.2.1] : Value)) (show _ = (F_vector_Primitive a) from bif_t h7 rfl))
 ·skip
  refine W_f h7 rfl (Rs fun K J => sQ (qL ty_25 rfl m3 rfl) rfl (sC (.int .i64 ((Z.signW (Z.gcd (Z.gcd (Z.gcd (Z.of 0) a.x.dec) a.y.dec) a.z.dec)).1)) en_60 (whole_Sign_ret (E (Z.gcd (Z.gcd (Z.gcd (Z.of 0) a.x.dec) a.y.dec) a.z.dec)).1 (E (Z.gcd (Z.gcd (Z.gcd (Z.of 0) a.x.dec) a.y.dec) a.z.dec)).2) rfl rfl (cg1 (fun p => Value.int .i64 (Z.signW p).1) (E_dec _)) (sE rfl (sE rfl (nl J ?_)))))
  rcases bt ((Z.signW (Z.gcd (Z.gcd (Z.gcd (Z.of 0) a.x.dec) a.y.dec) a.z.dec)).1 == 0) with h8 | h8
  ·skip
   refine W_t h8 rfl (Rs fun K J => sQ (q_buildap zp_31 ar_31 rfl (.nil _)) rfl (sS [ci .i64 0, ci .i64 0, ci .i64 0] ty_31 rfl rfl rfl rfl rfl (.tail _ (.tail _ (.tail _ (.tail _ (.head _))))) rfl hb2 (sE rfl (nl J (W_ret (blockK_r (thenK_r (ret2 rfl (.inr rfl) (resP rfl m4 ty_31 rfl) rfl ?_))))))))
   exact (by exact congrArg (fun r : (A3 W) × W => (.tuple #[AV [ci .i64 r.1.x.1, ci .i64 r.1.y.1, ci .i64 r.1.z.1], .int .i64 r.2.1] : Value)) (show _ = (F_vector_Primitive a) from bif_f h7 (bif_t h8 rfl)))
  ·skip
   refine W_f h8 rfl (W_skip (J13 _ _ (Rs fun K J => sN zp_31 rfl fun b9 hb9 => nl J (Sq fun K14 J14 => Rs fun K J => sQ (qL ty_45 rfl m6 rfl) rfl (sE rfl (nl J (W_block (W_un 5 (Un_s (fun K15 J15 => Rs fun K J => sV (.bool true) rfl rfl (nl J (Sq fun K16 J16 => W_true rfl (W_skip ?_)))))))))))))
   refine J16 _ _ (Sq fun K17 J17 => W_block (Rs fun K J => sE rfl (sQ (qI el_45 rfl rfl rfl rfl) rfl (sN zp_25 rfl fun b10 hb10 => sE rfl (sS [pI a.x] ty_25 rfl rfl rfl rfl rfl (.head _) rfl hb10 (nl J (Rs fun K J => sQ (qL ty_25 rfl m0 rfl) rfl (sQ (qL ty_25 rfl m5 rfl) rfl ?_))))))))
   obtain ⟨r11, hr11⟩ := nm ((E (Z.quo a.x.dec (Z.gcd (Z.gcd (Z.gcd (Z.of 0) a.x.dec) a.y.dec) a.z.dec))) : I)
   refine sC (AV [pI r11]) en_62 (whole_Quo_ret a.x.1 (E (Z.gcd (Z.gcd (Z.gcd (Z.of 0) a.x.dec) a.y.dec) a.z.dec)).1 a.x.2 (E (Z.gcd (Z.gcd (Z.gcd (Z.of 0) a.x.dec) a.y.dec) a.z.dec)).2) rfl rfl ((cg2 (fun p q => AV [pI (E (Z.quo p q))]) rfl (E_dec _)).trans (by rw [hr11])) (sC (.tuple #[.int .i64 ((Z.smallW r11.dec).1), .bool r11.dec.small.2]) en_61 (whole_Small_ret r11.1 r11.2) rfl rfl rfl (sE rfl (sE rfl (sE rfl (sE rfl (sE rfl (nl J (Sq fun K18 J18 => ?_))))))))
   refine W_join [42, 43, 44, 45, 46, 47, 48, 49, 50, 51] (fun g M => (g 51 = .bool (!r11.dec.small.2 || (decide (2305843009213693952 ≤ (Z.smallW r11.dec).1) || decide ((Z.smallW r11.dec).1 ≤ (-2305843009213693952))))) ∧ M = [⟨b10, 25, flat [pI a.x]⟩, ⟨b9, 31, flat [ci .i64 0, ci .i64 0, ci .i64 0]⟩, ⟨b6, 25, flat [pI a.z]⟩, ⟨b5, 25, flat [pI a.y]⟩, ⟨b4, 25, flat [pI a.x]⟩, ⟨b3, 25, flat [pI (E (Z.gcd (Z.gcd (Z.gcd (Z.of 0) a.x.dec) a.y.dec) a.z.dec))]⟩, ⟨b2, 31, flat [ci .i64 0, ci .i64 0, ci .i64 0]⟩, ⟨b1, 45, flat [pI a.x, pI a.y, pI a.z]⟩]) (fun K19 J19 => ?_) ?_
   ·skip
    refine Rk fun K J => sE rfl (sE rfl ?_)
    rcases bt r11.dec.small.2 with h14 | h14
    ·skip
     refine sB (not_f h14) rfl (sE rfl (sE rfl (sE rfl ?_)))
     rcases bt (decide (2305843009213693952 ≤ (Z.smallW r11.dec).1)) with h15 | h15
     ·skip
      refine sB h15 rfl (WL_n rfl (WL_n rfl (sE rfl (nl J ?_))))
      refine J19 _ _ (by repeat first | exact .refl | refine .cons rfl ?_) ⟨_, s0, ?s51, rfl⟩
      case s51 => exact congrArg Value.bool (nor_t h14 (or_t h15))
     ·skip
      refine sB h15 rfl (sE rfl (sE rfl (sE rfl (nl J ?_))))
      refine J19 _ _ (by repeat first | exact .refl | refine .cons rfl ?_) ⟨_, s0, ?s51, rfl⟩
      case s51 => exact congrArg Value.bool (nor_t h14 (or_f h15 rfl))
    ·skip
     refine sB (not_t h14) rfl (WL_n rfl (WL_n rfl (sE rfl (sE rfl (WL_n rfl (WL_n rfl (sE rfl (nl J ?_))))))))
     refine J19 _ _ (by repeat first | exact .refl | refine .cons rfl ?_) ⟨_, s0, ?s51, rfl⟩
     case s51 => exact congrArg Value.bool (nor_f h14)
   ·skip
    rintro g16 M ⟨hg51, rfl⟩
    simp only [setG, hg51]
    clear hg51
    rcases bt (!r11.dec.small.2 || (decide (2305843009213693952 ≤ (Z.smallW r11.dec).1) || decide ((Z.smallW r11.dec).1 ≤ (-2305843009213693952)))) with h17 | h17
    ·skip
     refine W_t h17 rfl (Rs fun K J => sQ (q_buildap zp_31 ar_31 rfl (.nil _)) rfl (sS [ci .i64 0, ci .i64 0, ci .i64 0] ty_31 rfl rfl rfl rfl rfl (.tail _ (.tail _ (.tail _ (.tail _ (.tail _ (.tail _ (.head _))))))) rfl hb2 (sE rfl (nl J (W_ret (thenK_r (blockK_r (thenK_r (thenK_r (blockK_r (thenK_r (ret2 rfl (.inr rfl) (resP rfl m6 ty_31 rfl) rfl ?_))))))))))))
     exact (by subst hr11; exact congrArg (fun r : (A3 W) × W => (.tuple #[AV [ci .i64 r.1.x.1, ci .i64 r.1.y.1, ci .i64 r.1.z.1], .int .i64 r.2.1] : Value)) (show _ = (F_vector_Primitive a) from bif_f h7 (bif_f h8 (bif_t h17 rfl))))
    ·skip
     refine W_f h17 rfl (W_skip (J18 _ _ (Rk fun K J => sE rfl (sE rfl (sQ (qA ar_31 rfl rfl rfl) rfl (sS [ci .i64 ((Z.smallW r11.dec).1)] ty_3 rfl rfl rfl rfl rfl (.tail _ (.head _)) rfl hb9 (nl J (J17 _ _ (Rk fun K J => sV (.int .i64 1) rfl rfl (sE rfl (nl J (J15 _ _ (Un_s (fun K20 J20 => Rs fun K J => sV (.bool true) rfl rfl (nl J (Sq fun K21 J21 => ?_))))))))))))))))
     refine W_true rfl (W_skip (J21 _ _ (Sq fun K22 J22 => W_block (Rs fun K J => sE rfl (sQ (qI el_45 rfl rfl rfl rfl) rfl (sN zp_25 rfl fun b18 hb18 => sE rfl (sS [pI a.y] ty_25 rfl rfl rfl rfl rfl (.head _) rfl hb18 (nl J (Rs fun K J => sQ (qL ty_25 rfl m0 rfl) rfl (sQ (qL ty_25 rfl m6 rfl) rfl ?_))))))))))
     obtain ⟨r19, hr19⟩ := nm ((E (Z.quo a.y.dec (Z.gcd (Z.gcd (Z.gcd (Z.of 0) a.x.dec) a.y.dec) a.z.dec))) : I)
     refine sC (AV [pI r19]) en_62 (whole_Quo_ret a.y.1 (E (Z.gcd (Z.gcd (Z.gcd (Z.of 0) a.x.dec) a.y.dec) a.z.dec)).1 a.y.2 (E (Z.gcd (Z.gcd (Z.gcd (Z.of 0) a.x.dec) a.y.dec) a.z.dec)).2) rfl rfl ((cg2 (fun p q => AV [pI (E (Z.quo p q))]) rfl (E_dec _)).trans (by rw [hr19])) (sC (.tuple #[.int .i64 ((Z.smallW r19.dec).1), .bool r19.dec.small.2]) en_61 (whole_Small_ret r19.1 r19.2) rfl rfl rfl (sE rfl (sE rfl (sE rfl (sE rfl (sE rfl (nl J (Sq fun K23 J23 => ?_))))))))
     refine W_join [42, 43, 44, 45, 46, 47, 48, 49, 50, 51] (fun g M => (g 51 = .bool (!r19.dec.small.2 || (decide (2305843009213693952 ≤ (Z.smallW r19.dec).1) || decide ((Z.smallW r19.dec).1 ≤ (-2305843009213693952))))) ∧ M = [⟨b18, 25, flat [pI a.y]⟩, ⟨b10, 25, flat [pI a.x]⟩, ⟨b9, 31, flat [ci .i64 ((Z.smallW r11.dec).1), ci .i64 0, ci .i64 0]⟩, ⟨b6, 25, flat [pI a.z]⟩, ⟨b5, 25, flat [pI a.y]⟩, ⟨b4, 25, flat [pI a.x]⟩, ⟨b3, 25, flat [pI (E (Z.gcd (Z.gcd (Z.gcd (Z.of 0) a.x.dec) a.y.dec) a.z.dec))]⟩, ⟨b2, 31, flat [ci .i64 0, ci .i64 0, ci .i64 0]⟩, ⟨b1, 45, flat [pI a.x, pI a.y, pI a.z]⟩]) (fun K24 J24 => ?_) ?_
     ·skip
      refine Rk fun K J => sE rfl (sE rfl ?_)
      rcases bt r19.dec.small.2 with h22 | h22
      ·skip
       refine sB (not_f h22) rfl (sE rfl (sE rfl (sE rfl ?_)))
       rcases bt (decide (2305843009213693952 ≤ (Z.smallW r19.dec).1)) with h23 | h23
       ·skip
        refine sB h23 rfl (WL_n rfl (WL_n rfl (sE rfl (nl J ?_))))
        refine J24 _ _ (by repeat first | exact .refl | refine .cons rfl ?_) ⟨_, s0, ?s51, rfl⟩
        case s51 => exact congrArg Value.bool (nor_t h22 (or_t h23))
       ·skip
        refine sB h23 rfl (sE rfl (sE rfl (sE rfl (nl J ?_))))
        refine J24 _ _ (by repeat first | exact .refl | refine .cons rfl ?_) ⟨_, s0, ?s51, rfl⟩
        case s51 => exact congrArg Value.bool (nor_t h22 (or_f h23 rfl))
      ·skip
       refine sB (not_t h22) rfl (WL_n rfl (WL_n rfl (sE rfl (sE rfl (WL_n rfl (WL_n rfl (sE rfl (nl J ?_))))))))
       refine J24 _ _ (by repeat first | exact .refl | refine .cons rfl ?_) ⟨_, s0, ?s51, rfl⟩
       case s51 => exact congrArg Value.bool (nor_f h22)
     ·skip
      rintro g24 M ⟨hg51, rfl⟩
      simp only [setG, hg51]
      clear hg51
      rcases bt (!r19.dec.small.2 || (decide (2305843009213693952 ≤ (Z.smallW r19.dec).1) || decide ((Z.smallW r19.dec).1 ≤ (-2305843009213693952)))) with h25 | h25
      ·skip
       refine W_t h25 rfl (Rs fun K J => sQ (q_buildap zp_31 ar_31 rfl (.nil _)) rfl (sS [ci .i64 0, ci .i64 0, ci .i64 0] ty_31 rfl rfl rfl rfl rfl (.tail _ (.tail _ (.tail _ (.tail _ (.tail _ (.tail _ (.tail _ (.head _)))))))) rfl hb2 (sE rfl (nl J (W_ret (thenK_r (blockK_r (thenK_r (thenK_r (blockK_r (thenK_r (ret2 rfl (.inr rfl) (resP rfl m7 ty_31 rfl) rfl ?_))))))))))))
       exact (by subst hr19; subst hr11; exact congrArg (fun r : (A3 W) × W => (.tuple #[AV [ci .i64 r.1.x.1, ci .i64 r.1.y.1, ci .i64 r.1.z.1], .int .i64 r.2.1] : Value)) (show _ = (F_vector_Primitive a) from bif_f h7 (bif_f h8 (bif_f h17 (bif_t h25 rfl)))))
      ·skip
       refine W_f h25 rfl (W_skip (J23 _ _ (Rk fun K J => sE rfl (sE rfl (sQ (qA ar_31 rfl rfl rfl) rfl (sS [ci .i64 ((Z.smallW r19.dec).1)] ty_3 rfl rfl rfl rfl rfl (.tail _ (.tail _ (.head _))) rfl hb9 (nl J (J22 _ _ (Rk fun K J => sV (.int .i64 2) rfl rfl (sE rfl (nl J (J20 _ _ (Un_s (fun K25 J25 => Rs fun K J => sV (.bool true) rfl rfl (nl J (Sq fun K26 J26 => ?_))))))))))))))))
       refine W_true rfl (W_skip (J26 _ _ (Sq fun K27 J27 => W_block (Rs fun K J => sE rfl (sQ (qI el_45 rfl rfl rfl rfl) rfl (sN zp_25 rfl fun b26 hb26 => sE rfl (sS [pI a.z] ty_25 rfl rfl rfl rfl rfl (.head _) rfl hb26 (nl J (Rs fun K J => sQ (qL ty_25 rfl m0 rfl) rfl (sQ (qL ty_25 rfl m7 rfl) rfl ?_))))))))))
       obtain ⟨r27, hr27⟩ := nm ((E (Z.quo a.z.dec (Z.gcd (Z.gcd (Z.gcd (Z.of 0) a.x.dec) a.y.dec) a.z.dec))) : I)
       refine sC (AV [pI r27]) en_62 (whole_Quo_ret a.z.1 (E (Z.gcd (Z.gcd (Z.gcd (Z.of 0) a.x.dec) a.y.dec) a.z.dec)).1 a.z.2 (E (Z.gcd (Z.gcd (Z.gcd (Z.of 0) a.x.dec) a.y.dec) a.z.dec)).2) rfl rfl ((cg2 (fun p q => AV [pI (E (Z.quo p q))]) rfl (E_dec _)).trans (by rw [hr27])) (sC (.tuple #[.int .i64 ((Z.smallW r27.dec).1), .bool r27.dec.small.2]) en_61 (whole_Small_ret r27.1 r27.2) rfl rfl rfl (sE rfl (sE rfl (sE rfl (sE rfl (sE rfl (nl J (Sq fun K28 J28 => ?_))))))))
       refine W_join [42, 43, 44, 45, 46, 47, 48, 49, 50, 51] (fun g M => (g 51 = .bool (!r27.dec.small.2 || (decide (2305843009213693952 ≤ (Z.smallW r27.dec).1) || decide ((Z.smallW r27.dec).1 ≤ (-2305843009213693952))))) ∧ M = [⟨b26, 25, flat [pI a.z]⟩, ⟨b18, 25, flat [pI a.y]⟩, ⟨b10, 25, flat [pI a.x]⟩, ⟨b9, 31, flat [ci .i64 ((Z.smallW r11.dec).1), ci .i64 ((Z.smallW r19.dec).1), ci .i64 0]⟩, ⟨b6, 25, flat [pI a.z]⟩, ⟨b5, 25, flat [pI a.y]⟩, ⟨b4, 25, flat [pI a.x]⟩, ⟨b3, 25, flat [pI (E (Z.gcd (Z.gcd (Z.gcd (Z.of 0) a.x.dec) a.y.dec) a.z.dec))]⟩, ⟨b2, 31, flat [ci .i64 0, ci .i64 0, ci .i64 0]⟩, ⟨b1, 45, flat [pI a.x, pI a.y, pI a.z]⟩]) (fun K29 J29 => ?_) ?_
       ·skip
        refine Rk fun K J => sE rfl (sE rfl ?_)
        rcases bt r27.dec.small.2 with h30 | h30
        ·skip
         refine sB (not_f h30) rfl (sE rfl (sE rfl (sE rfl ?_)))
         rcases bt (decide (2305843009213693952 ≤ (Z.smallW r27.dec).1)) with h31 | h31
         ·skip
          refine sB h31 rfl (WL_n rfl (WL_n rfl (sE rfl (nl J ?_))))
          refine J29 _ _ (by repeat first | exact .refl | refine .cons rfl ?_) ⟨_, s0, ?s51, rfl⟩
          case s51 => exact congrArg Value.bool (nor_t h30 (or_t h31))
         ·skip
          refine sB h31 rfl (sE rfl (sE rfl (sE rfl (nl J ?_))))
          refine J29 _ _ (by repeat first | exact .refl | refine .cons rfl ?_) ⟨_, s0, ?s51, rfl⟩
          case s51 => exact congrArg Value.bool (nor_t h30 (or_f h31 rfl))
        ·skip
         refine sB (not_t h30) rfl (WL_n rfl (WL_n rfl (sE rfl (sE rfl (WL_n rfl (WL_n rfl (sE rfl (nl J ?_))))))))
         refine J29 _ _ (by repeat first | exact .refl | refine .cons rfl ?_) ⟨_, s0, ?s51, rfl⟩
         case s51 => exact congrArg Value.bool (nor_f h30)
       ·skip
        rintro g32 M ⟨hg51, rfl⟩
        simp only [setG, hg51]
        clear hg51
        rcases bt (!r27.dec.small.2 || (decide (2305843009213693952 ≤ (Z.smallW r27.dec).1) || decide ((Z.smallW r27.dec).1 ≤ (-2305843009213693952)))) with h33 | h33
        ·skip
         refine W_t h33 rfl (Rs fun K J => sQ (q_buildap zp_31 ar_31 rfl (.nil _)) rfl (sS [ci .i64 0, ci .i64 0, ci .i64 0] ty_31 rfl rfl rfl rfl rfl (.tail _ (.tail _ (.tail _ (.tail _ (.tail _ (.tail _ (.tail _ (.tail _ (.head _))))))))) rfl hb2 (sE rfl (nl J (W_ret (thenK_r (blockK_r (thenK_r (thenK_r (blockK_r (thenK_r (ret2 rfl (.inr rfl) (resP rfl m8 ty_31 rfl) rfl ?_))))))))))))
         exact (by subst hr27; subst hr19; subst hr11; exact congrArg (fun r : (A3 W) × W => (.tuple #[AV [ci .i64 r.1.x.1, ci .i64 r.1.y.1, ci .i64 r.1.z.1], .int .i64 r.2.1] : Value)) (show _ = (F_vector_Primitive a) from bif_f h7 (bif_f h8 (bif_f h17 (bif_f h25 (bif_t h33 rfl))))))
        ·skip
         refine W_f h33 rfl (W_skip (J28 _ _ (Rk fun K J => sE rfl (sE rfl (sQ (qA ar_31 rfl rfl rfl) rfl (sS [ci .i64 ((Z.smallW r27.dec).1)] ty_3 rfl rfl rfl rfl rfl (.tail _ (.tail _ (.tail _ (.head _)))) rfl hb9 (nl J (J27 _ _ (Rk fun K J => sV (.int .i64 3) rfl rfl (sE rfl (nl J (J25 _ _ (Un_s (fun K30 J30 => Rs fun K J => sV (.bool false) rfl rfl (nl J (Sq fun K31 J31 => ?_))))))))))))))))
         refine W_false rfl (W_exit (thenK_x (thenK_x (blockK_hit (J14 _ _ (Rs fun K J => sQ (qL ty_31 rfl m3 rfl) rfl (sS [ci .i64 ((Z.smallW r11.dec).1), ci .i64 ((Z.smallW r19.dec).1), ci .i64 ((Z.smallW r27.dec).1)] ty_31 rfl rfl rfl rfl rfl (.tail _ (.tail _ (.tail _ (.tail _ (.tail _ (.tail _ (.tail _ (.tail _ (.head _))))))))) rfl hb2 (sE rfl (nl J (W_ret (ret2 rfl (.inr rfl) (resP rfl m8 ty_31 rfl) rfl ?_)))))))))))
         exact (by subst hr27; subst hr19; subst hr11; exact congrArg (fun r : (A3 W) × W => (.tuple #[AV [ci .i64 r.1.x.1, ci .i64 r.1.y.1, ci .i64 r.1.z.1], .int .i64 r.2.1] : Value)) (show _ = (F_vector_Primitive a) from bif_f h7 (bif_f h8 (bif_f h17 (bif_f h25 (bif_f h33 rfl))))))
end Go.Proofs.YthbjhbmpfeeilaaGreat
