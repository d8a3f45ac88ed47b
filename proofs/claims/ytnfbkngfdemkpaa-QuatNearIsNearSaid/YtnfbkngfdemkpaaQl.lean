/- Walks: what these functions return. -/
import Derived.Test.YtnfbkngfdemkpaaFa0
import Derived.Test.YtnfbkngfdemkpaaFq
import Derived.Test.YtnfbkngfdemkpaaGa
import Derived.Test.YtnfbkngfdemkpaaQa
import Derived.Test.YtnfbkngfdemkpaaQr
import Derived.Test.YtnfbkngfdemkpaaSf
import Derived.Test.YtnfbkngfdemkpaaWc
namespace Go.Proofs.Ytnfbkngfdemkpaa
open Go.Kn Go.Num
set_option linter.unusedVariables false
set_option linter.unusedSimpArgs false
set_option maxRecDepth 20000
set_option maxHeartbeats 8000000
theorem skewbacklaw10_bound_ret (a : (A4 W)) :
    Ret Try.prog 4 [AV [ci .i64 a.x.1, ci .i64 a.y.1, ci .i64 a.z.1, ci .i64 a.t.1]] (.bool (F_skewbacklaw10_bound a)) := by
 refine ret_of_W (N := 17) Try.func4 rfl rfl (by simp) (fun w0 => ?_)
 simp only [initF, Nat.reduceAdd]
 refine Rs fun K J => WL_r rfl (r_boxp rfl rfl (fun b1 hb1 => sE rfl (nl J ?_)))
 refine W_join [2, 3, 4, 5, 6, 7, 8, 9, 10, 11, 12, 13, 14, 15, 16] (fun g M => (g 2 = .bool ((F_skewbackref10_Bound (⟨a.x, a.y, a.z⟩ : (A3 W))) && (F_skewbackref10_Bound (⟨a.t, (wl 0), (wl 0)⟩ : (A3 W))))) ∧ M = [⟨b1, 22, flat [ci .i64 a.x.1, ci .i64 a.y.1, ci .i64 a.z.1, ci .i64 a.t.1]⟩]) (fun K1 J1 => ?_) ?_
 ·skip
  refine Rk fun K J => sQ (qA ar_22 rfl rfl rfl) rfl (sQ (qC ty_3 rfl m0 rfl) rfl (sQ (qA ar_22 rfl rfl rfl) rfl (sQ (qC ty_3 rfl m0 rfl) rfl (sQ (qA ar_22 rfl rfl rfl) rfl (sQ (qC ty_3 rfl m0 rfl) rfl (sQ (q_buildap zp_42 ar_42 rfl (.cons [ci .i64 a.x.1] [ci .i64 a.x.1, ci .i64 0, ci .i64 0] rfl rfl rfl rfl (.cons [ci .i64 a.y.1] [ci .i64 a.x.1, ci .i64 a.y.1, ci .i64 0] rfl rfl rfl rfl (.cons [ci .i64 a.z.1] [ci .i64 a.x.1, ci .i64 a.y.1, ci .i64 a.z.1] rfl rfl rfl rfl (.nil _))))) rfl (sQ (q_ret en_11 (skewbackref10_Bound_ret (⟨a.x, a.y, a.z⟩ : (A3 W))) rfl) rfl ?_)))))))
  rcases bt (F_skewbackref10_Bound (⟨a.x, a.y, a.z⟩ : (A3 W))) with h3 | h3
  ·skip
   refine sB h3 rfl (sQ (qA ar_22 rfl rfl rfl) rfl (sQ (qC ty_3 rfl m0 rfl) rfl (sQ (q_buildap zp_42 ar_42 rfl (.cons [ci .i64 a.t.1] [ci .i64 a.t.1, ci .i64 0, ci .i64 0] rfl rfl rfl rfl (.cons [ci .i64 0] [ci .i64 a.t.1, ci .i64 0, ci .i64 0] rfl rfl rfl rfl (.cons [ci .i64 0] [ci .i64 a.t.1, ci .i64 0, ci .i64 0] rfl rfl rfl rfl (.nil _))))) rfl (sQ (q_ret en_11 (skewbackref10_Bound_ret (⟨a.t, (wl 0), (wl 0)⟩ : (A3 W))) rfl) rfl ?_))))
   refine sE rfl (sE rfl (nl J ?_))
   refine J1 _ _ (by repeat first | exact .refl | refine .cons rfl ?_) ⟨_, s0, ?s2, rfl⟩
   case s2 => exact congrArg Value.bool (and_t h3 rfl)
  ·skip
   refine sB h3 rfl (WL_n rfl (WL_n rfl (WL_n rfl (WL_n rfl (sE rfl (sE rfl (nl J ?_)))))))
   refine J1 _ _ (by repeat first | exact .refl | refine .cons rfl ?_) ⟨_, s0, ?s2, rfl⟩
   case s2 => exact congrArg Value.bool (and_f h3)
 ·skip
  rintro g4 M ⟨hg2, rfl⟩
  simp only [setG, hg2]
  clear hg2
  refine W_ret (ret1 rfl (.inr rfl) rfl ?_)
  exact (by rfl)

theorem skewbacklaw10_great_ret (a : (A4 W)) (b : W) :
    Ret Try.prog 7 [AV [ci .i64 a.x.1, ci .i64 a.y.1, ci .i64 a.z.1, ci .i64 a.t.1], .int .i64 b.1] (AV [pI ((F_skewbacklaw10_great a b).x), pI ((F_skewbacklaw10_great a b).y), pI ((F_skewbacklaw10_great a b).z), pI ((F_skewbacklaw10_great a b).t)]) := by
 refine ret_of_W (N := 20) Try.func7 rfl rfl (by simp) (fun w0 => ?_)
 simp only [initF, Nat.reduceAdd]
 refine Rs fun K J => WL_r rfl (r_boxp rfl rfl (fun b1 hb1 => sN zp_34 rfl fun b2 hb2 => nl J (Rs fun K J => sN zp_34 rfl fun b3 hb3 => nl J (Sq fun K1 J1 => Rs fun K J => sE rfl (nl J (W_block (W_un 6 (Un_s (fun K2 J2 => Rs fun K J => sV (.bool true) rfl rfl (nl J (Sq fun K3 J3 => W_true rfl (W_skip ?_))))))))))))
 refine J3 _ _ (Sq fun K4 J4 => W_block (Rs fun K J => sE rfl (sE rfl (nl J (Rk fun K J => sE rfl (sE rfl (sQ (qA ar_22 rfl rfl rfl) rfl (sQ (qC ty_3 rfl m2 rfl) rfl (sE rfl (sV (.int .i64 ((W.mul a.x b).1)) rfl rfl (sC (AV [pI (E (Z.of (W.mul a.x b).1))]) en_36 (skewbackref03_Of_ret (W.mul a.x b).1 (W.mul a.x b).2) rfl rfl rfl (sQ (qA ar_34 rfl rfl rfl) rfl (sS [pI (E (Z.of (W.mul a.x b).1))] ty_33 rfl rfl rfl rfl rfl (.head _) rfl hb3 (nl J (J4 _ _ (Rk fun K J => ?_))))))))))))))))
 refine sV (.int .i64 1) rfl rfl (sE rfl (nl J (J2 _ _ (Un_s (fun K5 J5 => Rs fun K J => sV (.bool true) rfl rfl (nl J (Sq fun K6 J6 => W_true rfl (W_skip (J6 _ _ (Sq fun K7 J7 => W_block (Rs fun K J => sE rfl (sE rfl (nl J (Rk fun K J => sE rfl ?_))))))))))))))
 refine sE rfl (sQ (qA ar_22 rfl rfl rfl) rfl (sQ (qC ty_3 rfl m2 rfl) rfl (sE rfl (sV (.int .i64 ((W.mul a.y b).1)) rfl rfl (sC (AV [pI (E (Z.of (W.mul a.y b).1))]) en_36 (skewbackref03_Of_ret (W.mul a.y b).1 (W.mul a.y b).2) rfl rfl rfl (sQ (qA ar_34 rfl rfl rfl) rfl (sS [pI (E (Z.of (W.mul a.y b).1))] ty_33 rfl rfl rfl rfl rfl (.head _) rfl hb3 (nl J (J7 _ _ (Rk fun K J => sV (.int .i64 2) rfl rfl (sE rfl (nl J (J5 _ _ (Un_s (fun K8 J8 => Rs fun K J => sV (.bool true) rfl rfl (nl J (Sq fun K9 J9 => ?_)))))))))))))))))
 refine W_true rfl (W_skip (J9 _ _ (Sq fun K10 J10 => W_block (Rs fun K J => sE rfl (sE rfl (nl J (Rk fun K J => sE rfl (sE rfl (sQ (qA ar_22 rfl rfl rfl) rfl (sQ (qC ty_3 rfl m2 rfl) rfl (sE rfl (sV (.int .i64 ((W.mul a.z b).1)) rfl rfl (sC (AV [pI (E (Z.of (W.mul a.z b).1))]) en_36 (skewbackref03_Of_ret (W.mul a.z b).1 (W.mul a.z b).2) rfl rfl rfl (sQ (qA ar_34 rfl rfl rfl) rfl (sS [pI (E (Z.of (W.mul a.z b).1))] ty_33 rfl rfl rfl rfl rfl (.head _) rfl hb3 (nl J ?_))))))))))))))))
 refine J10 _ _ (Rk fun K J => sV (.int .i64 3) rfl rfl (sE rfl (nl J (J8 _ _ (Un_s (fun K11 J11 => Rs fun K J => sV (.bool true) rfl rfl (nl J (Sq fun K12 J12 => W_true rfl (W_skip (J12 _ _ (Sq fun K13 J13 => W_block (Rs fun K J => sE rfl (sE rfl (nl J ?_))))))))))))))
 refine Rk fun K J => sE rfl (sE rfl (sQ (qA ar_22 rfl rfl rfl) rfl (sQ (qC ty_3 rfl m2 rfl) rfl (sE rfl (sV (.int .i64 ((W.mul a.t b).1)) rfl rfl (sC (AV [pI (E (Z.of (W.mul a.t b).1))]) en_36 (skewbackref03_Of_ret (W.mul a.t b).1 (W.mul a.t b).2) rfl rfl rfl (sQ (qA ar_34 rfl rfl rfl) rfl (sS [pI (E (Z.of (W.mul a.t b).1))] ty_33 rfl rfl rfl rfl rfl (.head _) rfl hb3 (nl J (J13 _ _ (Rk fun K J => sV (.int .i64 4) rfl rfl (sE rfl (nl J (J11 _ _ (Un_s (fun K14 J14 => Rs fun K J => sV (.bool false) rfl rfl ?_))))))))))))))))
 refine nl J (Sq fun K15 J15 => W_false rfl (W_exit (thenK_x (thenK_x (blockK_hit (J1 _ _ (Rs fun K J => sQ (qL ty_34 rfl m0 rfl) rfl (sS [pI (E (Z.of (W.mul a.x b).1)), pI (E (Z.of (W.mul a.y b).1)), pI (E (Z.of (W.mul a.z b).1)), pI (E (Z.of (W.mul a.t b).1))] ty_34 rfl rfl rfl rfl rfl (.tail _ (.head _)) rfl hb2 (nl J (W_ret (ret1 rfl (.inr rfl) (resP rfl m1 ty_34 rfl) ?_)))))))))))
 exact (by rfl)

theorem skewbacklaw10_within_ret (a : (A4 W)) (b : (A4 W)) (c : W) (d : W) :
    Ret Try.prog 9 [AV [ci .i64 a.x.1, ci .i64 a.y.1, ci .i64 a.z.1, ci .i64 a.t.1], AV [ci .i64 b.x.1, ci .i64 b.y.1, ci .i64 b.z.1, ci .i64 b.t.1], .int .i64 c.1, .int .i64 d.1] (.bool (F_skewbacklaw10_within a b c d)) := by
 refine ret_of_W (N := 34) Try.func9 rfl rfl (by simp) (fun w0 => ?_)
 simp only [initF, Nat.reduceAdd]
 refine Rs fun K J => WL_r rfl (r_boxp rfl rfl (fun b1 hb1 => WL_r rfl (r_boxp rfl rfl (fun b2 hb2 => sE rfl (nl J (Sq fun K1 J1 => Rs fun K J => sE rfl (nl J (W_block (W_un 6 (Un_s (fun K2 J2 => Rs fun K J => sV (.bool true) rfl rfl (nl J (Sq fun K3 J3 => W_true rfl (W_skip (J3 _ _ (Sq fun K4 J4 => ?_))))))))))))))))
 refine W_block (Rs fun K J => sE rfl (sE rfl (nl J (ds (sk (sk (s0))) [0,4,8,12,16,20,24,28,32,36,40,44,48] [] mix (by kernel_rfl) (fun K J => pE rfl (pQ rfl (qA ar_22 rfl rfl rfl) (pQ rfl (qC ty_3 rfl m1 rfl) (pV (.int .i64 ((W.mul a.x (wl 64)).1)) rfl rfl ?_))))))))
 refine pE rfl (pQ rfl (qA ar_26 rfl rfl rfl) (pQ rfl (qC ty_3 rfl m0 rfl) (pE rfl (pV (.int .i64 ((W.mul b.x d).1)) rfl rfl (pE rfl (pV (.int .i64 ((W.mul (W.mul b.x d) c).1)) rfl rfl (pV (.int .i64 ((W.sub (W.mul a.x (wl 64)) (W.mul (W.mul b.x d) c)).1)) rfl rfl ?_)))))))
 refine pE rfl (fl J (Rs fun K J => sE rfl (sE rfl (sV (.int .i64 ((W.neg (W.sub (W.mul a.x (wl 64)) (W.mul (W.mul b.x d) c))).1)) rfl rfl ?_))))
 refine sQ (q_as (v' := .int .i64 ((W.max (W.sub (W.mul a.x (wl 64)) (W.mul (W.mul b.x d) c)) (W.neg (W.sub (W.mul a.x (wl 64)) (W.mul (W.mul b.x d) c)))).1)) (q_maxi rfl rfl) (congrArg (Value.int .i64) (W.max_1 (W.sub (W.mul a.x (wl 64)) (W.mul (W.mul b.x d) c)) (W.neg (W.sub (W.mul a.x (wl 64)) (W.mul (W.mul b.x d) c)))))) rfl ?_
 refine sV (.int .i64 ((W.mul (wl 2) (W.max (W.sub (W.mul a.x (wl 64)) (W.mul (W.mul b.x d) c)) (W.neg (W.sub (W.mul a.x (wl 64)) (W.mul (W.mul b.x d) c))))).1)) rfl rfl ?_
 refine sE rfl (sE rfl (nl J ?_))
 rcases bt (decide (c.1 < (W.mul (wl 2) (W.max (W.sub (W.mul a.x (wl 64)) (W.mul (W.mul b.x d) c)) (W.neg (W.sub (W.mul a.x (wl 64)) (W.mul (W.mul b.x d) c))))).1)) with h3 | h3
 ·skip
  refine W_t h3 rfl (Rs fun K J => sE rfl (nl J (W_ret (blockK_r (thenK_r (thenK_r (blockK_r (thenK_r (ret1 rfl (.inr rfl) rfl ?_)))))))))
  exact (by exact congrArg (fun r : Bool => (.bool r : Value)) (show _ = (F_skewbacklaw10_within a b c d) from bif_t h3 rfl))
 ·skip
  refine W_f h3 rfl (W_skip (J4 _ _ (Rk fun K J => sV (.int .i64 1) rfl rfl (sE rfl (nl J (J2 _ _ (Un_s (fun K5 J5 => Rs fun K J => sV (.bool true) rfl rfl (nl J (Sq fun K6 J6 => W_true rfl (W_skip (J6 _ _ (Sq fun K7 J7 => W_block (Rs fun K J => sE rfl ?_))))))))))))))
  refine sE rfl (nl J (ds (sk (sk (s0))) [0,4,8,12,16,20,24,28,32,36,40,44,48] [] mix (by kernel_rfl) (fun K J => pE rfl (pQ rfl (qA ar_22 rfl rfl rfl) (pQ rfl (qC ty_3 rfl m1 rfl) (pV (.int .i64 ((W.mul a.y (wl 64)).1)) rfl rfl ?_))))))
  refine pE rfl (pQ rfl (qA ar_26 rfl rfl rfl) (pQ rfl (qC ty_3 rfl m0 rfl) (pE rfl (pV (.int .i64 ((W.mul b.y d).1)) rfl rfl (pE rfl (pV (.int .i64 ((W.mul (W.mul b.y d) c).1)) rfl rfl (pV (.int .i64 ((W.sub (W.mul a.y (wl 64)) (W.mul (W.mul b.y d) c)).1)) rfl rfl ?_)))))))
  refine pE rfl (fl J (Rs fun K J => sE rfl (sE rfl (sV (.int .i64 ((W.neg (W.sub (W.mul a.y (wl 64)) (W.mul (W.mul b.y d) c))).1)) rfl rfl ?_))))
  refine sQ (q_as (v' := .int .i64 ((W.max (W.sub (W.mul a.y (wl 64)) (W.mul (W.mul b.y d) c)) (W.neg (W.sub (W.mul a.y (wl 64)) (W.mul (W.mul b.y d) c)))).1)) (q_maxi rfl rfl) (congrArg (Value.int .i64) (W.max_1 (W.sub (W.mul a.y (wl 64)) (W.mul (W.mul b.y d) c)) (W.neg (W.sub (W.mul a.y (wl 64)) (W.mul (W.mul b.y d) c)))))) rfl ?_
  refine sV (.int .i64 ((W.mul (wl 2) (W.max (W.sub (W.mul a.y (wl 64)) (W.mul (W.mul b.y d) c)) (W.neg (W.sub (W.mul a.y (wl 64)) (W.mul (W.mul b.y d) c))))).1)) rfl rfl ?_
  refine sE rfl (sE rfl (nl J ?_))
  rcases bt (decide (c.1 < (W.mul (wl 2) (W.max (W.sub (W.mul a.y (wl 64)) (W.mul (W.mul b.y d) c)) (W.neg (W.sub (W.mul a.y (wl 64)) (W.mul (W.mul b.y d) c))))).1)) with h4 | h4
  ·skip
   refine W_t h4 rfl (Rs fun K J => sE rfl (nl J (W_ret (blockK_r (thenK_r (thenK_r (blockK_r (thenK_r (ret1 rfl (.inr rfl) rfl ?_)))))))))
   exact (by exact congrArg (fun r : Bool => (.bool r : Value)) (show _ = (F_skewbacklaw10_within a b c d) from bif_f h3 (bif_t h4 rfl)))
  ·skip
   refine W_f h4 rfl (W_skip (J7 _ _ (Rk fun K J => sV (.int .i64 2) rfl rfl (sE rfl (nl J (J5 _ _ (Un_s (fun K8 J8 => Rs fun K J => sV (.bool true) rfl rfl (nl J (Sq fun K9 J9 => W_true rfl (W_skip (J9 _ _ (Sq fun K10 J10 => W_block (Rs fun K J => sE rfl ?_))))))))))))))
   refine sE rfl (nl J (ds (sk (sk (s0))) [0,4,8,12,16,20,24,28,32,36,40,44,48] [] mix (by kernel_rfl) (fun K J => pE rfl (pQ rfl (qA ar_22 rfl rfl rfl) (pQ rfl (qC ty_3 rfl m1 rfl) (pV (.int .i64 ((W.mul a.z (wl 64)).1)) rfl rfl ?_))))))
   refine pE rfl (pQ rfl (qA ar_26 rfl rfl rfl) (pQ rfl (qC ty_3 rfl m0 rfl) (pE rfl (pV (.int .i64 ((W.mul b.z d).1)) rfl rfl (pE rfl (pV (.int .i64 ((W.mul (W.mul b.z d) c).1)) rfl rfl (pV (.int .i64 ((W.sub (W.mul a.z (wl 64)) (W.mul (W.mul b.z d) c)).1)) rfl rfl ?_)))))))
   refine pE rfl (fl J (Rs fun K J => sE rfl (sE rfl (sV (.int .i64 ((W.neg (W.sub (W.mul a.z (wl 64)) (W.mul (W.mul b.z d) c))).1)) rfl rfl ?_))))
   refine sQ (q_as (v' := .int .i64 ((W.max (W.sub (W.mul a.z (wl 64)) (W.mul (W.mul b.z d) c)) (W.neg (W.sub (W.mul a.z (wl 64)) (W.mul (W.mul b.z d) c)))).1)) (q_maxi rfl rfl) (congrArg (Value.int .i64) (W.max_1 (W.sub (W.mul a.z (wl 64)) (W.mul (W.mul b.z d) c)) (W.neg (W.sub (W.mul a.z (wl 64)) (W.mul (W.mul b.z d) c)))))) rfl ?_
   refine sV (.int .i64 ((W.mul (wl 2) (W.max (W.sub (W.mul a.z (wl 64)) (W.mul (W.mul b.z d) c)) (W.neg (W.sub (W.mul a.z (wl 64)) (W.mul (W.mul b.z d) c))))).1)) rfl rfl ?_
   refine sE rfl (sE rfl (nl J ?_))
   rcases bt (decide (c.1 < (W.mul (wl 2) (W.max (W.sub (W.mul a.z (wl 64)) (W.mul (W.mul b.z d) c)) (W.neg (W.sub (W.mul a.z (wl 64)) (W.mul (W.mul b.z d) c))))).1)) with h5 | h5
   ·skip
    refine W_t h5 rfl (Rs fun K J => sE rfl (nl J (W_ret (blockK_r (thenK_r (thenK_r (blockK_r (thenK_r (ret1 rfl (.inr rfl) rfl ?_)))))))))
    exact (by exact congrArg (fun r : Bool => (.bool r : Value)) (show _ = (F_skewbacklaw10_within a b c d) from bif_f h3 (bif_f h4 (bif_t h5 rfl))))
   ·skip
    refine W_f h5 rfl (W_skip (J10 _ _ (Rk fun K J => sV (.int .i64 3) rfl rfl (sE rfl (nl J (J8 _ _ (Un_s (fun K11 J11 => Rs fun K J => sV (.bool true) rfl rfl (nl J (Sq fun K12 J12 => W_true rfl (W_skip (J12 _ _ (Sq fun K13 J13 => W_block (Rs fun K J => sE rfl ?_))))))))))))))
    refine sE rfl (nl J (ds (sk (sk (s0))) [0,4,8,12,16,20,24,28,32,36,40,44,48] [] mix (by kernel_rfl) (fun K J => pE rfl (pQ rfl (qA ar_22 rfl rfl rfl) (pQ rfl (qC ty_3 rfl m1 rfl) (pV (.int .i64 ((W.mul a.t (wl 64)).1)) rfl rfl ?_))))))
    refine pE rfl (pQ rfl (qA ar_26 rfl rfl rfl) (pQ rfl (qC ty_3 rfl m0 rfl) (pE rfl (pV (.int .i64 ((W.mul b.t d).1)) rfl rfl (pE rfl (pV (.int .i64 ((W.mul (W.mul b.t d) c).1)) rfl rfl (pV (.int .i64 ((W.sub (W.mul a.t (wl 64)) (W.mul (W.mul b.t d) c)).1)) rfl rfl ?_)))))))
    refine pE rfl (fl J (Rs fun K J => sE rfl (sE rfl (sV (.int .i64 ((W.neg (W.sub (W.mul a.t (wl 64)) (W.mul (W.mul b.t d) c))).1)) rfl rfl ?_))))
    refine sQ (q_as (v' := .int .i64 ((W.max (W.sub (W.mul a.t (wl 64)) (W.mul (W.mul b.t d) c)) (W.neg (W.sub (W.mul a.t (wl 64)) (W.mul (W.mul b.t d) c)))).1)) (q_maxi rfl rfl) (congrArg (Value.int .i64) (W.max_1 (W.sub (W.mul a.t (wl 64)) (W.mul (W.mul b.t d) c)) (W.neg (W.sub (W.mul a.t (wl 64)) (W.mul (W.mul b.t d) c)))))) rfl ?_
    refine sV (.int .i64 ((W.mul (wl 2) (W.max (W.sub (W.mul a.t (wl 64)) (W.mul (W.mul b.t d) c)) (W.neg (W.sub (W.mul a.t (wl 64)) (W.mul (W.mul b.t d) c))))).1)) rfl rfl ?_
    refine sE rfl (sE rfl (nl J ?_))
    rcases bt (decide (c.1 < (W.mul (wl 2) (W.max (W.sub (W.mul a.t (wl 64)) (W.mul (W.mul b.t d) c)) (W.neg (W.sub (W.mul a.t (wl 64)) (W.mul (W.mul b.t d) c))))).1)) with h6 | h6
    ·skip
     refine W_t h6 rfl (Rs fun K J => sE rfl (nl J (W_ret (blockK_r (thenK_r (thenK_r (blockK_r (thenK_r (ret1 rfl (.inr rfl) rfl ?_)))))))))
     exact (by exact congrArg (fun r : Bool => (.bool r : Value)) (show _ = (F_skewbacklaw10_within a b c d) from bif_f h3 (bif_f h4 (bif_f h5 (bif_t h6 rfl)))))
    ·skip
     refine W_f h6 rfl (W_skip (J13 _ _ (Rk fun K J => sV (.int .i64 4) rfl rfl (sE rfl (nl J (J11 _ _ (Un_s (fun K14 J14 => Rs fun K J => sV (.bool false) rfl rfl (nl J (Sq fun K15 J15 => W_false rfl (W_exit (thenK_x (thenK_x (blockK_hit (J1 _ _ (Rs fun K J => sE rfl (nl J (W_ret ?_))))))))))))))))))
     refine ret1 rfl (.inr rfl) rfl ?_
     exact (by exact congrArg (fun r : Bool => (.bool r : Value)) (show _ = (F_skewbacklaw10_within a b c d) from bif_f h3 (bif_f h4 (bif_f h5 (bif_f h6 rfl)))))

theorem skewbacklaw10_sanity_ret  :
    Ret Try.prog 5 [] (.bool F_skewbacklaw10_sanity) := by
 refine ret_of_W (N := 131) Try.func5 rfl rfl (by simp) (fun w0 => ?_)
 simp only [initF, Nat.reduceAdd]
 obtain ⟨q0, hq0⟩ := nm ((F_quat_Primitive (⟨(wl (-2)), (wl 0), (wl 4), (wl 6)⟩ : (A4 W))).1 : (A4 W))
 obtain ⟨q1, hq1⟩ := nm ((F_quat_Primitive (⟨(wl (-2)), (wl 0), (wl 4), (wl 6)⟩ : (A4 W))).2 : W)
 obtain ⟨q2, hq2⟩ := nm ((F_quat_Primitive (⟨(wl 0), (wl 0), (wl 0), (wl 0)⟩ : (A4 W))).1 : (A4 W))
 obtain ⟨q3, hq3⟩ := nm ((F_quat_Primitive (⟨(wl 0), (wl 0), (wl 0), (wl 0)⟩ : (A4 W))).2 : W)
 obtain ⟨q4, hq4⟩ := nm ((F_quat_Primitive (⟨(wl 1), (wl 65), (wl 0), (wl 0)⟩ : (A4 W))).1 : (A4 W))
 obtain ⟨q5, hq5⟩ := nm ((F_quat_Primitive (⟨(wl 1), (wl 65), (wl 0), (wl 0)⟩ : (A4 W))).2 : W)
 obtain ⟨q6, hq6⟩ := nm ((F_quat_Rotate (⟨(wl 1), (wl 1), (wl 1), (wl 1)⟩ : (A4 W)) (⟨(wl 1), (wl 2), (wl 3)⟩ : (A3 W))) : (A3 Rt))
 obtain ⟨q7, hq7⟩ := nm ((E (Z.of 1000)) : I)
 obtain ⟨q8, hq8⟩ := nm ((E (Z.of 3)) : I)
 obtain ⟨q9, hq9⟩ := nm ((E (Z.of (-500))) : I)
 obtain ⟨q10, hq10⟩ := nm ((E (Z.of 8)) : I)
 obtain ⟨q11, hq11⟩ := nm ((F_quat_Near (⟨q7, q8, q9, q10⟩ : (A4 I))).1 : (A4 W))
 obtain ⟨q12, hq12⟩ := nm ((F_quat_Near (⟨q7, q8, q9, q10⟩ : (A4 I))).2 : W)
 obtain ⟨q13, hq13⟩ := nm ((F_quat_Raw (⟨(wl 1), (wl 1), (wl 0), (wl 0)⟩ : (A4 W)) (⟨(wl 1), (wl 0), (wl 1), (wl 0)⟩ : (A4 W))) : (A4 W))
 obtain ⟨q14, hq14⟩ := nm ((F_quat_Scale (⟨(wl 1), (wl 1), (wl 1), (wl 1)⟩ : (A4 W))) : W)
 obtain ⟨q15, hq15⟩ := nm ((F_quat_Matrix (⟨(wl 1), (wl 1), (wl 1), (wl 1)⟩ : (A4 W))) : (A9 W))
 obtain ⟨q16, hq16⟩ := nm ((F_quat_Turn (⟨(wl 1), (wl 1), (wl 1), (wl 1)⟩ : (A4 W)) (⟨(wl 1), (wl 2), (wl 3)⟩ : (A3 W))) : (A3 W))
 obtain ⟨q17, hq17⟩ := nm ((F_ratio_Of (wl 3)) : Rt)
 obtain ⟨q18, hq18⟩ := nm ((F_ratio_Of (wl 1)) : Rt)
 obtain ⟨q19, hq19⟩ := nm ((F_ratio_Of (wl 2)) : Rt)
 obtain ⟨q20, hq20⟩ := nm ((F_quat_Conj (⟨(wl 0), (wl 1), (wl 2), (wl 0)⟩ : (A4 W))) : (A4 W))
 obtain ⟨q21, hq21⟩ := nm ((F_quat_Cosine (⟨(wl 1), (wl 0), (wl 0), (wl 0)⟩ : (A4 W)) (⟨(wl 1), (wl 1), (wl 0), (wl 0)⟩ : (A4 W))) : Rt)
 obtain ⟨q22, hq22⟩ := nm ((F_ratio_Frac (wl 1) (wl 2)) : Rt)
 obtain ⟨q23, hq23⟩ := nm (F_quat_Identity : (A4 W))
 obtain ⟨q24, hq24⟩ := nm ((F_quat_Step q23 (⟨(wl 2048), (wl 0), (wl 0)⟩ : (A3 W)) (wl 0)) : (A4 W))
 obtain ⟨q25, hq25⟩ := nm ((F_quat_Valid (⟨(wl 1), (wl 1), (wl 1), (wl 1)⟩ : (A4 W))) : Bool)
 obtain ⟨q26, hq26⟩ := nm ((F_quat_Valid (⟨(wl 2), (wl 2), (wl 0), (wl 0)⟩ : (A4 W))) : Bool)
 refine Rs fun K J => sE rfl (nl J (Rs fun K J => sQ (q_buildap zp_22 ar_22 rfl (.cons [ci .i64 (-2)] [ci .i64 (-2), ci .i64 0, ci .i64 0, ci .i64 0] rfl rfl rfl rfl (.cons [ci .i64 0] [ci .i64 (-2), ci .i64 0, ci .i64 0, ci .i64 0] rfl rfl rfl rfl (.cons [ci .i64 4] [ci .i64 (-2), ci .i64 0, ci .i64 4, ci .i64 0] rfl rfl rfl rfl (.cons [ci .i64 6] [ci .i64 (-2), ci .i64 0, ci .i64 4, ci .i64 6] rfl rfl rfl rfl (.nil _)))))) rfl (sC (.tuple #[AV [ci .i64 q0.x.1, ci .i64 q0.y.1, ci .i64 q0.z.1, ci .i64 q0.t.1], .int .i64 q1.1]) en_10 (quat_Primitive_ret (⟨(wl (-2)), (wl 0), (wl 4), (wl 6)⟩ : (A4 W))) rfl rfl (by rw [hq0, hq1]; first | done | rfl) ?_)))
 refine sE rfl (sE rfl (sE rfl (sN zp_26 rfl fun b1 hb1 => sS [ci .i64 q0.x.1, ci .i64 q0.y.1, ci .i64 q0.z.1, ci .i64 q0.t.1] ty_26 rfl rfl rfl rfl rfl (.head _) rfl hb1 (sE rfl (nl J (Rs fun K J => sQ (q_buildap zp_22 ar_22 rfl (.nil _)) rfl (sC (.tuple #[AV [ci .i64 q2.x.1, ci .i64 q2.y.1, ci .i64 q2.z.1, ci .i64 q2.t.1], .int .i64 q3.1]) en_10 (quat_Primitive_ret (⟨(wl 0), (wl 0), (wl 0), (wl 0)⟩ : (A4 W))) rfl rfl (by rw [hq2, hq3]; first | done | rfl) ?_)))))))
 refine sE rfl (sE rfl (sE rfl (sN zp_26 rfl fun b2 hb2 => sS [ci .i64 q2.x.1, ci .i64 q2.y.1, ci .i64 q2.z.1, ci .i64 q2.t.1] ty_26 rfl rfl rfl rfl rfl (.head _) rfl hb2 (sE rfl (nl J (Rs fun K J => sQ (q_buildap zp_22 ar_22 rfl (.cons [ci .i64 1] [ci .i64 1, ci .i64 0, ci .i64 0, ci .i64 0] rfl rfl rfl rfl (.cons [ci .i64 65] [ci .i64 1, ci .i64 65, ci .i64 0, ci .i64 0] rfl rfl rfl rfl (.cons [ci .i64 0] [ci .i64 1, ci .i64 65, ci .i64 0, ci .i64 0] rfl rfl rfl rfl (.cons [ci .i64 0] [ci .i64 1, ci .i64 65, ci .i64 0, ci .i64 0] rfl rfl rfl rfl (.nil _)))))) rfl (sC (.tuple #[AV [ci .i64 q4.x.1, ci .i64 q4.y.1, ci .i64 q4.z.1, ci .i64 q4.t.1], .int .i64 q5.1]) en_10 (quat_Primitive_ret (⟨(wl 1), (wl 65), (wl 0), (wl 0)⟩ : (A4 W))) rfl rfl (by rw [hq4, hq5]; first | done | rfl) ?_)))))))
 refine sE rfl (sE rfl (sE rfl (sN zp_26 rfl fun b3 hb3 => sS [ci .i64 q4.x.1, ci .i64 q4.y.1, ci .i64 q4.z.1, ci .i64 q4.t.1] ty_26 rfl rfl rfl rfl rfl (.head _) rfl hb3 (sE rfl (nl J (Rs fun K J => sQ (q_buildap zp_26 ar_26 rfl (.cons [ci .i64 1] [ci .i64 1, ci .i64 0, ci .i64 0, ci .i64 0] rfl rfl rfl rfl (.cons [ci .i64 1] [ci .i64 1, ci .i64 1, ci .i64 0, ci .i64 0] rfl rfl rfl rfl (.cons [ci .i64 1] [ci .i64 1, ci .i64 1, ci .i64 1, ci .i64 0] rfl rfl rfl rfl (.cons [ci .i64 1] [ci .i64 1, ci .i64 1, ci .i64 1, ci .i64 1] rfl rfl rfl rfl (.nil _)))))) rfl (sN zp_26 rfl fun b4 hb4 => sS [ci .i64 1, ci .i64 1, ci .i64 1, ci .i64 1] ty_26 rfl rfl rfl rfl rfl (.head _) rfl hb4 (nl J (Rs fun K J => sQ (qL ty_26 rfl m0 rfl) rfl (sQ (q_buildap zp_42 ar_42 rfl (.cons [ci .i64 1] [ci .i64 1, ci .i64 0, ci .i64 0] rfl rfl rfl rfl (.cons [ci .i64 2] [ci .i64 1, ci .i64 2, ci .i64 0] rfl rfl rfl rfl (.cons [ci .i64 3] [ci .i64 1, ci .i64 2, ci .i64 3] rfl rfl rfl rfl (.nil _))))) rfl (sC (AV [pI q6.x.n, pI q6.x.d, pI q6.y.n, pI q6.y.d, pI q6.z.n, pI q6.z.d]) en_12 (quat_Rotate_ret (⟨(wl 1), (wl 1), (wl 1), (wl 1)⟩ : (A4 W)) (⟨(wl 1), (wl 2), (wl 3)⟩ : (A3 W))) rfl rfl (by rw [hq6]; first | done | rfl) ?_)))))))))))
 refine sN zp_46 rfl fun b5 hb5 => sS [pI q6.x.n, pI q6.x.d, pI q6.y.n, pI q6.y.d, pI q6.z.n, pI q6.z.d] ty_46 rfl rfl rfl rfl rfl (.head _) rfl hb5 (nl J (Rs fun K J => sC (AV [pI q7]) en_13 (whole_Of_ret (wl 1000).1 (wl 1000).2) rfl rfl (by rw [hq7]; first | done | rfl) ?_))
 refine sC (AV [pI q8]) en_13 (whole_Of_ret (wl 3).1 (wl 3).2) rfl rfl (by rw [hq8]; first | done | rfl) ?_
 refine sC (AV [pI q9]) en_13 (whole_Of_ret (wl (-500)).1 (wl (-500)).2) rfl rfl (by rw [hq9]; first | done | rfl) ?_
 refine sC (AV [pI q10]) en_13 (whole_Of_ret (wl 8).1 (wl 8).2) rfl rfl (by rw [hq10]; first | done | rfl) ?_
 refine sQ (q_buildap zp_34 ar_34 rfl (.cons [pI q7] [pI q7, pI I0, pI I0, pI I0] rfl rfl rfl rfl (.cons [pI q8] [pI q7, pI q8, pI I0, pI I0] rfl rfl rfl rfl (.cons [pI q9] [pI q7, pI q8, pI q9, pI I0] rfl rfl rfl rfl (.cons [pI q10] [pI q7, pI q8, pI q9, pI q10] rfl rfl rfl rfl (.nil _)))))) rfl (sC (.tuple #[AV [ci .i64 q11.x.1, ci .i64 q11.y.1, ci .i64 q11.z.1, ci .i64 q11.t.1], .int .i64 q12.1]) en_6 (quat_Near_ret (⟨q7, q8, q9, q10⟩ : (A4 I))) rfl rfl (by rw [hq11, hq12]; first | done | rfl) (sE rfl (sE rfl (sE rfl (sN zp_26 rfl fun b6 hb6 => sS [ci .i64 q11.x.1, ci .i64 q11.y.1, ci .i64 q11.z.1, ci .i64 q11.t.1] ty_26 rfl rfl rfl rfl rfl (.head _) rfl hb6 (sE rfl (nl J ?_)))))))
 refine W_join [11, 42, 43, 44, 45, 46, 47, 48, 49, 50, 51, 52, 53, 54, 55, 56, 57, 58, 59, 60, 61, 62, 63] (fun g M => (g 11 = .bool ((decide (q0.x.1 = 1) && (decide (q0.y.1 = 0) && (decide (q0.z.1 = (-2)) && decide (q0.t.1 = (-3))))) && ((q1.1 == 0) && ((q3.1 == 1) && ((q5.1 == 2) && (decide (q13.x.1 = 1) && (decide (q13.y.1 = 1) && (decide (q13.z.1 = 1) && decide (q13.t.1 = 1))))))))) ∧ M = [⟨b6, 26, flat [ci .i64 q11.x.1, ci .i64 q11.y.1, ci .i64 q11.z.1, ci .i64 q11.t.1]⟩, ⟨b5, 46, flat [pI q6.x.n, pI q6.x.d, pI q6.y.n, pI q6.y.d, pI q6.z.n, pI q6.z.d]⟩, ⟨b4, 26, flat [ci .i64 1, ci .i64 1, ci .i64 1, ci .i64 1]⟩, ⟨b3, 26, flat [ci .i64 q4.x.1, ci .i64 q4.y.1, ci .i64 q4.z.1, ci .i64 q4.t.1]⟩, ⟨b2, 26, flat [ci .i64 q2.x.1, ci .i64 q2.y.1, ci .i64 q2.z.1, ci .i64 q2.t.1]⟩, ⟨b1, 26, flat [ci .i64 q0.x.1, ci .i64 q0.y.1, ci .i64 q0.z.1, ci .i64 q0.t.1]⟩]) (fun K1 J1 => ?_) ?_
 ·skip
  refine Rk fun K J => sQ (qL ty_26 rfl m5 rfl) rfl (sQ (q_buildap zp_26 ar_26 rfl (.cons [ci .i64 1] [ci .i64 1, ci .i64 0, ci .i64 0, ci .i64 0] rfl rfl rfl rfl (.cons [ci .i64 0] [ci .i64 1, ci .i64 0, ci .i64 0, ci .i64 0] rfl rfl rfl rfl (.cons [ci .i64 (-2)] [ci .i64 1, ci .i64 0, ci .i64 (-2), ci .i64 0] rfl rfl rfl rfl (.cons [ci .i64 (-3)] [ci .i64 1, ci .i64 0, ci .i64 (-2), ci .i64 (-3)] rfl rfl rfl rfl (.nil _)))))) rfl (sQ (q_eqla (r := (decide (q0.x.1 = 1) && (decide (q0.y.1 = 0) && (decide (q0.z.1 = (-2)) && decide (q0.t.1 = (-3)))))) rfl rfl (eqOk_of 8 (by decide) eg_26 lw_26 (lv_cons lv_ci (lv_cons lv_ci (lv_cons lv_ci (lv_one lv_ci)))) (lv_cons lv_ci (lv_cons lv_ci (lv_cons lv_ci (lv_one lv_ci)))) (eqP_cons rfl eq_ci (eqP_cons rfl eq_ci (eqP_cons rfl eq_ci (eqP_one eq_ci)))))) rfl ?_))
  rcases bt (decide (q0.x.1 = 1) && (decide (q0.y.1 = 0) && (decide (q0.z.1 = (-2)) && decide (q0.t.1 = (-3))))) with h11 | h11
  ·skip
   refine sB h11 rfl (sE rfl (sE rfl (sE rfl ?_)))
   rcases bt (q1.1 == 0) with h12 | h12
   ·skip
    refine sB h12 rfl (sE rfl (sE rfl (sE rfl ?_)))
    rcases bt (q3.1 == 1) with h13 | h13
    ·skip
     refine sB h13 rfl (sE rfl (sE rfl (sE rfl ?_)))
     rcases bt (q5.1 == 2) with h14 | h14
     ·skip
      refine sB h14 rfl (sQ (q_buildap zp_26 ar_26 rfl (.cons [ci .i64 1] [ci .i64 1, ci .i64 0, ci .i64 0, ci .i64 0] rfl rfl rfl rfl (.cons [ci .i64 1] [ci .i64 1, ci .i64 1, ci .i64 0, ci .i64 0] rfl rfl rfl rfl (.cons [ci .i64 0] [ci .i64 1, ci .i64 1, ci .i64 0, ci .i64 0] rfl rfl rfl rfl (.cons [ci .i64 0] [ci .i64 1, ci .i64 1, ci .i64 0, ci .i64 0] rfl rfl rfl rfl (.nil _)))))) rfl (sQ (q_buildap zp_26 ar_26 rfl (.cons [ci .i64 1] [ci .i64 1, ci .i64 0, ci .i64 0, ci .i64 0] rfl rfl rfl rfl (.cons [ci .i64 0] [ci .i64 1, ci .i64 0, ci .i64 0, ci .i64 0] rfl rfl rfl rfl (.cons [ci .i64 1] [ci .i64 1, ci .i64 0, ci .i64 1, ci .i64 0] rfl rfl rfl rfl (.cons [ci .i64 0] [ci .i64 1, ci .i64 0, ci .i64 1, ci .i64 0] rfl rfl rfl rfl (.nil _)))))) rfl (sC (AV [ci .i64 q13.x.1, ci .i64 q13.y.1, ci .i64 q13.z.1, ci .i64 q13.t.1]) en_14 (quat_Raw_ret (⟨(wl 1), (wl 1), (wl 0), (wl 0)⟩ : (A4 W)) (⟨(wl 1), (wl 0), (wl 1), (wl 0)⟩ : (A4 W))) rfl rfl (by rw [hq13]; first | done | rfl) ?_)))
      refine sQ (q_buildap zp_22 ar_22 rfl (.cons [ci .i64 1] [ci .i64 1, ci .i64 0, ci .i64 0, ci .i64 0] rfl rfl rfl rfl (.cons [ci .i64 1] [ci .i64 1, ci .i64 1, ci .i64 0, ci .i64 0] rfl rfl rfl rfl (.cons [ci .i64 1] [ci .i64 1, ci .i64 1, ci .i64 1, ci .i64 0] rfl rfl rfl rfl (.cons [ci .i64 1] [ci .i64 1, ci .i64 1, ci .i64 1, ci .i64 1] rfl rfl rfl rfl (.nil _)))))) rfl (sQ (q_eqla (r := (decide (q13.x.1 = 1) && (decide (q13.y.1 = 1) && (decide (q13.z.1 = 1) && decide (q13.t.1 = 1))))) rfl rfl (eqOk_of 8 (by decide) eg_22 lw_22 (lv_cons lv_ci (lv_cons lv_ci (lv_cons lv_ci (lv_one lv_ci)))) (lv_cons lv_ci (lv_cons lv_ci (lv_cons lv_ci (lv_one lv_ci)))) (eqP_cons rfl eq_ci (eqP_cons rfl eq_ci (eqP_cons rfl eq_ci (eqP_one eq_ci)))))) rfl (sE rfl (sE rfl (nl J ?_))))
      refine J1 _ _ (by repeat first | exact .refl | refine .cons rfl ?_) ⟨_, s0, ?s11, rfl⟩
      case s11 => exact congrArg Value.bool (and_t h11 (and_t h12 (and_t h13 (and_t h14 rfl))))
     ·skip
      refine sB h14 rfl (WL_n rfl (WL_n rfl (WL_n rfl (WL_n rfl (WL_n rfl (sE rfl (sE rfl (nl J ?_))))))))
      refine J1 _ _ (by repeat first | exact .refl | refine .cons rfl ?_) ⟨_, s0, ?s11, rfl⟩
      case s11 => exact congrArg Value.bool (and_t h11 (and_t h12 (and_t h13 (and_f h14))))
    ·skip
     refine sB h13 rfl (WL_n rfl (WL_n rfl (sE rfl (sE rfl (WL_n rfl (WL_n rfl (WL_n rfl (WL_n rfl (WL_n rfl (sE rfl (sE rfl (nl J ?_))))))))))))
     refine J1 _ _ (by repeat first | exact .refl | refine .cons rfl ?_) ⟨_, s0, ?s11, rfl⟩
     case s11 => exact congrArg Value.bool (and_t h11 (and_t h12 (and_f h13)))
   ·skip
    refine sB h12 rfl (WL_n rfl (WL_n rfl (sE rfl (sE rfl (WL_n rfl (WL_n rfl (sE rfl (sE rfl (WL_n rfl (WL_n rfl (WL_n rfl (WL_n rfl (WL_n rfl (sE rfl (sE rfl (nl J ?_))))))))))))))))
    refine J1 _ _ (by repeat first | exact .refl | refine .cons rfl ?_) ⟨_, s0, ?s11, rfl⟩
    case s11 => exact congrArg Value.bool (and_t h11 (and_f h12))
  ·skip
   refine sB h11 rfl (WL_n rfl (WL_n rfl (sE rfl (sE rfl (WL_n rfl (WL_n rfl (sE rfl (sE rfl (WL_n rfl (WL_n rfl (sE rfl (sE rfl (WL_n rfl (WL_n rfl (WL_n rfl (WL_n rfl (WL_n rfl (sE rfl (sE rfl ?_)))))))))))))))))))
   refine nl J ?_
   refine J1 _ _ (by repeat first | exact .refl | refine .cons rfl ?_) ⟨_, s0, ?s11, rfl⟩
   case s11 => exact congrArg Value.bool (and_f h11)
 ·skip
  rintro g15 M ⟨hg11, rfl⟩
  simp only [setG, hg11]
  clear hg11
  refine W_join [12, 64, 65, 66, 67, 68, 69, 70, 71, 72, 73, 74, 75, 76, 77, 78, 79, 80, 81, 82, 83, 84, 85, 86, 87] (fun g M => (g 12 = .bool ((q14.1 == 4) && ((decide (q15.x0.1 = 0) && (decide (q15.x1.1 = 0) && (decide (q15.x2.1 = 4) && (decide (q15.x3.1 = 4) && (decide (q15.x4.1 = 0) && (decide (q15.x5.1 = 0) && (decide (q15.x6.1 = 0) && (decide (q15.x7.1 = 4) && decide (q15.x8.1 = 0))))))))) && ((decide (q16.x.1 = 12) && (decide (q16.y.1 = 4) && decide (q16.z.1 = 8))) && (decide (q6.x.n = q17.n) && (decide (q6.x.d = q17.d) && (decide (q6.y.n = q18.n) && (decide (q6.y.d = q18.d) && (decide (q6.z.n = q19.n) && decide (q6.z.d = q19.d)))))))))) ∧ M = [⟨b6, 26, flat [ci .i64 q11.x.1, ci .i64 q11.y.1, ci .i64 q11.z.1, ci .i64 q11.t.1]⟩, ⟨b5, 46, flat [pI q6.x.n, pI q6.x.d, pI q6.y.n, pI q6.y.d, pI q6.z.n, pI q6.z.d]⟩, ⟨b4, 26, flat [ci .i64 1, ci .i64 1, ci .i64 1, ci .i64 1]⟩, ⟨b3, 26, flat [ci .i64 q4.x.1, ci .i64 q4.y.1, ci .i64 q4.z.1, ci .i64 q4.t.1]⟩, ⟨b2, 26, flat [ci .i64 q2.x.1, ci .i64 q2.y.1, ci .i64 q2.z.1, ci .i64 q2.t.1]⟩, ⟨b1, 26, flat [ci .i64 q0.x.1, ci .i64 q0.y.1, ci .i64 q0.z.1, ci .i64 q0.t.1]⟩]) (fun K2 J2 => ?_) ?_
  ·skip
   refine dr (sk (sk (sk (sk (sk (sk (s0))))))) [0,4,8,12,16,20,24,28,32,36,40,44,48,52,56,60,64,68,72,76,80,84,88,92,96] [] mix (by kernel_rfl) (fun K J => pQ rfl (qL ty_26 rfl m2 rfl) (pC (.int .i64 q14.1) en_15 (quat_Scale_ret (⟨(wl 1), (wl 1), (wl 1), (wl 1)⟩ : (A4 W))) rfl rfl (by rw [hq14]; first | done | rfl) ?_))
   refine pE rfl ?_
   rcases bt (q14.1 == 4) with h19 | h19
   ·skip
    refine pB h19 rfl (pQ rfl (qL ty_26 rfl m2 rfl) (pC (AV [ci .i64 q15.x0.1, ci .i64 q15.x1.1, ci .i64 q15.x2.1, ci .i64 q15.x3.1, ci .i64 q15.x4.1, ci .i64 q15.x5.1, ci .i64 q15.x6.1, ci .i64 q15.x7.1, ci .i64 q15.x8.1]) en_16 (quat_Matrix_ret (⟨(wl 1), (wl 1), (wl 1), (wl 1)⟩ : (A4 W))) rfl rfl (by rw [hq15]; first | done | rfl) ?_))
    refine pQ rfl (q_buildap zp_51 ar_51 rfl (.cons [ci .i64 0] [ci .i64 0, ci .i64 0, ci .i64 0, ci .i64 0, ci .i64 0, ci .i64 0, ci .i64 0, ci .i64 0, ci .i64 0] rfl rfl rfl rfl (.cons [ci .i64 0] [ci .i64 0, ci .i64 0, ci .i64 0, ci .i64 0, ci .i64 0, ci .i64 0, ci .i64 0, ci .i64 0, ci .i64 0] rfl rfl rfl rfl (.cons [ci .i64 4] [ci .i64 0, ci .i64 0, ci .i64 4, ci .i64 0, ci .i64 0, ci .i64 0, ci .i64 0, ci .i64 0, ci .i64 0] rfl rfl rfl rfl (.cons [ci .i64 4] [ci .i64 0, ci .i64 0, ci .i64 4, ci .i64 4, ci .i64 0, ci .i64 0, ci .i64 0, ci .i64 0, ci .i64 0] rfl rfl rfl rfl (.cons [ci .i64 0] [ci .i64 0, ci .i64 0, ci .i64 4, ci .i64 4, ci .i64 0, ci .i64 0, ci .i64 0, ci .i64 0, ci .i64 0] rfl rfl rfl rfl (.cons [ci .i64 0] [ci .i64 0, ci .i64 0, ci .i64 4, ci .i64 4, ci .i64 0, ci .i64 0, ci .i64 0, ci .i64 0, ci .i64 0] rfl rfl rfl rfl (.cons [ci .i64 0] [ci .i64 0, ci .i64 0, ci .i64 4, ci .i64 4, ci .i64 0, ci .i64 0, ci .i64 0, ci .i64 0, ci .i64 0] rfl rfl rfl rfl (.cons [ci .i64 4] [ci .i64 0, ci .i64 0, ci .i64 4, ci .i64 4, ci .i64 0, ci .i64 0, ci .i64 0, ci .i64 4, ci .i64 0] rfl rfl rfl rfl (.cons [ci .i64 0] [ci .i64 0, ci .i64 0, ci .i64 4, ci .i64 4, ci .i64 0, ci .i64 0, ci .i64 0, ci .i64 4, ci .i64 0] rfl rfl rfl rfl (.nil _))))))))))) (pQ rfl (q_eqla (r := (decide (q15.x0.1 = 0) && (decide (q15.x1.1 = 0) && (decide (q15.x2.1 = 4) && (decide (q15.x3.1 = 4) && (decide (q15.x4.1 = 0) && (decide (q15.x5.1 = 0) && (decide (q15.x6.1 = 0) && (decide (q15.x7.1 = 4) && decide (q15.x8.1 = 0)))))))))) rfl rfl (eqOk_of 8 (by decide) eg_51 lw_51 (lv_cons lv_ci (lv_cons lv_ci (lv_cons lv_ci (lv_cons lv_ci (lv_cons lv_ci (lv_cons lv_ci (lv_cons lv_ci (lv_cons lv_ci (lv_one lv_ci))))))))) (lv_cons lv_ci (lv_cons lv_ci (lv_cons lv_ci (lv_cons lv_ci (lv_cons lv_ci (lv_cons lv_ci (lv_cons lv_ci (lv_cons lv_ci (lv_one lv_ci))))))))) (eqP_cons rfl eq_ci (eqP_cons rfl eq_ci (eqP_cons rfl eq_ci (eqP_cons rfl eq_ci (eqP_cons rfl eq_ci (eqP_cons rfl eq_ci (eqP_cons rfl eq_ci (eqP_cons rfl eq_ci (eqP_one eq_ci))))))))))) (pE rfl ?_))
    rcases bt (decide (q15.x0.1 = 0) && (decide (q15.x1.1 = 0) && (decide (q15.x2.1 = 4) && (decide (q15.x3.1 = 4) && (decide (q15.x4.1 = 0) && (decide (q15.x5.1 = 0) && (decide (q15.x6.1 = 0) && (decide (q15.x7.1 = 4) && decide (q15.x8.1 = 0))))))))) with h20 | h20
    ·skip
     refine pB h20 rfl (pQ rfl (qL ty_26 rfl m2 rfl) (pQ rfl (q_buildap zp_42 ar_42 rfl (.cons [ci .i64 1] [ci .i64 1, ci .i64 0, ci .i64 0] rfl rfl rfl rfl (.cons [ci .i64 2] [ci .i64 1, ci .i64 2, ci .i64 0] rfl rfl rfl rfl (.cons [ci .i64 3] [ci .i64 1, ci .i64 2, ci .i64 3] rfl rfl rfl rfl (.nil _))))) (pC (AV [ci .i64 q16.x.1, ci .i64 q16.y.1, ci .i64 q16.z.1]) en_17 (quat_Turn_ret (⟨(wl 1), (wl 1), (wl 1), (wl 1)⟩ : (A4 W)) (⟨(wl 1), (wl 2), (wl 3)⟩ : (A3 W))) rfl rfl (by rw [hq16]; first | done | rfl) ?_)))
     refine pQ rfl (q_buildap zp_42 ar_42 rfl (.cons [ci .i64 12] [ci .i64 12, ci .i64 0, ci .i64 0] rfl rfl rfl rfl (.cons [ci .i64 4] [ci .i64 12, ci .i64 4, ci .i64 0] rfl rfl rfl rfl (.cons [ci .i64 8] [ci .i64 12, ci .i64 4, ci .i64 8] rfl rfl rfl rfl (.nil _))))) (pQ rfl (q_eqla (r := (decide (q16.x.1 = 12) && (decide (q16.y.1 = 4) && decide (q16.z.1 = 8)))) rfl rfl (eqOk_of 8 (by decide) eg_42 lw_42 (lv_cons lv_ci (lv_cons lv_ci (lv_one lv_ci))) (lv_cons lv_ci (lv_cons lv_ci (lv_one lv_ci))) (eqP_cons rfl eq_ci (eqP_cons rfl eq_ci (eqP_one eq_ci))))) (pE rfl ?_))
     rcases bt (decide (q16.x.1 = 12) && (decide (q16.y.1 = 4) && decide (q16.z.1 = 8))) with h21 | h21
     ·skip
      refine pB h21 rfl (pQ rfl (qL ty_46 rfl m1 rfl) (pC (AV [pI q17.n, pI q17.d]) en_18 (ratio_Of_ret (wl 3)) rfl rfl (by rw [hq17]; first | done | rfl) ?_))
      refine pC (AV [pI q18.n, pI q18.d]) en_18 (ratio_Of_ret (wl 1)) rfl rfl (by rw [hq18]; first | done | rfl) ?_
      refine pC (AV [pI q19.n, pI q19.d]) en_18 (ratio_Of_ret (wl 2)) rfl rfl (by rw [hq19]; first | done | rfl) ?_
      refine pQ rfl (q_buildap zp_46 ar_46 rfl (.cons [pI q17.n, pI q17.d] [pI q17.n, pI q17.d, pI I0, pI I0, pI I0, pI I0] rfl rfl rfl rfl (.cons [pI q18.n, pI q18.d] [pI q17.n, pI q17.d, pI q18.n, pI q18.d, pI I0, pI I0] rfl rfl rfl rfl (.cons [pI q19.n, pI q19.d] [pI q17.n, pI q17.d, pI q18.n, pI q18.d, pI q19.n, pI q19.d] rfl rfl rfl rfl (.nil _))))) (pQ rfl (q_eqla (r := (decide (q6.x.n = q17.n) && (decide (q6.x.d = q17.d) && (decide (q6.y.n = q18.n) && (decide (q6.y.d = q18.d) && (decide (q6.z.n = q19.n) && decide (q6.z.d = q19.d))))))) rfl rfl (eqOk_of 8 (by decide) eg_46 lw_46 (lv_cons lv_pI (lv_cons lv_pI (lv_cons lv_pI (lv_cons lv_pI (lv_cons lv_pI (lv_one lv_pI)))))) (lv_cons lv_pI (lv_cons lv_pI (lv_cons lv_pI (lv_cons lv_pI (lv_cons lv_pI (lv_one lv_pI)))))) (eqP_cons rfl eq_pI (eqP_cons rfl eq_pI (eqP_cons rfl eq_pI (eqP_cons rfl eq_pI (eqP_cons rfl eq_pI (eqP_one eq_pI)))))))) (pE rfl (pE rfl (fl J ?_))))
      refine J2 _ _ (by repeat first | exact .refl | refine .cons rfl ?_) ⟨_, s0, ?s12, rfl⟩
      case s12 => exact congrArg Value.bool (and_t h19 (and_t h20 (and_t h21 rfl)))
     ·skip
      refine pB h21 rfl (PL_n rfl rfl (PL_n rfl rfl (PL_n rfl rfl (PL_n rfl rfl (PL_n rfl rfl (PL_n rfl rfl (pE rfl (pE rfl (fl J ?_)))))))))
      refine J2 _ _ (by repeat first | exact .refl | refine .cons rfl ?_) ⟨_, s0, ?s12, rfl⟩
      case s12 => exact congrArg Value.bool (and_t h19 (and_t h20 (and_f h21)))
    ·skip
     refine pB h20 rfl (PL_n rfl rfl (PL_n rfl rfl (PL_n rfl rfl (PL_n rfl rfl (PL_n rfl rfl (pE rfl (pE rfl (PL_n rfl rfl (PL_n rfl rfl (PL_n rfl rfl (PL_n rfl rfl (PL_n rfl rfl (PL_n rfl rfl (pE rfl (pE rfl (fl J ?_))))))))))))))))
     refine J2 _ _ (by repeat first | exact .refl | refine .cons rfl ?_) ⟨_, s0, ?s12, rfl⟩
     case s12 => exact congrArg Value.bool (and_t h19 (and_f h20))
   ·skip
    refine pB h19 rfl (PL_n rfl rfl (PL_n rfl rfl (PL_n rfl rfl (PL_n rfl rfl (pE rfl (pE rfl (PL_n rfl rfl (PL_n rfl rfl (PL_n rfl rfl (PL_n rfl rfl (PL_n rfl rfl (pE rfl (pE rfl (PL_n rfl rfl (PL_n rfl rfl (PL_n rfl rfl (PL_n rfl rfl (PL_n rfl rfl (PL_n rfl rfl ?_)))))))))))))))))))
    refine pE rfl (pE rfl (fl J ?_))
    refine J2 _ _ (by repeat first | exact .refl | refine .cons rfl ?_) ⟨_, s0, ?s12, rfl⟩
    case s12 => exact congrArg Value.bool (and_f h19)
  ·skip
   rintro g22 M ⟨hg12, rfl⟩
   simp only [setG, hg12]
   clear hg12
   refine W_join [13, 88, 89, 90, 91, 92, 93, 94, 95, 96, 97, 98, 99, 100, 101, 102, 103, 104, 105, 106, 107] (fun g M => (g 13 = .bool ((decide (q11.x.1 = 64) && (decide (q11.y.1 = 0) && (decide (q11.z.1 = (-32)) && decide (q11.t.1 = 1)))) && ((q12.1 == 0) && ((decide (q20.x.1 = 0) && (decide (q20.y.1 = 1) && (decide (q20.z.1 = 2) && decide (q20.t.1 = 0)))) && (decide (q21.n = q22.n) && decide (q21.d = q22.d)))))) ∧ M = [⟨b6, 26, flat [ci .i64 q11.x.1, ci .i64 q11.y.1, ci .i64 q11.z.1, ci .i64 q11.t.1]⟩, ⟨b5, 46, flat [pI q6.x.n, pI q6.x.d, pI q6.y.n, pI q6.y.d, pI q6.z.n, pI q6.z.d]⟩, ⟨b4, 26, flat [ci .i64 1, ci .i64 1, ci .i64 1, ci .i64 1]⟩, ⟨b3, 26, flat [ci .i64 q4.x.1, ci .i64 q4.y.1, ci .i64 q4.z.1, ci .i64 q4.t.1]⟩, ⟨b2, 26, flat [ci .i64 q2.x.1, ci .i64 q2.y.1, ci .i64 q2.z.1, ci .i64 q2.t.1]⟩, ⟨b1, 26, flat [ci .i64 q0.x.1, ci .i64 q0.y.1, ci .i64 q0.z.1, ci .i64 q0.t.1]⟩]) (fun K3 J3 => ?_) ?_
   ·skip
    refine Rk fun K J => sQ (qL ty_26 rfl m0 rfl) rfl (sQ (q_buildap zp_26 ar_26 rfl (.cons [ci .i64 64] [ci .i64 64, ci .i64 0, ci .i64 0, ci .i64 0] rfl rfl rfl rfl (.cons [ci .i64 0] [ci .i64 64, ci .i64 0, ci .i64 0, ci .i64 0] rfl rfl rfl rfl (.cons [ci .i64 (-32)] [ci .i64 64, ci .i64 0, ci .i64 (-32), ci .i64 0] rfl rfl rfl rfl (.cons [ci .i64 1] [ci .i64 64, ci .i64 0, ci .i64 (-32), ci .i64 1] rfl rfl rfl rfl (.nil _)))))) rfl (sQ (q_eqla (r := (decide (q11.x.1 = 64) && (decide (q11.y.1 = 0) && (decide (q11.z.1 = (-32)) && decide (q11.t.1 = 1))))) rfl rfl (eqOk_of 8 (by decide) eg_26 lw_26 (lv_cons lv_ci (lv_cons lv_ci (lv_cons lv_ci (lv_one lv_ci)))) (lv_cons lv_ci (lv_cons lv_ci (lv_cons lv_ci (lv_one lv_ci)))) (eqP_cons rfl eq_ci (eqP_cons rfl eq_ci (eqP_cons rfl eq_ci (eqP_one eq_ci)))))) rfl ?_))
    rcases bt (decide (q11.x.1 = 64) && (decide (q11.y.1 = 0) && (decide (q11.z.1 = (-32)) && decide (q11.t.1 = 1)))) with h26 | h26
    ·skip
     refine sB h26 rfl (sE rfl (sE rfl (sE rfl ?_)))
     rcases bt (q12.1 == 0) with h27 | h27
     ·skip
      refine sB h27 rfl (sQ (q_buildap zp_26 ar_26 rfl (.cons [ci .i64 0] [ci .i64 0, ci .i64 0, ci .i64 0, ci .i64 0] rfl rfl rfl rfl (.cons [ci .i64 1] [ci .i64 0, ci .i64 1, ci .i64 0, ci .i64 0] rfl rfl rfl rfl (.cons [ci .i64 2] [ci .i64 0, ci .i64 1, ci .i64 2, ci .i64 0] rfl rfl rfl rfl (.cons [ci .i64 0] [ci .i64 0, ci .i64 1, ci .i64 2, ci .i64 0] rfl rfl rfl rfl (.nil _)))))) rfl (sC (AV [ci .i64 q20.x.1, ci .i64 q20.y.1, ci .i64 q20.z.1, ci .i64 q20.t.1]) en_19 (quat_Conj_ret (⟨(wl 0), (wl 1), (wl 2), (wl 0)⟩ : (A4 W))) rfl rfl (by rw [hq20]; first | done | rfl) ?_))
      refine sQ (q_buildap zp_26 ar_26 rfl (.cons [ci .i64 0] [ci .i64 0, ci .i64 0, ci .i64 0, ci .i64 0] rfl rfl rfl rfl (.cons [ci .i64 1] [ci .i64 0, ci .i64 1, ci .i64 0, ci .i64 0] rfl rfl rfl rfl (.cons [ci .i64 2] [ci .i64 0, ci .i64 1, ci .i64 2, ci .i64 0] rfl rfl rfl rfl (.cons [ci .i64 0] [ci .i64 0, ci .i64 1, ci .i64 2, ci .i64 0] rfl rfl rfl rfl (.nil _)))))) rfl (sQ (q_eqla (r := (decide (q20.x.1 = 0) && (decide (q20.y.1 = 1) && (decide (q20.z.1 = 2) && decide (q20.t.1 = 0))))) rfl rfl (eqOk_of 8 (by decide) eg_26 lw_26 (lv_cons lv_ci (lv_cons lv_ci (lv_cons lv_ci (lv_one lv_ci)))) (lv_cons lv_ci (lv_cons lv_ci (lv_cons lv_ci (lv_one lv_ci)))) (eqP_cons rfl eq_ci (eqP_cons rfl eq_ci (eqP_cons rfl eq_ci (eqP_one eq_ci)))))) rfl (sE rfl ?_))
      rcases bt (decide (q20.x.1 = 0) && (decide (q20.y.1 = 1) && (decide (q20.z.1 = 2) && decide (q20.t.1 = 0)))) with h28 | h28
      ·skip
       refine sB h28 rfl (sQ (q_buildap zp_26 ar_26 rfl (.cons [ci .i64 1] [ci .i64 1, ci .i64 0, ci .i64 0, ci .i64 0] rfl rfl rfl rfl (.cons [ci .i64 0] [ci .i64 1, ci .i64 0, ci .i64 0, ci .i64 0] rfl rfl rfl rfl (.cons [ci .i64 0] [ci .i64 1, ci .i64 0, ci .i64 0, ci .i64 0] rfl rfl rfl rfl (.cons [ci .i64 0] [ci .i64 1, ci .i64 0, ci .i64 0, ci .i64 0] rfl rfl rfl rfl (.nil _)))))) rfl (sQ (q_buildap zp_26 ar_26 rfl (.cons [ci .i64 1] [ci .i64 1, ci .i64 0, ci .i64 0, ci .i64 0] rfl rfl rfl rfl (.cons [ci .i64 1] [ci .i64 1, ci .i64 1, ci .i64 0, ci .i64 0] rfl rfl rfl rfl (.cons [ci .i64 0] [ci .i64 1, ci .i64 1, ci .i64 0, ci .i64 0] rfl rfl rfl rfl (.cons [ci .i64 0] [ci .i64 1, ci .i64 1, ci .i64 0, ci .i64 0] rfl rfl rfl rfl (.nil _)))))) rfl (sC (AV [pI q21.n, pI q21.d]) en_20 (quat_Cosine_ret (⟨(wl 1), (wl 0), (wl 0), (wl 0)⟩ : (A4 W)) (⟨(wl 1), (wl 1), (wl 0), (wl 0)⟩ : (A4 W))) rfl rfl (by rw [hq21]; first | done | rfl) ?_)))
       refine sC (AV [pI q22.n, pI q22.d]) en_21 (ratio_Frac_ret (wl 1) (wl 2)) rfl rfl (by rw [hq22]; first | done | rfl) ?_
       refine sQ (q_eqla (r := (decide (q21.n = q22.n) && decide (q21.d = q22.d))) rfl rfl (eqOk_of 8 (by decide) eg_44 lw_44 (lv_cons lv_pI (lv_one lv_pI)) (lv_cons lv_pI (lv_one lv_pI)) (eqP_cons rfl eq_pI (eqP_one eq_pI)))) rfl (sE rfl (sE rfl (nl J ?_)))
       refine J3 _ _ (by repeat first | exact .refl | refine .cons rfl ?_) ⟨_, s0, ?s13, rfl⟩
       case s13 => exact congrArg Value.bool (and_t h26 (and_t h27 (and_t h28 rfl)))
      ·skip
       refine sB h28 rfl (WL_n rfl (WL_n rfl (WL_n rfl (WL_n rfl (WL_n rfl (sE rfl (sE rfl (nl J ?_))))))))
       refine J3 _ _ (by repeat first | exact .refl | refine .cons rfl ?_) ⟨_, s0, ?s13, rfl⟩
       case s13 => exact congrArg Value.bool (and_t h26 (and_t h27 (and_f h28)))
     ·skip
      refine sB h27 rfl (WL_n rfl (WL_n rfl (WL_n rfl (WL_n rfl (sE rfl (sE rfl (WL_n rfl (WL_n rfl (WL_n rfl (WL_n rfl (WL_n rfl (sE rfl (sE rfl (nl J ?_))))))))))))))
      refine J3 _ _ (by repeat first | exact .refl | refine .cons rfl ?_) ⟨_, s0, ?s13, rfl⟩
      case s13 => exact congrArg Value.bool (and_t h26 (and_f h27))
    ·skip
     refine sB h26 rfl (WL_n rfl (WL_n rfl (sE rfl (sE rfl (WL_n rfl (WL_n rfl (WL_n rfl (WL_n rfl (sE rfl (sE rfl (WL_n rfl (WL_n rfl (WL_n rfl (WL_n rfl (WL_n rfl (sE rfl (sE rfl (nl J ?_))))))))))))))))))
     refine J3 _ _ (by repeat first | exact .refl | refine .cons rfl ?_) ⟨_, s0, ?s13, rfl⟩
     case s13 => exact congrArg Value.bool (and_f h26)
   ·skip
    rintro g29 M ⟨hg13, rfl⟩
    simp only [setG, hg13]
    clear hg13
    refine W_join [0, 108, 109, 110, 111, 112, 113, 114, 115, 116, 117, 118, 119, 120, 121, 122, 123, 124, 125, 126, 127, 128, 129, 130] (fun g M => (g 0 = .bool (((decide (q0.x.1 = 1) && (decide (q0.y.1 = 0) && (decide (q0.z.1 = (-2)) && decide (q0.t.1 = (-3))))) && ((q1.1 == 0) && ((q3.1 == 1) && ((q5.1 == 2) && (decide (q13.x.1 = 1) && (decide (q13.y.1 = 1) && (decide (q13.z.1 = 1) && decide (q13.t.1 = 1)))))))) && (((q14.1 == 4) && ((decide (q15.x0.1 = 0) && (decide (q15.x1.1 = 0) && (decide (q15.x2.1 = 4) && (decide (q15.x3.1 = 4) && (decide (q15.x4.1 = 0) && (decide (q15.x5.1 = 0) && (decide (q15.x6.1 = 0) && (decide (q15.x7.1 = 4) && decide (q15.x8.1 = 0))))))))) && ((decide (q16.x.1 = 12) && (decide (q16.y.1 = 4) && decide (q16.z.1 = 8))) && (decide (q6.x.n = q17.n) && (decide (q6.x.d = q17.d) && (decide (q6.y.n = q18.n) && (decide (q6.y.d = q18.d) && (decide (q6.z.n = q19.n) && decide (q6.z.d = q19.d))))))))) && (((decide (q11.x.1 = 64) && (decide (q11.y.1 = 0) && (decide (q11.z.1 = (-32)) && decide (q11.t.1 = 1)))) && ((q12.1 == 0) && ((decide (q20.x.1 = 0) && (decide (q20.y.1 = 1) && (decide (q20.z.1 = 2) && decide (q20.t.1 = 0)))) && (decide (q21.n = q22.n) && decide (q21.d = q22.d))))) && ((decide (q24.x.1 = 1) && (decide (q24.y.1 = 1) && (decide (q24.z.1 = 0) && decide (q24.t.1 = 0)))) && (q25 && (!q26))))))) ∧ M = [⟨b6, 26, flat [ci .i64 q11.x.1, ci .i64 q11.y.1, ci .i64 q11.z.1, ci .i64 q11.t.1]⟩, ⟨b5, 46, flat [pI q6.x.n, pI q6.x.d, pI q6.y.n, pI q6.y.d, pI q6.z.n, pI q6.z.d]⟩, ⟨b4, 26, flat [ci .i64 1, ci .i64 1, ci .i64 1, ci .i64 1]⟩, ⟨b3, 26, flat [ci .i64 q4.x.1, ci .i64 q4.y.1, ci .i64 q4.z.1, ci .i64 q4.t.1]⟩, ⟨b2, 26, flat [ci .i64 q2.x.1, ci .i64 q2.y.1, ci .i64 q2.z.1, ci .i64 q2.t.1]⟩, ⟨b1, 26, flat [ci .i64 q0.x.1, ci .i64 q0.y.1, ci .i64 q0.z.1, ci .i64 q0.t.1]⟩]) (fun K4 J4 => ?_) ?_
    ·skip
     refine Rk fun K J => sE rfl ?_
     rcases bt ((decide (q0.x.1 = 1) && (decide (q0.y.1 = 0) && (decide (q0.z.1 = (-2)) && decide (q0.t.1 = (-3))))) && ((q1.1 == 0) && ((q3.1 == 1) && ((q5.1 == 2) && (decide (q13.x.1 = 1) && (decide (q13.y.1 = 1) && (decide (q13.z.1 = 1) && decide (q13.t.1 = 1)))))))) with h35 | h35
     ·skip
      refine sB h35 rfl (sE rfl (sE rfl ?_))
      rcases bt ((q14.1 == 4) && ((decide (q15.x0.1 = 0) && (decide (q15.x1.1 = 0) && (decide (q15.x2.1 = 4) && (decide (q15.x3.1 = 4) && (decide (q15.x4.1 = 0) && (decide (q15.x5.1 = 0) && (decide (q15.x6.1 = 0) && (decide (q15.x7.1 = 4) && decide (q15.x8.1 = 0))))))))) && ((decide (q16.x.1 = 12) && (decide (q16.y.1 = 4) && decide (q16.z.1 = 8))) && (decide (q6.x.n = q17.n) && (decide (q6.x.d = q17.d) && (decide (q6.y.n = q18.n) && (decide (q6.y.d = q18.d) && (decide (q6.z.n = q19.n) && decide (q6.z.d = q19.d))))))))) with h36 | h36
      ·skip
       refine sB h36 rfl (sE rfl (sE rfl ?_))
       rcases bt ((decide (q11.x.1 = 64) && (decide (q11.y.1 = 0) && (decide (q11.z.1 = (-32)) && decide (q11.t.1 = 1)))) && ((q12.1 == 0) && ((decide (q20.x.1 = 0) && (decide (q20.y.1 = 1) && (decide (q20.z.1 = 2) && decide (q20.t.1 = 0)))) && (decide (q21.n = q22.n) && decide (q21.d = q22.d))))) with h37 | h37
       ·skip
        refine sB h37 rfl (sC (AV [ci .i64 q23.x.1, ci .i64 q23.y.1, ci .i64 q23.z.1, ci .i64 q23.t.1]) en_23 quat_Identity_ret rfl rfl (by rw [hq23]; first | done | rfl) (sQ (q_buildap zp_42 ar_42 rfl (.cons [ci .i64 2048] [ci .i64 2048, ci .i64 0, ci .i64 0] rfl rfl rfl rfl (.cons [ci .i64 0] [ci .i64 2048, ci .i64 0, ci .i64 0] rfl rfl rfl rfl (.cons [ci .i64 0] [ci .i64 2048, ci .i64 0, ci .i64 0] rfl rfl rfl rfl (.nil _))))) rfl (sC (AV [ci .i64 q24.x.1, ci .i64 q24.y.1, ci .i64 q24.z.1, ci .i64 q24.t.1]) en_22 (quat_Step_ret q23 (⟨(wl 2048), (wl 0), (wl 0)⟩ : (A3 W)) (wl 0) (by decide)) rfl rfl (by rw [hq24]; first | done | rfl) ?_)))
        refine sQ (q_buildap zp_26 ar_26 rfl (.cons [ci .i64 1] [ci .i64 1, ci .i64 0, ci .i64 0, ci .i64 0] rfl rfl rfl rfl (.cons [ci .i64 1] [ci .i64 1, ci .i64 1, ci .i64 0, ci .i64 0] rfl rfl rfl rfl (.cons [ci .i64 0] [ci .i64 1, ci .i64 1, ci .i64 0, ci .i64 0] rfl rfl rfl rfl (.cons [ci .i64 0] [ci .i64 1, ci .i64 1, ci .i64 0, ci .i64 0] rfl rfl rfl rfl (.nil _)))))) rfl (sQ (q_eqla (r := (decide (q24.x.1 = 1) && (decide (q24.y.1 = 1) && (decide (q24.z.1 = 0) && decide (q24.t.1 = 0))))) rfl rfl (eqOk_of 8 (by decide) eg_26 lw_26 (lv_cons lv_ci (lv_cons lv_ci (lv_cons lv_ci (lv_one lv_ci)))) (lv_cons lv_ci (lv_cons lv_ci (lv_cons lv_ci (lv_one lv_ci)))) (eqP_cons rfl eq_ci (eqP_cons rfl eq_ci (eqP_cons rfl eq_ci (eqP_one eq_ci)))))) rfl (sE rfl ?_))
        rcases bt (decide (q24.x.1 = 1) && (decide (q24.y.1 = 1) && (decide (q24.z.1 = 0) && decide (q24.t.1 = 0)))) with h38 | h38
        ·skip
         refine sB h38 rfl (sQ (qL ty_26 rfl m2 rfl) rfl (sC (.bool q25) en_24 (quat_Valid_ret (⟨(wl 1), (wl 1), (wl 1), (wl 1)⟩ : (A4 W))) rfl rfl (by rw [hq25]; first | done | rfl) ?_))
         refine sE rfl ?_
         rcases bt q25 with h39 | h39
         ·skip
          refine sB h39 rfl (sQ (q_buildap zp_26 ar_26 rfl (.cons [ci .i64 2] [ci .i64 2, ci .i64 0, ci .i64 0, ci .i64 0] rfl rfl rfl rfl (.cons [ci .i64 2] [ci .i64 2, ci .i64 2, ci .i64 0, ci .i64 0] rfl rfl rfl rfl (.cons [ci .i64 0] [ci .i64 2, ci .i64 2, ci .i64 0, ci .i64 0] rfl rfl rfl rfl (.cons [ci .i64 0] [ci .i64 2, ci .i64 2, ci .i64 0, ci .i64 0] rfl rfl rfl rfl (.nil _)))))) rfl (sC (.bool q26) en_24 (quat_Valid_ret (⟨(wl 2), (wl 2), (wl 0), (wl 0)⟩ : (A4 W))) rfl rfl (by rw [hq26]; first | done | rfl) ?_))
          refine sE rfl (sE rfl (sE rfl (nl J ?_)))
          refine J4 _ _ (by repeat first | exact .refl | refine .cons rfl ?_) ⟨_, s0, ?s0, rfl⟩
          case s0 => exact congrArg Value.bool (and_t h35 (and_t h36 (and_t h37 (and_t h38 (and_t h39 rfl)))))
         ·skip
          refine sB h39 rfl (WL_n rfl (WL_n rfl (WL_n rfl (sE rfl (sE rfl (nl J ?_))))))
          refine J4 _ _ (by repeat first | exact .refl | refine .cons rfl ?_) ⟨_, s0, ?s0, rfl⟩
          case s0 => exact congrArg Value.bool (and_t h35 (and_t h36 (and_t h37 (and_t h38 (and_f h39)))))
        ·skip
         refine sB h38 rfl (WL_n rfl (WL_n rfl (sE rfl (sE rfl (WL_n rfl (WL_n rfl (WL_n rfl (sE rfl (sE rfl (nl J ?_))))))))))
         refine J4 _ _ (by repeat first | exact .refl | refine .cons rfl ?_) ⟨_, s0, ?s0, rfl⟩
         case s0 => exact congrArg Value.bool (and_t h35 (and_t h36 (and_t h37 (and_f h38))))
       ·skip
        refine sB h37 rfl (WL_n rfl (WL_n rfl (WL_n rfl (WL_n rfl (WL_n rfl (sE rfl (sE rfl (WL_n rfl (WL_n rfl (sE rfl (sE rfl (WL_n rfl (WL_n rfl (WL_n rfl (sE rfl (sE rfl (nl J ?_)))))))))))))))))
        refine J4 _ _ (by repeat first | exact .refl | refine .cons rfl ?_) ⟨_, s0, ?s0, rfl⟩
        case s0 => exact congrArg Value.bool (and_t h35 (and_t h36 (and_f h37)))
      ·skip
       refine sB h36 rfl (WL_n rfl (sE rfl (sE rfl (WL_n rfl (WL_n rfl (WL_n rfl (WL_n rfl (WL_n rfl (sE rfl (sE rfl (WL_n rfl (WL_n rfl (sE rfl (sE rfl (WL_n rfl (WL_n rfl (WL_n rfl (sE rfl (sE rfl ?_)))))))))))))))))))
       refine nl J ?_
       refine J4 _ _ (by repeat first | exact .refl | refine .cons rfl ?_) ⟨_, s0, ?s0, rfl⟩
       case s0 => exact congrArg Value.bool (and_t h35 (and_f h36))
     ·skip
      refine sB h35 rfl (WL_n rfl (sE rfl (sE rfl (WL_n rfl (sE rfl (sE rfl (WL_n rfl (WL_n rfl (WL_n rfl (WL_n rfl (WL_n rfl (sE rfl (sE rfl (WL_n rfl (WL_n rfl (sE rfl (sE rfl (WL_n rfl (WL_n rfl ?_)))))))))))))))))))
      refine WL_n rfl (sE rfl (sE rfl (nl J ?_)))
      refine J4 _ _ (by repeat first | exact .refl | refine .cons rfl ?_) ⟨_, s0, ?s0, rfl⟩
      case s0 => exact congrArg Value.bool (and_f h35)
    ·skip
     rintro g40 M ⟨hg0, rfl⟩
     simp only [setG, hg0]
     clear hg0
     refine W_ret (ret1 rfl (.inr rfl) rfl ?_)
     exact (by subst hq26; subst hq25; subst hq24; subst hq23; subst hq22; subst hq21; subst hq20; subst hq19; subst hq18; subst hq17; subst hq16; subst hq15; subst hq14; subst hq13; subst hq12; subst hq11; subst hq10; subst hq9; subst hq8; subst hq7; subst hq6; subst hq5; subst hq4; subst hq3; subst hq2; subst hq1; subst hq0; rfl)

theorem skewbacklaw10_QuatNearIsNear_ret (a : (A4 W)) (b : Int) :
    Ret Try.prog 3 [AV [ci .i64 a.x.1, ci .i64 a.y.1, ci .i64 a.z.1, ci .i64 a.t.1], .int .i8 b] (.bool (F_skewbacklaw10_QuatNearIsNear a b)) := by
 refine ret_of_W (N := 112) Try.func3 rfl rfl (by simp) (fun w0 => ?_)
 simp only [initF, Nat.reduceAdd]
 refine Rs fun K J => WL_r rfl (r_boxp rfl rfl (fun b1 hb1 => sE rfl (nl J (Sq fun K1 J1 => ?_))))
 refine W_join [17, 18, 19, 20, 21, 22, 23, 24, 25, 26, 27, 28] (fun g M => (g 28 = .bool (!(F_skewbacklaw10_bound a) || ((decide (a.x.1 = 0) && (decide (a.y.1 = 0) && (decide (a.z.1 = 0) && decide (a.t.1 = 0)))) || (b == 0)))) ∧ M = [⟨b1, 22, flat [ci .i64 a.x.1, ci .i64 a.y.1, ci .i64 a.z.1, ci .i64 a.t.1]⟩]) (fun K2 J2 => ?_) ?_
 ·skip
  refine Rk fun K J => sQ (qL ty_22 rfl m0 rfl) rfl (sQ (q_ret en_4 (skewbacklaw10_bound_ret a) rfl) rfl (sE rfl ?_))
  rcases bt (F_skewbacklaw10_bound a) with h4 | h4
  ·skip
   refine sB (not_f h4) rfl (sQ (qL ty_22 rfl m0 rfl) rfl (sQ (q_buildap zp_22 ar_22 rfl (.nil _)) rfl (sQ (q_eqla (r := (decide (a.x.1 = 0) && (decide (a.y.1 = 0) && (decide (a.z.1 = 0) && decide (a.t.1 = 0))))) rfl rfl (eqOk_of 8 (by decide) eg_22 lw_22 (lv_cons lv_ci (lv_cons lv_ci (lv_cons lv_ci (lv_one lv_ci)))) (lv_cons lv_ci (lv_cons lv_ci (lv_cons lv_ci (lv_one lv_ci)))) (eqP_cons rfl eq_ci (eqP_cons rfl eq_ci (eqP_cons rfl eq_ci (eqP_one eq_ci)))))) rfl (sE rfl ?_))))
   rcases bt (decide (a.x.1 = 0) && (decide (a.y.1 = 0) && (decide (a.z.1 = 0) && decide (a.t.1 = 0)))) with h5 | h5
   ·skip
    refine sB h5 rfl (WL_n rfl (WL_n rfl (sE rfl (nl J ?_))))
    refine J2 _ _ (by repeat first | exact .refl | refine .cons rfl ?_) ⟨_, s0, ?s28, rfl⟩
    case s28 => exact congrArg Value.bool (nor_t h4 (or_t h5))
   ·skip
    refine sB h5 rfl (sE rfl (sE rfl (sE rfl (nl J ?_))))
    refine J2 _ _ (by repeat first | exact .refl | refine .cons rfl ?_) ⟨_, s0, ?s28, rfl⟩
    case s28 => exact congrArg Value.bool (nor_t h4 (or_f h5 rfl))
  ·skip
   refine sB (not_t h4) rfl (WL_n rfl (WL_n rfl (WL_n rfl (sE rfl (sE rfl (WL_n rfl (WL_n rfl (sE rfl (nl J ?_)))))))))
   refine J2 _ _ (by repeat first | exact .refl | refine .cons rfl ?_) ⟨_, s0, ?s28, rfl⟩
   case s28 => exact congrArg Value.bool (nor_f h4)
 ·skip
  rintro g6 M ⟨hg28, rfl⟩
  simp only [setG, hg28]
  clear hg28
  rcases bt (!(F_skewbacklaw10_bound a) || ((decide (a.x.1 = 0) && (decide (a.y.1 = 0) && (decide (a.z.1 = 0) && decide (a.t.1 = 0)))) || (b == 0))) with h7 | h7
  ·skip
   refine W_t h7 rfl (Rs fun K J => sQ (q_ret en_5 skewbacklaw10_sanity_ret  rfl) rfl (sE rfl (nl J (W_ret (thenK_r (ret1 rfl (.inr rfl) rfl ?_))))))
   exact (by exact congrArg (fun r : Bool => (.bool r : Value)) (show _ = (F_skewbacklaw10_QuatNearIsNear a b) from bif_t h7 rfl))
  ·skip
   refine W_f h7 rfl (W_skip (J1 _ _ (Rs fun K J => sQ (qL ty_22 rfl m0 rfl) rfl ?_)))
   obtain ⟨r8, hr8⟩ := nm ((F_skewbacklaw10_great a (wl 1)) : (A4 I))
   refine sC (AV [pI r8.x, pI r8.y, pI r8.z, pI r8.t]) en_7 (skewbacklaw10_great_ret a (wl 1)) rfl rfl (by rw [hr8]; first | done | rfl) ?_
   obtain ⟨r9, hr9⟩ := nm ((F_quat_Near r8).1 : (A4 W))
   refine sC (.tuple #[AV [ci .i64 r9.x.1, ci .i64 r9.y.1, ci .i64 r9.z.1, ci .i64 r9.t.1], .int .i64 (((F_quat_Near r8).2).1)]) en_6 (quat_Near_ret r8) rfl rfl (by rw [hr9]; first | done | rfl) (sE rfl (sE rfl (sE rfl (sN zp_26 rfl fun b10 hb10 => sS [ci .i64 r9.x.1, ci .i64 r9.y.1, ci .i64 r9.z.1, ci .i64 r9.t.1] ty_26 rfl rfl rfl rfl rfl (.head _) rfl hb10 (sE rfl (nl J (Rs fun K J => sQ (qL ty_22 rfl m1 rfl) rfl (sE rfl (sQ (q_as (v' := .int .i64 ((W.cv b).1)) (q_conv in_23 in_3 rfl) rfl) rfl ?_)))))))))
   obtain ⟨r11, hr11⟩ := nm ((F_skewbacklaw10_great a (W.cv b)) : (A4 I))
   refine sC (AV [pI r11.x, pI r11.y, pI r11.z, pI r11.t]) en_7 (skewbacklaw10_great_ret a (W.cv b)) rfl rfl (by rw [hr11]; first | done | rfl) ?_
   obtain ⟨r12, hr12⟩ := nm ((F_quat_Near r11).1 : (A4 W))
   refine sC (.tuple #[AV [ci .i64 r12.x.1, ci .i64 r12.y.1, ci .i64 r12.z.1, ci .i64 r12.t.1], .int .i64 (((F_quat_Near r11).2).1)]) en_6 (quat_Near_ret r11) rfl rfl (by rw [hr12]; first | done | rfl) (sE rfl (sE rfl (sE rfl (sN zp_26 rfl fun b13 hb13 => sS [ci .i64 r12.x.1, ci .i64 r12.y.1, ci .i64 r12.z.1, ci .i64 r12.t.1] ty_26 rfl rfl rfl rfl rfl (.head _) rfl hb13 (sE rfl (nl J (Sq fun K3 J3 => ?_)))))))
   refine W_join [44, 45, 46, 47, 48, 49, 50, 51, 52, 53, 54, 55, 56, 57, 58, 59] (fun g M => (g 59 = .bool ((((F_quat_Near r8).2).1 != 0) || ((((F_quat_Near r11).2).1 != 0) || (!(decide (r9.x.1 = r12.x.1) && (decide (r9.y.1 = r12.y.1) && (decide (r9.z.1 = r12.z.1) && decide (r9.t.1 = r12.t.1)))) || (!(F_skewbackref10_Valid r9)))))) ∧ M = [⟨b13, 26, flat [ci .i64 r12.x.1, ci .i64 r12.y.1, ci .i64 r12.z.1, ci .i64 r12.t.1]⟩, ⟨b10, 26, flat [ci .i64 r9.x.1, ci .i64 r9.y.1, ci .i64 r9.z.1, ci .i64 r9.t.1]⟩, ⟨b1, 22, flat [ci .i64 a.x.1, ci .i64 a.y.1, ci .i64 a.z.1, ci .i64 a.t.1]⟩]) (fun K4 J4 => ?_) ?_
   ·skip
    refine Rk fun K J => sE rfl (sE rfl ?_)
    rcases bt (((F_quat_Near r8).2).1 != 0) with h17 | h17
    ·skip
     refine sB h17 rfl (WL_n rfl (WL_n rfl (sE rfl (sE rfl (WL_n rfl (WL_n rfl (WL_n rfl (sE rfl (sE rfl (WL_n rfl (WL_n rfl (WL_n rfl (sE rfl (nl J ?_))))))))))))))
     refine J4 _ _ (by repeat first | exact .refl | refine .cons rfl ?_) ⟨_, s0, ?s59, rfl⟩
     case s59 => exact congrArg Value.bool (or_t h17)
    ·skip
     refine sB h17 rfl (sE rfl (sE rfl (sE rfl ?_)))
     rcases bt (((F_quat_Near r11).2).1 != 0) with h18 | h18
     ·skip
      refine sB h18 rfl (WL_n rfl (WL_n rfl (WL_n rfl (sE rfl (sE rfl (WL_n rfl (WL_n rfl (WL_n rfl (sE rfl (nl J ?_))))))))))
      refine J4 _ _ (by repeat first | exact .refl | refine .cons rfl ?_) ⟨_, s0, ?s59, rfl⟩
      case s59 => exact congrArg Value.bool (or_f h17 (or_t h18))
     ·skip
      refine sB h18 rfl (sQ (qL ty_26 rfl m1 rfl) rfl (sQ (qL ty_26 rfl m0 rfl) rfl (sQ (q_neqa (r := (decide (r9.x.1 = r12.x.1) && (decide (r9.y.1 = r12.y.1) && (decide (r9.z.1 = r12.z.1) && decide (r9.t.1 = r12.t.1))))) rfl rfl (eqOk_of 8 (by decide) eg_26 lw_26 (lv_cons lv_ci (lv_cons lv_ci (lv_cons lv_ci (lv_one lv_ci)))) (lv_cons lv_ci (lv_cons lv_ci (lv_cons lv_ci (lv_one lv_ci)))) (eqP_cons rfl eq_ci (eqP_cons rfl eq_ci (eqP_cons rfl eq_ci (eqP_one eq_ci)))))) rfl (sE rfl ?_))))
      rcases bt (decide (r9.x.1 = r12.x.1) && (decide (r9.y.1 = r12.y.1) && (decide (r9.z.1 = r12.z.1) && decide (r9.t.1 = r12.t.1)))) with h19 | h19
      ·skip
       refine sB (not_f h19) rfl (sQ (qL ty_26 rfl m1 rfl) rfl (sQ (q_ret en_8 (skewbackref10_Valid_ret r9) rfl) rfl (sE rfl (sE rfl (nl J ?_)))))
       refine J4 _ _ (by repeat first | exact .refl | refine .cons rfl ?_) ⟨_, s0, ?s59, rfl⟩
       case s59 => exact congrArg Value.bool (or_f h17 (or_f h18 (nor_t h19 rfl)))
      ·skip
       refine sB (not_t h19) rfl (WL_n rfl (WL_n rfl (WL_n rfl (sE rfl (nl J ?_)))))
       refine J4 _ _ (by repeat first | exact .refl | refine .cons rfl ?_) ⟨_, s0, ?s59, rfl⟩
       case s59 => exact congrArg Value.bool (or_f h17 (or_f h18 (nor_f h19)))
   ·skip
    rintro g20 M ⟨hg59, rfl⟩
    simp only [setG, hg59]
    clear hg59
    rcases bt ((((F_quat_Near r8).2).1 != 0) || ((((F_quat_Near r11).2).1 != 0) || (!(decide (r9.x.1 = r12.x.1) && (decide (r9.y.1 = r12.y.1) && (decide (r9.z.1 = r12.z.1) && decide (r9.t.1 = r12.t.1)))) || (!(F_skewbackref10_Valid r9))))) with h21 | h21
    ·skip
     refine W_t h21 rfl (Rs fun K J => sE rfl (nl J (W_ret (thenK_r (ret1 rfl (.inr rfl) rfl ?_)))))
     exact (by subst hr12; subst hr11; subst hr9; subst hr8; exact congrArg (fun r : Bool => (.bool r : Value)) (show _ = (F_skewbacklaw10_QuatNearIsNear a b) from bif_f h7 (bif_t h21 rfl)))
    ·skip
     refine W_f h21 rfl (W_skip (J3 _ _ (Rs fun K J => sQ (qL ty_26 rfl m1 rfl) rfl ?_)))
     obtain ⟨r22, hr22⟩ := nm ((F_skewbacklaw10_great r9 (wl 1)) : (A4 I))
     refine sC (AV [pI r22.x, pI r22.y, pI r22.z, pI r22.t]) en_7 (skewbacklaw10_great_ret r9 (wl 1)) rfl rfl (by rw [hr22]; first | done | rfl) ?_
     obtain ⟨r23, hr23⟩ := nm ((F_quat_Near r22).1 : (A4 W))
     refine sC (.tuple #[AV [ci .i64 r23.x.1, ci .i64 r23.y.1, ci .i64 r23.z.1, ci .i64 r23.t.1], .int .i64 (((F_quat_Near r22).2).1)]) en_6 (quat_Near_ret r22) rfl rfl (by rw [hr23]; first | done | rfl) (sE rfl (sE rfl (sE rfl (sN zp_26 rfl fun b24 hb24 => sS [ci .i64 r23.x.1, ci .i64 r23.y.1, ci .i64 r23.z.1, ci .i64 r23.t.1] ty_26 rfl rfl rfl rfl rfl (.head _) rfl hb24 (sE rfl (nl J (Sq fun K5 J5 => ?_)))))))
     refine W_join [66, 67, 68, 69, 70, 71, 72] (fun g M => (g 72 = .bool ((((F_quat_Near r22).2).1 != 0) || (!(decide (r23.x.1 = r9.x.1) && (decide (r23.y.1 = r9.y.1) && (decide (r23.z.1 = r9.z.1) && decide (r23.t.1 = r9.t.1))))))) ∧ M = [⟨b24, 26, flat [ci .i64 r23.x.1, ci .i64 r23.y.1, ci .i64 r23.z.1, ci .i64 r23.t.1]⟩, ⟨b13, 26, flat [ci .i64 r12.x.1, ci .i64 r12.y.1, ci .i64 r12.z.1, ci .i64 r12.t.1]⟩, ⟨b10, 26, flat [ci .i64 r9.x.1, ci .i64 r9.y.1, ci .i64 r9.z.1, ci .i64 r9.t.1]⟩, ⟨b1, 22, flat [ci .i64 a.x.1, ci .i64 a.y.1, ci .i64 a.z.1, ci .i64 a.t.1]⟩]) (fun K6 J6 => ?_) ?_
     ·skip
      refine Rk fun K J => sE rfl (sE rfl ?_)
      rcases bt (((F_quat_Near r22).2).1 != 0) with h26 | h26
      ·skip
       refine sB h26 rfl (WL_n rfl (WL_n rfl (WL_n rfl (sE rfl (nl J ?_)))))
       refine J6 _ _ (by repeat first | exact .refl | refine .cons rfl ?_) ⟨_, s0, ?s72, rfl⟩
       case s72 => exact congrArg Value.bool (or_t h26)
      ·skip
       refine sB h26 rfl (sQ (qL ty_26 rfl m0 rfl) rfl (sQ (qL ty_26 rfl m2 rfl) rfl (sQ (q_neqa (r := (decide (r23.x.1 = r9.x.1) && (decide (r23.y.1 = r9.y.1) && (decide (r23.z.1 = r9.z.1) && decide (r23.t.1 = r9.t.1))))) rfl rfl (eqOk_of 8 (by decide) eg_26 lw_26 (lv_cons lv_ci (lv_cons lv_ci (lv_cons lv_ci (lv_one lv_ci)))) (lv_cons lv_ci (lv_cons lv_ci (lv_cons lv_ci (lv_one lv_ci)))) (eqP_cons rfl eq_ci (eqP_cons rfl eq_ci (eqP_cons rfl eq_ci (eqP_one eq_ci)))))) rfl (sE rfl (nl J ?_)))))
       refine J6 _ _ (by repeat first | exact .refl | refine .cons rfl ?_) ⟨_, s0, ?s72, rfl⟩
       case s72 => exact congrArg Value.bool (or_f h26 rfl)
     ·skip
      rintro g27 M ⟨hg72, rfl⟩
      simp only [setG, hg72]
      clear hg72
      rcases bt ((((F_quat_Near r22).2).1 != 0) || (!(decide (r23.x.1 = r9.x.1) && (decide (r23.y.1 = r9.y.1) && (decide (r23.z.1 = r9.z.1) && decide (r23.t.1 = r9.t.1)))))) with h28 | h28
      ·skip
       refine W_t h28 rfl (Rs fun K J => sE rfl (nl J (W_ret (thenK_r (ret1 rfl (.inr rfl) rfl ?_)))))
       exact (by subst hr23; subst hr22; subst hr12; subst hr11; subst hr9; subst hr8; exact congrArg (fun r : Bool => (.bool r : Value)) (show _ = (F_skewbacklaw10_QuatNearIsNear a b) from bif_f h7 (bif_f h21 (bif_t h28 rfl))))
      ·skip
       refine W_f h28 rfl (W_skip (J5 _ _ (Rs fun K J => sE rfl (nl J (Sq fun K7 J7 => Rs fun K J => sQ (qL ty_22 rfl m3 rfl) rfl (sE rfl (nl J (W_block (W_un 6 (Un_s (fun K8 J8 => Rs fun K J => sV (.bool true) rfl rfl (nl J (Sq fun K9 J9 => W_true rfl (W_skip ?_))))))))))))))
       refine J9 _ _ (Sq fun K10 J10 => W_block (Rs fun K J => sQ (qJ el_22 rfl rfl rfl rfl) rfl (sE rfl (nl J (Rk fun K J => sE rfl (sE rfl (sE rfl (sV (.int .i64 ((W.neg a.x).1)) rfl rfl (sQ (q_as (v' := .int .i64 ((W.max (W.max (wl 0) a.x) (W.neg a.x)).1)) (q_max3i rfl rfl rfl) (congrArg (Value.int .i64) (W.max3_1 (wl 0) a.x (W.neg a.x)))) rfl ?_)))))))))
       refine sE rfl (nl J (J10 _ _ (Rk fun K J => sV (.int .i64 1) rfl rfl (sE rfl (nl J (J8 _ _ (Un_s (fun K11 J11 => Rs fun K J => sV (.bool true) rfl rfl (nl J (Sq fun K12 J12 => W_true rfl (W_skip (J12 _ _ (Sq fun K13 J13 => W_block (Rs fun K J => sQ (qJ el_22 rfl rfl rfl rfl) rfl ?_))))))))))))))
       refine sE rfl (nl J (Rk fun K J => sE rfl (sE rfl (sE rfl (sV (.int .i64 ((W.neg a.y).1)) rfl rfl (sQ (q_as (v' := .int .i64 ((W.max (W.max (W.max (W.max (wl 0) a.x) (W.neg a.x)) a.y) (W.neg a.y)).1)) (q_max3i rfl rfl rfl) (congrArg (Value.int .i64) (W.max3_1 (W.max (W.max (wl 0) a.x) (W.neg a.x)) a.y (W.neg a.y)))) rfl ?_))))))
       refine sE rfl (nl J (J13 _ _ (Rk fun K J => sV (.int .i64 2) rfl rfl (sE rfl (nl J (J11 _ _ (Un_s (fun K14 J14 => Rs fun K J => sV (.bool true) rfl rfl (nl J (Sq fun K15 J15 => W_true rfl (W_skip (J15 _ _ (Sq fun K16 J16 => W_block (Rs fun K J => sQ (qJ el_22 rfl rfl rfl rfl) rfl ?_))))))))))))))
       refine sE rfl (nl J (Rk fun K J => sE rfl (sE rfl (sE rfl (sV (.int .i64 ((W.neg a.z).1)) rfl rfl (sQ (q_as (v' := .int .i64 ((W.max (W.max (W.max (W.max (W.max (W.max (wl 0) a.x) (W.neg a.x)) a.y) (W.neg a.y)) a.z) (W.neg a.z)).1)) (q_max3i rfl rfl rfl) (congrArg (Value.int .i64) (W.max3_1 (W.max (W.max (W.max (W.max (wl 0) a.x) (W.neg a.x)) a.y) (W.neg a.y)) a.z (W.neg a.z)))) rfl ?_))))))
       refine sE rfl (nl J (J16 _ _ (Rk fun K J => sV (.int .i64 3) rfl rfl (sE rfl (nl J (J14 _ _ (Un_s (fun K17 J17 => Rs fun K J => sV (.bool true) rfl rfl (nl J (Sq fun K18 J18 => W_true rfl (W_skip (J18 _ _ (Sq fun K19 J19 => W_block (Rs fun K J => sQ (qJ el_22 rfl rfl rfl rfl) rfl ?_))))))))))))))
       refine sE rfl (nl J (Rk fun K J => sE rfl (sE rfl (sE rfl (sV (.int .i64 ((W.neg a.t).1)) rfl rfl (sQ (q_as (v' := .int .i64 ((W.max (W.max (W.max (W.max (W.max (W.max (W.max (W.max (wl 0) a.x) (W.neg a.x)) a.y) (W.neg a.y)) a.z) (W.neg a.z)) a.t) (W.neg a.t)).1)) (q_max3i rfl rfl rfl) (congrArg (Value.int .i64) (W.max3_1 (W.max (W.max (W.max (W.max (W.max (W.max (wl 0) a.x) (W.neg a.x)) a.y) (W.neg a.y)) a.z) (W.neg a.z)) a.t (W.neg a.t)))) rfl ?_))))))
       refine sE rfl (nl J (J19 _ _ (Rk fun K J => sV (.int .i64 4) rfl rfl (sE rfl (nl J (J17 _ _ (Un_s (fun K20 J20 => Rs fun K J => sV (.bool false) rfl rfl (nl J (Sq fun K21 J21 => W_false rfl (W_exit (thenK_x (thenK_x (blockK_hit (J7 _ _ (Sq fun K22 J22 => Rs fun K J => sE rfl (nl J ?_)))))))))))))))))
       refine W_join3 (fun S M h => J22 S M h) [4, 14, 83, 84, 85, 86, 87, 88, 89, 90, 91, 92, 93, 94, 95, 96] (fun g M => ∃ (u : W), (F_skewbacklaw10_QuatNearIsNear_loop0 a b r8 r9 r11 r12 r22 r23 (130) (wl (-64))) = .inl u ∧ (g 14 = .int .i64 u.1) ∧ M = [⟨b24, 26, flat [ci .i64 r23.x.1, ci .i64 r23.y.1, ci .i64 r23.z.1, ci .i64 r23.t.1]⟩, ⟨b13, 26, flat [ci .i64 r12.x.1, ci .i64 r12.y.1, ci .i64 r12.z.1, ci .i64 r12.t.1]⟩, ⟨b10, 26, flat [ci .i64 r9.x.1, ci .i64 r9.y.1, ci .i64 r9.z.1, ci .i64 r9.t.1]⟩, ⟨b1, 22, flat [ci .i64 a.x.1, ci .i64 a.y.1, ci .i64 a.z.1, ci .i64 a.t.1]⟩]) (fun K_u29 hK_u29 => ?_) ?_
       ·skip
        refine W_block ?_
        refine W_loop_g [4, 14, 83, 84, 85, 86, 87, 88, 89, 90, 91, 92, 93, 94, 95, 96] (fun g nn M => ∃ (u : W), (F_skewbacklaw10_QuatNearIsNear_loop0 a b r8 r9 r11 r12 r22 r23 nn u) = (F_skewbacklaw10_QuatNearIsNear_loop0 a b r8 r9 r11 r12 r22 r23 (130) (wl (-64))) ∧ ((64 + 1 : Int) - u.1).toNat < nn ∧ (True) ∧ (g 14 = .int .i64 u.1) ∧ M = [⟨b24, 26, flat [ci .i64 r23.x.1, ci .i64 r23.y.1, ci .i64 r23.z.1, ci .i64 r23.t.1]⟩, ⟨b13, 26, flat [ci .i64 r12.x.1, ci .i64 r12.y.1, ci .i64 r12.z.1, ci .i64 r12.t.1]⟩, ⟨b10, 26, flat [ci .i64 r9.x.1, ci .i64 r9.y.1, ci .i64 r9.z.1, ci .i64 r9.t.1]⟩, ⟨b1, 22, flat [ci .i64 a.x.1, ci .i64 a.y.1, ci .i64 a.z.1, ci .i64 a.t.1]⟩]) (130) ?start ?round
        case start => exact ⟨_, s0, (wl (-64)), rfl, (by decide), trivial, rfl, rfl⟩
        case round =>
         rintro nn g M ⟨u, hT0, hq0, hinv0, hg14, rfl⟩
         obtain ⟨k0, rfl⟩ : ∃ m, nn = m + 1 := ⟨nn - 1, by omega⟩
         simp only [setG, hg14]
         clear hg14
         refine Sq fun K29 J29 => Rs fun K J => sE rfl (sE rfl (nl J ?_))
         rcases bt (decide (u.1 ≤ 64)) with h40 | h40
         ·skip
          refine W_t h40 rfl (W_skip (J29 _ _ (Sq fun K30 J30 => W_block ?_)))
          refine W_join [87, 88, 89, 90, 91, 92, 93, 94, 95] (fun g M => (g 95 = .bool ((u.1 != 0) && (F_skewbacklaw10_within a r9 (W.max (W.max (W.max (W.max (W.max (W.max (W.max (W.max (wl 0) a.x) (W.neg a.x)) a.y) (W.neg a.y)) a.z) (W.neg a.z)) a.t) (W.neg a.t)) u))) ∧ M = [⟨b24, 26, flat [ci .i64 r23.x.1, ci .i64 r23.y.1, ci .i64 r23.z.1, ci .i64 r23.t.1]⟩, ⟨b13, 26, flat [ci .i64 r12.x.1, ci .i64 r12.y.1, ci .i64 r12.z.1, ci .i64 r12.t.1]⟩, ⟨b10, 26, flat [ci .i64 r9.x.1, ci .i64 r9.y.1, ci .i64 r9.z.1, ci .i64 r9.t.1]⟩, ⟨b1, 22, flat [ci .i64 a.x.1, ci .i64 a.y.1, ci .i64 a.z.1, ci .i64 a.t.1]⟩]) (fun K31 J31 => ?_) ?_
          ·skip
           refine Rk fun K J => sE rfl (sE rfl ?_)
           rcases bt (u.1 != 0) with h42 | h42
           ·skip
            refine sB h42 rfl (sQ (qL ty_22 rfl m3 rfl) rfl (sQ (qL ty_26 rfl m2 rfl) rfl (sE rfl (sE rfl (sQ (q_ret en_9 (skewbacklaw10_within_ret a r9 (W.max (W.max (W.max (W.max (W.max (W.max (W.max (W.max (wl 0) a.x) (W.neg a.x)) a.y) (W.neg a.y)) a.z) (W.neg a.z)) a.t) (W.neg a.t)) u) rfl) rfl ?_)))))
            refine sE rfl (nl J ?_)
            refine J31 _ _ (by repeat first | exact .refl | refine .cons rfl ?_) ⟨_, s0, ?s95, rfl⟩
            case s95 => exact congrArg Value.bool (and_t h42 rfl)
           ·skip
            refine sB h42 rfl (WL_n rfl (WL_n rfl (WL_n rfl (WL_n rfl (WL_n rfl (sE rfl (nl J ?_)))))))
            refine J31 _ _ (by repeat first | exact .refl | refine .cons rfl ?_) ⟨_, s0, ?s95, rfl⟩
            case s95 => exact congrArg Value.bool (and_f h42)
          ·skip
           rintro g43 M ⟨hg95, rfl⟩
           simp only [setG, hg95]
           clear hg95
           rcases bt ((u.1 != 0) && (F_skewbacklaw10_within a r9 (W.max (W.max (W.max (W.max (W.max (W.max (W.max (W.max (wl 0) a.x) (W.neg a.x)) a.y) (W.neg a.y)) a.z) (W.neg a.z)) a.t) (W.neg a.t)) u)) with h44 | h44
           ·skip
            refine W_t h44 rfl (Rs fun K J => sQ (q_ret en_5 skewbacklaw10_sanity_ret  rfl) rfl (sE rfl (nl J (W_ret (blockK_r (thenK_r (thenK_r (blockK_r (thenK_r (thenK_r (ret1 rfl (.inr rfl) rfl ?_)))))))))))
            exact (by subst hr23; subst hr22; subst hr12; subst hr11; subst hr9; subst hr8; exact congrArg (fun r : Bool => (.bool r : Value)) (show _ = (F_skewbacklaw10_QuatNearIsNear a b) from bif_f h7 (bif_f h21 (bif_f h28 ((sm_q rfl (hT0.symm.trans (Eq.symm (bif_t h40 (bif_t h44 rfl))))))))))
           ·skip
            refine W_f h44 rfl (W_skip (J30 _ _ (Rk fun K J => sE rfl (sV (.int .i64 ((W.add u (wl 1)).1)) rfl rfl ?_))))
            refine sE rfl (nl J (⟨(by repeat first | exact .refl | refine .cons rfl ?_), _, _, s0, (Nat.lt_succ_self _), (W.add u (wl 1)), (by exact (hT0.symm.trans (Eq.symm (bif_t h40 (bif_f h44 rfl)))).symm), (Nat.lt_of_lt_of_le (up_dec h40 (by decide)) (Nat.le_of_lt_succ hq0)), trivial, rfl, rfl⟩))
         ·skip
          refine W_f h40 rfl (W_exit (thenK_x (thenK_x (blockK_hit (hK_u29 _ _ (by repeat first | exact .refl | refine .cons rfl ?_) ⟨_, s0, u, (by exact hT0.symm.trans (Eq.symm (bif_f h40 rfl))), rfl, rfl⟩)))))
       ·skip
        rintro g M ⟨u, hCu29, hg14, rfl⟩
        simp only [setG, hg14]
        clear hg14
        refine Rs fun K J => sQ (qL ty_22 rfl m3 rfl) rfl ?_
        obtain ⟨r45, hr45⟩ := nm ((F_quat_Primitive a).1 : (A4 W))
        refine sC (.tuple #[AV [ci .i64 r45.x.1, ci .i64 r45.y.1, ci .i64 r45.z.1, ci .i64 r45.t.1], .int .i64 (((F_quat_Primitive a).2).1)]) en_10 (quat_Primitive_ret a) rfl rfl (by rw [hr45]; first | done | rfl) (sE rfl (sE rfl (sE rfl (sN zp_26 rfl fun b46 hb46 => sS [ci .i64 r45.x.1, ci .i64 r45.y.1, ci .i64 r45.z.1, ci .i64 r45.t.1] ty_26 rfl rfl rfl rfl rfl (.head _) rfl hb46 (sE rfl (nl J ?_))))))
        refine W_join [4, 102, 103, 104, 105, 106, 107, 108, 109, 110, 111] (fun g M => (g 4 = .bool (F_skewbacklaw10_sanity && ((((F_quat_Primitive a).2).1 == 0) && (decide (r45.x.1 = r9.x.1) && (decide (r45.y.1 = r9.y.1) && (decide (r45.z.1 = r9.z.1) && decide (r45.t.1 = r9.t.1))))))) ∧ M = [⟨b46, 26, flat [ci .i64 r45.x.1, ci .i64 r45.y.1, ci .i64 r45.z.1, ci .i64 r45.t.1]⟩, ⟨b24, 26, flat [ci .i64 r23.x.1, ci .i64 r23.y.1, ci .i64 r23.z.1, ci .i64 r23.t.1]⟩, ⟨b13, 26, flat [ci .i64 r12.x.1, ci .i64 r12.y.1, ci .i64 r12.z.1, ci .i64 r12.t.1]⟩, ⟨b10, 26, flat [ci .i64 r9.x.1, ci .i64 r9.y.1, ci .i64 r9.z.1, ci .i64 r9.t.1]⟩, ⟨b1, 22, flat [ci .i64 a.x.1, ci .i64 a.y.1, ci .i64 a.z.1, ci .i64 a.t.1]⟩]) (fun K32 J32 => ?_) ?_
        ·skip
         refine Rk fun K J => sQ (q_ret en_5 skewbacklaw10_sanity_ret  rfl) rfl ?_
         rcases bt F_skewbacklaw10_sanity with h49 | h49
         ·skip
          refine sB h49 rfl (sE rfl (sE rfl (sE rfl ?_)))
          rcases bt (((F_quat_Primitive a).2).1 == 0) with h50 | h50
          ·skip
           refine sB h50 rfl (sQ (qL ty_26 rfl m0 rfl) rfl (sQ (qL ty_26 rfl m3 rfl) rfl (sQ (q_eqla (r := (decide (r45.x.1 = r9.x.1) && (decide (r45.y.1 = r9.y.1) && (decide (r45.z.1 = r9.z.1) && decide (r45.t.1 = r9.t.1))))) rfl rfl (eqOk_of 8 (by decide) eg_26 lw_26 (lv_cons lv_ci (lv_cons lv_ci (lv_cons lv_ci (lv_one lv_ci)))) (lv_cons lv_ci (lv_cons lv_ci (lv_cons lv_ci (lv_one lv_ci)))) (eqP_cons rfl eq_ci (eqP_cons rfl eq_ci (eqP_cons rfl eq_ci (eqP_one eq_ci)))))) rfl (sE rfl (sE rfl (nl J ?_))))))
           refine J32 _ _ (by repeat first | exact .refl | refine .cons rfl ?_) ⟨_, s0, ?s4, rfl⟩
           case s4 => exact congrArg Value.bool (and_t h49 (and_t h50 rfl))
          ·skip
           refine sB h50 rfl (WL_n rfl (WL_n rfl (WL_n rfl (sE rfl (sE rfl (nl J ?_))))))
           refine J32 _ _ (by repeat first | exact .refl | refine .cons rfl ?_) ⟨_, s0, ?s4, rfl⟩
           case s4 => exact congrArg Value.bool (and_t h49 (and_f h50))
         ·skip
          refine sB h49 rfl (WL_n rfl (WL_n rfl (sE rfl (sE rfl (WL_n rfl (WL_n rfl (WL_n rfl (sE rfl (sE rfl (nl J ?_))))))))))
          refine J32 _ _ (by repeat first | exact .refl | refine .cons rfl ?_) ⟨_, s0, ?s4, rfl⟩
          case s4 => exact congrArg Value.bool (and_f h49)
        ·skip
         rintro g51 M ⟨hg4, rfl⟩
         simp only [setG, hg4]
         clear hg4
         refine W_ret (ret1 rfl (.inr rfl) rfl ?_)
         exact (by subst hr45; subst hr23; subst hr22; subst hr12; subst hr11; subst hr9; subst hr8; exact congrArg (fun r : Bool => (.bool r : Value)) (show _ = (F_skewbacklaw10_QuatNearIsNear a b) from bif_f h7 (bif_f h21 (bif_f h28 (sm_l hCu29 rfl)))))
end Go.Proofs.Ytnfbkngfdemkpaa
