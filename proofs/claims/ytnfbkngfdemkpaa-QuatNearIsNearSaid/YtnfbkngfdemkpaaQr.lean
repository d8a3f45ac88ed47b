/- Walks: what these functions return. -/
import Derived.Test.YtnfbkngfdemkpaaFa0
import Derived.Test.YtnfbkngfdemkpaaFq
namespace Go.Proofs.Ytnfbkngfdemkpaa
open Go.Kn Go.Num
set_option linter.unusedVariables false
set_option linter.unusedSimpArgs false
set_option maxRecDepth 20000
set_option maxHeartbeats 8000000
theorem skewbackref10_gcd_ret (a : W) (b : W) :
    Ret Try.prog 59 [.int .i64 a.1, .int .i64 b.1] (.int .i64 ((F_skewbackref10_gcd a b).1)) := by
 refine ret_of_W (N := 17) Try.func59 rfl rfl (by simp) (fun w0 => ?_)
 simp only [initF, Nat.reduceAdd]
 refine Rs fun K J => sE rfl (nl J ?_)
 refine W_join [0, 1, 5, 6, 7, 8, 9, 10, 11, 12] (fun g M => ∃ (p : W) (q : W), (F_skewbackref10_gcd_loop0 a b (b.1.natAbs + 1) a b) = (p, q) ∧ (g 0 = .int .i64 p.1 ∧ g 1 = .int .i64 q.1) ∧ M = []) (fun K_u1 hK_u1 => ?_) ?_
 ·skip
  refine W_block ?_
  refine W_loop_g [0, 1, 5, 6, 7, 8, 9, 10, 11, 12] (fun g nn M => ∃ (p : W) (q : W), (F_skewbackref10_gcd_loop0 a b nn p q) = (F_skewbackref10_gcd_loop0 a b (b.1.natAbs + 1) a b) ∧ q.1.natAbs < nn ∧ (True) ∧ (g 0 = .int .i64 p.1 ∧ g 1 = .int .i64 q.1) ∧ M = []) (b.1.natAbs + 1) ?start ?round
  case start => exact ⟨_, s0, a, b, rfl, Nat.lt_succ_self _, trivial, ⟨rfl, rfl⟩, rfl⟩
  case round =>
   rintro nn g M ⟨p, q, hT0, hq0, hinv0, ⟨hg0, hg1⟩, rfl⟩
   obtain ⟨k0, rfl⟩ : ∃ m, nn = m + 1 := ⟨nn - 1, by omega⟩
   simp only [setG, hg0, hg1]
   clear hg0 hg1
   refine Sq fun K2 J2 => Rs fun K J => sE rfl (sE rfl (nl J ?_))
   rcases bt (q.1 != 0) with h3 | h3
   ·skip
    refine W_t h3 rfl (W_skip (J2 _ _ (W_block (Rs fun K J => sE rfl (sE rfl (sQ (q_as (v' := .int .i64 ((W.rem p q).1)) (q_rem rfl rfl (nz_t h3)) rfl) rfl (sE rfl (nl J (Rs fun K J => sE rfl (sE rfl (nl J (Rk fun K J => sE rfl (sE rfl (nl J (⟨(by repeat first | exact .refl | refine .cons rfl ?_), _, _, s0, (Nat.lt_succ_self _), q, (W.rem p q), (by exact (hT0.symm.trans (Eq.symm (bif_t h3 rfl))).symm), (Nat.lt_of_lt_of_le (W.rem_lt p h3) (Nat.le_of_lt_succ hq0)), trivial, ⟨rfl, rfl⟩, rfl⟩)))))))))))))))
   ·skip
    refine W_f h3 rfl (W_exit (thenK_x (thenK_x (blockK_hit (hK_u1 _ _ (by repeat first | exact .refl | refine .cons rfl ?_) ⟨_, s0, p, q, (by exact hT0.symm.trans (Eq.symm (bif_f h3 rfl))), ⟨rfl, rfl⟩, rfl⟩)))))
 ·skip
  rintro g M ⟨p, q, hCu1, ⟨hg0, hg1⟩, rfl⟩
  simp only [setG, hg0, hg1]
  clear hg0 hg1
  refine Rs fun K J => sE rfl (sE rfl (sV (.int .i64 ((W.neg p).1)) rfl rfl (sQ (q_as (v' := .int .i64 ((W.max p (W.neg p)).1)) (q_maxi rfl rfl) (congrArg (Value.int .i64) (W.max_1 p (W.neg p)))) rfl (sE rfl (nl J (W_ret (ret1 rfl (.inr rfl) rfl ?_)))))))
  exact (by exact congrArg (fun r : W => (.int .i64 r.1 : Value)) (show _ = (F_skewbackref10_gcd a b) from ap_ hCu1 rfl))

theorem skewbackref10_sign_ret (a : W) :
    Ret Try.prog 60 [.int .i64 a.1] (.int .i64 ((F_skewbackref10_sign a).1)) := by
 refine ret_of_W (N := 7) Try.func60 rfl rfl (by simp) (fun w0 => ?_)
 simp only [initF, Nat.reduceAdd]
 refine Rs fun K J => sE rfl (nl J (Sq fun K1 J1 => Rs fun K J => sE rfl (sE rfl (nl J ?_))))
 rcases bt (decide (a.1 < 0)) with h1 | h1
 ·skip
  refine W_t h1 rfl (Rs fun K J => sE rfl (nl J (W_ret (thenK_r (ret1 rfl (.inr rfl) rfl ?_)))))
  exact (by exact congrArg (fun r : W => (.int .i64 r.1 : Value)) (show _ = (F_skewbackref10_sign a) from bif_t h1 rfl))
 ·skip
  refine W_f h1 rfl (W_skip (J1 _ _ (Rs fun K J => sE rfl (sQ (q_as (v' := .int .i64 ((W.min a (wl 1)).1)) (q_mini rfl rfl) (congrArg (Value.int .i64) (W.min_1 a (wl 1)))) rfl ?_))))
  refine sE rfl (nl J (W_ret (ret1 rfl (.inr rfl) rfl ?_)))
  exact (by exact congrArg (fun r : W => (.int .i64 r.1 : Value)) (show _ = (F_skewbackref10_sign a) from bif_f h1 rfl))

theorem skewbackref10_low_ret (a : (A4 W)) :
    Ret Try.prog 37 [AV [ci .i64 a.x.1, ci .i64 a.y.1, ci .i64 a.z.1, ci .i64 a.t.1]] (.bool (F_skewbackref10_low a)) := by
 refine ret_of_W (N := 18) Try.func37 rfl rfl (by simp) (fun w0 => ?_)
 simp only [initF, Nat.reduceAdd]
 refine Rs fun K J => WL_r rfl (r_boxp rfl rfl (fun b1 hb1 => sE rfl (nl J (Sq fun K1 J1 => Rs fun K J => sE rfl (nl J (W_block (W_un 6 (Un_s (fun K2 J2 => Sq fun K3 J3 => Rs fun K J => sE rfl (sV (.bool true) rfl rfl (nl J (W_true rfl (W_skip (J3 _ _ (Sq fun K4 J4 => ?_)))))))))))))))
 refine W_block ?_
 refine W_join [8, 9, 10, 11, 12, 13, 14, 15, 16, 17] (fun g M => (g 17 = .bool (decide (64 < a.x.1) || decide (a.x.1 < (-64)))) ∧ M = [⟨b1, 26, flat [ci .i64 a.x.1, ci .i64 a.y.1, ci .i64 a.z.1, ci .i64 a.t.1]⟩]) (fun K5 J5 => ?_) ?_
 ·skip
  refine Rk fun K J => sE rfl (sQ (qA ar_26 rfl rfl rfl) rfl (sQ (qC ty_3 rfl m0 rfl) rfl (sE rfl ?_)))
  rcases bt (decide (64 < a.x.1)) with h3 | h3
  ·skip
   refine sB h3 rfl (WL_n rfl (WL_n rfl (WL_n rfl (WL_n rfl (sE rfl (nl J ?_))))))
   refine J5 _ _ (by repeat first | exact .refl | refine .cons rfl ?_) ⟨_, s0, ?s17, rfl⟩
   case s17 => exact congrArg Value.bool (or_t h3)
  ·skip
   refine sB h3 rfl (sE rfl (sQ (qA ar_26 rfl rfl rfl) rfl (sQ (qC ty_3 rfl m0 rfl) rfl (sE rfl (sE rfl (nl J ?_))))))
   refine J5 _ _ (by repeat first | exact .refl | refine .cons rfl ?_) ⟨_, s0, ?s17, rfl⟩
   case s17 => exact congrArg Value.bool (or_f h3 rfl)
 ·skip
  rintro g4 M ⟨hg17, rfl⟩
  simp only [setG, hg17]
  clear hg17
  rcases bt (decide (64 < a.x.1) || decide (a.x.1 < (-64))) with h5 | h5
  ·skip
   refine W_t h5 rfl (Rs fun K J => sE rfl (nl J (W_ret (blockK_r (thenK_r (thenK_r (blockK_r (thenK_r (ret1 rfl (.inr rfl) rfl ?_)))))))))
   exact (by exact congrArg (fun r : Bool => (.bool r : Value)) (show _ = (F_skewbackref10_low a) from bif_t h5 rfl))
  ·skip
   refine W_f h5 rfl (W_skip (J4 _ _ (Rk fun K J => sE rfl (sV (.int .i64 1) rfl rfl (sE rfl (nl J (J2 _ _ (Un_s (fun K6 J6 => Sq fun K7 J7 => Rs fun K J => sE rfl (sV (.bool true) rfl rfl (nl J (W_true rfl (W_skip (J7 _ _ (Sq fun K8 J8 => W_block ?_)))))))))))))))
   refine W_join [8, 9, 10, 11, 12, 13, 14, 15, 16, 17] (fun g M => (g 17 = .bool (decide (64 < a.y.1) || decide (a.y.1 < (-64)))) ∧ M = [⟨b1, 26, flat [ci .i64 a.x.1, ci .i64 a.y.1, ci .i64 a.z.1, ci .i64 a.t.1]⟩]) (fun K9 J9 => ?_) ?_
   ·skip
    refine Rk fun K J => sE rfl (sQ (qA ar_26 rfl rfl rfl) rfl (sQ (qC ty_3 rfl m0 rfl) rfl (sE rfl ?_)))
    rcases bt (decide (64 < a.y.1)) with h7 | h7
    ·skip
     refine sB h7 rfl (WL_n rfl (WL_n rfl (WL_n rfl (WL_n rfl (sE rfl (nl J ?_))))))
     refine J9 _ _ (by repeat first | exact .refl | refine .cons rfl ?_) ⟨_, s0, ?s17, rfl⟩
     case s17 => exact congrArg Value.bool (or_t h7)
    ·skip
     refine sB h7 rfl (sE rfl (sQ (qA ar_26 rfl rfl rfl) rfl (sQ (qC ty_3 rfl m0 rfl) rfl (sE rfl (sE rfl (nl J ?_))))))
     refine J9 _ _ (by repeat first | exact .refl | refine .cons rfl ?_) ⟨_, s0, ?s17, rfl⟩
     case s17 => exact congrArg Value.bool (or_f h7 rfl)
   ·skip
    rintro g8 M ⟨hg17, rfl⟩
    simp only [setG, hg17]
    clear hg17
    rcases bt (decide (64 < a.y.1) || decide (a.y.1 < (-64))) with h9 | h9
    ·skip
     refine W_t h9 rfl (Rs fun K J => sE rfl (nl J (W_ret (blockK_r (thenK_r (thenK_r (blockK_r (thenK_r (ret1 rfl (.inr rfl) rfl ?_)))))))))
     exact (by exact congrArg (fun r : Bool => (.bool r : Value)) (show _ = (F_skewbackref10_low a) from bif_f h5 (bif_t h9 rfl)))
    ·skip
     refine W_f h9 rfl (W_skip (J8 _ _ (Rk fun K J => sE rfl (sV (.int .i64 2) rfl rfl (sE rfl (nl J (J6 _ _ (Un_s (fun K10 J10 => Sq fun K11 J11 => Rs fun K J => sE rfl (sV (.bool true) rfl rfl (nl J (W_true rfl (W_skip (J11 _ _ (Sq fun K12 J12 => W_block ?_)))))))))))))))
     refine W_join [8, 9, 10, 11, 12, 13, 14, 15, 16, 17] (fun g M => (g 17 = .bool (decide (64 < a.z.1) || decide (a.z.1 < (-64)))) ∧ M = [⟨b1, 26, flat [ci .i64 a.x.1, ci .i64 a.y.1, ci .i64 a.z.1, ci .i64 a.t.1]⟩]) (fun K13 J13 => ?_) ?_
     ·skip
      refine Rk fun K J => sE rfl (sQ (qA ar_26 rfl rfl rfl) rfl (sQ (qC ty_3 rfl m0 rfl) rfl (sE rfl ?_)))
      rcases bt (decide (64 < a.z.1)) with h11 | h11
      ·skip
       refine sB h11 rfl (WL_n rfl (WL_n rfl (WL_n rfl (WL_n rfl (sE rfl (nl J ?_))))))
       refine J13 _ _ (by repeat first | exact .refl | refine .cons rfl ?_) ⟨_, s0, ?s17, rfl⟩
       case s17 => exact congrArg Value.bool (or_t h11)
      ·skip
       refine sB h11 rfl (sE rfl (sQ (qA ar_26 rfl rfl rfl) rfl (sQ (qC ty_3 rfl m0 rfl) rfl (sE rfl (sE rfl (nl J ?_))))))
       refine J13 _ _ (by repeat first | exact .refl | refine .cons rfl ?_) ⟨_, s0, ?s17, rfl⟩
       case s17 => exact congrArg Value.bool (or_f h11 rfl)
     ·skip
      rintro g12 M ⟨hg17, rfl⟩
      simp only [setG, hg17]
      clear hg17
      rcases bt (decide (64 < a.z.1) || decide (a.z.1 < (-64))) with h13 | h13
      ·skip
       refine W_t h13 rfl (Rs fun K J => sE rfl (nl J (W_ret (blockK_r (thenK_r (thenK_r (blockK_r (thenK_r (ret1 rfl (.inr rfl) rfl ?_)))))))))
       exact (by exact congrArg (fun r : Bool => (.bool r : Value)) (show _ = (F_skewbackref10_low a) from bif_f h5 (bif_f h9 (bif_t h13 rfl))))
      ·skip
       refine W_f h13 rfl (W_skip (J12 _ _ (Rk fun K J => sE rfl (sV (.int .i64 3) rfl rfl (sE rfl (nl J (J10 _ _ (Un_s (fun K14 J14 => Sq fun K15 J15 => Rs fun K J => sE rfl (sV (.bool true) rfl rfl (nl J (W_true rfl (W_skip (J15 _ _ (Sq fun K16 J16 => W_block ?_)))))))))))))))
       refine W_join [8, 9, 10, 11, 12, 13, 14, 15, 16, 17] (fun g M => (g 17 = .bool (decide (64 < a.t.1) || decide (a.t.1 < (-64)))) ∧ M = [⟨b1, 26, flat [ci .i64 a.x.1, ci .i64 a.y.1, ci .i64 a.z.1, ci .i64 a.t.1]⟩]) (fun K17 J17 => ?_) ?_
       ·skip
        refine Rk fun K J => sE rfl (sQ (qA ar_26 rfl rfl rfl) rfl (sQ (qC ty_3 rfl m0 rfl) rfl (sE rfl ?_)))
        rcases bt (decide (64 < a.t.1)) with h15 | h15
        ·skip
         refine sB h15 rfl (WL_n rfl (WL_n rfl (WL_n rfl (WL_n rfl (sE rfl (nl J ?_))))))
         refine J17 _ _ (by repeat first | exact .refl | refine .cons rfl ?_) ⟨_, s0, ?s17, rfl⟩
         case s17 => exact congrArg Value.bool (or_t h15)
        ·skip
         refine sB h15 rfl (sE rfl (sQ (qA ar_26 rfl rfl rfl) rfl (sQ (qC ty_3 rfl m0 rfl) rfl (sE rfl (sE rfl (nl J ?_))))))
         refine J17 _ _ (by repeat first | exact .refl | refine .cons rfl ?_) ⟨_, s0, ?s17, rfl⟩
         case s17 => exact congrArg Value.bool (or_f h15 rfl)
       ·skip
        rintro g16 M ⟨hg17, rfl⟩
        simp only [setG, hg17]
        clear hg17
        rcases bt (decide (64 < a.t.1) || decide (a.t.1 < (-64))) with h17 | h17
        ·skip
         refine W_t h17 rfl (Rs fun K J => sE rfl (nl J (W_ret (blockK_r (thenK_r (thenK_r (blockK_r (thenK_r (ret1 rfl (.inr rfl) rfl ?_)))))))))
         exact (by exact congrArg (fun r : Bool => (.bool r : Value)) (show _ = (F_skewbackref10_low a) from bif_f h5 (bif_f h9 (bif_f h13 (bif_t h17 rfl)))))
        ·skip
         refine W_f h17 rfl (W_skip (J16 _ _ (Rk fun K J => sE rfl (sV (.int .i64 4) rfl rfl (sE rfl (nl J (J14 _ _ (Un_s (fun K18 J18 => Sq fun K19 J19 => Rs fun K J => sE rfl (sV (.bool false) rfl rfl (nl J (W_false rfl (W_exit (thenK_x (thenK_x (blockK_hit (J1 _ _ (Rs fun K J => sE rfl ?_))))))))))))))))))
         refine nl J (W_ret (ret1 rfl (.inr rfl) rfl ?_))
         exact (by exact congrArg (fun r : Bool => (.bool r : Value)) (show _ = (F_skewbackref10_low a) from bif_f h5 (bif_f h9 (bif_f h13 (bif_f h17 rfl)))))

theorem skewbackref10_direction_ret (a : (A4 W)) :
    Ret Try.prog 38 [AV [ci .i64 a.x.1, ci .i64 a.y.1, ci .i64 a.z.1, ci .i64 a.t.1]] (.tuple #[AV [ci .i64 ((((F_skewbackref10_direction a).1).x).1), ci .i64 ((((F_skewbackref10_direction a).1).y).1), ci .i64 ((((F_skewbackref10_direction a).1).z).1), ci .i64 ((((F_skewbackref10_direction a).1).t).1)], .bool ((F_skewbackref10_direction a).2)]) := by
 refine ret_of_W (N := 50) Try.func38 rfl rfl (by simp) (fun w0 => ?_)
 simp only [initF, Nat.reduceAdd]
 refine Rs fun K J => WL_r rfl (r_boxp rfl rfl (fun b1 hb1 => sN zp_26 rfl fun b2 hb2 => sE rfl (nl J (Rs fun K J => sE rfl (nl J (Rs fun K J => sE rfl (nl J (Sq fun K1 J1 => Rs fun K J => sE rfl (nl J (W_block (W_un 6 (Un_s (fun K2 J2 => Sq fun K3 J3 => Rs fun K J => ?_)))))))))))))
 refine sE rfl (sV (.bool true) rfl rfl (nl J (W_true rfl (W_skip (J3 _ _ ?_)))))
 obtain ⟨r4, hr4⟩ := nm ((bif (a.t.1 != 0) then (F_skewbackref10_sign a.t) else (wl 0)) : W)
 refine W_join [4, 5, 11, 12, 13, 14, 15, 16, 17, 18, 19, 20, 21, 22, 23] (fun g M => (g 4 = .int .i64 ((F_skewbackref10_gcd (wl 0) a.t).1) ∧ g 5 = .int .i64 r4.1) ∧ M = [⟨b2, 26, flat [ci .i64 0, ci .i64 0, ci .i64 0, ci .i64 0]⟩, ⟨b1, 22, flat [ci .i64 a.x.1, ci .i64 a.y.1, ci .i64 a.z.1, ci .i64 a.t.1]⟩]) (fun K4 J4 => ?_) ?_
 ·skip
  refine W_block (Rs fun K J => sE rfl (sE rfl (sQ (qA ar_22 rfl rfl rfl) rfl (sQ (qC ty_3 rfl m1 rfl) rfl (sQ (q_ret en_59 (skewbackref10_gcd_ret (wl 0) a.t) rfl) rfl ?_)))))
  refine sE rfl (nl J (Rs fun K J => sE rfl (sQ (qA ar_22 rfl rfl rfl) rfl (sQ (qC ty_3 rfl m1 rfl) rfl (sE rfl (nl J ?_))))))
  rcases bt (a.t.1 != 0) with h5 | h5
  ·skip
   refine W_t h5 rfl (Rk fun K J => sE rfl (sQ (qA ar_22 rfl rfl rfl) rfl (sQ (qC ty_3 rfl m1 rfl) rfl (sQ (q_ret en_60 (skewbackref10_sign_ret a.t) rfl) rfl (sE rfl (nl J ?_))))))
   refine J4 _ _ (by repeat first | exact .refl | refine .cons rfl ?_) ⟨_, s0, ⟨?s4, ?s5⟩, rfl⟩
   case s4 => exact (show (.int .i64 ((F_skewbackref10_gcd (wl 0) a.t).1) : Value) = .int .i64 ((F_skewbackref10_gcd (wl 0) a.t).1) by rfl)
   case s5 => exact (show (.int .i64 ((F_skewbackref10_sign a.t).1) : Value) = .int .i64 r4.1 by rw [hr4]; first | done | rfl | simp only [h5, cond_true, cond_false, Bool.true_and, Bool.false_and, Bool.and_true, Bool.and_false, Bool.true_or, Bool.false_or, Bool.or_true, Bool.or_false, Bool.not_true, Bool.not_false] | (simp only [h5, cond_true, cond_false, Bool.true_and, Bool.false_and, Bool.and_true, Bool.and_false, Bool.true_or, Bool.false_or, Bool.or_true, Bool.or_false, Bool.not_true, Bool.not_false]; rfl))
  ·skip
   refine W_f h5 rfl (W_skip ?_)
   refine J4 _ _ (by repeat first | exact .refl | refine .cons rfl ?_) ⟨_, s0, ⟨?s4, ?s5⟩, rfl⟩
   case s4 => exact (show (.int .i64 ((F_skewbackref10_gcd (wl 0) a.t).1) : Value) = .int .i64 ((F_skewbackref10_gcd (wl 0) a.t).1) by rfl)
   case s5 => exact (show (.int .i64 0 : Value) = .int .i64 r4.1 by rw [hr4]; first | done | rfl | simp only [h5, cond_true, cond_false, Bool.true_and, Bool.false_and, Bool.and_true, Bool.and_false, Bool.true_or, Bool.false_or, Bool.or_true, Bool.or_false, Bool.not_true, Bool.not_false] | (simp only [h5, cond_true, cond_false, Bool.true_and, Bool.false_and, Bool.and_true, Bool.and_false, Bool.true_or, Bool.false_or, Bool.or_true, Bool.or_false, Bool.not_true, Bool.not_false]; rfl))
 ·skip
  rintro g6 M ⟨⟨hg4, hg5⟩, rfl⟩
  simp only [setG, hg4, hg5]
  clear hg4 hg5
  refine Rk fun K J => sE rfl (sV (.int .i64 2) rfl rfl (sE rfl (nl J (J2 _ _ (Un_s (fun K5 J5 => Sq fun K6 J6 => Rs fun K J => sE rfl (sV (.bool true) rfl rfl (nl J (W_true rfl (W_skip (J6 _ _ ?_)))))))))))
  refine W_join [4, 5, 11, 12, 13, 14, 15, 16, 17, 18, 19, 20, 21, 22, 23] (fun g M => (g 4 = .int .i64 ((F_skewbackref10_gcd (F_skewbackref10_gcd (wl 0) a.t) a.z).1) ∧ g 5 = .int .i64 ((bif (a.z.1 != 0) then (F_skewbackref10_sign a.z) else r4).1)) ∧ M = [⟨b2, 26, flat [ci .i64 0, ci .i64 0, ci .i64 0, ci .i64 0]⟩, ⟨b1, 22, flat [ci .i64 a.x.1, ci .i64 a.y.1, ci .i64 a.z.1, ci .i64 a.t.1]⟩]) (fun K7 J7 => ?_) ?_
  ·skip
   refine W_block (Rs fun K J => sE rfl (sE rfl (sQ (qA ar_22 rfl rfl rfl) rfl (sQ (qC ty_3 rfl m1 rfl) rfl (sQ (q_ret en_59 (skewbackref10_gcd_ret (F_skewbackref10_gcd (wl 0) a.t) a.z) rfl) rfl ?_)))))
   refine sE rfl (nl J (Rs fun K J => sE rfl (sQ (qA ar_22 rfl rfl rfl) rfl (sQ (qC ty_3 rfl m1 rfl) rfl (sE rfl (nl J ?_))))))
   rcases bt (a.z.1 != 0) with h8 | h8
   ·skip
    refine W_t h8 rfl (Rk fun K J => sE rfl (sQ (qA ar_22 rfl rfl rfl) rfl (sQ (qC ty_3 rfl m1 rfl) rfl (sQ (q_ret en_60 (skewbackref10_sign_ret a.z) rfl) rfl (sE rfl (nl J ?_))))))
    refine J7 _ _ (by repeat first | exact .refl | refine .cons rfl ?_) ⟨_, s0, ⟨?s4, ?s5⟩, rfl⟩
    case s4 => exact (show (.int .i64 ((F_skewbackref10_gcd (F_skewbackref10_gcd (wl 0) a.t) a.z).1) : Value) = .int .i64 ((F_skewbackref10_gcd (F_skewbackref10_gcd (wl 0) a.t) a.z).1) by rfl)
    case s5 => exact (show (.int .i64 ((F_skewbackref10_sign a.z).1) : Value) = .int .i64 ((bif (a.z.1 != 0) then (F_skewbackref10_sign a.z) else r4).1) by first | done | rfl | simp only [h8, cond_true, cond_false, Bool.true_and, Bool.false_and, Bool.and_true, Bool.and_false, Bool.true_or, Bool.false_or, Bool.or_true, Bool.or_false, Bool.not_true, Bool.not_false] | (simp only [h8, cond_true, cond_false, Bool.true_and, Bool.false_and, Bool.and_true, Bool.and_false, Bool.true_or, Bool.false_or, Bool.or_true, Bool.or_false, Bool.not_true, Bool.not_false]; rfl))
   ·skip
    refine W_f h8 rfl (W_skip ?_)
    refine J7 _ _ (by repeat first | exact .refl | refine .cons rfl ?_) ⟨_, s0, ⟨?s4, ?s5⟩, rfl⟩
    case s4 => exact (show (.int .i64 ((F_skewbackref10_gcd (F_skewbackref10_gcd (wl 0) a.t) a.z).1) : Value) = .int .i64 ((F_skewbackref10_gcd (F_skewbackref10_gcd (wl 0) a.t) a.z).1) by rfl)
    case s5 => exact (show (.int .i64 r4.1 : Value) = .int .i64 ((bif (a.z.1 != 0) then (F_skewbackref10_sign a.z) else r4).1) by first | done | rfl | simp only [h8, cond_true, cond_false, Bool.true_and, Bool.false_and, Bool.and_true, Bool.and_false, Bool.true_or, Bool.false_or, Bool.or_true, Bool.or_false, Bool.not_true, Bool.not_false] | (simp only [h8, cond_true, cond_false, Bool.true_and, Bool.false_and, Bool.and_true, Bool.and_false, Bool.true_or, Bool.false_or, Bool.or_true, Bool.or_false, Bool.not_true, Bool.not_false]; rfl))
  ·skip
   rintro g9 M ⟨⟨hg4, hg5⟩, rfl⟩
   simp only [setG, hg4, hg5]
   clear hg4 hg5
   refine Rk fun K J => sE rfl (sV (.int .i64 1) rfl rfl (sE rfl (nl J (J5 _ _ (Un_s (fun K8 J8 => Sq fun K9 J9 => Rs fun K J => sE rfl (sV (.bool true) rfl rfl (nl J (W_true rfl (W_skip (J9 _ _ ?_)))))))))))
   obtain ⟨r11, hr11⟩ := nm ((bif (a.y.1 != 0) then (F_skewbackref10_sign a.y) else (bif (a.z.1 != 0) then (F_skewbackref10_sign a.z) else r4)) : W)
   refine W_join [4, 5, 11, 12, 13, 14, 15, 16, 17, 18, 19, 20, 21, 22, 23] (fun g M => (g 4 = .int .i64 ((F_skewbackref10_gcd (F_skewbackref10_gcd (F_skewbackref10_gcd (wl 0) a.t) a.z) a.y).1) ∧ g 5 = .int .i64 r11.1) ∧ M = [⟨b2, 26, flat [ci .i64 0, ci .i64 0, ci .i64 0, ci .i64 0]⟩, ⟨b1, 22, flat [ci .i64 a.x.1, ci .i64 a.y.1, ci .i64 a.z.1, ci .i64 a.t.1]⟩]) (fun K10 J10 => ?_) ?_
   ·skip
    refine W_block (Rs fun K J => sE rfl (sE rfl (sQ (qA ar_22 rfl rfl rfl) rfl (sQ (qC ty_3 rfl m1 rfl) rfl (sQ (q_ret en_59 (skewbackref10_gcd_ret (F_skewbackref10_gcd (F_skewbackref10_gcd (wl 0) a.t) a.z) a.y) rfl) rfl ?_)))))
    refine sE rfl (nl J (Rs fun K J => sE rfl (sQ (qA ar_22 rfl rfl rfl) rfl (sQ (qC ty_3 rfl m1 rfl) rfl (sE rfl (nl J ?_))))))
    rcases bt (a.y.1 != 0) with h12 | h12
    ·skip
     refine W_t h12 rfl (Rk fun K J => sE rfl (sQ (qA ar_22 rfl rfl rfl) rfl (sQ (qC ty_3 rfl m1 rfl) rfl (sQ (q_ret en_60 (skewbackref10_sign_ret a.y) rfl) rfl (sE rfl (nl J ?_))))))
     refine J10 _ _ (by repeat first | exact .refl | refine .cons rfl ?_) ⟨_, s0, ⟨?s4, ?s5⟩, rfl⟩
     case s4 => exact (show (.int .i64 ((F_skewbackref10_gcd (F_skewbackref10_gcd (F_skewbackref10_gcd (wl 0) a.t) a.z) a.y).1) : Value) = .int .i64 ((F_skewbackref10_gcd (F_skewbackref10_gcd (F_skewbackref10_gcd (wl 0) a.t) a.z) a.y).1) by rfl)
     case s5 => exact (show (.int .i64 ((F_skewbackref10_sign a.y).1) : Value) = .int .i64 r11.1 by rw [hr11]; first | done | rfl | simp only [h12, cond_true, cond_false, Bool.true_and, Bool.false_and, Bool.and_true, Bool.and_false, Bool.true_or, Bool.false_or, Bool.or_true, Bool.or_false, Bool.not_true, Bool.not_false] | (simp only [h12, cond_true, cond_false, Bool.true_and, Bool.false_and, Bool.and_true, Bool.and_false, Bool.true_or, Bool.false_or, Bool.or_true, Bool.or_false, Bool.not_true, Bool.not_false]; rfl))
    ·skip
     refine W_f h12 rfl (W_skip ?_)
     refine J10 _ _ (by repeat first | exact .refl | refine .cons rfl ?_) ⟨_, s0, ⟨?s4, ?s5⟩, rfl⟩
     case s4 => exact (show (.int .i64 ((F_skewbackref10_gcd (F_skewbackref10_gcd (F_skewbackref10_gcd (wl 0) a.t) a.z) a.y).1) : Value) = .int .i64 ((F_skewbackref10_gcd (F_skewbackref10_gcd (F_skewbackref10_gcd (wl 0) a.t) a.z) a.y).1) by rfl)
     case s5 => exact (show (.int .i64 ((bif (a.z.1 != 0) then (F_skewbackref10_sign a.z) else r4).1) : Value) = .int .i64 r11.1 by rw [hr11]; first | done | rfl | simp only [h12, cond_true, cond_false, Bool.true_and, Bool.false_and, Bool.and_true, Bool.and_false, Bool.true_or, Bool.false_or, Bool.or_true, Bool.or_false, Bool.not_true, Bool.not_false] | (simp only [h12, cond_true, cond_false, Bool.true_and, Bool.false_and, Bool.and_true, Bool.and_false, Bool.true_or, Bool.false_or, Bool.or_true, Bool.or_false, Bool.not_true, Bool.not_false]; rfl))
   ·skip
    rintro g13 M ⟨⟨hg4, hg5⟩, rfl⟩
    simp only [setG, hg4, hg5]
    clear hg4 hg5
    refine Rk fun K J => sE rfl (sV (.int .i64 0) rfl rfl (sE rfl (nl J (J8 _ _ (Un_s (fun K11 J11 => Sq fun K12 J12 => Rs fun K J => sE rfl (sV (.bool true) rfl rfl (nl J (W_true rfl (W_skip (J12 _ _ ?_)))))))))))
    refine W_join [4, 5, 11, 12, 13, 14, 15, 16, 17, 18, 19, 20, 21, 22, 23] (fun g M => (g 4 = .int .i64 ((F_skewbackref10_gcd (F_skewbackref10_gcd (F_skewbackref10_gcd (F_skewbackref10_gcd (wl 0) a.t) a.z) a.y) a.x).1) ∧ g 5 = .int .i64 ((bif (a.x.1 != 0) then (F_skewbackref10_sign a.x) else r11).1)) ∧ M = [⟨b2, 26, flat [ci .i64 0, ci .i64 0, ci .i64 0, ci .i64 0]⟩, ⟨b1, 22, flat [ci .i64 a.x.1, ci .i64 a.y.1, ci .i64 a.z.1, ci .i64 a.t.1]⟩]) (fun K13 J13 => ?_) ?_
    ·skip
     refine W_block (Rs fun K J => sE rfl (sE rfl (sQ (qA ar_22 rfl rfl rfl) rfl (sQ (qC ty_3 rfl m1 rfl) rfl (sQ (q_ret en_59 (skewbackref10_gcd_ret (F_skewbackref10_gcd (F_skewbackref10_gcd (F_skewbackref10_gcd (wl 0) a.t) a.z) a.y) a.x) rfl) rfl ?_)))))
     refine sE rfl (nl J (Rs fun K J => sE rfl (sQ (qA ar_22 rfl rfl rfl) rfl (sQ (qC ty_3 rfl m1 rfl) rfl (sE rfl (nl J ?_))))))
     rcases bt (a.x.1 != 0) with h15 | h15
     ·skip
      refine W_t h15 rfl (Rk fun K J => sE rfl (sQ (qA ar_22 rfl rfl rfl) rfl (sQ (qC ty_3 rfl m1 rfl) rfl (sQ (q_ret en_60 (skewbackref10_sign_ret a.x) rfl) rfl (sE rfl (nl J ?_))))))
      refine J13 _ _ (by repeat first | exact .refl | refine .cons rfl ?_) ⟨_, s0, ⟨?s4, ?s5⟩, rfl⟩
      case s4 => exact (show (.int .i64 ((F_skewbackref10_gcd (F_skewbackref10_gcd (F_skewbackref10_gcd (F_skewbackref10_gcd (wl 0) a.t) a.z) a.y) a.x).1) : Value) = .int .i64 ((F_skewbackref10_gcd (F_skewbackref10_gcd (F_skewbackref10_gcd (F_skewbackref10_gcd (wl 0) a.t) a.z) a.y) a.x).1) by rfl)
      case s5 => exact (show (.int .i64 ((F_skewbackref10_sign a.x).1) : Value) = .int .i64 ((bif (a.x.1 != 0) then (F_skewbackref10_sign a.x) else r11).1) by first | done | rfl | simp only [h15, cond_true, cond_false, Bool.true_and, Bool.false_and, Bool.and_true, Bool.and_false, Bool.true_or, Bool.false_or, Bool.or_true, Bool.or_false, Bool.not_true, Bool.not_false] | (simp only [h15, cond_true, cond_false, Bool.true_and, Bool.false_and, Bool.and_true, Bool.and_false, Bool.true_or, Bool.false_or, Bool.or_true, Bool.or_false, Bool.not_true, Bool.not_false]; rfl))
     ·skip
      refine W_f h15 rfl (W_skip ?_)
      refine J13 _ _ (by repeat first | exact .refl | refine .cons rfl ?_) ⟨_, s0, ⟨?s4, ?s5⟩, rfl⟩
      case s4 => exact (show (.int .i64 ((F_skewbackref10_gcd (F_skewbackref10_gcd (F_skewbackref10_gcd (F_skewbackref10_gcd (wl 0) a.t) a.z) a.y) a.x).1) : Value) = .int .i64 ((F_skewbackref10_gcd (F_skewbackref10_gcd (F_skewbackref10_gcd (F_skewbackref10_gcd (wl 0) a.t) a.z) a.y) a.x).1) by rfl)
      case s5 => exact (show (.int .i64 r11.1 : Value) = .int .i64 ((bif (a.x.1 != 0) then (F_skewbackref10_sign a.x) else r11).1) by first | done | rfl | simp only [h15, cond_true, cond_false, Bool.true_and, Bool.false_and, Bool.and_true, Bool.and_false, Bool.true_or, Bool.false_or, Bool.or_true, Bool.or_false, Bool.not_true, Bool.not_false] | (simp only [h15, cond_true, cond_false, Bool.true_and, Bool.false_and, Bool.and_true, Bool.and_false, Bool.true_or, Bool.false_or, Bool.or_true, Bool.or_false, Bool.not_true, Bool.not_false]; rfl))
    ·skip
     rintro g16 M ⟨⟨hg4, hg5⟩, rfl⟩
     simp only [setG, hg4, hg5]
     clear hg4 hg5
     refine Rk fun K J => sE rfl (sV (.int .i64 (-1)) rfl rfl (sE rfl (nl J (J11 _ _ (Un_s (fun K14 J14 => Sq fun K15 J15 => Rs fun K J => sE rfl (sV (.bool false) rfl rfl (nl J (W_false rfl (W_exit (thenK_x (thenK_x (blockK_hit (J1 _ _ (Rs fun K J => sE rfl (sE rfl (sE rfl (sV (.int .i64 ((W.neg (F_skewbackref10_gcd (F_skewbackref10_gcd (F_skewbackref10_gcd (F_skewbackref10_gcd (wl 0) a.t) a.z) a.y) a.x)).1)) rfl rfl ?_))))))))))))))))))
     refine sQ (q_as (v' := .int .i64 ((W.max (F_skewbackref10_gcd (F_skewbackref10_gcd (F_skewbackref10_gcd (F_skewbackref10_gcd (wl 0) a.t) a.z) a.y) a.x) (W.neg (F_skewbackref10_gcd (F_skewbackref10_gcd (F_skewbackref10_gcd (F_skewbackref10_gcd (wl 0) a.t) a.z) a.y) a.x))).1)) (q_maxi rfl rfl) (congrArg (Value.int .i64) (W.max_1 (F_skewbackref10_gcd (F_skewbackref10_gcd (F_skewbackref10_gcd (F_skewbackref10_gcd (wl 0) a.t) a.z) a.y) a.x) (W.neg (F_skewbackref10_gcd (F_skewbackref10_gcd (F_skewbackref10_gcd (F_skewbackref10_gcd (wl 0) a.t) a.z) a.y) a.x))))) rfl ?_
     refine sV (.int .i64 ((W.mul (bif (a.x.1 != 0) then (F_skewbackref10_sign a.x) else r11) (W.max (F_skewbackref10_gcd (F_skewbackref10_gcd (F_skewbackref10_gcd (F_skewbackref10_gcd (wl 0) a.t) a.z) a.y) a.x) (W.neg (F_skewbackref10_gcd (F_skewbackref10_gcd (F_skewbackref10_gcd (F_skewbackref10_gcd (wl 0) a.t) a.z) a.y) a.x)))).1)) rfl rfl ?_
     refine sE rfl (nl J (Sq fun K16 J16 => Rs fun K J => sE rfl (sE rfl (nl J ?_))))
     rcases bt ((W.mul (bif (a.x.1 != 0) then (F_skewbackref10_sign a.x) else r11) (W.max (F_skewbackref10_gcd (F_skewbackref10_gcd (F_skewbackref10_gcd (F_skewbackref10_gcd (wl 0) a.t) a.z) a.y) a.x) (W.neg (F_skewbackref10_gcd (F_skewbackref10_gcd (F_skewbackref10_gcd (F_skewbackref10_gcd (wl 0) a.t) a.z) a.y) a.x)))).1 == 0) with h17 | h17
     ·skip
      refine W_t h17 rfl (Rs fun K J => sQ (q_buildap zp_26 ar_26 rfl (.nil _)) rfl (sS [ci .i64 0, ci .i64 0, ci .i64 0, ci .i64 0] ty_26 rfl rfl rfl rfl rfl (.head _) rfl hb2 (sE rfl (nl J (W_ret (thenK_r (ret2 rfl (.inr rfl) (resP rfl m0 ty_26 rfl) rfl ?_)))))))
      exact (by subst hr11; subst hr4; exact congrArg (fun r : (A4 W) × Bool => (.tuple #[AV [ci .i64 r.1.x.1, ci .i64 r.1.y.1, ci .i64 r.1.z.1, ci .i64 r.1.t.1], .bool r.2] : Value)) (show _ = (F_skewbackref10_direction a) from bif_t h17 rfl))
     ·skip
      refine W_f h17 rfl (W_skip (J16 _ _ (ds (sd (sk (s0))) [0,4,8,12,16,20,24,28,32,36,40,44,48,52,56,60,64,69,72] [17] mix (by kernel_rfl) (fun K J => pQ rfl (qA ar_22 rfl rfl rfl) (pQ rfl (qC ty_3 rfl m1 rfl) (pE rfl (pQ rfl (q_as (v' := .int .i64 ((W.quo a.x (W.mul (bif (a.x.1 != 0) then (F_skewbackref10_sign a.x) else r11) (W.max (F_skewbackref10_gcd (F_skewbackref10_gcd (F_skewbackref10_gcd (F_skewbackref10_gcd (wl 0) a.t) a.z) a.y) a.x) (W.neg (F_skewbackref10_gcd (F_skewbackref10_gcd (F_skewbackref10_gcd (F_skewbackref10_gcd (wl 0) a.t) a.z) a.y) a.x))))).1)) (q_quo rfl rfl (nz_f h17)) rfl) ?_)))))))
      refine pQ rfl (qA ar_22 rfl rfl rfl) (pQ rfl (qC ty_3 rfl m1 rfl) (pE rfl (pQ rfl (q_as (v' := .int .i64 ((W.quo a.y (W.mul (bif (a.x.1 != 0) then (F_skewbackref10_sign a.x) else r11) (W.max (F_skewbackref10_gcd (F_skewbackref10_gcd (F_skewbackref10_gcd (F_skewbackref10_gcd (wl 0) a.t) a.z) a.y) a.x) (W.neg (F_skewbackref10_gcd (F_skewbackref10_gcd (F_skewbackref10_gcd (F_skewbackref10_gcd (wl 0) a.t) a.z) a.y) a.x))))).1)) (q_quo rfl rfl (nz_f h17)) rfl) ?_)))
      refine pQ rfl (qA ar_22 rfl rfl rfl) (pQ rfl (qC ty_3 rfl m1 rfl) (pE rfl (pQ rfl (q_as (v' := .int .i64 ((W.quo a.z (W.mul (bif (a.x.1 != 0) then (F_skewbackref10_sign a.x) else r11) (W.max (F_skewbackref10_gcd (F_skewbackref10_gcd (F_skewbackref10_gcd (F_skewbackref10_gcd (wl 0) a.t) a.z) a.y) a.x) (W.neg (F_skewbackref10_gcd (F_skewbackref10_gcd (F_skewbackref10_gcd (F_skewbackref10_gcd (wl 0) a.t) a.z) a.y) a.x))))).1)) (q_quo rfl rfl (nz_f h17)) rfl) ?_)))
      refine pQ rfl (qA ar_22 rfl rfl rfl) (pQ rfl (qC ty_3 rfl m1 rfl) (pE rfl (pQ rfl (q_as (v' := .int .i64 ((W.quo a.t (W.mul (bif (a.x.1 != 0) then (F_skewbackref10_sign a.x) else r11) (W.max (F_skewbackref10_gcd (F_skewbackref10_gcd (F_skewbackref10_gcd (F_skewbackref10_gcd (wl 0) a.t) a.z) a.y) a.x) (W.neg (F_skewbackref10_gcd (F_skewbackref10_gcd (F_skewbackref10_gcd (F_skewbackref10_gcd (wl 0) a.t) a.z) a.y) a.x))))).1)) (q_quo rfl rfl (nz_f h17)) rfl) ?_)))
      refine pQ rfl (q_buildap zp_26 ar_26 rfl (.cons [ci .i64 ((W.quo a.x (W.mul (bif (a.x.1 != 0) then (F_skewbackref10_sign a.x) else r11) (W.max (F_skewbackref10_gcd (F_skewbackref10_gcd (F_skewbackref10_gcd (F_skewbackref10_gcd (wl 0) a.t) a.z) a.y) a.x) (W.neg (F_skewbackref10_gcd (F_skewbackref10_gcd (F_skewbackref10_gcd (F_skewbackref10_gcd (wl 0) a.t) a.z) a.y) a.x))))).1)] [ci .i64 ((W.quo a.x (W.mul (bif (a.x.1 != 0) then (F_skewbackref10_sign a.x) else r11) (W.max (F_skewbackref10_gcd (F_skewbackref10_gcd (F_skewbackref10_gcd (F_skewbackref10_gcd (wl 0) a.t) a.z) a.y) a.x) (W.neg (F_skewbackref10_gcd (F_skewbackref10_gcd (F_skewbackref10_gcd (F_skewbackref10_gcd (wl 0) a.t) a.z) a.y) a.x))))).1), ci .i64 0, ci .i64 0, ci .i64 0] rfl rfl rfl rfl (.cons [ci .i64 ((W.quo a.y (W.mul (bif (a.x.1 != 0) then (F_skewbackref10_sign a.x) else r11) (W.max (F_skewbackref10_gcd (F_skewbackref10_gcd (F_skewbackref10_gcd (F_skewbackref10_gcd (wl 0) a.t) a.z) a.y) a.x) (W.neg (F_skewbackref10_gcd (F_skewbackref10_gcd (F_skewbackref10_gcd (F_skewbackref10_gcd (wl 0) a.t) a.z) a.y) a.x))))).1)] [ci .i64 ((W.quo a.x (W.mul (bif (a.x.1 != 0) then (F_skewbackref10_sign a.x) else r11) (W.max (F_skewbackref10_gcd (F_skewbackref10_gcd (F_skewbackref10_gcd (F_skewbackref10_gcd (wl 0) a.t) a.z) a.y) a.x) (W.neg (F_skewbackref10_gcd (F_skewbackref10_gcd (F_skewbackref10_gcd (F_skewbackref10_gcd (wl 0) a.t) a.z) a.y) a.x))))).1), ci .i64 ((W.quo a.y (W.mul (bif (a.x.1 != 0) then (F_skewbackref10_sign a.x) else r11) (W.max (F_skewbackref10_gcd (F_skewbackref10_gcd (F_skewbackref10_gcd (F_skewbackref10_gcd (wl 0) a.t) a.z) a.y) a.x) (W.neg (F_skewbackref10_gcd (F_skewbackref10_gcd (F_skewbackref10_gcd (F_skewbackref10_gcd (wl 0) a.t) a.z) a.y) a.x))))).1), ci .i64 0, ci .i64 0] rfl rfl rfl rfl (.cons [ci .i64 ((W.quo a.z (W.mul (bif (a.x.1 != 0) then (F_skewbackref10_sign a.x) else r11) (W.max (F_skewbackref10_gcd (F_skewbackref10_gcd (F_skewbackref10_gcd (F_skewbackref10_gcd (wl 0) a.t) a.z) a.y) a.x) (W.neg (F_skewbackref10_gcd (F_skewbackref10_gcd (F_skewbackref10_gcd (F_skewbackref10_gcd (wl 0) a.t) a.z) a.y) a.x))))).1)] [ci .i64 ((W.quo a.x (W.mul (bif (a.x.1 != 0) then (F_skewbackref10_sign a.x) else r11) (W.max (F_skewbackref10_gcd (F_skewbackref10_gcd (F_skewbackref10_gcd (F_skewbackref10_gcd (wl 0) a.t) a.z) a.y) a.x) (W.neg (F_skewbackref10_gcd (F_skewbackref10_gcd (F_skewbackref10_gcd (F_skewbackref10_gcd (wl 0) a.t) a.z) a.y) a.x))))).1), ci .i64 ((W.quo a.y (W.mul (bif (a.x.1 != 0) then (F_skewbackref10_sign a.x) else r11) (W.max (F_skewbackref10_gcd (F_skewbackref10_gcd (F_skewbackref10_gcd (F_skewbackref10_gcd (wl 0) a.t) a.z) a.y) a.x) (W.neg (F_skewbackref10_gcd (F_skewbackref10_gcd (F_skewbackref10_gcd (F_skewbackref10_gcd (wl 0) a.t) a.z) a.y) a.x))))).1), ci .i64 ((W.quo a.z (W.mul (bif (a.x.1 != 0) then (F_skewbackref10_sign a.x) else r11) (W.max (F_skewbackref10_gcd (F_skewbackref10_gcd (F_skewbackref10_gcd (F_skewbackref10_gcd (wl 0) a.t) a.z) a.y) a.x) (W.neg (F_skewbackref10_gcd (F_skewbackref10_gcd (F_skewbackref10_gcd (F_skewbackref10_gcd (wl 0) a.t) a.z) a.y) a.x))))).1), ci .i64 0] rfl rfl rfl rfl (.cons [ci .i64 ((W.quo a.t (W.mul (bif (a.x.1 != 0) then (F_skewbackref10_sign a.x) else r11) (W.max (F_skewbackref10_gcd (F_skewbackref10_gcd (F_skewbackref10_gcd (F_skewbackref10_gcd (wl 0) a.t) a.z) a.y) a.x) (W.neg (F_skewbackref10_gcd (F_skewbackref10_gcd (F_skewbackref10_gcd (F_skewbackref10_gcd (wl 0) a.t) a.z) a.y) a.x))))).1)] [ci .i64 ((W.quo a.x (W.mul (bif (a.x.1 != 0) then (F_skewbackref10_sign a.x) else r11) (W.max (F_skewbackref10_gcd (F_skewbackref10_gcd (F_skewbackref10_gcd (F_skewbackref10_gcd (wl 0) a.t) a.z) a.y) a.x) (W.neg (F_skewbackref10_gcd (F_skewbackref10_gcd (F_skewbackref10_gcd (F_skewbackref10_gcd (wl 0) a.t) a.z) a.y) a.x))))).1), ci .i64 ((W.quo a.y (W.mul (bif (a.x.1 != 0) then (F_skewbackref10_sign a.x) else r11) (W.max (F_skewbackref10_gcd (F_skewbackref10_gcd (F_skewbackref10_gcd (F_skewbackref10_gcd (wl 0) a.t) a.z) a.y) a.x) (W.neg (F_skewbackref10_gcd (F_skewbackref10_gcd (F_skewbackref10_gcd (F_skewbackref10_gcd (wl 0) a.t) a.z) a.y) a.x))))).1), ci .i64 ((W.quo a.z (W.mul (bif (a.x.1 != 0) then (F_skewbackref10_sign a.x) else r11) (W.max (F_skewbackref10_gcd (F_skewbackref10_gcd (F_skewbackref10_gcd (F_skewbackref10_gcd (wl 0) a.t) a.z) a.y) a.x) (W.neg (F_skewbackref10_gcd (F_skewbackref10_gcd (F_skewbackref10_gcd (F_skewbackref10_gcd (wl 0) a.t) a.z) a.y) a.x))))).1), ci .i64 ((W.quo a.t (W.mul (bif (a.x.1 != 0) then (F_skewbackref10_sign a.x) else r11) (W.max (F_skewbackref10_gcd (F_skewbackref10_gcd (F_skewbackref10_gcd (F_skewbackref10_gcd (wl 0) a.t) a.z) a.y) a.x) (W.neg (F_skewbackref10_gcd (F_skewbackref10_gcd (F_skewbackref10_gcd (F_skewbackref10_gcd (wl 0) a.t) a.z) a.y) a.x))))).1)] rfl rfl rfl rfl (.nil _)))))) ?_
      refine oS [ci .i64 ((W.quo a.x (W.mul (bif (a.x.1 != 0) then (F_skewbackref10_sign a.x) else r11) (W.max (F_skewbackref10_gcd (F_skewbackref10_gcd (F_skewbackref10_gcd (F_skewbackref10_gcd (wl 0) a.t) a.z) a.y) a.x) (W.neg (F_skewbackref10_gcd (F_skewbackref10_gcd (F_skewbackref10_gcd (F_skewbackref10_gcd (wl 0) a.t) a.z) a.y) a.x))))).1), ci .i64 ((W.quo a.y (W.mul (bif (a.x.1 != 0) then (F_skewbackref10_sign a.x) else r11) (W.max (F_skewbackref10_gcd (F_skewbackref10_gcd (F_skewbackref10_gcd (F_skewbackref10_gcd (wl 0) a.t) a.z) a.y) a.x) (W.neg (F_skewbackref10_gcd (F_skewbackref10_gcd (F_skewbackref10_gcd (F_skewbackref10_gcd (wl 0) a.t) a.z) a.y) a.x))))).1), ci .i64 ((W.quo a.z (W.mul (bif (a.x.1 != 0) then (F_skewbackref10_sign a.x) else r11) (W.max (F_skewbackref10_gcd (F_skewbackref10_gcd (F_skewbackref10_gcd (F_skewbackref10_gcd (wl 0) a.t) a.z) a.y) a.x) (W.neg (F_skewbackref10_gcd (F_skewbackref10_gcd (F_skewbackref10_gcd (F_skewbackref10_gcd (wl 0) a.t) a.z) a.y) a.x))))).1), ci .i64 ((W.quo a.t (W.mul (bif (a.x.1 != 0) then (F_skewbackref10_sign a.x) else r11) (W.max (F_skewbackref10_gcd (F_skewbackref10_gcd (F_skewbackref10_gcd (F_skewbackref10_gcd (wl 0) a.t) a.z) a.y) a.x) (W.neg (F_skewbackref10_gcd (F_skewbackref10_gcd (F_skewbackref10_gcd (F_skewbackref10_gcd (wl 0) a.t) a.z) a.y) a.x))))).1)] ty_26 rfl rfl rfl rfl rfl rfl (.head _) rfl hb2 rfl (sd s0) ?_
      refine pE rfl (fl J (W_ret (ret2 rfl (.inr rfl) (resP rfl m0 ty_26 rfl) rfl ?_)))
      exact (by subst hr11; subst hr4; exact congrArg (fun r : (A4 W) × Bool => (.tuple #[AV [ci .i64 r.1.x.1, ci .i64 r.1.y.1, ci .i64 r.1.z.1, ci .i64 r.1.t.1], .bool r.2] : Value)) (show _ = (F_skewbackref10_direction a) from bif_f h17 rfl))

theorem skewbackref10_Valid_ret (a : (A4 W)) :
    Ret Try.prog 8 [AV [ci .i64 a.x.1, ci .i64 a.y.1, ci .i64 a.z.1, ci .i64 a.t.1]] (.bool (F_skewbackref10_Valid a)) := by
 refine ret_of_W (N := 19) Try.func8 rfl rfl (by simp) (fun w0 => ?_)
 simp only [initF, Nat.reduceAdd]
 refine Rs fun K J => WL_r rfl (r_boxp rfl rfl (fun b1 hb1 => sE rfl (nl J (Sq fun K1 J1 => Rs fun K J => sQ (qL ty_26 rfl m0 rfl) rfl (sQ (q_ret en_37 (skewbackref10_low_ret a) rfl) rfl (sE rfl (nl J ?_)))))))
 rcases bt (F_skewbackref10_low a) with h2 | h2
 ·skip
  refine W_f (not_f h2) rfl (W_skip (J1 _ _ (Rs fun K J => sQ (qL ty_26 rfl m0 rfl) rfl ?_)))
  obtain ⟨r3, hr3⟩ := nm ((F_skewbackref10_direction a).1 : (A4 W))
  refine sC (.tuple #[AV [ci .i64 r3.x.1, ci .i64 r3.y.1, ci .i64 r3.z.1, ci .i64 r3.t.1], .bool ((F_skewbackref10_direction a).2)]) en_38 (skewbackref10_direction_ret a) rfl rfl (by rw [hr3]; first | done | rfl) (sE rfl (sE rfl (sE rfl (sN zp_26 rfl fun b4 hb4 => sS [ci .i64 r3.x.1, ci .i64 r3.y.1, ci .i64 r3.z.1, ci .i64 r3.t.1] ty_26 rfl rfl rfl rfl rfl (.head _) rfl hb4 (sE rfl (nl J ?_))))))
  refine W_join [2, 13, 14, 15, 16, 17, 18] (fun g M => (g 2 = .bool ((F_skewbackref10_direction a).2 && (decide (r3.x.1 = a.x.1) && (decide (r3.y.1 = a.y.1) && (decide (r3.z.1 = a.z.1) && decide (r3.t.1 = a.t.1)))))) ∧ M = [⟨b4, 26, flat [ci .i64 r3.x.1, ci .i64 r3.y.1, ci .i64 r3.z.1, ci .i64 r3.t.1]⟩, ⟨b1, 26, flat [ci .i64 a.x.1, ci .i64 a.y.1, ci .i64 a.z.1, ci .i64 a.t.1]⟩]) (fun K2 J2 => ?_) ?_
  ·skip
   refine Rk fun K J => sE rfl ?_
   rcases bt ((F_skewbackref10_direction a).2) with h6 | h6
   ·skip
    refine sB h6 rfl (sQ (qL ty_26 rfl m0 rfl) rfl (sQ (qL ty_26 rfl m1 rfl) rfl (sQ (q_eqla (r := (decide (r3.x.1 = a.x.1) && (decide (r3.y.1 = a.y.1) && (decide (r3.z.1 = a.z.1) && decide (r3.t.1 = a.t.1))))) rfl rfl (eqOk_of 8 (by decide) eg_26 lw_26 (lv_cons lv_ci (lv_cons lv_ci (lv_cons lv_ci (lv_one lv_ci)))) (lv_cons lv_ci (lv_cons lv_ci (lv_cons lv_ci (lv_one lv_ci)))) (eqP_cons rfl eq_ci (eqP_cons rfl eq_ci (eqP_cons rfl eq_ci (eqP_one eq_ci)))))) rfl (sE rfl (sE rfl (nl J ?_))))))
    refine J2 _ _ (by repeat first | exact .refl | refine .cons rfl ?_) ⟨_, s0, ?s2, rfl⟩
    case s2 => exact congrArg Value.bool (and_t h6 rfl)
   ·skip
    refine sB h6 rfl (WL_n rfl (WL_n rfl (WL_n rfl (sE rfl (sE rfl (nl J ?_))))))
    refine J2 _ _ (by repeat first | exact .refl | refine .cons rfl ?_) ⟨_, s0, ?s2, rfl⟩
    case s2 => exact congrArg Value.bool (and_f h6)
  ·skip
   rintro g7 M ⟨hg2, rfl⟩
   simp only [setG, hg2]
   clear hg2
   refine W_ret (ret1 rfl (.inr rfl) rfl ?_)
   exact (by subst hr3; exact congrArg (fun r : Bool => (.bool r : Value)) (show _ = (F_skewbackref10_Valid a) from bif_t h2 rfl))
 ·skip
  refine W_t (not_t h2) rfl (Rs fun K J => sE rfl (nl J (W_ret (thenK_r (ret1 rfl (.inr rfl) rfl ?_)))))
  exact (by exact congrArg (fun r : Bool => (.bool r : Value)) (show _ = (F_skewbackref10_Valid a) from bif_f h2 rfl))

theorem skewbackref10_Bound_ret (a : (A3 W)) :
    Ret Try.prog 11 [AV [ci .i64 a.x.1, ci .i64 a.y.1, ci .i64 a.z.1]] (.bool (F_skewbackref10_Bound a)) := by
 refine ret_of_W (N := 18) Try.func11 rfl rfl (by simp) (fun w0 => ?_)
 simp only [initF, Nat.reduceAdd]
 refine Rs fun K J => WL_r rfl (r_boxp rfl rfl (fun b1 hb1 => sE rfl (nl J (Sq fun K1 J1 => Rs fun K J => sE rfl (nl J (W_block (W_un 5 (Un_s (fun K2 J2 => Sq fun K3 J3 => Rs fun K J => sE rfl (sV (.bool true) rfl rfl (nl J (W_true rfl (W_skip (J3 _ _ (Sq fun K4 J4 => ?_)))))))))))))))
 refine W_block ?_
 refine W_join [8, 9, 10, 11, 12, 13, 14, 15, 16, 17] (fun g M => (g 17 = .bool (decide (1099511627776 < a.x.1) || decide (a.x.1 < (-1099511627776)))) ∧ M = [⟨b1, 42, flat [ci .i64 a.x.1, ci .i64 a.y.1, ci .i64 a.z.1]⟩]) (fun K5 J5 => ?_) ?_
 ·skip
  refine Rk fun K J => sE rfl (sQ (qA ar_42 rfl rfl rfl) rfl (sQ (qC ty_3 rfl m0 rfl) rfl (sE rfl ?_)))
  rcases bt (decide (1099511627776 < a.x.1)) with h3 | h3
  ·skip
   refine sB h3 rfl (WL_n rfl (WL_n rfl (WL_n rfl (WL_n rfl (sE rfl (nl J ?_))))))
   refine J5 _ _ (by repeat first | exact .refl | refine .cons rfl ?_) ⟨_, s0, ?s17, rfl⟩
   case s17 => exact congrArg Value.bool (or_t h3)
  ·skip
   refine sB h3 rfl (sE rfl (sQ (qA ar_42 rfl rfl rfl) rfl (sQ (qC ty_3 rfl m0 rfl) rfl (sE rfl (sE rfl (nl J ?_))))))
   refine J5 _ _ (by repeat first | exact .refl | refine .cons rfl ?_) ⟨_, s0, ?s17, rfl⟩
   case s17 => exact congrArg Value.bool (or_f h3 rfl)
 ·skip
  rintro g4 M ⟨hg17, rfl⟩
  simp only [setG, hg17]
  clear hg17
  rcases bt (decide (1099511627776 < a.x.1) || decide (a.x.1 < (-1099511627776))) with h5 | h5
  ·skip
   refine W_t h5 rfl (Rs fun K J => sE rfl (nl J (W_ret (blockK_r (thenK_r (thenK_r (blockK_r (thenK_r (ret1 rfl (.inr rfl) rfl ?_)))))))))
   exact (by exact congrArg (fun r : Bool => (.bool r : Value)) (show _ = (F_skewbackref10_Bound a) from bif_t h5 rfl))
  ·skip
   refine W_f h5 rfl (W_skip (J4 _ _ (Rk fun K J => sE rfl (sV (.int .i64 1) rfl rfl (sE rfl (nl J (J2 _ _ (Un_s (fun K6 J6 => Sq fun K7 J7 => Rs fun K J => sE rfl (sV (.bool true) rfl rfl (nl J (W_true rfl (W_skip (J7 _ _ (Sq fun K8 J8 => W_block ?_)))))))))))))))
   refine W_join [8, 9, 10, 11, 12, 13, 14, 15, 16, 17] (fun g M => (g 17 = .bool (decide (1099511627776 < a.y.1) || decide (a.y.1 < (-1099511627776)))) ∧ M = [⟨b1, 42, flat [ci .i64 a.x.1, ci .i64 a.y.1, ci .i64 a.z.1]⟩]) (fun K9 J9 => ?_) ?_
   ·skip
    refine Rk fun K J => sE rfl (sQ (qA ar_42 rfl rfl rfl) rfl (sQ (qC ty_3 rfl m0 rfl) rfl (sE rfl ?_)))
    rcases bt (decide (1099511627776 < a.y.1)) with h7 | h7
    ·skip
     refine sB h7 rfl (WL_n rfl (WL_n rfl (WL_n rfl (WL_n rfl (sE rfl (nl J ?_))))))
     refine J9 _ _ (by repeat first | exact .refl | refine .cons rfl ?_) ⟨_, s0, ?s17, rfl⟩
     case s17 => exact congrArg Value.bool (or_t h7)
    ·skip
     refine sB h7 rfl (sE rfl (sQ (qA ar_42 rfl rfl rfl) rfl (sQ (qC ty_3 rfl m0 rfl) rfl (sE rfl (sE rfl (nl J ?_))))))
     refine J9 _ _ (by repeat first | exact .refl | refine .cons rfl ?_) ⟨_, s0, ?s17, rfl⟩
     case s17 => exact congrArg Value.bool (or_f h7 rfl)
   ·skip
    rintro g8 M ⟨hg17, rfl⟩
    simp only [setG, hg17]
    clear hg17
    rcases bt (decide (1099511627776 < a.y.1) || decide (a.y.1 < (-1099511627776))) with h9 | h9
    ·skip
     refine W_t h9 rfl (Rs fun K J => sE rfl (nl J (W_ret (blockK_r (thenK_r (thenK_r (blockK_r (thenK_r (ret1 rfl (.inr rfl) rfl ?_)))))))))
     exact (by exact congrArg (fun r : Bool => (.bool r : Value)) (show _ = (F_skewbackref10_Bound a) from bif_f h5 (bif_t h9 rfl)))
    ·skip
     refine W_f h9 rfl (W_skip (J8 _ _ (Rk fun K J => sE rfl (sV (.int .i64 2) rfl rfl (sE rfl (nl J (J6 _ _ (Un_s (fun K10 J10 => Sq fun K11 J11 => Rs fun K J => sE rfl (sV (.bool true) rfl rfl (nl J (W_true rfl (W_skip (J11 _ _ (Sq fun K12 J12 => W_block ?_)))))))))))))))
     refine W_join [8, 9, 10, 11, 12, 13, 14, 15, 16, 17] (fun g M => (g 17 = .bool (decide (1099511627776 < a.z.1) || decide (a.z.1 < (-1099511627776)))) ∧ M = [⟨b1, 42, flat [ci .i64 a.x.1, ci .i64 a.y.1, ci .i64 a.z.1]⟩]) (fun K13 J13 => ?_) ?_
     ·skip
      refine Rk fun K J => sE rfl (sQ (qA ar_42 rfl rfl rfl) rfl (sQ (qC ty_3 rfl m0 rfl) rfl (sE rfl ?_)))
      rcases bt (decide (1099511627776 < a.z.1)) with h11 | h11
      ·skip
       refine sB h11 rfl (WL_n rfl (WL_n rfl (WL_n rfl (WL_n rfl (sE rfl (nl J ?_))))))
       refine J13 _ _ (by repeat first | exact .refl | refine .cons rfl ?_) ⟨_, s0, ?s17, rfl⟩
       case s17 => exact congrArg Value.bool (or_t h11)
      ·skip
       refine sB h11 rfl (sE rfl (sQ (qA ar_42 rfl rfl rfl) rfl (sQ (qC ty_3 rfl m0 rfl) rfl (sE rfl (sE rfl (nl J ?_))))))
       refine J13 _ _ (by repeat first | exact .refl | refine .cons rfl ?_) ⟨_, s0, ?s17, rfl⟩
       case s17 => exact congrArg Value.bool (or_f h11 rfl)
     ·skip
      rintro g12 M ⟨hg17, rfl⟩
      simp only [setG, hg17]
      clear hg17
      rcases bt (decide (1099511627776 < a.z.1) || decide (a.z.1 < (-1099511627776))) with h13 | h13
      ·skip
       refine W_t h13 rfl (Rs fun K J => sE rfl (nl J (W_ret (blockK_r (thenK_r (thenK_r (blockK_r (thenK_r (ret1 rfl (.inr rfl) rfl ?_)))))))))
       exact (by exact congrArg (fun r : Bool => (.bool r : Value)) (show _ = (F_skewbackref10_Bound a) from bif_f h5 (bif_f h9 (bif_t h13 rfl))))
      ·skip
       refine W_f h13 rfl (W_skip (J12 _ _ (Rk fun K J => sE rfl (sV (.int .i64 3) rfl rfl (sE rfl (nl J (J10 _ _ (Un_s (fun K14 J14 => Sq fun K15 J15 => Rs fun K J => sE rfl (sV (.bool false) rfl rfl (nl J (W_false rfl (W_exit (thenK_x (thenK_x (blockK_hit (J1 _ _ (Rs fun K J => sE rfl ?_))))))))))))))))))
       refine nl J (W_ret (ret1 rfl (.inr rfl) rfl ?_))
       exact (by exact congrArg (fun r : Bool => (.bool r : Value)) (show _ = (F_skewbackref10_Bound a) from bif_f h5 (bif_f h9 (bif_f h13 rfl))))
end Go.Proofs.Ytnfbkngfdemkpaa
