/- Walks: what these functions return. -/
import Derived.Test.YtapbefpeopaecaaGreatDoorYGE
import Derived.Test.YtapbefpeopaecaaGreatDoorYFn
import Derived.Test.YtapbefpeopaecaaGreatDoorYSa
import Derived.Test.YtapbefpeopaecaaGreatDoorYSb
import Derived.Test.YtapbefpeopaecaaGreatDoorYSg
import Derived.Test.YtapbefpeopaecaaGreatDoorYSh
import Derived.Test.YtapbefpeopaecaaGreatDoorYWa
import Derived.Test.YtapbefpeopaecaaGreatDoorYWc
import Derived.Test.YtapbefpeopaecaaGreatDoorYWe
import Derived.Test.YtapbefpeopaecaaGreatDoorYWh
import Derived.Test.YtapbefpeopaecaaGreatDoorYWi
namespace Go.Proofs.YtapbefpeopaecaaGreatDoor
open Go.Kn Go.Num
set_option linter.unusedVariables false
set_option linter.unusedSimpArgs false
set_option maxRecDepth 20000
set_option maxHeartbeats 8000000
theorem fF_  :
    Ret Tryz.prog 144 [] (AV [pI F_ratio_one]) := by
 refine av_ (N := 2) Tryz.func144 rfl rfl (by simp) (fun w0 => ?_)
 simp only [initF, Nat.reduceAdd]
 obtain ⟨q0, hq0⟩ := nm ((E (Z.of 1)) : I)
 refine Rs fun K J => sN zp_37 rfl fun b1 hb1 => nl J (Rs fun K J => sC (AV [pI q0]) en_61 (bJ_ (wl 1).1 (wl 1).2) rfl rfl (by rw [hq0]; first | done | rfl) ?_)
 refine sS [pI q0] ty_37 rfl rfl rfl rfl rfl (.head _) rfl hb1 (nl J (W_ret (ret1 rfl (.inr rfl) (resP rfl m0 ty_37 rfl) ?_)))
 exact (by subst hq0; rfl)

theorem da_  :
    Ret Tryz.prog 104 [] (AV [pI ei_.n, pI ei_.d]) := by
 refine av_ (N := 4) Tryz.func104 rfl rfl (by simp) (fun w0 => ?_)
 simp only [initF, Nat.reduceAdd]
 obtain ⟨q0, hq0⟩ := nm ((E Z.bad) : I)
 obtain ⟨q1, hq1⟩ := nm (F_ratio_one : I)
 refine Rs fun K J => sN zp_39 rfl fun b1 hb1 => nl J (Rs fun K J => sC (AV [pI q0]) eL_ bW_ rfl rfl (by rw [hq0]; first | done | rfl) (sC (AV [pI q1]) mw_ fF_ rfl rfl (by rw [hq1]; first | done | rfl) (sQ (cy_ zp_39 pl_39 rfl (.cons [pI q0] [pI q0, pI I0] rfl rfl rfl rfl (.cons [pI q1] [pI q0, pI q1] rfl rfl rfl rfl (.nil _)))) rfl (sS [pI q0, pI q1] ty_39 rfl rfl rfl rfl rfl (.head _) rfl hb1 (nl J (W_ret (ret1 rfl (.inr rfl) (resP rfl m0 ty_39 rfl) ?_)))))))
 exact (by subst hq1; subst hq0; rfl)

theorem eF_ (a : I) :
    Ret Tryz.prog 106 [AV [pI a]] (.bool (ch_ a)) := by
 refine av_ (N := 10) Tryz.func106 rfl rfl (by simp) (fun w0 => ?_)
 simp only [initF, Nat.reduceAdd]
 refine Rs fun K J => WL_r rfl (a1_ rfl rfl (fun b1 hb1 => sE rfl (nl J ?_)))
 refine bQ_ [2, 3, 4, 5, 6, 7, 8, 9] (fun g M => (g 2 = .bool (!a.1.bad && a.1.valid)) ∧ M = [⟨b1, 37, flat [pI a]⟩]) (fun K1 J1 => ?_) ?_
 ·skip
  refine Rk fun K J => sQ (qF ea_ rfl rfl) rfl (sQ (qC ty_4 rfl m0 rfl) rfl (sE rfl ?_))
  rcases bt a.1.bad with h3 | h3
  ·skip
   refine sB (not_f h3) rfl (WL_n rfl (WL_n rfl (sE rfl (sE rfl (nl J ?_)))))
   refine J1 _ _ (by repeat first | exact .refl | refine .cons rfl ?_) ⟨_, s0, ?s2, rfl⟩
   case s2 => exact congrArg Value.bool (hu_ h3)
  ·skip
   refine sB (not_t h3) rfl (sQ (qL ty_37 rfl m0 rfl) rfl (sC (.bool a.1.valid) mK_ (e6_ a.1 a.2) rfl rfl rfl (sE rfl (sE rfl (nl J ?_)))))
   refine J1 _ _ (by repeat first | exact .refl | refine .cons rfl ?_) ⟨_, s0, ?s2, rfl⟩
   case s2 => exact congrArg Value.bool (fz_ h3 rfl)
 ·skip
  rintro g4 M ⟨hg2, rfl⟩
  simp only [setG, hg2]
  clear hg2
  refine W_ret (ret1 rfl (.inr rfl) rfl ?_)
  exact (by rfl)

theorem c0_ (a : Rt) :
    Ret Tryz.prog 103 [AV [pI a.n, pI a.d]] (.bool (a5_ a)) := by
 refine av_ (N := 26) Tryz.func103 rfl rfl (by simp) (fun w0 => ?_)
 simp only [initF, Nat.reduceAdd]
 refine Rs fun K J => WL_r rfl (a1_ rfl rfl (fun b1 hb1 => sE rfl (nl J ?_)))
 refine bQ_ [2, 3, 4, 5, 6, 7, 8, 9, 10, 11, 12, 13, 14, 15, 16, 17, 18, 19, 20, 21, 22, 23, 24, 25] (fun g M => (g 2 = .bool ((ch_ a.n) && ((ch_ a.d) && (decide (0 < (Z.signW a.d.dec).1) && decide ((E (Z.gcd a.n.dec a.d.dec)) = F_ratio_one))))) ∧ M = [⟨b1, 39, flat [pI a.n, pI a.d]⟩]) (fun K1 J1 => ?_) ?_
 ·skip
  refine Rk fun K J => sQ (qF cu_ rfl rfl) rfl (sQ (qL ty_37 rfl m0 rfl) rfl (sQ (q_ret le_ (eF_ a.n) rfl) rfl ?_))
  rcases bt (ch_ a.n) with h5 | h5
  ·skip
   refine sB h5 rfl (sQ (qF b0_ rfl rfl) rfl (sQ (qL ty_37 rfl m0 rfl) rfl (sQ (q_ret le_ (eF_ a.d) rfl) rfl (sE rfl ?_))))
   rcases bt (ch_ a.d) with h6 | h6
   ·skip
    refine sB h6 rfl (sQ (qF b0_ rfl rfl) rfl (sQ (qL ty_37 rfl m0 rfl) rfl (sC (.int .i64 ((Z.signW a.d.dec).1)) fu_ (cf_ a.d.1 a.d.2) rfl rfl rfl (sE rfl (sE rfl ?_)))))
    rcases bt (decide (0 < (Z.signW a.d.dec).1)) with h7 | h7
    ·skip
     refine sB h7 rfl (sQ (qF cu_ rfl rfl) rfl (sQ (qL ty_37 rfl m0 rfl) rfl (sQ (qF b0_ rfl rfl) rfl (sQ (qL ty_37 rfl m0 rfl) rfl (sC (AV [pI (E (Z.gcd a.n.dec a.d.dec))]) hB_ (d7_ a.n.1 a.d.1 a.n.2 a.d.2) rfl rfl rfl (sQ (q_ret mw_ fF_  rfl) rfl ?_))))))
     refine sQ (h0_ (r := decide ((E (Z.gcd a.n.dec a.d.dec)) = F_ratio_one)) rfl rfl (dU_ 8 (by decide) eg_37 lw_37 (d9_ lv_pI) (d9_ lv_pI) (e4_ eq_pI))) rfl (sE rfl (sE rfl (nl J ?_)))
     refine J1 _ _ (by repeat first | exact .refl | refine .cons rfl ?_) ⟨_, s0, ?s2, rfl⟩
     case s2 => exact congrArg Value.bool (and_t h5 (and_t h6 (and_t h7 rfl)))
    ·skip
     refine sB h7 rfl (WL_n rfl (WL_n rfl (WL_n rfl (WL_n rfl (WL_n rfl (WL_n rfl (WL_n rfl (sE rfl (sE rfl (nl J ?_))))))))))
     refine J1 _ _ (by repeat first | exact .refl | refine .cons rfl ?_) ⟨_, s0, ?s2, rfl⟩
     case s2 => exact congrArg Value.bool (and_t h5 (and_t h6 (and_f h7)))
   ·skip
    refine sB h6 rfl (WL_n rfl (WL_n rfl (WL_n rfl (WL_n rfl (sE rfl (sE rfl (WL_n rfl (WL_n rfl (WL_n rfl (WL_n rfl (WL_n rfl (WL_n rfl (WL_n rfl (sE rfl (sE rfl (nl J ?_))))))))))))))))
    refine J1 _ _ (by repeat first | exact .refl | refine .cons rfl ?_) ⟨_, s0, ?s2, rfl⟩
    case s2 => exact congrArg Value.bool (and_t h5 (and_f h6))
  ·skip
   refine sB h5 rfl (WL_n rfl (WL_n rfl (WL_n rfl (sE rfl (sE rfl (WL_n rfl (WL_n rfl (WL_n rfl (WL_n rfl (sE rfl (sE rfl (WL_n rfl (WL_n rfl (WL_n rfl (WL_n rfl (WL_n rfl (WL_n rfl (WL_n rfl (sE rfl ?_)))))))))))))))))))
   refine sE rfl (nl J ?_)
   refine J1 _ _ (by repeat first | exact .refl | refine .cons rfl ?_) ⟨_, s0, ?s2, rfl⟩
   case s2 => exact congrArg Value.bool (and_f h5)
 ·skip
  rintro g8 M ⟨hg2, rfl⟩
  simp only [setG, hg2]
  clear hg2
  refine W_ret (ret1 rfl (.inr rfl) rfl ?_)
  exact (by rfl)

theorem c1_ (a : I) (b : I) :
    Ret Tryz.prog 59 [AV [pI a], AV [pI b]] (AV [pI ((ap_ a b).n), pI ((ap_ a b).d)]) := by
 refine av_ (N := 35) Tryz.func59 rfl rfl (by simp) (fun w0 => ?_)
 simp only [initF, Nat.reduceAdd]
 refine Rs fun K J => WL_r rfl (a1_ rfl rfl (fun b1 hb1 => WL_r rfl (a1_ rfl rfl (fun b2 hb2 => sN zp_39 rfl fun b3 hb3 => nl J (Sq fun K1 J1 => ?_)))))
 refine bQ_ [6, 7, 8, 9, 10, 11, 12, 13, 14, 15, 16, 17, 18] (fun g M => (g 18 = .bool (!(ch_ a) || (!(ch_ b) || ((Z.signW b.dec).1 == 0)))) ∧ M = [⟨b3, 39, flat [pI I0, pI I0]⟩, ⟨b2, 37, flat [pI b]⟩, ⟨b1, 37, flat [pI a]⟩]) (fun K2 J2 => ?_) ?_
 ·skip
  refine Rk fun K J => sQ (qL ty_37 rfl m2 rfl) rfl (sQ (q_ret le_ (eF_ a) rfl) rfl (sE rfl ?_))
  rcases bt (ch_ a) with h6 | h6
  ·skip
   refine sB (not_f h6) rfl (sQ (qL ty_37 rfl m1 rfl) rfl (sQ (q_ret le_ (eF_ b) rfl) rfl (sE rfl (sE rfl ?_))))
   rcases bt (ch_ b) with h7 | h7
   ·skip
    refine sB (not_f h7) rfl (sQ (qL ty_37 rfl m1 rfl) rfl (sC (.int .i64 ((Z.signW b.dec).1)) fu_ (cf_ b.1 b.2) rfl rfl rfl (sE rfl (sE rfl (nl J ?_)))))
    refine J2 _ _ (by repeat first | exact .refl | refine .cons rfl ?_) ⟨_, s0, ?s18, rfl⟩
    case s18 => exact congrArg Value.bool (nor_t h6 (nor_t h7 rfl))
   ·skip
    refine sB (not_t h7) rfl (WL_n rfl (WL_n rfl (WL_n rfl (sE rfl (nl J ?_)))))
    refine J2 _ _ (by repeat first | exact .refl | refine .cons rfl ?_) ⟨_, s0, ?s18, rfl⟩
    case s18 => exact congrArg Value.bool (nor_t h6 (nor_f h7))
  ·skip
   refine sB (not_t h6) rfl (WL_n rfl (WL_n rfl (WL_n rfl (sE rfl (sE rfl (WL_n rfl (WL_n rfl (WL_n rfl (sE rfl (nl J ?_))))))))))
   refine J2 _ _ (by repeat first | exact .refl | refine .cons rfl ?_) ⟨_, s0, ?s18, rfl⟩
   case s18 => exact congrArg Value.bool (nor_f h6)
 ·skip
  rintro g8 M ⟨hg18, rfl⟩
  simp only [setG, hg18]
  clear hg18
  rcases bt (!(ch_ a) || (!(ch_ b) || ((Z.signW b.dec).1 == 0))) with h9 | h9
  ·skip
   refine W_t h9 rfl (Rs fun K J => sQ (q_ret g9_ da_  rfl) rfl (sS [pI ei_.n, pI ei_.d] ty_39 rfl rfl rfl rfl rfl (.head _) rfl hb3 (nl J (W_ret (ai_ (ret1 rfl (.inr rfl) (resP rfl m0 ty_39 rfl) ?_))))))
   exact (by exact congrArg (fun r : Rt => (AV [pI r.n, pI r.d] : Value)) (show _ = (ap_ a b) from bif_t h9 rfl))
  ·skip
   refine W_f h9 rfl (ak_ (J1 _ _ (Rs fun K J => sQ (qL ty_37 rfl m2 rfl) rfl (sQ (qL ty_37 rfl m1 rfl) rfl (sC (AV [pI (E (Z.gcd a.dec b.dec))]) hB_ (d7_ a.1 b.1 a.2 b.2) rfl rfl rfl (sN zp_37 rfl fun b10 hb10 => sS [pI (E (Z.gcd a.dec b.dec))] ty_37 rfl rfl rfl rfl rfl (.head _) rfl hb10 (nl J (Sq fun K3 J3 => Rs fun K J => sQ (qL ty_37 rfl m2 rfl) rfl (sC (.int .i64 ((Z.signW b.dec).1)) fu_ (cf_ b.1 b.2) rfl rfl rfl (sE rfl (nl J ?_)))))))))))
   rcases bt (decide ((Z.signW b.dec).1 < 0)) with h11 | h11
   ·skip
    refine W_t h11 rfl (Rk fun K J => sQ (qL ty_37 rfl m0 rfl) rfl (sC (AV [pI (E (Z.neg (Z.gcd a.dec b.dec)))]) k1_ (e1_ (E (Z.gcd a.dec b.dec)).1 (E (Z.gcd a.dec b.dec)).2) rfl rfl (cg1 (fun p => AV [pI (E (Z.neg p))]) (E_dec _)) (sS [pI (E (Z.neg (Z.gcd a.dec b.dec)))] ty_37 rfl rfl rfl rfl rfl (.head _) rfl hb10 (nl J (J3 _ _ (ds (sk (sd (sk (sk (s0))))) [0,4,8,12,16,20,24,29] [7] mix (by kernel_rfl) (fun K J => pQ rfl (qL ty_37 rfl m3 rfl) (pQ rfl (qL ty_37 rfl m0 rfl) (pC (AV [pI (E (Z.quo a.dec (Z.neg (Z.gcd a.dec b.dec))))]) en_97 (cj_ a.1 (E (Z.neg (Z.gcd a.dec b.dec))).1 a.2 (E (Z.neg (Z.gcd a.dec b.dec))).2) rfl rfl (cg2 (fun p q => AV [pI (E (Z.quo p q))]) rfl (E_dec _)) (pQ rfl (qL ty_37 rfl m2 rfl) (pQ rfl (qL ty_37 rfl m0 rfl) (pC (AV [pI (E (Z.quo b.dec (Z.neg (Z.gcd a.dec b.dec))))]) en_97 (cj_ b.1 (E (Z.neg (Z.gcd a.dec b.dec))).1 b.2 (E (Z.neg (Z.gcd a.dec b.dec))).2) rfl rfl (cg2 (fun p q => AV [pI (E (Z.quo p q))]) rfl (E_dec _)) (pQ rfl (cy_ zp_39 pl_39 rfl (.cons [pI (E (Z.quo a.dec (Z.neg (Z.gcd a.dec b.dec))))] [pI (E (Z.quo a.dec (Z.neg (Z.gcd a.dec b.dec)))), pI I0] rfl rfl rfl rfl (.cons [pI (E (Z.quo b.dec (Z.neg (Z.gcd a.dec b.dec))))] [pI (E (Z.quo a.dec (Z.neg (Z.gcd a.dec b.dec)))), pI (E (Z.quo b.dec (Z.neg (Z.gcd a.dec b.dec))))] rfl rfl rfl rfl (.nil _)))) (oS [pI (E (Z.quo a.dec (Z.neg (Z.gcd a.dec b.dec)))), pI (E (Z.quo b.dec (Z.neg (Z.gcd a.dec b.dec))))] ty_39 rfl rfl rfl rfl rfl rfl (.tail _ (.head _)) rfl hb3 rfl (sk (sd s0)) (fl J (W_ret (ret1 rfl (.inr rfl) (resP rfl m1 ty_39 rfl) ?_)))))))))))))))))
    exact (by exact congrArg (fun r : Rt => (AV [pI r.n, pI r.d] : Value)) (show _ = (ap_ a b) from bif_f h9 (bif_t h11 rfl)))
   ·skip
    refine W_f h11 rfl (ak_ (J3 _ _ (ds (sk (sd (sk (sk (s0))))) [0,4,8,12,16,20,24,29] [7] mix (by kernel_rfl) (fun K J => pQ rfl (qL ty_37 rfl m3 rfl) (pQ rfl (qL ty_37 rfl m0 rfl) (pC (AV [pI (E (Z.quo a.dec (Z.gcd a.dec b.dec)))]) en_97 (cj_ a.1 (E (Z.gcd a.dec b.dec)).1 a.2 (E (Z.gcd a.dec b.dec)).2) rfl rfl (cg2 (fun p q => AV [pI (E (Z.quo p q))]) rfl (E_dec _)) (pQ rfl (qL ty_37 rfl m2 rfl) (pQ rfl (qL ty_37 rfl m0 rfl) (pC (AV [pI (E (Z.quo b.dec (Z.gcd a.dec b.dec)))]) en_97 (cj_ b.1 (E (Z.gcd a.dec b.dec)).1 b.2 (E (Z.gcd a.dec b.dec)).2) rfl rfl (cg2 (fun p q => AV [pI (E (Z.quo p q))]) rfl (E_dec _)) (pQ rfl (cy_ zp_39 pl_39 rfl (.cons [pI (E (Z.quo a.dec (Z.gcd a.dec b.dec)))] [pI (E (Z.quo a.dec (Z.gcd a.dec b.dec))), pI I0] rfl rfl rfl rfl (.cons [pI (E (Z.quo b.dec (Z.gcd a.dec b.dec)))] [pI (E (Z.quo a.dec (Z.gcd a.dec b.dec))), pI (E (Z.quo b.dec (Z.gcd a.dec b.dec)))] rfl rfl rfl rfl (.nil _)))) (oS [pI (E (Z.quo a.dec (Z.gcd a.dec b.dec))), pI (E (Z.quo b.dec (Z.gcd a.dec b.dec)))] ty_39 rfl rfl rfl rfl rfl rfl (.tail _ (.head _)) rfl hb3 rfl (sk (sd s0)) (fl J (W_ret (ret1 rfl (.inr rfl) (resP rfl m1 ty_39 rfl) ?_))))))))))))))
    exact (by exact congrArg (fun r : Rt => (AV [pI r.n, pI r.d] : Value)) (show _ = (ap_ a b) from bif_f h9 (bif_f h11 rfl)))

theorem hU_ (a : I) :
    Ret Tryz.prog 113 [AV [pI a]] (AV [pI ((en_ a).n), pI ((en_ a).d)]) := by
 refine av_ (N := 6) Tryz.func113 rfl rfl (by simp) (fun w0 => ?_)
 simp only [initF, Nat.reduceAdd]
 refine Rs fun K J => WL_r rfl (a1_ rfl rfl (fun b1 hb1 => sN zp_39 rfl fun b2 hb2 => nl J (ds (sd (sk (s0))) [0,4,8,13] [3] mix (by kernel_rfl) (fun K J => pQ rfl (qL ty_37 rfl m1 rfl) (pQ rfl (q_ret mw_ fF_  rfl) (pQ rfl (q_ret en_59 (c1_ a F_ratio_one) rfl) (oS [pI ((ap_ a F_ratio_one).n), pI ((ap_ a F_ratio_one).d)] ty_39 rfl rfl rfl rfl rfl rfl (.head _) rfl hb2 rfl (sd s0) (fl J (W_ret (ret1 rfl (.inr rfl) (resP rfl m0 ty_39 rfl) ?_))))))))))
 exact (by rfl)

theorem cg_ (a : W) :
    Ret Tryz.prog 62 [.int .i64 a.1] (AV [pI ((aa_ a).n), pI ((aa_ a).d)]) := by
 refine av_ (N := 6) Tryz.func62 rfl rfl (by simp) (fun w0 => ?_)
 simp only [initF, Nat.reduceAdd]
 refine Rs fun K J => sN zp_39 rfl fun b1 hb1 => nl J (Rs fun K J => sE rfl (sC (AV [pI (E (Z.of a.1))]) en_61 (bJ_ a.1 a.2) rfl rfl rfl (sQ (q_ret r2_ (hU_ (E (Z.of a.1))) rfl) rfl (sS [pI ((en_ (E (Z.of a.1))).n), pI ((en_ (E (Z.of a.1))).d)] ty_39 rfl rfl rfl rfl rfl (.head _) rfl hb1 (nl J (W_ret (ret1 rfl (.inr rfl) (resP rfl m0 ty_39 rfl) ?_)))))))
 exact (by rfl)

theorem e2_ (a : Rt) :
    Ret Tryz.prog 114 [AV [pI a.n, pI a.d]] (AV [pI ((b4_ a).n), pI ((b4_ a).d)]) := by
 refine av_ (N := 13) Tryz.func114 rfl rfl (by simp) (fun w0 => ?_)
 simp only [initF, Nat.reduceAdd]
 refine Rs fun K J => WL_r rfl (a1_ rfl rfl (fun b1 hb1 => sN zp_39 rfl fun b2 hb2 => nl J (Sq fun K1 J1 => Rs fun K J => sQ (qL ty_39 rfl m1 rfl) rfl (sQ (q_ret hd_ (c0_ a) rfl) rfl (sE rfl (nl J ?_))))))
 rcases bt (a5_ a) with h3 | h3
 ·skip
  refine W_f (not_f h3) rfl (ak_ (J1 _ _ (ds (sd (sk (s0))) [0,4,8,12,16,20,25] [6] mix (by kernel_rfl) (fun K J => pQ rfl (qF cu_ rfl rfl) (pQ rfl (qL ty_37 rfl m1 rfl) (pC (AV [pI (E (Z.neg a.n.dec))]) k1_ (e1_ a.n.1 a.n.2) rfl rfl rfl (pQ rfl (qF b0_ rfl rfl) (pQ rfl (qL ty_37 rfl m1 rfl) (pQ rfl (cy_ zp_39 pl_39 rfl (.cons [pI (E (Z.neg a.n.dec))] [pI (E (Z.neg a.n.dec)), pI I0] rfl rfl rfl rfl (.cons [pI a.d] [pI (E (Z.neg a.n.dec)), pI a.d] rfl rfl rfl rfl (.nil _)))) (oS [pI (E (Z.neg a.n.dec)), pI a.d] ty_39 rfl rfl rfl rfl rfl rfl (.head _) rfl hb2 rfl (sd s0) (fl J (W_ret (ret1 rfl (.inr rfl) (resP rfl m0 ty_39 rfl) ?_)))))))))))))
  exact (by exact congrArg (fun r : Rt => (AV [pI r.n, pI r.d] : Value)) (show _ = (b4_ a) from bif_t h3 rfl))
 ·skip
  refine W_t (not_t h3) rfl (Rs fun K J => sQ (q_ret g9_ da_  rfl) rfl (sS [pI ei_.n, pI ei_.d] ty_39 rfl rfl rfl rfl rfl (.head _) rfl hb2 (nl J (W_ret (ai_ (ret1 rfl (.inr rfl) (resP rfl m0 ty_39 rfl) ?_))))))
  exact (by exact congrArg (fun r : Rt => (AV [pI r.n, pI r.d] : Value)) (show _ = (b4_ a) from bif_f h3 rfl))

theorem bh_ (a : Rt) (b : Rt) :
    Ret Tryz.prog 66 [AV [pI a.n, pI a.d], AV [pI b.n, pI b.d]] (AV [pI ((aA_ a b).n), pI ((aA_ a b).d)]) := by
 refine av_ (N := 44) Tryz.func66 rfl rfl (by simp) (fun w0 => ?_)
 simp only [initF, Nat.reduceAdd]
 refine Rs fun K J => WL_r rfl (a1_ rfl rfl (fun b1 hb1 => WL_r rfl (a1_ rfl rfl (fun b2 hb2 => sN zp_39 rfl fun b3 hb3 => nl J (Sq fun K1 J1 => ?_)))))
 refine bQ_ [8, 9, 10, 11, 12, 13, 14, 15] (fun g M => (g 15 = .bool (!(a5_ a) || (!(a5_ b)))) ∧ M = [⟨b3, 39, flat [pI I0, pI I0]⟩, ⟨b2, 39, flat [pI b.n, pI b.d]⟩, ⟨b1, 39, flat [pI a.n, pI a.d]⟩]) (fun K2 J2 => ?_) ?_
 ·skip
  refine Rk fun K J => sQ (qL ty_39 rfl m2 rfl) rfl (sQ (q_ret hd_ (c0_ a) rfl) rfl (sE rfl ?_))
  rcases bt (a5_ a) with h5 | h5
  ·skip
   refine sB (not_f h5) rfl (sQ (qL ty_39 rfl m1 rfl) rfl (sQ (q_ret hd_ (c0_ b) rfl) rfl (sE rfl (sE rfl (nl J ?_)))))
   refine J2 _ _ (by repeat first | exact .refl | refine .cons rfl ?_) ⟨_, s0, ?s15, rfl⟩
   case s15 => exact congrArg Value.bool (nor_t h5 rfl)
  ·skip
   refine sB (not_t h5) rfl (WL_n rfl (WL_n rfl (WL_n rfl (sE rfl (nl J ?_)))))
   refine J2 _ _ (by repeat first | exact .refl | refine .cons rfl ?_) ⟨_, s0, ?s15, rfl⟩
   case s15 => exact congrArg Value.bool (nor_f h5)
 ·skip
  rintro g6 M ⟨hg15, rfl⟩
  simp only [setG, hg15]
  clear hg15
  rcases bt (!(a5_ a) || (!(a5_ b))) with h7 | h7
  ·skip
   refine W_t h7 rfl (Rs fun K J => sQ (q_ret g9_ da_  rfl) rfl (sS [pI ei_.n, pI ei_.d] ty_39 rfl rfl rfl rfl rfl (.head _) rfl hb3 (nl J (W_ret (ai_ (ret1 rfl (.inr rfl) (resP rfl m0 ty_39 rfl) ?_))))))
   exact (by exact congrArg (fun r : Rt => (AV [pI r.n, pI r.d] : Value)) (show _ = (aA_ a b) from bif_t h7 rfl))
  ·skip
   refine W_f h7 rfl (ak_ (J1 _ _ (Rs fun K J => sQ (qF b0_ rfl rfl) rfl (sQ (qL ty_37 rfl m2 rfl) rfl (sQ (qF b0_ rfl rfl) rfl (sQ (qL ty_37 rfl m1 rfl) rfl (sC (AV [pI (E (Z.gcd a.d.dec b.d.dec))]) hB_ (d7_ a.d.1 b.d.1 a.d.2 b.d.2) rfl rfl rfl (sN zp_37 rfl fun b8 hb8 => sS [pI (E (Z.gcd a.d.dec b.d.dec))] ty_37 rfl rfl rfl rfl rfl (.head _) rfl hb8 (nl J (W_sdr (sk (sk (sk (sk (s0))))) (.quiet 0 [1,3,7,10,11] (.quiet 1 [3,7,10,11] (.quiet 2 [3,7,10,11] (.quiet 3 [7,10,11] (.quiet 4 [5,7,10,11] (.quiet 5 [7,10,11] (.quiet 6 [7,10,11] (.quiet 7 [10,11] (.both 8 (.only 9 (.only 10 (.only 11 (.fin)))) 9 (.only 8 (.only 10 (.only 11 (.fin))))))))))))) [0,1,2,3,4,5,6,7,8,9] mix (by kernel_rfl) (by kernel_rfl) (fun K J => pQ rfl (qF b0_ rfl rfl) (pQ rfl (qL ty_37 rfl m3 rfl) (pQ rfl (qL ty_37 rfl m0 rfl) (pC (AV [pI (E (Z.quo a.d.dec (Z.gcd a.d.dec b.d.dec)))]) en_97 (cj_ a.d.1 (E (Z.gcd a.d.dec b.d.dec)).1 a.d.2 (E (Z.gcd a.d.dec b.d.dec)).2) rfl rfl (cg2 (fun p q => AV [pI (E (Z.quo p q))]) rfl (E_dec _)) (pQ rfl (qF b0_ rfl rfl) (pQ rfl (qL ty_37 rfl m2 rfl) (pQ rfl (qL ty_37 rfl m0 rfl) ?_)))))))))))))))))
   refine pC (AV [pI (E (Z.quo b.d.dec (Z.gcd a.d.dec b.d.dec)))]) en_97 (cj_ b.d.1 (E (Z.gcd a.d.dec b.d.dec)).1 b.d.2 (E (Z.gcd a.d.dec b.d.dec)).2) rfl rfl (cg2 (fun p q => AV [pI (E (Z.quo p q))]) rfl (E_dec _)) ?_
   refine PL_b ?_ ?_
   ·skip
    refine PL_o rfl rfl (bk_ zp_37 (fun b9 hb9 => ⟨(fun _ => sd s0), (sd s0), PL_o rfl rfl (bk_ zp_37 (fun b10 hb10 => ⟨(fun _ => sd s0), (sd (sd s0)), oS [pI (E (Z.quo a.d.dec (Z.gcd a.d.dec b.d.dec)))] ty_37 rfl rfl rfl rfl rfl rfl (.tail _ (.head _)) rfl hb9 rfl (sd (sd s0)) (oS [pI (E (Z.quo b.d.dec (Z.gcd a.d.dec b.d.dec)))] ty_37 rfl rfl rfl rfl rfl rfl (.head _) rfl hb10 rfl (sd (sd s0)) (fl J (ds (sk (sk (sk (sd (sk (sk (s0))))))) [0,4,8,12,16,20,24,28,32,36,40,44,48,52,57] [14] mix (by kernel_rfl) (fun K J => pQ rfl (qF cu_ rfl rfl) (pQ rfl (qL ty_37 rfl m5 rfl) (pQ rfl (qL ty_37 rfl m0 rfl) (pC (AV [pI (E (Z.mul a.n.dec (Z.quo b.d.dec (Z.gcd a.d.dec b.d.dec))))]) en_96 (bs_ a.n.1 (E (Z.quo b.d.dec (Z.gcd a.d.dec b.d.dec))).1 a.n.2 (E (Z.quo b.d.dec (Z.gcd a.d.dec b.d.dec))).2) rfl rfl (cg2 (fun p q => AV [pI (E (Z.mul p q))]) rfl (E_dec _)) (pQ rfl (qF cu_ rfl rfl) (pQ rfl (qL ty_37 rfl m4 rfl) (pQ rfl (qL ty_37 rfl m1 rfl) (pC (AV [pI (E (Z.mul b.n.dec (Z.quo a.d.dec (Z.gcd a.d.dec b.d.dec))))]) en_96 (bs_ b.n.1 (E (Z.quo a.d.dec (Z.gcd a.d.dec b.d.dec))).1 b.n.2 (E (Z.quo a.d.dec (Z.gcd a.d.dec b.d.dec))).2) rfl rfl (cg2 (fun p q => AV [pI (E (Z.mul p q))]) rfl (E_dec _)) ?_)))))))))))⟩))⟩))
    obtain ⟨r11, hr11⟩ := nm ((E (Z.add (Z.mul a.n.dec (Z.quo b.d.dec (Z.gcd a.d.dec b.d.dec))) (Z.mul b.n.dec (Z.quo a.d.dec (Z.gcd a.d.dec b.d.dec))))) : I)
    refine pC (AV [pI r11]) ip_ (dK_ (E (Z.mul a.n.dec (Z.quo b.d.dec (Z.gcd a.d.dec b.d.dec)))).1 (E (Z.mul b.n.dec (Z.quo a.d.dec (Z.gcd a.d.dec b.d.dec)))).1 (E (Z.mul a.n.dec (Z.quo b.d.dec (Z.gcd a.d.dec b.d.dec)))).2 (E (Z.mul b.n.dec (Z.quo a.d.dec (Z.gcd a.d.dec b.d.dec)))).2) rfl rfl ((cg2 (fun p q => AV [pI (E (Z.add p q))]) (E_dec _) (E_dec _)).trans (by rw [hr11])) (pQ rfl (qL ty_37 rfl m1 rfl) (pQ rfl (qF b0_ rfl rfl) (pQ rfl (qL ty_37 rfl m4 rfl) (pC (AV [pI (E (Z.mul (Z.quo a.d.dec (Z.gcd a.d.dec b.d.dec)) b.d.dec))]) en_96 (bs_ (E (Z.quo a.d.dec (Z.gcd a.d.dec b.d.dec))).1 b.d.1 (E (Z.quo a.d.dec (Z.gcd a.d.dec b.d.dec))).2 b.d.2) rfl rfl (cg2 (fun p q => AV [pI (E (Z.mul p q))]) (E_dec _) rfl) ?_))))
    obtain ⟨r12, hr12⟩ := nm ((ap_ r11 (E (Z.mul (Z.quo a.d.dec (Z.gcd a.d.dec b.d.dec)) b.d.dec))) : Rt)
    refine pC (AV [pI r12.n, pI r12.d]) en_59 (c1_ r11 (E (Z.mul (Z.quo a.d.dec (Z.gcd a.d.dec b.d.dec)) b.d.dec))) rfl rfl (by rw [hr12]; first | done | rfl) (oS [pI r12.n, pI r12.d] ty_39 rfl rfl rfl rfl rfl rfl (.tail _ (.tail _ (.tail _ (.head _)))) rfl hb3 rfl (sk (sk (sk (sd s0)))) (fl J (W_ret (ret1 rfl (.inr rfl) (resP rfl m3 ty_39 rfl) ?_))))
    exact (by subst hr12; subst hr11; exact congrArg (fun r : Rt => (AV [pI r.n, pI r.d] : Value)) (show _ = (aA_ a b) from bif_f h7 rfl))
   ·skip
    refine PL_o rfl rfl (bk_ zp_37 (fun b13 hb13 => ⟨(fun _ => sd s0), (sd s0), PL_o rfl rfl (bk_ zp_37 (fun b14 hb14 => ⟨(fun _ => sd s0), (sd (sd s0)), oS [pI (E (Z.quo a.d.dec (Z.gcd a.d.dec b.d.dec)))] ty_37 rfl rfl rfl rfl rfl rfl (.head _) rfl hb14 rfl (sd (sd s0)) (oS [pI (E (Z.quo b.d.dec (Z.gcd a.d.dec b.d.dec)))] ty_37 rfl rfl rfl rfl rfl rfl (.tail _ (.head _)) rfl hb13 rfl (sd (sd s0)) (fl J (ds (sk (sk (sk (sd (sk (sk (s0))))))) [0,4,8,12,16,20,24,28,32,36,40,44,48,52,57] [14] mix (by kernel_rfl) (fun K J => pQ rfl (qF cu_ rfl rfl) (pQ rfl (qL ty_37 rfl m5 rfl) (pQ rfl (qL ty_37 rfl m1 rfl) (pC (AV [pI (E (Z.mul a.n.dec (Z.quo b.d.dec (Z.gcd a.d.dec b.d.dec))))]) en_96 (bs_ a.n.1 (E (Z.quo b.d.dec (Z.gcd a.d.dec b.d.dec))).1 a.n.2 (E (Z.quo b.d.dec (Z.gcd a.d.dec b.d.dec))).2) rfl rfl (cg2 (fun p q => AV [pI (E (Z.mul p q))]) rfl (E_dec _)) (pQ rfl (qF cu_ rfl rfl) (pQ rfl (qL ty_37 rfl m4 rfl) (pQ rfl (qL ty_37 rfl m0 rfl) (pC (AV [pI (E (Z.mul b.n.dec (Z.quo a.d.dec (Z.gcd a.d.dec b.d.dec))))]) en_96 (bs_ b.n.1 (E (Z.quo a.d.dec (Z.gcd a.d.dec b.d.dec))).1 b.n.2 (E (Z.quo a.d.dec (Z.gcd a.d.dec b.d.dec))).2) rfl rfl (cg2 (fun p q => AV [pI (E (Z.mul p q))]) rfl (E_dec _)) ?_)))))))))))⟩))⟩))
    obtain ⟨r15, hr15⟩ := nm ((E (Z.add (Z.mul a.n.dec (Z.quo b.d.dec (Z.gcd a.d.dec b.d.dec))) (Z.mul b.n.dec (Z.quo a.d.dec (Z.gcd a.d.dec b.d.dec))))) : I)
    refine pC (AV [pI r15]) ip_ (dK_ (E (Z.mul a.n.dec (Z.quo b.d.dec (Z.gcd a.d.dec b.d.dec)))).1 (E (Z.mul b.n.dec (Z.quo a.d.dec (Z.gcd a.d.dec b.d.dec)))).1 (E (Z.mul a.n.dec (Z.quo b.d.dec (Z.gcd a.d.dec b.d.dec)))).2 (E (Z.mul b.n.dec (Z.quo a.d.dec (Z.gcd a.d.dec b.d.dec)))).2) rfl rfl ((cg2 (fun p q => AV [pI (E (Z.add p q))]) (E_dec _) (E_dec _)).trans (by rw [hr15])) (pQ rfl (qL ty_37 rfl m0 rfl) (pQ rfl (qF b0_ rfl rfl) (pQ rfl (qL ty_37 rfl m4 rfl) (pC (AV [pI (E (Z.mul (Z.quo a.d.dec (Z.gcd a.d.dec b.d.dec)) b.d.dec))]) en_96 (bs_ (E (Z.quo a.d.dec (Z.gcd a.d.dec b.d.dec))).1 b.d.1 (E (Z.quo a.d.dec (Z.gcd a.d.dec b.d.dec))).2 b.d.2) rfl rfl (cg2 (fun p q => AV [pI (E (Z.mul p q))]) (E_dec _) rfl) ?_))))
    obtain ⟨r16, hr16⟩ := nm ((ap_ r15 (E (Z.mul (Z.quo a.d.dec (Z.gcd a.d.dec b.d.dec)) b.d.dec))) : Rt)
    refine pC (AV [pI r16.n, pI r16.d]) en_59 (c1_ r15 (E (Z.mul (Z.quo a.d.dec (Z.gcd a.d.dec b.d.dec)) b.d.dec))) rfl rfl (by rw [hr16]; first | done | rfl) (oS [pI r16.n, pI r16.d] ty_39 rfl rfl rfl rfl rfl rfl (.tail _ (.tail _ (.tail _ (.head _)))) rfl hb3 rfl (sk (sk (sk (sd s0)))) (fl J (W_ret (ret1 rfl (.inr rfl) (resP rfl m3 ty_39 rfl) ?_))))
    exact (by subst hr16; subst hr15; exact congrArg (fun r : Rt => (AV [pI r.n, pI r.d] : Value)) (show _ = (aA_ a b) from bif_f h7 rfl))

theorem cl_ (a : Rt) (b : Rt) :
    Ret Tryz.prog 65 [AV [pI a.n, pI a.d], AV [pI b.n, pI b.d]] (AV [pI ((ah_ a b).n), pI ((ah_ a b).d)]) := by
 refine av_ (N := 9) Tryz.func65 rfl rfl (by simp) (fun w0 => ?_)
 simp only [initF, Nat.reduceAdd]
 refine Rs fun K J => WL_r rfl (a1_ rfl rfl (fun b1 hb1 => WL_r rfl (a1_ rfl rfl (fun b2 hb2 => sN zp_39 rfl fun b3 hb3 => nl J (ds (sd (sk (sk (s0)))) [0,4,8,12,17] [4] mix (by kernel_rfl) (fun K J => pQ rfl (qL ty_39 rfl m2 rfl) (pQ rfl (qL ty_39 rfl m1 rfl) (pQ rfl (q_ret lk_ (e2_ b) rfl) (pQ rfl (q_ret en_66 (bh_ a (b4_ b)) rfl) (oS [pI ((aA_ a (b4_ b)).n), pI ((aA_ a (b4_ b)).d)] ty_39 rfl rfl rfl rfl rfl rfl (.head _) rfl hb3 rfl (sd s0) (fl J (W_ret (ret1 rfl (.inr rfl) (resP rfl m0 ty_39 rfl) ?_)))))))))))))
 exact (by rfl)

theorem b3_ (a : Rt) (b : Rt) :
    Ret Tryz.prog 67 [AV [pI a.n, pI a.d], AV [pI b.n, pI b.d]] (AV [pI ((aE_ a b).n), pI ((aE_ a b).d)]) := by
 refine av_ (N := 48) Tryz.func67 rfl rfl (by simp) (fun w0 => ?_)
 simp only [initF, Nat.reduceAdd]
 refine Rs fun K J => WL_r rfl (a1_ rfl rfl (fun b1 hb1 => WL_r rfl (a1_ rfl rfl (fun b2 hb2 => sN zp_39 rfl fun b3 hb3 => nl J (Sq fun K1 J1 => ?_)))))
 refine bQ_ [9, 10, 11, 12, 13, 14, 15, 16] (fun g M => (g 16 = .bool (!(a5_ a) || (!(a5_ b)))) ∧ M = [⟨b3, 39, flat [pI I0, pI I0]⟩, ⟨b2, 39, flat [pI b.n, pI b.d]⟩, ⟨b1, 39, flat [pI a.n, pI a.d]⟩]) (fun K2 J2 => ?_) ?_
 ·skip
  refine Rk fun K J => sQ (qL ty_39 rfl m2 rfl) rfl (sQ (q_ret hd_ (c0_ a) rfl) rfl (sE rfl ?_))
  rcases bt (a5_ a) with h5 | h5
  ·skip
   refine sB (not_f h5) rfl (sQ (qL ty_39 rfl m1 rfl) rfl (sQ (q_ret hd_ (c0_ b) rfl) rfl (sE rfl (sE rfl (nl J ?_)))))
   refine J2 _ _ (by repeat first | exact .refl | refine .cons rfl ?_) ⟨_, s0, ?s16, rfl⟩
   case s16 => exact congrArg Value.bool (nor_t h5 rfl)
  ·skip
   refine sB (not_t h5) rfl (WL_n rfl (WL_n rfl (WL_n rfl (sE rfl (nl J ?_)))))
   refine J2 _ _ (by repeat first | exact .refl | refine .cons rfl ?_) ⟨_, s0, ?s16, rfl⟩
   case s16 => exact congrArg Value.bool (nor_f h5)
 ·skip
  rintro g6 M ⟨hg16, rfl⟩
  simp only [setG, hg16]
  clear hg16
  rcases bt (!(a5_ a) || (!(a5_ b))) with h7 | h7
  ·skip
   refine W_t h7 rfl (Rs fun K J => sQ (q_ret g9_ da_  rfl) rfl (sS [pI ei_.n, pI ei_.d] ty_39 rfl rfl rfl rfl rfl (.head _) rfl hb3 (nl J (W_ret (ai_ (ret1 rfl (.inr rfl) (resP rfl m0 ty_39 rfl) ?_))))))
   exact (by exact congrArg (fun r : Rt => (AV [pI r.n, pI r.d] : Value)) (show _ = (aE_ a b) from bif_t h7 rfl))
  ·skip
   refine W_f h7 rfl (ak_ (J1 _ _ (W_sdr (sk (sk (sk (s0)))) (.quiet 0 [1,4,9,12,13] (.quiet 1 [4,9,12,13] (.quiet 2 [3,4,9,12,13] (.quiet 3 [4,9,12,13] (.quiet 4 [9,12,13] (.quiet 5 [6,9,12,13] (.quiet 6 [9,12,13] (.quiet 7 [8,9,12,13] (.quiet 8 [9,12,13] (.quiet 9 [12,13] (.both 10 (.only 11 (.only 12 (.only 13 (.fin)))) 11 (.only 10 (.only 12 (.only 13 (.fin))))))))))))))) [0,1,2,3,4,5,6,7,8,9,10,11] mix (by kernel_rfl) (by kernel_rfl) (fun K J => pQ rfl (qF cu_ rfl rfl) (pQ rfl (qL ty_37 rfl m2 rfl) (pQ rfl (qF b0_ rfl rfl) (pQ rfl (qL ty_37 rfl m1 rfl) (pQ rfl (q_ret en_59 (c1_ a.n b.d) rfl) (pQ rfl (qF cu_ rfl rfl) (pQ rfl (qL ty_37 rfl m1 rfl) (pQ rfl (qF b0_ rfl rfl) (pQ rfl (qL ty_37 rfl m2 rfl) (pQ rfl (q_ret en_59 (c1_ b.n a.d) rfl) ?_)))))))))))))
   refine PL_b ?_ ?_
   ·skip
    refine PL_o rfl rfl (bk_ zp_39 (fun b8 hb8 => ⟨(fun _ => sd s0), (sd s0), PL_o rfl rfl (bk_ zp_39 (fun b9 hb9 => ⟨(fun _ => sd s0), (sd (sd s0)), oS [pI ((ap_ a.n b.d).n), pI ((ap_ a.n b.d).d)] ty_39 rfl rfl rfl rfl rfl rfl (.tail _ (.head _)) rfl hb8 rfl (sd (sd s0)) (oS [pI ((ap_ b.n a.d).n), pI ((ap_ b.n a.d).d)] ty_39 rfl rfl rfl rfl rfl rfl (.head _) rfl hb9 rfl (sd (sd s0)) (fl J (W_sdr (sk (sd (sk (sk (sk (s0)))))) (.quiet 0 [1,4,9,12,13] (.quiet 1 [4,9,12,13] (.quiet 2 [3,4,9,12,13] (.quiet 3 [4,9,12,13] (.quiet 4 [9,12,13] (.quiet 5 [6,9,12,13] (.quiet 6 [9,12,13] (.quiet 7 [8,9,12,13] (.quiet 8 [9,12,13] (.quiet 9 [12,13] (.both 10 (.only 11 (.only 12 (.only 13 (.fin)))) 11 (.only 10 (.only 12 (.only 13 (.fin))))))))))))))) [0,1,2,3,4,5,6,7,8,9,10,11] mix (by kernel_rfl) (by kernel_rfl) (fun K J => pQ rfl (qF cu_ rfl rfl) (pQ rfl (qL ty_37 rfl m1 rfl) (pQ rfl (qF cu_ rfl rfl) (pQ rfl (qL ty_37 rfl m0 rfl) ?_)))))))⟩))⟩))
    obtain ⟨r10, hr10⟩ := nm ((E (Z.mul ((ap_ a.n b.d).n).dec ((ap_ b.n a.d).n).dec)) : I)
    refine pC (AV [pI r10]) en_96 (bs_ ((ap_ a.n b.d).n).1 ((ap_ b.n a.d).n).1 ((ap_ a.n b.d).n).2 ((ap_ b.n a.d).n).2) rfl rfl (by rw [hr10]; first | done | rfl) (pQ rfl (qF b0_ rfl rfl) (pQ rfl (qL ty_37 rfl m1 rfl) (pQ rfl (qF b0_ rfl rfl) (pQ rfl (qL ty_37 rfl m0 rfl) ?_))))
    obtain ⟨r11, hr11⟩ := nm ((E (Z.mul ((ap_ a.n b.d).d).dec ((ap_ b.n a.d).d).dec)) : I)
    refine pC (AV [pI r11]) en_96 (bs_ ((ap_ a.n b.d).d).1 ((ap_ b.n a.d).d).1 ((ap_ a.n b.d).d).2 ((ap_ b.n a.d).d).2) rfl rfl (by rw [hr11]; first | done | rfl) ?_
    refine PL_b ?_ ?_
    ·skip
     refine PL_o rfl rfl (bk_ zp_37 (fun b12 hb12 => ⟨(fun _ => sd s0), (sd (sk (sd s0))), PL_o rfl rfl (bk_ zp_37 (fun b13 hb13 => ⟨(fun _ => sd s0), (sd (sd (sk (sd s0)))), oS [pI r10] ty_37 rfl rfl rfl rfl rfl rfl (.tail _ (.head _)) rfl hb12 rfl (sd (sd (sk (sd s0)))) (oS [pI r11] ty_37 rfl rfl rfl rfl rfl rfl (.head _) rfl hb13 rfl (sd (sd (sk (sd s0)))) (fl J (Sq fun K3 J3 => ?_)))⟩))⟩))
     refine bQ_ [38, 39, 40, 41, 42, 43] (fun g M => (g 43 = .bool (r10.1.bad || r11.1.bad)) ∧ M = [⟨b13, 37, flat [pI r11]⟩, ⟨b12, 37, flat [pI r10]⟩, ⟨b9, 39, flat [pI ((ap_ b.n a.d).n), pI ((ap_ b.n a.d).d)]⟩, ⟨b8, 39, flat [pI ((ap_ a.n b.d).n), pI ((ap_ a.n b.d).d)]⟩, ⟨b3, 39, flat [pI I0, pI I0]⟩, ⟨b2, 39, flat [pI b.n, pI b.d]⟩, ⟨b1, 39, flat [pI a.n, pI a.d]⟩]) (fun K4 J4 => ?_) ?_
     ·skip
      refine Rk fun K J => sQ (qF ea_ rfl rfl) rfl (sQ (qC ty_4 rfl m1 rfl) rfl ?_)
      rcases bt r10.1.bad with h15 | h15
      ·skip
       refine sB h15 rfl (WL_n rfl (WL_n rfl (sE rfl (nl J ?_))))
       refine J4 _ _ (by repeat first | exact .refl | refine .cons rfl ?_) ⟨_, s0, ?s43, rfl⟩
       case s43 => exact congrArg Value.bool (or_t h15)
      ·skip
       refine sB h15 rfl (sQ (qF ea_ rfl rfl) rfl (sQ (qC ty_4 rfl m0 rfl) rfl (sE rfl (nl J ?_))))
       refine J4 _ _ (by repeat first | exact .refl | refine .cons rfl ?_) ⟨_, s0, ?s43, rfl⟩
       case s43 => exact congrArg Value.bool (or_f h15 rfl)
     ·skip
      rintro g16 M ⟨hg43, rfl⟩
      simp only [setG, hg43]
      clear hg43
      rcases bt (r10.1.bad || r11.1.bad) with h17 | h17
      ·skip
       refine W_t h17 rfl (Rs fun K J => sQ (q_ret g9_ da_  rfl) rfl (sS [pI ei_.n, pI ei_.d] ty_39 rfl rfl rfl rfl rfl (.tail _ (.tail _ (.tail _ (.tail _ (.head _))))) rfl hb3 (nl J (W_ret (ai_ (ret1 rfl (.inr rfl) (resP rfl m4 ty_39 rfl) ?_))))))
       exact (by subst hr11; subst hr10; exact congrArg (fun r : Rt => (AV [pI r.n, pI r.d] : Value)) (show _ = (aE_ a b) from bif_f h7 (bif_t h17 rfl)))
      ·skip
       refine W_f h17 rfl (ak_ (J3 _ _ (Rs fun K J => sQ (qL ty_37 rfl m1 rfl) rfl (sQ (qL ty_37 rfl m0 rfl) rfl (sQ (cy_ zp_39 pl_39 rfl (.cons [pI r10] [pI r10, pI I0] rfl rfl rfl rfl (.cons [pI r11] [pI r10, pI r11] rfl rfl rfl rfl (.nil _)))) rfl (sS [pI r10, pI r11] ty_39 rfl rfl rfl rfl rfl (.tail _ (.tail _ (.tail _ (.tail _ (.head _))))) rfl hb3 (nl J (W_ret (ret1 rfl (.inr rfl) (resP rfl m4 ty_39 rfl) ?_)))))))))
       exact (by subst hr11; subst hr10; exact congrArg (fun r : Rt => (AV [pI r.n, pI r.d] : Value)) (show _ = (aE_ a b) from bif_f h7 (bif_f h17 rfl)))
    ·skip
     refine PL_o rfl rfl (bk_ zp_37 (fun b18 hb18 => ⟨(fun _ => sd s0), (sd (sk (sd s0))), PL_o rfl rfl (bk_ zp_37 (fun b19 hb19 => ⟨(fun _ => sd s0), (sd (sd (sk (sd s0)))), oS [pI r10] ty_37 rfl rfl rfl rfl rfl rfl (.head _) rfl hb19 rfl (sd (sd (sk (sd s0)))) (oS [pI r11] ty_37 rfl rfl rfl rfl rfl rfl (.tail _ (.head _)) rfl hb18 rfl (sd (sd (sk (sd s0)))) (fl J (Sq fun K5 J5 => ?_)))⟩))⟩))
     refine bQ_ [38, 39, 40, 41, 42, 43] (fun g M => (g 43 = .bool (r10.1.bad || r11.1.bad)) ∧ M = [⟨b19, 37, flat [pI r10]⟩, ⟨b18, 37, flat [pI r11]⟩, ⟨b9, 39, flat [pI ((ap_ b.n a.d).n), pI ((ap_ b.n a.d).d)]⟩, ⟨b8, 39, flat [pI ((ap_ a.n b.d).n), pI ((ap_ a.n b.d).d)]⟩, ⟨b3, 39, flat [pI I0, pI I0]⟩, ⟨b2, 39, flat [pI b.n, pI b.d]⟩, ⟨b1, 39, flat [pI a.n, pI a.d]⟩]) (fun K6 J6 => ?_) ?_
     ·skip
      refine Rk fun K J => sQ (qF ea_ rfl rfl) rfl (sQ (qC ty_4 rfl m0 rfl) rfl ?_)
      rcases bt r10.1.bad with h21 | h21
      ·skip
       refine sB h21 rfl (WL_n rfl (WL_n rfl (sE rfl (nl J ?_))))
       refine J6 _ _ (by repeat first | exact .refl | refine .cons rfl ?_) ⟨_, s0, ?s43, rfl⟩
       case s43 => exact congrArg Value.bool (or_t h21)
      ·skip
       refine sB h21 rfl (sQ (qF ea_ rfl rfl) rfl (sQ (qC ty_4 rfl m1 rfl) rfl (sE rfl (nl J ?_))))
       refine J6 _ _ (by repeat first | exact .refl | refine .cons rfl ?_) ⟨_, s0, ?s43, rfl⟩
       case s43 => exact congrArg Value.bool (or_f h21 rfl)
     ·skip
      rintro g22 M ⟨hg43, rfl⟩
      simp only [setG, hg43]
      clear hg43
      rcases bt (r10.1.bad || r11.1.bad) with h23 | h23
      ·skip
       refine W_t h23 rfl (Rs fun K J => sQ (q_ret g9_ da_  rfl) rfl (sS [pI ei_.n, pI ei_.d] ty_39 rfl rfl rfl rfl rfl (.tail _ (.tail _ (.tail _ (.tail _ (.head _))))) rfl hb3 (nl J (W_ret (ai_ (ret1 rfl (.inr rfl) (resP rfl m4 ty_39 rfl) ?_))))))
       exact (by subst hr11; subst hr10; exact congrArg (fun r : Rt => (AV [pI r.n, pI r.d] : Value)) (show _ = (aE_ a b) from bif_f h7 (bif_t h23 rfl)))
      ·skip
       refine W_f h23 rfl (ak_ (J5 _ _ (Rs fun K J => sQ (qL ty_37 rfl m0 rfl) rfl (sQ (qL ty_37 rfl m1 rfl) rfl (sQ (cy_ zp_39 pl_39 rfl (.cons [pI r10] [pI r10, pI I0] rfl rfl rfl rfl (.cons [pI r11] [pI r10, pI r11] rfl rfl rfl rfl (.nil _)))) rfl (sS [pI r10, pI r11] ty_39 rfl rfl rfl rfl rfl (.tail _ (.tail _ (.tail _ (.tail _ (.head _))))) rfl hb3 (nl J (W_ret (ret1 rfl (.inr rfl) (resP rfl m4 ty_39 rfl) ?_)))))))))
       exact (by subst hr11; subst hr10; exact congrArg (fun r : Rt => (AV [pI r.n, pI r.d] : Value)) (show _ = (aE_ a b) from bif_f h7 (bif_f h23 rfl)))
   ·skip
    refine PL_o rfl rfl (bk_ zp_39 (fun b24 hb24 => ⟨(fun _ => sd s0), (sd s0), PL_o rfl rfl (bk_ zp_39 (fun b25 hb25 => ⟨(fun _ => sd s0), (sd (sd s0)), oS [pI ((ap_ a.n b.d).n), pI ((ap_ a.n b.d).d)] ty_39 rfl rfl rfl rfl rfl rfl (.head _) rfl hb25 rfl (sd (sd s0)) (oS [pI ((ap_ b.n a.d).n), pI ((ap_ b.n a.d).d)] ty_39 rfl rfl rfl rfl rfl rfl (.tail _ (.head _)) rfl hb24 rfl (sd (sd s0)) (fl J (W_sdr (sk (sk (sk (sk (sk (s0)))))) (.quiet 0 [1,4,9,12,13] (.quiet 1 [4,9,12,13] (.quiet 2 [3,4,9,12,13] (.quiet 3 [4,9,12,13] (.quiet 4 [9,12,13] (.quiet 5 [6,9,12,13] (.quiet 6 [9,12,13] (.quiet 7 [8,9,12,13] (.quiet 8 [9,12,13] (.quiet 9 [12,13] (.both 10 (.only 11 (.only 12 (.only 13 (.fin)))) 11 (.only 10 (.only 12 (.only 13 (.fin))))))))))))))) [0,1,2,3,4,5,6,7,8,9,10,11] mix (by kernel_rfl) (by kernel_rfl) (fun K J => pQ rfl (qF cu_ rfl rfl) (pQ rfl (qL ty_37 rfl m0 rfl) (pQ rfl (qF cu_ rfl rfl) (pQ rfl (qL ty_37 rfl m1 rfl) ?_)))))))⟩))⟩))
    obtain ⟨r26, hr26⟩ := nm ((E (Z.mul ((ap_ a.n b.d).n).dec ((ap_ b.n a.d).n).dec)) : I)
    refine pC (AV [pI r26]) en_96 (bs_ ((ap_ a.n b.d).n).1 ((ap_ b.n a.d).n).1 ((ap_ a.n b.d).n).2 ((ap_ b.n a.d).n).2) rfl rfl (by rw [hr26]; first | done | rfl) (pQ rfl (qF b0_ rfl rfl) (pQ rfl (qL ty_37 rfl m0 rfl) (pQ rfl (qF b0_ rfl rfl) (pQ rfl (qL ty_37 rfl m1 rfl) ?_))))
    obtain ⟨r27, hr27⟩ := nm ((E (Z.mul ((ap_ a.n b.d).d).dec ((ap_ b.n a.d).d).dec)) : I)
    refine pC (AV [pI r27]) en_96 (bs_ ((ap_ a.n b.d).d).1 ((ap_ b.n a.d).d).1 ((ap_ a.n b.d).d).2 ((ap_ b.n a.d).d).2) rfl rfl (by rw [hr27]; first | done | rfl) ?_
    refine PL_b ?_ ?_
    ·skip
     refine PL_o rfl rfl (bk_ zp_37 (fun b28 hb28 => ⟨(fun _ => sd s0), (sd s0), PL_o rfl rfl (bk_ zp_37 (fun b29 hb29 => ⟨(fun _ => sd s0), (sd (sd s0)), oS [pI r26] ty_37 rfl rfl rfl rfl rfl rfl (.tail _ (.head _)) rfl hb28 rfl (sd (sd s0)) (oS [pI r27] ty_37 rfl rfl rfl rfl rfl rfl (.head _) rfl hb29 rfl (sd (sd s0)) (fl J (Sq fun K7 J7 => ?_)))⟩))⟩))
     refine bQ_ [38, 39, 40, 41, 42, 43] (fun g M => (g 43 = .bool (r26.1.bad || r27.1.bad)) ∧ M = [⟨b29, 37, flat [pI r27]⟩, ⟨b28, 37, flat [pI r26]⟩, ⟨b25, 39, flat [pI ((ap_ a.n b.d).n), pI ((ap_ a.n b.d).d)]⟩, ⟨b24, 39, flat [pI ((ap_ b.n a.d).n), pI ((ap_ b.n a.d).d)]⟩, ⟨b3, 39, flat [pI I0, pI I0]⟩, ⟨b2, 39, flat [pI b.n, pI b.d]⟩, ⟨b1, 39, flat [pI a.n, pI a.d]⟩]) (fun K8 J8 => ?_) ?_
     ·skip
      refine Rk fun K J => sQ (qF ea_ rfl rfl) rfl (sQ (qC ty_4 rfl m1 rfl) rfl ?_)
      rcases bt r26.1.bad with h31 | h31
      ·skip
       refine sB h31 rfl (WL_n rfl (WL_n rfl (sE rfl (nl J ?_))))
       refine J8 _ _ (by repeat first | exact .refl | refine .cons rfl ?_) ⟨_, s0, ?s43, rfl⟩
       case s43 => exact congrArg Value.bool (or_t h31)
      ·skip
       refine sB h31 rfl (sQ (qF ea_ rfl rfl) rfl (sQ (qC ty_4 rfl m0 rfl) rfl (sE rfl (nl J ?_))))
       refine J8 _ _ (by repeat first | exact .refl | refine .cons rfl ?_) ⟨_, s0, ?s43, rfl⟩
       case s43 => exact congrArg Value.bool (or_f h31 rfl)
     ·skip
      rintro g32 M ⟨hg43, rfl⟩
      simp only [setG, hg43]
      clear hg43
      rcases bt (r26.1.bad || r27.1.bad) with h33 | h33
      ·skip
       refine W_t h33 rfl (Rs fun K J => sQ (q_ret g9_ da_  rfl) rfl (sS [pI ei_.n, pI ei_.d] ty_39 rfl rfl rfl rfl rfl (.tail _ (.tail _ (.tail _ (.tail _ (.head _))))) rfl hb3 (nl J (W_ret (ai_ (ret1 rfl (.inr rfl) (resP rfl m4 ty_39 rfl) ?_))))))
       exact (by subst hr27; subst hr26; exact congrArg (fun r : Rt => (AV [pI r.n, pI r.d] : Value)) (show _ = (aE_ a b) from bif_f h7 (bif_t h33 rfl)))
      ·skip
       refine W_f h33 rfl (ak_ (J7 _ _ (Rs fun K J => sQ (qL ty_37 rfl m1 rfl) rfl (sQ (qL ty_37 rfl m0 rfl) rfl (sQ (cy_ zp_39 pl_39 rfl (.cons [pI r26] [pI r26, pI I0] rfl rfl rfl rfl (.cons [pI r27] [pI r26, pI r27] rfl rfl rfl rfl (.nil _)))) rfl (sS [pI r26, pI r27] ty_39 rfl rfl rfl rfl rfl (.tail _ (.tail _ (.tail _ (.tail _ (.head _))))) rfl hb3 (nl J (W_ret (ret1 rfl (.inr rfl) (resP rfl m4 ty_39 rfl) ?_)))))))))
       exact (by subst hr27; subst hr26; exact congrArg (fun r : Rt => (AV [pI r.n, pI r.d] : Value)) (show _ = (aE_ a b) from bif_f h7 (bif_f h33 rfl)))
    ·skip
     refine PL_o rfl rfl (bk_ zp_37 (fun b34 hb34 => ⟨(fun _ => sd s0), (sd s0), PL_o rfl rfl (bk_ zp_37 (fun b35 hb35 => ⟨(fun _ => sd s0), (sd (sd s0)), oS [pI r26] ty_37 rfl rfl rfl rfl rfl rfl (.head _) rfl hb35 rfl (sd (sd s0)) (oS [pI r27] ty_37 rfl rfl rfl rfl rfl rfl (.tail _ (.head _)) rfl hb34 rfl (sd (sd s0)) (fl J (Sq fun K9 J9 => ?_)))⟩))⟩))
     refine bQ_ [38, 39, 40, 41, 42, 43] (fun g M => (g 43 = .bool (r26.1.bad || r27.1.bad)) ∧ M = [⟨b35, 37, flat [pI r26]⟩, ⟨b34, 37, flat [pI r27]⟩, ⟨b25, 39, flat [pI ((ap_ a.n b.d).n), pI ((ap_ a.n b.d).d)]⟩, ⟨b24, 39, flat [pI ((ap_ b.n a.d).n), pI ((ap_ b.n a.d).d)]⟩, ⟨b3, 39, flat [pI I0, pI I0]⟩, ⟨b2, 39, flat [pI b.n, pI b.d]⟩, ⟨b1, 39, flat [pI a.n, pI a.d]⟩]) (fun K10 J10 => ?_) ?_
     ·skip
      refine Rk fun K J => sQ (qF ea_ rfl rfl) rfl (sQ (qC ty_4 rfl m0 rfl) rfl ?_)
      rcases bt r26.1.bad with h37 | h37
      ·skip
       refine sB h37 rfl (WL_n rfl (WL_n rfl (sE rfl (nl J ?_))))
       refine J10 _ _ (by repeat first | exact .refl | refine .cons rfl ?_) ⟨_, s0, ?s43, rfl⟩
       case s43 => exact congrArg Value.bool (or_t h37)
      ·skip
       refine sB h37 rfl (sQ (qF ea_ rfl rfl) rfl (sQ (qC ty_4 rfl m1 rfl) rfl (sE rfl (nl J ?_))))
       refine J10 _ _ (by repeat first | exact .refl | refine .cons rfl ?_) ⟨_, s0, ?s43, rfl⟩
       case s43 => exact congrArg Value.bool (or_f h37 rfl)
     ·skip
      rintro g38 M ⟨hg43, rfl⟩
      simp only [setG, hg43]
      clear hg43
      rcases bt (r26.1.bad || r27.1.bad) with h39 | h39
      ·skip
       refine W_t h39 rfl (Rs fun K J => sQ (q_ret g9_ da_  rfl) rfl (sS [pI ei_.n, pI ei_.d] ty_39 rfl rfl rfl rfl rfl (.tail _ (.tail _ (.tail _ (.tail _ (.head _))))) rfl hb3 (nl J (W_ret (ai_ (ret1 rfl (.inr rfl) (resP rfl m4 ty_39 rfl) ?_))))))
       exact (by subst hr27; subst hr26; exact congrArg (fun r : Rt => (AV [pI r.n, pI r.d] : Value)) (show _ = (aE_ a b) from bif_f h7 (bif_t h39 rfl)))
      ·skip
       refine W_f h39 rfl (ak_ (J9 _ _ (Rs fun K J => sQ (qL ty_37 rfl m0 rfl) rfl (sQ (qL ty_37 rfl m1 rfl) rfl (sQ (cy_ zp_39 pl_39 rfl (.cons [pI r26] [pI r26, pI I0] rfl rfl rfl rfl (.cons [pI r27] [pI r26, pI r27] rfl rfl rfl rfl (.nil _)))) rfl (sS [pI r26, pI r27] ty_39 rfl rfl rfl rfl rfl (.tail _ (.tail _ (.tail _ (.tail _ (.head _))))) rfl hb3 (nl J (W_ret (ret1 rfl (.inr rfl) (resP rfl m4 ty_39 rfl) ?_)))))))))
       exact (by subst hr27; subst hr26; exact congrArg (fun r : Rt => (AV [pI r.n, pI r.d] : Value)) (show _ = (aE_ a b) from bif_f h7 (bif_f h39 rfl)))

theorem d3_  :
    Ret Tryz.prog 75 [] (AV [pI F_skewbackref04_one]) := by
 refine av_ (N := 2) Tryz.func75 rfl rfl (by simp) (fun w0 => ?_)
 simp only [initF, Nat.reduceAdd]
 obtain ⟨q0, hq0⟩ := nm ((E (Z.of 1)) : I)
 refine Rs fun K J => sN zp_37 rfl fun b1 hb1 => nl J (Rs fun K J => sC (AV [pI q0]) en_74 (a9_ (wl 1).1 (wl 1).2) rfl rfl (by rw [hq0]; first | done | rfl) ?_)
 refine sS [pI q0] ty_37 rfl rfl rfl rfl rfl (.head _) rfl hb1 (nl J (W_ret (ret1 rfl (.inr rfl) (resP rfl m0 ty_37 rfl) ?_)))
 exact (by subst hq0; rfl)

theorem dt_  :
    Ret Tryz.prog 76 [] (AV [pI cL_.n, pI cL_.d]) := by
 refine av_ (N := 4) Tryz.func76 rfl rfl (by simp) (fun w0 => ?_)
 simp only [initF, Nat.reduceAdd]
 obtain ⟨q0, hq0⟩ := nm ((E Z.bad) : I)
 obtain ⟨q1, hq1⟩ := nm (F_skewbackref04_one : I)
 refine Rs fun K J => sN zp_39 rfl fun b1 hb1 => nl J (Rs fun K J => sC (AV [pI q0]) en_90 bm_ rfl rfl (by rw [hq0]; first | done | rfl) (sC (AV [pI q1]) en_75 d3_ rfl rfl (by rw [hq1]; first | done | rfl) (sQ (cy_ zp_39 pl_39 rfl (.cons [pI q0] [pI q0, pI I0] rfl rfl rfl rfl (.cons [pI q1] [pI q0, pI q1] rfl rfl rfl rfl (.nil _)))) rfl (sS [pI q0, pI q1] ty_39 rfl rfl rfl rfl rfl (.head _) rfl hb1 (nl J (W_ret (ret1 rfl (.inr rfl) (resP rfl m0 ty_39 rfl) ?_)))))))
 exact (by subst hq1; subst hq0; rfl)

theorem cD_ (a : I) (b : I) :
    Ret Tryz.prog 73 [AV [pI a], AV [pI b]] (AV [pI ((am_ a b).n), pI ((am_ a b).d)]) := by
 refine av_ (N := 35) Tryz.func73 rfl rfl (by simp) (fun w0 => ?_)
 simp only [initF, Nat.reduceAdd]
 refine Rs fun K J => WL_r rfl (a1_ rfl rfl (fun b1 hb1 => WL_r rfl (a1_ rfl rfl (fun b2 hb2 => sN zp_39 rfl fun b3 hb3 => nl J (Sq fun K1 J1 => ?_)))))
 refine bQ_ [6, 7, 8, 9, 10, 11, 12, 13, 14, 15, 16, 17, 18] (fun g M => (g 18 = .bool (!a.1.good || (!b.1.good || ((Z.signW b.dec).1 == 0)))) ∧ M = [⟨b3, 39, flat [pI I0, pI I0]⟩, ⟨b2, 37, flat [pI b]⟩, ⟨b1, 37, flat [pI a]⟩]) (fun K2 J2 => ?_) ?_
 ·skip
  refine Rk fun K J => sQ (qL ty_37 rfl m2 rfl) rfl (sC (.bool a.1.good) en_86 (aH_ a.1 a.2) rfl rfl rfl (sE rfl ?_))
  rcases bt a.1.good with h6 | h6
  ·skip
   refine sB (not_f h6) rfl (sQ (qL ty_37 rfl m1 rfl) rfl (sC (.bool b.1.good) en_86 (aH_ b.1 b.2) rfl rfl rfl (sE rfl (sE rfl ?_))))
   rcases bt b.1.good with h7 | h7
   ·skip
    refine sB (not_f h7) rfl (sQ (qL ty_37 rfl m1 rfl) rfl (sC (.int .i64 ((Z.signW b.dec).1)) en_40 (ba_ b.1 b.2) rfl rfl rfl (sE rfl (sE rfl (nl J ?_)))))
    refine J2 _ _ (by repeat first | exact .refl | refine .cons rfl ?_) ⟨_, s0, ?s18, rfl⟩
    case s18 => exact congrArg Value.bool (nor_t h6 (nor_t h7 rfl))
   ·skip
    refine sB (not_t h7) rfl (WL_n rfl (WL_n rfl (WL_n rfl (sE rfl (nl J ?_)))))
    refine J2 _ _ (by repeat first | exact .refl | refine .cons rfl ?_) ⟨_, s0, ?s18, rfl⟩
    case s18 => exact congrArg Value.bool (nor_t h6 (nor_f h7))
  ·skip
   refine sB (not_t h6) rfl (WL_n rfl (WL_n rfl (WL_n rfl (sE rfl (sE rfl (WL_n rfl (WL_n rfl (WL_n rfl (sE rfl (nl J ?_))))))))))
   refine J2 _ _ (by repeat first | exact .refl | refine .cons rfl ?_) ⟨_, s0, ?s18, rfl⟩
   case s18 => exact congrArg Value.bool (nor_f h6)
 ·skip
  rintro g8 M ⟨hg18, rfl⟩
  simp only [setG, hg18]
  clear hg18
  rcases bt (!a.1.good || (!b.1.good || ((Z.signW b.dec).1 == 0))) with h9 | h9
  ·skip
   refine W_t h9 rfl (Rs fun K J => sQ (q_ret en_76 dt_  rfl) rfl (sS [pI cL_.n, pI cL_.d] ty_39 rfl rfl rfl rfl rfl (.head _) rfl hb3 (nl J (W_ret (ai_ (ret1 rfl (.inr rfl) (resP rfl m0 ty_39 rfl) ?_))))))
   exact (by exact congrArg (fun r : Rt => (AV [pI r.n, pI r.d] : Value)) (show _ = (am_ a b) from bif_t h9 rfl))
  ·skip
   refine W_f h9 rfl (ak_ (J1 _ _ (Rs fun K J => sQ (qL ty_37 rfl m2 rfl) rfl (sQ (qL ty_37 rfl m1 rfl) rfl (sC (AV [pI (E (Z.gcd a.dec b.dec))]) en_77 (cN_ a.1 b.1 a.2 b.2) rfl rfl rfl (sN zp_37 rfl fun b10 hb10 => sS [pI (E (Z.gcd a.dec b.dec))] ty_37 rfl rfl rfl rfl rfl (.head _) rfl hb10 (nl J (Sq fun K3 J3 => Rs fun K J => sQ (qL ty_37 rfl m2 rfl) rfl (sC (.int .i64 ((Z.signW b.dec).1)) en_40 (ba_ b.1 b.2) rfl rfl rfl (sE rfl (nl J ?_)))))))))))
   rcases bt (decide ((Z.signW b.dec).1 < 0)) with h11 | h11
   ·skip
    refine W_t h11 rfl (Rk fun K J => sQ (qL ty_37 rfl m0 rfl) rfl (sC (AV [pI (E (Z.neg (Z.gcd a.dec b.dec)))]) en_84 (dw_ (E (Z.gcd a.dec b.dec)).1 (E (Z.gcd a.dec b.dec)).2) rfl rfl (cg1 (fun p => AV [pI (E (Z.neg p))]) (E_dec _)) (sS [pI (E (Z.neg (Z.gcd a.dec b.dec)))] ty_37 rfl rfl rfl rfl rfl (.head _) rfl hb10 (nl J (J3 _ _ (ds (sk (sd (sk (sk (s0))))) [0,4,8,12,16,20,24,29] [7] mix (by kernel_rfl) (fun K J => pQ rfl (qL ty_37 rfl m3 rfl) (pQ rfl (qL ty_37 rfl m0 rfl) (pC (AV [pI (E (Z.quo a.dec (Z.neg (Z.gcd a.dec b.dec))))]) en_78 (bC_ a.1 (E (Z.neg (Z.gcd a.dec b.dec))).1 a.2 (E (Z.neg (Z.gcd a.dec b.dec))).2) rfl rfl (cg2 (fun p q => AV [pI (E (Z.quo p q))]) rfl (E_dec _)) (pQ rfl (qL ty_37 rfl m2 rfl) (pQ rfl (qL ty_37 rfl m0 rfl) (pC (AV [pI (E (Z.quo b.dec (Z.neg (Z.gcd a.dec b.dec))))]) en_78 (bC_ b.1 (E (Z.neg (Z.gcd a.dec b.dec))).1 b.2 (E (Z.neg (Z.gcd a.dec b.dec))).2) rfl rfl (cg2 (fun p q => AV [pI (E (Z.quo p q))]) rfl (E_dec _)) (pQ rfl (cy_ zp_39 pl_39 rfl (.cons [pI (E (Z.quo a.dec (Z.neg (Z.gcd a.dec b.dec))))] [pI (E (Z.quo a.dec (Z.neg (Z.gcd a.dec b.dec)))), pI I0] rfl rfl rfl rfl (.cons [pI (E (Z.quo b.dec (Z.neg (Z.gcd a.dec b.dec))))] [pI (E (Z.quo a.dec (Z.neg (Z.gcd a.dec b.dec)))), pI (E (Z.quo b.dec (Z.neg (Z.gcd a.dec b.dec))))] rfl rfl rfl rfl (.nil _)))) (oS [pI (E (Z.quo a.dec (Z.neg (Z.gcd a.dec b.dec)))), pI (E (Z.quo b.dec (Z.neg (Z.gcd a.dec b.dec))))] ty_39 rfl rfl rfl rfl rfl rfl (.tail _ (.head _)) rfl hb3 rfl (sk (sd s0)) (fl J (W_ret (ret1 rfl (.inr rfl) (resP rfl m1 ty_39 rfl) ?_)))))))))))))))))
    exact (by exact congrArg (fun r : Rt => (AV [pI r.n, pI r.d] : Value)) (show _ = (am_ a b) from bif_f h9 (bif_t h11 rfl)))
   ·skip
    refine W_f h11 rfl (ak_ (J3 _ _ (ds (sk (sd (sk (sk (s0))))) [0,4,8,12,16,20,24,29] [7] mix (by kernel_rfl) (fun K J => pQ rfl (qL ty_37 rfl m3 rfl) (pQ rfl (qL ty_37 rfl m0 rfl) (pC (AV [pI (E (Z.quo a.dec (Z.gcd a.dec b.dec)))]) en_78 (bC_ a.1 (E (Z.gcd a.dec b.dec)).1 a.2 (E (Z.gcd a.dec b.dec)).2) rfl rfl (cg2 (fun p q => AV [pI (E (Z.quo p q))]) rfl (E_dec _)) (pQ rfl (qL ty_37 rfl m2 rfl) (pQ rfl (qL ty_37 rfl m0 rfl) (pC (AV [pI (E (Z.quo b.dec (Z.gcd a.dec b.dec)))]) en_78 (bC_ b.1 (E (Z.gcd a.dec b.dec)).1 b.2 (E (Z.gcd a.dec b.dec)).2) rfl rfl (cg2 (fun p q => AV [pI (E (Z.quo p q))]) rfl (E_dec _)) (pQ rfl (cy_ zp_39 pl_39 rfl (.cons [pI (E (Z.quo a.dec (Z.gcd a.dec b.dec)))] [pI (E (Z.quo a.dec (Z.gcd a.dec b.dec))), pI I0] rfl rfl rfl rfl (.cons [pI (E (Z.quo b.dec (Z.gcd a.dec b.dec)))] [pI (E (Z.quo a.dec (Z.gcd a.dec b.dec))), pI (E (Z.quo b.dec (Z.gcd a.dec b.dec)))] rfl rfl rfl rfl (.nil _)))) (oS [pI (E (Z.quo a.dec (Z.gcd a.dec b.dec))), pI (E (Z.quo b.dec (Z.gcd a.dec b.dec)))] ty_39 rfl rfl rfl rfl rfl rfl (.tail _ (.head _)) rfl hb3 rfl (sk (sd s0)) (fl J (W_ret (ret1 rfl (.inr rfl) (resP rfl m1 ty_39 rfl) ?_))))))))))))))
    exact (by exact congrArg (fun r : Rt => (AV [pI r.n, pI r.d] : Value)) (show _ = (am_ a b) from bif_f h9 (bif_f h11 rfl)))

theorem bx_ (a : W) :
    Ret Tryz.prog 25 [.int .i64 a.1] (AV [pI ((ac_ a).n), pI ((ac_ a).d)]) := by
 refine av_ (N := 7) Tryz.func25 rfl rfl (by simp) (fun w0 => ?_)
 simp only [initF, Nat.reduceAdd]
 refine Rs fun K J => sN zp_39 rfl fun b1 hb1 => nl J (Rs fun K J => sE rfl (sC (AV [pI (E (Z.of a.1))]) en_74 (a9_ a.1 a.2) rfl rfl rfl (sQ (q_ret en_75 d3_  rfl) rfl ?_)))
 obtain ⟨r2, hr2⟩ := nm ((am_ (E (Z.of a.1)) F_skewbackref04_one) : Rt)
 refine sC (AV [pI r2.n, pI r2.d]) en_73 (cD_ (E (Z.of a.1)) F_skewbackref04_one) rfl rfl (by rw [hr2]; first | done | rfl) (sS [pI r2.n, pI r2.d] ty_39 rfl rfl rfl rfl rfl (.head _) rfl hb1 (nl J (W_ret (ret1 rfl (.inr rfl) (resP rfl m0 ty_39 rfl) ?_))))
 exact (by subst hr2; rfl)

theorem dm_ (a : W) (b : W) :
    Ret Tryz.prog 37 [.int .i64 a.1, .int .i64 b.1] (AV [pI ((ay_ a b).n), pI ((ay_ a b).d)]) := by
 refine av_ (N := 10) Tryz.func37 rfl rfl (by simp) (fun w0 => ?_)
 simp only [initF, Nat.reduceAdd]
 refine Rs fun K J => sN zp_39 rfl fun b1 hb1 => nl J (Rs fun K J => sE rfl (sC (AV [pI (E (Z.of a.1))]) en_74 (a9_ a.1 a.2) rfl rfl rfl (sE rfl (sC (AV [pI (E (Z.of b.1))]) en_74 (a9_ b.1 b.2) rfl rfl rfl ?_))))
 obtain ⟨r2, hr2⟩ := nm ((am_ (E (Z.of a.1)) (E (Z.of b.1))) : Rt)
 refine sC (AV [pI r2.n, pI r2.d]) en_73 (cD_ (E (Z.of a.1)) (E (Z.of b.1))) rfl rfl (by rw [hr2]; first | done | rfl) (sS [pI r2.n, pI r2.d] ty_39 rfl rfl rfl rfl rfl (.head _) rfl hb1 (nl J (W_ret (ret1 rfl (.inr rfl) (resP rfl m0 ty_39 rfl) ?_))))
 exact (by subst hr2; rfl)

end Go.Proofs.YtapbefpeopaecaaGreatDoor

