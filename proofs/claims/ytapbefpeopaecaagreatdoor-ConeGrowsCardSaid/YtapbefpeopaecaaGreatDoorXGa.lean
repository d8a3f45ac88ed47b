/- Walks: what these functions return. -/
import Derived.Test.YtapbefpeopaecaaGreatDoorXGE
import Derived.Test.YtapbefpeopaecaaGreatDoorXFWq
import Derived.Test.YtapbefpeopaecaaGreatDoorXSb
import Derived.Test.YtapbefpeopaecaaGreatDoorXSe
import Derived.Test.YtapbefpeopaecaaGreatDoorXSh
import Derived.Test.YtapbefpeopaecaaGreatDoorXWa
import Derived.Test.YtapbefpeopaecaaGreatDoorXWc
import Derived.Test.YtapbefpeopaecaaGreatDoorXWe
import Derived.Test.YtapbefpeopaecaaGreatDoorXWh
import Derived.Test.YtapbefpeopaecaaGreatDoorXWi
namespace Go.Proofs.YtapbefpeopaecaaGreatDoor
open Go.Kn Go.Num
set_option linter.unusedVariables false
set_option linter.unusedSimpArgs false
set_option maxRecDepth 20000
set_option maxHeartbeats 8000000
theorem e8_  :
    Ret Tryz.prog 144 [] (AV [pI F_ratio_one]) := by
 refine az_ (N := 2) Tryz.func144 rfl rfl (by simp) (fun w0 => ?_)
 simp only [initF, Nat.reduceAdd]
 obtain ⟨q0, hq0⟩ := nm ((E (Z.of 1)) : I)
 refine Rs fun K J => sN zp_37 rfl fun b1 hb1 => nl J (Rs fun K J => sC (AV [pI q0]) en_61 (be_ (wl 1).1 (wl 1).2) rfl rfl (by rw [hq0]; first | done | rfl) ?_)
 refine sS [pI q0] ty_37 rfl rfl rfl rfl rfl (.head _) rfl hb1 (nl J (W_ret (ret1 rfl (.inr rfl) (resP rfl m0 ty_37 rfl) ?_)))
 exact (by subst hq0; rfl)

theorem cM_  :
    Ret Tryz.prog 104 [] (AV [pI dO_.n, pI dO_.d]) := by
 refine az_ (N := 4) Tryz.func104 rfl rfl (by simp) (fun w0 => ?_)
 simp only [initF, Nat.reduceAdd]
 obtain ⟨q0, hq0⟩ := nm ((E Z.bad) : I)
 obtain ⟨q1, hq1⟩ := nm (F_ratio_one : I)
 refine Rs fun K J => sN zp_39 rfl fun b1 hb1 => nl J (Rs fun K J => sC (AV [pI q0]) ef_ bu_ rfl rfl (by rw [hq0]; first | done | rfl) (sC (AV [pI q1]) mv_ e8_ rfl rfl (by rw [hq1]; first | done | rfl) (sQ (cY_ zp_39 pl_39 rfl (.cons [pI q0] [pI q0, pI I0] rfl rfl rfl rfl (.cons [pI q1] [pI q0, pI q1] rfl rfl rfl rfl (.nil _)))) rfl (sS [pI q0, pI q1] ty_39 rfl rfl rfl rfl rfl (.head _) rfl hb1 (nl J (W_ret (ret1 rfl (.inr rfl) (resP rfl m0 ty_39 rfl) ?_)))))))
 exact (by subst hq1; subst hq0; rfl)

theorem d6_ (a : I) :
    Ret Tryz.prog 106 [AV [pI a]] (.bool (bP_ a)) := by
 refine az_ (N := 10) Tryz.func106 rfl rfl (by simp) (fun w0 => ?_)
 simp only [initF, Nat.reduceAdd]
 refine Rs fun K J => WL_r rfl (bl_ rfl rfl (fun b1 hb1 => sE rfl (nl J ?_)))
 refine b3_ [2, 3, 4, 5, 6, 7, 8, 9] (fun g M => (g 2 = .bool (!a.1.bad && a.1.valid)) ∧ M = [⟨b1, 37, flat [pI a]⟩]) (fun K1 J1 => ?_) ?_
 ·skip
  refine Rk fun K J => sQ (qF dN_ rfl rfl) rfl (sQ (qC ty_4 rfl m0 rfl) rfl (sE rfl ?_))
  rcases bt a.1.bad with h3 | h3
  ·skip
   refine sB (not_f h3) rfl (WL_n rfl (WL_n rfl (sE rfl (sE rfl (nl J ?_)))))
   refine J1 _ _ (by repeat first | exact .refl | refine .cons rfl ?_) ⟨_, s0, ?s2, rfl⟩
   case s2 => exact congrArg Value.bool (hH_ h3)
  ·skip
   refine sB (not_t h3) rfl (sQ (qL ty_37 rfl m0 rfl) rfl (sC (.bool a.1.valid) lW_ (eJ_ a.1 a.2) rfl rfl rfl (sE rfl (sE rfl (nl J ?_)))))
   refine J1 _ _ (by repeat first | exact .refl | refine .cons rfl ?_) ⟨_, s0, ?s2, rfl⟩
   case s2 => exact congrArg Value.bool (fj_ h3 rfl)
 ·skip
  rintro g4 M ⟨hg2, rfl⟩
  simp only [setG, hg2]
  clear hg2
  refine W_ret (ret1 rfl (.inr rfl) rfl ?_)
  exact (by rfl)

theorem cD_ (a : Rt) :
    Ret Tryz.prog 103 [AV [pI a.n, pI a.d]] (.bool (aK_ a)) := by
 refine az_ (N := 26) Tryz.func103 rfl rfl (by simp) (fun w0 => ?_)
 simp only [initF, Nat.reduceAdd]
 refine Rs fun K J => WL_r rfl (bl_ rfl rfl (fun b1 hb1 => sE rfl (nl J ?_)))
 refine b3_ [2, 3, 4, 5, 6, 7, 8, 9, 10, 11, 12, 13, 14, 15, 16, 17, 18, 19, 20, 21, 22, 23, 24, 25] (fun g M => (g 2 = .bool ((bP_ a.n) && ((bP_ a.d) && (decide (0 < (Z.signW a.d.dec).1) && decide ((E (Z.gcd a.n.dec a.d.dec)) = F_ratio_one))))) ∧ M = [⟨b1, 39, flat [pI a.n, pI a.d]⟩]) (fun K1 J1 => ?_) ?_
 ·skip
  refine Rk fun K J => sQ (qF cN_ rfl rfl) rfl (sQ (qL ty_37 rfl m0 rfl) rfl (sQ (q_ret kk_ (d6_ a.n) rfl) rfl ?_))
  rcases bt (bP_ a.n) with h5 | h5
  ·skip
   refine sB h5 rfl (sQ (qF b9_ rfl rfl) rfl (sQ (qL ty_37 rfl m0 rfl) rfl (sQ (q_ret kk_ (d6_ a.d) rfl) rfl (sE rfl ?_))))
   rcases bt (bP_ a.d) with h6 | h6
   ·skip
    refine sB h6 rfl (sQ (qF b9_ rfl rfl) rfl (sQ (qL ty_37 rfl m0 rfl) rfl (sC (.int .i64 ((Z.signW a.d.dec).1)) eZ_ (bO_ a.d.1 a.d.2) rfl rfl rfl (sE rfl (sE rfl ?_)))))
    rcases bt (decide (0 < (Z.signW a.d.dec).1)) with h7 | h7
    ·skip
     refine sB h7 rfl (sQ (qF cN_ rfl rfl) rfl (sQ (qL ty_37 rfl m0 rfl) rfl (sQ (qF b9_ rfl rfl) rfl (sQ (qL ty_37 rfl m0 rfl) rfl (sC (AV [pI (E (Z.gcd a.n.dec a.d.dec))]) gT_ (dH_ a.n.1 a.d.1 a.n.2 a.d.2) rfl rfl rfl (sQ (q_ret mv_ e8_  rfl) rfl ?_))))))
     refine sQ (hm_ (r := decide ((E (Z.gcd a.n.dec a.d.dec)) = F_ratio_one)) rfl rfl (dP_ 8 (by decide) eg_37 lw_37 (et_ lv_pI) (et_ lv_pI) (fG_ eq_pI))) rfl (sE rfl (sE rfl (nl J ?_)))
     refine J1 _ _ (by repeat first | exact .refl | refine .cons rfl ?_) ⟨_, s0, ?s2, rfl⟩
     case s2 => exact congrArg Value.bool (and_t h5 (and_t h6 (and_t h7 rfl)))
    ·skip
     refine sB h7 rfl (WL_n rfl (WL_n rfl (WL_n rfl (WL_n rfl (WL_n rfl (WL_n rfl (WL_n rfl (sE rfl (sE rfl (nl J ?_))))))))))
     refine J1 _ _ (by repeat first | exact .refl | refine .cons rfl ?_) ⟨_, s0, ?s2, rfl⟩
     case s2 => exact congrArg Value.bool (and_t h5 (and_t h6 (and_f h7)))
   ·skip
    refine sB h6 rfl (WL_n rfl (WL_n rfl (WL_n rfl (WL_n rfl (sE rfl (sE rfl (WL_n rfl (WL_n rfl (WL_n rfl (WL_n rfl (WL_n rfl (WL_n rfl (WL_n rfl (sE rfl (sE rfl (nl J ?_))))))))))))))))
    refine J1 _ _ (by repeat first | exact .refl | refine .cons rfl ?_) ⟨_, s0, ?s2, rfl⟩
    case s2 => exact congrArg Value.bool (and_t h5 (and_f h6))
  ·skip
   refine sB h5 rfl (WL_n rfl (WL_n rfl (WL_n rfl (sE rfl (sE rfl (WL_n rfl (WL_n rfl (WL_n rfl (WL_n rfl (sE rfl (sE rfl (WL_n rfl (WL_n rfl (WL_n rfl (WL_n rfl (WL_n rfl (WL_n rfl (WL_n rfl (sE rfl ?_)))))))))))))))))))
   refine sE rfl (nl J ?_)
   refine J1 _ _ (by repeat first | exact .refl | refine .cons rfl ?_) ⟨_, s0, ?s2, rfl⟩
   case s2 => exact congrArg Value.bool (and_f h5)
 ·skip
  rintro g8 M ⟨hg2, rfl⟩
  simp only [setG, hg2]
  clear hg2
  refine W_ret (ret1 rfl (.inr rfl) rfl ?_)
  exact (by rfl)

theorem cE_ (a : I) (b : I) :
    Ret Tryz.prog 59 [AV [pI a], AV [pI b]] (AV [pI ((ai_ a b).n), pI ((ai_ a b).d)]) := by
 refine az_ (N := 35) Tryz.func59 rfl rfl (by simp) (fun w0 => ?_)
 simp only [initF, Nat.reduceAdd]
 refine Rs fun K J => WL_r rfl (bl_ rfl rfl (fun b1 hb1 => WL_r rfl (bl_ rfl rfl (fun b2 hb2 => sN zp_39 rfl fun b3 hb3 => nl J (Sq fun K1 J1 => ?_)))))
 refine b3_ [6, 7, 8, 9, 10, 11, 12, 13, 14, 15, 16, 17, 18] (fun g M => (g 18 = .bool (!(bP_ a) || (!(bP_ b) || ((Z.signW b.dec).1 == 0)))) ∧ M = [⟨b3, 39, flat [pI I0, pI I0]⟩, ⟨b2, 37, flat [pI b]⟩, ⟨b1, 37, flat [pI a]⟩]) (fun K2 J2 => ?_) ?_
 ·skip
  refine Rk fun K J => sQ (qL ty_37 rfl m2 rfl) rfl (sQ (q_ret kk_ (d6_ a) rfl) rfl (sE rfl ?_))
  rcases bt (bP_ a) with h6 | h6
  ·skip
   refine sB (not_f h6) rfl (sQ (qL ty_37 rfl m1 rfl) rfl (sQ (q_ret kk_ (d6_ b) rfl) rfl (sE rfl (sE rfl ?_))))
   rcases bt (bP_ b) with h7 | h7
   ·skip
    refine sB (not_f h7) rfl (sQ (qL ty_37 rfl m1 rfl) rfl (sC (.int .i64 ((Z.signW b.dec).1)) eZ_ (bO_ b.1 b.2) rfl rfl rfl (sE rfl (sE rfl (nl J ?_)))))
    refine J2 _ _ (by repeat first | exact .refl | refine .cons rfl ?_) ⟨_, s0, ?s18, rfl⟩
    case s18 => exact congrArg Value.bool (nor_t h6 (nor_t h7 rfl))
   ·skip
    refine sB (not_t h7) rfl (WL_n rfl (WL_n rfl (WL_n rfl (sE rfl (nl J ?_)))))
    refine J2 _ _ (by repeat first | exact .refl | refine .cons rfl ?_) ⟨_, s0, ?s18, rfl⟩
    case s18 => exact congrArg Value.bool (nor_t h6 (nor_f h7))
  ·skip
   refine sB (not_t h6) rfl (WL_n rfl (WL_n rfl (WL_n rfl (sE rfl (sE rfl (WL_n rfl (WL_n rfl (WL_n rfl (sE rfl (nl J ?_))))))))))
   refine J2 _ _ (by repeat first | exact .refl | refine .cons rfl ?_) ⟨_, s0, ?s18, rfl⟩
   case s18 => exact congrArg Value.bool (nor_f h6)
 ·skip
  rintro g8 M ⟨hg18, rfl⟩
  simp only [setG, hg18]
  clear hg18
  rcases bt (!(bP_ a) || (!(bP_ b) || ((Z.signW b.dec).1 == 0))) with h9 | h9
  ·skip
   refine W_t h9 rfl (Rs fun K J => sQ (q_ret gl_ cM_  rfl) rfl (sS [pI dO_.n, pI dO_.d] ty_39 rfl rfl rfl rfl rfl (.head _) rfl hb3 (nl J (W_ret (af_ (ret1 rfl (.inr rfl) (resP rfl m0 ty_39 rfl) ?_))))))
   exact (by exact congrArg (fun r : Rt => (AV [pI r.n, pI r.d] : Value)) (show _ = (ai_ a b) from bif_t h9 rfl))
  ·skip
   refine W_f h9 rfl (ah_ (J1 _ _ (Rs fun K J => sQ (qL ty_37 rfl m2 rfl) rfl (sQ (qL ty_37 rfl m1 rfl) rfl (sC (AV [pI (E (Z.gcd a.dec b.dec))]) gT_ (dH_ a.1 b.1 a.2 b.2) rfl rfl rfl (sN zp_37 rfl fun b10 hb10 => sS [pI (E (Z.gcd a.dec b.dec))] ty_37 rfl rfl rfl rfl rfl (.head _) rfl hb10 (nl J (Sq fun K3 J3 => Rs fun K J => sQ (qL ty_37 rfl m2 rfl) rfl (sC (.int .i64 ((Z.signW b.dec).1)) eZ_ (bO_ b.1 b.2) rfl rfl rfl (sE rfl (nl J ?_)))))))))))
   rcases bt (decide ((Z.signW b.dec).1 < 0)) with h11 | h11
   ·skip
    refine W_t h11 rfl (Rk fun K J => sQ (qL ty_37 rfl m0 rfl) rfl (sC (AV [pI (E (Z.neg (Z.gcd a.dec b.dec)))]) kx_ (eD_ (E (Z.gcd a.dec b.dec)).1 (E (Z.gcd a.dec b.dec)).2) rfl rfl (cg1 (fun p => AV [pI (E (Z.neg p))]) (E_dec _)) (sS [pI (E (Z.neg (Z.gcd a.dec b.dec)))] ty_37 rfl rfl rfl rfl rfl (.head _) rfl hb10 (nl J (J3 _ _ (ds (sk (sd (sk (sk (s0))))) [0,4,8,12,16,20,24,29] [7] mix (by kernel_rfl) (fun K J => pQ rfl (qL ty_37 rfl m3 rfl) (pQ rfl (qL ty_37 rfl m0 rfl) (pC (AV [pI (E (Z.quo a.dec (Z.neg (Z.gcd a.dec b.dec))))]) en_97 (bU_ a.1 (E (Z.neg (Z.gcd a.dec b.dec))).1 a.2 (E (Z.neg (Z.gcd a.dec b.dec))).2) rfl rfl (cg2 (fun p q => AV [pI (E (Z.quo p q))]) rfl (E_dec _)) (pQ rfl (qL ty_37 rfl m2 rfl) (pQ rfl (qL ty_37 rfl m0 rfl) (pC (AV [pI (E (Z.quo b.dec (Z.neg (Z.gcd a.dec b.dec))))]) en_97 (bU_ b.1 (E (Z.neg (Z.gcd a.dec b.dec))).1 b.2 (E (Z.neg (Z.gcd a.dec b.dec))).2) rfl rfl (cg2 (fun p q => AV [pI (E (Z.quo p q))]) rfl (E_dec _)) (pQ rfl (cY_ zp_39 pl_39 rfl (.cons [pI (E (Z.quo a.dec (Z.neg (Z.gcd a.dec b.dec))))] [pI (E (Z.quo a.dec (Z.neg (Z.gcd a.dec b.dec)))), pI I0] rfl rfl rfl rfl (.cons [pI (E (Z.quo b.dec (Z.neg (Z.gcd a.dec b.dec))))] [pI (E (Z.quo a.dec (Z.neg (Z.gcd a.dec b.dec)))), pI (E (Z.quo b.dec (Z.neg (Z.gcd a.dec b.dec))))] rfl rfl rfl rfl (.nil _)))) (oS [pI (E (Z.quo a.dec (Z.neg (Z.gcd a.dec b.dec)))), pI (E (Z.quo b.dec (Z.neg (Z.gcd a.dec b.dec))))] ty_39 rfl rfl rfl rfl rfl rfl (.tail _ (.head _)) rfl hb3 rfl (sk (sd s0)) (fl J (W_ret (ret1 rfl (.inr rfl) (resP rfl m1 ty_39 rfl) ?_)))))))))))))))))
    exact (by exact congrArg (fun r : Rt => (AV [pI r.n, pI r.d] : Value)) (show _ = (ai_ a b) from bif_f h9 (bif_t h11 rfl)))
   ·skip
    refine W_f h11 rfl (ah_ (J3 _ _ (ds (sk (sd (sk (sk (s0))))) [0,4,8,12,16,20,24,29] [7] mix (by kernel_rfl) (fun K J => pQ rfl (qL ty_37 rfl m3 rfl) (pQ rfl (qL ty_37 rfl m0 rfl) (pC (AV [pI (E (Z.quo a.dec (Z.gcd a.dec b.dec)))]) en_97 (bU_ a.1 (E (Z.gcd a.dec b.dec)).1 a.2 (E (Z.gcd a.dec b.dec)).2) rfl rfl (cg2 (fun p q => AV [pI (E (Z.quo p q))]) rfl (E_dec _)) (pQ rfl (qL ty_37 rfl m2 rfl) (pQ rfl (qL ty_37 rfl m0 rfl) (pC (AV [pI (E (Z.quo b.dec (Z.gcd a.dec b.dec)))]) en_97 (bU_ b.1 (E (Z.gcd a.dec b.dec)).1 b.2 (E (Z.gcd a.dec b.dec)).2) rfl rfl (cg2 (fun p q => AV [pI (E (Z.quo p q))]) rfl (E_dec _)) (pQ rfl (cY_ zp_39 pl_39 rfl (.cons [pI (E (Z.quo a.dec (Z.gcd a.dec b.dec)))] [pI (E (Z.quo a.dec (Z.gcd a.dec b.dec))), pI I0] rfl rfl rfl rfl (.cons [pI (E (Z.quo b.dec (Z.gcd a.dec b.dec)))] [pI (E (Z.quo a.dec (Z.gcd a.dec b.dec))), pI (E (Z.quo b.dec (Z.gcd a.dec b.dec)))] rfl rfl rfl rfl (.nil _)))) (oS [pI (E (Z.quo a.dec (Z.gcd a.dec b.dec))), pI (E (Z.quo b.dec (Z.gcd a.dec b.dec)))] ty_39 rfl rfl rfl rfl rfl rfl (.tail _ (.head _)) rfl hb3 rfl (sk (sd s0)) (fl J (W_ret (ret1 rfl (.inr rfl) (resP rfl m1 ty_39 rfl) ?_))))))))))))))
    exact (by exact congrArg (fun r : Rt => (AV [pI r.n, pI r.d] : Value)) (show _ = (ai_ a b) from bif_f h9 (bif_f h11 rfl)))

theorem hu_ (a : I) :
    Ret Tryz.prog 113 [AV [pI a]] (AV [pI ((dW_ a).n), pI ((dW_ a).d)]) := by
 refine az_ (N := 6) Tryz.func113 rfl rfl (by simp) (fun w0 => ?_)
 simp only [initF, Nat.reduceAdd]
 refine Rs fun K J => WL_r rfl (bl_ rfl rfl (fun b1 hb1 => sN zp_39 rfl fun b2 hb2 => nl J (ds (sd (sk (s0))) [0,4,8,13] [3] mix (by kernel_rfl) (fun K J => pQ rfl (qL ty_37 rfl m1 rfl) (pQ rfl (q_ret mv_ e8_  rfl) (pQ rfl (q_ret en_59 (cE_ a F_ratio_one) rfl) (oS [pI ((ai_ a F_ratio_one).n), pI ((ai_ a F_ratio_one).d)] ty_39 rfl rfl rfl rfl rfl rfl (.head _) rfl hb2 rfl (sd s0) (fl J (W_ret (ret1 rfl (.inr rfl) (resP rfl m0 ty_39 rfl) ?_))))))))))
 exact (by rfl)

theorem bQ_ (a : W) :
    Ret Tryz.prog 62 [.int .i64 a.1] (AV [pI ((aa_ a).n), pI ((aa_ a).d)]) := by
 refine az_ (N := 6) Tryz.func62 rfl rfl (by simp) (fun w0 => ?_)
 simp only [initF, Nat.reduceAdd]
 refine Rs fun K J => sN zp_39 rfl fun b1 hb1 => nl J (Rs fun K J => sE rfl (sC (AV [pI (E (Z.of a.1))]) en_61 (be_ a.1 a.2) rfl rfl rfl (sQ (q_ret qz_ (hu_ (E (Z.of a.1))) rfl) rfl (sS [pI ((dW_ (E (Z.of a.1))).n), pI ((dW_ (E (Z.of a.1))).d)] ty_39 rfl rfl rfl rfl rfl (.head _) rfl hb1 (nl J (W_ret (ret1 rfl (.inr rfl) (resP rfl m0 ty_39 rfl) ?_)))))))
 exact (by rfl)

theorem eA_ (a : Rt) :
    Ret Tryz.prog 114 [AV [pI a.n, pI a.d]] (AV [pI ((bE_ a).n), pI ((bE_ a).d)]) := by
 refine az_ (N := 13) Tryz.func114 rfl rfl (by simp) (fun w0 => ?_)
 simp only [initF, Nat.reduceAdd]
 refine Rs fun K J => WL_r rfl (bl_ rfl rfl (fun b1 hb1 => sN zp_39 rfl fun b2 hb2 => nl J (Sq fun K1 J1 => Rs fun K J => sQ (qL ty_39 rfl m1 rfl) rfl (sQ (q_ret gq_ (cD_ a) rfl) rfl (sE rfl (nl J ?_))))))
 rcases bt (aK_ a) with h3 | h3
 ·skip
  refine W_f (not_f h3) rfl (ah_ (J1 _ _ (ds (sd (sk (s0))) [0,4,8,12,16,20,25] [6] mix (by kernel_rfl) (fun K J => pQ rfl (qF cN_ rfl rfl) (pQ rfl (qL ty_37 rfl m1 rfl) (pC (AV [pI (E (Z.neg a.n.dec))]) kx_ (eD_ a.n.1 a.n.2) rfl rfl rfl (pQ rfl (qF b9_ rfl rfl) (pQ rfl (qL ty_37 rfl m1 rfl) (pQ rfl (cY_ zp_39 pl_39 rfl (.cons [pI (E (Z.neg a.n.dec))] [pI (E (Z.neg a.n.dec)), pI I0] rfl rfl rfl rfl (.cons [pI a.d] [pI (E (Z.neg a.n.dec)), pI a.d] rfl rfl rfl rfl (.nil _)))) (oS [pI (E (Z.neg a.n.dec)), pI a.d] ty_39 rfl rfl rfl rfl rfl rfl (.head _) rfl hb2 rfl (sd s0) (fl J (W_ret (ret1 rfl (.inr rfl) (resP rfl m0 ty_39 rfl) ?_)))))))))))))
  exact (by exact congrArg (fun r : Rt => (AV [pI r.n, pI r.d] : Value)) (show _ = (bE_ a) from bif_t h3 rfl))
 ·skip
  refine W_t (not_t h3) rfl (Rs fun K J => sQ (q_ret gl_ cM_  rfl) rfl (sS [pI dO_.n, pI dO_.d] ty_39 rfl rfl rfl rfl rfl (.head _) rfl hb2 (nl J (W_ret (af_ (ret1 rfl (.inr rfl) (resP rfl m0 ty_39 rfl) ?_))))))
  exact (by exact congrArg (fun r : Rt => (AV [pI r.n, pI r.d] : Value)) (show _ = (bE_ a) from bif_f h3 rfl))

theorem aV_ (a : Rt) (b : Rt) :
    Ret Tryz.prog 66 [AV [pI a.n, pI a.d], AV [pI b.n, pI b.d]] (AV [pI ((ar_ a b).n), pI ((ar_ a b).d)]) := by
 refine az_ (N := 44) Tryz.func66 rfl rfl (by simp) (fun w0 => ?_)
 simp only [initF, Nat.reduceAdd]
 refine Rs fun K J => WL_r rfl (bl_ rfl rfl (fun b1 hb1 => WL_r rfl (bl_ rfl rfl (fun b2 hb2 => sN zp_39 rfl fun b3 hb3 => nl J (Sq fun K1 J1 => ?_)))))
 refine b3_ [8, 9, 10, 11, 12, 13, 14, 15] (fun g M => (g 15 = .bool (!(aK_ a) || (!(aK_ b)))) ∧ M = [⟨b3, 39, flat [pI I0, pI I0]⟩, ⟨b2, 39, flat [pI b.n, pI b.d]⟩, ⟨b1, 39, flat [pI a.n, pI a.d]⟩]) (fun K2 J2 => ?_) ?_
 ·skip
  refine Rk fun K J => sQ (qL ty_39 rfl m2 rfl) rfl (sQ (q_ret gq_ (cD_ a) rfl) rfl (sE rfl ?_))
  rcases bt (aK_ a) with h5 | h5
  ·skip
   refine sB (not_f h5) rfl (sQ (qL ty_39 rfl m1 rfl) rfl (sQ (q_ret gq_ (cD_ b) rfl) rfl (sE rfl (sE rfl (nl J ?_)))))
   refine J2 _ _ (by repeat first | exact .refl | refine .cons rfl ?_) ⟨_, s0, ?s15, rfl⟩
   case s15 => exact congrArg Value.bool (nor_t h5 rfl)
  ·skip
   refine sB (not_t h5) rfl (WL_n rfl (WL_n rfl (WL_n rfl (sE rfl (nl J ?_)))))
   refine J2 _ _ (by repeat first | exact .refl | refine .cons rfl ?_) ⟨_, s0, ?s15, rfl⟩
   case s15 => exact congrArg Value.bool (nor_f h5)
 ·skip
  rintro g6 M ⟨hg15, rfl⟩
  simp only [setG, hg15]
  clear hg15
  rcases bt (!(aK_ a) || (!(aK_ b))) with h7 | h7
  ·skip
   refine W_t h7 rfl (Rs fun K J => sQ (q_ret gl_ cM_  rfl) rfl (sS [pI dO_.n, pI dO_.d] ty_39 rfl rfl rfl rfl rfl (.head _) rfl hb3 (nl J (W_ret (af_ (ret1 rfl (.inr rfl) (resP rfl m0 ty_39 rfl) ?_))))))
   exact (by exact congrArg (fun r : Rt => (AV [pI r.n, pI r.d] : Value)) (show _ = (ar_ a b) from bif_t h7 rfl))
  ·skip
   refine W_f h7 rfl (ah_ (J1 _ _ (Rs fun K J => sQ (qF b9_ rfl rfl) rfl (sQ (qL ty_37 rfl m2 rfl) rfl (sQ (qF b9_ rfl rfl) rfl (sQ (qL ty_37 rfl m1 rfl) rfl (sC (AV [pI (E (Z.gcd a.d.dec b.d.dec))]) gT_ (dH_ a.d.1 b.d.1 a.d.2 b.d.2) rfl rfl rfl (sN zp_37 rfl fun b8 hb8 => sS [pI (E (Z.gcd a.d.dec b.d.dec))] ty_37 rfl rfl rfl rfl rfl (.head _) rfl hb8 (nl J (W_sdr (sk (sk (sk (sk (s0))))) (.quiet 0 [1,3,7,10,11] (.quiet 1 [3,7,10,11] (.quiet 2 [3,7,10,11] (.quiet 3 [7,10,11] (.quiet 4 [5,7,10,11] (.quiet 5 [7,10,11] (.quiet 6 [7,10,11] (.quiet 7 [10,11] (.both 8 (.only 9 (.only 10 (.only 11 (.fin)))) 9 (.only 8 (.only 10 (.only 11 (.fin))))))))))))) [0,1,2,3,4,5,6,7,8,9] mix (by kernel_rfl) (by kernel_rfl) (fun K J => pQ rfl (qF b9_ rfl rfl) (pQ rfl (qL ty_37 rfl m3 rfl) (pQ rfl (qL ty_37 rfl m0 rfl) (pC (AV [pI (E (Z.quo a.d.dec (Z.gcd a.d.dec b.d.dec)))]) en_97 (bU_ a.d.1 (E (Z.gcd a.d.dec b.d.dec)).1 a.d.2 (E (Z.gcd a.d.dec b.d.dec)).2) rfl rfl (cg2 (fun p q => AV [pI (E (Z.quo p q))]) rfl (E_dec _)) (pQ rfl (qF b9_ rfl rfl) (pQ rfl (qL ty_37 rfl m2 rfl) (pQ rfl (qL ty_37 rfl m0 rfl) ?_)))))))))))))))))
   refine pC (AV [pI (E (Z.quo b.d.dec (Z.gcd a.d.dec b.d.dec)))]) en_97 (bU_ b.d.1 (E (Z.gcd a.d.dec b.d.dec)).1 b.d.2 (E (Z.gcd a.d.dec b.d.dec)).2) rfl rfl (cg2 (fun p q => AV [pI (E (Z.quo p q))]) rfl (E_dec _)) ?_
   refine PL_b ?_ ?_
   ·skip
    refine PL_o rfl rfl (bq_ zp_37 (fun b9 hb9 => ⟨(fun _ => sd s0), (sd s0), PL_o rfl rfl (bq_ zp_37 (fun b10 hb10 => ⟨(fun _ => sd s0), (sd (sd s0)), oS [pI (E (Z.quo a.d.dec (Z.gcd a.d.dec b.d.dec)))] ty_37 rfl rfl rfl rfl rfl rfl (.tail _ (.head _)) rfl hb9 rfl (sd (sd s0)) (oS [pI (E (Z.quo b.d.dec (Z.gcd a.d.dec b.d.dec)))] ty_37 rfl rfl rfl rfl rfl rfl (.head _) rfl hb10 rfl (sd (sd s0)) (fl J (ds (sk (sk (sk (sd (sk (sk (s0))))))) [0,4,8,12,16,20,24,28,32,36,40,44,48,52,57] [14] mix (by kernel_rfl) (fun K J => pQ rfl (qF cN_ rfl rfl) (pQ rfl (qL ty_37 rfl m5 rfl) (pQ rfl (qL ty_37 rfl m0 rfl) (pC (AV [pI (E (Z.mul a.n.dec (Z.quo b.d.dec (Z.gcd a.d.dec b.d.dec))))]) en_96 (a6_ a.n.1 (E (Z.quo b.d.dec (Z.gcd a.d.dec b.d.dec))).1 a.n.2 (E (Z.quo b.d.dec (Z.gcd a.d.dec b.d.dec))).2) rfl rfl (cg2 (fun p q => AV [pI (E (Z.mul p q))]) rfl (E_dec _)) (pQ rfl (qF cN_ rfl rfl) (pQ rfl (qL ty_37 rfl m4 rfl) (pQ rfl (qL ty_37 rfl m1 rfl) (pC (AV [pI (E (Z.mul b.n.dec (Z.quo a.d.dec (Z.gcd a.d.dec b.d.dec))))]) en_96 (a6_ b.n.1 (E (Z.quo a.d.dec (Z.gcd a.d.dec b.d.dec))).1 b.n.2 (E (Z.quo a.d.dec (Z.gcd a.d.dec b.d.dec))).2) rfl rfl (cg2 (fun p q => AV [pI (E (Z.mul p q))]) rfl (E_dec _)) ?_)))))))))))⟩))⟩))
    obtain ⟨r11, hr11⟩ := nm ((E (Z.add (Z.mul a.n.dec (Z.quo b.d.dec (Z.gcd a.d.dec b.d.dec))) (Z.mul b.n.dec (Z.quo a.d.dec (Z.gcd a.d.dec b.d.dec))))) : I)
    refine pC (AV [pI r11]) hk_ (dg_ (E (Z.mul a.n.dec (Z.quo b.d.dec (Z.gcd a.d.dec b.d.dec)))).1 (E (Z.mul b.n.dec (Z.quo a.d.dec (Z.gcd a.d.dec b.d.dec)))).1 (E (Z.mul a.n.dec (Z.quo b.d.dec (Z.gcd a.d.dec b.d.dec)))).2 (E (Z.mul b.n.dec (Z.quo a.d.dec (Z.gcd a.d.dec b.d.dec)))).2) rfl rfl ((cg2 (fun p q => AV [pI (E (Z.add p q))]) (E_dec _) (E_dec _)).trans (by rw [hr11])) (pQ rfl (qL ty_37 rfl m1 rfl) (pQ rfl (qF b9_ rfl rfl) (pQ rfl (qL ty_37 rfl m4 rfl) (pC (AV [pI (E (Z.mul (Z.quo a.d.dec (Z.gcd a.d.dec b.d.dec)) b.d.dec))]) en_96 (a6_ (E (Z.quo a.d.dec (Z.gcd a.d.dec b.d.dec))).1 b.d.1 (E (Z.quo a.d.dec (Z.gcd a.d.dec b.d.dec))).2 b.d.2) rfl rfl (cg2 (fun p q => AV [pI (E (Z.mul p q))]) (E_dec _) rfl) ?_))))
    obtain ⟨r12, hr12⟩ := nm ((ai_ r11 (E (Z.mul (Z.quo a.d.dec (Z.gcd a.d.dec b.d.dec)) b.d.dec))) : Rt)
    refine pC (AV [pI r12.n, pI r12.d]) en_59 (cE_ r11 (E (Z.mul (Z.quo a.d.dec (Z.gcd a.d.dec b.d.dec)) b.d.dec))) rfl rfl (by rw [hr12]; first | done | rfl) (oS [pI r12.n, pI r12.d] ty_39 rfl rfl rfl rfl rfl rfl (.tail _ (.tail _ (.tail _ (.head _)))) rfl hb3 rfl (sk (sk (sk (sd s0)))) (fl J (W_ret (ret1 rfl (.inr rfl) (resP rfl m3 ty_39 rfl) ?_))))
    exact (by subst hr12; subst hr11; exact congrArg (fun r : Rt => (AV [pI r.n, pI r.d] : Value)) (show _ = (ar_ a b) from bif_f h7 rfl))
   ·skip
    refine PL_o rfl rfl (bq_ zp_37 (fun b13 hb13 => ⟨(fun _ => sd s0), (sd s0), PL_o rfl rfl (bq_ zp_37 (fun b14 hb14 => ⟨(fun _ => sd s0), (sd (sd s0)), oS [pI (E (Z.quo a.d.dec (Z.gcd a.d.dec b.d.dec)))] ty_37 rfl rfl rfl rfl rfl rfl (.head _) rfl hb14 rfl (sd (sd s0)) (oS [pI (E (Z.quo b.d.dec (Z.gcd a.d.dec b.d.dec)))] ty_37 rfl rfl rfl rfl rfl rfl (.tail _ (.head _)) rfl hb13 rfl (sd (sd s0)) (fl J (ds (sk (sk (sk (sd (sk (sk (s0))))))) [0,4,8,12,16,20,24,28,32,36,40,44,48,52,57] [14] mix (by kernel_rfl) (fun K J => pQ rfl (qF cN_ rfl rfl) (pQ rfl (qL ty_37 rfl m5 rfl) (pQ rfl (qL ty_37 rfl m1 rfl) (pC (AV [pI (E (Z.mul a.n.dec (Z.quo b.d.dec (Z.gcd a.d.dec b.d.dec))))]) en_96 (a6_ a.n.1 (E (Z.quo b.d.dec (Z.gcd a.d.dec b.d.dec))).1 a.n.2 (E (Z.quo b.d.dec (Z.gcd a.d.dec b.d.dec))).2) rfl rfl (cg2 (fun p q => AV [pI (E (Z.mul p q))]) rfl (E_dec _)) (pQ rfl (qF cN_ rfl rfl) (pQ rfl (qL ty_37 rfl m4 rfl) (pQ rfl (qL ty_37 rfl m0 rfl) (pC (AV [pI (E (Z.mul b.n.dec (Z.quo a.d.dec (Z.gcd a.d.dec b.d.dec))))]) en_96 (a6_ b.n.1 (E (Z.quo a.d.dec (Z.gcd a.d.dec b.d.dec))).1 b.n.2 (E (Z.quo a.d.dec (Z.gcd a.d.dec b.d.dec))).2) rfl rfl (cg2 (fun p q => AV [pI (E (Z.mul p q))]) rfl (E_dec _)) ?_)))))))))))⟩))⟩))
    obtain ⟨r15, hr15⟩ := nm ((E (Z.add (Z.mul a.n.dec (Z.quo b.d.dec (Z.gcd a.d.dec b.d.dec))) (Z.mul b.n.dec (Z.quo a.d.dec (Z.gcd a.d.dec b.d.dec))))) : I)
    refine pC (AV [pI r15]) hk_ (dg_ (E (Z.mul a.n.dec (Z.quo b.d.dec (Z.gcd a.d.dec b.d.dec)))).1 (E (Z.mul b.n.dec (Z.quo a.d.dec (Z.gcd a.d.dec b.d.dec)))).1 (E (Z.mul a.n.dec (Z.quo b.d.dec (Z.gcd a.d.dec b.d.dec)))).2 (E (Z.mul b.n.dec (Z.quo a.d.dec (Z.gcd a.d.dec b.d.dec)))).2) rfl rfl ((cg2 (fun p q => AV [pI (E (Z.add p q))]) (E_dec _) (E_dec _)).trans (by rw [hr15])) (pQ rfl (qL ty_37 rfl m0 rfl) (pQ rfl (qF b9_ rfl rfl) (pQ rfl (qL ty_37 rfl m4 rfl) (pC (AV [pI (E (Z.mul (Z.quo a.d.dec (Z.gcd a.d.dec b.d.dec)) b.d.dec))]) en_96 (a6_ (E (Z.quo a.d.dec (Z.gcd a.d.dec b.d.dec))).1 b.d.1 (E (Z.quo a.d.dec (Z.gcd a.d.dec b.d.dec))).2 b.d.2) rfl rfl (cg2 (fun p q => AV [pI (E (Z.mul p q))]) (E_dec _) rfl) ?_))))
    obtain ⟨r16, hr16⟩ := nm ((ai_ r15 (E (Z.mul (Z.quo a.d.dec (Z.gcd a.d.dec b.d.dec)) b.d.dec))) : Rt)
    refine pC (AV [pI r16.n, pI r16.d]) en_59 (cE_ r15 (E (Z.mul (Z.quo a.d.dec (Z.gcd a.d.dec b.d.dec)) b.d.dec))) rfl rfl (by rw [hr16]; first | done | rfl) (oS [pI r16.n, pI r16.d] ty_39 rfl rfl rfl rfl rfl rfl (.tail _ (.tail _ (.tail _ (.head _)))) rfl hb3 rfl (sk (sk (sk (sd s0)))) (fl J (W_ret (ret1 rfl (.inr rfl) (resP rfl m3 ty_39 rfl) ?_))))
    exact (by subst hr16; subst hr15; exact congrArg (fun r : Rt => (AV [pI r.n, pI r.d] : Value)) (show _ = (ar_ a b) from bif_f h7 rfl))

theorem bT_ (a : Rt) (b : Rt) :
    Ret Tryz.prog 65 [AV [pI a.n, pI a.d], AV [pI b.n, pI b.d]] (AV [pI ((ad_ a b).n), pI ((ad_ a b).d)]) := by
 refine az_ (N := 9) Tryz.func65 rfl rfl (by simp) (fun w0 => ?_)
 simp only [initF, Nat.reduceAdd]
 refine Rs fun K J => WL_r rfl (bl_ rfl rfl (fun b1 hb1 => WL_r rfl (bl_ rfl rfl (fun b2 hb2 => sN zp_39 rfl fun b3 hb3 => nl J (ds (sd (sk (sk (s0)))) [0,4,8,12,17] [4] mix (by kernel_rfl) (fun K J => pQ rfl (qL ty_39 rfl m2 rfl) (pQ rfl (qL ty_39 rfl m1 rfl) (pQ rfl (q_ret kp_ (eA_ b) rfl) (pQ rfl (q_ret en_66 (aV_ a (bE_ b)) rfl) (oS [pI ((ar_ a (bE_ b)).n), pI ((ar_ a (bE_ b)).d)] ty_39 rfl rfl rfl rfl rfl rfl (.head _) rfl hb3 rfl (sd s0) (fl J (W_ret (ret1 rfl (.inr rfl) (resP rfl m0 ty_39 rfl) ?_)))))))))))))
 exact (by rfl)

theorem bC_ (a : Rt) (b : Rt) :
    Ret Tryz.prog 67 [AV [pI a.n, pI a.d], AV [pI b.n, pI b.d]] (AV [pI ((at_ a b).n), pI ((at_ a b).d)]) := by
 refine az_ (N := 48) Tryz.func67 rfl rfl (by simp) (fun w0 => ?_)
 simp only [initF, Nat.reduceAdd]
 refine Rs fun K J => WL_r rfl (bl_ rfl rfl (fun b1 hb1 => WL_r rfl (bl_ rfl rfl (fun b2 hb2 => sN zp_39 rfl fun b3 hb3 => nl J (Sq fun K1 J1 => ?_)))))
 refine b3_ [9, 10, 11, 12, 13, 14, 15, 16] (fun g M => (g 16 = .bool (!(aK_ a) || (!(aK_ b)))) ∧ M = [⟨b3, 39, flat [pI I0, pI I0]⟩, ⟨b2, 39, flat [pI b.n, pI b.d]⟩, ⟨b1, 39, flat [pI a.n, pI a.d]⟩]) (fun K2 J2 => ?_) ?_
 ·skip
  refine Rk fun K J => sQ (qL ty_39 rfl m2 rfl) rfl (sQ (q_ret gq_ (cD_ a) rfl) rfl (sE rfl ?_))
  rcases bt (aK_ a) with h5 | h5
  ·skip
   refine sB (not_f h5) rfl (sQ (qL ty_39 rfl m1 rfl) rfl (sQ (q_ret gq_ (cD_ b) rfl) rfl (sE rfl (sE rfl (nl J ?_)))))
   refine J2 _ _ (by repeat first | exact .refl | refine .cons rfl ?_) ⟨_, s0, ?s16, rfl⟩
   case s16 => exact congrArg Value.bool (nor_t h5 rfl)
  ·skip
   refine sB (not_t h5) rfl (WL_n rfl (WL_n rfl (WL_n rfl (sE rfl (nl J ?_)))))
   refine J2 _ _ (by repeat first | exact .refl | refine .cons rfl ?_) ⟨_, s0, ?s16, rfl⟩
   case s16 => exact congrArg Value.bool (nor_f h5)
 ·skip
  rintro g6 M ⟨hg16, rfl⟩
  simp only [setG, hg16]
  clear hg16
  rcases bt (!(aK_ a) || (!(aK_ b))) with h7 | h7
  ·skip
   refine W_t h7 rfl (Rs fun K J => sQ (q_ret gl_ cM_  rfl) rfl (sS [pI dO_.n, pI dO_.d] ty_39 rfl rfl rfl rfl rfl (.head _) rfl hb3 (nl J (W_ret (af_ (ret1 rfl (.inr rfl) (resP rfl m0 ty_39 rfl) ?_))))))
   exact (by exact congrArg (fun r : Rt => (AV [pI r.n, pI r.d] : Value)) (show _ = (at_ a b) from bif_t h7 rfl))
  ·skip
   refine W_f h7 rfl (ah_ (J1 _ _ (W_sdr (sk (sk (sk (s0)))) (.quiet 0 [1,4,9,12,13] (.quiet 1 [4,9,12,13] (.quiet 2 [3,4,9,12,13] (.quiet 3 [4,9,12,13] (.quiet 4 [9,12,13] (.quiet 5 [6,9,12,13] (.quiet 6 [9,12,13] (.quiet 7 [8,9,12,13] (.quiet 8 [9,12,13] (.quiet 9 [12,13] (.both 10 (.only 11 (.only 12 (.only 13 (.fin)))) 11 (.only 10 (.only 12 (.only 13 (.fin))))))))))))))) [0,1,2,3,4,5,6,7,8,9,10,11] mix (by kernel_rfl) (by kernel_rfl) (fun K J => pQ rfl (qF cN_ rfl rfl) (pQ rfl (qL ty_37 rfl m2 rfl) (pQ rfl (qF b9_ rfl rfl) (pQ rfl (qL ty_37 rfl m1 rfl) (pQ rfl (q_ret en_59 (cE_ a.n b.d) rfl) (pQ rfl (qF cN_ rfl rfl) (pQ rfl (qL ty_37 rfl m1 rfl) (pQ rfl (qF b9_ rfl rfl) (pQ rfl (qL ty_37 rfl m2 rfl) (pQ rfl (q_ret en_59 (cE_ b.n a.d) rfl) ?_)))))))))))))
   refine PL_b ?_ ?_
   ·skip
    refine PL_o rfl rfl (bq_ zp_39 (fun b8 hb8 => ⟨(fun _ => sd s0), (sd s0), PL_o rfl rfl (bq_ zp_39 (fun b9 hb9 => ⟨(fun _ => sd s0), (sd (sd s0)), oS [pI ((ai_ a.n b.d).n), pI ((ai_ a.n b.d).d)] ty_39 rfl rfl rfl rfl rfl rfl (.tail _ (.head _)) rfl hb8 rfl (sd (sd s0)) (oS [pI ((ai_ b.n a.d).n), pI ((ai_ b.n a.d).d)] ty_39 rfl rfl rfl rfl rfl rfl (.head _) rfl hb9 rfl (sd (sd s0)) (fl J (W_sdr (sk (sd (sk (sk (sk (s0)))))) (.quiet 0 [1,4,9,12,13] (.quiet 1 [4,9,12,13] (.quiet 2 [3,4,9,12,13] (.quiet 3 [4,9,12,13] (.quiet 4 [9,12,13] (.quiet 5 [6,9,12,13] (.quiet 6 [9,12,13] (.quiet 7 [8,9,12,13] (.quiet 8 [9,12,13] (.quiet 9 [12,13] (.both 10 (.only 11 (.only 12 (.only 13 (.fin)))) 11 (.only 10 (.only 12 (.only 13 (.fin))))))))))))))) [0,1,2,3,4,5,6,7,8,9,10,11] mix (by kernel_rfl) (by kernel_rfl) (fun K J => pQ rfl (qF cN_ rfl rfl) (pQ rfl (qL ty_37 rfl m1 rfl) (pQ rfl (qF cN_ rfl rfl) (pQ rfl (qL ty_37 rfl m0 rfl) ?_)))))))⟩))⟩))
    obtain ⟨r10, hr10⟩ := nm ((E (Z.mul ((ai_ a.n b.d).n).dec ((ai_ b.n a.d).n).dec)) : I)
    refine pC (AV [pI r10]) en_96 (a6_ ((ai_ a.n b.d).n).1 ((ai_ b.n a.d).n).1 ((ai_ a.n b.d).n).2 ((ai_ b.n a.d).n).2) rfl rfl (by rw [hr10]; first | done | rfl) (pQ rfl (qF b9_ rfl rfl) (pQ rfl (qL ty_37 rfl m1 rfl) (pQ rfl (qF b9_ rfl rfl) (pQ rfl (qL ty_37 rfl m0 rfl) ?_))))
    obtain ⟨r11, hr11⟩ := nm ((E (Z.mul ((ai_ a.n b.d).d).dec ((ai_ b.n a.d).d).dec)) : I)
    refine pC (AV [pI r11]) en_96 (a6_ ((ai_ a.n b.d).d).1 ((ai_ b.n a.d).d).1 ((ai_ a.n b.d).d).2 ((ai_ b.n a.d).d).2) rfl rfl (by rw [hr11]; first | done | rfl) ?_
    refine PL_b ?_ ?_
    ·skip
     refine PL_o rfl rfl (bq_ zp_37 (fun b12 hb12 => ⟨(fun _ => sd s0), (sd (sk (sd s0))), PL_o rfl rfl (bq_ zp_37 (fun b13 hb13 => ⟨(fun _ => sd s0), (sd (sd (sk (sd s0)))), oS [pI r10] ty_37 rfl rfl rfl rfl rfl rfl (.tail _ (.head _)) rfl hb12 rfl (sd (sd (sk (sd s0)))) (oS [pI r11] ty_37 rfl rfl rfl rfl rfl rfl (.head _) rfl hb13 rfl (sd (sd (sk (sd s0)))) (fl J (Sq fun K3 J3 => ?_)))⟩))⟩))
     refine b3_ [38, 39, 40, 41, 42, 43] (fun g M => (g 43 = .bool (r10.1.bad || r11.1.bad)) ∧ M = [⟨b13, 37, flat [pI r11]⟩, ⟨b12, 37, flat [pI r10]⟩, ⟨b9, 39, flat [pI ((ai_ b.n a.d).n), pI ((ai_ b.n a.d).d)]⟩, ⟨b8, 39, flat [pI ((ai_ a.n b.d).n), pI ((ai_ a.n b.d).d)]⟩, ⟨b3, 39, flat [pI I0, pI I0]⟩, ⟨b2, 39, flat [pI b.n, pI b.d]⟩, ⟨b1, 39, flat [pI a.n, pI a.d]⟩]) (fun K4 J4 => ?_) ?_
     ·skip
      refine Rk fun K J => sQ (qF dN_ rfl rfl) rfl (sQ (qC ty_4 rfl m1 rfl) rfl ?_)
      rcases bt r10.1.bad with h15 | h15
      ·skip
       refine sB h15 rfl (WL_n rfl (WL_n rfl (sE rfl (nl J ?_))))
       refine J4 _ _ (by repeat first | exact .refl | refine .cons rfl ?_) ⟨_, s0, ?s43, rfl⟩
       case s43 => exact congrArg Value.bool (or_t h15)
      ·skip
       refine sB h15 rfl (sQ (qF dN_ rfl rfl) rfl (sQ (qC ty_4 rfl m0 rfl) rfl (sE rfl (nl J ?_))))
       refine J4 _ _ (by repeat first | exact .refl | refine .cons rfl ?_) ⟨_, s0, ?s43, rfl⟩
       case s43 => exact congrArg Value.bool (or_f h15 rfl)
     ·skip
      rintro g16 M ⟨hg43, rfl⟩
      simp only [setG, hg43]
      clear hg43
      rcases bt (r10.1.bad || r11.1.bad) with h17 | h17
      ·skip
       refine W_t h17 rfl (Rs fun K J => sQ (q_ret gl_ cM_  rfl) rfl (sS [pI dO_.n, pI dO_.d] ty_39 rfl rfl rfl rfl rfl (.tail _ (.tail _ (.tail _ (.tail _ (.head _))))) rfl hb3 (nl J (W_ret (af_ (ret1 rfl (.inr rfl) (resP rfl m4 ty_39 rfl) ?_))))))
       exact (by subst hr11; subst hr10; exact congrArg (fun r : Rt => (AV [pI r.n, pI r.d] : Value)) (show _ = (at_ a b) from bif_f h7 (bif_t h17 rfl)))
      ·skip
       refine W_f h17 rfl (ah_ (J3 _ _ (Rs fun K J => sQ (qL ty_37 rfl m1 rfl) rfl (sQ (qL ty_37 rfl m0 rfl) rfl (sQ (cY_ zp_39 pl_39 rfl (.cons [pI r10] [pI r10, pI I0] rfl rfl rfl rfl (.cons [pI r11] [pI r10, pI r11] rfl rfl rfl rfl (.nil _)))) rfl (sS [pI r10, pI r11] ty_39 rfl rfl rfl rfl rfl (.tail _ (.tail _ (.tail _ (.tail _ (.head _))))) rfl hb3 (nl J (W_ret (ret1 rfl (.inr rfl) (resP rfl m4 ty_39 rfl) ?_)))))))))
       exact (by subst hr11; subst hr10; exact congrArg (fun r : Rt => (AV [pI r.n, pI r.d] : Value)) (show _ = (at_ a b) from bif_f h7 (bif_f h17 rfl)))
    ·skip
     refine PL_o rfl rfl (bq_ zp_37 (fun b18 hb18 => ⟨(fun _ => sd s0), (sd (sk (sd s0))), PL_o rfl rfl (bq_ zp_37 (fun b19 hb19 => ⟨(fun _ => sd s0), (sd (sd (sk (sd s0)))), oS [pI r10] ty_37 rfl rfl rfl rfl rfl rfl (.head _) rfl hb19 rfl (sd (sd (sk (sd s0)))) (oS [pI r11] ty_37 rfl rfl rfl rfl rfl rfl (.tail _ (.head _)) rfl hb18 rfl (sd (sd (sk (sd s0)))) (fl J (Sq fun K5 J5 => ?_)))⟩))⟩))
     refine b3_ [38, 39, 40, 41, 42, 43] (fun g M => (g 43 = .bool (r10.1.bad || r11.1.bad)) ∧ M = [⟨b19, 37, flat [pI r10]⟩, ⟨b18, 37, flat [pI r11]⟩, ⟨b9, 39, flat [pI ((ai_ b.n a.d).n), pI ((ai_ b.n a.d).d)]⟩, ⟨b8, 39, flat [pI ((ai_ a.n b.d).n), pI ((ai_ a.n b.d).d)]⟩, ⟨b3, 39, flat [pI I0, pI I0]⟩, ⟨b2, 39, flat [pI b.n, pI b.d]⟩, ⟨b1, 39, flat [pI a.n, pI a.d]⟩]) (fun K6 J6 => ?_) ?_
     ·skip
      refine Rk fun K J => sQ (qF dN_ rfl rfl) rfl (sQ (qC ty_4 rfl m0 rfl) rfl ?_)
      rcases bt r10.1.bad with h21 | h21
      ·skip
       refine sB h21 rfl (WL_n rfl (WL_n rfl (sE rfl (nl J ?_))))
       refine J6 _ _ (by repeat first | exact .refl | refine .cons rfl ?_) ⟨_, s0, ?s43, rfl⟩
       case s43 => exact congrArg Value.bool (or_t h21)
      ·skip
       refine sB h21 rfl (sQ (qF dN_ rfl rfl) rfl (sQ (qC ty_4 rfl m1 rfl) rfl (sE rfl (nl J ?_))))
       refine J6 _ _ (by repeat first | exact .refl | refine .cons rfl ?_) ⟨_, s0, ?s43, rfl⟩
       case s43 => exact congrArg Value.bool (or_f h21 rfl)
     ·skip
      rintro g22 M ⟨hg43, rfl⟩
      simp only [setG, hg43]
      clear hg43
      rcases bt (r10.1.bad || r11.1.bad) with h23 | h23
      ·skip
       refine W_t h23 rfl (Rs fun K J => sQ (q_ret gl_ cM_  rfl) rfl (sS [pI dO_.n, pI dO_.d] ty_39 rfl rfl rfl rfl rfl (.tail _ (.tail _ (.tail _ (.tail _ (.head _))))) rfl hb3 (nl J (W_ret (af_ (ret1 rfl (.inr rfl) (resP rfl m4 ty_39 rfl) ?_))))))
       exact (by subst hr11; subst hr10; exact congrArg (fun r : Rt => (AV [pI r.n, pI r.d] : Value)) (show _ = (at_ a b) from bif_f h7 (bif_t h23 rfl)))
      ·skip
       refine W_f h23 rfl (ah_ (J5 _ _ (Rs fun K J => sQ (qL ty_37 rfl m0 rfl) rfl (sQ (qL ty_37 rfl m1 rfl) rfl (sQ (cY_ zp_39 pl_39 rfl (.cons [pI r10] [pI r10, pI I0] rfl rfl rfl rfl (.cons [pI r11] [pI r10, pI r11] rfl rfl rfl rfl (.nil _)))) rfl (sS [pI r10, pI r11] ty_39 rfl rfl rfl rfl rfl (.tail _ (.tail _ (.tail _ (.tail _ (.head _))))) rfl hb3 (nl J (W_ret (ret1 rfl (.inr rfl) (resP rfl m4 ty_39 rfl) ?_)))))))))
       exact (by subst hr11; subst hr10; exact congrArg (fun r : Rt => (AV [pI r.n, pI r.d] : Value)) (show _ = (at_ a b) from bif_f h7 (bif_f h23 rfl)))
   ·skip
    refine PL_o rfl rfl (bq_ zp_39 (fun b24 hb24 => ⟨(fun _ => sd s0), (sd s0), PL_o rfl rfl (bq_ zp_39 (fun b25 hb25 => ⟨(fun _ => sd s0), (sd (sd s0)), oS [pI ((ai_ a.n b.d).n), pI ((ai_ a.n b.d).d)] ty_39 rfl rfl rfl rfl rfl rfl (.head _) rfl hb25 rfl (sd (sd s0)) (oS [pI ((ai_ b.n a.d).n), pI ((ai_ b.n a.d).d)] ty_39 rfl rfl rfl rfl rfl rfl (.tail _ (.head _)) rfl hb24 rfl (sd (sd s0)) (fl J (W_sdr (sk (sk (sk (sk (sk (s0)))))) (.quiet 0 [1,4,9,12,13] (.quiet 1 [4,9,12,13] (.quiet 2 [3,4,9,12,13] (.quiet 3 [4,9,12,13] (.quiet 4 [9,12,13] (.quiet 5 [6,9,12,13] (.quiet 6 [9,12,13] (.quiet 7 [8,9,12,13] (.quiet 8 [9,12,13] (.quiet 9 [12,13] (.both 10 (.only 11 (.only 12 (.only 13 (.fin)))) 11 (.only 10 (.only 12 (.only 13 (.fin))))))))))))))) [0,1,2,3,4,5,6,7,8,9,10,11] mix (by kernel_rfl) (by kernel_rfl) (fun K J => pQ rfl (qF cN_ rfl rfl) (pQ rfl (qL ty_37 rfl m0 rfl) (pQ rfl (qF cN_ rfl rfl) (pQ rfl (qL ty_37 rfl m1 rfl) ?_)))))))⟩))⟩))
    obtain ⟨r26, hr26⟩ := nm ((E (Z.mul ((ai_ a.n b.d).n).dec ((ai_ b.n a.d).n).dec)) : I)
    refine pC (AV [pI r26]) en_96 (a6_ ((ai_ a.n b.d).n).1 ((ai_ b.n a.d).n).1 ((ai_ a.n b.d).n).2 ((ai_ b.n a.d).n).2) rfl rfl (by rw [hr26]; first | done | rfl) (pQ rfl (qF b9_ rfl rfl) (pQ rfl (qL ty_37 rfl m0 rfl) (pQ rfl (qF b9_ rfl rfl) (pQ rfl (qL ty_37 rfl m1 rfl) ?_))))
    obtain ⟨r27, hr27⟩ := nm ((E (Z.mul ((ai_ a.n b.d).d).dec ((ai_ b.n a.d).d).dec)) : I)
    refine pC (AV [pI r27]) en_96 (a6_ ((ai_ a.n b.d).d).1 ((ai_ b.n a.d).d).1 ((ai_ a.n b.d).d).2 ((ai_ b.n a.d).d).2) rfl rfl (by rw [hr27]; first | done | rfl) ?_
    refine PL_b ?_ ?_
    ·skip
     refine PL_o rfl rfl (bq_ zp_37 (fun b28 hb28 => ⟨(fun _ => sd s0), (sd s0), PL_o rfl rfl (bq_ zp_37 (fun b29 hb29 => ⟨(fun _ => sd s0), (sd (sd s0)), oS [pI r26] ty_37 rfl rfl rfl rfl rfl rfl (.tail _ (.head _)) rfl hb28 rfl (sd (sd s0)) (oS [pI r27] ty_37 rfl rfl rfl rfl rfl rfl (.head _) rfl hb29 rfl (sd (sd s0)) (fl J (Sq fun K7 J7 => ?_)))⟩))⟩))
     refine b3_ [38, 39, 40, 41, 42, 43] (fun g M => (g 43 = .bool (r26.1.bad || r27.1.bad)) ∧ M = [⟨b29, 37, flat [pI r27]⟩, ⟨b28, 37, flat [pI r26]⟩, ⟨b25, 39, flat [pI ((ai_ a.n b.d).n), pI ((ai_ a.n b.d).d)]⟩, ⟨b24, 39, flat [pI ((ai_ b.n a.d).n), pI ((ai_ b.n a.d).d)]⟩, ⟨b3, 39, flat [pI I0, pI I0]⟩, ⟨b2, 39, flat [pI b.n, pI b.d]⟩, ⟨b1, 39, flat [pI a.n, pI a.d]⟩]) (fun K8 J8 => ?_) ?_
     ·skip
      refine Rk fun K J => sQ (qF dN_ rfl rfl) rfl (sQ (qC ty_4 rfl m1 rfl) rfl ?_)
      rcases bt r26.1.bad with h31 | h31
      ·skip
       refine sB h31 rfl (WL_n rfl (WL_n rfl (sE rfl (nl J ?_))))
       refine J8 _ _ (by repeat first | exact .refl | refine .cons rfl ?_) ⟨_, s0, ?s43, rfl⟩
       case s43 => exact congrArg Value.bool (or_t h31)
      ·skip
       refine sB h31 rfl (sQ (qF dN_ rfl rfl) rfl (sQ (qC ty_4 rfl m0 rfl) rfl (sE rfl (nl J ?_))))
       refine J8 _ _ (by repeat first | exact .refl | refine .cons rfl ?_) ⟨_, s0, ?s43, rfl⟩
       case s43 => exact congrArg Value.bool (or_f h31 rfl)
     ·skip
      rintro g32 M ⟨hg43, rfl⟩
      simp only [setG, hg43]
      clear hg43
      rcases bt (r26.1.bad || r27.1.bad) with h33 | h33
      ·skip
       refine W_t h33 rfl (Rs fun K J => sQ (q_ret gl_ cM_  rfl) rfl (sS [pI dO_.n, pI dO_.d] ty_39 rfl rfl rfl rfl rfl (.tail _ (.tail _ (.tail _ (.tail _ (.head _))))) rfl hb3 (nl J (W_ret (af_ (ret1 rfl (.inr rfl) (resP rfl m4 ty_39 rfl) ?_))))))
       exact (by subst hr27; subst hr26; exact congrArg (fun r : Rt => (AV [pI r.n, pI r.d] : Value)) (show _ = (at_ a b) from bif_f h7 (bif_t h33 rfl)))
      ·skip
       refine W_f h33 rfl (ah_ (J7 _ _ (Rs fun K J => sQ (qL ty_37 rfl m1 rfl) rfl (sQ (qL ty_37 rfl m0 rfl) rfl (sQ (cY_ zp_39 pl_39 rfl (.cons [pI r26] [pI r26, pI I0] rfl rfl rfl rfl (.cons [pI r27] [pI r26, pI r27] rfl rfl rfl rfl (.nil _)))) rfl (sS [pI r26, pI r27] ty_39 rfl rfl rfl rfl rfl (.tail _ (.tail _ (.tail _ (.tail _ (.head _))))) rfl hb3 (nl J (W_ret (ret1 rfl (.inr rfl) (resP rfl m4 ty_39 rfl) ?_)))))))))
       exact (by subst hr27; subst hr26; exact congrArg (fun r : Rt => (AV [pI r.n, pI r.d] : Value)) (show _ = (at_ a b) from bif_f h7 (bif_f h33 rfl)))
    ·skip
     refine PL_o rfl rfl (bq_ zp_37 (fun b34 hb34 => ⟨(fun _ => sd s0), (sd s0), PL_o rfl rfl (bq_ zp_37 (fun b35 hb35 => ⟨(fun _ => sd s0), (sd (sd s0)), oS [pI r26] ty_37 rfl rfl rfl rfl rfl rfl (.head _) rfl hb35 rfl (sd (sd s0)) (oS [pI r27] ty_37 rfl rfl rfl rfl rfl rfl (.tail _ (.head _)) rfl hb34 rfl (sd (sd s0)) (fl J (Sq fun K9 J9 => ?_)))⟩))⟩))
     refine b3_ [38, 39, 40, 41, 42, 43] (fun g M => (g 43 = .bool (r26.1.bad || r27.1.bad)) ∧ M = [⟨b35, 37, flat [pI r26]⟩, ⟨b34, 37, flat [pI r27]⟩, ⟨b25, 39, flat [pI ((ai_ a.n b.d).n), pI ((ai_ a.n b.d).d)]⟩, ⟨b24, 39, flat [pI ((ai_ b.n a.d).n), pI ((ai_ b.n a.d).d)]⟩, ⟨b3, 39, flat [pI I0, pI I0]⟩, ⟨b2, 39, flat [pI b.n, pI b.d]⟩, ⟨b1, 39, flat [pI a.n, pI a.d]⟩]) (fun K10 J10 => ?_) ?_
     ·skip
      refine Rk fun K J => sQ (qF dN_ rfl rfl) rfl (sQ (qC ty_4 rfl m0 rfl) rfl ?_)
      rcases bt r26.1.bad with h37 | h37
      ·skip
       refine sB h37 rfl (WL_n rfl (WL_n rfl (sE rfl (nl J ?_))))
       refine J10 _ _ (by repeat first | exact .refl | refine .cons rfl ?_) ⟨_, s0, ?s43, rfl⟩
       case s43 => exact congrArg Value.bool (or_t h37)
      ·skip
       refine sB h37 rfl (sQ (qF dN_ rfl rfl) rfl (sQ (qC ty_4 rfl m1 rfl) rfl (sE rfl (nl J ?_))))
       refine J10 _ _ (by repeat first | exact .refl | refine .cons rfl ?_) ⟨_, s0, ?s43, rfl⟩
       case s43 => exact congrArg Value.bool (or_f h37 rfl)
     ·skip
      rintro g38 M ⟨hg43, rfl⟩
      simp only [setG, hg43]
      clear hg43
      rcases bt (r26.1.bad || r27.1.bad) with h39 | h39
      ·skip
       refine W_t h39 rfl (Rs fun K J => sQ (q_ret gl_ cM_  rfl) rfl (sS [pI dO_.n, pI dO_.d] ty_39 rfl rfl rfl rfl rfl (.tail _ (.tail _ (.tail _ (.tail _ (.head _))))) rfl hb3 (nl J (W_ret (af_ (ret1 rfl (.inr rfl) (resP rfl m4 ty_39 rfl) ?_))))))
       exact (by subst hr27; subst hr26; exact congrArg (fun r : Rt => (AV [pI r.n, pI r.d] : Value)) (show _ = (at_ a b) from bif_f h7 (bif_t h39 rfl)))
      ·skip
       refine W_f h39 rfl (ah_ (J9 _ _ (Rs fun K J => sQ (qL ty_37 rfl m0 rfl) rfl (sQ (qL ty_37 rfl m1 rfl) rfl (sQ (cY_ zp_39 pl_39 rfl (.cons [pI r26] [pI r26, pI I0] rfl rfl rfl rfl (.cons [pI r27] [pI r26, pI r27] rfl rfl rfl rfl (.nil _)))) rfl (sS [pI r26, pI r27] ty_39 rfl rfl rfl rfl rfl (.tail _ (.tail _ (.tail _ (.tail _ (.head _))))) rfl hb3 (nl J (W_ret (ret1 rfl (.inr rfl) (resP rfl m4 ty_39 rfl) ?_)))))))))
       exact (by subst hr27; subst hr26; exact congrArg (fun r : Rt => (AV [pI r.n, pI r.d] : Value)) (show _ = (at_ a b) from bif_f h7 (bif_f h39 rfl)))

theorem dD_  :
    Ret Tryz.prog 75 [] (AV [pI F_skewbackref04_one]) := by
 refine az_ (N := 2) Tryz.func75 rfl rfl (by simp) (fun w0 => ?_)
 simp only [initF, Nat.reduceAdd]
 obtain ⟨q0, hq0⟩ := nm ((E (Z.of 1)) : I)
 refine Rs fun K J => sN zp_37 rfl fun b1 hb1 => nl J (Rs fun K J => sC (AV [pI q0]) en_74 (cw_ (wl 1).1 (wl 1).2) rfl rfl (by rw [hq0]; first | done | rfl) ?_)
 refine sS [pI q0] ty_37 rfl rfl rfl rfl rfl (.head _) rfl hb1 (nl J (W_ret (ret1 rfl (.inr rfl) (resP rfl m0 ty_37 rfl) ?_)))
 exact (by subst hq0; rfl)

theorem fq_  :
    Ret Tryz.prog 76 [] (AV [pI a7_.n, pI a7_.d]) := by
 refine az_ (N := 4) Tryz.func76 rfl rfl (by simp) (fun w0 => ?_)
 simp only [initF, Nat.reduceAdd]
 obtain ⟨q0, hq0⟩ := nm ((E Z.bad) : I)
 obtain ⟨q1, hq1⟩ := nm (F_skewbackref04_one : I)
 refine Rs fun K J => sN zp_39 rfl fun b1 hb1 => nl J (Rs fun K J => sC (AV [pI q0]) en_90 bw_ rfl rfl (by rw [hq0]; first | done | rfl) (sC (AV [pI q1]) en_75 dD_ rfl rfl (by rw [hq1]; first | done | rfl) (sQ (cY_ zp_39 pl_39 rfl (.cons [pI q0] [pI q0, pI I0] rfl rfl rfl rfl (.cons [pI q1] [pI q0, pI q1] rfl rfl rfl rfl (.nil _)))) rfl (sS [pI q0, pI q1] ty_39 rfl rfl rfl rfl rfl (.head _) rfl hb1 (nl J (W_ret (ret1 rfl (.inr rfl) (resP rfl m0 ty_39 rfl) ?_)))))))
 exact (by subst hq1; subst hq0; rfl)

theorem dX_ (a : I) (b : I) :
    Ret Tryz.prog 73 [AV [pI a], AV [pI b]] (AV [pI ((ak_ a b).n), pI ((ak_ a b).d)]) := by
 refine az_ (N := 35) Tryz.func73 rfl rfl (by simp) (fun w0 => ?_)
 simp only [initF, Nat.reduceAdd]
 refine Rs fun K J => WL_r rfl (bl_ rfl rfl (fun b1 hb1 => WL_r rfl (bl_ rfl rfl (fun b2 hb2 => sN zp_39 rfl fun b3 hb3 => nl J (Sq fun K1 J1 => ?_)))))
 refine b3_ [6, 7, 8, 9, 10, 11, 12, 13, 14, 15, 16, 17, 18] (fun g M => (g 18 = .bool (!a.1.good || (!b.1.good || ((Z.signW b.dec).1 == 0)))) ∧ M = [⟨b3, 39, flat [pI I0, pI I0]⟩, ⟨b2, 37, flat [pI b]⟩, ⟨b1, 37, flat [pI a]⟩]) (fun K2 J2 => ?_) ?_
 ·skip
  refine Rk fun K J => sQ (qL ty_37 rfl m2 rfl) rfl (sC (.bool a.1.good) en_86 (aQ_ a.1 a.2) rfl rfl rfl (sE rfl ?_))
  rcases bt a.1.good with h6 | h6
  ·skip
   refine sB (not_f h6) rfl (sQ (qL ty_37 rfl m1 rfl) rfl (sC (.bool b.1.good) en_86 (aQ_ b.1 b.2) rfl rfl rfl (sE rfl (sE rfl ?_))))
   rcases bt b.1.good with h7 | h7
   ·skip
    refine sB (not_f h7) rfl (sQ (qL ty_37 rfl m1 rfl) rfl (sC (.int .i64 ((Z.signW b.dec).1)) en_40 (do_ b.1 b.2) rfl rfl rfl (sE rfl (sE rfl (nl J ?_)))))
    refine J2 _ _ (by repeat first | exact .refl | refine .cons rfl ?_) ⟨_, s0, ?s18, rfl⟩
    case s18 => exact congrArg Value.bool (nor_t h6 (nor_t h7 rfl))
   ·skip
    refine sB (not_t h7) rfl (WL_n rfl (WL_n rfl (WL_n rfl (sE rfl (nl J ?_)))))
    refine J2 _ _ (by repeat first | exact .refl | refine .cons rfl ?_) ⟨_, s0, ?s18, rfl⟩
    case s18 => exact congrArg Value.bool (nor_t h6 (nor_f h7))
  ·skip
   refine sB (not_t h6) rfl (WL_n rfl (WL_n rfl (WL_n rfl (sE rfl (sE rfl (WL_n rfl (WL_n rfl (WL_n rfl (sE rfl (nl J ?_))))))))))
   refine J2 _ _ (by repeat first | exact .refl | refine .cons rfl ?_) ⟨_, s0, ?s18, rfl⟩
   case s18 => exact congrArg Value.bool (nor_f h6)
 ·skip
  rintro g8 M ⟨hg18, rfl⟩
  simp only [setG, hg18]
  clear hg18
  rcases bt (!a.1.good || (!b.1.good || ((Z.signW b.dec).1 == 0))) with h9 | h9
  ·skip
   refine W_t h9 rfl (Rs fun K J => sQ (q_ret en_76 fq_  rfl) rfl (sS [pI a7_.n, pI a7_.d] ty_39 rfl rfl rfl rfl rfl (.head _) rfl hb3 (nl J (W_ret (af_ (ret1 rfl (.inr rfl) (resP rfl m0 ty_39 rfl) ?_))))))
   exact (by exact congrArg (fun r : Rt => (AV [pI r.n, pI r.d] : Value)) (show _ = (ak_ a b) from bif_t h9 rfl))
  ·skip
   refine W_f h9 rfl (ah_ (J1 _ _ (Rs fun K J => sQ (qL ty_37 rfl m2 rfl) rfl (sQ (qL ty_37 rfl m1 rfl) rfl (sC (AV [pI (E (Z.gcd a.dec b.dec))]) en_77 (ei_ a.1 b.1 a.2 b.2) rfl rfl rfl (sN zp_37 rfl fun b10 hb10 => sS [pI (E (Z.gcd a.dec b.dec))] ty_37 rfl rfl rfl rfl rfl (.head _) rfl hb10 (nl J (Sq fun K3 J3 => Rs fun K J => sQ (qL ty_37 rfl m2 rfl) rfl (sC (.int .i64 ((Z.signW b.dec).1)) en_40 (do_ b.1 b.2) rfl rfl rfl (sE rfl (nl J ?_)))))))))))
   rcases bt (decide ((Z.signW b.dec).1 < 0)) with h11 | h11
   ·skip
    refine W_t h11 rfl (Rk fun K J => sQ (qL ty_37 rfl m0 rfl) rfl (sC (AV [pI (E (Z.neg (Z.gcd a.dec b.dec)))]) en_84 (fz_ (E (Z.gcd a.dec b.dec)).1 (E (Z.gcd a.dec b.dec)).2) rfl rfl (cg1 (fun p => AV [pI (E (Z.neg p))]) (E_dec _)) (sS [pI (E (Z.neg (Z.gcd a.dec b.dec)))] ty_37 rfl rfl rfl rfl rfl (.head _) rfl hb10 (nl J (J3 _ _ (ds (sk (sd (sk (sk (s0))))) [0,4,8,12,16,20,24,29] [7] mix (by kernel_rfl) (fun K J => pQ rfl (qL ty_37 rfl m3 rfl) (pQ rfl (qL ty_37 rfl m0 rfl) (pC (AV [pI (E (Z.quo a.dec (Z.neg (Z.gcd a.dec b.dec))))]) en_78 (cV_ a.1 (E (Z.neg (Z.gcd a.dec b.dec))).1 a.2 (E (Z.neg (Z.gcd a.dec b.dec))).2) rfl rfl (cg2 (fun p q => AV [pI (E (Z.quo p q))]) rfl (E_dec _)) (pQ rfl (qL ty_37 rfl m2 rfl) (pQ rfl (qL ty_37 rfl m0 rfl) (pC (AV [pI (E (Z.quo b.dec (Z.neg (Z.gcd a.dec b.dec))))]) en_78 (cV_ b.1 (E (Z.neg (Z.gcd a.dec b.dec))).1 b.2 (E (Z.neg (Z.gcd a.dec b.dec))).2) rfl rfl (cg2 (fun p q => AV [pI (E (Z.quo p q))]) rfl (E_dec _)) (pQ rfl (cY_ zp_39 pl_39 rfl (.cons [pI (E (Z.quo a.dec (Z.neg (Z.gcd a.dec b.dec))))] [pI (E (Z.quo a.dec (Z.neg (Z.gcd a.dec b.dec)))), pI I0] rfl rfl rfl rfl (.cons [pI (E (Z.quo b.dec (Z.neg (Z.gcd a.dec b.dec))))] [pI (E (Z.quo a.dec (Z.neg (Z.gcd a.dec b.dec)))), pI (E (Z.quo b.dec (Z.neg (Z.gcd a.dec b.dec))))] rfl rfl rfl rfl (.nil _)))) (oS [pI (E (Z.quo a.dec (Z.neg (Z.gcd a.dec b.dec)))), pI (E (Z.quo b.dec (Z.neg (Z.gcd a.dec b.dec))))] ty_39 rfl rfl rfl rfl rfl rfl (.tail _ (.head _)) rfl hb3 rfl (sk (sd s0)) (fl J (W_ret (ret1 rfl (.inr rfl) (resP rfl m1 ty_39 rfl) ?_)))))))))))))))))
    exact (by exact congrArg (fun r : Rt => (AV [pI r.n, pI r.d] : Value)) (show _ = (ak_ a b) from bif_f h9 (bif_t h11 rfl)))
   ·skip
    refine W_f h11 rfl (ah_ (J3 _ _ (ds (sk (sd (sk (sk (s0))))) [0,4,8,12,16,20,24,29] [7] mix (by kernel_rfl) (fun K J => pQ rfl (qL ty_37 rfl m3 rfl) (pQ rfl (qL ty_37 rfl m0 rfl) (pC (AV [pI (E (Z.quo a.dec (Z.gcd a.dec b.dec)))]) en_78 (cV_ a.1 (E (Z.gcd a.dec b.dec)).1 a.2 (E (Z.gcd a.dec b.dec)).2) rfl rfl (cg2 (fun p q => AV [pI (E (Z.quo p q))]) rfl (E_dec _)) (pQ rfl (qL ty_37 rfl m2 rfl) (pQ rfl (qL ty_37 rfl m0 rfl) (pC (AV [pI (E (Z.quo b.dec (Z.gcd a.dec b.dec)))]) en_78 (cV_ b.1 (E (Z.gcd a.dec b.dec)).1 b.2 (E (Z.gcd a.dec b.dec)).2) rfl rfl (cg2 (fun p q => AV [pI (E (Z.quo p q))]) rfl (E_dec _)) (pQ rfl (cY_ zp_39 pl_39 rfl (.cons [pI (E (Z.quo a.dec (Z.gcd a.dec b.dec)))] [pI (E (Z.quo a.dec (Z.gcd a.dec b.dec))), pI I0] rfl rfl rfl rfl (.cons [pI (E (Z.quo b.dec (Z.gcd a.dec b.dec)))] [pI (E (Z.quo a.dec (Z.gcd a.dec b.dec))), pI (E (Z.quo b.dec (Z.gcd a.dec b.dec)))] rfl rfl rfl rfl (.nil _)))) (oS [pI (E (Z.quo a.dec (Z.gcd a.dec b.dec))), pI (E (Z.quo b.dec (Z.gcd a.dec b.dec)))] ty_39 rfl rfl rfl rfl rfl rfl (.tail _ (.head _)) rfl hb3 rfl (sk (sd s0)) (fl J (W_ret (ret1 rfl (.inr rfl) (resP rfl m1 ty_39 rfl) ?_))))))))))))))
    exact (by exact congrArg (fun r : Rt => (AV [pI r.n, pI r.d] : Value)) (show _ = (ak_ a b) from bif_f h9 (bif_f h11 rfl)))

theorem fU_ (a : W) :
    Ret Tryz.prog 25 [.int .i64 a.1] (AV [pI ((ap_ a).n), pI ((ap_ a).d)]) := by
 refine az_ (N := 7) Tryz.func25 rfl rfl (by simp) (fun w0 => ?_)
 simp only [initF, Nat.reduceAdd]
 refine Rs fun K J => sN zp_39 rfl fun b1 hb1 => nl J (Rs fun K J => sE rfl (sC (AV [pI (E (Z.of a.1))]) en_74 (cw_ a.1 a.2) rfl rfl rfl (sQ (q_ret en_75 dD_  rfl) rfl ?_)))
 obtain ⟨r2, hr2⟩ := nm ((ak_ (E (Z.of a.1)) F_skewbackref04_one) : Rt)
 refine sC (AV [pI r2.n, pI r2.d]) en_73 (dX_ (E (Z.of a.1)) F_skewbackref04_one) rfl rfl (by rw [hr2]; first | done | rfl) (sS [pI r2.n, pI r2.d] ty_39 rfl rfl rfl rfl rfl (.head _) rfl hb1 (nl J (W_ret (ret1 rfl (.inr rfl) (resP rfl m0 ty_39 rfl) ?_))))
 exact (by subst hr2; rfl)

theorem dm_ (a : W) (b : W) :
    Ret Tryz.prog 37 [.int .i64 a.1, .int .i64 b.1] (AV [pI ((al_ a b).n), pI ((al_ a b).d)]) := by
 refine az_ (N := 10) Tryz.func37 rfl rfl (by simp) (fun w0 => ?_)
 simp only [initF, Nat.reduceAdd]
 refine Rs fun K J => sN zp_39 rfl fun b1 hb1 => nl J (Rs fun K J => sE rfl (sC (AV [pI (E (Z.of a.1))]) en_74 (cw_ a.1 a.2) rfl rfl rfl (sE rfl (sC (AV [pI (E (Z.of b.1))]) en_74 (cw_ b.1 b.2) rfl rfl rfl ?_))))
 obtain ⟨r2, hr2⟩ := nm ((ak_ (E (Z.of a.1)) (E (Z.of b.1))) : Rt)
 refine sC (AV [pI r2.n, pI r2.d]) en_73 (dX_ (E (Z.of a.1)) (E (Z.of b.1))) rfl rfl (by rw [hr2]; first | done | rfl) (sS [pI r2.n, pI r2.d] ty_39 rfl rfl rfl rfl rfl (.head _) rfl hb1 (nl J (W_ret (ret1 rfl (.inr rfl) (resP rfl m0 ty_39 rfl) ?_))))
 exact (by subst hr2; rfl)

end Go.Proofs.YtapbefpeopaecaaGreatDoor

