/- Walks: what these functions return. -/
import Derived.Test.YtjdfogfmeibkgaaGreatZGE
import Derived.Test.YtjdfogfmeibkgaaGreatZSa
import Derived.Test.YtjdfogfmeibkgaaGreatZSb
import Derived.Test.YtjdfogfmeibkgaaGreatZSg
import Derived.Test.YtjdfogfmeibkgaaGreatZSh
import Derived.Test.YtjdfogfmeibkgaaGreatZWa
import Derived.Test.YtjdfogfmeibkgaaGreatZWc
import Derived.Test.YtjdfogfmeibkgaaGreatZWe
import Derived.Test.YtjdfogfmeibkgaaGreatZWh
import Derived.Test.YtjdfogfmeibkgaaGreatZWi
import Derived.Test.YtjdfogfmeibkgaaGreatZFp
namespace Go.Proofs.YtjdfogfmeibkgaaGreat
open Go.Kn Go.Num
set_option linter.unusedVariables false
set_option linter.unusedSimpArgs false
set_option maxRecDepth 20000
set_option maxHeartbeats 8000000
theorem f6_  :
    Ret Tryz.prog 148 [] (AV [pI F_ratio_one]) := by
 refine aD_ (N := 2) Tryz.func148 rfl rfl (by simp) (fun w0 => ?_)
 simp only [initF, Nat.reduceAdd]
 obtain ⟨q0, hq0⟩ := nm ((E (Z.of 1)) : I)
 refine Rs fun K J => sN zp_38 rfl fun b1 hb1 => nl J (Rs fun K J => sC (AV [pI q0]) en_62 (bo_ (wl 1).1 (wl 1).2) rfl rfl (by rw [hq0]; first | done | rfl) ?_)
 refine sS [pI q0] ty_38 rfl rfl rfl rfl rfl (.head _) rfl hb1 (nl J (W_ret (ret1 rfl (.inr rfl) (resP rfl m0 ty_38 rfl) ?_)))
 exact (by subst hq0; rfl)

theorem f0_  :
    Ret Tryz.prog 110 [] (AV [pI hq_.n, pI hq_.d]) := by
 refine aD_ (N := 4) Tryz.func110 rfl rfl (by simp) (fun w0 => ?_)
 simp only [initF, Nat.reduceAdd]
 obtain ⟨q0, hq0⟩ := nm ((E Z.bad) : I)
 obtain ⟨q1, hq1⟩ := nm (F_ratio_one : I)
 refine Rs fun K J => sN zp_44 rfl fun b1 hb1 => nl J (Rs fun K J => sC (AV [pI q0]) en_65 b6_ rfl rfl (by rw [hq0]; first | done | rfl) (sC (AV [pI q1]) n3_ f6_ rfl rfl (by rw [hq1]; first | done | rfl) (sQ (dz_ zp_44 pl_44 rfl (.cons [pI q0] [pI q0, pI I0] rfl rfl rfl rfl (.cons [pI q1] [pI q0, pI q1] rfl rfl rfl rfl (.nil _)))) rfl (sS [pI q0, pI q1] ty_44 rfl rfl rfl rfl rfl (.head _) rfl hb1 (nl J (W_ret (ret1 rfl (.inr rfl) (resP rfl m0 ty_44 rfl) ?_)))))))
 exact (by subst hq1; subst hq0; rfl)

theorem eR_ (a : I) :
    Ret Tryz.prog 119 [AV [pI a]] (.bool (cr_ a)) := by
 refine aD_ (N := 10) Tryz.func119 rfl rfl (by simp) (fun w0 => ?_)
 simp only [initF, Nat.reduceAdd]
 refine Rs fun K J => WL_r rfl (b5_ rfl rfl (fun b1 hb1 => sE rfl (nl J ?_)))
 refine bu_ [2, 3, 4, 5, 6, 7, 8, 9] (fun g M => (g 2 = .bool (!a.1.bad && a.1.valid)) ∧ M = [⟨b1, 38, flat [pI a]⟩]) (fun K1 J1 => ?_) ?_
 ·skip
  refine Rk fun K J => sQ (qF eM_ rfl rfl) rfl (sQ (qC ty_4 rfl m0 rfl) rfl (sE rfl ?_))
  rcases bt a.1.bad with h3 | h3
  ·skip
   refine sB (not_f h3) rfl (WL_n rfl (WL_n rfl (sE rfl (sE rfl (nl J ?_)))))
   refine J1 _ _ (by repeat first | exact .refl | refine .cons rfl ?_) ⟨_, s0, ?s2, rfl⟩
   case s2 => exact congrArg Value.bool (m7_ h3)
  ·skip
   refine sB (not_t h3) rfl (sQ (qL ty_38 rfl m0 rfl) rfl (sC (.bool a.1.valid) nC_ (fu_ a.1 a.2) rfl rfl rfl (sE rfl (sE rfl (nl J ?_)))))
   refine J1 _ _ (by repeat first | exact .refl | refine .cons rfl ?_) ⟨_, s0, ?s2, rfl⟩
   case s2 => exact congrArg Value.bool (mJ_ h3 rfl)
 ·skip
  rintro g4 M ⟨hg2, rfl⟩
  simp only [setG, hg2]
  clear hg2
  refine W_ret (ret1 rfl (.inr rfl) rfl ?_)
  exact (by rfl)

theorem eS_ (a : Rt) :
    Ret Tryz.prog 109 [AV [pI a.n, pI a.d]] (.bool (bV_ a)) := by
 refine aD_ (N := 26) Tryz.func109 rfl rfl (by simp) (fun w0 => ?_)
 simp only [initF, Nat.reduceAdd]
 refine Rs fun K J => WL_r rfl (b5_ rfl rfl (fun b1 hb1 => sE rfl (nl J ?_)))
 refine bu_ [2, 3, 4, 5, 6, 7, 8, 9, 10, 11, 12, 13, 14, 15, 16, 17, 18, 19, 20, 21, 22, 23, 24, 25] (fun g M => (g 2 = .bool ((cr_ a.n) && ((cr_ a.d) && (decide (0 < (Z.signW a.d.dec).1) && decide ((E (Z.gcd a.n.dec a.d.dec)) = F_ratio_one))))) ∧ M = [⟨b1, 44, flat [pI a.n, pI a.d]⟩]) (fun K1 J1 => ?_) ?_
 ·skip
  refine Rk fun K J => sQ (qF em_ rfl rfl) rfl (sQ (qL ty_38 rfl m0 rfl) rfl (sQ (q_ret lC_ (eR_ a.n) rfl) rfl ?_))
  rcases bt (cr_ a.n) with h5 | h5
  ·skip
   refine sB h5 rfl (sQ (qF dg_ rfl rfl) rfl (sQ (qL ty_38 rfl m0 rfl) rfl (sQ (q_ret lC_ (eR_ a.d) rfl) rfl (sE rfl ?_))))
   rcases bt (cr_ a.d) with h6 | h6
   ·skip
    refine sB h6 rfl (sQ (qF dg_ rfl rfl) rfl (sQ (qL ty_38 rfl m0 rfl) rfl (sC (.int .i64 ((Z.signW a.d.dec).1)) en_32 (ct_ a.d.1 a.d.2) rfl rfl rfl (sE rfl (sE rfl ?_)))))
    rcases bt (decide (0 < (Z.signW a.d.dec).1)) with h7 | h7
    ·skip
     refine sB h7 rfl (sQ (qF em_ rfl rfl) rfl (sQ (qL ty_38 rfl m0 rfl) rfl (sQ (qF dg_ rfl rfl) rfl (sQ (qL ty_38 rfl m0 rfl) rfl (sC (AV [pI (E (Z.gcd a.n.dec a.d.dec))]) js_ (fd_ a.n.1 a.d.1 a.n.2 a.d.2) rfl rfl rfl (sQ (q_ret n3_ f6_  rfl) rfl ?_))))))
     refine sQ (fI_ (r := decide ((E (Z.gcd a.n.dec a.d.dec)) = F_ratio_one)) rfl rfl (dM_ 8 (by decide) eg_38 lw_38 (dW_ lv_pI) (dW_ lv_pI) (e5_ eq_pI))) rfl (sE rfl (sE rfl (nl J ?_)))
     refine J1 _ _ (by repeat first | exact .refl | refine .cons rfl ?_) ⟨_, s0, ?s2, rfl⟩
     case s2 => exact congrArg Value.bool (and_t h5 (and_t h6 (and_t h7 rfl)))
    ·skip
     refine sB h7 rfl (WL_n rfl (WL_n rfl (WL_n rfl (WL_n rfl (WL_n rfl (WL_n rfl (WL_n rfl (sE rfl (sE rfl (nl J ?_))))))))))
     refine J1 _ _ (by repeat first | exact .refl | refine .cons rfl ?_) ⟨_, s0, ?s2, rfl⟩
     case s2 => exact congrArg Value.bool (and_t h5 (and_t h6 (and_f h7)))
   ·skip
    refine sB h6 rfl (WL_n rfl (WL_n rfl (WL_n rfl (WL_n rfl (sE rfl (sE rfl (WL_n rfl (WL_n rfl (WL_n rfl (WL_n rfl (WL_n rfl (WL_n rfl (WL_n rfl (sE rfl (sE rfl (nl J ?_))))))))))))))))
    refine J1 _ _ (by repeat first | exact .refl | refine .cons rfl ?_) ⟨_, s0, ?s2, rfl⟩
    case s2 => exact congrArg Value.bool (and_t h5 (and_f h6))
  ·skip
   refine sB h5 rfl (WL_n rfl (WL_n rfl (WL_n rfl (sE rfl (sE rfl (WL_n rfl (WL_n rfl (WL_n rfl (WL_n rfl (sE rfl (sE rfl (WL_n rfl (WL_n rfl (WL_n rfl (WL_n rfl (WL_n rfl (WL_n rfl (WL_n rfl (sE rfl ?_)))))))))))))))))))
   refine sE rfl (nl J ?_)
   refine J1 _ _ (by repeat first | exact .refl | refine .cons rfl ?_) ⟨_, s0, ?s2, rfl⟩
   case s2 => exact congrArg Value.bool (and_f h5)
 ·skip
  rintro g8 M ⟨hg2, rfl⟩
  simp only [setG, hg2]
  clear hg2
  refine W_ret (ret1 rfl (.inr rfl) rfl ?_)
  exact (by rfl)

theorem eg_ (a : I) (b : I) :
    Ret Tryz.prog 61 [AV [pI a], AV [pI b]] (AV [pI ((cc_ a b).n), pI ((cc_ a b).d)]) := by
 refine aD_ (N := 35) Tryz.func61 rfl rfl (by simp) (fun w0 => ?_)
 simp only [initF, Nat.reduceAdd]
 refine Rs fun K J => WL_r rfl (b5_ rfl rfl (fun b1 hb1 => WL_r rfl (b5_ rfl rfl (fun b2 hb2 => sN zp_44 rfl fun b3 hb3 => nl J (Sq fun K1 J1 => ?_)))))
 refine bu_ [6, 7, 8, 9, 10, 11, 12, 13, 14, 15, 16, 17, 18] (fun g M => (g 18 = .bool (!(cr_ a) || (!(cr_ b) || ((Z.signW b.dec).1 == 0)))) ∧ M = [⟨b3, 44, flat [pI I0, pI I0]⟩, ⟨b2, 38, flat [pI b]⟩, ⟨b1, 38, flat [pI a]⟩]) (fun K2 J2 => ?_) ?_
 ·skip
  refine Rk fun K J => sQ (qL ty_38 rfl m2 rfl) rfl (sQ (q_ret lC_ (eR_ a) rfl) rfl (sE rfl ?_))
  rcases bt (cr_ a) with h6 | h6
  ·skip
   refine sB (not_f h6) rfl (sQ (qL ty_38 rfl m1 rfl) rfl (sQ (q_ret lC_ (eR_ b) rfl) rfl (sE rfl (sE rfl ?_))))
   rcases bt (cr_ b) with h7 | h7
   ·skip
    refine sB (not_f h7) rfl (sQ (qL ty_38 rfl m1 rfl) rfl (sC (.int .i64 ((Z.signW b.dec).1)) en_32 (ct_ b.1 b.2) rfl rfl rfl (sE rfl (sE rfl (nl J ?_)))))
    refine J2 _ _ (by repeat first | exact .refl | refine .cons rfl ?_) ⟨_, s0, ?s18, rfl⟩
    case s18 => exact congrArg Value.bool (nor_t h6 (nor_t h7 rfl))
   ·skip
    refine sB (not_t h7) rfl (WL_n rfl (WL_n rfl (WL_n rfl (sE rfl (nl J ?_)))))
    refine J2 _ _ (by repeat first | exact .refl | refine .cons rfl ?_) ⟨_, s0, ?s18, rfl⟩
    case s18 => exact congrArg Value.bool (nor_t h6 (nor_f h7))
  ·skip
   refine sB (not_t h6) rfl (WL_n rfl (WL_n rfl (WL_n rfl (sE rfl (sE rfl (WL_n rfl (WL_n rfl (WL_n rfl (sE rfl (nl J ?_))))))))))
   refine J2 _ _ (by repeat first | exact .refl | refine .cons rfl ?_) ⟨_, s0, ?s18, rfl⟩
   case s18 => exact congrArg Value.bool (nor_f h6)
 ·skip
  rintro g8 M ⟨hg18, rfl⟩
  simp only [setG, hg18]
  clear hg18
  rcases bt (!(cr_ a) || (!(cr_ b) || ((Z.signW b.dec).1 == 0))) with h9 | h9
  ·skip
   refine W_t h9 rfl (Rs fun K J => sQ (q_ret m1_ f0_  rfl) rfl (sS [pI hq_.n, pI hq_.d] ty_44 rfl rfl rfl rfl rfl (.head _) rfl hb3 (nl J (W_ret (ah_ (ret1 rfl (.inr rfl) (resP rfl m0 ty_44 rfl) ?_))))))
   exact (by exact congrArg (fun r : Rt => (AV [pI r.n, pI r.d] : Value)) (show _ = (cc_ a b) from bif_t h9 rfl))
  ·skip
   refine W_f h9 rfl (aj_ (J1 _ _ (Rs fun K J => sQ (qL ty_38 rfl m2 rfl) rfl (sQ (qL ty_38 rfl m1 rfl) rfl (sC (AV [pI (E (Z.gcd a.dec b.dec))]) js_ (fd_ a.1 b.1 a.2 b.2) rfl rfl rfl (sN zp_38 rfl fun b10 hb10 => sS [pI (E (Z.gcd a.dec b.dec))] ty_38 rfl rfl rfl rfl rfl (.head _) rfl hb10 (nl J (Sq fun K3 J3 => Rs fun K J => sQ (qL ty_38 rfl m2 rfl) rfl (sC (.int .i64 ((Z.signW b.dec).1)) en_32 (ct_ b.1 b.2) rfl rfl rfl (sE rfl (nl J ?_)))))))))))
   rcases bt (decide ((Z.signW b.dec).1 < 0)) with h11 | h11
   ·skip
    refine W_t h11 rfl (Rk fun K J => sQ (qL ty_38 rfl m0 rfl) rfl (sC (AV [pI (E (Z.neg (Z.gcd a.dec b.dec)))]) nq_ (fY_ (E (Z.gcd a.dec b.dec)).1 (E (Z.gcd a.dec b.dec)).2) rfl rfl (cg1 (fun p => AV [pI (E (Z.neg p))]) (E_dec _)) (sS [pI (E (Z.neg (Z.gcd a.dec b.dec)))] ty_38 rfl rfl rfl rfl rfl (.head _) rfl hb10 (nl J (J3 _ _ (ds (sk (sd (sk (sk (s0))))) [0,4,8,12,16,20,24,29] [7] mix (by kernel_rfl) (fun K J => pQ rfl (qL ty_38 rfl m3 rfl) (pQ rfl (qL ty_38 rfl m0 rfl) (pC (AV [pI (E (Z.quo a.dec (Z.neg (Z.gcd a.dec b.dec))))]) en_88 (cV_ a.1 (E (Z.neg (Z.gcd a.dec b.dec))).1 a.2 (E (Z.neg (Z.gcd a.dec b.dec))).2) rfl rfl (cg2 (fun p q => AV [pI (E (Z.quo p q))]) rfl (E_dec _)) (pQ rfl (qL ty_38 rfl m2 rfl) (pQ rfl (qL ty_38 rfl m0 rfl) (pC (AV [pI (E (Z.quo b.dec (Z.neg (Z.gcd a.dec b.dec))))]) en_88 (cV_ b.1 (E (Z.neg (Z.gcd a.dec b.dec))).1 b.2 (E (Z.neg (Z.gcd a.dec b.dec))).2) rfl rfl (cg2 (fun p q => AV [pI (E (Z.quo p q))]) rfl (E_dec _)) (pQ rfl (dz_ zp_44 pl_44 rfl (.cons [pI (E (Z.quo a.dec (Z.neg (Z.gcd a.dec b.dec))))] [pI (E (Z.quo a.dec (Z.neg (Z.gcd a.dec b.dec)))), pI I0] rfl rfl rfl rfl (.cons [pI (E (Z.quo b.dec (Z.neg (Z.gcd a.dec b.dec))))] [pI (E (Z.quo a.dec (Z.neg (Z.gcd a.dec b.dec)))), pI (E (Z.quo b.dec (Z.neg (Z.gcd a.dec b.dec))))] rfl rfl rfl rfl (.nil _)))) (oS [pI (E (Z.quo a.dec (Z.neg (Z.gcd a.dec b.dec)))), pI (E (Z.quo b.dec (Z.neg (Z.gcd a.dec b.dec))))] ty_44 rfl rfl rfl rfl rfl rfl (.tail _ (.head _)) rfl hb3 rfl (sk (sd s0)) (fl J (W_ret (ret1 rfl (.inr rfl) (resP rfl m1 ty_44 rfl) ?_)))))))))))))))))
    exact (by exact congrArg (fun r : Rt => (AV [pI r.n, pI r.d] : Value)) (show _ = (cc_ a b) from bif_f h9 (bif_t h11 rfl)))
   ·skip
    refine W_f h11 rfl (aj_ (J3 _ _ (ds (sk (sd (sk (sk (s0))))) [0,4,8,12,16,20,24,29] [7] mix (by kernel_rfl) (fun K J => pQ rfl (qL ty_38 rfl m3 rfl) (pQ rfl (qL ty_38 rfl m0 rfl) (pC (AV [pI (E (Z.quo a.dec (Z.gcd a.dec b.dec)))]) en_88 (cV_ a.1 (E (Z.gcd a.dec b.dec)).1 a.2 (E (Z.gcd a.dec b.dec)).2) rfl rfl (cg2 (fun p q => AV [pI (E (Z.quo p q))]) rfl (E_dec _)) (pQ rfl (qL ty_38 rfl m2 rfl) (pQ rfl (qL ty_38 rfl m0 rfl) (pC (AV [pI (E (Z.quo b.dec (Z.gcd a.dec b.dec)))]) en_88 (cV_ b.1 (E (Z.gcd a.dec b.dec)).1 b.2 (E (Z.gcd a.dec b.dec)).2) rfl rfl (cg2 (fun p q => AV [pI (E (Z.quo p q))]) rfl (E_dec _)) (pQ rfl (dz_ zp_44 pl_44 rfl (.cons [pI (E (Z.quo a.dec (Z.gcd a.dec b.dec)))] [pI (E (Z.quo a.dec (Z.gcd a.dec b.dec))), pI I0] rfl rfl rfl rfl (.cons [pI (E (Z.quo b.dec (Z.gcd a.dec b.dec)))] [pI (E (Z.quo a.dec (Z.gcd a.dec b.dec))), pI (E (Z.quo b.dec (Z.gcd a.dec b.dec)))] rfl rfl rfl rfl (.nil _)))) (oS [pI (E (Z.quo a.dec (Z.gcd a.dec b.dec))), pI (E (Z.quo b.dec (Z.gcd a.dec b.dec)))] ty_44 rfl rfl rfl rfl rfl rfl (.tail _ (.head _)) rfl hb3 rfl (sk (sd s0)) (fl J (W_ret (ret1 rfl (.inr rfl) (resP rfl m1 ty_44 rfl) ?_))))))))))))))
    exact (by exact congrArg (fun r : Rt => (AV [pI r.n, pI r.d] : Value)) (show _ = (cc_ a b) from bif_f h9 (bif_f h11 rfl)))

theorem iB_ (a : I) :
    Ret Tryz.prog 115 [AV [pI a]] (AV [pI ((eB_ a).n), pI ((eB_ a).d)]) := by
 refine aD_ (N := 6) Tryz.func115 rfl rfl (by simp) (fun w0 => ?_)
 simp only [initF, Nat.reduceAdd]
 refine Rs fun K J => WL_r rfl (b5_ rfl rfl (fun b1 hb1 => sN zp_44 rfl fun b2 hb2 => nl J (ds (sd (sk (s0))) [0,4,8,13] [3] mix (by kernel_rfl) (fun K J => pQ rfl (qL ty_38 rfl m1 rfl) (pQ rfl (q_ret n3_ f6_  rfl) (pQ rfl (q_ret en_61 (eg_ a F_ratio_one) rfl) (oS [pI ((cc_ a F_ratio_one).n), pI ((cc_ a F_ratio_one).d)] ty_44 rfl rfl rfl rfl rfl rfl (.head _) rfl hb2 rfl (sd s0) (fl J (W_ret (ret1 rfl (.inr rfl) (resP rfl m0 ty_44 rfl) ?_))))))))))
 exact (by rfl)

theorem db_ (a : W) :
    Ret Tryz.prog 58 [.int .i64 a.1] (AV [pI ((dl_ a).n), pI ((dl_ a).d)]) := by
 refine aD_ (N := 6) Tryz.func58 rfl rfl (by simp) (fun w0 => ?_)
 simp only [initF, Nat.reduceAdd]
 refine Rs fun K J => sN zp_44 rfl fun b1 hb1 => nl J (Rs fun K J => sE rfl (sC (AV [pI (E (Z.of a.1))]) en_62 (bo_ a.1 a.2) rfl rfl rfl (sQ (q_ret rz_ (iB_ (E (Z.of a.1))) rfl) rfl (sS [pI ((eB_ (E (Z.of a.1))).n), pI ((eB_ (E (Z.of a.1))).d)] ty_44 rfl rfl rfl rfl rfl (.head _) rfl hb1 (nl J (W_ret (ret1 rfl (.inr rfl) (resP rfl m0 ty_44 rfl) ?_)))))))
 exact (by rfl)

theorem jK_ (a : Rt) :
    Ret Tryz.prog 118 [AV [pI a.n, pI a.d]] (AV [pI ((d5_ a).n), pI ((d5_ a).d)]) := by
 refine aD_ (N := 13) Tryz.func118 rfl rfl (by simp) (fun w0 => ?_)
 simp only [initF, Nat.reduceAdd]
 refine Rs fun K J => WL_r rfl (b5_ rfl rfl (fun b1 hb1 => sN zp_44 rfl fun b2 hb2 => nl J (Sq fun K1 J1 => Rs fun K J => sQ (qL ty_44 rfl m1 rfl) rfl (sQ (q_ret lo_ (eS_ a) rfl) rfl (sE rfl (nl J ?_))))))
 rcases bt (bV_ a) with h3 | h3
 ·skip
  refine W_f (not_f h3) rfl (aj_ (J1 _ _ (ds (sd (sk (s0))) [0,4,8,12,16,20,25] [6] mix (by kernel_rfl) (fun K J => pQ rfl (qF em_ rfl rfl) (pQ rfl (qL ty_38 rfl m1 rfl) (pC (AV [pI (E (Z.neg a.n.dec))]) nq_ (fY_ a.n.1 a.n.2) rfl rfl rfl (pQ rfl (qF dg_ rfl rfl) (pQ rfl (qL ty_38 rfl m1 rfl) (pQ rfl (dz_ zp_44 pl_44 rfl (.cons [pI (E (Z.neg a.n.dec))] [pI (E (Z.neg a.n.dec)), pI I0] rfl rfl rfl rfl (.cons [pI a.d] [pI (E (Z.neg a.n.dec)), pI a.d] rfl rfl rfl rfl (.nil _)))) (oS [pI (E (Z.neg a.n.dec)), pI a.d] ty_44 rfl rfl rfl rfl rfl rfl (.head _) rfl hb2 rfl (sd s0) (fl J (W_ret (ret1 rfl (.inr rfl) (resP rfl m0 ty_44 rfl) ?_)))))))))))))
  exact (by exact congrArg (fun r : Rt => (AV [pI r.n, pI r.d] : Value)) (show _ = (d5_ a) from bif_t h3 rfl))
 ·skip
  refine W_t (not_t h3) rfl (Rs fun K J => sQ (q_ret m1_ f0_  rfl) rfl (sS [pI hq_.n, pI hq_.d] ty_44 rfl rfl rfl rfl rfl (.head _) rfl hb2 (nl J (W_ret (ah_ (ret1 rfl (.inr rfl) (resP rfl m0 ty_44 rfl) ?_))))))
  exact (by exact congrArg (fun r : Rt => (AV [pI r.n, pI r.d] : Value)) (show _ = (d5_ a) from bif_f h3 rfl))

theorem jW_ (a : Rt) (b : Rt) :
    Ret Tryz.prog 54 [AV [pI a.n, pI a.d], AV [pI b.n, pI b.d]] (AV [pI ((d2_ a b).n), pI ((d2_ a b).d)]) := by
 refine aD_ (N := 44) Tryz.func54 rfl rfl (by simp) (fun w0 => ?_)
 simp only [initF, Nat.reduceAdd]
 refine Rs fun K J => WL_r rfl (b5_ rfl rfl (fun b1 hb1 => WL_r rfl (b5_ rfl rfl (fun b2 hb2 => sN zp_44 rfl fun b3 hb3 => nl J (Sq fun K1 J1 => ?_)))))
 refine bu_ [8, 9, 10, 11, 12, 13, 14, 15] (fun g M => (g 15 = .bool (!(bV_ a) || (!(bV_ b)))) ∧ M = [⟨b3, 44, flat [pI I0, pI I0]⟩, ⟨b2, 44, flat [pI b.n, pI b.d]⟩, ⟨b1, 44, flat [pI a.n, pI a.d]⟩]) (fun K2 J2 => ?_) ?_
 ·skip
  refine Rk fun K J => sQ (qL ty_44 rfl m2 rfl) rfl (sQ (q_ret lo_ (eS_ a) rfl) rfl (sE rfl ?_))
  rcases bt (bV_ a) with h5 | h5
  ·skip
   refine sB (not_f h5) rfl (sQ (qL ty_44 rfl m1 rfl) rfl (sQ (q_ret lo_ (eS_ b) rfl) rfl (sE rfl (sE rfl (nl J ?_)))))
   refine J2 _ _ (by repeat first | exact .refl | refine .cons rfl ?_) ⟨_, s0, ?s15, rfl⟩
   case s15 => exact congrArg Value.bool (nor_t h5 rfl)
  ·skip
   refine sB (not_t h5) rfl (WL_n rfl (WL_n rfl (WL_n rfl (sE rfl (nl J ?_)))))
   refine J2 _ _ (by repeat first | exact .refl | refine .cons rfl ?_) ⟨_, s0, ?s15, rfl⟩
   case s15 => exact congrArg Value.bool (nor_f h5)
 ·skip
  rintro g6 M ⟨hg15, rfl⟩
  simp only [setG, hg15]
  clear hg15
  rcases bt (!(bV_ a) || (!(bV_ b))) with h7 | h7
  ·skip
   refine W_t h7 rfl (Rs fun K J => sQ (q_ret m1_ f0_  rfl) rfl (sS [pI hq_.n, pI hq_.d] ty_44 rfl rfl rfl rfl rfl (.head _) rfl hb3 (nl J (W_ret (ah_ (ret1 rfl (.inr rfl) (resP rfl m0 ty_44 rfl) ?_))))))
   exact (by exact congrArg (fun r : Rt => (AV [pI r.n, pI r.d] : Value)) (show _ = (d2_ a b) from bif_t h7 rfl))
  ·skip
   refine W_f h7 rfl (aj_ (J1 _ _ (Rs fun K J => sQ (qF dg_ rfl rfl) rfl (sQ (qL ty_38 rfl m2 rfl) rfl (sQ (qF dg_ rfl rfl) rfl (sQ (qL ty_38 rfl m1 rfl) rfl (sC (AV [pI (E (Z.gcd a.d.dec b.d.dec))]) js_ (fd_ a.d.1 b.d.1 a.d.2 b.d.2) rfl rfl rfl (sN zp_38 rfl fun b8 hb8 => sS [pI (E (Z.gcd a.d.dec b.d.dec))] ty_38 rfl rfl rfl rfl rfl (.head _) rfl hb8 (nl J (W_sdr (sk (sk (sk (sk (s0))))) (.quiet 0 [1,3,7,10,11] (.quiet 1 [3,7,10,11] (.quiet 2 [3,7,10,11] (.quiet 3 [7,10,11] (.quiet 4 [5,7,10,11] (.quiet 5 [7,10,11] (.quiet 6 [7,10,11] (.quiet 7 [10,11] (.both 8 (.only 9 (.only 10 (.only 11 (.fin)))) 9 (.only 8 (.only 10 (.only 11 (.fin))))))))))))) [0,1,2,3,4,5,6,7,8,9] mix (by kernel_rfl) (by kernel_rfl) (fun K J => pQ rfl (qF dg_ rfl rfl) (pQ rfl (qL ty_38 rfl m3 rfl) (pQ rfl (qL ty_38 rfl m0 rfl) (pC (AV [pI (E (Z.quo a.d.dec (Z.gcd a.d.dec b.d.dec)))]) en_88 (cV_ a.d.1 (E (Z.gcd a.d.dec b.d.dec)).1 a.d.2 (E (Z.gcd a.d.dec b.d.dec)).2) rfl rfl (cg2 (fun p q => AV [pI (E (Z.quo p q))]) rfl (E_dec _)) (pQ rfl (qF dg_ rfl rfl) (pQ rfl (qL ty_38 rfl m2 rfl) (pQ rfl (qL ty_38 rfl m0 rfl) ?_)))))))))))))))))
   refine pC (AV [pI (E (Z.quo b.d.dec (Z.gcd a.d.dec b.d.dec)))]) en_88 (cV_ b.d.1 (E (Z.gcd a.d.dec b.d.dec)).1 b.d.2 (E (Z.gcd a.d.dec b.d.dec)).2) rfl rfl (cg2 (fun p q => AV [pI (E (Z.quo p q))]) rfl (E_dec _)) ?_
   refine PL_b ?_ ?_
   ·skip
    refine PL_o rfl rfl (eA_ zp_38 (fun b9 hb9 => ⟨(fun _ => sd s0), (sd s0), PL_o rfl rfl (eA_ zp_38 (fun b10 hb10 => ⟨(fun _ => sd s0), (sd (sd s0)), oS [pI (E (Z.quo a.d.dec (Z.gcd a.d.dec b.d.dec)))] ty_38 rfl rfl rfl rfl rfl rfl (.tail _ (.head _)) rfl hb9 rfl (sd (sd s0)) (oS [pI (E (Z.quo b.d.dec (Z.gcd a.d.dec b.d.dec)))] ty_38 rfl rfl rfl rfl rfl rfl (.head _) rfl hb10 rfl (sd (sd s0)) (fl J (ds (sk (sk (sk (sd (sk (sk (s0))))))) [0,4,8,12,16,20,24,28,32,36,40,44,48,52,57] [14] mix (by kernel_rfl) (fun K J => pQ rfl (qF em_ rfl rfl) (pQ rfl (qL ty_38 rfl m5 rfl) (pQ rfl (qL ty_38 rfl m0 rfl) (pC (AV [pI (E (Z.mul a.n.dec (Z.quo b.d.dec (Z.gcd a.d.dec b.d.dec))))]) en_77 (aV_ a.n.1 (E (Z.quo b.d.dec (Z.gcd a.d.dec b.d.dec))).1 a.n.2 (E (Z.quo b.d.dec (Z.gcd a.d.dec b.d.dec))).2) rfl rfl (cg2 (fun p q => AV [pI (E (Z.mul p q))]) rfl (E_dec _)) (pQ rfl (qF em_ rfl rfl) (pQ rfl (qL ty_38 rfl m4 rfl) (pQ rfl (qL ty_38 rfl m1 rfl) (pC (AV [pI (E (Z.mul b.n.dec (Z.quo a.d.dec (Z.gcd a.d.dec b.d.dec))))]) en_77 (aV_ b.n.1 (E (Z.quo a.d.dec (Z.gcd a.d.dec b.d.dec))).1 b.n.2 (E (Z.quo a.d.dec (Z.gcd a.d.dec b.d.dec))).2) rfl rfl (cg2 (fun p q => AV [pI (E (Z.mul p q))]) rfl (E_dec _)) ?_)))))))))))⟩))⟩))
    obtain ⟨r11, hr11⟩ := nm ((E (Z.add (Z.mul a.n.dec (Z.quo b.d.dec (Z.gcd a.d.dec b.d.dec))) (Z.mul b.n.dec (Z.quo a.d.dec (Z.gcd a.d.dec b.d.dec))))) : I)
    refine pC (AV [pI r11]) en_94 (dK_ (E (Z.mul a.n.dec (Z.quo b.d.dec (Z.gcd a.d.dec b.d.dec)))).1 (E (Z.mul b.n.dec (Z.quo a.d.dec (Z.gcd a.d.dec b.d.dec)))).1 (E (Z.mul a.n.dec (Z.quo b.d.dec (Z.gcd a.d.dec b.d.dec)))).2 (E (Z.mul b.n.dec (Z.quo a.d.dec (Z.gcd a.d.dec b.d.dec)))).2) rfl rfl ((cg2 (fun p q => AV [pI (E (Z.add p q))]) (E_dec _) (E_dec _)).trans (by rw [hr11])) (pQ rfl (qL ty_38 rfl m1 rfl) (pQ rfl (qF dg_ rfl rfl) (pQ rfl (qL ty_38 rfl m4 rfl) (pC (AV [pI (E (Z.mul (Z.quo a.d.dec (Z.gcd a.d.dec b.d.dec)) b.d.dec))]) en_77 (aV_ (E (Z.quo a.d.dec (Z.gcd a.d.dec b.d.dec))).1 b.d.1 (E (Z.quo a.d.dec (Z.gcd a.d.dec b.d.dec))).2 b.d.2) rfl rfl (cg2 (fun p q => AV [pI (E (Z.mul p q))]) (E_dec _) rfl) ?_))))
    obtain ⟨r12, hr12⟩ := nm ((cc_ r11 (E (Z.mul (Z.quo a.d.dec (Z.gcd a.d.dec b.d.dec)) b.d.dec))) : Rt)
    refine pC (AV [pI r12.n, pI r12.d]) en_61 (eg_ r11 (E (Z.mul (Z.quo a.d.dec (Z.gcd a.d.dec b.d.dec)) b.d.dec))) rfl rfl (by rw [hr12]; first | done | rfl) (oS [pI r12.n, pI r12.d] ty_44 rfl rfl rfl rfl rfl rfl (.tail _ (.tail _ (.tail _ (.head _)))) rfl hb3 rfl (sk (sk (sk (sd s0)))) (fl J (W_ret (ret1 rfl (.inr rfl) (resP rfl m3 ty_44 rfl) ?_))))
    exact (by subst hr12; subst hr11; exact congrArg (fun r : Rt => (AV [pI r.n, pI r.d] : Value)) (show _ = (d2_ a b) from bif_f h7 rfl))
   ·skip
    refine PL_o rfl rfl (eA_ zp_38 (fun b13 hb13 => ⟨(fun _ => sd s0), (sd s0), PL_o rfl rfl (eA_ zp_38 (fun b14 hb14 => ⟨(fun _ => sd s0), (sd (sd s0)), oS [pI (E (Z.quo a.d.dec (Z.gcd a.d.dec b.d.dec)))] ty_38 rfl rfl rfl rfl rfl rfl (.head _) rfl hb14 rfl (sd (sd s0)) (oS [pI (E (Z.quo b.d.dec (Z.gcd a.d.dec b.d.dec)))] ty_38 rfl rfl rfl rfl rfl rfl (.tail _ (.head _)) rfl hb13 rfl (sd (sd s0)) (fl J (ds (sk (sk (sk (sd (sk (sk (s0))))))) [0,4,8,12,16,20,24,28,32,36,40,44,48,52,57] [14] mix (by kernel_rfl) (fun K J => pQ rfl (qF em_ rfl rfl) (pQ rfl (qL ty_38 rfl m5 rfl) (pQ rfl (qL ty_38 rfl m1 rfl) (pC (AV [pI (E (Z.mul a.n.dec (Z.quo b.d.dec (Z.gcd a.d.dec b.d.dec))))]) en_77 (aV_ a.n.1 (E (Z.quo b.d.dec (Z.gcd a.d.dec b.d.dec))).1 a.n.2 (E (Z.quo b.d.dec (Z.gcd a.d.dec b.d.dec))).2) rfl rfl (cg2 (fun p q => AV [pI (E (Z.mul p q))]) rfl (E_dec _)) (pQ rfl (qF em_ rfl rfl) (pQ rfl (qL ty_38 rfl m4 rfl) (pQ rfl (qL ty_38 rfl m0 rfl) (pC (AV [pI (E (Z.mul b.n.dec (Z.quo a.d.dec (Z.gcd a.d.dec b.d.dec))))]) en_77 (aV_ b.n.1 (E (Z.quo a.d.dec (Z.gcd a.d.dec b.d.dec))).1 b.n.2 (E (Z.quo a.d.dec (Z.gcd a.d.dec b.d.dec))).2) rfl rfl (cg2 (fun p q => AV [pI (E (Z.mul p q))]) rfl (E_dec _)) ?_)))))))))))⟩))⟩))
    obtain ⟨r15, hr15⟩ := nm ((E (Z.add (Z.mul a.n.dec (Z.quo b.d.dec (Z.gcd a.d.dec b.d.dec))) (Z.mul b.n.dec (Z.quo a.d.dec (Z.gcd a.d.dec b.d.dec))))) : I)
    refine pC (AV [pI r15]) en_94 (dK_ (E (Z.mul a.n.dec (Z.quo b.d.dec (Z.gcd a.d.dec b.d.dec)))).1 (E (Z.mul b.n.dec (Z.quo a.d.dec (Z.gcd a.d.dec b.d.dec)))).1 (E (Z.mul a.n.dec (Z.quo b.d.dec (Z.gcd a.d.dec b.d.dec)))).2 (E (Z.mul b.n.dec (Z.quo a.d.dec (Z.gcd a.d.dec b.d.dec)))).2) rfl rfl ((cg2 (fun p q => AV [pI (E (Z.add p q))]) (E_dec _) (E_dec _)).trans (by rw [hr15])) (pQ rfl (qL ty_38 rfl m0 rfl) (pQ rfl (qF dg_ rfl rfl) (pQ rfl (qL ty_38 rfl m4 rfl) (pC (AV [pI (E (Z.mul (Z.quo a.d.dec (Z.gcd a.d.dec b.d.dec)) b.d.dec))]) en_77 (aV_ (E (Z.quo a.d.dec (Z.gcd a.d.dec b.d.dec))).1 b.d.1 (E (Z.quo a.d.dec (Z.gcd a.d.dec b.d.dec))).2 b.d.2) rfl rfl (cg2 (fun p q => AV [pI (E (Z.mul p q))]) (E_dec _) rfl) ?_))))
    obtain ⟨r16, hr16⟩ := nm ((cc_ r15 (E (Z.mul (Z.quo a.d.dec (Z.gcd a.d.dec b.d.dec)) b.d.dec))) : Rt)
    refine pC (AV [pI r16.n, pI r16.d]) en_61 (eg_ r15 (E (Z.mul (Z.quo a.d.dec (Z.gcd a.d.dec b.d.dec)) b.d.dec))) rfl rfl (by rw [hr16]; first | done | rfl) (oS [pI r16.n, pI r16.d] ty_44 rfl rfl rfl rfl rfl rfl (.tail _ (.tail _ (.tail _ (.head _)))) rfl hb3 rfl (sk (sk (sk (sd s0)))) (fl J (W_ret (ret1 rfl (.inr rfl) (resP rfl m3 ty_44 rfl) ?_))))
    exact (by subst hr16; subst hr15; exact congrArg (fun r : Rt => (AV [pI r.n, pI r.d] : Value)) (show _ = (d2_ a b) from bif_f h7 rfl))

theorem j0_ (a : Rt) (b : Rt) :
    Ret Tryz.prog 60 [AV [pI a.n, pI a.d], AV [pI b.n, pI b.d]] (AV [pI ((cB_ a b).n), pI ((cB_ a b).d)]) := by
 refine aD_ (N := 9) Tryz.func60 rfl rfl (by simp) (fun w0 => ?_)
 simp only [initF, Nat.reduceAdd]
 refine Rs fun K J => WL_r rfl (b5_ rfl rfl (fun b1 hb1 => WL_r rfl (b5_ rfl rfl (fun b2 hb2 => sN zp_44 rfl fun b3 hb3 => nl J (ds (sd (sk (sk (s0)))) [0,4,8,12,17] [4] mix (by kernel_rfl) (fun K J => pQ rfl (qL ty_44 rfl m2 rfl) (pQ rfl (qL ty_44 rfl m1 rfl) (pQ rfl (q_ret rs_ (jK_ b) rfl) (pQ rfl (q_ret en_54 (jW_ a (d5_ b)) rfl) (oS [pI ((d2_ a (d5_ b)).n), pI ((d2_ a (d5_ b)).d)] ty_44 rfl rfl rfl rfl rfl rfl (.head _) rfl hb3 rfl (sd s0) (fl J (W_ret (ret1 rfl (.inr rfl) (resP rfl m0 ty_44 rfl) ?_)))))))))))))
 exact (by rfl)

theorem e4_  :
    Ret Tryz.prog 142 [] (AV [pI F_skewbackref04_one]) := by
 refine aD_ (N := 2) Tryz.func142 rfl rfl (by simp) (fun w0 => ?_)
 simp only [initF, Nat.reduceAdd]
 obtain ⟨q0, hq0⟩ := nm ((E (Z.of 1)) : I)
 refine Rs fun K J => sN zp_38 rfl fun b1 hb1 => nl J (Rs fun K J => sC (AV [pI q0]) en_81 (b1_ (wl 1).1 (wl 1).2) rfl rfl (by rw [hq0]; first | done | rfl) ?_)
 refine sS [pI q0] ty_38 rfl rfl rfl rfl rfl (.head _) rfl hb1 (nl J (W_ret (ret1 rfl (.inr rfl) (resP rfl m0 ty_38 rfl) ?_)))
 exact (by subst hq0; rfl)

theorem eY_  :
    Ret Tryz.prog 101 [] (AV [pI ft_.n, pI ft_.d]) := by
 refine aD_ (N := 4) Tryz.func101 rfl rfl (by simp) (fun w0 => ?_)
 simp only [initF, Nat.reduceAdd]
 obtain ⟨q0, hq0⟩ := nm ((E Z.bad) : I)
 obtain ⟨q1, hq1⟩ := nm (F_skewbackref04_one : I)
 refine Rs fun K J => sN zp_44 rfl fun b1 hb1 => nl J (Rs fun K J => sC (AV [pI q0]) en_99 aX_ rfl rfl (by rw [hq0]; first | done | rfl) (sC (AV [pI q1]) py_ e4_ rfl rfl (by rw [hq1]; first | done | rfl) (sQ (dz_ zp_44 pl_44 rfl (.cons [pI q0] [pI q0, pI I0] rfl rfl rfl rfl (.cons [pI q1] [pI q0, pI q1] rfl rfl rfl rfl (.nil _)))) rfl (sS [pI q0, pI q1] ty_44 rfl rfl rfl rfl rfl (.head _) rfl hb1 (nl J (W_ret (ret1 rfl (.inr rfl) (resP rfl m0 ty_44 rfl) ?_)))))))
 exact (by subst hq1; subst hq0; rfl)

theorem go_ (a : I) (b : I) :
    Ret Tryz.prog 104 [AV [pI a], AV [pI b]] (AV [pI ((bI_ a b).n), pI ((bI_ a b).d)]) := by
 refine aD_ (N := 35) Tryz.func104 rfl rfl (by simp) (fun w0 => ?_)
 simp only [initF, Nat.reduceAdd]
 refine Rs fun K J => WL_r rfl (b5_ rfl rfl (fun b1 hb1 => WL_r rfl (b5_ rfl rfl (fun b2 hb2 => sN zp_44 rfl fun b3 hb3 => nl J (Sq fun K1 J1 => ?_)))))
 refine bu_ [6, 7, 8, 9, 10, 11, 12, 13, 14, 15, 16, 17, 18] (fun g M => (g 18 = .bool (!a.1.good || (!b.1.good || ((Z.signW b.dec).1 == 0)))) ∧ M = [⟨b3, 44, flat [pI I0, pI I0]⟩, ⟨b2, 38, flat [pI b]⟩, ⟨b1, 38, flat [pI a]⟩]) (fun K2 J2 => ?_) ?_
 ·skip
  refine Rk fun K J => sQ (qL ty_38 rfl m2 rfl) rfl (sC (.bool a.1.good) eF_ (aA_ a.1 a.2) rfl rfl rfl (sE rfl ?_))
  rcases bt a.1.good with h6 | h6
  ·skip
   refine sB (not_f h6) rfl (sQ (qL ty_38 rfl m1 rfl) rfl (sC (.bool b.1.good) eF_ (aA_ b.1 b.2) rfl rfl rfl (sE rfl (sE rfl ?_))))
   rcases bt b.1.good with h7 | h7
   ·skip
    refine sB (not_f h7) rfl (sQ (qL ty_38 rfl m1 rfl) rfl (sC (.int .i64 ((Z.signW b.dec).1)) en_71 (b0_ b.1 b.2) rfl rfl rfl (sE rfl (sE rfl (nl J ?_)))))
    refine J2 _ _ (by repeat first | exact .refl | refine .cons rfl ?_) ⟨_, s0, ?s18, rfl⟩
    case s18 => exact congrArg Value.bool (nor_t h6 (nor_t h7 rfl))
   ·skip
    refine sB (not_t h7) rfl (WL_n rfl (WL_n rfl (WL_n rfl (sE rfl (nl J ?_)))))
    refine J2 _ _ (by repeat first | exact .refl | refine .cons rfl ?_) ⟨_, s0, ?s18, rfl⟩
    case s18 => exact congrArg Value.bool (nor_t h6 (nor_f h7))
  ·skip
   refine sB (not_t h6) rfl (WL_n rfl (WL_n rfl (WL_n rfl (sE rfl (sE rfl (WL_n rfl (WL_n rfl (WL_n rfl (sE rfl (nl J ?_))))))))))
   refine J2 _ _ (by repeat first | exact .refl | refine .cons rfl ?_) ⟨_, s0, ?s18, rfl⟩
   case s18 => exact congrArg Value.bool (nor_f h6)
 ·skip
  rintro g8 M ⟨hg18, rfl⟩
  simp only [setG, hg18]
  clear hg18
  rcases bt (!a.1.good || (!b.1.good || ((Z.signW b.dec).1 == 0))) with h9 | h9
  ·skip
   refine W_t h9 rfl (Rs fun K J => sQ (q_ret pu_ eY_  rfl) rfl (sS [pI ft_.n, pI ft_.d] ty_44 rfl rfl rfl rfl rfl (.head _) rfl hb3 (nl J (W_ret (ah_ (ret1 rfl (.inr rfl) (resP rfl m0 ty_44 rfl) ?_))))))
   exact (by exact congrArg (fun r : Rt => (AV [pI r.n, pI r.d] : Value)) (show _ = (bI_ a b) from bif_t h9 rfl))
  ·skip
   refine W_f h9 rfl (aj_ (J1 _ _ (Rs fun K J => sQ (qL ty_38 rfl m2 rfl) rfl (sQ (qL ty_38 rfl m1 rfl) rfl (sC (AV [pI (E (Z.gcd a.dec b.dec))]) ni_ (d4_ a.1 b.1 a.2 b.2) rfl rfl rfl (sN zp_38 rfl fun b10 hb10 => sS [pI (E (Z.gcd a.dec b.dec))] ty_38 rfl rfl rfl rfl rfl (.head _) rfl hb10 (nl J (Sq fun K3 J3 => Rs fun K J => sQ (qL ty_38 rfl m2 rfl) rfl (sC (.int .i64 ((Z.signW b.dec).1)) en_71 (b0_ b.1 b.2) rfl rfl rfl (sE rfl (nl J ?_)))))))))))
   rcases bt (decide ((Z.signW b.dec).1 < 0)) with h11 | h11
   ·skip
    refine W_t h11 rfl (Rk fun K J => sQ (qL ty_38 rfl m0 rfl) rfl (sC (AV [pI (E (Z.neg (Z.gcd a.dec b.dec)))]) pg_ (eW_ (E (Z.gcd a.dec b.dec)).1 (E (Z.gcd a.dec b.dec)).2) rfl rfl (cg1 (fun p => AV [pI (E (Z.neg p))]) (E_dec _)) (sS [pI (E (Z.neg (Z.gcd a.dec b.dec)))] ty_38 rfl rfl rfl rfl rfl (.head _) rfl hb10 (nl J (J3 _ _ (ds (sk (sd (sk (sk (s0))))) [0,4,8,12,16,20,24,29] [7] mix (by kernel_rfl) (fun K J => pQ rfl (qL ty_38 rfl m3 rfl) (pQ rfl (qL ty_38 rfl m0 rfl) (pC (AV [pI (E (Z.quo a.dec (Z.neg (Z.gcd a.dec b.dec))))]) en_90 (do_ a.1 (E (Z.neg (Z.gcd a.dec b.dec))).1 a.2 (E (Z.neg (Z.gcd a.dec b.dec))).2) rfl rfl (cg2 (fun p q => AV [pI (E (Z.quo p q))]) rfl (E_dec _)) (pQ rfl (qL ty_38 rfl m2 rfl) (pQ rfl (qL ty_38 rfl m0 rfl) (pC (AV [pI (E (Z.quo b.dec (Z.neg (Z.gcd a.dec b.dec))))]) en_90 (do_ b.1 (E (Z.neg (Z.gcd a.dec b.dec))).1 b.2 (E (Z.neg (Z.gcd a.dec b.dec))).2) rfl rfl (cg2 (fun p q => AV [pI (E (Z.quo p q))]) rfl (E_dec _)) (pQ rfl (dz_ zp_44 pl_44 rfl (.cons [pI (E (Z.quo a.dec (Z.neg (Z.gcd a.dec b.dec))))] [pI (E (Z.quo a.dec (Z.neg (Z.gcd a.dec b.dec)))), pI I0] rfl rfl rfl rfl (.cons [pI (E (Z.quo b.dec (Z.neg (Z.gcd a.dec b.dec))))] [pI (E (Z.quo a.dec (Z.neg (Z.gcd a.dec b.dec)))), pI (E (Z.quo b.dec (Z.neg (Z.gcd a.dec b.dec))))] rfl rfl rfl rfl (.nil _)))) (oS [pI (E (Z.quo a.dec (Z.neg (Z.gcd a.dec b.dec)))), pI (E (Z.quo b.dec (Z.neg (Z.gcd a.dec b.dec))))] ty_44 rfl rfl rfl rfl rfl rfl (.tail _ (.head _)) rfl hb3 rfl (sk (sd s0)) (fl J (W_ret (ret1 rfl (.inr rfl) (resP rfl m1 ty_44 rfl) ?_)))))))))))))))))
    exact (by exact congrArg (fun r : Rt => (AV [pI r.n, pI r.d] : Value)) (show _ = (bI_ a b) from bif_f h9 (bif_t h11 rfl)))
   ·skip
    refine W_f h11 rfl (aj_ (J3 _ _ (ds (sk (sd (sk (sk (s0))))) [0,4,8,12,16,20,24,29] [7] mix (by kernel_rfl) (fun K J => pQ rfl (qL ty_38 rfl m3 rfl) (pQ rfl (qL ty_38 rfl m0 rfl) (pC (AV [pI (E (Z.quo a.dec (Z.gcd a.dec b.dec)))]) en_90 (do_ a.1 (E (Z.gcd a.dec b.dec)).1 a.2 (E (Z.gcd a.dec b.dec)).2) rfl rfl (cg2 (fun p q => AV [pI (E (Z.quo p q))]) rfl (E_dec _)) (pQ rfl (qL ty_38 rfl m2 rfl) (pQ rfl (qL ty_38 rfl m0 rfl) (pC (AV [pI (E (Z.quo b.dec (Z.gcd a.dec b.dec)))]) en_90 (do_ b.1 (E (Z.gcd a.dec b.dec)).1 b.2 (E (Z.gcd a.dec b.dec)).2) rfl rfl (cg2 (fun p q => AV [pI (E (Z.quo p q))]) rfl (E_dec _)) (pQ rfl (dz_ zp_44 pl_44 rfl (.cons [pI (E (Z.quo a.dec (Z.gcd a.dec b.dec)))] [pI (E (Z.quo a.dec (Z.gcd a.dec b.dec))), pI I0] rfl rfl rfl rfl (.cons [pI (E (Z.quo b.dec (Z.gcd a.dec b.dec)))] [pI (E (Z.quo a.dec (Z.gcd a.dec b.dec))), pI (E (Z.quo b.dec (Z.gcd a.dec b.dec)))] rfl rfl rfl rfl (.nil _)))) (oS [pI (E (Z.quo a.dec (Z.gcd a.dec b.dec))), pI (E (Z.quo b.dec (Z.gcd a.dec b.dec)))] ty_44 rfl rfl rfl rfl rfl rfl (.tail _ (.head _)) rfl hb3 rfl (sk (sd s0)) (fl J (W_ret (ret1 rfl (.inr rfl) (resP rfl m1 ty_44 rfl) ?_))))))))))))))
    exact (by exact congrArg (fun r : Rt => (AV [pI r.n, pI r.d] : Value)) (show _ = (bI_ a b) from bif_f h9 (bif_f h11 rfl)))
end Go.Proofs.YtjdfogfmeibkgaaGreat

namespace Go.Proofs.YtjdfogfmeibkgaaGreat
open Go.Kn Go.Num
set_option linter.unusedVariables false
set_option linter.unusedSimpArgs false
set_option maxRecDepth 20000
set_option maxHeartbeats 8000000
theorem jc_ (a : W) (b : W) :
    Ret Tryz.prog 63 [.int .i64 a.1, .int .i64 b.1] (AV [pI ((fC_ a b).n), pI ((fC_ a b).d)]) := by
 refine aD_ (N := 10) Tryz.func63 rfl rfl (by simp) (fun w0 => ?_)
 simp only [initF, Nat.reduceAdd]
 refine Rs fun K J => sN zp_44 rfl fun b1 hb1 => nl J (Rs fun K J => sE rfl (sC (AV [pI (E (Z.of a.1))]) en_62 (bo_ a.1 a.2) rfl rfl rfl (sE rfl (sC (AV [pI (E (Z.of b.1))]) en_62 (bo_ b.1 b.2) rfl rfl rfl ?_))))
 obtain ⟨r2, hr2⟩ := nm ((cc_ (E (Z.of a.1)) (E (Z.of b.1))) : Rt)
 refine sC (AV [pI r2.n, pI r2.d]) en_61 (eg_ (E (Z.of a.1)) (E (Z.of b.1))) rfl rfl (by rw [hr2]; first | done | rfl) (sS [pI r2.n, pI r2.d] ty_44 rfl rfl rfl rfl rfl (.head _) rfl hb1 (nl J (W_ret (ret1 rfl (.inr rfl) (resP rfl m0 ty_44 rfl) ?_))))
 exact (by subst hr2; rfl)

end Go.Proofs.YtjdfogfmeibkgaaGreat

