/- Walks: what these functions return. A good fraction's denominator is greater than 0. No program stands in it. What the remainder of the reference computes. No program stands in it. -/
import Derived.Test.YtapbefpeopaecaaGreatDoorUGE
import Derived.Test.YtapbefpeopaecaaGreatDoorUGa
import Derived.Test.YtapbefpeopaecaaGreatDoorUSa
import Derived.Test.YtapbefpeopaecaaGreatDoorUSb
import Derived.Test.YtapbefpeopaecaaGreatDoorUSg
import Derived.Test.YtapbefpeopaecaaGreatDoorUSh
import Derived.Test.YtapbefpeopaecaaGreatDoorUFGc
import Derived.Test.YtapbefpeopaecaaGreatDoorUSe
import Derived.Test.YtapbefpeopaecaaGreatDoorUWc
import Derived.Test.YtapbefpeopaecaaGreatDoorUWh
namespace Go.Proofs.YtapbefpeopaecaaGreatDoor
open Go.Kn Go.Num
set_option linter.unusedVariables false
set_option linter.unusedSimpArgs false
set_option maxRecDepth 20000
set_option maxHeartbeats 8000000
theorem cJ_ (a : Rt) :
    Ret Tryz.prog 51 [AV [pI a.n, pI a.d]] (.bool (ai_ a)) := by
 refine aB_ (N := 26) Tryz.func51 rfl rfl (by simp) (fun w0 => ?_)
 simp only [initF, Nat.reduceAdd]
 refine Rs fun K J => WL_r rfl (bd_ rfl rfl (fun b1 hb1 => sE rfl (nl J (Sq fun K1 J1 => ?_))))
 refine bM_ [3, 4, 5, 6, 7, 8, 9, 10, 11, 12] (fun g M => (g 12 = .bool (!a.n.1.good || (!a.d.1.good))) ∧ M = [⟨b1, 39, flat [pI a.n, pI a.d]⟩]) (fun K2 J2 => ?_) ?_
 ·skip
  refine Rk fun K J => sQ (qF cH_ rfl rfl) rfl (sQ (qL ty_37 rfl m0 rfl) rfl (sC (.bool a.n.1.good) en_86 (aO_ a.n.1 a.n.2) rfl rfl rfl (sE rfl ?_)))
  rcases bt a.n.1.good with h3 | h3
  ·skip
   refine sB (not_f h3) rfl (sQ (qF bP_ rfl rfl) rfl (sQ (qL ty_37 rfl m0 rfl) rfl (sC (.bool a.d.1.good) en_86 (aO_ a.d.1 a.d.2) rfl rfl rfl (sE rfl (sE rfl (nl J ?_))))))
   refine J2 _ _ (by repeat first | exact .refl | refine .cons rfl ?_) ⟨_, s0, ?s12, rfl⟩
   case s12 => exact congrArg Value.bool (nor_t h3 rfl)
  ·skip
   refine sB (not_t h3) rfl (WL_n rfl (WL_n rfl (WL_n rfl (WL_n rfl (sE rfl (nl J ?_))))))
   refine J2 _ _ (by repeat first | exact .refl | refine .cons rfl ?_) ⟨_, s0, ?s12, rfl⟩
   case s12 => exact congrArg Value.bool (nor_f h3)
 ·skip
  rintro g4 M ⟨hg12, rfl⟩
  simp only [setG, hg12]
  clear hg12
  rcases bt (!a.n.1.good || (!a.d.1.good)) with h5 | h5
  ·skip
   refine W_t h5 rfl (Rs fun K J => sE rfl (nl J (W_ret (ah_ (ret1 rfl (.inr rfl) rfl ?_)))))
   exact (by exact congrArg (fun r : Bool => (.bool r : Value)) (show _ = (ai_ a) from bif_t h5 rfl))
  ·skip
   refine W_f h5 rfl (am_ (J1 _ _ ?_))
   refine bM_ [2, 13, 14, 15, 16, 17, 18, 19, 20, 21, 22, 23, 24, 25] (fun g M => (g 2 = .bool (decide (0 < (Z.signW a.d.dec).1) && decide ((E (Z.gcd a.n.dec a.d.dec)) = F_skewbackref04_one))) ∧ M = [⟨b1, 39, flat [pI a.n, pI a.d]⟩]) (fun K3 J3 => ?_) ?_
   ·skip
    refine Rk fun K J => sQ (qF bP_ rfl rfl) rfl (sQ (qL ty_37 rfl m0 rfl) rfl (sC (.int .i64 ((Z.signW a.d.dec).1)) en_40 (dA_ a.d.1 a.d.2) rfl rfl rfl (sE rfl ?_)))
    rcases bt (decide (0 < (Z.signW a.d.dec).1)) with h7 | h7
    ·skip
     refine sB h7 rfl (sQ (qF cH_ rfl rfl) rfl (sQ (qL ty_37 rfl m0 rfl) rfl (sQ (qF bP_ rfl rfl) rfl (sQ (qL ty_37 rfl m0 rfl) rfl (sC (AV [pI (E (Z.gcd a.n.dec a.d.dec))]) en_77 (dI_ a.n.1 a.d.1 a.n.2 a.d.2) rfl rfl rfl (sQ (q_ret en_75 dN_  rfl) rfl ?_))))))
     refine sQ (hz_ (r := decide ((E (Z.gcd a.n.dec a.d.dec)) = F_skewbackref04_one)) rfl rfl (d6_ 8 (by decide) eg_37 lw_37 (eK_ lv_pI) (eK_ lv_pI) (f4_ eq_pI))) rfl (sE rfl (sE rfl (nl J ?_)))
     refine J3 _ _ (by repeat first | exact .refl | refine .cons rfl ?_) ⟨_, s0, ?s2, rfl⟩
     case s2 => exact congrArg Value.bool (and_t h7 rfl)
    ·skip
     refine sB h7 rfl (WL_n rfl (WL_n rfl (WL_n rfl (WL_n rfl (WL_n rfl (WL_n rfl (WL_n rfl (sE rfl (sE rfl (nl J ?_))))))))))
     refine J3 _ _ (by repeat first | exact .refl | refine .cons rfl ?_) ⟨_, s0, ?s2, rfl⟩
     case s2 => exact congrArg Value.bool (and_f h7)
   ·skip
    rintro g8 M ⟨hg2, rfl⟩
    simp only [setG, hg2]
    clear hg2
    refine W_ret (ret1 rfl (.inr rfl) rfl ?_)
    exact (by exact congrArg (fun r : Bool => (.bool r : Value)) (show _ = (ai_ a) from bif_f h5 rfl))

theorem fM_ (a : Rt) :
    Ret Tryz.prog 102 [AV [pI a.n, pI a.d]] (AV [pI ((a6_ a).n), pI ((a6_ a).d)]) := by
 refine aB_ (N := 13) Tryz.func102 rfl rfl (by simp) (fun w0 => ?_)
 simp only [initF, Nat.reduceAdd]
 refine Rs fun K J => WL_r rfl (bd_ rfl rfl (fun b1 hb1 => sN zp_39 rfl fun b2 hb2 => nl J (Sq fun K1 J1 => Rs fun K J => sQ (qL ty_39 rfl m1 rfl) rfl (sQ (q_ret en_51 (cJ_ a) rfl) rfl (sE rfl (nl J ?_))))))
 rcases bt (ai_ a) with h3 | h3
 ·skip
  refine W_f (not_f h3) rfl (am_ (J1 _ _ (ds (sd (sk (s0))) [0,4,8,12,16,20,25] [6] mix (by kernel_rfl) (fun K J => pQ rfl (qF cH_ rfl rfl) (pQ rfl (qL ty_37 rfl m1 rfl) (pC (AV [pI (E (Z.neg a.n.dec))]) en_84 (ez_ a.n.1 a.n.2) rfl rfl rfl (pQ rfl (qF bP_ rfl rfl) (pQ rfl (qL ty_37 rfl m1 rfl) (pQ rfl (cZ_ zp_39 pl_39 rfl (.cons [pI (E (Z.neg a.n.dec))] [pI (E (Z.neg a.n.dec)), pI I0] rfl rfl rfl rfl (.cons [pI a.d] [pI (E (Z.neg a.n.dec)), pI a.d] rfl rfl rfl rfl (.nil _)))) (oS [pI (E (Z.neg a.n.dec)), pI a.d] ty_39 rfl rfl rfl rfl rfl rfl (.head _) rfl hb2 rfl (sd s0) (fl J (W_ret (ret1 rfl (.inr rfl) (resP rfl m0 ty_39 rfl) ?_)))))))))))))
  exact (by exact congrArg (fun r : Rt => (AV [pI r.n, pI r.d] : Value)) (show _ = (a6_ a) from bif_t h3 rfl))
 ·skip
  refine W_t (not_t h3) rfl (Rs fun K J => sQ (q_ret en_76 df_  rfl) rfl (sS [pI bh_.n, pI bh_.d] ty_39 rfl rfl rfl rfl rfl (.head _) rfl hb2 (nl J (W_ret (ah_ (ret1 rfl (.inr rfl) (resP rfl m0 ty_39 rfl) ?_))))))
  exact (by exact congrArg (fun r : Rt => (AV [pI r.n, pI r.d] : Value)) (show _ = (a6_ a) from bif_f h3 rfl))

theorem dg_ (a : Rt) (b : Rt) :
    Ret Tryz.prog 27 [AV [pI a.n, pI a.d], AV [pI b.n, pI b.d]] (AV [pI ((ak_ a b).n), pI ((ak_ a b).d)]) := by
 refine aB_ (N := 44) Tryz.func27 rfl rfl (by simp) (fun w0 => ?_)
 simp only [initF, Nat.reduceAdd]
 refine Rs fun K J => WL_r rfl (bd_ rfl rfl (fun b1 hb1 => WL_r rfl (bd_ rfl rfl (fun b2 hb2 => sN zp_39 rfl fun b3 hb3 => nl J (Sq fun K1 J1 => ?_)))))
 refine bM_ [8, 9, 10, 11, 12, 13, 14, 15] (fun g M => (g 15 = .bool (!(ai_ a) || (!(ai_ b)))) ∧ M = [⟨b3, 39, flat [pI I0, pI I0]⟩, ⟨b2, 39, flat [pI b.n, pI b.d]⟩, ⟨b1, 39, flat [pI a.n, pI a.d]⟩]) (fun K2 J2 => ?_) ?_
 ·skip
  refine Rk fun K J => sQ (qL ty_39 rfl m2 rfl) rfl (sQ (q_ret en_51 (cJ_ a) rfl) rfl (sE rfl ?_))
  rcases bt (ai_ a) with h5 | h5
  ·skip
   refine sB (not_f h5) rfl (sQ (qL ty_39 rfl m1 rfl) rfl (sQ (q_ret en_51 (cJ_ b) rfl) rfl (sE rfl (sE rfl (nl J ?_)))))
   refine J2 _ _ (by repeat first | exact .refl | refine .cons rfl ?_) ⟨_, s0, ?s15, rfl⟩
   case s15 => exact congrArg Value.bool (nor_t h5 rfl)
  ·skip
   refine sB (not_t h5) rfl (WL_n rfl (WL_n rfl (WL_n rfl (sE rfl (nl J ?_)))))
   refine J2 _ _ (by repeat first | exact .refl | refine .cons rfl ?_) ⟨_, s0, ?s15, rfl⟩
   case s15 => exact congrArg Value.bool (nor_f h5)
 ·skip
  rintro g6 M ⟨hg15, rfl⟩
  simp only [setG, hg15]
  clear hg15
  rcases bt (!(ai_ a) || (!(ai_ b))) with h7 | h7
  ·skip
   refine W_t h7 rfl (Rs fun K J => sQ (q_ret en_76 df_  rfl) rfl (sS [pI bh_.n, pI bh_.d] ty_39 rfl rfl rfl rfl rfl (.head _) rfl hb3 (nl J (W_ret (ah_ (ret1 rfl (.inr rfl) (resP rfl m0 ty_39 rfl) ?_))))))
   exact (by exact congrArg (fun r : Rt => (AV [pI r.n, pI r.d] : Value)) (show _ = (ak_ a b) from bif_t h7 rfl))
  ·skip
   refine W_f h7 rfl (am_ (J1 _ _ (Rs fun K J => sQ (qF bP_ rfl rfl) rfl (sQ (qL ty_37 rfl m2 rfl) rfl (sQ (qF bP_ rfl rfl) rfl (sQ (qL ty_37 rfl m1 rfl) rfl (sC (AV [pI (E (Z.gcd a.d.dec b.d.dec))]) en_77 (dI_ a.d.1 b.d.1 a.d.2 b.d.2) rfl rfl rfl (sN zp_37 rfl fun b8 hb8 => sS [pI (E (Z.gcd a.d.dec b.d.dec))] ty_37 rfl rfl rfl rfl rfl (.head _) rfl hb8 (nl J (Rs fun K J => sQ (qF bP_ rfl rfl) rfl (sQ (qL ty_37 rfl m3 rfl) rfl (sQ (qL ty_37 rfl m0 rfl) rfl (sC (AV [pI (E (Z.quo a.d.dec (Z.gcd a.d.dec b.d.dec)))]) en_78 (cx_ a.d.1 (E (Z.gcd a.d.dec b.d.dec)).1 a.d.2 (E (Z.gcd a.d.dec b.d.dec)).2) rfl rfl (cg2 (fun p q => AV [pI (E (Z.quo p q))]) rfl (E_dec _)) (sN zp_37 rfl fun b9 hb9 => sS [pI (E (Z.quo a.d.dec (Z.gcd a.d.dec b.d.dec)))] ty_37 rfl rfl rfl rfl rfl (.head _) rfl hb9 (nl J ?_)))))))))))))))
   refine Rs fun K J => sQ (qF bP_ rfl rfl) rfl (sQ (qL ty_37 rfl m3 rfl) rfl (sQ (qL ty_37 rfl m1 rfl) rfl (sC (AV [pI (E (Z.quo b.d.dec (Z.gcd a.d.dec b.d.dec)))]) en_78 (cx_ b.d.1 (E (Z.gcd a.d.dec b.d.dec)).1 b.d.2 (E (Z.gcd a.d.dec b.d.dec)).2) rfl rfl (cg2 (fun p q => AV [pI (E (Z.quo p q))]) rfl (E_dec _)) (sN zp_37 rfl fun b10 hb10 => sS [pI (E (Z.quo b.d.dec (Z.gcd a.d.dec b.d.dec)))] ty_37 rfl rfl rfl rfl rfl (.head _) rfl hb10 (nl J (ds (sk (sk (sk (sd (sk (sk (s0))))))) [0,4,8,12,16,20,24,28,32,36,40,44,48,52,57] [14] mix (by kernel_rfl) (fun K J => pQ rfl (qF cH_ rfl rfl) (pQ rfl (qL ty_37 rfl m5 rfl) (pQ rfl (qL ty_37 rfl m0 rfl) (pC (AV [pI (E (Z.mul a.n.dec (Z.quo b.d.dec (Z.gcd a.d.dec b.d.dec))))]) en_80 (cP_ a.n.1 (E (Z.quo b.d.dec (Z.gcd a.d.dec b.d.dec))).1 a.n.2 (E (Z.quo b.d.dec (Z.gcd a.d.dec b.d.dec))).2) rfl rfl (cg2 (fun p q => AV [pI (E (Z.mul p q))]) rfl (E_dec _)) (pQ rfl (qF cH_ rfl rfl) (pQ rfl (qL ty_37 rfl m4 rfl) (pQ rfl (qL ty_37 rfl m1 rfl) (pC (AV [pI (E (Z.mul b.n.dec (Z.quo a.d.dec (Z.gcd a.d.dec b.d.dec))))]) en_80 (cP_ b.n.1 (E (Z.quo a.d.dec (Z.gcd a.d.dec b.d.dec))).1 b.n.2 (E (Z.quo a.d.dec (Z.gcd a.d.dec b.d.dec))).2) rfl rfl (cg2 (fun p q => AV [pI (E (Z.mul p q))]) rfl (E_dec _)) ?_))))))))))))))
   obtain ⟨r11, hr11⟩ := nm ((E (Z.add (Z.mul a.n.dec (Z.quo b.d.dec (Z.gcd a.d.dec b.d.dec))) (Z.mul b.n.dec (Z.quo a.d.dec (Z.gcd a.d.dec b.d.dec))))) : I)
   refine pC (AV [pI r11]) en_79 (fU_ (E (Z.mul a.n.dec (Z.quo b.d.dec (Z.gcd a.d.dec b.d.dec)))).1 (E (Z.mul b.n.dec (Z.quo a.d.dec (Z.gcd a.d.dec b.d.dec)))).1 (E (Z.mul a.n.dec (Z.quo b.d.dec (Z.gcd a.d.dec b.d.dec)))).2 (E (Z.mul b.n.dec (Z.quo a.d.dec (Z.gcd a.d.dec b.d.dec)))).2) rfl rfl ((cg2 (fun p q => AV [pI (E (Z.add p q))]) (E_dec _) (E_dec _)).trans (by rw [hr11])) (pQ rfl (qL ty_37 rfl m1 rfl) (pQ rfl (qF bP_ rfl rfl) (pQ rfl (qL ty_37 rfl m4 rfl) (pC (AV [pI (E (Z.mul (Z.quo a.d.dec (Z.gcd a.d.dec b.d.dec)) b.d.dec))]) en_80 (cP_ (E (Z.quo a.d.dec (Z.gcd a.d.dec b.d.dec))).1 b.d.1 (E (Z.quo a.d.dec (Z.gcd a.d.dec b.d.dec))).2 b.d.2) rfl rfl (cg2 (fun p q => AV [pI (E (Z.mul p q))]) (E_dec _) rfl) ?_))))
   obtain ⟨r12, hr12⟩ := nm ((ae_ r11 (E (Z.mul (Z.quo a.d.dec (Z.gcd a.d.dec b.d.dec)) b.d.dec))) : Rt)
   refine pC (AV [pI r12.n, pI r12.d]) en_73 (co_ r11 (E (Z.mul (Z.quo a.d.dec (Z.gcd a.d.dec b.d.dec)) b.d.dec))) rfl rfl (by rw [hr12]; first | done | rfl) (oS [pI r12.n, pI r12.d] ty_39 rfl rfl rfl rfl rfl rfl (.tail _ (.tail _ (.tail _ (.head _)))) rfl hb3 rfl (sk (sk (sk (sd s0)))) (fl J (W_ret (ret1 rfl (.inr rfl) (resP rfl m3 ty_39 rfl) ?_))))
   exact (by subst hr12; subst hr11; exact congrArg (fun r : Rt => (AV [pI r.n, pI r.d] : Value)) (show _ = (ak_ a b) from bif_f h7 rfl))

theorem dS_ (a : Rt) (b : Rt) :
    Ret Tryz.prog 55 [AV [pI a.n, pI a.d], AV [pI b.n, pI b.d]] (AV [pI ((aq_ a b).n), pI ((aq_ a b).d)]) := by
 refine aB_ (N := 9) Tryz.func55 rfl rfl (by simp) (fun w0 => ?_)
 simp only [initF, Nat.reduceAdd]
 refine Rs fun K J => WL_r rfl (bd_ rfl rfl (fun b1 hb1 => WL_r rfl (bd_ rfl rfl (fun b2 hb2 => sN zp_39 rfl fun b3 hb3 => nl J (ds (sd (sk (sk (s0)))) [0,4,8,12,17] [4] mix (by kernel_rfl) (fun K J => pQ rfl (qL ty_39 rfl m2 rfl) (pQ rfl (qL ty_39 rfl m1 rfl) (pQ rfl (q_ret q9_ (fM_ b) rfl) ?_))))))))
 obtain ⟨r4, hr4⟩ := nm ((ak_ a (a6_ b)) : Rt)
 refine pC (AV [pI r4.n, pI r4.d]) en_27 (dg_ a (a6_ b)) rfl rfl (by rw [hr4]; first | done | rfl) (oS [pI r4.n, pI r4.d] ty_39 rfl rfl rfl rfl rfl rfl (.head _) rfl hb3 rfl (sd s0) (fl J (W_ret (ret1 rfl (.inr rfl) (resP rfl m0 ty_39 rfl) ?_))))
 exact (by subst hr4; rfl)

theorem dL_ (a : Rt) (b : Rt) :
    Ret Tryz.prog 38 [AV [pI a.n, pI a.d], AV [pI b.n, pI b.d]] (AV [pI ((ag_ a b).n), pI ((ag_ a b).d)]) := by
 refine aB_ (N := 41) Tryz.func38 rfl rfl (by simp) (fun w0 => ?_)
 simp only [initF, Nat.reduceAdd]
 refine Rs fun K J => WL_r rfl (bd_ rfl rfl (fun b1 hb1 => WL_r rfl (bd_ rfl rfl (fun b2 hb2 => sN zp_39 rfl fun b3 hb3 => nl J (Sq fun K1 J1 => ?_)))))
 refine bM_ [9, 10, 11, 12, 13, 14, 15, 16] (fun g M => (g 16 = .bool (!(ai_ a) || (!(ai_ b)))) ∧ M = [⟨b3, 39, flat [pI I0, pI I0]⟩, ⟨b2, 39, flat [pI b.n, pI b.d]⟩, ⟨b1, 39, flat [pI a.n, pI a.d]⟩]) (fun K2 J2 => ?_) ?_
 ·skip
  refine Rk fun K J => sQ (qL ty_39 rfl m2 rfl) rfl (sQ (q_ret en_51 (cJ_ a) rfl) rfl (sE rfl ?_))
  rcases bt (ai_ a) with h5 | h5
  ·skip
   refine sB (not_f h5) rfl (sQ (qL ty_39 rfl m1 rfl) rfl (sQ (q_ret en_51 (cJ_ b) rfl) rfl (sE rfl (sE rfl (nl J ?_)))))
   refine J2 _ _ (by repeat first | exact .refl | refine .cons rfl ?_) ⟨_, s0, ?s16, rfl⟩
   case s16 => exact congrArg Value.bool (nor_t h5 rfl)
  ·skip
   refine sB (not_t h5) rfl (WL_n rfl (WL_n rfl (WL_n rfl (sE rfl (nl J ?_)))))
   refine J2 _ _ (by repeat first | exact .refl | refine .cons rfl ?_) ⟨_, s0, ?s16, rfl⟩
   case s16 => exact congrArg Value.bool (nor_f h5)
 ·skip
  rintro g6 M ⟨hg16, rfl⟩
  simp only [setG, hg16]
  clear hg16
  rcases bt (!(ai_ a) || (!(ai_ b))) with h7 | h7
  ·skip
   refine W_t h7 rfl (Rs fun K J => sQ (q_ret en_76 df_  rfl) rfl (sS [pI bh_.n, pI bh_.d] ty_39 rfl rfl rfl rfl rfl (.head _) rfl hb3 (nl J (W_ret (ah_ (ret1 rfl (.inr rfl) (resP rfl m0 ty_39 rfl) ?_))))))
   exact (by exact congrArg (fun r : Rt => (AV [pI r.n, pI r.d] : Value)) (show _ = (ag_ a b) from bif_t h7 rfl))
  ·skip
   refine W_f h7 rfl (am_ (J1 _ _ (Rs fun K J => sQ (qF cH_ rfl rfl) rfl (sQ (qL ty_37 rfl m2 rfl) rfl (sQ (qF bP_ rfl rfl) rfl (sQ (qL ty_37 rfl m1 rfl) rfl (sQ (q_ret en_73 (co_ a.n b.d) rfl) rfl (sN zp_39 rfl fun b8 hb8 => sS [pI ((ae_ a.n b.d).n), pI ((ae_ a.n b.d).d)] ty_39 rfl rfl rfl rfl rfl (.head _) rfl hb8 (nl J (Rs fun K J => sQ (qF cH_ rfl rfl) rfl (sQ (qL ty_37 rfl m2 rfl) rfl (sQ (qF bP_ rfl rfl) rfl (sQ (qL ty_37 rfl m3 rfl) rfl (sQ (q_ret en_73 (co_ b.n a.d) rfl) rfl (sN zp_39 rfl fun b9 hb9 => sS [pI ((ae_ b.n a.d).n), pI ((ae_ b.n a.d).d)] ty_39 rfl rfl rfl rfl rfl (.head _) rfl hb9 ?_)))))))))))))))
   refine nl J (Rs fun K J => sQ (qF cH_ rfl rfl) rfl (sQ (qL ty_37 rfl m1 rfl) rfl (sQ (qF cH_ rfl rfl) rfl (sQ (qL ty_37 rfl m0 rfl) rfl ?_))))
   obtain ⟨r10, hr10⟩ := nm ((E (Z.mul ((ae_ a.n b.d).n).dec ((ae_ b.n a.d).n).dec)) : I)
   refine sC (AV [pI r10]) en_80 (cP_ ((ae_ a.n b.d).n).1 ((ae_ b.n a.d).n).1 ((ae_ a.n b.d).n).2 ((ae_ b.n a.d).n).2) rfl rfl (by rw [hr10]; first | done | rfl) (sN zp_37 rfl fun b11 hb11 => sS [pI r10] ty_37 rfl rfl rfl rfl rfl (.head _) rfl hb11 (nl J (Rs fun K J => sQ (qF bP_ rfl rfl) rfl (sQ (qL ty_37 rfl m2 rfl) rfl (sQ (qF bP_ rfl rfl) rfl (sQ (qL ty_37 rfl m1 rfl) rfl ?_))))))
   obtain ⟨r12, hr12⟩ := nm ((E (Z.mul ((ae_ a.n b.d).d).dec ((ae_ b.n a.d).d).dec)) : I)
   refine sC (AV [pI r12]) en_80 (cP_ ((ae_ a.n b.d).d).1 ((ae_ b.n a.d).d).1 ((ae_ a.n b.d).d).2 ((ae_ b.n a.d).d).2) rfl rfl (by rw [hr12]; first | done | rfl) (sN zp_37 rfl fun b13 hb13 => sS [pI r12] ty_37 rfl rfl rfl rfl rfl (.head _) rfl hb13 (nl J (Rs fun K J => sQ (qL ty_37 rfl m1 rfl) rfl (sQ (qL ty_37 rfl m0 rfl) rfl (sQ (q_ret en_73 (co_ r10 r12) rfl) rfl (sS [pI ((ae_ r10 r12).n), pI ((ae_ r10 r12).d)] ty_39 rfl rfl rfl rfl rfl (.tail _ (.tail _ (.tail _ (.tail _ (.head _))))) rfl hb3 (nl J (W_ret (ret1 rfl (.inr rfl) (resP rfl m4 ty_39 rfl) ?_)))))))))
   exact (by subst hr12; subst hr10; exact congrArg (fun r : Rt => (AV [pI r.n, pI r.d] : Value)) (show _ = (ag_ a b) from bif_f h7 rfl))

end Go.Proofs.YtapbefpeopaecaaGreatDoor


set_option linter.unusedVariables false
set_option linter.unusedSimpArgs false
namespace Go.Num
open Go Go.Kn
theorem me_ {a : Rt} (h : aV_ a = true) : cfP (cfN a.d) a.d := by
  unfold aV_ at h
  simp only [Bool.and_eq_true, decide_eq_true_eq] at h
  exact mx_ h.2.2.1
end Go.Num


set_option linter.unusedVariables false
set_option linter.unusedSimpArgs false
namespace Go.Num
open Go Go.Kn
end Go.Num

namespace Go.Proofs.YtapbefpeopaecaaGreatDoor
open Go.Kn Go.Num
set_option linter.unusedVariables false
set_option linter.unusedSimpArgs false
set_option maxRecDepth 20000
set_option maxHeartbeats 8000000
end Go.Proofs.YtapbefpeopaecaaGreatDoor

namespace Go.Proofs.YtapbefpeopaecaaGreatDoor
open Go.Kn Go.Num
set_option linter.unusedVariables false
set_option linter.unusedSimpArgs false
set_option maxRecDepth 20000
set_option maxHeartbeats 8000000
theorem ja_ (a : Rt) (b : Rt) :
    Ret Tryz.prog 70 [AV [pI a.n, pI a.d], AV [pI b.n, pI b.d]] (.int .i64 ((cc_ a b).1)) := by
 refine aB_ (N := 80) Tryz.func70 rfl rfl (by simp) (fun w0 => ?_)
 simp only [initF, Nat.reduceAdd]
 refine Rs fun K J => WL_r rfl (bd_ rfl rfl (fun b1 hb1 => WL_r rfl (bd_ rfl rfl (fun b2 hb2 => sE rfl (nl J (pP_ (ds (sk (sk (s0))) [0,4,8,12,16,20] [] mix (by kernel_rfl) (fun K J => pQ rfl (qL ty_39 rfl m1 rfl) (pQ rfl (q_ret gF_ (cN_ a) rfl) (pQ rfl (qL ty_39 rfl m0 rfl) (pQ rfl (q_ret gF_ (cN_ b) rfl) (pE rfl (pE rfl (fl J (Sq fun K1 J1 => as_ ?_)))))))))))))))
 refine bM_ [15, 16, 17, 18, 19, 20, 21] (fun g M => (g 15 = .bool (!(aV_ a) && (!(aV_ b)))) ∧ M = [⟨b2, 39, flat [pI b.n, pI b.d]⟩, ⟨b1, 39, flat [pI a.n, pI a.d]⟩]) (fun K2 J2 => ?_) ?_
 ·skip
  refine Rk fun K J => sE rfl (sE rfl ?_)
  rcases bt (aV_ a) with h4 | h4
  ·skip
   refine sB (not_f h4) rfl (WL_n rfl (WL_n rfl (sE rfl (sE rfl (nl J ?_)))))
   refine J2 _ _ (by repeat first | exact .refl | refine .cons rfl ?_) ⟨_, s0, ?s15, rfl⟩
   case s15 => exact congrArg Value.bool (hi_ h4)
  ·skip
   refine sB (not_t h4) rfl (sE rfl (sE rfl (sE rfl (sE rfl (nl J ?_)))))
   refine J2 _ _ (by repeat first | exact .refl | refine .cons rfl ?_) ⟨_, s0, ?s15, rfl⟩
   case s15 => exact congrArg Value.bool (fm_ h4 rfl)
 ·skip
  rintro g5 M ⟨hg15, rfl⟩
  simp only [setG, hg15]
  clear hg15
  rcases bt (!(aV_ a) && (!(aV_ b))) with h6 | h6
  ·skip
   refine W_t h6 rfl (Rs fun K J => sE rfl (nl J (W_ret (aM_ (ah_ (gb_ (ret1 rfl (.inr rfl) rfl ?_)))))))
   exact (by exact congrArg (fun r : W => (.int .i64 r.1 : Value)) (show _ = (cc_ a b) from bif_t h6 rfl))
  ·skip
   refine W_f h6 rfl (Rs fun K J => sE rfl (sE rfl (sE rfl (nl J ?_))))
   rcases bt (aV_ a) with h7 | h7
   ·skip
    refine W_f (not_f h7) rfl (Rs fun K J => sE rfl (sE rfl (sE rfl (nl J ?_))))
    rcases bt (aV_ b) with h8 | h8
    ·skip
     refine W_f (not_f h8) rfl (am_ (J1 _ _ (Rs fun K J => sE rfl (nl J (Sq fun K3 J3 => qJ_ (J3 _ _ (Sq fun K4 J4 => as_ ?_)))))))
     refine bs_ [7, 8, 9, 10, 28, 29, 30, 31, 32, 33, 34, 35, 36, 37, 38, 39, 40, 41, 42, 43, 44, 45, 46, 47, 48, 49, 50, 51, 52, 53, 54, 55, 56, 57, 58, 59, 60, 61, 62, 63, 64, 65, 66, 67, 68, 69, 70, 71, 72, 73, 74, 75, 76, 77, 78] (fun g nn M => ∃ (o : W) (x : Rt) (y : Rt) (k : Nat), (g 7 = .int .i64 o.1) ∧ M = [⟨b2, 39, flat [pI y.n, pI y.d]⟩, ⟨b1, 39, flat [pI x.n, pI x.d]⟩] ∧ nn = k ∧ (cf k o x.n x.d y.n y.d = cf (cfN a.d) (wl 1) a.n a.d b.n b.d ∧ cfP k x.d)) ((cfN a.d)) ?start ?round
     case start =>
      refine ⟨_, s0, (wl 1), a, b, (cfN a.d), ?a7, rfl, rfl, ⟨rfl, me_ h7⟩⟩
      case a7 => rfl
     case round =>
      rintro nn g M ⟨o, x, y, k, hg7, rfl, hmeas, hinv⟩
      subst nn
      simp only [setG, hg7]
      clear hg7
      obtain ⟨m, rfl⟩ := nI_ hinv.2
      refine as_ (Sq fun K5 J5 => ds (sk (sk (s0))) [0,4,8,12,16,20,24,28,32,36,40,44] [] mix (by kernel_rfl) (fun K J => pQ rfl (qF cH_ rfl rfl) (pQ rfl (qL ty_37 rfl m1 rfl) (pQ rfl (qF bP_ rfl rfl) (pQ rfl (qL ty_37 rfl m1 rfl) (pC (AV [pI (E (Z.quo x.n.dec x.d.dec))]) en_97 (b3_ x.n.1 x.d.1 x.n.2 x.d.2) rfl rfl rfl (pQ rfl (qF cH_ rfl rfl) (pQ rfl (qL ty_37 rfl m0 rfl) (pQ rfl (qF bP_ rfl rfl) (pQ rfl (qL ty_37 rfl m0 rfl) (pC (AV [pI (E (Z.quo y.n.dec y.d.dec))]) en_97 (b3_ y.n.1 y.d.1 y.n.2 y.d.2) rfl rfl rfl (pC (.int .i64 ((Z.cmpW (Z.quo x.n.dec x.d.dec) (Z.quo y.n.dec y.d.dec)).1)) pj_ (gE_ (E (Z.quo x.n.dec x.d.dec)).1 (E (Z.quo y.n.dec y.d.dec)).1 (E (Z.quo x.n.dec x.d.dec)).2 (E (Z.quo y.n.dec y.d.dec)).2) rfl rfl (cg2 (fun p q => Value.int .i64 (Z.cmpW p q).1) (E_dec _) (E_dec _)) (pE rfl (fl J (Rs fun K J => sE rfl (sE rfl (nl J ?_)))))))))))))))))
      rcases bt ((Z.cmpW (Z.quo x.n.dec x.d.dec) (Z.quo y.n.dec y.d.dec)).1 != 0) with h9 | h9
      ·skip
       refine W_t h9 rfl (Rs fun K J => sE rfl (sE rfl (sV (.int .i64 ((W.mul o (Z.cmpW (Z.quo x.n.dec x.d.dec) (Z.quo y.n.dec y.d.dec))).1)) rfl rfl (sE rfl (nl J (bq_ (ax_ (gm_ (by decide) (ax_ (aE_ (J4 _ _ (Rs fun K J => sE rfl (sE rfl (nl J (W_ret (gb_ (ret1 rfl (.inr rfl) rfl ?_)))))))))))))))))
       exact (by exact congrArg (fun r : W => (.int .i64 r.1 : Value)) (show _ = (cc_ a b) from bif_f h6 (bif_t h7 (bif_t h8 ((cf_c hinv.1 h9))))))
      ·skip
       refine W_f h9 rfl (am_ (J5 _ _ (W_sdr sn (.quiet 0 [1,7,16,17] (.quiet 1 [7,16,17] (.quiet 2 [3,6,7,14,15,16,17] (.quiet 3 [6,7,14,15,16,17] (.quiet 4 [5,6,7,14,15,16,17] (.quiet 5 [6,7,14,15,16,17] (.quiet 6 [7,14,15,16,17] (.quiet 7 [16,17] (.quiet 10 [11,14,15,16,17] (.quiet 11 [14,15,16,17] (.quiet 12 [13,14,15,16,17] (.quiet 13 [14,15,16,17] (.quiet 14 [15,16,17] (.still 8 [9,15,17] (.both 9 (.still 15 [17] (.only 16 (.only 17 (.fin)))) 16 (.quiet 9 [15,17] (.quiet 15 [17] (.only 17 (.fin))))))))))))))))))) [0,1,2,3,4,5,6,7,8,9,10,11,12,13,14,15] mix (by kernel_rfl) (by kernel_rfl) (fun K J => pQ rfl (qF bP_ rfl rfl) (pQ rfl (qL ty_37 rfl m1 rfl) (pQ rfl (qF cH_ rfl rfl) (pQ rfl (qL ty_37 rfl m1 rfl) (pQ rfl (qF bP_ rfl rfl) (pQ rfl (qL ty_37 rfl m1 rfl) (pC (AV [pI (E (Z.rem x.n.dec x.d.dec))]) o4_ (gB_ x.n.1 x.d.1 x.n.2 x.d.2) rfl rfl rfl (pQ rfl (cZ_ zp_39 pl_39 rfl (.cons [pI x.d] [pI x.d, pI I0] rfl rfl rfl rfl (.cons [pI (E (Z.rem x.n.dec x.d.dec))] [pI x.d, pI (E (Z.rem x.n.dec x.d.dec))] rfl rfl rfl rfl (.nil _)))) (pQ rfl (qF cH_ rfl rfl) (pQ rfl (qL ty_37 rfl m0 rfl) (pQ rfl (qF bP_ rfl rfl) (pQ rfl (qL ty_37 rfl m0 rfl) (pC (AV [pI (E (Z.rem y.n.dec y.d.dec))]) o4_ (gB_ y.n.1 y.d.1 y.n.2 y.d.2) rfl rfl rfl (PL_s rfl rfl (q_ptr (off' := 18) (aL_ bP_ (by decide) rfl) rfl) ?_)))))))))))))))))
       refine PL_b ?_ ?_
       ·skip
        refine PL_o rfl rfl (iX_ (iR_ ty_37 rfl m0 rfl) ⟨fun _ => s0, sn, PL_s rfl rfl (cZ_ zp_39 pl_39 rfl (.cons [pI y.d] [pI y.d, pI I0] rfl rfl rfl rfl (.cons [pI (E (Z.rem y.n.dec y.d.dec))] [pI y.d, pI (E (Z.rem y.n.dec y.d.dec))] rfl rfl rfl rfl (.nil _)))) (oS [pI x.d, pI (E (Z.rem x.n.dec x.d.dec))] ty_39 rfl rfl rfl rfl rfl rfl (.tail _ (.head _)) rfl hb1 rfl sn (oS [pI y.d, pI (E (Z.rem y.n.dec y.d.dec))] ty_39 rfl rfl rfl rfl rfl rfl (.head _) rfl hb2 rfl sn (fl J (ds (sk (sk (s0))) [0,4,8,12,16,20,24,28] [] mix (by kernel_rfl) (fun K J => pQ rfl (qF bP_ rfl rfl) (pQ rfl (qL ty_37 rfl m1 rfl) (pC (.int .i64 ((Z.signW (Z.rem x.n.dec x.d.dec)).1)) fk_ (bY_ (E (Z.rem x.n.dec x.d.dec)).1 (E (Z.rem x.n.dec x.d.dec)).2) rfl rfl (cg1 (fun p => Value.int .i64 (Z.signW p).1) (E_dec _)) (pQ rfl (qF bP_ rfl rfl) (pQ rfl (qL ty_37 rfl m0 rfl) (pC (.int .i64 ((Z.signW (Z.rem y.n.dec y.d.dec)).1)) fk_ (bY_ (E (Z.rem y.n.dec y.d.dec)).1 (E (Z.rem y.n.dec y.d.dec)).2) rfl rfl (cg1 (fun p => Value.int .i64 (Z.signW p).1) (E_dec _)) (pE rfl (pE rfl (fl J (Sq fun K6 J6 => ?_))))))))))))))⟩)
        refine bM_ [66, 67, 68, 69, 70, 71] (fun g M => (g 71 = .bool (((Z.signW (Z.rem x.n.dec x.d.dec)).1 == 0) || ((Z.signW (Z.rem y.n.dec y.d.dec)).1 == 0))) ∧ M = [⟨b2, 39, flat [pI y.d, pI (E (Z.rem y.n.dec y.d.dec))]⟩, ⟨b1, 39, flat [pI x.d, pI (E (Z.rem x.n.dec x.d.dec))]⟩]) (fun K7 J7 => ?_) ?_
        ·skip
         refine Rk fun K J => sE rfl (sE rfl ?_)
         rcases bt ((Z.signW (Z.rem x.n.dec x.d.dec)).1 == 0) with h11 | h11
         ·skip
          refine sB h11 rfl (WL_n rfl (WL_n rfl (sE rfl (nl J ?_))))
          refine J7 _ _ (by repeat first | exact .refl | refine .cons rfl ?_) ⟨_, s0, ?s71, rfl⟩
          case s71 => exact congrArg Value.bool (or_t h11)
         ·skip
          refine sB h11 rfl (sE rfl (sE rfl (sE rfl (nl J ?_))))
          refine J7 _ _ (by repeat first | exact .refl | refine .cons rfl ?_) ⟨_, s0, ?s71, rfl⟩
          case s71 => exact congrArg Value.bool (or_f h11 rfl)
        ·skip
         rintro g12 M ⟨hg71, rfl⟩
         simp only [setG, hg71]
         clear hg71
         rcases bt (((Z.signW (Z.rem x.n.dec x.d.dec)).1 == 0) || ((Z.signW (Z.rem y.n.dec y.d.dec)).1 == 0)) with h13 | h13
         ·skip
          refine W_t h13 rfl (Rs fun K J => sE rfl (sE rfl (sE rfl (sV (.int .i64 ((W.sub (Z.signW (Z.rem x.n.dec x.d.dec)) (Z.signW (Z.rem y.n.dec y.d.dec))).1)) rfl rfl (sV (.int .i64 ((W.mul o (W.sub (Z.signW (Z.rem x.n.dec x.d.dec)) (Z.signW (Z.rem y.n.dec y.d.dec)))).1)) rfl rfl (sE rfl (nl J (bq_ (ax_ (gm_ (by decide) (ax_ (aE_ (J4 _ _ (Rs fun K J => sE rfl (sE rfl (nl J (W_ret (gb_ (ret1 rfl (.inr rfl) rfl ?_)))))))))))))))))))
          exact (by exact congrArg (fun r : W => (.int .i64 r.1 : Value)) (show _ = (cc_ a b) from bif_f h6 (bif_t h7 (bif_t h8 ((cf_s hinv.1 h9 h13))))))
         ·skip
          refine W_f h13 rfl (am_ (J6 _ _ (Rk fun K J => sE rfl (sV (.int .i64 ((W.neg o).1)) rfl rfl (sE rfl (nl J ?_))))))
          refine ⟨(by repeat first | exact .refl | refine .cons rfl ?_), _, _, s0, (Nat.lt_succ_self m), (W.neg o), (⟨x.d, (E (Z.rem x.n.dec x.d.dec))⟩ : Rt), (⟨y.d, (E (Z.rem y.n.dec y.d.dec))⟩ : Rt), m, ?s7, rfl, rfl, cf_n hinv h9 h13⟩
          case s7 => rfl
       ·skip
        refine oS [pI x.d, pI (E (Z.rem x.n.dec x.d.dec))] ty_39 rfl rfl rfl rfl rfl rfl (.tail _ (.head _)) rfl hb1 rfl sn (pQ rfl (qL ty_37 rfl m0 rfl) (pQ rfl (cZ_ zp_39 pl_39 rfl (.cons [pI y.d] [pI y.d, pI I0] rfl rfl rfl rfl (.cons [pI (E (Z.rem y.n.dec y.d.dec))] [pI y.d, pI (E (Z.rem y.n.dec y.d.dec))] rfl rfl rfl rfl (.nil _)))) (oS [pI y.d, pI (E (Z.rem y.n.dec y.d.dec))] ty_39 rfl rfl rfl rfl rfl rfl (.head _) rfl hb2 rfl sn (fl J (ds (sk (sk (s0))) [0,4,8,12,16,20,24,28] [] mix (by kernel_rfl) (fun K J => pQ rfl (qF bP_ rfl rfl) (pQ rfl (qL ty_37 rfl m1 rfl) (pC (.int .i64 ((Z.signW (Z.rem x.n.dec x.d.dec)).1)) fk_ (bY_ (E (Z.rem x.n.dec x.d.dec)).1 (E (Z.rem x.n.dec x.d.dec)).2) rfl rfl (cg1 (fun p => Value.int .i64 (Z.signW p).1) (E_dec _)) (pQ rfl (qF bP_ rfl rfl) (pQ rfl (qL ty_37 rfl m0 rfl) (pC (.int .i64 ((Z.signW (Z.rem y.n.dec y.d.dec)).1)) fk_ (bY_ (E (Z.rem y.n.dec y.d.dec)).1 (E (Z.rem y.n.dec y.d.dec)).2) rfl rfl (cg1 (fun p => Value.int .i64 (Z.signW p).1) (E_dec _)) (pE rfl (pE rfl (fl J (Sq fun K8 J8 => ?_)))))))))))))))
        refine bM_ [66, 67, 68, 69, 70, 71] (fun g M => (g 71 = .bool (((Z.signW (Z.rem x.n.dec x.d.dec)).1 == 0) || ((Z.signW (Z.rem y.n.dec y.d.dec)).1 == 0))) ∧ M = [⟨b2, 39, flat [pI y.d, pI (E (Z.rem y.n.dec y.d.dec))]⟩, ⟨b1, 39, flat [pI x.d, pI (E (Z.rem x.n.dec x.d.dec))]⟩]) (fun K9 J9 => ?_) ?_
        ·skip
         refine Rk fun K J => sE rfl (sE rfl ?_)
         rcases bt ((Z.signW (Z.rem x.n.dec x.d.dec)).1 == 0) with h15 | h15
         ·skip
          refine sB h15 rfl (WL_n rfl (WL_n rfl (sE rfl (nl J ?_))))
          refine J9 _ _ (by repeat first | exact .refl | refine .cons rfl ?_) ⟨_, s0, ?s71, rfl⟩
          case s71 => exact congrArg Value.bool (or_t h15)
         ·skip
          refine sB h15 rfl (sE rfl (sE rfl (sE rfl (nl J ?_))))
          refine J9 _ _ (by repeat first | exact .refl | refine .cons rfl ?_) ⟨_, s0, ?s71, rfl⟩
          case s71 => exact congrArg Value.bool (or_f h15 rfl)
        ·skip
         rintro g16 M ⟨hg71, rfl⟩
         simp only [setG, hg71]
         clear hg71
         rcases bt (((Z.signW (Z.rem x.n.dec x.d.dec)).1 == 0) || ((Z.signW (Z.rem y.n.dec y.d.dec)).1 == 0)) with h17 | h17
         ·skip
          refine W_t h17 rfl (Rs fun K J => sE rfl (sE rfl (sE rfl (sV (.int .i64 ((W.sub (Z.signW (Z.rem x.n.dec x.d.dec)) (Z.signW (Z.rem y.n.dec y.d.dec))).1)) rfl rfl (sV (.int .i64 ((W.mul o (W.sub (Z.signW (Z.rem x.n.dec x.d.dec)) (Z.signW (Z.rem y.n.dec y.d.dec)))).1)) rfl rfl (sE rfl (nl J (bq_ (ax_ (gm_ (by decide) (ax_ (aE_ (J4 _ _ (Rs fun K J => sE rfl (sE rfl (nl J (W_ret (gb_ (ret1 rfl (.inr rfl) rfl ?_)))))))))))))))))))
          exact (by exact congrArg (fun r : W => (.int .i64 r.1 : Value)) (show _ = (cc_ a b) from bif_f h6 (bif_t h7 (bif_t h8 ((cf_s hinv.1 h9 h17))))))
         ·skip
          refine W_f h17 rfl (am_ (J8 _ _ (Rk fun K J => sE rfl (sV (.int .i64 ((W.neg o).1)) rfl rfl (sE rfl (nl J ?_))))))
          refine ⟨(by repeat first | exact .refl | refine .cons rfl ?_), _, _, s0, (Nat.lt_succ_self m), (W.neg o), (⟨x.d, (E (Z.rem x.n.dec x.d.dec))⟩ : Rt), (⟨y.d, (E (Z.rem y.n.dec y.d.dec))⟩ : Rt), m, ?s7, rfl, rfl, cf_n hinv h9 h17⟩
          case s7 => rfl
    ·skip
     refine W_t (not_t h8) rfl (Rs fun K J => sE rfl (nl J (W_ret (aM_ (ah_ (gb_ (ret1 rfl (.inr rfl) rfl ?_)))))))
     exact (by exact congrArg (fun r : W => (.int .i64 r.1 : Value)) (show _ = (cc_ a b) from bif_f h6 (bif_t h7 (bif_f h8 rfl))))
   ·skip
    refine W_t (not_t h7) rfl (Rs fun K J => sE rfl (nl J (W_ret (aM_ (ah_ (gb_ (ret1 rfl (.inr rfl) rfl ?_)))))))
    exact (by exact congrArg (fun r : W => (.int .i64 r.1 : Value)) (show _ = (cc_ a b) from bif_f h6 (bif_f h7 rfl)))

end Go.Proofs.YtapbefpeopaecaaGreatDoor

namespace Go.Proofs.YtapbefpeopaecaaGreatDoor
open Go.Kn Go.Num
set_option linter.unusedVariables false
set_option linter.unusedSimpArgs false
set_option maxRecDepth 20000
set_option maxHeartbeats 8000000
theorem a1_ (a : Rt) :
    Ret Tryz.prog 63 [AV [pI a.n, pI a.d]] (.int .i64 ((aC_ a).1)) := by
 refine aB_ (N := 9) Tryz.func63 rfl rfl (by simp) (fun w0 => ?_)
 simp only [initF, Nat.reduceAdd]
 refine Rs fun K J => WL_r rfl (bd_ rfl rfl (fun b1 hb1 => sE rfl (nl J (Sq fun K1 J1 => Rs fun K J => sQ (qL ty_39 rfl m0 rfl) rfl (sQ (q_ret gF_ (cN_ a) rfl) rfl (sE rfl (nl J ?_)))))))
 rcases bt (aV_ a) with h2 | h2
 ·skip
  refine W_f (not_f h2) rfl (am_ (J1 _ _ (Rs fun K J => sQ (qF cH_ rfl rfl) rfl (sQ (qL ty_37 rfl m0 rfl) rfl (sC (.int .i64 ((Z.signW a.n.dec).1)) fk_ (bY_ a.n.1 a.n.2) rfl rfl rfl (sE rfl (nl J (W_ret (ret1 rfl (.inr rfl) rfl ?_)))))))))
  exact (by exact congrArg (fun r : W => (.int .i64 r.1 : Value)) (show _ = (aC_ a) from bif_t h2 rfl))
 ·skip
  refine W_t (not_t h2) rfl (Rs fun K J => sE rfl (nl J (W_ret (ah_ (ret1 rfl (.inr rfl) rfl ?_)))))
  exact (by exact congrArg (fun r : W => (.int .i64 r.1 : Value)) (show _ = (aC_ a) from bif_f h2 rfl))

theorem eS_ (a : Rt) :
    Ret Tryz.prog 64 [AV [pI a.n, pI a.d]] (AV [pI ((cD_ a).n), pI ((cD_ a).d)]) := by
 refine aB_ (N := 11) Tryz.func64 rfl rfl (by simp) (fun w0 => ?_)
 simp only [initF, Nat.reduceAdd]
 refine Rs fun K J => WL_r rfl (bd_ rfl rfl (fun b1 hb1 => sN zp_39 rfl fun b2 hb2 => nl J (Sq fun K1 J1 => Rs fun K J => sQ (qL ty_39 rfl m1 rfl) rfl (sQ (q_ret en_63 (a1_ a) rfl) rfl (sE rfl (nl J ?_))))))
 rcases bt (decide ((aC_ a).1 < 0)) with h3 | h3
 ·skip
  refine W_t h3 rfl (Rs fun K J => sQ (qL ty_39 rfl m1 rfl) rfl (sQ (q_ret kN_ (eT_ a) rfl) rfl (sS [pI ((bK_ a).n), pI ((bK_ a).d)] ty_39 rfl rfl rfl rfl rfl (.head _) rfl hb2 (nl J (W_ret (ah_ (ret1 rfl (.inr rfl) (resP rfl m0 ty_39 rfl) ?_)))))))
  exact (by exact congrArg (fun r : Rt => (AV [pI r.n, pI r.d] : Value)) (show _ = (cD_ a) from bif_t h3 rfl))
 ·skip
  refine W_f h3 rfl (am_ (J1 _ _ (Rs fun K J => sQ (qL ty_39 rfl m1 rfl) rfl (sQ (q_ret kN_ (eT_ a) rfl) rfl (sQ (q_ret kN_ (eT_ (bK_ a)) rfl) rfl (sS [pI ((bK_ (bK_ a)).n), pI ((bK_ (bK_ a)).d)] ty_39 rfl rfl rfl rfl rfl (.head _) rfl hb2 (nl J (W_ret (ret1 rfl (.inr rfl) (resP rfl m0 ty_39 rfl) ?_)))))))))
  exact (by exact congrArg (fun r : Rt => (AV [pI r.n, pI r.d] : Value)) (show _ = (cD_ a) from bif_f h3 rfl))

theorem b6_ (a : Rt) (b : Rt) :
    Ret Tryz.prog 57 [AV [pI a.n, pI a.d], AV [pI b.n, pI b.d]] (AV [pI ((ab_ a b).n), pI ((ab_ a b).d)]) := by
 refine aB_ (N := 16) Tryz.func57 rfl rfl (by simp) (fun w0 => ?_)
 simp only [initF, Nat.reduceAdd]
 refine Rs fun K J => WL_r rfl (bd_ rfl rfl (fun b1 hb1 => WL_r rfl (bd_ rfl rfl (fun b2 hb2 => sN zp_39 rfl fun b3 hb3 => nl J (Sq fun K1 J1 => Rs fun K J => sQ (qL ty_39 rfl m1 rfl) rfl (sQ (q_ret gF_ (cN_ b) rfl) rfl (sE rfl (nl J ?_))))))))
 rcases bt (aV_ b) with h4 | h4
 ·skip
  refine W_f (not_f h4) rfl (am_ (J1 _ _ (ds (sd (sk (sk (s0)))) [0,4,8,12,16,20,24,29] [7] mix (by kernel_rfl) (fun K J => pQ rfl (qL ty_39 rfl m2 rfl) (pQ rfl (qF bP_ rfl rfl) (pQ rfl (qL ty_37 rfl m1 rfl) (pQ rfl (qF cH_ rfl rfl) (pQ rfl (qL ty_37 rfl m1 rfl) (pQ rfl (q_ret en_59 (cM_ b.d b.n) rfl) ?_)))))))))
  obtain ⟨r5, hr5⟩ := nm ((az_ a (ao_ b.d b.n)) : Rt)
  refine pC (AV [pI r5.n, pI r5.d]) en_67 (bI_ a (ao_ b.d b.n)) rfl rfl (by rw [hr5]; first | done | rfl) (oS [pI r5.n, pI r5.d] ty_39 rfl rfl rfl rfl rfl rfl (.head _) rfl hb3 rfl (sd s0) (fl J (W_ret (ret1 rfl (.inr rfl) (resP rfl m0 ty_39 rfl) ?_))))
  exact (by subst hr5; exact congrArg (fun r : Rt => (AV [pI r.n, pI r.d] : Value)) (show _ = (ab_ a b) from bif_t h4 rfl))
 ·skip
  refine W_t (not_t h4) rfl (Rs fun K J => sQ (q_ret gP_ cX_  rfl) rfl (sS [pI d7_.n, pI d7_.d] ty_39 rfl rfl rfl rfl rfl (.head _) rfl hb3 (nl J (W_ret (ah_ (ret1 rfl (.inr rfl) (resP rfl m0 ty_39 rfl) ?_))))))
  exact (by exact congrArg (fun r : Rt => (AV [pI r.n, pI r.d] : Value)) (show _ = (ab_ a b) from bif_f h4 rfl))

end Go.Proofs.YtapbefpeopaecaaGreatDoor

