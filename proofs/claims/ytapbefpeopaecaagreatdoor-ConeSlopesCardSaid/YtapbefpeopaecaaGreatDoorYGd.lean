/- Walks: what these functions return. A good fraction's denominator is greater than 0. No program stands in it. What the remainder of the reference computes. No program stands in it. -/
import Derived.Test.YtapbefpeopaecaaGreatDoorYGE
import Derived.Test.YtapbefpeopaecaaGreatDoorYFn
import Derived.Test.YtapbefpeopaecaaGreatDoorYGa
import Derived.Test.YtapbefpeopaecaaGreatDoorYSa
import Derived.Test.YtapbefpeopaecaaGreatDoorYSb
import Derived.Test.YtapbefpeopaecaaGreatDoorYSg
import Derived.Test.YtapbefpeopaecaaGreatDoorYSh
import Derived.Test.YtapbefpeopaecaaGreatDoorYPa
namespace Go.Proofs.YtapbefpeopaecaaGreatDoor
open Go.Kn Go.Num
set_option linter.unusedVariables false
set_option linter.unusedSimpArgs false
set_option maxRecDepth 20000
set_option maxHeartbeats 8000000
theorem b1_ (a : Rt) :
    Ret Tryz.prog 51 [AV [pI a.n, pI a.d]] (.bool (al_ a)) := by
 refine av_ (N := 26) Tryz.func51 rfl rfl (by simp) (fun w0 => ?_)
 simp only [initF, Nat.reduceAdd]
 refine Rs fun K J => WL_r rfl (a1_ rfl rfl (fun b1 hb1 => sE rfl (nl J (Sq fun K1 J1 => ?_))))
 refine bQ_ [3, 4, 5, 6, 7, 8, 9, 10, 11, 12] (fun g M => (g 12 = .bool (!a.n.1.good || (!a.d.1.good))) ∧ M = [⟨b1, 39, flat [pI a.n, pI a.d]⟩]) (fun K2 J2 => ?_) ?_
 ·skip
  refine Rk fun K J => sQ (qF cu_ rfl rfl) rfl (sQ (qL ty_37 rfl m0 rfl) rfl (sC (.bool a.n.1.good) en_86 (aH_ a.n.1 a.n.2) rfl rfl rfl (sE rfl ?_)))
  rcases bt a.n.1.good with h3 | h3
  ·skip
   refine sB (not_f h3) rfl (sQ (qF b0_ rfl rfl) rfl (sQ (qL ty_37 rfl m0 rfl) rfl (sC (.bool a.d.1.good) en_86 (aH_ a.d.1 a.d.2) rfl rfl rfl (sE rfl (sE rfl (nl J ?_))))))
   refine J2 _ _ (by repeat first | exact .refl | refine .cons rfl ?_) ⟨_, s0, ?s12, rfl⟩
   case s12 => exact congrArg Value.bool (nor_t h3 rfl)
  ·skip
   refine sB (not_t h3) rfl (WL_n rfl (WL_n rfl (WL_n rfl (WL_n rfl (sE rfl (nl J ?_))))))
   refine J2 _ _ (by repeat first | exact .refl | refine .cons rfl ?_) ⟨_, s0, ?s12, rfl⟩
   case s12 => exact congrArg Value.bool (nor_f h3)
 ·skip
  rintro g4 M ⟨hg12, rfl⟩
  simp only [setG, hg12]
  clear hg12
  rcases bt (!a.n.1.good || (!a.d.1.good)) with h5 | h5
  ·skip
   refine W_t h5 rfl (Rs fun K J => sE rfl (nl J (W_ret (ai_ (ret1 rfl (.inr rfl) rfl ?_)))))
   exact (by exact congrArg (fun r : Bool => (.bool r : Value)) (show _ = (al_ a) from bif_t h5 rfl))
  ·skip
   refine W_f h5 rfl (ak_ (J1 _ _ ?_))
   refine bQ_ [2, 13, 14, 15, 16, 17, 18, 19, 20, 21, 22, 23, 24, 25] (fun g M => (g 2 = .bool (decide (0 < (Z.signW a.d.dec).1) && decide ((E (Z.gcd a.n.dec a.d.dec)) = F_skewbackref04_one))) ∧ M = [⟨b1, 39, flat [pI a.n, pI a.d]⟩]) (fun K3 J3 => ?_) ?_
   ·skip
    refine Rk fun K J => sQ (qF b0_ rfl rfl) rfl (sQ (qL ty_37 rfl m0 rfl) rfl (sC (.int .i64 ((Z.signW a.d.dec).1)) en_40 (ba_ a.d.1 a.d.2) rfl rfl rfl (sE rfl ?_)))
    rcases bt (decide (0 < (Z.signW a.d.dec).1)) with h7 | h7
    ·skip
     refine sB h7 rfl (sQ (qF cu_ rfl rfl) rfl (sQ (qL ty_37 rfl m0 rfl) rfl (sQ (qF b0_ rfl rfl) rfl (sQ (qL ty_37 rfl m0 rfl) rfl (sC (AV [pI (E (Z.gcd a.n.dec a.d.dec))]) en_77 (cN_ a.n.1 a.d.1 a.n.2 a.d.2) rfl rfl rfl (sQ (q_ret en_75 d3_  rfl) rfl ?_))))))
     refine sQ (h0_ (r := decide ((E (Z.gcd a.n.dec a.d.dec)) = F_skewbackref04_one)) rfl rfl (dU_ 8 (by decide) eg_37 lw_37 (d9_ lv_pI) (d9_ lv_pI) (e4_ eq_pI))) rfl (sE rfl (sE rfl (nl J ?_)))
     refine J3 _ _ (by repeat first | exact .refl | refine .cons rfl ?_) ⟨_, s0, ?s2, rfl⟩
     case s2 => exact congrArg Value.bool (and_t h7 rfl)
    ·skip
     refine sB h7 rfl (WL_n rfl (WL_n rfl (WL_n rfl (WL_n rfl (WL_n rfl (WL_n rfl (WL_n rfl (sE rfl (sE rfl (nl J ?_))))))))))
     refine J3 _ _ (by repeat first | exact .refl | refine .cons rfl ?_) ⟨_, s0, ?s2, rfl⟩
     case s2 => exact congrArg Value.bool (and_f h7)
   ·skip
    rintro g8 M ⟨hg2, rfl⟩
    simp only [setG, hg2]
    clear hg2
    refine W_ret (ret1 rfl (.inr rfl) rfl ?_)
    exact (by exact congrArg (fun r : Bool => (.bool r : Value)) (show _ = (al_ a) from bif_f h5 rfl))

theorem ge_ (a : Rt) :
    Ret Tryz.prog 102 [AV [pI a.n, pI a.d]] (AV [pI ((bu_ a).n), pI ((bu_ a).d)]) := by
 refine av_ (N := 13) Tryz.func102 rfl rfl (by simp) (fun w0 => ?_)
 simp only [initF, Nat.reduceAdd]
 refine Rs fun K J => WL_r rfl (a1_ rfl rfl (fun b1 hb1 => sN zp_39 rfl fun b2 hb2 => nl J (Sq fun K1 J1 => Rs fun K J => sQ (qL ty_39 rfl m1 rfl) rfl (sQ (q_ret en_51 (b1_ a) rfl) rfl (sE rfl (nl J ?_))))))
 rcases bt (al_ a) with h3 | h3
 ·skip
  refine W_f (not_f h3) rfl (ak_ (J1 _ _ (ds (sd (sk (s0))) [0,4,8,12,16,20,25] [6] mix (by kernel_rfl) (fun K J => pQ rfl (qF cu_ rfl rfl) (pQ rfl (qL ty_37 rfl m1 rfl) (pC (AV [pI (E (Z.neg a.n.dec))]) en_84 (dw_ a.n.1 a.n.2) rfl rfl rfl (pQ rfl (qF b0_ rfl rfl) (pQ rfl (qL ty_37 rfl m1 rfl) (pQ rfl (cy_ zp_39 pl_39 rfl (.cons [pI (E (Z.neg a.n.dec))] [pI (E (Z.neg a.n.dec)), pI I0] rfl rfl rfl rfl (.cons [pI a.d] [pI (E (Z.neg a.n.dec)), pI a.d] rfl rfl rfl rfl (.nil _)))) (oS [pI (E (Z.neg a.n.dec)), pI a.d] ty_39 rfl rfl rfl rfl rfl rfl (.head _) rfl hb2 rfl (sd s0) (fl J (W_ret (ret1 rfl (.inr rfl) (resP rfl m0 ty_39 rfl) ?_)))))))))))))
  exact (by exact congrArg (fun r : Rt => (AV [pI r.n, pI r.d] : Value)) (show _ = (bu_ a) from bif_t h3 rfl))
 ·skip
  refine W_t (not_t h3) rfl (Rs fun K J => sQ (q_ret en_76 dt_  rfl) rfl (sS [pI cL_.n, pI cL_.d] ty_39 rfl rfl rfl rfl rfl (.head _) rfl hb2 (nl J (W_ret (ai_ (ret1 rfl (.inr rfl) (resP rfl m0 ty_39 rfl) ?_))))))
  exact (by exact congrArg (fun r : Rt => (AV [pI r.n, pI r.d] : Value)) (show _ = (bu_ a) from bif_f h3 rfl))

theorem cP_ (a : Rt) (b : Rt) :
    Ret Tryz.prog 27 [AV [pI a.n, pI a.d], AV [pI b.n, pI b.d]] (AV [pI ((aq_ a b).n), pI ((aq_ a b).d)]) := by
 refine av_ (N := 44) Tryz.func27 rfl rfl (by simp) (fun w0 => ?_)
 simp only [initF, Nat.reduceAdd]
 refine Rs fun K J => WL_r rfl (a1_ rfl rfl (fun b1 hb1 => WL_r rfl (a1_ rfl rfl (fun b2 hb2 => sN zp_39 rfl fun b3 hb3 => nl J (Sq fun K1 J1 => ?_)))))
 refine bQ_ [8, 9, 10, 11, 12, 13, 14, 15] (fun g M => (g 15 = .bool (!(al_ a) || (!(al_ b)))) ∧ M = [⟨b3, 39, flat [pI I0, pI I0]⟩, ⟨b2, 39, flat [pI b.n, pI b.d]⟩, ⟨b1, 39, flat [pI a.n, pI a.d]⟩]) (fun K2 J2 => ?_) ?_
 ·skip
  refine Rk fun K J => sQ (qL ty_39 rfl m2 rfl) rfl (sQ (q_ret en_51 (b1_ a) rfl) rfl (sE rfl ?_))
  rcases bt (al_ a) with h5 | h5
  ·skip
   refine sB (not_f h5) rfl (sQ (qL ty_39 rfl m1 rfl) rfl (sQ (q_ret en_51 (b1_ b) rfl) rfl (sE rfl (sE rfl (nl J ?_)))))
   refine J2 _ _ (by repeat first | exact .refl | refine .cons rfl ?_) ⟨_, s0, ?s15, rfl⟩
   case s15 => exact congrArg Value.bool (nor_t h5 rfl)
  ·skip
   refine sB (not_t h5) rfl (WL_n rfl (WL_n rfl (WL_n rfl (sE rfl (nl J ?_)))))
   refine J2 _ _ (by repeat first | exact .refl | refine .cons rfl ?_) ⟨_, s0, ?s15, rfl⟩
   case s15 => exact congrArg Value.bool (nor_f h5)
 ·skip
  rintro g6 M ⟨hg15, rfl⟩
  simp only [setG, hg15]
  clear hg15
  rcases bt (!(al_ a) || (!(al_ b))) with h7 | h7
  ·skip
   refine W_t h7 rfl (Rs fun K J => sQ (q_ret en_76 dt_  rfl) rfl (sS [pI cL_.n, pI cL_.d] ty_39 rfl rfl rfl rfl rfl (.head _) rfl hb3 (nl J (W_ret (ai_ (ret1 rfl (.inr rfl) (resP rfl m0 ty_39 rfl) ?_))))))
   exact (by exact congrArg (fun r : Rt => (AV [pI r.n, pI r.d] : Value)) (show _ = (aq_ a b) from bif_t h7 rfl))
  ·skip
   refine W_f h7 rfl (ak_ (J1 _ _ (Rs fun K J => sQ (qF b0_ rfl rfl) rfl (sQ (qL ty_37 rfl m2 rfl) rfl (sQ (qF b0_ rfl rfl) rfl (sQ (qL ty_37 rfl m1 rfl) rfl (sC (AV [pI (E (Z.gcd a.d.dec b.d.dec))]) en_77 (cN_ a.d.1 b.d.1 a.d.2 b.d.2) rfl rfl rfl (sN zp_37 rfl fun b8 hb8 => sS [pI (E (Z.gcd a.d.dec b.d.dec))] ty_37 rfl rfl rfl rfl rfl (.head _) rfl hb8 (nl J (Rs fun K J => sQ (qF b0_ rfl rfl) rfl (sQ (qL ty_37 rfl m3 rfl) rfl (sQ (qL ty_37 rfl m0 rfl) rfl (sC (AV [pI (E (Z.quo a.d.dec (Z.gcd a.d.dec b.d.dec)))]) en_78 (bC_ a.d.1 (E (Z.gcd a.d.dec b.d.dec)).1 a.d.2 (E (Z.gcd a.d.dec b.d.dec)).2) rfl rfl (cg2 (fun p q => AV [pI (E (Z.quo p q))]) rfl (E_dec _)) (sN zp_37 rfl fun b9 hb9 => sS [pI (E (Z.quo a.d.dec (Z.gcd a.d.dec b.d.dec)))] ty_37 rfl rfl rfl rfl rfl (.head _) rfl hb9 (nl J ?_)))))))))))))))
   refine Rs fun K J => sQ (qF b0_ rfl rfl) rfl (sQ (qL ty_37 rfl m3 rfl) rfl (sQ (qL ty_37 rfl m1 rfl) rfl (sC (AV [pI (E (Z.quo b.d.dec (Z.gcd a.d.dec b.d.dec)))]) en_78 (bC_ b.d.1 (E (Z.gcd a.d.dec b.d.dec)).1 b.d.2 (E (Z.gcd a.d.dec b.d.dec)).2) rfl rfl (cg2 (fun p q => AV [pI (E (Z.quo p q))]) rfl (E_dec _)) (sN zp_37 rfl fun b10 hb10 => sS [pI (E (Z.quo b.d.dec (Z.gcd a.d.dec b.d.dec)))] ty_37 rfl rfl rfl rfl rfl (.head _) rfl hb10 (nl J (ds (sk (sk (sk (sd (sk (sk (s0))))))) [0,4,8,12,16,20,24,28,32,36,40,44,48,52,57] [14] mix (by kernel_rfl) (fun K J => pQ rfl (qF cu_ rfl rfl) (pQ rfl (qL ty_37 rfl m5 rfl) (pQ rfl (qL ty_37 rfl m0 rfl) (pC (AV [pI (E (Z.mul a.n.dec (Z.quo b.d.dec (Z.gcd a.d.dec b.d.dec))))]) en_80 (bO_ a.n.1 (E (Z.quo b.d.dec (Z.gcd a.d.dec b.d.dec))).1 a.n.2 (E (Z.quo b.d.dec (Z.gcd a.d.dec b.d.dec))).2) rfl rfl (cg2 (fun p q => AV [pI (E (Z.mul p q))]) rfl (E_dec _)) (pQ rfl (qF cu_ rfl rfl) (pQ rfl (qL ty_37 rfl m4 rfl) (pQ rfl (qL ty_37 rfl m1 rfl) (pC (AV [pI (E (Z.mul b.n.dec (Z.quo a.d.dec (Z.gcd a.d.dec b.d.dec))))]) en_80 (bO_ b.n.1 (E (Z.quo a.d.dec (Z.gcd a.d.dec b.d.dec))).1 b.n.2 (E (Z.quo a.d.dec (Z.gcd a.d.dec b.d.dec))).2) rfl rfl (cg2 (fun p q => AV [pI (E (Z.mul p q))]) rfl (E_dec _)) ?_))))))))))))))
   obtain ⟨r11, hr11⟩ := nm ((E (Z.add (Z.mul a.n.dec (Z.quo b.d.dec (Z.gcd a.d.dec b.d.dec))) (Z.mul b.n.dec (Z.quo a.d.dec (Z.gcd a.d.dec b.d.dec))))) : I)
   refine pC (AV [pI r11]) en_79 (dv_ (E (Z.mul a.n.dec (Z.quo b.d.dec (Z.gcd a.d.dec b.d.dec)))).1 (E (Z.mul b.n.dec (Z.quo a.d.dec (Z.gcd a.d.dec b.d.dec)))).1 (E (Z.mul a.n.dec (Z.quo b.d.dec (Z.gcd a.d.dec b.d.dec)))).2 (E (Z.mul b.n.dec (Z.quo a.d.dec (Z.gcd a.d.dec b.d.dec)))).2) rfl rfl ((cg2 (fun p q => AV [pI (E (Z.add p q))]) (E_dec _) (E_dec _)).trans (by rw [hr11])) (pQ rfl (qL ty_37 rfl m1 rfl) (pQ rfl (qF b0_ rfl rfl) (pQ rfl (qL ty_37 rfl m4 rfl) (pC (AV [pI (E (Z.mul (Z.quo a.d.dec (Z.gcd a.d.dec b.d.dec)) b.d.dec))]) en_80 (bO_ (E (Z.quo a.d.dec (Z.gcd a.d.dec b.d.dec))).1 b.d.1 (E (Z.quo a.d.dec (Z.gcd a.d.dec b.d.dec))).2 b.d.2) rfl rfl (cg2 (fun p q => AV [pI (E (Z.mul p q))]) (E_dec _) rfl) ?_))))
   obtain ⟨r12, hr12⟩ := nm ((am_ r11 (E (Z.mul (Z.quo a.d.dec (Z.gcd a.d.dec b.d.dec)) b.d.dec))) : Rt)
   refine pC (AV [pI r12.n, pI r12.d]) en_73 (cD_ r11 (E (Z.mul (Z.quo a.d.dec (Z.gcd a.d.dec b.d.dec)) b.d.dec))) rfl rfl (by rw [hr12]; first | done | rfl) (oS [pI r12.n, pI r12.d] ty_39 rfl rfl rfl rfl rfl rfl (.tail _ (.tail _ (.tail _ (.head _)))) rfl hb3 rfl (sk (sk (sk (sd s0)))) (fl J (W_ret (ret1 rfl (.inr rfl) (resP rfl m3 ty_39 rfl) ?_))))
   exact (by subst hr12; subst hr11; exact congrArg (fun r : Rt => (AV [pI r.n, pI r.d] : Value)) (show _ = (aq_ a b) from bif_f h7 rfl))

theorem dz_ (a : Rt) (b : Rt) :
    Ret Tryz.prog 55 [AV [pI a.n, pI a.d], AV [pI b.n, pI b.d]] (AV [pI ((aw_ a b).n), pI ((aw_ a b).d)]) := by
 refine av_ (N := 9) Tryz.func55 rfl rfl (by simp) (fun w0 => ?_)
 simp only [initF, Nat.reduceAdd]
 refine Rs fun K J => WL_r rfl (a1_ rfl rfl (fun b1 hb1 => WL_r rfl (a1_ rfl rfl (fun b2 hb2 => sN zp_39 rfl fun b3 hb3 => nl J (ds (sd (sk (sk (s0)))) [0,4,8,12,17] [4] mix (by kernel_rfl) (fun K J => pQ rfl (qL ty_39 rfl m2 rfl) (pQ rfl (qL ty_39 rfl m1 rfl) (pQ rfl (q_ret qZ_ (ge_ b) rfl) ?_))))))))
 obtain ⟨r4, hr4⟩ := nm ((aq_ a (bu_ b)) : Rt)
 refine pC (AV [pI r4.n, pI r4.d]) en_27 (cP_ a (bu_ b)) rfl rfl (by rw [hr4]; first | done | rfl) (oS [pI r4.n, pI r4.d] ty_39 rfl rfl rfl rfl rfl rfl (.head _) rfl hb3 rfl (sd s0) (fl J (W_ret (ret1 rfl (.inr rfl) (resP rfl m0 ty_39 rfl) ?_))))
 exact (by subst hr4; rfl)

theorem be_ (a : Rt) (b : Rt) :
    Ret Tryz.prog 38 [AV [pI a.n, pI a.d], AV [pI b.n, pI b.d]] (AV [pI ((aj_ a b).n), pI ((aj_ a b).d)]) := by
 refine av_ (N := 41) Tryz.func38 rfl rfl (by simp) (fun w0 => ?_)
 simp only [initF, Nat.reduceAdd]
 refine Rs fun K J => WL_r rfl (a1_ rfl rfl (fun b1 hb1 => WL_r rfl (a1_ rfl rfl (fun b2 hb2 => sN zp_39 rfl fun b3 hb3 => nl J (Sq fun K1 J1 => ?_)))))
 refine bQ_ [9, 10, 11, 12, 13, 14, 15, 16] (fun g M => (g 16 = .bool (!(al_ a) || (!(al_ b)))) ∧ M = [⟨b3, 39, flat [pI I0, pI I0]⟩, ⟨b2, 39, flat [pI b.n, pI b.d]⟩, ⟨b1, 39, flat [pI a.n, pI a.d]⟩]) (fun K2 J2 => ?_) ?_
 ·skip
  refine Rk fun K J => sQ (qL ty_39 rfl m2 rfl) rfl (sQ (q_ret en_51 (b1_ a) rfl) rfl (sE rfl ?_))
  rcases bt (al_ a) with h5 | h5
  ·skip
   refine sB (not_f h5) rfl (sQ (qL ty_39 rfl m1 rfl) rfl (sQ (q_ret en_51 (b1_ b) rfl) rfl (sE rfl (sE rfl (nl J ?_)))))
   refine J2 _ _ (by repeat first | exact .refl | refine .cons rfl ?_) ⟨_, s0, ?s16, rfl⟩
   case s16 => exact congrArg Value.bool (nor_t h5 rfl)
  ·skip
   refine sB (not_t h5) rfl (WL_n rfl (WL_n rfl (WL_n rfl (sE rfl (nl J ?_)))))
   refine J2 _ _ (by repeat first | exact .refl | refine .cons rfl ?_) ⟨_, s0, ?s16, rfl⟩
   case s16 => exact congrArg Value.bool (nor_f h5)
 ·skip
  rintro g6 M ⟨hg16, rfl⟩
  simp only [setG, hg16]
  clear hg16
  rcases bt (!(al_ a) || (!(al_ b))) with h7 | h7
  ·skip
   refine W_t h7 rfl (Rs fun K J => sQ (q_ret en_76 dt_  rfl) rfl (sS [pI cL_.n, pI cL_.d] ty_39 rfl rfl rfl rfl rfl (.head _) rfl hb3 (nl J (W_ret (ai_ (ret1 rfl (.inr rfl) (resP rfl m0 ty_39 rfl) ?_))))))
   exact (by exact congrArg (fun r : Rt => (AV [pI r.n, pI r.d] : Value)) (show _ = (aj_ a b) from bif_t h7 rfl))
  ·skip
   refine W_f h7 rfl (ak_ (J1 _ _ (Rs fun K J => sQ (qF cu_ rfl rfl) rfl (sQ (qL ty_37 rfl m2 rfl) rfl (sQ (qF b0_ rfl rfl) rfl (sQ (qL ty_37 rfl m1 rfl) rfl (sQ (q_ret en_73 (cD_ a.n b.d) rfl) rfl (sN zp_39 rfl fun b8 hb8 => sS [pI ((am_ a.n b.d).n), pI ((am_ a.n b.d).d)] ty_39 rfl rfl rfl rfl rfl (.head _) rfl hb8 (nl J (Rs fun K J => sQ (qF cu_ rfl rfl) rfl (sQ (qL ty_37 rfl m2 rfl) rfl (sQ (qF b0_ rfl rfl) rfl (sQ (qL ty_37 rfl m3 rfl) rfl (sQ (q_ret en_73 (cD_ b.n a.d) rfl) rfl (sN zp_39 rfl fun b9 hb9 => sS [pI ((am_ b.n a.d).n), pI ((am_ b.n a.d).d)] ty_39 rfl rfl rfl rfl rfl (.head _) rfl hb9 ?_)))))))))))))))
   refine nl J (Rs fun K J => sQ (qF cu_ rfl rfl) rfl (sQ (qL ty_37 rfl m1 rfl) rfl (sQ (qF cu_ rfl rfl) rfl (sQ (qL ty_37 rfl m0 rfl) rfl ?_))))
   obtain ⟨r10, hr10⟩ := nm ((E (Z.mul ((am_ a.n b.d).n).dec ((am_ b.n a.d).n).dec)) : I)
   refine sC (AV [pI r10]) en_80 (bO_ ((am_ a.n b.d).n).1 ((am_ b.n a.d).n).1 ((am_ a.n b.d).n).2 ((am_ b.n a.d).n).2) rfl rfl (by rw [hr10]; first | done | rfl) (sN zp_37 rfl fun b11 hb11 => sS [pI r10] ty_37 rfl rfl rfl rfl rfl (.head _) rfl hb11 (nl J (Rs fun K J => sQ (qF b0_ rfl rfl) rfl (sQ (qL ty_37 rfl m2 rfl) rfl (sQ (qF b0_ rfl rfl) rfl (sQ (qL ty_37 rfl m1 rfl) rfl ?_))))))
   obtain ⟨r12, hr12⟩ := nm ((E (Z.mul ((am_ a.n b.d).d).dec ((am_ b.n a.d).d).dec)) : I)
   refine sC (AV [pI r12]) en_80 (bO_ ((am_ a.n b.d).d).1 ((am_ b.n a.d).d).1 ((am_ a.n b.d).d).2 ((am_ b.n a.d).d).2) rfl rfl (by rw [hr12]; first | done | rfl) (sN zp_37 rfl fun b13 hb13 => sS [pI r12] ty_37 rfl rfl rfl rfl rfl (.head _) rfl hb13 (nl J (Rs fun K J => sQ (qL ty_37 rfl m1 rfl) rfl (sQ (qL ty_37 rfl m0 rfl) rfl (sQ (q_ret en_73 (cD_ r10 r12) rfl) rfl (sS [pI ((am_ r10 r12).n), pI ((am_ r10 r12).d)] ty_39 rfl rfl rfl rfl rfl (.tail _ (.tail _ (.tail _ (.tail _ (.head _))))) rfl hb3 (nl J (W_ret (ret1 rfl (.inr rfl) (resP rfl m4 ty_39 rfl) ?_)))))))))
   exact (by subst hr12; subst hr10; exact congrArg (fun r : Rt => (AV [pI r.n, pI r.d] : Value)) (show _ = (aj_ a b) from bif_f h7 rfl))

theorem ev_ (a : Rt) (b : Bool) :
    Ret Tryz.prog 120 [AV [pI a.n, pI a.d], .bool b] (AV [pI (bw_ a b)]) := by
 refine av_ (N := 8) Tryz.func120 rfl rfl (by simp) (fun w0 => ?_)
 simp only [initF, Nat.reduceAdd]
 refine Rs fun K J => WL_r rfl (a1_ rfl rfl (fun b1 hb1 => sN zp_37 rfl fun b2 hb2 => nl J (Sq fun K1 J1 => Rs fun K J => sE rfl (nl J ?_))))
 rcases bt b with h3 | h3
 ·skip
  refine W_t h3 rfl (Rs fun K J => sC (AV [pI (E (Z.of 0))]) en_74 (a9_ (wl 0).1 (wl 0).2) rfl rfl rfl ?_)
  refine sS [pI (E (Z.of 0))] ty_37 rfl rfl rfl rfl rfl (.head _) rfl hb2 (nl J (W_ret (ai_ (ret1 rfl (.inr rfl) (resP rfl m0 ty_37 rfl) ?_))))
  exact (by exact congrArg (fun r : I => (AV [pI r] : Value)) (show _ = (bw_ a b) from bif_t h3 rfl))
 ·skip
  refine W_f h3 rfl (ak_ (J1 _ _ (Rs fun K J => sC (AV [pI (E Z.bad)]) en_90 bm_ rfl rfl rfl (sS [pI (E Z.bad)] ty_37 rfl rfl rfl rfl rfl (.head _) rfl hb2 (nl J (W_ret (ret1 rfl (.inr rfl) (resP rfl m0 ty_37 rfl) ?_)))))))
  exact (by exact congrArg (fun r : I => (AV [pI r] : Value)) (show _ = (bw_ a b) from bif_f h3 rfl))
end Go.Proofs.YtapbefpeopaecaaGreatDoor


set_option linter.unusedVariables false
set_option linter.unusedSimpArgs false
namespace Go.Num
open Go Go.Kn
theorem na_ {a : Rt} (h : a5_ a = true) : cfP (cfN a.d) a.d := by
  unfold a5_ at h
  simp only [Bool.and_eq_true, decide_eq_true_eq] at h
  exact jF_ h.2.2.1
theorem nB_ {a : Rt} (h : al_ a = true) : cfP (cfN a.d) a.d := by
  unfold al_ at h
  cases h1 : (!a.n.1.good || (!a.d.1.good))
  · rw [h1, cond_false] at h
    simp only [Bool.and_eq_true, decide_eq_true_eq] at h
    exact jF_ h.1
  · rw [h1, cond_true] at h; cases h
theorem qJ_ {a b : Bool} (h : (!a || !b) = false) : a = true := by cases a with | true => rfl | false => cases h
end Go.Num


set_option linter.unusedVariables false
set_option linter.unusedSimpArgs false
namespace Go.Num
open Go Go.Kn
theorem ld_ (n m : Bool) {x y : Nat} (hy : 0 < y) : (sgn n x).fmod (sgn m y) = if n ≠ m ∧ x % y ≠ 0 then sgn m (y - x % y) else sgn m (x % y) := by
  rw [Int.fmod_def, i8_ n m hy]
  have h1 := Nat.div_add_mod x y
  have h2 := Nat.mod_lt x hy
  have e : ((x : Nat) : Int) = (y : Int) * ((x / y : Nat) : Int) + ((x % y : Nat) : Int) := by exact_mod_cast h1.symm
  have e2 : (y : Int) * (-((x / y : Nat) : Int) - 1) = -((y : Int) * ((x / y : Nat) : Int)) - y := by grind
  have e3 : (y : Int) * (-((x / y : Nat) : Int)) = -((y : Int) * ((x / y : Nat) : Int)) := by grind
  have e4 : (-(y : Int)) * (-((x / y : Nat) : Int) - 1) = ((y : Int) * ((x / y : Nat) : Int)) + y := by grind
  have e5 : (-(y : Int)) * (-((x / y : Nat) : Int)) = ((y : Int) * ((x / y : Nat) : Int)) := by grind
  have e6 : (-(y : Int)) * ((x / y : Nat) : Int) = -((y : Int) * ((x / y : Nat) : Int)) := by grind
  cases n <;> cases m <;> by_cases h0 : x % y = 0 <;> simp only [sgn_t, sgn_f, reduceIte, Bool.false_eq_true, Bool.true_eq_false, reduceCtorEq, ne_eq, not_true_eq_false, not_false_eq_true, false_and, true_and, and_self, h0] <;> omega
theorem q1_ {x y : W} (hx : -4611686018427387904 < x.1 ∧ x.1 < 4611686018427387904) (hy : -4611686018427387904 < y.1 ∧ y.1 < 4611686018427387904) (h0 : y.1 ≠ 0) (hf : x.1.fdiv y.1 = (W.fdiv x y).1) :
    (W.sub x (W.mul y (W.fdiv x y))).1 = x.1.fmod y.1 := by
  have e : x.1.fmod y.1 = x.1 - y.1 * x.1.fdiv y.1 := Int.fmod_def ..
  have hb : (x.1.fmod y.1).natAbs < y.1.natAbs := by
    rcases Int.lt_or_gt_of_ne h0 with h | h
    · have h1 := Int.fmod_nonneg_of_pos (-x.1) (show 0 < -y.1 by omega)
      have h2 := Int.fmod_lt_of_pos (-x.1) (show 0 < -y.1 by omega)
      rw [Int.neg_fmod_neg] at h1 h2
      omega
    · have h1 := Int.fmod_nonneg_of_pos x.1 h
      have h2 := Int.fmod_lt_of_pos x.1 h
      omega
  show IntKind.i64.wrap (x.1 - IntKind.i64.wrap (y.1 * (W.fdiv x y).1)) = _
  rw [← hf, aN_ (n := y.1 * x.1.fdiv y.1) (by unfold I64; omega), ← e, aN_ (by unfold I64; omega)]
theorem mV_ {a b : R} (ha : a.Ok) (hb : b.Ok) (h : wordB a = true) (k : wordB b = true) (h0 : wordI b ≠ 0) : Z.of ((wordI a).fmod (wordI b)) = Z.rem a.dec b.dec := by
  rw [Z.rem, a4_ (dc_ ha h).1 (dc_ hb k).1, if_neg h0]
theorem rem_b {a b : R} (h : a.good = false ∨ b.good = false) : Z.bad = Z.rem a.dec b.dec := by
  rw [Z.rem, c9_ (h.imp bad1 bad1)]
theorem rem_0 {a b : R} (ha : a.Ok) (hb : b.Ok) (ga : a.good = true) (gb : b.good = true) (h : val b.w = 0) : Z.bad = Z.rem a.dec b.dec := by
  rw [Z.rem, a4_ (aX_ ha ga) (aX_ hb gb), if_pos (by rw [h]; cases b.neg <;> rfl)]
theorem ra_ {a b : R} (ha : a.Ok) (hb : b.Ok) (ga : a.good = true) (gb : b.good = true) (h0 : val b.w ≠ 0) (h : a.neg = b.neg ∨ val a.w % val b.w = 0) : Z.of (sgn b.neg (val a.w % val b.w)) = Z.rem a.dec b.dec := by
  have hp : 0 < val b.w := Nat.pos_of_ne_zero h0
  rw [Z.rem, a4_ (aX_ ha ga) (aX_ hb gb), if_neg (iS_ hp), ld_ _ _ hp, if_neg]
  rintro ⟨h1, h2⟩
  exact h.elim h1 h2
theorem qb_ {a b : R} (ha : a.Ok) (hb : b.Ok) (ga : a.good = true) (gb : b.good = true) (h0 : val b.w ≠ 0) (hn : a.neg ≠ b.neg) (h : val a.w % val b.w ≠ 0) : Z.of (sgn b.neg (val b.w - val a.w % val b.w)) = Z.rem a.dec b.dec := by
  have hp : 0 < val b.w := Nat.pos_of_ne_zero h0
  rw [Z.rem, a4_ (aX_ ha ga) (aX_ hb gb), if_neg (iS_ hp), ld_ _ _ hp, if_pos ⟨hn, h⟩]
theorem fT_ (a b : I) : cJ_ a b = E (Z.rem a.dec b.dec) := by
  unfold cJ_
  rw [len0]
  show _ = E (Z.rem a.1.dec b.1.dec)
  cases hw : (wordB a.1 && (wordB b.1 && ((wordW b).1 != 0)))
  · rw [cond_false]
    cases hg : (!a.1.good || (!b.1.good || (val b.1.w == 0)))
    · rw [cond_false]
      simp only [Bool.or_eq_false_iff, Bool.not_eq_false', beq_eq_false_iff_ne] at hg
      obtain ⟨ga, gb, h0⟩ := hg
      cases hc : ((a.1.neg != b.1.neg) && decide ((0 : Int) < (((dl (val a.1.w % val b.1.w)).length : Nat) : Int)))
      · rw [cond_false, ra_ a.2 b.2 ga gb h0]
        rw [Bool.and_eq_false_iff] at hc
        rcases hc with hc | hc
        · exact .inl (by simpa using hc)
        · right
          have := of_decide_eq_false hc
          exact ly_.1 (by omega)
      · rw [cond_true, qb_ a.2 b.2 ga gb h0]
        · rw [Bool.and_eq_true] at hc; simpa using hc.1
        · rw [Bool.and_eq_true] at hc
          have := of_decide_eq_true hc.2
          intro h; rw [h, eo_] at this; exact absurd this (by decide)
    · rw [cond_true]
      cases ga : a.1.good
      · rw [rem_b (.inl ga)]
      · cases gb : b.1.good
        · rw [rem_b (.inr gb)]
        · rw [ga, gb] at hg
          rw [rem_0 a.2 b.2 ga gb (by simpa using hg)]
  · rw [cond_true]
    have hf := kV_ hw
    rw [Bool.and_eq_true, Bool.and_eq_true] at hw
    show E (Z.of (W.sub (wordW a) (W.mul (wordW b) (W.fdiv (wordW a) (wordW b)))).1) = _
    rw [q1_ (dc_ a.2 hw.1).2.2.2 (dc_ b.2 hw.2.1).2.2.2 hf.2.1 hf.2.2]
    exact congrArg E (mV_ a.2 b.2 hw.1 hw.2.1 hf.2.1)
end Go.Num

namespace Go.Proofs.YtapbefpeopaecaaGreatDoor
open Go.Kn Go.Num
set_option linter.unusedVariables false
set_option linter.unusedSimpArgs false
set_option maxRecDepth 20000
set_option maxHeartbeats 8000000
theorem gb_ (a : I) (b : I) :
    Ret Tryz.prog 41 [AV [pI a], AV [pI b]] (AV [pI (cJ_ a b)]) := by
 refine av_ (N := 78) Tryz.func41 rfl rfl (by simp) (fun w0 => ?_)
 simp only [initF, Nat.reduceAdd]
 refine Rs fun K J => WL_r rfl (a1_ rfl rfl (fun b1 hb1 => WL_r rfl (a1_ rfl rfl (fun b2 hb2 => sN zp_37 rfl fun b3 hb3 => nl J (Rs fun K J => sQ (qL ty_37 rfl m2 rfl) rfl (sC (.tuple #[.int .i64 ((wordW a).1), .bool (wordB a.1)]) en_88 (bI_ a.1 a.2) rfl rfl rfl (sE rfl (sE rfl (sE rfl (sE rfl (sE rfl (nl J (Rs fun K J => sQ (qL ty_37 rfl m1 rfl) rfl (sC (.tuple #[.int .i64 ((wordW b).1), .bool (wordB b.1)]) en_88 (bI_ b.1 b.2) rfl rfl rfl (sE rfl (sE rfl (sE rfl ?_)))))))))))))))))
 refine sE rfl (sE rfl (nl J (Sq fun K1 J1 => ?_)))
 refine bQ_ [21, 22, 23, 24, 25, 26, 27, 28] (fun g M => (g 28 = .bool ((wordB a.1) && ((wordB b.1) && ((wordW b).1 != 0)))) ∧ M = [⟨b3, 37, flat [pI I0]⟩, ⟨b2, 37, flat [pI b]⟩, ⟨b1, 37, flat [pI a]⟩]) (fun K2 J2 => ?_) ?_
 ·skip
  refine Rk fun K J => sE rfl ?_
  rcases bt (wordB a.1) with h6 | h6
  ·skip
   refine sB h6 rfl (sE rfl (sE rfl ?_))
   rcases bt (wordB b.1) with h7 | h7
   ·skip
    refine sB h7 rfl (sE rfl (sE rfl (sE rfl (nl J ?_))))
    refine J2 _ _ (by repeat first | exact .refl | refine .cons rfl ?_) ⟨_, s0, ?s28, rfl⟩
    case s28 => exact congrArg Value.bool (and_t h6 (and_t h7 rfl))
   ·skip
    refine sB h7 rfl (WL_n rfl (WL_n rfl (sE rfl (nl J ?_))))
    refine J2 _ _ (by repeat first | exact .refl | refine .cons rfl ?_) ⟨_, s0, ?s28, rfl⟩
    case s28 => exact congrArg Value.bool (and_t h6 (and_f h7))
  ·skip
   refine sB h6 rfl (WL_n rfl (sE rfl (sE rfl (WL_n rfl (WL_n rfl (sE rfl (nl J ?_)))))))
   refine J2 _ _ (by repeat first | exact .refl | refine .cons rfl ?_) ⟨_, s0, ?s28, rfl⟩
   case s28 => exact congrArg Value.bool (and_f h6)
 ·skip
  rintro g8 M ⟨hg28, rfl⟩
  simp only [setG, hg28]
  clear hg28
  rcases bt ((wordB a.1) && ((wordB b.1) && ((wordW b).1 != 0))) with h9 | h9
  ·skip
   refine W_t h9 rfl (Rs fun K J => sE rfl (sE rfl ?_))
   have hfl := kV_ h9
   refine sE rfl (sE rfl (sC (.int .i64 ((W.fdiv (wordW a) (wordW b)).1)) en_89 (el_ (wordW a).1 (wordW b).1 (wordW a).2 hfl.1 hfl.2.1) rfl rfl (congrArg (Value.int .i64) hfl.2.2) (sV (.int .i64 ((W.mul (wordW b) (W.fdiv (wordW a) (wordW b))).1)) rfl rfl (sV (.int .i64 ((W.sub (wordW a) (W.mul (wordW b) (W.fdiv (wordW a) (wordW b)))).1)) rfl rfl ?_))))
   obtain ⟨r10, hr10⟩ := nm ((E (Z.of (W.sub (wordW a) (W.mul (wordW b) (W.fdiv (wordW a) (wordW b)))).1)) : I)
   refine sC (AV [pI r10]) en_74 (a9_ (W.sub (wordW a) (W.mul (wordW b) (W.fdiv (wordW a) (wordW b)))).1 (W.sub (wordW a) (W.mul (wordW b) (W.fdiv (wordW a) (wordW b)))).2) rfl rfl (by rw [hr10]; first | done | rfl) (sS [pI r10] ty_37 rfl rfl rfl rfl rfl (.head _) rfl hb3 (nl J (W_ret (ai_ (ret1 rfl (.inr rfl) (resP rfl m0 ty_37 rfl) ?_)))))
   exact (by subst hr10; exact congrArg (fun r : I => (AV [pI r] : Value)) (show _ = (cJ_ a b) from bif_t h9 rfl))
  ·skip
   refine W_f h9 rfl (ak_ (J1 _ _ (Sq fun K3 J3 => ?_)))
   refine bQ_ [37, 38, 39, 40, 41, 42, 43, 44, 45, 46, 47, 48, 49, 50] (fun g M => (g 50 = .bool (!a.1.good || (!b.1.good || ((((dl (val b.1.w)).length : Nat) : Int) == 0)))) ∧ M = [⟨b3, 37, flat [pI I0]⟩, ⟨b2, 37, flat [pI b]⟩, ⟨b1, 37, flat [pI a]⟩]) (fun K4 J4 => ?_) ?_
   ·skip
    refine Rk fun K J => sQ (qL ty_37 rfl m2 rfl) rfl (sC (.bool a.1.good) en_86 (aH_ a.1 a.2) rfl rfl rfl (sE rfl ?_))
    rcases bt a.1.good with h14 | h14
    ·skip
     refine sB (not_f h14) rfl (sQ (qL ty_37 rfl m1 rfl) rfl (sC (.bool b.1.good) en_86 (aH_ b.1 b.2) rfl rfl rfl (sE rfl (sE rfl ?_))))
     rcases bt b.1.good with h15 | h15
     ·skip
      refine sB (not_f h15) rfl (sQ (qL ty_37 rfl m1 rfl) rfl (WL_r rfl (bP_ en_87 rfl (fun w hw => aI_ b.1 b.2 w) (fun vl16 Ll16 kl16 => ?_))))
      try simp only [dv_dl, dx_] at kl16
      refine sQ (q_as (v' := .int .i64 (((dl (val b.1.w)).length : Nat) : Int)) (dX_ sl_81 rfl (SL.sub kl16.sl (List.sublist_append_left _ _))) rfl) rfl (sE rfl (sE rfl (nl J ?_)))
      refine J4 _ _ (by repeat first | exact .refl | refine .cons rfl ?_) ⟨_, (sR (s0)), ?s50, rfl⟩
      case s50 => exact congrArg Value.bool (nor_t h14 (nor_t h15 rfl))
     ·skip
      refine sB (not_t h15) rfl (WL_n rfl (WL_n rfl (WL_n rfl (WL_n rfl (sE rfl (nl J ?_))))))
      refine J4 _ _ (by repeat first | exact .refl | refine .cons rfl ?_) ⟨_, s0, ?s50, rfl⟩
      case s50 => exact congrArg Value.bool (nor_t h14 (nor_f h15))
    ·skip
     refine sB (not_t h14) rfl (WL_n rfl (WL_n rfl (WL_n rfl (sE rfl (sE rfl (WL_n rfl (WL_n rfl (WL_n rfl (WL_n rfl (sE rfl (nl J ?_)))))))))))
     refine J4 _ _ (by repeat first | exact .refl | refine .cons rfl ?_) ⟨_, s0, ?s50, rfl⟩
     case s50 => exact congrArg Value.bool (nor_f h14)
   ·skip
    rintro g17 M ⟨hg50, rfl⟩
    simp only [setG, hg50]
    clear hg50
    rcases bt (!a.1.good || (!b.1.good || ((((dl (val b.1.w)).length : Nat) : Int) == 0))) with h18 | h18
    ·skip
     refine W_t h18 rfl (Rs fun K J => sC (AV [pI (E Z.bad)]) en_90 bm_ rfl rfl rfl (sS [pI (E Z.bad)] ty_37 rfl rfl rfl rfl rfl (.head _) rfl hb3 (nl J (W_ret (ai_ (ret1 rfl (.inr rfl) (resP rfl m0 ty_37 rfl) ?_))))))
     exact (by exact congrArg (fun r : I => (AV [pI r] : Value)) (show _ = (cJ_ a b) from bif_f h9 (bif_t h18 rfl)))
    ·skip
     refine W_f h18 rfl (ak_ (J3 _ _ (ds sn [0,8,5,13,17,20,24,28,32,36] [] mix (by kernel_rfl) (fun K J => pQ rfl (qL ty_37 rfl m2 rfl) (pQ rfl (qL ty_37 rfl m1 rfl) (PL_o rfl rfl (bP_ en_87 rfl (fun w hw => aI_ a.1 a.2 w) (fun vl19 Ll19 kl19 => ⟨(fun _ => sR s0), sn, ?_⟩))))))))
     try simp only [dv_dl, dx_] at kl19
     refine PL_o rfl rfl (bP_ en_87 rfl (fun w hw => aI_ b.1 b.2 w) (fun vl20 Ll20 kl20 => ⟨(fun _ => sR s0), sn, ?_⟩))
     try simp only [dv_dl, dx_] at kl20
     have hB := hB_of h18
     refine PL_o rfl rfl (hc_ en_91 rfl (fun w hw => c3_ vl19 vl20 (val a.1.w) (val b.1.w) hB (Nat.le_trans (cB_ (k := 32) (lt32 a.2)) (by decide)) (Nat.le_trans (cB_ (k := 32) (lt32 b.2)) (by decide)) w (SL.sl (SL.sub kl19.sl (sR (List.sublist_append_left _ _))) hw) (SL.sl (SL.sub kl20.sl (List.sublist_append_left _ _)) hw)) (fun vl21_0 vl21_1 Ll21 kl21_0 kl21_1 => ⟨(fun _ => sR s0), sn, ?_⟩))
     try simp only [dv_dl, dx_] at kl21_0 kl21_1
     refine pE rfl (pE rfl (pE rfl (pE rfl (pE rfl (fl J (Sq fun K5 J5 => ?_))))))
     refine bQ_ [60, 61, 62, 63, 64, 65, 66, 67, 68, 69] (fun g M => (g 69 = .bool ((a.1.neg != b.1.neg) && decide (0 < (((dl ((val a.1.w) % (val b.1.w))).length : Nat) : Int)))) ∧ M = (Ll21 ++ (Ll20 ++ (Ll19 ++ (⟨b3, 37, flat [pI I0]⟩ :: (⟨b2, 37, flat [pI b]⟩ :: (⟨b1, 37, flat [pI a]⟩ :: []))))))) (fun K6 J6 => ?_) ?_
     ·skip
      refine Rk fun K J => sQ (qF bq_ rfl rfl) rfl (sQ (qC ty_4 rfl (List.mem_append_right _ (List.mem_append_right _ (List.mem_append_right _ (List.mem_cons_of_mem _ (List.mem_cons_of_mem _ (List.mem_cons_self)))))) rfl) rfl (sQ (qF bq_ rfl rfl) rfl (sQ (qC ty_4 rfl (List.mem_append_right _ (List.mem_append_right _ (List.mem_append_right _ (List.mem_cons_of_mem _ (List.mem_cons_self))))) rfl) rfl (sQ (q_as (v' := .bool (a.1.neg != b.1.neg)) (fw_ bo_4 rfl rfl) rfl) rfl ?_))))
      rcases bt (a.1.neg != b.1.neg) with h23 | h23
      ·skip
       refine sB h23 rfl (sE rfl (sQ (q_as (v' := .int .i64 (((dl ((val a.1.w) % (val b.1.w))).length : Nat) : Int)) (dX_ sl_81 rfl (SL.sub kl21_1 (List.sublist_append_left _ _))) rfl) rfl (sE rfl (sE rfl (nl J ?_)))))
       refine J6 _ _ (by repeat first | exact .refl | refine .cons rfl ?_) ⟨_, s0, ?s69, rfl⟩
       case s69 => exact congrArg Value.bool (and_t h23 rfl)
      ·skip
       refine sB h23 rfl (WL_n rfl (WL_n rfl (WL_n rfl (sE rfl (nl J ?_)))))
       refine J6 _ _ (by repeat first | exact .refl | refine .cons rfl ?_) ⟨_, s0, ?s69, rfl⟩
       case s69 => exact congrArg Value.bool (and_f h23)
     ·skip
      rintro g24 M ⟨hg69, rfl⟩
      simp only [setG, hg69]
      clear hg69
      rcases bt ((a.1.neg != b.1.neg) && decide (0 < (((dl ((val a.1.w) % (val b.1.w))).length : Nat) : Int))) with h25 | h25
      ·skip
       refine W_t h25 rfl (Rk fun K J => sQ (qL ty_37 rfl (List.mem_append_right _ (List.mem_append_right _ (List.mem_append_right _ (List.mem_cons_of_mem _ (List.mem_cons_self))))) rfl) rfl (WL_r rfl (bP_ en_87 rfl (fun w hw => aI_ b.1 b.2 w) (fun vl26 Ll26 kl26 => ?_))))
       try simp only [dv_dl, dx_] at kl26
       refine sE rfl (WL_r rfl (bP_ en_92 rfl (fun w hw => cT_ vl26 vl21_1 (dl (val b.1.w)) (dl ((val a.1.w) % (val b.1.w))) (dl_DL _) (dl_DL _) (Nat.le_trans (cB_ (k := 32) (lt32 b.2)) (by decide)) (Nat.le_trans (cB_ (k := 32) (drem (lt32 a.2))) (by decide)) (by simp only [dv_dl, dx_]; exact (Nat.le_of_lt (Nat.mod_lt _ hB))) w (SL.sl (SL.sub kl26.sl (List.sublist_append_left _ _)) hw) (SL.sl (SL.sub kl21_1 (sR (List.sublist_append_left _ _))) hw)) (fun vl27 Ll27 kl27 => ?_)))
       try simp only [dv_dl, dx_] at kl27
       refine sE rfl (nl J (J5 _ _ (Rs fun K J => sQ (qF bq_ rfl rfl) rfl (sQ (qC ty_4 rfl (List.mem_append_right _ (List.mem_append_right _ (List.mem_append_right _ (List.mem_append_right _ (List.mem_append_right _ (List.mem_cons_of_mem _ (List.mem_cons_self))))))) rfl) rfl (sE rfl (sQ (q_as (v' := AV [pI (E (Z.of (sgn b.1.neg ((val b.1.w) - ((val a.1.w) % (val b.1.w))))))]) (bU_ en_93 rfl (fun w hw => a7_ b.1.neg vl27 (dl ((val b.1.w) - ((val a.1.w) % (val b.1.w)))) (dl_DL _) (Nat.le_trans (cB_ (k := 32) (dsub (lt32 b.2))) (by decide)) w (SL.sl (SL.sub kl27.sl (List.sublist_append_left _ _)) hw))) (by rw [(dv_dl _)]; rfl)) rfl (sS [pI (E (Z.of (sgn b.1.neg ((val b.1.w) - ((val a.1.w) % (val b.1.w))))))] ty_37 rfl rfl rfl rfl rfl (Upd.left (Upd.left (Upd.left (Upd.left (Upd.left (.head _) _) _) _) _) _) rfl hb3 (nl J (W_ret (ret1 rfl (.inr rfl) (resP rfl (List.mem_append_right _ (List.mem_append_right _ (List.mem_append_right _ (List.mem_append_right _ (List.mem_append_right _ (List.mem_cons_self)))))) ty_37 rfl) ?_))))))))))
       exact (by exact congrArg (fun r : I => (AV [pI r] : Value)) (show _ = (cJ_ a b) from bif_f h9 (bif_f h18 (bif_t h25 rfl))))
      ·skip
       refine W_f h25 rfl (ak_ (J5 _ _ (Rs fun K J => sQ (qF bq_ rfl rfl) rfl (sQ (qC ty_4 rfl (List.mem_append_right _ (List.mem_append_right _ (List.mem_append_right _ (List.mem_cons_of_mem _ (List.mem_cons_self))))) rfl) rfl (sE rfl (sQ (q_as (v' := AV [pI (E (Z.of (sgn b.1.neg ((val a.1.w) % (val b.1.w)))))]) (bU_ en_93 rfl (fun w hw => a7_ b.1.neg vl21_1 (dl ((val a.1.w) % (val b.1.w))) (dl_DL _) (Nat.le_trans (cB_ (k := 32) (drem (lt32 a.2))) (by decide)) w (SL.sl (SL.sub kl21_1 (List.sublist_append_left _ _)) hw))) (by rw [(dv_dl _)]; rfl)) rfl (sS [pI (E (Z.of (sgn b.1.neg ((val a.1.w) % (val b.1.w)))))] ty_37 rfl rfl rfl rfl rfl (Upd.left (Upd.left (Upd.left (.head _) _) _) _) rfl hb3 (nl J (W_ret (ret1 rfl (.inr rfl) (resP rfl (List.mem_append_right _ (List.mem_append_right _ (List.mem_append_right _ (List.mem_cons_self)))) ty_37 rfl) ?_))))))))))
       exact (by exact congrArg (fun r : I => (AV [pI r] : Value)) (show _ = (cJ_ a b) from bif_f h9 (bif_f h18 (bif_f h25 rfl))))
theorem cb_ (a b : R) (ha : a.Ok) (hb : b.Ok) : Ret Tryz.prog 41 [RV a, RV b] (RV (Z.rem a.dec b.dec).enc) := by
  have h := gb_ ⟨a, ha⟩ ⟨b, hb⟩
  rw [fT_] at h
  exact h
end Go.Proofs.YtapbefpeopaecaaGreatDoor

