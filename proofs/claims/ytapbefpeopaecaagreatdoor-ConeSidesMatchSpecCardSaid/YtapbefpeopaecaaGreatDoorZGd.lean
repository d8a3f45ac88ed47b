/- Walks: what these functions return. -/
import Derived.Test.YtapbefpeopaecaaGreatDoorZFa0
import Derived.Test.YtapbefpeopaecaaGreatDoorZFn
import Derived.Test.YtapbefpeopaecaaGreatDoorZGa
import Derived.Test.YtapbefpeopaecaaGreatDoorZSa
import Derived.Test.YtapbefpeopaecaaGreatDoorZSf
import Derived.Test.YtapbefpeopaecaaGreatDoorZSg
import Derived.Test.YtapbefpeopaecaaGreatDoorZSh
namespace Go.Proofs.YtapbefpeopaecaaGreatDoor
open Go.Kn Go.Num
set_option linter.unusedVariables false
set_option linter.unusedSimpArgs false
set_option maxRecDepth 20000
set_option maxHeartbeats 8000000
theorem bo_ (a : Rt) :
    Ret Tryz.prog 51 [AV [pI a.n, pI a.d]] (.bool (ae_ a)) := by
 refine as_ (N := 26) Tryz.func51 rfl rfl (by simp) (fun w0 => ?_)
 simp only [initF, Nat.reduceAdd]
 refine Rs fun K J => WL_r rfl (aQ_ rfl rfl (fun b1 hb1 => sE rfl (nl J (Sq fun K1 J1 => ?_))))
 refine bV_ [3, 4, 5, 6, 7, 8, 9, 10, 11, 12] (fun g M => (g 12 = .bool (!a.n.1.good || (!a.d.1.good))) ∧ M = [⟨b1, 39, flat [pI a.n, pI a.d]⟩]) (fun K2 J2 => ?_) ?_
 ·skip
  refine Rk fun K J => sQ (qF cI_ rfl rfl) rfl (sQ (qL ty_37 rfl m0 rfl) rfl (sC (.bool a.n.1.good) en_86 (aD_ a.n.1 a.n.2) rfl rfl rfl (sE rfl ?_)))
  rcases bt a.n.1.good with h3 | h3
  ·skip
   refine sB (not_f h3) rfl (sQ (qF b7_ rfl rfl) rfl (sQ (qL ty_37 rfl m0 rfl) rfl (sC (.bool a.d.1.good) en_86 (aD_ a.d.1 a.d.2) rfl rfl rfl (sE rfl (sE rfl (nl J ?_))))))
   refine J2 _ _ (by repeat first | exact .refl | refine .cons rfl ?_) ⟨_, s0, ?s12, rfl⟩
   case s12 => exact congrArg Value.bool (nor_t h3 rfl)
  ·skip
   refine sB (not_t h3) rfl (WL_n rfl (WL_n rfl (WL_n rfl (WL_n rfl (sE rfl (nl J ?_))))))
   refine J2 _ _ (by repeat first | exact .refl | refine .cons rfl ?_) ⟨_, s0, ?s12, rfl⟩
   case s12 => exact congrArg Value.bool (nor_f h3)
 ·skip
  rintro g4 M ⟨hg12, rfl⟩
  simp only [setG, hg12]
  clear hg12
  rcases bt (!a.n.1.good || (!a.d.1.good)) with h5 | h5
  ·skip
   refine W_t h5 rfl (Rs fun K J => sE rfl (nl J (W_ret (af_ (ret1 rfl (.inr rfl) rfl ?_)))))
   exact (by exact congrArg (fun r : Bool => (.bool r : Value)) (show _ = (ae_ a) from bif_t h5 rfl))
  ·skip
   refine W_f h5 rfl (aj_ (J1 _ _ ?_))
   refine bV_ [2, 13, 14, 15, 16, 17, 18, 19, 20, 21, 22, 23, 24, 25] (fun g M => (g 2 = .bool (decide (0 < (Z.signW a.d.dec).1) && decide ((E (Z.gcd a.n.dec a.d.dec)) = F_skewbackref04_one))) ∧ M = [⟨b1, 39, flat [pI a.n, pI a.d]⟩]) (fun K3 J3 => ?_) ?_
   ·skip
    refine Rk fun K J => sQ (qF b7_ rfl rfl) rfl (sQ (qL ty_37 rfl m0 rfl) rfl (sC (.int .i64 ((Z.signW a.d.dec).1)) en_40 (ca_ a.d.1 a.d.2) rfl rfl rfl (sE rfl ?_)))
    rcases bt (decide (0 < (Z.signW a.d.dec).1)) with h7 | h7
    ·skip
     refine sB h7 rfl (sQ (qF cI_ rfl rfl) rfl (sQ (qL ty_37 rfl m0 rfl) rfl (sQ (qF b7_ rfl rfl) rfl (sQ (qL ty_37 rfl m0 rfl) rfl (sC (AV [pI (E (Z.gcd a.n.dec a.d.dec))]) en_77 (c1_ a.n.1 a.d.1 a.n.2 a.d.2) rfl rfl rfl (sQ (q_ret en_75 dI_  rfl) rfl ?_))))))
     refine sQ (h4_ (r := decide ((E (Z.gcd a.n.dec a.d.dec)) = F_skewbackref04_one)) rfl rfl (et_ 8 (by decide) eg_37 lw_37 (eO_ lv_pI) (eO_ lv_pI) (f0_ eq_pI))) rfl (sE rfl (sE rfl (nl J ?_)))
     refine J3 _ _ (by repeat first | exact .refl | refine .cons rfl ?_) ⟨_, s0, ?s2, rfl⟩
     case s2 => exact congrArg Value.bool (and_t h7 rfl)
    ·skip
     refine sB h7 rfl (WL_n rfl (WL_n rfl (WL_n rfl (WL_n rfl (WL_n rfl (WL_n rfl (WL_n rfl (sE rfl (sE rfl (nl J ?_))))))))))
     refine J3 _ _ (by repeat first | exact .refl | refine .cons rfl ?_) ⟨_, s0, ?s2, rfl⟩
     case s2 => exact congrArg Value.bool (and_f h7)
   ·skip
    rintro g8 M ⟨hg2, rfl⟩
    simp only [setG, hg2]
    clear hg2
    refine W_ret (ret1 rfl (.inr rfl) rfl ?_)
    exact (by exact congrArg (fun r : Bool => (.bool r : Value)) (show _ = (ae_ a) from bif_f h5 rfl))

theorem gx_ (a : Rt) :
    Ret Tryz.prog 102 [AV [pI a.n, pI a.d]] (AV [pI ((bj_ a).n), pI ((bj_ a).d)]) := by
 refine as_ (N := 13) Tryz.func102 rfl rfl (by simp) (fun w0 => ?_)
 simp only [initF, Nat.reduceAdd]
 refine Rs fun K J => WL_r rfl (aQ_ rfl rfl (fun b1 hb1 => sN zp_39 rfl fun b2 hb2 => nl J (Sq fun K1 J1 => Rs fun K J => sQ (qL ty_39 rfl m1 rfl) rfl (sQ (q_ret en_51 (bo_ a) rfl) rfl (sE rfl (nl J ?_))))))
 rcases bt (ae_ a) with h3 | h3
 ·skip
  refine W_f (not_f h3) rfl (aj_ (J1 _ _ (ds (sd (sk (s0))) [0,4,8,12,16,20,25] [6] mix (by kernel_rfl) (fun K J => pQ rfl (qF cI_ rfl rfl) (pQ rfl (qL ty_37 rfl m1 rfl) (pC (AV [pI (E (Z.neg a.n.dec))]) en_84 (dH_ a.n.1 a.n.2) rfl rfl rfl (pQ rfl (qF b7_ rfl rfl) (pQ rfl (qL ty_37 rfl m1 rfl) (pQ rfl (b2_ zp_39 pl_39 rfl (.cons [pI (E (Z.neg a.n.dec))] [pI (E (Z.neg a.n.dec)), pI I0] rfl rfl rfl rfl (.cons [pI a.d] [pI (E (Z.neg a.n.dec)), pI a.d] rfl rfl rfl rfl (.nil _)))) (oS [pI (E (Z.neg a.n.dec)), pI a.d] ty_39 rfl rfl rfl rfl rfl rfl (.head _) rfl hb2 rfl (sd s0) (fl J (W_ret (ret1 rfl (.inr rfl) (resP rfl m0 ty_39 rfl) ?_)))))))))))))
  exact (by exact congrArg (fun r : Rt => (AV [pI r.n, pI r.d] : Value)) (show _ = (bj_ a) from bif_t h3 rfl))
 ·skip
  refine W_t (not_t h3) rfl (Rs fun K J => sQ (q_ret en_76 c2_  rfl) rfl (sS [pI bK_.n, pI bK_.d] ty_39 rfl rfl rfl rfl rfl (.head _) rfl hb2 (nl J (W_ret (af_ (ret1 rfl (.inr rfl) (resP rfl m0 ty_39 rfl) ?_))))))
  exact (by exact congrArg (fun r : Rt => (AV [pI r.n, pI r.d] : Value)) (show _ = (bj_ a) from bif_f h3 rfl))

theorem cr_ (a : Rt) (b : Rt) :
    Ret Tryz.prog 27 [AV [pI a.n, pI a.d], AV [pI b.n, pI b.d]] (AV [pI ((ag_ a b).n), pI ((ag_ a b).d)]) := by
 refine as_ (N := 44) Tryz.func27 rfl rfl (by simp) (fun w0 => ?_)
 simp only [initF, Nat.reduceAdd]
 refine Rs fun K J => WL_r rfl (aQ_ rfl rfl (fun b1 hb1 => WL_r rfl (aQ_ rfl rfl (fun b2 hb2 => sN zp_39 rfl fun b3 hb3 => nl J (Sq fun K1 J1 => ?_)))))
 refine bV_ [8, 9, 10, 11, 12, 13, 14, 15] (fun g M => (g 15 = .bool (!(ae_ a) || (!(ae_ b)))) ∧ M = [⟨b3, 39, flat [pI I0, pI I0]⟩, ⟨b2, 39, flat [pI b.n, pI b.d]⟩, ⟨b1, 39, flat [pI a.n, pI a.d]⟩]) (fun K2 J2 => ?_) ?_
 ·skip
  refine Rk fun K J => sQ (qL ty_39 rfl m2 rfl) rfl (sQ (q_ret en_51 (bo_ a) rfl) rfl (sE rfl ?_))
  rcases bt (ae_ a) with h5 | h5
  ·skip
   refine sB (not_f h5) rfl (sQ (qL ty_39 rfl m1 rfl) rfl (sQ (q_ret en_51 (bo_ b) rfl) rfl (sE rfl (sE rfl (nl J ?_)))))
   refine J2 _ _ (by repeat first | exact .refl | refine .cons rfl ?_) ⟨_, s0, ?s15, rfl⟩
   case s15 => exact congrArg Value.bool (nor_t h5 rfl)
  ·skip
   refine sB (not_t h5) rfl (WL_n rfl (WL_n rfl (WL_n rfl (sE rfl (nl J ?_)))))
   refine J2 _ _ (by repeat first | exact .refl | refine .cons rfl ?_) ⟨_, s0, ?s15, rfl⟩
   case s15 => exact congrArg Value.bool (nor_f h5)
 ·skip
  rintro g6 M ⟨hg15, rfl⟩
  simp only [setG, hg15]
  clear hg15
  rcases bt (!(ae_ a) || (!(ae_ b))) with h7 | h7
  ·skip
   refine W_t h7 rfl (Rs fun K J => sQ (q_ret en_76 c2_  rfl) rfl (sS [pI bK_.n, pI bK_.d] ty_39 rfl rfl rfl rfl rfl (.head _) rfl hb3 (nl J (W_ret (af_ (ret1 rfl (.inr rfl) (resP rfl m0 ty_39 rfl) ?_))))))
   exact (by exact congrArg (fun r : Rt => (AV [pI r.n, pI r.d] : Value)) (show _ = (ag_ a b) from bif_t h7 rfl))
  ·skip
   refine W_f h7 rfl (aj_ (J1 _ _ (Rs fun K J => sQ (qF b7_ rfl rfl) rfl (sQ (qL ty_37 rfl m2 rfl) rfl (sQ (qF b7_ rfl rfl) rfl (sQ (qL ty_37 rfl m1 rfl) rfl (sC (AV [pI (E (Z.gcd a.d.dec b.d.dec))]) en_77 (c1_ a.d.1 b.d.1 a.d.2 b.d.2) rfl rfl rfl (sN zp_37 rfl fun b8 hb8 => sS [pI (E (Z.gcd a.d.dec b.d.dec))] ty_37 rfl rfl rfl rfl rfl (.head _) rfl hb8 (nl J (Rs fun K J => sQ (qF b7_ rfl rfl) rfl (sQ (qL ty_37 rfl m3 rfl) rfl (sQ (qL ty_37 rfl m0 rfl) rfl (sC (AV [pI (E (Z.quo a.d.dec (Z.gcd a.d.dec b.d.dec)))]) en_78 (bB_ a.d.1 (E (Z.gcd a.d.dec b.d.dec)).1 a.d.2 (E (Z.gcd a.d.dec b.d.dec)).2) rfl rfl (cg2 (fun p q => AV [pI (E (Z.quo p q))]) rfl (E_dec _)) (sN zp_37 rfl fun b9 hb9 => sS [pI (E (Z.quo a.d.dec (Z.gcd a.d.dec b.d.dec)))] ty_37 rfl rfl rfl rfl rfl (.head _) rfl hb9 (nl J ?_)))))))))))))))
   refine Rs fun K J => sQ (qF b7_ rfl rfl) rfl (sQ (qL ty_37 rfl m3 rfl) rfl (sQ (qL ty_37 rfl m1 rfl) rfl (sC (AV [pI (E (Z.quo b.d.dec (Z.gcd a.d.dec b.d.dec)))]) en_78 (bB_ b.d.1 (E (Z.gcd a.d.dec b.d.dec)).1 b.d.2 (E (Z.gcd a.d.dec b.d.dec)).2) rfl rfl (cg2 (fun p q => AV [pI (E (Z.quo p q))]) rfl (E_dec _)) (sN zp_37 rfl fun b10 hb10 => sS [pI (E (Z.quo b.d.dec (Z.gcd a.d.dec b.d.dec)))] ty_37 rfl rfl rfl rfl rfl (.head _) rfl hb10 (nl J (ds (sk (sk (sk (sd (sk (sk (s0))))))) [0,4,8,12,16,20,24,28,32,36,40,44,48,52,57] [14] mix (by kernel_rfl) (fun K J => pQ rfl (qF cI_ rfl rfl) (pQ rfl (qL ty_37 rfl m5 rfl) (pQ rfl (qL ty_37 rfl m0 rfl) (pC (AV [pI (E (Z.mul a.n.dec (Z.quo b.d.dec (Z.gcd a.d.dec b.d.dec))))]) en_80 (bt_ a.n.1 (E (Z.quo b.d.dec (Z.gcd a.d.dec b.d.dec))).1 a.n.2 (E (Z.quo b.d.dec (Z.gcd a.d.dec b.d.dec))).2) rfl rfl (cg2 (fun p q => AV [pI (E (Z.mul p q))]) rfl (E_dec _)) (pQ rfl (qF cI_ rfl rfl) (pQ rfl (qL ty_37 rfl m4 rfl) (pQ rfl (qL ty_37 rfl m1 rfl) (pC (AV [pI (E (Z.mul b.n.dec (Z.quo a.d.dec (Z.gcd a.d.dec b.d.dec))))]) en_80 (bt_ b.n.1 (E (Z.quo a.d.dec (Z.gcd a.d.dec b.d.dec))).1 b.n.2 (E (Z.quo a.d.dec (Z.gcd a.d.dec b.d.dec))).2) rfl rfl (cg2 (fun p q => AV [pI (E (Z.mul p q))]) rfl (E_dec _)) ?_))))))))))))))
   obtain ⟨r11, hr11⟩ := nm ((E (Z.add (Z.mul a.n.dec (Z.quo b.d.dec (Z.gcd a.d.dec b.d.dec))) (Z.mul b.n.dec (Z.quo a.d.dec (Z.gcd a.d.dec b.d.dec))))) : I)
   refine pC (AV [pI r11]) en_79 (dK_ (E (Z.mul a.n.dec (Z.quo b.d.dec (Z.gcd a.d.dec b.d.dec)))).1 (E (Z.mul b.n.dec (Z.quo a.d.dec (Z.gcd a.d.dec b.d.dec)))).1 (E (Z.mul a.n.dec (Z.quo b.d.dec (Z.gcd a.d.dec b.d.dec)))).2 (E (Z.mul b.n.dec (Z.quo a.d.dec (Z.gcd a.d.dec b.d.dec)))).2) rfl rfl ((cg2 (fun p q => AV [pI (E (Z.add p q))]) (E_dec _) (E_dec _)).trans (by rw [hr11])) (pQ rfl (qL ty_37 rfl m1 rfl) (pQ rfl (qF b7_ rfl rfl) (pQ rfl (qL ty_37 rfl m4 rfl) (pC (AV [pI (E (Z.mul (Z.quo a.d.dec (Z.gcd a.d.dec b.d.dec)) b.d.dec))]) en_80 (bt_ (E (Z.quo a.d.dec (Z.gcd a.d.dec b.d.dec))).1 b.d.1 (E (Z.quo a.d.dec (Z.gcd a.d.dec b.d.dec))).2 b.d.2) rfl rfl (cg2 (fun p q => AV [pI (E (Z.mul p q))]) (E_dec _) rfl) ?_))))
   obtain ⟨r12, hr12⟩ := nm ((ai_ r11 (E (Z.mul (Z.quo a.d.dec (Z.gcd a.d.dec b.d.dec)) b.d.dec))) : Rt)
   refine pC (AV [pI r12.n, pI r12.d]) en_73 (b9_ r11 (E (Z.mul (Z.quo a.d.dec (Z.gcd a.d.dec b.d.dec)) b.d.dec))) rfl rfl (by rw [hr12]; first | done | rfl) (oS [pI r12.n, pI r12.d] ty_39 rfl rfl rfl rfl rfl rfl (.tail _ (.tail _ (.tail _ (.head _)))) rfl hb3 rfl (sk (sk (sk (sd s0)))) (fl J (W_ret (ret1 rfl (.inr rfl) (resP rfl m3 ty_39 rfl) ?_))))
   exact (by subst hr12; subst hr11; exact congrArg (fun r : Rt => (AV [pI r.n, pI r.d] : Value)) (show _ = (ag_ a b) from bif_f h7 rfl))

theorem c3_ (a : Rt) (b : Rt) :
    Ret Tryz.prog 55 [AV [pI a.n, pI a.d], AV [pI b.n, pI b.d]] (AV [pI ((ak_ a b).n), pI ((ak_ a b).d)]) := by
 refine as_ (N := 9) Tryz.func55 rfl rfl (by simp) (fun w0 => ?_)
 simp only [initF, Nat.reduceAdd]
 refine Rs fun K J => WL_r rfl (aQ_ rfl rfl (fun b1 hb1 => WL_r rfl (aQ_ rfl rfl (fun b2 hb2 => sN zp_39 rfl fun b3 hb3 => nl J (ds (sd (sk (sk (s0)))) [0,4,8,12,17] [4] mix (by kernel_rfl) (fun K J => pQ rfl (qL ty_39 rfl m2 rfl) (pQ rfl (qL ty_39 rfl m1 rfl) (pQ rfl (q_ret sm_ (gx_ b) rfl) ?_))))))))
 obtain ⟨r4, hr4⟩ := nm ((ag_ a (bj_ b)) : Rt)
 refine pC (AV [pI r4.n, pI r4.d]) en_27 (cr_ a (bj_ b)) rfl rfl (by rw [hr4]; first | done | rfl) (oS [pI r4.n, pI r4.d] ty_39 rfl rfl rfl rfl rfl rfl (.head _) rfl hb3 rfl (sd s0) (fl J (W_ret (ret1 rfl (.inr rfl) (resP rfl m0 ty_39 rfl) ?_))))
 exact (by subst hr4; rfl)

theorem bv_ (a : Rt) (b : Rt) :
    Ret Tryz.prog 38 [AV [pI a.n, pI a.d], AV [pI b.n, pI b.d]] (AV [pI ((ah_ a b).n), pI ((ah_ a b).d)]) := by
 refine as_ (N := 41) Tryz.func38 rfl rfl (by simp) (fun w0 => ?_)
 simp only [initF, Nat.reduceAdd]
 refine Rs fun K J => WL_r rfl (aQ_ rfl rfl (fun b1 hb1 => WL_r rfl (aQ_ rfl rfl (fun b2 hb2 => sN zp_39 rfl fun b3 hb3 => nl J (Sq fun K1 J1 => ?_)))))
 refine bV_ [9, 10, 11, 12, 13, 14, 15, 16] (fun g M => (g 16 = .bool (!(ae_ a) || (!(ae_ b)))) ∧ M = [⟨b3, 39, flat [pI I0, pI I0]⟩, ⟨b2, 39, flat [pI b.n, pI b.d]⟩, ⟨b1, 39, flat [pI a.n, pI a.d]⟩]) (fun K2 J2 => ?_) ?_
 ·skip
  refine Rk fun K J => sQ (qL ty_39 rfl m2 rfl) rfl (sQ (q_ret en_51 (bo_ a) rfl) rfl (sE rfl ?_))
  rcases bt (ae_ a) with h5 | h5
  ·skip
   refine sB (not_f h5) rfl (sQ (qL ty_39 rfl m1 rfl) rfl (sQ (q_ret en_51 (bo_ b) rfl) rfl (sE rfl (sE rfl (nl J ?_)))))
   refine J2 _ _ (by repeat first | exact .refl | refine .cons rfl ?_) ⟨_, s0, ?s16, rfl⟩
   case s16 => exact congrArg Value.bool (nor_t h5 rfl)
  ·skip
   refine sB (not_t h5) rfl (WL_n rfl (WL_n rfl (WL_n rfl (sE rfl (nl J ?_)))))
   refine J2 _ _ (by repeat first | exact .refl | refine .cons rfl ?_) ⟨_, s0, ?s16, rfl⟩
   case s16 => exact congrArg Value.bool (nor_f h5)
 ·skip
  rintro g6 M ⟨hg16, rfl⟩
  simp only [setG, hg16]
  clear hg16
  rcases bt (!(ae_ a) || (!(ae_ b))) with h7 | h7
  ·skip
   refine W_t h7 rfl (Rs fun K J => sQ (q_ret en_76 c2_  rfl) rfl (sS [pI bK_.n, pI bK_.d] ty_39 rfl rfl rfl rfl rfl (.head _) rfl hb3 (nl J (W_ret (af_ (ret1 rfl (.inr rfl) (resP rfl m0 ty_39 rfl) ?_))))))
   exact (by exact congrArg (fun r : Rt => (AV [pI r.n, pI r.d] : Value)) (show _ = (ah_ a b) from bif_t h7 rfl))
  ·skip
   refine W_f h7 rfl (aj_ (J1 _ _ (Rs fun K J => sQ (qF cI_ rfl rfl) rfl (sQ (qL ty_37 rfl m2 rfl) rfl (sQ (qF b7_ rfl rfl) rfl (sQ (qL ty_37 rfl m1 rfl) rfl (sQ (q_ret en_73 (b9_ a.n b.d) rfl) rfl (sN zp_39 rfl fun b8 hb8 => sS [pI ((ai_ a.n b.d).n), pI ((ai_ a.n b.d).d)] ty_39 rfl rfl rfl rfl rfl (.head _) rfl hb8 (nl J (Rs fun K J => sQ (qF cI_ rfl rfl) rfl (sQ (qL ty_37 rfl m2 rfl) rfl (sQ (qF b7_ rfl rfl) rfl (sQ (qL ty_37 rfl m3 rfl) rfl (sQ (q_ret en_73 (b9_ b.n a.d) rfl) rfl (sN zp_39 rfl fun b9 hb9 => sS [pI ((ai_ b.n a.d).n), pI ((ai_ b.n a.d).d)] ty_39 rfl rfl rfl rfl rfl (.head _) rfl hb9 ?_)))))))))))))))
   refine nl J (Rs fun K J => sQ (qF cI_ rfl rfl) rfl (sQ (qL ty_37 rfl m1 rfl) rfl (sQ (qF cI_ rfl rfl) rfl (sQ (qL ty_37 rfl m0 rfl) rfl ?_))))
   obtain ⟨r10, hr10⟩ := nm ((E (Z.mul ((ai_ a.n b.d).n).dec ((ai_ b.n a.d).n).dec)) : I)
   refine sC (AV [pI r10]) en_80 (bt_ ((ai_ a.n b.d).n).1 ((ai_ b.n a.d).n).1 ((ai_ a.n b.d).n).2 ((ai_ b.n a.d).n).2) rfl rfl (by rw [hr10]; first | done | rfl) (sN zp_37 rfl fun b11 hb11 => sS [pI r10] ty_37 rfl rfl rfl rfl rfl (.head _) rfl hb11 (nl J (Rs fun K J => sQ (qF b7_ rfl rfl) rfl (sQ (qL ty_37 rfl m2 rfl) rfl (sQ (qF b7_ rfl rfl) rfl (sQ (qL ty_37 rfl m1 rfl) rfl ?_))))))
   obtain ⟨r12, hr12⟩ := nm ((E (Z.mul ((ai_ a.n b.d).d).dec ((ai_ b.n a.d).d).dec)) : I)
   refine sC (AV [pI r12]) en_80 (bt_ ((ai_ a.n b.d).d).1 ((ai_ b.n a.d).d).1 ((ai_ a.n b.d).d).2 ((ai_ b.n a.d).d).2) rfl rfl (by rw [hr12]; first | done | rfl) (sN zp_37 rfl fun b13 hb13 => sS [pI r12] ty_37 rfl rfl rfl rfl rfl (.head _) rfl hb13 (nl J (Rs fun K J => sQ (qL ty_37 rfl m1 rfl) rfl (sQ (qL ty_37 rfl m0 rfl) rfl (sQ (q_ret en_73 (b9_ r10 r12) rfl) rfl (sS [pI ((ai_ r10 r12).n), pI ((ai_ r10 r12).d)] ty_39 rfl rfl rfl rfl rfl (.tail _ (.tail _ (.tail _ (.tail _ (.head _))))) rfl hb3 (nl J (W_ret (ret1 rfl (.inr rfl) (resP rfl m4 ty_39 rfl) ?_)))))))))
   exact (by subst hr12; subst hr10; exact congrArg (fun r : Rt => (AV [pI r.n, pI r.d] : Value)) (show _ = (ah_ a b) from bif_f h7 rfl))

theorem eP_ (a : Rt) (b : Bool) :
    Ret Tryz.prog 120 [AV [pI a.n, pI a.d], .bool b] (AV [pI (bN_ a b)]) := by
 refine as_ (N := 8) Tryz.func120 rfl rfl (by simp) (fun w0 => ?_)
 simp only [initF, Nat.reduceAdd]
 refine Rs fun K J => WL_r rfl (aQ_ rfl rfl (fun b1 hb1 => sN zp_37 rfl fun b2 hb2 => nl J (Sq fun K1 J1 => Rs fun K J => sE rfl (nl J ?_))))
 rcases bt b with h3 | h3
 ·skip
  refine W_t h3 rfl (Rs fun K J => sC (AV [pI (E (Z.of 0))]) en_74 (aW_ (wl 0).1 (wl 0).2) rfl rfl rfl ?_)
  refine sS [pI (E (Z.of 0))] ty_37 rfl rfl rfl rfl rfl (.head _) rfl hb2 (nl J (W_ret (af_ (ret1 rfl (.inr rfl) (resP rfl m0 ty_37 rfl) ?_))))
  exact (by exact congrArg (fun r : I => (AV [pI r] : Value)) (show _ = (bN_ a b) from bif_t h3 rfl))
 ·skip
  refine W_f h3 rfl (aj_ (J1 _ _ (Rs fun K J => sC (AV [pI (E Z.bad)]) en_90 bh_ rfl rfl rfl (sS [pI (E Z.bad)] ty_37 rfl rfl rfl rfl rfl (.head _) rfl hb2 (nl J (W_ret (ret1 rfl (.inr rfl) (resP rfl m0 ty_37 rfl) ?_)))))))
  exact (by exact congrArg (fun r : I => (AV [pI r] : Value)) (show _ = (bN_ a b) from bif_f h3 rfl))
end Go.Proofs.YtapbefpeopaecaaGreatDoor

