/- Walks: what these functions return. -/
import Derived.Test.YtjdfogfmeibkgaaGreatZGE
import Derived.Test.YtjdfogfmeibkgaaGreatZGa
import Derived.Test.YtjdfogfmeibkgaaGreatZSa
import Derived.Test.YtjdfogfmeibkgaaGreatZSg
import Derived.Test.YtjdfogfmeibkgaaGreatZSh
import Derived.Test.YtjdfogfmeibkgaaGreatZFp
import Derived.Test.YtjdfogfmeibkgaaGreatZLa
import Derived.Test.YtjdfogfmeibkgaaGreatZYc
import Derived.Test.YtjdfogfmeibkgaaGreatZYr
import Derived.Test.YtjdfogfmeibkgaaGreatZYf
namespace Go.Proofs.YtjdfogfmeibkgaaGreat
open Go.Kn Go.Num
set_option linter.unusedVariables false
set_option linter.unusedSimpArgs false
set_option maxRecDepth 20000
set_option maxHeartbeats 8000000
theorem gk_ (a : Rt) :
    Ret Tryz.prog 100 [AV [pI a.n, pI a.d]] (.bool (cJ_ a)) := by
 refine aD_ (N := 26) Tryz.func100 rfl rfl (by simp) (fun w0 => ?_)
 simp only [initF, Nat.reduceAdd]
 refine Rs fun K J => WL_r rfl (b5_ rfl rfl (fun b1 hb1 => sE rfl (nl J (Sq fun K1 J1 => ?_))))
 refine bu_ [3, 4, 5, 6, 7, 8, 9, 10, 11, 12] (fun g M => (g 12 = .bool (!a.n.1.good || (!a.d.1.good))) ∧ M = [⟨b1, 44, flat [pI a.n, pI a.d]⟩]) (fun K2 J2 => ?_) ?_
 ·skip
  refine Rk fun K J => sQ (qF em_ rfl rfl) rfl (sQ (qL ty_38 rfl m0 rfl) rfl (sC (.bool a.n.1.good) eF_ (aA_ a.n.1 a.n.2) rfl rfl rfl (sE rfl ?_)))
  rcases bt a.n.1.good with h3 | h3
  ·skip
   refine sB (not_f h3) rfl (sQ (qF dg_ rfl rfl) rfl (sQ (qL ty_38 rfl m0 rfl) rfl (sC (.bool a.d.1.good) eF_ (aA_ a.d.1 a.d.2) rfl rfl rfl (sE rfl (sE rfl (nl J ?_))))))
   refine J2 _ _ (by repeat first | exact .refl | refine .cons rfl ?_) ⟨_, s0, ?s12, rfl⟩
   case s12 => exact congrArg Value.bool (nor_t h3 rfl)
  ·skip
   refine sB (not_t h3) rfl (WL_n rfl (WL_n rfl (WL_n rfl (WL_n rfl (sE rfl (nl J ?_))))))
   refine J2 _ _ (by repeat first | exact .refl | refine .cons rfl ?_) ⟨_, s0, ?s12, rfl⟩
   case s12 => exact congrArg Value.bool (nor_f h3)
 ·skip
  rintro g4 M ⟨hg12, rfl⟩
  simp only [setG, hg12]
  clear hg12
  rcases bt (!a.n.1.good || (!a.d.1.good)) with h5 | h5
  ·skip
   refine W_t h5 rfl (Rs fun K J => sE rfl (nl J (W_ret (ah_ (ret1 rfl (.inr rfl) rfl ?_)))))
   exact (by exact congrArg (fun r : Bool => (.bool r : Value)) (show _ = (cJ_ a) from bif_t h5 rfl))
  ·skip
   refine W_f h5 rfl (aj_ (J1 _ _ ?_))
   refine bu_ [2, 13, 14, 15, 16, 17, 18, 19, 20, 21, 22, 23, 24, 25] (fun g M => (g 2 = .bool (decide (0 < (Z.signW a.d.dec).1) && decide ((E (Z.gcd a.n.dec a.d.dec)) = F_skewbackref04_one))) ∧ M = [⟨b1, 44, flat [pI a.n, pI a.d]⟩]) (fun K3 J3 => ?_) ?_
   ·skip
    refine Rk fun K J => sQ (qF dg_ rfl rfl) rfl (sQ (qL ty_38 rfl m0 rfl) rfl (sC (.int .i64 ((Z.signW a.d.dec).1)) en_71 (b0_ a.d.1 a.d.2) rfl rfl rfl (sE rfl ?_)))
    rcases bt (decide (0 < (Z.signW a.d.dec).1)) with h7 | h7
    ·skip
     refine sB h7 rfl (sQ (qF em_ rfl rfl) rfl (sQ (qL ty_38 rfl m0 rfl) rfl (sQ (qF dg_ rfl rfl) rfl (sQ (qL ty_38 rfl m0 rfl) rfl (sC (AV [pI (E (Z.gcd a.n.dec a.d.dec))]) ni_ (d4_ a.n.1 a.d.1 a.n.2 a.d.2) rfl rfl rfl (sQ (q_ret py_ e4_  rfl) rfl ?_))))))
     refine sQ (fI_ (r := decide ((E (Z.gcd a.n.dec a.d.dec)) = F_skewbackref04_one)) rfl rfl (dM_ 8 (by decide) eg_38 lw_38 (dW_ lv_pI) (dW_ lv_pI) (e5_ eq_pI))) rfl (sE rfl (sE rfl (nl J ?_)))
     refine J3 _ _ (by repeat first | exact .refl | refine .cons rfl ?_) ⟨_, s0, ?s2, rfl⟩
     case s2 => exact congrArg Value.bool (and_t h7 rfl)
    ·skip
     refine sB h7 rfl (WL_n rfl (WL_n rfl (WL_n rfl (WL_n rfl (WL_n rfl (WL_n rfl (WL_n rfl (sE rfl (sE rfl (nl J ?_))))))))))
     refine J3 _ _ (by repeat first | exact .refl | refine .cons rfl ?_) ⟨_, s0, ?s2, rfl⟩
     case s2 => exact congrArg Value.bool (and_f h7)
   ·skip
    rintro g8 M ⟨hg2, rfl⟩
    simp only [setG, hg2]
    clear hg2
    refine W_ret (ret1 rfl (.inr rfl) rfl ?_)
    exact (by exact congrArg (fun r : Bool => (.bool r : Value)) (show _ = (cJ_ a) from bif_f h5 rfl))

theorem gc_ (a : Rt) :
    Ret Tryz.prog 37 [AV [pI a.n, pI a.d]] (.bool (cY_ a)) := by
 refine aD_ (N := 12) Tryz.func37 rfl rfl (by simp) (fun w0 => ?_)
 simp only [initF, Nat.reduceAdd]
 refine Rs fun K J => WL_r rfl (b5_ rfl rfl (fun b1 hb1 => sE rfl (nl J (Rs fun K J => sQ (qL ty_44 rfl m0 rfl) rfl (sQ (q_ret q0_ (gk_ a) rfl) rfl (sE rfl (nl J ?_)))))))
 refine bu_ [2, 6, 7, 8, 9, 10, 11] (fun g M => (g 2 = .bool ((cJ_ a) || (decide (a.n = ft_.n) && decide (a.d = ft_.d)))) ∧ M = [⟨b1, 44, flat [pI a.n, pI a.d]⟩]) (fun K1 J1 => ?_) ?_
 ·skip
  refine dr (sk (s0)) [0,4,8,12,16,20,24] [] mix (by kernel_rfl) (fun K J => pE rfl ?_)
  rcases bt (cJ_ a) with h3 | h3
  ·skip
   refine pB h3 rfl (PL_n rfl rfl (PL_n rfl rfl (PL_n rfl rfl (pE rfl (pE rfl (fl J ?_))))))
   refine J1 _ _ (by repeat first | exact .refl | refine .cons rfl ?_) ⟨_, s0, ?s2, rfl⟩
   case s2 => exact congrArg Value.bool (or_t h3)
  ·skip
   refine pB h3 rfl (pQ rfl (qL ty_44 rfl m0 rfl) (pQ rfl (q_ret pu_ eY_  rfl) ?_))
   refine pQ rfl (fI_ (r := (decide (a.n = ft_.n) && decide (a.d = ft_.d))) rfl rfl (dM_ 8 (by decide) eg_44 lw_44 (gx_ lv_pI (dW_ lv_pI)) (gx_ lv_pI (dW_ lv_pI)) (io_ rfl eq_pI (e5_ eq_pI)))) (pE rfl (pE rfl (fl J ?_)))
   refine J1 _ _ (by repeat first | exact .refl | refine .cons rfl ?_) ⟨_, s0, ?s2, rfl⟩
   case s2 => exact congrArg Value.bool (or_f h3 rfl)
 ·skip
  rintro g4 M ⟨hg2, rfl⟩
  simp only [setG, hg2]
  clear hg2
  refine W_ret (ret1 rfl (.inr rfl) rfl ?_)
  exact (by rfl)
end Go.Proofs.YtjdfogfmeibkgaaGreat

namespace Go.Proofs.YtjdfogfmeibkgaaGreat
open Go.Kn Go.Num
set_option linter.unusedVariables false
set_option linter.unusedSimpArgs false
set_option maxRecDepth 20000
set_option maxHeartbeats 8000000
theorem hd_ (vp : Value) (p : (List I)) (x : Rt) (w : World) (hp : Slr w elI vp p) :
    Calls Tryz.prog 8 [vp, AV [pI x.n, pI x.d]].toArray w (fun e w' => e = .returned (.bool (bG_ p x)) ∧ Ext w w') := by
 obtain ⟨p_p, c_p, rfl⟩ := hp.form
 refine aF_ (N := 48) Tryz.func8 rfl rfl (by simp) ?_
 obtain ⟨w0, rfl⟩ : ∃ w0, w0 = w := ⟨_, rfl⟩
 have Hp := hp.old
 have hm_p := hp.max
 simp only [initF, Nat.reduceAdd]
 refine Rs fun K J => WL_r rfl (b5_ rfl rfl (fun b1 hb1 => sE rfl (nl J (Sq fun K1 J1 => ?_))))
 refine bu_ [8, 9, 10, 11, 12, 13, 14, 15] (fun g M => (g 15 = .bool (!(as_ p) || (!(cY_ x)))) ∧ M = [⟨b1, 44, flat [pI x.n, pI x.d]⟩]) (fun K2 J2 => ?_) ?_
 ·skip
  refine Rk fun K J => sE rfl (sQ (q_as (v' := .bool (as_ p)) (av_ en_36 rfl (fun w hw => dN_ _ p w (SLe.ap hw (SLe.sub Hp sn)))) rfl) rfl (sE rfl ?_))
  rcases bt (as_ p) with h3 | h3
  ·skip
   refine sB (not_f h3) rfl (sQ (qL ty_44 rfl m0 rfl) rfl (sQ (q_ret en_37 (gc_ x) rfl) rfl (sE rfl (sE rfl (nl J ?_)))))
   refine J2 _ _ (by repeat first | exact .refl | refine .cons rfl ?_) ⟨_, s0, ?s15, rfl⟩
   case s15 => exact congrArg Value.bool (nor_t h3 rfl)
  ·skip
   refine sB (not_t h3) rfl (WL_n rfl (WL_n rfl (WL_n rfl (sE rfl (nl J ?_)))))
   refine J2 _ _ (by repeat first | exact .refl | refine .cons rfl ?_) ⟨_, s0, ?s15, rfl⟩
   case s15 => exact congrArg Value.bool (nor_f h3)
 ·skip
  rintro g4 M ⟨hg15, rfl⟩
  simp only [setG, hg15]
  clear hg15
  rcases bt (!(as_ p) || (!(cY_ x))) with h5 | h5
  ·skip
   refine W_t h5 rfl (Rs fun K J => sQ (q_ret en_14 cm_  rfl) rfl (sE rfl (nl J (W_ret (ah_ (ret1 rfl (.inr rfl) rfl ?_))))))
   exact (by exact congrArg (fun r : Bool => (.bool r : Value)) (show _ = (bG_ p x) from bif_t h5 rfl))
  ·skip
   refine W_f h5 rfl (aj_ (J1 _ _ ?_))
   obtain ⟨hRp, hLp⟩ := hW_ (Bool.or_eq_false_iff.1 h5).1
   refine Rs fun K J => sE rfl (sQ (qL ty_44 rfl m0 rfl) rfl (sQ (q_as (v' := .tuple #[.int .i64 (((dd_ p x).1).1), .bool ((dd_ p x).2)]) (av_ en_38 rfl (fun w hw => jO_ _ p x w (SLe.ap hw (SLe.sub Hp sn)) (by first | omega | (simp only [List.length_cons, List.length_nil, and_true, true_and] <;> omega) | simp))) rfl) rfl ?_))
   refine sE rfl (sE rfl (sE rfl (sE rfl (sE rfl (nl J (Rs fun K J => sE rfl (sQ (qL ty_44 rfl m0 rfl) rfl (sQ (q_as (v' := AV [ci .i64 (((aL_ p x).s).1), cb ((aL_ p x).ok)]) (av_ en_39 rfl (fun w hw => gg_ _ p x w (SLe.ap hw (SLe.sub Hp sn)) (by first | omega | (simp only [List.length_cons, List.length_nil, and_true, true_and] <;> omega) | simp))) rfl) rfl ?_))))))))
   refine sN zp_49 rfl fun b6 hb6 => sS [ci .i64 (((aL_ p x).s).1), cb ((aL_ p x).ok)] ty_49 rfl rfl rfl rfl rfl (.head _) rfl hb6 (nl J ?_)
   refine bu_ [4, 26, 27, 28, 29, 30, 31, 32, 33, 34, 35, 36, 37, 38, 39, 40, 41, 42, 43, 44, 45, 46, 47] (fun g M => (g 4 = .bool (aO_ && ((decide (((ch_ p x).n) = ((a2_ p x).n)) && decide (((ch_ p x).d) = ((a2_ p x).d))) && ((((dd_ p x).1).1 == ((aL_ p x).s).1) && ((dd_ p x).2 == (aL_ p x).ok))))) ∧ M = [⟨b6, 49, flat [ci .i64 (((aL_ p x).s).1), cb ((aL_ p x).ok)]⟩, ⟨b1, 44, flat [pI x.n, pI x.d]⟩]) (fun K3 J3 => ?_) ?_
   ·skip
    refine dr s0 [0,4,8,12,16,20,24,28,32,36,40,44,48,52,56,60,64,68,72,76,80,84,88] [] mix (by kernel_rfl) (fun K J => pQ rfl (q_ret en_14 cm_  rfl) ?_)
    rcases bt aO_ with h10 | h10
    ·skip
     refine pB h10 rfl (pE rfl (pQ rfl (qL ty_44 rfl m1 rfl) (pQ rfl (q_as (v' := AV [pI ((ch_ p x).n), pI ((ch_ p x).d)]) (av_ en_40 rfl (fun w hw => fZ_ _ p x w (SLe.ap hw (SLe.sub Hp sn)) (by first | omega | (simp only [List.length_cons, List.length_nil, and_true, true_and] <;> omega) | simp))) rfl) ?_)))
     refine pE rfl (pQ rfl (qL ty_44 rfl m1 rfl) (pQ rfl (q_as (v' := AV [pI ((a2_ p x).n), pI ((a2_ p x).d)]) (av_ en_41 rfl (fun w hw => gl_ _ p x w (SLe.ap hw (SLe.sub Hp sn)) (by first | omega | (simp only [List.length_cons, List.length_nil, and_true, true_and] <;> omega) | simp))) rfl) ?_))
     refine pQ rfl (fI_ (r := (decide (((ch_ p x).n) = ((a2_ p x).n)) && decide (((ch_ p x).d) = ((a2_ p x).d)))) rfl rfl (dM_ 8 (by decide) eg_44 lw_44 (gx_ lv_pI (dW_ lv_pI)) (gx_ lv_pI (dW_ lv_pI)) (io_ rfl eq_pI (e5_ eq_pI)))) (pE rfl ?_)
     rcases bt (decide (((ch_ p x).n) = ((a2_ p x).n)) && decide (((ch_ p x).d) = ((a2_ p x).d))) with h11 | h11
     ·skip
      refine pB h11 rfl (pE rfl (pQ rfl (qF pJ_ rfl rfl) (pQ rfl (qC ty_3 rfl m0 rfl) (pE rfl (pE rfl ?_)))))
      rcases bt (((dd_ p x).1).1 == ((aL_ p x).s).1) with h12 | h12
      ·skip
       refine pB h12 rfl (pE rfl (pQ rfl (qF pT_ rfl rfl) (pQ rfl (qC ty_4 rfl m0 rfl) (pQ rfl (q_as (v' := .bool ((dd_ p x).2 == (aL_ p x).ok)) (lw_ bo_4 rfl rfl) rfl) (pE rfl (pE rfl (fl J ?_)))))))
       refine J3 _ _ (by repeat first | exact .refl | refine .cons rfl ?_) ⟨_, s0, ?s4, rfl⟩
       case s4 => exact congrArg Value.bool (and_t h10 (and_t h11 (and_t h12 rfl)))
      ·skip
       refine pB h12 rfl (PL_n rfl rfl (PL_n rfl rfl (PL_n rfl rfl (PL_n rfl rfl (pE rfl (pE rfl (fl J ?_)))))))
       refine J3 _ _ (by repeat first | exact .refl | refine .cons rfl ?_) ⟨_, s0, ?s4, rfl⟩
       case s4 => exact congrArg Value.bool (and_t h10 (and_t h11 (and_f h12)))
     ·skip
      refine pB h11 rfl (PL_n rfl rfl (PL_n rfl rfl (PL_n rfl rfl (PL_n rfl rfl (pE rfl (pE rfl (PL_n rfl rfl (PL_n rfl rfl (PL_n rfl rfl (PL_n rfl rfl (pE rfl (pE rfl (fl J ?_)))))))))))))
      refine J3 _ _ (by repeat first | exact .refl | refine .cons rfl ?_) ⟨_, s0, ?s4, rfl⟩
      case s4 => exact congrArg Value.bool (and_t h10 (and_f h11))
    ·skip
     refine pB h10 rfl (PL_n rfl rfl (PL_n rfl rfl (PL_n rfl rfl (PL_n rfl rfl (PL_n rfl rfl (PL_n rfl rfl (PL_n rfl rfl (pE rfl (pE rfl (PL_n rfl rfl (PL_n rfl rfl (PL_n rfl rfl (PL_n rfl rfl (pE rfl (pE rfl (PL_n rfl rfl (PL_n rfl rfl (PL_n rfl rfl (PL_n rfl rfl ?_)))))))))))))))))))
     refine pE rfl (pE rfl (fl J ?_))
     refine J3 _ _ (by repeat first | exact .refl | refine .cons rfl ?_) ⟨_, s0, ?s4, rfl⟩
     case s4 => exact congrArg Value.bool (and_f h10)
   ·skip
    rintro g13 M ⟨hg4, rfl⟩
    simp only [setG, hg4]
    clear hg4
    refine W_ret (ret1 rfl (.inr rfl) rfl ?_)
    exact (by exact congrArg (fun r : Bool => (.bool r : Value)) (show _ = (bG_ p x) from bif_f h5 rfl))
end Go.Proofs.YtjdfogfmeibkgaaGreat

