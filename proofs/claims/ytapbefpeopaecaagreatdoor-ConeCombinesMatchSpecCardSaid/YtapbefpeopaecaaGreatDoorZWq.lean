/- Walks: what these functions return. -/
import Derived.Test.YtapbefpeopaecaaGreatDoorZFa0
import Derived.Test.YtapbefpeopaecaaGreatDoorZFWq
import Derived.Test.YtapbefpeopaecaaGreatDoorZPR
import Derived.Test.YtapbefpeopaecaaGreatDoorZWa
import Derived.Test.YtapbefpeopaecaaGreatDoorZWc
import Derived.Test.YtapbefpeopaecaaGreatDoorZWh
import Derived.Test.YtapbefpeopaecaaGreatDoorZWk
import Derived.Test.YtapbefpeopaecaaGreatDoorZWl
import Derived.Test.YtapbefpeopaecaaGreatDoorZWm
namespace Go.Proofs.YtapbefpeopaecaaGreatDoor
open Go.Kn Go.Num
set_option linter.unusedVariables false
set_option linter.unusedSimpArgs false
set_option maxRecDepth 20000
set_option maxHeartbeats 8000000
theorem he_ (a : I) :
    Ret Tryz.prog 98 [AV [pI a]] (AV [pI (c0_ a)]) := by
 refine as_ (N := 36) Tryz.func98 rfl rfl (by simp) (fun w0 => ?_)
 simp only [initF, Nat.reduceAdd]
 refine Rs fun K J => WL_r rfl (aQ_ rfl rfl (fun b1 hb1 => sN zp_37 rfl fun b2 hb2 => nl J (Sq fun K1 J1 => ?_)))
 refine bV_ [5, 6, 7, 8, 9, 10, 11, 12] (fun g M => (g 12 = .bool (!(cV_ [a]) || a.1.neg)) ∧ M = [⟨b2, 37, flat [pI I0]⟩, ⟨b1, 37, flat [pI a]⟩]) (fun K2 J2 => ?_) ?_
 ·skip
  refine Rk fun K J => sQ (qL ty_37 rfl m1 rfl) rfl (WL_r rfl (b1_ [[pI a]] [pI a] fi_ z_37 sz_37 rfl (by decide) rfl rfl ⟨rfl, rfl, rfl, trivial⟩ rfl (fun b6 hb6 => sQ (q_as (v' := .bool (cV_ [a])) (bY_ fj_ rfl (fun w hw => iv_ _ ([a]) w (SLe.ap hw (SLe.lit (e := elI) (l := [a]) m0 rfl (Nat.le_of_ble_eq_true rfl) rfl)))) rfl) rfl (sE rfl ?_))))
  rcases bt (cV_ [a]) with h7 | h7
  ·skip
   refine sB (not_f h7) rfl (sQ (qF by_ rfl rfl) rfl (sQ (qC ty_4 rfl m2 rfl) rfl (sE rfl (nl J ?_))))
   refine J2 _ _ (by repeat first | exact .refl | refine .cons rfl ?_) ⟨_, (sd (s0)), ?s12, rfl⟩
   case s12 => exact congrArg Value.bool (nor_t h7 rfl)
  ·skip
   refine sB (not_t h7) rfl (WL_n rfl (WL_n rfl (sE rfl (nl J ?_))))
   refine J2 _ _ (by repeat first | exact .refl | refine .cons rfl ?_) ⟨_, (sd (s0)), ?s12, rfl⟩
   case s12 => exact congrArg Value.bool (nor_f h7)
 ·skip
  rintro g8 M ⟨hg12, rfl⟩
  simp only [setG, hg12]
  clear hg12
  rcases bt (!(cV_ [a]) || a.1.neg) with h9 | h9
  ·skip
   refine W_t h9 rfl (Rs fun K J => sC (AV [pI (E Z.bad)]) e7_ cd_ rfl rfl rfl (sS [pI (E Z.bad)] ty_37 rfl rfl rfl rfl rfl (.head _) rfl hb2 (nl J (W_ret (af_ (ret1 rfl (.inr rfl) (resP rfl m0 ty_37 rfl) ?_))))))
   exact (by exact congrArg (fun r : I => (AV [pI r] : Value)) (show _ = (c0_ a) from bif_t h9 rfl))
  ·skip
   refine W_f h9 rfl (aj_ (J1 _ _ (Sq fun K3 J3 => Rs fun K J => sQ (qL ty_37 rfl m1 rfl) rfl (sC (.int .i64 ((Z.signW a.dec).1)) fQ_ (cx_ a.1 a.2) rfl rfl rfl (sE rfl (nl J ?_))))))
   rcases bt ((Z.signW a.dec).1 == 0) with h10 | h10
   ·skip
    refine W_t h10 rfl (Rs fun K J => sQ (qL ty_37 rfl m1 rfl) rfl (sS [pI a] ty_37 rfl rfl rfl rfl rfl (.head _) rfl hb2 (nl J (W_ret (af_ (ret1 rfl (.inr rfl) (resP rfl m0 ty_37 rfl) ?_))))))
    exact (by exact congrArg (fun r : I => (AV [pI r] : Value)) (show _ = (c0_ a) from bif_f h9 (bif_t h10 rfl)))
   ·skip
    refine W_f h10 rfl (aj_ (J3 _ _ (ds (sk (sk (s0))) [0,4,8,12,16,20,25,29] [7] mix (by kernel_rfl) (fun K J => pC (AV [pI (E (Z.of 1))]) en_61 (bZ_ (wl 1).1 (wl 1).2) rfl rfl rfl ?_))))
    refine pQ rfl (qL ty_37 rfl m1 rfl) (pC (.int .i64 ((Z.bitsW a.dec).1)) mK_ (fN_ a.1 a.2) rfl rfl rfl (pV (.int .i64 ((W.add (Z.bitsW a.dec) (wl 1)).1)) rfl rfl ?_))
    refine pQ rfl (q_as (v' := .int .i64 ((W.quo (W.add (Z.bitsW a.dec) (wl 1)) (wl 2)).1)) (q_quo rfl rfl (by decide)) rfl) ?_
    have hsh : 0 ≤ ((W.quo (W.add (Z.bitsW a.dec) (wl 1)) (wl 2))).1 := qJ_ a
    refine pC (AV [pI (E (Z.shl (Z.of 1) (W.quo (W.add (Z.bitsW a.dec) (wl 1)) (wl 2)).1))]) en_95 (gH_ (E (Z.of 1)).1 (E (Z.of 1)).2 (W.quo (W.add (Z.bitsW a.dec) (wl 1)) (wl 2)) (by first | assumption | exact (Int.not_lt.1 (of_decide_eq_false (by first | assumption | exact or3_b (by assumption)))))) rfl rfl (cg1 (fun p => AV [pI (E (Z.shl p (W.quo (W.add (Z.bitsW a.dec) (wl 1)) (wl 2)).1))]) (E_dec _)) ?_
    refine PL_o rfl rfl (bw_ zp_37 (fun b11 hb11 => ⟨(fun _ => sd s0), (sd s0), oS [pI (E (Z.shl (Z.of 1) (W.quo (W.add (Z.bitsW a.dec) (wl 1)) (wl 2)).1))] ty_37 rfl rfl rfl rfl rfl rfl (.head _) rfl hb11 rfl (sd s0) ?_⟩))
    refine fl J (ao_ ?_)
    refine bI_ [4, 24, 25, 26, 27, 28, 29, 30, 31, 32, 33, 34, 35] (fun g nn M => ∃ (mb11 : I), (dk_ a nn mb11) = (dk_ a ((Z.nat (E (Z.shl (Z.of 1) (W.quo (W.add (Z.bitsW a.dec) (wl 1)) (wl 2)).1)).dec + 1)) (E (Z.shl (Z.of 1) (W.quo (W.add (Z.bitsW a.dec) (wl 1)) (wl 2)).1))) ∧ Z.nat mb11.dec < nn ∧ (h2_ a mb11) ∧ (True) ∧ M = [⟨b11, 37, flat [pI mb11]⟩, ⟨b2, 37, flat [pI I0]⟩, ⟨b1, 37, flat [pI a]⟩]) ((Z.nat (E (Z.shl (Z.of 1) (W.quo (W.add (Z.bitsW a.dec) (wl 1)) (wl 2)).1)).dec + 1)) ?start ?round
    case start => exact ⟨_, s0, (E (Z.shl (Z.of 1) (W.quo (W.add (Z.bitsW a.dec) (wl 1)) (wl 2)).1)), rfl, Nat.lt_succ_self _, (ja_ h9 h10), trivial, rfl⟩
    case round =>
     rintro nn g M ⟨mb11, hT0, hq0, hinv0, -, rfl⟩
     obtain ⟨k0, rfl⟩ : ∃ m, nn = m + 1 := ⟨nn - 1, by omega⟩
     simp only [setG]
     refine ao_ (ds (sk (sk (sk (s0)))) [0,4,8,12,16,20,25,29] [7] mix (by kernel_rfl) (fun K J => pQ rfl (qL ty_37 rfl m0 rfl) (pQ rfl (qL ty_37 rfl m2 rfl) (pQ rfl (qL ty_37 rfl m0 rfl) (pC (AV [pI (E (Z.quo a.dec mb11.dec))]) en_97 (cH_ a.1 mb11.1 a.2 mb11.2) rfl rfl rfl (pC (AV [pI (E (Z.add mb11.dec (Z.quo a.dec mb11.dec)))]) iN_ (d2_ mb11.1 (E (Z.quo a.dec mb11.dec)).1 mb11.2 (E (Z.quo a.dec mb11.dec)).2) rfl rfl (cg2 (fun p q => AV [pI (E (Z.add p q))]) rfl (E_dec _)) ?_))))))
     have hhf := qD_ hinv0
     refine pC (AV [pI (E (Z.half (Z.add mb11.dec (Z.quo a.dec mb11.dec))))]) en_95 (iR_ (E (Z.add mb11.dec (Z.quo a.dec mb11.dec))).1 (E (Z.add mb11.dec (Z.quo a.dec mb11.dec))).2 (by assumption)) rfl rfl (cg1 (fun p => AV [pI (E (Z.half p))]) (E_dec _)) (PL_o rfl rfl (bw_ zp_37 (fun b20 hb20 => ⟨(fun _ => sd s0), (sd s0), oS [pI (E (Z.half (Z.add mb11.dec (Z.quo a.dec mb11.dec))))] ty_37 rfl rfl rfl rfl rfl rfl (.head _) rfl hb20 rfl (sd s0) (fl J (Sq fun K6 J6 => Rs fun K J => sQ (qL ty_37 rfl m0 rfl) rfl (sQ (qL ty_37 rfl m1 rfl) rfl (sC (.int .i64 ((Z.cmpW (Z.half (Z.add mb11.dec (Z.quo a.dec mb11.dec))) mb11.dec).1)) pO_ (hC_ (E (Z.half (Z.add mb11.dec (Z.quo a.dec mb11.dec)))).1 mb11.1 (E (Z.half (Z.add mb11.dec (Z.quo a.dec mb11.dec)))).2 mb11.2) rfl rfl (cg2 (fun p q => Value.int .i64 (Z.cmpW p q).1) (E_dec _) rfl) (sE rfl (nl J ?_))))))⟩)))
     rcases bt (decide (0 ≤ (Z.cmpW (Z.half (Z.add mb11.dec (Z.quo a.dec mb11.dec))) mb11.dec).1)) with h21 | h21
     ·skip
      refine W_t h21 rfl (Rs fun K J => sQ (qL ty_37 rfl m1 rfl) rfl (sS [pI mb11] ty_37 rfl rfl rfl rfl rfl (.tail _ (.tail _ (.head _))) rfl hb2 (nl J (W_ret (af_ (aH_ (af_ (aH_ (ret1 rfl (.inr rfl) (resP rfl m2 ty_37 rfl) ?_)))))))))
      exact (by exact congrArg (fun r : I => (AV [pI r] : Value)) (show _ = (c0_ a) from bif_f h9 (bif_f h10 ((sm_q rfl (hT0.symm.trans (Eq.symm (bif_t h21 rfl))))))))
     ·skip
      refine W_f h21 rfl (aj_ (J6 _ _ (Rk fun K J => sQ (qL ty_37 rfl m0 rfl) rfl (sS [pI (E (Z.half (Z.add mb11.dec (Z.quo a.dec mb11.dec))))] ty_37 rfl rfl rfl rfl rfl (.tail _ (.head _)) rfl hb11 (nl J (⟨(by repeat first | exact .refl | refine .cons rfl ?_), _, _, (sd (s0)), (Nat.lt_succ_self _), (E (Z.half (Z.add mb11.dec (Z.quo a.dec mb11.dec)))), (by exact (hT0.symm.trans (Eq.symm (bif_f h21 rfl))).symm), (Nat.lt_of_lt_of_le (lH_ hinv0 h21) (Nat.le_of_lt_succ hq0)), (jW_ hinv0), trivial, rfl⟩))))))
end Go.Proofs.YtapbefpeopaecaaGreatDoor

