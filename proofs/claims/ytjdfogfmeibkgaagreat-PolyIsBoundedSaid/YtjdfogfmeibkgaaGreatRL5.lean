/- Walks: what these functions return. -/
import Derived.Test.YtjdfogfmeibkgaaGreatRGE
import Derived.Test.YtjdfogfmeibkgaaGreatRFp
import Derived.Test.YtjdfogfmeibkgaaGreatRGa
import Derived.Test.YtjdfogfmeibkgaaGreatRGc
import Derived.Test.YtjdfogfmeibkgaaGreatRLa
import Derived.Test.YtjdfogfmeibkgaaGreatRPb
import Derived.Test.YtjdfogfmeibkgaaGreatRYb
import Derived.Test.YtjdfogfmeibkgaaGreatRYc
import Derived.Test.YtjdfogfmeibkgaaGreatRYr
import Derived.Test.YtjdfogfmeibkgaaGreatRWc
import Derived.Test.YtjdfogfmeibkgaaGreatRYa
import Derived.Test.YtjdfogfmeibkgaaGreatRYs
namespace Go.Proofs.YtjdfogfmeibkgaaGreat
open Go.Kn Go.Num
set_option linter.unusedVariables false
set_option linter.unusedSimpArgs false
set_option maxRecDepth 20000
set_option maxHeartbeats 8000000
theorem di_ (a : Rt) (b : Int) (w : World)  :
    Calls Tryz.prog 52 [AV [pI a.n, pI a.d], .int .i64 b].toArray w (fun e w' => e = .returned (.bool (ar_ a b)) ∧ Ext w w') := by
 refine aR_ (N := 21) Tryz.func52 rfl rfl (by simp) ?_
 obtain ⟨w0, rfl⟩ : ∃ w0, w0 = w := ⟨_, rfl⟩
 simp only [initF, Nat.reduceAdd]
 refine Rs fun K J => WL_r rfl (cu_ rfl rfl (fun b1 hb1 => sE rfl (nl J ?_)))
 refine bI_ [4, 5, 6, 7, 8, 9, 10, 11, 12, 13, 14, 15, 16, 17, 18, 19, 20] (fun g M => (g 4 = .bool ((at_ a) && (decide ((Z.bitsW a.n.dec).1 ≤ b) && decide ((Z.bitsW a.d.dec).1 ≤ b)))) ∧ M = [⟨b1, 44, flat [pI a.n, pI a.d]⟩]) (fun K1 J1 => ?_) ?_
 ·skip
  refine Rk fun K J => sQ (qL ty_44 rfl m0 rfl) rfl (sQ (q_ret tm_ (fV_ a) rfl) rfl ?_)
  rcases bt (at_ a) with h4 | h4
  ·skip
   refine sB h4 rfl (sQ (qF cO_ rfl rfl) rfl (sQ (qL ty_38 rfl m0 rfl) rfl (sC (.int .i64 ((Z.bitsW a.n.dec).1)) en_75 (dt_ a.n.1 a.n.2) rfl rfl rfl (sE rfl (sE rfl (sE rfl ?_))))))
   rcases bt (decide ((Z.bitsW a.n.dec).1 ≤ b)) with h5 | h5
   ·skip
    have ph5 := of_decide_eq_true h5
    refine sB h5 rfl (sQ (qF b5_ rfl rfl) rfl (sQ (qL ty_38 rfl m0 rfl) rfl (sC (.int .i64 ((Z.bitsW a.d.dec).1)) en_75 (dt_ a.d.1 a.d.2) rfl rfl rfl (sE rfl (sE rfl (sE rfl (sE rfl (nl J ?_))))))))
    refine J1 _ _ (by repeat first | exact .refl | refine .cons rfl ?_) ⟨_, s0, ?s4, rfl⟩
    case s4 => exact congrArg Value.bool (and_t h4 (and_t h5 rfl))
   ·skip
    have ph5 := of_decide_eq_false h5
    refine sB h5 rfl (WL_n rfl (WL_n rfl (WL_n rfl (WL_n rfl (WL_n rfl (sE rfl (sE rfl (nl J ?_))))))))
    refine J1 _ _ (by repeat first | exact .refl | refine .cons rfl ?_) ⟨_, s0, ?s4, rfl⟩
    case s4 => exact congrArg Value.bool (and_t h4 (and_f h5))
  ·skip
   refine sB h4 rfl (WL_n rfl (WL_n rfl (WL_n rfl (WL_n rfl (WL_n rfl (sE rfl (sE rfl (WL_n rfl (WL_n rfl (WL_n rfl (WL_n rfl (WL_n rfl (sE rfl (sE rfl (nl J ?_)))))))))))))))
   refine J1 _ _ (by repeat first | exact .refl | refine .cons rfl ?_) ⟨_, s0, ?s4, rfl⟩
   case s4 => exact congrArg Value.bool (and_f h4)
 ·skip
  rintro g6 M ⟨hg4, rfl⟩
  simp only [setG, hg4]
  clear hg4
  refine W_ret (ret1 rfl (.inr rfl) rfl ?_)
  exact (by rfl)

end Go.Proofs.YtjdfogfmeibkgaaGreat

namespace Go.Proofs.YtjdfogfmeibkgaaGreat
open Go.Kn Go.Num
set_option linter.unusedVariables false
set_option linter.unusedSimpArgs false
set_option maxRecDepth 20000
set_option maxHeartbeats 8000000
theorem hs_ (vp : Value) (p : (List I)) (a : Rt) (b : Rt) (t : Rt) (w : World) (hp : Slr w elI vp p) :
    Calls Tryz.prog 13 [vp, AV [pI a.n, pI a.d], AV [pI b.n, pI b.d], AV [pI t.n, pI t.d]].toArray w (fun e w' => e = .returned (.bool (a6_ p a b t)) ∧ Ext w w') := by
 obtain ⟨p_p, c_p, rfl⟩ := hp.form
 refine aR_ (N := 220) Tryz.func13 rfl rfl (by simp) ?_
 obtain ⟨w0, rfl⟩ : ∃ w0, w0 = w := ⟨_, rfl⟩
 have Hp := hp.old
 have hm_p := hp.max
 simp only [initF, Nat.reduceAdd]
 refine Rs fun K J => WL_r rfl (cu_ rfl rfl (fun b1 hb1 => WL_r rfl (cu_ rfl rfl (fun b2 hb2 => WL_r rfl (cu_ rfl rfl (fun b3 hb3 => sE rfl (nl J (Sq fun K1 J1 => ?_))))))))
 refine bI_ [24, 25, 26, 27, 28, 29, 30, 31, 32, 33, 34, 35, 36, 37, 38, 39, 40, 41, 42, 43, 44, 45, 46, 47, 48, 49, 50, 51, 52, 53, 54, 55, 56, 57, 58, 59, 60, 61, 62] (fun g M => (g 62 = .bool (!(aW_ p 6 30) || ((ae_ p) || (!(ar_ a 8) || (!(ar_ b 8) || (!(ar_ t 8) || (decide (0 ≤ (bP_ a b).1) || (decide ((bF_ t).1 < 0) || decide (0 < (bP_ t (bb_ (wl 1))).1))))))))) ∧ M = [⟨b3, 44, flat [pI t.n, pI t.d]⟩, ⟨b2, 44, flat [pI b.n, pI b.d]⟩, ⟨b1, 44, flat [pI a.n, pI a.d]⟩]) (fun K2 J2 => ?_) ?_
 ·skip
  refine dr s0 [0,4,8,12,16,20,24,28,32,36,40,44,48,52,56,60,64,68,72,76,80,84,88,92,96,100,104,108,112,116,120,124,128,132,136,140,144,148,152] [] mix (by kernel_rfl) (fun K J => pE rfl (pQ rfl (q_as (v' := .bool (aW_ p 6 30)) (aE_ en_22 rfl (fun w hw => ga_ _ p 6 30 w (SLe.ap hw (SLe.sub Hp sn)) (by first | omega | (simp only [List.length_cons, List.length_nil, and_true, true_and] <;> omega) | simp))) rfl) ?_))
  refine pE rfl ?_
  rcases bt (aW_ p 6 30) with h11 | h11
  ·skip
   refine pB (not_f h11) rfl (pE rfl (pQ rfl (q_as (v' := .bool (ae_ p)) (aE_ en_18 rfl (fun w hw => bc_ _ p w (SLe.ap hw (SLe.sub Hp sn)))) rfl) (pE rfl ?_)))
   rcases bt (ae_ p) with h12 | h12
   ·skip
    refine pB h12 rfl (PL_n rfl rfl (PL_n rfl rfl (PL_n rfl rfl (pE rfl (pE rfl (PL_n rfl rfl (PL_n rfl rfl (PL_n rfl rfl (pE rfl (pE rfl (PL_n rfl rfl (PL_n rfl rfl (PL_n rfl rfl (pE rfl (pE rfl (PL_n rfl rfl (PL_n rfl rfl (PL_n rfl rfl (PL_n rfl rfl ?_)))))))))))))))))))
    refine pE rfl (pE rfl (PL_n rfl rfl (PL_n rfl rfl (PL_n rfl rfl (pE rfl (pE rfl (PL_n rfl rfl (PL_n rfl rfl (PL_n rfl rfl (PL_n rfl rfl (pE rfl (fl J ?_))))))))))))
    refine J2 _ _ (by repeat first | exact .refl | refine .cons rfl ?_) ⟨_, s0, ?s62, rfl⟩
    case s62 => exact congrArg Value.bool (nor_t h11 (or_t h12))
   ·skip
    refine pB h12 rfl (pQ rfl (qL ty_44 rfl m2 rfl) (pQ rfl (q_as (v' := .bool (ar_ a 8)) (aE_ en_52 rfl (fun w hw => di_ a 8 w)) rfl) (pE rfl (pE rfl ?_))))
    rcases bt (ar_ a 8) with h13 | h13
    ·skip
     refine pB (not_f h13) rfl (pQ rfl (qL ty_44 rfl m1 rfl) (pQ rfl (q_as (v' := .bool (ar_ b 8)) (aE_ en_52 rfl (fun w hw => di_ b 8 w)) rfl) (pE rfl (pE rfl ?_))))
     rcases bt (ar_ b 8) with h14 | h14
     ·skip
      refine pB (not_f h14) rfl (pQ rfl (qL ty_44 rfl m0 rfl) (pQ rfl (q_as (v' := .bool (ar_ t 8)) (aE_ en_52 rfl (fun w hw => di_ t 8 w)) rfl) (pE rfl (pE rfl ?_))))
      rcases bt (ar_ t 8) with h15 | h15
      ·skip
       refine pB (not_f h15) rfl (pQ rfl (qL ty_44 rfl m2 rfl) (pQ rfl (qL ty_44 rfl m1 rfl) (pQ rfl (q_ret en_56 (gN_ a b) rfl) (pE rfl (pE rfl ?_)))))
       rcases bt (decide (0 ≤ (bP_ a b).1)) with h16 | h16
       ·skip
        have ph16 := of_decide_eq_true h16
        refine pB h16 rfl (PL_n rfl rfl (PL_n rfl rfl (PL_n rfl rfl (pE rfl (pE rfl (PL_n rfl rfl (PL_n rfl rfl (PL_n rfl rfl (PL_n rfl rfl (pE rfl (fl J ?_)))))))))))
        refine J2 _ _ (by repeat first | exact .refl | refine .cons rfl ?_) ⟨_, s0, ?s62, rfl⟩
        case s62 => exact congrArg Value.bool (nor_t h11 (or_f h12 (nor_t h13 (nor_t h14 (nor_t h15 (or_t h16))))))
       ·skip
        have ph16 := of_decide_eq_false h16
        refine pB h16 rfl (pQ rfl (qL ty_44 rfl m0 rfl) (pQ rfl (q_ret en_57 (dT_ t) rfl) (pE rfl (pE rfl ?_))))
        rcases bt (decide ((bF_ t).1 < 0)) with h17 | h17
        ·skip
         have ph17 := of_decide_eq_true h17
         refine pB h17 rfl (PL_n rfl rfl (PL_n rfl rfl (PL_n rfl rfl (PL_n rfl rfl (pE rfl (fl J ?_))))))
         refine J2 _ _ (by repeat first | exact .refl | refine .cons rfl ?_) ⟨_, s0, ?s62, rfl⟩
         case s62 => exact congrArg Value.bool (nor_t h11 (or_f h12 (nor_t h13 (nor_t h14 (nor_t h15 (or_f h16 (or_t h17)))))))
        ·skip
         have ph17 := of_decide_eq_false h17
         refine pB h17 rfl (pQ rfl (qL ty_44 rfl m0 rfl) (pQ rfl (q_ret en_58 (cp_ (wl 1)) rfl) ?_))
         refine pQ rfl (q_ret en_56 (gN_ t (bb_ (wl 1))) rfl) ?_
         refine pE rfl (pE rfl (fl J ?_))
         refine J2 _ _ (by repeat first | exact .refl | refine .cons rfl ?_) ⟨_, s0, ?s62, rfl⟩
         case s62 => exact congrArg Value.bool (nor_t h11 (or_f h12 (nor_t h13 (nor_t h14 (nor_t h15 (or_f h16 (or_f h17 rfl)))))))
      ·skip
       refine pB (not_t h15) rfl (PL_n rfl rfl (PL_n rfl rfl (PL_n rfl rfl (PL_n rfl rfl (pE rfl (pE rfl (PL_n rfl rfl (PL_n rfl rfl (PL_n rfl rfl (pE rfl (pE rfl (PL_n rfl rfl (PL_n rfl rfl (PL_n rfl rfl (PL_n rfl rfl (pE rfl (fl J ?_)))))))))))))))))
       refine J2 _ _ (by repeat first | exact .refl | refine .cons rfl ?_) ⟨_, s0, ?s62, rfl⟩
       case s62 => exact congrArg Value.bool (nor_t h11 (or_f h12 (nor_t h13 (nor_t h14 (nor_f h15)))))
     ·skip
      refine pB (not_t h14) rfl (PL_n rfl rfl (PL_n rfl rfl (PL_n rfl rfl (pE rfl (pE rfl (PL_n rfl rfl (PL_n rfl rfl (PL_n rfl rfl (PL_n rfl rfl (pE rfl (pE rfl (PL_n rfl rfl (PL_n rfl rfl (PL_n rfl rfl (pE rfl (pE rfl (PL_n rfl rfl (PL_n rfl rfl (PL_n rfl rfl ?_)))))))))))))))))))
      refine PL_n rfl rfl (pE rfl (fl J ?_))
      refine J2 _ _ (by repeat first | exact .refl | refine .cons rfl ?_) ⟨_, s0, ?s62, rfl⟩
      case s62 => exact congrArg Value.bool (nor_t h11 (or_f h12 (nor_t h13 (nor_f h14))))
    ·skip
     refine pB (not_t h13) rfl (PL_n rfl rfl (PL_n rfl rfl (PL_n rfl rfl (pE rfl (pE rfl (PL_n rfl rfl (PL_n rfl rfl (PL_n rfl rfl (pE rfl (pE rfl (PL_n rfl rfl (PL_n rfl rfl (PL_n rfl rfl (PL_n rfl rfl (pE rfl (pE rfl (PL_n rfl rfl (PL_n rfl rfl (PL_n rfl rfl ?_)))))))))))))))))))
     refine pE rfl (pE rfl (PL_n rfl rfl (PL_n rfl rfl (PL_n rfl rfl (PL_n rfl rfl (pE rfl (fl J ?_)))))))
     refine J2 _ _ (by repeat first | exact .refl | refine .cons rfl ?_) ⟨_, s0, ?s62, rfl⟩
     case s62 => exact congrArg Value.bool (nor_t h11 (or_f h12 (nor_f h13)))
  ·skip
   refine pB (not_t h11) rfl (PL_n rfl rfl (PL_n rfl rfl (pE rfl (pE rfl (PL_n rfl rfl (PL_n rfl rfl (PL_n rfl rfl (pE rfl (pE rfl (PL_n rfl rfl (PL_n rfl rfl (PL_n rfl rfl (pE rfl (pE rfl (PL_n rfl rfl (PL_n rfl rfl (PL_n rfl rfl (pE rfl (pE rfl ?_)))))))))))))))))))
   refine PL_n rfl rfl (PL_n rfl rfl (PL_n rfl rfl (PL_n rfl rfl (pE rfl (pE rfl (PL_n rfl rfl (PL_n rfl rfl (PL_n rfl rfl (pE rfl (pE rfl (PL_n rfl rfl (PL_n rfl rfl (PL_n rfl rfl (PL_n rfl rfl (pE rfl (fl J ?_))))))))))))))))
   refine J2 _ _ (by repeat first | exact .refl | refine .cons rfl ?_) ⟨_, s0, ?s62, rfl⟩
   case s62 => exact congrArg Value.bool (nor_f h11)
 ·skip
  rintro g18 M ⟨hg62, rfl⟩
  simp only [setG, hg62]
  clear hg62
  rcases bt (!(aW_ p 6 30) || ((ae_ p) || (!(ar_ a 8) || (!(ar_ b 8) || (!(ar_ t 8) || (decide (0 ≤ (bP_ a b).1) || (decide ((bF_ t).1 < 0) || decide (0 < (bP_ t (bb_ (wl 1))).1)))))))) with h19 | h19
  ·skip
   refine W_t h19 rfl (Rs fun K J => sQ (q_ret en_14 dd_  rfl) rfl (sE rfl (nl J (W_ret (af_ (ret1 rfl (.inr rfl) rfl ?_))))))
   exact (by exact congrArg (fun r : Bool => (.bool r : Value)) (show _ = (a6_ p a b t) from bif_t h19 rfl))
  ·skip
   refine W_f h19 rfl (aj_ (J1 _ _ ?_))
   obtain ⟨hRp, hLp⟩ := few_f (Bool.or_eq_false_iff.1 h19).1
   refine Rs fun K J => sE rfl (sQ (qL ty_44 rfl m2 rfl) rfl (sQ (qL ty_44 rfl m1 rfl) rfl (WL_r rfl (ax_ (E := 38) (e := elI) (l := (aa_ p a b).1) (fun v => .tuple #[v, .bool ((aa_ p a b).2)]) en_59 rfl (fun w hw => d5_ _ p a b w (SLe.ap hw (SLe.sub Hp sn)) (by first | omega | (simp only [List.length_cons, List.length_nil, and_true, true_and] <;> omega) | simp)) (fun p20 c21 L22 hF23 => ?_)))))
   refine sE rfl (sE rfl (sE rfl (sE rfl (sE rfl (nl J (Sq fun K3 J3 => ?_))))))
   refine bI_ [71, 72, 73, 74, 75, 76, 77, 78, 79] (fun g M => (g 79 = .bool (!((aa_ p a b).2) || (((((aa_ p a b).1).length : Nat) : Int) != (((p).length : Nat) : Int)))) ∧ M = (L22 ++ (⟨b3, 44, flat [pI t.n, pI t.d]⟩ :: (⟨b2, 44, flat [pI b.n, pI b.d]⟩ :: (⟨b1, 44, flat [pI a.n, pI a.d]⟩ :: []))))) (fun K4 J4 => ?_) ?_
   ·skip
    refine Rk fun K J => sE rfl (sE rfl ?_)
    rcases bt ((aa_ p a b).2) with h25 | h25
    ·skip
     refine sB (not_f h25) rfl (sE rfl (sQ (q_as (v' := .int .i64 ((((aa_ p a b).1).length : Nat) : Int)) (a8_ (e := elI) sl_22 rfl (SLfe.sle (OwnG.slfe hF23 (List.sublist_append_left _ _)))) rfl) rfl (sE rfl (sQ (q_as (v' := .int .i64 (((p).length : Nat) : Int)) (a8_ (e := elI) sl_24 rfl (SLe.sub Hp sn)) rfl) rfl (sE rfl (sE rfl (nl J ?_)))))))
     refine J4 _ _ (by repeat first | exact .refl | refine .cons rfl ?_) ⟨_, s0, ?s79, rfl⟩
     case s79 => exact congrArg Value.bool (nor_t h25 rfl)
    ·skip
     refine sB (not_t h25) rfl (WL_n rfl (WL_n rfl (WL_n rfl (WL_n rfl (WL_n rfl (sE rfl (nl J ?_)))))))
     refine J4 _ _ (by repeat first | exact .refl | refine .cons rfl ?_) ⟨_, s0, ?s79, rfl⟩
     case s79 => exact congrArg Value.bool (nor_f h25)
   ·skip
    rintro g26 M ⟨hg79, rfl⟩
    simp only [setG, hg79]
    clear hg79
    rcases bt (!((aa_ p a b).2) || (((((aa_ p a b).1).length : Nat) : Int) != (((p).length : Nat) : Int))) with h27 | h27
    ·skip
     refine W_t h27 rfl (Rs fun K J => sE rfl (nl J (W_ret (af_ (ret1 rfl (.inr rfl) rfl ?_)))))
     exact (by exact congrArg (fun r : Bool => (.bool r : Value)) (show _ = (a6_ p a b t) from bif_f h19 (bif_t h27 rfl)))
    ·skip
     have ph28 := neI_f (Bool.or_eq_false_iff.1 h27).2
     refine W_f h27 rfl (aj_ (J3 _ _ (Sq fun K5 J5 => Rs fun K J => sE rfl (sQ (q_as (v' := .int .i64 ((((aa_ p a b).1).length : Nat) : Int)) (a8_ (e := elI) sl_22 rfl (SLfe.sle (OwnG.slfe hF23 (List.sublist_append_left _ _)))) rfl) rfl (sE rfl (nl J ?_))))))
     rcases bt (((((aa_ p a b).1).length : Nat) : Int) == 0) with h29 | h29
     ·skip
      have ph29 := gw_ h29
      refine W_t h29 rfl (Rs fun K J => sQ (q_ret en_14 dd_  rfl) rfl (sE rfl (nl J (W_ret (af_ (ret1 rfl (.inr rfl) rfl ?_))))))
      exact (by exact congrArg (fun r : Bool => (.bool r : Value)) (show _ = (a6_ p a b t) from bif_f h19 (bif_f h27 (bif_t h29 rfl))))
     ·skip
      have ph29 := e5_ h29
      refine W_f h29 rfl (aj_ (J5 _ _ (Rs fun K J => sE rfl (sQ (qL ty_44 rfl (List.mem_append_right _ (List.mem_cons_of_mem _ (List.mem_cons_of_mem _ (List.mem_cons_self)))) rfl) rfl (sQ (q_as (v' := .tuple #[.int .i64 (((av_ p a).1).1), .bool ((av_ p a).2)]) (aE_ en_38 rfl (fun w hw => fA_ _ p a w (SLe.ap hw (SLe.sub Hp sn)) (by first | omega | (simp only [List.length_cons, List.length_nil, and_true, true_and] <;> omega) | simp))) rfl) rfl ?_)))))
      refine sE rfl (sE rfl (sE rfl (sE rfl (sE rfl (nl J (Rs fun K J => sE rfl (sQ (qL ty_44 rfl (List.mem_append_right _ (List.mem_cons_of_mem _ (List.mem_cons_self))) rfl) rfl (sQ (q_as (v' := .tuple #[.int .i64 (((av_ p b).1).1), .bool ((av_ p b).2)]) (aE_ en_38 rfl (fun w hw => fA_ _ p b w (SLe.ap hw (SLe.sub Hp sn)) (by first | omega | (simp only [List.length_cons, List.length_nil, and_true, true_and] <;> omega) | simp))) rfl) rfl ?_))))))))
      refine sE rfl (sE rfl (sE rfl (sE rfl (sE rfl (nl J (ds s0 [0,4,8,12,16,20,24,28,32,36,40,44,48,52] [] mix (by kernel_rfl) (fun K J => pE rfl (pQ rfl (qL ty_44 rfl (List.mem_append_right _ (List.mem_cons_of_mem _ (List.mem_cons_of_mem _ (List.mem_cons_self)))) rfl) (pQ rfl (qL ty_44 rfl (List.mem_append_right _ (List.mem_cons_of_mem _ (List.mem_cons_self))) rfl) (pQ rfl (qL ty_44 rfl (List.mem_append_right _ (List.mem_cons_of_mem _ (List.mem_cons_of_mem _ (List.mem_cons_self)))) rfl) (pQ rfl (q_ret en_60 (fG_ b a) rfl) (pQ rfl (qL ty_44 rfl (List.mem_append_right _ (List.mem_cons_self)) rfl) (pQ rfl (q_ret en_53 (eJ_ (a5_ b a) t) rfl) ?_)))))))))))))
      obtain ⟨r30, hr30⟩ := nm ((b4_ a (a7_ (a5_ b a) t)) : Rt)
      refine pC (AV [pI r30.n, pI r30.d]) en_54 (fH_ a (a7_ (a5_ b a) t)) rfl rfl (by rw [hr30]; first | done | rfl) (pQ rfl (q_as (v' := .tuple #[.int .i64 (((av_ p r30).1).1), .bool ((av_ p r30).2)]) (aE_ en_38 rfl (fun w hw => fA_ _ p r30 w (SLe.ap hw (SLe.sub Hp sn)) (by first | omega | (simp only [List.length_cons, List.length_nil, and_true, true_and] <;> omega) | simp))) rfl) ?_)
      refine pE rfl (pE rfl (pE rfl (pE rfl (pE rfl (fl J (Sq fun K6 J6 => ?_))))))
      refine bI_ [108, 109, 110, 111, 112, 113, 114, 115, 116, 117, 118, 119, 120, 121, 122, 123, 124, 125, 126, 127, 128, 129, 130, 131, 132, 133, 134, 135, 136] (fun g M => (g 136 = .bool (!((av_ p a).2) || (!((av_ p b).2) || (!((av_ p r30).2) || (((Z.signW (((aa_ p a b).1).getD 0 I0).dec).1 != ((av_ p a).1).1) || ((Z.signW (((aa_ p a b).1).getD (((aa_ p a b).1).length - 1) I0).dec).1 != ((av_ p b).1).1)))))) ∧ M = (L22 ++ (⟨b3, 44, flat [pI t.n, pI t.d]⟩ :: (⟨b2, 44, flat [pI b.n, pI b.d]⟩ :: (⟨b1, 44, flat [pI a.n, pI a.d]⟩ :: []))))) (fun K7 J7 => ?_) ?_
      ·skip
       refine Rk fun K J => sE rfl (sE rfl ?_)
       rcases bt ((av_ p a).2) with h35 | h35
       ·skip
        refine sB (not_f h35) rfl (sE rfl (sE rfl (sE rfl ?_)))
        rcases bt ((av_ p b).2) with h36 | h36
        ·skip
         refine sB (not_f h36) rfl (sE rfl (sE rfl (sE rfl ?_)))
         rcases bt ((av_ p r30).2) with h37 | h37
         ·skip
          refine sB (not_f h37) rfl (sE rfl (sQ (q_as (v' := .pointer (some (slb (.slice p20 ((aa_ p a b).1).length c21) (0 * 18 + 0)))) (cF_ (e := elI) (l := (aa_ p a b).1) (k := 0) sl_22 rfl rfl (SLfe.sle (OwnG.slfe hF23 (List.sublist_append_left _ _))) (by first | omega | (simp only [List.length_set, List.length_append, List.length_cons, List.length_nil]; omega))) rfl) rfl ?_))
          refine sQ (q_ldG (e := elI) (l := (aa_ p a b).1) (k := 0) (o := 0) ty_38 rfl (SLfe.sle (OwnG.slfe hF23 (List.sublist_append_left _ _))) (aD_ I0 (by first | omega | (simp only [List.length_set, List.length_append, List.length_cons, List.length_nil]; omega))) rfl) rfl ?_
          refine sC (.int .i64 ((Z.signW (((aa_ p a b).1).getD 0 I0).dec).1)) en_32 (a4_ (((aa_ p a b).1).getD 0 I0).1 (((aa_ p a b).1).getD 0 I0).2) rfl rfl rfl (sE rfl (sE rfl (sE rfl ?_)))
          rcases bt ((Z.signW (((aa_ p a b).1).getD 0 I0).dec).1 != ((av_ p a).1).1) with h38 | h38
          ·skip
           refine sB h38 rfl (WL_n rfl (WL_n rfl (WL_n rfl (WL_n rfl (WL_n rfl (WL_n rfl (WL_n rfl (WL_n rfl (WL_n rfl (sE rfl (nl J ?_)))))))))))
           refine J7 _ _ (by repeat first | exact .refl | refine .cons rfl ?_) ⟨_, s0, ?s136, rfl⟩
           case s136 => exact congrArg Value.bool (nor_t h35 (nor_t h36 (nor_t h37 (or_t h38))))
          ·skip
           refine sB h38 rfl (sE rfl (sE rfl (sQ (q_as (v' := .int .i64 ((((aa_ p a b).1).length : Nat) : Int)) (a8_ (e := elI) sl_22 rfl (SLfe.sle (OwnG.slfe hF23 (List.sublist_append_left _ _)))) rfl) rfl (sV (.int .i64 (((((aa_ p a b).1).length : Nat) : Int) - 1)) rfl (congrArg (Value.int .i64) (wx (by omega) (by omega) (by omega))) (sQ (q_as (v' := .pointer (some (slb (.slice p20 ((aa_ p a b).1).length c21) ((((aa_ p a b).1).length - 1) * 18 + 0)))) (dv_ (e := elI) (l := (aa_ p a b).1) (k := (((aa_ p a b).1).length - 1)) sl_22 rfl rfl (by omega) (SLfe.sle (OwnG.slfe hF23 (List.sublist_append_left _ _))) (by first | omega | (simp only [List.length_set, List.length_append, List.length_cons, List.length_nil]; omega))) rfl) rfl ?_)))))
           refine sQ (q_ldG (e := elI) (l := (aa_ p a b).1) (k := (((aa_ p a b).1).length - 1)) (o := 0) ty_38 rfl (SLfe.sle (OwnG.slfe hF23 (List.sublist_append_left _ _))) (aD_ I0 (by first | omega | (simp only [List.length_set, List.length_append, List.length_cons, List.length_nil]; omega))) rfl) rfl ?_
           refine sC (.int .i64 ((Z.signW (((aa_ p a b).1).getD (((aa_ p a b).1).length - 1) I0).dec).1)) en_32 (a4_ (((aa_ p a b).1).getD (((aa_ p a b).1).length - 1) I0).1 (((aa_ p a b).1).getD (((aa_ p a b).1).length - 1) I0).2) rfl rfl rfl (sE rfl (sE rfl (sE rfl (nl J ?_))))
           refine J7 _ _ (by repeat first | exact .refl | refine .cons rfl ?_) ⟨_, s0, ?s136, rfl⟩
           case s136 => exact congrArg Value.bool (nor_t h35 (nor_t h36 (nor_t h37 (or_f h38 rfl))))
         ·skip
          refine sB (not_t h37) rfl (WL_n rfl (WL_n rfl (WL_n rfl (WL_n rfl (WL_n rfl (WL_n rfl (sE rfl (sE rfl (WL_n rfl (WL_n rfl (WL_n rfl (WL_n rfl (WL_n rfl (WL_n rfl (WL_n rfl (WL_n rfl (WL_n rfl (sE rfl (nl J ?_)))))))))))))))))))
          refine J7 _ _ (by repeat first | exact .refl | refine .cons rfl ?_) ⟨_, s0, ?s136, rfl⟩
          case s136 => exact congrArg Value.bool (nor_t h35 (nor_t h36 (nor_f h37)))
        ·skip
         refine sB (not_t h36) rfl (WL_n rfl (WL_n rfl (sE rfl (sE rfl (WL_n rfl (WL_n rfl (WL_n rfl (WL_n rfl (WL_n rfl (WL_n rfl (sE rfl (sE rfl (WL_n rfl (WL_n rfl (WL_n rfl (WL_n rfl (WL_n rfl (WL_n rfl (WL_n rfl ?_)))))))))))))))))))
         refine WL_n rfl (WL_n rfl (sE rfl (nl J ?_)))
         refine J7 _ _ (by repeat first | exact .refl | refine .cons rfl ?_) ⟨_, s0, ?s136, rfl⟩
         case s136 => exact congrArg Value.bool (nor_t h35 (nor_f h36))
       ·skip
        refine sB (not_t h35) rfl (WL_n rfl (WL_n rfl (sE rfl (sE rfl (WL_n rfl (WL_n rfl (sE rfl (sE rfl (WL_n rfl (WL_n rfl (WL_n rfl (WL_n rfl (WL_n rfl (WL_n rfl (sE rfl (sE rfl (WL_n rfl (WL_n rfl (WL_n rfl ?_)))))))))))))))))))
        refine WL_n rfl (WL_n rfl (WL_n rfl (WL_n rfl (WL_n rfl (WL_n rfl (sE rfl (nl J ?_)))))))
        refine J7 _ _ (by repeat first | exact .refl | refine .cons rfl ?_) ⟨_, s0, ?s136, rfl⟩
        case s136 => exact congrArg Value.bool (nor_f h35)
      ·skip
       rintro g39 M ⟨hg136, rfl⟩
       simp only [setG, hg136]
       clear hg136
       rcases bt (!((av_ p a).2) || (!((av_ p b).2) || (!((av_ p r30).2) || (((Z.signW (((aa_ p a b).1).getD 0 I0).dec).1 != ((av_ p a).1).1) || ((Z.signW (((aa_ p a b).1).getD (((aa_ p a b).1).length - 1) I0).dec).1 != ((av_ p b).1).1))))) with h40 | h40
       ·skip
        refine W_t h40 rfl (Rs fun K J => sE rfl (nl J (W_ret (af_ (ret1 rfl (.inr rfl) rfl ?_)))))
        exact (by subst hr30; exact congrArg (fun r : Bool => (.bool r : Value)) (show _ = (a6_ p a b t) from bif_f h19 (bif_f h27 (bif_f h29 (bif_t h40 rfl)))))
       ·skip
        refine W_f h40 rfl (aj_ (J6 _ _ (Rs fun K J => sE rfl (nl J (Rs fun K J => sE rfl (nl J (Rs fun K J => sQ (q_ret en_58 (cp_ (wl 0)) rfl) rfl ?_)))))))
        refine sN zp_44 rfl fun b41 hb41 => sS [pI ((bb_ (wl 0)).n), pI ((bb_ (wl 0)).d)] ty_44 rfl rfl rfl rfl rfl (.head _) rfl hb41 ?_
        refine nl J (Sq fun K8 J8 => Rs fun K J => sE rfl (nl J ?_))
        refine cD_ (fun S M h => J8 S M h) [17, 18, 20, 21, 22, 23, 138, 139, 140, 141, 142, 143, 144, 145, 146, 147, 148, 149, 150, 151, 152, 153, 154, 155, 156, 157, 158, 159, 160, 161, 162, 163, 164, 165, 166, 167, 168, 169, 170, 171, 172, 173, 174, 175, 176, 177, 178, 179, 180, 181, 182, 183, 184, 185, 186, 187, 188, 189, 190, 191, 192, 193, 194, 195, 196] (fun g M => ∃ (least : W) (most : W) (i : Nat) (mb41 : Rt), (aU_ p a b t r30 ((((aa_ p a b).1).length + 1)) (wl 1) (wl (-1)) 0 (bb_ (wl 0))) = (least, most, i, mb41) ∧ (g 17 = .int .i64 least.1 ∧ g 18 = .int .i64 most.1 ∧ g 20 = .int .i64 ((i : Nat) : Int)) ∧ M = (⟨b41, 44, flat [pI mb41.n, pI mb41.d]⟩ :: (L22 ++ (⟨b3, 44, flat [pI t.n, pI t.d]⟩ :: (⟨b2, 44, flat [pI b.n, pI b.d]⟩ :: (⟨b1, 44, flat [pI a.n, pI a.d]⟩ :: [])))))) (fun K_u42 hK_u42 => ?_) ?_
        ·skip
         refine al_ ?_
         refine aB_ [17, 18, 20, 21, 22, 23, 138, 139, 140, 141, 142, 143, 144, 145, 146, 147, 148, 149, 150, 151, 152, 153, 154, 155, 156, 157, 158, 159, 160, 161, 162, 163, 164, 165, 166, 167, 168, 169, 170, 171, 172, 173, 174, 175, 176, 177, 178, 179, 180, 181, 182, 183, 184, 185, 186, 187, 188, 189, 190, 191, 192, 193, 194, 195, 196] (fun g nn M => ∃ (least : W) (most : W) (i : Nat) (mb41 : Rt), (aU_ p a b t r30 nn least most i mb41) = (aU_ p a b t r30 ((((aa_ p a b).1).length + 1)) (wl 1) (wl (-1)) 0 (bb_ (wl 0))) ∧ ((aa_ p a b).1).length - i < nn ∧ (i ≤ ((aa_ p a b).1).length) ∧ (g 17 = .int .i64 least.1 ∧ g 18 = .int .i64 most.1 ∧ g 20 = .int .i64 ((i : Nat) : Int)) ∧ M = (⟨b41, 44, flat [pI mb41.n, pI mb41.d]⟩ :: (L22 ++ (⟨b3, 44, flat [pI t.n, pI t.d]⟩ :: (⟨b2, 44, flat [pI b.n, pI b.d]⟩ :: (⟨b1, 44, flat [pI a.n, pI a.d]⟩ :: [])))))) ((((aa_ p a b).1).length + 1)) ?start ?round
         case start => exact ⟨_, s0, (wl 1), (wl (-1)), 0, (bb_ (wl 0)), rfl, (by omega), (by omega), ⟨rfl, rfl, rfl⟩, rfl⟩
         case round =>
          rintro nn g M ⟨least, most, i, mb41, hT0, hq0, hinv0, ⟨hg17, hg18, hg20⟩, rfl⟩
          obtain ⟨k0, rfl⟩ : ∃ m, nn = m + 1 := ⟨nn - 1, by omega⟩
          simp only [setG, hg17, hg18, hg20]
          clear hg17 hg18 hg20
          refine Sq fun K41 J41 => Rs fun K J => sE rfl (sE rfl (sQ (q_as (v' := .int .i64 ((((aa_ p a b).1).length : Nat) : Int)) (a8_ (e := elI) sl_22 rfl (SLfe.sle (OwnG.slfe hF23 (sd (List.sublist_append_left _ _))))) rfl) rfl (sE rfl (nl J ?_))))
          rcases bt (decide (((i : Nat) : Int) < ((((aa_ p a b).1).length : Nat) : Int))) with h78 | h78
          ·skip
           have ph78 := of_decide_eq_true h78
           refine W_t h78 rfl (aj_ (J41 _ _ (Sq fun K42 J42 => al_ (Rs fun K J => sE rfl (sE rfl (sE rfl (sQ (q_as (v' := .pointer (some (slb (.slice p20 ((aa_ p a b).1).length c21) (i * 18 + 0)))) (cF_ (e := elI) (l := (aa_ p a b).1) (k := i) sl_22 rfl rfl (SLfe.sle (OwnG.slfe hF23 (sd (List.sublist_append_left _ _)))) (by first | omega | (simp only [List.length_set, List.length_append, List.length_cons, List.length_nil]; omega))) rfl) rfl ?_)))))))
           refine sQ (q_ldG (e := elI) (l := (aa_ p a b).1) (k := i) (o := 0) ty_38 rfl (SLfe.sle (OwnG.slfe hF23 (sd (List.sublist_append_left _ _)))) (aD_ I0 (by first | omega | (simp only [List.length_set, List.length_append, List.length_cons, List.length_nil]; omega))) rfl) rfl ?_
           refine sC (.int .i64 ((Z.signW (((aa_ p a b).1).getD i I0).dec).1)) en_32 (a4_ (((aa_ p a b).1).getD i I0).1 (((aa_ p a b).1).getD i I0).2) rfl rfl rfl (sQ (q_as (v' := .int .i64 ((W.min least (Z.signW (((aa_ p a b).1).getD i I0).dec)).1)) (qd_ rfl rfl) (congrArg (Value.int .i64) (W.min_1 least (Z.signW (((aa_ p a b).1).getD i I0).dec)))) rfl (sE rfl (nl J (Rs fun K J => sE rfl (sE rfl (sE rfl (sQ (q_as (v' := .pointer (some (slb (.slice p20 ((aa_ p a b).1).length c21) (i * 18 + 0)))) (cF_ (e := elI) (l := (aa_ p a b).1) (k := i) sl_22 rfl rfl (SLfe.sle (OwnG.slfe hF23 (sd (List.sublist_append_left _ _)))) (by first | omega | (simp only [List.length_set, List.length_append, List.length_cons, List.length_nil]; omega))) rfl) rfl ?_)))))))
           refine sQ (q_ldG (e := elI) (l := (aa_ p a b).1) (k := i) (o := 0) ty_38 rfl (SLfe.sle (OwnG.slfe hF23 (sd (List.sublist_append_left _ _)))) (aD_ I0 (by first | omega | (simp only [List.length_set, List.length_append, List.length_cons, List.length_nil]; omega))) rfl) rfl ?_
           refine sC (.int .i64 ((Z.signW (((aa_ p a b).1).getD i I0).dec).1)) en_32 (a4_ (((aa_ p a b).1).getD i I0).1 (((aa_ p a b).1).getD i I0).2) rfl rfl rfl (sQ (q_as (v' := .int .i64 ((W.max most (Z.signW (((aa_ p a b).1).getD i I0).dec)).1)) (hL_ rfl rfl) (congrArg (Value.int .i64) (W.max_1 most (Z.signW (((aa_ p a b).1).getD i I0).dec)))) rfl (sE rfl (nl J (ds s0 [0,4,8,12,16,20,25,29] [7] mix (by kernel_rfl) (fun K J => pE rfl (pE rfl (pQ rfl (q_as (v' := .pointer (some (slb (.slice p20 ((aa_ p a b).1).length c21) (i * 18 + 0)))) (cF_ (e := elI) (l := (aa_ p a b).1) (k := i) sl_22 rfl rfl (SLfe.sle (OwnG.slfe hF23 (sd (List.sublist_append_left _ _)))) (by first | omega | (simp only [List.length_set, List.length_append, List.length_cons, List.length_nil]; omega))) rfl) ?_)))))))
           refine pQ rfl (q_ldG (e := elI) (l := (aa_ p a b).1) (k := i) (o := 0) ty_38 rfl (SLfe.sle (OwnG.slfe hF23 (sd (List.sublist_append_left _ _)))) (aD_ I0 (by first | omega | (simp only [List.length_set, List.length_append, List.length_cons, List.length_nil]; omega))) rfl) ?_
           refine pC (AV [pI (E (Z.of 1))]) en_62 (a9_ (wl 1).1 (wl 1).2) rfl rfl rfl ?_
           obtain ⟨r79, hr79⟩ := nm ((ag_ (((aa_ p a b).1).getD i I0) (E (Z.of 1))) : Rt)
           refine pC (AV [pI r79.n, pI r79.d]) en_61 (cQ_ (((aa_ p a b).1).getD i I0) (E (Z.of 1))) rfl rfl (by rw [hr79]; first | done | rfl) (PL_o rfl rfl (ct_ zp_44 (fun b80 hb80 => ⟨(fun _ => sd s0), (sd s0), oS [pI r79.n, pI r79.d] ty_44 rfl rfl rfl rfl rfl rfl (.head _) rfl hb80 rfl (sd s0) (fl J (Sq fun K43 J43 => Rs fun K J => sE rfl (nl J ?_)))⟩)))
           refine cD_ (fun S M h => J43 S M h) [22, 164, 165, 166, 167, 168, 169, 170, 171, 172, 173, 174, 175, 176, 177, 178, 179, 180] (fun g M => ∃ (k : Nat) (mb80 : Rt), (aN_ p a b t r30 least most i mb41 r30 r79 ((i + 1)) 0 r79) = (k, mb80) ∧ (g 22 = .int .i64 ((k : Nat) : Int)) ∧ M = (⟨b80, 44, flat [pI mb80.n, pI mb80.d]⟩ :: (⟨b41, 44, flat [pI mb41.n, pI mb41.d]⟩ :: (L22 ++ (⟨b3, 44, flat [pI t.n, pI t.d]⟩ :: (⟨b2, 44, flat [pI b.n, pI b.d]⟩ :: (⟨b1, 44, flat [pI a.n, pI a.d]⟩ :: []))))))) (fun K_u81 hK_u81 => ?_) ?_
           ·skip
            refine al_ ?_
            refine aB_ [22, 164, 165, 166, 167, 168, 169, 170, 171, 172, 173, 174, 175, 176, 177, 178, 179, 180] (fun g nn M => ∃ (k : Nat) (mb80 : Rt), (aN_ p a b t r30 least most i mb41 r30 r79 nn k mb80) = (aN_ p a b t r30 least most i mb41 r30 r79 ((i + 1)) 0 r79) ∧ i - k < nn ∧ (k ≤ i) ∧ (g 22 = .int .i64 ((k : Nat) : Int)) ∧ M = (⟨b80, 44, flat [pI mb80.n, pI mb80.d]⟩ :: (⟨b41, 44, flat [pI mb41.n, pI mb41.d]⟩ :: (L22 ++ (⟨b3, 44, flat [pI t.n, pI t.d]⟩ :: (⟨b2, 44, flat [pI b.n, pI b.d]⟩ :: (⟨b1, 44, flat [pI a.n, pI a.d]⟩ :: []))))))) ((i + 1)) ?start ?round
            case start => exact ⟨_, s0, 0, r79, rfl, (by omega), (by omega), rfl, rfl⟩
            case round =>
             rintro nn g M ⟨k, mb80, hT1, hq1, hinv1, hg22, rfl⟩
             obtain ⟨k1, rfl⟩ : ∃ m, nn = m + 1 := ⟨nn - 1, by omega⟩
             simp only [setG, hg22]
             clear hg22
             refine Sq fun K48 J48 => Rs fun K J => sE rfl (sE rfl (sE rfl (nl J ?_)))
             rcases bt (decide (((k : Nat) : Int) < ((i : Nat) : Int))) with h86 | h86
             ·skip
              have ph86 := of_decide_eq_true h86
              refine W_t h86 rfl (aj_ (J48 _ _ (Sq fun K49 J49 => al_ (Rk fun K J => sQ (qL ty_44 rfl m0 rfl) rfl (sQ (qL ty_44 rfl (List.mem_cons_of_mem _ (List.mem_cons_of_mem _ (List.mem_append_right _ (List.mem_cons_self)))) rfl) rfl (sQ (q_ret en_53 (eJ_ mb80 t) rfl) rfl (sE rfl (sQ (q_as (v' := .int .i64 ((((aa_ p a b).1).length : Nat) : Int)) (a8_ (e := elI) sl_22 rfl (SLfe.sle (OwnG.slfe hF23 (sd (sd (List.sublist_append_left _ _)))))) rfl) rfl (sV (.int .i64 (((((aa_ p a b).1).length : Nat) : Int) - 1)) rfl (congrArg (Value.int .i64) (wx (by omega) (by omega) (by omega))) (sE rfl (sV (.int .i64 ((((((aa_ p a b).1).length : Nat) : Int) - 1) - ((k : Nat) : Int))) rfl (congrArg (Value.int .i64) (wx (by omega) (by omega) (by omega))) (sE rfl (sV (.int .i64 (((k + 1) : Nat) : Int)) rfl (congrArg (Value.int .i64) (wx (by omega) (by omega) (by omega))) ?_)))))))))))))
              have hFr := gA_ (W.cv (((((aa_ p a b).1).length : Nat) : Int) - 1 - ((k : Nat) : Int))) (W.cv (((k + 1 : Nat)) : Int))
              rw [cvE (by omega), cvE (by omega)] at hFr
              obtain ⟨r87, hr87⟩ := nm ((df_ (W.cv ((((((aa_ p a b).1).length : Nat) : Int) - 1) - ((k : Nat) : Int))) (W.cv (((k + 1) : Nat) : Int))) : Rt)
              refine sC (AV [pI r87.n, pI r87.d]) en_63 hFr rfl rfl (by rw [hr87]; first | done | rfl) (sQ (q_ret en_53 (eJ_ (a7_ mb80 t) r87) rfl) rfl (sS [pI ((a7_ (a7_ mb80 t) r87).n), pI ((a7_ (a7_ mb80 t) r87).d)] ty_44 rfl rfl rfl rfl rfl (.head _) rfl hb80 (nl J (J49 _ _ (Rk fun K J => sE rfl (sV (.int .i64 (((k + 1) : Nat) : Int)) rfl (congrArg (Value.int .i64) (wx (by omega) (by omega) (by omega))) (sE rfl (nl J (⟨(by repeat first | exact .refl | refine .cons rfl ?_), _, _, s0, (Nat.lt_succ_self _), (k + 1), (a7_ (a7_ mb80 t) r87), (by subst hr87; exact (hT1.symm.trans (Eq.symm (bif_t h86 rfl))).symm), (Nat.lt_of_lt_of_le (by omega) (Nat.le_of_lt_succ hq1)), (by omega), rfl, rfl⟩)))))))))
             ·skip
              have ph86 := of_decide_eq_false h86
              refine W_f h86 rfl (bd_ (ai_ (ai_ (an_ (hK_u81 _ _ (by repeat first | exact .refl | refine .cons rfl ?_) ⟨_, s0, k, mb80, (by exact hT1.symm.trans (Eq.symm (bif_f h86 rfl))), rfl, rfl⟩)))))
           ·skip
            rintro g M ⟨k, mb80, hCu81, hg22, rfl⟩
            simp only [setG, hg22]
            clear hg22
            refine Sq fun K50 J50 => Rs fun K J => sE rfl (sE rfl (nl J ?_))
            refine cD_ (fun S M h => J50 S M h) [23, 182, 183, 184, 185, 186, 187, 188, 189, 190, 191, 192, 193] (fun g M => ∃ (m : Nat) (mb80_2 : Rt), (aV_ p a b t r30 least most i mb41 r30 r79 k mb80 r30 r79 ((((aa_ p a b).1).length + 1)) i mb80) = (m, mb80_2) ∧ (g 23 = .int .i64 ((m : Nat) : Int)) ∧ M = (⟨b80, 44, flat [pI mb80_2.n, pI mb80_2.d]⟩ :: (⟨b41, 44, flat [pI mb41.n, pI mb41.d]⟩ :: (L22 ++ (⟨b3, 44, flat [pI t.n, pI t.d]⟩ :: (⟨b2, 44, flat [pI b.n, pI b.d]⟩ :: (⟨b1, 44, flat [pI a.n, pI a.d]⟩ :: []))))))) (fun K_u88 hK_u88 => ?_) ?_
            ·skip
             refine al_ ?_
             refine aB_ [23, 182, 183, 184, 185, 186, 187, 188, 189, 190, 191, 192, 193] (fun g nn M => ∃ (m : Nat) (mb80_2 : Rt), (aV_ p a b t r30 least most i mb41 r30 r79 k mb80 r30 r79 nn m mb80_2) = (aV_ p a b t r30 least most i mb41 r30 r79 k mb80 r30 r79 ((((aa_ p a b).1).length + 1)) i mb80) ∧ ((aa_ p a b).1).length - m < nn ∧ (i ≤ m) ∧ (g 23 = .int .i64 ((m : Nat) : Int)) ∧ M = (⟨b80, 44, flat [pI mb80_2.n, pI mb80_2.d]⟩ :: (⟨b41, 44, flat [pI mb41.n, pI mb41.d]⟩ :: (L22 ++ (⟨b3, 44, flat [pI t.n, pI t.d]⟩ :: (⟨b2, 44, flat [pI b.n, pI b.d]⟩ :: (⟨b1, 44, flat [pI a.n, pI a.d]⟩ :: []))))))) ((((aa_ p a b).1).length + 1)) ?start ?round
             case start => exact ⟨_, s0, i, mb80, rfl, (by omega), (by omega), rfl, rfl⟩
             case round =>
              rintro nn g M ⟨m, mb80_2, hT2, hq2, hinv2, hg23, rfl⟩
              obtain ⟨k2, rfl⟩ : ∃ m, nn = m + 1 := ⟨nn - 1, by omega⟩
              simp only [setG, hg23]
              clear hg23
              refine Sq fun K55 J55 => Rs fun K J => sE rfl (sE rfl (sQ (q_as (v' := .int .i64 ((((aa_ p a b).1).length : Nat) : Int)) (a8_ (e := elI) sl_22 rfl (SLfe.sle (OwnG.slfe hF23 (sd (sd (List.sublist_append_left _ _)))))) rfl) rfl (sV (.int .i64 (((((aa_ p a b).1).length : Nat) : Int) - 1)) rfl (congrArg (Value.int .i64) (wx (by omega) (by omega) (by omega))) (sE rfl (nl J ?_)))))
              rcases bt (decide (((m : Nat) : Int) < (((((aa_ p a b).1).length : Nat) : Int) - 1))) with h93 | h93
              ·skip
               have ph93 := of_decide_eq_true h93
               refine W_t h93 rfl (aj_ (J55 _ _ (Sq fun K56 J56 => al_ (dr (sd s0) [0,4,8,12,16,21] [5] mix (by kernel_rfl) (fun K J => pQ rfl (qL ty_44 rfl m0 rfl) (pQ rfl (q_ret en_58 (cp_ (wl 1)) rfl) ?_))))))
               refine pQ rfl (qL ty_44 rfl (List.mem_cons_of_mem _ (List.mem_cons_of_mem _ (List.mem_append_right _ (List.mem_cons_self)))) rfl) (pQ rfl (q_ret en_60 (fG_ (bb_ (wl 1)) t) rfl) ?_)
               obtain ⟨r94, hr94⟩ := nm ((a7_ mb80_2 (a5_ (bb_ (wl 1)) t)) : Rt)
               refine pC (AV [pI r94.n, pI r94.d]) en_53 (eJ_ mb80_2 (a5_ (bb_ (wl 1)) t)) rfl rfl (by rw [hr94]; first | done | rfl) ?_
               refine oS [pI r94.n, pI r94.d] ty_44 rfl rfl rfl rfl rfl rfl (.head _) rfl hb80 rfl (sd s0) (fl J (J56 _ _ (Rk fun K J => sE rfl (sV (.int .i64 (((m + 1) : Nat) : Int)) rfl (congrArg (Value.int .i64) (wx (by omega) (by omega) (by omega))) (sE rfl (nl J (⟨(by repeat first | exact .refl | refine .cons rfl ?_), _, _, s0, (Nat.lt_succ_self _), (m + 1), r94, (by subst hr94; exact (hT2.symm.trans (Eq.symm (bif_t h93 rfl))).symm), (Nat.lt_of_lt_of_le (by omega) (Nat.le_of_lt_succ hq2)), (by omega), rfl, rfl⟩)))))))
              ·skip
               have ph93 := of_decide_eq_false h93
               refine W_f h93 rfl (bd_ (ai_ (ai_ (an_ (hK_u88 _ _ (by repeat first | exact .refl | refine .cons rfl ?_) ⟨_, s0, m, mb80_2, (by exact hT2.symm.trans (Eq.symm (bif_f h93 rfl))), rfl, rfl⟩)))))
            ·skip
             rintro g M ⟨m, mb80_2, hCu88, hg23, rfl⟩
             simp only [setG, hg23]
             clear hg23
             refine Rk fun K J => sQ (qL ty_44 rfl m1 rfl) rfl (sQ (qL ty_44 rfl m0 rfl) rfl (sQ (q_ret en_54 (fH_ mb41 mb80_2) rfl) rfl (sS [pI ((b4_ mb41 mb80_2).n), pI ((b4_ mb41 mb80_2).d)] ty_44 rfl rfl rfl rfl rfl (.tail _ (.head _)) rfl hb41 (nl J (J42 _ _ (Rk fun K J => sE rfl (sV (.int .i64 (((i + 1) : Nat) : Int)) rfl (congrArg (Value.int .i64) (wx (by omega) (by omega) (by omega))) (sE rfl (nl J (⟨(by repeat first | exact .refl | refine .cons rfl ?_), _, _, (sd (s0)), (Nat.lt_succ_self _), (W.min least (Z.signW (((aa_ p a b).1).getD i I0).dec)), (W.max most (Z.signW (((aa_ p a b).1).getD i I0).dec)), (i + 1), (b4_ mb41 mb80_2), (by subst hr79; exact (hT0.symm.trans (Eq.symm (bif_t h78 (trs (Eq.symm (apS hCu81)) (trs (Eq.symm (apS hCu88)) rfl))))).symm), (Nat.lt_of_lt_of_le (by omega) (Nat.le_of_lt_succ hq0)), (by omega), ⟨rfl, rfl, rfl⟩, rfl⟩))))))))))
          ·skip
           have ph78 := of_decide_eq_false h78
           refine W_f h78 rfl (bd_ (ai_ (ai_ (an_ (hK_u42 _ _ (by repeat first | exact .refl | refine .cons rfl ?_) ⟨_, s0, least, most, i, mb41, (by exact hT0.symm.trans (Eq.symm (bif_f h78 rfl))), ⟨rfl, rfl, rfl⟩, rfl⟩)))))
        ·skip
         rintro g M ⟨least, most, i, mb41, hCu42, ⟨hg17, hg18, hg20⟩, rfl⟩
         simp only [setG, hg17, hg18, hg20]
         clear hg17 hg18 hg20
         refine bI_ [8, 197, 198, 199, 200, 201, 202, 203, 204, 205, 206, 207, 208, 209, 210, 211, 212, 213, 214, 215, 216, 217, 218, 219] (fun g M => (g 8 = .bool (bZ_ && (bif decide (least.1 < 0) then (bif decide (0 < most.1) then ((bF_ mb41).1 == ((av_ p r30).1).1) else (decide (((av_ p r30).1).1 ≤ 0) && ((bF_ mb41).1 == ((av_ p r30).1).1))) else (decide (0 ≤ ((av_ p r30).1).1) && (bif decide (0 < most.1) then ((bF_ mb41).1 == ((av_ p r30).1).1) else (decide (((av_ p r30).1).1 ≤ 0) && ((bF_ mb41).1 == ((av_ p r30).1).1))))))) ∧ M = (⟨b41, 44, flat [pI mb41.n, pI mb41.d]⟩ :: (L22 ++ (⟨b3, 44, flat [pI t.n, pI t.d]⟩ :: (⟨b2, 44, flat [pI b.n, pI b.d]⟩ :: (⟨b1, 44, flat [pI a.n, pI a.d]⟩ :: [])))))) (fun K57 J57 => ?_) ?_
         ·skip
          refine Rk fun K J => sQ (q_ret en_14 dd_  rfl) rfl ?_
          rcases bt bZ_ with h102 | h102
          ·skip
           refine sB h102 rfl (sE rfl (sE rfl ?_))
           rcases bt (decide (least.1 < 0)) with h103 | h103
           ·skip
            have ph103 := of_decide_eq_true h103
            refine sB h103 rfl (WL_n rfl (WL_n rfl (sE rfl (sE rfl (sE rfl (sE rfl (sE rfl ?_)))))))
            rcases bt (decide (0 < most.1)) with h104 | h104
            ·skip
             have ph104 := of_decide_eq_true h104
             refine sB h104 rfl (WL_n rfl (WL_n rfl (sE rfl (sE rfl (sE rfl (sQ (qL ty_44 rfl m0 rfl) rfl (sQ (q_ret en_57 (dT_ mb41) rfl) rfl (sE rfl (sE rfl (sE rfl (sE rfl (nl J ?_))))))))))))
             refine J57 _ _ (by repeat first | exact .refl | refine .cons rfl ?_) ⟨_, s0, ?s8, rfl⟩
             case s8 => exact congrArg Value.bool (and_t h102 (bif_t h103 (bif_t h104 rfl)))
            ·skip
             have ph104 := of_decide_eq_false h104
             refine sB h104 rfl (sE rfl (sE rfl (sE rfl (sE rfl ?_))))
             rcases bt (decide (((av_ p r30).1).1 ≤ 0)) with h105 | h105
             ·skip
              have ph105 := of_decide_eq_true h105
              refine sB h105 rfl (sQ (qL ty_44 rfl m0 rfl) rfl (sQ (q_ret en_57 (dT_ mb41) rfl) rfl (sE rfl (sE rfl (sE rfl (sE rfl (nl J ?_)))))))
              refine J57 _ _ (by repeat first | exact .refl | refine .cons rfl ?_) ⟨_, s0, ?s8, rfl⟩
              case s8 => exact congrArg Value.bool (and_t h102 (bif_t h103 (bif_f h104 (and_t h105 rfl))))
             ·skip
              have ph105 := of_decide_eq_false h105
              refine sB h105 rfl (WL_n rfl (WL_n rfl (WL_n rfl (WL_n rfl (sE rfl (sE rfl (nl J ?_)))))))
              refine J57 _ _ (by repeat first | exact .refl | refine .cons rfl ?_) ⟨_, s0, ?s8, rfl⟩
              case s8 => exact congrArg Value.bool (and_t h102 (bif_t h103 (bif_f h104 (and_f h105))))
           ·skip
            have ph103 := of_decide_eq_false h103
            refine sB h103 rfl (sE rfl (sE rfl (sE rfl (sE rfl ?_))))
            rcases bt (decide (0 ≤ ((av_ p r30).1).1)) with h106 | h106
            ·skip
             have ph106 := of_decide_eq_true h106
             refine sB h106 rfl (sE rfl (sE rfl ?_))
             rcases bt (decide (0 < most.1)) with h107 | h107
             ·skip
              have ph107 := of_decide_eq_true h107
              refine sB h107 rfl (WL_n rfl (WL_n rfl (sE rfl (sE rfl (sE rfl (sQ (qL ty_44 rfl m0 rfl) rfl (sQ (q_ret en_57 (dT_ mb41) rfl) rfl (sE rfl (sE rfl (sE rfl (sE rfl (nl J ?_))))))))))))
              refine J57 _ _ (by repeat first | exact .refl | refine .cons rfl ?_) ⟨_, s0, ?s8, rfl⟩
              case s8 => exact congrArg Value.bool (and_t h102 (bif_f h103 (and_t h106 (bif_t h107 rfl))))
             ·skip
              have ph107 := of_decide_eq_false h107
              refine sB h107 rfl (sE rfl (sE rfl (sE rfl (sE rfl ?_))))
              rcases bt (decide (((av_ p r30).1).1 ≤ 0)) with h108 | h108
              ·skip
               have ph108 := of_decide_eq_true h108
               refine sB h108 rfl (sQ (qL ty_44 rfl m0 rfl) rfl (sQ (q_ret en_57 (dT_ mb41) rfl) rfl (sE rfl (sE rfl (sE rfl (sE rfl (nl J ?_)))))))
               refine J57 _ _ (by repeat first | exact .refl | refine .cons rfl ?_) ⟨_, s0, ?s8, rfl⟩
               case s8 => exact congrArg Value.bool (and_t h102 (bif_f h103 (and_t h106 (bif_f h107 (and_t h108 rfl)))))
              ·skip
               have ph108 := of_decide_eq_false h108
               refine sB h108 rfl (WL_n rfl (WL_n rfl (WL_n rfl (WL_n rfl (sE rfl (sE rfl (nl J ?_)))))))
               refine J57 _ _ (by repeat first | exact .refl | refine .cons rfl ?_) ⟨_, s0, ?s8, rfl⟩
               case s8 => exact congrArg Value.bool (and_t h102 (bif_f h103 (and_t h106 (bif_f h107 (and_f h108)))))
            ·skip
             have ph106 := of_decide_eq_false h106
             refine sB h106 rfl (WL_n rfl (WL_n rfl (WL_n rfl (WL_n rfl (WL_n rfl (WL_n rfl (sE rfl (sE rfl (WL_n rfl (WL_n rfl (WL_n rfl (WL_n rfl (sE rfl (sE rfl (nl J ?_)))))))))))))))
             refine J57 _ _ (by repeat first | exact .refl | refine .cons rfl ?_) ⟨_, s0, ?s8, rfl⟩
             case s8 => exact congrArg Value.bool (and_t h102 (bif_f h103 (and_f h106)))
          ·skip
           refine sB h102 rfl (WL_n rfl (WL_n rfl (WL_n rfl (WL_n rfl (WL_n rfl (WL_n rfl (sE rfl (sE rfl (WL_n rfl (WL_n rfl (WL_n rfl (WL_n rfl (WL_n rfl (WL_n rfl (sE rfl (sE rfl (WL_n rfl (WL_n rfl (WL_n rfl ?_)))))))))))))))))))
           refine WL_n rfl (sE rfl (sE rfl (nl J ?_)))
           refine J57 _ _ (by repeat first | exact .refl | refine .cons rfl ?_) ⟨_, s0, ?s8, rfl⟩
           case s8 => exact congrArg Value.bool (and_f h102)
         ·skip
          rintro g109 M ⟨hg8, rfl⟩
          simp only [setG, hg8]
          clear hg8
          refine W_ret (ret1 rfl (.inr rfl) rfl ?_)
          exact (by subst hr30; exact congrArg (fun r : Bool => (.bool r : Value)) (show _ = (a6_ p a b t) from bif_f h19 (bif_f h27 (bif_f h29 (bif_f h40 (trs (Eq.symm (apS hCu42)) rfl))))))
end Go.Proofs.YtjdfogfmeibkgaaGreat

