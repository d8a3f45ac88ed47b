/- Walks: what these functions return. What these functions compute, as plain functions. No program stands in it. -/
import Derived.Test.YtapbefpeopaecaaGreatDoorXGE
import Derived.Test.YtapbefpeopaecaaGreatDoorXGa
import Derived.Test.YtapbefpeopaecaaGreatDoorXGd
import Derived.Test.YtapbefpeopaecaaGreatDoorXSb
import Derived.Test.YtapbefpeopaecaaGreatDoorXSe
import Derived.Test.YtapbefpeopaecaaGreatDoorXSh
import Derived.Test.YtapbefpeopaecaaGreatDoorXFWq
namespace Go.Proofs.YtapbefpeopaecaaGreatDoor
open Go.Kn Go.Num
set_option linter.unusedVariables false
set_option linter.unusedSimpArgs false
set_option maxRecDepth 20000
set_option maxHeartbeats 8000000
end Go.Proofs.YtapbefpeopaecaaGreatDoor

namespace Go.Proofs.YtapbefpeopaecaaGreatDoor
open Go.Kn Go.Num
set_option linter.unusedVariables false
set_option linter.unusedSimpArgs false
set_option maxRecDepth 20000
set_option maxHeartbeats 8000000
theorem fE_ (va : Value) (n k : Nat) (hk : k ≤ 1000000) (w : World) (hva : Sl w va (dl n)) :
    Calls Tryz.prog 100 [va, .int .i64 (k : Int)].toArray w (fun e w' => e = .returned (.int .i64 ((n / 2 ^ k % 2 : Nat) : Int)) ∧ Ext w w') := by
 refine cI_ (N := 13) Tryz.func100 rfl rfl (by simp) ?_
 obtain ⟨w0, rfl⟩ : ∃ w0, w0 = w := ⟨_, rfl⟩
 simp only [initF, Nat.reduceAdd]
 refine Sq fun K1 J1 => Rk fun K J => sE rfl (nl J (J1 _ _ (Sq fun K2 J2 => Rk fun K J => sE rfl (sE rfl (sQ (q_as (q_quo rfl rfl (by decide)) (congrArg (Value.int .i64) (shq 16 (by decide) (by omega)))) rfl (sQ (q_as (bM_ gi_ rfl (fun w hw => bg_ va (dl n) (k / 16) w (SL.sl (M := _) hva.old hw))) (congrArg (fun z : Nat => Value.int .i64 (z : Int)) (gI_ n (k / 16)))) rfl (sE rfl (sQ (q_as (q_rem rfl rfl (by decide)) (congrArg (Value.int .i64) (shr 16 k))) rfl (sQ (q_shr rfl rfl (Int.natCast_nonneg _)) rfl (sQ (q_as (q_rem rfl rfl (by decide)) (congrArg (Value.int .i64) (pf_ n k))) rfl (sE rfl (nl J (J2 _ _ (W_ret (ret1 rfl (.inr rfl) rfl ?_)))))))))))))))
 exact rfl

theorem cd_ (a : R) (ha : a.Ok) :
    Ret Tryz.prog 52 [RV a] (.int .i64 ((a.dec.bits : Nat) : Int)) := by
 refine az_ (N := 25) Tryz.func52 rfl rfl (by simp) (fun w0 => ?_)
 simp only [initF, Nat.reduceAdd]
 refine Sq fun K1 J1 => Rk fun K J => WL_r rfl (r_box rfl rfl (fun b1 hb1 => sE rfl (nl J (J1 _ _ (Sq fun K2 J2 => Sq fun K3 J3 => Rk fun K J => sQ (aE_ ty_37 rfl (by repeat (first | exact .head _ | apply List.mem_append_right | apply List.Mem.tail)) (aC_ ha)) rfl ?_)))))
 refine sQ (q_ret en_86 (aQ_ a ha) rfl) rfl (sE rfl (nl J (J3 _ _ ?_)))
 refine aN_ _ rfl (fun hg => ?_) (fun hg => ?_)
 ·(try simp only [decide_eq_true_eq, decide_eq_false_iff_not, beq_iff_eq, bne_iff_ne, beq_eq_false_iff_ne, bne_eq_false_iff_eq, Bool.not_eq_true', Bool.not_eq_false'] at hg)
  refine Sq fun K4 J4 => Rk fun K J => sE rfl (nl J (J4 _ _ (W_ret (af_ (ret1 rfl (.inr rfl) rfl ?_)))))
  exact congrArg (fun z : Nat => Value.int .i64 (z : Int)) (n5_ (by simpa using hg)).symm
 ·(try simp only [decide_eq_true_eq, decide_eq_false_iff_not, beq_iff_eq, bne_iff_ne, beq_eq_false_iff_ne, bne_eq_false_iff_eq, Bool.not_eq_true', Bool.not_eq_false'] at hg)
  refine ah_ (J2 _ _ (Sq fun K5 J5 => Rk fun K J => sQ (aE_ ty_37 rfl (by repeat (first | exact .head _ | apply List.mem_append_right | apply List.Mem.tail)) (aC_ ha)) rfl ?_))
  refine WL_r rfl (cJ_ en_87 rfl (fun w hw => a0_ a ha w) (fun v L hv => sE rfl (nl J (J5 _ _ (Sq fun K6 J6 => ?_)))))
  have hl32 : (dl (val a.w)).length ≤ 32 := ed_ (by rw [← jp_]; have := fI_ a.w ha.lim; rwa [ha.len] at this)
  refine Rk fun K J => sE rfl (sQ (dB_ sl_81 rfl (SL.sub hv.sl (List.sublist_append_left _ _))) rfl (sQ (q_as (q_mul rfl rfl) (congrArg (Value.int .i64) (mul16 (Nat.le_trans hl32 (by decide))))) rfl (sE rfl (nl J (J6 _ _ (Sq fun K7 J7 => am_ ?_))))))
  refine bi_ [4, 13, 14, 15, 16, 17, 18, 19, 20, 21, 22, 23] (fun g nn M => ∃ (k : Nat), (g 4 = .int .i64 (k : Int)) ∧ M = L ++ [⟨b1, 37, a.cells⟩] ∧ nn = k + 0 ∧ (k ≤ 16 * (dl (val a.w)).length ∧ val a.w < 2 ^ k)) (16 * (dl (val a.w)).length) ?start ?round
  case start =>
   refine ⟨_, (List.Sublist.refl _), 16 * (dl (val a.w)).length, ?a4, ?mem0, rfl, ⟨Nat.le_refl _, la_ _⟩⟩
   case mem0 => rfl
   case a4 => rfl
  case round =>
   rintro nn g M ⟨k, hg4, rfl, hmeas, ⟨hk, hlt⟩⟩
   subst nn
   simp only [setG, hg4]
   clear hg4
   refine Sq fun K8 J8 => Sq fun K9 J9 => Rk fun K J => sE rfl (sE rfl (sE rfl ?_))
   cases hz : decide ((0 : Int) < (k : Int))
   ·skip
    refine WL_n rfl (WL_n rfl (WL_n rfl (WL_n rfl (WL_n rfl (sE rfl (nl J (J9 _ _ (bh_ rfl (bd_ (aq_ (aq_ (aw_ (J7 _ _ (Sq fun K10 J10 => Rk fun K J => sE rfl (sE rfl (nl J (J10 _ _ (W_ret (ret1 rfl (.inr rfl) rfl ?_)))))))))))))))))))
    exact congrArg (fun z : Nat => Value.int .i64 (z : Int)) (pX_ ha (by simpa using hg) hlt (by have := of_decide_eq_false hz; omega)).symm
   ·skip
    have hz' := of_decide_eq_true hz
    obtain ⟨m, rfl⟩ : ∃ m, k = m + 1 := ⟨k - 1, by omega⟩
    refine sE rfl (sE rfl (sQ (q_as (q_sub rfl rfl) (congrArg (Value.int .i64) (fR_ (by omega)))) rfl (sQ (bM_ qZ_ rfl (fun w hw => fE_ v (val a.w) m (by omega) w (SL.sl (SL.sub hv.sl (List.sublist_append_left _ _)) hw))) rfl (sE rfl (sE rfl (nl J (J9 _ _ ?_)))))))
    refine aN_ _ rfl (fun h0 => ?_) (fun h0 => ?_)
    ·(try simp only [decide_eq_true_eq, decide_eq_false_iff_not, beq_iff_eq, bne_iff_ne, beq_eq_false_iff_ne, bne_eq_false_iff_eq, Bool.not_eq_true', Bool.not_eq_false'] at h0)
     refine ah_ (J8 _ _ (am_ (Rk fun K J => sE rfl (sQ (q_as (q_sub rfl rfl) (congrArg (Value.int .i64) (fR_ (by omega)))) rfl (sE rfl (nl J ?_))))))
     refine ⟨(by repeat first | exact .refl | refine .cons rfl ?_), _, _, (List.Sublist.refl _), (by omega), m, ?s4, ?mem, rfl, ⟨by omega, mt_ hlt (by omega)⟩⟩
     case mem => rfl
     case s4 => rfl
    ·(try simp only [decide_eq_true_eq, decide_eq_false_iff_not, beq_iff_eq, bne_iff_ne, beq_eq_false_iff_ne, bne_eq_false_iff_eq, Bool.not_eq_true', Bool.not_eq_false'] at h0)
     refine bd_ (aq_ (aq_ (aw_ (J7 _ _ (Sq fun K11 J11 => Rk fun K J => sE rfl (sE rfl (nl J (J11 _ _ (W_ret (ret1 rfl (.inr rfl) rfl ?_))))))))))
     exact congrArg (fun z : Nat => Value.int .i64 (z : Int)) ((fF_ ha (by simpa using hg)).trans (p4_ hlt (by omega))).symm
end Go.Proofs.YtapbefpeopaecaaGreatDoor

namespace Go.Proofs.YtapbefpeopaecaaGreatDoor
open Go.Kn Go.Num
set_option linter.unusedVariables false
set_option linter.unusedSimpArgs false
set_option maxRecDepth 20000
set_option maxHeartbeats 8000000
end Go.Proofs.YtapbefpeopaecaaGreatDoor

namespace Go.Proofs.YtapbefpeopaecaaGreatDoor
open Go.Kn Go.Num
set_option linter.unusedVariables false
set_option linter.unusedSimpArgs false
set_option maxRecDepth 20000
set_option maxHeartbeats 8000000
theorem dK_ (a : (A3 W)) (b : W) :
    Ret Tryz.prog 23 [AV [ci .i64 a.x.1, ci .i64 a.y.1, ci .i64 a.z.1], .int .i64 b.1] (.bool (as_ a b)) := by
 refine az_ (N := 34) Tryz.func23 rfl rfl (by simp) (fun w0 => ?_)
 simp only [initF, Nat.reduceAdd]
 refine Rs fun K J => WL_r rfl (bl_ rfl rfl (fun b1 hb1 => sE rfl (nl J (Sq fun K1 J1 => Rs fun K J => sE rfl (nl J (am_ (W_un 5 (Un_s (fun K2 J2 => Sq fun K3 J3 => Rs fun K J => sE rfl (sV (.bool true) rfl rfl (nl J (br_ rfl (ah_ (J3 _ _ (Sq fun K4 J4 => ?_)))))))))))))))
 refine am_ ?_
 refine b3_ [11, 12, 13, 14, 15, 16, 17, 18, 19, 20] (fun g M => (g 20 = .bool (decide (536870912 ≤ a.x.1) || decide (a.x.1 ≤ (-536870912)))) ∧ M = [⟨b1, 23, flat [ci .i64 a.x.1, ci .i64 a.y.1, ci .i64 a.z.1]⟩]) (fun K5 J5 => ?_) ?_
 ·skip
  refine Rk fun K J => sE rfl (sQ (qA ar_23 rfl rfl rfl) rfl (sQ (qC ty_3 rfl m0 rfl) rfl (sE rfl ?_)))
  rcases bt (decide (536870912 ≤ a.x.1)) with h3 | h3
  ·skip
   refine sB h3 rfl (WL_n rfl (WL_n rfl (WL_n rfl (WL_n rfl (sE rfl (nl J ?_))))))
   refine J5 _ _ (by repeat first | exact .refl | refine .cons rfl ?_) ⟨_, s0, ?s20, rfl⟩
   case s20 => exact congrArg Value.bool (or_t h3)
  ·skip
   refine sB h3 rfl (sE rfl (sQ (qA ar_23 rfl rfl rfl) rfl (sQ (qC ty_3 rfl m0 rfl) rfl (sE rfl (sE rfl (nl J ?_))))))
   refine J5 _ _ (by repeat first | exact .refl | refine .cons rfl ?_) ⟨_, s0, ?s20, rfl⟩
   case s20 => exact congrArg Value.bool (or_f h3 rfl)
 ·skip
  rintro g4 M ⟨hg20, rfl⟩
  simp only [setG, hg20]
  clear hg20
  rcases bt (decide (536870912 ≤ a.x.1) || decide (a.x.1 ≤ (-536870912))) with h5 | h5
  ·skip
   refine W_t h5 rfl (Rs fun K J => sE rfl (nl J (W_ret (aF_ (af_ (af_ (aF_ (af_ (ret1 rfl (.inr rfl) rfl ?_)))))))))
   exact (by exact congrArg (fun r : Bool => (.bool r : Value)) (show _ = (as_ a b) from bif_t h5 rfl))
  ·skip
   refine W_f h5 rfl (ah_ (J4 _ _ (Rk fun K J => sE rfl (sV (.int .i64 1) rfl rfl (sE rfl (nl J (J2 _ _ (Un_s (fun K6 J6 => Sq fun K7 J7 => Rs fun K J => sE rfl (sV (.bool true) rfl rfl (nl J (br_ rfl (ah_ (J7 _ _ (Sq fun K8 J8 => am_ ?_)))))))))))))))
   refine b3_ [11, 12, 13, 14, 15, 16, 17, 18, 19, 20] (fun g M => (g 20 = .bool (decide (536870912 ≤ a.y.1) || decide (a.y.1 ≤ (-536870912)))) ∧ M = [⟨b1, 23, flat [ci .i64 a.x.1, ci .i64 a.y.1, ci .i64 a.z.1]⟩]) (fun K9 J9 => ?_) ?_
   ·skip
    refine Rk fun K J => sE rfl (sQ (qA ar_23 rfl rfl rfl) rfl (sQ (qC ty_3 rfl m0 rfl) rfl (sE rfl ?_)))
    rcases bt (decide (536870912 ≤ a.y.1)) with h7 | h7
    ·skip
     refine sB h7 rfl (WL_n rfl (WL_n rfl (WL_n rfl (WL_n rfl (sE rfl (nl J ?_))))))
     refine J9 _ _ (by repeat first | exact .refl | refine .cons rfl ?_) ⟨_, s0, ?s20, rfl⟩
     case s20 => exact congrArg Value.bool (or_t h7)
    ·skip
     refine sB h7 rfl (sE rfl (sQ (qA ar_23 rfl rfl rfl) rfl (sQ (qC ty_3 rfl m0 rfl) rfl (sE rfl (sE rfl (nl J ?_))))))
     refine J9 _ _ (by repeat first | exact .refl | refine .cons rfl ?_) ⟨_, s0, ?s20, rfl⟩
     case s20 => exact congrArg Value.bool (or_f h7 rfl)
   ·skip
    rintro g8 M ⟨hg20, rfl⟩
    simp only [setG, hg20]
    clear hg20
    rcases bt (decide (536870912 ≤ a.y.1) || decide (a.y.1 ≤ (-536870912))) with h9 | h9
    ·skip
     refine W_t h9 rfl (Rs fun K J => sE rfl (nl J (W_ret (aF_ (af_ (af_ (aF_ (af_ (ret1 rfl (.inr rfl) rfl ?_)))))))))
     exact (by exact congrArg (fun r : Bool => (.bool r : Value)) (show _ = (as_ a b) from bif_f h5 (bif_t h9 rfl)))
    ·skip
     refine W_f h9 rfl (ah_ (J8 _ _ (Rk fun K J => sE rfl (sV (.int .i64 2) rfl rfl (sE rfl (nl J (J6 _ _ (Un_s (fun K10 J10 => Sq fun K11 J11 => Rs fun K J => sE rfl (sV (.bool true) rfl rfl (nl J (br_ rfl (ah_ (J11 _ _ (Sq fun K12 J12 => am_ ?_)))))))))))))))
     refine b3_ [11, 12, 13, 14, 15, 16, 17, 18, 19, 20] (fun g M => (g 20 = .bool (decide (536870912 ≤ a.z.1) || decide (a.z.1 ≤ (-536870912)))) ∧ M = [⟨b1, 23, flat [ci .i64 a.x.1, ci .i64 a.y.1, ci .i64 a.z.1]⟩]) (fun K13 J13 => ?_) ?_
     ·skip
      refine Rk fun K J => sE rfl (sQ (qA ar_23 rfl rfl rfl) rfl (sQ (qC ty_3 rfl m0 rfl) rfl (sE rfl ?_)))
      rcases bt (decide (536870912 ≤ a.z.1)) with h11 | h11
      ·skip
       refine sB h11 rfl (WL_n rfl (WL_n rfl (WL_n rfl (WL_n rfl (sE rfl (nl J ?_))))))
       refine J13 _ _ (by repeat first | exact .refl | refine .cons rfl ?_) ⟨_, s0, ?s20, rfl⟩
       case s20 => exact congrArg Value.bool (or_t h11)
      ·skip
       refine sB h11 rfl (sE rfl (sQ (qA ar_23 rfl rfl rfl) rfl (sQ (qC ty_3 rfl m0 rfl) rfl (sE rfl (sE rfl (nl J ?_))))))
       refine J13 _ _ (by repeat first | exact .refl | refine .cons rfl ?_) ⟨_, s0, ?s20, rfl⟩
       case s20 => exact congrArg Value.bool (or_f h11 rfl)
     ·skip
      rintro g12 M ⟨hg20, rfl⟩
      simp only [setG, hg20]
      clear hg20
      rcases bt (decide (536870912 ≤ a.z.1) || decide (a.z.1 ≤ (-536870912))) with h13 | h13
      ·skip
       refine W_t h13 rfl (Rs fun K J => sE rfl (nl J (W_ret (aF_ (af_ (af_ (aF_ (af_ (ret1 rfl (.inr rfl) rfl ?_)))))))))
       exact (by exact congrArg (fun r : Bool => (.bool r : Value)) (show _ = (as_ a b) from bif_f h5 (bif_f h9 (bif_t h13 rfl))))
      ·skip
       refine W_f h13 rfl (ah_ (J12 _ _ (Rk fun K J => sE rfl (sV (.int .i64 3) rfl rfl (sE rfl (nl J (J10 _ _ (Un_s (fun K14 J14 => Sq fun K15 J15 => Rs fun K J => sE rfl (sV (.bool false) rfl rfl (nl J (bh_ rfl (bd_ (aq_ (aq_ (aw_ (J1 _ _ (Rs fun K J => sQ (qL ty_23 rfl m0 rfl) rfl ?_))))))))))))))))))
       refine sQ (cA_ zp_23 ar_23 rfl (.nil _)) rfl ?_
       refine sQ (hm_ (r := (decide (a.x.1 = 0) && (decide (a.y.1 = 0) && decide (a.z.1 = 0)))) rfl rfl (dP_ 8 (by decide) eg_23 lw_23 (b4_ lv_ci (b4_ lv_ci (et_ lv_ci))) (b4_ lv_ci (b4_ lv_ci (et_ lv_ci))) (cZ_ rfl eq_ci (cZ_ rfl eq_ci (fG_ eq_ci))))) rfl (sE rfl (nl J ?_))
       refine b3_ [4, 24, 25, 26, 27, 28, 29, 30, 31, 32, 33] (fun g M => (g 4 = .bool (!(decide (a.x.1 = 0) && (decide (a.y.1 = 0) && decide (a.z.1 = 0))) && (decide (0 ≤ b.1) && decide (b.1 ≤ 4000)))) ∧ M = [⟨b1, 23, flat [ci .i64 a.x.1, ci .i64 a.y.1, ci .i64 a.z.1]⟩]) (fun K16 J16 => ?_) ?_
       ·skip
        refine Rk fun K J => sE rfl (sE rfl ?_)
        rcases bt (decide (a.x.1 = 0) && (decide (a.y.1 = 0) && decide (a.z.1 = 0))) with h16 | h16
        ·skip
         refine sB (not_f h16) rfl (WL_n rfl (WL_n rfl (sE rfl (sE rfl (WL_n rfl (WL_n rfl (sE rfl (sE rfl (nl J ?_)))))))))
         refine J16 _ _ (by repeat first | exact .refl | refine .cons rfl ?_) ⟨_, s0, ?s4, rfl⟩
         case s4 => exact congrArg Value.bool (hH_ h16)
        ·skip
         refine sB (not_t h16) rfl (sE rfl (sE rfl (sE rfl ?_)))
         rcases bt (decide (0 ≤ b.1)) with h17 | h17
         ·skip
          refine sB h17 rfl (sE rfl (sE rfl (sE rfl (sE rfl (nl J ?_)))))
          refine J16 _ _ (by repeat first | exact .refl | refine .cons rfl ?_) ⟨_, s0, ?s4, rfl⟩
          case s4 => exact congrArg Value.bool (fj_ h16 (and_t h17 rfl))
         ·skip
          refine sB h17 rfl (WL_n rfl (WL_n rfl (sE rfl (sE rfl (nl J ?_)))))
          refine J16 _ _ (by repeat first | exact .refl | refine .cons rfl ?_) ⟨_, s0, ?s4, rfl⟩
          case s4 => exact congrArg Value.bool (fj_ h16 (and_f h17))
       ·skip
        rintro g18 M ⟨hg4, rfl⟩
        simp only [setG, hg4]
        clear hg4
        refine W_ret (ret1 rfl (.inr rfl) rfl ?_)
        exact (by exact congrArg (fun r : Bool => (.bool r : Value)) (show _ = (as_ a b) from bif_f h5 (bif_f h9 (bif_f h13 rfl))))

theorem e6_ (a : (A3 Rt)) :
    Ret Tryz.prog 14 [AV [pI a.x.n, pI a.x.d, pI a.y.n, pI a.y.d, pI a.z.n, pI a.z.d]] (.bool (a1_ a)) := by
 refine az_ (N := 29) Tryz.func14 rfl rfl (by simp) (fun w0 => ?_)
 simp only [initF, Nat.reduceAdd]
 refine Rs fun K J => WL_r rfl (bl_ rfl rfl (fun b1 hb1 => sE rfl (nl J (Sq fun K1 J1 => Rs fun K J => sE rfl (nl J (am_ (W_un 5 (Un_s (fun K2 J2 => Sq fun K3 J3 => Rs fun K J => sE rfl (sV (.bool true) rfl rfl (nl J (br_ rfl (ah_ (J3 _ _ (Sq fun K4 J4 => ?_)))))))))))))))
 refine am_ ?_
 refine b3_ [8, 9, 10, 11, 12, 13, 14, 15, 16, 17, 18, 19, 20, 21, 22, 23, 24, 25, 26, 27, 28] (fun g M => (g 28 = .bool (!(ae_ a.x) || (decide (48 < (Z.bitsW a.x.n.dec).1) || decide (17 < (Z.bitsW a.x.d.dec).1)))) ∧ M = [⟨b1, 41, flat [pI a.x.n, pI a.x.d, pI a.y.n, pI a.y.d, pI a.z.n, pI a.z.d]⟩]) (fun K5 J5 => ?_) ?_
 ·skip
  refine Rk fun K J => sE rfl (sQ (qA ar_41 rfl rfl rfl) rfl (sQ (qL ty_39 rfl m0 rfl) rfl (sQ (q_ret en_51 (dp_ a.x) rfl) rfl (sE rfl ?_))))
  rcases bt (ae_ a.x) with h4 | h4
  ·skip
   refine sB (not_f h4) rfl (sE rfl (sQ (qA ar_41 rfl rfl rfl) rfl (sQ (qF cN_ rfl rfl) rfl (sQ (qL ty_37 rfl m0 rfl) rfl (sC (.int .i64 ((Z.bitsW a.x.n.dec).1)) en_52 (cd_ a.x.n.1 a.x.n.2) rfl rfl rfl (sE rfl (sE rfl ?_)))))))
   rcases bt (decide (48 < (Z.bitsW a.x.n.dec).1)) with h5 | h5
   ·skip
    refine sB h5 rfl (WL_n rfl (WL_n rfl (WL_n rfl (WL_n rfl (WL_n rfl (WL_n rfl (sE rfl (nl J ?_))))))))
    refine J5 _ _ (by repeat first | exact .refl | refine .cons rfl ?_) ⟨_, s0, ?s28, rfl⟩
    case s28 => exact congrArg Value.bool (nor_t h4 (or_t h5))
   ·skip
    refine sB h5 rfl (sE rfl (sQ (qA ar_41 rfl rfl rfl) rfl (sQ (qF b9_ rfl rfl) rfl (sQ (qL ty_37 rfl m0 rfl) rfl (sC (.int .i64 ((Z.bitsW a.x.d.dec).1)) en_52 (cd_ a.x.d.1 a.x.d.2) rfl rfl rfl (sE rfl (sE rfl (nl J ?_))))))))
    refine J5 _ _ (by repeat first | exact .refl | refine .cons rfl ?_) ⟨_, s0, ?s28, rfl⟩
    case s28 => exact congrArg Value.bool (nor_t h4 (or_f h5 rfl))
  ·skip
   refine sB (not_t h4) rfl (WL_n rfl (WL_n rfl (WL_n rfl (WL_n rfl (WL_n rfl (WL_n rfl (sE rfl (sE rfl (WL_n rfl (WL_n rfl (WL_n rfl (WL_n rfl (WL_n rfl (WL_n rfl (sE rfl (nl J ?_))))))))))))))))
   refine J5 _ _ (by repeat first | exact .refl | refine .cons rfl ?_) ⟨_, s0, ?s28, rfl⟩
   case s28 => exact congrArg Value.bool (nor_f h4)
 ·skip
  rintro g6 M ⟨hg28, rfl⟩
  simp only [setG, hg28]
  clear hg28
  rcases bt (!(ae_ a.x) || (decide (48 < (Z.bitsW a.x.n.dec).1) || decide (17 < (Z.bitsW a.x.d.dec).1))) with h7 | h7
  ·skip
   refine W_t h7 rfl (Rs fun K J => sE rfl (nl J (W_ret (aF_ (af_ (af_ (aF_ (af_ (ret1 rfl (.inr rfl) rfl ?_)))))))))
   exact (by exact congrArg (fun r : Bool => (.bool r : Value)) (show _ = (a1_ a) from bif_t h7 rfl))
  ·skip
   refine W_f h7 rfl (ah_ (J4 _ _ (Rk fun K J => sE rfl (sV (.int .i64 1) rfl rfl (sE rfl (nl J (J2 _ _ (Un_s (fun K6 J6 => Sq fun K7 J7 => Rs fun K J => sE rfl (sV (.bool true) rfl rfl (nl J (br_ rfl (ah_ (J7 _ _ (Sq fun K8 J8 => am_ ?_)))))))))))))))
   refine b3_ [8, 9, 10, 11, 12, 13, 14, 15, 16, 17, 18, 19, 20, 21, 22, 23, 24, 25, 26, 27, 28] (fun g M => (g 28 = .bool (!(ae_ a.y) || (decide (48 < (Z.bitsW a.y.n.dec).1) || decide (17 < (Z.bitsW a.y.d.dec).1)))) ∧ M = [⟨b1, 41, flat [pI a.x.n, pI a.x.d, pI a.y.n, pI a.y.d, pI a.z.n, pI a.z.d]⟩]) (fun K9 J9 => ?_) ?_
   ·skip
    refine Rk fun K J => sE rfl (sQ (qA ar_41 rfl rfl rfl) rfl (sQ (qL ty_39 rfl m0 rfl) rfl (sQ (q_ret en_51 (dp_ a.y) rfl) rfl (sE rfl ?_))))
    rcases bt (ae_ a.y) with h10 | h10
    ·skip
     refine sB (not_f h10) rfl (sE rfl (sQ (qA ar_41 rfl rfl rfl) rfl (sQ (qF cN_ rfl rfl) rfl (sQ (qL ty_37 rfl m0 rfl) rfl (sC (.int .i64 ((Z.bitsW a.y.n.dec).1)) en_52 (cd_ a.y.n.1 a.y.n.2) rfl rfl rfl (sE rfl (sE rfl ?_)))))))
     rcases bt (decide (48 < (Z.bitsW a.y.n.dec).1)) with h11 | h11
     ·skip
      refine sB h11 rfl (WL_n rfl (WL_n rfl (WL_n rfl (WL_n rfl (WL_n rfl (WL_n rfl (sE rfl (nl J ?_))))))))
      refine J9 _ _ (by repeat first | exact .refl | refine .cons rfl ?_) ⟨_, s0, ?s28, rfl⟩
      case s28 => exact congrArg Value.bool (nor_t h10 (or_t h11))
     ·skip
      refine sB h11 rfl (sE rfl (sQ (qA ar_41 rfl rfl rfl) rfl (sQ (qF b9_ rfl rfl) rfl (sQ (qL ty_37 rfl m0 rfl) rfl (sC (.int .i64 ((Z.bitsW a.y.d.dec).1)) en_52 (cd_ a.y.d.1 a.y.d.2) rfl rfl rfl (sE rfl (sE rfl (nl J ?_))))))))
      refine J9 _ _ (by repeat first | exact .refl | refine .cons rfl ?_) ⟨_, s0, ?s28, rfl⟩
      case s28 => exact congrArg Value.bool (nor_t h10 (or_f h11 rfl))
    ·skip
     refine sB (not_t h10) rfl (WL_n rfl (WL_n rfl (WL_n rfl (WL_n rfl (WL_n rfl (WL_n rfl (sE rfl (sE rfl (WL_n rfl (WL_n rfl (WL_n rfl (WL_n rfl (WL_n rfl (WL_n rfl (sE rfl (nl J ?_))))))))))))))))
     refine J9 _ _ (by repeat first | exact .refl | refine .cons rfl ?_) ⟨_, s0, ?s28, rfl⟩
     case s28 => exact congrArg Value.bool (nor_f h10)
   ·skip
    rintro g12 M ⟨hg28, rfl⟩
    simp only [setG, hg28]
    clear hg28
    rcases bt (!(ae_ a.y) || (decide (48 < (Z.bitsW a.y.n.dec).1) || decide (17 < (Z.bitsW a.y.d.dec).1))) with h13 | h13
    ·skip
     refine W_t h13 rfl (Rs fun K J => sE rfl (nl J (W_ret (aF_ (af_ (af_ (aF_ (af_ (ret1 rfl (.inr rfl) rfl ?_)))))))))
     exact (by exact congrArg (fun r : Bool => (.bool r : Value)) (show _ = (a1_ a) from bif_f h7 (bif_t h13 rfl)))
    ·skip
     refine W_f h13 rfl (ah_ (J8 _ _ (Rk fun K J => sE rfl (sV (.int .i64 2) rfl rfl (sE rfl (nl J (J6 _ _ (Un_s (fun K10 J10 => Sq fun K11 J11 => Rs fun K J => sE rfl (sV (.bool true) rfl rfl (nl J (br_ rfl (ah_ (J11 _ _ (Sq fun K12 J12 => am_ ?_)))))))))))))))
     refine b3_ [8, 9, 10, 11, 12, 13, 14, 15, 16, 17, 18, 19, 20, 21, 22, 23, 24, 25, 26, 27, 28] (fun g M => (g 28 = .bool (!(ae_ a.z) || (decide (48 < (Z.bitsW a.z.n.dec).1) || decide (17 < (Z.bitsW a.z.d.dec).1)))) ∧ M = [⟨b1, 41, flat [pI a.x.n, pI a.x.d, pI a.y.n, pI a.y.d, pI a.z.n, pI a.z.d]⟩]) (fun K13 J13 => ?_) ?_
     ·skip
      refine Rk fun K J => sE rfl (sQ (qA ar_41 rfl rfl rfl) rfl (sQ (qL ty_39 rfl m0 rfl) rfl (sQ (q_ret en_51 (dp_ a.z) rfl) rfl (sE rfl ?_))))
      rcases bt (ae_ a.z) with h16 | h16
      ·skip
       refine sB (not_f h16) rfl (sE rfl (sQ (qA ar_41 rfl rfl rfl) rfl (sQ (qF cN_ rfl rfl) rfl (sQ (qL ty_37 rfl m0 rfl) rfl (sC (.int .i64 ((Z.bitsW a.z.n.dec).1)) en_52 (cd_ a.z.n.1 a.z.n.2) rfl rfl rfl (sE rfl (sE rfl ?_)))))))
       rcases bt (decide (48 < (Z.bitsW a.z.n.dec).1)) with h17 | h17
       ·skip
        refine sB h17 rfl (WL_n rfl (WL_n rfl (WL_n rfl (WL_n rfl (WL_n rfl (WL_n rfl (sE rfl (nl J ?_))))))))
        refine J13 _ _ (by repeat first | exact .refl | refine .cons rfl ?_) ⟨_, s0, ?s28, rfl⟩
        case s28 => exact congrArg Value.bool (nor_t h16 (or_t h17))
       ·skip
        refine sB h17 rfl (sE rfl (sQ (qA ar_41 rfl rfl rfl) rfl (sQ (qF b9_ rfl rfl) rfl (sQ (qL ty_37 rfl m0 rfl) rfl (sC (.int .i64 ((Z.bitsW a.z.d.dec).1)) en_52 (cd_ a.z.d.1 a.z.d.2) rfl rfl rfl (sE rfl (sE rfl (nl J ?_))))))))
        refine J13 _ _ (by repeat first | exact .refl | refine .cons rfl ?_) ⟨_, s0, ?s28, rfl⟩
        case s28 => exact congrArg Value.bool (nor_t h16 (or_f h17 rfl))
      ·skip
       refine sB (not_t h16) rfl (WL_n rfl (WL_n rfl (WL_n rfl (WL_n rfl (WL_n rfl (WL_n rfl (sE rfl (sE rfl (WL_n rfl (WL_n rfl (WL_n rfl (WL_n rfl (WL_n rfl (WL_n rfl (sE rfl (nl J ?_))))))))))))))))
       refine J13 _ _ (by repeat first | exact .refl | refine .cons rfl ?_) ⟨_, s0, ?s28, rfl⟩
       case s28 => exact congrArg Value.bool (nor_f h16)
     ·skip
      rintro g18 M ⟨hg28, rfl⟩
      simp only [setG, hg28]
      clear hg28
      rcases bt (!(ae_ a.z) || (decide (48 < (Z.bitsW a.z.n.dec).1) || decide (17 < (Z.bitsW a.z.d.dec).1))) with h19 | h19
      ·skip
       refine W_t h19 rfl (Rs fun K J => sE rfl (nl J (W_ret (aF_ (af_ (af_ (aF_ (af_ (ret1 rfl (.inr rfl) rfl ?_)))))))))
       exact (by exact congrArg (fun r : Bool => (.bool r : Value)) (show _ = (a1_ a) from bif_f h7 (bif_f h13 (bif_t h19 rfl))))
      ·skip
       refine W_f h19 rfl (ah_ (J12 _ _ (Rk fun K J => sE rfl (sV (.int .i64 3) rfl rfl (sE rfl (nl J (J10 _ _ (Un_s (fun K14 J14 => Sq fun K15 J15 => Rs fun K J => sE rfl (sV (.bool false) rfl rfl (nl J (bh_ rfl (bd_ (aq_ (aq_ (aw_ (J1 _ _ (Rs fun K J => sE rfl ?_))))))))))))))))))
       refine nl J (W_ret (ret1 rfl (.inr rfl) rfl ?_))
       exact (by exact congrArg (fun r : Bool => (.bool r : Value)) (show _ = (a1_ a) from bif_f h7 (bif_f h13 (bif_f h19 rfl))))

theorem eN_ (va : Value) (a : (List (A3 Rt))) (vb : Value) (b : (List (A3 Rt))) (w : World) (ha : Slr w elVr va a) (hb : Slr w elVr vb b) :
    Calls Tryz.prog 13 [va, vb].toArray w (fun e w' => e = .returned (.bool (bY_ a b)) ∧ Ext w w') := by
 refine cI_ (N := 26) Tryz.func13 rfl rfl (by simp) ?_
 obtain ⟨w0, rfl⟩ : ∃ w0, w0 = w := ⟨_, rfl⟩
 have Ha := ha.old
 have hm_a := ha.max
 have Hb := hb.old
 have hm_b := hb.max
 simp only [initF, Nat.reduceAdd]
 refine Rs fun K J => sE rfl (nl J (Sq fun K1 J1 => Rs fun K J => sE rfl (sQ (q_as (v' := .int .i64 (((a).length : Nat) : Int)) (eO_ (e := elVr) sl_24 rfl (SLe.sub Ha sn)) rfl) rfl (sE rfl (sQ (q_as (v' := .int .i64 (((b).length : Nat) : Int)) (eO_ (e := elVr) sl_24 rfl (SLe.sub Hb sn)) rfl) rfl (sE rfl (nl J ?_)))))))
 rcases bt ((((a).length : Nat) : Int) != (((b).length : Nat) : Int)) with h1 | h1
 ·skip
  have ph2 := neI_t h1
  refine W_t h1 rfl (Rs fun K J => sE rfl (nl J (W_ret (af_ (ret1 rfl (.inr rfl) rfl ?_)))))
  exact (by exact congrArg (fun r : Bool => (.bool r : Value)) (show _ = (bY_ a b) from bif_t h1 rfl))
 ·skip
  have ph3 := neI_f h1
  refine W_f h1 rfl (ah_ (J1 _ _ (Sq fun K2 J2 => Rs fun K J => sE rfl (nl J ?_))))
  refine ho_ (fun S M h => J2 S M h) [4, 5, 11, 12, 13, 14, 15, 16, 17, 18, 19, 20, 21, 22, 23, 24, 25] (fun g M => ∃ (i : Nat), (bG_ a b ((a.length + 1)) 0) = .inl i ∧ (g 5 = .int .i64 ((i : Nat) : Int)) ∧ M = []) (fun K_u4 hK_u4 => ?_) ?_
  ·skip
   refine am_ ?_
   refine bi_ [4, 5, 11, 12, 13, 14, 15, 16, 17, 18, 19, 20, 21, 22, 23, 24, 25] (fun g nn M => ∃ (i : Nat), (bG_ a b nn i) = (bG_ a b ((a.length + 1)) 0) ∧ a.length - i < nn ∧ (i ≤ a.length) ∧ (g 5 = .int .i64 ((i : Nat) : Int)) ∧ M = []) ((a.length + 1)) ?start ?round
   case start => exact ⟨_, s0, 0, rfl, (by omega), (by omega), rfl, rfl⟩
   case round =>
    rintro nn g M ⟨i, hT0, hq0, hinv0, hg5, rfl⟩
    obtain ⟨k0, rfl⟩ : ∃ m, nn = m + 1 := ⟨nn - 1, by omega⟩
    simp only [setG, hg5]
    clear hg5
    refine Sq fun K7 J7 => Rs fun K J => sE rfl (sE rfl (sQ (q_as (v' := .int .i64 (((a).length : Nat) : Int)) (eO_ (e := elVr) sl_24 rfl (SLe.sub Ha sn)) rfl) rfl (sE rfl (nl J ?_))))
    rcases bt (decide (((i : Nat) : Int) < (((a).length : Nat) : Int))) with h9 | h9
    ·skip
     have ph9 := of_decide_eq_true h9
     refine W_t h9 rfl (ah_ (J7 _ _ (Sq fun K8 J8 => am_ (ds sn [0,4,8,12,16,20,24,28,32] [] mix (by kernel_rfl) (fun K J => pE rfl (pE rfl (pQ rfl (q_as (v' := .pointer (some (slb va (i * 108 + 0)))) (cb_ (e := elVr) (l := a) (k := i) sl_24 rfl rfl (SLe.sub Ha sn) (by omega)) rfl) (pQ rfl (q_ldG (e := elVr) (l := a) (k := i) (o := 0) ty_41 rfl (SLe.sub Ha sn) (bX_ V0 (by omega)) rfl) (pE rfl (pE rfl (pQ rfl (q_as (v' := .pointer (some (slb vb (i * 108 + 0)))) (cb_ (e := elVr) (l := b) (k := i) sl_24 rfl rfl (SLe.sub Hb sn) (by omega)) rfl) (pQ rfl (q_ldG (e := elVr) (l := b) (k := i) (o := 0) ty_41 rfl (SLe.sub Hb sn) (bX_ V0 (by omega)) rfl) ?_))))))))))))
     refine pQ rfl (gS_ (r := (decide ((((a.getD i V0).x).n) = (((b.getD i V0).x).n)) && (decide ((((a.getD i V0).x).d) = (((b.getD i V0).x).d)) && (decide ((((a.getD i V0).y).n) = (((b.getD i V0).y).n)) && (decide ((((a.getD i V0).y).d) = (((b.getD i V0).y).d)) && (decide ((((a.getD i V0).z).n) = (((b.getD i V0).z).n)) && decide ((((a.getD i V0).z).d) = (((b.getD i V0).z).d)))))))) rfl rfl (dP_ 8 (by decide) eg_41 lw_41 (b4_ lv_pI (b4_ lv_pI (b4_ lv_pI (b4_ lv_pI (b4_ lv_pI (et_ lv_pI)))))) (b4_ lv_pI (b4_ lv_pI (b4_ lv_pI (b4_ lv_pI (b4_ lv_pI (et_ lv_pI)))))) (cZ_ rfl eq_pI (cZ_ rfl eq_pI (cZ_ rfl eq_pI (cZ_ rfl eq_pI (cZ_ rfl eq_pI (fG_ eq_pI)))))))) (fl J ?_)
     rcases bt (decide ((((a.getD i V0).x).n) = (((b.getD i V0).x).n)) && (decide ((((a.getD i V0).x).d) = (((b.getD i V0).x).d)) && (decide ((((a.getD i V0).y).n) = (((b.getD i V0).y).n)) && (decide ((((a.getD i V0).y).d) = (((b.getD i V0).y).d)) && (decide ((((a.getD i V0).z).n) = (((b.getD i V0).z).n)) && decide ((((a.getD i V0).z).d) = (((b.getD i V0).z).d))))))) with h10 | h10
     ·skip
      refine W_f (not_f h10) rfl (ah_ (J8 _ _ (Rk fun K J => sE rfl (sV (.int .i64 ((i + 1 : Nat) : Int)) rfl (congrArg (Value.int .i64) (wx (by omega) (by omega) (by omega))) (sE rfl (nl J (⟨(by repeat first | exact .refl | refine .cons rfl ?_), _, _, s0, (Nat.lt_succ_self _), i + 1, (by exact (hT0.symm.trans (Eq.symm (bif_t h9 (bif_t h10 rfl)))).symm), (Nat.lt_of_lt_of_le (by omega) (Nat.le_of_lt_succ hq0)), (by omega), rfl, rfl⟩)))))))
     ·skip
      refine W_t (not_t h10) rfl (Rs fun K J => sE rfl (nl J (W_ret (aF_ (af_ (af_ (aF_ (af_ (af_ (ret1 rfl (.inr rfl) rfl ?_))))))))))
      exact (by exact congrArg (fun r : Bool => (.bool r : Value)) (show _ = (bY_ a b) from bif_f h1 ((sm_q rfl (hT0.symm.trans (Eq.symm (bif_t h9 (bif_f h10 rfl))))))))
    ·skip
     have ph9 := of_decide_eq_false h9
     refine W_f h9 rfl (bd_ (aq_ (aq_ (aw_ (hK_u4 _ _ (by repeat first | exact .refl | refine .cons rfl ?_) ⟨_, s0, i, (by exact hT0.symm.trans (Eq.symm (bif_f h9 rfl))), rfl, rfl⟩)))))
  ·skip
   rintro g M ⟨i, hCu4, hg5, rfl⟩
   simp only [setG, hg5]
   clear hg5
   refine Rs fun K J => sE rfl (nl J (W_ret (ret1 rfl (.inr rfl) rfl ?_)))
   exact (by exact congrArg (fun r : Bool => (.bool r : Value)) (show _ = (bY_ a b) from bif_f h1 (trs (Eq.symm (smS hCu4)) rfl)))
end Go.Proofs.YtapbefpeopaecaaGreatDoor

set_option linter.unusedVariables false
set_option linter.unusedSimpArgs false
namespace Go.Num
open Go Go.Kn
def cg_ (a : (A3 W)) (b : W) (c : W) (d : (A3 Rt)) : Bool :=
  bif (!(a1_ d) || (!(as_ a b) || (!(as_ a c) || decide (c.1 < b.1)))) then (ce_) else ((ce_ && (bif (bv_ a b d) then ((bv_ a c d) && (!(b5_ a b d) || (b5_ a c d))) else (!(b5_ a b d) || (b5_ a c d)))))
end Go.Num

