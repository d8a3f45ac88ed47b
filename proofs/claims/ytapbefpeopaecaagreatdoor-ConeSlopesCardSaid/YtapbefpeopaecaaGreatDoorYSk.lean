/- Walks: what these functions return. What these functions compute, as plain functions. No program stands in it. -/
import Derived.Test.YtapbefpeopaecaaGreatDoorYGE
import Derived.Test.YtapbefpeopaecaaGreatDoorYSa
import Derived.Test.YtapbefpeopaecaaGreatDoorYSb
import Derived.Test.YtapbefpeopaecaaGreatDoorYFn
import Derived.Test.YtapbefpeopaecaaGreatDoorYGa
import Derived.Test.YtapbefpeopaecaaGreatDoorYGc
import Derived.Test.YtapbefpeopaecaaGreatDoorYGd
import Derived.Test.YtapbefpeopaecaaGreatDoorYRa
import Derived.Test.YtapbefpeopaecaaGreatDoorYSg
namespace Go.Proofs.YtapbefpeopaecaaGreatDoor
open Go.Kn Go.Num
set_option linter.unusedVariables false
set_option linter.unusedSimpArgs false
set_option maxRecDepth 20000
set_option maxHeartbeats 8000000
end Go.Proofs.YtapbefpeopaecaaGreatDoor

namespace Go.Proofs.YtapbefpeopaecaaGreatDoor
open Go.Kn Go.Num
set_option linter.unusedVariables false
set_option linter.unusedSimpArgs false
set_option maxRecDepth 20000
set_option maxHeartbeats 8000000
end Go.Proofs.YtapbefpeopaecaaGreatDoor

namespace Go.Proofs.YtapbefpeopaecaaGreatDoor
open Go.Kn Go.Num
set_option linter.unusedVariables false
set_option linter.unusedSimpArgs false
set_option maxRecDepth 20000
set_option maxHeartbeats 8000000
theorem ec_ (a : (A3 W)) (b : W) :
    Ret Tryz.prog 23 [AV [ci .i64 a.x.1, ci .i64 a.y.1, ci .i64 a.z.1], .int .i64 b.1] (.bool (aK_ a b)) := by
 refine av_ (N := 34) Tryz.func23 rfl rfl (by simp) (fun w0 => ?_)
 simp only [initF, Nat.reduceAdd]
 refine Rs fun K J => WL_r rfl (a1_ rfl rfl (fun b1 hb1 => sE rfl (nl J (Sq fun K1 J1 => Rs fun K J => sE rfl (nl J (ar_ (W_un 5 (Un_s (fun K2 J2 => Sq fun K3 J3 => Rs fun K J => sE rfl (sV (.bool true) rfl rfl (nl J (bF_ rfl (ak_ (J3 _ _ (Sq fun K4 J4 => ?_)))))))))))))))
 refine ar_ ?_
 refine bQ_ [11, 12, 13, 14, 15, 16, 17, 18, 19, 20] (fun g M => (g 20 = .bool (decide (536870912 ≤ a.x.1) || decide (a.x.1 ≤ (-536870912)))) ∧ M = [⟨b1, 23, flat [ci .i64 a.x.1, ci .i64 a.y.1, ci .i64 a.z.1]⟩]) (fun K5 J5 => ?_) ?_
 ·skip
  refine Rk fun K J => sE rfl (sQ (qA ar_23 rfl rfl rfl) rfl (sQ (qC ty_3 rfl m0 rfl) rfl (sE rfl ?_)))
  rcases bt (decide (536870912 ≤ a.x.1)) with h3 | h3
  ·skip
   refine sB h3 rfl (WL_n rfl (WL_n rfl (WL_n rfl (WL_n rfl (sE rfl (nl J ?_))))))
   refine J5 _ _ (by repeat first | exact .refl | refine .cons rfl ?_) ⟨_, s0, ?s20, rfl⟩
   case s20 => exact congrArg Value.bool (or_t h3)
  ·skip
   refine sB h3 rfl (sE rfl (sQ (qA ar_23 rfl rfl rfl) rfl (sQ (qC ty_3 rfl m0 rfl) rfl (sE rfl (sE rfl (nl J ?_))))))
   refine J5 _ _ (by repeat first | exact .refl | refine .cons rfl ?_) ⟨_, s0, ?s20, rfl⟩
   case s20 => exact congrArg Value.bool (or_f h3 rfl)
 ·skip
  rintro g4 M ⟨hg20, rfl⟩
  simp only [setG, hg20]
  clear hg20
  rcases bt (decide (536870912 ≤ a.x.1) || decide (a.x.1 ≤ (-536870912))) with h5 | h5
  ·skip
   refine W_t h5 rfl (Rs fun K J => sE rfl (nl J (W_ret (aB_ (ai_ (ai_ (aB_ (ai_ (ret1 rfl (.inr rfl) rfl ?_)))))))))
   exact (by exact congrArg (fun r : Bool => (.bool r : Value)) (show _ = (aK_ a b) from bif_t h5 rfl))
  ·skip
   refine W_f h5 rfl (ak_ (J4 _ _ (Rk fun K J => sE rfl (sV (.int .i64 1) rfl rfl (sE rfl (nl J (J2 _ _ (Un_s (fun K6 J6 => Sq fun K7 J7 => Rs fun K J => sE rfl (sV (.bool true) rfl rfl (nl J (bF_ rfl (ak_ (J7 _ _ (Sq fun K8 J8 => ar_ ?_)))))))))))))))
   refine bQ_ [11, 12, 13, 14, 15, 16, 17, 18, 19, 20] (fun g M => (g 20 = .bool (decide (536870912 ≤ a.y.1) || decide (a.y.1 ≤ (-536870912)))) ∧ M = [⟨b1, 23, flat [ci .i64 a.x.1, ci .i64 a.y.1, ci .i64 a.z.1]⟩]) (fun K9 J9 => ?_) ?_
   ·skip
    refine Rk fun K J => sE rfl (sQ (qA ar_23 rfl rfl rfl) rfl (sQ (qC ty_3 rfl m0 rfl) rfl (sE rfl ?_)))
    rcases bt (decide (536870912 ≤ a.y.1)) with h7 | h7
    ·skip
     refine sB h7 rfl (WL_n rfl (WL_n rfl (WL_n rfl (WL_n rfl (sE rfl (nl J ?_))))))
     refine J9 _ _ (by repeat first | exact .refl | refine .cons rfl ?_) ⟨_, s0, ?s20, rfl⟩
     case s20 => exact congrArg Value.bool (or_t h7)
    ·skip
     refine sB h7 rfl (sE rfl (sQ (qA ar_23 rfl rfl rfl) rfl (sQ (qC ty_3 rfl m0 rfl) rfl (sE rfl (sE rfl (nl J ?_))))))
     refine J9 _ _ (by repeat first | exact .refl | refine .cons rfl ?_) ⟨_, s0, ?s20, rfl⟩
     case s20 => exact congrArg Value.bool (or_f h7 rfl)
   ·skip
    rintro g8 M ⟨hg20, rfl⟩
    simp only [setG, hg20]
    clear hg20
    rcases bt (decide (536870912 ≤ a.y.1) || decide (a.y.1 ≤ (-536870912))) with h9 | h9
    ·skip
     refine W_t h9 rfl (Rs fun K J => sE rfl (nl J (W_ret (aB_ (ai_ (ai_ (aB_ (ai_ (ret1 rfl (.inr rfl) rfl ?_)))))))))
     exact (by exact congrArg (fun r : Bool => (.bool r : Value)) (show _ = (aK_ a b) from bif_f h5 (bif_t h9 rfl)))
    ·skip
     refine W_f h9 rfl (ak_ (J8 _ _ (Rk fun K J => sE rfl (sV (.int .i64 2) rfl rfl (sE rfl (nl J (J6 _ _ (Un_s (fun K10 J10 => Sq fun K11 J11 => Rs fun K J => sE rfl (sV (.bool true) rfl rfl (nl J (bF_ rfl (ak_ (J11 _ _ (Sq fun K12 J12 => ar_ ?_)))))))))))))))
     refine bQ_ [11, 12, 13, 14, 15, 16, 17, 18, 19, 20] (fun g M => (g 20 = .bool (decide (536870912 ≤ a.z.1) || decide (a.z.1 ≤ (-536870912)))) ∧ M = [⟨b1, 23, flat [ci .i64 a.x.1, ci .i64 a.y.1, ci .i64 a.z.1]⟩]) (fun K13 J13 => ?_) ?_
     ·skip
      refine Rk fun K J => sE rfl (sQ (qA ar_23 rfl rfl rfl) rfl (sQ (qC ty_3 rfl m0 rfl) rfl (sE rfl ?_)))
      rcases bt (decide (536870912 ≤ a.z.1)) with h11 | h11
      ·skip
       refine sB h11 rfl (WL_n rfl (WL_n rfl (WL_n rfl (WL_n rfl (sE rfl (nl J ?_))))))
       refine J13 _ _ (by repeat first | exact .refl | refine .cons rfl ?_) ⟨_, s0, ?s20, rfl⟩
       case s20 => exact congrArg Value.bool (or_t h11)
      ·skip
       refine sB h11 rfl (sE rfl (sQ (qA ar_23 rfl rfl rfl) rfl (sQ (qC ty_3 rfl m0 rfl) rfl (sE rfl (sE rfl (nl J ?_))))))
       refine J13 _ _ (by repeat first | exact .refl | refine .cons rfl ?_) ⟨_, s0, ?s20, rfl⟩
       case s20 => exact congrArg Value.bool (or_f h11 rfl)
     ·skip
      rintro g12 M ⟨hg20, rfl⟩
      simp only [setG, hg20]
      clear hg20
      rcases bt (decide (536870912 ≤ a.z.1) || decide (a.z.1 ≤ (-536870912))) with h13 | h13
      ·skip
       refine W_t h13 rfl (Rs fun K J => sE rfl (nl J (W_ret (aB_ (ai_ (ai_ (aB_ (ai_ (ret1 rfl (.inr rfl) rfl ?_)))))))))
       exact (by exact congrArg (fun r : Bool => (.bool r : Value)) (show _ = (aK_ a b) from bif_f h5 (bif_f h9 (bif_t h13 rfl))))
      ·skip
       refine W_f h13 rfl (ak_ (J12 _ _ (Rk fun K J => sE rfl (sV (.int .i64 3) rfl rfl (sE rfl (nl J (J10 _ _ (Un_s (fun K14 J14 => Sq fun K15 J15 => Rs fun K J => sE rfl (sV (.bool false) rfl rfl (nl J (by_ rfl (bB_ (ax_ (ax_ (aF_ (J1 _ _ (Rs fun K J => sQ (qL ty_23 rfl m0 rfl) rfl ?_))))))))))))))))))
       refine sQ (bH_ zp_23 ar_23 rfl (.nil _)) rfl ?_
       refine sQ (h0_ (r := (decide (a.x.1 = 0) && (decide (a.y.1 = 0) && decide (a.z.1 = 0)))) rfl rfl (dU_ 8 (by decide) eg_23 lw_23 (bg_ lv_ci (bg_ lv_ci (d9_ lv_ci))) (bg_ lv_ci (bg_ lv_ci (d9_ lv_ci))) (b6_ rfl eq_ci (b6_ rfl eq_ci (e4_ eq_ci))))) rfl (sE rfl (nl J ?_))
       refine bQ_ [4, 24, 25, 26, 27, 28, 29, 30, 31, 32, 33] (fun g M => (g 4 = .bool (!(decide (a.x.1 = 0) && (decide (a.y.1 = 0) && decide (a.z.1 = 0))) && (decide (0 ≤ b.1) && decide (b.1 ≤ 4000)))) ∧ M = [⟨b1, 23, flat [ci .i64 a.x.1, ci .i64 a.y.1, ci .i64 a.z.1]⟩]) (fun K16 J16 => ?_) ?_
       ·skip
        refine Rk fun K J => sE rfl (sE rfl ?_)
        rcases bt (decide (a.x.1 = 0) && (decide (a.y.1 = 0) && decide (a.z.1 = 0))) with h16 | h16
        ·skip
         refine sB (not_f h16) rfl (WL_n rfl (WL_n rfl (sE rfl (sE rfl (WL_n rfl (WL_n rfl (sE rfl (sE rfl (nl J ?_)))))))))
         refine J16 _ _ (by repeat first | exact .refl | refine .cons rfl ?_) ⟨_, s0, ?s4, rfl⟩
         case s4 => exact congrArg Value.bool (hu_ h16)
        ·skip
         refine sB (not_t h16) rfl (sE rfl (sE rfl (sE rfl ?_)))
         rcases bt (decide (0 ≤ b.1)) with h17 | h17
         ·skip
          refine sB h17 rfl (sE rfl (sE rfl (sE rfl (sE rfl (nl J ?_)))))
          refine J16 _ _ (by repeat first | exact .refl | refine .cons rfl ?_) ⟨_, s0, ?s4, rfl⟩
          case s4 => exact congrArg Value.bool (fz_ h16 (and_t h17 rfl))
         ·skip
          refine sB h17 rfl (WL_n rfl (WL_n rfl (sE rfl (sE rfl (nl J ?_)))))
          refine J16 _ _ (by repeat first | exact .refl | refine .cons rfl ?_) ⟨_, s0, ?s4, rfl⟩
          case s4 => exact congrArg Value.bool (fz_ h16 (and_f h17))
       ·skip
        rintro g18 M ⟨hg4, rfl⟩
        simp only [setG, hg4]
        clear hg4
        refine W_ret (ret1 rfl (.inr rfl) rfl ?_)
        exact (by exact congrArg (fun r : Bool => (.bool r : Value)) (show _ = (aK_ a b) from bif_f h5 (bif_f h9 (bif_f h13 rfl))))

theorem co_ (a : (A3 W)) (b : W) (c : (A3 Rt)) :
    Ret Tryz.prog 18 [AV [ci .i64 a.x.1, ci .i64 a.y.1, ci .i64 a.z.1], .int .i64 b.1, AV [pI c.x.n, pI c.x.d, pI c.y.n, pI c.y.d, pI c.z.n, pI c.z.d]] (.bool (aC_ a b c)) := by
 refine av_ (N := 46) Tryz.func18 rfl rfl (by simp) (fun w0 => ?_)
 simp only [initF, Nat.reduceAdd]
 refine Rs fun K J => WL_r rfl (a1_ rfl rfl (fun b1 hb1 => WL_r rfl (a1_ rfl rfl (fun b2 hb2 => sE rfl (nl J (Rs fun K J => sQ (qL ty_23 rfl m1 rfl) rfl (sE rfl (sQ (q_ret en_23 (ec_ a b) rfl) rfl (sE rfl (nl J (Rs fun K J => sQ (qL ty_23 rfl m1 rfl) rfl (sQ (qL ty_41 rfl m0 rfl) rfl (sQ (q_ret en_29 (fZ_ a c) rfl) rfl (sN zp_39 rfl fun b3 hb3 => sS [pI ((bb_ a c).n), pI ((bb_ a c).d)] ty_39 rfl rfl rfl rfl rfl (.head _) rfl hb3 (nl J (Sq fun K1 J1 => ?_))))))))))))))))
 refine bQ_ [18, 19, 20, 21, 22, 23, 24] (fun g M => (g 24 = .bool (!(aK_ a b) || decide ((b2_ (bb_ a c)).1 < 0))) ∧ M = [⟨b3, 39, flat [pI ((bb_ a c).n), pI ((bb_ a c).d)]⟩, ⟨b2, 41, flat [pI c.x.n, pI c.x.d, pI c.y.n, pI c.y.d, pI c.z.n, pI c.z.d]⟩, ⟨b1, 23, flat [ci .i64 a.x.1, ci .i64 a.y.1, ci .i64 a.z.1]⟩]) (fun K2 J2 => ?_) ?_
 ·skip
  refine Rk fun K J => sE rfl (sE rfl ?_)
  rcases bt (aK_ a b) with h5 | h5
  ·skip
   refine sB (not_f h5) rfl (sQ (qL ty_39 rfl m0 rfl) rfl (sQ (q_ret en_26 (f1_ (bb_ a c)) rfl) rfl (sE rfl (sE rfl (nl J ?_)))))
   refine J2 _ _ (by repeat first | exact .refl | refine .cons rfl ?_) ⟨_, s0, ?s24, rfl⟩
   case s24 => exact congrArg Value.bool (nor_t h5 rfl)
  ·skip
   refine sB (not_t h5) rfl (WL_n rfl (WL_n rfl (WL_n rfl (sE rfl (nl J ?_)))))
   refine J2 _ _ (by repeat first | exact .refl | refine .cons rfl ?_) ⟨_, s0, ?s24, rfl⟩
   case s24 => exact congrArg Value.bool (nor_f h5)
 ·skip
  rintro g6 M ⟨hg24, rfl⟩
  simp only [setG, hg24]
  clear hg24
  rcases bt (!(aK_ a b) || decide ((b2_ (bb_ a c)).1 < 0)) with h7 | h7
  ·skip
   refine W_t h7 rfl (Rs fun K J => sE rfl (nl J (W_ret (ai_ (ret1 rfl (.inr rfl) rfl ?_)))))
   exact (by exact congrArg (fun r : Bool => (.bool r : Value)) (show _ = (aC_ a b c) from bif_t h7 rfl))
  ·skip
   refine W_f h7 rfl (ak_ (J1 _ _ (ds (sk (sk (sk (s0)))) [0,4,8,12,17,21] [5] mix (by kernel_rfl) (fun K J => pQ rfl (qL ty_41 rfl m1 rfl) (pQ rfl (qL ty_23 rfl m2 rfl) ?_)))))
   obtain ⟨r8, hr8⟩ := nm ((ad_ a) : (A3 Rt))
   refine pC (AV [pI r8.x.n, pI r8.x.d, pI r8.y.n, pI r8.y.d, pI r8.z.n, pI r8.z.d]) en_32 (bS_ a) rfl rfl (by rw [hr8]; first | done | rfl) ?_
   obtain ⟨r9, hr9⟩ := nm ((bD_ c r8) : (A3 Rt))
   refine pC (AV [pI r9.x.n, pI r9.x.d, pI r9.y.n, pI r9.y.d, pI r9.z.n, pI r9.z.d]) en_71 (fN_ c r8) rfl rfl (by rw [hr9]; first | done | rfl) (PL_o rfl rfl (bk_ zp_41 (fun b10 hb10 => ⟨(fun _ => sd s0), (sd s0), oS [pI r9.x.n, pI r9.x.d, pI r9.y.n, pI r9.y.d, pI r9.z.n, pI r9.z.d] ty_41 rfl rfl rfl rfl rfl rfl (.head _) rfl hb10 rfl (sd s0) (fl J (ds (sd (sk (sk (sk (s0))))) [0,4,8,12,16,21,25] [6] mix (by kernel_rfl) (fun K J => pQ rfl (q_ret en_25 (bx_ (wl 1000000)) rfl) ?_)))⟩)))
   refine pQ rfl (qL ty_41 rfl m0 rfl) (pQ rfl (qL ty_41 rfl m0 rfl) (pQ rfl (q_ret en_39 (cW_ r9 r9) rfl) ?_))
   obtain ⟨r11, hr11⟩ := nm ((aj_ (ac_ (wl 1000000)) (aR_ r9 r9)) : Rt)
   refine pC (AV [pI r11.n, pI r11.d]) en_38 (be_ (ac_ (wl 1000000)) (aR_ r9 r9)) rfl rfl (by rw [hr11]; first | done | rfl) ?_
   refine PL_o rfl rfl (bk_ zp_39 (fun b12 hb12 => ⟨(fun _ => sd s0), (sd (sd s0)), oS [pI r11.n, pI r11.d] ty_39 rfl rfl rfl rfl rfl rfl (.head _) rfl hb12 rfl (sd (sd s0)) (fl J (ds (sk (sk (sk (sk (sk (s0)))))) [0,4,8,12,16,20,24,28,33,37] [9] mix (by kernel_rfl) (fun K J => pE rfl (pE rfl (pV (.int .i64 ((W.mul b b).1)) rfl rfl (pQ rfl (q_ret en_25 (bx_ (W.mul b b)) rfl) (pQ rfl (qL ty_39 rfl m2 rfl) (pQ rfl (qL ty_39 rfl m2 rfl) ?_))))))))⟩))
   obtain ⟨r13, hr13⟩ := nm ((aj_ (bb_ a c) (bb_ a c)) : Rt)
   refine pC (AV [pI r13.n, pI r13.d]) en_38 (be_ (bb_ a c) (bb_ a c)) rfl rfl (by rw [hr13]; first | done | rfl) ?_
   obtain ⟨r14, hr14⟩ := nm ((aj_ (ac_ (W.mul b b)) r13) : Rt)
   refine pC (AV [pI r14.n, pI r14.d]) en_38 (be_ (ac_ (W.mul b b)) r13) rfl rfl (by rw [hr14]; first | done | rfl) (PL_o rfl rfl (bk_ zp_39 (fun b15 hb15 => ⟨(fun _ => sd s0), (sd s0), oS [pI r14.n, pI r14.d] ty_39 rfl rfl rfl rfl rfl rfl (.head _) rfl hb15 rfl (sd s0) (fl J (Rs fun K J => sQ (qL ty_39 rfl m1 rfl) rfl (sQ (qL ty_39 rfl m0 rfl) rfl (sQ (q_ret en_72 (f4_ r11 r14) rfl) rfl (sE rfl (sE rfl (nl J (W_ret (ret1 rfl (.inr rfl) rfl ?_)))))))))⟩)))
   exact (by subst hr14; subst hr13; subst hr11; subst hr9; subst hr8; exact congrArg (fun r : Bool => (.bool r : Value)) (show _ = (aC_ a b c) from bif_f h7 rfl))

theorem fg_ (va : Value) (a : (List (A3 Rt))) (vb : Value) (b : (List (A3 Rt))) (w : World) (ha : Slr w elVr va a) (hb : Slr w elVr vb b) :
    Calls Tryz.prog 13 [va, vb].toArray w (fun e w' => e = .returned (.bool (cp_ a b)) ∧ Ext w w') := by
 refine di_ (N := 26) Tryz.func13 rfl rfl (by simp) ?_
 obtain ⟨w0, rfl⟩ : ∃ w0, w0 = w := ⟨_, rfl⟩
 have Ha := ha.old
 have hm_a := ha.max
 have Hb := hb.old
 have hm_b := hb.max
 simp only [initF, Nat.reduceAdd]
 refine Rs fun K J => sE rfl (nl J (Sq fun K1 J1 => Rs fun K J => sE rfl (sQ (q_as (v' := .int .i64 (((a).length : Nat) : Int)) (e7_ (e := elVr) sl_24 rfl (SLe.sub Ha sn)) rfl) rfl (sE rfl (sQ (q_as (v' := .int .i64 (((b).length : Nat) : Int)) (e7_ (e := elVr) sl_24 rfl (SLe.sub Hb sn)) rfl) rfl (sE rfl (nl J ?_)))))))
 rcases bt ((((a).length : Nat) : Int) != (((b).length : Nat) : Int)) with h1 | h1
 ·skip
  have ph2 := neI_t h1
  refine W_t h1 rfl (Rs fun K J => sE rfl (nl J (W_ret (ai_ (ret1 rfl (.inr rfl) rfl ?_)))))
  exact (by exact congrArg (fun r : Bool => (.bool r : Value)) (show _ = (cp_ a b) from bif_t h1 rfl))
 ·skip
  have ph3 := neI_f h1
  refine W_f h1 rfl (ak_ (J1 _ _ (Sq fun K2 J2 => Rs fun K J => sE rfl (nl J ?_))))
  refine ia_ (fun S M h => J2 S M h) [4, 5, 11, 12, 13, 14, 15, 16, 17, 18, 19, 20, 21, 22, 23, 24, 25] (fun g M => ∃ (i : Nat), (cc_ a b ((a.length + 1)) 0) = .inl i ∧ (g 5 = .int .i64 ((i : Nat) : Int)) ∧ M = []) (fun K_u4 hK_u4 => ?_) ?_
  ·skip
   refine ar_ ?_
   refine bN_ [4, 5, 11, 12, 13, 14, 15, 16, 17, 18, 19, 20, 21, 22, 23, 24, 25] (fun g nn M => ∃ (i : Nat), (cc_ a b nn i) = (cc_ a b ((a.length + 1)) 0) ∧ a.length - i < nn ∧ (i ≤ a.length) ∧ (g 5 = .int .i64 ((i : Nat) : Int)) ∧ M = []) ((a.length + 1)) ?start ?round
   case start => exact ⟨_, s0, 0, rfl, (by omega), (by omega), rfl, rfl⟩
   case round =>
    rintro nn g M ⟨i, hT0, hq0, hinv0, hg5, rfl⟩
    obtain ⟨k0, rfl⟩ : ∃ m, nn = m + 1 := ⟨nn - 1, by omega⟩
    simp only [setG, hg5]
    clear hg5
    refine Sq fun K7 J7 => Rs fun K J => sE rfl (sE rfl (sQ (q_as (v' := .int .i64 (((a).length : Nat) : Int)) (e7_ (e := elVr) sl_24 rfl (SLe.sub Ha sn)) rfl) rfl (sE rfl (nl J ?_))))
    rcases bt (decide (((i : Nat) : Int) < (((a).length : Nat) : Int))) with h9 | h9
    ·skip
     have ph9 := of_decide_eq_true h9
     refine W_t h9 rfl (ak_ (J7 _ _ (Sq fun K8 J8 => ar_ (ds sn [0,4,8,12,16,20,24,28,32] [] mix (by kernel_rfl) (fun K J => pE rfl (pE rfl (pQ rfl (q_as (v' := .pointer (some (slb va (i * 108 + 0)))) (br_ (e := elVr) (l := a) (k := i) sl_24 rfl rfl (SLe.sub Ha sn) (by omega)) rfl) (pQ rfl (q_ldG (e := elVr) (l := a) (k := i) (o := 0) ty_41 rfl (SLe.sub Ha sn) (bo_ V0 (by omega)) rfl) (pE rfl (pE rfl (pQ rfl (q_as (v' := .pointer (some (slb vb (i * 108 + 0)))) (br_ (e := elVr) (l := b) (k := i) sl_24 rfl rfl (SLe.sub Hb sn) (by omega)) rfl) (pQ rfl (q_ldG (e := elVr) (l := b) (k := i) (o := 0) ty_41 rfl (SLe.sub Hb sn) (bo_ V0 (by omega)) rfl) ?_))))))))))))
     refine pQ rfl (gw_ (r := (decide ((((a.getD i V0).x).n) = (((b.getD i V0).x).n)) && (decide ((((a.getD i V0).x).d) = (((b.getD i V0).x).d)) && (decide ((((a.getD i V0).y).n) = (((b.getD i V0).y).n)) && (decide ((((a.getD i V0).y).d) = (((b.getD i V0).y).d)) && (decide ((((a.getD i V0).z).n) = (((b.getD i V0).z).n)) && decide ((((a.getD i V0).z).d) = (((b.getD i V0).z).d)))))))) rfl rfl (dU_ 8 (by decide) eg_41 lw_41 (bg_ lv_pI (bg_ lv_pI (bg_ lv_pI (bg_ lv_pI (bg_ lv_pI (d9_ lv_pI)))))) (bg_ lv_pI (bg_ lv_pI (bg_ lv_pI (bg_ lv_pI (bg_ lv_pI (d9_ lv_pI)))))) (b6_ rfl eq_pI (b6_ rfl eq_pI (b6_ rfl eq_pI (b6_ rfl eq_pI (b6_ rfl eq_pI (e4_ eq_pI)))))))) (fl J ?_)
     rcases bt (decide ((((a.getD i V0).x).n) = (((b.getD i V0).x).n)) && (decide ((((a.getD i V0).x).d) = (((b.getD i V0).x).d)) && (decide ((((a.getD i V0).y).n) = (((b.getD i V0).y).n)) && (decide ((((a.getD i V0).y).d) = (((b.getD i V0).y).d)) && (decide ((((a.getD i V0).z).n) = (((b.getD i V0).z).n)) && decide ((((a.getD i V0).z).d) = (((b.getD i V0).z).d))))))) with h10 | h10
     ·skip
      refine W_f (not_f h10) rfl (ak_ (J8 _ _ (Rk fun K J => sE rfl (sV (.int .i64 ((i + 1 : Nat) : Int)) rfl (congrArg (Value.int .i64) (wx (by omega) (by omega) (by omega))) (sE rfl (nl J (⟨(by repeat first | exact .refl | refine .cons rfl ?_), _, _, s0, (Nat.lt_succ_self _), i + 1, (by exact (hT0.symm.trans (Eq.symm (bif_t h9 (bif_t h10 rfl)))).symm), (Nat.lt_of_lt_of_le (by omega) (Nat.le_of_lt_succ hq0)), (by omega), rfl, rfl⟩)))))))
     ·skip
      refine W_t (not_t h10) rfl (Rs fun K J => sE rfl (nl J (W_ret (aB_ (ai_ (ai_ (aB_ (ai_ (ai_ (ret1 rfl (.inr rfl) rfl ?_))))))))))
      exact (by exact congrArg (fun r : Bool => (.bool r : Value)) (show _ = (cp_ a b) from bif_f h1 ((sm_q rfl (hT0.symm.trans (Eq.symm (bif_t h9 (bif_f h10 rfl))))))))
    ·skip
     have ph9 := of_decide_eq_false h9
     refine W_f h9 rfl (bB_ (ax_ (ax_ (aF_ (hK_u4 _ _ (by repeat first | exact .refl | refine .cons rfl ?_) ⟨_, s0, i, (by exact hT0.symm.trans (Eq.symm (bif_f h9 rfl))), rfl, rfl⟩)))))
  ·skip
   rintro g M ⟨i, hCu4, hg5, rfl⟩
   simp only [setG, hg5]
   clear hg5
   refine Rs fun K J => sE rfl (nl J (W_ret (ret1 rfl (.inr rfl) rfl ?_)))
   exact (by exact congrArg (fun r : Bool => (.bool r : Value)) (show _ = (cp_ a b) from bif_f h1 (trs (Eq.symm (smS hCu4)) rfl)))
end Go.Proofs.YtapbefpeopaecaaGreatDoor

set_option linter.unusedVariables false
set_option linter.unusedSimpArgs false
namespace Go.Num
open Go Go.Kn
def aO_ (a : (A3 W)) (b : W) : Bool :=
  bif (!(aK_ a b) || (b.1 == 0)) then (dn_) else (let r10 : (A3 W) := (aJ_ a).1
  let r11 : (A3 W) := (aJ_ a).2
  bif ((((af_ a b).2).1 != 0) || (((((af_ a b).1).length : Nat) : Int) != 4)) then (false) else (let r19 : Rt := (ay_ (wl 1) (wl 256))
  let r21 : (A3 Rt) := (ad_ r10)
  let r22 : (A3 Rt) := (ad_ r11)
  let r24 : (A3 Rt) := (ae_ r19 r21)
  let r25 : (A3 Rt) := (aD_ (((af_ a b).1).getD 0 V0) r24)
  let r27 : (A3 Rt) := (aD_ (((af_ a b).1).getD 0 V0) (((af_ a b).1).getD 1 V0))
  bif (!(decide (r27.x.n = (((ae_ (ac_ (wl 2)) (ad_ a)).x).n)) && (decide (r27.x.d = (((ae_ (ac_ (wl 2)) (ad_ a)).x).d)) && (decide (r27.y.n = (((ae_ (ac_ (wl 2)) (ad_ a)).y).n)) && (decide (r27.y.d = (((ae_ (ac_ (wl 2)) (ad_ a)).y).d)) && (decide (r27.z.n = (((ae_ (ac_ (wl 2)) (ad_ a)).z).n)) && decide (r27.z.d = (((ae_ (ac_ (wl 2)) (ad_ a)).z).d))))))) || (!(aC_ a b (((af_ a b).1).getD 0 V0)) || (aC_ a b r25))) then (false) else (let r37 : (A3 Rt) := (ad_ a)
  let r38 : (A3 Rt) := (aU_ (((af_ a b).1).getD 0 V0) r37)
  let r39 : Rt := (aj_ (aR_ r38 r21) (ac_ (wl 256)))
  bif ((Z.signW (Z.rem r39.n.dec (an_ r10 r10).dec)).1 != 0) then (false) else (let r70 : (A3 Rt) := (ae_ r19 r22)
  let r71 : (A3 Rt) := (aD_ (((af_ a b).1).getD 2 V0) r70)
  let r73 : (A3 Rt) := (aD_ (((af_ a b).1).getD 2 V0) (((af_ a b).1).getD 3 V0))
  bif (!(decide (r73.x.n = (((ae_ (ac_ (wl 2)) (ad_ a)).x).n)) && (decide (r73.x.d = (((ae_ (ac_ (wl 2)) (ad_ a)).x).d)) && (decide (r73.y.n = (((ae_ (ac_ (wl 2)) (ad_ a)).y).n)) && (decide (r73.y.d = (((ae_ (ac_ (wl 2)) (ad_ a)).y).d)) && (decide (r73.z.n = (((ae_ (ac_ (wl 2)) (ad_ a)).z).n)) && decide (r73.z.d = (((ae_ (ac_ (wl 2)) (ad_ a)).z).d))))))) || (!(aC_ a b (((af_ a b).1).getD 2 V0)) || (aC_ a b r71))) then (false) else (let r83 : (A3 Rt) := (ad_ a)
  let r84 : (A3 Rt) := (aU_ (((af_ a b).1).getD 2 V0) r83)
  let r85 : Rt := (aj_ (aR_ r84 r22) (ac_ (wl 256)))
  bif ((Z.signW (Z.rem r85.n.dec (an_ r11 r11).dec)).1 != 0) then (false) else (dn_))))))
end Go.Num

