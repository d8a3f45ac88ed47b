/- Walks: what these functions return. -/
import Derived.Test.YtapbefpeopaecaaGreatDoorZFa0
import Derived.Test.YtapbefpeopaecaaGreatDoorZCa
import Derived.Test.YtapbefpeopaecaaGreatDoorZCr
import Derived.Test.YtapbefpeopaecaaGreatDoorZFl
import Derived.Test.YtapbefpeopaecaaGreatDoorZLa
namespace Go.Proofs.YtapbefpeopaecaaGreatDoor
open Go.Kn Go.Num
set_option linter.unusedVariables false
set_option linter.unusedSimpArgs false
set_option maxRecDepth 20000
set_option maxHeartbeats 8000000
theorem gI_ (vl : Value) (l : (List (A3 Rt))) (vk : Value) (k : (List Rt)) (w : World) (hl : Slr w elVr vl l) (hk : Slr w elRt vk k) :
    Calls Tryz.prog 5 [vl, vk].toArray w (fun e w' => e = .returned (.bool (bk_ l k)) ∧ Ext w w') := by
 refine c8_ (N := 65) Tryz.func5 rfl rfl (by simp) ?_
 obtain ⟨w0, rfl⟩ : ∃ w0, w0 = w := ⟨_, rfl⟩
 have Hl := hl.old
 have hm_l := hl.max
 have Hk := hk.old
 have hm_k := hk.max
 simp only [initF, Nat.reduceAdd]
 refine Rs fun K J => sE rfl (nl J (Sq fun K1 J1 => ?_))
 refine bV_ [9, 10, 11, 12, 13, 14, 15, 16] (fun g M => (g 16 = .bool (decide (12 < (((l).length : Nat) : Int)) || decide (14 < (((k).length : Nat) : Int)))) ∧ M = []) (fun K2 J2 => ?_) ?_
 ·skip
  refine Rk fun K J => sE rfl (sQ (q_as (v' := .int .i64 (((l).length : Nat) : Int)) (eC_ (e := elVr) sl_24 rfl (SLe.sub Hl sn)) rfl) rfl (sE rfl ?_))
  rcases bt (decide (12 < (((l).length : Nat) : Int))) with h2 | h2
  ·skip
   refine sB h2 rfl (WL_n rfl (WL_n rfl (WL_n rfl (sE rfl (nl J ?_)))))
   refine J2 _ _ (by repeat first | exact .refl | refine .cons rfl ?_) ⟨_, s0, ?s16, rfl⟩
   case s16 => exact congrArg Value.bool (or_t h2)
  ·skip
   refine sB h2 rfl (sE rfl (sQ (q_as (v' := .int .i64 (((k).length : Nat) : Int)) (eC_ (e := elRt) sl_43 rfl (SLe.sub Hk sn)) rfl) rfl (sE rfl (sE rfl (nl J ?_)))))
   refine J2 _ _ (by repeat first | exact .refl | refine .cons rfl ?_) ⟨_, s0, ?s16, rfl⟩
   case s16 => exact congrArg Value.bool (or_f h2 rfl)
 ·skip
  rintro g3 M ⟨hg16, rfl⟩
  simp only [setG, hg16]
  clear hg16
  rcases bt (decide (12 < (((l).length : Nat) : Int)) || decide (14 < (((k).length : Nat) : Int))) with h4 | h4
  ·skip
   refine W_t h4 rfl (Rs fun K J => sQ (q_ret en_12 cm_  rfl) rfl (sE rfl (nl J (W_ret (af_ (ret1 rfl (.inr rfl) rfl ?_))))))
   exact (by exact congrArg (fun r : Bool => (.bool r : Value)) (show _ = (bk_ l k) from bif_t h4 rfl))
  ·skip
   refine W_f h4 rfl (aj_ (J1 _ _ (Sq fun K3 J3 => Rs fun K J => sE rfl (nl J ?_))))
   refine gN_ (fun S M h => J3 S M h) [4, 5, 6, 18, 19, 20, 21, 22, 23, 24, 25, 26, 27, 28, 29, 30, 31] (fun g M => (aY_ l k l) = .inl () ∧ (True) ∧ M = []) (fun K_u5 hK_u5 => ?_) ?_
   ·skip
    refine ao_ ?_
    have hmx0 : (l).length ≤ 9223372036854775807 := hm_l
    refine bI_ [4, 5, 6, 18, 19, 20, 21, 22, 23, 24, 25, 26, 27, 28, 29, 30, 31] (fun g nn M => ∃ (i0 : Nat) (l0 : List (A3 Rt)), (aY_ l k l0) = (aY_ l k l) ∧ (l).drop i0 = l0 ∧ l0.length = nn ∧ g 5 = .int .i64 ((i0 : Nat) : Int) ∧ (True) ∧ M = []) (l).length ?start ?round
    case start => exact ⟨_, s0, 0, l, rfl, rfl, rfl, rfl, trivial, rfl⟩
    case round =>
     rintro nn g M ⟨i0, l0, hT0, hr0, rfl, hgi, -, rfl⟩
     simp only [setG, hgi]
     clear hgi
     refine Sq fun K8 J8 => Rs fun K J => sE rfl (sE rfl (sQ (q_as (v' := .int .i64 (((l).length : Nat) : Int)) (eC_ (e := elVr) sl_24 rfl (SLe.sub Hl sn)) rfl) rfl (sE rfl (nl J ?_))))
     rcases l0 with _ | ⟨x0, l0⟩
     ·skip
      have h14 := jH_ hr0
      refine W_f h14 rfl (bG_ (aw_ (aw_ (aC_ (hK_u5 _ _ (by repeat first | exact .refl | refine .cons rfl ?_) ⟨_, s0, (by exact hT0.symm.trans (Eq.symm (rfl))), trivial, rfl⟩)))))
     ·skip
      have h15 := if_ hr0
      have g16 := g1_ hr0
      refine W_t h15 rfl (aj_ (J8 _ _ (Sq fun K9 J9 => ao_ (Rs fun K J => sE rfl (sE rfl (sQ (q_as (v' := .pointer (some (slb vl (i0 * 108 + 0)))) (cj_ (e := elVr) (l := l) (k := i0) sl_24 rfl rfl (SLe.sub Hl sn) g16.2.1) rfl) rfl (sQ (q_ldG (e := elVr) (l := l) (k := i0) (o := 0) ty_41 rfl (SLe.sub Hl sn) g16.1 rfl) rfl (sQ (q_ret en_14 (dW_ x0) rfl) rfl (sE rfl (nl J (Rs fun K J => sE rfl (sE rfl (nl J ?_)))))))))))))
      rcases bt (bm_ x0) with h17 | h17
      ·skip
       refine W_f (not_f h17) rfl (aj_ (J9 _ _ (Rk fun K J => sE rfl (sV (.int .i64 ((i0 + 1 : Nat) : Int)) rfl (congrArg (Value.int .i64) (nxt g16.2.1 hmx0)) (sE rfl (nl J (⟨(by repeat first | exact .refl | refine .cons rfl ?_), _, _, s0, (Nat.lt_succ_self _), i0 + 1, l0, (by exact (hT0.symm.trans (Eq.symm (bif_t h17 rfl))).symm), g16.2.2, rfl, rfl, trivial, rfl⟩)))))))
      ·skip
       refine W_t (not_t h17) rfl (Rs fun K J => sQ (q_ret en_12 cm_  rfl) rfl (sE rfl (nl J (W_ret (aH_ (af_ (af_ (aH_ (af_ (af_ (ret1 rfl (.inr rfl) rfl ?_)))))))))))
       exact (by exact congrArg (fun r : Bool => (.bool r : Value)) (show _ = (bk_ l k) from bif_f h4 ((sm_q rfl (hT0.symm.trans (Eq.symm (bif_f h17 rfl)))))))
   ·skip
    rintro g M ⟨hCu5, -, rfl⟩
    simp only [setG]
    refine Sq fun K10 J10 => Rs fun K J => sE rfl (nl J ?_)
    refine gN_ (fun S M h => J10 S M h) [4, 7, 8, 32, 33, 34, 35, 36, 37, 38, 39, 40, 41, 42, 43, 44, 45, 46, 47, 48, 49, 50, 51, 52, 53, 54] (fun g M => (aZ_ l k k) = .inl () ∧ (True) ∧ M = []) (fun K_u18 hK_u18 => ?_) ?_
    ·skip
     refine ao_ ?_
     have hmx1 : (k).length ≤ 9223372036854775807 := hm_k
     refine bI_ [4, 7, 8, 32, 33, 34, 35, 36, 37, 38, 39, 40, 41, 42, 43, 44, 45, 46, 47, 48, 49, 50, 51, 52, 53, 54] (fun g nn M => ∃ (i1 : Nat) (l1 : List Rt), (aZ_ l k l1) = (aZ_ l k k) ∧ (k).drop i1 = l1 ∧ l1.length = nn ∧ g 7 = .int .i64 ((i1 : Nat) : Int) ∧ (True) ∧ M = []) (k).length ?start ?round
     case start => exact ⟨_, s0, 0, k, rfl, rfl, rfl, rfl, trivial, rfl⟩
     case round =>
      rintro nn g M ⟨i1, l1, hT1, hr1, rfl, hgi, -, rfl⟩
      simp only [setG, hgi]
      clear hgi
      refine Sq fun K13 J13 => Rs fun K J => sE rfl (sE rfl (sQ (q_as (v' := .int .i64 (((k).length : Nat) : Int)) (eC_ (e := elRt) sl_43 rfl (SLe.sub Hk sn)) rfl) rfl (sE rfl (nl J ?_))))
      rcases l1 with _ | ⟨x1, l1⟩
      ·skip
       have h23 := jH_ hr1
       refine W_f h23 rfl (bG_ (aw_ (aw_ (aC_ (hK_u18 _ _ (by repeat first | exact .refl | refine .cons rfl ?_) ⟨_, s0, (by exact hT1.symm.trans (Eq.symm (rfl))), trivial, rfl⟩)))))
      ·skip
       have h24 := if_ hr1
       have g25 := g1_ hr1
       refine W_t h24 rfl (aj_ (J13 _ _ (Sq fun K14 J14 => ao_ (ds sn [0,4,8,12,16,20,24,28,32,36,40,44,48,52,56] [] mix (by kernel_rfl) (fun K J => pE rfl (pE rfl (pQ rfl (q_as (v' := .pointer (some (slb vk (i1 * 36 + 0)))) (cj_ (e := elRt) (l := k) (k := i1) sl_43 rfl rfl (SLe.sub Hk sn) g25.2.1) rfl) (pQ rfl (q_ldG (e := elRt) (l := k) (k := i1) (o := 0) ty_39 rfl (SLe.sub Hk sn) g25.1 rfl) (pE rfl (pE rfl (pQ rfl (q_as (v' := .pointer (some (slb vk (i1 * 36 + 0)))) (cj_ (e := elRt) (l := k) (k := i1) sl_43 rfl rfl (SLe.sub Hk sn) g25.2.1) rfl) (pQ rfl (q_ldG (e := elRt) (l := k) (k := i1) (o := 0) ty_39 rfl (SLe.sub Hk sn) g25.1 rfl) (pE rfl (pE rfl (pQ rfl (q_as (v' := .pointer (some (slb vk (i1 * 36 + 0)))) (cj_ (e := elRt) (l := k) (k := i1) sl_43 rfl rfl (SLe.sub Hk sn) g25.2.1) rfl) (pQ rfl (q_ldG (e := elRt) (l := k) (k := i1) (o := 0) ty_39 rfl (SLe.sub Hk sn) g25.1 rfl) (pQ rfl (bM_ zp_41 ar_41 rfl (.cons [pI x1.n, pI x1.d] [pI x1.n, pI x1.d, pI I0, pI I0, pI I0, pI I0] rfl rfl rfl rfl (.cons [pI x1.n, pI x1.d] [pI x1.n, pI x1.d, pI x1.n, pI x1.d, pI I0, pI I0] rfl rfl rfl rfl (.cons [pI x1.n, pI x1.d] [pI x1.n, pI x1.d, pI x1.n, pI x1.d, pI x1.n, pI x1.d] rfl rfl rfl rfl (.nil _))))) (pQ rfl (q_ret en_14 (dW_ (⟨x1, x1, x1⟩ : (A3 Rt))) rfl) ?_))))))))))))))))))
       refine pE rfl (fl J (Rs fun K J => sE rfl (sE rfl (nl J ?_))))
       rcases bt (bm_ (⟨x1, x1, x1⟩ : (A3 Rt))) with h26 | h26
       ·skip
        refine W_f (not_f h26) rfl (aj_ (J14 _ _ (Rk fun K J => sE rfl (sV (.int .i64 ((i1 + 1 : Nat) : Int)) rfl (congrArg (Value.int .i64) (nxt g25.2.1 hmx1)) (sE rfl (nl J (⟨(by repeat first | exact .refl | refine .cons rfl ?_), _, _, s0, (Nat.lt_succ_self _), i1 + 1, l1, (by exact (hT1.symm.trans (Eq.symm (bif_t h26 rfl))).symm), g25.2.2, rfl, rfl, trivial, rfl⟩)))))))
       ·skip
        refine W_t (not_t h26) rfl (Rs fun K J => sQ (q_ret en_12 cm_  rfl) rfl (sE rfl (nl J (W_ret (aH_ (af_ (af_ (aH_ (af_ (af_ (ret1 rfl (.inr rfl) rfl ?_)))))))))))
        exact (by exact congrArg (fun r : Bool => (.bool r : Value)) (show _ = (bk_ l k) from bif_f h4 (trs (Eq.symm (smS hCu5)) ((sm_q rfl (hT1.symm.trans (Eq.symm (bif_f h26 rfl))))))))
    ·skip
     rintro g M ⟨hCu18, -, rfl⟩
     simp only [setG]
     refine bV_ [4, 55, 56, 57, 58, 59, 60, 61, 62, 63, 64] (fun g M => (g 4 = .bool (bd_ && (decide ((((aO_ l k).x).n) = (((an_ l k).x).n)) && (decide ((((aO_ l k).x).d) = (((an_ l k).x).d)) && (decide ((((aO_ l k).y).n) = (((an_ l k).y).n)) && (decide ((((aO_ l k).y).d) = (((an_ l k).y).d)) && (decide ((((aO_ l k).z).n) = (((an_ l k).z).n)) && decide ((((aO_ l k).z).d) = (((an_ l k).z).d))))))))) ∧ M = []) (fun K15 J15 => ?_) ?_
     ·skip
      refine Rk fun K J => sQ (q_ret en_12 cm_  rfl) rfl ?_
      rcases bt bd_ with h28 | h28
      ·skip
       refine sB h28 rfl (sE rfl (sE rfl (sQ (q_as (v' := AV [pI (((aO_ l k).x).n), pI (((aO_ l k).x).d), pI (((aO_ l k).y).n), pI (((aO_ l k).y).d), pI (((aO_ l k).z).n), pI (((aO_ l k).z).d)]) (bY_ en_21 rfl (fun w hw => gk_ _ (l) _ (k) w (SLe.ap hw (SLe.sub Hl sn)) (SLe.ap hw (SLe.sub Hk sn)))) rfl) rfl (sE rfl (sE rfl (sQ (q_as (v' := AV [pI (((an_ l k).x).n), pI (((an_ l k).x).d), pI (((an_ l k).y).n), pI (((an_ l k).y).d), pI (((an_ l k).z).n), pI (((an_ l k).z).d)]) (bY_ en_22 rfl (fun w hw => fH_ _ (l) _ (k) w (SLe.ap hw (SLe.sub Hl sn)) (SLe.ap hw (SLe.sub Hk sn)))) rfl) rfl ?_))))))
       refine sQ (h4_ (r := (decide ((((aO_ l k).x).n) = (((an_ l k).x).n)) && (decide ((((aO_ l k).x).d) = (((an_ l k).x).d)) && (decide ((((aO_ l k).y).n) = (((an_ l k).y).n)) && (decide ((((aO_ l k).y).d) = (((an_ l k).y).d)) && (decide ((((aO_ l k).z).n) = (((an_ l k).z).n)) && decide ((((aO_ l k).z).d) = (((an_ l k).z).d)))))))) rfl rfl (et_ 8 (by decide) eg_41 lw_41 (ch_ lv_pI (ch_ lv_pI (ch_ lv_pI (ch_ lv_pI (ch_ lv_pI (eO_ lv_pI)))))) (ch_ lv_pI (ch_ lv_pI (ch_ lv_pI (ch_ lv_pI (ch_ lv_pI (eO_ lv_pI)))))) (dd_ rfl eq_pI (dd_ rfl eq_pI (dd_ rfl eq_pI (dd_ rfl eq_pI (dd_ rfl eq_pI (f0_ eq_pI)))))))) rfl (sE rfl (sE rfl (nl J ?_)))
       refine J15 _ _ (by repeat first | exact .refl | refine .cons rfl ?_) ⟨_, s0, ?s4, rfl⟩
       case s4 => exact congrArg Value.bool (and_t h28 rfl)
      ·skip
       refine sB h28 rfl (WL_n rfl (WL_n rfl (WL_n rfl (WL_n rfl (WL_n rfl (WL_n rfl (WL_n rfl (sE rfl (sE rfl (nl J ?_))))))))))
       refine J15 _ _ (by repeat first | exact .refl | refine .cons rfl ?_) ⟨_, s0, ?s4, rfl⟩
       case s4 => exact congrArg Value.bool (and_f h28)
     ·skip
      rintro g29 M ⟨hg4, rfl⟩
      simp only [setG, hg4]
      clear hg4
      refine W_ret (ret1 rfl (.inr rfl) rfl ?_)
      exact (by exact congrArg (fun r : Bool => (.bool r : Value)) (show _ = (bk_ l k) from bif_f h4 (trs (Eq.symm (smS hCu5)) (trs (Eq.symm (smS hCu18)) rfl))))
end Go.Proofs.YtapbefpeopaecaaGreatDoor

