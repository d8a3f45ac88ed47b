/- Walks: what these functions return. -/
import Derived.Test.YtapbefpeopaecaaGreatDoorZFa0
import Derived.Test.YtapbefpeopaecaaGreatDoorZFWm
import Derived.Test.YtapbefpeopaecaaGreatDoorZWa
namespace Go.Proofs.YtapbefpeopaecaaGreatDoor
open Go.Kn Go.Num
set_option linter.unusedVariables false
set_option linter.unusedSimpArgs false
set_option maxRecDepth 20000
set_option maxHeartbeats 8000000
theorem iv_ (vl : Value) (l : (List I)) (w : World) (hl : Slr w elI vl l) :
    Calls Tryz.prog 135 [vl].toArray w (fun e w' => e = .returned (.bool (cV_ l)) ∧ Ext w w') := by
 refine c8_ (N := 19) Tryz.func135 rfl rfl (by simp) ?_
 obtain ⟨w0, rfl⟩ : ∃ w0, w0 = w := ⟨_, rfl⟩
 have Hl := hl.old
 have hm_l := hl.max
 simp only [initF, Nat.reduceAdd]
 refine Rs fun K J => sE rfl (nl J (Sq fun K1 J1 => Rs fun K J => sE rfl (sQ (q_as (v' := .int .i64 (((l).length : Nat) : Int)) (eC_ (e := elI) l4_ rfl (SLe.sub Hl sn)) rfl) rfl (sE rfl (nl J ?_)))))
 refine gN_ (fun S M h => J1 S M h) [2, 4, 7, 8, 9, 10, 11, 12, 13, 14, 15, 16, 17, 18] (fun g M => (cZ_ l l) = .inl () ∧ (True) ∧ M = []) (fun K_u1 hK_u1 => ?_) ?_
 ·skip
  refine ao_ ?_
  have hmx0 : (l).length ≤ 9223372036854775807 := hm_l
  refine bI_ [2, 4, 7, 8, 9, 10, 11, 12, 13, 14, 15, 16, 17, 18] (fun g nn M => ∃ (i0 : Nat) (l0 : List I), (cZ_ l l0) = (cZ_ l l) ∧ (l).drop i0 = l0 ∧ l0.length = nn ∧ g 7 = .int .i64 ((i0 : Nat) : Int) ∧ (True) ∧ M = []) (l).length ?start ?round
  case start => exact ⟨_, s0, 0, l, rfl, rfl, rfl, rfl, trivial, rfl⟩
  case round =>
   rintro nn g M ⟨i0, l0, hT0, hr0, rfl, hgi, -, rfl⟩
   simp only [setG, hgi]
   clear hgi
   refine Rs fun K J => sE rfl (nl J (Sq fun K8 J8 => ?_))
   rcases l0 with _ | ⟨x0, l0⟩
   ·skip
    have h18 := jH_ hr0
    refine W_f h18 rfl (bG_ (aw_ (aw_ (aC_ (hK_u1 _ _ (by repeat first | exact .refl | refine .cons rfl ?_) ⟨_, s0, (by exact hT0.symm.trans (Eq.symm (rfl))), trivial, rfl⟩)))))
   ·skip
    have h19 := if_ hr0
    have g20 := g1_ hr0
    refine W_t h19 rfl (aj_ (J8 _ _ (Sq fun K9 J9 => ao_ (Rs fun K J => sQ (q_as (v' := .pointer (some (slb vl (i0 * 18 + 0)))) (cj_ (e := elI) (l := l) (k := i0) l4_ rfl rfl (SLe.sub Hl sn) g20.2.1) rfl) rfl (sQ (q_ldG (e := elI) (l := l) (k := i0) (o := 0) ty_37 rfl (SLe.sub Hl sn) g20.1 rfl) rfl (sN zp_37 rfl fun b21 hb21 => sS [pI x0] ty_37 rfl rfl rfl rfl rfl (.head _) rfl hb21 (nl J ?_)))))))
    refine bV_ [11, 12, 13, 14, 15, 16, 17] (fun g M => (g 17 = .bool (x0.1.bad || (!x0.1.valid))) ∧ M = [⟨b21, 37, flat [pI x0]⟩]) (fun K10 J10 => ?_) ?_
    ·skip
     refine Rk fun K J => sQ (qF er_ rfl rfl) rfl (sQ (qC ty_4 rfl m0 rfl) rfl ?_)
     rcases bt x0.1.bad with h23 | h23
     ·skip
      refine sB h23 rfl (WL_n rfl (WL_n rfl (WL_n rfl (sE rfl (nl J ?_)))))
      refine J10 _ _ (by repeat first | exact .refl | refine .cons rfl ?_) ⟨_, s0, ?s17, rfl⟩
      case s17 => exact congrArg Value.bool (or_t h23)
     ·skip
      refine sB h23 rfl (sQ (qL ty_37 rfl m0 rfl) rfl (sC (.bool x0.1.valid) nS_ (fB_ x0.1 x0.2) rfl rfl rfl (sE rfl (sE rfl (nl J ?_)))))
      refine J10 _ _ (by repeat first | exact .refl | refine .cons rfl ?_) ⟨_, s0, ?s17, rfl⟩
      case s17 => exact congrArg Value.bool (or_f h23 rfl)
    ·skip
     rintro g24 M ⟨hg17, rfl⟩
     simp only [setG, hg17]
     clear hg17
     rcases bt (x0.1.bad || (!x0.1.valid)) with h25 | h25
     ·skip
      refine W_t h25 rfl (Rs fun K J => sE rfl (nl J (W_ret (aH_ (af_ (af_ (aH_ (af_ (af_ (ret1 rfl (.inr rfl) rfl ?_))))))))))
      exact (by exact congrArg (fun r : Bool => (.bool r : Value)) (show _ = (cV_ l) from (sm_q rfl (hT0.symm.trans (Eq.symm (bif_t h25 rfl))))))
     ·skip
      refine W_f h25 rfl (aj_ (J9 _ _ (Rk fun K J => sV (.int .i64 ((i0 + 1 : Nat) : Int)) rfl (congrArg (Value.int .i64) (nxt g20.2.1 hmx0)) (sE rfl (nl J (⟨(by repeat first | exact .refl | refine .cons rfl ?_), _, _, (sd (s0)), (Nat.lt_succ_self _), i0 + 1, l0, (by exact (hT0.symm.trans (Eq.symm (bif_f h25 rfl))).symm), g20.2.2, rfl, rfl, trivial, rfl⟩))))))
 ·skip
  rintro g M ⟨hCu1, -, rfl⟩
  simp only [setG]
  refine Rs fun K J => sE rfl (nl J (W_ret (ret1 rfl (.inr rfl) rfl ?_)))
  exact (by exact congrArg (fun r : Bool => (.bool r : Value)) (show _ = (cV_ l) from trs (Eq.symm (smS hCu1)) rfl))
end Go.Proofs.YtapbefpeopaecaaGreatDoor

