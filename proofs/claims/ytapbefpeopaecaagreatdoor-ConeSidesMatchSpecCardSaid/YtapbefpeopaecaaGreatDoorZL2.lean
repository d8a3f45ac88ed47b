/- Walks: what these functions return. -/
import Derived.Test.YtapbefpeopaecaaGreatDoorZFa0
import Derived.Test.YtapbefpeopaecaaGreatDoorZCa
import Derived.Test.YtapbefpeopaecaaGreatDoorZCr
import Derived.Test.YtapbefpeopaecaaGreatDoorZFl
import Derived.Test.YtapbefpeopaecaaGreatDoorZLa
namespace Go.Proofs.YtapbefpeopaecaaGreatDoor
open Go.Kn Go.Num
set_option linter.unusedVariables false
set_option linter.unusedSimpArgs false
set_option maxRecDepth 20000
set_option maxHeartbeats 8000000
theorem hb_ (a : (A3 W)) (b : W) (c : (A3 Rt)) :
    Ret Tryz.prog 4 [AV [ci .i64 a.x.1, ci .i64 a.y.1, ci .i64 a.z.1], .int .i64 b.1, AV [pI c.x.n, pI c.x.d, pI c.y.n, pI c.y.d, pI c.z.n, pI c.z.d]] (.bool (cb_ a b c)) := by
 refine as_ (N := 60) Tryz.func4 rfl rfl (by simp) (fun w0 => ?_)
 simp only [initF, Nat.reduceAdd]
 refine Rs fun K J => WL_r rfl (aQ_ rfl rfl (fun b1 hb1 => WL_r rfl (aQ_ rfl rfl (fun b2 hb2 => sE rfl (nl J (Rs fun K J => sQ (qL ty_41 rfl m0 rfl) rfl (sQ (q_ret en_14 (dW_ c) rfl) rfl (sE rfl (nl J (Sq fun K1 J1 => Rs fun K J => sE rfl (sE rfl (nl J ?_))))))))))))
 rcases bt (bm_ c) with h3 | h3
 ·skip
  refine W_f (not_f h3) rfl (aj_ (J1 _ _ (Rs fun K J => sQ (qL ty_23 rfl m1 rfl) rfl (sE rfl (sQ (qL ty_41 rfl m0 rfl) rfl (WL_r rfl (eY_ (e := elRt) (l := (ax_ a b c).l) (fun v => .agg #[v, .bool ((ax_ a b c).is)]) en_15 rfl (fun w hw => fX_ a b c w) (fun p4 c5 L6 hF7 => sN zp_45 rfl fun b8 hb8 => sS [csl p4 ((ax_ a b c).l).length c5, cb ((ax_ a b c).is)] ty_45 rfl rfl rfl rfl rfl (.head _) rfl hb8 (nl J (Rs fun K J => sQ (qL ty_23 rfl (List.mem_cons_of_mem _ (List.mem_append_right _ (List.mem_cons_of_mem _ (List.mem_cons_self)))) rfl) rfl (sE rfl (sQ (qL ty_41 rfl (List.mem_cons_of_mem _ (List.mem_append_right _ (List.mem_cons_self))) rfl) rfl (WL_r rfl (eY_ (e := elRt) (l := (ay_ a b c).1) (fun v => .tuple #[v, .bool ((ay_ a b c).2)]) en_16 rfl (fun w hw => ev_ a b c w) (fun p9 c10 L11 hF12 => sE rfl (sE rfl (sE rfl (sE rfl ?_))))))))))))))))))
  refine sE rfl (nl J ?_)
  refine bV_ [6, 27, 28, 29, 30, 31, 32, 33, 34, 35, 36, 37, 38, 39, 40, 41, 42, 43, 44, 45, 46, 47, 48, 49, 50, 51, 52, 53, 54, 55, 56, 57, 58, 59] (fun g M => (g 6 = .bool (bd_ && (((ct_ a b c) == (b8_ a b c)) && (((dE_ a b c) == (ax_ a b c).is) && (((ay_ a b c).2 == (ax_ a b c).is) && (bg_ ((ay_ a b c).1) ((ax_ a b c).l))))))) ∧ M = (L11 ++ (⟨b8, 45, flat [csl p4 ((ax_ a b c).l).length c5, cb ((ax_ a b c).is)]⟩ :: (L6 ++ (⟨b2, 41, flat [pI c.x.n, pI c.x.d, pI c.y.n, pI c.y.d, pI c.z.n, pI c.z.d]⟩ :: (⟨b1, 23, flat [ci .i64 a.x.1, ci .i64 a.y.1, ci .i64 a.z.1]⟩ :: [])))))) (fun K2 J2 => ?_) ?_
  ·skip
   refine dr sn [0,4,8,12,16,20,24,28,32,36,40,44,48,52,56,60,64,68,72,76,80,84,88,92,96,100,104,108,112,116,120,124,128,132] [] mix (by kernel_rfl) (fun K J => pQ rfl (q_ret en_12 cm_  rfl) ?_)
   rcases bt bd_ with h17 | h17
   ·skip
    refine pB h17 rfl (pQ rfl (qL ty_23 rfl (List.mem_append_right _ (List.mem_cons_of_mem _ (List.mem_append_right _ (List.mem_cons_of_mem _ (List.mem_cons_self))))) rfl) (pE rfl (pQ rfl (qL ty_41 rfl (List.mem_append_right _ (List.mem_cons_of_mem _ (List.mem_append_right _ (List.mem_cons_self)))) rfl) (pQ rfl (q_ret en_17 (eK_ a b c) rfl) (pQ rfl (qL ty_23 rfl (List.mem_append_right _ (List.mem_cons_of_mem _ (List.mem_append_right _ (List.mem_cons_of_mem _ (List.mem_cons_self))))) rfl) (pE rfl (pQ rfl (qL ty_41 rfl (List.mem_append_right _ (List.mem_cons_of_mem _ (List.mem_append_right _ (List.mem_cons_self)))) rfl) (pQ rfl (q_ret en_18 (fR_ a b c) rfl) (pQ rfl (q_as (v' := .bool ((ct_ a b c) == (b8_ a b c))) (kf_ bo_4 rfl rfl) rfl) (pE rfl ?_))))))))))
    rcases bt ((ct_ a b c) == (b8_ a b c)) with h18 | h18
    ·skip
     refine pB h18 rfl (pQ rfl (qL ty_23 rfl (List.mem_append_right _ (List.mem_cons_of_mem _ (List.mem_append_right _ (List.mem_cons_of_mem _ (List.mem_cons_self))))) rfl) (pE rfl (pQ rfl (qL ty_41 rfl (List.mem_append_right _ (List.mem_cons_of_mem _ (List.mem_append_right _ (List.mem_cons_self)))) rfl) (pQ rfl (q_ret en_19 (fE_ a b c) rfl) (pQ rfl (qF nd_ rfl rfl) (pQ rfl (qC ty_4 rfl (List.mem_append_right _ (List.mem_cons_self)) rfl) (pQ rfl (q_as (v' := .bool ((dE_ a b c) == (ax_ a b c).is)) (kf_ bo_4 rfl rfl) rfl) (pE rfl ?_))))))))
     rcases bt ((dE_ a b c) == (ax_ a b c).is) with h19 | h19
     ·skip
      refine pB h19 rfl (pE rfl (pQ rfl (qF nd_ rfl rfl) (pQ rfl (qC ty_4 rfl (List.mem_append_right _ (List.mem_cons_self)) rfl) (pQ rfl (q_as (v' := .bool ((ay_ a b c).2 == (ax_ a b c).is)) (kf_ bo_4 rfl rfl) rfl) (pE rfl ?_)))))
      rcases bt ((ay_ a b c).2 == (ax_ a b c).is) with h20 | h20
      ·skip
       refine pB h20 rfl (pE rfl (pQ rfl (qF qf_ rfl rfl) (pQ rfl (qC ty_43 rfl (List.mem_append_right _ (List.mem_cons_self)) rfl) (pQ rfl (q_as (v' := .bool (bg_ ((ay_ a b c).1) ((ax_ a b c).l))) (bY_ en_20 rfl (fun w hw => dD_ _ ((ay_ a b c).1) _ ((ax_ a b c).l) w (SLe.ap hw (SLe.sub (SLfe.sle hF12) (List.sublist_append_left _ _))) (SLe.ap hw (SLe.sub (SLfe.sle hF7) (sR (sd (List.sublist_append_left _ _))))))) rfl) (pE rfl (pE rfl (fl J ?_)))))))
       refine J2 _ _ (by repeat first | exact .refl | refine .cons rfl ?_) ⟨_, s0, ?s6, rfl⟩
       case s6 => exact congrArg Value.bool (and_t h17 (and_t h18 (and_t h19 (and_t h20 rfl))))
      ·skip
       refine pB h20 rfl (PL_n rfl rfl (PL_n rfl rfl (PL_n rfl rfl (PL_n rfl rfl (pE rfl (pE rfl (fl J ?_)))))))
       refine J2 _ _ (by repeat first | exact .refl | refine .cons rfl ?_) ⟨_, s0, ?s6, rfl⟩
       case s6 => exact congrArg Value.bool (and_t h17 (and_t h18 (and_t h19 (and_f h20))))
     ·skip
      refine pB h19 rfl (PL_n rfl rfl (PL_n rfl rfl (PL_n rfl rfl (PL_n rfl rfl (pE rfl (pE rfl (PL_n rfl rfl (PL_n rfl rfl (PL_n rfl rfl (PL_n rfl rfl (pE rfl (pE rfl (fl J ?_)))))))))))))
      refine J2 _ _ (by repeat first | exact .refl | refine .cons rfl ?_) ⟨_, s0, ?s6, rfl⟩
      case s6 => exact congrArg Value.bool (and_t h17 (and_t h18 (and_f h19)))
    ·skip
     refine pB h18 rfl (PL_n rfl rfl (PL_n rfl rfl (PL_n rfl rfl (PL_n rfl rfl (PL_n rfl rfl (PL_n rfl rfl (PL_n rfl rfl (pE rfl (pE rfl (PL_n rfl rfl (PL_n rfl rfl (PL_n rfl rfl (PL_n rfl rfl (pE rfl (pE rfl (PL_n rfl rfl (PL_n rfl rfl (PL_n rfl rfl (PL_n rfl rfl ?_)))))))))))))))))))
     refine pE rfl (pE rfl (fl J ?_))
     refine J2 _ _ (by repeat first | exact .refl | refine .cons rfl ?_) ⟨_, s0, ?s6, rfl⟩
     case s6 => exact congrArg Value.bool (and_t h17 (and_f h18))
   ·skip
    refine pB h17 rfl (PL_n rfl rfl (PL_n rfl rfl (PL_n rfl rfl (PL_n rfl rfl (PL_n rfl rfl (PL_n rfl rfl (PL_n rfl rfl (PL_n rfl rfl (PL_n rfl rfl (pE rfl (pE rfl (PL_n rfl rfl (PL_n rfl rfl (PL_n rfl rfl (PL_n rfl rfl (PL_n rfl rfl (PL_n rfl rfl (PL_n rfl rfl (pE rfl ?_)))))))))))))))))))
    refine pE rfl (PL_n rfl rfl (PL_n rfl rfl (PL_n rfl rfl (PL_n rfl rfl (pE rfl (pE rfl (PL_n rfl rfl (PL_n rfl rfl (PL_n rfl rfl (PL_n rfl rfl (pE rfl (pE rfl (fl J ?_)))))))))))))
    refine J2 _ _ (by repeat first | exact .refl | refine .cons rfl ?_) ⟨_, s0, ?s6, rfl⟩
    case s6 => exact congrArg Value.bool (and_f h17)
  ·skip
   rintro g21 M ⟨hg6, rfl⟩
   simp only [setG, hg6]
   clear hg6
   refine W_ret (ret1 rfl (.inr rfl) rfl ?_)
   exact (by exact congrArg (fun r : Bool => (.bool r : Value)) (show _ = (cb_ a b c) from bif_t h3 rfl))
 ·skip
  refine W_t (not_t h3) rfl (Rs fun K J => sQ (q_ret en_12 cm_  rfl) rfl (sE rfl (nl J (W_ret (af_ (ret1 rfl (.inr rfl) rfl ?_))))))
  exact (by exact congrArg (fun r : Bool => (.bool r : Value)) (show _ = (cb_ a b c) from bif_f h3 rfl))
end Go.Proofs.YtapbefpeopaecaaGreatDoor

