/- Walks: what these functions return. -/
import Derived.Test.YtapbefpeopaecaaGreatDoorZFa0
import Derived.Test.YtapbefpeopaecaaGreatDoorZCa
import Derived.Test.YtapbefpeopaecaaGreatDoorZCr
import Derived.Test.YtapbefpeopaecaaGreatDoorZFl
import Derived.Test.YtapbefpeopaecaaGreatDoorZLa
namespace Go.Proofs.YtapbefpeopaecaaGreatDoor
open Go.Kn Go.Num
set_option linter.unusedVariables false
set_option linter.unusedSimpArgs false
set_option maxRecDepth 20000
set_option maxHeartbeats 8000000
theorem gO_ (a : (A3 W)) (b : W) :
    Ret Tryz.prog 3 [AV [ci .i64 a.x.1, ci .i64 a.y.1, ci .i64 a.z.1], .int .i64 b.1] (.bool (cQ_ a b)) := by
 refine as_ (N := 30) Tryz.func3 rfl rfl (by simp) (fun w0 => ?_)
 simp only [initF, Nat.reduceAdd]
 refine Rs fun K J => WL_r rfl (aQ_ rfl rfl (fun b1 hb1 => sE rfl (nl J (Rs fun K J => sQ (qL ty_23 rfl m0 rfl) rfl (sE rfl (WL_r rfl (eY_ (e := elVr) (l := (a8_ a b).1) (fun v => .tuple #[v, .int .i64 (((a8_ a b).2).1)]) en_10 rfl (fun w hw => ey_ a b w) (fun p2 c3 L4 hF5 => sE rfl (sE rfl (sE rfl (sE rfl (sE rfl (nl J (Rs fun K J => sQ (qL ty_23 rfl (List.mem_append_right _ (List.mem_cons_self)) rfl) rfl (sE rfl (WL_r rfl (eY_ (e := elVr) (l := (aJ_ a b).l) (fun v => .agg #[v, .int .i64 (((aJ_ a b).e).1)]) en_11 rfl (fun w hw => fI_ a b w) (fun p6 c7 L8 hF9 => sN zp_29 rfl fun b10 hb10 => sS [csl p6 ((aJ_ a b).l).length c7, ci .i64 (((aJ_ a b).e).1)] ty_29 rfl rfl rfl rfl rfl (.head _) rfl hb10 ?_))))))))))))))))))
 refine nl J ?_
 refine bV_ [4, 17, 18, 19, 20, 21, 22, 23, 24, 25, 26, 27, 28, 29] (fun g M => (g 4 = .bool (bd_ && ((((a8_ a b).2).1 == ((aJ_ a b).e).1) && (bu_ ((a8_ a b).1) ((aJ_ a b).l))))) ∧ M = (⟨b10, 29, flat [csl p6 ((aJ_ a b).l).length c7, ci .i64 (((aJ_ a b).e).1)]⟩ :: (L8 ++ (L4 ++ (⟨b1, 23, flat [ci .i64 a.x.1, ci .i64 a.y.1, ci .i64 a.z.1]⟩ :: []))))) (fun K1 J1 => ?_) ?_
 ·skip
  refine Rk fun K J => sQ (q_ret en_12 cm_  rfl) rfl ?_
  rcases bt bd_ with h13 | h13
  ·skip
   refine sB h13 rfl (sE rfl (sQ (qF qZ_ rfl rfl) rfl (sQ (qC ty_25 rfl m0 rfl) rfl (sE rfl (sE rfl ?_)))))
   rcases bt (((a8_ a b).2).1 == ((aJ_ a b).e).1) with h14 | h14
   ·skip
    refine sB h14 rfl (sE rfl (sQ (qF qk_ rfl rfl) rfl (sQ (qC ty_24 rfl m0 rfl) rfl (sQ (q_as (v' := .bool (bu_ ((a8_ a b).1) ((aJ_ a b).l))) (bY_ en_13 rfl (fun w hw => ep_ _ ((a8_ a b).1) _ ((aJ_ a b).l) w (SLe.ap hw (SLe.sub (SLfe.sle hF5) (sd (sR (List.sublist_append_left _ _))))) (SLe.ap hw (SLe.sub (SLfe.sle hF9) (sd (List.sublist_append_left _ _)))))) rfl) rfl (sE rfl (sE rfl (nl J ?_)))))))
    refine J1 _ _ (by repeat first | exact .refl | refine .cons rfl ?_) ⟨_, s0, ?s4, rfl⟩
    case s4 => exact congrArg Value.bool (and_t h13 (and_t h14 rfl))
   ·skip
    refine sB h14 rfl (WL_n rfl (WL_n rfl (WL_n rfl (WL_n rfl (sE rfl (sE rfl (nl J ?_)))))))
    refine J1 _ _ (by repeat first | exact .refl | refine .cons rfl ?_) ⟨_, s0, ?s4, rfl⟩
    case s4 => exact congrArg Value.bool (and_t h13 (and_f h14))
  ·skip
   refine sB h13 rfl (WL_n rfl (WL_n rfl (WL_n rfl (WL_n rfl (sE rfl (sE rfl (WL_n rfl (WL_n rfl (WL_n rfl (WL_n rfl (sE rfl (sE rfl (nl J ?_)))))))))))))
   refine J1 _ _ (by repeat first | exact .refl | refine .cons rfl ?_) ⟨_, s0, ?s4, rfl⟩
   case s4 => exact congrArg Value.bool (and_f h13)
 ·skip
  rintro g15 M ⟨hg4, rfl⟩
  simp only [setG, hg4]
  clear hg4
  refine W_ret (ret1 rfl (.inr rfl) rfl ?_)
  exact (by rfl)
end Go.Proofs.YtapbefpeopaecaaGreatDoor

