/- Walks: what these functions return. -/
import Derived.Test.YtapbefpeopaecaaGreatDoorVGE
import Derived.Test.YtapbefpeopaecaaGreatDoorVCa
import Derived.Test.YtapbefpeopaecaaGreatDoorVCr
import Derived.Test.YtapbefpeopaecaaGreatDoorVGa
import Derived.Test.YtapbefpeopaecaaGreatDoorVGd
import Derived.Test.YtapbefpeopaecaaGreatDoorVLa
import Derived.Test.YtapbefpeopaecaaGreatDoorVRa
namespace Go.Proofs.YtapbefpeopaecaaGreatDoor
open Go.Kn Go.Num
set_option linter.unusedVariables false
set_option linter.unusedSimpArgs false
set_option maxRecDepth 20000
set_option maxHeartbeats 8000000
theorem hJ_ (a : (A3 W)) (b : W) (c : (A3 Rt)) :
    Ret Tryz.prog 6 [AV [ci .i64 a.x.1, ci .i64 a.y.1, ci .i64 a.z.1], .int .i64 b.1, AV [pI c.x.n, pI c.x.d, pI c.y.n, pI c.y.d, pI c.z.n, pI c.z.d]] (.bool (be_ a b c)) := by
 refine aD_ (N := 120) Tryz.func6 rfl rfl (by simp) (fun w0 => ?_)
 simp only [initF, Nat.reduceAdd]
 refine Rs fun K J => WL_r rfl (a6_ rfl rfl (fun b1 hb1 => WL_r rfl (a6_ rfl rfl (fun b2 hb2 => sE rfl (nl J (Rs fun K J => sQ (qL ty_41 rfl m0 rfl) rfl (sQ (q_ret en_14 (fA_ c) rfl) rfl (sE rfl (nl J (Rs fun K J => sQ (qL ty_23 rfl m1 rfl) rfl (sE rfl (sQ (q_ret en_23 (fr_ a b) rfl) rfl (sE rfl (nl J (Sq fun K1 J1 => ?_)))))))))))))))
 refine bP_ [21, 22, 23, 24, 25, 26, 27, 28, 29, 30, 31, 32] (fun g M => (g 32 = .bool (!(bc_ c) || (!(aJ_ a b) || (!(bt_ a c))))) ∧ M = [⟨b2, 41, flat [pI c.x.n, pI c.x.d, pI c.y.n, pI c.y.d, pI c.z.n, pI c.z.d]⟩, ⟨b1, 23, flat [ci .i64 a.x.1, ci .i64 a.y.1, ci .i64 a.z.1]⟩]) (fun K2 J2 => ?_) ?_
 ·skip
  refine Rk fun K J => sE rfl (sE rfl ?_)
  rcases bt (bc_ c) with h5 | h5
  ·skip
   refine sB (not_f h5) rfl (sE rfl (sE rfl (sE rfl ?_)))
   rcases bt (aJ_ a b) with h6 | h6
   ·skip
    refine sB (not_f h6) rfl (sQ (qL ty_23 rfl m1 rfl) rfl (sQ (qL ty_41 rfl m0 rfl) rfl (sQ (q_ret en_24 (fH_ a c) rfl) rfl (sE rfl (sE rfl (nl J ?_))))))
    refine J2 _ _ (by repeat first | exact .refl | refine .cons rfl ?_) ⟨_, s0, ?s32, rfl⟩
    case s32 => exact congrArg Value.bool (nor_t h5 (nor_t h6 rfl))
   ·skip
    refine sB (not_t h6) rfl (WL_n rfl (WL_n rfl (WL_n rfl (WL_n rfl (sE rfl (nl J ?_))))))
    refine J2 _ _ (by repeat first | exact .refl | refine .cons rfl ?_) ⟨_, s0, ?s32, rfl⟩
    case s32 => exact congrArg Value.bool (nor_t h5 (nor_f h6))
  ·skip
   refine sB (not_t h5) rfl (WL_n rfl (WL_n rfl (sE rfl (sE rfl (WL_n rfl (WL_n rfl (WL_n rfl (WL_n rfl (sE rfl (nl J ?_))))))))))
   refine J2 _ _ (by repeat first | exact .refl | refine .cons rfl ?_) ⟨_, s0, ?s32, rfl⟩
   case s32 => exact congrArg Value.bool (nor_f h5)
 ·skip
  rintro g7 M ⟨hg32, rfl⟩
  simp only [setG, hg32]
  clear hg32
  rcases bt (!(bc_ c) || (!(aJ_ a b) || (!(bt_ a c)))) with h8 | h8
  ·skip
   refine W_t h8 rfl (Rs fun K J => sQ (q_ret en_12 ds_  rfl) rfl (sE rfl (nl J (W_ret (aj_ (ret1 rfl (.inr rfl) rfl ?_))))))
   exact (by exact congrArg (fun r : Bool => (.bool r : Value)) (show _ = (be_ a b c) from bif_t h8 rfl))
  ·skip
   refine W_f h8 rfl (al_ (J1 _ _ (Rs fun K J => sQ (qL ty_23 rfl m1 rfl) rfl (sE rfl (sQ (qL ty_41 rfl m0 rfl) rfl (WL_r rfl (fc_ (e := elRt) (l := (ai_ a b c).1) (fun v => .tuple #[v, .bool ((ai_ a b c).2)]) en_16 rfl (fun w hw => d7_ a b c w) (fun p9 c10 L11 hF12 => sE rfl (sE rfl (sE rfl (sE rfl (sE rfl (nl J (Sq fun K3 J3 => ?_))))))))))))))
   refine bP_ [41, 42, 43, 44, 45, 46, 47, 48, 49, 50, 51, 52, 53, 54, 55, 56] (fun g M => (g 56 = .bool (((ai_ a b c).2 != (c3_ a b c)) || ((ai_ a b c).2 && (!(cj_ a b c))))) ∧ M = (L11 ++ (⟨b2, 41, flat [pI c.x.n, pI c.x.d, pI c.y.n, pI c.y.d, pI c.z.n, pI c.z.d]⟩ :: (⟨b1, 23, flat [ci .i64 a.x.1, ci .i64 a.y.1, ci .i64 a.z.1]⟩ :: [])))) (fun K4 J4 => ?_) ?_
   ·skip
    refine Rk fun K J => sE rfl (sQ (qL ty_23 rfl (List.mem_append_right _ (List.mem_cons_of_mem _ (List.mem_cons_self))) rfl) rfl (sE rfl (sQ (qL ty_41 rfl (List.mem_append_right _ (List.mem_cons_self)) rfl) rfl (sQ (q_ret en_19 (fj_ a b c) rfl) rfl (sQ (q_as (v' := .bool ((ai_ a b c).2 != (c3_ a b c))) (fT_ bo_4 rfl rfl) rfl) rfl ?_)))))
    rcases bt ((ai_ a b c).2 != (c3_ a b c)) with h15 | h15
    ·skip
     refine sB h15 rfl (WL_n rfl (WL_n rfl (WL_n rfl (WL_n rfl (WL_n rfl (WL_n rfl (WL_n rfl (WL_n rfl (sE rfl (nl J ?_))))))))))
     refine J4 _ _ (by repeat first | exact .refl | refine .cons rfl ?_) ⟨_, s0, ?s56, rfl⟩
     case s56 => exact congrArg Value.bool (or_t h15)
    ·skip
     refine sB h15 rfl (sE rfl ?_)
     rcases bt ((ai_ a b c).2) with h16 | h16
     ·skip
      refine sB h16 rfl (sQ (qL ty_23 rfl (List.mem_append_right _ (List.mem_cons_of_mem _ (List.mem_cons_self))) rfl) rfl (sE rfl (sQ (qL ty_41 rfl (List.mem_append_right _ (List.mem_cons_self)) rfl) rfl (sQ (q_ret en_17 (em_ a b c) rfl) rfl (sE rfl (sE rfl (sE rfl (nl J ?_))))))))
      refine J4 _ _ (by repeat first | exact .refl | refine .cons rfl ?_) ⟨_, s0, ?s56, rfl⟩
      case s56 => exact congrArg Value.bool (or_f h15 (and_t h16 rfl))
     ·skip
      refine sB h16 rfl (WL_n rfl (WL_n rfl (WL_n rfl (WL_n rfl (WL_n rfl (sE rfl (sE rfl (nl J ?_))))))))
      refine J4 _ _ (by repeat first | exact .refl | refine .cons rfl ?_) ⟨_, s0, ?s56, rfl⟩
      case s56 => exact congrArg Value.bool (or_f h15 (and_f h16))
   ·skip
    rintro g17 M ⟨hg56, rfl⟩
    simp only [setG, hg56]
    clear hg56
    rcases bt (((ai_ a b c).2 != (c3_ a b c)) || ((ai_ a b c).2 && (!(cj_ a b c)))) with h18 | h18
    ·skip
     refine W_t h18 rfl (Rs fun K J => sE rfl (nl J (W_ret (aj_ (ret1 rfl (.inr rfl) rfl ?_)))))
     exact (by exact congrArg (fun r : Bool => (.bool r : Value)) (show _ = (be_ a b c) from bif_f h8 (bif_t h18 rfl)))
    ·skip
     refine W_f h18 rfl (al_ (J3 _ _ (Sq fun K5 J5 => Rs fun K J => sE rfl (sE rfl (nl J ?_)))))
     rcases bt ((ai_ a b c).2) with h19 | h19
     ·skip
      refine W_f (not_f h19) rfl (al_ (J5 _ _ (Rs fun K J => sQ (qL ty_23 rfl (List.mem_append_right _ (List.mem_cons_of_mem _ (List.mem_cons_self))) rfl) rfl (sE rfl (WL_r rfl (fc_ (e := elVr) (l := (av_ a b).1) (fun v => .tuple #[v, .int .i64 (((av_ a b).2).1)]) en_10 rfl (fun w hw => d9_ a b w) (fun p20 c21 L22 hF23 => sE rfl (sE rfl (sE rfl (sE rfl (sE rfl (nl J (Sq fun K6 J6 => ?_)))))))))))))
      refine bP_ [71, 72, 73, 74, 75, 76, 77, 78, 79] (fun g M => (g 79 = .bool ((((av_ a b).2).1 != 0) || (((((av_ a b).1).length : Nat) : Int) != ((((ai_ a b c).1).length : Nat) : Int)))) ∧ M = (L22 ++ (L11 ++ (⟨b2, 41, flat [pI c.x.n, pI c.x.d, pI c.y.n, pI c.y.d, pI c.z.n, pI c.z.d]⟩ :: (⟨b1, 23, flat [ci .i64 a.x.1, ci .i64 a.y.1, ci .i64 a.z.1]⟩ :: []))))) (fun K7 J7 => ?_) ?_
      ·skip
       refine Rk fun K J => sE rfl (sE rfl ?_)
       rcases bt (((av_ a b).2).1 != 0) with h25 | h25
       ·skip
        refine sB h25 rfl (WL_n rfl (WL_n rfl (WL_n rfl (WL_n rfl (WL_n rfl (sE rfl (nl J ?_)))))))
        refine J7 _ _ (by repeat first | exact .refl | refine .cons rfl ?_) ⟨_, s0, ?s79, rfl⟩
        case s79 => exact congrArg Value.bool (or_t h25)
       ·skip
        refine sB h25 rfl (sE rfl (sQ (q_as (v' := .int .i64 ((((av_ a b).1).length : Nat) : Int)) (eg_ (e := elVr) sl_24 rfl (SLe.sub (SLfe.sle hF23) (List.sublist_append_left _ _))) rfl) rfl (sE rfl (sQ (q_as (v' := .int .i64 ((((ai_ a b c).1).length : Nat) : Int)) (eg_ (e := elRt) sl_43 rfl (SLe.sub (SLfe.sle hF12) (sR (List.sublist_append_left _ _)))) rfl) rfl (sE rfl (sE rfl (nl J ?_)))))))
        refine J7 _ _ (by repeat first | exact .refl | refine .cons rfl ?_) ⟨_, s0, ?s79, rfl⟩
        case s79 => exact congrArg Value.bool (or_f h25 rfl)
      ·skip
       rintro g26 M ⟨hg79, rfl⟩
       simp only [setG, hg79]
       clear hg79
       rcases bt ((((av_ a b).2).1 != 0) || (((((av_ a b).1).length : Nat) : Int) != ((((ai_ a b c).1).length : Nat) : Int))) with h27 | h27
       ·skip
        refine W_t h27 rfl (Rs fun K J => sE rfl (nl J (W_ret (aj_ (ret1 rfl (.inr rfl) rfl ?_)))))
        exact (by exact congrArg (fun r : Bool => (.bool r : Value)) (show _ = (be_ a b c) from bif_f h8 (bif_f h18 (bif_t h19 (bif_t h27 rfl)))))
       ·skip
        refine W_f h27 rfl (al_ (J6 _ _ (Rs fun K J => sQ (q_ret en_25 (c5_ (wl 0)) rfl) rfl ?_)))
        refine sN zp_39 rfl fun b28 hb28 => sS [pI ((ag_ (wl 0)).n), pI ((ag_ (wl 0)).d)] ty_39 rfl rfl rfl rfl rfl (.head _) rfl hb28 ?_
        refine nl J (Sq fun K8 J8 => Rs fun K J => sE rfl (nl J ?_))
        refine gN_ (fun S M h => J8 S M h) [6, 14, 81, 82, 83, 84, 85, 86, 87, 88, 89, 90, 91, 92, 93, 94, 95, 96, 97, 98] (fun g M => ∃ (mb28 : Rt), (bg_ a b c (ai_ a b c).1 (ag_ (wl 0))) = .inl mb28 ∧ (True) ∧ M = (⟨b28, 39, flat [pI mb28.n, pI mb28.d]⟩ :: (L22 ++ (L11 ++ (⟨b2, 41, flat [pI c.x.n, pI c.x.d, pI c.y.n, pI c.y.d, pI c.z.n, pI c.z.d]⟩ :: (⟨b1, 23, flat [ci .i64 a.x.1, ci .i64 a.y.1, ci .i64 a.z.1]⟩ :: [])))))) (fun K_u29 hK_u29 => ?_) ?_
        ·skip
         refine at_ ?_
         have hmx0 : ((ai_ a b c).1).length ≤ 9223372036854775807 := (SLfe.max hF12)
         refine bv_ [6, 14, 81, 82, 83, 84, 85, 86, 87, 88, 89, 90, 91, 92, 93, 94, 95, 96, 97, 98] (fun g nn M => ∃ (i0 : Nat) (l0 : List Rt) (mb28 : Rt), (bg_ a b c l0 mb28) = (bg_ a b c (ai_ a b c).1 (ag_ (wl 0))) ∧ ((ai_ a b c).1).drop i0 = l0 ∧ l0.length = nn ∧ g 14 = .int .i64 ((i0 : Nat) : Int) ∧ (True) ∧ M = (⟨b28, 39, flat [pI mb28.n, pI mb28.d]⟩ :: (L22 ++ (L11 ++ (⟨b2, 41, flat [pI c.x.n, pI c.x.d, pI c.y.n, pI c.y.d, pI c.z.n, pI c.z.d]⟩ :: (⟨b1, 23, flat [ci .i64 a.x.1, ci .i64 a.y.1, ci .i64 a.z.1]⟩ :: [])))))) ((ai_ a b c).1).length ?start ?round
         case start => exact ⟨_, s0, 0, (ai_ a b c).1, (ag_ (wl 0)), rfl, rfl, rfl, rfl, trivial, rfl⟩
         case round =>
          rintro nn g M ⟨i0, l0, mb28, hT0, hr0, rfl, hgi, -, rfl⟩
          simp only [setG, hgi]
          clear hgi
          refine Sq fun K15 J15 => Rs fun K J => sE rfl (sE rfl (sQ (q_as (v' := .int .i64 ((((ai_ a b c).1).length : Nat) : Int)) (eg_ (e := elRt) sl_43 rfl (SLe.sub (SLfe.sle hF12) (sd (sR (List.sublist_append_left _ _))))) rfl) rfl (sE rfl (nl J ?_))))
          rcases l0 with _ | ⟨x0, l0⟩
          ·skip
           have h39 := kH_ hr0
           refine W_f h39 rfl (bp_ (ay_ (ay_ (aF_ (hK_u29 _ _ (by repeat first | exact .refl | refine .cons rfl ?_) ⟨_, s0, mb28, (by exact hT0.symm.trans (Eq.symm (rfl))), trivial, rfl⟩)))))
          ·skip
           have h40 := iX_ hr0
           have g41 := hc_ hr0
           refine W_t h40 rfl (al_ (J15 _ _ (Sq fun K16 J16 => at_ (Sq fun K17 J17 => Rs fun K J => sE rfl (sE rfl (sQ (q_as (v' := .pointer (some (slb (.slice p9 ((ai_ a b c).1).length c10) (i0 * 36 + 0)))) (cp_ (e := elRt) (l := (ai_ a b c).1) (k := i0) sl_43 rfl rfl (SLe.sub (SLfe.sle hF12) (sd (sR (List.sublist_append_left _ _)))) g41.2.1) rfl) rfl (sQ (q_ldG (e := elRt) (l := (ai_ a b c).1) (k := i0) (o := 0) ty_39 rfl (SLe.sub (SLfe.sle hF12) (sd (sR (List.sublist_append_left _ _)))) g41.1 rfl) rfl (sQ (q_ret en_26 (f0_ x0) rfl) rfl (sE rfl (nl J ?_))))))))))
           rcases bt (decide ((aI_ x0).1 < 0)) with h42 | h42
           ·skip
            refine W_t h42 rfl (Rs fun K J => sE rfl (nl J (W_ret (aj_ (aL_ (aj_ (aj_ (aL_ (aj_ (aj_ (ret1 rfl (.inr rfl) rfl ?_)))))))))))
            exact (by exact congrArg (fun r : Bool => (.bool r : Value)) (show _ = (be_ a b c) from bif_f h8 (bif_f h18 (bif_t h19 (bif_f h27 ((sm_q rfl (hT0.symm.trans (Eq.symm (bif_t h42 rfl))))))))))
           ·skip
            refine W_f h42 rfl (al_ (J17 _ _ (dr sn [0,4,8,12,16,20,25] [6] mix (by kernel_rfl) (fun K J => pQ rfl (qL ty_39 rfl m0 rfl) (pE rfl (pE rfl (pQ rfl (q_as (v' := .pointer (some (slb (.slice p9 ((ai_ a b c).1).length c10) (i0 * 36 + 0)))) (cp_ (e := elRt) (l := (ai_ a b c).1) (k := i0) sl_43 rfl rfl (SLe.sub (SLfe.sle hF12) (sd (sR (List.sublist_append_left _ _)))) g41.2.1) rfl) (pQ rfl (q_ldG (e := elRt) (l := (ai_ a b c).1) (k := i0) (o := 0) ty_39 rfl (SLe.sub (SLfe.sle hF12) (sd (sR (List.sublist_append_left _ _)))) g41.1 rfl) (pQ rfl (q_ret en_27 (cH_ mb28 x0) rfl) (oS [pI ((ak_ mb28 x0).n), pI ((ak_ mb28 x0).d)] ty_39 rfl rfl rfl rfl rfl rfl (.head _) rfl hb28 rfl sn (fl J (J16 _ _ (Rk fun K J => sE rfl (sV (.int .i64 ((i0 + 1 : Nat) : Int)) rfl (congrArg (Value.int .i64) (nxt g41.2.1 hmx0)) (sE rfl (nl J (⟨(by repeat first | exact .refl | refine .cons rfl ?_), _, _, s0, (Nat.lt_succ_self _), i0 + 1, l0, (ak_ mb28 x0), (by exact (hT0.symm.trans (Eq.symm (bif_f h42 rfl))).symm), g41.2.2, rfl, rfl, trivial, rfl⟩)))))))))))))))))
        ·skip
         rintro g M ⟨mb28, hCu29, -, rfl⟩
         simp only [setG]
         refine ds sn [0,4,8,12,16,20,24,28,33,37] [9] mix (by kernel_rfl) (fun K J => pQ rfl (qL ty_23 rfl (List.mem_cons_of_mem _ (List.mem_append_right _ (List.mem_append_right _ (List.mem_cons_of_mem _ (List.mem_cons_self))))) rfl) (pQ rfl (qL ty_41 rfl (List.mem_cons_of_mem _ (List.mem_append_right _ (List.mem_append_right _ (List.mem_cons_self)))) rfl) (pQ rfl (q_ret en_29 (fX_ a c) rfl) (pQ rfl (qL ty_23 rfl (List.mem_cons_of_mem _ (List.mem_append_right _ (List.mem_append_right _ (List.mem_cons_of_mem _ (List.mem_cons_self))))) rfl) (pQ rfl (qL ty_23 rfl (List.mem_cons_of_mem _ (List.mem_append_right _ (List.mem_append_right _ (List.mem_cons_of_mem _ (List.mem_cons_self))))) rfl) (pQ rfl (q_ret en_31 (f5_ a a) rfl) ?_))))))
         obtain ⟨r43, hr43⟩ := nm ((bO_ (bS_ a a)) : Rt)
         refine pC (AV [pI r43.n, pI r43.d]) en_30 (fx_ (bS_ a a)) rfl rfl (by rw [hr43]; first | done | rfl) ?_
         obtain ⟨r44, hr44⟩ := nm ((a8_ (bn_ a c) r43) : Rt)
         refine pC (AV [pI r44.n, pI r44.d]) en_28 (gn_ (bn_ a c) r43) rfl rfl (by rw [hr44]; first | done | rfl) (PL_o rfl rfl (bH_ zp_39 (fun b45 hb45 => ⟨(fun _ => sd s0), sn, oS [pI r44.n, pI r44.d] ty_39 rfl rfl rfl rfl rfl rfl (.head _) rfl hb45 rfl sn (fl J ?_)⟩)))
         refine bP_ [6, 107, 108, 109, 110, 111, 112, 113, 114, 115, 116, 117, 118, 119] (fun g M => (g 6 = .bool (bG_ && ((decide (mb28.n = r44.n) && decide (mb28.d = r44.d)) && (decide ((((aq_ ((av_ a b).1) ((ai_ a b c).1)).x).n) = c.x.n) && (decide ((((aq_ ((av_ a b).1) ((ai_ a b c).1)).x).d) = c.x.d) && (decide ((((aq_ ((av_ a b).1) ((ai_ a b c).1)).y).n) = c.y.n) && (decide ((((aq_ ((av_ a b).1) ((ai_ a b c).1)).y).d) = c.y.d) && (decide ((((aq_ ((av_ a b).1) ((ai_ a b c).1)).z).n) = c.z.n) && decide ((((aq_ ((av_ a b).1) ((ai_ a b c).1)).z).d) = c.z.d))))))))) ∧ M = (⟨b45, 39, flat [pI r44.n, pI r44.d]⟩ :: (⟨b28, 39, flat [pI mb28.n, pI mb28.d]⟩ :: (L22 ++ (L11 ++ (⟨b2, 41, flat [pI c.x.n, pI c.x.d, pI c.y.n, pI c.y.d, pI c.z.n, pI c.z.d]⟩ :: (⟨b1, 23, flat [ci .i64 a.x.1, ci .i64 a.y.1, ci .i64 a.z.1]⟩ :: []))))))) (fun K18 J18 => ?_) ?_
         ·skip
          refine dr sn [0,4,8,12,16,20,24,28,32,36,40,44,48,52] [] mix (by kernel_rfl) (fun K J => pQ rfl (q_ret en_12 ds_  rfl) ?_)
          rcases bt bG_ with h48 | h48
          ·skip
           refine pB h48 rfl (pQ rfl (qL ty_39 rfl m1 rfl) (pQ rfl (qL ty_39 rfl m0 rfl) ?_))
           refine pQ rfl (hm_ (r := (decide (mb28.n = r44.n) && decide (mb28.d = r44.d))) rfl rfl (dY_ 8 (by decide) eg_39 lw_39 (bK_ lv_pI (ef_ lv_pI)) (bK_ lv_pI (ef_ lv_pI)) (cO_ rfl eq_pI (fp_ eq_pI)))) (pE rfl ?_)
           rcases bt (decide (mb28.n = r44.n) && decide (mb28.d = r44.d)) with h49 | h49
           ·skip
            refine pB h49 rfl (pE rfl (pE rfl (pQ rfl (q_as (v' := AV [pI (((aq_ ((av_ a b).1) ((ai_ a b c).1)).x).n), pI (((aq_ ((av_ a b).1) ((ai_ a b c).1)).x).d), pI (((aq_ ((av_ a b).1) ((ai_ a b c).1)).y).n), pI (((aq_ ((av_ a b).1) ((ai_ a b c).1)).y).d), pI (((aq_ ((av_ a b).1) ((ai_ a b c).1)).z).n), pI (((aq_ ((av_ a b).1) ((ai_ a b c).1)).z).d)]) (bU_ en_22 rfl (fun w hw => fl_ _ ((av_ a b).1) _ ((ai_ a b c).1) w (SLe.ap hw (SLe.sub (SLfe.sle hF23) (sd (sd (List.sublist_append_left _ _))))) (SLe.ap hw (SLe.sub (SLfe.sle hF12) (sd (sd (sR (List.sublist_append_left _ _)))))))) rfl) (pQ rfl (qL ty_41 rfl (List.mem_cons_of_mem _ (List.mem_cons_of_mem _ (List.mem_append_right _ (List.mem_append_right _ (List.mem_cons_self))))) rfl) ?_))))
            refine pQ rfl (hm_ (r := (decide ((((aq_ ((av_ a b).1) ((ai_ a b c).1)).x).n) = c.x.n) && (decide ((((aq_ ((av_ a b).1) ((ai_ a b c).1)).x).d) = c.x.d) && (decide ((((aq_ ((av_ a b).1) ((ai_ a b c).1)).y).n) = c.y.n) && (decide ((((aq_ ((av_ a b).1) ((ai_ a b c).1)).y).d) = c.y.d) && (decide ((((aq_ ((av_ a b).1) ((ai_ a b c).1)).z).n) = c.z.n) && decide ((((aq_ ((av_ a b).1) ((ai_ a b c).1)).z).d) = c.z.d))))))) rfl rfl (dY_ 8 (by decide) eg_41 lw_41 (bK_ lv_pI (bK_ lv_pI (bK_ lv_pI (bK_ lv_pI (bK_ lv_pI (ef_ lv_pI)))))) (bK_ lv_pI (bK_ lv_pI (bK_ lv_pI (bK_ lv_pI (bK_ lv_pI (ef_ lv_pI)))))) (cO_ rfl eq_pI (cO_ rfl eq_pI (cO_ rfl eq_pI (cO_ rfl eq_pI (cO_ rfl eq_pI (fp_ eq_pI)))))))) (pE rfl (pE rfl (fl J ?_)))
            refine J18 _ _ (by repeat first | exact .refl | refine .cons rfl ?_) ⟨_, s0, ?s6, rfl⟩
            case s6 => exact congrArg Value.bool (and_t h48 (and_t h49 rfl))
           ·skip
            refine pB h49 rfl (PL_n rfl rfl (PL_n rfl rfl (PL_n rfl rfl (PL_n rfl rfl (PL_n rfl rfl (pE rfl (pE rfl (fl J ?_))))))))
            refine J18 _ _ (by repeat first | exact .refl | refine .cons rfl ?_) ⟨_, s0, ?s6, rfl⟩
            case s6 => exact congrArg Value.bool (and_t h48 (and_f h49))
          ·skip
           refine pB h48 rfl (PL_n rfl rfl (PL_n rfl rfl (PL_n rfl rfl (pE rfl (pE rfl (PL_n rfl rfl (PL_n rfl rfl (PL_n rfl rfl (PL_n rfl rfl (PL_n rfl rfl (pE rfl (pE rfl (fl J ?_)))))))))))))
           refine J18 _ _ (by repeat first | exact .refl | refine .cons rfl ?_) ⟨_, s0, ?s6, rfl⟩
           case s6 => exact congrArg Value.bool (and_f h48)
         ·skip
          rintro g50 M ⟨hg6, rfl⟩
          simp only [setG, hg6]
          clear hg6
          refine W_ret (ret1 rfl (.inr rfl) rfl ?_)
          exact (by subst hr44; subst hr43; exact congrArg (fun r : Bool => (.bool r : Value)) (show _ = (be_ a b c) from bif_f h8 (bif_f h18 (bif_t h19 (bif_f h27 (trs (Eq.symm (smS hCu29)) rfl))))))
     ·skip
      refine W_t (not_t h19) rfl ?_
      refine bP_ [6, 59, 60, 61, 62, 63, 64] (fun g M => (g 6 = .bool (bG_ && (((((ai_ a b c).1).length : Nat) : Int) == 0))) ∧ M = (L11 ++ (⟨b2, 41, flat [pI c.x.n, pI c.x.d, pI c.y.n, pI c.y.d, pI c.z.n, pI c.z.d]⟩ :: (⟨b1, 23, flat [ci .i64 a.x.1, ci .i64 a.y.1, ci .i64 a.z.1]⟩ :: [])))) (fun K19 J19 => ?_) ?_
      ·skip
       refine Rk fun K J => sQ (q_ret en_12 ds_  rfl) rfl ?_
       rcases bt bG_ with h52 | h52
       ·skip
        refine sB h52 rfl (sE rfl (sQ (q_as (v' := .int .i64 ((((ai_ a b c).1).length : Nat) : Int)) (eg_ (e := elRt) sl_43 rfl (SLe.sub (SLfe.sle hF12) (List.sublist_append_left _ _))) rfl) rfl (sE rfl (sE rfl (sE rfl (nl J ?_))))))
        refine J19 _ _ (by repeat first | exact .refl | refine .cons rfl ?_) ⟨_, s0, ?s6, rfl⟩
        case s6 => exact congrArg Value.bool (and_t h52 rfl)
       ·skip
        refine sB h52 rfl (WL_n rfl (WL_n rfl (WL_n rfl (sE rfl (sE rfl (nl J ?_))))))
        refine J19 _ _ (by repeat first | exact .refl | refine .cons rfl ?_) ⟨_, s0, ?s6, rfl⟩
        case s6 => exact congrArg Value.bool (and_f h52)
      ·skip
       rintro g53 M ⟨hg6, rfl⟩
       simp only [setG, hg6]
       clear hg6
       refine W_ret (aj_ (ret1 rfl (.inr rfl) rfl ?_))
       exact (by exact congrArg (fun r : Bool => (.bool r : Value)) (show _ = (be_ a b c) from bif_f h8 (bif_f h18 (bif_f h19 rfl))))
end Go.Proofs.YtapbefpeopaecaaGreatDoor

