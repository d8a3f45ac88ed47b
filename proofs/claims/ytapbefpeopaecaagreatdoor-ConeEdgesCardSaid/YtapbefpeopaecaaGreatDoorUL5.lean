/- Walks: what these functions return. What these functions compute, as plain functions. No program stands in it. -/
import Derived.Test.YtapbefpeopaecaaGreatDoorUGE
import Derived.Test.YtapbefpeopaecaaGreatDoorUCa
import Derived.Test.YtapbefpeopaecaaGreatDoorURa
import Derived.Test.YtapbefpeopaecaaGreatDoorUGa
import Derived.Test.YtapbefpeopaecaaGreatDoorULa
import Derived.Test.YtapbefpeopaecaaGreatDoorUFGc
namespace Go.Proofs.YtapbefpeopaecaaGreatDoor
open Go.Kn Go.Num
set_option linter.unusedVariables false
set_option linter.unusedSimpArgs false
set_option maxRecDepth 20000
set_option maxHeartbeats 8000000
theorem hQ_ (a : (A3 W)) (b : W) (c : (A4 U16)) :
    Ret Tryz.prog 7 [AV [ci .i64 a.x.1, ci .i64 a.y.1, ci .i64 a.z.1], .int .i64 b.1, AV [ci .u16 c.x.1, ci .u16 c.y.1, ci .u16 c.z.1, ci .u16 c.t.1]] (.bool (bE_ a b c)) := by
 refine aB_ (N := 137) Tryz.func7 rfl rfl (by simp) (fun w0 => ?_)
 simp only [initF, Nat.reduceAdd]
 refine Rs fun K J => WL_r rfl (bd_ rfl rfl (fun b1 hb1 => WL_r rfl (bd_ rfl rfl (fun b2 hb2 => sE rfl (nl J (Rs fun K J => sQ (qL ty_23 rfl m1 rfl) rfl (sE rfl (sQ (q_ret en_23 (fg_ a b) rfl) rfl (sE rfl (nl J (Sq fun K1 J1 => Rs fun K J => sE rfl (nl J (as_ (W_un 5 (Un_s (fun K2 J2 => Sq fun K3 J3 => Rs fun K J => ?_))))))))))))))))
 refine sE rfl (sV (.bool true) rfl rfl (nl J (bx_ rfl (am_ (J3 _ _ ?_)))))
 refine bM_ [7, 23, 24, 25, 26, 27, 28, 29, 30, 31, 32, 33, 34, 35] (fun g M => (g 7 = .bool ((au_ a b) && (decide (a.x.1 ≤ 1024) && decide ((-1024) ≤ a.x.1)))) ∧ M = [⟨b2, 61, flat [ci .u16 c.x.1, ci .u16 c.y.1, ci .u16 c.z.1, ci .u16 c.t.1]⟩, ⟨b1, 23, flat [ci .i64 a.x.1, ci .i64 a.y.1, ci .i64 a.z.1]⟩]) (fun K5 J5 => ?_) ?_
 ·skip
  refine as_ (Rk fun K J => sE rfl ?_)
  rcases bt (au_ a b) with h5 | h5
  ·skip
   refine sB h5 rfl (sE rfl (sQ (qA ar_23 rfl rfl rfl) rfl (sQ (qC ty_3 rfl m1 rfl) rfl (sE rfl (sE rfl ?_)))))
   rcases bt (decide (a.x.1 ≤ 1024)) with h6 | h6
   ·skip
    have ph6 := of_decide_eq_true h6
    refine sB h6 rfl (sE rfl (sQ (qA ar_23 rfl rfl rfl) rfl (sQ (qC ty_3 rfl m1 rfl) rfl (sE rfl (sE rfl (sE rfl (nl J ?_)))))))
    refine J5 _ _ (by repeat first | exact .refl | refine .cons rfl ?_) ⟨_, s0, ?s7, rfl⟩
    case s7 => exact congrArg Value.bool (and_t h5 (and_t h6 rfl))
   ·skip
    have ph6 := of_decide_eq_false h6
    refine sB h6 rfl (WL_n rfl (WL_n rfl (WL_n rfl (WL_n rfl (sE rfl (sE rfl (nl J ?_)))))))
    refine J5 _ _ (by repeat first | exact .refl | refine .cons rfl ?_) ⟨_, s0, ?s7, rfl⟩
    case s7 => exact congrArg Value.bool (and_t h5 (and_f h6))
  ·skip
   refine sB h5 rfl (WL_n rfl (WL_n rfl (WL_n rfl (WL_n rfl (sE rfl (sE rfl (WL_n rfl (WL_n rfl (WL_n rfl (WL_n rfl (sE rfl (sE rfl (nl J ?_)))))))))))))
   refine J5 _ _ (by repeat first | exact .refl | refine .cons rfl ?_) ⟨_, s0, ?s7, rfl⟩
   case s7 => exact congrArg Value.bool (and_f h5)
 ·skip
  rintro g7 M ⟨hg7, rfl⟩
  simp only [setG, hg7]
  clear hg7
  refine Rk fun K J => sE rfl (sV (.int .i64 1) rfl rfl (sE rfl (nl J (J2 _ _ (Un_s (fun K6 J6 => Sq fun K7 J7 => Rs fun K J => sE rfl (sV (.bool true) rfl rfl (nl J (bx_ rfl (am_ (J7 _ _ ?_)))))))))))
  refine bM_ [7, 23, 24, 25, 26, 27, 28, 29, 30, 31, 32, 33, 34, 35] (fun g M => (g 7 = .bool (((au_ a b) && (decide (a.x.1 ≤ 1024) && decide ((-1024) ≤ a.x.1))) && (decide (a.y.1 ≤ 1024) && decide ((-1024) ≤ a.y.1)))) ∧ M = [⟨b2, 61, flat [ci .u16 c.x.1, ci .u16 c.y.1, ci .u16 c.z.1, ci .u16 c.t.1]⟩, ⟨b1, 23, flat [ci .i64 a.x.1, ci .i64 a.y.1, ci .i64 a.z.1]⟩]) (fun K9 J9 => ?_) ?_
  ·skip
   refine as_ (Rk fun K J => sE rfl ?_)
   rcases bt ((au_ a b) && (decide (a.x.1 ≤ 1024) && decide ((-1024) ≤ a.x.1))) with h10 | h10
   ·skip
    refine sB h10 rfl (sE rfl (sQ (qA ar_23 rfl rfl rfl) rfl (sQ (qC ty_3 rfl m1 rfl) rfl (sE rfl (sE rfl ?_)))))
    rcases bt (decide (a.y.1 ≤ 1024)) with h11 | h11
    ·skip
     have ph11 := of_decide_eq_true h11
     refine sB h11 rfl (sE rfl (sQ (qA ar_23 rfl rfl rfl) rfl (sQ (qC ty_3 rfl m1 rfl) rfl (sE rfl (sE rfl (sE rfl (nl J ?_)))))))
     refine J9 _ _ (by repeat first | exact .refl | refine .cons rfl ?_) ⟨_, s0, ?s7, rfl⟩
     case s7 => exact congrArg Value.bool (and_t h10 (and_t h11 rfl))
    ·skip
     have ph11 := of_decide_eq_false h11
     refine sB h11 rfl (WL_n rfl (WL_n rfl (WL_n rfl (WL_n rfl (sE rfl (sE rfl (nl J ?_)))))))
     refine J9 _ _ (by repeat first | exact .refl | refine .cons rfl ?_) ⟨_, s0, ?s7, rfl⟩
     case s7 => exact congrArg Value.bool (and_t h10 (and_f h11))
   ·skip
    refine sB h10 rfl (WL_n rfl (WL_n rfl (WL_n rfl (WL_n rfl (sE rfl (sE rfl (WL_n rfl (WL_n rfl (WL_n rfl (WL_n rfl (sE rfl (sE rfl (nl J ?_)))))))))))))
    refine J9 _ _ (by repeat first | exact .refl | refine .cons rfl ?_) ⟨_, s0, ?s7, rfl⟩
    case s7 => exact congrArg Value.bool (and_f h10)
  ·skip
   rintro g12 M ⟨hg7, rfl⟩
   simp only [setG, hg7]
   clear hg7
   refine Rk fun K J => sE rfl (sV (.int .i64 2) rfl rfl (sE rfl (nl J (J6 _ _ (Un_s (fun K10 J10 => Sq fun K11 J11 => Rs fun K J => sE rfl (sV (.bool true) rfl rfl (nl J (bx_ rfl (am_ (J11 _ _ ?_)))))))))))
   refine bM_ [7, 23, 24, 25, 26, 27, 28, 29, 30, 31, 32, 33, 34, 35] (fun g M => (g 7 = .bool ((((au_ a b) && (decide (a.x.1 ≤ 1024) && decide ((-1024) ≤ a.x.1))) && (decide (a.y.1 ≤ 1024) && decide ((-1024) ≤ a.y.1))) && (decide (a.z.1 ≤ 1024) && decide ((-1024) ≤ a.z.1)))) ∧ M = [⟨b2, 61, flat [ci .u16 c.x.1, ci .u16 c.y.1, ci .u16 c.z.1, ci .u16 c.t.1]⟩, ⟨b1, 23, flat [ci .i64 a.x.1, ci .i64 a.y.1, ci .i64 a.z.1]⟩]) (fun K13 J13 => ?_) ?_
   ·skip
    refine as_ (Rk fun K J => sE rfl ?_)
    rcases bt (((au_ a b) && (decide (a.x.1 ≤ 1024) && decide ((-1024) ≤ a.x.1))) && (decide (a.y.1 ≤ 1024) && decide ((-1024) ≤ a.y.1))) with h15 | h15
    ·skip
     refine sB h15 rfl (sE rfl (sQ (qA ar_23 rfl rfl rfl) rfl (sQ (qC ty_3 rfl m1 rfl) rfl (sE rfl (sE rfl ?_)))))
     rcases bt (decide (a.z.1 ≤ 1024)) with h16 | h16
     ·skip
      have ph16 := of_decide_eq_true h16
      refine sB h16 rfl (sE rfl (sQ (qA ar_23 rfl rfl rfl) rfl (sQ (qC ty_3 rfl m1 rfl) rfl (sE rfl (sE rfl (sE rfl (nl J ?_)))))))
      refine J13 _ _ (by repeat first | exact .refl | refine .cons rfl ?_) ⟨_, s0, ?s7, rfl⟩
      case s7 => exact congrArg Value.bool (and_t h15 (and_t h16 rfl))
     ·skip
      have ph16 := of_decide_eq_false h16
      refine sB h16 rfl (WL_n rfl (WL_n rfl (WL_n rfl (WL_n rfl (sE rfl (sE rfl (nl J ?_)))))))
      refine J13 _ _ (by repeat first | exact .refl | refine .cons rfl ?_) ⟨_, s0, ?s7, rfl⟩
      case s7 => exact congrArg Value.bool (and_t h15 (and_f h16))
    ·skip
     refine sB h15 rfl (WL_n rfl (WL_n rfl (WL_n rfl (WL_n rfl (sE rfl (sE rfl (WL_n rfl (WL_n rfl (WL_n rfl (WL_n rfl (sE rfl (sE rfl (nl J ?_)))))))))))))
     refine J13 _ _ (by repeat first | exact .refl | refine .cons rfl ?_) ⟨_, s0, ?s7, rfl⟩
     case s7 => exact congrArg Value.bool (and_f h15)
   ·skip
    rintro g17 M ⟨hg7, rfl⟩
    simp only [setG, hg7]
    clear hg7
    refine Rk fun K J => sE rfl (sV (.int .i64 3) rfl rfl (sE rfl (nl J (J10 _ _ (Un_s (fun K14 J14 => Sq fun K15 J15 => Rs fun K J => sE rfl (sV (.bool false) rfl rfl (nl J (bu_ rfl (bq_ (ax_ (ax_ (aE_ (J1 _ _ (Sq fun K16 J16 => Rs fun K J => sE rfl (sE rfl (nl J ?_)))))))))))))))))
    rcases bt ((((au_ a b) && (decide (a.x.1 ≤ 1024) && decide ((-1024) ≤ a.x.1))) && (decide (a.y.1 ≤ 1024) && decide ((-1024) ≤ a.y.1))) && (decide (a.z.1 ≤ 1024) && decide ((-1024) ≤ a.z.1))) with h18 | h18
    ·skip
     refine W_f (not_f h18) rfl (am_ (J16 _ _ (Rs fun K J => sQ (qL ty_23 rfl m1 rfl) rfl (sE rfl (WL_r rfl (ff_ (e := elVr) (l := (an_ a b).1) (fun v => .tuple #[v, .int .i64 (((an_ a b).2).1)]) en_10 rfl (fun w hw => d4_ a b w) (fun p19 c20 L21 hF22 => sE rfl (sE rfl (sE rfl (sE rfl (sE rfl (nl J (Sq fun K17 J17 => ?_)))))))))))))
     refine bM_ [45, 46, 47, 48, 49, 50, 51] (fun g M => (g 51 = .bool ((((an_ a b).2).1 != 0) || (((((an_ a b).1).length : Nat) : Int) == 0))) ∧ M = (L21 ++ (⟨b2, 61, flat [ci .u16 c.x.1, ci .u16 c.y.1, ci .u16 c.z.1, ci .u16 c.t.1]⟩ :: (⟨b1, 23, flat [ci .i64 a.x.1, ci .i64 a.y.1, ci .i64 a.z.1]⟩ :: [])))) (fun K18 J18 => ?_) ?_
     ·skip
      refine Rk fun K J => sE rfl (sE rfl ?_)
      rcases bt (((an_ a b).2).1 != 0) with h24 | h24
      ·skip
       refine sB h24 rfl (WL_n rfl (WL_n rfl (WL_n rfl (sE rfl (nl J ?_)))))
       refine J18 _ _ (by repeat first | exact .refl | refine .cons rfl ?_) ⟨_, s0, ?s51, rfl⟩
       case s51 => exact congrArg Value.bool (or_t h24)
      ·skip
       refine sB h24 rfl (sE rfl (sQ (q_as (v' := .int .i64 ((((an_ a b).1).length : Nat) : Int)) (eH_ (e := elVr) sl_24 rfl (SLe.sub (SLfe.sle hF22) (List.sublist_append_left _ _))) rfl) rfl (sE rfl (sE rfl (nl J ?_)))))
       refine J18 _ _ (by repeat first | exact .refl | refine .cons rfl ?_) ⟨_, s0, ?s51, rfl⟩
       case s51 => exact congrArg Value.bool (or_f h24 rfl)
     ·skip
      rintro g25 M ⟨hg51, rfl⟩
      simp only [setG, hg51]
      clear hg51
      rcases bt ((((an_ a b).2).1 != 0) || (((((an_ a b).1).length : Nat) : Int) == 0)) with h26 | h26
      ·skip
       refine W_t h26 rfl (Rs fun K J => sE rfl (nl J (W_ret (ah_ (ret1 rfl (.inr rfl) rfl ?_)))))
       exact (by exact congrArg (fun r : Bool => (.bool r : Value)) (show _ = (bE_ a b c) from bif_t h18 (bif_t h26 rfl)))
      ·skip
       have ph27 := rx_ (Bool.or_eq_false_iff.1 h26).2
       refine W_f h26 rfl (am_ (J17 _ _ (Rs fun K J => sQ (b4_ zp_23 ar_23 rfl (.nil _)) rfl ?_)))
       obtain ⟨r28, hr28⟩ := nm ((aj_ (⟨(wl 0), (wl 0), (wl 0)⟩ : (A3 W))) : (A3 Rt))
       refine sC (AV [pI r28.x.n, pI r28.x.d, pI r28.y.n, pI r28.y.d, pI r28.z.n, pI r28.z.d]) en_32 (d0_ (⟨(wl 0), (wl 0), (wl 0)⟩ : (A3 W))) rfl rfl (by rw [hr28]; first | done | rfl) ?_
       refine sN zp_41 rfl fun b29 hb29 => sS [pI r28.x.n, pI r28.x.d, pI r28.y.n, pI r28.y.d, pI r28.z.n, pI r28.z.d] ty_41 rfl rfl rfl rfl rfl (.head _) rfl hb29 (nl J (Sq fun K19 J19 => Rs fun K J => ?_))
       have hmx := SLfe.max hF22
       refine sE rfl (nl J ?_)
       refine gY_ (fun S M h => J19 S M h) [6, 12, 54, 55, 56, 57, 58, 59, 60, 61, 62, 63, 64, 65, 66, 67, 68, 69, 70, 71, 72, 73, 74, 75, 76, 77, 78, 79, 80, 81, 82, 83, 84, 85, 86, 87, 88, 89, 90] (fun g M => ∃ (i : Nat) (mb29 : (A3 Rt)), (a0_ a b c r28 ((((an_ a b).1).length + 1)) 0 r28) = .inl (i, mb29) ∧ (g 12 = .int .i64 ((i : Nat) : Int)) ∧ M = (⟨b29, 41, flat [pI mb29.x.n, pI mb29.x.d, pI mb29.y.n, pI mb29.y.d, pI mb29.z.n, pI mb29.z.d]⟩ :: (L21 ++ (⟨b2, 61, flat [ci .u16 c.x.1, ci .u16 c.y.1, ci .u16 c.z.1, ci .u16 c.t.1]⟩ :: (⟨b1, 23, flat [ci .i64 a.x.1, ci .i64 a.y.1, ci .i64 a.z.1]⟩ :: []))))) (fun K_u30 hK_u30 => ?_) ?_
       ·skip
        refine as_ ?_
        refine bs_ [6, 12, 54, 55, 56, 57, 58, 59, 60, 61, 62, 63, 64, 65, 66, 67, 68, 69, 70, 71, 72, 73, 74, 75, 76, 77, 78, 79, 80, 81, 82, 83, 84, 85, 86, 87, 88, 89, 90] (fun g nn M => ∃ (i : Nat) (mb29 : (A3 Rt)), (a0_ a b c r28 nn i mb29) = (a0_ a b c r28 ((((an_ a b).1).length + 1)) 0 r28) ∧ ((an_ a b).1).length - i < nn ∧ (i ≤ ((an_ a b).1).length) ∧ (g 12 = .int .i64 ((i : Nat) : Int)) ∧ M = (⟨b29, 41, flat [pI mb29.x.n, pI mb29.x.d, pI mb29.y.n, pI mb29.y.d, pI mb29.z.n, pI mb29.z.d]⟩ :: (L21 ++ (⟨b2, 61, flat [ci .u16 c.x.1, ci .u16 c.y.1, ci .u16 c.z.1, ci .u16 c.t.1]⟩ :: (⟨b1, 23, flat [ci .i64 a.x.1, ci .i64 a.y.1, ci .i64 a.z.1]⟩ :: []))))) ((((an_ a b).1).length + 1)) ?start ?round
        case start => exact ⟨_, s0, 0, r28, rfl, (by omega), (by omega), rfl, rfl⟩
        case round =>
         rintro nn g M ⟨i, mb29, hT0, hq0, hinv0, hg12, rfl⟩
         obtain ⟨k0, rfl⟩ : ∃ m, nn = m + 1 := ⟨nn - 1, by omega⟩
         simp only [setG, hg12]
         clear hg12
         refine Sq fun K28 J28 => Rs fun K J => sE rfl (sE rfl (sQ (q_as (v' := .int .i64 ((((an_ a b).1).length : Nat) : Int)) (eH_ (e := elVr) sl_24 rfl (SLe.sub (SLfe.sle hF22) (sd (List.sublist_append_left _ _)))) rfl) rfl (sE rfl (nl J ?_))))
         rcases bt (decide (((i : Nat) : Int) < ((((an_ a b).1).length : Nat) : Int))) with h47 | h47
         ·skip
          have ph47 := of_decide_eq_true h47
          refine W_t h47 rfl (am_ (J28 _ _ (Sq fun K29 J29 => as_ (Sq fun K30 J30 => ?_))))
          refine bM_ [60, 61, 62, 63, 64, 65, 66, 67, 68, 69, 70, 71, 72, 73, 74, 75, 76, 77] (fun g M => (g 77 = .bool (!(bn_ a b (((an_ a b).1).getD i V0)) || (!(a4_ a b (((an_ a b).1).getD i V0))))) ∧ M = (⟨b29, 41, flat [pI mb29.x.n, pI mb29.x.d, pI mb29.y.n, pI mb29.y.d, pI mb29.z.n, pI mb29.z.d]⟩ :: (L21 ++ (⟨b2, 61, flat [ci .u16 c.x.1, ci .u16 c.y.1, ci .u16 c.z.1, ci .u16 c.t.1]⟩ :: (⟨b1, 23, flat [ci .i64 a.x.1, ci .i64 a.y.1, ci .i64 a.z.1]⟩ :: []))))) (fun K31 J31 => ?_) ?_
          ·skip
           refine dr sn [0,4,8,12,16,20,24,28,32,36,40,44,48,52,56,60,64,68] [] mix (by kernel_rfl) (fun K J => pQ rfl (qL ty_23 rfl (List.mem_cons_of_mem _ (List.mem_append_right _ (List.mem_cons_of_mem _ (List.mem_cons_self)))) rfl) (pE rfl (pE rfl (pE rfl (pQ rfl (q_as (v' := .pointer (some (slb (.slice p19 ((an_ a b).1).length c20) (i * 108 + 0)))) (ce_ (e := elVr) (l := (an_ a b).1) (k := i) sl_24 rfl rfl (SLe.sub (SLfe.sle hF22) (sd (List.sublist_append_left _ _))) (by omega)) rfl) (pQ rfl (q_ldG (e := elVr) (l := (an_ a b).1) (k := i) (o := 0) ty_41 rfl (SLe.sub (SLfe.sle hF22) (sd (List.sublist_append_left _ _))) (bF_ V0 (by omega)) rfl) (pQ rfl (q_ret en_19 (dJ_ a b (((an_ a b).1).getD i V0)) rfl) (pE rfl ?_))))))))
           rcases bt (bn_ a b (((an_ a b).1).getD i V0)) with h49 | h49
           ·skip
            refine pB (not_f h49) rfl (pQ rfl (qL ty_23 rfl (List.mem_cons_of_mem _ (List.mem_append_right _ (List.mem_cons_of_mem _ (List.mem_cons_self)))) rfl) (pE rfl (pE rfl (pE rfl (pQ rfl (q_as (v' := .pointer (some (slb (.slice p19 ((an_ a b).1).length c20) (i * 108 + 0)))) (ce_ (e := elVr) (l := (an_ a b).1) (k := i) sl_24 rfl rfl (SLe.sub (SLfe.sle hF22) (sd (List.sublist_append_left _ _))) (by omega)) rfl) (pQ rfl (q_ldG (e := elVr) (l := (an_ a b).1) (k := i) (o := 0) ty_41 rfl (SLe.sub (SLfe.sle hF22) (sd (List.sublist_append_left _ _))) (bF_ V0 (by omega)) rfl) (pQ rfl (q_ret en_17 (c2_ a b (((an_ a b).1).getD i V0)) rfl) (pE rfl (pE rfl (fl J ?_))))))))))
            refine J31 _ _ (by repeat first | exact .refl | refine .cons rfl ?_) ⟨_, s0, ?s77, rfl⟩
            case s77 => exact congrArg Value.bool (nor_t h49 rfl)
           ·skip
            refine pB (not_t h49) rfl (PL_n rfl rfl (PL_n rfl rfl (PL_n rfl rfl (PL_n rfl rfl (PL_n rfl rfl (PL_n rfl rfl (PL_n rfl rfl (PL_n rfl rfl (pE rfl (fl J ?_))))))))))
            refine J31 _ _ (by repeat first | exact .refl | refine .cons rfl ?_) ⟨_, s0, ?s77, rfl⟩
            case s77 => exact congrArg Value.bool (nor_f h49)
          ·skip
           rintro g50 M ⟨hg77, rfl⟩
           simp only [setG, hg77]
           clear hg77
           rcases bt (!(bn_ a b (((an_ a b).1).getD i V0)) || (!(a4_ a b (((an_ a b).1).getD i V0)))) with h51 | h51
           ·skip
            refine W_t h51 rfl (Rs fun K J => sE rfl (nl J (W_ret (ah_ (aM_ (ah_ (ah_ (aM_ (ah_ (ah_ (ret1 rfl (.inr rfl) rfl ?_)))))))))))
            exact (by subst hr28; exact congrArg (fun r : Bool => (.bool r : Value)) (show _ = (bE_ a b c) from bif_t h18 (bif_f h26 ((sm_q rfl (hT0.symm.trans (Eq.symm (bif_t h47 (bif_t h51 rfl)))))))))
           ·skip
            refine W_f h51 rfl (am_ (J30 _ _ (dr sn [0,4,8,12,16,20,24,28,32,36,40,44,48,53] [13] mix (by kernel_rfl) (fun K J => pQ rfl (qL ty_41 rfl m0 rfl) (pE rfl (pQ rfl (q_as (v' := .int .i64 (((i % 4) : Nat) : Int)) (q_rem rfl rfl (by decide)) (nrem i 4)) (pQ rfl (q_as (v' := .pointer (some (slb (.slice (some ⟨b2, 0, none⟩) 4 4) ((i % 4) * 1 + 0)))) (bt_ ar_61 rfl rfl (by omega) (by omega)) (qc_ _ _ _ _)) (pQ rfl (pz_ (u := .int .u16 (([c.x, c.y, c.z, c.t].getD (i % 4) u160).1)) (e := elU16) (l := [c.x, c.y, c.z, c.t]) (k := (i % 4)) (o := 0) ty_60 rfl (SLe.lit (e := elU16) (l := [c.x, c.y, c.z, c.t]) (List.mem_cons_of_mem _ (List.mem_append_right _ (List.mem_cons_self))) rfl (Nat.le_of_ble_eq_true rfl) rfl) (bF_ u160 (Nat.mod_lt _ (by decide))) rfl) (pQ rfl (q_as (v' := .int .i64 ((W.cv (([c.x, c.y, c.z, c.t].getD (i % 4) u160).1)).1)) (bj_ in_60 in_3 rfl) rfl) ?_)))))))))
            obtain ⟨r52, hr52⟩ := nm ((af_ (W.cv (([c.x, c.y, c.z, c.t].getD (i % 4) u160).1))) : Rt)
            refine pC (AV [pI r52.n, pI r52.d]) en_25 (cU_ (W.cv (([c.x, c.y, c.z, c.t].getD (i % 4) u160).1))) rfl rfl (by rw [hr52]; first | done | rfl) (pE rfl (pE rfl (pQ rfl (q_as (v' := .pointer (some (slb (.slice p19 ((an_ a b).1).length c20) (i * 108 + 0)))) (ce_ (e := elVr) (l := (an_ a b).1) (k := i) sl_24 rfl rfl (SLe.sub (SLfe.sle hF22) (sd (List.sublist_append_left _ _))) (by omega)) rfl) (pQ rfl (q_ldG (e := elVr) (l := (an_ a b).1) (k := i) (o := 0) ty_41 rfl (SLe.sub (SLfe.sle hF22) (sd (List.sublist_append_left _ _))) (bF_ V0 (by omega)) rfl) ?_))))
            obtain ⟨r53, hr53⟩ := nm ((aG_ r52 (((an_ a b).1).getD i V0)) : (A3 Rt))
            refine pC (AV [pI r53.x.n, pI r53.x.d, pI r53.y.n, pI r53.y.d, pI r53.z.n, pI r53.z.d]) en_34 (fw_ r52 (((an_ a b).1).getD i V0)) rfl rfl (by rw [hr53]; first | done | rfl) ?_
            obtain ⟨r54, hr54⟩ := nm ((aQ_ mb29 r53) : (A3 Rt))
            refine pC (AV [pI r54.x.n, pI r54.x.d, pI r54.y.n, pI r54.y.d, pI r54.z.n, pI r54.z.d]) en_33 (fK_ mb29 r53) rfl rfl (by rw [hr54]; first | done | rfl) (oS [pI r54.x.n, pI r54.x.d, pI r54.y.n, pI r54.y.d, pI r54.z.n, pI r54.z.d] ty_41 rfl rfl rfl rfl rfl rfl (.head _) rfl hb29 rfl sn (fl J (J29 _ _ (Rk fun K J => sE rfl (sV (.int .i64 ((i + 1 : Nat) : Int)) rfl (congrArg (Value.int .i64) (wx (by omega) (by omega) (by omega))) (sE rfl (nl J (⟨(by repeat first | exact .refl | refine .cons rfl ?_), _, _, s0, (Nat.lt_succ_self _), i + 1, r54, (by subst hr54; subst hr53; subst hr52; exact (hT0.symm.trans (Eq.symm (bif_t h47 (bif_f h51 rfl)))).symm), (Nat.lt_of_lt_of_le (by omega) (Nat.le_of_lt_succ hq0)), (by omega), rfl, rfl⟩))))))))
         ·skip
          have ph47 := of_decide_eq_false h47
          refine W_f h47 rfl (bq_ (ax_ (ax_ (aE_ (hK_u30 _ _ (by repeat first | exact .refl | refine .cons rfl ?_) ⟨_, s0, i, mb29, (by exact hT0.symm.trans (Eq.symm (bif_f h47 rfl))), rfl, rfl⟩)))))
       ·skip
        rintro g M ⟨i, mb29, hCu30, hg12, rfl⟩
        simp only [setG, hg12]
        clear hg12
        refine Rs fun K J => sQ (qL ty_23 rfl (List.mem_cons_of_mem _ (List.mem_append_right _ (List.mem_cons_of_mem _ (List.mem_cons_self)))) rfl) rfl ?_
        obtain ⟨r55, hr55⟩ := nm ((aj_ a) : (A3 Rt))
        refine sC (AV [pI r55.x.n, pI r55.x.d, pI r55.y.n, pI r55.y.d, pI r55.z.n, pI r55.z.d]) en_32 (d0_ a) rfl rfl (by rw [hr55]; first | done | rfl) (sN zp_41 rfl fun b56 hb56 => sS [pI r55.x.n, pI r55.x.d, pI r55.y.n, pI r55.y.d, pI r55.z.n, pI r55.z.d] ty_41 rfl rfl rfl rfl rfl (.head _) rfl hb56 (nl J (ds sn [0,4,8,12,17,21] [5] mix (by kernel_rfl) (fun K J => pQ rfl (b4_ zp_23 ar_23 rfl (.nil _)) ?_))))
        obtain ⟨r57, hr57⟩ := nm ((aj_ (⟨(wl 0), (wl 0), (wl 0)⟩ : (A3 W))) : (A3 Rt))
        refine pC (AV [pI r57.x.n, pI r57.x.d, pI r57.y.n, pI r57.y.d, pI r57.z.n, pI r57.z.d]) en_32 (d0_ (⟨(wl 0), (wl 0), (wl 0)⟩ : (A3 W))) rfl rfl (by rw [hr57]; first | done | rfl) ?_
        refine pQ rfl (qL ty_41 rfl m0 rfl) ?_
        obtain ⟨r58, hr58⟩ := nm ((aP_ r57 r55) : (A3 Rt))
        refine pC (AV [pI r58.x.n, pI r58.x.d, pI r58.y.n, pI r58.y.d, pI r58.z.n, pI r58.z.d]) en_35 (fz_ r57 r55) rfl rfl (by rw [hr58]; first | done | rfl) (PL_o rfl rfl (bv_ zp_41 (fun b59 hb59 => ⟨(fun _ => sd s0), sn, oS [pI r58.x.n, pI r58.x.d, pI r58.y.n, pI r58.y.d, pI r58.z.n, pI r58.z.d] ty_41 rfl rfl rfl rfl rfl rfl (.head _) rfl hb59 rfl sn (fl J ?_)⟩)))
        refine bM_ [15, 97, 98, 99, 100, 101, 102, 103, 104, 105, 106, 107, 108, 109, 110, 111, 112, 113, 114, 115, 116, 117, 118, 119, 120] (fun g M => (g 15 = .bool ((bn_ a b r55) && ((a4_ a b r55) && (!(bn_ a b r58) && (!(a4_ a b r58)))))) ∧ M = (⟨b59, 41, flat [pI r58.x.n, pI r58.x.d, pI r58.y.n, pI r58.y.d, pI r58.z.n, pI r58.z.d]⟩ :: (⟨b56, 41, flat [pI r55.x.n, pI r55.x.d, pI r55.y.n, pI r55.y.d, pI r55.z.n, pI r55.z.d]⟩ :: (⟨b29, 41, flat [pI mb29.x.n, pI mb29.x.d, pI mb29.y.n, pI mb29.y.d, pI mb29.z.n, pI mb29.z.d]⟩ :: (L21 ++ (⟨b2, 61, flat [ci .u16 c.x.1, ci .u16 c.y.1, ci .u16 c.z.1, ci .u16 c.t.1]⟩ :: (⟨b1, 23, flat [ci .i64 a.x.1, ci .i64 a.y.1, ci .i64 a.z.1]⟩ :: []))))))) (fun K32 J32 => ?_) ?_
        ·skip
         refine Rk fun K J => sQ (qL ty_23 rfl (List.mem_cons_of_mem _ (List.mem_cons_of_mem _ (List.mem_cons_of_mem _ (List.mem_append_right _ (List.mem_cons_of_mem _ (List.mem_cons_self)))))) rfl) rfl (sE rfl (sQ (qL ty_41 rfl m1 rfl) rfl (sQ (q_ret en_19 (dJ_ a b r55) rfl) rfl ?_)))
         rcases bt (bn_ a b r55) with h63 | h63
         ·skip
          refine sB h63 rfl (sQ (qL ty_23 rfl (List.mem_cons_of_mem _ (List.mem_cons_of_mem _ (List.mem_cons_of_mem _ (List.mem_append_right _ (List.mem_cons_of_mem _ (List.mem_cons_self)))))) rfl) rfl (sE rfl (sQ (qL ty_41 rfl m1 rfl) rfl (sQ (q_ret en_17 (c2_ a b r55) rfl) rfl (sE rfl ?_)))))
          rcases bt (a4_ a b r55) with h64 | h64
          ·skip
           refine sB h64 rfl (sQ (qL ty_23 rfl (List.mem_cons_of_mem _ (List.mem_cons_of_mem _ (List.mem_cons_of_mem _ (List.mem_append_right _ (List.mem_cons_of_mem _ (List.mem_cons_self)))))) rfl) rfl (sE rfl (sQ (qL ty_41 rfl m0 rfl) rfl (sQ (q_ret en_19 (dJ_ a b r58) rfl) rfl (sE rfl (sE rfl ?_))))))
           rcases bt (bn_ a b r58) with h65 | h65
           ·skip
            refine sB (not_f h65) rfl (WL_n rfl (WL_n rfl (WL_n rfl (WL_n rfl (WL_n rfl (sE rfl (sE rfl (nl J ?_))))))))
            refine J32 _ _ (by repeat first | exact .refl | refine .cons rfl ?_) ⟨_, s0, ?s15, rfl⟩
            case s15 => exact congrArg Value.bool (and_t h63 (and_t h64 (hi_ h65)))
           ·skip
            refine sB (not_t h65) rfl (sQ (qL ty_23 rfl (List.mem_cons_of_mem _ (List.mem_cons_of_mem _ (List.mem_cons_of_mem _ (List.mem_append_right _ (List.mem_cons_of_mem _ (List.mem_cons_self)))))) rfl) rfl (sE rfl (sQ (qL ty_41 rfl m0 rfl) rfl (sQ (q_ret en_17 (c2_ a b r58) rfl) rfl (sE rfl (sE rfl (sE rfl (nl J ?_))))))))
            refine J32 _ _ (by repeat first | exact .refl | refine .cons rfl ?_) ⟨_, s0, ?s15, rfl⟩
            case s15 => exact congrArg Value.bool (and_t h63 (and_t h64 (fm_ h65 rfl)))
          ·skip
           refine sB h64 rfl (WL_n rfl (WL_n rfl (WL_n rfl (WL_n rfl (WL_n rfl (sE rfl (sE rfl (WL_n rfl (WL_n rfl (WL_n rfl (WL_n rfl (WL_n rfl (sE rfl (sE rfl (nl J ?_)))))))))))))))
           refine J32 _ _ (by repeat first | exact .refl | refine .cons rfl ?_) ⟨_, s0, ?s15, rfl⟩
           case s15 => exact congrArg Value.bool (and_t h63 (and_f h64))
         ·skip
          refine sB h63 rfl (WL_n rfl (WL_n rfl (WL_n rfl (WL_n rfl (sE rfl (sE rfl (WL_n rfl (WL_n rfl (WL_n rfl (WL_n rfl (WL_n rfl (sE rfl (sE rfl (WL_n rfl (WL_n rfl (WL_n rfl (WL_n rfl (WL_n rfl (sE rfl ?_)))))))))))))))))))
          refine sE rfl (nl J ?_)
          refine J32 _ _ (by repeat first | exact .refl | refine .cons rfl ?_) ⟨_, s0, ?s15, rfl⟩
          case s15 => exact congrArg Value.bool (and_f h63)
        ·skip
         rintro g66 M ⟨hg15, rfl⟩
         simp only [setG, hg15]
         clear hg15
         refine bM_ [6, 121, 122, 123, 124, 125, 126, 127, 128, 129, 130, 131, 132, 133, 134, 135, 136] (fun g M => (g 6 = .bool (cn_ && (((bn_ a b r55) && ((a4_ a b r55) && (!(bn_ a b r58) && (!(a4_ a b r58))))) && ((bn_ a b mb29) && (a4_ a b mb29))))) ∧ M = (⟨b59, 41, flat [pI r58.x.n, pI r58.x.d, pI r58.y.n, pI r58.y.d, pI r58.z.n, pI r58.z.d]⟩ :: (⟨b56, 41, flat [pI r55.x.n, pI r55.x.d, pI r55.y.n, pI r55.y.d, pI r55.z.n, pI r55.z.d]⟩ :: (⟨b29, 41, flat [pI mb29.x.n, pI mb29.x.d, pI mb29.y.n, pI mb29.y.d, pI mb29.z.n, pI mb29.z.d]⟩ :: (L21 ++ (⟨b2, 61, flat [ci .u16 c.x.1, ci .u16 c.y.1, ci .u16 c.z.1, ci .u16 c.t.1]⟩ :: (⟨b1, 23, flat [ci .i64 a.x.1, ci .i64 a.y.1, ci .i64 a.z.1]⟩ :: []))))))) (fun K33 J33 => ?_) ?_
         ·skip
          refine Rk fun K J => sQ (q_ret en_12 d9_  rfl) rfl ?_
          rcases bt cn_ with h70 | h70
          ·skip
           refine sB h70 rfl (sE rfl (sE rfl ?_))
           rcases bt ((bn_ a b r55) && ((a4_ a b r55) && (!(bn_ a b r58) && (!(a4_ a b r58))))) with h71 | h71
           ·skip
            refine sB h71 rfl (sQ (qL ty_23 rfl (List.mem_cons_of_mem _ (List.mem_cons_of_mem _ (List.mem_cons_of_mem _ (List.mem_append_right _ (List.mem_cons_of_mem _ (List.mem_cons_self)))))) rfl) rfl (sE rfl (sQ (qL ty_41 rfl m2 rfl) rfl (sQ (q_ret en_19 (dJ_ a b mb29) rfl) rfl (sE rfl ?_)))))
            rcases bt (bn_ a b mb29) with h72 | h72
            ·skip
             refine sB h72 rfl (sQ (qL ty_23 rfl (List.mem_cons_of_mem _ (List.mem_cons_of_mem _ (List.mem_cons_of_mem _ (List.mem_append_right _ (List.mem_cons_of_mem _ (List.mem_cons_self)))))) rfl) rfl (sE rfl (sQ (qL ty_41 rfl m2 rfl) rfl (sQ (q_ret en_17 (c2_ a b mb29) rfl) rfl (sE rfl (sE rfl (nl J ?_)))))))
             refine J33 _ _ (by repeat first | exact .refl | refine .cons rfl ?_) ⟨_, s0, ?s6, rfl⟩
             case s6 => exact congrArg Value.bool (and_t h70 (and_t h71 (and_t h72 rfl)))
            ·skip
             refine sB h72 rfl (WL_n rfl (WL_n rfl (WL_n rfl (WL_n rfl (sE rfl (sE rfl (nl J ?_)))))))
             refine J33 _ _ (by repeat first | exact .refl | refine .cons rfl ?_) ⟨_, s0, ?s6, rfl⟩
             case s6 => exact congrArg Value.bool (and_t h70 (and_t h71 (and_f h72)))
           ·skip
            refine sB h71 rfl (WL_n rfl (WL_n rfl (WL_n rfl (WL_n rfl (sE rfl (sE rfl (WL_n rfl (WL_n rfl (WL_n rfl (WL_n rfl (sE rfl (sE rfl (nl J ?_)))))))))))))
            refine J33 _ _ (by repeat first | exact .refl | refine .cons rfl ?_) ⟨_, s0, ?s6, rfl⟩
            case s6 => exact congrArg Value.bool (and_t h70 (and_f h71))
          ·skip
           refine sB h70 rfl (WL_n rfl (sE rfl (sE rfl (WL_n rfl (WL_n rfl (WL_n rfl (WL_n rfl (sE rfl (sE rfl (WL_n rfl (WL_n rfl (WL_n rfl (WL_n rfl (sE rfl (sE rfl (nl J ?_))))))))))))))))
           refine J33 _ _ (by repeat first | exact .refl | refine .cons rfl ?_) ⟨_, s0, ?s6, rfl⟩
           case s6 => exact congrArg Value.bool (and_f h70)
         ·skip
          rintro g73 M ⟨hg6, rfl⟩
          simp only [setG, hg6]
          clear hg6
          refine W_ret (ret1 rfl (.inr rfl) rfl ?_)
          exact (by subst hr58; subst hr57; subst hr55; subst hr28; exact congrArg (fun r : Bool => (.bool r : Value)) (show _ = (bE_ a b c) from bif_t h18 (bif_f h26 (trs (Eq.symm (smS hCu30)) rfl))))
    ·skip
     refine W_t (not_t h18) rfl (Rs fun K J => sQ (q_ret en_12 d9_  rfl) rfl (sE rfl (nl J (W_ret (ah_ (ret1 rfl (.inr rfl) rfl ?_))))))
     exact (by exact congrArg (fun r : Bool => (.bool r : Value)) (show _ = (bE_ a b c) from bif_f h18 rfl))
end Go.Proofs.YtapbefpeopaecaaGreatDoor

set_option linter.unusedVariables false
set_option linter.unusedSimpArgs false
namespace Go.Num
open Go Go.Kn
end Go.Num

