/- Walks: what these functions return. -/
import Derived.Test.YtnfbkngfdemkpaaGreatDoorFa0
import Derived.Test.YtnfbkngfdemkpaaGreatDoorFa2
import Derived.Test.YtnfbkngfdemkpaaGreatDoorFl2
import Derived.Test.YtnfbkngfdemkpaaGreatDoorIa
import Derived.Test.YtnfbkngfdemkpaaGreatDoorIr
import Derived.Test.YtnfbkngfdemkpaaGreatDoorLa
namespace Go.Proofs.YtnfbkngfdemkpaaGreatDoor
open Go.Kn Go.Num
set_option linter.unusedVariables false
set_option linter.unusedSimpArgs false
set_option maxRecDepth 20000
set_option maxHeartbeats 8000000
theorem skewbacklaw05_IntervalSetsAsSpecified_ret (vl : Value) (l : (List Iv)) (x : Rt) (y : Rt) (w : World) (hl : Slr w elIv vl l) :
    Calls Tryz.prog 3 [vl, AV [pI x.n, pI x.d], AV [pI y.n, pI y.d]].toArray w (fun e w' => e = .returned (.bool (F_skewbacklaw05_IntervalSetsAsSpecified l x y)) ∧ Ext w w') := by
 refine callsq_of_W (N := 159) Tryz.func3 rfl rfl (by simp) ?_
 obtain ⟨w0, rfl⟩ : ∃ w0, w0 = w := ⟨_, rfl⟩
 have Hl := hl.old
 have hm_l := hl.max
 simp only [initF, Nat.reduceAdd]
 refine Rs fun K J => WL_r rfl (r_boxp rfl rfl (fun b1 hb1 => WL_r rfl (r_boxp rfl rfl (fun b2 hb2 => sE rfl (nl J (Sq fun K1 J1 => Rs fun K J => sE rfl (sQ (q_as (v' := .int .i64 (((l).length : Nat) : Int)) (q_lenG (e := elIv) sl_22 rfl (SLe.sub Hl sn)) rfl) rfl (sE rfl (nl J ?_)))))))))
 rcases bt (decide (12 < (((l).length : Nat) : Int))) with h3 | h3
 ·skip
  refine W_t h3 rfl (Rs fun K J => sQ (q_ret en_10 skewbacklaw05_sanity_ret  rfl) rfl (sE rfl (nl J (W_ret (thenK_r (ret1 rfl (.inr rfl) rfl ?_))))))
  exact (by exact congrArg (fun r : Bool => (.bool r : Value)) (show _ = (F_skewbacklaw05_IntervalSetsAsSpecified l x y) from bif_t h3 rfl))
 ·skip
  refine W_f h3 rfl (W_skip (J1 _ _ (Rs fun K J => sQ (qL ty_28 rfl m1 rfl) rfl (sQ (qL ty_28 rfl m0 rfl) rfl ?_))))
  obtain ⟨r4, hr4⟩ := nm ((F_interval_Make x y) : Iv)
  refine sC (AV [pI r4.lo.n, pI r4.lo.d, pI r4.hi.n, pI r4.hi.d]) en_11 (interval_Make_ret x y) rfl rfl (by rw [hr4]; first | done | rfl) (sN zp_31 rfl fun b5 hb5 => sS [pI r4.lo.n, pI r4.lo.d, pI r4.hi.n, pI r4.hi.d] ty_31 rfl rfl rfl rfl rfl (.head _) rfl hb5 (nl J (Sq fun K2 J2 => ?_)))
  refine W_join [20, 21, 22, 23, 24, 25, 26, 27, 28, 29, 30, 31, 32] (fun g M => (g 32 = .bool (!(decide (r4.lo.n = (((F_skewbackref05_Make x y).lo).n)) && (decide (r4.lo.d = (((F_skewbackref05_Make x y).lo).d)) && (decide (r4.hi.n = (((F_skewbackref05_Make x y).hi).n)) && decide (r4.hi.d = (((F_skewbackref05_Make x y).hi).d))))) || (!(decide ((((F_interval_Of x).lo).n) = (((F_skewbackref05_Make x x).lo).n)) && (decide ((((F_interval_Of x).lo).d) = (((F_skewbackref05_Make x x).lo).d)) && (decide ((((F_interval_Of x).hi).n) = (((F_skewbackref05_Make x x).hi).n)) && decide ((((F_interval_Of x).hi).d) = (((F_skewbackref05_Make x x).hi).d)))))))) ∧ M = [⟨b5, 31, flat [pI r4.lo.n, pI r4.lo.d, pI r4.hi.n, pI r4.hi.d]⟩, ⟨b2, 28, flat [pI y.n, pI y.d]⟩, ⟨b1, 28, flat [pI x.n, pI x.d]⟩]) (fun K3 J3 => ?_) ?_
  ·skip
   refine dr (sk (sk (sk (s0)))) [0,4,8,12,16,20,24,28,32,36,40,44,48] [] mix (by kernel_rfl) (fun K J => pQ rfl (qL ty_31 rfl m0 rfl) (pQ rfl (qL ty_28 rfl m2 rfl) (pQ rfl (qL ty_28 rfl m1 rfl) (pQ rfl (q_ret en_12 (skewbackref05_Make_ret x y) rfl) ?_))))
   refine pQ rfl (q_neqa (r := (decide (r4.lo.n = (((F_skewbackref05_Make x y).lo).n)) && (decide (r4.lo.d = (((F_skewbackref05_Make x y).lo).d)) && (decide (r4.hi.n = (((F_skewbackref05_Make x y).hi).n)) && decide (r4.hi.d = (((F_skewbackref05_Make x y).hi).d)))))) rfl rfl (eqOk_of 8 (by decide) eg_31 lw_31 (lv_cons lv_pI (lv_cons lv_pI (lv_cons lv_pI (lv_one lv_pI)))) (lv_cons lv_pI (lv_cons lv_pI (lv_cons lv_pI (lv_one lv_pI)))) (eqP_cons rfl eq_pI (eqP_cons rfl eq_pI (eqP_cons rfl eq_pI (eqP_one eq_pI)))))) ?_
   rcases bt (decide (r4.lo.n = (((F_skewbackref05_Make x y).lo).n)) && (decide (r4.lo.d = (((F_skewbackref05_Make x y).lo).d)) && (decide (r4.hi.n = (((F_skewbackref05_Make x y).hi).n)) && decide (r4.hi.d = (((F_skewbackref05_Make x y).hi).d))))) with h8 | h8
   ·skip
    refine pB (not_f h8) rfl (pQ rfl (qL ty_28 rfl m2 rfl) (pQ rfl (q_ret en_13 (interval_Of_ret x) rfl) (pQ rfl (qL ty_28 rfl m2 rfl) (pQ rfl (qL ty_28 rfl m2 rfl) (pQ rfl (q_ret en_12 (skewbackref05_Make_ret x x) rfl) ?_)))))
    refine pQ rfl (q_neqa (r := (decide ((((F_interval_Of x).lo).n) = (((F_skewbackref05_Make x x).lo).n)) && (decide ((((F_interval_Of x).lo).d) = (((F_skewbackref05_Make x x).lo).d)) && (decide ((((F_interval_Of x).hi).n) = (((F_skewbackref05_Make x x).hi).n)) && decide ((((F_interval_Of x).hi).d) = (((F_skewbackref05_Make x x).hi).d)))))) rfl rfl (eqOk_of 8 (by decide) eg_31 lw_31 (lv_cons lv_pI (lv_cons lv_pI (lv_cons lv_pI (lv_one lv_pI)))) (lv_cons lv_pI (lv_cons lv_pI (lv_cons lv_pI (lv_one lv_pI)))) (eqP_cons rfl eq_pI (eqP_cons rfl eq_pI (eqP_cons rfl eq_pI (eqP_one eq_pI)))))) (pE rfl (fl J ?_))
    refine J3 _ _ (by repeat first | exact .refl | refine .cons rfl ?_) ⟨_, s0, ?s32, rfl⟩
    case s32 => exact congrArg Value.bool (nor_t h8 rfl)
   ·skip
    refine pB (not_t h8) rfl (PL_n rfl rfl (PL_n rfl rfl (PL_n rfl rfl (PL_n rfl rfl (PL_n rfl rfl (PL_n rfl rfl (pE rfl (fl J ?_))))))))
    refine J3 _ _ (by repeat first | exact .refl | refine .cons rfl ?_) ⟨_, s0, ?s32, rfl⟩
    case s32 => exact congrArg Value.bool (nor_f h8)
  ·skip
   rintro g9 M ⟨hg32, rfl⟩
   simp only [setG, hg32]
   clear hg32
   rcases bt (!(decide (r4.lo.n = (((F_skewbackref05_Make x y).lo).n)) && (decide (r4.lo.d = (((F_skewbackref05_Make x y).lo).d)) && (decide (r4.hi.n = (((F_skewbackref05_Make x y).hi).n)) && decide (r4.hi.d = (((F_skewbackref05_Make x y).hi).d))))) || (!(decide ((((F_interval_Of x).lo).n) = (((F_skewbackref05_Make x x).lo).n)) && (decide ((((F_interval_Of x).lo).d) = (((F_skewbackref05_Make x x).lo).d)) && (decide ((((F_interval_Of x).hi).n) = (((F_skewbackref05_Make x x).hi).n)) && decide ((((F_interval_Of x).hi).d) = (((F_skewbackref05_Make x x).hi).d))))))) with h10 | h10
   ·skip
    refine W_t h10 rfl (Rs fun K J => sE rfl (nl J (W_ret (thenK_r (ret1 rfl (.inr rfl) rfl ?_)))))
    exact (by subst hr4; exact congrArg (fun r : Bool => (.bool r : Value)) (show _ = (F_skewbacklaw05_IntervalSetsAsSpecified l x y) from bif_f h3 (bif_t h10 rfl)))
   ·skip
    refine W_f h10 rfl (W_skip (J2 _ _ (Sq fun K4 J4 => Rs fun K J => sE rfl (nl J ?_))))
    refine W_join3 (fun S M h => J4 S M h) [6, 8, 9, 10, 11, 12, 33, 34, 35, 36, 37, 38, 39, 40, 41, 42, 43, 44, 45, 46, 47, 48, 49, 50, 51, 52, 53, 54, 55, 56, 57, 58, 59, 60, 61, 62, 63, 64, 65, 66, 67, 68, 69, 70, 71, 72, 73, 74, 75, 76, 77, 78, 79, 80, 81, 82, 83, 84, 85, 86, 87, 88, 89, 90, 91, 92, 93, 94, 95, 96, 97, 98, 99, 100, 101, 102, 103, 104, 105, 106, 107, 108, 109, 110, 111, 112, 113, 114, 115, 116, 117, 118, 119, 120, 121, 122, 123, 124, 125, 126, 127, 128, 129, 130, 131, 132, 133, 134, 135, 136, 137, 138, 139, 140, 141, 142, 143, 144, 145, 146, 147, 148, 149, 150] (fun g M => (F_skewbacklaw05_IntervalSetsAsSpecified_loop0 l x y r4 l) = .inl () ∧ (True) ∧ M = [⟨b5, 31, flat [pI r4.lo.n, pI r4.lo.d, pI r4.hi.n, pI r4.hi.d]⟩, ⟨b2, 28, flat [pI y.n, pI y.d]⟩, ⟨b1, 28, flat [pI x.n, pI x.d]⟩]) (fun K_u11 hK_u11 => ?_) ?_
    ·skip
     refine W_block ?_
     have hmx0 : (l).length ≤ 9223372036854775807 := hm_l
     refine W_loop_g [6, 8, 9, 10, 11, 12, 33, 34, 35, 36, 37, 38, 39, 40, 41, 42, 43, 44, 45, 46, 47, 48, 49, 50, 51, 52, 53, 54, 55, 56, 57, 58, 59, 60, 61, 62, 63, 64, 65, 66, 67, 68, 69, 70, 71, 72, 73, 74, 75, 76, 77, 78, 79, 80, 81, 82, 83, 84, 85, 86, 87, 88, 89, 90, 91, 92, 93, 94, 95, 96, 97, 98, 99, 100, 101, 102, 103, 104, 105, 106, 107, 108, 109, 110, 111, 112, 113, 114, 115, 116, 117, 118, 119, 120, 121, 122, 123, 124, 125, 126, 127, 128, 129, 130, 131, 132, 133, 134, 135, 136, 137, 138, 139, 140, 141, 142, 143, 144, 145, 146, 147, 148, 149, 150] (fun g nn M => ∃ (i0 : Nat) (l0 : List Iv), (F_skewbacklaw05_IntervalSetsAsSpecified_loop0 l x y r4 l0) = (F_skewbacklaw05_IntervalSetsAsSpecified_loop0 l x y r4 l) ∧ (l).drop i0 = l0 ∧ l0.length = nn ∧ g 8 = .int .i64 ((i0 : Nat) : Int) ∧ (True) ∧ M = [⟨b5, 31, flat [pI r4.lo.n, pI r4.lo.d, pI r4.hi.n, pI r4.hi.d]⟩, ⟨b2, 28, flat [pI y.n, pI y.d]⟩, ⟨b1, 28, flat [pI x.n, pI x.d]⟩]) (l).length ?start ?round
     case start => exact ⟨_, s0, 0, l, rfl, rfl, rfl, rfl, trivial, rfl⟩
     case round =>
      rintro nn g M ⟨i0, l0, hT0, hr0, rfl, hgi, -, rfl⟩
      simp only [setG, hgi]
      clear hgi
      refine Sq fun K16 J16 => Rs fun K J => sE rfl (sE rfl (sQ (q_as (v' := .int .i64 (((l).length : Nat) : Int)) (q_lenG (e := elIv) sl_22 rfl (SLe.sub Hl sn)) rfl) rfl (sE rfl (nl J ?_))))
      rcases l0 with _ | ⟨x0, l0⟩
      ·skip
       have h51 := dec_nil hr0
       refine W_f h51 rfl (W_exit (thenK_x (thenK_x (blockK_hit (hK_u11 _ _ (by repeat first | exact .refl | refine .cons rfl ?_) ⟨_, s0, (by exact hT0.symm.trans (Eq.symm (rfl))), trivial, rfl⟩)))))
      ·skip
       have h52 := dec_cons hr0
       have g53 := drop_cons hr0
       refine W_t h52 rfl (W_skip (J16 _ _ (Sq fun K17 J17 => W_block (Sq fun K18 J18 => Rs fun K J => sE rfl (sE rfl (sQ (q_as (v' := .pointer (some (slb vl (i0 * 72 + 0)))) (q_idxG (e := elIv) (l := l) (k := i0) sl_22 rfl rfl (SLe.sub Hl sn) g53.2.1) rfl) rfl (sQ (q_ldG (e := elIv) (l := l) (k := i0) (o := 0) ty_31 rfl (SLe.sub Hl sn) g53.1 rfl) rfl (sQ (q_ret en_14 (skewbackref05_Right_ret x0) rfl) rfl (sE rfl (nl J ?_))))))))))
       rcases bt (F_skewbackref05_Right x0) with h54 | h54
       ·skip
        refine W_f (not_f h54) rfl (W_skip (J18 _ _ (Sq fun K19 J19 => ?_)))
        refine W_join [46, 47, 48, 49, 50, 51, 52, 53, 54, 55, 56, 57, 58, 59, 60, 61, 62, 63, 64, 65, 66, 67, 68, 69, 70, 71] (fun g M => (g 71 = .bool (((F_interval_IsBad x0) != (F_skewbackref05_IsBad x0)) || ((F_interval_Has x0 x) != (F_skewbackref05_Has x0 x)))) ∧ M = [⟨b5, 31, flat [pI r4.lo.n, pI r4.lo.d, pI r4.hi.n, pI r4.hi.d]⟩, ⟨b2, 28, flat [pI y.n, pI y.d]⟩, ⟨b1, 28, flat [pI x.n, pI x.d]⟩]) (fun K20 J20 => ?_) ?_
        ·skip
         refine dr (sk (sk (sk (s0)))) [0,4,8,12,16,20,24,28,32,36,40,44,48,52,56,60,64,68,72,76,80,84,88,92,96,100] [] mix (by kernel_rfl) (fun K J => pE rfl (pE rfl (pQ rfl (q_as (v' := .pointer (some (slb vl (i0 * 72 + 0)))) (q_idxG (e := elIv) (l := l) (k := i0) sl_22 rfl rfl (SLe.sub Hl sn) g53.2.1) rfl) (pQ rfl (q_ldG (e := elIv) (l := l) (k := i0) (o := 0) ty_31 rfl (SLe.sub Hl sn) g53.1 rfl) (pQ rfl (q_ret en_15 (interval_IsBad_ret x0) rfl) (pE rfl (pE rfl (pQ rfl (q_as (v' := .pointer (some (slb vl (i0 * 72 + 0)))) (q_idxG (e := elIv) (l := l) (k := i0) sl_22 rfl rfl (SLe.sub Hl sn) g53.2.1) rfl) (pQ rfl (q_ldG (e := elIv) (l := l) (k := i0) (o := 0) ty_31 rfl (SLe.sub Hl sn) g53.1 rfl) (pQ rfl (q_ret en_16 (skewbackref05_IsBad_ret x0) rfl) (pQ rfl (q_as (v' := .bool ((F_interval_IsBad x0) != (F_skewbackref05_IsBad x0))) (q_neqb bo_4 rfl rfl) rfl) ?_)))))))))))
         rcases bt ((F_interval_IsBad x0) != (F_skewbackref05_IsBad x0)) with h56 | h56
         ·skip
          refine pB h56 rfl (PL_n rfl rfl (PL_n rfl rfl (PL_n rfl rfl (PL_n rfl rfl (PL_n rfl rfl (PL_n rfl rfl (PL_n rfl rfl (PL_n rfl rfl (PL_n rfl rfl (PL_n rfl rfl (PL_n rfl rfl (PL_n rfl rfl (PL_n rfl rfl (pE rfl (fl J ?_)))))))))))))))
          refine J20 _ _ (by repeat first | exact .refl | refine .cons rfl ?_) ⟨_, s0, ?s71, rfl⟩
          case s71 => exact congrArg Value.bool (or_t h56)
         ·skip
          refine pB h56 rfl (pE rfl (pE rfl (pQ rfl (q_as (v' := .pointer (some (slb vl (i0 * 72 + 0)))) (q_idxG (e := elIv) (l := l) (k := i0) sl_22 rfl rfl (SLe.sub Hl sn) g53.2.1) rfl) (pQ rfl (q_ldG (e := elIv) (l := l) (k := i0) (o := 0) ty_31 rfl (SLe.sub Hl sn) g53.1 rfl) (pQ rfl (qL ty_28 rfl m2 rfl) (pQ rfl (q_ret en_17 (interval_Has_ret x0 x) rfl) (pE rfl (pE rfl (pQ rfl (q_as (v' := .pointer (some (slb vl (i0 * 72 + 0)))) (q_idxG (e := elIv) (l := l) (k := i0) sl_22 rfl rfl (SLe.sub Hl sn) g53.2.1) rfl) (pQ rfl (q_ldG (e := elIv) (l := l) (k := i0) (o := 0) ty_31 rfl (SLe.sub Hl sn) g53.1 rfl) (pQ rfl (qL ty_28 rfl m2 rfl) (pQ rfl (q_ret en_18 (skewbackref05_Has_ret x0 x) rfl) (pQ rfl (q_as (v' := .bool ((F_interval_Has x0 x) != (F_skewbackref05_Has x0 x))) (q_neqb bo_4 rfl rfl) rfl) (pE rfl (fl J ?_)))))))))))))))
          refine J20 _ _ (by repeat first | exact .refl | refine .cons rfl ?_) ⟨_, s0, ?s71, rfl⟩
          case s71 => exact congrArg Value.bool (or_f h56 rfl)
        ·skip
         rintro g57 M ⟨hg71, rfl⟩
         simp only [setG, hg71]
         clear hg71
         rcases bt (((F_interval_IsBad x0) != (F_skewbackref05_IsBad x0)) || ((F_interval_Has x0 x) != (F_skewbackref05_Has x0 x))) with h58 | h58
         ·skip
          refine W_t h58 rfl (Rs fun K J => sE rfl (nl J (W_ret (thenK_r (blockK_r (thenK_r (thenK_r (blockK_r (thenK_r (thenK_r (ret1 rfl (.inr rfl) rfl ?_)))))))))))
          exact (by subst hr4; exact congrArg (fun r : Bool => (.bool r : Value)) (show _ = (F_skewbacklaw05_IntervalSetsAsSpecified l x y) from bif_f h3 (bif_f h10 ((sm_q rfl (hT0.symm.trans (Eq.symm (bif_t h54 (bif_t h58 rfl)))))))))
         ·skip
          refine W_f h58 rfl (W_skip (J19 _ _ (Rs fun K J => sE rfl (nl J ?_))))
          refine W_join3 (fun S M h => J17 S M h) [6, 9, 10, 11, 12, 72, 73, 74, 75, 76, 77, 78, 79, 80, 81, 82, 83, 84, 85, 86, 87, 88, 89, 90, 91, 92, 93, 94, 95, 96, 97, 98, 99, 100, 101, 102, 103, 104, 105, 106, 107, 108, 109, 110, 111, 112, 113, 114, 115, 116, 117, 118, 119, 120, 121, 122, 123, 124, 125, 126, 127, 128, 129, 130, 131, 132, 133, 134, 135, 136, 137, 138, 139, 140, 141, 142, 143, 144, 145, 146, 147, 148, 149, 150] (fun g M => (F_skewbacklaw05_IntervalSetsAsSpecified_loop1 l x y r4 x0 l0 r4 l) = .inl () ∧ (True) ∧ M = [⟨b5, 31, flat [pI r4.lo.n, pI r4.lo.d, pI r4.hi.n, pI r4.hi.d]⟩, ⟨b2, 28, flat [pI y.n, pI y.d]⟩, ⟨b1, 28, flat [pI x.n, pI x.d]⟩]) (fun K_u59 hK_u59 => ?_) ?_
          ·skip
           refine W_block ?_
           have hmx1 : (l).length ≤ 9223372036854775807 := hm_l
           refine W_loop_g [6, 9, 10, 11, 12, 72, 73, 74, 75, 76, 77, 78, 79, 80, 81, 82, 83, 84, 85, 86, 87, 88, 89, 90, 91, 92, 93, 94, 95, 96, 97, 98, 99, 100, 101, 102, 103, 104, 105, 106, 107, 108, 109, 110, 111, 112, 113, 114, 115, 116, 117, 118, 119, 120, 121, 122, 123, 124, 125, 126, 127, 128, 129, 130, 131, 132, 133, 134, 135, 136, 137, 138, 139, 140, 141, 142, 143, 144, 145, 146, 147, 148, 149, 150] (fun g nn M => ∃ (i1 : Nat) (l1 : List Iv), (F_skewbacklaw05_IntervalSetsAsSpecified_loop1 l x y r4 x0 l0 r4 l1) = (F_skewbacklaw05_IntervalSetsAsSpecified_loop1 l x y r4 x0 l0 r4 l) ∧ (l).drop i1 = l1 ∧ l1.length = nn ∧ g 9 = .int .i64 ((i1 : Nat) : Int) ∧ (True) ∧ M = [⟨b5, 31, flat [pI r4.lo.n, pI r4.lo.d, pI r4.hi.n, pI r4.hi.d]⟩, ⟨b2, 28, flat [pI y.n, pI y.d]⟩, ⟨b1, 28, flat [pI x.n, pI x.d]⟩]) (l).length ?start ?round
           case start => exact ⟨_, s0, 0, l, rfl, rfl, rfl, rfl, trivial, rfl⟩
           case round =>
            rintro nn g M ⟨i1, l1, hT1, hr1, rfl, hgi, -, rfl⟩
            simp only [setG, hgi]
            clear hgi
            refine Sq fun K24 J24 => Rs fun K J => sE rfl (sE rfl (sQ (q_as (v' := .int .i64 (((l).length : Nat) : Int)) (q_lenG (e := elIv) sl_22 rfl (SLe.sub Hl sn)) rfl) rfl (sE rfl (nl J ?_))))
            rcases l1 with _ | ⟨x1, l1⟩
            ·skip
             have h75 := dec_nil hr1
             refine W_f h75 rfl (W_exit (thenK_x (thenK_x (blockK_hit (hK_u59 _ _ (by repeat first | exact .refl | refine .cons rfl ?_) ⟨_, s0, (by exact hT1.symm.trans (Eq.symm (rfl))), trivial, rfl⟩)))))
            ·skip
             have h76 := dec_cons hr1
             have g77 := drop_cons hr1
             refine W_t h76 rfl (W_skip (J24 _ _ (Sq fun K25 J25 => W_block (ds (sk (sk (sk (s0)))) [0,4,8,12,16,20,24,28,32,36,40,46,49,53,56] [13] mix (by kernel_rfl) (fun K J => pE rfl (pE rfl (pQ rfl (q_as (v' := .pointer (some (slb vl (i0 * 72 + 0)))) (q_idxG (e := elIv) (l := l) (k := i0) sl_22 rfl rfl (SLe.sub Hl sn) g53.2.1) rfl) (pQ rfl (q_ldG (e := elIv) (l := l) (k := i0) (o := 0) ty_31 rfl (SLe.sub Hl sn) g53.1 rfl) (pE rfl (pE rfl (pQ rfl (q_as (v' := .pointer (some (slb vl (i1 * 72 + 0)))) (q_idxG (e := elIv) (l := l) (k := i1) sl_22 rfl rfl (SLe.sub Hl sn) g77.2.1) rfl) (pQ rfl (q_ldG (e := elIv) (l := l) (k := i1) (o := 0) ty_31 rfl (SLe.sub Hl sn) g77.1 rfl) ?_))))))))))))
             obtain ⟨r78, hr78⟩ := nm ((F_interval_Meet x0 x1).1 : Iv)
             refine pC (.tuple #[AV [pI r78.lo.n, pI r78.lo.d, pI r78.hi.n, pI r78.hi.d], .bool ((F_interval_Meet x0 x1).2)]) en_19 (interval_Meet_ret x0 x1) rfl rfl (by rw [hr78]; first | done | rfl) (pE rfl (pE rfl (tE rfl (PL_o rfl rfl (r_allocp zp_31 (fun b79 hb79 => ⟨(fun _ => sd s0), (sd s0), oS [pI r78.lo.n, pI r78.lo.d, pI r78.hi.n, pI r78.hi.d] ty_31 rfl rfl rfl rfl rfl rfl (.head _) rfl hb79 rfl (sd s0) (pE rfl (fl J (ds (sk (sk (sk (sk (s0))))) [0,4,8,12,16,20,24,28,32,37,41] [10] mix (by kernel_rfl) (fun K J => pE rfl (pE rfl (pQ rfl (q_as (v' := .pointer (some (slb vl (i0 * 72 + 0)))) (q_idxG (e := elIv) (l := l) (k := i0) sl_22 rfl rfl (SLe.sub Hl sn) g53.2.1) rfl) (pQ rfl (q_ldG (e := elIv) (l := l) (k := i0) (o := 0) ty_31 rfl (SLe.sub Hl sn) g53.1 rfl) (pE rfl (pE rfl (pQ rfl (q_as (v' := .pointer (some (slb vl (i1 * 72 + 0)))) (q_idxG (e := elIv) (l := l) (k := i1) sl_22 rfl rfl (SLe.sub Hl sn) g77.2.1) rfl) (pQ rfl (q_ldG (e := elIv) (l := l) (k := i1) (o := 0) ty_31 rfl (SLe.sub Hl sn) g77.1 rfl) ?_)))))))))))⟩))))))
             obtain ⟨r80, hr80⟩ := nm ((F_skewbackref05_Meet x0 x1) : Met)
             refine pC (AV [pI r80.a.lo.n, pI r80.a.lo.d, pI r80.a.hi.n, pI r80.a.hi.d, cb r80.is]) en_20 (skewbackref05_Meet_ret x0 x1) rfl rfl (by rw [hr80]; first | done | rfl) (PL_o rfl rfl (r_allocp zp_39 (fun b81 hb81 => ⟨(fun _ => sd s0), (sd s0), oS [pI r80.a.lo.n, pI r80.a.lo.d, pI r80.a.hi.n, pI r80.a.hi.d, cb r80.is] ty_39 rfl rfl rfl rfl rfl rfl (.head _) rfl hb81 rfl (sd s0) (fl J ?_)⟩)))
             refine W_join [99, 100, 101, 102, 103, 104, 105, 106, 107, 108, 109, 110, 111, 112, 113, 114, 115, 116, 117, 118, 119, 120, 121, 122, 123, 124, 125, 126, 127, 128, 129, 130, 131, 132, 133, 134, 135, 136, 137, 138, 139, 140, 141, 142, 143, 144, 145, 146, 147, 148, 149, 150] (fun g M => (g 150 = .bool (!(decide (r78.lo.n = r80.a.lo.n) && (decide (r78.lo.d = r80.a.lo.d) && (decide (r78.hi.n = r80.a.hi.n) && decide (r78.hi.d = r80.a.hi.d)))) || (((F_interval_Meet x0 x1).2 != r80.is) || (((F_interval_Inside x0 x1) != (F_skewbackref05_Inside x0 x1)) || ((F_interval_Cmp x0 x1).1 != (F_skewbackref05_Cmp x0 x1).1))))) ∧ M = [⟨b81, 39, flat [pI r80.a.lo.n, pI r80.a.lo.d, pI r80.a.hi.n, pI r80.a.hi.d, cb r80.is]⟩, ⟨b79, 31, flat [pI r78.lo.n, pI r78.lo.d, pI r78.hi.n, pI r78.hi.d]⟩, ⟨b5, 31, flat [pI r4.lo.n, pI r4.lo.d, pI r4.hi.n, pI r4.hi.d]⟩, ⟨b2, 28, flat [pI y.n, pI y.d]⟩, ⟨b1, 28, flat [pI x.n, pI x.d]⟩]) (fun K26 J26 => ?_) ?_
             ·skip
              refine dr (sk (sk (sk (sk (sk (s0)))))) [0,4,8,12,16,20,24,28,32,36,40,44,48,52,56,60,64,68,72,76,80,84,88,92,96,100,104,108,112,116,120,124,128,132,136,140,144,148,152,156,160,164,168,172,176,180,184,188,192,196,200,204] [] mix (by kernel_rfl) (fun K J => pQ rfl (qL ty_31 rfl m1 rfl) (pQ rfl (qF fd_39_0 rfl rfl) (pQ rfl (qL ty_31 rfl m0 rfl) ?_)))
              refine pQ rfl (q_neqa (r := (decide (r78.lo.n = r80.a.lo.n) && (decide (r78.lo.d = r80.a.lo.d) && (decide (r78.hi.n = r80.a.hi.n) && decide (r78.hi.d = r80.a.hi.d))))) rfl rfl (eqOk_of 8 (by decide) eg_31 lw_31 (lv_cons lv_pI (lv_cons lv_pI (lv_cons lv_pI (lv_one lv_pI)))) (lv_cons lv_pI (lv_cons lv_pI (lv_cons lv_pI (lv_one lv_pI)))) (eqP_cons rfl eq_pI (eqP_cons rfl eq_pI (eqP_cons rfl eq_pI (eqP_one eq_pI)))))) ?_
              rcases bt (decide (r78.lo.n = r80.a.lo.n) && (decide (r78.lo.d = r80.a.lo.d) && (decide (r78.hi.n = r80.a.hi.n) && decide (r78.hi.d = r80.a.hi.d)))) with h85 | h85
              ·skip
               refine pB (not_f h85) rfl (pE rfl (pQ rfl (qF fd_39_1 rfl rfl) (pQ rfl (qC ty_4 rfl m0 rfl) (pQ rfl (q_as (v' := .bool ((F_interval_Meet x0 x1).2 != r80.is)) (q_neqb bo_4 rfl rfl) rfl) (pE rfl ?_)))))
               rcases bt ((F_interval_Meet x0 x1).2 != r80.is) with h86 | h86
               ·skip
                refine pB h86 rfl (PL_n rfl rfl (PL_n rfl rfl (PL_n rfl rfl (PL_n rfl rfl (PL_n rfl rfl (PL_n rfl rfl (PL_n rfl rfl (PL_n rfl rfl (PL_n rfl rfl (PL_n rfl rfl (PL_n rfl rfl (PL_n rfl rfl (PL_n rfl rfl (PL_n rfl rfl (PL_n rfl rfl (PL_n rfl rfl (PL_n rfl rfl (PL_n rfl rfl (PL_n rfl rfl ?_)))))))))))))))))))
                refine pE rfl (pE rfl (PL_n rfl rfl (PL_n rfl rfl (PL_n rfl rfl (PL_n rfl rfl (PL_n rfl rfl (PL_n rfl rfl (PL_n rfl rfl (PL_n rfl rfl (PL_n rfl rfl (PL_n rfl rfl (PL_n rfl rfl (PL_n rfl rfl (PL_n rfl rfl (PL_n rfl rfl (PL_n rfl rfl (PL_n rfl rfl (PL_n rfl rfl (PL_n rfl rfl ?_)))))))))))))))))))
                refine PL_n rfl rfl (pE rfl (fl J ?_))
                refine J26 _ _ (by repeat first | exact .refl | refine .cons rfl ?_) ⟨_, s0, ?s150, rfl⟩
                case s150 => exact congrArg Value.bool (nor_t h85 (or_t h86))
               ·skip
                refine pB h86 rfl (pE rfl (pE rfl (pQ rfl (q_as (v' := .pointer (some (slb vl (i0 * 72 + 0)))) (q_idxG (e := elIv) (l := l) (k := i0) sl_22 rfl rfl (SLe.sub Hl sn) g53.2.1) rfl) (pQ rfl (q_ldG (e := elIv) (l := l) (k := i0) (o := 0) ty_31 rfl (SLe.sub Hl sn) g53.1 rfl) (pE rfl (pE rfl (pQ rfl (q_as (v' := .pointer (some (slb vl (i1 * 72 + 0)))) (q_idxG (e := elIv) (l := l) (k := i1) sl_22 rfl rfl (SLe.sub Hl sn) g77.2.1) rfl) (pQ rfl (q_ldG (e := elIv) (l := l) (k := i1) (o := 0) ty_31 rfl (SLe.sub Hl sn) g77.1 rfl) (pQ rfl (q_ret en_21 (interval_Inside_ret x0 x1) rfl) (pE rfl (pE rfl (pQ rfl (q_as (v' := .pointer (some (slb vl (i0 * 72 + 0)))) (q_idxG (e := elIv) (l := l) (k := i0) sl_22 rfl rfl (SLe.sub Hl sn) g53.2.1) rfl) (pQ rfl (q_ldG (e := elIv) (l := l) (k := i0) (o := 0) ty_31 rfl (SLe.sub Hl sn) g53.1 rfl) (pE rfl (pE rfl (pQ rfl (q_as (v' := .pointer (some (slb vl (i1 * 72 + 0)))) (q_idxG (e := elIv) (l := l) (k := i1) sl_22 rfl rfl (SLe.sub Hl sn) g77.2.1) rfl) (pQ rfl (q_ldG (e := elIv) (l := l) (k := i1) (o := 0) ty_31 rfl (SLe.sub Hl sn) g77.1 rfl) (pQ rfl (q_ret en_22 (skewbackref05_Inside_ret x0 x1) rfl) (pQ rfl (q_as (v' := .bool ((F_interval_Inside x0 x1) != (F_skewbackref05_Inside x0 x1))) (q_neqb bo_4 rfl rfl) rfl) ?_)))))))))))))))))))
                refine pE rfl ?_
                rcases bt ((F_interval_Inside x0 x1) != (F_skewbackref05_Inside x0 x1)) with h87 | h87
                ·skip
                 refine pB h87 rfl (PL_n rfl rfl (PL_n rfl rfl (PL_n rfl rfl (PL_n rfl rfl (PL_n rfl rfl (PL_n rfl rfl (PL_n rfl rfl (PL_n rfl rfl (PL_n rfl rfl (PL_n rfl rfl (PL_n rfl rfl (PL_n rfl rfl (PL_n rfl rfl (PL_n rfl rfl (PL_n rfl rfl (PL_n rfl rfl (PL_n rfl rfl (PL_n rfl rfl (PL_n rfl rfl ?_)))))))))))))))))))
                 refine pE rfl (fl J ?_)
                 refine J26 _ _ (by repeat first | exact .refl | refine .cons rfl ?_) ⟨_, s0, ?s150, rfl⟩
                 case s150 => exact congrArg Value.bool (nor_t h85 (or_f h86 (or_t h87)))
                ·skip
                 refine pB h87 rfl (pE rfl (pE rfl (pQ rfl (q_as (v' := .pointer (some (slb vl (i0 * 72 + 0)))) (q_idxG (e := elIv) (l := l) (k := i0) sl_22 rfl rfl (SLe.sub Hl sn) g53.2.1) rfl) (pQ rfl (q_ldG (e := elIv) (l := l) (k := i0) (o := 0) ty_31 rfl (SLe.sub Hl sn) g53.1 rfl) (pE rfl (pE rfl (pQ rfl (q_as (v' := .pointer (some (slb vl (i1 * 72 + 0)))) (q_idxG (e := elIv) (l := l) (k := i1) sl_22 rfl rfl (SLe.sub Hl sn) g77.2.1) rfl) (pQ rfl (q_ldG (e := elIv) (l := l) (k := i1) (o := 0) ty_31 rfl (SLe.sub Hl sn) g77.1 rfl) (pQ rfl (q_ret en_23 (interval_Cmp_ret x0 x1) rfl) (pE rfl (pE rfl (pQ rfl (q_as (v' := .pointer (some (slb vl (i0 * 72 + 0)))) (q_idxG (e := elIv) (l := l) (k := i0) sl_22 rfl rfl (SLe.sub Hl sn) g53.2.1) rfl) (pQ rfl (q_ldG (e := elIv) (l := l) (k := i0) (o := 0) ty_31 rfl (SLe.sub Hl sn) g53.1 rfl) (pE rfl (pE rfl (pQ rfl (q_as (v' := .pointer (some (slb vl (i1 * 72 + 0)))) (q_idxG (e := elIv) (l := l) (k := i1) sl_22 rfl rfl (SLe.sub Hl sn) g77.2.1) rfl) (pQ rfl (q_ldG (e := elIv) (l := l) (k := i1) (o := 0) ty_31 rfl (SLe.sub Hl sn) g77.1 rfl) (pQ rfl (q_ret en_24 (skewbackref05_Cmp_ret x0 x1) rfl) (pE rfl ?_)))))))))))))))))))
                 refine pE rfl (fl J ?_)
                 refine J26 _ _ (by repeat first | exact .refl | refine .cons rfl ?_) ⟨_, s0, ?s150, rfl⟩
                 case s150 => exact congrArg Value.bool (nor_t h85 (or_f h86 (or_f h87 rfl)))
              ·skip
               refine pB (not_t h85) rfl (PL_n rfl rfl (PL_n rfl rfl (PL_n rfl rfl (PL_n rfl rfl (pE rfl (pE rfl (PL_n rfl rfl (PL_n rfl rfl (PL_n rfl rfl (PL_n rfl rfl (PL_n rfl rfl (PL_n rfl rfl (PL_n rfl rfl (PL_n rfl rfl (PL_n rfl rfl (PL_n rfl rfl (PL_n rfl rfl (PL_n rfl rfl (PL_n rfl rfl ?_)))))))))))))))))))
               refine PL_n rfl rfl (PL_n rfl rfl (PL_n rfl rfl (PL_n rfl rfl (PL_n rfl rfl (PL_n rfl rfl (pE rfl (pE rfl (PL_n rfl rfl (PL_n rfl rfl (PL_n rfl rfl (PL_n rfl rfl (PL_n rfl rfl (PL_n rfl rfl (PL_n rfl rfl (PL_n rfl rfl (PL_n rfl rfl (PL_n rfl rfl (PL_n rfl rfl (PL_n rfl rfl ?_)))))))))))))))))))
               refine PL_n rfl rfl (PL_n rfl rfl (PL_n rfl rfl (PL_n rfl rfl (PL_n rfl rfl (PL_n rfl rfl (PL_n rfl rfl (pE rfl (fl J ?_))))))))
               refine J26 _ _ (by repeat first | exact .refl | refine .cons rfl ?_) ⟨_, s0, ?s150, rfl⟩
               case s150 => exact congrArg Value.bool (nor_f h85)
             ·skip
              rintro g88 M ⟨hg150, rfl⟩
              simp only [setG, hg150]
              clear hg150
              rcases bt (!(decide (r78.lo.n = r80.a.lo.n) && (decide (r78.lo.d = r80.a.lo.d) && (decide (r78.hi.n = r80.a.hi.n) && decide (r78.hi.d = r80.a.hi.d)))) || (((F_interval_Meet x0 x1).2 != r80.is) || (((F_interval_Inside x0 x1) != (F_skewbackref05_Inside x0 x1)) || ((F_interval_Cmp x0 x1).1 != (F_skewbackref05_Cmp x0 x1).1)))) with h89 | h89
              ·skip
               refine W_t h89 rfl (Rs fun K J => sE rfl (nl J (W_ret (blockK_r (thenK_r (thenK_r (blockK_r (thenK_r (blockK_r (thenK_r (thenK_r (blockK_r (thenK_r (thenK_r (ret1 rfl (.inr rfl) rfl ?_)))))))))))))))
               exact (by subst hr80; subst hr78; subst hr4; exact congrArg (fun r : Bool => (.bool r : Value)) (show _ = (F_skewbacklaw05_IntervalSetsAsSpecified l x y) from bif_f h3 (bif_f h10 ((sm_q rfl (hT0.symm.trans (Eq.symm (bif_t h54 (bif_f h58 ((sm_q rfl (hT1.symm.trans (Eq.symm (bif_t h89 rfl))))))))))))))
              ·skip
               refine W_f h89 rfl (W_skip (J25 _ _ (Rk fun K J => sE rfl (sV (.int .i64 ((i1 + 1 : Nat) : Int)) rfl (congrArg (Value.int .i64) (nxt g77.2.1 hmx1)) (sE rfl (nl J (⟨(by repeat first | exact .refl | refine .cons rfl ?_), _, _, (sd (sd (s0))), (Nat.lt_succ_self _), i1 + 1, l1, (by subst hr80; subst hr78; exact (hT1.symm.trans (Eq.symm (bif_f h89 rfl))).symm), g77.2.2, rfl, rfl, trivial, rfl⟩)))))))
          ·skip
           rintro g M ⟨hCu59, -, rfl⟩
           simp only [setG]
           refine Rk fun K J => sE rfl (sV (.int .i64 ((i0 + 1 : Nat) : Int)) rfl (congrArg (Value.int .i64) (nxt g53.2.1 hmx0)) (sE rfl (nl J (⟨(by repeat first | exact .refl | refine .cons rfl ?_), _, _, s0, (Nat.lt_succ_self _), i0 + 1, l0, (by exact (hT0.symm.trans (Eq.symm (bif_t h54 (bif_f h58 (sm_l hCu59 rfl))))).symm), g53.2.2, rfl, rfl, trivial, rfl⟩))))
       ·skip
        refine W_t (not_t h54) rfl (Rs fun K J => sQ (q_ret en_10 skewbacklaw05_sanity_ret  rfl) rfl (sE rfl (nl J (W_ret (thenK_r (blockK_r (thenK_r (thenK_r (blockK_r (thenK_r (thenK_r (ret1 rfl (.inr rfl) rfl ?_))))))))))))
        exact (by subst hr4; exact congrArg (fun r : Bool => (.bool r : Value)) (show _ = (F_skewbacklaw05_IntervalSetsAsSpecified l x y) from bif_f h3 (bif_f h10 ((sm_q rfl (hT0.symm.trans (Eq.symm (bif_f h54 rfl))))))))
    ·skip
     rintro g M ⟨hCu11, -, rfl⟩
     simp only [setG]
     refine W_join [6, 151, 152, 153, 154, 155, 156, 157, 158] (fun g M => (g 6 = .bool (F_skewbacklaw05_sanity && (decide ((((F_interval_Hull l).lo).n) = (((F_skewbackref05_Hull l).lo).n)) && (decide ((((F_interval_Hull l).lo).d) = (((F_skewbackref05_Hull l).lo).d)) && (decide ((((F_interval_Hull l).hi).n) = (((F_skewbackref05_Hull l).hi).n)) && decide ((((F_interval_Hull l).hi).d) = (((F_skewbackref05_Hull l).hi).d))))))) ∧ M = [⟨b5, 31, flat [pI r4.lo.n, pI r4.lo.d, pI r4.hi.n, pI r4.hi.d]⟩, ⟨b2, 28, flat [pI y.n, pI y.d]⟩, ⟨b1, 28, flat [pI x.n, pI x.d]⟩]) (fun K27 J27 => ?_) ?_
     ·skip
      refine Rk fun K J => sQ (q_ret en_10 skewbacklaw05_sanity_ret  rfl) rfl ?_
      rcases bt F_skewbacklaw05_sanity with h91 | h91
      ·skip
       refine sB h91 rfl (sE rfl (sQ (q_as (v' := AV [pI (((F_interval_Hull l).lo).n), pI (((F_interval_Hull l).lo).d), pI (((F_interval_Hull l).hi).n), pI (((F_interval_Hull l).hi).d)]) (q_call en_25 rfl (fun w hw => interval_Hull_ret _ (l) w (SLe.ap hw (SLe.sub Hl sn)))) rfl) rfl (sE rfl (sQ (q_as (v' := AV [pI (((F_skewbackref05_Hull l).lo).n), pI (((F_skewbackref05_Hull l).lo).d), pI (((F_skewbackref05_Hull l).hi).n), pI (((F_skewbackref05_Hull l).hi).d)]) (q_call en_26 rfl (fun w hw => skewbackref05_Hull_ret _ (l) w (SLe.ap hw (SLe.sub Hl sn)))) rfl) rfl ?_))))
       refine sQ (q_eqla (r := (decide ((((F_interval_Hull l).lo).n) = (((F_skewbackref05_Hull l).lo).n)) && (decide ((((F_interval_Hull l).lo).d) = (((F_skewbackref05_Hull l).lo).d)) && (decide ((((F_interval_Hull l).hi).n) = (((F_skewbackref05_Hull l).hi).n)) && decide ((((F_interval_Hull l).hi).d) = (((F_skewbackref05_Hull l).hi).d)))))) rfl rfl (eqOk_of 8 (by decide) eg_31 lw_31 (lv_cons lv_pI (lv_cons lv_pI (lv_cons lv_pI (lv_one lv_pI)))) (lv_cons lv_pI (lv_cons lv_pI (lv_cons lv_pI (lv_one lv_pI)))) (eqP_cons rfl eq_pI (eqP_cons rfl eq_pI (eqP_cons rfl eq_pI (eqP_one eq_pI)))))) rfl (sE rfl (sE rfl (nl J ?_)))
       refine J27 _ _ (by repeat first | exact .refl | refine .cons rfl ?_) ⟨_, s0, ?s6, rfl⟩
       case s6 => exact congrArg Value.bool (and_t h91 rfl)
      ·skip
       refine sB h91 rfl (WL_n rfl (WL_n rfl (WL_n rfl (WL_n rfl (WL_n rfl (sE rfl (sE rfl (nl J ?_))))))))
       refine J27 _ _ (by repeat first | exact .refl | refine .cons rfl ?_) ⟨_, s0, ?s6, rfl⟩
       case s6 => exact congrArg Value.bool (and_f h91)
     ·skip
      rintro g92 M ⟨hg6, rfl⟩
      simp only [setG, hg6]
      clear hg6
      refine W_ret (ret1 rfl (.inr rfl) rfl ?_)
      exact (by subst hr4; exact congrArg (fun r : Bool => (.bool r : Value)) (show _ = (F_skewbacklaw05_IntervalSetsAsSpecified l x y) from bif_f h3 (bif_f h10 (sm_l hCu11 rfl))))
end Go.Proofs.YtnfbkngfdemkpaaGreatDoor
