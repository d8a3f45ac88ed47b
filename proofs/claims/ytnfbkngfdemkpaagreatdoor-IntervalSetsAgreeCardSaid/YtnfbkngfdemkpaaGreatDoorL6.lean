/- Walks: what these functions return. -/
import Derived.Test.YtnfbkngfdemkpaaGreatDoorFa0
import Derived.Test.YtnfbkngfdemkpaaGreatDoorFa2
import Derived.Test.YtnfbkngfdemkpaaGreatDoorFl6
import Derived.Test.YtnfbkngfdemkpaaGreatDoorIa
import Derived.Test.YtnfbkngfdemkpaaGreatDoorIr
import Derived.Test.YtnfbkngfdemkpaaGreatDoorLa
namespace Go.Proofs.YtnfbkngfdemkpaaGreatDoor
open Go.Kn Go.Num
set_option linter.unusedVariables false
set_option linter.unusedSimpArgs false
set_option maxRecDepth 20000
set_option maxHeartbeats 8000000
theorem skewbacklaw05_IntervalSetsAgree_ret (a : Iv) (b : Iv) (c : Iv) :
    Ret Tryz.prog 5 [AV [pI a.lo.n, pI a.lo.d, pI a.hi.n, pI a.hi.d], AV [pI b.lo.n, pI b.lo.d, pI b.hi.n, pI b.hi.d], AV [pI c.lo.n, pI c.lo.d, pI c.hi.n, pI c.hi.d]] (.bool (F_skewbacklaw05_IntervalSetsAgree a b c)) := by
 refine ret_of_W (N := 129) Tryz.func5 rfl rfl (by simp) (fun w0 => ?_)
 simp only [initF, Nat.reduceAdd]
 refine Rs fun K J => WL_r rfl (r_boxp rfl rfl (fun b1 hb1 => WL_r rfl (r_boxp rfl rfl (fun b2 hb2 => WL_r rfl (r_boxp rfl rfl (fun b3 hb3 => sE rfl (nl J (Sq fun K1 J1 => ?_))))))))
 refine W_join [10, 11, 12, 13, 14, 15, 16, 17, 18, 19] (fun g M => (g 19 = .bool ((F_skewbackref05_IsBad a) || ((F_skewbackref05_IsBad b) || (F_skewbackref05_IsBad c)))) ∧ M = [⟨b3, 31, flat [pI c.lo.n, pI c.lo.d, pI c.hi.n, pI c.hi.d]⟩, ⟨b2, 31, flat [pI b.lo.n, pI b.lo.d, pI b.hi.n, pI b.hi.d]⟩, ⟨b1, 31, flat [pI a.lo.n, pI a.lo.d, pI a.hi.n, pI a.hi.d]⟩]) (fun K2 J2 => ?_) ?_
 ·skip
  refine Rk fun K J => sQ (qL ty_31 rfl m2 rfl) rfl (sQ (q_ret en_16 (skewbackref05_IsBad_ret a) rfl) rfl ?_)
  rcases bt (F_skewbackref05_IsBad a) with h6 | h6
  ·skip
   refine sB h6 rfl (WL_n rfl (WL_n rfl (sE rfl (sE rfl (WL_n rfl (WL_n rfl (sE rfl (nl J ?_))))))))
   refine J2 _ _ (by repeat first | exact .refl | refine .cons rfl ?_) ⟨_, s0, ?s19, rfl⟩
   case s19 => exact congrArg Value.bool (or_t h6)
  ·skip
   refine sB h6 rfl (sQ (qL ty_31 rfl m1 rfl) rfl (sQ (q_ret en_16 (skewbackref05_IsBad_ret b) rfl) rfl (sE rfl ?_)))
   rcases bt (F_skewbackref05_IsBad b) with h7 | h7
   ·skip
    refine sB h7 rfl (WL_n rfl (WL_n rfl (sE rfl (nl J ?_))))
    refine J2 _ _ (by repeat first | exact .refl | refine .cons rfl ?_) ⟨_, s0, ?s19, rfl⟩
    case s19 => exact congrArg Value.bool (or_f h6 (or_t h7))
   ·skip
    refine sB h7 rfl (sQ (qL ty_31 rfl m0 rfl) rfl (sQ (q_ret en_16 (skewbackref05_IsBad_ret c) rfl) rfl (sE rfl (nl J ?_))))
    refine J2 _ _ (by repeat first | exact .refl | refine .cons rfl ?_) ⟨_, s0, ?s19, rfl⟩
    case s19 => exact congrArg Value.bool (or_f h6 (or_f h7 rfl))
 ·skip
  rintro g8 M ⟨hg19, rfl⟩
  simp only [setG, hg19]
  clear hg19
  rcases bt ((F_skewbackref05_IsBad a) || ((F_skewbackref05_IsBad b) || (F_skewbackref05_IsBad c))) with h9 | h9
  ·skip
   refine W_t h9 rfl (Rs fun K J => sQ (q_ret en_10 skewbacklaw05_sanity_ret  rfl) rfl (sE rfl (nl J (W_ret (thenK_r (ret1 rfl (.inr rfl) rfl ?_))))))
   exact (by exact congrArg (fun r : Bool => (.bool r : Value)) (show _ = (F_skewbacklaw05_IntervalSetsAgree a b c) from bif_t h9 rfl))
  ·skip
   refine W_f h9 rfl (W_skip (J1 _ _ (Rs fun K J => sQ (qL ty_31 rfl m1 rfl) rfl (sQ (qL ty_31 rfl m0 rfl) rfl ?_))))
   obtain ⟨r10, hr10⟩ := nm ((F_interval_Meet b c).1 : Iv)
   refine sC (.tuple #[AV [pI r10.lo.n, pI r10.lo.d, pI r10.hi.n, pI r10.hi.d], .bool ((F_interval_Meet b c).2)]) en_19 (interval_Meet_ret b c) rfl rfl (by rw [hr10]; first | done | rfl) (sE rfl (sE rfl (sE rfl (sN zp_31 rfl fun b11 hb11 => sS [pI r10.lo.n, pI r10.lo.d, pI r10.hi.n, pI r10.hi.d] ty_31 rfl rfl rfl rfl rfl (.head _) rfl hb11 (sE rfl (nl J (Sq fun K3 J3 => ?_)))))))
   refine W_join [27, 28, 29, 30, 31, 32, 33, 34, 35, 36, 37, 38, 39, 40, 41, 42, 43, 44, 45, 46, 47, 48, 49, 50, 51, 52, 53, 54, 55, 56, 57, 58, 59] (fun g M => (g 59 = .bool (bif (F_interval_Inside a b) then (bif (F_interval_Meet b c).2 then (((F_interval_Inside a c) != (F_interval_Inside a r10)) || ((((F_interval_Cmp b c).1 == 0) != (F_interval_Meet b c).2) || ((F_interval_Cmp b c).1 != (W.neg (F_interval_Cmp c b)).1))) else (((F_interval_Inside a c) != false) || ((((F_interval_Cmp b c).1 == 0) != (F_interval_Meet b c).2) || ((F_interval_Cmp b c).1 != (W.neg (F_interval_Cmp c b)).1)))) else (bif (F_interval_Meet b c).2 then ((false != (F_interval_Inside a r10)) || ((((F_interval_Cmp b c).1 == 0) != (F_interval_Meet b c).2) || ((F_interval_Cmp b c).1 != (W.neg (F_interval_Cmp c b)).1))) else ((((F_interval_Cmp b c).1 == 0) != (F_interval_Meet b c).2) || ((F_interval_Cmp b c).1 != (W.neg (F_interval_Cmp c b)).1))))) ∧ M = [⟨b11, 31, flat [pI r10.lo.n, pI r10.lo.d, pI r10.hi.n, pI r10.hi.d]⟩, ⟨b3, 31, flat [pI c.lo.n, pI c.lo.d, pI c.hi.n, pI c.hi.d]⟩, ⟨b2, 31, flat [pI b.lo.n, pI b.lo.d, pI b.hi.n, pI b.hi.d]⟩, ⟨b1, 31, flat [pI a.lo.n, pI a.lo.d, pI a.hi.n, pI a.hi.d]⟩]) (fun K4 J4 => ?_) ?_
   ·skip
    refine dr (sk (sk (sk (sk (s0))))) [0,4,8,12,16,20,24,28,32,36,40,44,48,52,56,60,64,68,72,76,80,84,88,92,96,100,104,108,112,116,120,124,128] [] mix (by kernel_rfl) (fun K J => pQ rfl (qL ty_31 rfl m3 rfl) (pQ rfl (qL ty_31 rfl m2 rfl) (pQ rfl (q_ret en_21 (interval_Inside_ret a b) rfl) ?_)))
    rcases bt (F_interval_Inside a b) with h22 | h22
    ·skip
     refine pB h22 rfl (pQ rfl (qL ty_31 rfl m3 rfl) (pQ rfl (qL ty_31 rfl m1 rfl) (pQ rfl (q_ret en_21 (interval_Inside_ret a c) rfl) (pE rfl (pE rfl ?_)))))
     rcases bt ((F_interval_Meet b c).2) with h23 | h23
     ·skip
      refine pB h23 rfl (pQ rfl (qL ty_31 rfl m3 rfl) (pQ rfl (qL ty_31 rfl m0 rfl) (pQ rfl (q_ret en_21 (interval_Inside_ret a r10) rfl) (pE rfl (pQ rfl (q_as (v' := .bool ((F_interval_Inside a c) != (F_interval_Inside a r10))) (q_neqb bo_4 rfl rfl) rfl) ?_)))))
      rcases bt ((F_interval_Inside a c) != (F_interval_Inside a r10)) with h24 | h24
      ·skip
       refine pB h24 rfl (PL_n rfl rfl (PL_n rfl rfl (PL_n rfl rfl (PL_n rfl rfl (PL_n rfl rfl (PL_n rfl rfl (pE rfl (pE rfl (PL_n rfl rfl (PL_n rfl rfl (PL_n rfl rfl (PL_n rfl rfl (PL_n rfl rfl (PL_n rfl rfl (PL_n rfl rfl (PL_n rfl rfl (pE rfl (fl J ?_))))))))))))))))))
       refine J4 _ _ (by repeat first | exact .refl | refine .cons rfl ?_) ⟨_, s0, ?s59, rfl⟩
       case s59 => exact congrArg Value.bool (bif_t h22 (bif_t h23 (or_t h24)))
      ·skip
       refine pB h24 rfl (pQ rfl (qL ty_31 rfl m2 rfl) (pQ rfl (qL ty_31 rfl m1 rfl) (pQ rfl (q_ret en_23 (interval_Cmp_ret b c) rfl) (pE rfl (pE rfl (pQ rfl (q_as (v' := .bool (((F_interval_Cmp b c).1 == 0) != (F_interval_Meet b c).2)) (q_neqb bo_4 rfl rfl) rfl) (pE rfl ?_)))))))
       rcases bt (((F_interval_Cmp b c).1 == 0) != (F_interval_Meet b c).2) with h25 | h25
       ·skip
        refine pB h25 rfl (PL_n rfl rfl (PL_n rfl rfl (PL_n rfl rfl (PL_n rfl rfl (PL_n rfl rfl (PL_n rfl rfl (PL_n rfl rfl (PL_n rfl rfl (pE rfl (fl J ?_))))))))))
        refine J4 _ _ (by repeat first | exact .refl | refine .cons rfl ?_) ⟨_, s0, ?s59, rfl⟩
        case s59 => exact congrArg Value.bool (bif_t h22 (bif_t h23 (or_f h24 (or_t h25))))
       ·skip
        refine pB h25 rfl (pQ rfl (qL ty_31 rfl m2 rfl) (pQ rfl (qL ty_31 rfl m1 rfl) (pQ rfl (q_ret en_23 (interval_Cmp_ret b c) rfl) (pQ rfl (qL ty_31 rfl m1 rfl) (pQ rfl (qL ty_31 rfl m2 rfl) (pQ rfl (q_ret en_23 (interval_Cmp_ret c b) rfl) (pV (.int .i64 ((W.neg (F_interval_Cmp c b)).1)) rfl rfl (pE rfl (pE rfl (fl J ?_))))))))))
        refine J4 _ _ (by repeat first | exact .refl | refine .cons rfl ?_) ⟨_, s0, ?s59, rfl⟩
        case s59 => exact congrArg Value.bool (bif_t h22 (bif_t h23 (or_f h24 (or_f h25 rfl))))
     ·skip
      refine pB h23 rfl (PL_n rfl rfl (PL_n rfl rfl (PL_n rfl rfl (pE rfl (pQ rfl (q_as (v' := .bool ((F_interval_Inside a c) != false)) (q_neqb bo_4 rfl rfl) rfl) ?_)))))
      rcases bt ((F_interval_Inside a c) != false) with h26 | h26
      ·skip
       refine pB h26 rfl (PL_n rfl rfl (PL_n rfl rfl (PL_n rfl rfl (PL_n rfl rfl (PL_n rfl rfl (PL_n rfl rfl (pE rfl (pE rfl (PL_n rfl rfl (PL_n rfl rfl (PL_n rfl rfl (PL_n rfl rfl (PL_n rfl rfl (PL_n rfl rfl (PL_n rfl rfl (PL_n rfl rfl (pE rfl (fl J ?_))))))))))))))))))
       refine J4 _ _ (by repeat first | exact .refl | refine .cons rfl ?_) ⟨_, s0, ?s59, rfl⟩
       case s59 => exact congrArg Value.bool (bif_t h22 (bif_f h23 (or_t h26)))
      ·skip
       refine pB h26 rfl (pQ rfl (qL ty_31 rfl m2 rfl) (pQ rfl (qL ty_31 rfl m1 rfl) (pQ rfl (q_ret en_23 (interval_Cmp_ret b c) rfl) (pE rfl (pE rfl (pQ rfl (q_as (v' := .bool (((F_interval_Cmp b c).1 == 0) != (F_interval_Meet b c).2)) (q_neqb bo_4 rfl rfl) rfl) (pE rfl ?_)))))))
       rcases bt (((F_interval_Cmp b c).1 == 0) != (F_interval_Meet b c).2) with h27 | h27
       ·skip
        refine pB h27 rfl (PL_n rfl rfl (PL_n rfl rfl (PL_n rfl rfl (PL_n rfl rfl (PL_n rfl rfl (PL_n rfl rfl (PL_n rfl rfl (PL_n rfl rfl (pE rfl (fl J ?_))))))))))
        refine J4 _ _ (by repeat first | exact .refl | refine .cons rfl ?_) ⟨_, s0, ?s59, rfl⟩
        case s59 => exact congrArg Value.bool (bif_t h22 (bif_f h23 (or_f h26 (or_t h27))))
       ·skip
        refine pB h27 rfl (pQ rfl (qL ty_31 rfl m2 rfl) (pQ rfl (qL ty_31 rfl m1 rfl) (pQ rfl (q_ret en_23 (interval_Cmp_ret b c) rfl) (pQ rfl (qL ty_31 rfl m1 rfl) (pQ rfl (qL ty_31 rfl m2 rfl) (pQ rfl (q_ret en_23 (interval_Cmp_ret c b) rfl) (pV (.int .i64 ((W.neg (F_interval_Cmp c b)).1)) rfl rfl (pE rfl (pE rfl (fl J ?_))))))))))
        refine J4 _ _ (by repeat first | exact .refl | refine .cons rfl ?_) ⟨_, s0, ?s59, rfl⟩
        case s59 => exact congrArg Value.bool (bif_t h22 (bif_f h23 (or_f h26 (or_f h27 rfl))))
    ·skip
     refine pB h22 rfl (PL_n rfl rfl (PL_n rfl rfl (PL_n rfl rfl (pE rfl (pE rfl ?_)))))
     rcases bt ((F_interval_Meet b c).2) with h28 | h28
     ·skip
      refine pB h28 rfl (pQ rfl (qL ty_31 rfl m3 rfl) (pQ rfl (qL ty_31 rfl m0 rfl) (pQ rfl (q_ret en_21 (interval_Inside_ret a r10) rfl) (pE rfl (pQ rfl (q_as (v' := .bool (false != (F_interval_Inside a r10))) (q_neqb bo_4 rfl rfl) rfl) ?_)))))
      rcases bt (false != (F_interval_Inside a r10)) with h29 | h29
      ·skip
       refine pB h29 rfl (PL_n rfl rfl (PL_n rfl rfl (PL_n rfl rfl (PL_n rfl rfl (PL_n rfl rfl (PL_n rfl rfl (pE rfl (pE rfl (PL_n rfl rfl (PL_n rfl rfl (PL_n rfl rfl (PL_n rfl rfl (PL_n rfl rfl (PL_n rfl rfl (PL_n rfl rfl (PL_n rfl rfl (pE rfl (fl J ?_))))))))))))))))))
       refine J4 _ _ (by repeat first | exact .refl | refine .cons rfl ?_) ⟨_, s0, ?s59, rfl⟩
       case s59 => exact congrArg Value.bool (bif_f h22 (bif_t h28 (or_t h29)))
      ·skip
       refine pB h29 rfl (pQ rfl (qL ty_31 rfl m2 rfl) (pQ rfl (qL ty_31 rfl m1 rfl) (pQ rfl (q_ret en_23 (interval_Cmp_ret b c) rfl) (pE rfl (pE rfl (pQ rfl (q_as (v' := .bool (((F_interval_Cmp b c).1 == 0) != (F_interval_Meet b c).2)) (q_neqb bo_4 rfl rfl) rfl) (pE rfl ?_)))))))
       rcases bt (((F_interval_Cmp b c).1 == 0) != (F_interval_Meet b c).2) with h30 | h30
       ·skip
        refine pB h30 rfl (PL_n rfl rfl (PL_n rfl rfl (PL_n rfl rfl (PL_n rfl rfl (PL_n rfl rfl (PL_n rfl rfl (PL_n rfl rfl (PL_n rfl rfl (pE rfl (fl J ?_))))))))))
        refine J4 _ _ (by repeat first | exact .refl | refine .cons rfl ?_) ⟨_, s0, ?s59, rfl⟩
        case s59 => exact congrArg Value.bool (bif_f h22 (bif_t h28 (or_f h29 (or_t h30))))
       ·skip
        refine pB h30 rfl (pQ rfl (qL ty_31 rfl m2 rfl) (pQ rfl (qL ty_31 rfl m1 rfl) (pQ rfl (q_ret en_23 (interval_Cmp_ret b c) rfl) (pQ rfl (qL ty_31 rfl m1 rfl) (pQ rfl (qL ty_31 rfl m2 rfl) (pQ rfl (q_ret en_23 (interval_Cmp_ret c b) rfl) (pV (.int .i64 ((W.neg (F_interval_Cmp c b)).1)) rfl rfl (pE rfl (pE rfl (fl J ?_))))))))))
        refine J4 _ _ (by repeat first | exact .refl | refine .cons rfl ?_) ⟨_, s0, ?s59, rfl⟩
        case s59 => exact congrArg Value.bool (bif_f h22 (bif_t h28 (or_f h29 (or_f h30 rfl))))
     ·skip
      refine pB h28 rfl (PL_n rfl rfl (PL_n rfl rfl (PL_n rfl rfl (pE rfl (pQ rfl (q_as (v' := .bool false) (q_neqb bo_4 rfl rfl) rfl) (pE rfl (pQ rfl (qL ty_31 rfl m2 rfl) (pQ rfl (qL ty_31 rfl m1 rfl) (pQ rfl (q_ret en_23 (interval_Cmp_ret b c) rfl) (pE rfl (pE rfl (pQ rfl (q_as (v' := .bool (((F_interval_Cmp b c).1 == 0) != (F_interval_Meet b c).2)) (q_neqb bo_4 rfl rfl) rfl) (pE rfl ?_)))))))))))))
      rcases bt (((F_interval_Cmp b c).1 == 0) != (F_interval_Meet b c).2) with h31 | h31
      ·skip
       refine pB h31 rfl (PL_n rfl rfl (PL_n rfl rfl (PL_n rfl rfl (PL_n rfl rfl (PL_n rfl rfl (PL_n rfl rfl (PL_n rfl rfl (PL_n rfl rfl (pE rfl (fl J ?_))))))))))
       refine J4 _ _ (by repeat first | exact .refl | refine .cons rfl ?_) ⟨_, s0, ?s59, rfl⟩
       case s59 => exact congrArg Value.bool (bif_f h22 (bif_f h28 (or_t h31)))
      ·skip
       refine pB h31 rfl (pQ rfl (qL ty_31 rfl m2 rfl) (pQ rfl (qL ty_31 rfl m1 rfl) (pQ rfl (q_ret en_23 (interval_Cmp_ret b c) rfl) (pQ rfl (qL ty_31 rfl m1 rfl) (pQ rfl (qL ty_31 rfl m2 rfl) (pQ rfl (q_ret en_23 (interval_Cmp_ret c b) rfl) (pV (.int .i64 ((W.neg (F_interval_Cmp c b)).1)) rfl rfl (pE rfl (pE rfl (fl J ?_))))))))))
       refine J4 _ _ (by repeat first | exact .refl | refine .cons rfl ?_) ⟨_, s0, ?s59, rfl⟩
       case s59 => exact congrArg Value.bool (bif_f h22 (bif_f h28 (or_f h31 rfl)))
   ·skip
    rintro g32 M ⟨hg59, rfl⟩
    simp only [setG, hg59]
    clear hg59
    rcases bt (bif (F_interval_Inside a b) then (bif (F_interval_Meet b c).2 then (((F_interval_Inside a c) != (F_interval_Inside a r10)) || ((((F_interval_Cmp b c).1 == 0) != (F_interval_Meet b c).2) || ((F_interval_Cmp b c).1 != (W.neg (F_interval_Cmp c b)).1))) else (((F_interval_Inside a c) != false) || ((((F_interval_Cmp b c).1 == 0) != (F_interval_Meet b c).2) || ((F_interval_Cmp b c).1 != (W.neg (F_interval_Cmp c b)).1)))) else (bif (F_interval_Meet b c).2 then ((false != (F_interval_Inside a r10)) || ((((F_interval_Cmp b c).1 == 0) != (F_interval_Meet b c).2) || ((F_interval_Cmp b c).1 != (W.neg (F_interval_Cmp c b)).1))) else ((((F_interval_Cmp b c).1 == 0) != (F_interval_Meet b c).2) || ((F_interval_Cmp b c).1 != (W.neg (F_interval_Cmp c b)).1)))) with h33 | h33
    ·skip
     refine W_t h33 rfl (Rs fun K J => sE rfl (nl J (W_ret (thenK_r (ret1 rfl (.inr rfl) rfl ?_)))))
     exact (by subst hr10; exact congrArg (fun r : Bool => (.bool r : Value)) (show _ = (F_skewbacklaw05_IntervalSetsAgree a b c) from bif_f h9 (bif_t h33 rfl)))
    ·skip
     refine W_f h33 rfl (W_skip (J3 _ _ (Rs fun K J => sQ (qL ty_31 rfl m3 rfl) rfl (sQ (qL ty_31 rfl m2 rfl) rfl (WL_r rfl (r_bsliceA [[pI a.lo.n, pI a.lo.d, pI a.hi.n, pI a.hi.d], [pI b.lo.n, pI b.lo.d, pI b.hi.n, pI b.hi.d]] [pI a.lo.n, pI a.lo.d, pI a.hi.n, pI a.hi.d, pI b.lo.n, pI b.lo.d, pI b.hi.n, pI b.hi.d] us_22 z_31 sz_31 rfl (by decide) rfl rfl ⟨rfl, rfl, rfl, rfl, rfl, rfl, trivial⟩ rfl (fun b34 hb34 => ?_)))))))
     obtain ⟨r35, hr35⟩ := nm ((F_interval_Hull [a, b]) : Iv)
     refine sQ (q_as (v' := AV [pI r35.lo.n, pI r35.lo.d, pI r35.hi.n, pI r35.hi.d]) (q_call en_25 rfl (fun w hw => interval_Hull_ret _ ([a, b]) w (SLe.ap hw (SLe.lit (e := elIv) (l := [a, b]) m0 rfl (Nat.le_of_ble_eq_true rfl) rfl)))) (by rw [hr35]; first | done | rfl)) rfl (sN zp_31 rfl fun b36 hb36 => sS [pI r35.lo.n, pI r35.lo.d, pI r35.hi.n, pI r35.hi.d] ty_31 rfl rfl rfl rfl rfl (.head _) rfl hb36 (nl J (Sq fun K5 J5 => ?_)))
     refine W_join [64, 65, 66, 67, 68, 69, 70, 71, 72, 73, 74, 75, 76, 77, 78, 79, 80, 81, 82, 83, 84, 85, 86, 87, 88, 89, 90, 91, 92, 93, 94, 95, 96, 97, 98] (fun g M => (g 98 = .bool (!(F_interval_Inside a r35) || (!(F_interval_Inside b r35) || (!(decide ((((F_interval_Hull [b, a]).lo).n) = r35.lo.n) && (decide ((((F_interval_Hull [b, a]).lo).d) = r35.lo.d) && (decide ((((F_interval_Hull [b, a]).hi).n) = r35.hi.n) && decide ((((F_interval_Hull [b, a]).hi).d) = r35.hi.d)))) || (!(decide ((((F_interval_Hull [(F_interval_Hull [a, b]), c]).lo).n) = (((F_interval_Hull [a, (F_interval_Hull [b, c])]).lo).n)) && (decide ((((F_interval_Hull [(F_interval_Hull [a, b]), c]).lo).d) = (((F_interval_Hull [a, (F_interval_Hull [b, c])]).lo).d)) && (decide ((((F_interval_Hull [(F_interval_Hull [a, b]), c]).hi).n) = (((F_interval_Hull [a, (F_interval_Hull [b, c])]).hi).n)) && decide ((((F_interval_Hull [(F_interval_Hull [a, b]), c]).hi).d) = (((F_interval_Hull [a, (F_interval_Hull [b, c])]).hi).d)))))))))) ∧ M = [⟨b36, 31, flat [pI r35.lo.n, pI r35.lo.d, pI r35.hi.n, pI r35.hi.d]⟩, ⟨b34, 31, flat [pI a.lo.n, pI a.lo.d, pI a.hi.n, pI a.hi.d, pI b.lo.n, pI b.lo.d, pI b.hi.n, pI b.hi.d]⟩, ⟨b11, 31, flat [pI r10.lo.n, pI r10.lo.d, pI r10.hi.n, pI r10.hi.d]⟩, ⟨b3, 31, flat [pI c.lo.n, pI c.lo.d, pI c.hi.n, pI c.hi.d]⟩, ⟨b2, 31, flat [pI b.lo.n, pI b.lo.d, pI b.hi.n, pI b.hi.d]⟩, ⟨b1, 31, flat [pI a.lo.n, pI a.lo.d, pI a.hi.n, pI a.hi.d]⟩]) (fun K6 J6 => ?_) ?_
     ·skip
      refine W_draw (sk (sk (sk (sk (sk (sk (s0))))))) (.quiet 0 [2,3,4,5,6,7,8,9,10,11,12,13,14,15,16,17,18,19,20,21,22,23,24,25,26,27,28,29,30,31,32,33,34] (.quiet 1 [2,3,4,5,6,7,8,9,10,11,12,13,14,15,16,17,18,19,20,21,22,23,24,25,26,27,28,29,30,31,32,33,34] (.quiet 2 [3,4,5,6,7,8,9,10,11,12,13,14,15,16,17,18,19,20,21,22,23,24,25,26,27,28,29,30,31,32,33,34] (.quiet 3 [4,5,6,7,8,9,10,11,12,13,14,15,16,17,18,19,20,21,22,23,24,25,26,27,28,29,30,31,32,33,34] (.quiet 4 [5,6,7,8,9,10,11,12,13,14,15,16,17,18,19,20,21,22,23,24,25,26,27,28,29,30,31,32,33,34] (.quiet 5 [7,8,9,10,11,12,13,14,15,16,17,18,19,20,21,22,23,24,25,26,27,28,29,30,31,32,33,34] (.quiet 6 [7,8,9,10,11,12,13,14,15,16,17,18,19,20,21,22,23,24,25,26,27,28,29,30,31,32,33,34] (.quiet 7 [8,9,10,11,12,13,14,15,16,17,18,19,20,21,22,23,24,25,26,27,28,29,30,31,32,33,34] (.quiet 8 [9,10,11,12,13,14,15,16,17,18,19,20,21,22,23,24,25,26,27,28,29,30,31,32,33,34] (.quiet 9 [10,11,12,13,14,15,16,17,18,19,20,21,22,23,24,25,26,27,28,29,30,31,32,33,34] (.quiet 10 [11,12,13,14,15,16,17,18,19,20,21,22,23,24,25,26,27,28,29,30,31,32,33,34] (.quiet 11 [13,14,16,17,18,19,20,21,22,23,24,25,26,27,28,29,30,31,32,33,34] (.quiet 12 [13,14,16,17,18,19,20,21,22,23,24,25,26,27,28,29,30,31,32,33,34] (.quiet 15 [16,17,18,19,20,21,22,23,24,25,26,27,28,29,30,31,32,33,34] (.only 13 (.quiet 14 [16,17,18,19,20,21,22,23,24,25,26,27,28,29,30,31,32,33,34] (.quiet 16 [17,18,19,20,21,22,23,24,25,26,27,28,29,30,31,32,33,34] (.quiet 17 [18,19,20,21,22,23,24,25,26,27,28,29,30,31,32,33,34] (.quiet 18 [19,20,21,22,23,24,25,26,27,28,29,30,31,32,33,34] (.quiet 19 [21,22,24,25,30,31,32,33,34] (.quiet 20 [21,22,24,25,30,31,32,33,34] (.quiet 23 [24,25,30,31,32,33,34] (.quiet 26 [31,32,33,34] (.quiet 27 [29,30,31,32,33,34] (.quiet 28 [29,30,31,32,33,34] (.both 21 (.quiet 22 [24,25,30,31,32,33,34] (.both 24 (.quiet 25 [30,31,32,33,34] (.only 29 (.quiet 30 [31,32,33,34] (.only 31 (.quiet 32 [33,34] (.quiet 33 [34] (.quiet 34 [] (.fin)))))))) 29 (.only 24 (.quiet 25 [30,31,32,33,34] (.quiet 30 [31,32,33,34] (.only 31 (.quiet 32 [33,34] (.quiet 33 [34] (.quiet 34 [] (.fin)))))))))) 29 (.only 21 (.quiet 22 [24,25,30,31,32,33,34] (.only 24 (.quiet 25 [30,31,32,33,34] (.quiet 30 [31,32,33,34] (.only 31 (.quiet 32 [33,34] (.quiet 33 [34] (.quiet 34 [] (.fin)))))))))))))))))))))))))))))))))))) [0,1,2,3,4,5,6,7,8,9,10,11,12,13,14,15,16,17,18,19,20,21,22,23,24,25,26,27,28,29,30,31,32,33,34] mix (by kernel_rfl) (by kernel_rfl) (fun K J => pQ rfl (qL ty_31 rfl m5 rfl) (pQ rfl (qL ty_31 rfl m0 rfl) (pQ rfl (q_ret en_21 (interval_Inside_ret a r35) rfl) (pE rfl ?_))))
      rcases bt (F_interval_Inside a r35) with h52 | h52
      ·skip
       refine pB (not_f h52) rfl (pQ rfl (qL ty_31 rfl m4 rfl) (pQ rfl (qL ty_31 rfl m0 rfl) (pQ rfl (q_ret en_21 (interval_Inside_ret b r35) rfl) (pE rfl (pE rfl ?_)))))
       rcases bt (F_interval_Inside b r35) with h53 | h53
       ·skip
        refine pB (not_f h53) rfl (pQ rfl (qL ty_31 rfl m4 rfl) (pQ rfl (qL ty_31 rfl m5 rfl) (pQ rfl (qL ty_31 rfl m0 rfl) (PL_o rfl rfl (r_bsliceA [[pI b.lo.n, pI b.lo.d, pI b.hi.n, pI b.hi.d], [pI a.lo.n, pI a.lo.d, pI a.hi.n, pI a.hi.d]] [pI b.lo.n, pI b.lo.d, pI b.hi.n, pI b.hi.d, pI a.lo.n, pI a.lo.d, pI a.hi.n, pI a.hi.d] us_22 z_31 sz_31 rfl (by decide) rfl rfl ⟨rfl, rfl, rfl, rfl, rfl, rfl, trivial⟩ rfl (fun b54 hb54 => ⟨(fun _ => sd s0), (sd s0), pQ rfl (q_as (v' := AV [pI (((F_interval_Hull [b, a]).lo).n), pI (((F_interval_Hull [b, a]).lo).d), pI (((F_interval_Hull [b, a]).hi).n), pI (((F_interval_Hull [b, a]).hi).d)]) (q_call en_25 rfl (fun w hw => interval_Hull_ret _ ([b, a]) w (SLe.ap hw (SLe.lit (e := elIv) (l := [b, a]) m0 rfl (Nat.le_of_ble_eq_true rfl) rfl)))) rfl) ?_⟩))))))
        refine pQ rfl (q_neqa (r := (decide ((((F_interval_Hull [b, a]).lo).n) = r35.lo.n) && (decide ((((F_interval_Hull [b, a]).lo).d) = r35.lo.d) && (decide ((((F_interval_Hull [b, a]).hi).n) = r35.hi.n) && decide ((((F_interval_Hull [b, a]).hi).d) = r35.hi.d))))) rfl rfl (eqOk_of 8 (by decide) eg_31 lw_31 (lv_cons lv_pI (lv_cons lv_pI (lv_cons lv_pI (lv_one lv_pI)))) (lv_cons lv_pI (lv_cons lv_pI (lv_cons lv_pI (lv_one lv_pI)))) (eqP_cons rfl eq_pI (eqP_cons rfl eq_pI (eqP_cons rfl eq_pI (eqP_one eq_pI)))))) (pE rfl ?_)
        rcases bt (decide ((((F_interval_Hull [b, a]).lo).n) = r35.lo.n) && (decide ((((F_interval_Hull [b, a]).lo).d) = r35.lo.d) && (decide ((((F_interval_Hull [b, a]).hi).n) = r35.hi.n) && decide ((((F_interval_Hull [b, a]).hi).d) = r35.hi.d)))) with h55 | h55
        ·skip
         refine pB (not_f h55) rfl (pQ rfl (qL ty_31 rfl m6 rfl) (pQ rfl (qL ty_31 rfl m5 rfl) (pQ rfl (qL ty_31 rfl m4 rfl) (pQ rfl (qL ty_31 rfl m6 rfl) (pQ rfl (qL ty_31 rfl m5 rfl) (pQ rfl (qL ty_31 rfl m4 rfl) ?_))))))
         refine PL_b ?_ ?_
         ·skip
          refine PL_o rfl rfl (r_bsliceA [[pI a.lo.n, pI a.lo.d, pI a.hi.n, pI a.hi.d], [pI b.lo.n, pI b.lo.d, pI b.hi.n, pI b.hi.d]] [pI a.lo.n, pI a.lo.d, pI a.hi.n, pI a.hi.d, pI b.lo.n, pI b.lo.d, pI b.hi.n, pI b.hi.d] us_22 z_31 sz_31 rfl (by decide) rfl rfl ⟨rfl, rfl, rfl, rfl, rfl, rfl, trivial⟩ rfl (fun b56 hb56 => ⟨(fun _ => sd s0), (sd (sd s0)), pQ rfl (q_as (v' := AV [pI (((F_interval_Hull [a, b]).lo).n), pI (((F_interval_Hull [a, b]).lo).d), pI (((F_interval_Hull [a, b]).hi).n), pI (((F_interval_Hull [a, b]).hi).d)]) (q_call en_25 rfl (fun w hw => interval_Hull_ret _ ([a, b]) w (SLe.ap hw (SLe.lit (e := elIv) (l := [a, b]) m0 rfl (Nat.le_of_ble_eq_true rfl) rfl)))) rfl) ?_⟩))
          refine PL_b ?_ ?_
          ·skip
           refine PL_o rfl rfl (r_bsliceA [[pI (((F_interval_Hull [a, b]).lo).n), pI (((F_interval_Hull [a, b]).lo).d), pI (((F_interval_Hull [a, b]).hi).n), pI (((F_interval_Hull [a, b]).hi).d)], [pI c.lo.n, pI c.lo.d, pI c.hi.n, pI c.hi.d]] [pI (((F_interval_Hull [a, b]).lo).n), pI (((F_interval_Hull [a, b]).lo).d), pI (((F_interval_Hull [a, b]).hi).n), pI (((F_interval_Hull [a, b]).hi).d), pI c.lo.n, pI c.lo.d, pI c.hi.n, pI c.hi.d] us_22 z_31 sz_31 rfl (by decide) rfl rfl ⟨rfl, rfl, rfl, rfl, rfl, rfl, trivial⟩ rfl (fun b57 hb57 => ⟨(fun _ => sd s0), (sd (sd (sd s0))), pQ rfl (q_as (v' := AV [pI (((F_interval_Hull [(F_interval_Hull [a, b]), c]).lo).n), pI (((F_interval_Hull [(F_interval_Hull [a, b]), c]).lo).d), pI (((F_interval_Hull [(F_interval_Hull [a, b]), c]).hi).n), pI (((F_interval_Hull [(F_interval_Hull [a, b]), c]).hi).d)]) (q_call en_25 rfl (fun w hw => interval_Hull_ret _ ([(F_interval_Hull [a, b]), c]) w (SLe.ap hw (SLe.lit (e := elIv) (l := [(F_interval_Hull [a, b]), c]) m0 rfl (Nat.le_of_ble_eq_true rfl) rfl)))) rfl) (PL_o rfl rfl (r_bsliceA [[pI b.lo.n, pI b.lo.d, pI b.hi.n, pI b.hi.d], [pI c.lo.n, pI c.lo.d, pI c.hi.n, pI c.hi.d]] [pI b.lo.n, pI b.lo.d, pI b.hi.n, pI b.hi.d, pI c.lo.n, pI c.lo.d, pI c.hi.n, pI c.hi.d] us_22 z_31 sz_31 rfl (by decide) rfl rfl ⟨rfl, rfl, rfl, rfl, rfl, rfl, trivial⟩ rfl (fun b58 hb58 => ⟨(fun _ => sd s0), (sd (sd (sd (sd s0)))), pQ rfl (q_as (v' := AV [pI (((F_interval_Hull [b, c]).lo).n), pI (((F_interval_Hull [b, c]).lo).d), pI (((F_interval_Hull [b, c]).hi).n), pI (((F_interval_Hull [b, c]).hi).d)]) (q_call en_25 rfl (fun w hw => interval_Hull_ret _ ([b, c]) w (SLe.ap hw (SLe.lit (e := elIv) (l := [b, c]) m0 rfl (Nat.le_of_ble_eq_true rfl) rfl)))) rfl) (PL_o rfl rfl (r_bsliceA [[pI a.lo.n, pI a.lo.d, pI a.hi.n, pI a.hi.d], [pI (((F_interval_Hull [b, c]).lo).n), pI (((F_interval_Hull [b, c]).lo).d), pI (((F_interval_Hull [b, c]).hi).n), pI (((F_interval_Hull [b, c]).hi).d)]] [pI a.lo.n, pI a.lo.d, pI a.hi.n, pI a.hi.d, pI (((F_interval_Hull [b, c]).lo).n), pI (((F_interval_Hull [b, c]).lo).d), pI (((F_interval_Hull [b, c]).hi).n), pI (((F_interval_Hull [b, c]).hi).d)] us_22 z_31 sz_31 rfl (by decide) rfl rfl ⟨rfl, rfl, rfl, rfl, rfl, rfl, trivial⟩ rfl (fun b59 hb59 => ⟨(fun _ => sd s0), (sd (sd (sd (sd (sd s0))))), pQ rfl (q_as (v' := AV [pI (((F_interval_Hull [a, (F_interval_Hull [b, c])]).lo).n), pI (((F_interval_Hull [a, (F_interval_Hull [b, c])]).lo).d), pI (((F_interval_Hull [a, (F_interval_Hull [b, c])]).hi).n), pI (((F_interval_Hull [a, (F_interval_Hull [b, c])]).hi).d)]) (q_call en_25 rfl (fun w hw => interval_Hull_ret _ ([a, (F_interval_Hull [b, c])]) w (SLe.ap hw (SLe.lit (e := elIv) (l := [a, (F_interval_Hull [b, c])]) m0 rfl (Nat.le_of_ble_eq_true rfl) rfl)))) rfl) ?_⟩)))⟩)))⟩))
           refine pQ rfl (q_neqa (r := (decide ((((F_interval_Hull [(F_interval_Hull [a, b]), c]).lo).n) = (((F_interval_Hull [a, (F_interval_Hull [b, c])]).lo).n)) && (decide ((((F_interval_Hull [(F_interval_Hull [a, b]), c]).lo).d) = (((F_interval_Hull [a, (F_interval_Hull [b, c])]).lo).d)) && (decide ((((F_interval_Hull [(F_interval_Hull [a, b]), c]).hi).n) = (((F_interval_Hull [a, (F_interval_Hull [b, c])]).hi).n)) && decide ((((F_interval_Hull [(F_interval_Hull [a, b]), c]).hi).d) = (((F_interval_Hull [a, (F_interval_Hull [b, c])]).hi).d)))))) rfl rfl (eqOk_of 8 (by decide) eg_31 lw_31 (lv_cons lv_pI (lv_cons lv_pI (lv_cons lv_pI (lv_one lv_pI)))) (lv_cons lv_pI (lv_cons lv_pI (lv_cons lv_pI (lv_one lv_pI)))) (eqP_cons rfl eq_pI (eqP_cons rfl eq_pI (eqP_cons rfl eq_pI (eqP_one eq_pI)))))) (pE rfl (fl J ?_))
           refine J6 _ _ (by repeat first | exact .refl | refine .cons rfl ?_) ⟨_, (sd (sd (sd (sd (sd (s0)))))), ?s98, rfl⟩
           case s98 => exact congrArg Value.bool (nor_t h52 (nor_t h53 (nor_t h55 rfl)))
          ·skip
           refine PL_o rfl rfl (r_bsliceA [[pI b.lo.n, pI b.lo.d, pI b.hi.n, pI b.hi.d], [pI c.lo.n, pI c.lo.d, pI c.hi.n, pI c.hi.d]] [pI b.lo.n, pI b.lo.d, pI b.hi.n, pI b.hi.d, pI c.lo.n, pI c.lo.d, pI c.hi.n, pI c.hi.d] us_22 z_31 sz_31 rfl (by decide) rfl rfl ⟨rfl, rfl, rfl, rfl, rfl, rfl, trivial⟩ rfl (fun b60 hb60 => ⟨(fun _ => sd s0), (sd (sd (sd s0))), PL_o rfl rfl (r_bsliceA [[pI (((F_interval_Hull [a, b]).lo).n), pI (((F_interval_Hull [a, b]).lo).d), pI (((F_interval_Hull [a, b]).hi).n), pI (((F_interval_Hull [a, b]).hi).d)], [pI c.lo.n, pI c.lo.d, pI c.hi.n, pI c.hi.d]] [pI (((F_interval_Hull [a, b]).lo).n), pI (((F_interval_Hull [a, b]).lo).d), pI (((F_interval_Hull [a, b]).hi).n), pI (((F_interval_Hull [a, b]).hi).d), pI c.lo.n, pI c.lo.d, pI c.hi.n, pI c.hi.d] us_22 z_31 sz_31 rfl (by decide) rfl rfl ⟨rfl, rfl, rfl, rfl, rfl, rfl, trivial⟩ rfl (fun b61 hb61 => ⟨(fun _ => sd s0), (sd (sd (sd (sd s0)))), pQ rfl (q_as (v' := AV [pI (((F_interval_Hull [(F_interval_Hull [a, b]), c]).lo).n), pI (((F_interval_Hull [(F_interval_Hull [a, b]), c]).lo).d), pI (((F_interval_Hull [(F_interval_Hull [a, b]), c]).hi).n), pI (((F_interval_Hull [(F_interval_Hull [a, b]), c]).hi).d)]) (q_call en_25 rfl (fun w hw => interval_Hull_ret _ ([(F_interval_Hull [a, b]), c]) w (SLe.ap hw (SLe.lit (e := elIv) (l := [(F_interval_Hull [a, b]), c]) m0 rfl (Nat.le_of_ble_eq_true rfl) rfl)))) rfl) (pQ rfl (q_as (v' := AV [pI (((F_interval_Hull [b, c]).lo).n), pI (((F_interval_Hull [b, c]).lo).d), pI (((F_interval_Hull [b, c]).hi).n), pI (((F_interval_Hull [b, c]).hi).d)]) (q_call en_25 rfl (fun w hw => interval_Hull_ret _ ([b, c]) w (SLe.ap hw (SLe.lit (e := elIv) (l := [b, c]) m1 rfl (Nat.le_of_ble_eq_true rfl) rfl)))) rfl) (PL_o rfl rfl (r_bsliceA [[pI a.lo.n, pI a.lo.d, pI a.hi.n, pI a.hi.d], [pI (((F_interval_Hull [b, c]).lo).n), pI (((F_interval_Hull [b, c]).lo).d), pI (((F_interval_Hull [b, c]).hi).n), pI (((F_interval_Hull [b, c]).hi).d)]] [pI a.lo.n, pI a.lo.d, pI a.hi.n, pI a.hi.d, pI (((F_interval_Hull [b, c]).lo).n), pI (((F_interval_Hull [b, c]).lo).d), pI (((F_interval_Hull [b, c]).hi).n), pI (((F_interval_Hull [b, c]).hi).d)] us_22 z_31 sz_31 rfl (by decide) rfl rfl ⟨rfl, rfl, rfl, rfl, rfl, rfl, trivial⟩ rfl (fun b62 hb62 => ⟨(fun _ => sd s0), (sd (sd (sd (sd (sd s0))))), pQ rfl (q_as (v' := AV [pI (((F_interval_Hull [a, (F_interval_Hull [b, c])]).lo).n), pI (((F_interval_Hull [a, (F_interval_Hull [b, c])]).lo).d), pI (((F_interval_Hull [a, (F_interval_Hull [b, c])]).hi).n), pI (((F_interval_Hull [a, (F_interval_Hull [b, c])]).hi).d)]) (q_call en_25 rfl (fun w hw => interval_Hull_ret _ ([a, (F_interval_Hull [b, c])]) w (SLe.ap hw (SLe.lit (e := elIv) (l := [a, (F_interval_Hull [b, c])]) m0 rfl (Nat.le_of_ble_eq_true rfl) rfl)))) rfl) ?_⟩))))⟩))⟩))
           refine pQ rfl (q_neqa (r := (decide ((((F_interval_Hull [(F_interval_Hull [a, b]), c]).lo).n) = (((F_interval_Hull [a, (F_interval_Hull [b, c])]).lo).n)) && (decide ((((F_interval_Hull [(F_interval_Hull [a, b]), c]).lo).d) = (((F_interval_Hull [a, (F_interval_Hull [b, c])]).lo).d)) && (decide ((((F_interval_Hull [(F_interval_Hull [a, b]), c]).hi).n) = (((F_interval_Hull [a, (F_interval_Hull [b, c])]).hi).n)) && decide ((((F_interval_Hull [(F_interval_Hull [a, b]), c]).hi).d) = (((F_interval_Hull [a, (F_interval_Hull [b, c])]).hi).d)))))) rfl rfl (eqOk_of 8 (by decide) eg_31 lw_31 (lv_cons lv_pI (lv_cons lv_pI (lv_cons lv_pI (lv_one lv_pI)))) (lv_cons lv_pI (lv_cons lv_pI (lv_cons lv_pI (lv_one lv_pI)))) (eqP_cons rfl eq_pI (eqP_cons rfl eq_pI (eqP_cons rfl eq_pI (eqP_one eq_pI)))))) (pE rfl (fl J ?_))
           refine J6 _ _ (by repeat first | exact .refl | refine .cons rfl ?_) ⟨_, (sd (sd (sd (sd (sd (s0)))))), ?s98, rfl⟩
           case s98 => exact congrArg Value.bool (nor_t h52 (nor_t h53 (nor_t h55 rfl)))
         ·skip
          refine PL_o rfl rfl (r_bsliceA [[pI b.lo.n, pI b.lo.d, pI b.hi.n, pI b.hi.d], [pI c.lo.n, pI c.lo.d, pI c.hi.n, pI c.hi.d]] [pI b.lo.n, pI b.lo.d, pI b.hi.n, pI b.hi.d, pI c.lo.n, pI c.lo.d, pI c.hi.n, pI c.hi.d] us_22 z_31 sz_31 rfl (by decide) rfl rfl ⟨rfl, rfl, rfl, rfl, rfl, rfl, trivial⟩ rfl (fun b63 hb63 => ⟨(fun _ => sd s0), (sd (sd s0)), PL_o rfl rfl (r_bsliceA [[pI a.lo.n, pI a.lo.d, pI a.hi.n, pI a.hi.d], [pI b.lo.n, pI b.lo.d, pI b.hi.n, pI b.hi.d]] [pI a.lo.n, pI a.lo.d, pI a.hi.n, pI a.hi.d, pI b.lo.n, pI b.lo.d, pI b.hi.n, pI b.hi.d] us_22 z_31 sz_31 rfl (by decide) rfl rfl ⟨rfl, rfl, rfl, rfl, rfl, rfl, trivial⟩ rfl (fun b64 hb64 => ⟨(fun _ => sd s0), (sd (sd (sd s0))), pQ rfl (q_as (v' := AV [pI (((F_interval_Hull [a, b]).lo).n), pI (((F_interval_Hull [a, b]).lo).d), pI (((F_interval_Hull [a, b]).hi).n), pI (((F_interval_Hull [a, b]).hi).d)]) (q_call en_25 rfl (fun w hw => interval_Hull_ret _ ([a, b]) w (SLe.ap hw (SLe.lit (e := elIv) (l := [a, b]) m0 rfl (Nat.le_of_ble_eq_true rfl) rfl)))) rfl) (PL_o rfl rfl (r_bsliceA [[pI (((F_interval_Hull [a, b]).lo).n), pI (((F_interval_Hull [a, b]).lo).d), pI (((F_interval_Hull [a, b]).hi).n), pI (((F_interval_Hull [a, b]).hi).d)], [pI c.lo.n, pI c.lo.d, pI c.hi.n, pI c.hi.d]] [pI (((F_interval_Hull [a, b]).lo).n), pI (((F_interval_Hull [a, b]).lo).d), pI (((F_interval_Hull [a, b]).hi).n), pI (((F_interval_Hull [a, b]).hi).d), pI c.lo.n, pI c.lo.d, pI c.hi.n, pI c.hi.d] us_22 z_31 sz_31 rfl (by decide) rfl rfl ⟨rfl, rfl, rfl, rfl, rfl, rfl, trivial⟩ rfl (fun b65 hb65 => ⟨(fun _ => sd s0), (sd (sd (sd (sd s0)))), pQ rfl (q_as (v' := AV [pI (((F_interval_Hull [(F_interval_Hull [a, b]), c]).lo).n), pI (((F_interval_Hull [(F_interval_Hull [a, b]), c]).lo).d), pI (((F_interval_Hull [(F_interval_Hull [a, b]), c]).hi).n), pI (((F_interval_Hull [(F_interval_Hull [a, b]), c]).hi).d)]) (q_call en_25 rfl (fun w hw => interval_Hull_ret _ ([(F_interval_Hull [a, b]), c]) w (SLe.ap hw (SLe.lit (e := elIv) (l := [(F_interval_Hull [a, b]), c]) m0 rfl (Nat.le_of_ble_eq_true rfl) rfl)))) rfl) (pQ rfl (q_as (v' := AV [pI (((F_interval_Hull [b, c]).lo).n), pI (((F_interval_Hull [b, c]).lo).d), pI (((F_interval_Hull [b, c]).hi).n), pI (((F_interval_Hull [b, c]).hi).d)]) (q_call en_25 rfl (fun w hw => interval_Hull_ret _ ([b, c]) w (SLe.ap hw (SLe.lit (e := elIv) (l := [b, c]) m2 rfl (Nat.le_of_ble_eq_true rfl) rfl)))) rfl) (PL_o rfl rfl (r_bsliceA [[pI a.lo.n, pI a.lo.d, pI a.hi.n, pI a.hi.d], [pI (((F_interval_Hull [b, c]).lo).n), pI (((F_interval_Hull [b, c]).lo).d), pI (((F_interval_Hull [b, c]).hi).n), pI (((F_interval_Hull [b, c]).hi).d)]] [pI a.lo.n, pI a.lo.d, pI a.hi.n, pI a.hi.d, pI (((F_interval_Hull [b, c]).lo).n), pI (((F_interval_Hull [b, c]).lo).d), pI (((F_interval_Hull [b, c]).hi).n), pI (((F_interval_Hull [b, c]).hi).d)] us_22 z_31 sz_31 rfl (by decide) rfl rfl ⟨rfl, rfl, rfl, rfl, rfl, rfl, trivial⟩ rfl (fun b66 hb66 => ⟨(fun _ => sd s0), (sd (sd (sd (sd (sd s0))))), pQ rfl (q_as (v' := AV [pI (((F_interval_Hull [a, (F_interval_Hull [b, c])]).lo).n), pI (((F_interval_Hull [a, (F_interval_Hull [b, c])]).lo).d), pI (((F_interval_Hull [a, (F_interval_Hull [b, c])]).hi).n), pI (((F_interval_Hull [a, (F_interval_Hull [b, c])]).hi).d)]) (q_call en_25 rfl (fun w hw => interval_Hull_ret _ ([a, (F_interval_Hull [b, c])]) w (SLe.ap hw (SLe.lit (e := elIv) (l := [a, (F_interval_Hull [b, c])]) m0 rfl (Nat.le_of_ble_eq_true rfl) rfl)))) rfl) ?_⟩))))⟩)))⟩))⟩))
          refine pQ rfl (q_neqa (r := (decide ((((F_interval_Hull [(F_interval_Hull [a, b]), c]).lo).n) = (((F_interval_Hull [a, (F_interval_Hull [b, c])]).lo).n)) && (decide ((((F_interval_Hull [(F_interval_Hull [a, b]), c]).lo).d) = (((F_interval_Hull [a, (F_interval_Hull [b, c])]).lo).d)) && (decide ((((F_interval_Hull [(F_interval_Hull [a, b]), c]).hi).n) = (((F_interval_Hull [a, (F_interval_Hull [b, c])]).hi).n)) && decide ((((F_interval_Hull [(F_interval_Hull [a, b]), c]).hi).d) = (((F_interval_Hull [a, (F_interval_Hull [b, c])]).hi).d)))))) rfl rfl (eqOk_of 8 (by decide) eg_31 lw_31 (lv_cons lv_pI (lv_cons lv_pI (lv_cons lv_pI (lv_one lv_pI)))) (lv_cons lv_pI (lv_cons lv_pI (lv_cons lv_pI (lv_one lv_pI)))) (eqP_cons rfl eq_pI (eqP_cons rfl eq_pI (eqP_cons rfl eq_pI (eqP_one eq_pI)))))) (pE rfl (fl J ?_))
          refine J6 _ _ (by repeat first | exact .refl | refine .cons rfl ?_) ⟨_, (sd (sd (sd (sd (sd (s0)))))), ?s98, rfl⟩
          case s98 => exact congrArg Value.bool (nor_t h52 (nor_t h53 (nor_t h55 rfl)))
        ·skip
         refine pB (not_t h55) rfl (PL_n rfl rfl (PL_n rfl rfl (PL_n rfl rfl (PL_n rfl rfl (PL_n rfl rfl (PL_n rfl rfl ?_))))))
         refine PL_b ?_ ?_
         ·skip
          refine PL_on rfl rfl (PL_n rfl rfl ?_)
          refine PL_b ?_ ?_
          ·skip
           refine PL_on rfl rfl (PL_n rfl rfl (PL_on rfl rfl (PL_n rfl rfl (PL_on rfl rfl (PL_n rfl rfl (PL_n rfl rfl (pE rfl (fl J ?_))))))))
           refine J6 _ _ (by repeat first | exact .refl | refine .cons rfl ?_) ⟨_, (sd (s0)), ?s98, rfl⟩
           case s98 => exact congrArg Value.bool (nor_t h52 (nor_t h53 (nor_f h55)))
          ·skip
           refine PL_on rfl rfl (PL_on rfl rfl (PL_n rfl rfl (PL_n rfl rfl (PL_on rfl rfl (PL_n rfl rfl (PL_n rfl rfl (pE rfl (fl J ?_))))))))
           refine J6 _ _ (by repeat first | exact .refl | refine .cons rfl ?_) ⟨_, (sd (s0)), ?s98, rfl⟩
           case s98 => exact congrArg Value.bool (nor_t h52 (nor_t h53 (nor_f h55)))
         ·skip
          refine PL_on rfl rfl (PL_on rfl rfl (PL_n rfl rfl (PL_on rfl rfl (PL_n rfl rfl (PL_n rfl rfl (PL_on rfl rfl (PL_n rfl rfl (PL_n rfl rfl (pE rfl (fl J ?_))))))))))
          refine J6 _ _ (by repeat first | exact .refl | refine .cons rfl ?_) ⟨_, (sd (s0)), ?s98, rfl⟩
          case s98 => exact congrArg Value.bool (nor_t h52 (nor_t h53 (nor_f h55)))
       ·skip
        refine pB (not_t h53) rfl (PL_n rfl rfl (PL_n rfl rfl (PL_n rfl rfl (PL_on rfl rfl (PL_n rfl rfl (PL_n rfl rfl (pE rfl (pE rfl (PL_n rfl rfl (PL_n rfl rfl (PL_n rfl rfl (PL_n rfl rfl (PL_n rfl rfl (PL_n rfl rfl ?_))))))))))))))
        refine PL_b ?_ ?_
        ·skip
         refine PL_on rfl rfl (PL_n rfl rfl ?_)
         refine PL_b ?_ ?_
         ·skip
          refine PL_on rfl rfl (PL_n rfl rfl (PL_on rfl rfl (PL_n rfl rfl (PL_on rfl rfl (PL_n rfl rfl (PL_n rfl rfl (pE rfl (fl J ?_))))))))
          refine J6 _ _ (by repeat first | exact .refl | refine .cons rfl ?_) ⟨_, s0, ?s98, rfl⟩
          case s98 => exact congrArg Value.bool (nor_t h52 (nor_f h53))
         ·skip
          refine PL_on rfl rfl (PL_on rfl rfl (PL_n rfl rfl (PL_n rfl rfl (PL_on rfl rfl (PL_n rfl rfl (PL_n rfl rfl (pE rfl (fl J ?_))))))))
          refine J6 _ _ (by repeat first | exact .refl | refine .cons rfl ?_) ⟨_, s0, ?s98, rfl⟩
          case s98 => exact congrArg Value.bool (nor_t h52 (nor_f h53))
        ·skip
         refine PL_on rfl rfl (PL_on rfl rfl (PL_n rfl rfl (PL_on rfl rfl (PL_n rfl rfl (PL_n rfl rfl (PL_on rfl rfl (PL_n rfl rfl (PL_n rfl rfl (pE rfl (fl J ?_))))))))))
         refine J6 _ _ (by repeat first | exact .refl | refine .cons rfl ?_) ⟨_, s0, ?s98, rfl⟩
         case s98 => exact congrArg Value.bool (nor_t h52 (nor_f h53))
      ·skip
       refine pB (not_t h52) rfl (PL_n rfl rfl (PL_n rfl rfl (PL_n rfl rfl (PL_n rfl rfl (pE rfl (pE rfl (PL_n rfl rfl (PL_n rfl rfl (PL_n rfl rfl (PL_on rfl rfl (PL_n rfl rfl (PL_n rfl rfl (pE rfl (pE rfl (PL_n rfl rfl (PL_n rfl rfl (PL_n rfl rfl (PL_n rfl rfl (PL_n rfl rfl ?_)))))))))))))))))))
       refine PL_n rfl rfl ?_
       refine PL_b ?_ ?_
       ·skip
        refine PL_on rfl rfl (PL_n rfl rfl ?_)
        refine PL_b ?_ ?_
        ·skip
         refine PL_on rfl rfl (PL_n rfl rfl (PL_on rfl rfl (PL_n rfl rfl (PL_on rfl rfl (PL_n rfl rfl (PL_n rfl rfl (pE rfl (fl J ?_))))))))
         refine J6 _ _ (by repeat first | exact .refl | refine .cons rfl ?_) ⟨_, s0, ?s98, rfl⟩
         case s98 => exact congrArg Value.bool (nor_f h52)
        ·skip
         refine PL_on rfl rfl (PL_on rfl rfl (PL_n rfl rfl (PL_n rfl rfl (PL_on rfl rfl (PL_n rfl rfl (PL_n rfl rfl (pE rfl (fl J ?_))))))))
         refine J6 _ _ (by repeat first | exact .refl | refine .cons rfl ?_) ⟨_, s0, ?s98, rfl⟩
         case s98 => exact congrArg Value.bool (nor_f h52)
       ·skip
        refine PL_on rfl rfl (PL_on rfl rfl (PL_n rfl rfl (PL_on rfl rfl (PL_n rfl rfl (PL_n rfl rfl (PL_on rfl rfl (PL_n rfl rfl (PL_n rfl rfl (pE rfl (fl J ?_))))))))))
        refine J6 _ _ (by repeat first | exact .refl | refine .cons rfl ?_) ⟨_, s0, ?s98, rfl⟩
        case s98 => exact congrArg Value.bool (nor_f h52)
     ·skip
      rintro g67 M ⟨hg98, rfl⟩
      simp only [setG, hg98]
      clear hg98
      rcases bt (!(F_interval_Inside a r35) || (!(F_interval_Inside b r35) || (!(decide ((((F_interval_Hull [b, a]).lo).n) = r35.lo.n) && (decide ((((F_interval_Hull [b, a]).lo).d) = r35.lo.d) && (decide ((((F_interval_Hull [b, a]).hi).n) = r35.hi.n) && decide ((((F_interval_Hull [b, a]).hi).d) = r35.hi.d)))) || (!(decide ((((F_interval_Hull [(F_interval_Hull [a, b]), c]).lo).n) = (((F_interval_Hull [a, (F_interval_Hull [b, c])]).lo).n)) && (decide ((((F_interval_Hull [(F_interval_Hull [a, b]), c]).lo).d) = (((F_interval_Hull [a, (F_interval_Hull [b, c])]).lo).d)) && (decide ((((F_interval_Hull [(F_interval_Hull [a, b]), c]).hi).n) = (((F_interval_Hull [a, (F_interval_Hull [b, c])]).hi).n)) && decide ((((F_interval_Hull [(F_interval_Hull [a, b]), c]).hi).d) = (((F_interval_Hull [a, (F_interval_Hull [b, c])]).hi).d))))))))) with h68 | h68
      ·skip
       refine W_t h68 rfl (Rs fun K J => sE rfl (nl J (W_ret (thenK_r (ret1 rfl (.inr rfl) rfl ?_)))))
       exact (by subst hr35; subst hr10; exact congrArg (fun r : Bool => (.bool r : Value)) (show _ = (F_skewbacklaw05_IntervalSetsAgree a b c) from bif_f h9 (bif_f h33 (bif_t h68 rfl))))
      ·skip
       refine W_f h68 rfl (W_skip (J5 _ _ ?_))
       refine W_join [6, 99, 100, 101, 102, 103, 104, 105, 106, 107, 108, 109, 110, 111, 112, 113, 114, 115, 116, 117, 118, 119, 120, 121, 122, 123, 124, 125, 126, 127, 128] (fun g M => (g 6 = .bool (F_skewbacklaw05_sanity && (bif (F_interval_Inside a c) then (bif (F_interval_Inside b c) then ((F_interval_Inside r35 c) && (decide ((((F_interval_Hull [a, b, c]).lo).n) = (((F_interval_Hull [r35, c]).lo).n)) && (decide ((((F_interval_Hull [a, b, c]).lo).d) = (((F_interval_Hull [r35, c]).lo).d)) && (decide ((((F_interval_Hull [a, b, c]).hi).n) = (((F_interval_Hull [r35, c]).hi).n)) && decide ((((F_interval_Hull [a, b, c]).hi).d) = (((F_interval_Hull [r35, c]).hi).d)))))) else (decide ((((F_interval_Hull [a, b, c]).lo).n) = (((F_interval_Hull [r35, c]).lo).n)) && (decide ((((F_interval_Hull [a, b, c]).lo).d) = (((F_interval_Hull [r35, c]).lo).d)) && (decide ((((F_interval_Hull [a, b, c]).hi).n) = (((F_interval_Hull [r35, c]).hi).n)) && decide ((((F_interval_Hull [a, b, c]).hi).d) = (((F_interval_Hull [r35, c]).hi).d)))))) else (decide ((((F_interval_Hull [a, b, c]).lo).n) = (((F_interval_Hull [r35, c]).lo).n)) && (decide ((((F_interval_Hull [a, b, c]).lo).d) = (((F_interval_Hull [r35, c]).lo).d)) && (decide ((((F_interval_Hull [a, b, c]).hi).n) = (((F_interval_Hull [r35, c]).hi).n)) && decide ((((F_interval_Hull [a, b, c]).hi).d) = (((F_interval_Hull [r35, c]).hi).d)))))))) ∧ M = [⟨b36, 31, flat [pI r35.lo.n, pI r35.lo.d, pI r35.hi.n, pI r35.hi.d]⟩, ⟨b34, 31, flat [pI a.lo.n, pI a.lo.d, pI a.hi.n, pI a.hi.d, pI b.lo.n, pI b.lo.d, pI b.hi.n, pI b.hi.d]⟩, ⟨b11, 31, flat [pI r10.lo.n, pI r10.lo.d, pI r10.hi.n, pI r10.hi.d]⟩, ⟨b3, 31, flat [pI c.lo.n, pI c.lo.d, pI c.hi.n, pI c.hi.d]⟩, ⟨b2, 31, flat [pI b.lo.n, pI b.lo.d, pI b.hi.n, pI b.hi.d]⟩, ⟨b1, 31, flat [pI a.lo.n, pI a.lo.d, pI a.hi.n, pI a.hi.d]⟩]) (fun K7 J7 => ?_) ?_
       ·skip
        refine W_draw (sk (sk (sk (sk (sk (sk (s0))))))) (.quiet 0 [1,2,3,4,5,6,7,8,9,10,11,12,13,14,15,16,17,18,19,20,21,22,23,24,25,26,27,28,29,30] (.quiet 1 [2,3,4,5,6,7,8,9,10,11,12,13,14,15,16,17,18,19,20,21,22,23,24,25,26,27,28,29,30] (.quiet 2 [4,5,6,7,8,9,10,11,12,13,14,15,16,17,18,19,20,21,22,23,24,25,26,27,28,29,30] (.quiet 3 [4,5,6,7,8,9,10,11,12,13,14,15,16,17,18,19,20,21,22,23,24,25,26,27,28,29,30] (.quiet 4 [5,6,7,8,9,10,11,12,13,14,15,16,17,18,19,20,21,22,23,24,25,26,27,28,29,30] (.quiet 5 [6,7,8,9,10,11,12,13,14,15,16,17,18,19,20,21,22,23,24,25,26,27,28,29,30] (.quiet 6 [7,8,9,10,11,12,13,14,15,16,17,18,19,20,21,22,23,24,25,26,27,28,29,30] (.quiet 7 [9,10,11,12,13,14,15,16,17,18,19,20,21,22,23,24,25,26,27,28,29,30] (.quiet 8 [9,10,11,12,13,14,15,16,17,18,19,20,21,22,23,24,25,26,27,28,29,30] (.quiet 9 [10,11,12,13,14,15,16,17,18,19,20,21,22,23,24,25,26,27,28,29,30] (.quiet 10 [11,12,13,14,15,16,17,18,19,20,21,22,23,24,25,26,27,28,29,30] (.quiet 11 [12,13,14,15,16,17,18,19,20,21,22,23,24,25,26,27,28,29,30] (.quiet 12 [13,14,15,16,17,18,19,20,21,22,23,24,25,26,27,28,29,30] (.quiet 13 [15,16,17,18,19,20,21,22,23,24,25,26,27,28,29,30] (.quiet 14 [15,16,17,18,19,20,21,22,23,24,25,26,27,28,29,30] (.quiet 15 [16,17,18,19,20,21,22,23,24,25,26,27,28,29,30] (.quiet 16 [17,18,19,20,21,22,23,24,25,26,27,28,29,30] (.quiet 17 [18,19,20,21,22,23,24,25,26,27,28,29,30] (.quiet 18 [19,20,21,22,23,24,25,26,27,28,29,30] (.quiet 19 [22,23,27,28,29,30] (.quiet 20 [22,23,27,28,29,30] (.quiet 21 [22,23,27,28,29,30] (.quiet 24 [26,27,28,29,30] (.quiet 25 [26,27,28,29,30] (.both 22 (.quiet 23 [27,28,29,30] (.only 26 (.quiet 27 [28,29,30] (.quiet 28 [29,30] (.quiet 29 [30] (.quiet 30 [] (.fin))))))) 26 (.only 22 (.quiet 23 [27,28,29,30] (.quiet 27 [28,29,30] (.quiet 28 [29,30] (.quiet 29 [30] (.quiet 30 [] (.fin)))))))))))))))))))))))))))))))) [0,1,2,3,4,5,6,7,8,9,10,11,12,13,14,15,16,17,18,19,20,21,22,23,24,25,26,27,28,29,30] mix (by kernel_rfl) (by kernel_rfl) (fun K J => pQ rfl (q_ret en_10 skewbacklaw05_sanity_ret  rfl) ?_)
        rcases bt F_skewbacklaw05_sanity with h85 | h85
        ·skip
         refine pB h85 rfl (pQ rfl (qL ty_31 rfl m5 rfl) (pQ rfl (qL ty_31 rfl m3 rfl) (pQ rfl (q_ret en_21 (interval_Inside_ret a c) rfl) (pE rfl ?_))))
         rcases bt (F_interval_Inside a c) with h86 | h86
         ·skip
          refine pB (not_f h86) rfl (pQ rfl (qL ty_31 rfl m4 rfl) (pQ rfl (qL ty_31 rfl m3 rfl) (pQ rfl (q_ret en_21 (interval_Inside_ret b c) rfl) (pE rfl (pE rfl ?_)))))
          rcases bt (F_interval_Inside b c) with h87 | h87
          ·skip
           refine pB (not_f h87) rfl (pQ rfl (qL ty_31 rfl m0 rfl) (pQ rfl (qL ty_31 rfl m3 rfl) (pQ rfl (q_ret en_21 (interval_Inside_ret r35 c) rfl) (pE rfl (pE rfl ?_)))))
           rcases bt (F_interval_Inside r35 c) with h88 | h88
           ·skip
            refine pB h88 rfl (pQ rfl (qL ty_31 rfl m5 rfl) (pQ rfl (qL ty_31 rfl m4 rfl) (pQ rfl (qL ty_31 rfl m3 rfl) (pQ rfl (qL ty_31 rfl m0 rfl) (pQ rfl (qL ty_31 rfl m3 rfl) ?_)))))
            refine PL_b ?_ ?_
            ·skip
             refine PL_o rfl rfl (r_bsliceA [[pI a.lo.n, pI a.lo.d, pI a.hi.n, pI a.hi.d], [pI b.lo.n, pI b.lo.d, pI b.hi.n, pI b.hi.d], [pI c.lo.n, pI c.lo.d, pI c.hi.n, pI c.hi.d]] [pI a.lo.n, pI a.lo.d, pI a.hi.n, pI a.hi.d, pI b.lo.n, pI b.lo.d, pI b.hi.n, pI b.hi.d, pI c.lo.n, pI c.lo.d, pI c.hi.n, pI c.hi.d] us_22 z_31 sz_31 rfl (by decide) rfl rfl ⟨rfl, rfl, rfl, rfl, rfl, rfl, rfl, rfl, rfl, trivial⟩ rfl (fun b89 hb89 => ⟨(fun _ => sd s0), (sd s0), pQ rfl (q_as (v' := AV [pI (((F_interval_Hull [a, b, c]).lo).n), pI (((F_interval_Hull [a, b, c]).lo).d), pI (((F_interval_Hull [a, b, c]).hi).n), pI (((F_interval_Hull [a, b, c]).hi).d)]) (q_call en_25 rfl (fun w hw => interval_Hull_ret _ ([a, b, c]) w (SLe.ap hw (SLe.lit (e := elIv) (l := [a, b, c]) m0 rfl (Nat.le_of_ble_eq_true rfl) rfl)))) rfl) (PL_o rfl rfl (r_bsliceA [[pI r35.lo.n, pI r35.lo.d, pI r35.hi.n, pI r35.hi.d], [pI c.lo.n, pI c.lo.d, pI c.hi.n, pI c.hi.d]] [pI r35.lo.n, pI r35.lo.d, pI r35.hi.n, pI r35.hi.d, pI c.lo.n, pI c.lo.d, pI c.hi.n, pI c.hi.d] us_22 z_31 sz_31 rfl (by decide) rfl rfl ⟨rfl, rfl, rfl, rfl, rfl, rfl, trivial⟩ rfl (fun b90 hb90 => ⟨(fun _ => sd s0), (sd (sd s0)), pQ rfl (q_as (v' := AV [pI (((F_interval_Hull [r35, c]).lo).n), pI (((F_interval_Hull [r35, c]).lo).d), pI (((F_interval_Hull [r35, c]).hi).n), pI (((F_interval_Hull [r35, c]).hi).d)]) (q_call en_25 rfl (fun w hw => interval_Hull_ret _ ([r35, c]) w (SLe.ap hw (SLe.lit (e := elIv) (l := [r35, c]) m0 rfl (Nat.le_of_ble_eq_true rfl) rfl)))) rfl) ?_⟩)))⟩))
             refine pQ rfl (q_eqla (r := (decide ((((F_interval_Hull [a, b, c]).lo).n) = (((F_interval_Hull [r35, c]).lo).n)) && (decide ((((F_interval_Hull [a, b, c]).lo).d) = (((F_interval_Hull [r35, c]).lo).d)) && (decide ((((F_interval_Hull [a, b, c]).hi).n) = (((F_interval_Hull [r35, c]).hi).n)) && decide ((((F_interval_Hull [a, b, c]).hi).d) = (((F_interval_Hull [r35, c]).hi).d)))))) rfl rfl (eqOk_of 8 (by decide) eg_31 lw_31 (lv_cons lv_pI (lv_cons lv_pI (lv_cons lv_pI (lv_one lv_pI)))) (lv_cons lv_pI (lv_cons lv_pI (lv_cons lv_pI (lv_one lv_pI)))) (eqP_cons rfl eq_pI (eqP_cons rfl eq_pI (eqP_cons rfl eq_pI (eqP_one eq_pI)))))) (pE rfl (pE rfl (fl J ?_)))
             refine J7 _ _ (by repeat first | exact .refl | refine .cons rfl ?_) ⟨_, (sd (sd (s0))), ?s6, rfl⟩
             case s6 => exact congrArg Value.bool (and_t h85 (bif_t h86 (bif_t h87 (and_t h88 rfl))))
            ·skip
             refine PL_o rfl rfl (r_bsliceA [[pI r35.lo.n, pI r35.lo.d, pI r35.hi.n, pI r35.hi.d], [pI c.lo.n, pI c.lo.d, pI c.hi.n, pI c.hi.d]] [pI r35.lo.n, pI r35.lo.d, pI r35.hi.n, pI r35.hi.d, pI c.lo.n, pI c.lo.d, pI c.hi.n, pI c.hi.d] us_22 z_31 sz_31 rfl (by decide) rfl rfl ⟨rfl, rfl, rfl, rfl, rfl, rfl, trivial⟩ rfl (fun b91 hb91 => ⟨(fun _ => sd s0), (sd s0), PL_o rfl rfl (r_bsliceA [[pI a.lo.n, pI a.lo.d, pI a.hi.n, pI a.hi.d], [pI b.lo.n, pI b.lo.d, pI b.hi.n, pI b.hi.d], [pI c.lo.n, pI c.lo.d, pI c.hi.n, pI c.hi.d]] [pI a.lo.n, pI a.lo.d, pI a.hi.n, pI a.hi.d, pI b.lo.n, pI b.lo.d, pI b.hi.n, pI b.hi.d, pI c.lo.n, pI c.lo.d, pI c.hi.n, pI c.hi.d] us_22 z_31 sz_31 rfl (by decide) rfl rfl ⟨rfl, rfl, rfl, rfl, rfl, rfl, rfl, rfl, rfl, trivial⟩ rfl (fun b92 hb92 => ⟨(fun _ => sd s0), (sd (sd s0)), pQ rfl (q_as (v' := AV [pI (((F_interval_Hull [a, b, c]).lo).n), pI (((F_interval_Hull [a, b, c]).lo).d), pI (((F_interval_Hull [a, b, c]).hi).n), pI (((F_interval_Hull [a, b, c]).hi).d)]) (q_call en_25 rfl (fun w hw => interval_Hull_ret _ ([a, b, c]) w (SLe.ap hw (SLe.lit (e := elIv) (l := [a, b, c]) m0 rfl (Nat.le_of_ble_eq_true rfl) rfl)))) rfl) (pQ rfl (q_as (v' := AV [pI (((F_interval_Hull [r35, c]).lo).n), pI (((F_interval_Hull [r35, c]).lo).d), pI (((F_interval_Hull [r35, c]).hi).n), pI (((F_interval_Hull [r35, c]).hi).d)]) (q_call en_25 rfl (fun w hw => interval_Hull_ret _ ([r35, c]) w (SLe.ap hw (SLe.lit (e := elIv) (l := [r35, c]) m1 rfl (Nat.le_of_ble_eq_true rfl) rfl)))) rfl) ?_)⟩))⟩))
             refine pQ rfl (q_eqla (r := (decide ((((F_interval_Hull [a, b, c]).lo).n) = (((F_interval_Hull [r35, c]).lo).n)) && (decide ((((F_interval_Hull [a, b, c]).lo).d) = (((F_interval_Hull [r35, c]).lo).d)) && (decide ((((F_interval_Hull [a, b, c]).hi).n) = (((F_interval_Hull [r35, c]).hi).n)) && decide ((((F_interval_Hull [a, b, c]).hi).d) = (((F_interval_Hull [r35, c]).hi).d)))))) rfl rfl (eqOk_of 8 (by decide) eg_31 lw_31 (lv_cons lv_pI (lv_cons lv_pI (lv_cons lv_pI (lv_one lv_pI)))) (lv_cons lv_pI (lv_cons lv_pI (lv_cons lv_pI (lv_one lv_pI)))) (eqP_cons rfl eq_pI (eqP_cons rfl eq_pI (eqP_cons rfl eq_pI (eqP_one eq_pI)))))) (pE rfl (pE rfl (fl J ?_)))
             refine J7 _ _ (by repeat first | exact .refl | refine .cons rfl ?_) ⟨_, (sd (sd (s0))), ?s6, rfl⟩
             case s6 => exact congrArg Value.bool (and_t h85 (bif_t h86 (bif_t h87 (and_t h88 rfl))))
           ·skip
            refine pB h88 rfl (PL_n rfl rfl (PL_n rfl rfl (PL_n rfl rfl (PL_n rfl rfl (PL_n rfl rfl ?_)))))
            refine PL_b ?_ ?_
            ·skip
             refine PL_on rfl rfl (PL_n rfl rfl (PL_on rfl rfl (PL_n rfl rfl (PL_n rfl rfl (pE rfl (pE rfl (fl J ?_)))))))
             refine J7 _ _ (by repeat first | exact .refl | refine .cons rfl ?_) ⟨_, s0, ?s6, rfl⟩
             case s6 => exact congrArg Value.bool (and_t h85 (bif_t h86 (bif_t h87 (and_f h88))))
            ·skip
             refine PL_on rfl rfl (PL_on rfl rfl (PL_n rfl rfl (PL_n rfl rfl (PL_n rfl rfl (pE rfl (pE rfl (fl J ?_)))))))
             refine J7 _ _ (by repeat first | exact .refl | refine .cons rfl ?_) ⟨_, s0, ?s6, rfl⟩
             case s6 => exact congrArg Value.bool (and_t h85 (bif_t h86 (bif_t h87 (and_f h88))))
          ·skip
           refine pB (not_t h87) rfl (PL_n rfl rfl (PL_n rfl rfl (PL_n rfl rfl (pE rfl (pE rfl (pE rfl (pQ rfl (qL ty_31 rfl m5 rfl) (pQ rfl (qL ty_31 rfl m4 rfl) (pQ rfl (qL ty_31 rfl m3 rfl) (pQ rfl (qL ty_31 rfl m0 rfl) (pQ rfl (qL ty_31 rfl m3 rfl) ?_)))))))))))
           refine PL_b ?_ ?_
           ·skip
            refine PL_o rfl rfl (r_bsliceA [[pI a.lo.n, pI a.lo.d, pI a.hi.n, pI a.hi.d], [pI b.lo.n, pI b.lo.d, pI b.hi.n, pI b.hi.d], [pI c.lo.n, pI c.lo.d, pI c.hi.n, pI c.hi.d]] [pI a.lo.n, pI a.lo.d, pI a.hi.n, pI a.hi.d, pI b.lo.n, pI b.lo.d, pI b.hi.n, pI b.hi.d, pI c.lo.n, pI c.lo.d, pI c.hi.n, pI c.hi.d] us_22 z_31 sz_31 rfl (by decide) rfl rfl ⟨rfl, rfl, rfl, rfl, rfl, rfl, rfl, rfl, rfl, trivial⟩ rfl (fun b93 hb93 => ⟨(fun _ => sd s0), (sd s0), pQ rfl (q_as (v' := AV [pI (((F_interval_Hull [a, b, c]).lo).n), pI (((F_interval_Hull [a, b, c]).lo).d), pI (((F_interval_Hull [a, b, c]).hi).n), pI (((F_interval_Hull [a, b, c]).hi).d)]) (q_call en_25 rfl (fun w hw => interval_Hull_ret _ ([a, b, c]) w (SLe.ap hw (SLe.lit (e := elIv) (l := [a, b, c]) m0 rfl (Nat.le_of_ble_eq_true rfl) rfl)))) rfl) (PL_o rfl rfl (r_bsliceA [[pI r35.lo.n, pI r35.lo.d, pI r35.hi.n, pI r35.hi.d], [pI c.lo.n, pI c.lo.d, pI c.hi.n, pI c.hi.d]] [pI r35.lo.n, pI r35.lo.d, pI r35.hi.n, pI r35.hi.d, pI c.lo.n, pI c.lo.d, pI c.hi.n, pI c.hi.d] us_22 z_31 sz_31 rfl (by decide) rfl rfl ⟨rfl, rfl, rfl, rfl, rfl, rfl, trivial⟩ rfl (fun b94 hb94 => ⟨(fun _ => sd s0), (sd (sd s0)), pQ rfl (q_as (v' := AV [pI (((F_interval_Hull [r35, c]).lo).n), pI (((F_interval_Hull [r35, c]).lo).d), pI (((F_interval_Hull [r35, c]).hi).n), pI (((F_interval_Hull [r35, c]).hi).d)]) (q_call en_25 rfl (fun w hw => interval_Hull_ret _ ([r35, c]) w (SLe.ap hw (SLe.lit (e := elIv) (l := [r35, c]) m0 rfl (Nat.le_of_ble_eq_true rfl) rfl)))) rfl) ?_⟩)))⟩))
            refine pQ rfl (q_eqla (r := (decide ((((F_interval_Hull [a, b, c]).lo).n) = (((F_interval_Hull [r35, c]).lo).n)) && (decide ((((F_interval_Hull [a, b, c]).lo).d) = (((F_interval_Hull [r35, c]).lo).d)) && (decide ((((F_interval_Hull [a, b, c]).hi).n) = (((F_interval_Hull [r35, c]).hi).n)) && decide ((((F_interval_Hull [a, b, c]).hi).d) = (((F_interval_Hull [r35, c]).hi).d)))))) rfl rfl (eqOk_of 8 (by decide) eg_31 lw_31 (lv_cons lv_pI (lv_cons lv_pI (lv_cons lv_pI (lv_one lv_pI)))) (lv_cons lv_pI (lv_cons lv_pI (lv_cons lv_pI (lv_one lv_pI)))) (eqP_cons rfl eq_pI (eqP_cons rfl eq_pI (eqP_cons rfl eq_pI (eqP_one eq_pI)))))) (pE rfl (pE rfl (fl J ?_)))
            refine J7 _ _ (by repeat first | exact .refl | refine .cons rfl ?_) ⟨_, (sd (sd (s0))), ?s6, rfl⟩
            case s6 => exact congrArg Value.bool (and_t h85 (bif_t h86 (bif_f h87 rfl)))
           ·skip
            refine PL_o rfl rfl (r_bsliceA [[pI r35.lo.n, pI r35.lo.d, pI r35.hi.n, pI r35.hi.d], [pI c.lo.n, pI c.lo.d, pI c.hi.n, pI c.hi.d]] [pI r35.lo.n, pI r35.lo.d, pI r35.hi.n, pI r35.hi.d, pI c.lo.n, pI c.lo.d, pI c.hi.n, pI c.hi.d] us_22 z_31 sz_31 rfl (by decide) rfl rfl ⟨rfl, rfl, rfl, rfl, rfl, rfl, trivial⟩ rfl (fun b95 hb95 => ⟨(fun _ => sd s0), (sd s0), PL_o rfl rfl (r_bsliceA [[pI a.lo.n, pI a.lo.d, pI a.hi.n, pI a.hi.d], [pI b.lo.n, pI b.lo.d, pI b.hi.n, pI b.hi.d], [pI c.lo.n, pI c.lo.d, pI c.hi.n, pI c.hi.d]] [pI a.lo.n, pI a.lo.d, pI a.hi.n, pI a.hi.d, pI b.lo.n, pI b.lo.d, pI b.hi.n, pI b.hi.d, pI c.lo.n, pI c.lo.d, pI c.hi.n, pI c.hi.d] us_22 z_31 sz_31 rfl (by decide) rfl rfl ⟨rfl, rfl, rfl, rfl, rfl, rfl, rfl, rfl, rfl, trivial⟩ rfl (fun b96 hb96 => ⟨(fun _ => sd s0), (sd (sd s0)), pQ rfl (q_as (v' := AV [pI (((F_interval_Hull [a, b, c]).lo).n), pI (((F_interval_Hull [a, b, c]).lo).d), pI (((F_interval_Hull [a, b, c]).hi).n), pI (((F_interval_Hull [a, b, c]).hi).d)]) (q_call en_25 rfl (fun w hw => interval_Hull_ret _ ([a, b, c]) w (SLe.ap hw (SLe.lit (e := elIv) (l := [a, b, c]) m0 rfl (Nat.le_of_ble_eq_true rfl) rfl)))) rfl) (pQ rfl (q_as (v' := AV [pI (((F_interval_Hull [r35, c]).lo).n), pI (((F_interval_Hull [r35, c]).lo).d), pI (((F_interval_Hull [r35, c]).hi).n), pI (((F_interval_Hull [r35, c]).hi).d)]) (q_call en_25 rfl (fun w hw => interval_Hull_ret _ ([r35, c]) w (SLe.ap hw (SLe.lit (e := elIv) (l := [r35, c]) m1 rfl (Nat.le_of_ble_eq_true rfl) rfl)))) rfl) ?_)⟩))⟩))
            refine pQ rfl (q_eqla (r := (decide ((((F_interval_Hull [a, b, c]).lo).n) = (((F_interval_Hull [r35, c]).lo).n)) && (decide ((((F_interval_Hull [a, b, c]).lo).d) = (((F_interval_Hull [r35, c]).lo).d)) && (decide ((((F_interval_Hull [a, b, c]).hi).n) = (((F_interval_Hull [r35, c]).hi).n)) && decide ((((F_interval_Hull [a, b, c]).hi).d) = (((F_interval_Hull [r35, c]).hi).d)))))) rfl rfl (eqOk_of 8 (by decide) eg_31 lw_31 (lv_cons lv_pI (lv_cons lv_pI (lv_cons lv_pI (lv_one lv_pI)))) (lv_cons lv_pI (lv_cons lv_pI (lv_cons lv_pI (lv_one lv_pI)))) (eqP_cons rfl eq_pI (eqP_cons rfl eq_pI (eqP_cons rfl eq_pI (eqP_one eq_pI)))))) (pE rfl (pE rfl (fl J ?_)))
            refine J7 _ _ (by repeat first | exact .refl | refine .cons rfl ?_) ⟨_, (sd (sd (s0))), ?s6, rfl⟩
            case s6 => exact congrArg Value.bool (and_t h85 (bif_t h86 (bif_f h87 rfl)))
         ·skip
          refine pB (not_t h86) rfl (PL_n rfl rfl (PL_n rfl rfl (PL_n rfl rfl (PL_n rfl rfl (pE rfl (pE rfl (PL_n rfl rfl (PL_n rfl rfl (PL_n rfl rfl (pE rfl (pE rfl (pE rfl (pQ rfl (qL ty_31 rfl m5 rfl) (pQ rfl (qL ty_31 rfl m4 rfl) (pQ rfl (qL ty_31 rfl m3 rfl) (pQ rfl (qL ty_31 rfl m0 rfl) (pQ rfl (qL ty_31 rfl m3 rfl) ?_)))))))))))))))))
          refine PL_b ?_ ?_
          ·skip
           refine PL_o rfl rfl (r_bsliceA [[pI a.lo.n, pI a.lo.d, pI a.hi.n, pI a.hi.d], [pI b.lo.n, pI b.lo.d, pI b.hi.n, pI b.hi.d], [pI c.lo.n, pI c.lo.d, pI c.hi.n, pI c.hi.d]] [pI a.lo.n, pI a.lo.d, pI a.hi.n, pI a.hi.d, pI b.lo.n, pI b.lo.d, pI b.hi.n, pI b.hi.d, pI c.lo.n, pI c.lo.d, pI c.hi.n, pI c.hi.d] us_22 z_31 sz_31 rfl (by decide) rfl rfl ⟨rfl, rfl, rfl, rfl, rfl, rfl, rfl, rfl, rfl, trivial⟩ rfl (fun b97 hb97 => ⟨(fun _ => sd s0), (sd s0), pQ rfl (q_as (v' := AV [pI (((F_interval_Hull [a, b, c]).lo).n), pI (((F_interval_Hull [a, b, c]).lo).d), pI (((F_interval_Hull [a, b, c]).hi).n), pI (((F_interval_Hull [a, b, c]).hi).d)]) (q_call en_25 rfl (fun w hw => interval_Hull_ret _ ([a, b, c]) w (SLe.ap hw (SLe.lit (e := elIv) (l := [a, b, c]) m0 rfl (Nat.le_of_ble_eq_true rfl) rfl)))) rfl) (PL_o rfl rfl (r_bsliceA [[pI r35.lo.n, pI r35.lo.d, pI r35.hi.n, pI r35.hi.d], [pI c.lo.n, pI c.lo.d, pI c.hi.n, pI c.hi.d]] [pI r35.lo.n, pI r35.lo.d, pI r35.hi.n, pI r35.hi.d, pI c.lo.n, pI c.lo.d, pI c.hi.n, pI c.hi.d] us_22 z_31 sz_31 rfl (by decide) rfl rfl ⟨rfl, rfl, rfl, rfl, rfl, rfl, trivial⟩ rfl (fun b98 hb98 => ⟨(fun _ => sd s0), (sd (sd s0)), pQ rfl (q_as (v' := AV [pI (((F_interval_Hull [r35, c]).lo).n), pI (((F_interval_Hull [r35, c]).lo).d), pI (((F_interval_Hull [r35, c]).hi).n), pI (((F_interval_Hull [r35, c]).hi).d)]) (q_call en_25 rfl (fun w hw => interval_Hull_ret _ ([r35, c]) w (SLe.ap hw (SLe.lit (e := elIv) (l := [r35, c]) m0 rfl (Nat.le_of_ble_eq_true rfl) rfl)))) rfl) ?_⟩)))⟩))
           refine pQ rfl (q_eqla (r := (decide ((((F_interval_Hull [a, b, c]).lo).n) = (((F_interval_Hull [r35, c]).lo).n)) && (decide ((((F_interval_Hull [a, b, c]).lo).d) = (((F_interval_Hull [r35, c]).lo).d)) && (decide ((((F_interval_Hull [a, b, c]).hi).n) = (((F_interval_Hull [r35, c]).hi).n)) && decide ((((F_interval_Hull [a, b, c]).hi).d) = (((F_interval_Hull [r35, c]).hi).d)))))) rfl rfl (eqOk_of 8 (by decide) eg_31 lw_31 (lv_cons lv_pI (lv_cons lv_pI (lv_cons lv_pI (lv_one lv_pI)))) (lv_cons lv_pI (lv_cons lv_pI (lv_cons lv_pI (lv_one lv_pI)))) (eqP_cons rfl eq_pI (eqP_cons rfl eq_pI (eqP_cons rfl eq_pI (eqP_one eq_pI)))))) (pE rfl (pE rfl (fl J ?_)))
           refine J7 _ _ (by repeat first | exact .refl | refine .cons rfl ?_) ⟨_, (sd (sd (s0))), ?s6, rfl⟩
           case s6 => exact congrArg Value.bool (and_t h85 (bif_f h86 rfl))
          ·skip
           refine PL_o rfl rfl (r_bsliceA [[pI r35.lo.n, pI r35.lo.d, pI r35.hi.n, pI r35.hi.d], [pI c.lo.n, pI c.lo.d, pI c.hi.n, pI c.hi.d]] [pI r35.lo.n, pI r35.lo.d, pI r35.hi.n, pI r35.hi.d, pI c.lo.n, pI c.lo.d, pI c.hi.n, pI c.hi.d] us_22 z_31 sz_31 rfl (by decide) rfl rfl ⟨rfl, rfl, rfl, rfl, rfl, rfl, trivial⟩ rfl (fun b99 hb99 => ⟨(fun _ => sd s0), (sd s0), PL_o rfl rfl (r_bsliceA [[pI a.lo.n, pI a.lo.d, pI a.hi.n, pI a.hi.d], [pI b.lo.n, pI b.lo.d, pI b.hi.n, pI b.hi.d], [pI c.lo.n, pI c.lo.d, pI c.hi.n, pI c.hi.d]] [pI a.lo.n, pI a.lo.d, pI a.hi.n, pI a.hi.d, pI b.lo.n, pI b.lo.d, pI b.hi.n, pI b.hi.d, pI c.lo.n, pI c.lo.d, pI c.hi.n, pI c.hi.d] us_22 z_31 sz_31 rfl (by decide) rfl rfl ⟨rfl, rfl, rfl, rfl, rfl, rfl, rfl, rfl, rfl, trivial⟩ rfl (fun b100 hb100 => ⟨(fun _ => sd s0), (sd (sd s0)), pQ rfl (q_as (v' := AV [pI (((F_interval_Hull [a, b, c]).lo).n), pI (((F_interval_Hull [a, b, c]).lo).d), pI (((F_interval_Hull [a, b, c]).hi).n), pI (((F_interval_Hull [a, b, c]).hi).d)]) (q_call en_25 rfl (fun w hw => interval_Hull_ret _ ([a, b, c]) w (SLe.ap hw (SLe.lit (e := elIv) (l := [a, b, c]) m0 rfl (Nat.le_of_ble_eq_true rfl) rfl)))) rfl) (pQ rfl (q_as (v' := AV [pI (((F_interval_Hull [r35, c]).lo).n), pI (((F_interval_Hull [r35, c]).lo).d), pI (((F_interval_Hull [r35, c]).hi).n), pI (((F_interval_Hull [r35, c]).hi).d)]) (q_call en_25 rfl (fun w hw => interval_Hull_ret _ ([r35, c]) w (SLe.ap hw (SLe.lit (e := elIv) (l := [r35, c]) m1 rfl (Nat.le_of_ble_eq_true rfl) rfl)))) rfl) ?_)⟩))⟩))
           refine pQ rfl (q_eqla (r := (decide ((((F_interval_Hull [a, b, c]).lo).n) = (((F_interval_Hull [r35, c]).lo).n)) && (decide ((((F_interval_Hull [a, b, c]).lo).d) = (((F_interval_Hull [r35, c]).lo).d)) && (decide ((((F_interval_Hull [a, b, c]).hi).n) = (((F_interval_Hull [r35, c]).hi).n)) && decide ((((F_interval_Hull [a, b, c]).hi).d) = (((F_interval_Hull [r35, c]).hi).d)))))) rfl rfl (eqOk_of 8 (by decide) eg_31 lw_31 (lv_cons lv_pI (lv_cons lv_pI (lv_cons lv_pI (lv_one lv_pI)))) (lv_cons lv_pI (lv_cons lv_pI (lv_cons lv_pI (lv_one lv_pI)))) (eqP_cons rfl eq_pI (eqP_cons rfl eq_pI (eqP_cons rfl eq_pI (eqP_one eq_pI)))))) (pE rfl (pE rfl (fl J ?_)))
           refine J7 _ _ (by repeat first | exact .refl | refine .cons rfl ?_) ⟨_, (sd (sd (s0))), ?s6, rfl⟩
           case s6 => exact congrArg Value.bool (and_t h85 (bif_f h86 rfl))
        ·skip
         refine pB h85 rfl (PL_n rfl rfl (PL_n rfl rfl (PL_n rfl rfl (PL_n rfl rfl (PL_n rfl rfl (PL_n rfl rfl (PL_n rfl rfl (PL_n rfl rfl (PL_n rfl rfl (PL_n rfl rfl (PL_n rfl rfl (PL_n rfl rfl (PL_n rfl rfl (PL_n rfl rfl (PL_n rfl rfl (pE rfl (pE rfl (PL_n rfl rfl (PL_n rfl rfl ?_)))))))))))))))))))
         refine PL_n rfl rfl (PL_n rfl rfl (PL_n rfl rfl ?_))
         refine PL_b ?_ ?_
         ·skip
          refine PL_on rfl rfl (PL_n rfl rfl (PL_on rfl rfl (PL_n rfl rfl (PL_n rfl rfl (pE rfl (pE rfl (fl J ?_)))))))
          refine J7 _ _ (by repeat first | exact .refl | refine .cons rfl ?_) ⟨_, s0, ?s6, rfl⟩
          case s6 => exact congrArg Value.bool (and_f h85)
         ·skip
          refine PL_on rfl rfl (PL_on rfl rfl (PL_n rfl rfl (PL_n rfl rfl (PL_n rfl rfl (pE rfl (pE rfl (fl J ?_)))))))
          refine J7 _ _ (by repeat first | exact .refl | refine .cons rfl ?_) ⟨_, s0, ?s6, rfl⟩
          case s6 => exact congrArg Value.bool (and_f h85)
       ·skip
        rintro g101 M ⟨hg6, rfl⟩
        simp only [setG, hg6]
        clear hg6
        refine W_ret (ret1 rfl (.inr rfl) rfl ?_)
        exact (by subst hr35; subst hr10; exact congrArg (fun r : Bool => (.bool r : Value)) (show _ = (F_skewbacklaw05_IntervalSetsAgree a b c) from bif_f h9 (bif_f h33 (bif_f h68 rfl))))
end Go.Proofs.YtnfbkngfdemkpaaGreatDoor
