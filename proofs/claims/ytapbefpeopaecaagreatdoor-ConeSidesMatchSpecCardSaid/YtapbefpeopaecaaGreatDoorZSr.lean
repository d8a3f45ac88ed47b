/- Walks: what these functions return. -/
import Derived.Test.YtapbefpeopaecaaGreatDoorZFa0
import Derived.Test.YtapbefpeopaecaaGreatDoorZFSr
import Derived.Test.YtapbefpeopaecaaGreatDoorZPr
import Derived.Test.YtapbefpeopaecaaGreatDoorZSa
import Derived.Test.YtapbefpeopaecaaGreatDoorZSb
import Derived.Test.YtapbefpeopaecaaGreatDoorZSe
import Derived.Test.YtapbefpeopaecaaGreatDoorZSf
namespace Go.Proofs.YtapbefpeopaecaaGreatDoor
open Go.Kn Go.Num
set_option linter.unusedVariables false
set_option linter.unusedSimpArgs false
set_option maxRecDepth 20000
set_option maxHeartbeats 8000000
theorem gY_ (a : I) (b : I) :
    Ret Tryz.prog 41 [AV [pI a], AV [pI b]] (AV [pI (cY_ a b)]) := by
 refine as_ (N := 78) Tryz.func41 rfl rfl (by simp) (fun w0 => ?_)
 simp only [initF, Nat.reduceAdd]
 refine Rs fun K J => WL_r rfl (aQ_ rfl rfl (fun b1 hb1 => WL_r rfl (aQ_ rfl rfl (fun b2 hb2 => sN zp_37 rfl fun b3 hb3 => nl J (Rs fun K J => sQ (qL ty_37 rfl m2 rfl) rfl (sC (.tuple #[.int .i64 ((wordW a).1), .bool (wordB a.1)]) en_88 (bW_ a.1 a.2) rfl rfl rfl (sE rfl (sE rfl (sE rfl (sE rfl (sE rfl (nl J (Rs fun K J => sQ (qL ty_37 rfl m1 rfl) rfl (sC (.tuple #[.int .i64 ((wordW b).1), .bool (wordB b.1)]) en_88 (bW_ b.1 b.2) rfl rfl rfl (sE rfl (sE rfl (sE rfl ?_)))))))))))))))))
 refine sE rfl (sE rfl (nl J (Sq fun K1 J1 => ?_)))
 refine bV_ [21, 22, 23, 24, 25, 26, 27, 28] (fun g M => (g 28 = .bool ((wordB a.1) && ((wordB b.1) && ((wordW b).1 != 0)))) ∧ M = [⟨b3, 37, flat [pI I0]⟩, ⟨b2, 37, flat [pI b]⟩, ⟨b1, 37, flat [pI a]⟩]) (fun K2 J2 => ?_) ?_
 ·skip
  refine Rk fun K J => sE rfl ?_
  rcases bt (wordB a.1) with h6 | h6
  ·skip
   refine sB h6 rfl (sE rfl (sE rfl ?_))
   rcases bt (wordB b.1) with h7 | h7
   ·skip
    refine sB h7 rfl (sE rfl (sE rfl (sE rfl (nl J ?_))))
    refine J2 _ _ (by repeat first | exact .refl | refine .cons rfl ?_) ⟨_, s0, ?s28, rfl⟩
    case s28 => exact congrArg Value.bool (and_t h6 (and_t h7 rfl))
   ·skip
    refine sB h7 rfl (WL_n rfl (WL_n rfl (sE rfl (nl J ?_))))
    refine J2 _ _ (by repeat first | exact .refl | refine .cons rfl ?_) ⟨_, s0, ?s28, rfl⟩
    case s28 => exact congrArg Value.bool (and_t h6 (and_f h7))
  ·skip
   refine sB h6 rfl (WL_n rfl (sE rfl (sE rfl (WL_n rfl (WL_n rfl (sE rfl (nl J ?_)))))))
   refine J2 _ _ (by repeat first | exact .refl | refine .cons rfl ?_) ⟨_, s0, ?s28, rfl⟩
   case s28 => exact congrArg Value.bool (and_f h6)
 ·skip
  rintro g8 M ⟨hg28, rfl⟩
  simp only [setG, hg28]
  clear hg28
  rcases bt ((wordB a.1) && ((wordB b.1) && ((wordW b).1 != 0))) with h9 | h9
  ·skip
   refine W_t h9 rfl (Rs fun K J => sE rfl (sE rfl ?_))
   have hfl := lW_ h9
   refine sE rfl (sE rfl (sC (.int .i64 ((W.fdiv (wordW a) (wordW b)).1)) en_89 (eG_ (wordW a).1 (wordW b).1 (wordW a).2 hfl.1 hfl.2.1) rfl rfl (congrArg (Value.int .i64) hfl.2.2) (sV (.int .i64 ((W.mul (wordW b) (W.fdiv (wordW a) (wordW b))).1)) rfl rfl (sV (.int .i64 ((W.sub (wordW a) (W.mul (wordW b) (W.fdiv (wordW a) (wordW b)))).1)) rfl rfl ?_))))
   obtain ⟨r10, hr10⟩ := nm ((E (Z.of (W.sub (wordW a) (W.mul (wordW b) (W.fdiv (wordW a) (wordW b)))).1)) : I)
   refine sC (AV [pI r10]) en_74 (aW_ (W.sub (wordW a) (W.mul (wordW b) (W.fdiv (wordW a) (wordW b)))).1 (W.sub (wordW a) (W.mul (wordW b) (W.fdiv (wordW a) (wordW b)))).2) rfl rfl (by rw [hr10]; first | done | rfl) (sS [pI r10] ty_37 rfl rfl rfl rfl rfl (.head _) rfl hb3 (nl J (W_ret (af_ (ret1 rfl (.inr rfl) (resP rfl m0 ty_37 rfl) ?_)))))
   exact (by subst hr10; exact congrArg (fun r : I => (AV [pI r] : Value)) (show _ = (cY_ a b) from bif_t h9 rfl))
  ·skip
   refine W_f h9 rfl (aj_ (J1 _ _ (Sq fun K3 J3 => ?_)))
   refine bV_ [37, 38, 39, 40, 41, 42, 43, 44, 45, 46, 47, 48, 49, 50] (fun g M => (g 50 = .bool (!a.1.good || (!b.1.good || ((((dl (val b.1.w)).length : Nat) : Int) == 0)))) ∧ M = [⟨b3, 37, flat [pI I0]⟩, ⟨b2, 37, flat [pI b]⟩, ⟨b1, 37, flat [pI a]⟩]) (fun K4 J4 => ?_) ?_
   ·skip
    refine Rk fun K J => sQ (qL ty_37 rfl m2 rfl) rfl (sC (.bool a.1.good) en_86 (aD_ a.1 a.2) rfl rfl rfl (sE rfl ?_))
    rcases bt a.1.good with h14 | h14
    ·skip
     refine sB (not_f h14) rfl (sQ (qL ty_37 rfl m1 rfl) rfl (sC (.bool b.1.good) en_86 (aD_ b.1 b.2) rfl rfl rfl (sE rfl (sE rfl ?_))))
     rcases bt b.1.good with h15 | h15
     ·skip
      refine sB (not_f h15) rfl (sQ (qL ty_37 rfl m1 rfl) rfl (WL_r rfl (bF_ en_87 rfl (fun w hw => aE_ b.1 b.2 w) (fun vl16 Ll16 kl16 => ?_))))
      try simp only [dv_dl, dM_] at kl16
      refine sQ (q_as (v' := .int .i64 (((dl (val b.1.w)).length : Nat) : Int)) (dV_ sl_81 rfl (SL.sub kl16.sl (List.sublist_append_left _ _))) rfl) rfl (sE rfl (sE rfl (nl J ?_)))
      refine J4 _ _ (by repeat first | exact .refl | refine .cons rfl ?_) ⟨_, (sR (s0)), ?s50, rfl⟩
      case s50 => exact congrArg Value.bool (nor_t h14 (nor_t h15 rfl))
     ·skip
      refine sB (not_t h15) rfl (WL_n rfl (WL_n rfl (WL_n rfl (WL_n rfl (sE rfl (nl J ?_))))))
      refine J4 _ _ (by repeat first | exact .refl | refine .cons rfl ?_) ⟨_, s0, ?s50, rfl⟩
      case s50 => exact congrArg Value.bool (nor_t h14 (nor_f h15))
    ·skip
     refine sB (not_t h14) rfl (WL_n rfl (WL_n rfl (WL_n rfl (sE rfl (sE rfl (WL_n rfl (WL_n rfl (WL_n rfl (WL_n rfl (sE rfl (nl J ?_)))))))))))
     refine J4 _ _ (by repeat first | exact .refl | refine .cons rfl ?_) ⟨_, s0, ?s50, rfl⟩
     case s50 => exact congrArg Value.bool (nor_f h14)
   ·skip
    rintro g17 M ⟨hg50, rfl⟩
    simp only [setG, hg50]
    clear hg50
    rcases bt (!a.1.good || (!b.1.good || ((((dl (val b.1.w)).length : Nat) : Int) == 0))) with h18 | h18
    ·skip
     refine W_t h18 rfl (Rs fun K J => sC (AV [pI (E Z.bad)]) en_90 bh_ rfl rfl rfl (sS [pI (E Z.bad)] ty_37 rfl rfl rfl rfl rfl (.head _) rfl hb3 (nl J (W_ret (af_ (ret1 rfl (.inr rfl) (resP rfl m0 ty_37 rfl) ?_))))))
     exact (by exact congrArg (fun r : I => (AV [pI r] : Value)) (show _ = (cY_ a b) from bif_f h9 (bif_t h18 rfl)))
    ·skip
     refine W_f h18 rfl (aj_ (J3 _ _ (ds sn [0,8,5,13,17,20,24,28,32,36] [] mix (by kernel_rfl) (fun K J => pQ rfl (qL ty_37 rfl m2 rfl) (pQ rfl (qL ty_37 rfl m1 rfl) (PL_o rfl rfl (bF_ en_87 rfl (fun w hw => aE_ a.1 a.2 w) (fun vl19 Ll19 kl19 => ⟨(fun _ => sR s0), sn, ?_⟩))))))))
     try simp only [dv_dl, dM_] at kl19
     refine PL_o rfl rfl (bF_ en_87 rfl (fun w hw => aE_ b.1 b.2 w) (fun vl20 Ll20 kl20 => ⟨(fun _ => sR s0), sn, ?_⟩))
     try simp only [dv_dl, dM_] at kl20
     have hB := hB_of h18
     refine PL_o rfl rfl (hE_ en_91 rfl (fun w hw => dl_ vl19 vl20 (val a.1.w) (val b.1.w) hB (Nat.le_trans (cv_ (k := 32) (lt32 a.2)) (by decide)) (Nat.le_trans (cv_ (k := 32) (lt32 b.2)) (by decide)) w (SL.sl (SL.sub kl19.sl (sR (List.sublist_append_left _ _))) hw) (SL.sl (SL.sub kl20.sl (List.sublist_append_left _ _)) hw)) (fun vl21_0 vl21_1 Ll21 kl21_0 kl21_1 => ⟨(fun _ => sR s0), sn, ?_⟩))
     try simp only [dv_dl, dM_] at kl21_0 kl21_1
     refine pE rfl (pE rfl (pE rfl (pE rfl (pE rfl (fl J (Sq fun K5 J5 => ?_))))))
     refine bV_ [60, 61, 62, 63, 64, 65, 66, 67, 68, 69] (fun g M => (g 69 = .bool ((a.1.neg != b.1.neg) && decide (0 < (((dl ((val a.1.w) % (val b.1.w))).length : Nat) : Int)))) ∧ M = (Ll21 ++ (Ll20 ++ (Ll19 ++ (⟨b3, 37, flat [pI I0]⟩ :: (⟨b2, 37, flat [pI b]⟩ :: (⟨b1, 37, flat [pI a]⟩ :: []))))))) (fun K6 J6 => ?_) ?_
     ·skip
      refine Rk fun K J => sQ (qF by_ rfl rfl) rfl (sQ (qC ty_4 rfl (List.mem_append_right _ (List.mem_append_right _ (List.mem_append_right _ (List.mem_cons_of_mem _ (List.mem_cons_of_mem _ (List.mem_cons_self)))))) rfl) rfl (sQ (qF by_ rfl rfl) rfl (sQ (qC ty_4 rfl (List.mem_append_right _ (List.mem_append_right _ (List.mem_append_right _ (List.mem_cons_of_mem _ (List.mem_cons_self))))) rfl) rfl (sQ (q_as (v' := .bool (a.1.neg != b.1.neg)) (fT_ bo_4 rfl rfl) rfl) rfl ?_))))
      rcases bt (a.1.neg != b.1.neg) with h23 | h23
      ·skip
       refine sB h23 rfl (sE rfl (sQ (q_as (v' := .int .i64 (((dl ((val a.1.w) % (val b.1.w))).length : Nat) : Int)) (dV_ sl_81 rfl (SL.sub kl21_1 (List.sublist_append_left _ _))) rfl) rfl (sE rfl (sE rfl (nl J ?_)))))
       refine J6 _ _ (by repeat first | exact .refl | refine .cons rfl ?_) ⟨_, s0, ?s69, rfl⟩
       case s69 => exact congrArg Value.bool (and_t h23 rfl)
      ·skip
       refine sB h23 rfl (WL_n rfl (WL_n rfl (WL_n rfl (sE rfl (nl J ?_)))))
       refine J6 _ _ (by repeat first | exact .refl | refine .cons rfl ?_) ⟨_, s0, ?s69, rfl⟩
       case s69 => exact congrArg Value.bool (and_f h23)
     ·skip
      rintro g24 M ⟨hg69, rfl⟩
      simp only [setG, hg69]
      clear hg69
      rcases bt ((a.1.neg != b.1.neg) && decide (0 < (((dl ((val a.1.w) % (val b.1.w))).length : Nat) : Int))) with h25 | h25
      ·skip
       refine W_t h25 rfl (Rk fun K J => sQ (qL ty_37 rfl (List.mem_append_right _ (List.mem_append_right _ (List.mem_append_right _ (List.mem_cons_of_mem _ (List.mem_cons_self))))) rfl) rfl (WL_r rfl (bF_ en_87 rfl (fun w hw => aE_ b.1 b.2 w) (fun vl26 Ll26 kl26 => ?_))))
       try simp only [dv_dl, dM_] at kl26
       refine sE rfl (WL_r rfl (bF_ en_92 rfl (fun w hw => c7_ vl26 vl21_1 (dl (val b.1.w)) (dl ((val a.1.w) % (val b.1.w))) (dl_DL _) (dl_DL _) (Nat.le_trans (cv_ (k := 32) (lt32 b.2)) (by decide)) (Nat.le_trans (cv_ (k := 32) (drem (lt32 a.2))) (by decide)) (by simp only [dv_dl, dM_]; exact (Nat.le_of_lt (Nat.mod_lt _ hB))) w (SL.sl (SL.sub kl26.sl (List.sublist_append_left _ _)) hw) (SL.sl (SL.sub kl21_1 (sR (List.sublist_append_left _ _))) hw)) (fun vl27 Ll27 kl27 => ?_)))
       try simp only [dv_dl, dM_] at kl27
       refine sE rfl (nl J (J5 _ _ (Rs fun K J => sQ (qF by_ rfl rfl) rfl (sQ (qC ty_4 rfl (List.mem_append_right _ (List.mem_append_right _ (List.mem_append_right _ (List.mem_append_right _ (List.mem_append_right _ (List.mem_cons_of_mem _ (List.mem_cons_self))))))) rfl) rfl (sE rfl (sQ (q_as (v' := AV [pI (E (Z.of (sgn b.1.neg ((val b.1.w) - ((val a.1.w) % (val b.1.w))))))]) (bY_ en_93 rfl (fun w hw => a5_ b.1.neg vl27 (dl ((val b.1.w) - ((val a.1.w) % (val b.1.w)))) (dl_DL _) (Nat.le_trans (cv_ (k := 32) (dsub (lt32 b.2))) (by decide)) w (SL.sl (SL.sub kl27.sl (List.sublist_append_left _ _)) hw))) (by rw [(dv_dl _)]; rfl)) rfl (sS [pI (E (Z.of (sgn b.1.neg ((val b.1.w) - ((val a.1.w) % (val b.1.w))))))] ty_37 rfl rfl rfl rfl rfl (Upd.left (Upd.left (Upd.left (Upd.left (Upd.left (.head _) _) _) _) _) _) rfl hb3 (nl J (W_ret (ret1 rfl (.inr rfl) (resP rfl (List.mem_append_right _ (List.mem_append_right _ (List.mem_append_right _ (List.mem_append_right _ (List.mem_append_right _ (List.mem_cons_self)))))) ty_37 rfl) ?_))))))))))
       exact (by exact congrArg (fun r : I => (AV [pI r] : Value)) (show _ = (cY_ a b) from bif_f h9 (bif_f h18 (bif_t h25 rfl))))
      ·skip
       refine W_f h25 rfl (aj_ (J5 _ _ (Rs fun K J => sQ (qF by_ rfl rfl) rfl (sQ (qC ty_4 rfl (List.mem_append_right _ (List.mem_append_right _ (List.mem_append_right _ (List.mem_cons_of_mem _ (List.mem_cons_self))))) rfl) rfl (sE rfl (sQ (q_as (v' := AV [pI (E (Z.of (sgn b.1.neg ((val a.1.w) % (val b.1.w)))))]) (bY_ en_93 rfl (fun w hw => a5_ b.1.neg vl21_1 (dl ((val a.1.w) % (val b.1.w))) (dl_DL _) (Nat.le_trans (cv_ (k := 32) (drem (lt32 a.2))) (by decide)) w (SL.sl (SL.sub kl21_1 (List.sublist_append_left _ _)) hw))) (by rw [(dv_dl _)]; rfl)) rfl (sS [pI (E (Z.of (sgn b.1.neg ((val a.1.w) % (val b.1.w)))))] ty_37 rfl rfl rfl rfl rfl (Upd.left (Upd.left (Upd.left (.head _) _) _) _) rfl hb3 (nl J (W_ret (ret1 rfl (.inr rfl) (resP rfl (List.mem_append_right _ (List.mem_append_right _ (List.mem_append_right _ (List.mem_cons_self)))) ty_37 rfl) ?_))))))))))
       exact (by exact congrArg (fun r : I => (AV [pI r] : Value)) (show _ = (cY_ a b) from bif_f h9 (bif_f h18 (bif_f h25 rfl))))
theorem fc_ (a b : R) (ha : a.Ok) (hb : b.Ok) : Ret Tryz.prog 41 [RV a, RV b] (RV (Z.rem a.dec b.dec).enc) := by
  have h := gY_ ⟨a, ha⟩ ⟨b, hb⟩
  rw [gs_] at h
  exact h
end Go.Proofs.YtapbefpeopaecaaGreatDoor

