/- Walks: what these functions return. -/
import Derived.Test.YtapbefpeopaecaaGreatDoorYGE
import Derived.Test.YtapbefpeopaecaaGreatDoorYPa
import Derived.Test.YtapbefpeopaecaaGreatDoorYSa
import Derived.Test.YtapbefpeopaecaaGreatDoorYSb
namespace Go.Proofs.YtapbefpeopaecaaGreatDoor
open Go.Kn Go.Num
set_option linter.unusedVariables false
set_option linter.unusedSimpArgs false
set_option maxRecDepth 20000
set_option maxHeartbeats 8000000
theorem gr_ (a : I) :
    Ret Tryz.prog 84 [AV [pI a]] (AV [pI (dk_ a)]) := by
 refine av_ (N := 13) Tryz.func84 rfl rfl (by simp) (fun w0 => ?_)
 simp only [initF, Nat.reduceAdd]
 refine Rs fun K J => WL_r rfl (a1_ rfl rfl (fun b1 hb1 => sN zp_37 rfl fun b2 hb2 => nl J (Sq fun K1 J1 => Rs fun K J => sQ (qL ty_37 rfl m1 rfl) rfl (sC (.bool a.1.good) en_86 (aH_ a.1 a.2) rfl rfl rfl (sE rfl (nl J ?_))))))
 rcases bt a.1.good with h3 | h3
 ·skip
  refine W_f (not_f h3) rfl (ak_ (J1 _ _ (ds sn [0,4,8,12,17,20,25] [6] mix (by kernel_rfl) (fun K J => pQ rfl (qF bq_ rfl rfl) (pQ rfl (qC ty_4 rfl m1 rfl) (pE rfl (pQ rfl (qL ty_37 rfl m1 rfl) (PL_o rfl rfl (bP_ en_87 rfl (fun w hw => aI_ a.1 a.2 w) (fun vl4 Ll4 kl4 => ⟨(fun _ => sR s0), sn, ?_⟩))))))))))
  try simp only [dv_dl, dx_] at kl4
  refine pQ rfl (q_as (v' := AV [pI (E (Z.of (sgn (!a.1.neg) (val a.1.w))))]) (bU_ en_93 rfl (fun w hw => a7_ (!a.1.neg) vl4 (dl (val a.1.w)) (dl_DL _) (Nat.le_trans (cB_ (k := 32) (lt32 a.2)) (by decide)) w (SL.sl (SL.sub kl4.sl (List.sublist_append_left _ _)) hw))) (by rw [(dv_dl _)]; rfl)) (oS [pI (E (Z.of (sgn (!a.1.neg) (val a.1.w))))] ty_37 rfl rfl rfl rfl rfl rfl (Upd.left (.head _) _) rfl hb2 rfl sn (fl J (W_ret (ret1 rfl (.inr rfl) (resP rfl (List.mem_append_right _ (List.mem_cons_self)) ty_37 rfl) ?_))))
  exact (by exact congrArg (fun r : I => (AV [pI r] : Value)) (show _ = (dk_ a) from bif_t h3 rfl))
 ·skip
  refine W_t (not_t h3) rfl (Rs fun K J => sC (AV [pI (E Z.bad)]) en_90 bm_ rfl rfl rfl (sS [pI (E Z.bad)] ty_37 rfl rfl rfl rfl rfl (.head _) rfl hb2 (nl J (W_ret (ai_ (ret1 rfl (.inr rfl) (resP rfl m0 ty_37 rfl) ?_))))))
  exact (by exact congrArg (fun r : I => (AV [pI r] : Value)) (show _ = (dk_ a) from bif_f h3 rfl))
theorem dw_ (a : R) (ha : a.Ok) : Ret Tryz.prog 84 [RV a] (RV (Z.neg a.dec).enc) := by
  have h := gr_ ⟨a, ha⟩
  rw [fU_] at h
  exact h

theorem gy_ (a : I) :
    Ret Tryz.prog 122 [AV [pI a]] (AV [pI (dj_ a)]) := by
 refine av_ (N := 10) Tryz.func122 rfl rfl (by simp) (fun w0 => ?_)
 simp only [initF, Nat.reduceAdd]
 refine Rs fun K J => WL_r rfl (a1_ rfl rfl (fun b1 hb1 => sN zp_37 rfl fun b2 hb2 => nl J (Sq fun K1 J1 => Rs fun K J => sQ (qL ty_37 rfl m1 rfl) rfl (sC (.bool a.1.good) en_86 (aH_ a.1 a.2) rfl rfl rfl (sE rfl (nl J ?_))))))
 rcases bt a.1.good with h3 | h3
 ·skip
  refine W_f (not_f h3) rfl (ak_ (J1 _ _ (Rs fun K J => sQ (qL ty_37 rfl m1 rfl) rfl (WL_r rfl (bP_ en_87 rfl (fun w hw => aI_ a.1 a.2 w) (fun vl4 Ll4 kl4 => ?_))))))
  try simp only [dv_dl, dx_] at kl4
  refine sQ (q_as (v' := AV [pI (E (Z.of (sgn false (val a.1.w))))]) (bU_ en_93 rfl (fun w hw => a7_ false vl4 (dl (val a.1.w)) (dl_DL _) (Nat.le_trans (cB_ (k := 32) (lt32 a.2)) (by decide)) w (SL.sl (SL.sub kl4.sl (List.sublist_append_left _ _)) hw))) (by rw [(dv_dl _)]; rfl)) rfl (sS [pI (E (Z.of (sgn false (val a.1.w))))] ty_37 rfl rfl rfl rfl rfl (Upd.left (.head _) _) rfl hb2 (nl J (W_ret (ret1 rfl (.inr rfl) (resP rfl (List.mem_append_right _ (List.mem_cons_self)) ty_37 rfl) ?_))))
  exact (by exact congrArg (fun r : I => (AV [pI r] : Value)) (show _ = (dj_ a) from bif_t h3 rfl))
 ·skip
  refine W_t (not_t h3) rfl (Rs fun K J => sC (AV [pI (E Z.bad)]) en_90 bm_ rfl rfl rfl (sS [pI (E Z.bad)] ty_37 rfl rfl rfl rfl rfl (.head _) rfl hb2 (nl J (W_ret (ai_ (ret1 rfl (.inr rfl) (resP rfl m0 ty_37 rfl) ?_))))))
  exact (by exact congrArg (fun r : I => (AV [pI r] : Value)) (show _ = (dj_ a) from bif_f h3 rfl))
theorem go_ (a : R) (ha : a.Ok) : Ret Tryz.prog 122 [RV a] (RV (Z.abs a.dec).enc) := by
  have h := gy_ ⟨a, ha⟩
  rw [fX_] at h
  exact h

theorem gv_ (a : I) (b : I) :
    Ret Tryz.prog 79 [AV [pI a], AV [pI b]] (AV [pI (cq_ a b)]) := by
 refine av_ (N := 70) Tryz.func79 rfl rfl (by simp) (fun w0 => ?_)
 simp only [initF, Nat.reduceAdd]
 refine Rs fun K J => WL_r rfl (a1_ rfl rfl (fun b1 hb1 => WL_r rfl (a1_ rfl rfl (fun b2 hb2 => sN zp_37 rfl fun b3 hb3 => nl J (Rs fun K J => sQ (qL ty_37 rfl m2 rfl) rfl (sC (.tuple #[.int .i64 ((wordW a).1), .bool (wordB a.1)]) en_88 (bI_ a.1 a.2) rfl rfl rfl (sE rfl (sE rfl (sE rfl (sE rfl (sE rfl (nl J (Rs fun K J => sQ (qL ty_37 rfl m1 rfl) rfl (sC (.tuple #[.int .i64 ((wordW b).1), .bool (wordB b.1)]) en_88 (bI_ b.1 b.2) rfl rfl rfl (sE rfl (sE rfl (sE rfl ?_)))))))))))))))))
 refine sE rfl (sE rfl (nl J (Sq fun K1 J1 => ?_)))
 refine bQ_ [22, 23, 24, 25] (fun g M => (g 25 = .bool ((wordB a.1) && (wordB b.1))) ∧ M = [⟨b3, 37, flat [pI I0]⟩, ⟨b2, 37, flat [pI b]⟩, ⟨b1, 37, flat [pI a]⟩]) (fun K2 J2 => ?_) ?_
 ·skip
  refine Rk fun K J => sE rfl ?_
  rcases bt (wordB a.1) with h5 | h5
  ·skip
   refine sB h5 rfl (sE rfl (sE rfl (nl J ?_)))
   refine J2 _ _ (by repeat first | exact .refl | refine .cons rfl ?_) ⟨_, s0, ?s25, rfl⟩
   case s25 => exact congrArg Value.bool (and_t h5 rfl)
  ·skip
   refine sB h5 rfl (WL_n rfl (sE rfl (nl J ?_)))
   refine J2 _ _ (by repeat first | exact .refl | refine .cons rfl ?_) ⟨_, s0, ?s25, rfl⟩
   case s25 => exact congrArg Value.bool (and_f h5)
 ·skip
  rintro g6 M ⟨hg25, rfl⟩
  simp only [setG, hg25]
  clear hg25
  rcases bt ((wordB a.1) && (wordB b.1)) with h7 | h7
  ·skip
   refine W_t h7 rfl (Rs fun K J => sE rfl (sE rfl (sV (.int .i64 ((W.add (wordW a) (wordW b)).1)) rfl rfl (sC (AV [pI (E (Z.of (W.add (wordW a) (wordW b)).1))]) en_74 (a9_ (W.add (wordW a) (wordW b)).1 (W.add (wordW a) (wordW b)).2) rfl rfl rfl (sS [pI (E (Z.of (W.add (wordW a) (wordW b)).1))] ty_37 rfl rfl rfl rfl rfl (.head _) rfl hb3 (nl J (W_ret (ai_ (ret1 rfl (.inr rfl) (resP rfl m0 ty_37 rfl) ?_)))))))))
   exact (by exact congrArg (fun r : I => (AV [pI r] : Value)) (show _ = (cq_ a b) from bif_t h7 rfl))
  ·skip
   refine W_f h7 rfl (ak_ (J1 _ _ (Sq fun K3 J3 => ?_)))
   refine bQ_ [30, 31, 32, 33, 34, 35, 36, 37] (fun g M => (g 37 = .bool (!a.1.good || (!b.1.good))) ∧ M = [⟨b3, 37, flat [pI I0]⟩, ⟨b2, 37, flat [pI b]⟩, ⟨b1, 37, flat [pI a]⟩]) (fun K4 J4 => ?_) ?_
   ·skip
    refine Rk fun K J => sQ (qL ty_37 rfl m2 rfl) rfl (sC (.bool a.1.good) en_86 (aH_ a.1 a.2) rfl rfl rfl (sE rfl ?_))
    rcases bt a.1.good with h9 | h9
    ·skip
     refine sB (not_f h9) rfl (sQ (qL ty_37 rfl m1 rfl) rfl (sC (.bool b.1.good) en_86 (aH_ b.1 b.2) rfl rfl rfl (sE rfl (sE rfl (nl J ?_)))))
     refine J4 _ _ (by repeat first | exact .refl | refine .cons rfl ?_) ⟨_, s0, ?s37, rfl⟩
     case s37 => exact congrArg Value.bool (nor_t h9 rfl)
    ·skip
     refine sB (not_t h9) rfl (WL_n rfl (WL_n rfl (WL_n rfl (sE rfl (nl J ?_)))))
     refine J4 _ _ (by repeat first | exact .refl | refine .cons rfl ?_) ⟨_, s0, ?s37, rfl⟩
     case s37 => exact congrArg Value.bool (nor_f h9)
   ·skip
    rintro g10 M ⟨hg37, rfl⟩
    simp only [setG, hg37]
    clear hg37
    rcases bt (!a.1.good || (!b.1.good)) with h11 | h11
    ·skip
     refine W_t h11 rfl (Rs fun K J => sC (AV [pI (E Z.bad)]) en_90 bm_ rfl rfl rfl (sS [pI (E Z.bad)] ty_37 rfl rfl rfl rfl rfl (.head _) rfl hb3 (nl J (W_ret (ai_ (ret1 rfl (.inr rfl) (resP rfl m0 ty_37 rfl) ?_))))))
     exact (by exact congrArg (fun r : I => (AV [pI r] : Value)) (show _ = (cq_ a b) from bif_f h7 (bif_t h11 rfl)))
    ·skip
     refine W_f h11 rfl (ak_ (J3 _ _ (Rs fun K J => sQ (qL ty_37 rfl m2 rfl) rfl (WL_r rfl (bP_ en_87 rfl (fun w hw => aI_ a.1 a.2 w) (fun vl12 Ll12 kl12 => ?_))))))
     try simp only [dv_dl, dx_] at kl12
     refine sE rfl (nl J (Rs fun K J => sQ (qL ty_37 rfl (List.mem_append_right _ (List.mem_cons_of_mem _ (List.mem_cons_self))) rfl) rfl (WL_r rfl (bP_ en_87 rfl (fun w hw => aI_ b.1 b.2 w) (fun vl13 Ll13 kl13 => ?_)))))
     try simp only [dv_dl, dx_] at kl13
     refine sE rfl (nl J (Sq fun K5 J5 => Rs fun K J => sQ (qF bq_ rfl rfl) rfl (sQ (qC ty_4 rfl (List.mem_append_right _ (List.mem_append_right _ (List.mem_cons_of_mem _ (List.mem_cons_of_mem _ (List.mem_cons_self))))) rfl) rfl (sQ (qF bq_ rfl rfl) rfl (sQ (qC ty_4 rfl (List.mem_append_right _ (List.mem_append_right _ (List.mem_cons_of_mem _ (List.mem_cons_self)))) rfl) rfl (sQ (q_as (v' := .bool (a.1.neg == b.1.neg)) (pt_ bo_4 rfl rfl) rfl) rfl (nl J ?_)))))))
     rcases bt (a.1.neg == b.1.neg) with h14 | h14
     ·skip
      refine W_t h14 rfl (ds sn [0,4,8,12,17,20,25] [6] mix (by kernel_rfl) (fun K J => pQ rfl (qF bq_ rfl rfl) (pQ rfl (qC ty_4 rfl (List.mem_append_right _ (List.mem_append_right _ (List.mem_cons_of_mem _ (List.mem_cons_of_mem _ (List.mem_cons_self))))) rfl) (pE rfl (pE rfl (PL_o rfl rfl (bP_ ng_ rfl (fun w hw => dT_ vl12 vl13 (dl (val a.1.w)) (dl (val b.1.w)) (dl_DL _) (dl_DL _) (Nat.le_trans (cB_ (k := 32) (lt32 a.2)) (by decide)) (Nat.le_trans (cB_ (k := 32) (lt32 b.2)) (by decide)) w (SL.sl (SL.sub kl12.sl (sR (List.sublist_append_left _ _))) hw) (SL.sl (SL.sub kl13.sl (List.sublist_append_left _ _)) hw)) (fun vl15 Ll15 kl15 => ⟨(fun _ => sR s0), sn, ?_⟩))))))))
      try simp only [dv_dl, dx_] at kl15
      refine pQ rfl (q_as (v' := AV [pI (E (Z.of (sgn a.1.neg ((val a.1.w) + (val b.1.w)))))]) (bU_ en_93 rfl (fun w hw => a7_ a.1.neg vl15 (dl ((val a.1.w) + (val b.1.w))) (dl_DL _) (Nat.le_trans (cB_ (k := 33) (dadd (k := 32) (lt32 a.2) (lt32 b.2))) (by decide)) w (SL.sl (SL.sub kl15.sl (List.sublist_append_left _ _)) hw))) (by rw [(dv_dl _)]; rfl)) (oS [pI (E (Z.of (sgn a.1.neg ((val a.1.w) + (val b.1.w)))))] ty_37 rfl rfl rfl rfl rfl rfl (Upd.left (Upd.left (Upd.left (.head _) _) _) _) rfl hb3 rfl sn (fl J (W_ret (ai_ (ret1 rfl (.inr rfl) (resP rfl (List.mem_append_right _ (List.mem_append_right _ (List.mem_append_right _ (List.mem_cons_self)))) ty_37 rfl) ?_)))))
      exact (by exact congrArg (fun r : I => (AV [pI r] : Value)) (show _ = (cq_ a b) from bif_f h7 (bif_f h11 (bif_t h14 rfl))))
     ·skip
      refine W_f h14 rfl (ak_ (J5 _ _ (Rs fun K J => sE rfl (sE rfl (sQ (q_as (v' := .bool (decide ((val a.1.w) < (val b.1.w)))) (bU_ iQ_ rfl (fun w hw => cE_ vl12 vl13 (dl (val a.1.w)) (dl (val b.1.w)) (dl_DL _) (dl_DL _) (Nat.le_trans (cB_ (k := 32) (lt32 a.2)) (by decide)) (Nat.le_trans (cB_ (k := 32) (lt32 b.2)) (by decide)) w (SL.sl (SL.sub kl12.sl (sR (List.sublist_append_left _ _))) hw) (SL.sl (SL.sub kl13.sl (List.sublist_append_left _ _)) hw))) (by rw [(dv_dl _), (dv_dl _)])) rfl (sE rfl (nl J (Sq fun K6 J6 => Rs fun K J => sE rfl (nl J ?_)))))))))
      rcases bt (decide ((val a.1.w) < (val b.1.w))) with h16 | h16
      ·skip
       refine W_t h16 rfl (ds sn [0,4,8,12,17,20,25] [6] mix (by kernel_rfl) (fun K J => pQ rfl (qF bq_ rfl rfl) (pQ rfl (qC ty_4 rfl (List.mem_append_right _ (List.mem_append_right _ (List.mem_cons_of_mem _ (List.mem_cons_self)))) rfl) (pE rfl (pE rfl (PL_o rfl rfl (bP_ en_92 rfl (fun w hw => cT_ vl13 vl12 (dl (val b.1.w)) (dl (val a.1.w)) (dl_DL _) (dl_DL _) (Nat.le_trans (cB_ (k := 32) (lt32 b.2)) (by decide)) (Nat.le_trans (cB_ (k := 32) (lt32 a.2)) (by decide)) (by simp only [dv_dl, dx_]; exact (Nat.le_of_lt (of_decide_eq_true h16))) w (SL.sl (SL.sub kl13.sl (List.sublist_append_left _ _)) hw) (SL.sl (SL.sub kl12.sl (sR (List.sublist_append_left _ _))) hw)) (fun vl17 Ll17 kl17 => ⟨(fun _ => sR s0), sn, ?_⟩))))))))
       try simp only [dv_dl, dx_] at kl17
       refine pQ rfl (q_as (v' := AV [pI (E (Z.of (sgn b.1.neg ((val b.1.w) - (val a.1.w)))))]) (bU_ en_93 rfl (fun w hw => a7_ b.1.neg vl17 (dl ((val b.1.w) - (val a.1.w))) (dl_DL _) (Nat.le_trans (cB_ (k := 32) (dsub (lt32 b.2))) (by decide)) w (SL.sl (SL.sub kl17.sl (List.sublist_append_left _ _)) hw))) (by rw [(dv_dl _)]; rfl)) (oS [pI (E (Z.of (sgn b.1.neg ((val b.1.w) - (val a.1.w)))))] ty_37 rfl rfl rfl rfl rfl rfl (Upd.left (Upd.left (Upd.left (.head _) _) _) _) rfl hb3 rfl sn (fl J (W_ret (ai_ (ret1 rfl (.inr rfl) (resP rfl (List.mem_append_right _ (List.mem_append_right _ (List.mem_append_right _ (List.mem_cons_self)))) ty_37 rfl) ?_)))))
       exact (by exact congrArg (fun r : I => (AV [pI r] : Value)) (show _ = (cq_ a b) from bif_f h7 (bif_f h11 (bif_f h14 (bif_t h16 rfl)))))
      ·skip
       refine W_f h16 rfl (ak_ (J6 _ _ (ds sn [0,4,8,12,17,20,25] [6] mix (by kernel_rfl) (fun K J => pQ rfl (qF bq_ rfl rfl) (pQ rfl (qC ty_4 rfl (List.mem_append_right _ (List.mem_append_right _ (List.mem_cons_of_mem _ (List.mem_cons_of_mem _ (List.mem_cons_self))))) rfl) (pE rfl (pE rfl (PL_o rfl rfl (bP_ en_92 rfl (fun w hw => cT_ vl12 vl13 (dl (val a.1.w)) (dl (val b.1.w)) (dl_DL _) (dl_DL _) (Nat.le_trans (cB_ (k := 32) (lt32 a.2)) (by decide)) (Nat.le_trans (cB_ (k := 32) (lt32 b.2)) (by decide)) (by simp only [dv_dl, dx_]; exact (Nat.le_of_not_lt (of_decide_eq_false h16))) w (SL.sl (SL.sub kl12.sl (sR (List.sublist_append_left _ _))) hw) (SL.sl (SL.sub kl13.sl (List.sublist_append_left _ _)) hw)) (fun vl18 Ll18 kl18 => ⟨(fun _ => sR s0), sn, ?_⟩))))))))))
       try simp only [dv_dl, dx_] at kl18
       refine pQ rfl (q_as (v' := AV [pI (E (Z.of (sgn a.1.neg ((val a.1.w) - (val b.1.w)))))]) (bU_ en_93 rfl (fun w hw => a7_ a.1.neg vl18 (dl ((val a.1.w) - (val b.1.w))) (dl_DL _) (Nat.le_trans (cB_ (k := 32) (dsub (lt32 a.2))) (by decide)) w (SL.sl (SL.sub kl18.sl (List.sublist_append_left _ _)) hw))) (by rw [(dv_dl _)]; rfl)) (oS [pI (E (Z.of (sgn a.1.neg ((val a.1.w) - (val b.1.w)))))] ty_37 rfl rfl rfl rfl rfl rfl (Upd.left (Upd.left (Upd.left (.head _) _) _) _) rfl hb3 rfl sn (fl J (W_ret (ret1 rfl (.inr rfl) (resP rfl (List.mem_append_right _ (List.mem_append_right _ (List.mem_append_right _ (List.mem_cons_self)))) ty_37 rfl) ?_))))
       exact (by exact congrArg (fun r : I => (AV [pI r] : Value)) (show _ = (cq_ a b) from bif_f h7 (bif_f h11 (bif_f h14 (bif_f h16 rfl)))))
theorem dv_ (a b : R) (ha : a.Ok) (hb : b.Ok) : Ret Tryz.prog 79 [RV a, RV b] (RV (Z.add a.dec b.dec).enc) := by
  have h := gv_ ⟨a, ha⟩ ⟨b, hb⟩
  rw [fW_] at h
  exact h

theorem gc_ (a : I) (b : I) :
    Ret Tryz.prog 151 [AV [pI a], AV [pI b]] (AV [pI (e8_ a b)]) := by
 refine av_ (N := 9) Tryz.func151 rfl rfl (by simp) (fun w0 => ?_)
 simp only [initF, Nat.reduceAdd]
 refine Rs fun K J => WL_r rfl (a1_ rfl rfl (fun b1 hb1 => WL_r rfl (a1_ rfl rfl (fun b2 hb2 => sN zp_37 rfl fun b3 hb3 => nl J (ds (sd (sk (sk (s0)))) [0,4,8,12,17] [4] mix (by kernel_rfl) (fun K J => pQ rfl (qL ty_37 rfl m2 rfl) (pQ rfl (qL ty_37 rfl m1 rfl) (pC (AV [pI (E (Z.neg b.dec))]) en_84 (dw_ b.1 b.2) rfl rfl rfl (pC (AV [pI (E (Z.add a.dec (Z.neg b.dec)))]) en_79 (dv_ a.1 (E (Z.neg b.dec)).1 a.2 (E (Z.neg b.dec)).2) rfl rfl (cg2 (fun p q => AV [pI (E (Z.add p q))]) rfl (E_dec _)) (oS [pI (E (Z.add a.dec (Z.neg b.dec)))] ty_37 rfl rfl rfl rfl rfl rfl (.head _) rfl hb3 rfl (sd s0) (fl J (W_ret (ret1 rfl (.inr rfl) (resP rfl m0 ty_37 rfl) ?_)))))))))))))
 exact (by rfl)
theorem gf_ (a b : R) (ha : a.Ok) (hb : b.Ok) : Ret Tryz.prog 151 [RV a, RV b] (RV (Z.sub a.dec b.dec).enc) := by
  have h := gc_ ⟨a, ha⟩ ⟨b, hb⟩
  rw [fY_] at h
  exact h

theorem gj_ (a : I) (b : I) :
    Ret Tryz.prog 80 [AV [pI a], AV [pI b]] (AV [pI (cZ_ a b)]) := by
 refine av_ (N := 55) Tryz.func80 rfl rfl (by simp) (fun w0 => ?_)
 simp only [initF, Nat.reduceAdd]
 refine Rs fun K J => WL_r rfl (a1_ rfl rfl (fun b1 hb1 => WL_r rfl (a1_ rfl rfl (fun b2 hb2 => sN zp_37 rfl fun b3 hb3 => nl J (Rs fun K J => sQ (qL ty_37 rfl m2 rfl) rfl (sC (.tuple #[.int .i64 ((wordW a).1), .bool (wordB a.1)]) en_88 (bI_ a.1 a.2) rfl rfl rfl (sE rfl (sE rfl (sE rfl (sE rfl (sE rfl (nl J (Rs fun K J => sQ (qL ty_37 rfl m1 rfl) rfl (sC (.tuple #[.int .i64 ((wordW b).1), .bool (wordB b.1)]) en_88 (bI_ b.1 b.2) rfl rfl rfl (sE rfl (sE rfl (sE rfl ?_)))))))))))))))))
 refine sE rfl (sE rfl (nl J (Sq fun K1 J1 => ?_)))
 refine bQ_ [19, 20, 21, 22, 23, 24, 25, 26, 27, 28, 29, 30] (fun g M => (g 30 = .bool ((wordB a.1) && ((wordB b.1) && ((decide ((wordW a).1 < 2147483648) && decide (-2147483648 < (wordW a).1)) && (decide ((wordW b).1 < 2147483648) && decide (-2147483648 < (wordW b).1)))))) ∧ M = [⟨b3, 37, flat [pI I0]⟩, ⟨b2, 37, flat [pI b]⟩, ⟨b1, 37, flat [pI a]⟩]) (fun K2 J2 => ?_) ?_
 ·skip
  refine Rk fun K J => sE rfl ?_
  rcases bt (wordB a.1) with h7 | h7
  ·skip
   refine sB h7 rfl (sE rfl (sE rfl ?_))
   rcases bt (wordB b.1) with h8 | h8
   ·skip
    refine sB h8 rfl (sE rfl (sC (.bool (decide ((wordW a).1 < 2147483648) && decide (-2147483648 < (wordW a).1))) pp_ (ew_ (wordW a).1) rfl rfl rfl (sE rfl ?_)))
    rcases bt (decide ((wordW a).1 < 2147483648) && decide (-2147483648 < (wordW a).1)) with h9 | h9
    ·skip
     refine sB h9 rfl (sE rfl (sC (.bool (decide ((wordW b).1 < 2147483648) && decide (-2147483648 < (wordW b).1))) pp_ (ew_ (wordW b).1) rfl rfl rfl (sE rfl (nl J ?_))))
     refine J2 _ _ (by repeat first | exact .refl | refine .cons rfl ?_) ⟨_, s0, ?s30, rfl⟩
     case s30 => exact congrArg Value.bool (and_t h7 (and_t h8 (and_t h9 rfl)))
    ·skip
     refine sB h9 rfl (WL_n rfl (WL_n rfl (sE rfl (nl J ?_))))
     refine J2 _ _ (by repeat first | exact .refl | refine .cons rfl ?_) ⟨_, s0, ?s30, rfl⟩
     case s30 => exact congrArg Value.bool (and_t h7 (and_t h8 (and_f h9)))
   ·skip
    refine sB h8 rfl (WL_n rfl (WL_n rfl (sE rfl (sE rfl (WL_n rfl (WL_n rfl (sE rfl (nl J ?_))))))))
    refine J2 _ _ (by repeat first | exact .refl | refine .cons rfl ?_) ⟨_, s0, ?s30, rfl⟩
    case s30 => exact congrArg Value.bool (and_t h7 (and_f h8))
  ·skip
   refine sB h7 rfl (WL_n rfl (sE rfl (sE rfl (WL_n rfl (WL_n rfl (sE rfl (sE rfl (WL_n rfl (WL_n rfl (sE rfl (nl J ?_)))))))))))
   refine J2 _ _ (by repeat first | exact .refl | refine .cons rfl ?_) ⟨_, s0, ?s30, rfl⟩
   case s30 => exact congrArg Value.bool (and_f h7)
 ·skip
  rintro g10 M ⟨hg30, rfl⟩
  simp only [setG, hg30]
  clear hg30
  rcases bt ((wordB a.1) && ((wordB b.1) && ((decide ((wordW a).1 < 2147483648) && decide (-2147483648 < (wordW a).1)) && (decide ((wordW b).1 < 2147483648) && decide (-2147483648 < (wordW b).1))))) with h11 | h11
  ·skip
   refine W_t h11 rfl (Rs fun K J => sE rfl (sE rfl (sV (.int .i64 ((W.mul (wordW a) (wordW b)).1)) rfl rfl (sC (AV [pI (E (Z.of (W.mul (wordW a) (wordW b)).1))]) en_74 (a9_ (W.mul (wordW a) (wordW b)).1 (W.mul (wordW a) (wordW b)).2) rfl rfl rfl (sS [pI (E (Z.of (W.mul (wordW a) (wordW b)).1))] ty_37 rfl rfl rfl rfl rfl (.head _) rfl hb3 (nl J (W_ret (ai_ (ret1 rfl (.inr rfl) (resP rfl m0 ty_37 rfl) ?_)))))))))
   exact (by exact congrArg (fun r : I => (AV [pI r] : Value)) (show _ = (cZ_ a b) from bif_t h11 rfl))
  ·skip
   refine W_f h11 rfl (ak_ (J1 _ _ (Sq fun K3 J3 => ?_)))
   refine bQ_ [35, 36, 37, 38, 39, 40, 41, 42] (fun g M => (g 42 = .bool (!a.1.good || (!b.1.good))) ∧ M = [⟨b3, 37, flat [pI I0]⟩, ⟨b2, 37, flat [pI b]⟩, ⟨b1, 37, flat [pI a]⟩]) (fun K4 J4 => ?_) ?_
   ·skip
    refine Rk fun K J => sQ (qL ty_37 rfl m2 rfl) rfl (sC (.bool a.1.good) en_86 (aH_ a.1 a.2) rfl rfl rfl (sE rfl ?_))
    rcases bt a.1.good with h13 | h13
    ·skip
     refine sB (not_f h13) rfl (sQ (qL ty_37 rfl m1 rfl) rfl (sC (.bool b.1.good) en_86 (aH_ b.1 b.2) rfl rfl rfl (sE rfl (sE rfl (nl J ?_)))))
     refine J4 _ _ (by repeat first | exact .refl | refine .cons rfl ?_) ⟨_, s0, ?s42, rfl⟩
     case s42 => exact congrArg Value.bool (nor_t h13 rfl)
    ·skip
     refine sB (not_t h13) rfl (WL_n rfl (WL_n rfl (WL_n rfl (sE rfl (nl J ?_)))))
     refine J4 _ _ (by repeat first | exact .refl | refine .cons rfl ?_) ⟨_, s0, ?s42, rfl⟩
     case s42 => exact congrArg Value.bool (nor_f h13)
   ·skip
    rintro g14 M ⟨hg42, rfl⟩
    simp only [setG, hg42]
    clear hg42
    rcases bt (!a.1.good || (!b.1.good)) with h15 | h15
    ·skip
     refine W_t h15 rfl (Rs fun K J => sC (AV [pI (E Z.bad)]) en_90 bm_ rfl rfl rfl (sS [pI (E Z.bad)] ty_37 rfl rfl rfl rfl rfl (.head _) rfl hb3 (nl J (W_ret (ai_ (ret1 rfl (.inr rfl) (resP rfl m0 ty_37 rfl) ?_))))))
     exact (by exact congrArg (fun r : I => (AV [pI r] : Value)) (show _ = (cZ_ a b) from bif_f h11 (bif_t h15 rfl)))
    ·skip
     refine W_f h15 rfl (ak_ (J3 _ _ (ds sn [0,4,8,12,16,20,28,25,33,37,40,45] [11] mix (by kernel_rfl) (fun K J => pQ rfl (qF bq_ rfl rfl) (pQ rfl (qC ty_4 rfl m2 rfl) (pQ rfl (qF bq_ rfl rfl) (pQ rfl (qC ty_4 rfl m1 rfl) (pQ rfl (q_as (v' := .bool (a.1.neg != b.1.neg)) (fw_ bo_4 rfl rfl) rfl) (pQ rfl (qL ty_37 rfl m2 rfl) (pQ rfl (qL ty_37 rfl m1 rfl) (PL_o rfl rfl (bP_ en_87 rfl (fun w hw => aI_ a.1 a.2 w) (fun vl16 Ll16 kl16 => ⟨(fun _ => sR s0), sn, ?_⟩)))))))))))))
     try simp only [dv_dl, dx_] at kl16
     refine PL_o rfl rfl (bP_ en_87 rfl (fun w hw => aI_ b.1 b.2 w) (fun vl17 Ll17 kl17 => ⟨(fun _ => sR s0), sn, ?_⟩))
     try simp only [dv_dl, dx_] at kl17
     refine PL_o rfl rfl (bP_ pw_ rfl (fun w hw => eq_ vl16 vl17 (dl (val a.1.w)) (dl (val b.1.w)) (dl_DL _) (dl_DL _) (Nat.le_trans (cB_ (k := 32) (lt32 a.2)) (by decide)) (Nat.le_trans (cB_ (k := 32) (lt32 b.2)) (by decide)) w (SL.sl (SL.sub kl16.sl (sR (List.sublist_append_left _ _))) hw) (SL.sl (SL.sub kl17.sl (List.sublist_append_left _ _)) hw)) (fun vl18 Ll18 kl18 => ⟨(fun _ => sR s0), sn, ?_⟩))
     try simp only [dv_dl, dx_] at kl18
     refine pQ rfl (q_as (v' := AV [pI (E (Z.of (sgn (a.1.neg != b.1.neg) ((val a.1.w) * (val b.1.w)))))]) (bU_ en_93 rfl (fun w hw => a7_ (a.1.neg != b.1.neg) vl18 (dl ((val a.1.w) * (val b.1.w))) (dl_DL _) (Nat.le_trans (cB_ (k := 64) (dmul (i := 32) (k := 32) (lt32 a.2) (lt32 b.2))) (by decide)) w (SL.sl (SL.sub kl18.sl (List.sublist_append_left _ _)) hw))) (by rw [(dv_dl _)]; rfl)) (oS [pI (E (Z.of (sgn (a.1.neg != b.1.neg) ((val a.1.w) * (val b.1.w)))))] ty_37 rfl rfl rfl rfl rfl rfl (Upd.left (Upd.left (Upd.left (.head _) _) _) _) rfl hb3 rfl sn (fl J (W_ret (ret1 rfl (.inr rfl) (resP rfl (List.mem_append_right _ (List.mem_append_right _ (List.mem_append_right _ (List.mem_cons_self)))) ty_37 rfl) ?_))))
     exact (by exact congrArg (fun r : I => (AV [pI r] : Value)) (show _ = (cZ_ a b) from bif_f h11 (bif_f h15 rfl)))
theorem bO_ (a b : R) (ha : a.Ok) (hb : b.Ok) : Ret Tryz.prog 80 [RV a, RV b] (RV (Z.mul a.dec b.dec).enc) := by
  have h := gj_ ⟨a, ha⟩ ⟨b, hb⟩
  rw [fV_] at h
  exact h

theorem f0_ (a : I) :
    Ret Tryz.prog 40 [AV [pI a]] (.int .i64 ((cX_ a).1)) := by
 refine av_ (N := 14) Tryz.func40 rfl rfl (by simp) (fun w0 => ?_)
 simp only [initF, Nat.reduceAdd]
 refine Rs fun K J => WL_r rfl (a1_ rfl rfl (fun b1 hb1 => sE rfl (nl J (Sq fun K1 J1 => ?_))))
 refine bQ_ [3, 4, 5, 6, 7, 8, 9, 10, 11] (fun g M => (g 11 = .bool (!a.1.good || ((((dl (val a.1.w)).length : Nat) : Int) == 0))) ∧ M = [⟨b1, 37, flat [pI a]⟩]) (fun K2 J2 => ?_) ?_
 ·skip
  refine Rk fun K J => sQ (qL ty_37 rfl m0 rfl) rfl (sC (.bool a.1.good) en_86 (aH_ a.1 a.2) rfl rfl rfl (sE rfl ?_))
  rcases bt a.1.good with h4 | h4
  ·skip
   refine sB (not_f h4) rfl (sQ (qL ty_37 rfl m0 rfl) rfl (WL_r rfl (bP_ en_87 rfl (fun w hw => aI_ a.1 a.2 w) (fun vl5 Ll5 kl5 => ?_))))
   try simp only [dv_dl, dx_] at kl5
   refine sQ (q_as (v' := .int .i64 (((dl (val a.1.w)).length : Nat) : Int)) (dX_ sl_81 rfl (SL.sub kl5.sl (List.sublist_append_left _ _))) rfl) rfl (sE rfl (sE rfl (nl J ?_)))
   refine J2 _ _ (by repeat first | exact .refl | refine .cons rfl ?_) ⟨_, (sR (s0)), ?s11, rfl⟩
   case s11 => exact congrArg Value.bool (nor_t h4 rfl)
  ·skip
   refine sB (not_t h4) rfl (WL_n rfl (WL_n rfl (WL_n rfl (WL_n rfl (sE rfl (nl J ?_))))))
   refine J2 _ _ (by repeat first | exact .refl | refine .cons rfl ?_) ⟨_, s0, ?s11, rfl⟩
   case s11 => exact congrArg Value.bool (nor_f h4)
 ·skip
  rintro g6 M ⟨hg11, rfl⟩
  simp only [setG, hg11]
  clear hg11
  rcases bt (!a.1.good || ((((dl (val a.1.w)).length : Nat) : Int) == 0)) with h7 | h7
  ·skip
   refine W_t h7 rfl (Rs fun K J => sE rfl (nl J (W_ret (ai_ (ret1 rfl (.inr rfl) rfl ?_)))))
   exact (by exact congrArg (fun r : W => (.int .i64 r.1 : Value)) (show _ = (cX_ a) from bif_t h7 rfl))
  ·skip
   refine W_f h7 rfl (ak_ (J1 _ _ (Sq fun K3 J3 => Rs fun K J => sQ (qF bq_ rfl rfl) rfl (sQ (qC ty_4 rfl m0 rfl) rfl (nl J ?_)))))
   rcases bt a.1.neg with h8 | h8
   ·skip
    refine W_t h8 rfl (Rs fun K J => sE rfl (nl J (W_ret (ai_ (ret1 rfl (.inr rfl) rfl ?_)))))
    exact (by exact congrArg (fun r : W => (.int .i64 r.1 : Value)) (show _ = (cX_ a) from bif_f h7 (bif_t h8 rfl)))
   ·skip
    refine W_f h8 rfl (ak_ (J3 _ _ (Rs fun K J => sE rfl (nl J (W_ret (ret1 rfl (.inr rfl) rfl ?_))))))
    exact (by exact congrArg (fun r : W => (.int .i64 r.1 : Value)) (show _ = (cX_ a) from bif_f h7 (bif_f h8 rfl)))
theorem ba_ (a : R) (ha : a.Ok) : Ret Tryz.prog 40 [RV a] (.int .i64 a.dec.sign) := by
  have h := f0_ ⟨a, ha⟩
  rw [fI_] at h
  exact h

theorem gu_ (a : I) (b : I) :
    Ret Tryz.prog 119 [AV [pI a], AV [pI b]] (.int .i64 ((bp_ a b).1)) := by
 refine av_ (N := 48) Tryz.func119 rfl rfl (by simp) (fun w0 => ?_)
 simp only [initF, Nat.reduceAdd]
 refine Rs fun K J => WL_r rfl (a1_ rfl rfl (fun b1 hb1 => WL_r rfl (a1_ rfl rfl (fun b2 hb2 => sE rfl (nl J (Sq fun K1 J1 => ?_))))))
 refine bQ_ [9, 10, 11, 12, 13, 14, 15, 16] (fun g M => (g 16 = .bool (!a.1.good && (!b.1.good))) ∧ M = [⟨b2, 37, flat [pI b]⟩, ⟨b1, 37, flat [pI a]⟩]) (fun K2 J2 => ?_) ?_
 ·skip
  refine Rk fun K J => sQ (qL ty_37 rfl m1 rfl) rfl (sC (.bool a.1.good) en_86 (aH_ a.1 a.2) rfl rfl rfl (sE rfl ?_))
  rcases bt a.1.good with h4 | h4
  ·skip
   refine sB (not_f h4) rfl (WL_n rfl (WL_n rfl (WL_n rfl (sE rfl (nl J ?_)))))
   refine J2 _ _ (by repeat first | exact .refl | refine .cons rfl ?_) ⟨_, s0, ?s16, rfl⟩
   case s16 => exact congrArg Value.bool (hu_ h4)
  ·skip
   refine sB (not_t h4) rfl (sQ (qL ty_37 rfl m0 rfl) rfl (sC (.bool b.1.good) en_86 (aH_ b.1 b.2) rfl rfl rfl (sE rfl (sE rfl (nl J ?_)))))
   refine J2 _ _ (by repeat first | exact .refl | refine .cons rfl ?_) ⟨_, s0, ?s16, rfl⟩
   case s16 => exact congrArg Value.bool (fz_ h4 rfl)
 ·skip
  rintro g5 M ⟨hg16, rfl⟩
  simp only [setG, hg16]
  clear hg16
  rcases bt (!a.1.good && (!b.1.good)) with h6 | h6
  ·skip
   refine W_t h6 rfl (Rs fun K J => sE rfl (nl J (W_ret (ai_ (ret1 rfl (.inr rfl) rfl ?_)))))
   exact (by exact congrArg (fun r : W => (.int .i64 r.1 : Value)) (show _ = (bp_ a b) from bif_t h6 rfl))
  ·skip
   refine W_f h6 rfl (ak_ (J1 _ _ (Sq fun K3 J3 => Rs fun K J => sQ (qL ty_37 rfl m1 rfl) rfl (sC (.bool a.1.good) en_86 (aH_ a.1 a.2) rfl rfl rfl (sE rfl (nl J ?_))))))
   rcases bt a.1.good with h7 | h7
   ·skip
    refine W_f (not_f h7) rfl (ak_ (J3 _ _ (Sq fun K4 J4 => Rs fun K J => sQ (qL ty_37 rfl m0 rfl) rfl (sC (.bool b.1.good) en_86 (aH_ b.1 b.2) rfl rfl rfl (sE rfl (nl J ?_))))))
    rcases bt b.1.good with h8 | h8
    ·skip
     refine W_f (not_f h8) rfl (ak_ (J4 _ _ (Sq fun K5 J5 => Rs fun K J => sQ (qF bq_ rfl rfl) rfl (sQ (qC ty_4 rfl m1 rfl) rfl (sQ (qF bq_ rfl rfl) rfl (sQ (qC ty_4 rfl m0 rfl) rfl (sQ (q_as (v' := .bool (a.1.neg != b.1.neg)) (fw_ bo_4 rfl rfl) rfl) rfl (nl J ?_))))))))
     rcases bt (a.1.neg != b.1.neg) with h9 | h9
     ·skip
      refine W_t h9 rfl (Sq fun K6 J6 => Rs fun K J => sQ (qF bq_ rfl rfl) rfl (sQ (qC ty_4 rfl m1 rfl) rfl (nl J ?_)))
      rcases bt a.1.neg with h10 | h10
      ·skip
       refine W_t h10 rfl (Rs fun K J => sE rfl (nl J (W_ret (ai_ (ai_ (ret1 rfl (.inr rfl) rfl ?_))))))
       exact (by exact congrArg (fun r : W => (.int .i64 r.1 : Value)) (show _ = (bp_ a b) from bif_f h6 (bif_t h7 (bif_t h8 (bif_t h9 (bif_t h10 rfl))))))
      ·skip
       refine W_f h10 rfl (ak_ (J6 _ _ (Rs fun K J => sE rfl (nl J (W_ret (ai_ (ret1 rfl (.inr rfl) rfl ?_)))))))
       exact (by exact congrArg (fun r : W => (.int .i64 r.1 : Value)) (show _ = (bp_ a b) from bif_f h6 (bif_t h7 (bif_t h8 (bif_t h9 (bif_f h10 rfl))))))
     ·skip
      refine W_f h9 rfl (ak_ (J5 _ _ (Rs fun K J => sQ (qL ty_37 rfl m1 rfl) rfl (WL_r rfl (bP_ en_87 rfl (fun w hw => aI_ a.1 a.2 w) (fun vl11 Ll11 kl11 => ?_))))))
      try simp only [dv_dl, dx_] at kl11
      refine sE rfl (nl J (Rs fun K J => sQ (qL ty_37 rfl (List.mem_append_right _ (List.mem_cons_self)) rfl) rfl (WL_r rfl (bP_ en_87 rfl (fun w hw => aI_ b.1 b.2 w) (fun vl12 Ll12 kl12 => ?_)))))
      try simp only [dv_dl, dx_] at kl12
      refine sE rfl (nl J (Sq fun K7 J7 => Rs fun K J => sQ (qF bq_ rfl rfl) rfl (sQ (qC ty_4 rfl (List.mem_append_right _ (List.mem_append_right _ (List.mem_cons_of_mem _ (List.mem_cons_self)))) rfl) rfl (nl J ?_))))
      rcases bt a.1.neg with h13 | h13
      ·skip
       refine W_t h13 rfl (Rs fun K J => sQ (qL ty_37 rfl (List.mem_append_right _ (List.mem_append_right _ (List.mem_cons_self))) rfl) rfl (WL_r rfl (bP_ en_87 rfl (fun w hw => aI_ b.1 b.2 w) (fun vl14 Ll14 kl14 => ?_))))
       try simp only [dv_dl, dx_] at kl14
       refine sE rfl (nl J (Rk fun K J => sQ (qL ty_37 rfl (List.mem_append_right _ (List.mem_append_right _ (List.mem_append_right _ (List.mem_cons_of_mem _ (List.mem_cons_self))))) rfl) rfl (WL_r rfl (bP_ en_87 rfl (fun w hw => aI_ a.1 a.2 w) (fun vl15 Ll15 kl15 => ?_)))))
       try simp only [dv_dl, dx_] at kl15
       refine sE rfl (nl J (J7 _ _ (Rs fun K J => sE rfl (sE rfl (sQ (q_as (v' := .bool (decide ((val b.1.w) < (val a.1.w)))) (bU_ iQ_ rfl (fun w hw => cE_ vl14 vl15 (dl (val b.1.w)) (dl (val a.1.w)) (dl_DL _) (dl_DL _) (Nat.le_trans (cB_ (k := 32) (lt32 b.2)) (by decide)) (Nat.le_trans (cB_ (k := 32) (lt32 a.2)) (by decide)) w (SL.sl (SL.sub kl14.sl (sR (List.sublist_append_left _ _))) hw) (SL.sl (SL.sub kl15.sl (List.sublist_append_left _ _)) hw))) (by rw [(dv_dl _), (dv_dl _)])) rfl (sE rfl (nl J (Rs fun K J => sE rfl (sE rfl (sQ (q_as (v' := .bool (decide ((val a.1.w) < (val b.1.w)))) (bU_ iQ_ rfl (fun w hw => cE_ vl15 vl14 (dl (val a.1.w)) (dl (val b.1.w)) (dl_DL _) (dl_DL _) (Nat.le_trans (cB_ (k := 32) (lt32 a.2)) (by decide)) (Nat.le_trans (cB_ (k := 32) (lt32 b.2)) (by decide)) w (SL.sl (SL.sub kl15.sl (List.sublist_append_left _ _)) hw) (SL.sl (SL.sub kl14.sl (sR (List.sublist_append_left _ _))) hw))) (by rw [(dv_dl _), (dv_dl _)])) rfl (sE rfl (nl J (Sq fun K8 J8 => Rs fun K J => sE rfl (nl J ?_))))))))))))))
       rcases bt (decide ((val b.1.w) < (val a.1.w))) with h16 | h16
       ·skip
        refine W_t h16 rfl (Rs fun K J => sE rfl (nl J (W_ret (ai_ (ret1 rfl (.inr rfl) rfl ?_)))))
        exact (by exact congrArg (fun r : W => (.int .i64 r.1 : Value)) (show _ = (bp_ a b) from bif_f h6 (bif_t h7 (bif_t h8 (bif_f h9 (bif_t h13 (bif_t h16 rfl)))))))
       ·skip
        refine W_f h16 rfl (ak_ (J8 _ _ (Sq fun K9 J9 => Rs fun K J => sE rfl (nl J ?_))))
        rcases bt (decide ((val a.1.w) < (val b.1.w))) with h17 | h17
        ·skip
         refine W_t h17 rfl (Rs fun K J => sE rfl (nl J (W_ret (ai_ (ret1 rfl (.inr rfl) rfl ?_)))))
         exact (by exact congrArg (fun r : W => (.int .i64 r.1 : Value)) (show _ = (bp_ a b) from bif_f h6 (bif_t h7 (bif_t h8 (bif_f h9 (bif_t h13 (bif_f h16 (bif_t h17 rfl))))))))
        ·skip
         refine W_f h17 rfl (ak_ (J9 _ _ (Rs fun K J => sE rfl (nl J (W_ret (ret1 rfl (.inr rfl) rfl ?_))))))
         exact (by exact congrArg (fun r : W => (.int .i64 r.1 : Value)) (show _ = (bp_ a b) from bif_f h6 (bif_t h7 (bif_t h8 (bif_f h9 (bif_t h13 (bif_f h16 (bif_f h17 rfl))))))))
      ·skip
       refine W_f h13 rfl (ak_ (J7 _ _ (Rs fun K J => sE rfl (sE rfl (sQ (q_as (v' := .bool (decide ((val a.1.w) < (val b.1.w)))) (bU_ iQ_ rfl (fun w hw => cE_ vl11 vl12 (dl (val a.1.w)) (dl (val b.1.w)) (dl_DL _) (dl_DL _) (Nat.le_trans (cB_ (k := 32) (lt32 a.2)) (by decide)) (Nat.le_trans (cB_ (k := 32) (lt32 b.2)) (by decide)) w (SL.sl (SL.sub kl11.sl (sR (List.sublist_append_left _ _))) hw) (SL.sl (SL.sub kl12.sl (List.sublist_append_left _ _)) hw))) (by rw [(dv_dl _), (dv_dl _)])) rfl (sE rfl (nl J (Rs fun K J => sE rfl (sE rfl (sQ (q_as (v' := .bool (decide ((val b.1.w) < (val a.1.w)))) (bU_ iQ_ rfl (fun w hw => cE_ vl12 vl11 (dl (val b.1.w)) (dl (val a.1.w)) (dl_DL _) (dl_DL _) (Nat.le_trans (cB_ (k := 32) (lt32 b.2)) (by decide)) (Nat.le_trans (cB_ (k := 32) (lt32 a.2)) (by decide)) w (SL.sl (SL.sub kl12.sl (List.sublist_append_left _ _)) hw) (SL.sl (SL.sub kl11.sl (sR (List.sublist_append_left _ _))) hw))) (by rw [(dv_dl _), (dv_dl _)])) rfl (sE rfl (nl J (Sq fun K10 J10 => Rs fun K J => sE rfl (nl J ?_))))))))))))))
       rcases bt (decide ((val a.1.w) < (val b.1.w))) with h18 | h18
       ·skip
        refine W_t h18 rfl (Rs fun K J => sE rfl (nl J (W_ret (ai_ (ret1 rfl (.inr rfl) rfl ?_)))))
        exact (by exact congrArg (fun r : W => (.int .i64 r.1 : Value)) (show _ = (bp_ a b) from bif_f h6 (bif_t h7 (bif_t h8 (bif_f h9 (bif_f h13 (bif_t h18 rfl)))))))
       ·skip
        refine W_f h18 rfl (ak_ (J10 _ _ (Sq fun K11 J11 => Rs fun K J => sE rfl (nl J ?_))))
        rcases bt (decide ((val b.1.w) < (val a.1.w))) with h19 | h19
        ·skip
         refine W_t h19 rfl (Rs fun K J => sE rfl (nl J (W_ret (ai_ (ret1 rfl (.inr rfl) rfl ?_)))))
         exact (by exact congrArg (fun r : W => (.int .i64 r.1 : Value)) (show _ = (bp_ a b) from bif_f h6 (bif_t h7 (bif_t h8 (bif_f h9 (bif_f h13 (bif_f h18 (bif_t h19 rfl))))))))
        ·skip
         refine W_f h19 rfl (ak_ (J11 _ _ (Rs fun K J => sE rfl (nl J (W_ret (ret1 rfl (.inr rfl) rfl ?_))))))
         exact (by exact congrArg (fun r : W => (.int .i64 r.1 : Value)) (show _ = (bp_ a b) from bif_f h6 (bif_t h7 (bif_t h8 (bif_f h9 (bif_f h13 (bif_f h18 (bif_f h19 rfl))))))))
    ·skip
     refine W_t (not_t h8) rfl (Rs fun K J => sE rfl (nl J (W_ret (ai_ (ret1 rfl (.inr rfl) rfl ?_)))))
     exact (by exact congrArg (fun r : W => (.int .i64 r.1 : Value)) (show _ = (bp_ a b) from bif_f h6 (bif_t h7 (bif_f h8 rfl))))
   ·skip
    refine W_t (not_t h7) rfl (Rs fun K J => sE rfl (nl J (W_ret (ai_ (ret1 rfl (.inr rfl) rfl ?_)))))
    exact (by exact congrArg (fun r : W => (.int .i64 r.1 : Value)) (show _ = (bp_ a b) from bif_f h6 (bif_f h7 rfl)))
theorem ds_ (a b : R) (ha : a.Ok) (hb : b.Ok) : Ret Tryz.prog 119 [RV a, RV b] (.int .i64 (Z.cmp a.dec b.dec)) := by
  have h := gu_ ⟨a, ha⟩ ⟨b, hb⟩
  rw [f2_] at h
  exact h

theorem gl_ (a : I) (b : I) :
    Ret Tryz.prog 78 [AV [pI a], AV [pI b]] (AV [pI (cI_ a b)]) := by
 refine av_ (N := 76) Tryz.func78 rfl rfl (by simp) (fun w0 => ?_)
 simp only [initF, Nat.reduceAdd]
 refine Rs fun K J => WL_r rfl (a1_ rfl rfl (fun b1 hb1 => WL_r rfl (a1_ rfl rfl (fun b2 hb2 => sN zp_37 rfl fun b3 hb3 => nl J (Rs fun K J => sQ (qL ty_37 rfl m2 rfl) rfl (sC (.tuple #[.int .i64 ((wordW a).1), .bool (wordB a.1)]) en_88 (bI_ a.1 a.2) rfl rfl rfl (sE rfl (sE rfl (sE rfl (sE rfl (sE rfl (nl J (Rs fun K J => sQ (qL ty_37 rfl m1 rfl) rfl (sC (.tuple #[.int .i64 ((wordW b).1), .bool (wordB b.1)]) en_88 (bI_ b.1 b.2) rfl rfl rfl (sE rfl (sE rfl (sE rfl ?_)))))))))))))))))
 refine sE rfl (sE rfl (nl J (Sq fun K1 J1 => ?_)))
 refine bQ_ [21, 22, 23, 24, 25, 26, 27, 28] (fun g M => (g 28 = .bool ((wordB a.1) && ((wordB b.1) && ((wordW b).1 != 0)))) ∧ M = [⟨b3, 37, flat [pI I0]⟩, ⟨b2, 37, flat [pI b]⟩, ⟨b1, 37, flat [pI a]⟩]) (fun K2 J2 => ?_) ?_
 ·skip
  refine Rk fun K J => sE rfl ?_
  rcases bt (wordB a.1) with h6 | h6
  ·skip
   refine sB h6 rfl (sE rfl (sE rfl ?_))
   rcases bt (wordB b.1) with h7 | h7
   ·skip
    refine sB h7 rfl (sE rfl (sE rfl (sE rfl (nl J ?_))))
    refine J2 _ _ (by repeat first | exact .refl | refine .cons rfl ?_) ⟨_, s0, ?s28, rfl⟩
    case s28 => exact congrArg Value.bool (and_t h6 (and_t h7 rfl))
   ·skip
    refine sB h7 rfl (WL_n rfl (WL_n rfl (sE rfl (nl J ?_))))
    refine J2 _ _ (by repeat first | exact .refl | refine .cons rfl ?_) ⟨_, s0, ?s28, rfl⟩
    case s28 => exact congrArg Value.bool (and_t h6 (and_f h7))
  ·skip
   refine sB h6 rfl (WL_n rfl (sE rfl (sE rfl (WL_n rfl (WL_n rfl (sE rfl (nl J ?_)))))))
   refine J2 _ _ (by repeat first | exact .refl | refine .cons rfl ?_) ⟨_, s0, ?s28, rfl⟩
   case s28 => exact congrArg Value.bool (and_f h6)
 ·skip
  rintro g8 M ⟨hg28, rfl⟩
  simp only [setG, hg28]
  clear hg28
  rcases bt ((wordB a.1) && ((wordB b.1) && ((wordW b).1 != 0))) with h9 | h9
  ·skip
   refine W_t h9 rfl (Rs fun K J => sE rfl (sE rfl ?_))
   have hfl := kV_ h9
   refine sC (.int .i64 ((W.fdiv (wordW a) (wordW b)).1)) en_89 (el_ (wordW a).1 (wordW b).1 (wordW a).2 hfl.1 hfl.2.1) rfl rfl (congrArg (Value.int .i64) hfl.2.2) (sC (AV [pI (E (Z.of (W.fdiv (wordW a) (wordW b)).1))]) en_74 (a9_ (W.fdiv (wordW a) (wordW b)).1 (W.fdiv (wordW a) (wordW b)).2) rfl rfl rfl (sS [pI (E (Z.of (W.fdiv (wordW a) (wordW b)).1))] ty_37 rfl rfl rfl rfl rfl (.head _) rfl hb3 (nl J (W_ret (ai_ (ret1 rfl (.inr rfl) (resP rfl m0 ty_37 rfl) ?_))))))
   exact (by exact congrArg (fun r : I => (AV [pI r] : Value)) (show _ = (cI_ a b) from bif_t h9 rfl))
  ·skip
   refine W_f h9 rfl (ak_ (J1 _ _ (Sq fun K3 J3 => ?_)))
   refine bQ_ [33, 34, 35, 36, 37, 38, 39, 40, 41, 42, 43, 44, 45, 46] (fun g M => (g 46 = .bool (!a.1.good || (!b.1.good || ((((dl (val b.1.w)).length : Nat) : Int) == 0)))) ∧ M = [⟨b3, 37, flat [pI I0]⟩, ⟨b2, 37, flat [pI b]⟩, ⟨b1, 37, flat [pI a]⟩]) (fun K4 J4 => ?_) ?_
   ·skip
    refine Rk fun K J => sQ (qL ty_37 rfl m2 rfl) rfl (sC (.bool a.1.good) en_86 (aH_ a.1 a.2) rfl rfl rfl (sE rfl ?_))
    rcases bt a.1.good with h13 | h13
    ·skip
     refine sB (not_f h13) rfl (sQ (qL ty_37 rfl m1 rfl) rfl (sC (.bool b.1.good) en_86 (aH_ b.1 b.2) rfl rfl rfl (sE rfl (sE rfl ?_))))
     rcases bt b.1.good with h14 | h14
     ·skip
      refine sB (not_f h14) rfl (sQ (qL ty_37 rfl m1 rfl) rfl (WL_r rfl (bP_ en_87 rfl (fun w hw => aI_ b.1 b.2 w) (fun vl15 Ll15 kl15 => ?_))))
      try simp only [dv_dl, dx_] at kl15
      refine sQ (q_as (v' := .int .i64 (((dl (val b.1.w)).length : Nat) : Int)) (dX_ sl_81 rfl (SL.sub kl15.sl (List.sublist_append_left _ _))) rfl) rfl (sE rfl (sE rfl (nl J ?_)))
      refine J4 _ _ (by repeat first | exact .refl | refine .cons rfl ?_) ⟨_, (sR (s0)), ?s46, rfl⟩
      case s46 => exact congrArg Value.bool (nor_t h13 (nor_t h14 rfl))
     ·skip
      refine sB (not_t h14) rfl (WL_n rfl (WL_n rfl (WL_n rfl (WL_n rfl (sE rfl (nl J ?_))))))
      refine J4 _ _ (by repeat first | exact .refl | refine .cons rfl ?_) ⟨_, s0, ?s46, rfl⟩
      case s46 => exact congrArg Value.bool (nor_t h13 (nor_f h14))
    ·skip
     refine sB (not_t h13) rfl (WL_n rfl (WL_n rfl (WL_n rfl (sE rfl (sE rfl (WL_n rfl (WL_n rfl (WL_n rfl (WL_n rfl (sE rfl (nl J ?_)))))))))))
     refine J4 _ _ (by repeat first | exact .refl | refine .cons rfl ?_) ⟨_, s0, ?s46, rfl⟩
     case s46 => exact congrArg Value.bool (nor_f h13)
   ·skip
    rintro g16 M ⟨hg46, rfl⟩
    simp only [setG, hg46]
    clear hg46
    rcases bt (!a.1.good || (!b.1.good || ((((dl (val b.1.w)).length : Nat) : Int) == 0))) with h17 | h17
    ·skip
     refine W_t h17 rfl (Rs fun K J => sC (AV [pI (E Z.bad)]) en_90 bm_ rfl rfl rfl (sS [pI (E Z.bad)] ty_37 rfl rfl rfl rfl rfl (.head _) rfl hb3 (nl J (W_ret (ai_ (ret1 rfl (.inr rfl) (resP rfl m0 ty_37 rfl) ?_))))))
     exact (by exact congrArg (fun r : I => (AV [pI r] : Value)) (show _ = (cI_ a b) from bif_f h9 (bif_t h17 rfl)))
    ·skip
     refine W_f h17 rfl (ak_ (J3 _ _ (ds sn [0,8,5,13,17,20,24,28,32,36] [] mix (by kernel_rfl) (fun K J => pQ rfl (qL ty_37 rfl m2 rfl) (pQ rfl (qL ty_37 rfl m1 rfl) (PL_o rfl rfl (bP_ en_87 rfl (fun w hw => aI_ a.1 a.2 w) (fun vl18 Ll18 kl18 => ⟨(fun _ => sR s0), sn, ?_⟩))))))))
     try simp only [dv_dl, dx_] at kl18
     refine PL_o rfl rfl (bP_ en_87 rfl (fun w hw => aI_ b.1 b.2 w) (fun vl19 Ll19 kl19 => ⟨(fun _ => sR s0), sn, ?_⟩))
     try simp only [dv_dl, dx_] at kl19
     have hB := hB_of h17
     refine PL_o rfl rfl (hc_ en_91 rfl (fun w hw => c3_ vl18 vl19 (val a.1.w) (val b.1.w) hB (Nat.le_trans (cB_ (k := 32) (lt32 a.2)) (by decide)) (Nat.le_trans (cB_ (k := 32) (lt32 b.2)) (by decide)) w (SL.sl (SL.sub kl18.sl (sR (List.sublist_append_left _ _))) hw) (SL.sl (SL.sub kl19.sl (List.sublist_append_left _ _)) hw)) (fun vl20_0 vl20_1 Ll20 kl20_0 kl20_1 => ⟨(fun _ => sR s0), sn, ?_⟩))
     try simp only [dv_dl, dx_] at kl20_0 kl20_1
     refine pE rfl (pE rfl (pE rfl (pE rfl (pE rfl (fl J (Sq fun K5 J5 => ?_))))))
     refine bQ_ [56, 57, 58, 59, 60, 61, 62, 63, 64, 65] (fun g M => (g 65 = .bool ((a.1.neg != b.1.neg) && decide (0 < (((dl ((val a.1.w) % (val b.1.w))).length : Nat) : Int)))) ∧ M = (Ll20 ++ (Ll19 ++ (Ll18 ++ (⟨b3, 37, flat [pI I0]⟩ :: (⟨b2, 37, flat [pI b]⟩ :: (⟨b1, 37, flat [pI a]⟩ :: []))))))) (fun K6 J6 => ?_) ?_
     ·skip
      refine Rk fun K J => sQ (qF bq_ rfl rfl) rfl (sQ (qC ty_4 rfl (List.mem_append_right _ (List.mem_append_right _ (List.mem_append_right _ (List.mem_cons_of_mem _ (List.mem_cons_of_mem _ (List.mem_cons_self)))))) rfl) rfl (sQ (qF bq_ rfl rfl) rfl (sQ (qC ty_4 rfl (List.mem_append_right _ (List.mem_append_right _ (List.mem_append_right _ (List.mem_cons_of_mem _ (List.mem_cons_self))))) rfl) rfl (sQ (q_as (v' := .bool (a.1.neg != b.1.neg)) (fw_ bo_4 rfl rfl) rfl) rfl ?_))))
      rcases bt (a.1.neg != b.1.neg) with h22 | h22
      ·skip
       refine sB h22 rfl (sE rfl (sQ (q_as (v' := .int .i64 (((dl ((val a.1.w) % (val b.1.w))).length : Nat) : Int)) (dX_ sl_81 rfl (SL.sub kl20_1 (List.sublist_append_left _ _))) rfl) rfl (sE rfl (sE rfl (nl J ?_)))))
       refine J6 _ _ (by repeat first | exact .refl | refine .cons rfl ?_) ⟨_, s0, ?s65, rfl⟩
       case s65 => exact congrArg Value.bool (and_t h22 rfl)
      ·skip
       refine sB h22 rfl (WL_n rfl (WL_n rfl (WL_n rfl (sE rfl (nl J ?_)))))
       refine J6 _ _ (by repeat first | exact .refl | refine .cons rfl ?_) ⟨_, s0, ?s65, rfl⟩
       case s65 => exact congrArg Value.bool (and_f h22)
     ·skip
      rintro g23 M ⟨hg65, rfl⟩
      simp only [setG, hg65]
      clear hg65
      rcases bt ((a.1.neg != b.1.neg) && decide (0 < (((dl ((val a.1.w) % (val b.1.w))).length : Nat) : Int))) with h24 | h24
      ·skip
       refine W_t h24 rfl (Rk fun K J => sE rfl (WL_r rfl (cv_ us_81 z_3 sz_3 rfl (by decide) rfl (hv_ 1) (fun b25 hb25 => WL_r rfl (bP_ ng_ rfl (fun w hw => dT_ vl20_0 _ (dl ((val a.1.w) / (val b.1.w))) [1] (dl_DL _) (DL.one (by decide)) (Nat.le_trans (cB_ (k := 32) (ddiv (lt32 a.2))) (by decide)) (by simp) w (SL.sl (SL.sub kl20_0 (sd (List.sublist_append_left _ _))) hw) (SL.sl (SL.sub (SL.mine (l := [1]) List.mem_cons_self (Nat.le_refl _)) (sk sn)) hw)) (fun vl26 Ll26 kl26 => ?_))))))
       try simp only [dv_dl, dx_] at kl26
       refine sE rfl (nl J (J5 _ _ (Rs fun K J => sQ (qF bq_ rfl rfl) rfl (sQ (qC ty_4 rfl (List.mem_append_right _ (List.mem_cons_of_mem _ (List.mem_append_right _ (List.mem_append_right _ (List.mem_append_right _ (List.mem_cons_of_mem _ (List.mem_cons_of_mem _ (List.mem_cons_self)))))))) rfl) rfl (sQ (qF bq_ rfl rfl) rfl (sQ (qC ty_4 rfl (List.mem_append_right _ (List.mem_cons_of_mem _ (List.mem_append_right _ (List.mem_append_right _ (List.mem_append_right _ (List.mem_cons_of_mem _ (List.mem_cons_self))))))) rfl) rfl (sQ (q_as (v' := .bool (a.1.neg != b.1.neg)) (fw_ bo_4 rfl rfl) rfl) rfl (sE rfl (sQ (q_as (v' := AV [pI (E (Z.of (sgn (a.1.neg != b.1.neg) (((val a.1.w) / (val b.1.w)) + 1))))]) (bU_ en_93 rfl (fun w hw => a7_ (a.1.neg != b.1.neg) vl26 (dl (((val a.1.w) / (val b.1.w)) + 1)) (dl_DL _) (Nat.le_trans (cB_ (k := 33) (dadd (k := 32) (ddiv (lt32 a.2)) (Nat.lt_of_lt_of_le (show 1 < 65536 ^ 1 by decide) (Nat.pow_le_pow_right (show 0 < 65536 by decide) (show 1 ≤ 32 by decide))))) (by decide)) w (SL.sl (SL.sub kl26.sl (List.sublist_append_left _ _)) hw))) (by rw [(dv_dl _)]; rfl)) rfl (sS [pI (E (Z.of (sgn (a.1.neg != b.1.neg) (((val a.1.w) / (val b.1.w)) + 1))))] ty_37 rfl rfl rfl rfl rfl (Upd.left (.tail _ (Upd.left (Upd.left (Upd.left (.head _) _) _) _)) _) rfl hb3 (nl J (W_ret (ret1 rfl (.inr rfl) (resP rfl (List.mem_append_right _ (List.mem_cons_of_mem _ (List.mem_append_right _ (List.mem_append_right _ (List.mem_append_right _ (List.mem_cons_self)))))) ty_37 rfl) ?_)))))))))))))
       exact (by exact congrArg (fun r : I => (AV [pI r] : Value)) (show _ = (cI_ a b) from bif_f h9 (bif_f h17 (bif_t h24 rfl))))
      ·skip
       refine W_f h24 rfl (ak_ (J5 _ _ (Rs fun K J => sQ (qF bq_ rfl rfl) rfl (sQ (qC ty_4 rfl (List.mem_append_right _ (List.mem_append_right _ (List.mem_append_right _ (List.mem_cons_of_mem _ (List.mem_cons_of_mem _ (List.mem_cons_self)))))) rfl) rfl (sQ (qF bq_ rfl rfl) rfl (sQ (qC ty_4 rfl (List.mem_append_right _ (List.mem_append_right _ (List.mem_append_right _ (List.mem_cons_of_mem _ (List.mem_cons_self))))) rfl) rfl (sQ (q_as (v' := .bool (a.1.neg != b.1.neg)) (fw_ bo_4 rfl rfl) rfl) rfl (sE rfl (sQ (q_as (v' := AV [pI (E (Z.of (sgn (a.1.neg != b.1.neg) ((val a.1.w) / (val b.1.w)))))]) (bU_ en_93 rfl (fun w hw => a7_ (a.1.neg != b.1.neg) vl20_0 (dl ((val a.1.w) / (val b.1.w))) (dl_DL _) (Nat.le_trans (cB_ (k := 32) (ddiv (lt32 a.2))) (by decide)) w (SL.sl (SL.sub kl20_0 (List.sublist_append_left _ _)) hw))) (by rw [(dv_dl _)]; rfl)) rfl (sS [pI (E (Z.of (sgn (a.1.neg != b.1.neg) ((val a.1.w) / (val b.1.w)))))] ty_37 rfl rfl rfl rfl rfl (Upd.left (Upd.left (Upd.left (.head _) _) _) _) rfl hb3 (nl J (W_ret (ret1 rfl (.inr rfl) (resP rfl (List.mem_append_right _ (List.mem_append_right _ (List.mem_append_right _ (List.mem_cons_self)))) ty_37 rfl) ?_)))))))))))))
       exact (by exact congrArg (fun r : I => (AV [pI r] : Value)) (show _ = (cI_ a b) from bif_f h9 (bif_f h17 (bif_f h24 rfl))))
theorem bC_ (a b : R) (ha : a.Ok) (hb : b.Ok) : Ret Tryz.prog 78 [RV a, RV b] (RV (Z.quo a.dec b.dec).enc) := by
  have h := gl_ ⟨a, ha⟩ ⟨b, hb⟩
  rw [fS_] at h
  exact h
end Go.Proofs.YtapbefpeopaecaaGreatDoor

