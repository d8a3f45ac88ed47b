/- Walks: what these functions return. -/
import Derived.Test.YtapbefpeopaecaaGreatDoorZFa0
import Derived.Test.YtapbefpeopaecaaGreatDoorZSa
import Derived.Test.YtapbefpeopaecaaGreatDoorZSb
import Derived.Test.YtapbefpeopaecaaGreatDoorZSk
namespace Go.Proofs.YtapbefpeopaecaaGreatDoor
open Go.Kn Go.Num
set_option linter.unusedVariables false
set_option linter.unusedSimpArgs false
set_option maxRecDepth 20000
set_option maxHeartbeats 8000000
theorem gm_ (a : R) (ha : a.Ok) :
    Ret Tryz.prog 99 [RV a] (RV (Z.sqrt a.dec).enc) := by
 refine as_ (N := 40) Tryz.func99 rfl rfl (by simp) (fun w0 => ?_)
 simp only [initF, Nat.reduceAdd]
 refine Sq fun K1 J1 => Rk fun K J => WL_r rfl (r_box rfl rfl (fun b1 hb1 => WL_r rfl (br_ z_37 (fun b2 hb2 => nl J (J1 _ _ (Sq fun K2 J2 => Sq fun K3 J3 => Rk fun K J => sQ (aN_ ty_37 rfl (by repeat (first | exact .head _ | apply List.mem_append_right | apply List.Mem.tail)) (aM_ ha)) rfl ?_))))))
 refine sQ (q_ret en_86 (aD_ a ha) rfl) rfl (sE rfl (sE rfl ?_))
 cases hg : !a.good
 ·skip
  refine sQ (aS_ by_ (by decide) rfl) rfl (sQ (bn_ (v := .bool a.neg) ty_4 rfl (by repeat (first | exact .head _ | apply List.mem_append_right | apply List.Mem.tail)) rfl) rfl ?_)
  refine sE rfl (nl J (J3 _ _ ?_))
  refine a4_ _ rfl (fun hneg => ?_) (fun hneg => ?_)
  ·(try simp only [decide_eq_true_eq, decide_eq_false_iff_not, beq_iff_eq, bne_iff_ne, beq_eq_false_iff_ne, bne_eq_false_iff_eq, Bool.not_eq_true', Bool.not_eq_false'] at hneg)
   refine Sq fun K4 J4 => Rk fun K J => sQ (q_ret en_90 bh_ rfl) rfl (WL_r rfl (aF_ ty_37 rfl rfl (by repeat (first | exact .head _ | apply Upd.left | apply Upd.tail)) (ad_ _) rfl (at_ _) (.inl (by assumption)) ?_))
   refine nl J (J4 _ _ (W_ret (af_ (ret1 rfl (.inr rfl) ⟨_, _, _, _, _, _, rfl, (by repeat (first | exact .head _ | apply List.mem_append_right | apply List.Mem.tail)), ty_37, _, (be_ (ad_ _)), (ad_ _), rfl⟩ ?_))))
   (rw [k7_ ha (by simpa using hg) (by simpa using hneg)]; rfl)
  ·(try simp only [decide_eq_true_eq, decide_eq_false_iff_not, beq_iff_eq, bne_iff_ne, beq_eq_false_iff_ne, bne_eq_false_iff_eq, Bool.not_eq_true', Bool.not_eq_false'] at hneg)
   refine aj_ (J2 _ _ (Sq fun K5 J5 => ?_))
   have hl32 : (dl (val a.w)).length ≤ 32 := cv_ (by rw [← jd_]; exact val_B ha)
   have hv32 : val a.w < 65536 ^ (dl (val a.w)).length := dl_lt _
   refine Rk fun K J => sQ (aN_ ty_37 rfl (by repeat (first | exact .head _ | apply List.mem_append_right | apply List.Mem.tail)) (aM_ ha)) rfl ?_
   refine WL_r rfl (bF_ en_87 rfl (fun w hw => aE_ a ha w) (fun vd Ld hd => sE rfl (nl J (J5 _ _ (Sq fun K6 J6 => Rk fun K J => sE rfl (nl J (J6 _ _ (Sq fun K7 J7 => Sq fun K8 J8 => Rk fun K J => sE rfl (sQ (dV_ sl_81 rfl (SL.sub hd.sl (List.sublist_append_left _ _))) rfl (sE rfl (sE rfl (sE rfl (nl J (J8 _ _ (ao_ ?_)))))))))))))))
   refine bI_ [4, 5, 6, 7, 22, 23, 24, 25, 26, 27, 28, 29, 30, 31, 32, 33, 34, 35, 36, 37] (fun g nn M => ∃ (k root : Nat) (vr : Value) (L : List Blk), (g 4 = vr ∧ g 5 = .int .i64 ((k : Int) - 1)) ∧ M = L ++ (Ld ++ [⟨b2, 37, zR⟩, ⟨b1, 37, a.cells⟩]) ∧ nn = k + 0 ∧ (k ≤ 8 * (dl (val a.w)).length + 8 ∧ (root * root ≤ val a.w ∧ val a.w < (root + 2 ^ k) * (root + 2 ^ k)) ∧ SLf w0 L vr (dl root))) (8 * (dl (val a.w)).length + 8) ?start ?round
   case start =>
    refine ⟨_, (List.Sublist.refl _), 8 * (dl (val a.w)).length + 8, 0, _, [], ⟨?a4, ?a5⟩, ?mem0, rfl, ⟨Nat.le_refl _, ⟨Nat.zero_le _, sl_ hv32⟩, by rw [es_]; exact SLf.none⟩⟩
    case mem0 => rfl
    case a4 => rfl
    case a5 => exact congrArg (Value.int .i64) (oZ_ hl32)
   case round =>
    rintro nn g M ⟨k, root, vr, L, ⟨hg4, hg5⟩, rfl, hmeas, ⟨hk, hI, hr⟩⟩
    subst nn
    simp only [setG, hg4, hg5]
    clear hg4 hg5
    refine Sq fun K9 J9 => Sq fun K10 J10 => Rk fun K J => sE rfl (sE rfl (nl J (J10 _ _ ?_)))
    refine a4_ _ rfl (fun hc => ?_) (fun hc => ?_)
    ·(try simp only [decide_eq_true_eq, decide_eq_false_iff_not, beq_iff_eq, bne_iff_ne, beq_eq_false_iff_ne, bne_eq_false_iff_eq, Bool.not_eq_true', Bool.not_eq_false'] at hc)
     obtain ⟨m, rfl⟩ : ∃ m, k = m + 1 := ⟨k - 1, by omega⟩
     have hroot : root < 65536 ^ 16 := nn_ hI.1 (val_B ha)
     have hpow : 2 ^ m < 65536 ^ 17 := pg_ (by omega)
     have hnext : root + 2 ^ m < 65536 ^ 18 := o6_ hroot hpow
     have hsq : (root + 2 ^ m) * (root + 2 ^ m) < 65536 ^ 36 := qv_ hnext
     refine aj_ (J9 _ _ ?_)
     refine bV_ [4, 6, 7, 26, 27, 28, 29, 30, 31, 32, 33, 34, 35, 36, 37] (fun g M => ∃ (root2 : Nat) (vr2 : Value) (L2 : List Blk), (g 4 = vr2) ∧ M = L2 ++ (Ld ++ [⟨b2, 37, zR⟩, ⟨b1, 37, a.cells⟩]) ∧ ((root2 * root2 ≤ val a.w ∧ val a.w < (root2 + 2 ^ m) * (root2 + 2 ^ m)) ∧ SLf w0 L2 vr2 (dl root2))) (fun K11 J11 => ?_) ?_
     ·skip
      refine ao_ (Sq fun K12 J12 => Rk fun K J => sE rfl (sQ (q_as (dj_ rfl) (congrArg (Value.int .i64) (show ((m + 1 : Nat) : Int) - 1 = (m : Int) by omega))) rfl (WL_r rfl (bF_ sc_ rfl (fun w hw => gd_ m (by omega) w) (fun vp Lp hp => WL_r rfl (bF_ l1_ rfl (fun w hw => dy_ vr vp (dl root) (dl (2 ^ m)) (dl_DL _) (dl_DL _) (Nat.le_trans (cv_ hroot) (by decide)) (Nat.le_trans (cv_ hpow) (by decide)) w (SL.sl (hr.sl.sub (.trans (List.sublist_append_left _ _) (List.sublist_append_right _ _))) hw) (SL.sl (hp.sl.sub (List.sublist_append_left _ _)) hw)) (fun vn Ln hn => sE rfl (nl J ?_))))))))
      rw [dv_dl, dv_dl] at hn
      refine J12 _ _ (Sq fun K13 J13 => Rk fun K J => sE rfl (sE rfl (sE rfl (WL_r rfl (bF_ n4_ rfl (fun w hw => d1_ vn vn (dl (root + 2 ^ m)) (dl (root + 2 ^ m)) (dl_DL _) (dl_DL _) (Nat.le_trans (cv_ hnext) (by decide)) (Nat.le_trans (cv_ hnext) (by decide)) w (SL.sl (hn.sl.sub (List.sublist_append_left _ _)) hw) (SL.sl (hn.sl.sub (List.sublist_append_left _ _)) hw)) (fun vt Lt ht => sQ (bY_ ir_ rfl (fun w hw => cA_ vd vt (dl (val a.w)) (dl (dv (dl (root + 2 ^ m)) * dv (dl (root + 2 ^ m)))) (dl_DL _) (dl_DL _) (by omega) (by rw [dv_dl]; exact Nat.le_trans (cv_ hsq) (by decide)) w (SL.sl (hd.sl.sub (.trans (List.sublist_append_left _ _) (.trans (List.sublist_append_right _ _) (.trans (List.sublist_append_right _ _) (.trans (List.sublist_append_right _ _) (List.sublist_append_right _ _)))))) hw) (SL.sl (ht.sl.sub (List.sublist_append_left _ _)) hw))) rfl (sE rfl (nl J (J13 _ _ (Sq fun K14 J14 => Rk fun K J => sE rfl (sE rfl (nl J (J14 _ _ ?_)))))))))))))
      refine a4_ _ rfl (fun hb => ?_) (fun hb => ?_)
      ·(try simp only [decide_eq_true_eq, decide_eq_false_iff_not, beq_iff_eq, bne_iff_ne, beq_eq_false_iff_ne, bne_eq_false_iff_eq, Bool.not_eq_true', Bool.not_eq_false'] at hb)
       rw [dv_dl, dv_dl, dv_dl] at hb
       refine Rk fun K J => sE rfl (sE rfl (nl J ?_))
       refine J11 _ _ (by repeat first | exact .refl | refine .cons rfl ?_) ⟨_, (.trans (List.Sublist.append (.refl _) (.trans (List.sublist_append_right _ _) (List.sublist_append_right _ _))) (List.sublist_append_right _ _)), (root + 2 ^ m), vn, Ln, ?s4, ?mem, ⟨⟨by omega, rg_ hI.2⟩, hn⟩⟩
       case mem => rfl
       case s4 => rfl
      ·(try simp only [decide_eq_true_eq, decide_eq_false_iff_not, beq_iff_eq, bne_iff_ne, beq_eq_false_iff_ne, bne_eq_false_iff_eq, Bool.not_eq_true', Bool.not_eq_false'] at hb)
       rw [dv_dl, dv_dl, dv_dl] at hb
       refine aj_ ?_
       refine J11 _ _ (by repeat first | exact .refl | refine .cons rfl ?_) ⟨_, (.trans (List.sublist_append_right _ _) (.trans (List.sublist_append_right _ _) (List.sublist_append_right _ _))), root, vr, L, ?s4, ?mem, ⟨⟨hI.1, by omega⟩, hr⟩⟩
       case mem => rfl
       case s4 => rfl
     ·skip
      rintro g M ⟨root2, vr2, L2, hg4, rfl, ⟨hI2, hr2⟩⟩
      simp only [setG, hg4]
      clear hg4
      refine Rk fun K J => sE rfl (sE rfl (sE rfl (nl J ?_)))
      refine ⟨(by repeat first | exact .refl | refine .cons rfl ?_), _, _, (List.Sublist.refl _), (by omega), m, root2, vr2, L2, ⟨?s4, ?s5⟩, ?mem, rfl, ⟨by omega, hI2, hr2⟩⟩
      case mem => rfl
      case s4 => rfl
      case s5 => exact congrArg (Value.int .i64) ((wi (by omega)).trans (by omega))
    ·(try simp only [decide_eq_true_eq, decide_eq_false_iff_not, beq_iff_eq, bne_iff_ne, beq_eq_false_iff_ne, bne_eq_false_iff_eq, Bool.not_eq_true', Bool.not_eq_false'] at hc)
     obtain rfl : k = 0 := by omega
     have hroot : root < 65536 ^ 16 := nn_ hI.1 (val_B ha)
     refine bG_ (aw_ (aw_ (aC_ (J7 _ _ (Sq fun K15 J15 => Rk fun K J => sE rfl (sQ (q_as (bY_ en_93 rfl (fun w hw => a5_ false vr (dl root) (dl_DL _) (Nat.le_trans (cv_ hroot) (by decide)) w (SL.sl (hr.sl.sub (List.sublist_append_left _ _)) hw))) (congrArg (fun n : Nat => RV (Z.of (sgn false n)).enc) (dv_dl root))) rfl (WL_r rfl (aF_ ty_37 rfl rfl (by repeat (first | exact .head _ | apply Upd.left | apply Upd.tail)) (ad_ _) rfl (at_ _) (.inl (by assumption)) ?_))))))))
     refine nl J (J15 _ _ (W_ret (ret1 rfl (.inr rfl) ⟨_, _, _, _, _, _, rfl, (by repeat (first | exact .head _ | apply List.mem_append_right | apply List.Mem.tail)), ty_37, _, (be_ (ad_ _)), (ad_ _), rfl⟩ ?_)))
     exact congrArg (fun z : Z => RV z.enc) (j5_ ha (by simpa using hg) (by simpa using hneg) hI.1 (by simpa using hI.2))
 ·skip
  refine WL_n rfl (WL_n rfl (sE rfl (nl J (J3 _ _ (bQ_ rfl (Sq fun K16 J16 => Rk fun K J => sQ (q_ret en_90 bh_ rfl) rfl (WL_r rfl (aF_ ty_37 rfl rfl (by repeat (first | exact .head _ | apply Upd.left | apply Upd.tail)) (ad_ _) rfl (at_ _) (.inl (by assumption)) ?_))))))))
  refine nl J (J16 _ _ (W_ret (af_ (ret1 rfl (.inr rfl) ⟨_, _, _, _, _, _, rfl, (by repeat (first | exact .head _ | apply List.mem_append_right | apply List.Mem.tail)), ty_37, _, (be_ (ad_ _)), (ad_ _), rfl⟩ ?_))))
  (rw [lS_ (by simpa using hg)]; rfl)
end Go.Proofs.YtapbefpeopaecaaGreatDoor

