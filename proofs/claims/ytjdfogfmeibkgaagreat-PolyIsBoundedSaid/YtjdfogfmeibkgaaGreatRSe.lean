/- Walks: what these functions return. -/
import Derived.Test.YtjdfogfmeibkgaaGreatRGE
import Derived.Test.YtjdfogfmeibkgaaGreatRSa
import Derived.Test.YtjdfogfmeibkgaaGreatRSb
namespace Go.Proofs.YtjdfogfmeibkgaaGreat
open Go.Kn Go.Num
set_option linter.unusedVariables false
set_option linter.unusedSimpArgs false
set_option maxRecDepth 20000
set_option maxHeartbeats 8000000
theorem d3_ (va vb : Value) (A B : Nat) (hB : 0 < B) (hna : (dl A).length ≤ 190) (hnb : (dl B).length ≤ 190) (w : World) (hva : Sl w va (dl A)) (hvb : Sl w vb (dl B)) :
    Calls Tryz.prog 138 [va, vb].toArray w (fun e w' => ∃ v1 v2, e = .returned (.tuple #[v1, v2]) ∧ Ext w w' ∧ Slf w.heap.size w' v1 (dl (A / B)) ∧ Slf w.heap.size w' v2 (dl (A % B))) := by
 refine jS_ (N := 84) Tryz.func138 rfl rfl (by simp) ?_
 obtain ⟨w0, rfl⟩ : ∃ w0, w0 = w := ⟨_, rfl⟩
 simp only [initF, Nat.reduceAdd]
 have hn0 : 1 ≤ (dl B).length := Nat.pos_of_ne_zero (fun hc => by rw [lA_] at hc; omega)
 obtain ⟨tp, htp⟩ : ∃ tp, tp = (dg B ((dl B).length - 1) * 65536 + atD (dl B) (((dl B).length : Int) - 2)) := ⟨_, rfl⟩
 refine Sq fun K1 J1 => Rk fun K J => sE rfl (sE rfl (nl J (J1 _ _ (Sq fun K2 J2 => Rk fun K J => sE rfl (sQ (dR_ sl_70 rfl hva.old) rfl (WL_r rfl (pZ_ us_70 on_3 z_3 rfl rfl (by omega) (fun b15 hb15 => sE rfl (nl J (J2 _ _ (Sq fun K3 J3 => Rk fun K J => sE rfl (sQ (dR_ sl_70 rfl hvb.old) rfl (sE rfl (nl J ?_))))))))))))))
 refine J3 _ _ (Sq fun K4 J4 => dr sn [0,4,8,12,16,20,24,28,32,36,40,44] [] mix (by kernel_rfl) (fun K J => pE rfl (pE rfl (pQ rfl (q_as (q_sub rfl rfl) (congrArg (Value.int .i64) (eP_ (b := 1) rfl (by omega) (by omega)))) (pQ rfl (gP_ sl_70 rfl rfl hvb.old (by omega)) (pQ rfl (q_as (fB_ ty_3 rfl hvb.old (by omega)) (congrArg IV (hv_ B _))) (pE rfl (pE rfl (pE rfl (pQ rfl (q_as (q_sub rfl rfl) (congrArg (Value.int .i64) (sub_I (by omega) (by decide) (by decide)))) (pQ rfl (aE_ mb_ rfl (fun w hw => c4_ vb (dl B) _ w (SL.sl (M := _) hvb.old hw))) (pQ rfl (q_as (q_add rfl rfl) (show _ = Value.int .i64 (tp : Int) from congrArg (Value.int .i64) (by rw [htp]; exact qW_ (dg_lt _ _) (iF_ _ _)))) (pE rfl (fl J (J4 _ _ (Sq fun K5 J5 => Rk fun K J => sE rfl ?_))))))))))))))))
 refine nl J (J5 _ _ (Sq fun K6 J6 => Sq fun K7 J7 => Rk fun K J => sE rfl (sQ (dR_ sl_70 rfl hva.old) rfl (sE rfl (sE rfl (nl J (J7 _ _ (al_ ?_))))))))
 refine aB_ [9, 10, 11, 12, 32, 33, 34, 35, 36, 37, 38, 39, 40, 41, 42, 43, 44, 45, 46, 47, 48, 49, 50, 51, 52, 53, 54, 55, 56, 57, 58, 59, 60, 61, 62, 63, 64, 65, 66, 67, 68, 69, 70, 71, 72, 73, 74, 75, 76, 77, 78, 79, 80] (fun g nn M => ∃ (k R : Nat) (qs : List Nat) (vr : Value) (L : List Blk), (g 9 = vr ∧ g 10 = .int .i64 ((k : Int) - 1)) ∧ M = L ++ [⟨b15, 3, iw qs⟩] ∧ nn = k + 0 ∧ (k ≤ (dl A).length ∧ DivIn A B (dl A).length k R qs ∧ SLf w0 L vr (dl R))) ((dl A).length) ?start ?round
 case start =>
  refine ⟨_, (List.Sublist.refl _), (dl A).length, 0, _, _, [], ⟨?a9, ?a10⟩, ?mem0, rfl, ⟨Nat.le_refl _, DivIn.start (dl_lt A), by rw [e1_]; exact SLf.none⟩⟩
  case mem0 => rfl
  case a9 => rfl
  case a10 => exact congrArg (Value.int .i64) (sub_I (by omega) (by decide) (by decide))
 case round =>
  rintro nn g M ⟨k, R, qs, vr, L, ⟨hg9, hg10⟩, rfl, hmeas, ⟨hk, hI, hr⟩⟩
  subst nn
  simp only [setG, hg9, hg10]
  clear hg9 hg10
  refine Sq fun K8 J8 => Sq fun K9 J9 => Rk fun K J => sE rfl (sE rfl (nl J (J9 _ _ ?_)))
  refine aO_ _ rfl (fun hc => ?_) (fun hc => ?_)
  ·(try simp only [decide_eq_true_eq, decide_eq_false_iff_not, beq_iff_eq, bne_iff_ne, beq_eq_false_iff_ne, bne_eq_false_iff_eq, Bool.not_eq_true', Bool.not_eq_false'] at hc)
   obtain ⟨m, rfl⟩ : ∃ m, k = m + 1 := ⟨k - 1, by omega⟩
   have hRB : R < B := by rw [hI.rest]; exact Nat.mod_lt _ hB
   have hRl : (dl R).length ≤ 190 := Nat.le_trans (dl_le (Nat.le_of_lt hRB)) hnb
   refine aj_ (J8 _ _ (Sq fun K10 J10 => al_ (Sq fun K11 J11 => Rk fun K J => sE rfl (sQ (q_as (cI_ rfl) (congrArg (Value.int .i64) (show (((m + 1 : Nat) : Int) - 1) = (m : Int) by omega))) rfl (sQ (gP_ sl_70 rfl rfl hva.old (by omega)) rfl (sQ (q_as (fB_ ty_3 rfl hva.old (by omega)) (congrArg IV (hv_ A m))) rfl (WL_r rfl (cv_ us_70 z_3 sz_3 rfl (by decide) rfl (jf_ _) (fun b40 hb40 => sE rfl ?_)))))))))
   have hC8 := on_ (R := R) (dg_lt A m)
   refine WL_r rfl (g8_ us_70 on_3 rfl rfl (OwnL.of_mine (l := [dg A m]) hb40 (show 1 ≤ maxLen by decide)) (hr.sl.sub (.cons _ (List.sublist_append_left _ _))) (List.Sublist.refl _) (by simp only [List.length_singleton]; omega) (fun v8 L8 hO8 => ?_))
   refine sQ (aE_ iC_ rfl (fun w hw => bY_ v8 ([dg A m] ++ dl R) hC8.1 (by simp only [List.length_append, List.length_singleton]; omega) w (SL.sl (hO8.sl (List.sublist_append_left _ _)) hw))) rfl ?_
   refine sE rfl (nl J ?_)
   have hC8 := on_ (R := R) (dg_lt A m)
   have hr8 := fl_ hC8.1 hC8.2 (hO8.slf (List.Sublist.refl _))
   generalize sls v8 (dl (dv ([dg A m] ++ dl R))).length = vr8 at hr8 ⊢
   have hR8 : (R * 65536 + dg A m) < 65536 * B := by have := dg_lt A m; omega
   obtain ⟨nm, hnm⟩ : ∃ nm, nm = (atD (dl (R * 65536 + dg A m)) ((dl B).length : Int) * 4294967296 + atD (dl (R * 65536 + dg A m)) (((dl B).length : Int) - 1) * 65536 + atD (dl (R * 65536 + dg A m)) (((dl B).length : Int) - 2)) := ⟨_, rfl⟩
   obtain ⟨d0, hd0⟩ : ∃ d0, d0 = min 65535 (nm / tp) := ⟨_, rfl⟩
   have G8 : 0 < tp ∧ (R * 65536 + dg A m) / B ≤ d0 ∧ d0 ≤ 65535 := by rw [hd0, hnm, htp]; have hg := o2_ hB hR8 rfl hn0; exact ⟨hg.1, hg.2, Nat.min_le_left _ _⟩
   have hl8 : (dl (R * 65536 + dg A m)).length ≤ 192 := Nat.le_trans (f8_ (k := (dl B).length + 1) (by have := dl_lt B; rw [Nat.pow_succ]; omega)) (by omega)
   refine J11 _ _ (Sq fun K12 J12 => Rk fun K J => sE rfl (sE rfl (sQ (aE_ mb_ rfl (fun w hw => c4_ _ (dl (R * 65536 + dg A m)) _ w (SL.sl (M := _) (hr8.sl.sub (List.sublist_append_left _ _)) hw))) rfl (sE rfl (sE rfl (sE rfl (sQ (q_as (q_sub rfl rfl) (congrArg (Value.int .i64) (sub_I (by omega) (by decide) (by decide)))) rfl (sQ (aE_ mb_ rfl (fun w hw => c4_ _ (dl (R * 65536 + dg A m)) _ w (SL.sl (M := _) (hr8.sl.sub (List.sublist_append_left _ _)) hw))) rfl (sE rfl (sE rfl (sE rfl (sE rfl (sQ (q_as (q_sub rfl rfl) (congrArg (Value.int .i64) (sub_I (by omega) (by decide) (by decide)))) rfl (sQ (aE_ mb_ rfl (fun w hw => c4_ _ (dl (R * 65536 + dg A m)) _ w (SL.sl (M := _) (hr8.sl.sub (List.sublist_append_left _ _)) hw))) rfl (sQ (q_as (q_add rfl rfl) (show _ = Value.int .i64 (nm : Int) from congrArg (Value.int .i64) (by rw [hnm]; exact qA_ (iF_ _ _) (iF_ _ _) (iF_ _ _)))) rfl (sE rfl (sQ (q_as (q_quo rfl rfl (fun hc => Nat.lt_irrefl 0 (Nat.lt_of_lt_of_eq G8.1 (Int.natCast_eq_zero.1 hc)))) (congrArg (Value.int .i64) (l1_ (by rw [hnm]; exact s9_ _ _ _ _)))) rfl ?_)))))))))))))))))
   refine sQ (q_as (sK_ (a := 65535) rfl rfl) (congrArg (fun n : Nat => Value.int .i64 (n : Int)) hd0.symm)) rfl (sE rfl (nl J (J12 _ _ (Sq fun K13 J13 => Rk fun K J => sE rfl (sE rfl (WL_r rfl (cv_ us_70 z_3 sz_3 rfl (by decide) rfl (jf_ _) (fun b64 hb64 => WL_r rfl (dB_ sC_ rfl (fun w hw => fI_ vb _ (dl B) [d0] (dl_DL B) (DL.one (by omega)) (by omega) (by simp) w (SL.sl (M := _) hvb.old hw) (SL.sl (SL.mine (l := [d0]) (.head _) (Nat.le_refl _)) hw)) (fun vp0 Lp0 hp0 => ?_))))))))))
   refine sE rfl (nl J (J13 _ _ (Sq fun K14 J14 => al_ ?_)))
   refine aB_ [11, 12, 66, 67, 68, 69, 70, 71, 72, 73] (fun g nn M => ∃ (d : Nat) (vp : Value) (Lp : List Blk), (g 11 = .int .i64 (d : Int) ∧ g 12 = vp) ∧ M = Lp ++ (L8 ++ (L ++ [⟨b15, 3, iw qs⟩])) ∧ nn = d ∧ (((R * 65536 + dg A m) / B ≤ d ∧ d ≤ 65535) ∧ SLf w0 Lp vp (dl (B * d)))) (d0) ?start ?round
   case start =>
    refine ⟨_, (List.Sublist.append (List.Sublist.refl _) (List.Sublist.cons _ (List.Sublist.refl _))), d0, vp0, Lp0, ⟨?a11, ?a12⟩, ?mem0, rfl, ⟨⟨G8.2.1, G8.2.2⟩, by have := hp0; rw [dv_dl] at this; simpa [dv] using this⟩⟩
    case mem0 => rfl
    case a11 => rfl
    case a12 => rfl
   case round =>
    rintro nn g M ⟨d, vp, Lp, ⟨hg11, hg12⟩, rfl, hmeas, ⟨hd, hp⟩⟩
    subst nn
    simp only [setG, hg11, hg12]
    clear hg11 hg12
    have hpl : (dl (B * d)).length ≤ 195 := Nat.le_trans (f8_ (k := (dl B).length + 1) (by have := dl_lt B; have h1 := Nat.mul_le_mul_left B hd.2; rw [Nat.pow_succ]; omega)) (by omega)
    refine Sq fun K15 J15 => Sq fun K16 J16 => Rk fun K J => sE rfl (sE rfl (sQ (aE_ s8_ rfl (fun w hw => fT_ _ vp (dl (R * 65536 + dg A m)) (dl (B * d)) (dl_DL _) (dl_DL _) (by omega) (by omega) w (SL.sl (hr8.sl.sub (.trans (List.sublist_append_left _ _) (List.sublist_append_right _ _))) hw) (SL.sl (hp.sl.sub (List.sublist_append_left _ _)) hw))) rfl (nl J (J16 _ _ ?_))))
    refine aO_ _ rfl (fun h68 => ?_) (fun h68 => ?_)
    ·(try simp only [decide_eq_true_eq, decide_eq_false_iff_not, beq_iff_eq, bne_iff_ne, beq_eq_false_iff_ne, bne_eq_false_iff_eq, Bool.not_eq_true', Bool.not_eq_false'] at h68)
     rw [dv_dl, dv_dl] at h68
     have hless := oI_ hB hd.1 h68
     refine aj_ (J15 _ _ (al_ (Sq fun K17 J17 => Rk fun K J => sE rfl (sQ (q_as (q_sub rfl rfl) (congrArg (Value.int .i64) (eP_ (b := 1) rfl hless.1 (by omega)))) rfl (sE rfl (nl J (J17 _ _ (Rk fun K J => sE rfl (sE rfl (WL_r rfl (dB_ qq_ rfl (fun w hw => d9_ vp vb (dl (B * d)) (dl B) (dl_DL _) (dl_DL _) (by omega) (by omega) (by rw [dv_dl, dv_dl]; exact hless.2.2.1) w (SL.sl (hp.sl.sub (List.sublist_append_left _ _)) hw) (SL.sl (M := _) hvb.old hw)) (fun vp2 Lp2 hp2 => sE rfl (nl J ?_)))))))))))))
     refine ⟨(by repeat first | exact .refl | refine .cons rfl ?_), _, _, (List.Sublist.append (List.Sublist.refl _) (List.sublist_append_right _ _)), (by have := hless.1; omega), d - 1, vp2, Lp2, ⟨?s11, ?s12⟩, ?mem, rfl, ⟨⟨hless.2.1, by omega⟩, by rw [dv_dl, dv_dl, hless.2.2.2] at hp2; exact hp2⟩⟩
     case mem => rfl
     case s11 => rfl
     case s12 => rfl
    ·(try simp only [decide_eq_true_eq, decide_eq_false_iff_not, beq_iff_eq, bne_iff_ne, beq_eq_false_iff_ne, bne_eq_false_iff_eq, Bool.not_eq_true', Bool.not_eq_false'] at h68)
     rw [dv_dl, dv_dl] at h68
     have hdone := oM_ hB hd.1 h68
     refine bd_ (ai_ (ai_ (an_ (J14 _ _ (Sq fun K18 J18 => Rk fun K J => sE rfl (sQ (q_as (cI_ rfl) (congrArg (Value.int .i64) (show (((m + 1 : Nat) : Int) - 1) = (m : Int) by omega))) rfl (sE rfl (sQ (iv_ sl_70 rfl rfl (by omega) (by omega)) rfl (WL_r rfl (jQ_ ty_3 rfl rfl (Upd.left (Upd.left (Upd.left (.head _) _) _) _) (by rw [hI.len]; omega) (.inl (by assumption)) (nl J (J18 _ _ (Rk fun K J => sE rfl (sE rfl (WL_r rfl (dB_ qq_ rfl (fun w hw => d9_ _ vp (dl (R * 65536 + dg A m)) (dl (B * d)) (dl_DL _) (dl_DL _) (by omega) (by omega) (by rw [dv_dl, dv_dl]; exact hdone.2.2) w (SL.sl (hr8.sl.sub (.trans (List.sublist_append_left _ _) (List.sublist_append_right _ _))) hw) (SL.sl (hp.sl.sub (List.sublist_append_left _ _)) hw)) (fun vr2 Lr2 hr2 => sE rfl (nl J (J10 _ _ (Rk fun K J => sQ (q_as (cI_ rfl) (congrArg (Value.int .i64) (show (((m + 1 : Nat) : Int) - 1) = (m : Int) by omega))) rfl ?_))))))))))))))))))))
     refine sE rfl (sE rfl (nl J ?_))
     refine ⟨(by repeat first | exact .refl | refine .cons rfl ?_), _, _, (List.Sublist.append (List.Sublist.refl _) (.trans (List.sublist_append_right _ _) (.trans (List.sublist_append_right _ _) (List.sublist_append_right _ _)))), (by omega), m, ((R * 65536 + dg A m) % B), qs.set m d, vr2, Lr2, ⟨?s9, ?s10⟩, ?mem, rfl, ⟨by omega, by rw [hdone.1]; exact hI.step hB (by omega), by rw [dv_dl, dv_dl, hdone.2.1] at hr2; exact hr2⟩⟩
     case mem => rfl
     case s9 => rfl
     case s10 => exact congrArg (Value.int .i64) (as_ (n := (m : Int) - 1) (by unfold I64; omega))
  ·(try simp only [decide_eq_true_eq, decide_eq_false_iff_not, beq_iff_eq, bne_iff_ne, beq_eq_false_iff_ne, bne_eq_false_iff_eq, Bool.not_eq_true', Bool.not_eq_false'] at hc)
   obtain rfl : k = 0 := by omega
   refine bd_ (ai_ (ai_ (an_ (J6 _ _ (Sq fun K19 J19 => Rk fun K J => sE rfl (sQ (aE_ iC_ rfl (fun w hw => bY_ _ qs hI.ok (by rw [hI.len]; omega) w (SL.sl (SL.mine' (List.mem_append_right _ (.head _)) hI.len (Nat.le_refl _)) hw))) rfl (sE rfl (sE rfl (sE rfl (nl J (J19 _ _ (W_ret (ret2 rfl (.inr rfl) rfl rfl ?_)))))))))))))
   exact ⟨_, _, rfl, fl_ hI.ok hI.fin.1 (SLf.mine hb15 (List.mem_append_right _ (.head _)) hI.len (Nat.le_refl _)), by rw [hI.fin.2] at hr; exact hr.sub (List.sublist_append_left _ _)⟩
end Go.Proofs.YtjdfogfmeibkgaaGreat

namespace Go.Proofs.YtjdfogfmeibkgaaGreat
open Go.Kn Go.Num
set_option linter.unusedVariables false
set_option linter.unusedSimpArgs false
set_option maxRecDepth 20000
set_option maxHeartbeats 8000000
theorem fY_ (a : I) :
    Ret Tryz.prog 80 [AV [pI a]] (AV [pI (cR_ a)]) := by
 refine aJ_ (N := 10) Tryz.func80 rfl rfl (by simp) (fun w0 => ?_)
 simp only [initF, Nat.reduceAdd]
 refine Rs fun K J => WL_r rfl (cu_ rfl rfl (fun b1 hb1 => sN zp_38 rfl fun b2 hb2 => nl J (Sq fun K1 J1 => Rs fun K J => sQ (qL ty_38 rfl m1 rfl) rfl (sC (.bool a.1.good) gt_ (bj_ a.1 a.2) rfl rfl rfl (sE rfl (nl J ?_))))))
 rcases bt a.1.good with h3 | h3
 ·skip
  refine W_f (not_f h3) rfl (aj_ (J1 _ _ (Rs fun K J => sQ (qL ty_38 rfl m1 rfl) rfl (WL_r rfl (dB_ ie_ rfl (fun w hw => bO_ a.1 a.2 w) (fun vl4 Ll4 kl4 => ?_))))))
  try simp only [dv_dl, qx_] at kl4
  refine sQ (q_as (v' := AV [pI (E (Z.of (sgn false (val a.1.w))))]) (aE_ kp_ rfl (fun w hw => cr_ false vl4 (dl (val a.1.w)) (dl_DL _) (Nat.le_trans (f8_ (k := 32) (lt32 a.2)) (by decide)) w (SL.sl (SL.sub kl4.sl (List.sublist_append_left _ _)) hw))) (by rw [(dv_dl _)]; rfl)) rfl (sS [pI (E (Z.of (sgn false (val a.1.w))))] ty_38 rfl rfl rfl rfl rfl (Upd.left (.head _) _) rfl hb2 (nl J (W_ret (ret1 rfl (.inr rfl) (resP rfl (List.mem_append_right _ (List.mem_cons_self)) ty_38 rfl) ?_))))
  exact (by exact congrArg (fun r : I => (AV [pI r] : Value)) (show _ = (cR_ a) from bif_t h3 rfl))
 ·skip
  refine W_t (not_t h3) rfl (Rs fun K J => sC (AV [pI (E Z.bad)]) en_99 bQ_ rfl rfl rfl (sS [pI (E Z.bad)] ty_38 rfl rfl rfl rfl rfl (.head _) rfl hb2 (nl J (W_ret (af_ (ret1 rfl (.inr rfl) (resP rfl m0 ty_38 rfl) ?_))))))
  exact (by exact congrArg (fun r : I => (AV [pI r] : Value)) (show _ = (cR_ a) from bif_f h3 rfl))
theorem f9_ (a : R) (ha : a.Ok) : Ret Tryz.prog 80 [RV a] (RV (Z.abs a.dec).enc) := by
  have h := fY_ ⟨a, ha⟩
  rw [fR_] at h
  exact h

theorem fU_ (a : I) :
    Ret Tryz.prog 71 [AV [pI a]] (.int .i64 ((cA_ a).1)) := by
 refine aJ_ (N := 14) Tryz.func71 rfl rfl (by simp) (fun w0 => ?_)
 simp only [initF, Nat.reduceAdd]
 refine Rs fun K J => WL_r rfl (cu_ rfl rfl (fun b1 hb1 => sE rfl (nl J (Sq fun K1 J1 => ?_))))
 refine bI_ [3, 4, 5, 6, 7, 8, 9, 10, 11] (fun g M => (g 11 = .bool (!a.1.good || ((((dl (val a.1.w)).length : Nat) : Int) == 0))) ∧ M = [⟨b1, 38, flat [pI a]⟩]) (fun K2 J2 => ?_) ?_
 ·skip
  refine Rk fun K J => sQ (qL ty_38 rfl m0 rfl) rfl (sC (.bool a.1.good) gt_ (bj_ a.1 a.2) rfl rfl rfl (sE rfl ?_))
  rcases bt a.1.good with h4 | h4
  ·skip
   refine sB (not_f h4) rfl (sQ (qL ty_38 rfl m0 rfl) rfl (WL_r rfl (dB_ ie_ rfl (fun w hw => bO_ a.1 a.2 w) (fun vl5 Ll5 kl5 => ?_))))
   try simp only [dv_dl, qx_] at kl5
   refine sQ (q_as (v' := .int .i64 (((dl (val a.1.w)).length : Nat) : Int)) (dR_ sl_70 rfl (SL.sub kl5.sl (List.sublist_append_left _ _))) rfl) rfl (sE rfl (sE rfl (nl J ?_)))
   refine J2 _ _ (by repeat first | exact .refl | refine .cons rfl ?_) ⟨_, (sR (s0)), ?s11, rfl⟩
   case s11 => exact congrArg Value.bool (nor_t h4 rfl)
  ·skip
   refine sB (not_t h4) rfl (WL_n rfl (WL_n rfl (WL_n rfl (WL_n rfl (sE rfl (nl J ?_))))))
   refine J2 _ _ (by repeat first | exact .refl | refine .cons rfl ?_) ⟨_, s0, ?s11, rfl⟩
   case s11 => exact congrArg Value.bool (nor_f h4)
 ·skip
  rintro g6 M ⟨hg11, rfl⟩
  simp only [setG, hg11]
  clear hg11
  rcases bt (!a.1.good || ((((dl (val a.1.w)).length : Nat) : Int) == 0)) with h7 | h7
  ·skip
   refine W_t h7 rfl (Rs fun K J => sE rfl (nl J (W_ret (af_ (ret1 rfl (.inr rfl) rfl ?_)))))
   exact (by exact congrArg (fun r : W => (.int .i64 r.1 : Value)) (show _ = (cA_ a) from bif_t h7 rfl))
  ·skip
   refine W_f h7 rfl (aj_ (J1 _ _ (Sq fun K3 J3 => Rs fun K J => sQ (qF ci_ rfl rfl) rfl (sQ (qC ty_4 rfl m0 rfl) rfl (nl J ?_)))))
   rcases bt a.1.neg with h8 | h8
   ·skip
    refine W_t h8 rfl (Rs fun K J => sE rfl (nl J (W_ret (af_ (ret1 rfl (.inr rfl) rfl ?_)))))
    exact (by exact congrArg (fun r : W => (.int .i64 r.1 : Value)) (show _ = (cA_ a) from bif_f h7 (bif_t h8 rfl)))
   ·skip
    refine W_f h8 rfl (aj_ (J3 _ _ (Rs fun K J => sE rfl (nl J (W_ret (ret1 rfl (.inr rfl) rfl ?_))))))
    exact (by exact congrArg (fun r : W => (.int .i64 r.1 : Value)) (show _ = (cA_ a) from bif_f h7 (bif_f h8 rfl)))
theorem dr_ (a : R) (ha : a.Ok) : Ret Tryz.prog 71 [RV a] (.int .i64 a.dec.sign) := by
  have h := fU_ ⟨a, ha⟩
  rw [fJ_] at h
  exact h

end Go.Proofs.YtjdfogfmeibkgaaGreat

namespace Go.Proofs.YtjdfogfmeibkgaaGreat
open Go.Kn Go.Num
set_option linter.unusedVariables false
set_option linter.unusedSimpArgs false
set_option maxRecDepth 20000
set_option maxHeartbeats 8000000
theorem gf_ (a b : R) (ha : a.Ok) (hb : b.Ok) :
    Ret Tryz.prog 136 [RV a, RV b] (RV (Z.gcd a.dec b.dec).enc) := by
 refine aJ_ (N := 64) Tryz.func136 rfl rfl (by simp) (fun w0 => ?_)
 simp only [initF, Nat.reduceAdd]
 have hla := len32 ha
 have hlb := len32 hb
 refine Sq fun K1 J1 => Rk fun K J => WL_r rfl (r_box rfl rfl (fun b2 hb2 => WL_r rfl (r_box rfl rfl (fun b3 hb3 => WL_r rfl (bf_ z_38 (fun b4 hb4 => nl J (J1 _ _ (Sq fun K2 J2 => Rk fun K J => sQ (aA_ ty_38 rfl (by repeat (first | exact .head _ | apply List.mem_append_right | apply List.Mem.tail)) (aI_ ha)) rfl ?_))))))))
 refine sQ (q_ret ql_ (ei_ a ha) rfl) rfl (sE rfl (sE rfl (sE rfl (sE rfl (sE rfl (nl J (J2 _ _ (Sq fun K3 J3 => Rk fun K J => sQ (aA_ ty_38 rfl (by repeat (first | exact .head _ | apply List.mem_append_right | apply List.Mem.tail)) (aI_ hb)) rfl ?_))))))))
 refine sQ (q_ret ql_ (ei_ b hb) rfl) rfl (sE rfl (sE rfl (sE rfl (sE rfl (sE rfl (nl J (J3 _ _ (Sq fun K4 J4 => Sq fun K5 J5 => Rk fun K J => sE rfl (sE rfl ?_)))))))))
 cases w1 : wordB a
 ·skip
  refine WL_n rfl (sE rfl (nl J (J5 _ _ (c9_ rfl (aj_ (J4 _ _ (Sq fun K6 J6 => Sq fun K7 J7 => Rk fun K J => sQ (aA_ ty_38 rfl (by repeat (first | exact .head _ | apply List.mem_append_right | apply List.Mem.tail)) (aI_ ha)) rfl ?_)))))))
  refine sQ (q_ret gt_ (bj_ a ha) rfl) rfl (sE rfl (sE rfl ?_))
  cases ga : a.good
  ·skip
   refine WL_n rfl (WL_n rfl (WL_n rfl (sE rfl (nl J (J7 _ _ (fP_ rfl (Sq fun K8 J8 => Rk fun K J => sQ (q_ret en_99 bQ_ rfl) rfl (WL_r rfl (aq_ ty_38 rfl rfl (by repeat (first | exact .head _ | apply Upd.left | apply Upd.tail)) (ac_ _) rfl (ao_ _) (.inl (by assumption)) ?_)))))))))
   refine nl J (J8 _ _ (W_ret (af_ (ret1 rfl (.inr rfl) ⟨_, _, _, _, _, _, rfl, (by repeat (first | exact .head _ | apply List.mem_append_right | apply List.Mem.tail)), ty_38, _, (a0_ (ac_ _)), (ac_ _), rfl⟩ ?_))))
   (rw [Z.gcd, cZ_ (.inl (bad1 ga))]; rfl)
  ·skip
   refine sQ (aA_ ty_38 rfl (by repeat (first | exact .head _ | apply List.mem_append_right | apply List.Mem.tail)) (aI_ hb)) rfl ?_
   refine sQ (q_ret gt_ (bj_ b hb) rfl) rfl (sE rfl (sE rfl (nl J (J7 _ _ ?_))))
   refine aO_ _ rfl (fun gb => ?_) (fun gb => ?_)
   ·(try simp only [decide_eq_true_eq, decide_eq_false_iff_not, beq_iff_eq, bne_iff_ne, beq_eq_false_iff_ne, bne_eq_false_iff_eq, Bool.not_eq_true', Bool.not_eq_false'] at gb)
    refine Sq fun K9 J9 => Rk fun K J => sQ (q_ret en_99 bQ_ rfl) rfl (WL_r rfl (aq_ ty_38 rfl rfl (by repeat (first | exact .head _ | apply Upd.left | apply Upd.tail)) (ac_ _) rfl (ao_ _) (.inl (by assumption)) ?_))
    refine nl J (J9 _ _ (W_ret (af_ (ret1 rfl (.inr rfl) ⟨_, _, _, _, _, _, rfl, (by repeat (first | exact .head _ | apply List.mem_append_right | apply List.Mem.tail)), ty_38, _, (a0_ (ac_ _)), (ac_ _), rfl⟩ ?_))))
    (rw [Z.gcd, cZ_ (.inr (bad1 gb))]; rfl)
   ·(try simp only [decide_eq_true_eq, decide_eq_false_iff_not, beq_iff_eq, bne_iff_ne, beq_eq_false_iff_ne, bne_eq_false_iff_eq, Bool.not_eq_true', Bool.not_eq_false'] at gb)
    refine aj_ (J6 _ _ (Sq fun K10 J10 => Rk fun K J => sQ (aA_ ty_38 rfl (by repeat (first | exact .head _ | apply List.mem_append_right | apply List.Mem.tail)) (aI_ ha)) rfl ?_))
    refine WL_r rfl (dB_ ie_ rfl (fun w hw => bO_ a ha w) (fun v5 L5 h5 => sE rfl (nl J (J10 _ _ (Sq fun K11 J11 => Rk fun K J => sQ (aA_ ty_38 rfl (by repeat (first | exact .head _ | apply List.mem_append_right | apply List.Mem.tail)) (aI_ hb)) rfl ?_)))))
    refine WL_r rfl (dB_ ie_ rfl (fun w hw => bO_ b hb w) (fun v6 L6 h6 => sE rfl (nl J (J11 _ _ (Sq fun K12 J12 => al_ ?_)))))
    refine aB_ [10, 11, 12, 13, 51, 52, 53, 54, 55, 56, 57, 58, 59, 60, 61] (fun g nn M => ∃ (X Y : Nat) (vx vy : Value) (Lx Ly : List Blk), (g 10 = vx ∧ g 11 = vy) ∧ M = Ly ++ (Lx ++ [⟨b4, 38, zR⟩, ⟨b3, 38, b.cells⟩, ⟨b2, 38, a.cells⟩]) ∧ nn = Y ∧ ((X < 65536 ^ 32 ∧ Y < 65536 ^ 32) ∧ Nat.gcd X Y = Nat.gcd (val a.w) (val b.w) ∧ SL w0 [] Lx vx (dl X) ∧ SL w0 [] Ly vy (dl Y))) (val b.w) ?start ?round
    case start =>
     refine ⟨_, (List.Sublist.refl _), val a.w, val b.w, v5, v6, L5, L6, ⟨?a10, ?a11⟩, ?mem0, rfl, ⟨⟨lt32' ha, lt32' hb⟩, rfl, h5.sl, h6.sl⟩⟩
     case mem0 => rfl
     case a10 => rfl
     case a11 => rfl
    case round =>
     rintro nn g M ⟨X, Y, vx, vy, Lx, Ly, ⟨hg10, hg11⟩, rfl, hmeas, ⟨hb3, hgc, hX, hY⟩⟩
     subst nn
     simp only [setG, hg10, hg11]
     clear hg10 hg11
     refine Sq fun K13 J13 => Sq fun K14 J14 => Rk fun K J => sE rfl (sQ (dR_ sl_70 rfl (hY.sub (List.sublist_append_left _ _))) rfl (sE rfl (nl J (J14 _ _ ?_))))
     refine aO_ _ rfl (fun h53 => ?_) (fun h53 => ?_)
     ·(try simp only [decide_eq_true_eq, decide_eq_false_iff_not, beq_iff_eq, bne_iff_ne, beq_eq_false_iff_ne, bne_eq_false_iff_eq, Bool.not_eq_true', Bool.not_eq_false'] at h53)
      have hYp : 0 < Y := os_ h53
      refine aj_ (J13 _ _ (al_ (Sq fun K15 J15 => Rk fun K J => sE rfl (sE rfl (WL_r rfl (kb_ pz_ rfl (fun w hw => d3_ vx vy X Y hYp (jc_ hb3.1) (jc_ hb3.2) w (SL.sl (hX.sub (.trans (List.sublist_append_left _ _) (List.sublist_append_right _ _))) hw) (SL.sl (hY.sub (List.sublist_append_left _ _)) hw)) (fun vq vr Lr hq hr => sE rfl (sE rfl (sE rfl (sE rfl (sE rfl (nl J (J15 _ _ (Sq fun K16 J16 => Rk fun K J => sE rfl (sE rfl (nl J ?_))))))))))))))))
      refine J16 _ _ (Rk fun K J => sE rfl (sE rfl (nl J ?_)))
      refine ⟨(by repeat first | exact .refl | refine .cons rfl ?_), _, _, (List.Sublist.append (List.Sublist.refl _) (List.Sublist.append (List.Sublist.refl _) (List.sublist_append_right _ _))), (Nat.mod_lt _ hYp), Y, X % Y, vy, vr, Ly, Lr, ⟨?s10, ?s11⟩, ?mem, rfl, ⟨⟨hb3.2, Nat.lt_of_le_of_lt (Nat.mod_le _ _) hb3.1⟩, by rw [← hgc]; exact kO_ X Y, hY, hr⟩⟩
      case mem => rfl
      case s10 => rfl
      case s11 => rfl
     ·(try simp only [decide_eq_true_eq, decide_eq_false_iff_not, beq_iff_eq, bne_iff_ne, beq_eq_false_iff_ne, bne_eq_false_iff_eq, Bool.not_eq_true', Bool.not_eq_false'] at h53)
      have hY0 : Y = 0 := lJ_ h53
      refine bd_ (ai_ (ai_ (an_ (J12 _ _ (Sq fun K17 J17 => Rk fun K J => sE rfl (sQ (aE_ kp_ rfl (fun w hw => cr_ false _ _ (dl_DL _) (Nat.le_trans (jc_ hb3.1) (by decide)) w (SL.sl (hX.sub (.trans (List.sublist_append_left _ _) (List.sublist_append_right _ _))) hw))) rfl (WL_r rfl (aq_ ty_38 rfl rfl (by repeat (first | exact .head _ | apply Upd.left | apply Upd.tail)) (ac_ _) rfl (ao_ _) (.inl (by assumption)) ?_))))))))
      refine nl J (J17 _ _ (W_ret (ret1 rfl (.inr rfl) ⟨_, _, _, _, _, _, rfl, (by repeat (first | exact .head _ | apply List.mem_append_right | apply List.Mem.tail)), ty_38, _, (a0_ (ac_ _)), (ac_ _), rfl⟩ ?_)))
      (rw [pO_ ha hb ga gb (by rw [← hgc, hY0, Nat.gcd_zero_right]), dv_dl]; rfl)
 ·skip
  refine sE rfl (sE rfl (nl J (J5 _ _ ?_)))
  refine aO_ _ rfl (fun w2 => ?_) (fun w2 => ?_)
  ·(try simp only [decide_eq_true_eq, decide_eq_false_iff_not, beq_iff_eq, bne_iff_ne, beq_eq_false_iff_ne, bne_eq_false_iff_eq, Bool.not_eq_true', Bool.not_eq_false'] at w2)
   refine Sq fun K18 J18 => al_ ?_
   refine aB_ [5, 7, 9, 28, 29, 30, 31, 32, 33, 34] (fun g nn M => ∃ (x y : Int), (g 5 = .int .i64 x ∧ g 7 = .int .i64 y) ∧ M = [⟨b4, 38, zR⟩, ⟨b3, 38, b.cells⟩, ⟨b2, 38, a.cells⟩] ∧ nn = y.natAbs ∧ ((-4611686018427387904 < x ∧ x < 4611686018427387904) ∧ (-4611686018427387904 < y ∧ y < 4611686018427387904) ∧ Int.gcd x y = Int.gcd (wordI a) (wordI b))) ((wordI b).natAbs) ?start ?round
   case start =>
    refine ⟨_, (List.Sublist.refl _), wordI a, wordI b, ⟨?a5, ?a7⟩, ?mem0, rfl, ⟨(gl_ ha w1).2.2.2, (gl_ hb w2).2.2.2, rfl⟩⟩
    case mem0 => rfl
    case a5 => rfl
    case a7 => rfl
   case round =>
    rintro nn g M ⟨x, y, ⟨hg5, hg7⟩, rfl, hmeas, ⟨hx, hy, hgc⟩⟩
    subst nn
    simp only [setG, hg5, hg7]
    clear hg5 hg7
    refine Sq fun K19 J19 => Sq fun K20 J20 => Rk fun K J => sE rfl (sE rfl (nl J (J20 _ _ ?_)))
    refine aO_ _ rfl (fun h29 => ?_) (fun h29 => ?_)
    ·(try simp only [decide_eq_true_eq, decide_eq_false_iff_not, beq_iff_eq, bne_iff_ne, beq_eq_false_iff_ne, bne_eq_false_iff_eq, Bool.not_eq_true', Bool.not_eq_false'] at h29)
     refine aj_ (J19 _ _ (al_ (Sq fun K21 J21 => Rk fun K J => sE rfl (sE rfl (sQ (q_rem rfl rfl h29) rfl (sE rfl (nl J (J21 _ _ (Sq fun K22 J22 => Rk fun K J => sE rfl (sE rfl (nl J (J22 _ _ (Rk fun K J => sE rfl (sE rfl ?_))))))))))))))
     refine nl J ?_
     refine ⟨(by repeat first | exact .refl | refine .cons rfl ?_), _, _, (List.Sublist.refl _), (fi_ (by simpa using h29)).1, y, x.tmod y, ⟨?s5, ?s7⟩, ?mem, rfl, ⟨hy, rN_ hx, by rw [← hgc]; exact pk_ x y⟩⟩
     case mem => rfl
     case s5 => rfl
     case s7 => rfl
    ·(try simp only [decide_eq_true_eq, decide_eq_false_iff_not, beq_iff_eq, bne_iff_ne, beq_eq_false_iff_ne, bne_eq_false_iff_eq, Bool.not_eq_true', Bool.not_eq_false'] at h29)
     have hy0 : y = 0 := by simpa using h29
     refine bd_ (ai_ (ai_ (an_ (J18 _ _ (Sq fun K23 J23 => Rk fun K J => sE rfl (sQ (q_ret en_81 (dO_ x (rR_ hx)) rfl) rfl (sQ (q_ret en_80 (f9_ (Z.of x).enc (Z.enc_ok _)) rfl) rfl (WL_r rfl (aq_ ty_38 rfl rfl (by repeat (first | exact .head _ | apply Upd.left | apply Upd.tail)) (ac_ _) rfl (ao_ _) (.inl (by assumption)) ?_)))))))))
     refine nl J (J23 _ _ (W_ret (af_ (ret1 rfl (.inr rfl) ⟨_, _, _, _, _, _, rfl, (by repeat (first | exact .head _ | apply List.mem_append_right | apply List.Mem.tail)), ty_38, _, (a0_ (ac_ _)), (ac_ _), rfl⟩ ?_))))
     (rw [gI_, mS_ ha hb w1 w2 hgc hy0]; rfl)
  ·(try simp only [decide_eq_true_eq, decide_eq_false_iff_not, beq_iff_eq, bne_iff_ne, beq_eq_false_iff_ne, bne_eq_false_iff_eq, Bool.not_eq_true', Bool.not_eq_false'] at w2)
   refine aj_ (J4 _ _ (Sq fun K24 J24 => Sq fun K25 J25 => Rk fun K J => sQ (aA_ ty_38 rfl (by repeat (first | exact .head _ | apply List.mem_append_right | apply List.Mem.tail)) (aI_ ha)) rfl ?_))
   refine sQ (q_ret gt_ (bj_ a ha) rfl) rfl (sE rfl (sE rfl ?_))
   cases ga : a.good
   ·skip
    refine WL_n rfl (WL_n rfl (WL_n rfl (sE rfl (nl J (J25 _ _ (fP_ rfl (Sq fun K26 J26 => Rk fun K J => sQ (q_ret en_99 bQ_ rfl) rfl (WL_r rfl (aq_ ty_38 rfl rfl (by repeat (first | exact .head _ | apply Upd.left | apply Upd.tail)) (ac_ _) rfl (ao_ _) (.inl (by assumption)) ?_)))))))))
    refine nl J (J26 _ _ (W_ret (af_ (ret1 rfl (.inr rfl) ⟨_, _, _, _, _, _, rfl, (by repeat (first | exact .head _ | apply List.mem_append_right | apply List.Mem.tail)), ty_38, _, (a0_ (ac_ _)), (ac_ _), rfl⟩ ?_))))
    (rw [Z.gcd, cZ_ (.inl (bad1 ga))]; rfl)
   ·skip
    refine sQ (aA_ ty_38 rfl (by repeat (first | exact .head _ | apply List.mem_append_right | apply List.Mem.tail)) (aI_ hb)) rfl ?_
    refine sQ (q_ret gt_ (bj_ b hb) rfl) rfl (sE rfl (sE rfl (nl J (J25 _ _ ?_))))
    refine aO_ _ rfl (fun gb => ?_) (fun gb => ?_)
    ·(try simp only [decide_eq_true_eq, decide_eq_false_iff_not, beq_iff_eq, bne_iff_ne, beq_eq_false_iff_ne, bne_eq_false_iff_eq, Bool.not_eq_true', Bool.not_eq_false'] at gb)
     refine Sq fun K27 J27 => Rk fun K J => sQ (q_ret en_99 bQ_ rfl) rfl (WL_r rfl (aq_ ty_38 rfl rfl (by repeat (first | exact .head _ | apply Upd.left | apply Upd.tail)) (ac_ _) rfl (ao_ _) (.inl (by assumption)) ?_))
     refine nl J (J27 _ _ (W_ret (af_ (ret1 rfl (.inr rfl) ⟨_, _, _, _, _, _, rfl, (by repeat (first | exact .head _ | apply List.mem_append_right | apply List.Mem.tail)), ty_38, _, (a0_ (ac_ _)), (ac_ _), rfl⟩ ?_))))
     (rw [Z.gcd, cZ_ (.inr (bad1 gb))]; rfl)
    ·(try simp only [decide_eq_true_eq, decide_eq_false_iff_not, beq_iff_eq, bne_iff_ne, beq_eq_false_iff_ne, bne_eq_false_iff_eq, Bool.not_eq_true', Bool.not_eq_false'] at gb)
     refine aj_ (J24 _ _ (Sq fun K28 J28 => Rk fun K J => sQ (aA_ ty_38 rfl (by repeat (first | exact .head _ | apply List.mem_append_right | apply List.Mem.tail)) (aI_ ha)) rfl ?_))
     refine WL_r rfl (dB_ ie_ rfl (fun w hw => bO_ a ha w) (fun v5 L5 h5 => sE rfl (nl J (J28 _ _ (Sq fun K29 J29 => Rk fun K J => sQ (aA_ ty_38 rfl (by repeat (first | exact .head _ | apply List.mem_append_right | apply List.Mem.tail)) (aI_ hb)) rfl ?_)))))
     refine WL_r rfl (dB_ ie_ rfl (fun w hw => bO_ b hb w) (fun v6 L6 h6 => sE rfl (nl J (J29 _ _ (Sq fun K30 J30 => al_ ?_)))))
     refine aB_ [10, 11, 12, 13, 51, 52, 53, 54, 55, 56, 57, 58, 59, 60, 61] (fun g nn M => ∃ (X Y : Nat) (vx vy : Value) (Lx Ly : List Blk), (g 10 = vx ∧ g 11 = vy) ∧ M = Ly ++ (Lx ++ [⟨b4, 38, zR⟩, ⟨b3, 38, b.cells⟩, ⟨b2, 38, a.cells⟩]) ∧ nn = Y ∧ ((X < 65536 ^ 32 ∧ Y < 65536 ^ 32) ∧ Nat.gcd X Y = Nat.gcd (val a.w) (val b.w) ∧ SL w0 [] Lx vx (dl X) ∧ SL w0 [] Ly vy (dl Y))) (val b.w) ?start ?round
     case start =>
      refine ⟨_, (List.Sublist.refl _), val a.w, val b.w, v5, v6, L5, L6, ⟨?a10, ?a11⟩, ?mem0, rfl, ⟨⟨lt32' ha, lt32' hb⟩, rfl, h5.sl, h6.sl⟩⟩
      case mem0 => rfl
      case a10 => rfl
      case a11 => rfl
     case round =>
      rintro nn g M ⟨X, Y, vx, vy, Lx, Ly, ⟨hg10, hg11⟩, rfl, hmeas, ⟨hb3, hgc, hX, hY⟩⟩
      subst nn
      simp only [setG, hg10, hg11]
      clear hg10 hg11
      refine Sq fun K31 J31 => Sq fun K32 J32 => Rk fun K J => sE rfl (sQ (dR_ sl_70 rfl (hY.sub (List.sublist_append_left _ _))) rfl (sE rfl (nl J (J32 _ _ ?_))))
      refine aO_ _ rfl (fun h53 => ?_) (fun h53 => ?_)
      ·(try simp only [decide_eq_true_eq, decide_eq_false_iff_not, beq_iff_eq, bne_iff_ne, beq_eq_false_iff_ne, bne_eq_false_iff_eq, Bool.not_eq_true', Bool.not_eq_false'] at h53)
       have hYp : 0 < Y := os_ h53
       refine aj_ (J31 _ _ (al_ (Sq fun K33 J33 => Rk fun K J => sE rfl (sE rfl (WL_r rfl (kb_ pz_ rfl (fun w hw => d3_ vx vy X Y hYp (jc_ hb3.1) (jc_ hb3.2) w (SL.sl (hX.sub (.trans (List.sublist_append_left _ _) (List.sublist_append_right _ _))) hw) (SL.sl (hY.sub (List.sublist_append_left _ _)) hw)) (fun vq vr Lr hq hr => sE rfl (sE rfl (sE rfl (sE rfl (sE rfl (nl J (J33 _ _ (Sq fun K34 J34 => Rk fun K J => sE rfl (sE rfl (nl J ?_))))))))))))))))
       refine J34 _ _ (Rk fun K J => sE rfl (sE rfl (nl J ?_)))
       refine ⟨(by repeat first | exact .refl | refine .cons rfl ?_), _, _, (List.Sublist.append (List.Sublist.refl _) (List.Sublist.append (List.Sublist.refl _) (List.sublist_append_right _ _))), (Nat.mod_lt _ hYp), Y, X % Y, vy, vr, Ly, Lr, ⟨?s10, ?s11⟩, ?mem, rfl, ⟨⟨hb3.2, Nat.lt_of_le_of_lt (Nat.mod_le _ _) hb3.1⟩, by rw [← hgc]; exact kO_ X Y, hY, hr⟩⟩
       case mem => rfl
       case s10 => rfl
       case s11 => rfl
      ·(try simp only [decide_eq_true_eq, decide_eq_false_iff_not, beq_iff_eq, bne_iff_ne, beq_eq_false_iff_ne, bne_eq_false_iff_eq, Bool.not_eq_true', Bool.not_eq_false'] at h53)
       have hY0 : Y = 0 := lJ_ h53
       refine bd_ (ai_ (ai_ (an_ (J30 _ _ (Sq fun K35 J35 => Rk fun K J => sE rfl (sQ (aE_ kp_ rfl (fun w hw => cr_ false _ _ (dl_DL _) (Nat.le_trans (jc_ hb3.1) (by decide)) w (SL.sl (hX.sub (.trans (List.sublist_append_left _ _) (List.sublist_append_right _ _))) hw))) rfl (WL_r rfl (aq_ ty_38 rfl rfl (by repeat (first | exact .head _ | apply Upd.left | apply Upd.tail)) (ac_ _) rfl (ao_ _) (.inl (by assumption)) ?_))))))))
       refine nl J (J35 _ _ (W_ret (ret1 rfl (.inr rfl) ⟨_, _, _, _, _, _, rfl, (by repeat (first | exact .head _ | apply List.mem_append_right | apply List.Mem.tail)), ty_38, _, (a0_ (ac_ _)), (ac_ _), rfl⟩ ?_)))
       (rw [pO_ ha hb ga gb (by rw [← hgc, hY0, Nat.gcd_zero_right]), dv_dl]; rfl)
end Go.Proofs.YtjdfogfmeibkgaaGreat

