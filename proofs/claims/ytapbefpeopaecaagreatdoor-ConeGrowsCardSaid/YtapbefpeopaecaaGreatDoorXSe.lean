/- Walks: what these functions return. -/
import Derived.Test.YtapbefpeopaecaaGreatDoorXGE
import Derived.Test.YtapbefpeopaecaaGreatDoorXFWq
import Derived.Test.YtapbefpeopaecaaGreatDoorXSb
namespace Go.Proofs.YtapbefpeopaecaaGreatDoor
open Go.Kn Go.Num
set_option linter.unusedVariables false
set_option linter.unusedSimpArgs false
set_option maxRecDepth 20000
set_option maxHeartbeats 8000000
theorem c8_ (va vb : Value) (A B : Nat) (hB : 0 < B) (hna : (dl A).length ≤ 190) (hnb : (dl B).length ≤ 190) (w : World) (hva : Sl w va (dl A)) (hvb : Sl w vb (dl B)) :
    Calls Tryz.prog 91 [va, vb].toArray w (fun e w' => ∃ v1 v2, e = .returned (.tuple #[v1, v2]) ∧ Ext w w' ∧ Slf w.heap.size w' v1 (dl (A / B)) ∧ Slf w.heap.size w' v2 (dl (A % B))) := by
 refine iy_ (N := 84) Tryz.func91 rfl rfl (by simp) ?_
 obtain ⟨w0, rfl⟩ : ∃ w0, w0 = w := ⟨_, rfl⟩
 simp only [initF, Nat.reduceAdd]
 have hn0 : 1 ≤ (dl B).length := Nat.pos_of_ne_zero (fun hc => by rw [k0_] at hc; omega)
 obtain ⟨tp, htp⟩ : ∃ tp, tp = (dg B ((dl B).length - 1) * 65536 + atD (dl B) (((dl B).length : Int) - 2)) := ⟨_, rfl⟩
 refine Sq fun K1 J1 => Rk fun K J => sE rfl (sE rfl (nl J (J1 _ _ (Sq fun K2 J2 => Rk fun K J => sE rfl (sQ (dB_ sl_81 rfl hva.old) rfl (WL_r rfl (pa_ us_81 on_3 z_3 rfl rfl (by omega) (fun b15 hb15 => sE rfl (nl J (J2 _ _ (Sq fun K3 J3 => Rk fun K J => sE rfl (sQ (dB_ sl_81 rfl hvb.old) rfl (sE rfl (nl J ?_))))))))))))))
 refine J3 _ _ (Sq fun K4 J4 => dr sn [0,4,8,12,16,20,24,28,32,36,40,44] [] mix (by kernel_rfl) (fun K J => pE rfl (pE rfl (pQ rfl (q_as (q_sub rfl rfl) (congrArg (Value.int .i64) (ev_ (b := 1) rfl (by omega) (by omega)))) (pQ rfl (gr_ sl_81 rfl rfl hvb.old (by omega)) (pQ rfl (q_as (e5_ ty_3 rfl hvb.old (by omega)) (congrArg IV (gI_ B _))) (pE rfl (pE rfl (pE rfl (pQ rfl (q_as (q_sub rfl rfl) (congrArg (Value.int .i64) (sub_I (by omega) (by decide) (by decide)))) (pQ rfl (bM_ jY_ rfl (fun w hw => c5_ vb (dl B) _ w (SL.sl (M := _) hvb.old hw))) (pQ rfl (q_as (q_add rfl rfl) (show _ = Value.int .i64 (tp : Int) from congrArg (Value.int .i64) (by rw [htp]; exact pR_ (dg_lt _ _) (he_ _ _)))) (pE rfl (fl J (J4 _ _ (Sq fun K5 J5 => Rk fun K J => sE rfl ?_))))))))))))))))
 refine nl J (J5 _ _ (Sq fun K6 J6 => Sq fun K7 J7 => Rk fun K J => sE rfl (sQ (dB_ sl_81 rfl hva.old) rfl (sE rfl (sE rfl (nl J (J7 _ _ (am_ ?_))))))))
 refine bi_ [9, 10, 11, 12, 32, 33, 34, 35, 36, 37, 38, 39, 40, 41, 42, 43, 44, 45, 46, 47, 48, 49, 50, 51, 52, 53, 54, 55, 56, 57, 58, 59, 60, 61, 62, 63, 64, 65, 66, 67, 68, 69, 70, 71, 72, 73, 74, 75, 76, 77, 78, 79, 80] (fun g nn M => ∃ (k R : Nat) (qs : List Nat) (vr : Value) (L : List Blk), (g 9 = vr ∧ g 10 = .int .i64 ((k : Int) - 1)) ∧ M = L ++ [⟨b15, 3, iw qs⟩] ∧ nn = k + 0 ∧ (k ≤ (dl A).length ∧ DivIn A B (dl A).length k R qs ∧ SLf w0 L vr (dl R))) ((dl A).length) ?start ?round
 case start =>
  refine ⟨_, (List.Sublist.refl _), (dl A).length, 0, _, _, [], ⟨?a9, ?a10⟩, ?mem0, rfl, ⟨Nat.le_refl _, DivIn.start (dl_lt A), by rw [d2_]; exact SLf.none⟩⟩
  case mem0 => rfl
  case a9 => rfl
  case a10 => exact congrArg (Value.int .i64) (sub_I (by omega) (by decide) (by decide))
 case round =>
  rintro nn g M ⟨k, R, qs, vr, L, ⟨hg9, hg10⟩, rfl, hmeas, ⟨hk, hI, hr⟩⟩
  subst nn
  simp only [setG, hg9, hg10]
  clear hg9 hg10
  refine Sq fun K8 J8 => Sq fun K9 J9 => Rk fun K J => sE rfl (sE rfl (nl J (J9 _ _ ?_)))
  refine aN_ _ rfl (fun hc => ?_) (fun hc => ?_)
  ·(try simp only [decide_eq_true_eq, decide_eq_false_iff_not, beq_iff_eq, bne_iff_ne, beq_eq_false_iff_ne, bne_eq_false_iff_eq, Bool.not_eq_true', Bool.not_eq_false'] at hc)
   obtain ⟨m, rfl⟩ : ∃ m, k = m + 1 := ⟨k - 1, by omega⟩
   have hRB : R < B := by rw [hI.rest]; exact Nat.mod_lt _ hB
   have hRl : (dl R).length ≤ 190 := Nat.le_trans (dl_le (Nat.le_of_lt hRB)) hnb
   refine ah_ (J8 _ _ (Sq fun K10 J10 => am_ (Sq fun K11 J11 => Rk fun K J => sE rfl (sQ (q_as (cF_ rfl) (congrArg (Value.int .i64) (show (((m + 1 : Nat) : Int) - 1) = (m : Int) by omega))) rfl (sQ (gr_ sl_81 rfl rfl hva.old (by omega)) rfl (sQ (q_as (e5_ ty_3 rfl hva.old (by omega)) (congrArg IV (gI_ A m))) rfl (WL_r rfl (b6_ us_81 z_3 sz_3 rfl (by decide) rfl (gX_ _) (fun b40 hb40 => sE rfl ?_)))))))))
   have hC8 := mQ_ (R := R) (dg_lt A m)
   refine WL_r rfl (gt_ us_81 on_3 rfl rfl (OwnL.of_mine (l := [dg A m]) hb40 (show 1 ≤ maxLen by decide)) (hr.sl.sub (.cons _ (List.sublist_append_left _ _))) (List.Sublist.refl _) (by simp only [List.length_singleton]; omega) (fun v8 L8 hO8 => ?_))
   refine sQ (bM_ hA_ rfl (fun w hw => bR_ v8 ([dg A m] ++ dl R) hC8.1 (by simp only [List.length_append, List.length_singleton]; omega) w (SL.sl (hO8.sl (List.sublist_append_left _ _)) hw))) rfl ?_
   refine sE rfl (nl J ?_)
   have hC8 := mQ_ (R := R) (dg_lt A m)
   have hr8 := eY_ hC8.1 hC8.2 (hO8.slf (List.Sublist.refl _))
   generalize sls v8 (dl (dv ([dg A m] ++ dl R))).length = vr8 at hr8 ⊢
   have hR8 : (R * 65536 + dg A m) < 65536 * B := by have := dg_lt A m; omega
   obtain ⟨nm, hnm⟩ : ∃ nm, nm = (atD (dl (R * 65536 + dg A m)) ((dl B).length : Int) * 4294967296 + atD (dl (R * 65536 + dg A m)) (((dl B).length : Int) - 1) * 65536 + atD (dl (R * 65536 + dg A m)) (((dl B).length : Int) - 2)) := ⟨_, rfl⟩
   obtain ⟨d0, hd0⟩ : ∃ d0, d0 = min 65535 (nm / tp) := ⟨_, rfl⟩
   have G8 : 0 < tp ∧ (R * 65536 + dg A m) / B ≤ d0 ∧ d0 ≤ 65535 := by rw [hd0, hnm, htp]; have hg := nz_ hB hR8 rfl hn0; exact ⟨hg.1, hg.2, Nat.min_le_left _ _⟩
   have hl8 : (dl (R * 65536 + dg A m)).length ≤ 192 := Nat.le_trans (ed_ (k := (dl B).length + 1) (by have := dl_lt B; rw [Nat.pow_succ]; omega)) (by omega)
   refine J11 _ _ (Sq fun K12 J12 => Rk fun K J => sE rfl (sE rfl (sQ (bM_ jY_ rfl (fun w hw => c5_ _ (dl (R * 65536 + dg A m)) _ w (SL.sl (M := _) (hr8.sl.sub (List.sublist_append_left _ _)) hw))) rfl (sE rfl (sE rfl (sE rfl (sQ (q_as (q_sub rfl rfl) (congrArg (Value.int .i64) (sub_I (by omega) (by decide) (by decide)))) rfl (sQ (bM_ jY_ rfl (fun w hw => c5_ _ (dl (R * 65536 + dg A m)) _ w (SL.sl (M := _) (hr8.sl.sub (List.sublist_append_left _ _)) hw))) rfl (sE rfl (sE rfl (sE rfl (sE rfl (sQ (q_as (q_sub rfl rfl) (congrArg (Value.int .i64) (sub_I (by omega) (by decide) (by decide)))) rfl (sQ (bM_ jY_ rfl (fun w hw => c5_ _ (dl (R * 65536 + dg A m)) _ w (SL.sl (M := _) (hr8.sl.sub (List.sublist_append_left _ _)) hw))) rfl (sQ (q_as (q_add rfl rfl) (show _ = Value.int .i64 (nm : Int) from congrArg (Value.int .i64) (by rw [hnm]; exact p2_ (he_ _ _) (he_ _ _) (he_ _ _)))) rfl (sE rfl (sQ (q_as (q_quo rfl rfl (fun hc => Nat.lt_irrefl 0 (Nat.lt_of_lt_of_eq G8.1 (Int.natCast_eq_zero.1 hc)))) (congrArg (Value.int .i64) (ke_ (by rw [hnm]; exact q2_ _ _ _ _)))) rfl ?_)))))))))))))))))
   refine sQ (q_as (oP_ (a := 65535) rfl rfl) (congrArg (fun n : Nat => Value.int .i64 (n : Int)) hd0.symm)) rfl (sE rfl (nl J (J12 _ _ (Sq fun K13 J13 => Rk fun K J => sE rfl (sE rfl (WL_r rfl (b6_ us_81 z_3 sz_3 rfl (by decide) rfl (gX_ _) (fun b64 hb64 => WL_r rfl (cJ_ qV_ rfl (fun w hw => fb_ vb _ (dl B) [d0] (dl_DL B) (DL.one (by omega)) (by omega) (by simp) w (SL.sl (M := _) hvb.old hw) (SL.sl (SL.mine (l := [d0]) (.head _) (Nat.le_refl _)) hw)) (fun vp0 Lp0 hp0 => ?_))))))))))
   refine sE rfl (nl J (J13 _ _ (Sq fun K14 J14 => am_ ?_)))
   refine bi_ [11, 12, 66, 67, 68, 69, 70, 71, 72, 73] (fun g nn M => ∃ (d : Nat) (vp : Value) (Lp : List Blk), (g 11 = .int .i64 (d : Int) ∧ g 12 = vp) ∧ M = Lp ++ (L8 ++ (L ++ [⟨b15, 3, iw qs⟩])) ∧ nn = d ∧ (((R * 65536 + dg A m) / B ≤ d ∧ d ≤ 65535) ∧ SLf w0 Lp vp (dl (B * d)))) (d0) ?start ?round
   case start =>
    refine ⟨_, (List.Sublist.append (List.Sublist.refl _) (List.Sublist.cons _ (List.Sublist.refl _))), d0, vp0, Lp0, ⟨?a11, ?a12⟩, ?mem0, rfl, ⟨⟨G8.2.1, G8.2.2⟩, by have := hp0; rw [dv_dl] at this; simpa [dv] using this⟩⟩
    case mem0 => rfl
    case a11 => rfl
    case a12 => rfl
   case round =>
    rintro nn g M ⟨d, vp, Lp, ⟨hg11, hg12⟩, rfl, hmeas, ⟨hd, hp⟩⟩
    subst nn
    simp only [setG, hg11, hg12]
    clear hg11 hg12
    have hpl : (dl (B * d)).length ≤ 195 := Nat.le_trans (ed_ (k := (dl B).length + 1) (by have := dl_lt B; have h1 := Nat.mul_le_mul_left B hd.2; rw [Nat.pow_succ]; omega)) (by omega)
    refine Sq fun K15 J15 => Sq fun K16 J16 => Rk fun K J => sE rfl (sE rfl (sQ (bM_ qm_ rfl (fun w hw => fm_ _ vp (dl (R * 65536 + dg A m)) (dl (B * d)) (dl_DL _) (dl_DL _) (by omega) (by omega) w (SL.sl (hr8.sl.sub (.trans (List.sublist_append_left _ _) (List.sublist_append_right _ _))) hw) (SL.sl (hp.sl.sub (List.sublist_append_left _ _)) hw))) rfl (nl J (J16 _ _ ?_))))
    refine aN_ _ rfl (fun h68 => ?_) (fun h68 => ?_)
    ·(try simp only [decide_eq_true_eq, decide_eq_false_iff_not, beq_iff_eq, bne_iff_ne, beq_eq_false_iff_ne, bne_eq_false_iff_eq, Bool.not_eq_true', Bool.not_eq_false'] at h68)
     rw [dv_dl, dv_dl] at h68
     have hless := ny_ hB hd.1 h68
     refine ah_ (J15 _ _ (am_ (Sq fun K17 J17 => Rk fun K J => sE rfl (sQ (q_as (q_sub rfl rfl) (congrArg (Value.int .i64) (ev_ (b := 1) rfl hless.1 (by omega)))) rfl (sE rfl (nl J (J17 _ _ (Rk fun K J => sE rfl (sE rfl (WL_r rfl (cJ_ en_92 rfl (fun w hw => dU_ vp vb (dl (B * d)) (dl B) (dl_DL _) (dl_DL _) (by omega) (by omega) (by rw [dv_dl, dv_dl]; exact hless.2.2.1) w (SL.sl (hp.sl.sub (List.sublist_append_left _ _)) hw) (SL.sl (M := _) hvb.old hw)) (fun vp2 Lp2 hp2 => sE rfl (nl J ?_)))))))))))))
     refine ⟨(by repeat first | exact .refl | refine .cons rfl ?_), _, _, (List.Sublist.append (List.Sublist.refl _) (List.sublist_append_right _ _)), (by have := hless.1; omega), d - 1, vp2, Lp2, ⟨?s11, ?s12⟩, ?mem, rfl, ⟨⟨hless.2.1, by omega⟩, by rw [dv_dl, dv_dl, hless.2.2.2] at hp2; exact hp2⟩⟩
     case mem => rfl
     case s11 => rfl
     case s12 => rfl
    ·(try simp only [decide_eq_true_eq, decide_eq_false_iff_not, beq_iff_eq, bne_iff_ne, beq_eq_false_iff_ne, bne_eq_false_iff_eq, Bool.not_eq_true', Bool.not_eq_false'] at h68)
     rw [dv_dl, dv_dl] at h68
     have hdone := nS_ hB hd.1 h68
     refine bd_ (aq_ (aq_ (aw_ (J14 _ _ (Sq fun K18 J18 => Rk fun K J => sE rfl (sQ (q_as (cF_ rfl) (congrArg (Value.int .i64) (show (((m + 1 : Nat) : Int) - 1) = (m : Int) by omega))) rfl (sE rfl (sQ (hD_ sl_81 rfl rfl (by omega) (by omega)) rfl (WL_r rfl (ij_ ty_3 rfl rfl (Upd.left (Upd.left (Upd.left (.head _) _) _) _) (by rw [hI.len]; omega) (.inl (by assumption)) (nl J (J18 _ _ (Rk fun K J => sE rfl (sE rfl (WL_r rfl (cJ_ en_92 rfl (fun w hw => dU_ _ vp (dl (R * 65536 + dg A m)) (dl (B * d)) (dl_DL _) (dl_DL _) (by omega) (by omega) (by rw [dv_dl, dv_dl]; exact hdone.2.2) w (SL.sl (hr8.sl.sub (.trans (List.sublist_append_left _ _) (List.sublist_append_right _ _))) hw) (SL.sl (hp.sl.sub (List.sublist_append_left _ _)) hw)) (fun vr2 Lr2 hr2 => sE rfl (nl J (J10 _ _ (Rk fun K J => sQ (q_as (cF_ rfl) (congrArg (Value.int .i64) (show (((m + 1 : Nat) : Int) - 1) = (m : Int) by omega))) rfl ?_))))))))))))))))))))
     refine sE rfl (sE rfl (nl J ?_))
     refine ⟨(by repeat first | exact .refl | refine .cons rfl ?_), _, _, (List.Sublist.append (List.Sublist.refl _) (.trans (List.sublist_append_right _ _) (.trans (List.sublist_append_right _ _) (List.sublist_append_right _ _)))), (by omega), m, ((R * 65536 + dg A m) % B), qs.set m d, vr2, Lr2, ⟨?s9, ?s10⟩, ?mem, rfl, ⟨by omega, by rw [hdone.1]; exact hI.step hB (by omega), by rw [dv_dl, dv_dl, hdone.2.1] at hr2; exact hr2⟩⟩
     case mem => rfl
     case s9 => rfl
     case s10 => exact congrArg (Value.int .i64) (aB_ (n := (m : Int) - 1) (by unfold I64; omega))
  ·(try simp only [decide_eq_true_eq, decide_eq_false_iff_not, beq_iff_eq, bne_iff_ne, beq_eq_false_iff_ne, bne_eq_false_iff_eq, Bool.not_eq_true', Bool.not_eq_false'] at hc)
   obtain rfl : k = 0 := by omega
   refine bd_ (aq_ (aq_ (aw_ (J6 _ _ (Sq fun K19 J19 => Rk fun K J => sE rfl (sQ (bM_ hA_ rfl (fun w hw => bR_ _ qs hI.ok (by rw [hI.len]; omega) w (SL.sl (SL.mine' (List.mem_append_right _ (.head _)) hI.len (Nat.le_refl _)) hw))) rfl (sE rfl (sE rfl (sE rfl (nl J (J19 _ _ (W_ret (ret2 rfl (.inr rfl) rfl rfl ?_)))))))))))))
   exact ⟨_, _, rfl, eY_ hI.ok hI.fin.1 (SLf.mine hb15 (List.mem_append_right _ (.head _)) hI.len (Nat.le_refl _)), by rw [hI.fin.2] at hr; exact hr.sub (List.sublist_append_left _ _)⟩
end Go.Proofs.YtapbefpeopaecaaGreatDoor

namespace Go.Proofs.YtapbefpeopaecaaGreatDoor
open Go.Kn Go.Num
set_option linter.unusedVariables false
set_option linter.unusedSimpArgs false
set_option maxRecDepth 20000
set_option maxHeartbeats 8000000
theorem fJ_ (a : I) :
    Ret Tryz.prog 84 [AV [pI a]] (AV [pI (cR_ a)]) := by
 refine az_ (N := 13) Tryz.func84 rfl rfl (by simp) (fun w0 => ?_)
 simp only [initF, Nat.reduceAdd]
 refine Rs fun K J => WL_r rfl (bl_ rfl rfl (fun b1 hb1 => sN zp_37 rfl fun b2 hb2 => nl J (Sq fun K1 J1 => Rs fun K J => sQ (qL ty_37 rfl m1 rfl) rfl (sC (.bool a.1.good) en_86 (aQ_ a.1 a.2) rfl rfl rfl (sE rfl (nl J ?_))))))
 rcases bt a.1.good with h3 | h3
 ·skip
  refine W_f (not_f h3) rfl (ah_ (J1 _ _ (ds sn [0,4,8,12,17,20,25] [6] mix (by kernel_rfl) (fun K J => pQ rfl (qF bz_ rfl rfl) (pQ rfl (qC ty_4 rfl m1 rfl) (pE rfl (pQ rfl (qL ty_37 rfl m1 rfl) (PL_o rfl rfl (cJ_ en_87 rfl (fun w hw => a0_ a.1 a.2 w) (fun vl4 Ll4 kl4 => ⟨(fun _ => sR s0), sn, ?_⟩))))))))))
  try simp only [dv_dl, gY_] at kl4
  refine pQ rfl (q_as (v' := AV [pI (E (Z.of (sgn (!a.1.neg) (val a.1.w))))]) (bM_ en_93 rfl (fun w hw => bo_ (!a.1.neg) vl4 (dl (val a.1.w)) (dl_DL _) (Nat.le_trans (ed_ (k := 32) (lt32 a.2)) (by decide)) w (SL.sl (SL.sub kl4.sl (List.sublist_append_left _ _)) hw))) (by rw [(dv_dl _)]; rfl)) (oS [pI (E (Z.of (sgn (!a.1.neg) (val a.1.w))))] ty_37 rfl rfl rfl rfl rfl rfl (Upd.left (.head _) _) rfl hb2 rfl sn (fl J (W_ret (ret1 rfl (.inr rfl) (resP rfl (List.mem_append_right _ (List.mem_cons_self)) ty_37 rfl) ?_))))
  exact (by exact congrArg (fun r : I => (AV [pI r] : Value)) (show _ = (cR_ a) from bif_t h3 rfl))
 ·skip
  refine W_t (not_t h3) rfl (Rs fun K J => sC (AV [pI (E Z.bad)]) en_90 bw_ rfl rfl rfl (sS [pI (E Z.bad)] ty_37 rfl rfl rfl rfl rfl (.head _) rfl hb2 (nl J (W_ret (af_ (ret1 rfl (.inr rfl) (resP rfl m0 ty_37 rfl) ?_))))))
  exact (by exact congrArg (fun r : I => (AV [pI r] : Value)) (show _ = (cR_ a) from bif_f h3 rfl))
theorem fz_ (a : R) (ha : a.Ok) : Ret Tryz.prog 84 [RV a] (RV (Z.neg a.dec).enc) := by
  have h := fJ_ ⟨a, ha⟩
  rw [fp_] at h
  exact h

theorem fu_ (a : I) :
    Ret Tryz.prog 122 [AV [pI a]] (AV [pI (cP_ a)]) := by
 refine az_ (N := 10) Tryz.func122 rfl rfl (by simp) (fun w0 => ?_)
 simp only [initF, Nat.reduceAdd]
 refine Rs fun K J => WL_r rfl (bl_ rfl rfl (fun b1 hb1 => sN zp_37 rfl fun b2 hb2 => nl J (Sq fun K1 J1 => Rs fun K J => sQ (qL ty_37 rfl m1 rfl) rfl (sC (.bool a.1.good) en_86 (aQ_ a.1 a.2) rfl rfl rfl (sE rfl (nl J ?_))))))
 rcases bt a.1.good with h3 | h3
 ·skip
  refine W_f (not_f h3) rfl (ah_ (J1 _ _ (Rs fun K J => sQ (qL ty_37 rfl m1 rfl) rfl (WL_r rfl (cJ_ en_87 rfl (fun w hw => a0_ a.1 a.2 w) (fun vl4 Ll4 kl4 => ?_))))))
  try simp only [dv_dl, gY_] at kl4
  refine sQ (q_as (v' := AV [pI (E (Z.of (sgn false (val a.1.w))))]) (bM_ en_93 rfl (fun w hw => bo_ false vl4 (dl (val a.1.w)) (dl_DL _) (Nat.le_trans (ed_ (k := 32) (lt32 a.2)) (by decide)) w (SL.sl (SL.sub kl4.sl (List.sublist_append_left _ _)) hw))) (by rw [(dv_dl _)]; rfl)) rfl (sS [pI (E (Z.of (sgn false (val a.1.w))))] ty_37 rfl rfl rfl rfl rfl (Upd.left (.head _) _) rfl hb2 (nl J (W_ret (ret1 rfl (.inr rfl) (resP rfl (List.mem_append_right _ (List.mem_cons_self)) ty_37 rfl) ?_))))
  exact (by exact congrArg (fun r : I => (AV [pI r] : Value)) (show _ = (cP_ a) from bif_t h3 rfl))
 ·skip
  refine W_t (not_t h3) rfl (Rs fun K J => sC (AV [pI (E Z.bad)]) en_90 bw_ rfl rfl rfl (sS [pI (E Z.bad)] ty_37 rfl rfl rfl rfl rfl (.head _) rfl hb2 (nl J (W_ret (af_ (ret1 rfl (.inr rfl) (resP rfl m0 ty_37 rfl) ?_))))))
  exact (by exact congrArg (fun r : I => (AV [pI r] : Value)) (show _ = (cP_ a) from bif_f h3 rfl))
theorem ft_ (a : R) (ha : a.Ok) : Ret Tryz.prog 122 [RV a] (RV (Z.abs a.dec).enc) := by
  have h := fu_ ⟨a, ha⟩
  rw [fl_] at h
  exact h

theorem fo_ (a : I) :
    Ret Tryz.prog 40 [AV [pI a]] (.int .i64 ((cx_ a).1)) := by
 refine az_ (N := 14) Tryz.func40 rfl rfl (by simp) (fun w0 => ?_)
 simp only [initF, Nat.reduceAdd]
 refine Rs fun K J => WL_r rfl (bl_ rfl rfl (fun b1 hb1 => sE rfl (nl J (Sq fun K1 J1 => ?_))))
 refine b3_ [3, 4, 5, 6, 7, 8, 9, 10, 11] (fun g M => (g 11 = .bool (!a.1.good || ((((dl (val a.1.w)).length : Nat) : Int) == 0))) ∧ M = [⟨b1, 37, flat [pI a]⟩]) (fun K2 J2 => ?_) ?_
 ·skip
  refine Rk fun K J => sQ (qL ty_37 rfl m0 rfl) rfl (sC (.bool a.1.good) en_86 (aQ_ a.1 a.2) rfl rfl rfl (sE rfl ?_))
  rcases bt a.1.good with h4 | h4
  ·skip
   refine sB (not_f h4) rfl (sQ (qL ty_37 rfl m0 rfl) rfl (WL_r rfl (cJ_ en_87 rfl (fun w hw => a0_ a.1 a.2 w) (fun vl5 Ll5 kl5 => ?_))))
   try simp only [dv_dl, gY_] at kl5
   refine sQ (q_as (v' := .int .i64 (((dl (val a.1.w)).length : Nat) : Int)) (dB_ sl_81 rfl (SL.sub kl5.sl (List.sublist_append_left _ _))) rfl) rfl (sE rfl (sE rfl (nl J ?_)))
   refine J2 _ _ (by repeat first | exact .refl | refine .cons rfl ?_) ⟨_, (sR (s0)), ?s11, rfl⟩
   case s11 => exact congrArg Value.bool (nor_t h4 rfl)
  ·skip
   refine sB (not_t h4) rfl (WL_n rfl (WL_n rfl (WL_n rfl (WL_n rfl (sE rfl (nl J ?_))))))
   refine J2 _ _ (by repeat first | exact .refl | refine .cons rfl ?_) ⟨_, s0, ?s11, rfl⟩
   case s11 => exact congrArg Value.bool (nor_f h4)
 ·skip
  rintro g6 M ⟨hg11, rfl⟩
  simp only [setG, hg11]
  clear hg11
  rcases bt (!a.1.good || ((((dl (val a.1.w)).length : Nat) : Int) == 0)) with h7 | h7
  ·skip
   refine W_t h7 rfl (Rs fun K J => sE rfl (nl J (W_ret (af_ (ret1 rfl (.inr rfl) rfl ?_)))))
   exact (by exact congrArg (fun r : W => (.int .i64 r.1 : Value)) (show _ = (cx_ a) from bif_t h7 rfl))
  ·skip
   refine W_f h7 rfl (ah_ (J1 _ _ (Sq fun K3 J3 => Rs fun K J => sQ (qF bz_ rfl rfl) rfl (sQ (qC ty_4 rfl m0 rfl) rfl (nl J ?_)))))
   rcases bt a.1.neg with h8 | h8
   ·skip
    refine W_t h8 rfl (Rs fun K J => sE rfl (nl J (W_ret (af_ (ret1 rfl (.inr rfl) rfl ?_)))))
    exact (by exact congrArg (fun r : W => (.int .i64 r.1 : Value)) (show _ = (cx_ a) from bif_f h7 (bif_t h8 rfl)))
   ·skip
    refine W_f h8 rfl (ah_ (J3 _ _ (Rs fun K J => sE rfl (nl J (W_ret (ret1 rfl (.inr rfl) rfl ?_))))))
    exact (by exact congrArg (fun r : W => (.int .i64 r.1 : Value)) (show _ = (cx_ a) from bif_f h7 (bif_f h8 rfl)))
theorem do_ (a : R) (ha : a.Ok) : Ret Tryz.prog 40 [RV a] (.int .i64 a.dec.sign) := by
  have h := fo_ ⟨a, ha⟩
  rw [ff_] at h
  exact h

theorem fx_ (a : I) (b : I) :
    Ret Tryz.prog 78 [AV [pI a], AV [pI b]] (AV [pI (ck_ a b)]) := by
 refine az_ (N := 76) Tryz.func78 rfl rfl (by simp) (fun w0 => ?_)
 simp only [initF, Nat.reduceAdd]
 refine Rs fun K J => WL_r rfl (bl_ rfl rfl (fun b1 hb1 => WL_r rfl (bl_ rfl rfl (fun b2 hb2 => sN zp_37 rfl fun b3 hb3 => nl J (Rs fun K J => sQ (qL ty_37 rfl m2 rfl) rfl (sC (.tuple #[.int .i64 ((wordW a).1), .bool (wordB a.1)]) en_88 (cT_ a.1 a.2) rfl rfl rfl (sE rfl (sE rfl (sE rfl (sE rfl (sE rfl (nl J (Rs fun K J => sQ (qL ty_37 rfl m1 rfl) rfl (sC (.tuple #[.int .i64 ((wordW b).1), .bool (wordB b.1)]) en_88 (cT_ b.1 b.2) rfl rfl rfl (sE rfl (sE rfl (sE rfl ?_)))))))))))))))))
 refine sE rfl (sE rfl (nl J (Sq fun K1 J1 => ?_)))
 refine b3_ [21, 22, 23, 24, 25, 26, 27, 28] (fun g M => (g 28 = .bool ((wordB a.1) && ((wordB b.1) && ((wordW b).1 != 0)))) ∧ M = [⟨b3, 37, flat [pI I0]⟩, ⟨b2, 37, flat [pI b]⟩, ⟨b1, 37, flat [pI a]⟩]) (fun K2 J2 => ?_) ?_
 ·skip
  refine Rk fun K J => sE rfl ?_
  rcases bt (wordB a.1) with h6 | h6
  ·skip
   refine sB h6 rfl (sE rfl (sE rfl ?_))
   rcases bt (wordB b.1) with h7 | h7
   ·skip
    refine sB h7 rfl (sE rfl (sE rfl (sE rfl (nl J ?_))))
    refine J2 _ _ (by repeat first | exact .refl | refine .cons rfl ?_) ⟨_, s0, ?s28, rfl⟩
    case s28 => exact congrArg Value.bool (and_t h6 (and_t h7 rfl))
   ·skip
    refine sB h7 rfl (WL_n rfl (WL_n rfl (sE rfl (nl J ?_))))
    refine J2 _ _ (by repeat first | exact .refl | refine .cons rfl ?_) ⟨_, s0, ?s28, rfl⟩
    case s28 => exact congrArg Value.bool (and_t h6 (and_f h7))
  ·skip
   refine sB h6 rfl (WL_n rfl (sE rfl (sE rfl (WL_n rfl (WL_n rfl (sE rfl (nl J ?_)))))))
   refine J2 _ _ (by repeat first | exact .refl | refine .cons rfl ?_) ⟨_, s0, ?s28, rfl⟩
   case s28 => exact congrArg Value.bool (and_f h6)
 ·skip
  rintro g8 M ⟨hg28, rfl⟩
  simp only [setG, hg28]
  clear hg28
  rcases bt ((wordB a.1) && ((wordB b.1) && ((wordW b).1 != 0))) with h9 | h9
  ·skip
   refine W_t h9 rfl (Rs fun K J => sE rfl (sE rfl ?_))
   have hfl := oR_ h9
   refine sC (.int .i64 ((W.fdiv (wordW a) (wordW b)).1)) en_89 (fc_ (wordW a).1 (wordW b).1 (wordW a).2 hfl.1 hfl.2.1) rfl rfl (congrArg (Value.int .i64) hfl.2.2) (sC (AV [pI (E (Z.of (W.fdiv (wordW a) (wordW b)).1))]) en_74 (cw_ (W.fdiv (wordW a) (wordW b)).1 (W.fdiv (wordW a) (wordW b)).2) rfl rfl rfl (sS [pI (E (Z.of (W.fdiv (wordW a) (wordW b)).1))] ty_37 rfl rfl rfl rfl rfl (.head _) rfl hb3 (nl J (W_ret (af_ (ret1 rfl (.inr rfl) (resP rfl m0 ty_37 rfl) ?_))))))
   exact (by exact congrArg (fun r : I => (AV [pI r] : Value)) (show _ = (ck_ a b) from bif_t h9 rfl))
  ·skip
   refine W_f h9 rfl (ah_ (J1 _ _ (Sq fun K3 J3 => ?_)))
   refine b3_ [33, 34, 35, 36, 37, 38, 39, 40, 41, 42, 43, 44, 45, 46] (fun g M => (g 46 = .bool (!a.1.good || (!b.1.good || ((((dl (val b.1.w)).length : Nat) : Int) == 0)))) ∧ M = [⟨b3, 37, flat [pI I0]⟩, ⟨b2, 37, flat [pI b]⟩, ⟨b1, 37, flat [pI a]⟩]) (fun K4 J4 => ?_) ?_
   ·skip
    refine Rk fun K J => sQ (qL ty_37 rfl m2 rfl) rfl (sC (.bool a.1.good) en_86 (aQ_ a.1 a.2) rfl rfl rfl (sE rfl ?_))
    rcases bt a.1.good with h13 | h13
    ·skip
     refine sB (not_f h13) rfl (sQ (qL ty_37 rfl m1 rfl) rfl (sC (.bool b.1.good) en_86 (aQ_ b.1 b.2) rfl rfl rfl (sE rfl (sE rfl ?_))))
     rcases bt b.1.good with h14 | h14
     ·skip
      refine sB (not_f h14) rfl (sQ (qL ty_37 rfl m1 rfl) rfl (WL_r rfl (cJ_ en_87 rfl (fun w hw => a0_ b.1 b.2 w) (fun vl15 Ll15 kl15 => ?_))))
      try simp only [dv_dl, gY_] at kl15
      refine sQ (q_as (v' := .int .i64 (((dl (val b.1.w)).length : Nat) : Int)) (dB_ sl_81 rfl (SL.sub kl15.sl (List.sublist_append_left _ _))) rfl) rfl (sE rfl (sE rfl (nl J ?_)))
      refine J4 _ _ (by repeat first | exact .refl | refine .cons rfl ?_) ⟨_, (sR (s0)), ?s46, rfl⟩
      case s46 => exact congrArg Value.bool (nor_t h13 (nor_t h14 rfl))
     ·skip
      refine sB (not_t h14) rfl (WL_n rfl (WL_n rfl (WL_n rfl (WL_n rfl (sE rfl (nl J ?_))))))
      refine J4 _ _ (by repeat first | exact .refl | refine .cons rfl ?_) ⟨_, s0, ?s46, rfl⟩
      case s46 => exact congrArg Value.bool (nor_t h13 (nor_f h14))
    ·skip
     refine sB (not_t h13) rfl (WL_n rfl (WL_n rfl (WL_n rfl (sE rfl (sE rfl (WL_n rfl (WL_n rfl (WL_n rfl (WL_n rfl (sE rfl (nl J ?_)))))))))))
     refine J4 _ _ (by repeat first | exact .refl | refine .cons rfl ?_) ⟨_, s0, ?s46, rfl⟩
     case s46 => exact congrArg Value.bool (nor_f h13)
   ·skip
    rintro g16 M ⟨hg46, rfl⟩
    simp only [setG, hg46]
    clear hg46
    rcases bt (!a.1.good || (!b.1.good || ((((dl (val b.1.w)).length : Nat) : Int) == 0))) with h17 | h17
    ·skip
     refine W_t h17 rfl (Rs fun K J => sC (AV [pI (E Z.bad)]) en_90 bw_ rfl rfl rfl (sS [pI (E Z.bad)] ty_37 rfl rfl rfl rfl rfl (.head _) rfl hb3 (nl J (W_ret (af_ (ret1 rfl (.inr rfl) (resP rfl m0 ty_37 rfl) ?_))))))
     exact (by exact congrArg (fun r : I => (AV [pI r] : Value)) (show _ = (ck_ a b) from bif_f h9 (bif_t h17 rfl)))
    ·skip
     refine W_f h17 rfl (ah_ (J3 _ _ (ds sn [0,8,5,13,17,20,24,28,32,36] [] mix (by kernel_rfl) (fun K J => pQ rfl (qL ty_37 rfl m2 rfl) (pQ rfl (qL ty_37 rfl m1 rfl) (PL_o rfl rfl (cJ_ en_87 rfl (fun w hw => a0_ a.1 a.2 w) (fun vl18 Ll18 kl18 => ⟨(fun _ => sR s0), sn, ?_⟩))))))))
     try simp only [dv_dl, gY_] at kl18
     refine PL_o rfl rfl (cJ_ en_87 rfl (fun w hw => a0_ b.1 b.2 w) (fun vl19 Ll19 kl19 => ⟨(fun _ => sR s0), sn, ?_⟩))
     try simp only [dv_dl, gY_] at kl19
     have hB := hB_of h17
     refine PL_o rfl rfl (hc_ en_91 rfl (fun w hw => c8_ vl18 vl19 (val a.1.w) (val b.1.w) hB (Nat.le_trans (ed_ (k := 32) (lt32 a.2)) (by decide)) (Nat.le_trans (ed_ (k := 32) (lt32 b.2)) (by decide)) w (SL.sl (SL.sub kl18.sl (sR (List.sublist_append_left _ _))) hw) (SL.sl (SL.sub kl19.sl (List.sublist_append_left _ _)) hw)) (fun vl20_0 vl20_1 Ll20 kl20_0 kl20_1 => ⟨(fun _ => sR s0), sn, ?_⟩))
     try simp only [dv_dl, gY_] at kl20_0 kl20_1
     refine pE rfl (pE rfl (pE rfl (pE rfl (pE rfl (fl J (Sq fun K5 J5 => ?_))))))
     refine b3_ [56, 57, 58, 59, 60, 61, 62, 63, 64, 65] (fun g M => (g 65 = .bool ((a.1.neg != b.1.neg) && decide (0 < (((dl ((val a.1.w) % (val b.1.w))).length : Nat) : Int)))) ∧ M = (Ll20 ++ (Ll19 ++ (Ll18 ++ (⟨b3, 37, flat [pI I0]⟩ :: (⟨b2, 37, flat [pI b]⟩ :: (⟨b1, 37, flat [pI a]⟩ :: []))))))) (fun K6 J6 => ?_) ?_
     ·skip
      refine Rk fun K J => sQ (qF bz_ rfl rfl) rfl (sQ (qC ty_4 rfl (List.mem_append_right _ (List.mem_append_right _ (List.mem_append_right _ (List.mem_cons_of_mem _ (List.mem_cons_of_mem _ (List.mem_cons_self)))))) rfl) rfl (sQ (qF bz_ rfl rfl) rfl (sQ (qC ty_4 rfl (List.mem_append_right _ (List.mem_append_right _ (List.mem_append_right _ (List.mem_cons_of_mem _ (List.mem_cons_self))))) rfl) rfl (sQ (q_as (v' := .bool (a.1.neg != b.1.neg)) (fV_ bo_4 rfl rfl) rfl) rfl ?_))))
      rcases bt (a.1.neg != b.1.neg) with h22 | h22
      ·skip
       refine sB h22 rfl (sE rfl (sQ (q_as (v' := .int .i64 (((dl ((val a.1.w) % (val b.1.w))).length : Nat) : Int)) (dB_ sl_81 rfl (SL.sub kl20_1 (List.sublist_append_left _ _))) rfl) rfl (sE rfl (sE rfl (nl J ?_)))))
       refine J6 _ _ (by repeat first | exact .refl | refine .cons rfl ?_) ⟨_, s0, ?s65, rfl⟩
       case s65 => exact congrArg Value.bool (and_t h22 rfl)
      ·skip
       refine sB h22 rfl (WL_n rfl (WL_n rfl (WL_n rfl (sE rfl (nl J ?_)))))
       refine J6 _ _ (by repeat first | exact .refl | refine .cons rfl ?_) ⟨_, s0, ?s65, rfl⟩
       case s65 => exact congrArg Value.bool (and_f h22)
     ·skip
      rintro g23 M ⟨hg65, rfl⟩
      simp only [setG, hg65]
      clear hg65
      rcases bt ((a.1.neg != b.1.neg) && decide (0 < (((dl ((val a.1.w) % (val b.1.w))).length : Nat) : Int))) with h24 | h24
      ·skip
       refine W_t h24 rfl (Rk fun K J => sE rfl (WL_r rfl (b6_ us_81 z_3 sz_3 rfl (by decide) rfl (gX_ 1) (fun b25 hb25 => WL_r rfl (cJ_ oA_ rfl (fun w hw => dZ_ vl20_0 _ (dl ((val a.1.w) / (val b.1.w))) [1] (dl_DL _) (DL.one (by decide)) (Nat.le_trans (ed_ (k := 32) (ddiv (lt32 a.2))) (by decide)) (by simp) w (SL.sl (SL.sub kl20_0 (sd (List.sublist_append_left _ _))) hw) (SL.sl (SL.sub (SL.mine (l := [1]) List.mem_cons_self (Nat.le_refl _)) (sk sn)) hw)) (fun vl26 Ll26 kl26 => ?_))))))
       try simp only [dv_dl, gY_] at kl26
       refine sE rfl (nl J (J5 _ _ (Rs fun K J => sQ (qF bz_ rfl rfl) rfl (sQ (qC ty_4 rfl (List.mem_append_right _ (List.mem_cons_of_mem _ (List.mem_append_right _ (List.mem_append_right _ (List.mem_append_right _ (List.mem_cons_of_mem _ (List.mem_cons_of_mem _ (List.mem_cons_self)))))))) rfl) rfl (sQ (qF bz_ rfl rfl) rfl (sQ (qC ty_4 rfl (List.mem_append_right _ (List.mem_cons_of_mem _ (List.mem_append_right _ (List.mem_append_right _ (List.mem_append_right _ (List.mem_cons_of_mem _ (List.mem_cons_self))))))) rfl) rfl (sQ (q_as (v' := .bool (a.1.neg != b.1.neg)) (fV_ bo_4 rfl rfl) rfl) rfl (sE rfl (sQ (q_as (v' := AV [pI (E (Z.of (sgn (a.1.neg != b.1.neg) (((val a.1.w) / (val b.1.w)) + 1))))]) (bM_ en_93 rfl (fun w hw => bo_ (a.1.neg != b.1.neg) vl26 (dl (((val a.1.w) / (val b.1.w)) + 1)) (dl_DL _) (Nat.le_trans (ed_ (k := 33) (dadd (k := 32) (ddiv (lt32 a.2)) (Nat.lt_of_lt_of_le (show 1 < 65536 ^ 1 by decide) (Nat.pow_le_pow_right (show 0 < 65536 by decide) (show 1 ≤ 32 by decide))))) (by decide)) w (SL.sl (SL.sub kl26.sl (List.sublist_append_left _ _)) hw))) (by rw [(dv_dl _)]; rfl)) rfl (sS [pI (E (Z.of (sgn (a.1.neg != b.1.neg) (((val a.1.w) / (val b.1.w)) + 1))))] ty_37 rfl rfl rfl rfl rfl (Upd.left (.tail _ (Upd.left (Upd.left (Upd.left (.head _) _) _) _)) _) rfl hb3 (nl J (W_ret (ret1 rfl (.inr rfl) (resP rfl (List.mem_append_right _ (List.mem_cons_of_mem _ (List.mem_append_right _ (List.mem_append_right _ (List.mem_append_right _ (List.mem_cons_self)))))) ty_37 rfl) ?_)))))))))))))
       exact (by exact congrArg (fun r : I => (AV [pI r] : Value)) (show _ = (ck_ a b) from bif_f h9 (bif_f h17 (bif_t h24 rfl))))
      ·skip
       refine W_f h24 rfl (ah_ (J5 _ _ (Rs fun K J => sQ (qF bz_ rfl rfl) rfl (sQ (qC ty_4 rfl (List.mem_append_right _ (List.mem_append_right _ (List.mem_append_right _ (List.mem_cons_of_mem _ (List.mem_cons_of_mem _ (List.mem_cons_self)))))) rfl) rfl (sQ (qF bz_ rfl rfl) rfl (sQ (qC ty_4 rfl (List.mem_append_right _ (List.mem_append_right _ (List.mem_append_right _ (List.mem_cons_of_mem _ (List.mem_cons_self))))) rfl) rfl (sQ (q_as (v' := .bool (a.1.neg != b.1.neg)) (fV_ bo_4 rfl rfl) rfl) rfl (sE rfl (sQ (q_as (v' := AV [pI (E (Z.of (sgn (a.1.neg != b.1.neg) ((val a.1.w) / (val b.1.w)))))]) (bM_ en_93 rfl (fun w hw => bo_ (a.1.neg != b.1.neg) vl20_0 (dl ((val a.1.w) / (val b.1.w))) (dl_DL _) (Nat.le_trans (ed_ (k := 32) (ddiv (lt32 a.2))) (by decide)) w (SL.sl (SL.sub kl20_0 (List.sublist_append_left _ _)) hw))) (by rw [(dv_dl _)]; rfl)) rfl (sS [pI (E (Z.of (sgn (a.1.neg != b.1.neg) ((val a.1.w) / (val b.1.w)))))] ty_37 rfl rfl rfl rfl rfl (Upd.left (Upd.left (Upd.left (.head _) _) _) _) rfl hb3 (nl J (W_ret (ret1 rfl (.inr rfl) (resP rfl (List.mem_append_right _ (List.mem_append_right _ (List.mem_append_right _ (List.mem_cons_self)))) ty_37 rfl) ?_)))))))))))))
       exact (by exact congrArg (fun r : I => (AV [pI r] : Value)) (show _ = (ck_ a b) from bif_f h9 (bif_f h17 (bif_f h24 rfl))))
theorem cV_ (a b : R) (ha : a.Ok) (hb : b.Ok) : Ret Tryz.prog 78 [RV a, RV b] (RV (Z.quo a.dec b.dec).enc) := by
  have h := fx_ ⟨a, ha⟩ ⟨b, hb⟩
  rw [fn_] at h
  exact h
end Go.Proofs.YtapbefpeopaecaaGreatDoor

