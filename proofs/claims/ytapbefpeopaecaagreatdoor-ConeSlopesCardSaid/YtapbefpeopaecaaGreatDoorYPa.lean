/- What the reference's operations on whole numbers compute is what they should. No program stands in it. Walks: what these functions return. -/
import Derived.Test.YtapbefpeopaecaaGreatDoorYGE
import Derived.Test.YtapbefpeopaecaaGreatDoorYSa
import Derived.Test.YtapbefpeopaecaaGreatDoorYSb

set_option linter.unusedVariables false
set_option linter.unusedSimpArgs false
namespace Go.Num
open Go Go.Kn
theorem bad2 {a b : I} (h : (!a.1.good || (!b.1.good)) = true) : a.1.dec.o = none ∨ b.1.dec.o = none := by
  cases ha : a.1.good
  · exact .inl (bad1 ha)
  · cases hb : b.1.good
    · exact .inr (bad1 hb)
    · rw [ha, hb] at h; cases h
theorem pr_ {a b : I} (h : (!a.1.good || (!b.1.good)) = false) : a.1.good = true ∧ b.1.good = true := by
  cases ha : a.1.good <;> cases hb : b.1.good <;> rw [ha, hb] at h <;> first | exact ⟨rfl, rfl⟩ | cases h
theorem fU_ (a : I) : dk_ a = E (Z.neg a.dec) := by
  unfold dk_
  show _ = E (Z.neg a.1.dec)
  cases h : a.1.good
  · rw [cond_false, Z.neg, gq_ (bad1 h)]
  · rw [cond_true, rP_ a.2 h]
theorem fX_ (a : I) : dj_ a = E (Z.abs a.dec) := by
  unfold dj_
  show _ = E (Z.abs a.1.dec)
  cases h : a.1.good
  · rw [cond_false, Z.abs, gq_ (bad1 h)]
  · rw [cond_true, rp_ a.2 h]
theorem fW_ (a b : I) : cq_ a b = E (Z.add a.dec b.dec) := by
  unfold cq_
  show _ = E (Z.add a.1.dec b.1.dec)
  cases hw : (wordB a.1 && wordB b.1)
  · rw [cond_false]
    cases hg : (!a.1.good || (!b.1.good))
    · obtain ⟨ga, gb⟩ := pr_ hg
      rw [cond_false]
      cases hn : (a.1.neg == b.1.neg)
      · rw [cond_false]
        have hn' : a.1.neg ≠ b.1.neg := by simpa using hn
        cases hl : decide (val a.1.w < val b.1.w)
        · rw [cond_false, rh_ a.2 b.2 ga gb hn' (of_decide_eq_false hl)]
        · rw [cond_true, r5_ a.2 b.2 ga gb hn' (of_decide_eq_true hl)]
      · rw [cond_true, pV_ a.2 b.2 ga gb (by simpa using hn)]
    · rw [cond_true, Z.add, c9_ (bad2 hg)]
  · rw [cond_true]
    rw [Bool.and_eq_true] at hw
    show E (Z.of (IntKind.i64.wrap (wordI a.1 + wordI b.1))) = _
    rw [(wadd (dc_ a.2 hw.1).2.2.2 (dc_ b.2 hw.2).2.2.2).1, n0_ a.2 b.2 hw.1 hw.2]
theorem fY_ (a b : I) : e8_ a b = E (Z.sub a.dec b.dec) := rfl
theorem fV_ (a b : I) : cZ_ a b = E (Z.mul a.dec b.dec) := by
  unfold cZ_
  show _ = E (Z.mul a.1.dec b.1.dec)
  cases hw : (wordB a.1 && (wordB b.1 && ((decide ((wordW a).1 < 2147483648) && decide (-2147483648 < (wordW a).1)) && (decide ((wordW b).1 < 2147483648) && decide (-2147483648 < (wordW b).1)))))
  · rw [cond_false]
    cases hg : (!a.1.good || (!b.1.good))
    · obtain ⟨ga, gb⟩ := pr_ hg
      rw [cond_false, rN_ a.2 b.2 ga gb]
    · rw [cond_true, Z.mul, c9_ (bad2 hg)]
  · rw [cond_true]
    rw [Bool.and_eq_true, Bool.and_eq_true, Bool.and_eq_true] at hw
    obtain ⟨h1, h2, h3, h4⟩ := hw
    show E (Z.of (IntKind.i64.wrap (wordI a.1 * wordI b.1))) = _
    rw [(wmul (x := wordI a.1) (y := wordI b.1) (mO_ h3) (mO_ h4)).1, mN_ a.2 b.2 h1 h2]
theorem len0 (n : Nat) : ((((dl n).length : Nat) : Int) == 0) = (n == 0) := by
  rw [Bool.eq_iff_iff, beq_iff_eq, beq_iff_eq]
  constructor
  · intro h; exact ly_.1 (by omega)
  · intro h; rw [ly_.2 h]; rfl
theorem fI_ (a : I) : cX_ a = Z.signW a.dec := by
  unfold cX_
  rw [len0]
  apply Subtype.ext
  show _ = a.1.dec.sign
  cases hg : a.1.good
  · simp only [Bool.not_false, Bool.true_or, cond_true]; exact g2_ a.2 (.inl hg)
  · cases hz : (val a.1.w == 0)
    · simp only [Bool.not_true, Bool.false_or, cond_false]
      rw [qw_ a.2 hg (by simpa using hz)]
      cases a.1.neg <;> rfl
    · simp only [Bool.or_true, cond_true]; exact g2_ a.2 (.inr hz)
theorem f2_ (a b : I) : bp_ a b = Z.cmpW a.dec b.dec := by
  unfold bp_
  apply Subtype.ext
  show _ = Z.cmp a.1.dec b.1.dec
  cases ga : a.1.good
  · cases gb : b.1.good
    · simp only [Bool.not_false, Bool.and_self, cond_true]; exact m9_ ga gb
    · simp only [Bool.not_true, Bool.and_false, cond_false]; exact nA_ ga b.2 gb
  · cases gb : b.1.good
    · simp only [Bool.not_true, Bool.not_false, Bool.false_and, cond_false, cond_true]; exact nC_ a.2 ga gb
    · simp only [Bool.not_true, Bool.false_and, cond_false, cond_true]
      cases hn : (a.1.neg != b.1.neg)
      · have hn' : a.1.neg = b.1.neg := by simpa using hn
        rw [cond_false]
        cases h1 : a.1.neg
        · rw [cond_false, ← nY_ a.2 b.2 ga gb hn' (val a.1.w) (val b.1.w) (by rw [h1]; exact ⟨rfl, rfl⟩)]
          by_cases h2 : val a.1.w < val b.1.w
          · simp [h2]
          · by_cases h3 : val b.1.w < val a.1.w <;> simp [h2, h3]
        · rw [cond_true, ← nY_ a.2 b.2 ga gb hn' (val b.1.w) (val a.1.w) (by rw [h1]; exact ⟨rfl, rfl⟩)]
          by_cases h2 : val b.1.w < val a.1.w
          · simp [h2]
          · by_cases h3 : val a.1.w < val b.1.w <;> simp [h2, h3]
      · rw [cond_true, ← rL_ a.2 b.2 ga gb (by simpa using hn)]
        cases a.1.neg <;> rfl
theorem fS_ (a b : I) : cI_ a b = E (Z.quo a.dec b.dec) := by
  unfold cI_
  rw [len0]
  show _ = E (Z.quo a.1.dec b.1.dec)
  cases hw : (wordB a.1 && (wordB b.1 && ((wordW b).1 != 0)))
  · rw [cond_false]
    cases hg : (!a.1.good || (!b.1.good || (val b.1.w == 0)))
    · rw [cond_false]
      simp only [Bool.or_eq_false_iff, Bool.not_eq_false', beq_eq_false_iff_ne] at hg
      obtain ⟨ga, gb, h0⟩ := hg
      cases hc : ((a.1.neg != b.1.neg) && decide ((0 : Int) < (((dl (val a.1.w % val b.1.w)).length : Nat) : Int)))
      · rw [cond_false, rB_ a.2 b.2 ga gb h0]
        rw [Bool.and_eq_false_iff] at hc
        rcases hc with hc | hc
        · exact .inl (by simpa using hc)
        · right
          have := of_decide_eq_false hc
          exact ly_.1 (by omega)
      · rw [cond_true, p8_ a.2 b.2 ga gb h0]
        · rw [Bool.and_eq_true] at hc; simpa using hc.1
        · rw [Bool.and_eq_true] at hc
          have := of_decide_eq_true hc.2
          intro h; rw [h, eo_] at this; exact absurd this (by decide)
    · rw [cond_true]
      cases ga : a.1.good
      · rw [quo_b (.inl ga)]
      · cases gb : b.1.good
        · rw [quo_b (.inr gb)]
        · rw [ga, gb] at hg
          rw [quo_0 a.2 b.2 ga gb (by simpa using hg)]
  · rw [cond_true]
    have hf := kV_ hw
    rw [Bool.and_eq_true, Bool.and_eq_true] at hw
    rw [← hf.2.2]
    exact congrArg E (mR_ a.2 b.2 hw.1 hw.2.1 hf.2.1)
end Go.Num

namespace Go.Proofs.YtapbefpeopaecaaGreatDoor
open Go.Kn Go.Num
set_option linter.unusedVariables false
set_option linter.unusedSimpArgs false
set_option maxRecDepth 20000
set_option maxHeartbeats 8000000
theorem c3_ (va vb : Value) (A B : Nat) (hB : 0 < B) (hna : (dl A).length ≤ 190) (hnb : (dl B).length ≤ 190) (w : World) (hva : Sl w va (dl A)) (hvb : Sl w vb (dl B)) :
    Calls Tryz.prog 91 [va, vb].toArray w (fun e w' => ∃ v1 v2, e = .returned (.tuple #[v1, v2]) ∧ Ext w w' ∧ Slf w.heap.size w' v1 (dl (A / B)) ∧ Slf w.heap.size w' v2 (dl (A % B))) := by
 refine i6_ (N := 84) Tryz.func91 rfl rfl (by simp) ?_
 obtain ⟨w0, rfl⟩ : ∃ w0, w0 = w := ⟨_, rfl⟩
 simp only [initF, Nat.reduceAdd]
 have hn0 : 1 ≤ (dl B).length := Nat.pos_of_ne_zero (fun hc => by rw [ly_] at hc; omega)
 obtain ⟨tp, htp⟩ : ∃ tp, tp = (dg B ((dl B).length - 1) * 65536 + atD (dl B) (((dl B).length : Int) - 2)) := ⟨_, rfl⟩
 refine Sq fun K1 J1 => Rk fun K J => sE rfl (sE rfl (nl J (J1 _ _ (Sq fun K2 J2 => Rk fun K J => sE rfl (sQ (dX_ sl_81 rfl hva.old) rfl (WL_r rfl (px_ us_81 on_3 z_3 rfl rfl (by omega) (fun b15 hb15 => sE rfl (nl J (J2 _ _ (Sq fun K3 J3 => Rk fun K J => sE rfl (sQ (dX_ sl_81 rfl hvb.old) rfl (sE rfl (nl J ?_))))))))))))))
 refine J3 _ _ (Sq fun K4 J4 => dr sn [0,4,8,12,16,20,24,28,32,36,40,44] [] mix (by kernel_rfl) (fun K J => pE rfl (pE rfl (pQ rfl (q_as (q_sub rfl rfl) (congrArg (Value.int .i64) (eV_ (b := 1) rfl (by omega) (by omega)))) (pQ rfl (ha_ sl_81 rfl rfl hvb.old (by omega)) (pQ rfl (q_as (fC_ ty_3 rfl hvb.old (by omega)) (congrArg IV (h5_ B _))) (pE rfl (pE rfl (pE rfl (pQ rfl (q_as (q_sub rfl rfl) (congrArg (Value.int .i64) (sub_I (by omega) (by decide) (by decide)))) (pQ rfl (bU_ kK_ rfl (fun w hw => dB_ vb (dl B) _ w (SL.sl (M := _) hvb.old hw))) (pQ rfl (q_as (q_add rfl rfl) (show _ = Value.int .i64 (tp : Int) from congrArg (Value.int .i64) (by rw [htp]; exact qD_ (dg_lt _ _) (ie_ _ _)))) (pE rfl (fl J (J4 _ _ (Sq fun K5 J5 => Rk fun K J => sE rfl ?_))))))))))))))))
 refine nl J (J5 _ _ (Sq fun K6 J6 => Sq fun K7 J7 => Rk fun K J => sE rfl (sQ (dX_ sl_81 rfl hva.old) rfl (sE rfl (sE rfl (nl J (J7 _ _ (ar_ ?_))))))))
 refine bN_ [9, 10, 11, 12, 32, 33, 34, 35, 36, 37, 38, 39, 40, 41, 42, 43, 44, 45, 46, 47, 48, 49, 50, 51, 52, 53, 54, 55, 56, 57, 58, 59, 60, 61, 62, 63, 64, 65, 66, 67, 68, 69, 70, 71, 72, 73, 74, 75, 76, 77, 78, 79, 80] (fun g nn M => ∃ (k R : Nat) (qs : List Nat) (vr : Value) (L : List Blk), (g 9 = vr ∧ g 10 = .int .i64 ((k : Int) - 1)) ∧ M = L ++ [⟨b15, 3, iw qs⟩] ∧ nn = k + 0 ∧ (k ≤ (dl A).length ∧ DivIn A B (dl A).length k R qs ∧ SLf w0 L vr (dl R))) ((dl A).length) ?start ?round
 case start =>
  refine ⟨_, (List.Sublist.refl _), (dl A).length, 0, _, _, [], ⟨?a9, ?a10⟩, ?mem0, rfl, ⟨Nat.le_refl _, DivIn.start (dl_lt A), by rw [eo_]; exact SLf.none⟩⟩
  case mem0 => rfl
  case a9 => rfl
  case a10 => exact congrArg (Value.int .i64) (sub_I (by omega) (by decide) (by decide))
 case round =>
  rintro nn g M ⟨k, R, qs, vr, L, ⟨hg9, hg10⟩, rfl, hmeas, ⟨hk, hI, hr⟩⟩
  subst nn
  simp only [setG, hg9, hg10]
  clear hg9 hg10
  refine Sq fun K8 J8 => Sq fun K9 J9 => Rk fun K J => sE rfl (sE rfl (nl J (J9 _ _ ?_)))
  refine a6_ _ rfl (fun hc => ?_) (fun hc => ?_)
  ·(try simp only [decide_eq_true_eq, decide_eq_false_iff_not, beq_iff_eq, bne_iff_ne, beq_eq_false_iff_ne, bne_eq_false_iff_eq, Bool.not_eq_true', Bool.not_eq_false'] at hc)
   obtain ⟨m, rfl⟩ : ∃ m, k = m + 1 := ⟨k - 1, by omega⟩
   have hRB : R < B := by rw [hI.rest]; exact Nat.mod_lt _ hB
   have hRl : (dl R).length ≤ 190 := Nat.le_trans (dl_le (Nat.le_of_lt hRB)) hnb
   refine ak_ (J8 _ _ (Sq fun K10 J10 => ar_ (Sq fun K11 J11 => Rk fun K J => sE rfl (sQ (q_as (c5_ rfl) (congrArg (Value.int .i64) (show (((m + 1 : Nat) : Int) - 1) = (m : Int) by omega))) rfl (sQ (ha_ sl_81 rfl rfl hva.old (by omega)) rfl (sQ (q_as (fC_ ty_3 rfl hva.old (by omega)) (congrArg IV (h5_ A m))) rfl (WL_r rfl (cv_ us_81 z_3 sz_3 rfl (by decide) rfl (hv_ _) (fun b40 hb40 => sE rfl ?_)))))))))
   have hC8 := mG_ (R := R) (dg_lt A m)
   refine WL_r rfl (hg_ us_81 on_3 rfl rfl (OwnL.of_mine (l := [dg A m]) hb40 (show 1 ≤ maxLen by decide)) (hr.sl.sub (.cons _ (List.sublist_append_left _ _))) (List.Sublist.refl _) (by simp only [List.length_singleton]; omega) (fun v8 L8 hO8 => ?_))
   refine sQ (bU_ ii_ rfl (fun w hw => ci_ v8 ([dg A m] ++ dl R) hC8.1 (by simp only [List.length_append, List.length_singleton]; omega) w (SL.sl (hO8.sl (List.sublist_append_left _ _)) hw))) rfl ?_
   refine sE rfl (nl J ?_)
   have hC8 := mG_ (R := R) (dg_lt A m)
   have hr8 := fx_ hC8.1 hC8.2 (hO8.slf (List.Sublist.refl _))
   generalize sls v8 (dl (dv ([dg A m] ++ dl R))).length = vr8 at hr8 ⊢
   have hR8 : (R * 65536 + dg A m) < 65536 * B := by have := dg_lt A m; omega
   obtain ⟨nm, hnm⟩ : ∃ nm, nm = (atD (dl (R * 65536 + dg A m)) ((dl B).length : Int) * 4294967296 + atD (dl (R * 65536 + dg A m)) (((dl B).length : Int) - 1) * 65536 + atD (dl (R * 65536 + dg A m)) (((dl B).length : Int) - 2)) := ⟨_, rfl⟩
   obtain ⟨d0, hd0⟩ : ∃ d0, d0 = min 65535 (nm / tp) := ⟨_, rfl⟩
   have G8 : 0 < tp ∧ (R * 65536 + dg A m) / B ≤ d0 ∧ d0 ≤ 65535 := by rw [hd0, hnm, htp]; have hg := oh_ hB hR8 rfl hn0; exact ⟨hg.1, hg.2, Nat.min_le_left _ _⟩
   have hl8 : (dl (R * 65536 + dg A m)).length ≤ 192 := Nat.le_trans (cB_ (k := (dl B).length + 1) (by have := dl_lt B; rw [Nat.pow_succ]; omega)) (by omega)
   refine J11 _ _ (Sq fun K12 J12 => Rk fun K J => sE rfl (sE rfl (sQ (bU_ kK_ rfl (fun w hw => dB_ _ (dl (R * 65536 + dg A m)) _ w (SL.sl (M := _) (hr8.sl.sub (List.sublist_append_left _ _)) hw))) rfl (sE rfl (sE rfl (sE rfl (sQ (q_as (q_sub rfl rfl) (congrArg (Value.int .i64) (sub_I (by omega) (by decide) (by decide)))) rfl (sQ (bU_ kK_ rfl (fun w hw => dB_ _ (dl (R * 65536 + dg A m)) _ w (SL.sl (M := _) (hr8.sl.sub (List.sublist_append_left _ _)) hw))) rfl (sE rfl (sE rfl (sE rfl (sE rfl (sQ (q_as (q_sub rfl rfl) (congrArg (Value.int .i64) (sub_I (by omega) (by decide) (by decide)))) rfl (sQ (bU_ kK_ rfl (fun w hw => dB_ _ (dl (R * 65536 + dg A m)) _ w (SL.sl (M := _) (hr8.sl.sub (List.sublist_append_left _ _)) hw))) rfl (sQ (q_as (q_add rfl rfl) (show _ = Value.int .i64 (nm : Int) from congrArg (Value.int .i64) (by rw [hnm]; exact qj_ (ie_ _ _) (ie_ _ _) (ie_ _ _)))) rfl (sE rfl (sQ (q_as (q_quo rfl rfl (fun hc => Nat.lt_irrefl 0 (Nat.lt_of_lt_of_eq G8.1 (Int.natCast_eq_zero.1 hc)))) (congrArg (Value.int .i64) (lu_ (by rw [hnm]; exact rl_ _ _ _ _)))) rfl ?_)))))))))))))))))
   refine sQ (q_as (pz_ (a := 65535) rfl rfl) (congrArg (fun n : Nat => Value.int .i64 (n : Int)) hd0.symm)) rfl (sE rfl (nl J (J12 _ _ (Sq fun K13 J13 => Rk fun K J => sE rfl (sE rfl (WL_r rfl (cv_ us_81 z_3 sz_3 rfl (by decide) rfl (hv_ _) (fun b64 hb64 => WL_r rfl (bP_ pw_ rfl (fun w hw => eq_ vb _ (dl B) [d0] (dl_DL B) (DL.one (by omega)) (by omega) (by simp) w (SL.sl (M := _) hvb.old hw) (SL.sl (SL.mine (l := [d0]) (.head _) (Nat.le_refl _)) hw)) (fun vp0 Lp0 hp0 => ?_))))))))))
   refine sE rfl (nl J (J13 _ _ (Sq fun K14 J14 => ar_ ?_)))
   refine bN_ [11, 12, 66, 67, 68, 69, 70, 71, 72, 73] (fun g nn M => ∃ (d : Nat) (vp : Value) (Lp : List Blk), (g 11 = .int .i64 (d : Int) ∧ g 12 = vp) ∧ M = Lp ++ (L8 ++ (L ++ [⟨b15, 3, iw qs⟩])) ∧ nn = d ∧ (((R * 65536 + dg A m) / B ≤ d ∧ d ≤ 65535) ∧ SLf w0 Lp vp (dl (B * d)))) (d0) ?start ?round
   case start =>
    refine ⟨_, (List.Sublist.append (List.Sublist.refl _) (List.Sublist.cons _ (List.Sublist.refl _))), d0, vp0, Lp0, ⟨?a11, ?a12⟩, ?mem0, rfl, ⟨⟨G8.2.1, G8.2.2⟩, by have := hp0; rw [dv_dl] at this; simpa [dv] using this⟩⟩
    case mem0 => rfl
    case a11 => rfl
    case a12 => rfl
   case round =>
    rintro nn g M ⟨d, vp, Lp, ⟨hg11, hg12⟩, rfl, hmeas, ⟨hd, hp⟩⟩
    subst nn
    simp only [setG, hg11, hg12]
    clear hg11 hg12
    have hpl : (dl (B * d)).length ≤ 195 := Nat.le_trans (cB_ (k := (dl B).length + 1) (by have := dl_lt B; have h1 := Nat.mul_le_mul_left B hd.2; rw [Nat.pow_succ]; omega)) (by omega)
    refine Sq fun K15 J15 => Sq fun K16 J16 => Rk fun K J => sE rfl (sE rfl (sQ (bU_ iQ_ rfl (fun w hw => cE_ _ vp (dl (R * 65536 + dg A m)) (dl (B * d)) (dl_DL _) (dl_DL _) (by omega) (by omega) w (SL.sl (hr8.sl.sub (.trans (List.sublist_append_left _ _) (List.sublist_append_right _ _))) hw) (SL.sl (hp.sl.sub (List.sublist_append_left _ _)) hw))) rfl (nl J (J16 _ _ ?_))))
    refine a6_ _ rfl (fun h68 => ?_) (fun h68 => ?_)
    ·(try simp only [decide_eq_true_eq, decide_eq_false_iff_not, beq_iff_eq, bne_iff_ne, beq_eq_false_iff_ne, bne_eq_false_iff_eq, Bool.not_eq_true', Bool.not_eq_false'] at h68)
     rw [dv_dl, dv_dl] at h68
     have hless := oC_ hB hd.1 h68
     refine ak_ (J15 _ _ (ar_ (Sq fun K17 J17 => Rk fun K J => sE rfl (sQ (q_as (q_sub rfl rfl) (congrArg (Value.int .i64) (eV_ (b := 1) rfl hless.1 (by omega)))) rfl (sE rfl (nl J (J17 _ _ (Rk fun K J => sE rfl (sE rfl (WL_r rfl (bP_ en_92 rfl (fun w hw => cT_ vp vb (dl (B * d)) (dl B) (dl_DL _) (dl_DL _) (by omega) (by omega) (by rw [dv_dl, dv_dl]; exact hless.2.2.1) w (SL.sl (hp.sl.sub (List.sublist_append_left _ _)) hw) (SL.sl (M := _) hvb.old hw)) (fun vp2 Lp2 hp2 => sE rfl (nl J ?_)))))))))))))
     refine ⟨(by repeat first | exact .refl | refine .cons rfl ?_), _, _, (List.Sublist.append (List.Sublist.refl _) (List.sublist_append_right _ _)), (by have := hless.1; omega), d - 1, vp2, Lp2, ⟨?s11, ?s12⟩, ?mem, rfl, ⟨⟨hless.2.1, by omega⟩, by rw [dv_dl, dv_dl, hless.2.2.2] at hp2; exact hp2⟩⟩
     case mem => rfl
     case s11 => rfl
     case s12 => rfl
    ·(try simp only [decide_eq_true_eq, decide_eq_false_iff_not, beq_iff_eq, bne_iff_ne, beq_eq_false_iff_ne, bne_eq_false_iff_eq, Bool.not_eq_true', Bool.not_eq_false'] at h68)
     rw [dv_dl, dv_dl] at h68
     have hdone := oe_ hB hd.1 h68
     refine bB_ (ax_ (ax_ (aF_ (J14 _ _ (Sq fun K18 J18 => Rk fun K J => sE rfl (sQ (q_as (c5_ rfl) (congrArg (Value.int .i64) (show (((m + 1 : Nat) : Int) - 1) = (m : Int) by omega))) rfl (sE rfl (sQ (hW_ sl_81 rfl rfl (by omega) (by omega)) rfl (WL_r rfl (i2_ ty_3 rfl rfl (Upd.left (Upd.left (Upd.left (.head _) _) _) _) (by rw [hI.len]; omega) (.inl (by assumption)) (nl J (J18 _ _ (Rk fun K J => sE rfl (sE rfl (WL_r rfl (bP_ en_92 rfl (fun w hw => cT_ _ vp (dl (R * 65536 + dg A m)) (dl (B * d)) (dl_DL _) (dl_DL _) (by omega) (by omega) (by rw [dv_dl, dv_dl]; exact hdone.2.2) w (SL.sl (hr8.sl.sub (.trans (List.sublist_append_left _ _) (List.sublist_append_right _ _))) hw) (SL.sl (hp.sl.sub (List.sublist_append_left _ _)) hw)) (fun vr2 Lr2 hr2 => sE rfl (nl J (J10 _ _ (Rk fun K J => sQ (q_as (c5_ rfl) (congrArg (Value.int .i64) (show (((m + 1 : Nat) : Int) - 1) = (m : Int) by omega))) rfl ?_))))))))))))))))))))
     refine sE rfl (sE rfl (nl J ?_))
     refine ⟨(by repeat first | exact .refl | refine .cons rfl ?_), _, _, (List.Sublist.append (List.Sublist.refl _) (.trans (List.sublist_append_right _ _) (.trans (List.sublist_append_right _ _) (List.sublist_append_right _ _)))), (by omega), m, ((R * 65536 + dg A m) % B), qs.set m d, vr2, Lr2, ⟨?s9, ?s10⟩, ?mem, rfl, ⟨by omega, by rw [hdone.1]; exact hI.step hB (by omega), by rw [dv_dl, dv_dl, hdone.2.1] at hr2; exact hr2⟩⟩
     case mem => rfl
     case s9 => rfl
     case s10 => exact congrArg (Value.int .i64) (aN_ (n := (m : Int) - 1) (by unfold I64; omega))
  ·(try simp only [decide_eq_true_eq, decide_eq_false_iff_not, beq_iff_eq, bne_iff_ne, beq_eq_false_iff_ne, bne_eq_false_iff_eq, Bool.not_eq_true', Bool.not_eq_false'] at hc)
   obtain rfl : k = 0 := by omega
   refine bB_ (ax_ (ax_ (aF_ (J6 _ _ (Sq fun K19 J19 => Rk fun K J => sE rfl (sQ (bU_ ii_ rfl (fun w hw => ci_ _ qs hI.ok (by rw [hI.len]; omega) w (SL.sl (SL.mine' (List.mem_append_right _ (.head _)) hI.len (Nat.le_refl _)) hw))) rfl (sE rfl (sE rfl (sE rfl (nl J (J19 _ _ (W_ret (ret2 rfl (.inr rfl) rfl rfl ?_)))))))))))))
   exact ⟨_, _, rfl, fx_ hI.ok hI.fin.1 (SLf.mine hb15 (List.mem_append_right _ (.head _)) hI.len (Nat.le_refl _)), by rw [hI.fin.2] at hr; exact hr.sub (List.sublist_append_left _ _)⟩
end Go.Proofs.YtapbefpeopaecaaGreatDoor

