/- Walks: what these functions return. -/
import Derived.Test.YtjdfogfmeibkgaaGreatQGE
import Derived.Test.YtjdfogfmeibkgaaGreatQFp
import Derived.Test.YtjdfogfmeibkgaaGreatQWi
import Derived.Test.YtjdfogfmeibkgaaGreatQGf
import Derived.Test.YtjdfogfmeibkgaaGreatQWa
import Derived.Test.YtjdfogfmeibkgaaGreatQWc
import Derived.Test.YtjdfogfmeibkgaaGreatQYb
import Derived.Test.YtjdfogfmeibkgaaGreatQYc
import Derived.Test.YtjdfogfmeibkgaaGreatQYf
import Derived.Test.YtjdfogfmeibkgaaGreatQYg
import Derived.Test.YtjdfogfmeibkgaaGreatQYr
import Derived.Test.YtjdfogfmeibkgaaGreatQYs
namespace Go.Proofs.YtjdfogfmeibkgaaGreat
open Go.Kn Go.Num
set_option linter.unusedVariables false
set_option linter.unusedSimpArgs false
set_option maxRecDepth 20000
set_option maxHeartbeats 8000000
theorem bV_  :
    Ret Tryz.prog 14 [] (.bool aI_) := by
 refine aM_ (N := 180) Tryz.func14 rfl rfl (by simp) (fun w0 => ?_)
 simp only [initF, Nat.reduceAdd]
 obtain ⟨q0, hq0⟩ := nm ((bc_ [(wl 1), (wl 1)]) : (List I))
 obtain ⟨q1, hq1⟩ := nm ((bc_ [(wl (-1)), (wl 1)]) : (List I))
 obtain ⟨q2, hq2⟩ := nm ((aa_ q0 q1) : (List I))
 obtain ⟨q3, hq3⟩ := nm ((eN_ (wl 1) (wl 2)) : Rt)
 obtain ⟨q4, hq4⟩ := nm ((aw_ [(wl (-1)), (wl 0), (wl 1)]) : (List I))
 obtain ⟨q5, hq5⟩ := nm ((ai_ q2 q4) : Bool)
 obtain ⟨q6, hq6⟩ := nm ((ad_ q2) : (List I))
 obtain ⟨q7, hq7⟩ := nm ((aw_ [(wl 0), (wl 2)]) : (List I))
 obtain ⟨q8, hq8⟩ := nm ((ai_ q6 q7) : Bool)
 obtain ⟨q9, hq9⟩ := nm ((bc_ [(wl 1), (wl 0), (wl 4)]) : (List I))
 obtain ⟨q10, hq10⟩ := nm ((dY_ q9 q3) : Rt)
 obtain ⟨q11, hq11⟩ := nm ((cu_ (wl 2)) : Rt)
 obtain ⟨q12, hq12⟩ := nm ((cu_ (wl (-3))) : Rt)
 obtain ⟨q13, hq13⟩ := nm ((dY_ q9 q12) : Rt)
 obtain ⟨q14, hq14⟩ := nm ((cu_ (wl 37)) : Rt)
 obtain ⟨q15, hq15⟩ := nm ((aw_ [(wl 5)]) : (List I))
 obtain ⟨q16, hq16⟩ := nm ((bc_ [(wl 1), (wl 0), (wl 1)]) : (List I))
 obtain ⟨q17, hq17⟩ := nm ((bc_ [(wl 1), (wl 2)]) : (List I))
 obtain ⟨q18, hq18⟩ := nm ((ao_ q16 q17) : (List I))
 obtain ⟨q19, hq19⟩ := nm ((ai_ q18 q15) : Bool)
 obtain ⟨q20, hq20⟩ := nm ((bc_ [(wl 1), (wl (-2))]) : (List I))
 obtain ⟨q21, hq21⟩ := nm ((ao_ q16 q20) : (List I))
 obtain ⟨q22, hq22⟩ := nm ((ai_ q21 q15) : Bool)
 obtain ⟨q23, hq23⟩ := nm ((bc_ [(wl (-4)), (wl 6)]) : (List I))
 obtain ⟨q24, hq24⟩ := nm ((ab_ q23) : (List I))
 obtain ⟨q25, hq25⟩ := nm ((aw_ [(wl (-2)), (wl 3)]) : (List I))
 obtain ⟨q26, hq26⟩ := nm ((ai_ q24 q25) : Bool)
 obtain ⟨q27, hq27⟩ := nm ((bc_ [(wl (-1)), (wl 0), (wl 1)]) : (List I))
 obtain ⟨q28, hq28⟩ := nm ((bc_ [(wl 2), (wl (-2))]) : (List I))
 obtain ⟨q29, hq29⟩ := nm ((ac_ q27 q28) : (List I))
 obtain ⟨q30, hq30⟩ := nm ((aw_ [(wl (-1)), (wl 1)]) : (List I))
 obtain ⟨q31, hq31⟩ := nm ((ai_ q29 q30) : Bool)
 obtain ⟨q32, hq32⟩ := nm ((bc_ [(wl 0), (wl 0), (wl 3), (wl 3)]) : (List I))
 obtain ⟨q33, hq33⟩ := nm ((af_ q32) : (List I))
 obtain ⟨q34, hq34⟩ := nm ((aw_ [(wl 0), (wl 1), (wl 1)]) : (List I))
 obtain ⟨q35, hq35⟩ := nm ((ai_ q33 q34) : Bool)
 obtain ⟨q36, hq36⟩ := nm ((bc_ [(wl 0), (wl 0), (wl 1)]) : (List I))
 obtain ⟨q37, hq37⟩ := nm ((cu_ (wl 1)) : Rt)
 obtain ⟨q38, hq38⟩ := nm ((bi_ q36 q3 q37) : (List I))
 obtain ⟨q39, hq39⟩ := nm ((aw_ [(wl 1), (wl 4), (wl 4)]) : (List I))
 obtain ⟨q40, hq40⟩ := nm ((ai_ q38 q39) : Bool)
 obtain ⟨q41, hq41⟩ := nm ((bc_ [(wl 1), (wl (-1)), (wl 0), (wl 1), (wl 1)]) : (List I))
 obtain ⟨q42, hq42⟩ := nm ((cN_ q41) : W)
 obtain ⟨q43, hq43⟩ := nm ((cu_ (wl 0)) : Rt)
 obtain ⟨q44, hq44⟩ := nm ((aW_ q36 q43 q37).1 : (List I))
 obtain ⟨q45, hq45⟩ := nm ((aW_ q36 q43 q37).2 : Bool)
 obtain ⟨q46, hq46⟩ := nm ((aW_ q27 q43 q11).1 : (List I))
 obtain ⟨q47, hq47⟩ := nm ((aW_ q27 q43 q11).2 : Bool)
 obtain ⟨q48, hq48⟩ := nm ((E (Z.of 0)) : I)
 obtain ⟨q49, hq49⟩ := nm ((E (Z.of 1)) : I)
 obtain ⟨q50, hq50⟩ := nm ((aw_ [(wl (-1)), (wl (-1)), (wl 3)]) : (List I))
 obtain ⟨q51, hq51⟩ := nm ((ai_ q46 q50) : Bool)
 obtain ⟨q52, hq52⟩ := nm ((E Z.bad) : I)
 obtain ⟨q53, hq53⟩ := nm ((ak_ [q52]) : (List I))
 obtain ⟨q54, hq54⟩ := nm ((ae_ q53) : Bool)
 obtain ⟨q55, hq55⟩ := nm ((bc_ ([] : List W)) : (List I))
 obtain ⟨q56, hq56⟩ := nm ((bZ_ q55) : W)
 refine Rs fun K J => sE rfl (nl J (Rs fun K J => WL_r rfl (az_ [[ci .i64 1], [ci .i64 1]] [ci .i64 1, ci .i64 1] us_70 z_3 sz_3 rfl (by decide) rfl rfl ⟨rfl, rfl, rfl, rfl, rfl, rfl, trivial⟩ rfl (fun b1 hb1 => WL_r rfl (an_ (E := 38) (e := elI) (l := q0) (fun v => v) en_34 rfl (fun w hw => (by rw [hq0]; exact bm_ _ [(wl 1), (wl 1)] w (SLe.ap hw (SLe.lit (e := elW) (l := [(wl 1), (wl 1)]) m0 rfl (Nat.le_of_ble_eq_true rfl) rfl)) (by first | omega | (simp only [List.length_cons, List.length_nil, and_true, true_and] <;> omega) | simp))) (fun p2 c3 L4 hF5 => ?_))))))
 have hb6 := (by rw [hq0]; exact (bk_ [(wl 1), (wl 1)]) : (q0).length ≤ 25)
 have hr7 := (by rw [hq0]; exact (bo_ [(wl 1), (wl 1)]) : Rgt q0)
 refine WL_r rfl (az_ [[ci .i64 (-1)], [ci .i64 1]] [ci .i64 (-1), ci .i64 1] us_70 z_3 sz_3 rfl (by decide) rfl rfl ⟨rfl, rfl, rfl, rfl, rfl, rfl, trivial⟩ rfl (fun b8 hb8 => WL_r rfl (an_ (E := 38) (e := elI) (l := q1) (fun v => v) en_34 rfl (fun w hw => (by rw [hq1]; exact bm_ _ [(wl (-1)), (wl 1)] w (SLe.ap hw (SLe.lit (e := elW) (l := [(wl (-1)), (wl 1)]) m0 rfl (Nat.le_of_ble_eq_true rfl) rfl)) (by first | omega | (simp only [List.length_cons, List.length_nil, and_true, true_and] <;> omega) | simp))) (fun p9 c10 L11 hF12 => ?_))))
 have hb13 := (by rw [hq1]; exact (bk_ [(wl (-1)), (wl 1)]) : (q1).length ≤ 25)
 have hr14 := (by rw [hq1]; exact (bo_ [(wl (-1)), (wl 1)]) : Rgt q1)
 refine WL_r rfl (an_ (E := 38) (e := elI) (l := q2) (fun v => v) en_31 rfl (fun w hw => (by rw [hq2]; exact cA_ _ q0 _ q1 w (SLe.ap hw (SLfe.sle (OwnG.slfe hF5 (sR (sd (List.sublist_append_left _ _)))))) (SLe.ap hw (SLfe.sle (OwnG.slfe hF12 (List.sublist_append_left _ _)))) (by first | omega | (simp only [List.length_cons, List.length_nil, and_true, true_and] <;> omega) | simp))) (fun p15 c16 L17 hF18 => ?_))
 have hb19 := (by rw [hq2]; exact (cy_ q0 q1) : (q2).length ≤ 25)
 have hr20 := (by rw [hq2]; exact (cx_ q0 q1) : Rgt q2)
 refine sE rfl (nl J (Rs fun K J => sC (AV [pI q3.n, pI q3.d]) en_63 (hV_ (wl 1) (wl 2)) rfl rfl (by rw [hq3]; first | done | rfl) ?_))
 refine sN zp_44 rfl fun b21 hb21 => sS [pI q3.n, pI q3.d] ty_44 rfl rfl rfl rfl rfl (.head _) rfl hb21 (nl J ?_)
 refine bD_ [3, 20, 21, 22, 23, 24, 25, 26, 27, 28, 29, 30] (fun g M => (g 3 = .bool (q5 && q8)) ∧ M = (⟨b21, 44, flat [pI q3.n, pI q3.d]⟩ :: (L17 ++ (L11 ++ (⟨b8, 3, flat [ci .i64 (-1), ci .i64 1]⟩ :: (L4 ++ (⟨b1, 3, flat [ci .i64 1, ci .i64 1]⟩ :: []))))))) (fun K1 J1 => ?_) ?_
 ·skip
  refine Rk fun K J => sE rfl (WL_r rfl (az_ [[ci .i64 (-1)], [ci .i64 0], [ci .i64 1]] [ci .i64 (-1), ci .i64 0, ci .i64 1] us_70 z_3 sz_3 rfl (by decide) rfl rfl ⟨rfl, rfl, rfl, rfl, rfl, rfl, rfl, rfl, rfl, trivial⟩ rfl (fun b46 hb46 => WL_r rfl (an_ (E := 38) (e := elI) (l := q4) (fun v => v) en_64 rfl (fun w hw => (by rw [hq4]; exact a8_ _ [(wl (-1)), (wl 0), (wl 1)] w (SLe.ap hw (SLe.lit (e := elW) (l := [(wl (-1)), (wl 0), (wl 1)]) m0 rfl (Nat.le_of_ble_eq_true rfl) rfl)) (by first | omega | (simp only [List.length_cons, List.length_nil, and_true, true_and] <;> omega) | simp))) (fun p47 c48 L49 hF50 => ?_)))))
  have hb51 := (by rw [hq4]; exact (a7_ [(wl (-1)), (wl 0), (wl 1)]) : (q4).length ≤ 25)
  refine sQ (q_as (v' := .bool q5) (aH_ en_17 rfl (fun w hw => (by rw [hq5]; exact ax_ _ q2 _ q4 w (SLe.ap hw (SLfe.sle (OwnG.slfe hF18 (sR (sd (sd (List.sublist_append_left _ _))))))) (SLe.ap hw (SLfe.sle (OwnG.slfe hF50 (List.sublist_append_left _ _))))))) rfl) rfl ?_
  rcases bt q5 with h52 | h52
  ·skip
   refine sB h52 rfl (sE rfl (WL_r rfl (an_ (E := 38) (e := elI) (l := q6) (fun v => v) en_33 rfl (fun w hw => (by rw [hq6]; exact eD_ _ q2 w (SLe.ap hw (SLfe.sle (OwnG.slfe hF18 (sR (sd (sd (List.sublist_append_left _ _))))))) (by first | omega | (simp only [List.length_cons, List.length_nil, and_true, true_and] <;> omega) | simp))) (fun p53 c54 L55 hF56 => ?_))))
   have hb57 := (by rw [hq6]; exact (cM_ q2) : (q6).length ≤ 25)
   refine WL_r rfl (az_ [[ci .i64 0], [ci .i64 2]] [ci .i64 0, ci .i64 2] us_70 z_3 sz_3 rfl (by decide) rfl rfl ⟨rfl, rfl, rfl, rfl, rfl, rfl, trivial⟩ rfl (fun b58 hb58 => WL_r rfl (an_ (E := 38) (e := elI) (l := q7) (fun v => v) en_64 rfl (fun w hw => (by rw [hq7]; exact a8_ _ [(wl 0), (wl 2)] w (SLe.ap hw (SLe.lit (e := elW) (l := [(wl 0), (wl 2)]) m0 rfl (Nat.le_of_ble_eq_true rfl) rfl)) (by first | omega | (simp only [List.length_cons, List.length_nil, and_true, true_and] <;> omega) | simp))) (fun p59 c60 L61 hF62 => ?_))))
   have hb63 := (by rw [hq7]; exact (a7_ [(wl 0), (wl 2)]) : (q7).length ≤ 25)
   refine sQ (q_as (v' := .bool q8) (aH_ en_17 rfl (fun w hw => (by rw [hq8]; exact ax_ _ q6 _ q7 w (SLe.ap hw (SLfe.sle (OwnG.slfe hF56 (sR (sd (List.sublist_append_left _ _)))))) (SLe.ap hw (SLfe.sle (OwnG.slfe hF62 (List.sublist_append_left _ _))))))) rfl) rfl (sE rfl (sE rfl (nl J ?_)))
   refine J1 _ _ (by repeat first | exact .refl | refine .cons rfl ?_) ⟨_, (sR (sd (sR (sR (sd (s0)))))), ?s3, rfl⟩
   case s3 => exact congrArg Value.bool (and_t h52 rfl)
  ·skip
   refine sB h52 rfl (WL_n rfl (WL_n rfl (WL_n rfl (WL_n rfl (WL_n rfl (sE rfl (sE rfl (nl J ?_))))))))
   refine J1 _ _ (by repeat first | exact .refl | refine .cons rfl ?_) ⟨_, (sR (sd (s0))), ?s3, rfl⟩
   case s3 => exact congrArg Value.bool (and_f h52)
 ·skip
  rintro g64 M ⟨hg3, rfl⟩
  simp only [setG, hg3]
  clear hg3
  refine bD_ [4, 31, 32, 33, 34, 35, 36, 37, 38, 39, 40, 41, 42, 43, 44] (fun g M => (g 4 = .bool ((decide (q10.n = q11.n) && decide (q10.d = q11.d)) && (decide (q13.n = q14.n) && decide (q13.d = q14.d)))) ∧ M = (⟨b21, 44, flat [pI q3.n, pI q3.d]⟩ :: (L17 ++ (L11 ++ (⟨b8, 3, flat [ci .i64 (-1), ci .i64 1]⟩ :: (L4 ++ (⟨b1, 3, flat [ci .i64 1, ci .i64 1]⟩ :: []))))))) (fun K2 J2 => ?_) ?_
  ·skip
   refine dr s0 [8,1,5,12,16,20,24,29,33,36,40,44,48,52,56] [] mix (by kernel_rfl) (fun K J => pQ rfl (qL ty_44 rfl m0 rfl) (PL_o rfl rfl (az_ [[ci .i64 1], [ci .i64 0], [ci .i64 4]] [ci .i64 1, ci .i64 0, ci .i64 4] us_70 z_3 sz_3 rfl (by decide) rfl rfl ⟨rfl, rfl, rfl, rfl, rfl, rfl, rfl, rfl, rfl, trivial⟩ rfl (fun b87 hb87 => ⟨(fun _ => sd s0), (sd s0), PL_o rfl rfl (an_ (E := 38) (e := elI) (l := q9) (fun v => v) en_34 rfl (fun w hw => (by rw [hq9]; exact bm_ _ [(wl 1), (wl 0), (wl 4)] w (SLe.ap hw (SLe.lit (e := elW) (l := [(wl 1), (wl 0), (wl 4)]) m0 rfl (Nat.le_of_ble_eq_true rfl) rfl)) (by first | omega | (simp only [List.length_cons, List.length_nil, and_true, true_and] <;> omega) | simp))) (fun p88 c89 L90 hF91 => ⟨(fun _ => sR s0), (sR (sd s0)), ?_⟩))⟩))))
   have hb92 := (by rw [hq9]; exact (bk_ [(wl 1), (wl 0), (wl 4)]) : (q9).length ≤ 25)
   have hr93 := (by rw [hq9]; exact (bo_ [(wl 1), (wl 0), (wl 4)]) : Rgt q9)
   refine pQ rfl (q_as (v' := AV [pI q10.n, pI q10.d]) (aH_ en_40 rfl (fun w hw => (by rw [hq10]; exact gu_ _ q9 q3 w (SLe.ap hw (SLfe.sle (OwnG.slfe hF91 (List.sublist_append_left _ _)))) (by first | omega | (simp only [List.length_cons, List.length_nil, and_true, true_and] <;> omega) | simp)))) rfl) ?_
   refine pC (AV [pI q11.n, pI q11.d]) en_58 (co_ (wl 2)) rfl rfl (by rw [hq11]; first | done | rfl) ?_
   refine pQ rfl (gd_ (r := (decide (q10.n = q11.n) && decide (q10.d = q11.d))) rfl rfl (dz_ 8 (by decide) eg_44 lw_44 (it_ lv_pI (ek_ lv_pI)) (it_ lv_pI (ek_ lv_pI)) (kI_ rfl eq_pI (fy_ eq_pI)))) ?_
   rcases bt (decide (q10.n = q11.n) && decide (q10.d = q11.d)) with h94 | h94
   ·skip
    refine pB h94 rfl (PL_o rfl rfl (az_ [[ci .i64 1], [ci .i64 0], [ci .i64 4]] [ci .i64 1, ci .i64 0, ci .i64 4] us_70 z_3 sz_3 rfl (by decide) rfl rfl ⟨rfl, rfl, rfl, rfl, rfl, rfl, rfl, rfl, rfl, trivial⟩ rfl (fun b95 hb95 => ⟨(fun _ => sd s0), (sd (sR (sd s0))), PL_o rfl rfl (an_ (E := 38) (e := elI) (l := q9) (fun v => v) en_34 rfl (fun w hw => (by rw [hq9]; exact bm_ _ [(wl 1), (wl 0), (wl 4)] w (SLe.ap hw (SLe.lit (e := elW) (l := [(wl 1), (wl 0), (wl 4)]) m0 rfl (Nat.le_of_ble_eq_true rfl) rfl)) (by first | omega | (simp only [List.length_cons, List.length_nil, and_true, true_and] <;> omega) | simp))) (fun p96 c97 L98 hF99 => ⟨(fun _ => sR s0), (sR (sd (sR (sd s0)))), ?_⟩))⟩)))
    have hb100 := (by rw [hq9]; exact (bk_ [(wl 1), (wl 0), (wl 4)]) : (q9).length ≤ 25)
    have hr101 := (by rw [hq9]; exact (bo_ [(wl 1), (wl 0), (wl 4)]) : Rgt q9)
    refine pC (AV [pI q12.n, pI q12.d]) en_58 (co_ (wl (-3))) rfl rfl (by rw [hq12]; first | done | rfl) ?_
    refine pQ rfl (q_as (v' := AV [pI q13.n, pI q13.d]) (aH_ en_40 rfl (fun w hw => (by rw [hq13]; exact gu_ _ q9 q12 w (SLe.ap hw (SLfe.sle (OwnG.slfe hF99 (List.sublist_append_left _ _)))) (by first | omega | (simp only [List.length_cons, List.length_nil, and_true, true_and] <;> omega) | simp)))) rfl) ?_
    refine pC (AV [pI q14.n, pI q14.d]) en_58 (co_ (wl 37)) rfl rfl (by rw [hq14]; first | done | rfl) ?_
    refine pQ rfl (gd_ (r := (decide (q13.n = q14.n) && decide (q13.d = q14.d))) rfl rfl (dz_ 8 (by decide) eg_44 lw_44 (it_ lv_pI (ek_ lv_pI)) (it_ lv_pI (ek_ lv_pI)) (kI_ rfl eq_pI (fy_ eq_pI)))) (pE rfl (pE rfl (fl J ?_)))
    refine J2 _ _ (by repeat first | exact .refl | refine .cons rfl ?_) ⟨_, (sR (sd (sR (sd (s0))))), ?s4, rfl⟩
    case s4 => exact congrArg Value.bool (and_t h94 rfl)
   ·skip
    refine pB h94 rfl (PL_on rfl rfl (PL_on rfl rfl (PL_n rfl rfl (PL_n rfl rfl (PL_n rfl rfl (PL_n rfl rfl (pE rfl (pE rfl (fl J ?_)))))))))
    refine J2 _ _ (by repeat first | exact .refl | refine .cons rfl ?_) ⟨_, (sR (sd (s0))), ?s4, rfl⟩
    case s4 => exact congrArg Value.bool (and_f h94)
  ·skip
   rintro g102 M ⟨hg4, rfl⟩
   simp only [setG, hg4]
   clear hg4
   refine Rs fun K J => WL_r rfl (az_ [[ci .i64 5]] [ci .i64 5] us_70 z_3 sz_3 rfl (by decide) rfl rfl ⟨rfl, rfl, rfl, trivial⟩ rfl (fun b103 hb103 => WL_r rfl (an_ (E := 38) (e := elI) (l := q15) (fun v => v) en_64 rfl (fun w hw => (by rw [hq15]; exact a8_ _ [(wl 5)] w (SLe.ap hw (SLe.lit (e := elW) (l := [(wl 5)]) m0 rfl (Nat.le_of_ble_eq_true rfl) rfl)) (by first | omega | (simp only [List.length_cons, List.length_nil, and_true, true_and] <;> omega) | simp))) (fun p104 c105 L106 hF107 => ?_))))
   have hb108 := (by rw [hq15]; exact (a7_ [(wl 5)]) : (q15).length ≤ 25)
   refine sE rfl (nl J ?_)
   refine bD_ [6, 47, 48, 49, 50, 51, 52, 53, 54, 55, 56, 57, 58, 59, 60, 61, 62] (fun g M => (g 6 = .bool (q19 && q22)) ∧ M = (L106 ++ (⟨b103, 3, flat [ci .i64 5]⟩ :: (⟨b21, 44, flat [pI q3.n, pI q3.d]⟩ :: (L17 ++ (L11 ++ (⟨b8, 3, flat [ci .i64 (-1), ci .i64 1]⟩ :: (L4 ++ (⟨b1, 3, flat [ci .i64 1, ci .i64 1]⟩ :: []))))))))) (fun K3 J3 => ?_) ?_
   ·skip
    refine Rk fun K J => WL_r rfl (az_ [[ci .i64 1], [ci .i64 0], [ci .i64 1]] [ci .i64 1, ci .i64 0, ci .i64 1] us_70 z_3 sz_3 rfl (by decide) rfl rfl ⟨rfl, rfl, rfl, rfl, rfl, rfl, rfl, rfl, rfl, trivial⟩ rfl (fun b167 hb167 => WL_r rfl (an_ (E := 38) (e := elI) (l := q16) (fun v => v) en_34 rfl (fun w hw => (by rw [hq16]; exact bm_ _ [(wl 1), (wl 0), (wl 1)] w (SLe.ap hw (SLe.lit (e := elW) (l := [(wl 1), (wl 0), (wl 1)]) m0 rfl (Nat.le_of_ble_eq_true rfl) rfl)) (by first | omega | (simp only [List.length_cons, List.length_nil, and_true, true_and] <;> omega) | simp))) (fun p168 c169 L170 hF171 => ?_))))
    have hb172 := (by rw [hq16]; exact (bk_ [(wl 1), (wl 0), (wl 1)]) : (q16).length ≤ 25)
    have hr173 := (by rw [hq16]; exact (bo_ [(wl 1), (wl 0), (wl 1)]) : Rgt q16)
    refine WL_r rfl (az_ [[ci .i64 1], [ci .i64 2]] [ci .i64 1, ci .i64 2] us_70 z_3 sz_3 rfl (by decide) rfl rfl ⟨rfl, rfl, rfl, rfl, rfl, rfl, trivial⟩ rfl (fun b174 hb174 => WL_r rfl (an_ (E := 38) (e := elI) (l := q17) (fun v => v) en_34 rfl (fun w hw => (by rw [hq17]; exact bm_ _ [(wl 1), (wl 2)] w (SLe.ap hw (SLe.lit (e := elW) (l := [(wl 1), (wl 2)]) m0 rfl (Nat.le_of_ble_eq_true rfl) rfl)) (by first | omega | (simp only [List.length_cons, List.length_nil, and_true, true_and] <;> omega) | simp))) (fun p175 c176 L177 hF178 => ?_))))
    have hb179 := (by rw [hq17]; exact (bk_ [(wl 1), (wl 2)]) : (q17).length ≤ 25)
    have hr180 := (by rw [hq17]; exact (bo_ [(wl 1), (wl 2)]) : Rgt q17)
    refine WL_r rfl (an_ (E := 38) (e := elI) (l := q18) (fun v => v) en_23 rfl (fun w hw => (by rw [hq18]; exact cO_ _ q16 _ q17 w (SLe.ap hw (SLfe.sle (OwnG.slfe hF171 (sR (sd (List.sublist_append_left _ _)))))) (SLe.ap hw (SLfe.sle (OwnG.slfe hF178 (List.sublist_append_left _ _)))) (by first | omega | (simp only [List.length_cons, List.length_nil, and_true, true_and] <;> omega) | simp))) (fun p181 c182 L183 hF184 => ?_))
    have hb185 := (by rw [hq18]; exact (cn_ q16 q17) : (q18).length ≤ 25)
    refine sE rfl (sQ (q_as (v' := .bool q19) (aH_ en_17 rfl (fun w hw => (by rw [hq19]; exact ax_ _ q18 _ q15 w (SLe.ap hw (SLfe.sle (OwnG.slfe hF184 (List.sublist_append_left _ _)))) (SLe.ap hw (SLfe.sle (OwnG.slfe hF107 (sR (sR (sd (sR (sd (List.sublist_append_left _ _)))))))))))) rfl) rfl ?_)
    rcases bt q19 with h186 | h186
    ·skip
     refine sB h186 rfl (WL_r rfl (az_ [[ci .i64 1], [ci .i64 0], [ci .i64 1]] [ci .i64 1, ci .i64 0, ci .i64 1] us_70 z_3 sz_3 rfl (by decide) rfl rfl ⟨rfl, rfl, rfl, rfl, rfl, rfl, rfl, rfl, rfl, trivial⟩ rfl (fun b187 hb187 => WL_r rfl (an_ (E := 38) (e := elI) (l := q16) (fun v => v) en_34 rfl (fun w hw => (by rw [hq16]; exact bm_ _ [(wl 1), (wl 0), (wl 1)] w (SLe.ap hw (SLe.lit (e := elW) (l := [(wl 1), (wl 0), (wl 1)]) m0 rfl (Nat.le_of_ble_eq_true rfl) rfl)) (by first | omega | (simp only [List.length_cons, List.length_nil, and_true, true_and] <;> omega) | simp))) (fun p188 c189 L190 hF191 => ?_)))))
     have hb192 := (by rw [hq16]; exact (bk_ [(wl 1), (wl 0), (wl 1)]) : (q16).length ≤ 25)
     have hr193 := (by rw [hq16]; exact (bo_ [(wl 1), (wl 0), (wl 1)]) : Rgt q16)
     refine WL_r rfl (az_ [[ci .i64 1], [ci .i64 (-2)]] [ci .i64 1, ci .i64 (-2)] us_70 z_3 sz_3 rfl (by decide) rfl rfl ⟨rfl, rfl, rfl, rfl, rfl, rfl, trivial⟩ rfl (fun b194 hb194 => WL_r rfl (an_ (E := 38) (e := elI) (l := q20) (fun v => v) en_34 rfl (fun w hw => (by rw [hq20]; exact bm_ _ [(wl 1), (wl (-2))] w (SLe.ap hw (SLe.lit (e := elW) (l := [(wl 1), (wl (-2))]) m0 rfl (Nat.le_of_ble_eq_true rfl) rfl)) (by first | omega | (simp only [List.length_cons, List.length_nil, and_true, true_and] <;> omega) | simp))) (fun p195 c196 L197 hF198 => ?_))))
     have hb199 := (by rw [hq20]; exact (bk_ [(wl 1), (wl (-2))]) : (q20).length ≤ 25)
     have hr200 := (by rw [hq20]; exact (bo_ [(wl 1), (wl (-2))]) : Rgt q20)
     refine WL_r rfl (an_ (E := 38) (e := elI) (l := q21) (fun v => v) en_23 rfl (fun w hw => (by rw [hq21]; exact cO_ _ q16 _ q20 w (SLe.ap hw (SLfe.sle (OwnG.slfe hF191 (sR (sd (List.sublist_append_left _ _)))))) (SLe.ap hw (SLfe.sle (OwnG.slfe hF198 (List.sublist_append_left _ _)))) (by first | omega | (simp only [List.length_cons, List.length_nil, and_true, true_and] <;> omega) | simp))) (fun p201 c202 L203 hF204 => ?_))
     have hb205 := (by rw [hq21]; exact (cn_ q16 q20) : (q21).length ≤ 25)
     refine sE rfl (sQ (q_as (v' := .bool q22) (aH_ en_17 rfl (fun w hw => (by rw [hq22]; exact ax_ _ q21 _ q15 w (SLe.ap hw (SLfe.sle (OwnG.slfe hF204 (List.sublist_append_left _ _)))) (SLe.ap hw (SLfe.sle (OwnG.slfe hF107 (sR (sR (sd (sR (sd (sR (sR (sd (sR (sd (List.sublist_append_left _ _))))))))))))))))) rfl) rfl (sE rfl (sE rfl (nl J ?_))))
     refine J3 _ _ (by repeat first | exact .refl | refine .cons rfl ?_) ⟨_, (sR (sR (sd (sR (sd (sR (sR (sd (sR (sd (s0))))))))))), ?s6, rfl⟩
     case s6 => exact congrArg Value.bool (and_t h186 rfl)
    ·skip
     refine sB h186 rfl (WL_n rfl (WL_n rfl (WL_n rfl (WL_n rfl (WL_n rfl (WL_n rfl (WL_n rfl (sE rfl (sE rfl (nl J ?_))))))))))
     refine J3 _ _ (by repeat first | exact .refl | refine .cons rfl ?_) ⟨_, (sR (sR (sd (sR (sd (s0)))))), ?s6, rfl⟩
     case s6 => exact congrArg Value.bool (and_f h186)
   ·skip
    rintro g206 M ⟨hg6, rfl⟩
    simp only [setG, hg6]
    clear hg6
    refine bD_ [7, 63, 64, 65, 66, 67, 68, 69, 70, 71, 72, 73, 74, 75, 76, 77, 78, 79, 80, 81, 82, 83, 84, 85, 86] (fun g M => (g 7 = .bool (q26 && (q31 && q35))) ∧ M = (L106 ++ (⟨b103, 3, flat [ci .i64 5]⟩ :: (⟨b21, 44, flat [pI q3.n, pI q3.d]⟩ :: (L17 ++ (L11 ++ (⟨b8, 3, flat [ci .i64 (-1), ci .i64 1]⟩ :: (L4 ++ (⟨b1, 3, flat [ci .i64 1, ci .i64 1]⟩ :: []))))))))) (fun K4 J4 => ?_) ?_
    ·skip
     refine Rk fun K J => WL_r rfl (az_ [[ci .i64 (-4)], [ci .i64 6]] [ci .i64 (-4), ci .i64 6] us_70 z_3 sz_3 rfl (by decide) rfl rfl ⟨rfl, rfl, rfl, rfl, rfl, rfl, trivial⟩ rfl (fun b288 hb288 => WL_r rfl (an_ (E := 38) (e := elI) (l := q23) (fun v => v) en_34 rfl (fun w hw => (by rw [hq23]; exact bm_ _ [(wl (-4)), (wl 6)] w (SLe.ap hw (SLe.lit (e := elW) (l := [(wl (-4)), (wl 6)]) m0 rfl (Nat.le_of_ble_eq_true rfl) rfl)) (by first | omega | (simp only [List.length_cons, List.length_nil, and_true, true_and] <;> omega) | simp))) (fun p289 c290 L291 hF292 => ?_))))
     have hb293 := (by rw [hq23]; exact (bk_ [(wl (-4)), (wl 6)]) : (q23).length ≤ 25)
     have hr294 := (by rw [hq23]; exact (bo_ [(wl (-4)), (wl 6)]) : Rgt q23)
     refine WL_r rfl (an_ (E := 38) (e := elI) (l := q24) (fun v => v) en_25 rfl (fun w hw => (by rw [hq24]; exact bM_ _ q23 w (SLe.ap hw (SLfe.sle (OwnG.slfe hF292 (List.sublist_append_left _ _)))) (by first | omega | (simp only [List.length_cons, List.length_nil, and_true, true_and] <;> omega) | simp))) (fun p295 c296 L297 hF298 => ?_))
     have hb299 := (by rw [hq24]; exact (ay_ q23) : (q24).length ≤ 25)
     refine WL_r rfl (az_ [[ci .i64 (-2)], [ci .i64 3]] [ci .i64 (-2), ci .i64 3] us_70 z_3 sz_3 rfl (by decide) rfl rfl ⟨rfl, rfl, rfl, rfl, rfl, rfl, trivial⟩ rfl (fun b300 hb300 => WL_r rfl (an_ (E := 38) (e := elI) (l := q25) (fun v => v) en_64 rfl (fun w hw => (by rw [hq25]; exact a8_ _ [(wl (-2)), (wl 3)] w (SLe.ap hw (SLe.lit (e := elW) (l := [(wl (-2)), (wl 3)]) m0 rfl (Nat.le_of_ble_eq_true rfl) rfl)) (by first | omega | (simp only [List.length_cons, List.length_nil, and_true, true_and] <;> omega) | simp))) (fun p301 c302 L303 hF304 => ?_))))
     have hb305 := (by rw [hq25]; exact (a7_ [(wl (-2)), (wl 3)]) : (q25).length ≤ 25)
     refine sQ (q_as (v' := .bool q26) (aH_ en_17 rfl (fun w hw => (by rw [hq26]; exact ax_ _ q24 _ q25 w (SLe.ap hw (SLfe.sle (OwnG.slfe hF298 (sR (sd (List.sublist_append_left _ _)))))) (SLe.ap hw (SLfe.sle (OwnG.slfe hF304 (List.sublist_append_left _ _))))))) rfl) rfl ?_
     rcases bt q26 with h306 | h306
     ·skip
      refine sB h306 rfl (WL_r rfl (az_ [[ci .i64 (-1)], [ci .i64 0], [ci .i64 1]] [ci .i64 (-1), ci .i64 0, ci .i64 1] us_70 z_3 sz_3 rfl (by decide) rfl rfl ⟨rfl, rfl, rfl, rfl, rfl, rfl, rfl, rfl, rfl, trivial⟩ rfl (fun b307 hb307 => WL_r rfl (an_ (E := 38) (e := elI) (l := q27) (fun v => v) en_34 rfl (fun w hw => (by rw [hq27]; exact bm_ _ [(wl (-1)), (wl 0), (wl 1)] w (SLe.ap hw (SLe.lit (e := elW) (l := [(wl (-1)), (wl 0), (wl 1)]) m0 rfl (Nat.le_of_ble_eq_true rfl) rfl)) (by first | omega | (simp only [List.length_cons, List.length_nil, and_true, true_and] <;> omega) | simp))) (fun p308 c309 L310 hF311 => ?_)))))
      have hb312 := (by rw [hq27]; exact (bk_ [(wl (-1)), (wl 0), (wl 1)]) : (q27).length ≤ 25)
      have hr313 := (by rw [hq27]; exact (bo_ [(wl (-1)), (wl 0), (wl 1)]) : Rgt q27)
      refine WL_r rfl (az_ [[ci .i64 2], [ci .i64 (-2)]] [ci .i64 2, ci .i64 (-2)] us_70 z_3 sz_3 rfl (by decide) rfl rfl ⟨rfl, rfl, rfl, rfl, rfl, rfl, trivial⟩ rfl (fun b314 hb314 => WL_r rfl (an_ (E := 38) (e := elI) (l := q28) (fun v => v) en_34 rfl (fun w hw => (by rw [hq28]; exact bm_ _ [(wl 2), (wl (-2))] w (SLe.ap hw (SLe.lit (e := elW) (l := [(wl 2), (wl (-2))]) m0 rfl (Nat.le_of_ble_eq_true rfl) rfl)) (by first | omega | (simp only [List.length_cons, List.length_nil, and_true, true_and] <;> omega) | simp))) (fun p315 c316 L317 hF318 => ?_))))
      have hb319 := (by rw [hq28]; exact (bk_ [(wl 2), (wl (-2))]) : (q28).length ≤ 25)
      have hr320 := (by rw [hq28]; exact (bo_ [(wl 2), (wl (-2))]) : Rgt q28)
      refine WL_r rfl (an_ (E := 38) (e := elI) (l := q29) (fun v => v) en_27 rfl (fun w hw => (by rw [hq29]; exact d9_ _ q27 _ q28 w (SLe.ap hw (SLfe.sle (OwnG.slfe hF311 (sR (sd (List.sublist_append_left _ _)))))) (SLe.ap hw (SLfe.sle (OwnG.slfe hF318 (List.sublist_append_left _ _)))) (by first | omega | (simp only [List.length_cons, List.length_nil, and_true, true_and] <;> omega) | simp))) (fun p321 c322 L323 hF324 => ?_))
      have hb325 := (by rw [hq29]; exact (dC_ q27 q28) : (q29).length ≤ 25)
      refine WL_r rfl (az_ [[ci .i64 (-1)], [ci .i64 1]] [ci .i64 (-1), ci .i64 1] us_70 z_3 sz_3 rfl (by decide) rfl rfl ⟨rfl, rfl, rfl, rfl, rfl, rfl, trivial⟩ rfl (fun b326 hb326 => WL_r rfl (an_ (E := 38) (e := elI) (l := q30) (fun v => v) en_64 rfl (fun w hw => (by rw [hq30]; exact a8_ _ [(wl (-1)), (wl 1)] w (SLe.ap hw (SLe.lit (e := elW) (l := [(wl (-1)), (wl 1)]) m0 rfl (Nat.le_of_ble_eq_true rfl) rfl)) (by first | omega | (simp only [List.length_cons, List.length_nil, and_true, true_and] <;> omega) | simp))) (fun p327 c328 L329 hF330 => ?_))))
      have hb331 := (by rw [hq30]; exact (a7_ [(wl (-1)), (wl 1)]) : (q30).length ≤ 25)
      refine sQ (q_as (v' := .bool q31) (aH_ en_17 rfl (fun w hw => (by rw [hq31]; exact ax_ _ q29 _ q30 w (SLe.ap hw (SLfe.sle (OwnG.slfe hF324 (sR (sd (List.sublist_append_left _ _)))))) (SLe.ap hw (SLfe.sle (OwnG.slfe hF330 (List.sublist_append_left _ _))))))) rfl) rfl (sE rfl ?_)
      rcases bt q31 with h332 | h332
      ·skip
       refine sB h332 rfl (WL_r rfl (az_ [[ci .i64 0], [ci .i64 0], [ci .i64 3], [ci .i64 3]] [ci .i64 0, ci .i64 0, ci .i64 3, ci .i64 3] us_70 z_3 sz_3 rfl (by decide) rfl rfl ⟨rfl, rfl, rfl, rfl, rfl, rfl, rfl, rfl, rfl, rfl, rfl, rfl, trivial⟩ rfl (fun b333 hb333 => WL_r rfl (an_ (E := 38) (e := elI) (l := q32) (fun v => v) en_34 rfl (fun w hw => (by rw [hq32]; exact bm_ _ [(wl 0), (wl 0), (wl 3), (wl 3)] w (SLe.ap hw (SLe.lit (e := elW) (l := [(wl 0), (wl 0), (wl 3), (wl 3)]) m0 rfl (Nat.le_of_ble_eq_true rfl) rfl)) (by first | omega | (simp only [List.length_cons, List.length_nil, and_true, true_and] <;> omega) | simp))) (fun p334 c335 L336 hF337 => ?_)))))
       have hb338 := (by rw [hq32]; exact (bk_ [(wl 0), (wl 0), (wl 3), (wl 3)]) : (q32).length ≤ 25)
       have hr339 := (by rw [hq32]; exact (bo_ [(wl 0), (wl 0), (wl 3), (wl 3)]) : Rgt q32)
       refine WL_r rfl (an_ (E := 38) (e := elI) (l := q33) (fun v => v) en_29 rfl (fun w hw => (by rw [hq33]; exact fb_ _ q32 w (SLe.ap hw (SLfe.sle (OwnG.slfe hF337 (List.sublist_append_left _ _)))) ⟨by assumption, by omega⟩)) (fun p340 c341 L342 hF343 => ?_))
       have hb344 := (by rw [hq33]; exact (fd_ q32) : (q33).length ≤ 25)
       refine WL_r rfl (az_ [[ci .i64 0], [ci .i64 1], [ci .i64 1]] [ci .i64 0, ci .i64 1, ci .i64 1] us_70 z_3 sz_3 rfl (by decide) rfl rfl ⟨rfl, rfl, rfl, rfl, rfl, rfl, rfl, rfl, rfl, trivial⟩ rfl (fun b345 hb345 => WL_r rfl (an_ (E := 38) (e := elI) (l := q34) (fun v => v) en_64 rfl (fun w hw => (by rw [hq34]; exact a8_ _ [(wl 0), (wl 1), (wl 1)] w (SLe.ap hw (SLe.lit (e := elW) (l := [(wl 0), (wl 1), (wl 1)]) m0 rfl (Nat.le_of_ble_eq_true rfl) rfl)) (by first | omega | (simp only [List.length_cons, List.length_nil, and_true, true_and] <;> omega) | simp))) (fun p346 c347 L348 hF349 => ?_))))
       have hb350 := (by rw [hq34]; exact (a7_ [(wl 0), (wl 1), (wl 1)]) : (q34).length ≤ 25)
       refine sQ (q_as (v' := .bool q35) (aH_ en_17 rfl (fun w hw => (by rw [hq35]; exact ax_ _ q33 _ q34 w (SLe.ap hw (SLfe.sle (OwnG.slfe hF343 (sR (sd (List.sublist_append_left _ _)))))) (SLe.ap hw (SLfe.sle (OwnG.slfe hF349 (List.sublist_append_left _ _))))))) rfl) rfl (sE rfl (sE rfl (nl J ?_)))
       refine J4 _ _ (by repeat first | exact .refl | refine .cons rfl ?_) ⟨_, (sR (sd (sR (sR (sd (sR (sd (sR (sR (sd (sR (sd (sR (sd (sR (sR (sd (s0)))))))))))))))))), ?s7, rfl⟩
       case s7 => exact congrArg Value.bool (and_t h306 (and_t h332 rfl))
      ·skip
       refine sB h332 rfl (WL_n rfl (WL_n rfl (WL_n rfl (WL_n rfl (WL_n rfl (WL_n rfl (sE rfl (sE rfl (nl J ?_)))))))))
       refine J4 _ _ (by repeat first | exact .refl | refine .cons rfl ?_) ⟨_, (sR (sd (sR (sR (sd (sR (sd (sR (sd (sR (sR (sd (s0))))))))))))), ?s7, rfl⟩
       case s7 => exact congrArg Value.bool (and_t h306 (and_f h332))
     ·skip
      refine sB h306 rfl (WL_n rfl (WL_n rfl (WL_n rfl (WL_n rfl (WL_n rfl (WL_n rfl (WL_n rfl (WL_n rfl (sE rfl (sE rfl (WL_n rfl (WL_n rfl (WL_n rfl (WL_n rfl (WL_n rfl (WL_n rfl (sE rfl (sE rfl (nl J ?_)))))))))))))))))))
      refine J4 _ _ (by repeat first | exact .refl | refine .cons rfl ?_) ⟨_, (sR (sd (sR (sR (sd (s0)))))), ?s7, rfl⟩
      case s7 => exact congrArg Value.bool (and_f h306)
    ·skip
     rintro g351 M ⟨hg7, rfl⟩
     simp only [setG, hg7]
     clear hg7
     refine bD_ [8, 87, 88, 89, 90, 91, 92, 93, 94, 95, 96, 97, 98, 99, 100] (fun g M => (g 8 = .bool (q40 && (q42.1 == 2))) ∧ M = (L106 ++ (⟨b103, 3, flat [ci .i64 5]⟩ :: (⟨b21, 44, flat [pI q3.n, pI q3.d]⟩ :: (L17 ++ (L11 ++ (⟨b8, 3, flat [ci .i64 (-1), ci .i64 1]⟩ :: (L4 ++ (⟨b1, 3, flat [ci .i64 1, ci .i64 1]⟩ :: []))))))))) (fun K5 J5 => ?_) ?_
     ·skip
      refine lt_ s0 (.quiet 2 [4,6,7,8,9,10,11,12,13,14] (.both 0 (.both 1 (.quiet 3 [4,6,7,8,9,10,11,12,13,14] (.both 4 (.only 5 (.only 6 (.quiet 7 [8,9,10,11,12,13,14] (.quiet 8 [9,10,11,12,13,14] (.only 9 (.only 10 (.quiet 11 [12,13,14] (.quiet 12 [13,14] (.quiet 13 [14] (.quiet 14 [] (.fin))))))))))) 5 (.only 4 (.only 6 (.quiet 7 [8,9,10,11,12,13,14] (.quiet 8 [9,10,11,12,13,14] (.only 9 (.only 10 (.quiet 11 [12,13,14] (.quiet 12 [13,14] (.quiet 13 [14] (.quiet 14 [] (.fin))))))))))))) 5 (.only 1 (.quiet 3 [4,6,7,8,9,10,11,12,13,14] (.only 4 (.only 6 (.quiet 7 [8,9,10,11,12,13,14] (.quiet 8 [9,10,11,12,13,14] (.only 9 (.only 10 (.quiet 11 [12,13,14] (.quiet 12 [13,14] (.quiet 13 [14] (.quiet 14 [] (.fin)))))))))))))) 5 (.only 0 (.only 1 (.quiet 3 [4,6,7,8,9,10,11,12,13,14] (.only 4 (.only 6 (.quiet 7 [8,9,10,11,12,13,14] (.quiet 8 [9,10,11,12,13,14] (.only 9 (.only 10 (.quiet 11 [12,13,14] (.quiet 12 [13,14] (.quiet 13 [14] (.quiet 14 [] (.fin)))))))))))))))) [0,1,2,3,4,5,6,7,8,9,10,11,12,13,14] mix (by kernel_rfl) (by kernel_rfl) (fun K J => pQ rfl (qL ty_44 rfl (List.mem_append_right _ (List.mem_cons_of_mem _ (List.mem_cons_self))) rfl) ?_)
      refine PL_b ?_ ?_
      ·skip
       refine PL_o rfl rfl (az_ [[ci .i64 0], [ci .i64 0], [ci .i64 1]] [ci .i64 0, ci .i64 0, ci .i64 1] us_70 z_3 sz_3 rfl (by decide) rfl rfl ⟨rfl, rfl, rfl, rfl, rfl, rfl, rfl, rfl, rfl, trivial⟩ rfl (fun b466 hb466 => ⟨(fun _ => sd s0), (sd s0), ?_⟩))
       refine PL_b ?_ ?_
       ·skip
        refine PL_o rfl rfl (an_ (E := 38) (e := elI) (l := q36) (fun v => v) en_34 rfl (fun w hw => (by rw [hq36]; exact bm_ _ [(wl 0), (wl 0), (wl 1)] w (SLe.ap hw (SLe.lit (e := elW) (l := [(wl 0), (wl 0), (wl 1)]) m0 rfl (Nat.le_of_ble_eq_true rfl) rfl)) (by first | omega | (simp only [List.length_cons, List.length_nil, and_true, true_and] <;> omega) | simp))) (fun p467 c468 L469 hF470 => ⟨(fun _ => sR s0), (sR (sd s0)), ?_⟩))
        have hb471 := (by rw [hq36]; exact (bk_ [(wl 0), (wl 0), (wl 1)]) : (q36).length ≤ 25)
        have hr472 := (by rw [hq36]; exact (bo_ [(wl 0), (wl 0), (wl 1)]) : Rgt q36)
        refine pC (AV [pI q37.n, pI q37.d]) en_58 (co_ (wl 1)) rfl rfl (by rw [hq37]; first | done | rfl) ?_
        refine PL_b ?_ ?_
        ·skip
         refine PL_o rfl rfl (an_ (E := 38) (e := elI) (l := q38) (fun v => v) en_55 rfl (fun w hw => (by rw [hq38]; exact cZ_ _ q36 q3 q37 w (SLe.ap hw (SLfe.sle (OwnG.slfe hF470 (List.sublist_append_left _ _)))) (by first | omega | (simp only [List.length_cons, List.length_nil, and_true, true_and] <;> omega) | simp))) (fun p473 c474 L475 hF476 => ⟨(fun _ => sR s0), (sR (sR (sd s0))), ?_⟩))
         have hb477 := (by rw [hq38]; exact (c0_ q36 q3 q37) : (q38).length ≤ 25)
         refine PL_o rfl rfl (az_ [[ci .i64 1], [ci .i64 4], [ci .i64 4]] [ci .i64 1, ci .i64 4, ci .i64 4] us_70 z_3 sz_3 rfl (by decide) rfl rfl ⟨rfl, rfl, rfl, rfl, rfl, rfl, rfl, rfl, rfl, trivial⟩ rfl (fun b478 hb478 => ⟨(fun _ => sd s0), (sd (sR (sR (sd s0)))), PL_o rfl rfl (an_ (E := 38) (e := elI) (l := q39) (fun v => v) en_64 rfl (fun w hw => (by rw [hq39]; exact a8_ _ [(wl 1), (wl 4), (wl 4)] w (SLe.ap hw (SLe.lit (e := elW) (l := [(wl 1), (wl 4), (wl 4)]) m0 rfl (Nat.le_of_ble_eq_true rfl) rfl)) (by first | omega | (simp only [List.length_cons, List.length_nil, and_true, true_and] <;> omega) | simp))) (fun p479 c480 L481 hF482 => ⟨(fun _ => sR s0), (sR (sd (sR (sR (sd s0))))), ?_⟩))⟩))
         have hb483 := (by rw [hq39]; exact (a7_ [(wl 1), (wl 4), (wl 4)]) : (q39).length ≤ 25)
         refine pQ rfl (q_as (v' := .bool q40) (aH_ en_17 rfl (fun w hw => (by rw [hq40]; exact ax_ _ q38 _ q39 w (SLe.ap hw (SLfe.sle (OwnG.slfe hF476 (sR (sd (List.sublist_append_left _ _)))))) (SLe.ap hw (SLfe.sle (OwnG.slfe hF482 (List.sublist_append_left _ _))))))) rfl) ?_
         rcases bt q40 with h484 | h484
         ·skip
          refine pB h484 rfl (PL_o rfl rfl (az_ [[ci .i64 1], [ci .i64 (-1)], [ci .i64 0], [ci .i64 1], [ci .i64 1]] [ci .i64 1, ci .i64 (-1), ci .i64 0, ci .i64 1, ci .i64 1] us_70 z_3 sz_3 rfl (by decide) rfl rfl ⟨rfl, rfl, rfl, rfl, rfl, rfl, rfl, rfl, rfl, rfl, rfl, rfl, rfl, rfl, rfl, trivial⟩ rfl (fun b485 hb485 => ⟨(fun _ => sd s0), (sd (sR (sd (sR (sR (sd s0)))))), PL_o rfl rfl (an_ (E := 38) (e := elI) (l := q41) (fun v => v) en_34 rfl (fun w hw => (by rw [hq41]; exact bm_ _ [(wl 1), (wl (-1)), (wl 0), (wl 1), (wl 1)] w (SLe.ap hw (SLe.lit (e := elW) (l := [(wl 1), (wl (-1)), (wl 0), (wl 1), (wl 1)]) m0 rfl (Nat.le_of_ble_eq_true rfl) rfl)) (by first | omega | (simp only [List.length_cons, List.length_nil, and_true, true_and] <;> omega) | simp))) (fun p486 c487 L488 hF489 => ⟨(fun _ => sR s0), (sR (sd (sR (sd (sR (sR (sd s0))))))), ?_⟩))⟩)))
          have hb490 := (by rw [hq41]; exact (bk_ [(wl 1), (wl (-1)), (wl 0), (wl 1), (wl 1)]) : (q41).length ≤ 25)
          have hr491 := (by rw [hq41]; exact (bo_ [(wl 1), (wl (-1)), (wl 0), (wl 1), (wl 1)]) : Rgt q41)
          refine pQ rfl (q_as (v' := .int .i64 q42.1) (aH_ en_35 rfl (fun w hw => (by rw [hq42]; exact cU_ _ q41 w (SLe.ap hw (SLfe.sle (OwnG.slfe hF489 (List.sublist_append_left _ _))))))) rfl) (pE rfl (pE rfl (pE rfl (fl J ?_))))
          refine J5 _ _ (by repeat first | exact .refl | refine .cons rfl ?_) ⟨_, (sR (sd (sR (sd (sR (sR (sd (s0)))))))), ?s8, rfl⟩
          case s8 => exact congrArg Value.bool (and_t h484 rfl)
         ·skip
          refine pB h484 rfl (PL_on rfl rfl (PL_on rfl rfl (PL_n rfl rfl (PL_n rfl rfl (pE rfl (pE rfl (fl J ?_)))))))
          refine J5 _ _ (by repeat first | exact .refl | refine .cons rfl ?_) ⟨_, (sR (sd (sR (sR (sd (s0)))))), ?s8, rfl⟩
          case s8 => exact congrArg Value.bool (and_f h484)
        ·skip
         refine PL_o rfl rfl (az_ [[ci .i64 1], [ci .i64 4], [ci .i64 4]] [ci .i64 1, ci .i64 4, ci .i64 4] us_70 z_3 sz_3 rfl (by decide) rfl rfl ⟨rfl, rfl, rfl, rfl, rfl, rfl, rfl, rfl, rfl, trivial⟩ rfl (fun b492 hb492 => ⟨(fun _ => sd s0), (sd (sR (sd s0))), PL_o rfl rfl (an_ (E := 38) (e := elI) (l := q38) (fun v => v) en_55 rfl (fun w hw => (by rw [hq38]; exact cZ_ _ q36 q3 q37 w (SLe.ap hw (SLfe.sle (OwnG.slfe hF470 (sd (List.sublist_append_left _ _))))) (by first | omega | (simp only [List.length_cons, List.length_nil, and_true, true_and] <;> omega) | simp))) (fun p493 c494 L495 hF496 => ⟨(fun _ => sR s0), (sR (sd (sR (sd s0)))), ?_⟩))⟩))
         have hb497 := (by rw [hq38]; exact (c0_ q36 q3 q37) : (q38).length ≤ 25)
         refine PL_o rfl rfl (an_ (E := 38) (e := elI) (l := q39) (fun v => v) en_64 rfl (fun w hw => (by rw [hq39]; exact a8_ _ [(wl 1), (wl 4), (wl 4)] w (SLe.ap hw (SLe.lit (e := elW) (l := [(wl 1), (wl 4), (wl 4)]) (List.mem_append_right _ (List.mem_cons_self)) rfl (Nat.le_of_ble_eq_true rfl) rfl)) (by first | omega | (simp only [List.length_cons, List.length_nil, and_true, true_and] <;> omega) | simp))) (fun p498 c499 L500 hF501 => ⟨(fun _ => sR s0), (sR (sR (sd (sR (sd s0))))), ?_⟩))
         have hb502 := (by rw [hq39]; exact (a7_ [(wl 1), (wl 4), (wl 4)]) : (q39).length ≤ 25)
         refine pQ rfl (q_as (v' := .bool q40) (aH_ en_17 rfl (fun w hw => (by rw [hq40]; exact ax_ _ q38 _ q39 w (SLe.ap hw (SLfe.sle (OwnG.slfe hF496 (sR (List.sublist_append_left _ _))))) (SLe.ap hw (SLfe.sle (OwnG.slfe hF501 (List.sublist_append_left _ _))))))) rfl) ?_
         rcases bt q40 with h503 | h503
         ·skip
          refine pB h503 rfl (PL_o rfl rfl (az_ [[ci .i64 1], [ci .i64 (-1)], [ci .i64 0], [ci .i64 1], [ci .i64 1]] [ci .i64 1, ci .i64 (-1), ci .i64 0, ci .i64 1, ci .i64 1] us_70 z_3 sz_3 rfl (by decide) rfl rfl ⟨rfl, rfl, rfl, rfl, rfl, rfl, rfl, rfl, rfl, rfl, rfl, rfl, rfl, rfl, rfl, trivial⟩ rfl (fun b504 hb504 => ⟨(fun _ => sd s0), (sd (sR (sR (sd (sR (sd s0)))))), PL_o rfl rfl (an_ (E := 38) (e := elI) (l := q41) (fun v => v) en_34 rfl (fun w hw => (by rw [hq41]; exact bm_ _ [(wl 1), (wl (-1)), (wl 0), (wl 1), (wl 1)] w (SLe.ap hw (SLe.lit (e := elW) (l := [(wl 1), (wl (-1)), (wl 0), (wl 1), (wl 1)]) m0 rfl (Nat.le_of_ble_eq_true rfl) rfl)) (by first | omega | (simp only [List.length_cons, List.length_nil, and_true, true_and] <;> omega) | simp))) (fun p505 c506 L507 hF508 => ⟨(fun _ => sR s0), (sR (sd (sR (sR (sd (sR (sd s0))))))), ?_⟩))⟩)))
          have hb509 := (by rw [hq41]; exact (bk_ [(wl 1), (wl (-1)), (wl 0), (wl 1), (wl 1)]) : (q41).length ≤ 25)
          have hr510 := (by rw [hq41]; exact (bo_ [(wl 1), (wl (-1)), (wl 0), (wl 1), (wl 1)]) : Rgt q41)
          refine pQ rfl (q_as (v' := .int .i64 q42.1) (aH_ en_35 rfl (fun w hw => (by rw [hq42]; exact cU_ _ q41 w (SLe.ap hw (SLfe.sle (OwnG.slfe hF508 (List.sublist_append_left _ _))))))) rfl) (pE rfl (pE rfl (pE rfl (fl J ?_))))
          refine J5 _ _ (by repeat first | exact .refl | refine .cons rfl ?_) ⟨_, (sR (sd (sR (sR (sd (sR (sd (s0)))))))), ?s8, rfl⟩
          case s8 => exact congrArg Value.bool (and_t h503 rfl)
         ·skip
          refine pB h503 rfl (PL_on rfl rfl (PL_on rfl rfl (PL_n rfl rfl (PL_n rfl rfl (pE rfl (pE rfl (fl J ?_)))))))
          refine J5 _ _ (by repeat first | exact .refl | refine .cons rfl ?_) ⟨_, (sR (sR (sd (sR (sd (s0)))))), ?s8, rfl⟩
          case s8 => exact congrArg Value.bool (and_f h503)
       ·skip
        refine PL_o rfl rfl (az_ [[ci .i64 1], [ci .i64 4], [ci .i64 4]] [ci .i64 1, ci .i64 4, ci .i64 4] us_70 z_3 sz_3 rfl (by decide) rfl rfl ⟨rfl, rfl, rfl, rfl, rfl, rfl, rfl, rfl, rfl, trivial⟩ rfl (fun b511 hb511 => ⟨(fun _ => sd s0), (sd (sd s0)), PL_o rfl rfl (an_ (E := 38) (e := elI) (l := q36) (fun v => v) en_34 rfl (fun w hw => (by rw [hq36]; exact bm_ _ [(wl 0), (wl 0), (wl 1)] w (SLe.ap hw (SLe.lit (e := elW) (l := [(wl 0), (wl 0), (wl 1)]) m1 rfl (Nat.le_of_ble_eq_true rfl) rfl)) (by first | omega | (simp only [List.length_cons, List.length_nil, and_true, true_and] <;> omega) | simp))) (fun p512 c513 L514 hF515 => ⟨(fun _ => sR s0), (sR (sd (sd s0))), ?_⟩))⟩))
        have hb516 := (by rw [hq36]; exact (bk_ [(wl 0), (wl 0), (wl 1)]) : (q36).length ≤ 25)
        have hr517 := (by rw [hq36]; exact (bo_ [(wl 0), (wl 0), (wl 1)]) : Rgt q36)
        refine pC (AV [pI q37.n, pI q37.d]) en_58 (co_ (wl 1)) rfl rfl (by rw [hq37]; first | done | rfl) ?_
        refine PL_o rfl rfl (an_ (E := 38) (e := elI) (l := q38) (fun v => v) en_55 rfl (fun w hw => (by rw [hq38]; exact cZ_ _ q36 q3 q37 w (SLe.ap hw (SLfe.sle (OwnG.slfe hF515 (List.sublist_append_left _ _)))) (by first | omega | (simp only [List.length_cons, List.length_nil, and_true, true_and] <;> omega) | simp))) (fun p518 c519 L520 hF521 => ⟨(fun _ => sR s0), (sR (sR (sd (sd s0)))), ?_⟩))
        have hb522 := (by rw [hq38]; exact (c0_ q36 q3 q37) : (q38).length ≤ 25)
        refine PL_o rfl rfl (an_ (E := 38) (e := elI) (l := q39) (fun v => v) en_64 rfl (fun w hw => (by rw [hq39]; exact a8_ _ [(wl 1), (wl 4), (wl 4)] w (SLe.ap hw (SLe.lit (e := elW) (l := [(wl 1), (wl 4), (wl 4)]) (List.mem_append_right _ (List.mem_append_right _ (List.mem_cons_self))) rfl (Nat.le_of_ble_eq_true rfl) rfl)) (by first | omega | (simp only [List.length_cons, List.length_nil, and_true, true_and] <;> omega) | simp))) (fun p523 c524 L525 hF526 => ⟨(fun _ => sR s0), (sR (sR (sR (sd (sd s0))))), ?_⟩))
        have hb527 := (by rw [hq39]; exact (a7_ [(wl 1), (wl 4), (wl 4)]) : (q39).length ≤ 25)
        refine pQ rfl (q_as (v' := .bool q40) (aH_ en_17 rfl (fun w hw => (by rw [hq40]; exact ax_ _ q38 _ q39 w (SLe.ap hw (SLfe.sle (OwnG.slfe hF521 (sR (List.sublist_append_left _ _))))) (SLe.ap hw (SLfe.sle (OwnG.slfe hF526 (List.sublist_append_left _ _))))))) rfl) ?_
        rcases bt q40 with h528 | h528
        ·skip
         refine pB h528 rfl (PL_o rfl rfl (az_ [[ci .i64 1], [ci .i64 (-1)], [ci .i64 0], [ci .i64 1], [ci .i64 1]] [ci .i64 1, ci .i64 (-1), ci .i64 0, ci .i64 1, ci .i64 1] us_70 z_3 sz_3 rfl (by decide) rfl rfl ⟨rfl, rfl, rfl, rfl, rfl, rfl, rfl, rfl, rfl, rfl, rfl, rfl, rfl, rfl, rfl, trivial⟩ rfl (fun b529 hb529 => ⟨(fun _ => sd s0), (sd (sR (sR (sR (sd (sd s0)))))), PL_o rfl rfl (an_ (E := 38) (e := elI) (l := q41) (fun v => v) en_34 rfl (fun w hw => (by rw [hq41]; exact bm_ _ [(wl 1), (wl (-1)), (wl 0), (wl 1), (wl 1)] w (SLe.ap hw (SLe.lit (e := elW) (l := [(wl 1), (wl (-1)), (wl 0), (wl 1), (wl 1)]) m0 rfl (Nat.le_of_ble_eq_true rfl) rfl)) (by first | omega | (simp only [List.length_cons, List.length_nil, and_true, true_and] <;> omega) | simp))) (fun p530 c531 L532 hF533 => ⟨(fun _ => sR s0), (sR (sd (sR (sR (sR (sd (sd s0))))))), ?_⟩))⟩)))
         have hb534 := (by rw [hq41]; exact (bk_ [(wl 1), (wl (-1)), (wl 0), (wl 1), (wl 1)]) : (q41).length ≤ 25)
         have hr535 := (by rw [hq41]; exact (bo_ [(wl 1), (wl (-1)), (wl 0), (wl 1), (wl 1)]) : Rgt q41)
         refine pQ rfl (q_as (v' := .int .i64 q42.1) (aH_ en_35 rfl (fun w hw => (by rw [hq42]; exact cU_ _ q41 w (SLe.ap hw (SLfe.sle (OwnG.slfe hF533 (List.sublist_append_left _ _))))))) rfl) (pE rfl (pE rfl (pE rfl (fl J ?_))))
         refine J5 _ _ (by repeat first | exact .refl | refine .cons rfl ?_) ⟨_, (sR (sd (sR (sR (sR (sd (sd (s0)))))))), ?s8, rfl⟩
         case s8 => exact congrArg Value.bool (and_t h528 rfl)
        ·skip
         refine pB h528 rfl (PL_on rfl rfl (PL_on rfl rfl (PL_n rfl rfl (PL_n rfl rfl (pE rfl (pE rfl (fl J ?_)))))))
         refine J5 _ _ (by repeat first | exact .refl | refine .cons rfl ?_) ⟨_, (sR (sR (sR (sd (sd (s0)))))), ?s8, rfl⟩
         case s8 => exact congrArg Value.bool (and_f h528)
      ·skip
       refine PL_o rfl rfl (az_ [[ci .i64 1], [ci .i64 4], [ci .i64 4]] [ci .i64 1, ci .i64 4, ci .i64 4] us_70 z_3 sz_3 rfl (by decide) rfl rfl ⟨rfl, rfl, rfl, rfl, rfl, rfl, rfl, rfl, rfl, trivial⟩ rfl (fun b536 hb536 => ⟨(fun _ => sd s0), (sd s0), PL_o rfl rfl (az_ [[ci .i64 0], [ci .i64 0], [ci .i64 1]] [ci .i64 0, ci .i64 0, ci .i64 1] us_70 z_3 sz_3 rfl (by decide) rfl rfl ⟨rfl, rfl, rfl, rfl, rfl, rfl, rfl, rfl, rfl, trivial⟩ rfl (fun b537 hb537 => ⟨(fun _ => sd s0), (sd (sd s0)), PL_o rfl rfl (an_ (E := 38) (e := elI) (l := q36) (fun v => v) en_34 rfl (fun w hw => (by rw [hq36]; exact bm_ _ [(wl 0), (wl 0), (wl 1)] w (SLe.ap hw (SLe.lit (e := elW) (l := [(wl 0), (wl 0), (wl 1)]) m0 rfl (Nat.le_of_ble_eq_true rfl) rfl)) (by first | omega | (simp only [List.length_cons, List.length_nil, and_true, true_and] <;> omega) | simp))) (fun p538 c539 L540 hF541 => ⟨(fun _ => sR s0), (sR (sd (sd s0))), ?_⟩))⟩))⟩))
       have hb542 := (by rw [hq36]; exact (bk_ [(wl 0), (wl 0), (wl 1)]) : (q36).length ≤ 25)
       have hr543 := (by rw [hq36]; exact (bo_ [(wl 0), (wl 0), (wl 1)]) : Rgt q36)
       refine pC (AV [pI q37.n, pI q37.d]) en_58 (co_ (wl 1)) rfl rfl (by rw [hq37]; first | done | rfl) ?_
       refine PL_o rfl rfl (an_ (E := 38) (e := elI) (l := q38) (fun v => v) en_55 rfl (fun w hw => (by rw [hq38]; exact cZ_ _ q36 q3 q37 w (SLe.ap hw (SLfe.sle (OwnG.slfe hF541 (List.sublist_append_left _ _)))) (by first | omega | (simp only [List.length_cons, List.length_nil, and_true, true_and] <;> omega) | simp))) (fun p544 c545 L546 hF547 => ⟨(fun _ => sR s0), (sR (sR (sd (sd s0)))), ?_⟩))
       have hb548 := (by rw [hq38]; exact (c0_ q36 q3 q37) : (q38).length ≤ 25)
       refine PL_o rfl rfl (an_ (E := 38) (e := elI) (l := q39) (fun v => v) en_64 rfl (fun w hw => (by rw [hq39]; exact a8_ _ [(wl 1), (wl 4), (wl 4)] w (SLe.ap hw (SLe.lit (e := elW) (l := [(wl 1), (wl 4), (wl 4)]) (List.mem_append_right _ (List.mem_append_right _ (List.mem_cons_of_mem _ (List.mem_cons_self)))) rfl (Nat.le_of_ble_eq_true rfl) rfl)) (by first | omega | (simp only [List.length_cons, List.length_nil, and_true, true_and] <;> omega) | simp))) (fun p549 c550 L551 hF552 => ⟨(fun _ => sR s0), (sR (sR (sR (sd (sd s0))))), ?_⟩))
       have hb553 := (by rw [hq39]; exact (a7_ [(wl 1), (wl 4), (wl 4)]) : (q39).length ≤ 25)
       refine pQ rfl (q_as (v' := .bool q40) (aH_ en_17 rfl (fun w hw => (by rw [hq40]; exact ax_ _ q38 _ q39 w (SLe.ap hw (SLfe.sle (OwnG.slfe hF547 (sR (List.sublist_append_left _ _))))) (SLe.ap hw (SLfe.sle (OwnG.slfe hF552 (List.sublist_append_left _ _))))))) rfl) ?_
       rcases bt q40 with h554 | h554
       ·skip
        refine pB h554 rfl (PL_o rfl rfl (az_ [[ci .i64 1], [ci .i64 (-1)], [ci .i64 0], [ci .i64 1], [ci .i64 1]] [ci .i64 1, ci .i64 (-1), ci .i64 0, ci .i64 1, ci .i64 1] us_70 z_3 sz_3 rfl (by decide) rfl rfl ⟨rfl, rfl, rfl, rfl, rfl, rfl, rfl, rfl, rfl, rfl, rfl, rfl, rfl, rfl, rfl, trivial⟩ rfl (fun b555 hb555 => ⟨(fun _ => sd s0), (sd (sR (sR (sR (sd (sd s0)))))), PL_o rfl rfl (an_ (E := 38) (e := elI) (l := q41) (fun v => v) en_34 rfl (fun w hw => (by rw [hq41]; exact bm_ _ [(wl 1), (wl (-1)), (wl 0), (wl 1), (wl 1)] w (SLe.ap hw (SLe.lit (e := elW) (l := [(wl 1), (wl (-1)), (wl 0), (wl 1), (wl 1)]) m0 rfl (Nat.le_of_ble_eq_true rfl) rfl)) (by first | omega | (simp only [List.length_cons, List.length_nil, and_true, true_and] <;> omega) | simp))) (fun p556 c557 L558 hF559 => ⟨(fun _ => sR s0), (sR (sd (sR (sR (sR (sd (sd s0))))))), ?_⟩))⟩)))
        have hb560 := (by rw [hq41]; exact (bk_ [(wl 1), (wl (-1)), (wl 0), (wl 1), (wl 1)]) : (q41).length ≤ 25)
        have hr561 := (by rw [hq41]; exact (bo_ [(wl 1), (wl (-1)), (wl 0), (wl 1), (wl 1)]) : Rgt q41)
        refine pQ rfl (q_as (v' := .int .i64 q42.1) (aH_ en_35 rfl (fun w hw => (by rw [hq42]; exact cU_ _ q41 w (SLe.ap hw (SLfe.sle (OwnG.slfe hF559 (List.sublist_append_left _ _))))))) rfl) (pE rfl (pE rfl (pE rfl (fl J ?_))))
        refine J5 _ _ (by repeat first | exact .refl | refine .cons rfl ?_) ⟨_, (sR (sd (sR (sR (sR (sd (sd (s0)))))))), ?s8, rfl⟩
        case s8 => exact congrArg Value.bool (and_t h554 rfl)
       ·skip
        refine pB h554 rfl (PL_on rfl rfl (PL_on rfl rfl (PL_n rfl rfl (PL_n rfl rfl (pE rfl (pE rfl (fl J ?_)))))))
        refine J5 _ _ (by repeat first | exact .refl | refine .cons rfl ?_) ⟨_, (sR (sR (sR (sd (sd (s0)))))), ?s8, rfl⟩
        case s8 => exact congrArg Value.bool (and_f h554)
     ·skip
      rintro g562 M ⟨hg8, rfl⟩
      simp only [setG, hg8]
      clear hg8
      refine Rs fun K J => WL_r rfl (az_ [[ci .i64 0], [ci .i64 0], [ci .i64 1]] [ci .i64 0, ci .i64 0, ci .i64 1] us_70 z_3 sz_3 rfl (by decide) rfl rfl ⟨rfl, rfl, rfl, rfl, rfl, rfl, rfl, rfl, rfl, trivial⟩ rfl (fun b563 hb563 => WL_r rfl (an_ (E := 38) (e := elI) (l := q36) (fun v => v) en_34 rfl (fun w hw => (by rw [hq36]; exact bm_ _ [(wl 0), (wl 0), (wl 1)] w (SLe.ap hw (SLe.lit (e := elW) (l := [(wl 0), (wl 0), (wl 1)]) m0 rfl (Nat.le_of_ble_eq_true rfl) rfl)) (by first | omega | (simp only [List.length_cons, List.length_nil, and_true, true_and] <;> omega) | simp))) (fun p564 c565 L566 hF567 => ?_))))
      have hb568 := (by rw [hq36]; exact (bk_ [(wl 0), (wl 0), (wl 1)]) : (q36).length ≤ 25)
      have hr569 := (by rw [hq36]; exact (bo_ [(wl 0), (wl 0), (wl 1)]) : Rgt q36)
      refine sC (AV [pI q43.n, pI q43.d]) en_58 (co_ (wl 0)) rfl rfl (by rw [hq43]; first | done | rfl) ?_
      refine sC (AV [pI q37.n, pI q37.d]) en_58 (co_ (wl 1)) rfl rfl (by rw [hq37]; first | done | rfl) ?_
      refine WL_r rfl (an_ (E := 38) (e := elI) (l := q44) (fun v => .tuple #[v, .bool q45]) en_59 rfl (fun w hw => (by rw [hq44, hq45]; exact eO_ _ q36 q43 q37 w (SLe.ap hw (SLfe.sle (OwnG.slfe hF567 (List.sublist_append_left _ _)))) (by first | omega | (simp only [List.length_cons, List.length_nil, and_true, true_and] <;> omega) | simp))) (fun p570 c571 L572 hF573 => ?_))
      refine sE rfl (sE rfl (sE rfl (sE rfl (sE rfl (nl J (Rs fun K J => WL_r rfl (az_ [[ci .i64 (-1)], [ci .i64 0], [ci .i64 1]] [ci .i64 (-1), ci .i64 0, ci .i64 1] us_70 z_3 sz_3 rfl (by decide) rfl rfl ⟨rfl, rfl, rfl, rfl, rfl, rfl, rfl, rfl, rfl, trivial⟩ rfl (fun b574 hb574 => WL_r rfl (an_ (E := 38) (e := elI) (l := q27) (fun v => v) en_34 rfl (fun w hw => (by rw [hq27]; exact bm_ _ [(wl (-1)), (wl 0), (wl 1)] w (SLe.ap hw (SLe.lit (e := elW) (l := [(wl (-1)), (wl 0), (wl 1)]) m0 rfl (Nat.le_of_ble_eq_true rfl) rfl)) (by first | omega | (simp only [List.length_cons, List.length_nil, and_true, true_and] <;> omega) | simp))) (fun p575 c576 L577 hF578 => ?_))))))))))
      have hb579 := (by rw [hq27]; exact (bk_ [(wl (-1)), (wl 0), (wl 1)]) : (q27).length ≤ 25)
      have hr580 := (by rw [hq27]; exact (bo_ [(wl (-1)), (wl 0), (wl 1)]) : Rgt q27)
      refine sC (AV [pI q43.n, pI q43.d]) en_58 (co_ (wl 0)) rfl rfl (by rw [hq43]; first | done | rfl) ?_
      refine sC (AV [pI q11.n, pI q11.d]) en_58 (co_ (wl 2)) rfl rfl (by rw [hq11]; first | done | rfl) ?_
      refine WL_r rfl (an_ (E := 38) (e := elI) (l := q46) (fun v => .tuple #[v, .bool q47]) en_59 rfl (fun w hw => (by rw [hq46, hq47]; exact eO_ _ q27 q43 q11 w (SLe.ap hw (SLfe.sle (OwnG.slfe hF578 (List.sublist_append_left _ _)))) (by first | omega | (simp only [List.length_cons, List.length_nil, and_true, true_and] <;> omega) | simp))) (fun p581 c582 L583 hF584 => ?_))
      refine sE rfl (sE rfl (sE rfl (sE rfl (sE rfl (nl J ?_)))))
      refine bD_ [13, 117, 118, 119, 120, 121, 122, 123, 124, 125, 126, 127, 128, 129, 130, 131, 132, 133, 134, 135, 136, 137, 138, 139, 140, 141, 142, 143, 144, 145, 146, 147, 148, 149, 150, 151, 152] (fun g M => (g 13 = .bool (q45 && (q47 && (((((q44).length : Nat) : Int) == 3) && (decide ((q44.getD 0 I0) = q48) && (decide ((q44.getD 1 I0) = q48) && (decide ((q44.getD 2 I0) = q49) && q51))))))) ∧ M = (L583 ++ (L577 ++ (⟨b574, 3, flat [ci .i64 (-1), ci .i64 0, ci .i64 1]⟩ :: (L572 ++ (L566 ++ (⟨b563, 3, flat [ci .i64 0, ci .i64 0, ci .i64 1]⟩ :: (L106 ++ (⟨b103, 3, flat [ci .i64 5]⟩ :: (⟨b21, 44, flat [pI q3.n, pI q3.d]⟩ :: (L17 ++ (L11 ++ (⟨b8, 3, flat [ci .i64 (-1), ci .i64 1]⟩ :: (L4 ++ (⟨b1, 3, flat [ci .i64 1, ci .i64 1]⟩ :: []))))))))))))))) (fun K6 J6 => ?_) ?_
      ·skip
       refine dr s0 [0,4,8,12,16,20,24,28,32,36,40,44,48,52,56,60,64,68,72,76,80,84,88,92,96,100,104,108,112,116,120,124,129,133,136,140,144] [] mix (by kernel_rfl) (fun K J => pE rfl ?_)
       rcases bt q45 with h597 | h597
       ·skip
        refine pB h597 rfl (pE rfl (pE rfl ?_))
        rcases bt q47 with h598 | h598
        ·skip
         refine pB h598 rfl (pE rfl (pQ rfl (q_as (v' := .int .i64 (((q44).length : Nat) : Int)) (aS_ (e := elI) sl_22 rfl (SLfe.sle (OwnG.slfe hF573 (sR (sR (sd (List.sublist_append_left _ _))))))) rfl) (pE rfl (pE rfl ?_))))
         rcases bt ((((q44).length : Nat) : Int) == 3) with h599 | h599
         ·skip
          have ph599 := ea_ h599
          refine pB h599 rfl (pE rfl (pQ rfl (q_as (v' := .pointer (some (slb (.slice p570 q44.length c571) (0 * 18 + 0)))) (cp_ (e := elI) (l := q44) (k := 0) sl_22 rfl rfl (SLfe.sle (OwnG.slfe hF573 (sR (sR (sd (List.sublist_append_left _ _)))))) (by first | omega | (simp only [List.length_set, List.length_append, List.length_cons, List.length_nil]; omega))) rfl) ?_))
          refine pQ rfl (q_ldG (e := elI) (l := q44) (k := 0) (o := 0) ty_38 rfl (SLfe.sle (OwnG.slfe hF573 (sR (sR (sd (List.sublist_append_left _ _)))))) (aA_ I0 (by first | omega | (simp only [List.length_set, List.length_append, List.length_cons, List.length_nil]; omega))) rfl) ?_
          refine pC (AV [pI q48]) en_62 (aY_ (wl 0).1 (wl 0).2) rfl rfl (by rw [hq48]; first | done | rfl) ?_
          refine pQ rfl (gd_ (r := decide ((q44.getD 0 I0) = q48)) rfl rfl (dz_ 8 (by decide) eg_38 lw_38 (ek_ lv_pI) (ek_ lv_pI) (fy_ eq_pI))) (pE rfl ?_)
          rcases bt (decide ((q44.getD 0 I0) = q48)) with h600 | h600
          ·skip
           have ph600 := of_decide_eq_true h600
           refine pB h600 rfl (pE rfl (pQ rfl (q_as (v' := .pointer (some (slb (.slice p570 q44.length c571) (1 * 18 + 0)))) (cp_ (e := elI) (l := q44) (k := 1) sl_22 rfl rfl (SLfe.sle (OwnG.slfe hF573 (sR (sR (sd (List.sublist_append_left _ _)))))) (by first | omega | (simp only [List.length_set, List.length_append, List.length_cons, List.length_nil]; omega))) rfl) ?_))
           refine pQ rfl (q_ldG (e := elI) (l := q44) (k := 1) (o := 0) ty_38 rfl (SLfe.sle (OwnG.slfe hF573 (sR (sR (sd (List.sublist_append_left _ _)))))) (aA_ I0 (by first | omega | (simp only [List.length_set, List.length_append, List.length_cons, List.length_nil]; omega))) rfl) ?_
           refine pC (AV [pI q48]) en_62 (aY_ (wl 0).1 (wl 0).2) rfl rfl (by rw [hq48]; first | done | rfl) ?_
           refine pQ rfl (gd_ (r := decide ((q44.getD 1 I0) = q48)) rfl rfl (dz_ 8 (by decide) eg_38 lw_38 (ek_ lv_pI) (ek_ lv_pI) (fy_ eq_pI))) (pE rfl ?_)
           rcases bt (decide ((q44.getD 1 I0) = q48)) with h601 | h601
           ·skip
            have ph601 := of_decide_eq_true h601
            refine pB h601 rfl (pE rfl (pQ rfl (q_as (v' := .pointer (some (slb (.slice p570 q44.length c571) (2 * 18 + 0)))) (cp_ (e := elI) (l := q44) (k := 2) sl_22 rfl rfl (SLfe.sle (OwnG.slfe hF573 (sR (sR (sd (List.sublist_append_left _ _)))))) (by first | omega | (simp only [List.length_set, List.length_append, List.length_cons, List.length_nil]; omega))) rfl) ?_))
            refine pQ rfl (q_ldG (e := elI) (l := q44) (k := 2) (o := 0) ty_38 rfl (SLfe.sle (OwnG.slfe hF573 (sR (sR (sd (List.sublist_append_left _ _)))))) (aA_ I0 (by first | omega | (simp only [List.length_set, List.length_append, List.length_cons, List.length_nil]; omega))) rfl) ?_
            refine pC (AV [pI q49]) en_62 (aY_ (wl 1).1 (wl 1).2) rfl rfl (by rw [hq49]; first | done | rfl) ?_
            refine pQ rfl (gd_ (r := decide ((q44.getD 2 I0) = q49)) rfl rfl (dz_ 8 (by decide) eg_38 lw_38 (ek_ lv_pI) (ek_ lv_pI) (fy_ eq_pI))) (pE rfl ?_)
            rcases bt (decide ((q44.getD 2 I0) = q49)) with h602 | h602
            ·skip
             have ph602 := of_decide_eq_true h602
             refine pB h602 rfl (pE rfl (PL_o rfl rfl (az_ [[ci .i64 (-1)], [ci .i64 (-1)], [ci .i64 3]] [ci .i64 (-1), ci .i64 (-1), ci .i64 3] us_70 z_3 sz_3 rfl (by decide) rfl rfl ⟨rfl, rfl, rfl, rfl, rfl, rfl, rfl, rfl, rfl, trivial⟩ rfl (fun b603 hb603 => ⟨(fun _ => sd s0), (sd s0), PL_o rfl rfl (an_ (E := 38) (e := elI) (l := q50) (fun v => v) en_64 rfl (fun w hw => (by rw [hq50]; exact a8_ _ [(wl (-1)), (wl (-1)), (wl 3)] w (SLe.ap hw (SLe.lit (e := elW) (l := [(wl (-1)), (wl (-1)), (wl 3)]) m0 rfl (Nat.le_of_ble_eq_true rfl) rfl)) (by first | omega | (simp only [List.length_cons, List.length_nil, and_true, true_and] <;> omega) | simp))) (fun p604 c605 L606 hF607 => ⟨(fun _ => sR s0), (sR (sd s0)), ?_⟩))⟩))))
             have hb608 := (by rw [hq50]; exact (a7_ [(wl (-1)), (wl (-1)), (wl 3)]) : (q50).length ≤ 25)
             refine pQ rfl (q_as (v' := .bool q51) (aH_ en_17 rfl (fun w hw => (by rw [hq51]; exact ax_ _ q46 _ q50 w (SLe.ap hw (SLfe.sle (OwnG.slfe hF584 (sR (sd (List.sublist_append_left _ _)))))) (SLe.ap hw (SLfe.sle (OwnG.slfe hF607 (List.sublist_append_left _ _))))))) rfl) (pE rfl (pE rfl (fl J ?_)))
             refine J6 _ _ (by repeat first | exact .refl | refine .cons rfl ?_) ⟨_, (sR (sd (s0))), ?s13, rfl⟩
             case s13 => exact congrArg Value.bool (and_t h597 (and_t h598 (and_t h599 (and_t h600 (and_t h601 (and_t h602 rfl))))))
            ·skip
             have ph602 := of_decide_eq_false h602
             refine pB h602 rfl (PL_n rfl rfl (PL_on rfl rfl (PL_on rfl rfl (PL_n rfl rfl (pE rfl (pE rfl (fl J ?_)))))))
             refine J6 _ _ (by repeat first | exact .refl | refine .cons rfl ?_) ⟨_, s0, ?s13, rfl⟩
             case s13 => exact congrArg Value.bool (and_t h597 (and_t h598 (and_t h599 (and_t h600 (and_t h601 (and_f h602))))))
           ·skip
            have ph601 := of_decide_eq_false h601
            refine pB h601 rfl (PL_n rfl rfl (PL_n rfl rfl (PL_n rfl rfl (PL_n rfl rfl (PL_n rfl rfl (pE rfl (pE rfl (PL_n rfl rfl (PL_on rfl rfl (PL_on rfl rfl (PL_n rfl rfl (pE rfl (pE rfl (fl J ?_))))))))))))))
            refine J6 _ _ (by repeat first | exact .refl | refine .cons rfl ?_) ⟨_, s0, ?s13, rfl⟩
            case s13 => exact congrArg Value.bool (and_t h597 (and_t h598 (and_t h599 (and_t h600 (and_f h601)))))
          ·skip
           have ph600 := of_decide_eq_false h600
           refine pB h600 rfl (PL_n rfl rfl (PL_n rfl rfl (PL_n rfl rfl (PL_n rfl rfl (PL_n rfl rfl (pE rfl (pE rfl (PL_n rfl rfl (PL_n rfl rfl (PL_n rfl rfl (PL_n rfl rfl (PL_n rfl rfl (pE rfl (pE rfl (PL_n rfl rfl (PL_on rfl rfl (PL_on rfl rfl (PL_n rfl rfl (pE rfl ?_)))))))))))))))))))
           refine pE rfl (fl J ?_)
           refine J6 _ _ (by repeat first | exact .refl | refine .cons rfl ?_) ⟨_, s0, ?s13, rfl⟩
           case s13 => exact congrArg Value.bool (and_t h597 (and_t h598 (and_t h599 (and_f h600))))
         ·skip
          have ph599 := c9_ h599
          refine pB h599 rfl (PL_n rfl rfl (PL_n rfl rfl (PL_n rfl rfl (PL_n rfl rfl (PL_n rfl rfl (pE rfl (pE rfl (PL_n rfl rfl (PL_n rfl rfl (PL_n rfl rfl (PL_n rfl rfl (PL_n rfl rfl (pE rfl (pE rfl (PL_n rfl rfl (PL_n rfl rfl (PL_n rfl rfl (PL_n rfl rfl (PL_n rfl rfl ?_)))))))))))))))))))
          refine pE rfl (pE rfl (PL_n rfl rfl (PL_on rfl rfl (PL_on rfl rfl (PL_n rfl rfl (pE rfl (pE rfl (fl J ?_))))))))
          refine J6 _ _ (by repeat first | exact .refl | refine .cons rfl ?_) ⟨_, s0, ?s13, rfl⟩
          case s13 => exact congrArg Value.bool (and_t h597 (and_t h598 (and_f h599)))
        ·skip
         refine pB h598 rfl (PL_n rfl rfl (PL_n rfl rfl (PL_n rfl rfl (pE rfl (pE rfl (PL_n rfl rfl (PL_n rfl rfl (PL_n rfl rfl (PL_n rfl rfl (PL_n rfl rfl (pE rfl (pE rfl (PL_n rfl rfl (PL_n rfl rfl (PL_n rfl rfl (PL_n rfl rfl (PL_n rfl rfl (pE rfl (pE rfl ?_)))))))))))))))))))
         refine PL_n rfl rfl (PL_n rfl rfl (PL_n rfl rfl (PL_n rfl rfl (PL_n rfl rfl (pE rfl (pE rfl (PL_n rfl rfl (PL_on rfl rfl (PL_on rfl rfl (PL_n rfl rfl (pE rfl (pE rfl (fl J ?_)))))))))))))
         refine J6 _ _ (by repeat first | exact .refl | refine .cons rfl ?_) ⟨_, s0, ?s13, rfl⟩
         case s13 => exact congrArg Value.bool (and_t h597 (and_f h598))
       ·skip
        refine pB h597 rfl (PL_n rfl rfl (pE rfl (pE rfl (PL_n rfl rfl (PL_n rfl rfl (PL_n rfl rfl (pE rfl (pE rfl (PL_n rfl rfl (PL_n rfl rfl (PL_n rfl rfl (PL_n rfl rfl (PL_n rfl rfl (pE rfl (pE rfl (PL_n rfl rfl (PL_n rfl rfl (PL_n rfl rfl (PL_n rfl rfl ?_)))))))))))))))))))
        refine PL_n rfl rfl (pE rfl (pE rfl (PL_n rfl rfl (PL_n rfl rfl (PL_n rfl rfl (PL_n rfl rfl (PL_n rfl rfl (pE rfl (pE rfl (PL_n rfl rfl (PL_on rfl rfl (PL_on rfl rfl (PL_n rfl rfl (pE rfl (pE rfl (fl J ?_))))))))))))))))
        refine J6 _ _ (by repeat first | exact .refl | refine .cons rfl ?_) ⟨_, s0, ?s13, rfl⟩
        case s13 => exact congrArg Value.bool (and_f h597)
      ·skip
       rintro g609 M ⟨hg13, rfl⟩
       simp only [setG, hg13]
       clear hg13
       refine bD_ [0, 153, 154, 155, 156, 157, 158, 159, 160, 161, 162, 163, 164, 165, 166, 167, 168, 169, 170, 171, 172, 173, 174, 175, 176, 177, 178, 179] (fun g M => (g 0 = .bool ((q5 && q8) && (((decide (q10.n = q11.n) && decide (q10.d = q11.d)) && (decide (q13.n = q14.n) && decide (q13.d = q14.d))) && ((q19 && q22) && ((q26 && (q31 && q35)) && ((q40 && (q42.1 == 2)) && ((q45 && (q47 && (((((q44).length : Nat) : Int) == 3) && (decide ((q44.getD 0 I0) = q48) && (decide ((q44.getD 1 I0) = q48) && (decide ((q44.getD 2 I0) = q49) && q51)))))) && (q54 && (q56.1 == (-1)))))))))) ∧ M = (L583 ++ (L577 ++ (⟨b574, 3, flat [ci .i64 (-1), ci .i64 0, ci .i64 1]⟩ :: (L572 ++ (L566 ++ (⟨b563, 3, flat [ci .i64 0, ci .i64 0, ci .i64 1]⟩ :: (L106 ++ (⟨b103, 3, flat [ci .i64 5]⟩ :: (⟨b21, 44, flat [pI q3.n, pI q3.d]⟩ :: (L17 ++ (L11 ++ (⟨b8, 3, flat [ci .i64 (-1), ci .i64 1]⟩ :: (L4 ++ (⟨b1, 3, flat [ci .i64 1, ci .i64 1]⟩ :: []))))))))))))))) (fun K7 J7 => ?_) ?_
       ·skip
        refine Rk fun K J => sE rfl ?_
        rcases bt (q5 && q8) with h633 | h633
        ·skip
         refine sB h633 rfl (sE rfl (sE rfl ?_))
         rcases bt ((decide (q10.n = q11.n) && decide (q10.d = q11.d)) && (decide (q13.n = q14.n) && decide (q13.d = q14.d))) with h634 | h634
         ·skip
          refine sB h634 rfl (sE rfl (sE rfl ?_))
          rcases bt (q19 && q22) with h635 | h635
          ·skip
           refine sB h635 rfl (sE rfl (sE rfl ?_))
           rcases bt (q26 && (q31 && q35)) with h636 | h636
           ·skip
            refine sB h636 rfl (sE rfl (sE rfl ?_))
            rcases bt (q40 && (q42.1 == 2)) with h637 | h637
            ·skip
             refine sB h637 rfl (sE rfl (sE rfl ?_))
             rcases bt (q45 && (q47 && (((((q44).length : Nat) : Int) == 3) && (decide ((q44.getD 0 I0) = q48) && (decide ((q44.getD 1 I0) = q48) && (decide ((q44.getD 2 I0) = q49) && q51)))))) with h638 | h638
             ·skip
              have ph639 := ea_ (Bool.and_eq_true_iff.1 (Bool.and_eq_true_iff.1 (Bool.and_eq_true_iff.1 h638).2).2).1
              have ph640 := of_decide_eq_true (Bool.and_eq_true_iff.1 (Bool.and_eq_true_iff.1 (Bool.and_eq_true_iff.1 (Bool.and_eq_true_iff.1 h638).2).2).2).1
              have ph641 := of_decide_eq_true (Bool.and_eq_true_iff.1 (Bool.and_eq_true_iff.1 (Bool.and_eq_true_iff.1 (Bool.and_eq_true_iff.1 (Bool.and_eq_true_iff.1 h638).2).2).2).2).1
              have ph642 := of_decide_eq_true (Bool.and_eq_true_iff.1 (Bool.and_eq_true_iff.1 (Bool.and_eq_true_iff.1 (Bool.and_eq_true_iff.1 (Bool.and_eq_true_iff.1 (Bool.and_eq_true_iff.1 h638).2).2).2).2).2).1
              refine sB h638 rfl (sC (AV [pI q52]) en_65 bz_ rfl rfl (by rw [hq52]; first | done | rfl) (WL_r rfl (az_ [[pI q52]] [pI q52] us_22 z_38 sz_38 rfl (by decide) rfl rfl ⟨rfl, rfl, rfl, trivial⟩ rfl (fun b643 hb643 => WL_r rfl (an_ (E := 38) (e := elI) (l := q53) (fun v => v) en_15 rfl (fun w hw => (by rw [hq53]; exact dh_ _ [q52] w (SLe.ap hw (SLe.lit (e := elI) (l := [q52]) m0 rfl (Nat.le_of_ble_eq_true rfl) rfl)) (by first | omega | (simp only [List.length_cons, List.length_nil, and_true, true_and] <;> omega) | simp))) (fun p644 c645 L646 hF647 => ?_))))))
              have hb648 := (by rw [hq53]; exact (cw_ [q52]) : (q53).length ≤ 25)
              refine sQ (q_as (v' := .bool q54) (aH_ en_18 rfl (fun w hw => (by rw [hq54]; exact aC_ _ q53 w (SLe.ap hw (SLfe.sle (OwnG.slfe hF647 (List.sublist_append_left _ _))))))) rfl) rfl (sE rfl ?_)
              rcases bt q54 with h649 | h649
              ·skip
               refine sB h649 rfl (WL_r rfl (an_ (E := 38) (e := elI) (l := q55) (fun v => v) en_34 rfl (fun w hw => (by rw [hq55]; exact bm_ _ ([] : List W) w (SLe.ap hw (SLfe.sle SLfe.nil)) (by first | omega | (simp only [List.length_cons, List.length_nil, and_true, true_and] <;> omega) | simp))) (fun p650 c651 L652 hF653 => ?_)))
               have hb654 := (by rw [hq55]; exact (bk_ ([] : List W)) : (q55).length ≤ 25)
               have hr655 := (by rw [hq55]; exact (bo_ ([] : List W)) : Rgt q55)
               refine sQ (q_as (v' := .int .i64 q56.1) (aH_ en_20 rfl (fun w hw => (by rw [hq56]; exact fv_ _ q55 w (SLe.ap hw (SLfe.sle (OwnG.slfe hF653 (List.sublist_append_left _ _))))))) rfl) rfl (sE rfl (sE rfl (sE rfl (nl J ?_))))
               refine J7 _ _ (by repeat first | exact .refl | refine .cons rfl ?_) ⟨_, (sR (sR (sd (s0)))), ?s0, rfl⟩
               case s0 => exact congrArg Value.bool (and_t h633 (and_t h634 (and_t h635 (and_t h636 (and_t h637 (and_t h638 (and_t h649 rfl)))))))
              ·skip
               refine sB h649 rfl (WL_n rfl (WL_n rfl (WL_n rfl (sE rfl (sE rfl (nl J ?_))))))
               refine J7 _ _ (by repeat first | exact .refl | refine .cons rfl ?_) ⟨_, (sR (sd (s0))), ?s0, rfl⟩
               case s0 => exact congrArg Value.bool (and_t h633 (and_t h634 (and_t h635 (and_t h636 (and_t h637 (and_t h638 (and_f h649)))))))
             ·skip
              refine sB h638 rfl (WL_n rfl (WL_n rfl (WL_n rfl (WL_n rfl (sE rfl (sE rfl (WL_n rfl (WL_n rfl (WL_n rfl (sE rfl (sE rfl (nl J ?_))))))))))))
              refine J7 _ _ (by repeat first | exact .refl | refine .cons rfl ?_) ⟨_, s0, ?s0, rfl⟩
              case s0 => exact congrArg Value.bool (and_t h633 (and_t h634 (and_t h635 (and_t h636 (and_t h637 (and_f h638))))))
            ·skip
             refine sB h637 rfl (WL_n rfl (sE rfl (sE rfl (WL_n rfl (WL_n rfl (WL_n rfl (WL_n rfl (sE rfl (sE rfl (WL_n rfl (WL_n rfl (WL_n rfl (sE rfl (sE rfl (nl J ?_)))))))))))))))
             refine J7 _ _ (by repeat first | exact .refl | refine .cons rfl ?_) ⟨_, s0, ?s0, rfl⟩
             case s0 => exact congrArg Value.bool (and_t h633 (and_t h634 (and_t h635 (and_t h636 (and_f h637)))))
           ·skip
            refine sB h636 rfl (WL_n rfl (sE rfl (sE rfl (WL_n rfl (sE rfl (sE rfl (WL_n rfl (WL_n rfl (WL_n rfl (WL_n rfl (sE rfl (sE rfl (WL_n rfl (WL_n rfl (WL_n rfl (sE rfl (sE rfl (nl J ?_))))))))))))))))))
            refine J7 _ _ (by repeat first | exact .refl | refine .cons rfl ?_) ⟨_, s0, ?s0, rfl⟩
            case s0 => exact congrArg Value.bool (and_t h633 (and_t h634 (and_t h635 (and_f h636))))
          ·skip
           refine sB h635 rfl (WL_n rfl (sE rfl (sE rfl (WL_n rfl (sE rfl (sE rfl (WL_n rfl (sE rfl (sE rfl (WL_n rfl (WL_n rfl (WL_n rfl (WL_n rfl (sE rfl (sE rfl (WL_n rfl (WL_n rfl (WL_n rfl (sE rfl ?_)))))))))))))))))))
           refine sE rfl (nl J ?_)
           refine J7 _ _ (by repeat first | exact .refl | refine .cons rfl ?_) ⟨_, s0, ?s0, rfl⟩
           case s0 => exact congrArg Value.bool (and_t h633 (and_t h634 (and_f h635)))
         ·skip
          refine sB h634 rfl (WL_n rfl (sE rfl (sE rfl (WL_n rfl (sE rfl (sE rfl (WL_n rfl (sE rfl (sE rfl (WL_n rfl (sE rfl (sE rfl (WL_n rfl (WL_n rfl (WL_n rfl (WL_n rfl (sE rfl (sE rfl (WL_n rfl ?_)))))))))))))))))))
          refine WL_n rfl (WL_n rfl (sE rfl (sE rfl (nl J ?_))))
          refine J7 _ _ (by repeat first | exact .refl | refine .cons rfl ?_) ⟨_, s0, ?s0, rfl⟩
          case s0 => exact congrArg Value.bool (and_t h633 (and_f h634))
        ·skip
         refine sB h633 rfl (WL_n rfl (sE rfl (sE rfl (WL_n rfl (sE rfl (sE rfl (WL_n rfl (sE rfl (sE rfl (WL_n rfl (sE rfl (sE rfl (WL_n rfl (sE rfl (sE rfl (WL_n rfl (WL_n rfl (WL_n rfl (WL_n rfl ?_)))))))))))))))))))
         refine sE rfl (sE rfl (WL_n rfl (WL_n rfl (WL_n rfl (sE rfl (sE rfl (nl J ?_)))))))
         refine J7 _ _ (by repeat first | exact .refl | refine .cons rfl ?_) ⟨_, s0, ?s0, rfl⟩
         case s0 => exact congrArg Value.bool (and_f h633)
       ·skip
        rintro g656 M ⟨hg0, rfl⟩
        simp only [setG, hg0]
        clear hg0
        refine W_ret (ret1 rfl (.inr rfl) rfl ?_)
        exact (by subst hq56; subst hq55; subst hq54; subst hq53; subst hq52; subst hq51; subst hq50; subst hq49; subst hq48; subst hq47; subst hq46; subst hq45; subst hq44; subst hq43; subst hq42; subst hq41; subst hq40; subst hq39; subst hq38; subst hq37; subst hq36; subst hq35; subst hq34; subst hq33; subst hq32; subst hq31; subst hq30; subst hq29; subst hq28; subst hq27; subst hq26; subst hq25; subst hq24; subst hq23; subst hq22; subst hq21; subst hq20; subst hq19; subst hq18; subst hq17; subst hq16; subst hq15; subst hq14; subst hq13; subst hq12; subst hq11; subst hq10; subst hq9; subst hq8; subst hq7; subst hq6; subst hq5; subst hq4; subst hq3; subst hq2; subst hq1; subst hq0; rfl)
end Go.Proofs.YtjdfogfmeibkgaaGreat

