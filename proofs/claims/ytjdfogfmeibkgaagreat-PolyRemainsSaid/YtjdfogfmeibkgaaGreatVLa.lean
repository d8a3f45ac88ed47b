/- Walks: what these functions return. -/
import Derived.Test.YtjdfogfmeibkgaaGreatVGE
import Derived.Test.YtjdfogfmeibkgaaGreatVFp
import Derived.Test.YtjdfogfmeibkgaaGreatVWi
import Derived.Test.YtjdfogfmeibkgaaGreatVGf
import Derived.Test.YtjdfogfmeibkgaaGreatVWa
import Derived.Test.YtjdfogfmeibkgaaGreatVWc
import Derived.Test.YtjdfogfmeibkgaaGreatVYb
import Derived.Test.YtjdfogfmeibkgaaGreatVYc
import Derived.Test.YtjdfogfmeibkgaaGreatVYf
import Derived.Test.YtjdfogfmeibkgaaGreatVYg
import Derived.Test.YtjdfogfmeibkgaaGreatVYr
import Derived.Test.YtjdfogfmeibkgaaGreatVYs
namespace Go.Proofs.YtjdfogfmeibkgaaGreat
open Go.Kn Go.Num
set_option linter.unusedVariables false
set_option linter.unusedSimpArgs false
set_option maxRecDepth 20000
set_option maxHeartbeats 8000000
theorem dm_  :
    Ret Tryz.prog 14 [] (.bool bz_) := by
 refine aI_ (N := 180) Tryz.func14 rfl rfl (by simp) (fun w0 => ?_)
 simp only [initF, Nat.reduceAdd]
 obtain ⟨q0, hq0⟩ := nm ((bb_ [(wl 1), (wl 1)]) : (List I))
 obtain ⟨q1, hq1⟩ := nm ((bb_ [(wl (-1)), (wl 1)]) : (List I))
 obtain ⟨q2, hq2⟩ := nm ((as_ q0 q1) : (List I))
 obtain ⟨q3, hq3⟩ := nm ((ej_ (wl 1) (wl 2)) : Rt)
 obtain ⟨q4, hq4⟩ := nm ((au_ [(wl (-1)), (wl 0), (wl 1)]) : (List I))
 obtain ⟨q5, hq5⟩ := nm ((af_ q2 q4) : Bool)
 obtain ⟨q6, hq6⟩ := nm ((ac_ q2) : (List I))
 obtain ⟨q7, hq7⟩ := nm ((au_ [(wl 0), (wl 2)]) : (List I))
 obtain ⟨q8, hq8⟩ := nm ((af_ q6 q7) : Bool)
 obtain ⟨q9, hq9⟩ := nm ((bb_ [(wl 1), (wl 0), (wl 4)]) : (List I))
 obtain ⟨q10, hq10⟩ := nm ((dC_ q9 q3) : Rt)
 obtain ⟨q11, hq11⟩ := nm ((ck_ (wl 2)) : Rt)
 obtain ⟨q12, hq12⟩ := nm ((ck_ (wl (-3))) : Rt)
 obtain ⟨q13, hq13⟩ := nm ((dC_ q9 q12) : Rt)
 obtain ⟨q14, hq14⟩ := nm ((ck_ (wl 37)) : Rt)
 obtain ⟨q15, hq15⟩ := nm ((au_ [(wl 5)]) : (List I))
 obtain ⟨q16, hq16⟩ := nm ((bb_ [(wl 1), (wl 0), (wl 1)]) : (List I))
 obtain ⟨q17, hq17⟩ := nm ((bb_ [(wl 1), (wl 2)]) : (List I))
 obtain ⟨q18, hq18⟩ := nm ((ay_ q16 q17) : (List I))
 obtain ⟨q19, hq19⟩ := nm ((af_ q18 q15) : Bool)
 obtain ⟨q20, hq20⟩ := nm ((bb_ [(wl 1), (wl (-2))]) : (List I))
 obtain ⟨q21, hq21⟩ := nm ((ay_ q16 q20) : (List I))
 obtain ⟨q22, hq22⟩ := nm ((af_ q21 q15) : Bool)
 obtain ⟨q23, hq23⟩ := nm ((bb_ [(wl (-4)), (wl 6)]) : (List I))
 obtain ⟨q24, hq24⟩ := nm ((aa_ q23) : (List I))
 obtain ⟨q25, hq25⟩ := nm ((au_ [(wl (-2)), (wl 3)]) : (List I))
 obtain ⟨q26, hq26⟩ := nm ((af_ q24 q25) : Bool)
 obtain ⟨q27, hq27⟩ := nm ((bb_ [(wl (-1)), (wl 0), (wl 1)]) : (List I))
 obtain ⟨q28, hq28⟩ := nm ((bb_ [(wl 2), (wl (-2))]) : (List I))
 obtain ⟨q29, hq29⟩ := nm ((ae_ q27 q28) : (List I))
 obtain ⟨q30, hq30⟩ := nm ((au_ [(wl (-1)), (wl 1)]) : (List I))
 obtain ⟨q31, hq31⟩ := nm ((af_ q29 q30) : Bool)
 obtain ⟨q32, hq32⟩ := nm ((bb_ [(wl 0), (wl 0), (wl 3), (wl 3)]) : (List I))
 obtain ⟨q33, hq33⟩ := nm ((cR_ q32) : (List I))
 obtain ⟨q34, hq34⟩ := nm ((au_ [(wl 0), (wl 1), (wl 1)]) : (List I))
 obtain ⟨q35, hq35⟩ := nm ((af_ q33 q34) : Bool)
 obtain ⟨q36, hq36⟩ := nm ((bb_ [(wl 0), (wl 0), (wl 1)]) : (List I))
 obtain ⟨q37, hq37⟩ := nm ((ck_ (wl 1)) : Rt)
 obtain ⟨q38, hq38⟩ := nm ((bg_ q36 q3 q37) : (List I))
 obtain ⟨q39, hq39⟩ := nm ((au_ [(wl 1), (wl 4), (wl 4)]) : (List I))
 obtain ⟨q40, hq40⟩ := nm ((af_ q38 q39) : Bool)
 obtain ⟨q41, hq41⟩ := nm ((bb_ [(wl 1), (wl (-1)), (wl 0), (wl 1), (wl 1)]) : (List I))
 obtain ⟨q42, hq42⟩ := nm ((ct_ q41) : W)
 obtain ⟨q43, hq43⟩ := nm ((ck_ (wl 0)) : Rt)
 obtain ⟨q44, hq44⟩ := nm ((aT_ q36 q43 q37).1 : (List I))
 obtain ⟨q45, hq45⟩ := nm ((aT_ q36 q43 q37).2 : Bool)
 obtain ⟨q46, hq46⟩ := nm ((aT_ q27 q43 q11).1 : (List I))
 obtain ⟨q47, hq47⟩ := nm ((aT_ q27 q43 q11).2 : Bool)
 obtain ⟨q48, hq48⟩ := nm ((E (Z.of 0)) : I)
 obtain ⟨q49, hq49⟩ := nm ((E (Z.of 1)) : I)
 obtain ⟨q50, hq50⟩ := nm ((au_ [(wl (-1)), (wl (-1)), (wl 3)]) : (List I))
 obtain ⟨q51, hq51⟩ := nm ((af_ q46 q50) : Bool)
 obtain ⟨q52, hq52⟩ := nm ((E Z.bad) : I)
 obtain ⟨q53, hq53⟩ := nm ((ah_ [q52]) : (List I))
 obtain ⟨q54, hq54⟩ := nm ((ab_ q53) : Bool)
 obtain ⟨q55, hq55⟩ := nm ((bb_ ([] : List W)) : (List I))
 obtain ⟨q56, hq56⟩ := nm ((dp_ q55) : W)
 refine Rs fun K J => sE rfl (nl J (Rs fun K J => WL_r rfl (av_ [[ci .i64 1], [ci .i64 1]] [ci .i64 1, ci .i64 1] us_70 z_3 sz_3 rfl (by decide) rfl rfl ⟨rfl, rfl, rfl, rfl, rfl, rfl, trivial⟩ rfl (fun b1 hb1 => WL_r rfl (ao_ (E := 38) (e := elI) (l := q0) (fun v => v) en_34 rfl (fun w hw => (by rw [hq0]; exact bl_ _ [(wl 1), (wl 1)] w (SLe.ap hw (SLe.lit (e := elW) (l := [(wl 1), (wl 1)]) m0 rfl (Nat.le_of_ble_eq_true rfl) rfl)) (by first | omega | (simp only [List.length_cons, List.length_nil, and_true, true_and] <;> omega) | simp))) (fun p2 c3 L4 hF5 => ?_))))))
 have hb6 := (by rw [hq0]; exact (bk_ [(wl 1), (wl 1)]) : (q0).length ≤ 25)
 have hr7 := (by rw [hq0]; exact (bh_ [(wl 1), (wl 1)]) : Rgt q0)
 refine WL_r rfl (av_ [[ci .i64 (-1)], [ci .i64 1]] [ci .i64 (-1), ci .i64 1] us_70 z_3 sz_3 rfl (by decide) rfl rfl ⟨rfl, rfl, rfl, rfl, rfl, rfl, trivial⟩ rfl (fun b8 hb8 => WL_r rfl (ao_ (E := 38) (e := elI) (l := q1) (fun v => v) en_34 rfl (fun w hw => (by rw [hq1]; exact bl_ _ [(wl (-1)), (wl 1)] w (SLe.ap hw (SLe.lit (e := elW) (l := [(wl (-1)), (wl 1)]) m0 rfl (Nat.le_of_ble_eq_true rfl) rfl)) (by first | omega | (simp only [List.length_cons, List.length_nil, and_true, true_and] <;> omega) | simp))) (fun p9 c10 L11 hF12 => ?_))))
 have hb13 := (by rw [hq1]; exact (bk_ [(wl (-1)), (wl 1)]) : (q1).length ≤ 25)
 have hr14 := (by rw [hq1]; exact (bh_ [(wl (-1)), (wl 1)]) : Rgt q1)
 refine WL_r rfl (ao_ (E := 38) (e := elI) (l := q2) (fun v => v) en_31 rfl (fun w hw => (by rw [hq2]; exact eZ_ _ q0 _ q1 w (SLe.ap hw (SLfe.sle (OwnG.slfe hF5 (sR (sd (List.sublist_append_left _ _)))))) (SLe.ap hw (SLfe.sle (OwnG.slfe hF12 (List.sublist_append_left _ _)))) (by first | omega | (simp only [List.length_cons, List.length_nil, and_true, true_and] <;> omega) | simp))) (fun p15 c16 L17 hF18 => ?_))
 have hb19 := (by rw [hq2]; exact (fd_ q0 q1) : (q2).length ≤ 25)
 have hr20 := (by rw [hq2]; exact (e4_ q0 q1) : Rgt q2)
 refine sE rfl (nl J (Rs fun K J => sC (AV [pI q3.n, pI q3.d]) en_63 (hw_ (wl 1) (wl 2)) rfl rfl (by rw [hq3]; first | done | rfl) ?_))
 refine sN zp_44 rfl fun b21 hb21 => sS [pI q3.n, pI q3.d] ty_44 rfl rfl rfl rfl rfl (.head _) rfl hb21 (nl J ?_)
 refine bJ_ [3, 20, 21, 22, 23, 24, 25, 26, 27, 28, 29, 30] (fun g M => (g 3 = .bool (q5 && q8)) ∧ M = (⟨b21, 44, flat [pI q3.n, pI q3.d]⟩ :: (L17 ++ (L11 ++ (⟨b8, 3, flat [ci .i64 (-1), ci .i64 1]⟩ :: (L4 ++ (⟨b1, 3, flat [ci .i64 1, ci .i64 1]⟩ :: []))))))) (fun K1 J1 => ?_) ?_
 ·skip
  refine Rk fun K J => sE rfl (WL_r rfl (av_ [[ci .i64 (-1)], [ci .i64 0], [ci .i64 1]] [ci .i64 (-1), ci .i64 0, ci .i64 1] us_70 z_3 sz_3 rfl (by decide) rfl rfl ⟨rfl, rfl, rfl, rfl, rfl, rfl, rfl, rfl, rfl, trivial⟩ rfl (fun b46 hb46 => WL_r rfl (ao_ (E := 38) (e := elI) (l := q4) (fun v => v) en_64 rfl (fun w hw => (by rw [hq4]; exact a6_ _ [(wl (-1)), (wl 0), (wl 1)] w (SLe.ap hw (SLe.lit (e := elW) (l := [(wl (-1)), (wl 0), (wl 1)]) m0 rfl (Nat.le_of_ble_eq_true rfl) rfl)) (by first | omega | (simp only [List.length_cons, List.length_nil, and_true, true_and] <;> omega) | simp))) (fun p47 c48 L49 hF50 => ?_)))))
  have hb51 := (by rw [hq4]; exact (a7_ [(wl (-1)), (wl 0), (wl 1)]) : (q4).length ≤ 25)
  refine sQ (q_as (v' := .bool q5) (aM_ en_17 rfl (fun w hw => (by rw [hq5]; exact az_ _ q2 _ q4 w (SLe.ap hw (SLfe.sle (OwnG.slfe hF18 (sR (sd (sd (List.sublist_append_left _ _))))))) (SLe.ap hw (SLfe.sle (OwnG.slfe hF50 (List.sublist_append_left _ _))))))) rfl) rfl ?_
  rcases bt q5 with h52 | h52
  ·skip
   refine sB h52 rfl (sE rfl (WL_r rfl (ao_ (E := 38) (e := elI) (l := q6) (fun v => v) en_33 rfl (fun w hw => (by rw [hq6]; exact e3_ _ q2 w (SLe.ap hw (SLfe.sle (OwnG.slfe hF18 (sR (sd (sd (List.sublist_append_left _ _))))))) (by first | omega | (simp only [List.length_cons, List.length_nil, and_true, true_and] <;> omega) | simp))) (fun p53 c54 L55 hF56 => ?_))))
   have hb57 := (by rw [hq6]; exact (cW_ q2) : (q6).length ≤ 25)
   refine WL_r rfl (av_ [[ci .i64 0], [ci .i64 2]] [ci .i64 0, ci .i64 2] us_70 z_3 sz_3 rfl (by decide) rfl rfl ⟨rfl, rfl, rfl, rfl, rfl, rfl, trivial⟩ rfl (fun b58 hb58 => WL_r rfl (ao_ (E := 38) (e := elI) (l := q7) (fun v => v) en_64 rfl (fun w hw => (by rw [hq7]; exact a6_ _ [(wl 0), (wl 2)] w (SLe.ap hw (SLe.lit (e := elW) (l := [(wl 0), (wl 2)]) m0 rfl (Nat.le_of_ble_eq_true rfl) rfl)) (by first | omega | (simp only [List.length_cons, List.length_nil, and_true, true_and] <;> omega) | simp))) (fun p59 c60 L61 hF62 => ?_))))
   have hb63 := (by rw [hq7]; exact (a7_ [(wl 0), (wl 2)]) : (q7).length ≤ 25)
   refine sQ (q_as (v' := .bool q8) (aM_ en_17 rfl (fun w hw => (by rw [hq8]; exact az_ _ q6 _ q7 w (SLe.ap hw (SLfe.sle (OwnG.slfe hF56 (sR (sd (List.sublist_append_left _ _)))))) (SLe.ap hw (SLfe.sle (OwnG.slfe hF62 (List.sublist_append_left _ _))))))) rfl) rfl (sE rfl (sE rfl (nl J ?_)))
   refine J1 _ _ (by repeat first | exact .refl | refine .cons rfl ?_) ⟨_, (sR (sd (sR (sR (sd (s0)))))), ?s3, rfl⟩
   case s3 => exact congrArg Value.bool (and_t h52 rfl)
  ·skip
   refine sB h52 rfl (WL_n rfl (WL_n rfl (WL_n rfl (WL_n rfl (WL_n rfl (sE rfl (sE rfl (nl J ?_))))))))
   refine J1 _ _ (by repeat first | exact .refl | refine .cons rfl ?_) ⟨_, (sR (sd (s0))), ?s3, rfl⟩
   case s3 => exact congrArg Value.bool (and_f h52)
 ·skip
  rintro g64 M ⟨hg3, rfl⟩
  simp only [setG, hg3]
  clear hg3
  refine bJ_ [4, 31, 32, 33, 34, 35, 36, 37, 38, 39, 40, 41, 42, 43, 44] (fun g M => (g 4 = .bool ((decide (q10.n = q11.n) && decide (q10.d = q11.d)) && (decide (q13.n = q14.n) && decide (q13.d = q14.d)))) ∧ M = (⟨b21, 44, flat [pI q3.n, pI q3.d]⟩ :: (L17 ++ (L11 ++ (⟨b8, 3, flat [ci .i64 (-1), ci .i64 1]⟩ :: (L4 ++ (⟨b1, 3, flat [ci .i64 1, ci .i64 1]⟩ :: []))))))) (fun K2 J2 => ?_) ?_
  ·skip
   refine dr s0 [8,1,5,12,16,20,24,29,33,36,40,44,48,52,56] [] mix (by kernel_rfl) (fun K J => pQ rfl (qL ty_44 rfl m0 rfl) (PL_o rfl rfl (av_ [[ci .i64 1], [ci .i64 0], [ci .i64 4]] [ci .i64 1, ci .i64 0, ci .i64 4] us_70 z_3 sz_3 rfl (by decide) rfl rfl ⟨rfl, rfl, rfl, rfl, rfl, rfl, rfl, rfl, rfl, trivial⟩ rfl (fun b87 hb87 => ⟨(fun _ => sd s0), (sd s0), PL_o rfl rfl (ao_ (E := 38) (e := elI) (l := q9) (fun v => v) en_34 rfl (fun w hw => (by rw [hq9]; exact bl_ _ [(wl 1), (wl 0), (wl 4)] w (SLe.ap hw (SLe.lit (e := elW) (l := [(wl 1), (wl 0), (wl 4)]) m0 rfl (Nat.le_of_ble_eq_true rfl) rfl)) (by first | omega | (simp only [List.length_cons, List.length_nil, and_true, true_and] <;> omega) | simp))) (fun p88 c89 L90 hF91 => ⟨(fun _ => sR s0), (sR (sd s0)), ?_⟩))⟩))))
   have hb92 := (by rw [hq9]; exact (bk_ [(wl 1), (wl 0), (wl 4)]) : (q9).length ≤ 25)
   have hr93 := (by rw [hq9]; exact (bh_ [(wl 1), (wl 0), (wl 4)]) : Rgt q9)
   refine pQ rfl (q_as (v' := AV [pI q10.n, pI q10.d]) (aM_ en_40 rfl (fun w hw => (by rw [hq10]; exact f5_ _ q9 q3 w (SLe.ap hw (SLfe.sle (OwnG.slfe hF91 (List.sublist_append_left _ _)))) (by first | omega | (simp only [List.length_cons, List.length_nil, and_true, true_and] <;> omega) | simp)))) rfl) ?_
   refine pC (AV [pI q11.n, pI q11.d]) en_58 (cf_ (wl 2)) rfl rfl (by rw [hq11]; first | done | rfl) ?_
   refine pQ rfl (f3_ (r := (decide (q10.n = q11.n) && decide (q10.d = q11.d))) rfl rfl (dg_ 8 (by decide) eg_44 lw_44 (ie_ lv_pI (dX_ lv_pI)) (ie_ lv_pI (dX_ lv_pI)) (j9_ rfl eq_pI (e0_ eq_pI)))) ?_
   rcases bt (decide (q10.n = q11.n) && decide (q10.d = q11.d)) with h94 | h94
   ·skip
    refine pB h94 rfl (PL_o rfl rfl (av_ [[ci .i64 1], [ci .i64 0], [ci .i64 4]] [ci .i64 1, ci .i64 0, ci .i64 4] us_70 z_3 sz_3 rfl (by decide) rfl rfl ⟨rfl, rfl, rfl, rfl, rfl, rfl, rfl, rfl, rfl, trivial⟩ rfl (fun b95 hb95 => ⟨(fun _ => sd s0), (sd (sR (sd s0))), PL_o rfl rfl (ao_ (E := 38) (e := elI) (l := q9) (fun v => v) en_34 rfl (fun w hw => (by rw [hq9]; exact bl_ _ [(wl 1), (wl 0), (wl 4)] w (SLe.ap hw (SLe.lit (e := elW) (l := [(wl 1), (wl 0), (wl 4)]) m0 rfl (Nat.le_of_ble_eq_true rfl) rfl)) (by first | omega | (simp only [List.length_cons, List.length_nil, and_true, true_and] <;> omega) | simp))) (fun p96 c97 L98 hF99 => ⟨(fun _ => sR s0), (sR (sd (sR (sd s0)))), ?_⟩))⟩)))
    have hb100 := (by rw [hq9]; exact (bk_ [(wl 1), (wl 0), (wl 4)]) : (q9).length ≤ 25)
    have hr101 := (by rw [hq9]; exact (bh_ [(wl 1), (wl 0), (wl 4)]) : Rgt q9)
    refine pC (AV [pI q12.n, pI q12.d]) en_58 (cf_ (wl (-3))) rfl rfl (by rw [hq12]; first | done | rfl) ?_
    refine pQ rfl (q_as (v' := AV [pI q13.n, pI q13.d]) (aM_ en_40 rfl (fun w hw => (by rw [hq13]; exact f5_ _ q9 q12 w (SLe.ap hw (SLfe.sle (OwnG.slfe hF99 (List.sublist_append_left _ _)))) (by first | omega | (simp only [List.length_cons, List.length_nil, and_true, true_and] <;> omega) | simp)))) rfl) ?_
    refine pC (AV [pI q14.n, pI q14.d]) en_58 (cf_ (wl 37)) rfl rfl (by rw [hq14]; first | done | rfl) ?_
    refine pQ rfl (f3_ (r := (decide (q13.n = q14.n) && decide (q13.d = q14.d))) rfl rfl (dg_ 8 (by decide) eg_44 lw_44 (ie_ lv_pI (dX_ lv_pI)) (ie_ lv_pI (dX_ lv_pI)) (j9_ rfl eq_pI (e0_ eq_pI)))) (pE rfl (pE rfl (fl J ?_)))
    refine J2 _ _ (by repeat first | exact .refl | refine .cons rfl ?_) ⟨_, (sR (sd (sR (sd (s0))))), ?s4, rfl⟩
    case s4 => exact congrArg Value.bool (and_t h94 rfl)
   ·skip
    refine pB h94 rfl (PL_on rfl rfl (PL_on rfl rfl (PL_n rfl rfl (PL_n rfl rfl (PL_n rfl rfl (PL_n rfl rfl (pE rfl (pE rfl (fl J ?_)))))))))
    refine J2 _ _ (by repeat first | exact .refl | refine .cons rfl ?_) ⟨_, (sR (sd (s0))), ?s4, rfl⟩
    case s4 => exact congrArg Value.bool (and_f h94)
  ·skip
   rintro g102 M ⟨hg4, rfl⟩
   simp only [setG, hg4]
   clear hg4
   refine Rs fun K J => WL_r rfl (av_ [[ci .i64 5]] [ci .i64 5] us_70 z_3 sz_3 rfl (by decide) rfl rfl ⟨rfl, rfl, rfl, trivial⟩ rfl (fun b103 hb103 => WL_r rfl (ao_ (E := 38) (e := elI) (l := q15) (fun v => v) en_64 rfl (fun w hw => (by rw [hq15]; exact a6_ _ [(wl 5)] w (SLe.ap hw (SLe.lit (e := elW) (l := [(wl 5)]) m0 rfl (Nat.le_of_ble_eq_true rfl) rfl)) (by first | omega | (simp only [List.length_cons, List.length_nil, and_true, true_and] <;> omega) | simp))) (fun p104 c105 L106 hF107 => ?_))))
   have hb108 := (by rw [hq15]; exact (a7_ [(wl 5)]) : (q15).length ≤ 25)
   refine sE rfl (nl J ?_)
   refine bJ_ [6, 47, 48, 49, 50, 51, 52, 53, 54, 55, 56, 57, 58, 59, 60, 61, 62] (fun g M => (g 6 = .bool (q19 && q22)) ∧ M = (L106 ++ (⟨b103, 3, flat [ci .i64 5]⟩ :: (⟨b21, 44, flat [pI q3.n, pI q3.d]⟩ :: (L17 ++ (L11 ++ (⟨b8, 3, flat [ci .i64 (-1), ci .i64 1]⟩ :: (L4 ++ (⟨b1, 3, flat [ci .i64 1, ci .i64 1]⟩ :: []))))))))) (fun K3 J3 => ?_) ?_
   ·skip
    refine Rk fun K J => WL_r rfl (av_ [[ci .i64 1], [ci .i64 0], [ci .i64 1]] [ci .i64 1, ci .i64 0, ci .i64 1] us_70 z_3 sz_3 rfl (by decide) rfl rfl ⟨rfl, rfl, rfl, rfl, rfl, rfl, rfl, rfl, rfl, trivial⟩ rfl (fun b167 hb167 => WL_r rfl (ao_ (E := 38) (e := elI) (l := q16) (fun v => v) en_34 rfl (fun w hw => (by rw [hq16]; exact bl_ _ [(wl 1), (wl 0), (wl 1)] w (SLe.ap hw (SLe.lit (e := elW) (l := [(wl 1), (wl 0), (wl 1)]) m0 rfl (Nat.le_of_ble_eq_true rfl) rfl)) (by first | omega | (simp only [List.length_cons, List.length_nil, and_true, true_and] <;> omega) | simp))) (fun p168 c169 L170 hF171 => ?_))))
    have hb172 := (by rw [hq16]; exact (bk_ [(wl 1), (wl 0), (wl 1)]) : (q16).length ≤ 25)
    have hr173 := (by rw [hq16]; exact (bh_ [(wl 1), (wl 0), (wl 1)]) : Rgt q16)
    refine WL_r rfl (av_ [[ci .i64 1], [ci .i64 2]] [ci .i64 1, ci .i64 2] us_70 z_3 sz_3 rfl (by decide) rfl rfl ⟨rfl, rfl, rfl, rfl, rfl, rfl, trivial⟩ rfl (fun b174 hb174 => WL_r rfl (ao_ (E := 38) (e := elI) (l := q17) (fun v => v) en_34 rfl (fun w hw => (by rw [hq17]; exact bl_ _ [(wl 1), (wl 2)] w (SLe.ap hw (SLe.lit (e := elW) (l := [(wl 1), (wl 2)]) m0 rfl (Nat.le_of_ble_eq_true rfl) rfl)) (by first | omega | (simp only [List.length_cons, List.length_nil, and_true, true_and] <;> omega) | simp))) (fun p175 c176 L177 hF178 => ?_))))
    have hb179 := (by rw [hq17]; exact (bk_ [(wl 1), (wl 2)]) : (q17).length ≤ 25)
    have hr180 := (by rw [hq17]; exact (bh_ [(wl 1), (wl 2)]) : Rgt q17)
    refine WL_r rfl (ao_ (E := 38) (e := elI) (l := q18) (fun v => v) en_23 rfl (fun w hw => (by rw [hq18]; exact dQ_ _ q16 _ q17 w (SLe.ap hw (SLfe.sle (OwnG.slfe hF171 (sR (sd (List.sublist_append_left _ _)))))) (SLe.ap hw (SLfe.sle (OwnG.slfe hF178 (List.sublist_append_left _ _)))) (by first | omega | (simp only [List.length_cons, List.length_nil, and_true, true_and] <;> omega) | simp))) (fun p181 c182 L183 hF184 => ?_))
    have hb185 := (by rw [hq18]; exact (cY_ q16 q17) : (q18).length ≤ 25)
    refine sE rfl (sQ (q_as (v' := .bool q19) (aM_ en_17 rfl (fun w hw => (by rw [hq19]; exact az_ _ q18 _ q15 w (SLe.ap hw (SLfe.sle (OwnG.slfe hF184 (List.sublist_append_left _ _)))) (SLe.ap hw (SLfe.sle (OwnG.slfe hF107 (sR (sR (sd (sR (sd (List.sublist_append_left _ _)))))))))))) rfl) rfl ?_)
    rcases bt q19 with h186 | h186
    ·skip
     refine sB h186 rfl (WL_r rfl (av_ [[ci .i64 1], [ci .i64 0], [ci .i64 1]] [ci .i64 1, ci .i64 0, ci .i64 1] us_70 z_3 sz_3 rfl (by decide) rfl rfl ⟨rfl, rfl, rfl, rfl, rfl, rfl, rfl, rfl, rfl, trivial⟩ rfl (fun b187 hb187 => WL_r rfl (ao_ (E := 38) (e := elI) (l := q16) (fun v => v) en_34 rfl (fun w hw => (by rw [hq16]; exact bl_ _ [(wl 1), (wl 0), (wl 1)] w (SLe.ap hw (SLe.lit (e := elW) (l := [(wl 1), (wl 0), (wl 1)]) m0 rfl (Nat.le_of_ble_eq_true rfl) rfl)) (by first | omega | (simp only [List.length_cons, List.length_nil, and_true, true_and] <;> omega) | simp))) (fun p188 c189 L190 hF191 => ?_)))))
     have hb192 := (by rw [hq16]; exact (bk_ [(wl 1), (wl 0), (wl 1)]) : (q16).length ≤ 25)
     have hr193 := (by rw [hq16]; exact (bh_ [(wl 1), (wl 0), (wl 1)]) : Rgt q16)
     refine WL_r rfl (av_ [[ci .i64 1], [ci .i64 (-2)]] [ci .i64 1, ci .i64 (-2)] us_70 z_3 sz_3 rfl (by decide) rfl rfl ⟨rfl, rfl, rfl, rfl, rfl, rfl, trivial⟩ rfl (fun b194 hb194 => WL_r rfl (ao_ (E := 38) (e := elI) (l := q20) (fun v => v) en_34 rfl (fun w hw => (by rw [hq20]; exact bl_ _ [(wl 1), (wl (-2))] w (SLe.ap hw (SLe.lit (e := elW) (l := [(wl 1), (wl (-2))]) m0 rfl (Nat.le_of_ble_eq_true rfl) rfl)) (by first | omega | (simp only [List.length_cons, List.length_nil, and_true, true_and] <;> omega) | simp))) (fun p195 c196 L197 hF198 => ?_))))
     have hb199 := (by rw [hq20]; exact (bk_ [(wl 1), (wl (-2))]) : (q20).length ≤ 25)
     have hr200 := (by rw [hq20]; exact (bh_ [(wl 1), (wl (-2))]) : Rgt q20)
     refine WL_r rfl (ao_ (E := 38) (e := elI) (l := q21) (fun v => v) en_23 rfl (fun w hw => (by rw [hq21]; exact dQ_ _ q16 _ q20 w (SLe.ap hw (SLfe.sle (OwnG.slfe hF191 (sR (sd (List.sublist_append_left _ _)))))) (SLe.ap hw (SLfe.sle (OwnG.slfe hF198 (List.sublist_append_left _ _)))) (by first | omega | (simp only [List.length_cons, List.length_nil, and_true, true_and] <;> omega) | simp))) (fun p201 c202 L203 hF204 => ?_))
     have hb205 := (by rw [hq21]; exact (cY_ q16 q20) : (q21).length ≤ 25)
     refine sE rfl (sQ (q_as (v' := .bool q22) (aM_ en_17 rfl (fun w hw => (by rw [hq22]; exact az_ _ q21 _ q15 w (SLe.ap hw (SLfe.sle (OwnG.slfe hF204 (List.sublist_append_left _ _)))) (SLe.ap hw (SLfe.sle (OwnG.slfe hF107 (sR (sR (sd (sR (sd (sR (sR (sd (sR (sd (List.sublist_append_left _ _))))))))))))))))) rfl) rfl (sE rfl (sE rfl (nl J ?_))))
     refine J3 _ _ (by repeat first | exact .refl | refine .cons rfl ?_) ⟨_, (sR (sR (sd (sR (sd (sR (sR (sd (sR (sd (s0))))))))))), ?s6, rfl⟩
     case s6 => exact congrArg Value.bool (and_t h186 rfl)
    ·skip
     refine sB h186 rfl (WL_n rfl (WL_n rfl (WL_n rfl (WL_n rfl (WL_n rfl (WL_n rfl (WL_n rfl (sE rfl (sE rfl (nl J ?_))))))))))
     refine J3 _ _ (by repeat first | exact .refl | refine .cons rfl ?_) ⟨_, (sR (sR (sd (sR (sd (s0)))))), ?s6, rfl⟩
     case s6 => exact congrArg Value.bool (and_f h186)
   ·skip
    rintro g206 M ⟨hg6, rfl⟩
    simp only [setG, hg6]
    clear hg6
    refine bJ_ [7, 63, 64, 65, 66, 67, 68, 69, 70, 71, 72, 73, 74, 75, 76, 77, 78, 79, 80, 81, 82, 83, 84, 85, 86] (fun g M => (g 7 = .bool (q26 && (q31 && q35))) ∧ M = (L106 ++ (⟨b103, 3, flat [ci .i64 5]⟩ :: (⟨b21, 44, flat [pI q3.n, pI q3.d]⟩ :: (L17 ++ (L11 ++ (⟨b8, 3, flat [ci .i64 (-1), ci .i64 1]⟩ :: (L4 ++ (⟨b1, 3, flat [ci .i64 1, ci .i64 1]⟩ :: []))))))))) (fun K4 J4 => ?_) ?_
    ·skip
     refine Rk fun K J => WL_r rfl (av_ [[ci .i64 (-4)], [ci .i64 6]] [ci .i64 (-4), ci .i64 6] us_70 z_3 sz_3 rfl (by decide) rfl rfl ⟨rfl, rfl, rfl, rfl, rfl, rfl, trivial⟩ rfl (fun b287 hb287 => WL_r rfl (ao_ (E := 38) (e := elI) (l := q23) (fun v => v) en_34 rfl (fun w hw => (by rw [hq23]; exact bl_ _ [(wl (-4)), (wl 6)] w (SLe.ap hw (SLe.lit (e := elW) (l := [(wl (-4)), (wl 6)]) m0 rfl (Nat.le_of_ble_eq_true rfl) rfl)) (by first | omega | (simp only [List.length_cons, List.length_nil, and_true, true_and] <;> omega) | simp))) (fun p288 c289 L290 hF291 => ?_))))
     have hb292 := (by rw [hq23]; exact (bk_ [(wl (-4)), (wl 6)]) : (q23).length ≤ 25)
     have hr293 := (by rw [hq23]; exact (bh_ [(wl (-4)), (wl 6)]) : Rgt q23)
     refine WL_r rfl (ao_ (E := 38) (e := elI) (l := q24) (fun v => v) en_25 rfl (fun w hw => (by rw [hq24]; exact b8_ _ q23 w (SLe.ap hw (SLfe.sle (OwnG.slfe hF291 (List.sublist_append_left _ _)))) (by first | omega | (simp only [List.length_cons, List.length_nil, and_true, true_and] <;> omega) | simp))) (fun p294 c295 L296 hF297 => ?_))
     have hb298 := (by rw [hq24]; exact (aD_ q23) : (q24).length ≤ 25)
     refine WL_r rfl (av_ [[ci .i64 (-2)], [ci .i64 3]] [ci .i64 (-2), ci .i64 3] us_70 z_3 sz_3 rfl (by decide) rfl rfl ⟨rfl, rfl, rfl, rfl, rfl, rfl, trivial⟩ rfl (fun b299 hb299 => WL_r rfl (ao_ (E := 38) (e := elI) (l := q25) (fun v => v) en_64 rfl (fun w hw => (by rw [hq25]; exact a6_ _ [(wl (-2)), (wl 3)] w (SLe.ap hw (SLe.lit (e := elW) (l := [(wl (-2)), (wl 3)]) m0 rfl (Nat.le_of_ble_eq_true rfl) rfl)) (by first | omega | (simp only [List.length_cons, List.length_nil, and_true, true_and] <;> omega) | simp))) (fun p300 c301 L302 hF303 => ?_))))
     have hb304 := (by rw [hq25]; exact (a7_ [(wl (-2)), (wl 3)]) : (q25).length ≤ 25)
     refine sQ (q_as (v' := .bool q26) (aM_ en_17 rfl (fun w hw => (by rw [hq26]; exact az_ _ q24 _ q25 w (SLe.ap hw (SLfe.sle (OwnG.slfe hF297 (sR (sd (List.sublist_append_left _ _)))))) (SLe.ap hw (SLfe.sle (OwnG.slfe hF303 (List.sublist_append_left _ _))))))) rfl) rfl ?_
     rcases bt q26 with h305 | h305
     ·skip
      refine sB h305 rfl (WL_r rfl (av_ [[ci .i64 (-1)], [ci .i64 0], [ci .i64 1]] [ci .i64 (-1), ci .i64 0, ci .i64 1] us_70 z_3 sz_3 rfl (by decide) rfl rfl ⟨rfl, rfl, rfl, rfl, rfl, rfl, rfl, rfl, rfl, trivial⟩ rfl (fun b306 hb306 => WL_r rfl (ao_ (E := 38) (e := elI) (l := q27) (fun v => v) en_34 rfl (fun w hw => (by rw [hq27]; exact bl_ _ [(wl (-1)), (wl 0), (wl 1)] w (SLe.ap hw (SLe.lit (e := elW) (l := [(wl (-1)), (wl 0), (wl 1)]) m0 rfl (Nat.le_of_ble_eq_true rfl) rfl)) (by first | omega | (simp only [List.length_cons, List.length_nil, and_true, true_and] <;> omega) | simp))) (fun p307 c308 L309 hF310 => ?_)))))
      have hb311 := (by rw [hq27]; exact (bk_ [(wl (-1)), (wl 0), (wl 1)]) : (q27).length ≤ 25)
      have hr312 := (by rw [hq27]; exact (bh_ [(wl (-1)), (wl 0), (wl 1)]) : Rgt q27)
      refine WL_r rfl (av_ [[ci .i64 2], [ci .i64 (-2)]] [ci .i64 2, ci .i64 (-2)] us_70 z_3 sz_3 rfl (by decide) rfl rfl ⟨rfl, rfl, rfl, rfl, rfl, rfl, trivial⟩ rfl (fun b313 hb313 => WL_r rfl (ao_ (E := 38) (e := elI) (l := q28) (fun v => v) en_34 rfl (fun w hw => (by rw [hq28]; exact bl_ _ [(wl 2), (wl (-2))] w (SLe.ap hw (SLe.lit (e := elW) (l := [(wl 2), (wl (-2))]) m0 rfl (Nat.le_of_ble_eq_true rfl) rfl)) (by first | omega | (simp only [List.length_cons, List.length_nil, and_true, true_and] <;> omega) | simp))) (fun p314 c315 L316 hF317 => ?_))))
      have hb318 := (by rw [hq28]; exact (bk_ [(wl 2), (wl (-2))]) : (q28).length ≤ 25)
      have hr319 := (by rw [hq28]; exact (bh_ [(wl 2), (wl (-2))]) : Rgt q28)
      refine WL_r rfl (ao_ (E := 38) (e := elI) (l := q29) (fun v => v) en_27 rfl (fun w hw => (by rw [hq29]; exact gt_ _ q27 _ q28 w (SLe.ap hw (SLfe.sle (OwnG.slfe hF310 (sR (sd (List.sublist_append_left _ _)))))) (SLe.ap hw (SLfe.sle (OwnG.slfe hF317 (List.sublist_append_left _ _)))) (by first | omega | (simp only [List.length_cons, List.length_nil, and_true, true_and] <;> omega) | simp))) (fun p320 c321 L322 hF323 => ?_))
      have hb324 := (by rw [hq29]; exact (ff_ q27 q28) : (q29).length ≤ 25)
      refine WL_r rfl (av_ [[ci .i64 (-1)], [ci .i64 1]] [ci .i64 (-1), ci .i64 1] us_70 z_3 sz_3 rfl (by decide) rfl rfl ⟨rfl, rfl, rfl, rfl, rfl, rfl, trivial⟩ rfl (fun b325 hb325 => WL_r rfl (ao_ (E := 38) (e := elI) (l := q30) (fun v => v) en_64 rfl (fun w hw => (by rw [hq30]; exact a6_ _ [(wl (-1)), (wl 1)] w (SLe.ap hw (SLe.lit (e := elW) (l := [(wl (-1)), (wl 1)]) m0 rfl (Nat.le_of_ble_eq_true rfl) rfl)) (by first | omega | (simp only [List.length_cons, List.length_nil, and_true, true_and] <;> omega) | simp))) (fun p326 c327 L328 hF329 => ?_))))
      have hb330 := (by rw [hq30]; exact (a7_ [(wl (-1)), (wl 1)]) : (q30).length ≤ 25)
      refine sQ (q_as (v' := .bool q31) (aM_ en_17 rfl (fun w hw => (by rw [hq31]; exact az_ _ q29 _ q30 w (SLe.ap hw (SLfe.sle (OwnG.slfe hF323 (sR (sd (List.sublist_append_left _ _)))))) (SLe.ap hw (SLfe.sle (OwnG.slfe hF329 (List.sublist_append_left _ _))))))) rfl) rfl (sE rfl ?_)
      rcases bt q31 with h331 | h331
      ·skip
       refine sB h331 rfl (WL_r rfl (av_ [[ci .i64 0], [ci .i64 0], [ci .i64 3], [ci .i64 3]] [ci .i64 0, ci .i64 0, ci .i64 3, ci .i64 3] us_70 z_3 sz_3 rfl (by decide) rfl rfl ⟨rfl, rfl, rfl, rfl, rfl, rfl, rfl, rfl, rfl, rfl, rfl, rfl, trivial⟩ rfl (fun b332 hb332 => WL_r rfl (ao_ (E := 38) (e := elI) (l := q32) (fun v => v) en_34 rfl (fun w hw => (by rw [hq32]; exact bl_ _ [(wl 0), (wl 0), (wl 3), (wl 3)] w (SLe.ap hw (SLe.lit (e := elW) (l := [(wl 0), (wl 0), (wl 3), (wl 3)]) m0 rfl (Nat.le_of_ble_eq_true rfl) rfl)) (by first | omega | (simp only [List.length_cons, List.length_nil, and_true, true_and] <;> omega) | simp))) (fun p333 c334 L335 hF336 => ?_)))))
       have hb337 := (by rw [hq32]; exact (bk_ [(wl 0), (wl 0), (wl 3), (wl 3)]) : (q32).length ≤ 25)
       have hr338 := (by rw [hq32]; exact (bh_ [(wl 0), (wl 0), (wl 3), (wl 3)]) : Rgt q32)
       refine WL_r rfl (ao_ (E := 38) (e := elI) (l := q33) (fun v => v) en_29 rfl (fun w hw => (by rw [hq33]; exact h7_ _ q32 w (SLe.ap hw (SLfe.sle (OwnG.slfe hF336 (List.sublist_append_left _ _)))) ⟨by assumption, by omega⟩)) (fun p339 c340 L341 hF342 => WL_r rfl (av_ [[ci .i64 0], [ci .i64 1], [ci .i64 1]] [ci .i64 0, ci .i64 1, ci .i64 1] us_70 z_3 sz_3 rfl (by decide) rfl rfl ⟨rfl, rfl, rfl, rfl, rfl, rfl, rfl, rfl, rfl, trivial⟩ rfl (fun b343 hb343 => WL_r rfl (ao_ (E := 38) (e := elI) (l := q34) (fun v => v) en_64 rfl (fun w hw => (by rw [hq34]; exact a6_ _ [(wl 0), (wl 1), (wl 1)] w (SLe.ap hw (SLe.lit (e := elW) (l := [(wl 0), (wl 1), (wl 1)]) m0 rfl (Nat.le_of_ble_eq_true rfl) rfl)) (by first | omega | (simp only [List.length_cons, List.length_nil, and_true, true_and] <;> omega) | simp))) (fun p344 c345 L346 hF347 => ?_))))))
       have hb348 := (by rw [hq34]; exact (a7_ [(wl 0), (wl 1), (wl 1)]) : (q34).length ≤ 25)
       refine sQ (q_as (v' := .bool q35) (aM_ en_17 rfl (fun w hw => (by rw [hq35]; exact az_ _ q33 _ q34 w (SLe.ap hw (SLfe.sle (OwnG.slfe hF342 (sR (sd (List.sublist_append_left _ _)))))) (SLe.ap hw (SLfe.sle (OwnG.slfe hF347 (List.sublist_append_left _ _))))))) rfl) rfl (sE rfl (sE rfl (nl J ?_)))
       refine J4 _ _ (by repeat first | exact .refl | refine .cons rfl ?_) ⟨_, (sR (sd (sR (sR (sd (sR (sd (sR (sR (sd (sR (sd (sR (sd (sR (sR (sd (s0)))))))))))))))))), ?s7, rfl⟩
       case s7 => exact congrArg Value.bool (and_t h305 (and_t h331 rfl))
      ·skip
       refine sB h331 rfl (WL_n rfl (WL_n rfl (WL_n rfl (WL_n rfl (WL_n rfl (WL_n rfl (sE rfl (sE rfl (nl J ?_)))))))))
       refine J4 _ _ (by repeat first | exact .refl | refine .cons rfl ?_) ⟨_, (sR (sd (sR (sR (sd (sR (sd (sR (sd (sR (sR (sd (s0))))))))))))), ?s7, rfl⟩
       case s7 => exact congrArg Value.bool (and_t h305 (and_f h331))
     ·skip
      refine sB h305 rfl (WL_n rfl (WL_n rfl (WL_n rfl (WL_n rfl (WL_n rfl (WL_n rfl (WL_n rfl (WL_n rfl (sE rfl (sE rfl (WL_n rfl (WL_n rfl (WL_n rfl (WL_n rfl (WL_n rfl (WL_n rfl (sE rfl (sE rfl (nl J ?_)))))))))))))))))))
      refine J4 _ _ (by repeat first | exact .refl | refine .cons rfl ?_) ⟨_, (sR (sd (sR (sR (sd (s0)))))), ?s7, rfl⟩
      case s7 => exact congrArg Value.bool (and_f h305)
    ·skip
     rintro g349 M ⟨hg7, rfl⟩
     simp only [setG, hg7]
     clear hg7
     refine bJ_ [8, 87, 88, 89, 90, 91, 92, 93, 94, 95, 96, 97, 98, 99, 100] (fun g M => (g 8 = .bool (q40 && (q42.1 == 2))) ∧ M = (L106 ++ (⟨b103, 3, flat [ci .i64 5]⟩ :: (⟨b21, 44, flat [pI q3.n, pI q3.d]⟩ :: (L17 ++ (L11 ++ (⟨b8, 3, flat [ci .i64 (-1), ci .i64 1]⟩ :: (L4 ++ (⟨b1, 3, flat [ci .i64 1, ci .i64 1]⟩ :: []))))))))) (fun K5 J5 => ?_) ?_
     ·skip
      refine kw_ s0 (.quiet 2 [4,6,7,8,9,10,11,12,13,14] (.both 0 (.both 1 (.quiet 3 [4,6,7,8,9,10,11,12,13,14] (.both 4 (.only 5 (.only 6 (.quiet 7 [8,9,10,11,12,13,14] (.quiet 8 [9,10,11,12,13,14] (.only 9 (.only 10 (.quiet 11 [12,13,14] (.quiet 12 [13,14] (.quiet 13 [14] (.quiet 14 [] (.fin))))))))))) 5 (.only 4 (.only 6 (.quiet 7 [8,9,10,11,12,13,14] (.quiet 8 [9,10,11,12,13,14] (.only 9 (.only 10 (.quiet 11 [12,13,14] (.quiet 12 [13,14] (.quiet 13 [14] (.quiet 14 [] (.fin))))))))))))) 5 (.only 1 (.quiet 3 [4,6,7,8,9,10,11,12,13,14] (.only 4 (.only 6 (.quiet 7 [8,9,10,11,12,13,14] (.quiet 8 [9,10,11,12,13,14] (.only 9 (.only 10 (.quiet 11 [12,13,14] (.quiet 12 [13,14] (.quiet 13 [14] (.quiet 14 [] (.fin)))))))))))))) 5 (.only 0 (.only 1 (.quiet 3 [4,6,7,8,9,10,11,12,13,14] (.only 4 (.only 6 (.quiet 7 [8,9,10,11,12,13,14] (.quiet 8 [9,10,11,12,13,14] (.only 9 (.only 10 (.quiet 11 [12,13,14] (.quiet 12 [13,14] (.quiet 13 [14] (.quiet 14 [] (.fin)))))))))))))))) [0,1,2,3,4,5,6,7,8,9,10,11,12,13,14] mix (by kernel_rfl) (by kernel_rfl) (fun K J => pQ rfl (qL ty_44 rfl (List.mem_append_right _ (List.mem_cons_of_mem _ (List.mem_cons_self))) rfl) ?_)
      refine PL_b ?_ ?_
      ·skip
       refine PL_o rfl rfl (av_ [[ci .i64 0], [ci .i64 0], [ci .i64 1]] [ci .i64 0, ci .i64 0, ci .i64 1] us_70 z_3 sz_3 rfl (by decide) rfl rfl ⟨rfl, rfl, rfl, rfl, rfl, rfl, rfl, rfl, rfl, trivial⟩ rfl (fun b464 hb464 => ⟨(fun _ => sd s0), (sd s0), ?_⟩))
       refine PL_b ?_ ?_
       ·skip
        refine PL_o rfl rfl (ao_ (E := 38) (e := elI) (l := q36) (fun v => v) en_34 rfl (fun w hw => (by rw [hq36]; exact bl_ _ [(wl 0), (wl 0), (wl 1)] w (SLe.ap hw (SLe.lit (e := elW) (l := [(wl 0), (wl 0), (wl 1)]) m0 rfl (Nat.le_of_ble_eq_true rfl) rfl)) (by first | omega | (simp only [List.length_cons, List.length_nil, and_true, true_and] <;> omega) | simp))) (fun p465 c466 L467 hF468 => ⟨(fun _ => sR s0), (sR (sd s0)), ?_⟩))
        have hb469 := (by rw [hq36]; exact (bk_ [(wl 0), (wl 0), (wl 1)]) : (q36).length ≤ 25)
        have hr470 := (by rw [hq36]; exact (bh_ [(wl 0), (wl 0), (wl 1)]) : Rgt q36)
        refine pC (AV [pI q37.n, pI q37.d]) en_58 (cf_ (wl 1)) rfl rfl (by rw [hq37]; first | done | rfl) ?_
        refine PL_b ?_ ?_
        ·skip
         refine PL_o rfl rfl (ao_ (E := 38) (e := elI) (l := q38) (fun v => v) en_55 rfl (fun w hw => (by rw [hq38]; exact cI_ _ q36 q3 q37 w (SLe.ap hw (SLfe.sle (OwnG.slfe hF468 (List.sublist_append_left _ _)))) (by first | omega | (simp only [List.length_cons, List.length_nil, and_true, true_and] <;> omega) | simp))) (fun p471 c472 L473 hF474 => ⟨(fun _ => sR s0), (sR (sR (sd s0))), ?_⟩))
         have hb475 := (by rw [hq38]; exact (cJ_ q36 q3 q37) : (q38).length ≤ 25)
         refine PL_o rfl rfl (av_ [[ci .i64 1], [ci .i64 4], [ci .i64 4]] [ci .i64 1, ci .i64 4, ci .i64 4] us_70 z_3 sz_3 rfl (by decide) rfl rfl ⟨rfl, rfl, rfl, rfl, rfl, rfl, rfl, rfl, rfl, trivial⟩ rfl (fun b476 hb476 => ⟨(fun _ => sd s0), (sd (sR (sR (sd s0)))), PL_o rfl rfl (ao_ (E := 38) (e := elI) (l := q39) (fun v => v) en_64 rfl (fun w hw => (by rw [hq39]; exact a6_ _ [(wl 1), (wl 4), (wl 4)] w (SLe.ap hw (SLe.lit (e := elW) (l := [(wl 1), (wl 4), (wl 4)]) m0 rfl (Nat.le_of_ble_eq_true rfl) rfl)) (by first | omega | (simp only [List.length_cons, List.length_nil, and_true, true_and] <;> omega) | simp))) (fun p477 c478 L479 hF480 => ⟨(fun _ => sR s0), (sR (sd (sR (sR (sd s0))))), ?_⟩))⟩))
         have hb481 := (by rw [hq39]; exact (a7_ [(wl 1), (wl 4), (wl 4)]) : (q39).length ≤ 25)
         refine pQ rfl (q_as (v' := .bool q40) (aM_ en_17 rfl (fun w hw => (by rw [hq40]; exact az_ _ q38 _ q39 w (SLe.ap hw (SLfe.sle (OwnG.slfe hF474 (sR (sd (List.sublist_append_left _ _)))))) (SLe.ap hw (SLfe.sle (OwnG.slfe hF480 (List.sublist_append_left _ _))))))) rfl) ?_
         rcases bt q40 with h482 | h482
         ·skip
          refine pB h482 rfl (PL_o rfl rfl (av_ [[ci .i64 1], [ci .i64 (-1)], [ci .i64 0], [ci .i64 1], [ci .i64 1]] [ci .i64 1, ci .i64 (-1), ci .i64 0, ci .i64 1, ci .i64 1] us_70 z_3 sz_3 rfl (by decide) rfl rfl ⟨rfl, rfl, rfl, rfl, rfl, rfl, rfl, rfl, rfl, rfl, rfl, rfl, rfl, rfl, rfl, trivial⟩ rfl (fun b483 hb483 => ⟨(fun _ => sd s0), (sd (sR (sd (sR (sR (sd s0)))))), PL_o rfl rfl (ao_ (E := 38) (e := elI) (l := q41) (fun v => v) en_34 rfl (fun w hw => (by rw [hq41]; exact bl_ _ [(wl 1), (wl (-1)), (wl 0), (wl 1), (wl 1)] w (SLe.ap hw (SLe.lit (e := elW) (l := [(wl 1), (wl (-1)), (wl 0), (wl 1), (wl 1)]) m0 rfl (Nat.le_of_ble_eq_true rfl) rfl)) (by first | omega | (simp only [List.length_cons, List.length_nil, and_true, true_and] <;> omega) | simp))) (fun p484 c485 L486 hF487 => ⟨(fun _ => sR s0), (sR (sd (sR (sd (sR (sR (sd s0))))))), ?_⟩))⟩)))
          have hb488 := (by rw [hq41]; exact (bk_ [(wl 1), (wl (-1)), (wl 0), (wl 1), (wl 1)]) : (q41).length ≤ 25)
          have hr489 := (by rw [hq41]; exact (bh_ [(wl 1), (wl (-1)), (wl 0), (wl 1), (wl 1)]) : Rgt q41)
          refine pQ rfl (q_as (v' := .int .i64 q42.1) (aM_ en_35 rfl (fun w hw => (by rw [hq42]; exact cC_ _ q41 w (SLe.ap hw (SLfe.sle (OwnG.slfe hF487 (List.sublist_append_left _ _))))))) rfl) (pE rfl (pE rfl (pE rfl (fl J ?_))))
          refine J5 _ _ (by repeat first | exact .refl | refine .cons rfl ?_) ⟨_, (sR (sd (sR (sd (sR (sR (sd (s0)))))))), ?s8, rfl⟩
          case s8 => exact congrArg Value.bool (and_t h482 rfl)
         ·skip
          refine pB h482 rfl (PL_on rfl rfl (PL_on rfl rfl (PL_n rfl rfl (PL_n rfl rfl (pE rfl (pE rfl (fl J ?_)))))))
          refine J5 _ _ (by repeat first | exact .refl | refine .cons rfl ?_) ⟨_, (sR (sd (sR (sR (sd (s0)))))), ?s8, rfl⟩
          case s8 => exact congrArg Value.bool (and_f h482)
        ·skip
         refine PL_o rfl rfl (av_ [[ci .i64 1], [ci .i64 4], [ci .i64 4]] [ci .i64 1, ci .i64 4, ci .i64 4] us_70 z_3 sz_3 rfl (by decide) rfl rfl ⟨rfl, rfl, rfl, rfl, rfl, rfl, rfl, rfl, rfl, trivial⟩ rfl (fun b490 hb490 => ⟨(fun _ => sd s0), (sd (sR (sd s0))), PL_o rfl rfl (ao_ (E := 38) (e := elI) (l := q38) (fun v => v) en_55 rfl (fun w hw => (by rw [hq38]; exact cI_ _ q36 q3 q37 w (SLe.ap hw (SLfe.sle (OwnG.slfe hF468 (sd (List.sublist_append_left _ _))))) (by first | omega | (simp only [List.length_cons, List.length_nil, and_true, true_and] <;> omega) | simp))) (fun p491 c492 L493 hF494 => ⟨(fun _ => sR s0), (sR (sd (sR (sd s0)))), ?_⟩))⟩))
         have hb495 := (by rw [hq38]; exact (cJ_ q36 q3 q37) : (q38).length ≤ 25)
         refine PL_o rfl rfl (ao_ (E := 38) (e := elI) (l := q39) (fun v => v) en_64 rfl (fun w hw => (by rw [hq39]; exact a6_ _ [(wl 1), (wl 4), (wl 4)] w (SLe.ap hw (SLe.lit (e := elW) (l := [(wl 1), (wl 4), (wl 4)]) (List.mem_append_right _ (List.mem_cons_self)) rfl (Nat.le_of_ble_eq_true rfl) rfl)) (by first | omega | (simp only [List.length_cons, List.length_nil, and_true, true_and] <;> omega) | simp))) (fun p496 c497 L498 hF499 => ⟨(fun _ => sR s0), (sR (sR (sd (sR (sd s0))))), ?_⟩))
         have hb500 := (by rw [hq39]; exact (a7_ [(wl 1), (wl 4), (wl 4)]) : (q39).length ≤ 25)
         refine pQ rfl (q_as (v' := .bool q40) (aM_ en_17 rfl (fun w hw => (by rw [hq40]; exact az_ _ q38 _ q39 w (SLe.ap hw (SLfe.sle (OwnG.slfe hF494 (sR (List.sublist_append_left _ _))))) (SLe.ap hw (SLfe.sle (OwnG.slfe hF499 (List.sublist_append_left _ _))))))) rfl) ?_
         rcases bt q40 with h501 | h501
         ·skip
          refine pB h501 rfl (PL_o rfl rfl (av_ [[ci .i64 1], [ci .i64 (-1)], [ci .i64 0], [ci .i64 1], [ci .i64 1]] [ci .i64 1, ci .i64 (-1), ci .i64 0, ci .i64 1, ci .i64 1] us_70 z_3 sz_3 rfl (by decide) rfl rfl ⟨rfl, rfl, rfl, rfl, rfl, rfl, rfl, rfl, rfl, rfl, rfl, rfl, rfl, rfl, rfl, trivial⟩ rfl (fun b502 hb502 => ⟨(fun _ => sd s0), (sd (sR (sR (sd (sR (sd s0)))))), PL_o rfl rfl (ao_ (E := 38) (e := elI) (l := q41) (fun v => v) en_34 rfl (fun w hw => (by rw [hq41]; exact bl_ _ [(wl 1), (wl (-1)), (wl 0), (wl 1), (wl 1)] w (SLe.ap hw (SLe.lit (e := elW) (l := [(wl 1), (wl (-1)), (wl 0), (wl 1), (wl 1)]) m0 rfl (Nat.le_of_ble_eq_true rfl) rfl)) (by first | omega | (simp only [List.length_cons, List.length_nil, and_true, true_and] <;> omega) | simp))) (fun p503 c504 L505 hF506 => ⟨(fun _ => sR s0), (sR (sd (sR (sR (sd (sR (sd s0))))))), ?_⟩))⟩)))
          have hb507 := (by rw [hq41]; exact (bk_ [(wl 1), (wl (-1)), (wl 0), (wl 1), (wl 1)]) : (q41).length ≤ 25)
          have hr508 := (by rw [hq41]; exact (bh_ [(wl 1), (wl (-1)), (wl 0), (wl 1), (wl 1)]) : Rgt q41)
          refine pQ rfl (q_as (v' := .int .i64 q42.1) (aM_ en_35 rfl (fun w hw => (by rw [hq42]; exact cC_ _ q41 w (SLe.ap hw (SLfe.sle (OwnG.slfe hF506 (List.sublist_append_left _ _))))))) rfl) (pE rfl (pE rfl (pE rfl (fl J ?_))))
          refine J5 _ _ (by repeat first | exact .refl | refine .cons rfl ?_) ⟨_, (sR (sd (sR (sR (sd (sR (sd (s0)))))))), ?s8, rfl⟩
          case s8 => exact congrArg Value.bool (and_t h501 rfl)
         ·skip
          refine pB h501 rfl (PL_on rfl rfl (PL_on rfl rfl (PL_n rfl rfl (PL_n rfl rfl (pE rfl (pE rfl (fl J ?_)))))))
          refine J5 _ _ (by repeat first | exact .refl | refine .cons rfl ?_) ⟨_, (sR (sR (sd (sR (sd (s0)))))), ?s8, rfl⟩
          case s8 => exact congrArg Value.bool (and_f h501)
       ·skip
        refine PL_o rfl rfl (av_ [[ci .i64 1], [ci .i64 4], [ci .i64 4]] [ci .i64 1, ci .i64 4, ci .i64 4] us_70 z_3 sz_3 rfl (by decide) rfl rfl ⟨rfl, rfl, rfl, rfl, rfl, rfl, rfl, rfl, rfl, trivial⟩ rfl (fun b509 hb509 => ⟨(fun _ => sd s0), (sd (sd s0)), PL_o rfl rfl (ao_ (E := 38) (e := elI) (l := q36) (fun v => v) en_34 rfl (fun w hw => (by rw [hq36]; exact bl_ _ [(wl 0), (wl 0), (wl 1)] w (SLe.ap hw (SLe.lit (e := elW) (l := [(wl 0), (wl 0), (wl 1)]) m1 rfl (Nat.le_of_ble_eq_true rfl) rfl)) (by first | omega | (simp only [List.length_cons, List.length_nil, and_true, true_and] <;> omega) | simp))) (fun p510 c511 L512 hF513 => ⟨(fun _ => sR s0), (sR (sd (sd s0))), ?_⟩))⟩))
        have hb514 := (by rw [hq36]; exact (bk_ [(wl 0), (wl 0), (wl 1)]) : (q36).length ≤ 25)
        have hr515 := (by rw [hq36]; exact (bh_ [(wl 0), (wl 0), (wl 1)]) : Rgt q36)
        refine pC (AV [pI q37.n, pI q37.d]) en_58 (cf_ (wl 1)) rfl rfl (by rw [hq37]; first | done | rfl) ?_
        refine PL_o rfl rfl (ao_ (E := 38) (e := elI) (l := q38) (fun v => v) en_55 rfl (fun w hw => (by rw [hq38]; exact cI_ _ q36 q3 q37 w (SLe.ap hw (SLfe.sle (OwnG.slfe hF513 (List.sublist_append_left _ _)))) (by first | omega | (simp only [List.length_cons, List.length_nil, and_true, true_and] <;> omega) | simp))) (fun p516 c517 L518 hF519 => ⟨(fun _ => sR s0), (sR (sR (sd (sd s0)))), ?_⟩))
        have hb520 := (by rw [hq38]; exact (cJ_ q36 q3 q37) : (q38).length ≤ 25)
        refine PL_o rfl rfl (ao_ (E := 38) (e := elI) (l := q39) (fun v => v) en_64 rfl (fun w hw => (by rw [hq39]; exact a6_ _ [(wl 1), (wl 4), (wl 4)] w (SLe.ap hw (SLe.lit (e := elW) (l := [(wl 1), (wl 4), (wl 4)]) (List.mem_append_right _ (List.mem_append_right _ (List.mem_cons_self))) rfl (Nat.le_of_ble_eq_true rfl) rfl)) (by first | omega | (simp only [List.length_cons, List.length_nil, and_true, true_and] <;> omega) | simp))) (fun p521 c522 L523 hF524 => ⟨(fun _ => sR s0), (sR (sR (sR (sd (sd s0))))), ?_⟩))
        have hb525 := (by rw [hq39]; exact (a7_ [(wl 1), (wl 4), (wl 4)]) : (q39).length ≤ 25)
        refine pQ rfl (q_as (v' := .bool q40) (aM_ en_17 rfl (fun w hw => (by rw [hq40]; exact az_ _ q38 _ q39 w (SLe.ap hw (SLfe.sle (OwnG.slfe hF519 (sR (List.sublist_append_left _ _))))) (SLe.ap hw (SLfe.sle (OwnG.slfe hF524 (List.sublist_append_left _ _))))))) rfl) ?_
        rcases bt q40 with h526 | h526
        ·skip
         refine pB h526 rfl (PL_o rfl rfl (av_ [[ci .i64 1], [ci .i64 (-1)], [ci .i64 0], [ci .i64 1], [ci .i64 1]] [ci .i64 1, ci .i64 (-1), ci .i64 0, ci .i64 1, ci .i64 1] us_70 z_3 sz_3 rfl (by decide) rfl rfl ⟨rfl, rfl, rfl, rfl, rfl, rfl, rfl, rfl, rfl, rfl, rfl, rfl, rfl, rfl, rfl, trivial⟩ rfl (fun b527 hb527 => ⟨(fun _ => sd s0), (sd (sR (sR (sR (sd (sd s0)))))), PL_o rfl rfl (ao_ (E := 38) (e := elI) (l := q41) (fun v => v) en_34 rfl (fun w hw => (by rw [hq41]; exact bl_ _ [(wl 1), (wl (-1)), (wl 0), (wl 1), (wl 1)] w (SLe.ap hw (SLe.lit (e := elW) (l := [(wl 1), (wl (-1)), (wl 0), (wl 1), (wl 1)]) m0 rfl (Nat.le_of_ble_eq_true rfl) rfl)) (by first | omega | (simp only [List.length_cons, List.length_nil, and_true, true_and] <;> omega) | simp))) (fun p528 c529 L530 hF531 => ⟨(fun _ => sR s0), (sR (sd (sR (sR (sR (sd (sd s0))))))), ?_⟩))⟩)))
         have hb532 := (by rw [hq41]; exact (bk_ [(wl 1), (wl (-1)), (wl 0), (wl 1), (wl 1)]) : (q41).length ≤ 25)
         have hr533 := (by rw [hq41]; exact (bh_ [(wl 1), (wl (-1)), (wl 0), (wl 1), (wl 1)]) : Rgt q41)
         refine pQ rfl (q_as (v' := .int .i64 q42.1) (aM_ en_35 rfl (fun w hw => (by rw [hq42]; exact cC_ _ q41 w (SLe.ap hw (SLfe.sle (OwnG.slfe hF531 (List.sublist_append_left _ _))))))) rfl) (pE rfl (pE rfl (pE rfl (fl J ?_))))
         refine J5 _ _ (by repeat first | exact .refl | refine .cons rfl ?_) ⟨_, (sR (sd (sR (sR (sR (sd (sd (s0)))))))), ?s8, rfl⟩
         case s8 => exact congrArg Value.bool (and_t h526 rfl)
        ·skip
         refine pB h526 rfl (PL_on rfl rfl (PL_on rfl rfl (PL_n rfl rfl (PL_n rfl rfl (pE rfl (pE rfl (fl J ?_)))))))
         refine J5 _ _ (by repeat first | exact .refl | refine .cons rfl ?_) ⟨_, (sR (sR (sR (sd (sd (s0)))))), ?s8, rfl⟩
         case s8 => exact congrArg Value.bool (and_f h526)
      ·skip
       refine PL_o rfl rfl (av_ [[ci .i64 1], [ci .i64 4], [ci .i64 4]] [ci .i64 1, ci .i64 4, ci .i64 4] us_70 z_3 sz_3 rfl (by decide) rfl rfl ⟨rfl, rfl, rfl, rfl, rfl, rfl, rfl, rfl, rfl, trivial⟩ rfl (fun b534 hb534 => ⟨(fun _ => sd s0), (sd s0), PL_o rfl rfl (av_ [[ci .i64 0], [ci .i64 0], [ci .i64 1]] [ci .i64 0, ci .i64 0, ci .i64 1] us_70 z_3 sz_3 rfl (by decide) rfl rfl ⟨rfl, rfl, rfl, rfl, rfl, rfl, rfl, rfl, rfl, trivial⟩ rfl (fun b535 hb535 => ⟨(fun _ => sd s0), (sd (sd s0)), PL_o rfl rfl (ao_ (E := 38) (e := elI) (l := q36) (fun v => v) en_34 rfl (fun w hw => (by rw [hq36]; exact bl_ _ [(wl 0), (wl 0), (wl 1)] w (SLe.ap hw (SLe.lit (e := elW) (l := [(wl 0), (wl 0), (wl 1)]) m0 rfl (Nat.le_of_ble_eq_true rfl) rfl)) (by first | omega | (simp only [List.length_cons, List.length_nil, and_true, true_and] <;> omega) | simp))) (fun p536 c537 L538 hF539 => ⟨(fun _ => sR s0), (sR (sd (sd s0))), ?_⟩))⟩))⟩))
       have hb540 := (by rw [hq36]; exact (bk_ [(wl 0), (wl 0), (wl 1)]) : (q36).length ≤ 25)
       have hr541 := (by rw [hq36]; exact (bh_ [(wl 0), (wl 0), (wl 1)]) : Rgt q36)
       refine pC (AV [pI q37.n, pI q37.d]) en_58 (cf_ (wl 1)) rfl rfl (by rw [hq37]; first | done | rfl) ?_
       refine PL_o rfl rfl (ao_ (E := 38) (e := elI) (l := q38) (fun v => v) en_55 rfl (fun w hw => (by rw [hq38]; exact cI_ _ q36 q3 q37 w (SLe.ap hw (SLfe.sle (OwnG.slfe hF539 (List.sublist_append_left _ _)))) (by first | omega | (simp only [List.length_cons, List.length_nil, and_true, true_and] <;> omega) | simp))) (fun p542 c543 L544 hF545 => ⟨(fun _ => sR s0), (sR (sR (sd (sd s0)))), ?_⟩))
       have hb546 := (by rw [hq38]; exact (cJ_ q36 q3 q37) : (q38).length ≤ 25)
       refine PL_o rfl rfl (ao_ (E := 38) (e := elI) (l := q39) (fun v => v) en_64 rfl (fun w hw => (by rw [hq39]; exact a6_ _ [(wl 1), (wl 4), (wl 4)] w (SLe.ap hw (SLe.lit (e := elW) (l := [(wl 1), (wl 4), (wl 4)]) (List.mem_append_right _ (List.mem_append_right _ (List.mem_cons_of_mem _ (List.mem_cons_self)))) rfl (Nat.le_of_ble_eq_true rfl) rfl)) (by first | omega | (simp only [List.length_cons, List.length_nil, and_true, true_and] <;> omega) | simp))) (fun p547 c548 L549 hF550 => ⟨(fun _ => sR s0), (sR (sR (sR (sd (sd s0))))), ?_⟩))
       have hb551 := (by rw [hq39]; exact (a7_ [(wl 1), (wl 4), (wl 4)]) : (q39).length ≤ 25)
       refine pQ rfl (q_as (v' := .bool q40) (aM_ en_17 rfl (fun w hw => (by rw [hq40]; exact az_ _ q38 _ q39 w (SLe.ap hw (SLfe.sle (OwnG.slfe hF545 (sR (List.sublist_append_left _ _))))) (SLe.ap hw (SLfe.sle (OwnG.slfe hF550 (List.sublist_append_left _ _))))))) rfl) ?_
       rcases bt q40 with h552 | h552
       ·skip
        refine pB h552 rfl (PL_o rfl rfl (av_ [[ci .i64 1], [ci .i64 (-1)], [ci .i64 0], [ci .i64 1], [ci .i64 1]] [ci .i64 1, ci .i64 (-1), ci .i64 0, ci .i64 1, ci .i64 1] us_70 z_3 sz_3 rfl (by decide) rfl rfl ⟨rfl, rfl, rfl, rfl, rfl, rfl, rfl, rfl, rfl, rfl, rfl, rfl, rfl, rfl, rfl, trivial⟩ rfl (fun b553 hb553 => ⟨(fun _ => sd s0), (sd (sR (sR (sR (sd (sd s0)))))), PL_o rfl rfl (ao_ (E := 38) (e := elI) (l := q41) (fun v => v) en_34 rfl (fun w hw => (by rw [hq41]; exact bl_ _ [(wl 1), (wl (-1)), (wl 0), (wl 1), (wl 1)] w (SLe.ap hw (SLe.lit (e := elW) (l := [(wl 1), (wl (-1)), (wl 0), (wl 1), (wl 1)]) m0 rfl (Nat.le_of_ble_eq_true rfl) rfl)) (by first | omega | (simp only [List.length_cons, List.length_nil, and_true, true_and] <;> omega) | simp))) (fun p554 c555 L556 hF557 => ⟨(fun _ => sR s0), (sR (sd (sR (sR (sR (sd (sd s0))))))), ?_⟩))⟩)))
        have hb558 := (by rw [hq41]; exact (bk_ [(wl 1), (wl (-1)), (wl 0), (wl 1), (wl 1)]) : (q41).length ≤ 25)
        have hr559 := (by rw [hq41]; exact (bh_ [(wl 1), (wl (-1)), (wl 0), (wl 1), (wl 1)]) : Rgt q41)
        refine pQ rfl (q_as (v' := .int .i64 q42.1) (aM_ en_35 rfl (fun w hw => (by rw [hq42]; exact cC_ _ q41 w (SLe.ap hw (SLfe.sle (OwnG.slfe hF557 (List.sublist_append_left _ _))))))) rfl) (pE rfl (pE rfl (pE rfl (fl J ?_))))
        refine J5 _ _ (by repeat first | exact .refl | refine .cons rfl ?_) ⟨_, (sR (sd (sR (sR (sR (sd (sd (s0)))))))), ?s8, rfl⟩
        case s8 => exact congrArg Value.bool (and_t h552 rfl)
       ·skip
        refine pB h552 rfl (PL_on rfl rfl (PL_on rfl rfl (PL_n rfl rfl (PL_n rfl rfl (pE rfl (pE rfl (fl J ?_)))))))
        refine J5 _ _ (by repeat first | exact .refl | refine .cons rfl ?_) ⟨_, (sR (sR (sR (sd (sd (s0)))))), ?s8, rfl⟩
        case s8 => exact congrArg Value.bool (and_f h552)
     ·skip
      rintro g560 M ⟨hg8, rfl⟩
      simp only [setG, hg8]
      clear hg8
      refine Rs fun K J => WL_r rfl (av_ [[ci .i64 0], [ci .i64 0], [ci .i64 1]] [ci .i64 0, ci .i64 0, ci .i64 1] us_70 z_3 sz_3 rfl (by decide) rfl rfl ⟨rfl, rfl, rfl, rfl, rfl, rfl, rfl, rfl, rfl, trivial⟩ rfl (fun b561 hb561 => WL_r rfl (ao_ (E := 38) (e := elI) (l := q36) (fun v => v) en_34 rfl (fun w hw => (by rw [hq36]; exact bl_ _ [(wl 0), (wl 0), (wl 1)] w (SLe.ap hw (SLe.lit (e := elW) (l := [(wl 0), (wl 0), (wl 1)]) m0 rfl (Nat.le_of_ble_eq_true rfl) rfl)) (by first | omega | (simp only [List.length_cons, List.length_nil, and_true, true_and] <;> omega) | simp))) (fun p562 c563 L564 hF565 => ?_))))
      have hb566 := (by rw [hq36]; exact (bk_ [(wl 0), (wl 0), (wl 1)]) : (q36).length ≤ 25)
      have hr567 := (by rw [hq36]; exact (bh_ [(wl 0), (wl 0), (wl 1)]) : Rgt q36)
      refine sC (AV [pI q43.n, pI q43.d]) en_58 (cf_ (wl 0)) rfl rfl (by rw [hq43]; first | done | rfl) ?_
      refine sC (AV [pI q37.n, pI q37.d]) en_58 (cf_ (wl 1)) rfl rfl (by rw [hq37]; first | done | rfl) ?_
      refine WL_r rfl (ao_ (E := 38) (e := elI) (l := q44) (fun v => .tuple #[v, .bool q45]) en_59 rfl (fun w hw => (by rw [hq44, hq45]; exact ep_ _ q36 q43 q37 w (SLe.ap hw (SLfe.sle (OwnG.slfe hF565 (List.sublist_append_left _ _)))) (by first | omega | (simp only [List.length_cons, List.length_nil, and_true, true_and] <;> omega) | simp))) (fun p568 c569 L570 hF571 => ?_))
      refine sE rfl (sE rfl (sE rfl (sE rfl (sE rfl (nl J (Rs fun K J => WL_r rfl (av_ [[ci .i64 (-1)], [ci .i64 0], [ci .i64 1]] [ci .i64 (-1), ci .i64 0, ci .i64 1] us_70 z_3 sz_3 rfl (by decide) rfl rfl ⟨rfl, rfl, rfl, rfl, rfl, rfl, rfl, rfl, rfl, trivial⟩ rfl (fun b572 hb572 => WL_r rfl (ao_ (E := 38) (e := elI) (l := q27) (fun v => v) en_34 rfl (fun w hw => (by rw [hq27]; exact bl_ _ [(wl (-1)), (wl 0), (wl 1)] w (SLe.ap hw (SLe.lit (e := elW) (l := [(wl (-1)), (wl 0), (wl 1)]) m0 rfl (Nat.le_of_ble_eq_true rfl) rfl)) (by first | omega | (simp only [List.length_cons, List.length_nil, and_true, true_and] <;> omega) | simp))) (fun p573 c574 L575 hF576 => ?_))))))))))
      have hb577 := (by rw [hq27]; exact (bk_ [(wl (-1)), (wl 0), (wl 1)]) : (q27).length ≤ 25)
      have hr578 := (by rw [hq27]; exact (bh_ [(wl (-1)), (wl 0), (wl 1)]) : Rgt q27)
      refine sC (AV [pI q43.n, pI q43.d]) en_58 (cf_ (wl 0)) rfl rfl (by rw [hq43]; first | done | rfl) ?_
      refine sC (AV [pI q11.n, pI q11.d]) en_58 (cf_ (wl 2)) rfl rfl (by rw [hq11]; first | done | rfl) ?_
      refine WL_r rfl (ao_ (E := 38) (e := elI) (l := q46) (fun v => .tuple #[v, .bool q47]) en_59 rfl (fun w hw => (by rw [hq46, hq47]; exact ep_ _ q27 q43 q11 w (SLe.ap hw (SLfe.sle (OwnG.slfe hF576 (List.sublist_append_left _ _)))) (by first | omega | (simp only [List.length_cons, List.length_nil, and_true, true_and] <;> omega) | simp))) (fun p579 c580 L581 hF582 => ?_))
      refine sE rfl (sE rfl (sE rfl (sE rfl (sE rfl (nl J ?_)))))
      refine bJ_ [13, 117, 118, 119, 120, 121, 122, 123, 124, 125, 126, 127, 128, 129, 130, 131, 132, 133, 134, 135, 136, 137, 138, 139, 140, 141, 142, 143, 144, 145, 146, 147, 148, 149, 150, 151, 152] (fun g M => (g 13 = .bool (q45 && (q47 && (((((q44).length : Nat) : Int) == 3) && (decide ((q44.getD 0 I0) = q48) && (decide ((q44.getD 1 I0) = q48) && (decide ((q44.getD 2 I0) = q49) && q51))))))) ∧ M = (L581 ++ (L575 ++ (⟨b572, 3, flat [ci .i64 (-1), ci .i64 0, ci .i64 1]⟩ :: (L570 ++ (L564 ++ (⟨b561, 3, flat [ci .i64 0, ci .i64 0, ci .i64 1]⟩ :: (L106 ++ (⟨b103, 3, flat [ci .i64 5]⟩ :: (⟨b21, 44, flat [pI q3.n, pI q3.d]⟩ :: (L17 ++ (L11 ++ (⟨b8, 3, flat [ci .i64 (-1), ci .i64 1]⟩ :: (L4 ++ (⟨b1, 3, flat [ci .i64 1, ci .i64 1]⟩ :: []))))))))))))))) (fun K6 J6 => ?_) ?_
      ·skip
       refine dr s0 [0,4,8,12,16,20,24,28,32,36,40,44,48,52,56,60,64,68,72,76,80,84,88,92,96,100,104,108,112,116,120,124,129,133,136,140,144] [] mix (by kernel_rfl) (fun K J => pE rfl ?_)
       rcases bt q45 with h595 | h595
       ·skip
        refine pB h595 rfl (pE rfl (pE rfl ?_))
        rcases bt q47 with h596 | h596
        ·skip
         refine pB h596 rfl (pE rfl (pQ rfl (q_as (v' := .int .i64 (((q44).length : Nat) : Int)) (aV_ (e := elI) sl_22 rfl (SLfe.sle (OwnG.slfe hF571 (sR (sR (sd (List.sublist_append_left _ _))))))) rfl) (pE rfl (pE rfl ?_))))
         rcases bt ((((q44).length : Nat) : Int) == 3) with h597 | h597
         ·skip
          have ph597 := fN_ h597
          refine pB h597 rfl (pE rfl (pQ rfl (q_as (v' := .pointer (some (slb (.slice p568 q44.length c569) (0 * 18 + 0)))) (ce_ (e := elI) (l := q44) (k := 0) sl_22 rfl rfl (SLfe.sle (OwnG.slfe hF571 (sR (sR (sd (List.sublist_append_left _ _)))))) (by first | omega | (simp only [List.length_set, List.length_append, List.length_cons, List.length_nil]; omega))) rfl) ?_))
          refine pQ rfl (q_ldG (e := elI) (l := q44) (k := 0) (o := 0) ty_38 rfl (SLfe.sle (OwnG.slfe hF571 (sR (sR (sd (List.sublist_append_left _ _)))))) (aw_ I0 (by first | omega | (simp only [List.length_set, List.length_append, List.length_cons, List.length_nil]; omega))) rfl) ?_
          refine pC (AV [pI q48]) en_62 (aX_ (wl 0).1 (wl 0).2) rfl rfl (by rw [hq48]; first | done | rfl) ?_
          refine pQ rfl (f3_ (r := decide ((q44.getD 0 I0) = q48)) rfl rfl (dg_ 8 (by decide) eg_38 lw_38 (dX_ lv_pI) (dX_ lv_pI) (e0_ eq_pI))) (pE rfl ?_)
          rcases bt (decide ((q44.getD 0 I0) = q48)) with h598 | h598
          ·skip
           have ph598 := of_decide_eq_true h598
           refine pB h598 rfl (pE rfl (pQ rfl (q_as (v' := .pointer (some (slb (.slice p568 q44.length c569) (1 * 18 + 0)))) (ce_ (e := elI) (l := q44) (k := 1) sl_22 rfl rfl (SLfe.sle (OwnG.slfe hF571 (sR (sR (sd (List.sublist_append_left _ _)))))) (by first | omega | (simp only [List.length_set, List.length_append, List.length_cons, List.length_nil]; omega))) rfl) ?_))
           refine pQ rfl (q_ldG (e := elI) (l := q44) (k := 1) (o := 0) ty_38 rfl (SLfe.sle (OwnG.slfe hF571 (sR (sR (sd (List.sublist_append_left _ _)))))) (aw_ I0 (by first | omega | (simp only [List.length_set, List.length_append, List.length_cons, List.length_nil]; omega))) rfl) ?_
           refine pC (AV [pI q48]) en_62 (aX_ (wl 0).1 (wl 0).2) rfl rfl (by rw [hq48]; first | done | rfl) ?_
           refine pQ rfl (f3_ (r := decide ((q44.getD 1 I0) = q48)) rfl rfl (dg_ 8 (by decide) eg_38 lw_38 (dX_ lv_pI) (dX_ lv_pI) (e0_ eq_pI))) (pE rfl ?_)
           rcases bt (decide ((q44.getD 1 I0) = q48)) with h599 | h599
           ·skip
            have ph599 := of_decide_eq_true h599
            refine pB h599 rfl (pE rfl (pQ rfl (q_as (v' := .pointer (some (slb (.slice p568 q44.length c569) (2 * 18 + 0)))) (ce_ (e := elI) (l := q44) (k := 2) sl_22 rfl rfl (SLfe.sle (OwnG.slfe hF571 (sR (sR (sd (List.sublist_append_left _ _)))))) (by first | omega | (simp only [List.length_set, List.length_append, List.length_cons, List.length_nil]; omega))) rfl) ?_))
            refine pQ rfl (q_ldG (e := elI) (l := q44) (k := 2) (o := 0) ty_38 rfl (SLfe.sle (OwnG.slfe hF571 (sR (sR (sd (List.sublist_append_left _ _)))))) (aw_ I0 (by first | omega | (simp only [List.length_set, List.length_append, List.length_cons, List.length_nil]; omega))) rfl) ?_
            refine pC (AV [pI q49]) en_62 (aX_ (wl 1).1 (wl 1).2) rfl rfl (by rw [hq49]; first | done | rfl) ?_
            refine pQ rfl (f3_ (r := decide ((q44.getD 2 I0) = q49)) rfl rfl (dg_ 8 (by decide) eg_38 lw_38 (dX_ lv_pI) (dX_ lv_pI) (e0_ eq_pI))) (pE rfl ?_)
            rcases bt (decide ((q44.getD 2 I0) = q49)) with h600 | h600
            ·skip
             have ph600 := of_decide_eq_true h600
             refine pB h600 rfl (pE rfl (PL_o rfl rfl (av_ [[ci .i64 (-1)], [ci .i64 (-1)], [ci .i64 3]] [ci .i64 (-1), ci .i64 (-1), ci .i64 3] us_70 z_3 sz_3 rfl (by decide) rfl rfl ⟨rfl, rfl, rfl, rfl, rfl, rfl, rfl, rfl, rfl, trivial⟩ rfl (fun b601 hb601 => ⟨(fun _ => sd s0), (sd s0), PL_o rfl rfl (ao_ (E := 38) (e := elI) (l := q50) (fun v => v) en_64 rfl (fun w hw => (by rw [hq50]; exact a6_ _ [(wl (-1)), (wl (-1)), (wl 3)] w (SLe.ap hw (SLe.lit (e := elW) (l := [(wl (-1)), (wl (-1)), (wl 3)]) m0 rfl (Nat.le_of_ble_eq_true rfl) rfl)) (by first | omega | (simp only [List.length_cons, List.length_nil, and_true, true_and] <;> omega) | simp))) (fun p602 c603 L604 hF605 => ⟨(fun _ => sR s0), (sR (sd s0)), ?_⟩))⟩))))
             have hb606 := (by rw [hq50]; exact (a7_ [(wl (-1)), (wl (-1)), (wl 3)]) : (q50).length ≤ 25)
             refine pQ rfl (q_as (v' := .bool q51) (aM_ en_17 rfl (fun w hw => (by rw [hq51]; exact az_ _ q46 _ q50 w (SLe.ap hw (SLfe.sle (OwnG.slfe hF582 (sR (sd (List.sublist_append_left _ _)))))) (SLe.ap hw (SLfe.sle (OwnG.slfe hF605 (List.sublist_append_left _ _))))))) rfl) (pE rfl (pE rfl (fl J ?_)))
             refine J6 _ _ (by repeat first | exact .refl | refine .cons rfl ?_) ⟨_, (sR (sd (s0))), ?s13, rfl⟩
             case s13 => exact congrArg Value.bool (and_t h595 (and_t h596 (and_t h597 (and_t h598 (and_t h599 (and_t h600 rfl))))))
            ·skip
             have ph600 := of_decide_eq_false h600
             refine pB h600 rfl (PL_n rfl rfl (PL_on rfl rfl (PL_on rfl rfl (PL_n rfl rfl (pE rfl (pE rfl (fl J ?_)))))))
             refine J6 _ _ (by repeat first | exact .refl | refine .cons rfl ?_) ⟨_, s0, ?s13, rfl⟩
             case s13 => exact congrArg Value.bool (and_t h595 (and_t h596 (and_t h597 (and_t h598 (and_t h599 (and_f h600))))))
           ·skip
            have ph599 := of_decide_eq_false h599
            refine pB h599 rfl (PL_n rfl rfl (PL_n rfl rfl (PL_n rfl rfl (PL_n rfl rfl (PL_n rfl rfl (pE rfl (pE rfl (PL_n rfl rfl (PL_on rfl rfl (PL_on rfl rfl (PL_n rfl rfl (pE rfl (pE rfl (fl J ?_))))))))))))))
            refine J6 _ _ (by repeat first | exact .refl | refine .cons rfl ?_) ⟨_, s0, ?s13, rfl⟩
            case s13 => exact congrArg Value.bool (and_t h595 (and_t h596 (and_t h597 (and_t h598 (and_f h599)))))
          ·skip
           have ph598 := of_decide_eq_false h598
           refine pB h598 rfl (PL_n rfl rfl (PL_n rfl rfl (PL_n rfl rfl (PL_n rfl rfl (PL_n rfl rfl (pE rfl (pE rfl (PL_n rfl rfl (PL_n rfl rfl (PL_n rfl rfl (PL_n rfl rfl (PL_n rfl rfl (pE rfl (pE rfl (PL_n rfl rfl (PL_on rfl rfl (PL_on rfl rfl (PL_n rfl rfl (pE rfl ?_)))))))))))))))))))
           refine pE rfl (fl J ?_)
           refine J6 _ _ (by repeat first | exact .refl | refine .cons rfl ?_) ⟨_, s0, ?s13, rfl⟩
           case s13 => exact congrArg Value.bool (and_t h595 (and_t h596 (and_t h597 (and_f h598))))
         ·skip
          have ph597 := ey_ h597
          refine pB h597 rfl (PL_n rfl rfl (PL_n rfl rfl (PL_n rfl rfl (PL_n rfl rfl (PL_n rfl rfl (pE rfl (pE rfl (PL_n rfl rfl (PL_n rfl rfl (PL_n rfl rfl (PL_n rfl rfl (PL_n rfl rfl (pE rfl (pE rfl (PL_n rfl rfl (PL_n rfl rfl (PL_n rfl rfl (PL_n rfl rfl (PL_n rfl rfl ?_)))))))))))))))))))
          refine pE rfl (pE rfl (PL_n rfl rfl (PL_on rfl rfl (PL_on rfl rfl (PL_n rfl rfl (pE rfl (pE rfl (fl J ?_))))))))
          refine J6 _ _ (by repeat first | exact .refl | refine .cons rfl ?_) ⟨_, s0, ?s13, rfl⟩
          case s13 => exact congrArg Value.bool (and_t h595 (and_t h596 (and_f h597)))
        ·skip
         refine pB h596 rfl (PL_n rfl rfl (PL_n rfl rfl (PL_n rfl rfl (pE rfl (pE rfl (PL_n rfl rfl (PL_n rfl rfl (PL_n rfl rfl (PL_n rfl rfl (PL_n rfl rfl (pE rfl (pE rfl (PL_n rfl rfl (PL_n rfl rfl (PL_n rfl rfl (PL_n rfl rfl (PL_n rfl rfl (pE rfl (pE rfl ?_)))))))))))))))))))
         refine PL_n rfl rfl (PL_n rfl rfl (PL_n rfl rfl (PL_n rfl rfl (PL_n rfl rfl (pE rfl (pE rfl (PL_n rfl rfl (PL_on rfl rfl (PL_on rfl rfl (PL_n rfl rfl (pE rfl (pE rfl (fl J ?_)))))))))))))
         refine J6 _ _ (by repeat first | exact .refl | refine .cons rfl ?_) ⟨_, s0, ?s13, rfl⟩
         case s13 => exact congrArg Value.bool (and_t h595 (and_f h596))
       ·skip
        refine pB h595 rfl (PL_n rfl rfl (pE rfl (pE rfl (PL_n rfl rfl (PL_n rfl rfl (PL_n rfl rfl (pE rfl (pE rfl (PL_n rfl rfl (PL_n rfl rfl (PL_n rfl rfl (PL_n rfl rfl (PL_n rfl rfl (pE rfl (pE rfl (PL_n rfl rfl (PL_n rfl rfl (PL_n rfl rfl (PL_n rfl rfl ?_)))))))))))))))))))
        refine PL_n rfl rfl (pE rfl (pE rfl (PL_n rfl rfl (PL_n rfl rfl (PL_n rfl rfl (PL_n rfl rfl (PL_n rfl rfl (pE rfl (pE rfl (PL_n rfl rfl (PL_on rfl rfl (PL_on rfl rfl (PL_n rfl rfl (pE rfl (pE rfl (fl J ?_))))))))))))))))
        refine J6 _ _ (by repeat first | exact .refl | refine .cons rfl ?_) ⟨_, s0, ?s13, rfl⟩
        case s13 => exact congrArg Value.bool (and_f h595)
      ·skip
       rintro g607 M ⟨hg13, rfl⟩
       simp only [setG, hg13]
       clear hg13
       refine bJ_ [0, 153, 154, 155, 156, 157, 158, 159, 160, 161, 162, 163, 164, 165, 166, 167, 168, 169, 170, 171, 172, 173, 174, 175, 176, 177, 178, 179] (fun g M => (g 0 = .bool ((q5 && q8) && (((decide (q10.n = q11.n) && decide (q10.d = q11.d)) && (decide (q13.n = q14.n) && decide (q13.d = q14.d))) && ((q19 && q22) && ((q26 && (q31 && q35)) && ((q40 && (q42.1 == 2)) && ((q45 && (q47 && (((((q44).length : Nat) : Int) == 3) && (decide ((q44.getD 0 I0) = q48) && (decide ((q44.getD 1 I0) = q48) && (decide ((q44.getD 2 I0) = q49) && q51)))))) && (q54 && (q56.1 == (-1)))))))))) ∧ M = (L581 ++ (L575 ++ (⟨b572, 3, flat [ci .i64 (-1), ci .i64 0, ci .i64 1]⟩ :: (L570 ++ (L564 ++ (⟨b561, 3, flat [ci .i64 0, ci .i64 0, ci .i64 1]⟩ :: (L106 ++ (⟨b103, 3, flat [ci .i64 5]⟩ :: (⟨b21, 44, flat [pI q3.n, pI q3.d]⟩ :: (L17 ++ (L11 ++ (⟨b8, 3, flat [ci .i64 (-1), ci .i64 1]⟩ :: (L4 ++ (⟨b1, 3, flat [ci .i64 1, ci .i64 1]⟩ :: []))))))))))))))) (fun K7 J7 => ?_) ?_
       ·skip
        refine Rk fun K J => sE rfl ?_
        rcases bt (q5 && q8) with h631 | h631
        ·skip
         refine sB h631 rfl (sE rfl (sE rfl ?_))
         rcases bt ((decide (q10.n = q11.n) && decide (q10.d = q11.d)) && (decide (q13.n = q14.n) && decide (q13.d = q14.d))) with h632 | h632
         ·skip
          refine sB h632 rfl (sE rfl (sE rfl ?_))
          rcases bt (q19 && q22) with h633 | h633
          ·skip
           refine sB h633 rfl (sE rfl (sE rfl ?_))
           rcases bt (q26 && (q31 && q35)) with h634 | h634
           ·skip
            refine sB h634 rfl (sE rfl (sE rfl ?_))
            rcases bt (q40 && (q42.1 == 2)) with h635 | h635
            ·skip
             refine sB h635 rfl (sE rfl (sE rfl ?_))
             rcases bt (q45 && (q47 && (((((q44).length : Nat) : Int) == 3) && (decide ((q44.getD 0 I0) = q48) && (decide ((q44.getD 1 I0) = q48) && (decide ((q44.getD 2 I0) = q49) && q51)))))) with h636 | h636
             ·skip
              have ph637 := fN_ (Bool.and_eq_true_iff.1 (Bool.and_eq_true_iff.1 (Bool.and_eq_true_iff.1 h636).2).2).1
              have ph638 := of_decide_eq_true (Bool.and_eq_true_iff.1 (Bool.and_eq_true_iff.1 (Bool.and_eq_true_iff.1 (Bool.and_eq_true_iff.1 h636).2).2).2).1
              have ph639 := of_decide_eq_true (Bool.and_eq_true_iff.1 (Bool.and_eq_true_iff.1 (Bool.and_eq_true_iff.1 (Bool.and_eq_true_iff.1 (Bool.and_eq_true_iff.1 h636).2).2).2).2).1
              have ph640 := of_decide_eq_true (Bool.and_eq_true_iff.1 (Bool.and_eq_true_iff.1 (Bool.and_eq_true_iff.1 (Bool.and_eq_true_iff.1 (Bool.and_eq_true_iff.1 (Bool.and_eq_true_iff.1 h636).2).2).2).2).2).1
              refine sB h636 rfl (sC (AV [pI q52]) en_65 bv_ rfl rfl (by rw [hq52]; first | done | rfl) (WL_r rfl (av_ [[pI q52]] [pI q52] us_22 z_38 sz_38 rfl (by decide) rfl rfl ⟨rfl, rfl, rfl, trivial⟩ rfl (fun b641 hb641 => WL_r rfl (ao_ (E := 38) (e := elI) (l := q53) (fun v => v) en_15 rfl (fun w hw => (by rw [hq53]; exact c0_ _ [q52] w (SLe.ap hw (SLe.lit (e := elI) (l := [q52]) m0 rfl (Nat.le_of_ble_eq_true rfl) rfl)) (by first | omega | (simp only [List.length_cons, List.length_nil, and_true, true_and] <;> omega) | simp))) (fun p642 c643 L644 hF645 => ?_))))))
              have hb646 := (by rw [hq53]; exact (cB_ [q52]) : (q53).length ≤ 25)
              refine sQ (q_as (v' := .bool q54) (aM_ en_18 rfl (fun w hw => (by rw [hq54]; exact aP_ _ q53 w (SLe.ap hw (SLfe.sle (OwnG.slfe hF645 (List.sublist_append_left _ _))))))) rfl) rfl (sE rfl ?_)
              rcases bt q54 with h647 | h647
              ·skip
               refine sB h647 rfl (WL_r rfl (ao_ (E := 38) (e := elI) (l := q55) (fun v => v) en_34 rfl (fun w hw => (by rw [hq55]; exact bl_ _ ([] : List W) w (SLe.ap hw (SLfe.sle SLfe.nil)) (by first | omega | (simp only [List.length_cons, List.length_nil, and_true, true_and] <;> omega) | simp))) (fun p648 c649 L650 hF651 => ?_)))
               have hb652 := (by rw [hq55]; exact (bk_ ([] : List W)) : (q55).length ≤ 25)
               have hr653 := (by rw [hq55]; exact (bh_ ([] : List W)) : Rgt q55)
               refine sQ (q_as (v' := .int .i64 q56.1) (aM_ en_20 rfl (fun w hw => (by rw [hq56]; exact ha_ _ q55 w (SLe.ap hw (SLfe.sle (OwnG.slfe hF651 (List.sublist_append_left _ _))))))) rfl) rfl (sE rfl (sE rfl (sE rfl (nl J ?_))))
               refine J7 _ _ (by repeat first | exact .refl | refine .cons rfl ?_) ⟨_, (sR (sR (sd (s0)))), ?s0, rfl⟩
               case s0 => exact congrArg Value.bool (and_t h631 (and_t h632 (and_t h633 (and_t h634 (and_t h635 (and_t h636 (and_t h647 rfl)))))))
              ·skip
               refine sB h647 rfl (WL_n rfl (WL_n rfl (WL_n rfl (sE rfl (sE rfl (nl J ?_))))))
               refine J7 _ _ (by repeat first | exact .refl | refine .cons rfl ?_) ⟨_, (sR (sd (s0))), ?s0, rfl⟩
               case s0 => exact congrArg Value.bool (and_t h631 (and_t h632 (and_t h633 (and_t h634 (and_t h635 (and_t h636 (and_f h647)))))))
             ·skip
              refine sB h636 rfl (WL_n rfl (WL_n rfl (WL_n rfl (WL_n rfl (sE rfl (sE rfl (WL_n rfl (WL_n rfl (WL_n rfl (sE rfl (sE rfl (nl J ?_))))))))))))
              refine J7 _ _ (by repeat first | exact .refl | refine .cons rfl ?_) ⟨_, s0, ?s0, rfl⟩
              case s0 => exact congrArg Value.bool (and_t h631 (and_t h632 (and_t h633 (and_t h634 (and_t h635 (and_f h636))))))
            ·skip
             refine sB h635 rfl (WL_n rfl (sE rfl (sE rfl (WL_n rfl (WL_n rfl (WL_n rfl (WL_n rfl (sE rfl (sE rfl (WL_n rfl (WL_n rfl (WL_n rfl (sE rfl (sE rfl (nl J ?_)))))))))))))))
             refine J7 _ _ (by repeat first | exact .refl | refine .cons rfl ?_) ⟨_, s0, ?s0, rfl⟩
             case s0 => exact congrArg Value.bool (and_t h631 (and_t h632 (and_t h633 (and_t h634 (and_f h635)))))
           ·skip
            refine sB h634 rfl (WL_n rfl (sE rfl (sE rfl (WL_n rfl (sE rfl (sE rfl (WL_n rfl (WL_n rfl (WL_n rfl (WL_n rfl (sE rfl (sE rfl (WL_n rfl (WL_n rfl (WL_n rfl (sE rfl (sE rfl (nl J ?_))))))))))))))))))
            refine J7 _ _ (by repeat first | exact .refl | refine .cons rfl ?_) ⟨_, s0, ?s0, rfl⟩
            case s0 => exact congrArg Value.bool (and_t h631 (and_t h632 (and_t h633 (and_f h634))))
          ·skip
           refine sB h633 rfl (WL_n rfl (sE rfl (sE rfl (WL_n rfl (sE rfl (sE rfl (WL_n rfl (sE rfl (sE rfl (WL_n rfl (WL_n rfl (WL_n rfl (WL_n rfl (sE rfl (sE rfl (WL_n rfl (WL_n rfl (WL_n rfl (sE rfl ?_)))))))))))))))))))
           refine sE rfl (nl J ?_)
           refine J7 _ _ (by repeat first | exact .refl | refine .cons rfl ?_) ⟨_, s0, ?s0, rfl⟩
           case s0 => exact congrArg Value.bool (and_t h631 (and_t h632 (and_f h633)))
         ·skip
          refine sB h632 rfl (WL_n rfl (sE rfl (sE rfl (WL_n rfl (sE rfl (sE rfl (WL_n rfl (sE rfl (sE rfl (WL_n rfl (sE rfl (sE rfl (WL_n rfl (WL_n rfl (WL_n rfl (WL_n rfl (sE rfl (sE rfl (WL_n rfl ?_)))))))))))))))))))
          refine WL_n rfl (WL_n rfl (sE rfl (sE rfl (nl J ?_))))
          refine J7 _ _ (by repeat first | exact .refl | refine .cons rfl ?_) ⟨_, s0, ?s0, rfl⟩
          case s0 => exact congrArg Value.bool (and_t h631 (and_f h632))
        ·skip
         refine sB h631 rfl (WL_n rfl (sE rfl (sE rfl (WL_n rfl (sE rfl (sE rfl (WL_n rfl (sE rfl (sE rfl (WL_n rfl (sE rfl (sE rfl (WL_n rfl (sE rfl (sE rfl (WL_n rfl (WL_n rfl (WL_n rfl (WL_n rfl ?_)))))))))))))))))))
         refine sE rfl (sE rfl (WL_n rfl (WL_n rfl (WL_n rfl (sE rfl (sE rfl (nl J ?_)))))))
         refine J7 _ _ (by repeat first | exact .refl | refine .cons rfl ?_) ⟨_, s0, ?s0, rfl⟩
         case s0 => exact congrArg Value.bool (and_f h631)
       ·skip
        rintro g654 M ⟨hg0, rfl⟩
        simp only [setG, hg0]
        clear hg0
        refine W_ret (ret1 rfl (.inr rfl) rfl ?_)
        exact (by subst hq56; subst hq55; subst hq54; subst hq53; subst hq52; subst hq51; subst hq50; subst hq49; subst hq48; subst hq47; subst hq46; subst hq45; subst hq44; subst hq43; subst hq42; subst hq41; subst hq40; subst hq39; subst hq38; subst hq37; subst hq36; subst hq35; subst hq34; subst hq33; subst hq32; subst hq31; subst hq30; subst hq29; subst hq28; subst hq27; subst hq26; subst hq25; subst hq24; subst hq23; subst hq22; subst hq21; subst hq20; subst hq19; subst hq18; subst hq17; subst hq16; subst hq15; subst hq14; subst hq13; subst hq12; subst hq11; subst hq10; subst hq9; subst hq8; subst hq7; subst hq6; subst hq5; subst hq4; subst hq3; subst hq2; subst hq1; subst hq0; rfl)
end Go.Proofs.YtjdfogfmeibkgaaGreat

