/- Walks: what these functions return. -/
import Derived.Test.YthbjhbmpfeeilaaFa0
import Derived.Test.YthbjhbmpfeeilaaFn
import Derived.Test.YthbjhbmpfeeilaaSa
import Derived.Test.YthbjhbmpfeeilaaSf
import Derived.Test.YthbjhbmpfeeilaaSg
import Derived.Test.YthbjhbmpfeeilaaSh
import Derived.Test.YthbjhbmpfeeilaaWa
import Derived.Test.YthbjhbmpfeeilaaWc
import Derived.Test.YthbjhbmpfeeilaaWe
import Derived.Test.YthbjhbmpfeeilaaWh
import Derived.Test.YthbjhbmpfeeilaaWi
namespace Go.Proofs.Ythbjhbmpfeeilaa
open Go.Kn Go.Num
set_option linter.unusedVariables false
set_option linter.unusedSimpArgs false
set_option maxRecDepth 20000
set_option maxHeartbeats 8000000
theorem ratio_one_ret  :
    Ret Try.prog 114 [] (AV [pI F_ratio_one]) := by
 refine ret_of_W (N := 2) Try.func114 rfl rfl (by simp) (fun w0 => ?_)
 simp only [initF, Nat.reduceAdd]
 obtain ⟨q0, hq0⟩ := nm ((E (Z.of 1)) : I)
 refine W_sr (fun K1 hK1 => ?_)
 refine WL_r rfl (r_allocp zp_28 (fun b1 hb1 => ?_))
 refine WL_nil (hK1 _ _ ?_)
 clear hK1 K1
 refine W_sr (fun K1 hK1 => ?_)
 refine WL_q rfl (q_as (v' := AV [pI q0]) (q_ret en_47 (whole_Of_ret (wl 1).1 (wl 1).2) rfl) (by rw [hq0]; first | done | rfl)) ?_
 refine WL_st (qs := [pI q0]) rfl ty_28 rfl rfl rfl rfl rfl (.head _) hb1 ?_
 refine WL_nil (hK1 _ _ ?_)
 clear hK1 K1
 refine W_ret ?_
 refine ret1 rfl (.inr rfl) (resP rfl m0 ty_28 rfl) ?_
 exact (by subst hq0; rfl)

theorem ratio_Bad_ret  :
    Ret Try.prog 96 [] (AV [pI F_ratio_Bad.n, pI F_ratio_Bad.d]) := by
 refine ret_of_W (N := 4) Try.func96 rfl rfl (by simp) (fun w0 => ?_)
 simp only [initF, Nat.reduceAdd]
 obtain ⟨q0, hq0⟩ := nm ((E Z.bad) : I)
 obtain ⟨q1, hq1⟩ := nm (F_ratio_one : I)
 refine W_sr (fun K1 hK1 => ?_)
 refine WL_r rfl (r_allocp zp_55 (fun b1 hb1 => ?_))
 refine WL_nil (hK1 _ _ ?_)
 clear hK1 K1
 refine W_sr (fun K1 hK1 => ?_)
 refine WL_q rfl (q_as (v' := AV [pI q0]) (q_ret en_79 whole_Bad_ret rfl) (by rw [hq0]; first | done | rfl)) ?_
 refine WL_q rfl (q_as (v' := AV [pI q1]) (q_ret en_114 ratio_one_ret  rfl) (by rw [hq1]; first | done | rfl)) ?_
 refine WL_q rfl (q_buildsp zp_55 pl_55 rfl (.cons [pI q0] [pI q0, pI I0] rfl rfl rfl rfl (.cons [pI q1] [pI q0, pI q1] rfl rfl rfl rfl (.nil _)))) ?_
 refine WL_st (qs := [pI q0, pI q1]) rfl ty_55 rfl rfl rfl rfl rfl (.head _) hb1 ?_
 refine WL_nil (hK1 _ _ ?_)
 clear hK1 K1
 refine W_ret ?_
 refine ret1 rfl (.inr rfl) (resP rfl m0 ty_55 rfl) ?_
 exact (by subst hq1; subst hq0; rfl)

theorem ratio_good_ret (a : I) :
    Ret Try.prog 113 [AV [pI a]] (.bool (F_ratio_good a)) := by
 refine ret_of_W (N := 10) Try.func113 rfl rfl (by simp) (fun w0 => ?_)
 simp only [initF, Nat.reduceAdd]
 refine W_sr (fun K1 hK1 => ?_)
 refine WL_r rfl (r_boxp rfl rfl (fun b1 hb1 => ?_))
 refine WL_q rfl (q_assign rfl) ?_
 refine WL_nil (hK1 _ _ ?_)
 clear hK1 K1
 refine W_join [2, 3, 4, 5, 6, 7, 8, 9] (fun g M => (g 2 = .bool (!a.1.bad && a.1.valid)) ∧ M = [⟨b1, 28, flat [pI a]⟩]) (fun K_1 hK_1 => ?_) ?_
 ·skip
  refine W_region_k (fun K1 hK1 => ?_)
  refine WL_q rfl (q_ptr (off' := 0) (q_faddr fd_28_0 (by decide) rfl) rfl) ?_
  refine WL_q rfl (q_loadc (v := .bool a.1.bad) ty_4 rfl m0 rfl) ?_
  refine WL_q rfl (q_not rfl) ?_
  rcases bt a.1.bad with h3 | h3
  ·skip
   refine WL_q rfl (q_as (v' := .bool false) (q_move rfl) (congrArg Value.bool (not_f h3))) ?_
   refine WL_n rfl ?_
   refine WL_n rfl ?_
   refine WL_q rfl (q_pick rfl rfl) ?_
   refine WL_q rfl (q_assign rfl) ?_
   refine WL_nil (hK1 _ _ ?_)
   clear hK1 K1
   refine hK_1 _ _ (by repeat (first | exact .refl | refine .cons rfl ?_)) ⟨_, s0, ?s2, rfl⟩
   case s2 => exact congrArg Value.bool (nand_t h3)
  ·skip
   refine WL_q rfl (q_as (v' := .bool true) (q_move rfl) (congrArg Value.bool (not_t h3))) ?_
   refine WL_q rfl (q_loadp ty_28 rfl m0 rfl) ?_
   refine WL_q rfl (q_as (v' := .bool a.1.valid) (q_ret en_103 (whole_Valid_ret a.1 a.2) rfl) rfl) ?_
   refine WL_q rfl (q_pick rfl rfl) ?_
   refine WL_q rfl (q_assign rfl) ?_
   refine WL_nil (hK1 _ _ ?_)
   clear hK1 K1
   refine hK_1 _ _ (by repeat (first | exact .refl | refine .cons rfl ?_)) ⟨_, s0, ?s2, rfl⟩
   case s2 => exact congrArg Value.bool (nand_f h3 rfl)
 ·skip
  rintro g4 M ⟨hg2, rfl⟩
  simp only [setG, hg2]
  clear hg2
  refine W_ret ?_
  refine ret1 rfl (.inr rfl) rfl ?_
  exact (by rfl)

theorem ratio_Good_ret (a : Rt) :
    Ret Try.prog 95 [AV [pI a.n, pI a.d]] (.bool (F_ratio_Good a)) := by
 refine ret_of_W (N := 26) Try.func95 rfl rfl (by simp) (fun w0 => ?_)
 simp only [initF, Nat.reduceAdd]
 refine W_sr (fun K1 hK1 => ?_)
 refine WL_r rfl (r_boxp rfl rfl (fun b1 hb1 => ?_))
 refine WL_q rfl (q_assign rfl) ?_
 refine WL_nil (hK1 _ _ ?_)
 clear hK1 K1
 refine W_join [2, 3, 4, 5, 6, 7, 8, 9, 10, 11, 12, 13, 14, 15, 16, 17, 18, 19, 20, 21, 22, 23, 24, 25] (fun g M => (g 2 = .bool ((F_ratio_good a.n) && ((F_ratio_good a.d) && (decide (0 < (Z.signW a.d.dec).1) && decide ((E (Z.gcd a.n.dec a.d.dec)) = F_ratio_one))))) ∧ M = [⟨b1, 55, flat [pI a.n, pI a.d]⟩]) (fun K_1 hK_1 => ?_) ?_
 ·skip
  refine W_region_k (fun K1 hK1 => ?_)
  refine WL_q rfl (q_ptr (off' := 0) (q_faddr fd_55_0 (by decide) rfl) rfl) ?_
  refine WL_q rfl (q_loadp ty_28 rfl m0 rfl) ?_
  refine WL_q rfl (q_ret en_113 (ratio_good_ret a.n) rfl) ?_
  rcases bt (F_ratio_good a.n) with h5 | h5
  ·skip
   refine WL_q rfl (q_as (v' := .bool true) (q_move rfl) (congrArg Value.bool h5)) ?_
   refine WL_q rfl (q_ptr (off' := 18) (q_faddr fd_55_1 (by decide) rfl) rfl) ?_
   refine WL_q rfl (q_loadp ty_28 rfl m0 rfl) ?_
   refine WL_q rfl (q_ret en_113 (ratio_good_ret a.d) rfl) ?_
   refine WL_q rfl (q_pick rfl rfl) ?_
   rcases bt (F_ratio_good a.d) with h6 | h6
   ·skip
    refine WL_q rfl (q_as (v' := .bool true) (q_move rfl) (congrArg Value.bool h6)) ?_
    refine WL_q rfl (q_ptr (off' := 18) (q_faddr fd_55_1 (by decide) rfl) rfl) ?_
    refine WL_q rfl (q_loadp ty_28 rfl m0 rfl) ?_
    refine WL_q rfl (q_as (v' := .int .i64 ((Z.signW a.d.dec).1)) (q_ret en_49 (whole_Sign_ret a.d.1 a.d.2) rfl) rfl) ?_
    refine WL_q rfl (q_as (v' := .bool (decide (0 < (Z.signW a.d.dec).1))) (q_gtr rfl rfl) rfl) ?_
    refine WL_q rfl (q_pick rfl rfl) ?_
    rcases bt (decide (0 < (Z.signW a.d.dec).1)) with h7 | h7
    ·skip
     refine WL_q rfl (q_as (v' := .bool true) (q_move rfl) (congrArg Value.bool h7)) ?_
     refine WL_q rfl (q_ptr (off' := 0) (q_faddr fd_55_0 (by decide) rfl) rfl) ?_
     refine WL_q rfl (q_loadp ty_28 rfl m0 rfl) ?_
     refine WL_q rfl (q_ptr (off' := 18) (q_faddr fd_55_1 (by decide) rfl) rfl) ?_
     refine WL_q rfl (q_loadp ty_28 rfl m0 rfl) ?_
     refine WL_q rfl (q_as (v' := AV [pI (E (Z.gcd a.n.dec a.d.dec))]) (q_ret en_48 (whole_Gcd_ret a.n.1 a.d.1 a.n.2 a.d.2) rfl) rfl) ?_
     refine WL_q rfl (q_ret en_114 ratio_one_ret  rfl) ?_
     refine WL_q rfl (q_eqla (r := decide ((E (Z.gcd a.n.dec a.d.dec)) = F_ratio_one)) rfl rfl (eqOk_of 8 (by decide) eg_28 lw_28 (lv_one lv_pI) (lv_one lv_pI) (eqP_one eq_pI))) ?_
     refine WL_q rfl (q_pick rfl rfl) ?_
     refine WL_q rfl (q_assign rfl) ?_
     refine WL_nil (hK1 _ _ ?_)
     clear hK1 K1
     refine hK_1 _ _ (by repeat (first | exact .refl | refine .cons rfl ?_)) ⟨_, s0, ?s2, rfl⟩
     case s2 => exact congrArg Value.bool (and_t h5 (and_t h6 (and_t h7 rfl)))
    ·skip
     refine WL_q rfl (q_as (v' := .bool false) (q_move rfl) (congrArg Value.bool h7)) ?_
     refine WL_n rfl ?_
     refine WL_n rfl ?_
     refine WL_n rfl ?_
     refine WL_n rfl ?_
     refine WL_n rfl ?_
     refine WL_n rfl ?_
     refine WL_n rfl ?_
     refine WL_q rfl (q_pick rfl rfl) ?_
     refine WL_q rfl (q_assign rfl) ?_
     refine WL_nil (hK1 _ _ ?_)
     clear hK1 K1
     refine hK_1 _ _ (by repeat (first | exact .refl | refine .cons rfl ?_)) ⟨_, s0, ?s2, rfl⟩
     case s2 => exact congrArg Value.bool (and_t h5 (and_t h6 (and_f h7)))
   ·skip
    refine WL_q rfl (q_as (v' := .bool false) (q_move rfl) (congrArg Value.bool h6)) ?_
    refine WL_n rfl ?_
    refine WL_n rfl ?_
    refine WL_n rfl ?_
    refine WL_n rfl ?_
    refine WL_q rfl (q_pick rfl rfl) ?_
    refine WL_q rfl (q_move rfl) ?_
    refine WL_n rfl ?_
    refine WL_n rfl ?_
    refine WL_n rfl ?_
    refine WL_n rfl ?_
    refine WL_n rfl ?_
    refine WL_n rfl ?_
    refine WL_n rfl ?_
    refine WL_q rfl (q_pick rfl rfl) ?_
    refine WL_q rfl (q_assign rfl) ?_
    refine WL_nil (hK1 _ _ ?_)
    clear hK1 K1
    refine hK_1 _ _ (by repeat (first | exact .refl | refine .cons rfl ?_)) ⟨_, s0, ?s2, rfl⟩
    case s2 => exact congrArg Value.bool (and_t h5 (and_f h6))
  ·skip
   refine WL_q rfl (q_as (v' := .bool false) (q_move rfl) (congrArg Value.bool h5)) ?_
   refine WL_n rfl ?_
   refine WL_n rfl ?_
   refine WL_n rfl ?_
   refine WL_q rfl (q_pick rfl rfl) ?_
   refine WL_q rfl (q_move rfl) ?_
   refine WL_n rfl ?_
   refine WL_n rfl ?_
   refine WL_n rfl ?_
   refine WL_n rfl ?_
   refine WL_q rfl (q_pick rfl rfl) ?_
   refine WL_q rfl (q_move rfl) ?_
   refine WL_n rfl ?_
   refine WL_n rfl ?_
   refine WL_n rfl ?_
   refine WL_n rfl ?_
   refine WL_n rfl ?_
   refine WL_n rfl ?_
   refine WL_n rfl ?_
   refine WL_q rfl (q_pick rfl rfl) ?_
   refine WL_q rfl (q_assign rfl) ?_
   refine WL_nil (hK1 _ _ ?_)
   clear hK1 K1
   refine hK_1 _ _ (by repeat (first | exact .refl | refine .cons rfl ?_)) ⟨_, s0, ?s2, rfl⟩
   case s2 => exact congrArg Value.bool (and_f h5)
 ·skip
  rintro g8 M ⟨hg2, rfl⟩
  simp only [setG, hg2]
  clear hg2
  refine W_ret ?_
  refine ret1 rfl (.inr rfl) rfl ?_
  exact (by rfl)

theorem ratio_Make_ret (a : I) (b : I) :
    Ret Try.prog 97 [AV [pI a], AV [pI b]] (AV [pI ((F_ratio_Make a b).n), pI ((F_ratio_Make a b).d)]) := by
 refine ret_of_W (N := 35) Try.func97 rfl rfl (by simp) (fun w0 => ?_)
 simp only [initF, Nat.reduceAdd]
 refine W_sr (fun K1 hK1 => ?_)
 refine WL_r rfl (r_boxp rfl rfl (fun b1 hb1 => ?_))
 refine WL_r rfl (r_boxp rfl rfl (fun b2 hb2 => ?_))
 refine WL_r rfl (r_allocp zp_55 (fun b3 hb3 => ?_))
 refine WL_nil (hK1 _ _ ?_)
 clear hK1 K1
 refine W_seq (fun K_1 hK_1 => ?_)
 refine W_join [6, 7, 8, 9, 10, 11, 12, 13, 14, 15, 16, 17, 18] (fun g M => (g 18 = .bool (!(F_ratio_good a) || (!(F_ratio_good b) || ((Z.signW b.dec).1 == 0)))) ∧ M = [⟨b3, 55, flat [pI I0, pI I0]⟩, ⟨b2, 28, flat [pI b]⟩, ⟨b1, 28, flat [pI a]⟩]) (fun K_2 hK_2 => ?_) ?_
 ·skip
  refine W_region_k (fun K1 hK1 => ?_)
  refine WL_q rfl (q_loadp ty_28 rfl m2 rfl) ?_
  refine WL_q rfl (q_ret en_113 (ratio_good_ret a) rfl) ?_
  refine WL_q rfl (q_not rfl) ?_
  rcases bt (F_ratio_good a) with h6 | h6
  ·skip
   refine WL_q rfl (q_as (v' := .bool false) (q_move rfl) (congrArg Value.bool (not_f h6))) ?_
   refine WL_q rfl (q_loadp ty_28 rfl m1 rfl) ?_
   refine WL_q rfl (q_ret en_113 (ratio_good_ret b) rfl) ?_
   refine WL_q rfl (q_not rfl) ?_
   refine WL_q rfl (q_pick rfl rfl) ?_
   rcases bt (F_ratio_good b) with h7 | h7
   ·skip
    refine WL_q rfl (q_as (v' := .bool false) (q_move rfl) (congrArg Value.bool (not_f h7))) ?_
    refine WL_q rfl (q_loadp ty_28 rfl m1 rfl) ?_
    refine WL_q rfl (q_as (v' := .int .i64 ((Z.signW b.dec).1)) (q_ret en_49 (whole_Sign_ret b.1 b.2) rfl) rfl) ?_
    refine WL_q rfl (q_as (v' := .bool ((Z.signW b.dec).1 == 0)) (q_eql rfl rfl) rfl) ?_
    refine WL_q rfl (q_pick rfl rfl) ?_
    refine WL_nil (hK1 _ _ ?_)
    clear hK1 K1
    refine hK_2 _ _ (by repeat (first | exact .refl | refine .cons rfl ?_)) ⟨_, s0, ?s18, rfl⟩
    case s18 => exact congrArg Value.bool (nor_t h6 (nor_t h7 rfl))
   ·skip
    refine WL_q rfl (q_as (v' := .bool true) (q_move rfl) (congrArg Value.bool (not_t h7))) ?_
    refine WL_n rfl ?_
    refine WL_n rfl ?_
    refine WL_n rfl ?_
    refine WL_q rfl (q_pick rfl rfl) ?_
    refine WL_nil (hK1 _ _ ?_)
    clear hK1 K1
    refine hK_2 _ _ (by repeat (first | exact .refl | refine .cons rfl ?_)) ⟨_, s0, ?s18, rfl⟩
    case s18 => exact congrArg Value.bool (nor_t h6 (nor_f h7))
  ·skip
   refine WL_q rfl (q_as (v' := .bool true) (q_move rfl) (congrArg Value.bool (not_t h6))) ?_
   refine WL_n rfl ?_
   refine WL_n rfl ?_
   refine WL_n rfl ?_
   refine WL_q rfl (q_pick rfl rfl) ?_
   refine WL_q rfl (q_move rfl) ?_
   refine WL_n rfl ?_
   refine WL_n rfl ?_
   refine WL_n rfl ?_
   refine WL_q rfl (q_pick rfl rfl) ?_
   refine WL_nil (hK1 _ _ ?_)
   clear hK1 K1
   refine hK_2 _ _ (by repeat (first | exact .refl | refine .cons rfl ?_)) ⟨_, s0, ?s18, rfl⟩
   case s18 => exact congrArg Value.bool (nor_f h6)
 ·skip
  rintro g8 M ⟨hg18, rfl⟩
  simp only [setG, hg18]
  clear hg18
  rcases bt (!(F_ratio_good a) || (!(F_ratio_good b) || ((Z.signW b.dec).1 == 0))) with h9 | h9
  ·skip
   refine W_t h9 rfl ?_
   refine W_sr (fun K1 hK1 => ?_)
   refine WL_q rfl (q_ret en_96 ratio_Bad_ret  rfl) ?_
   refine WL_st (qs := [pI F_ratio_Bad.n, pI F_ratio_Bad.d]) rfl ty_55 rfl rfl rfl rfl rfl (.head _) hb3 ?_
   refine WL_nil (hK1 _ _ ?_)
   clear hK1 K1
   refine W_ret ?_
   refine thenK_r (ret1 rfl (.inr rfl) (resP rfl m0 ty_55 rfl) ?_)
   exact (by exact congrArg (fun r : Rt => (AV [pI r.n, pI r.d] : Value)) (show _ = (F_ratio_Make a b) from bif_t h9 rfl))
  ·skip
   refine W_f h9 rfl ?_
   refine W_skip ?_
   refine hK_1 _ _ ?_
   try clear hK_1 K_1
   refine W_sr (fun K1 hK1 => ?_)
   refine WL_q rfl (q_loadp ty_28 rfl m2 rfl) ?_
   refine WL_q rfl (q_loadp ty_28 rfl m1 rfl) ?_
   refine WL_q rfl (q_as (v' := AV [pI (E (Z.gcd a.dec b.dec))]) (q_ret en_48 (whole_Gcd_ret a.1 b.1 a.2 b.2) rfl) rfl) ?_
   refine WL_r rfl (r_allocp zp_28 (fun b10 hb10 => ?_))
   refine WL_st (qs := [pI (E (Z.gcd a.dec b.dec))]) rfl ty_28 rfl rfl rfl rfl rfl (.head _) hb10 ?_
   refine WL_nil (hK1 _ _ ?_)
   clear hK1 K1
   refine W_seq (fun K_3 hK_3 => ?_)
   refine W_sr (fun K1 hK1 => ?_)
   refine WL_q rfl (q_loadp ty_28 rfl m2 rfl) ?_
   refine WL_q rfl (q_as (v' := .int .i64 ((Z.signW b.dec).1)) (q_ret en_49 (whole_Sign_ret b.1 b.2) rfl) rfl) ?_
   refine WL_q rfl (q_as (v' := .bool (decide ((Z.signW b.dec).1 < 0))) (q_lss rfl rfl) rfl) ?_
   refine WL_nil (hK1 _ _ ?_)
   clear hK1 K1
   rcases bt (decide ((Z.signW b.dec).1 < 0)) with h11 | h11
   ·skip
    refine W_t h11 rfl ?_
    refine W_region_k (fun K1 hK1 => ?_)
    refine WL_q rfl (q_loadp ty_28 rfl m0 rfl) ?_
    refine WL_q rfl (q_as (v' := AV [pI (E (Z.neg (Z.gcd a.dec b.dec)))]) (q_ret en_59 (whole_Neg_ret (E (Z.gcd a.dec b.dec)).1 (E (Z.gcd a.dec b.dec)).2) rfl) (cg1 (fun p => AV [pI (E (Z.neg p))]) (E_dec _))) ?_
    refine WL_st (qs := [pI (E (Z.neg (Z.gcd a.dec b.dec)))]) rfl ty_28 rfl rfl rfl rfl rfl (.head _) hb10 ?_
    refine WL_nil (hK1 _ _ ?_)
    clear hK1 K1
    refine hK_3 _ _ ?_
    try clear hK_3 K_3
    refine W_sdr (sk (sd (sk (sk (s0))))) (.quiet 0 [2,5,6,7] (.quiet 1 [2,5,6,7] (.quiet 2 [5,6,7] (.quiet 3 [5,6,7] (.quiet 4 [5,6,7] (.quiet 5 [6,7] (.quiet 6 [7] (.only 7 (.fin))))))))) [0,1,2,3,4,5,6] mix (by kernel_rfl) (by kernel_rfl) (fun K1 hK1 => ?_)
    refine PL_q rfl rfl (q_loadp ty_28 rfl m3 rfl) ?_
    refine PL_q rfl rfl (q_loadp ty_28 rfl m0 rfl) ?_
    refine PL_q rfl rfl (q_as (v' := AV [pI (E (Z.quo a.dec (Z.neg (Z.gcd a.dec b.dec))))]) (q_ret en_51 (whole_Quo_ret a.1 (E (Z.neg (Z.gcd a.dec b.dec))).1 a.2 (E (Z.neg (Z.gcd a.dec b.dec))).2) rfl) (cg2 (fun p q => AV [pI (E (Z.quo p q))]) rfl (E_dec _))) ?_
    refine PL_q rfl rfl (q_loadp ty_28 rfl m2 rfl) ?_
    refine PL_q rfl rfl (q_loadp ty_28 rfl m0 rfl) ?_
    refine PL_q rfl rfl (q_as (v' := AV [pI (E (Z.quo b.dec (Z.neg (Z.gcd a.dec b.dec))))]) (q_ret en_51 (whole_Quo_ret b.1 (E (Z.neg (Z.gcd a.dec b.dec))).1 b.2 (E (Z.neg (Z.gcd a.dec b.dec))).2) rfl) (cg2 (fun p q => AV [pI (E (Z.quo p q))]) rfl (E_dec _))) ?_
    refine PL_q rfl rfl (q_buildsp zp_55 pl_55 rfl (.cons [pI (E (Z.quo a.dec (Z.neg (Z.gcd a.dec b.dec))))] [pI (E (Z.quo a.dec (Z.neg (Z.gcd a.dec b.dec)))), pI I0] rfl rfl rfl rfl (.cons [pI (E (Z.quo b.dec (Z.neg (Z.gcd a.dec b.dec))))] [pI (E (Z.quo a.dec (Z.neg (Z.gcd a.dec b.dec)))), pI (E (Z.quo b.dec (Z.neg (Z.gcd a.dec b.dec))))] rfl rfl rfl rfl (.nil _)))) ?_
    refine PL_st rfl (qs := [pI (E (Z.quo a.dec (Z.neg (Z.gcd a.dec b.dec)))), pI (E (Z.quo b.dec (Z.neg (Z.gcd a.dec b.dec))))]) rfl ty_55 rfl rfl rfl rfl rfl (.tail _ (.head _)) hb3 rfl (sk (sd s0)) ?_
    refine PL_fin (hK1 _ _ ?_)
    clear hK1 K1
    refine W_ret ?_
    refine ret1 rfl (.inr rfl) (resP rfl m1 ty_55 rfl) ?_
    exact (by exact congrArg (fun r : Rt => (AV [pI r.n, pI r.d] : Value)) (show _ = (F_ratio_Make a b) from bif_f h9 (bif_t h11 rfl)))
   ·skip
    refine W_f h11 rfl ?_
    refine W_skip ?_
    refine hK_3 _ _ ?_
    try clear hK_3 K_3
    refine W_sdr (sk (sd (sk (sk (s0))))) (.quiet 0 [2,5,6,7] (.quiet 1 [2,5,6,7] (.quiet 2 [5,6,7] (.quiet 3 [5,6,7] (.quiet 4 [5,6,7] (.quiet 5 [6,7] (.quiet 6 [7] (.only 7 (.fin))))))))) [0,1,2,3,4,5,6] mix (by kernel_rfl) (by kernel_rfl) (fun K1 hK1 => ?_)
    refine PL_q rfl rfl (q_loadp ty_28 rfl m3 rfl) ?_
    refine PL_q rfl rfl (q_loadp ty_28 rfl m0 rfl) ?_
    refine PL_q rfl rfl (q_as (v' := AV [pI (E (Z.quo a.dec (Z.gcd a.dec b.dec)))]) (q_ret en_51 (whole_Quo_ret a.1 (E (Z.gcd a.dec b.dec)).1 a.2 (E (Z.gcd a.dec b.dec)).2) rfl) (cg2 (fun p q => AV [pI (E (Z.quo p q))]) rfl (E_dec _))) ?_
    refine PL_q rfl rfl (q_loadp ty_28 rfl m2 rfl) ?_
    refine PL_q rfl rfl (q_loadp ty_28 rfl m0 rfl) ?_
    refine PL_q rfl rfl (q_as (v' := AV [pI (E (Z.quo b.dec (Z.gcd a.dec b.dec)))]) (q_ret en_51 (whole_Quo_ret b.1 (E (Z.gcd a.dec b.dec)).1 b.2 (E (Z.gcd a.dec b.dec)).2) rfl) (cg2 (fun p q => AV [pI (E (Z.quo p q))]) rfl (E_dec _))) ?_
    refine PL_q rfl rfl (q_buildsp zp_55 pl_55 rfl (.cons [pI (E (Z.quo a.dec (Z.gcd a.dec b.dec)))] [pI (E (Z.quo a.dec (Z.gcd a.dec b.dec))), pI I0] rfl rfl rfl rfl (.cons [pI (E (Z.quo b.dec (Z.gcd a.dec b.dec)))] [pI (E (Z.quo a.dec (Z.gcd a.dec b.dec))), pI (E (Z.quo b.dec (Z.gcd a.dec b.dec)))] rfl rfl rfl rfl (.nil _)))) ?_
    refine PL_st rfl (qs := [pI (E (Z.quo a.dec (Z.gcd a.dec b.dec))), pI (E (Z.quo b.dec (Z.gcd a.dec b.dec)))]) rfl ty_55 rfl rfl rfl rfl rfl (.tail _ (.head _)) hb3 rfl (sk (sd s0)) ?_
    refine PL_fin (hK1 _ _ ?_)
    clear hK1 K1
    refine W_ret ?_
    refine ret1 rfl (.inr rfl) (resP rfl m1 ty_55 rfl) ?_
    exact (by exact congrArg (fun r : Rt => (AV [pI r.n, pI r.d] : Value)) (show _ = (F_ratio_Make a b) from bif_f h9 (bif_f h11 rfl)))

theorem ratio_Whole_ret (a : I) :
    Ret Try.prog 98 [AV [pI a]] (AV [pI ((F_ratio_Whole a).n), pI ((F_ratio_Whole a).d)]) := by
 refine ret_of_W (N := 6) Try.func98 rfl rfl (by simp) (fun w0 => ?_)
 simp only [initF, Nat.reduceAdd]
 refine W_sr (fun K1 hK1 => ?_)
 refine WL_r rfl (r_boxp rfl rfl (fun b1 hb1 => ?_))
 refine WL_r rfl (r_allocp zp_55 (fun b2 hb2 => ?_))
 refine WL_nil (hK1 _ _ ?_)
 clear hK1 K1
 refine W_sdr (sd (sk (s0))) (.quiet 0 [2,3] (.quiet 1 [2,3] (.quiet 2 [3] (.only 3 (.fin))))) [0,1,2] mix (by kernel_rfl) (by kernel_rfl) (fun K1 hK1 => ?_)
 refine PL_q rfl rfl (q_loadp ty_28 rfl m1 rfl) ?_
 refine PL_q rfl rfl (q_ret en_114 ratio_one_ret  rfl) ?_
 refine PL_q rfl rfl (q_ret en_97 (ratio_Make_ret a F_ratio_one) rfl) ?_
 refine PL_st rfl (qs := [pI ((F_ratio_Make a F_ratio_one).n), pI ((F_ratio_Make a F_ratio_one).d)]) rfl ty_55 rfl rfl rfl rfl rfl (.head _) hb2 rfl (sd s0) ?_
 refine PL_fin (hK1 _ _ ?_)
 clear hK1 K1
 refine W_ret ?_
 refine ret1 rfl (.inr rfl) (resP rfl m0 ty_55 rfl) ?_
 exact (by rfl)

theorem ratio_Of_ret (a : W) :
    Ret Try.prog 71 [.int .i64 a.1] (AV [pI ((F_ratio_Of a).n), pI ((F_ratio_Of a).d)]) := by
 refine ret_of_W (N := 6) Try.func71 rfl rfl (by simp) (fun w0 => ?_)
 simp only [initF, Nat.reduceAdd]
 refine W_sr (fun K1 hK1 => ?_)
 refine WL_r rfl (r_allocp zp_55 (fun b1 hb1 => ?_))
 refine WL_nil (hK1 _ _ ?_)
 clear hK1 K1
 refine W_sr (fun K1 hK1 => ?_)
 refine WL_q rfl (q_move rfl) ?_
 refine WL_q rfl (q_as (v' := AV [pI (E (Z.of a.1))]) (q_ret en_47 (whole_Of_ret a.1 a.2) rfl) rfl) ?_
 refine WL_q rfl (q_ret en_98 (ratio_Whole_ret (E (Z.of a.1))) rfl) ?_
 refine WL_st (qs := [pI ((F_ratio_Whole (E (Z.of a.1))).n), pI ((F_ratio_Whole (E (Z.of a.1))).d)]) rfl ty_55 rfl rfl rfl rfl rfl (.head _) hb1 ?_
 refine WL_nil (hK1 _ _ ?_)
 clear hK1 K1
 refine W_ret ?_
 refine ret1 rfl (.inr rfl) (resP rfl m0 ty_55 rfl) ?_
 exact (by rfl)

theorem ratio_Neg_ret (a : Rt) :
    Ret Try.prog 94 [AV [pI a.n, pI a.d]] (AV [pI ((F_ratio_Neg a).n), pI ((F_ratio_Neg a).d)]) := by
 refine ret_of_W (N := 13) Try.func94 rfl rfl (by simp) (fun w0 => ?_)
 simp only [initF, Nat.reduceAdd]
 refine W_sr (fun K1 hK1 => ?_)
 refine WL_r rfl (r_boxp rfl rfl (fun b1 hb1 => ?_))
 refine WL_r rfl (r_allocp zp_55 (fun b2 hb2 => ?_))
 refine WL_nil (hK1 _ _ ?_)
 clear hK1 K1
 refine W_seq (fun K_1 hK_1 => ?_)
 refine W_sr (fun K1 hK1 => ?_)
 refine WL_q rfl (q_loadp ty_55 rfl m1 rfl) ?_
 refine WL_q rfl (q_ret en_95 (ratio_Good_ret a) rfl) ?_
 refine WL_q rfl (q_not rfl) ?_
 refine WL_nil (hK1 _ _ ?_)
 clear hK1 K1
 rcases bt (F_ratio_Good a) with h3 | h3
 ·skip
  refine W_f (not_f h3) rfl ?_
  refine W_skip ?_
  refine hK_1 _ _ ?_
  try clear hK_1 K_1
  refine W_sdr (sd (sk (s0))) (.quiet 0 [1,2,5,6] (.quiet 1 [2,5,6] (.quiet 2 [5,6] (.quiet 3 [4,5,6] (.quiet 4 [5,6] (.quiet 5 [6] (.only 6 (.fin)))))))) [0,1,2,3,4,5] mix (by kernel_rfl) (by kernel_rfl) (fun K1 hK1 => ?_)
  refine PL_q rfl rfl (q_ptr (off' := 0) (q_faddr fd_55_0 (by decide) rfl) rfl) ?_
  refine PL_q rfl rfl (q_loadp ty_28 rfl m1 rfl) ?_
  refine PL_q rfl rfl (q_as (v' := AV [pI (E (Z.neg a.n.dec))]) (q_ret en_59 (whole_Neg_ret a.n.1 a.n.2) rfl) rfl) ?_
  refine PL_q rfl rfl (q_ptr (off' := 18) (q_faddr fd_55_1 (by decide) rfl) rfl) ?_
  refine PL_q rfl rfl (q_loadp ty_28 rfl m1 rfl) ?_
  refine PL_q rfl rfl (q_buildsp zp_55 pl_55 rfl (.cons [pI (E (Z.neg a.n.dec))] [pI (E (Z.neg a.n.dec)), pI I0] rfl rfl rfl rfl (.cons [pI a.d] [pI (E (Z.neg a.n.dec)), pI a.d] rfl rfl rfl rfl (.nil _)))) ?_
  refine PL_st rfl (qs := [pI (E (Z.neg a.n.dec)), pI a.d]) rfl ty_55 rfl rfl rfl rfl rfl (.head _) hb2 rfl (sd s0) ?_
  refine PL_fin (hK1 _ _ ?_)
  clear hK1 K1
  refine W_ret ?_
  refine ret1 rfl (.inr rfl) (resP rfl m0 ty_55 rfl) ?_
  exact (by exact congrArg (fun r : Rt => (AV [pI r.n, pI r.d] : Value)) (show _ = (F_ratio_Neg a) from bif_t h3 rfl))
 ·skip
  refine W_t (not_t h3) rfl ?_
  refine W_sr (fun K1 hK1 => ?_)
  refine WL_q rfl (q_ret en_96 ratio_Bad_ret  rfl) ?_
  refine WL_st (qs := [pI F_ratio_Bad.n, pI F_ratio_Bad.d]) rfl ty_55 rfl rfl rfl rfl rfl (.head _) hb2 ?_
  refine WL_nil (hK1 _ _ ?_)
  clear hK1 K1
  refine W_ret ?_
  refine thenK_r (ret1 rfl (.inr rfl) (resP rfl m0 ty_55 rfl) ?_)
  exact (by exact congrArg (fun r : Rt => (AV [pI r.n, pI r.d] : Value)) (show _ = (F_ratio_Neg a) from bif_f h3 rfl))

theorem ratio_Add_ret (a : Rt) (b : Rt) :
    Ret Try.prog 72 [AV [pI a.n, pI a.d], AV [pI b.n, pI b.d]] (AV [pI ((F_ratio_Add a b).n), pI ((F_ratio_Add a b).d)]) := by
 refine ret_of_W (N := 44) Try.func72 rfl rfl (by simp) (fun w0 => ?_)
 simp only [initF, Nat.reduceAdd]
 refine W_sr (fun K1 hK1 => ?_)
 refine WL_r rfl (r_boxp rfl rfl (fun b1 hb1 => ?_))
 refine WL_r rfl (r_boxp rfl rfl (fun b2 hb2 => ?_))
 refine WL_r rfl (r_allocp zp_55 (fun b3 hb3 => ?_))
 refine WL_nil (hK1 _ _ ?_)
 clear hK1 K1
 refine W_seq (fun K_1 hK_1 => ?_)
 refine W_join [8, 9, 10, 11, 12, 13, 14, 15] (fun g M => (g 15 = .bool (!(F_ratio_Good a) || (!(F_ratio_Good b)))) ∧ M = [⟨b3, 55, flat [pI I0, pI I0]⟩, ⟨b2, 55, flat [pI b.n, pI b.d]⟩, ⟨b1, 55, flat [pI a.n, pI a.d]⟩]) (fun K_2 hK_2 => ?_) ?_
 ·skip
  refine W_region_k (fun K1 hK1 => ?_)
  refine WL_q rfl (q_loadp ty_55 rfl m2 rfl) ?_
  refine WL_q rfl (q_ret en_95 (ratio_Good_ret a) rfl) ?_
  refine WL_q rfl (q_not rfl) ?_
  rcases bt (F_ratio_Good a) with h5 | h5
  ·skip
   refine WL_q rfl (q_as (v' := .bool false) (q_move rfl) (congrArg Value.bool (not_f h5))) ?_
   refine WL_q rfl (q_loadp ty_55 rfl m1 rfl) ?_
   refine WL_q rfl (q_ret en_95 (ratio_Good_ret b) rfl) ?_
   refine WL_q rfl (q_not rfl) ?_
   refine WL_q rfl (q_pick rfl rfl) ?_
   refine WL_nil (hK1 _ _ ?_)
   clear hK1 K1
   refine hK_2 _ _ (by repeat (first | exact .refl | refine .cons rfl ?_)) ⟨_, s0, ?s15, rfl⟩
   case s15 => exact congrArg Value.bool (nor_t h5 rfl)
  ·skip
   refine WL_q rfl (q_as (v' := .bool true) (q_move rfl) (congrArg Value.bool (not_t h5))) ?_
   refine WL_n rfl ?_
   refine WL_n rfl ?_
   refine WL_n rfl ?_
   refine WL_q rfl (q_pick rfl rfl) ?_
   refine WL_nil (hK1 _ _ ?_)
   clear hK1 K1
   refine hK_2 _ _ (by repeat (first | exact .refl | refine .cons rfl ?_)) ⟨_, s0, ?s15, rfl⟩
   case s15 => exact congrArg Value.bool (nor_f h5)
 ·skip
  rintro g6 M ⟨hg15, rfl⟩
  simp only [setG, hg15]
  clear hg15
  rcases bt (!(F_ratio_Good a) || (!(F_ratio_Good b))) with h7 | h7
  ·skip
   refine W_t h7 rfl ?_
   refine W_sr (fun K1 hK1 => ?_)
   refine WL_q rfl (q_ret en_96 ratio_Bad_ret  rfl) ?_
   refine WL_st (qs := [pI F_ratio_Bad.n, pI F_ratio_Bad.d]) rfl ty_55 rfl rfl rfl rfl rfl (.head _) hb3 ?_
   refine WL_nil (hK1 _ _ ?_)
   clear hK1 K1
   refine W_ret ?_
   refine thenK_r (ret1 rfl (.inr rfl) (resP rfl m0 ty_55 rfl) ?_)
   exact (by exact congrArg (fun r : Rt => (AV [pI r.n, pI r.d] : Value)) (show _ = (F_ratio_Add a b) from bif_t h7 rfl))
  ·skip
   refine W_f h7 rfl ?_
   refine W_skip ?_
   refine hK_1 _ _ ?_
   try clear hK_1 K_1
   refine W_sr (fun K1 hK1 => ?_)
   refine WL_q rfl (q_ptr (off' := 18) (q_faddr fd_55_1 (by decide) rfl) rfl) ?_
   refine WL_q rfl (q_loadp ty_28 rfl m2 rfl) ?_
   refine WL_q rfl (q_ptr (off' := 18) (q_faddr fd_55_1 (by decide) rfl) rfl) ?_
   refine WL_q rfl (q_loadp ty_28 rfl m1 rfl) ?_
   refine WL_q rfl (q_as (v' := AV [pI (E (Z.gcd a.d.dec b.d.dec))]) (q_ret en_48 (whole_Gcd_ret a.d.1 b.d.1 a.d.2 b.d.2) rfl) rfl) ?_
   refine WL_r rfl (r_allocp zp_28 (fun b8 hb8 => ?_))
   refine WL_st (qs := [pI (E (Z.gcd a.d.dec b.d.dec))]) rfl ty_28 rfl rfl rfl rfl rfl (.head _) hb8 ?_
   refine WL_nil (hK1 _ _ ?_)
   clear hK1 K1
   refine W_sdr (sk (sk (sk (sk (s0))))) (.quiet 0 [1,3,7,10,11] (.quiet 1 [3,7,10,11] (.quiet 2 [3,7,10,11] (.quiet 3 [7,10,11] (.quiet 4 [5,7,10,11] (.quiet 5 [7,10,11] (.quiet 6 [7,10,11] (.quiet 7 [10,11] (.both 8 (.only 9 (.only 10 (.only 11 (.fin)))) 9 (.only 8 (.only 10 (.only 11 (.fin))))))))))))) [0,1,2,3,4,5,6,7,8,9] mix (by kernel_rfl) (by kernel_rfl) (fun K1 hK1 => ?_)
   refine PL_q rfl rfl (q_ptr (off' := 18) (q_faddr fd_55_1 (by decide) rfl) rfl) ?_
   refine PL_q rfl rfl (q_loadp ty_28 rfl m3 rfl) ?_
   refine PL_q rfl rfl (q_loadp ty_28 rfl m0 rfl) ?_
   refine PL_q rfl rfl (q_as (v' := AV [pI (E (Z.quo a.d.dec (Z.gcd a.d.dec b.d.dec)))]) (q_ret en_51 (whole_Quo_ret a.d.1 (E (Z.gcd a.d.dec b.d.dec)).1 a.d.2 (E (Z.gcd a.d.dec b.d.dec)).2) rfl) (cg2 (fun p q => AV [pI (E (Z.quo p q))]) rfl (E_dec _))) ?_
   refine PL_q rfl rfl (q_ptr (off' := 18) (q_faddr fd_55_1 (by decide) rfl) rfl) ?_
   refine PL_q rfl rfl (q_loadp ty_28 rfl m2 rfl) ?_
   refine PL_q rfl rfl (q_loadp ty_28 rfl m0 rfl) ?_
   refine PL_q rfl rfl (q_as (v' := AV [pI (E (Z.quo b.d.dec (Z.gcd a.d.dec b.d.dec)))]) (q_ret en_51 (whole_Quo_ret b.d.1 (E (Z.gcd a.d.dec b.d.dec)).1 b.d.2 (E (Z.gcd a.d.dec b.d.dec)).2) rfl) (cg2 (fun p q => AV [pI (E (Z.quo p q))]) rfl (E_dec _))) ?_
   refine PL_b ?_ ?_
   ·skip
    refine PL_o rfl rfl (r_allocp zp_28 (fun b9 hb9 => ⟨(fun _ => sd s0), (sd s0), ?_⟩))
    refine PL_o rfl rfl (r_allocp zp_28 (fun b10 hb10 => ⟨(fun _ => sd s0), (sd (sd s0)), ?_⟩))
    refine PL_st rfl (qs := [pI (E (Z.quo a.d.dec (Z.gcd a.d.dec b.d.dec)))]) rfl ty_28 rfl rfl rfl rfl rfl (.tail _ (.head _)) hb9 rfl (sd (sd s0)) ?_
    refine PL_st rfl (qs := [pI (E (Z.quo b.d.dec (Z.gcd a.d.dec b.d.dec)))]) rfl ty_28 rfl rfl rfl rfl rfl (.head _) hb10 rfl (sd (sd s0)) ?_
    refine PL_fin (hK1 _ _ ?_)
    clear hK1 K1
    refine W_sdr (sk (sk (sk (sd (sk (sk (s0))))))) (.quiet 0 [1,3,7,8,12,13,14] (.quiet 1 [3,7,8,12,13,14] (.quiet 2 [3,7,8,12,13,14] (.quiet 3 [7,8,12,13,14] (.quiet 4 [5,7,8,12,13,14] (.quiet 5 [7,8,12,13,14] (.quiet 6 [7,8,12,13,14] (.quiet 7 [8,12,13,14] (.quiet 8 [12,13,14] (.quiet 9 [12,13,14] (.quiet 10 [11,12,13,14] (.quiet 11 [12,13,14] (.quiet 12 [13,14] (.quiet 13 [14] (.only 14 (.fin)))))))))))))))) [0,1,2,3,4,5,6,7,8,9,10,11,12,13] mix (by kernel_rfl) (by kernel_rfl) (fun K1 hK1 => ?_)
    refine PL_q rfl rfl (q_ptr (off' := 0) (q_faddr fd_55_0 (by decide) rfl) rfl) ?_
    refine PL_q rfl rfl (q_loadp ty_28 rfl m5 rfl) ?_
    refine PL_q rfl rfl (q_loadp ty_28 rfl m0 rfl) ?_
    refine PL_q rfl rfl (q_as (v' := AV [pI (E (Z.mul a.n.dec (Z.quo b.d.dec (Z.gcd a.d.dec b.d.dec))))]) (q_ret en_76 (whole_Mul_ret a.n.1 (E (Z.quo b.d.dec (Z.gcd a.d.dec b.d.dec))).1 a.n.2 (E (Z.quo b.d.dec (Z.gcd a.d.dec b.d.dec))).2) rfl) (cg2 (fun p q => AV [pI (E (Z.mul p q))]) rfl (E_dec _))) ?_
    refine PL_q rfl rfl (q_ptr (off' := 0) (q_faddr fd_55_0 (by decide) rfl) rfl) ?_
    refine PL_q rfl rfl (q_loadp ty_28 rfl m4 rfl) ?_
    refine PL_q rfl rfl (q_loadp ty_28 rfl m1 rfl) ?_
    refine PL_q rfl rfl (q_as (v' := AV [pI (E (Z.mul b.n.dec (Z.quo a.d.dec (Z.gcd a.d.dec b.d.dec))))]) (q_ret en_76 (whole_Mul_ret b.n.1 (E (Z.quo a.d.dec (Z.gcd a.d.dec b.d.dec))).1 b.n.2 (E (Z.quo a.d.dec (Z.gcd a.d.dec b.d.dec))).2) rfl) (cg2 (fun p q => AV [pI (E (Z.mul p q))]) rfl (E_dec _))) ?_
    obtain ⟨r11, hr11⟩ := nm ((E (Z.add (Z.mul a.n.dec (Z.quo b.d.dec (Z.gcd a.d.dec b.d.dec))) (Z.mul b.n.dec (Z.quo a.d.dec (Z.gcd a.d.dec b.d.dec))))) : I)
    refine PL_q rfl rfl (q_as (v' := AV [pI r11]) (q_ret en_75 (whole_Add_ret (E (Z.mul a.n.dec (Z.quo b.d.dec (Z.gcd a.d.dec b.d.dec)))).1 (E (Z.mul b.n.dec (Z.quo a.d.dec (Z.gcd a.d.dec b.d.dec)))).1 (E (Z.mul a.n.dec (Z.quo b.d.dec (Z.gcd a.d.dec b.d.dec)))).2 (E (Z.mul b.n.dec (Z.quo a.d.dec (Z.gcd a.d.dec b.d.dec)))).2) rfl) ((cg2 (fun p q => AV [pI (E (Z.add p q))]) (E_dec _) (E_dec _)).trans (by rw [hr11]))) ?_
    refine PL_q rfl rfl (q_loadp ty_28 rfl m1 rfl) ?_
    refine PL_q rfl rfl (q_ptr (off' := 18) (q_faddr fd_55_1 (by decide) rfl) rfl) ?_
    refine PL_q rfl rfl (q_loadp ty_28 rfl m4 rfl) ?_
    refine PL_q rfl rfl (q_as (v' := AV [pI (E (Z.mul (Z.quo a.d.dec (Z.gcd a.d.dec b.d.dec)) b.d.dec))]) (q_ret en_76 (whole_Mul_ret (E (Z.quo a.d.dec (Z.gcd a.d.dec b.d.dec))).1 b.d.1 (E (Z.quo a.d.dec (Z.gcd a.d.dec b.d.dec))).2 b.d.2) rfl) (cg2 (fun p q => AV [pI (E (Z.mul p q))]) (E_dec _) rfl)) ?_
    obtain ⟨r12, hr12⟩ := nm ((F_ratio_Make r11 (E (Z.mul (Z.quo a.d.dec (Z.gcd a.d.dec b.d.dec)) b.d.dec))) : Rt)
    refine PL_q rfl rfl (q_as (v' := AV [pI r12.n, pI r12.d]) (q_ret en_97 (ratio_Make_ret r11 (E (Z.mul (Z.quo a.d.dec (Z.gcd a.d.dec b.d.dec)) b.d.dec))) rfl) (by rw [hr12]; first | done | rfl)) ?_
    refine PL_st rfl (qs := [pI r12.n, pI r12.d]) rfl ty_55 rfl rfl rfl rfl rfl (.tail _ (.tail _ (.tail _ (.head _)))) hb3 rfl (sk (sk (sk (sd s0)))) ?_
    refine PL_fin (hK1 _ _ ?_)
    clear hK1 K1
    refine W_ret ?_
    refine ret1 rfl (.inr rfl) (resP rfl m3 ty_55 rfl) ?_
    exact (by subst hr12; subst hr11; exact congrArg (fun r : Rt => (AV [pI r.n, pI r.d] : Value)) (show _ = (F_ratio_Add a b) from bif_f h7 rfl))
   ·skip
    refine PL_o rfl rfl (r_allocp zp_28 (fun b13 hb13 => ⟨(fun _ => sd s0), (sd s0), ?_⟩))
    refine PL_o rfl rfl (r_allocp zp_28 (fun b14 hb14 => ⟨(fun _ => sd s0), (sd (sd s0)), ?_⟩))
    refine PL_st rfl (qs := [pI (E (Z.quo a.d.dec (Z.gcd a.d.dec b.d.dec)))]) rfl ty_28 rfl rfl rfl rfl rfl (.head _) hb14 rfl (sd (sd s0)) ?_
    refine PL_st rfl (qs := [pI (E (Z.quo b.d.dec (Z.gcd a.d.dec b.d.dec)))]) rfl ty_28 rfl rfl rfl rfl rfl (.tail _ (.head _)) hb13 rfl (sd (sd s0)) ?_
    refine PL_fin (hK1 _ _ ?_)
    clear hK1 K1
    refine W_sdr (sk (sk (sk (sd (sk (sk (s0))))))) (.quiet 0 [1,3,7,8,12,13,14] (.quiet 1 [3,7,8,12,13,14] (.quiet 2 [3,7,8,12,13,14] (.quiet 3 [7,8,12,13,14] (.quiet 4 [5,7,8,12,13,14] (.quiet 5 [7,8,12,13,14] (.quiet 6 [7,8,12,13,14] (.quiet 7 [8,12,13,14] (.quiet 8 [12,13,14] (.quiet 9 [12,13,14] (.quiet 10 [11,12,13,14] (.quiet 11 [12,13,14] (.quiet 12 [13,14] (.quiet 13 [14] (.only 14 (.fin)))))))))))))))) [0,1,2,3,4,5,6,7,8,9,10,11,12,13] mix (by kernel_rfl) (by kernel_rfl) (fun K1 hK1 => ?_)
    refine PL_q rfl rfl (q_ptr (off' := 0) (q_faddr fd_55_0 (by decide) rfl) rfl) ?_
    refine PL_q rfl rfl (q_loadp ty_28 rfl m5 rfl) ?_
    refine PL_q rfl rfl (q_loadp ty_28 rfl m1 rfl) ?_
    refine PL_q rfl rfl (q_as (v' := AV [pI (E (Z.mul a.n.dec (Z.quo b.d.dec (Z.gcd a.d.dec b.d.dec))))]) (q_ret en_76 (whole_Mul_ret a.n.1 (E (Z.quo b.d.dec (Z.gcd a.d.dec b.d.dec))).1 a.n.2 (E (Z.quo b.d.dec (Z.gcd a.d.dec b.d.dec))).2) rfl) (cg2 (fun p q => AV [pI (E (Z.mul p q))]) rfl (E_dec _))) ?_
    refine PL_q rfl rfl (q_ptr (off' := 0) (q_faddr fd_55_0 (by decide) rfl) rfl) ?_
    refine PL_q rfl rfl (q_loadp ty_28 rfl m4 rfl) ?_
    refine PL_q rfl rfl (q_loadp ty_28 rfl m0 rfl) ?_
    refine PL_q rfl rfl (q_as (v' := AV [pI (E (Z.mul b.n.dec (Z.quo a.d.dec (Z.gcd a.d.dec b.d.dec))))]) (q_ret en_76 (whole_Mul_ret b.n.1 (E (Z.quo a.d.dec (Z.gcd a.d.dec b.d.dec))).1 b.n.2 (E (Z.quo a.d.dec (Z.gcd a.d.dec b.d.dec))).2) rfl) (cg2 (fun p q => AV [pI (E (Z.mul p q))]) rfl (E_dec _))) ?_
    obtain ⟨r15, hr15⟩ := nm ((E (Z.add (Z.mul a.n.dec (Z.quo b.d.dec (Z.gcd a.d.dec b.d.dec))) (Z.mul b.n.dec (Z.quo a.d.dec (Z.gcd a.d.dec b.d.dec))))) : I)
    refine PL_q rfl rfl (q_as (v' := AV [pI r15]) (q_ret en_75 (whole_Add_ret (E (Z.mul a.n.dec (Z.quo b.d.dec (Z.gcd a.d.dec b.d.dec)))).1 (E (Z.mul b.n.dec (Z.quo a.d.dec (Z.gcd a.d.dec b.d.dec)))).1 (E (Z.mul a.n.dec (Z.quo b.d.dec (Z.gcd a.d.dec b.d.dec)))).2 (E (Z.mul b.n.dec (Z.quo a.d.dec (Z.gcd a.d.dec b.d.dec)))).2) rfl) ((cg2 (fun p q => AV [pI (E (Z.add p q))]) (E_dec _) (E_dec _)).trans (by rw [hr15]))) ?_
    refine PL_q rfl rfl (q_loadp ty_28 rfl m0 rfl) ?_
    refine PL_q rfl rfl (q_ptr (off' := 18) (q_faddr fd_55_1 (by decide) rfl) rfl) ?_
    refine PL_q rfl rfl (q_loadp ty_28 rfl m4 rfl) ?_
    refine PL_q rfl rfl (q_as (v' := AV [pI (E (Z.mul (Z.quo a.d.dec (Z.gcd a.d.dec b.d.dec)) b.d.dec))]) (q_ret en_76 (whole_Mul_ret (E (Z.quo a.d.dec (Z.gcd a.d.dec b.d.dec))).1 b.d.1 (E (Z.quo a.d.dec (Z.gcd a.d.dec b.d.dec))).2 b.d.2) rfl) (cg2 (fun p q => AV [pI (E (Z.mul p q))]) (E_dec _) rfl)) ?_
    obtain ⟨r16, hr16⟩ := nm ((F_ratio_Make r15 (E (Z.mul (Z.quo a.d.dec (Z.gcd a.d.dec b.d.dec)) b.d.dec))) : Rt)
    refine PL_q rfl rfl (q_as (v' := AV [pI r16.n, pI r16.d]) (q_ret en_97 (ratio_Make_ret r15 (E (Z.mul (Z.quo a.d.dec (Z.gcd a.d.dec b.d.dec)) b.d.dec))) rfl) (by rw [hr16]; first | done | rfl)) ?_
    refine PL_st rfl (qs := [pI r16.n, pI r16.d]) rfl ty_55 rfl rfl rfl rfl rfl (.tail _ (.tail _ (.tail _ (.head _)))) hb3 rfl (sk (sk (sk (sd s0)))) ?_
    refine PL_fin (hK1 _ _ ?_)
    clear hK1 K1
    refine W_ret ?_
    refine ret1 rfl (.inr rfl) (resP rfl m3 ty_55 rfl) ?_
    exact (by subst hr16; subst hr15; exact congrArg (fun r : Rt => (AV [pI r.n, pI r.d] : Value)) (show _ = (F_ratio_Add a b) from bif_f h7 rfl))

theorem ratio_Sub_ret (a : Rt) (b : Rt) :
    Ret Try.prog 69 [AV [pI a.n, pI a.d], AV [pI b.n, pI b.d]] (AV [pI ((F_ratio_Sub a b).n), pI ((F_ratio_Sub a b).d)]) := by
 refine ret_of_W (N := 9) Try.func69 rfl rfl (by simp) (fun w0 => ?_)
 simp only [initF, Nat.reduceAdd]
 refine W_sr (fun K1 hK1 => ?_)
 refine WL_r rfl (r_boxp rfl rfl (fun b1 hb1 => ?_))
 refine WL_r rfl (r_boxp rfl rfl (fun b2 hb2 => ?_))
 refine WL_r rfl (r_allocp zp_55 (fun b3 hb3 => ?_))
 refine WL_nil (hK1 _ _ ?_)
 clear hK1 K1
 refine W_sdr (sd (sk (sk (s0)))) (.quiet 0 [3,4] (.quiet 1 [2,3,4] (.quiet 2 [3,4] (.quiet 3 [4] (.only 4 (.fin)))))) [0,1,2,3] mix (by kernel_rfl) (by kernel_rfl) (fun K1 hK1 => ?_)
 refine PL_q rfl rfl (q_loadp ty_55 rfl m2 rfl) ?_
 refine PL_q rfl rfl (q_loadp ty_55 rfl m1 rfl) ?_
 refine PL_q rfl rfl (q_ret en_94 (ratio_Neg_ret b) rfl) ?_
 refine PL_q rfl rfl (q_ret en_72 (ratio_Add_ret a (F_ratio_Neg b)) rfl) ?_
 refine PL_st rfl (qs := [pI ((F_ratio_Add a (F_ratio_Neg b)).n), pI ((F_ratio_Add a (F_ratio_Neg b)).d)]) rfl ty_55 rfl rfl rfl rfl rfl (.head _) hb3 rfl (sd s0) ?_
 refine PL_fin (hK1 _ _ ?_)
 clear hK1 K1
 refine W_ret ?_
 refine ret1 rfl (.inr rfl) (resP rfl m0 ty_55 rfl) ?_
 exact (by rfl)

theorem ratio_Mul_ret (a : Rt) (b : Rt) :
    Ret Try.prog 70 [AV [pI a.n, pI a.d], AV [pI b.n, pI b.d]] (AV [pI ((F_ratio_Mul a b).n), pI ((F_ratio_Mul a b).d)]) := by
 refine ret_of_W (N := 48) Try.func70 rfl rfl (by simp) (fun w0 => ?_)
 simp only [initF, Nat.reduceAdd]
 refine W_sr (fun K1 hK1 => ?_)
 refine WL_r rfl (r_boxp rfl rfl (fun b1 hb1 => ?_))
 refine WL_r rfl (r_boxp rfl rfl (fun b2 hb2 => ?_))
 refine WL_r rfl (r_allocp zp_55 (fun b3 hb3 => ?_))
 refine WL_nil (hK1 _ _ ?_)
 clear hK1 K1
 refine W_seq (fun K_1 hK_1 => ?_)
 refine W_join [9, 10, 11, 12, 13, 14, 15, 16] (fun g M => (g 16 = .bool (!(F_ratio_Good a) || (!(F_ratio_Good b)))) ∧ M = [⟨b3, 55, flat [pI I0, pI I0]⟩, ⟨b2, 55, flat [pI b.n, pI b.d]⟩, ⟨b1, 55, flat [pI a.n, pI a.d]⟩]) (fun K_2 hK_2 => ?_) ?_
 ·skip
  refine W_region_k (fun K1 hK1 => ?_)
  refine WL_q rfl (q_loadp ty_55 rfl m2 rfl) ?_
  refine WL_q rfl (q_ret en_95 (ratio_Good_ret a) rfl) ?_
  refine WL_q rfl (q_not rfl) ?_
  rcases bt (F_ratio_Good a) with h5 | h5
  ·skip
   refine WL_q rfl (q_as (v' := .bool false) (q_move rfl) (congrArg Value.bool (not_f h5))) ?_
   refine WL_q rfl (q_loadp ty_55 rfl m1 rfl) ?_
   refine WL_q rfl (q_ret en_95 (ratio_Good_ret b) rfl) ?_
   refine WL_q rfl (q_not rfl) ?_
   refine WL_q rfl (q_pick rfl rfl) ?_
   refine WL_nil (hK1 _ _ ?_)
   clear hK1 K1
   refine hK_2 _ _ (by repeat (first | exact .refl | refine .cons rfl ?_)) ⟨_, s0, ?s16, rfl⟩
   case s16 => exact congrArg Value.bool (nor_t h5 rfl)
  ·skip
   refine WL_q rfl (q_as (v' := .bool true) (q_move rfl) (congrArg Value.bool (not_t h5))) ?_
   refine WL_n rfl ?_
   refine WL_n rfl ?_
   refine WL_n rfl ?_
   refine WL_q rfl (q_pick rfl rfl) ?_
   refine WL_nil (hK1 _ _ ?_)
   clear hK1 K1
   refine hK_2 _ _ (by repeat (first | exact .refl | refine .cons rfl ?_)) ⟨_, s0, ?s16, rfl⟩
   case s16 => exact congrArg Value.bool (nor_f h5)
 ·skip
  rintro g6 M ⟨hg16, rfl⟩
  simp only [setG, hg16]
  clear hg16
  rcases bt (!(F_ratio_Good a) || (!(F_ratio_Good b))) with h7 | h7
  ·skip
   refine W_t h7 rfl ?_
   refine W_sr (fun K1 hK1 => ?_)
   refine WL_q rfl (q_ret en_96 ratio_Bad_ret  rfl) ?_
   refine WL_st (qs := [pI F_ratio_Bad.n, pI F_ratio_Bad.d]) rfl ty_55 rfl rfl rfl rfl rfl (.head _) hb3 ?_
   refine WL_nil (hK1 _ _ ?_)
   clear hK1 K1
   refine W_ret ?_
   refine thenK_r (ret1 rfl (.inr rfl) (resP rfl m0 ty_55 rfl) ?_)
   exact (by exact congrArg (fun r : Rt => (AV [pI r.n, pI r.d] : Value)) (show _ = (F_ratio_Mul a b) from bif_t h7 rfl))
  ·skip
   refine W_f h7 rfl ?_
   refine W_skip ?_
   refine hK_1 _ _ ?_
   try clear hK_1 K_1
   refine W_sdr (sk (sk (sk (s0)))) (.quiet 0 [1,4,9,12,13] (.quiet 1 [4,9,12,13] (.quiet 2 [3,4,9,12,13] (.quiet 3 [4,9,12,13] (.quiet 4 [9,12,13] (.quiet 5 [6,9,12,13] (.quiet 6 [9,12,13] (.quiet 7 [8,9,12,13] (.quiet 8 [9,12,13] (.quiet 9 [12,13] (.both 10 (.only 11 (.only 12 (.only 13 (.fin)))) 11 (.only 10 (.only 12 (.only 13 (.fin))))))))))))))) [0,1,2,3,4,5,6,7,8,9,10,11] mix (by kernel_rfl) (by kernel_rfl) (fun K1 hK1 => ?_)
   refine PL_q rfl rfl (q_ptr (off' := 0) (q_faddr fd_55_0 (by decide) rfl) rfl) ?_
   refine PL_q rfl rfl (q_loadp ty_28 rfl m2 rfl) ?_
   refine PL_q rfl rfl (q_ptr (off' := 18) (q_faddr fd_55_1 (by decide) rfl) rfl) ?_
   refine PL_q rfl rfl (q_loadp ty_28 rfl m1 rfl) ?_
   refine PL_q rfl rfl (q_ret en_97 (ratio_Make_ret a.n b.d) rfl) ?_
   refine PL_q rfl rfl (q_ptr (off' := 0) (q_faddr fd_55_0 (by decide) rfl) rfl) ?_
   refine PL_q rfl rfl (q_loadp ty_28 rfl m1 rfl) ?_
   refine PL_q rfl rfl (q_ptr (off' := 18) (q_faddr fd_55_1 (by decide) rfl) rfl) ?_
   refine PL_q rfl rfl (q_loadp ty_28 rfl m2 rfl) ?_
   refine PL_q rfl rfl (q_ret en_97 (ratio_Make_ret b.n a.d) rfl) ?_
   refine PL_b ?_ ?_
   ·skip
    refine PL_o rfl rfl (r_allocp zp_55 (fun b8 hb8 => ⟨(fun _ => sd s0), (sd s0), ?_⟩))
    refine PL_o rfl rfl (r_allocp zp_55 (fun b9 hb9 => ⟨(fun _ => sd s0), (sd (sd s0)), ?_⟩))
    refine PL_st rfl (qs := [pI ((F_ratio_Make a.n b.d).n), pI ((F_ratio_Make a.n b.d).d)]) rfl ty_55 rfl rfl rfl rfl rfl (.tail _ (.head _)) hb8 rfl (sd (sd s0)) ?_
    refine PL_st rfl (qs := [pI ((F_ratio_Make b.n a.d).n), pI ((F_ratio_Make b.n a.d).d)]) rfl ty_55 rfl rfl rfl rfl rfl (.head _) hb9 rfl (sd (sd s0)) ?_
    refine PL_fin (hK1 _ _ ?_)
    clear hK1 K1
    refine W_sdr (sk (sd (sk (sk (sk (s0)))))) (.quiet 0 [1,4,9,12,13] (.quiet 1 [4,9,12,13] (.quiet 2 [3,4,9,12,13] (.quiet 3 [4,9,12,13] (.quiet 4 [9,12,13] (.quiet 5 [6,9,12,13] (.quiet 6 [9,12,13] (.quiet 7 [8,9,12,13] (.quiet 8 [9,12,13] (.quiet 9 [12,13] (.both 10 (.only 11 (.only 12 (.only 13 (.fin)))) 11 (.only 10 (.only 12 (.only 13 (.fin))))))))))))))) [0,1,2,3,4,5,6,7,8,9,10,11] mix (by kernel_rfl) (by kernel_rfl) (fun K1 hK1 => ?_)
    refine PL_q rfl rfl (q_ptr (off' := 0) (q_faddr fd_55_0 (by decide) rfl) rfl) ?_
    refine PL_q rfl rfl (q_loadp ty_28 rfl m1 rfl) ?_
    refine PL_q rfl rfl (q_ptr (off' := 0) (q_faddr fd_55_0 (by decide) rfl) rfl) ?_
    refine PL_q rfl rfl (q_loadp ty_28 rfl m0 rfl) ?_
    obtain ⟨r10, hr10⟩ := nm ((E (Z.mul ((F_ratio_Make a.n b.d).n).dec ((F_ratio_Make b.n a.d).n).dec)) : I)
    refine PL_q rfl rfl (q_as (v' := AV [pI r10]) (q_ret en_76 (whole_Mul_ret ((F_ratio_Make a.n b.d).n).1 ((F_ratio_Make b.n a.d).n).1 ((F_ratio_Make a.n b.d).n).2 ((F_ratio_Make b.n a.d).n).2) rfl) (by rw [hr10]; first | done | rfl)) ?_
    refine PL_q rfl rfl (q_ptr (off' := 18) (q_faddr fd_55_1 (by decide) rfl) rfl) ?_
    refine PL_q rfl rfl (q_loadp ty_28 rfl m1 rfl) ?_
    refine PL_q rfl rfl (q_ptr (off' := 18) (q_faddr fd_55_1 (by decide) rfl) rfl) ?_
    refine PL_q rfl rfl (q_loadp ty_28 rfl m0 rfl) ?_
    obtain ⟨r11, hr11⟩ := nm ((E (Z.mul ((F_ratio_Make a.n b.d).d).dec ((F_ratio_Make b.n a.d).d).dec)) : I)
    refine PL_q rfl rfl (q_as (v' := AV [pI r11]) (q_ret en_76 (whole_Mul_ret ((F_ratio_Make a.n b.d).d).1 ((F_ratio_Make b.n a.d).d).1 ((F_ratio_Make a.n b.d).d).2 ((F_ratio_Make b.n a.d).d).2) rfl) (by rw [hr11]; first | done | rfl)) ?_
    refine PL_b ?_ ?_
    ·skip
     refine PL_o rfl rfl (r_allocp zp_28 (fun b12 hb12 => ⟨(fun _ => sd s0), (sd (sk (sd s0))), ?_⟩))
     refine PL_o rfl rfl (r_allocp zp_28 (fun b13 hb13 => ⟨(fun _ => sd s0), (sd (sd (sk (sd s0)))), ?_⟩))
     refine PL_st rfl (qs := [pI r10]) rfl ty_28 rfl rfl rfl rfl rfl (.tail _ (.head _)) hb12 rfl (sd (sd (sk (sd s0)))) ?_
     refine PL_st rfl (qs := [pI r11]) rfl ty_28 rfl rfl rfl rfl rfl (.head _) hb13 rfl (sd (sd (sk (sd s0)))) ?_
     refine PL_fin (hK1 _ _ ?_)
     clear hK1 K1
     refine W_seq (fun K_3 hK_3 => ?_)
     refine W_join [38, 39, 40, 41, 42, 43] (fun g M => (g 43 = .bool (r10.1.bad || r11.1.bad)) ∧ M = [⟨b13, 28, flat [pI r11]⟩, ⟨b12, 28, flat [pI r10]⟩, ⟨b9, 55, flat [pI ((F_ratio_Make b.n a.d).n), pI ((F_ratio_Make b.n a.d).d)]⟩, ⟨b8, 55, flat [pI ((F_ratio_Make a.n b.d).n), pI ((F_ratio_Make a.n b.d).d)]⟩, ⟨b3, 55, flat [pI I0, pI I0]⟩, ⟨b2, 55, flat [pI b.n, pI b.d]⟩, ⟨b1, 55, flat [pI a.n, pI a.d]⟩]) (fun K_4 hK_4 => ?_) ?_
     ·skip
      refine W_region_k (fun K1 hK1 => ?_)
      refine WL_q rfl (q_ptr (off' := 0) (q_faddr fd_28_0 (by decide) rfl) rfl) ?_
      refine WL_q rfl (q_loadc (v := .bool r10.1.bad) ty_4 rfl m1 rfl) ?_
      rcases bt r10.1.bad with h15 | h15
      ·skip
       refine WL_q rfl (q_as (v' := .bool true) (q_move rfl) (congrArg Value.bool h15)) ?_
       refine WL_n rfl ?_
       refine WL_n rfl ?_
       refine WL_q rfl (q_pick rfl rfl) ?_
       refine WL_nil (hK1 _ _ ?_)
       clear hK1 K1
       refine hK_4 _ _ (by repeat (first | exact .refl | refine .cons rfl ?_)) ⟨_, s0, ?s43, rfl⟩
       case s43 => exact congrArg Value.bool (or_t h15)
      ·skip
       refine WL_q rfl (q_as (v' := .bool false) (q_move rfl) (congrArg Value.bool h15)) ?_
       refine WL_q rfl (q_ptr (off' := 0) (q_faddr fd_28_0 (by decide) rfl) rfl) ?_
       refine WL_q rfl (q_loadc (v := .bool r11.1.bad) ty_4 rfl m0 rfl) ?_
       refine WL_q rfl (q_pick rfl rfl) ?_
       refine WL_nil (hK1 _ _ ?_)
       clear hK1 K1
       refine hK_4 _ _ (by repeat (first | exact .refl | refine .cons rfl ?_)) ⟨_, s0, ?s43, rfl⟩
       case s43 => exact congrArg Value.bool (or_f h15 rfl)
     ·skip
      rintro g16 M ⟨hg43, rfl⟩
      simp only [setG, hg43]
      clear hg43
      rcases bt (r10.1.bad || r11.1.bad) with h17 | h17
      ·skip
       refine W_t h17 rfl ?_
       refine W_sr (fun K1 hK1 => ?_)
       refine WL_q rfl (q_ret en_96 ratio_Bad_ret  rfl) ?_
       refine WL_st (qs := [pI F_ratio_Bad.n, pI F_ratio_Bad.d]) rfl ty_55 rfl rfl rfl rfl rfl (.tail _ (.tail _ (.tail _ (.tail _ (.head _))))) hb3 ?_
       refine WL_nil (hK1 _ _ ?_)
       clear hK1 K1
       refine W_ret ?_
       refine thenK_r (ret1 rfl (.inr rfl) (resP rfl m4 ty_55 rfl) ?_)
       exact (by subst hr11; subst hr10; exact congrArg (fun r : Rt => (AV [pI r.n, pI r.d] : Value)) (show _ = (F_ratio_Mul a b) from bif_f h7 (bif_t h17 rfl)))
      ·skip
       refine W_f h17 rfl ?_
       refine W_skip ?_
       refine hK_3 _ _ ?_
       try clear hK_3 K_3
       refine W_sr (fun K1 hK1 => ?_)
       refine WL_q rfl (q_loadp ty_28 rfl m1 rfl) ?_
       refine WL_q rfl (q_loadp ty_28 rfl m0 rfl) ?_
       refine WL_q rfl (q_buildsp zp_55 pl_55 rfl (.cons [pI r10] [pI r10, pI I0] rfl rfl rfl rfl (.cons [pI r11] [pI r10, pI r11] rfl rfl rfl rfl (.nil _)))) ?_
       refine WL_st (qs := [pI r10, pI r11]) rfl ty_55 rfl rfl rfl rfl rfl (.tail _ (.tail _ (.tail _ (.tail _ (.head _))))) hb3 ?_
       refine WL_nil (hK1 _ _ ?_)
       clear hK1 K1
       refine W_ret ?_
       refine ret1 rfl (.inr rfl) (resP rfl m4 ty_55 rfl) ?_
       exact (by subst hr11; subst hr10; exact congrArg (fun r : Rt => (AV [pI r.n, pI r.d] : Value)) (show _ = (F_ratio_Mul a b) from bif_f h7 (bif_f h17 rfl)))
    ·skip
     refine PL_o rfl rfl (r_allocp zp_28 (fun b18 hb18 => ⟨(fun _ => sd s0), (sd (sk (sd s0))), ?_⟩))
     refine PL_o rfl rfl (r_allocp zp_28 (fun b19 hb19 => ⟨(fun _ => sd s0), (sd (sd (sk (sd s0)))), ?_⟩))
     refine PL_st rfl (qs := [pI r10]) rfl ty_28 rfl rfl rfl rfl rfl (.head _) hb19 rfl (sd (sd (sk (sd s0)))) ?_
     refine PL_st rfl (qs := [pI r11]) rfl ty_28 rfl rfl rfl rfl rfl (.tail _ (.head _)) hb18 rfl (sd (sd (sk (sd s0)))) ?_
     refine PL_fin (hK1 _ _ ?_)
     clear hK1 K1
     refine W_seq (fun K_5 hK_5 => ?_)
     refine W_join [38, 39, 40, 41, 42, 43] (fun g M => (g 43 = .bool (r10.1.bad || r11.1.bad)) ∧ M = [⟨b19, 28, flat [pI r10]⟩, ⟨b18, 28, flat [pI r11]⟩, ⟨b9, 55, flat [pI ((F_ratio_Make b.n a.d).n), pI ((F_ratio_Make b.n a.d).d)]⟩, ⟨b8, 55, flat [pI ((F_ratio_Make a.n b.d).n), pI ((F_ratio_Make a.n b.d).d)]⟩, ⟨b3, 55, flat [pI I0, pI I0]⟩, ⟨b2, 55, flat [pI b.n, pI b.d]⟩, ⟨b1, 55, flat [pI a.n, pI a.d]⟩]) (fun K_6 hK_6 => ?_) ?_
     ·skip
      refine W_region_k (fun K1 hK1 => ?_)
      refine WL_q rfl (q_ptr (off' := 0) (q_faddr fd_28_0 (by decide) rfl) rfl) ?_
      refine WL_q rfl (q_loadc (v := .bool r10.1.bad) ty_4 rfl m0 rfl) ?_
      rcases bt r10.1.bad with h21 | h21
      ·skip
       refine WL_q rfl (q_as (v' := .bool true) (q_move rfl) (congrArg Value.bool h21)) ?_
       refine WL_n rfl ?_
       refine WL_n rfl ?_
       refine WL_q rfl (q_pick rfl rfl) ?_
       refine WL_nil (hK1 _ _ ?_)
       clear hK1 K1
       refine hK_6 _ _ (by repeat (first | exact .refl | refine .cons rfl ?_)) ⟨_, s0, ?s43, rfl⟩
       case s43 => exact congrArg Value.bool (or_t h21)
      ·skip
       refine WL_q rfl (q_as (v' := .bool false) (q_move rfl) (congrArg Value.bool h21)) ?_
       refine WL_q rfl (q_ptr (off' := 0) (q_faddr fd_28_0 (by decide) rfl) rfl) ?_
       refine WL_q rfl (q_loadc (v := .bool r11.1.bad) ty_4 rfl m1 rfl) ?_
       refine WL_q rfl (q_pick rfl rfl) ?_
       refine WL_nil (hK1 _ _ ?_)
       clear hK1 K1
       refine hK_6 _ _ (by repeat (first | exact .refl | refine .cons rfl ?_)) ⟨_, s0, ?s43, rfl⟩
       case s43 => exact congrArg Value.bool (or_f h21 rfl)
     ·skip
      rintro g22 M ⟨hg43, rfl⟩
      simp only [setG, hg43]
      clear hg43
      rcases bt (r10.1.bad || r11.1.bad) with h23 | h23
      ·skip
       refine W_t h23 rfl ?_
       refine W_sr (fun K1 hK1 => ?_)
       refine WL_q rfl (q_ret en_96 ratio_Bad_ret  rfl) ?_
       refine WL_st (qs := [pI F_ratio_Bad.n, pI F_ratio_Bad.d]) rfl ty_55 rfl rfl rfl rfl rfl (.tail _ (.tail _ (.tail _ (.tail _ (.head _))))) hb3 ?_
       refine WL_nil (hK1 _ _ ?_)
       clear hK1 K1
       refine W_ret ?_
       refine thenK_r (ret1 rfl (.inr rfl) (resP rfl m4 ty_55 rfl) ?_)
       exact (by subst hr11; subst hr10; exact congrArg (fun r : Rt => (AV [pI r.n, pI r.d] : Value)) (show _ = (F_ratio_Mul a b) from bif_f h7 (bif_t h23 rfl)))
      ·skip
       refine W_f h23 rfl ?_
       refine W_skip ?_
       refine hK_5 _ _ ?_
       try clear hK_5 K_5
       refine W_sr (fun K1 hK1 => ?_)
       refine WL_q rfl (q_loadp ty_28 rfl m0 rfl) ?_
       refine WL_q rfl (q_loadp ty_28 rfl m1 rfl) ?_
       refine WL_q rfl (q_buildsp zp_55 pl_55 rfl (.cons [pI r10] [pI r10, pI I0] rfl rfl rfl rfl (.cons [pI r11] [pI r10, pI r11] rfl rfl rfl rfl (.nil _)))) ?_
       refine WL_st (qs := [pI r10, pI r11]) rfl ty_55 rfl rfl rfl rfl rfl (.tail _ (.tail _ (.tail _ (.tail _ (.head _))))) hb3 ?_
       refine WL_nil (hK1 _ _ ?_)
       clear hK1 K1
       refine W_ret ?_
       refine ret1 rfl (.inr rfl) (resP rfl m4 ty_55 rfl) ?_
       exact (by subst hr11; subst hr10; exact congrArg (fun r : Rt => (AV [pI r.n, pI r.d] : Value)) (show _ = (F_ratio_Mul a b) from bif_f h7 (bif_f h23 rfl)))
   ·skip
    refine PL_o rfl rfl (r_allocp zp_55 (fun b24 hb24 => ⟨(fun _ => sd s0), (sd s0), ?_⟩))
    refine PL_o rfl rfl (r_allocp zp_55 (fun b25 hb25 => ⟨(fun _ => sd s0), (sd (sd s0)), ?_⟩))
    refine PL_st rfl (qs := [pI ((F_ratio_Make a.n b.d).n), pI ((F_ratio_Make a.n b.d).d)]) rfl ty_55 rfl rfl rfl rfl rfl (.head _) hb25 rfl (sd (sd s0)) ?_
    refine PL_st rfl (qs := [pI ((F_ratio_Make b.n a.d).n), pI ((F_ratio_Make b.n a.d).d)]) rfl ty_55 rfl rfl rfl rfl rfl (.tail _ (.head _)) hb24 rfl (sd (sd s0)) ?_
    refine PL_fin (hK1 _ _ ?_)
    clear hK1 K1
    refine W_sdr (sk (sk (sk (sk (sk (s0)))))) (.quiet 0 [1,4,9,12,13] (.quiet 1 [4,9,12,13] (.quiet 2 [3,4,9,12,13] (.quiet 3 [4,9,12,13] (.quiet 4 [9,12,13] (.quiet 5 [6,9,12,13] (.quiet 6 [9,12,13] (.quiet 7 [8,9,12,13] (.quiet 8 [9,12,13] (.quiet 9 [12,13] (.both 10 (.only 11 (.only 12 (.only 13 (.fin)))) 11 (.only 10 (.only 12 (.only 13 (.fin))))))))))))))) [0,1,2,3,4,5,6,7,8,9,10,11] mix (by kernel_rfl) (by kernel_rfl) (fun K1 hK1 => ?_)
    refine PL_q rfl rfl (q_ptr (off' := 0) (q_faddr fd_55_0 (by decide) rfl) rfl) ?_
    refine PL_q rfl rfl (q_loadp ty_28 rfl m0 rfl) ?_
    refine PL_q rfl rfl (q_ptr (off' := 0) (q_faddr fd_55_0 (by decide) rfl) rfl) ?_
    refine PL_q rfl rfl (q_loadp ty_28 rfl m1 rfl) ?_
    obtain ⟨r26, hr26⟩ := nm ((E (Z.mul ((F_ratio_Make a.n b.d).n).dec ((F_ratio_Make b.n a.d).n).dec)) : I)
    refine PL_q rfl rfl (q_as (v' := AV [pI r26]) (q_ret en_76 (whole_Mul_ret ((F_ratio_Make a.n b.d).n).1 ((F_ratio_Make b.n a.d).n).1 ((F_ratio_Make a.n b.d).n).2 ((F_ratio_Make b.n a.d).n).2) rfl) (by rw [hr26]; first | done | rfl)) ?_
    refine PL_q rfl rfl (q_ptr (off' := 18) (q_faddr fd_55_1 (by decide) rfl) rfl) ?_
    refine PL_q rfl rfl (q_loadp ty_28 rfl m0 rfl) ?_
    refine PL_q rfl rfl (q_ptr (off' := 18) (q_faddr fd_55_1 (by decide) rfl) rfl) ?_
    refine PL_q rfl rfl (q_loadp ty_28 rfl m1 rfl) ?_
    obtain ⟨r27, hr27⟩ := nm ((E (Z.mul ((F_ratio_Make a.n b.d).d).dec ((F_ratio_Make b.n a.d).d).dec)) : I)
    refine PL_q rfl rfl (q_as (v' := AV [pI r27]) (q_ret en_76 (whole_Mul_ret ((F_ratio_Make a.n b.d).d).1 ((F_ratio_Make b.n a.d).d).1 ((F_ratio_Make a.n b.d).d).2 ((F_ratio_Make b.n a.d).d).2) rfl) (by rw [hr27]; first | done | rfl)) ?_
    refine PL_b ?_ ?_
    ·skip
     refine PL_o rfl rfl (r_allocp zp_28 (fun b28 hb28 => ⟨(fun _ => sd s0), (sd s0), ?_⟩))
     refine PL_o rfl rfl (r_allocp zp_28 (fun b29 hb29 => ⟨(fun _ => sd s0), (sd (sd s0)), ?_⟩))
     refine PL_st rfl (qs := [pI r26]) rfl ty_28 rfl rfl rfl rfl rfl (.tail _ (.head _)) hb28 rfl (sd (sd s0)) ?_
     refine PL_st rfl (qs := [pI r27]) rfl ty_28 rfl rfl rfl rfl rfl (.head _) hb29 rfl (sd (sd s0)) ?_
     refine PL_fin (hK1 _ _ ?_)
     clear hK1 K1
     refine W_seq (fun K_7 hK_7 => ?_)
     refine W_join [38, 39, 40, 41, 42, 43] (fun g M => (g 43 = .bool (r26.1.bad || r27.1.bad)) ∧ M = [⟨b29, 28, flat [pI r27]⟩, ⟨b28, 28, flat [pI r26]⟩, ⟨b25, 55, flat [pI ((F_ratio_Make a.n b.d).n), pI ((F_ratio_Make a.n b.d).d)]⟩, ⟨b24, 55, flat [pI ((F_ratio_Make b.n a.d).n), pI ((F_ratio_Make b.n a.d).d)]⟩, ⟨b3, 55, flat [pI I0, pI I0]⟩, ⟨b2, 55, flat [pI b.n, pI b.d]⟩, ⟨b1, 55, flat [pI a.n, pI a.d]⟩]) (fun K_8 hK_8 => ?_) ?_
     ·skip
      refine W_region_k (fun K1 hK1 => ?_)
      refine WL_q rfl (q_ptr (off' := 0) (q_faddr fd_28_0 (by decide) rfl) rfl) ?_
      refine WL_q rfl (q_loadc (v := .bool r26.1.bad) ty_4 rfl m1 rfl) ?_
      rcases bt r26.1.bad with h31 | h31
      ·skip
       refine WL_q rfl (q_as (v' := .bool true) (q_move rfl) (congrArg Value.bool h31)) ?_
       refine WL_n rfl ?_
       refine WL_n rfl ?_
       refine WL_q rfl (q_pick rfl rfl) ?_
       refine WL_nil (hK1 _ _ ?_)
       clear hK1 K1
       refine hK_8 _ _ (by repeat (first | exact .refl | refine .cons rfl ?_)) ⟨_, s0, ?s43, rfl⟩
       case s43 => exact congrArg Value.bool (or_t h31)
      ·skip
       refine WL_q rfl (q_as (v' := .bool false) (q_move rfl) (congrArg Value.bool h31)) ?_
       refine WL_q rfl (q_ptr (off' := 0) (q_faddr fd_28_0 (by decide) rfl) rfl) ?_
       refine WL_q rfl (q_loadc (v := .bool r27.1.bad) ty_4 rfl m0 rfl) ?_
       refine WL_q rfl (q_pick rfl rfl) ?_
       refine WL_nil (hK1 _ _ ?_)
       clear hK1 K1
       refine hK_8 _ _ (by repeat (first | exact .refl | refine .cons rfl ?_)) ⟨_, s0, ?s43, rfl⟩
       case s43 => exact congrArg Value.bool (or_f h31 rfl)
     ·skip
      rintro g32 M ⟨hg43, rfl⟩
      simp only [setG, hg43]
      clear hg43
      rcases bt (r26.1.bad || r27.1.bad) with h33 | h33
      ·skip
       refine W_t h33 rfl ?_
       refine W_sr (fun K1 hK1 => ?_)
       refine WL_q rfl (q_ret en_96 ratio_Bad_ret  rfl) ?_
       refine WL_st (qs := [pI F_ratio_Bad.n, pI F_ratio_Bad.d]) rfl ty_55 rfl rfl rfl rfl rfl (.tail _ (.tail _ (.tail _ (.tail _ (.head _))))) hb3 ?_
       refine WL_nil (hK1 _ _ ?_)
       clear hK1 K1
       refine W_ret ?_
       refine thenK_r (ret1 rfl (.inr rfl) (resP rfl m4 ty_55 rfl) ?_)
       exact (by subst hr27; subst hr26; exact congrArg (fun r : Rt => (AV [pI r.n, pI r.d] : Value)) (show _ = (F_ratio_Mul a b) from bif_f h7 (bif_t h33 rfl)))
      ·skip
       refine W_f h33 rfl ?_
       refine W_skip ?_
       refine hK_7 _ _ ?_
       try clear hK_7 K_7
       refine W_sr (fun K1 hK1 => ?_)
       refine WL_q rfl (q_loadp ty_28 rfl m1 rfl) ?_
       refine WL_q rfl (q_loadp ty_28 rfl m0 rfl) ?_
       refine WL_q rfl (q_buildsp zp_55 pl_55 rfl (.cons [pI r26] [pI r26, pI I0] rfl rfl rfl rfl (.cons [pI r27] [pI r26, pI r27] rfl rfl rfl rfl (.nil _)))) ?_
       refine WL_st (qs := [pI r26, pI r27]) rfl ty_55 rfl rfl rfl rfl rfl (.tail _ (.tail _ (.tail _ (.tail _ (.head _))))) hb3 ?_
       refine WL_nil (hK1 _ _ ?_)
       clear hK1 K1
       refine W_ret ?_
       refine ret1 rfl (.inr rfl) (resP rfl m4 ty_55 rfl) ?_
       exact (by subst hr27; subst hr26; exact congrArg (fun r : Rt => (AV [pI r.n, pI r.d] : Value)) (show _ = (F_ratio_Mul a b) from bif_f h7 (bif_f h33 rfl)))
    ·skip
     refine PL_o rfl rfl (r_allocp zp_28 (fun b34 hb34 => ⟨(fun _ => sd s0), (sd s0), ?_⟩))
     refine PL_o rfl rfl (r_allocp zp_28 (fun b35 hb35 => ⟨(fun _ => sd s0), (sd (sd s0)), ?_⟩))
     refine PL_st rfl (qs := [pI r26]) rfl ty_28 rfl rfl rfl rfl rfl (.head _) hb35 rfl (sd (sd s0)) ?_
     refine PL_st rfl (qs := [pI r27]) rfl ty_28 rfl rfl rfl rfl rfl (.tail _ (.head _)) hb34 rfl (sd (sd s0)) ?_
     refine PL_fin (hK1 _ _ ?_)
     clear hK1 K1
     refine W_seq (fun K_9 hK_9 => ?_)
     refine W_join [38, 39, 40, 41, 42, 43] (fun g M => (g 43 = .bool (r26.1.bad || r27.1.bad)) ∧ M = [⟨b35, 28, flat [pI r26]⟩, ⟨b34, 28, flat [pI r27]⟩, ⟨b25, 55, flat [pI ((F_ratio_Make a.n b.d).n), pI ((F_ratio_Make a.n b.d).d)]⟩, ⟨b24, 55, flat [pI ((F_ratio_Make b.n a.d).n), pI ((F_ratio_Make b.n a.d).d)]⟩, ⟨b3, 55, flat [pI I0, pI I0]⟩, ⟨b2, 55, flat [pI b.n, pI b.d]⟩, ⟨b1, 55, flat [pI a.n, pI a.d]⟩]) (fun K_10 hK_10 => ?_) ?_
     ·skip
      refine W_region_k (fun K1 hK1 => ?_)
      refine WL_q rfl (q_ptr (off' := 0) (q_faddr fd_28_0 (by decide) rfl) rfl) ?_
      refine WL_q rfl (q_loadc (v := .bool r26.1.bad) ty_4 rfl m0 rfl) ?_
      rcases bt r26.1.bad with h37 | h37
      ·skip
       refine WL_q rfl (q_as (v' := .bool true) (q_move rfl) (congrArg Value.bool h37)) ?_
       refine WL_n rfl ?_
       refine WL_n rfl ?_
       refine WL_q rfl (q_pick rfl rfl) ?_
       refine WL_nil (hK1 _ _ ?_)
       clear hK1 K1
       refine hK_10 _ _ (by repeat (first | exact .refl | refine .cons rfl ?_)) ⟨_, s0, ?s43, rfl⟩
       case s43 => exact congrArg Value.bool (or_t h37)
      ·skip
       refine WL_q rfl (q_as (v' := .bool false) (q_move rfl) (congrArg Value.bool h37)) ?_
       refine WL_q rfl (q_ptr (off' := 0) (q_faddr fd_28_0 (by decide) rfl) rfl) ?_
       refine WL_q rfl (q_loadc (v := .bool r27.1.bad) ty_4 rfl m1 rfl) ?_
       refine WL_q rfl (q_pick rfl rfl) ?_
       refine WL_nil (hK1 _ _ ?_)
       clear hK1 K1
       refine hK_10 _ _ (by repeat (first | exact .refl | refine .cons rfl ?_)) ⟨_, s0, ?s43, rfl⟩
       case s43 => exact congrArg Value.bool (or_f h37 rfl)
     ·skip
      rintro g38 M ⟨hg43, rfl⟩
      simp only [setG, hg43]
      clear hg43
      rcases bt (r26.1.bad || r27.1.bad) with h39 | h39
      ·skip
       refine W_t h39 rfl ?_
       refine W_sr (fun K1 hK1 => ?_)
       refine WL_q rfl (q_ret en_96 ratio_Bad_ret  rfl) ?_
       refine WL_st (qs := [pI F_ratio_Bad.n, pI F_ratio_Bad.d]) rfl ty_55 rfl rfl rfl rfl rfl (.tail _ (.tail _ (.tail _ (.tail _ (.head _))))) hb3 ?_
       refine WL_nil (hK1 _ _ ?_)
       clear hK1 K1
       refine W_ret ?_
       refine thenK_r (ret1 rfl (.inr rfl) (resP rfl m4 ty_55 rfl) ?_)
       exact (by subst hr27; subst hr26; exact congrArg (fun r : Rt => (AV [pI r.n, pI r.d] : Value)) (show _ = (F_ratio_Mul a b) from bif_f h7 (bif_t h39 rfl)))
      ·skip
       refine W_f h39 rfl ?_
       refine W_skip ?_
       refine hK_9 _ _ ?_
       try clear hK_9 K_9
       refine W_sr (fun K1 hK1 => ?_)
       refine WL_q rfl (q_loadp ty_28 rfl m0 rfl) ?_
       refine WL_q rfl (q_loadp ty_28 rfl m1 rfl) ?_
       refine WL_q rfl (q_buildsp zp_55 pl_55 rfl (.cons [pI r26] [pI r26, pI I0] rfl rfl rfl rfl (.cons [pI r27] [pI r26, pI r27] rfl rfl rfl rfl (.nil _)))) ?_
       refine WL_st (qs := [pI r26, pI r27]) rfl ty_55 rfl rfl rfl rfl rfl (.tail _ (.tail _ (.tail _ (.tail _ (.head _))))) hb3 ?_
       refine WL_nil (hK1 _ _ ?_)
       clear hK1 K1
       refine W_ret ?_
       refine ret1 rfl (.inr rfl) (resP rfl m4 ty_55 rfl) ?_
       exact (by subst hr27; subst hr26; exact congrArg (fun r : Rt => (AV [pI r.n, pI r.d] : Value)) (show _ = (F_ratio_Mul a b) from bif_f h7 (bif_f h39 rfl)))

theorem skewbackref04_one_ret  :
    Ret Try.prog 74 [] (AV [pI F_skewbackref04_one]) := by
 refine ret_of_W (N := 2) Try.func74 rfl rfl (by simp) (fun w0 => ?_)
 simp only [initF, Nat.reduceAdd]
 obtain ⟨q0, hq0⟩ := nm ((E (Z.of 1)) : I)
 refine W_sr (fun K1 hK1 => ?_)
 refine WL_r rfl (r_allocp zp_28 (fun b1 hb1 => ?_))
 refine WL_nil (hK1 _ _ ?_)
 clear hK1 K1
 refine W_sr (fun K1 hK1 => ?_)
 refine WL_q rfl (q_as (v' := AV [pI q0]) (q_ret en_22 (skewbackref03_Of_ret (wl 1).1 (wl 1).2) rfl) (by rw [hq0]; first | done | rfl)) ?_
 refine WL_st (qs := [pI q0]) rfl ty_28 rfl rfl rfl rfl rfl (.head _) hb1 ?_
 refine WL_nil (hK1 _ _ ?_)
 clear hK1 K1
 refine W_ret ?_
 refine ret1 rfl (.inr rfl) (resP rfl m0 ty_28 rfl) ?_
 exact (by subst hq0; rfl)

theorem skewbackref04_Bad_ret  :
    Ret Try.prog 99 [] (AV [pI F_skewbackref04_Bad.n, pI F_skewbackref04_Bad.d]) := by
 refine ret_of_W (N := 4) Try.func99 rfl rfl (by simp) (fun w0 => ?_)
 simp only [initF, Nat.reduceAdd]
 obtain ⟨q0, hq0⟩ := nm ((E Z.bad) : I)
 obtain ⟨q1, hq1⟩ := nm (F_skewbackref04_one : I)
 refine W_sr (fun K1 hK1 => ?_)
 refine WL_r rfl (r_allocp zp_55 (fun b1 hb1 => ?_))
 refine WL_nil (hK1 _ _ ?_)
 clear hK1 K1
 refine W_sr (fun K1 hK1 => ?_)
 refine WL_q rfl (q_as (v' := AV [pI q0]) (q_ret en_67 skewbackref03_Bad_ret rfl) (by rw [hq0]; first | done | rfl)) ?_
 refine WL_q rfl (q_as (v' := AV [pI q1]) (q_ret en_74 skewbackref04_one_ret  rfl) (by rw [hq1]; first | done | rfl)) ?_
 refine WL_q rfl (q_buildsp zp_55 pl_55 rfl (.cons [pI q0] [pI q0, pI I0] rfl rfl rfl rfl (.cons [pI q1] [pI q0, pI q1] rfl rfl rfl rfl (.nil _)))) ?_
 refine WL_st (qs := [pI q0, pI q1]) rfl ty_55 rfl rfl rfl rfl rfl (.head _) hb1 ?_
 refine WL_nil (hK1 _ _ ?_)
 clear hK1 K1
 refine W_ret ?_
 refine ret1 rfl (.inr rfl) (resP rfl m0 ty_55 rfl) ?_
 exact (by subst hq1; subst hq0; rfl)

theorem skewbackref04_Make_ret (a : I) (b : I) :
    Ret Try.prog 73 [AV [pI a], AV [pI b]] (AV [pI ((F_skewbackref04_Make a b).n), pI ((F_skewbackref04_Make a b).d)]) := by
 refine ret_of_W (N := 35) Try.func73 rfl rfl (by simp) (fun w0 => ?_)
 simp only [initF, Nat.reduceAdd]
 refine W_sr (fun K1 hK1 => ?_)
 refine WL_r rfl (r_boxp rfl rfl (fun b1 hb1 => ?_))
 refine WL_r rfl (r_boxp rfl rfl (fun b2 hb2 => ?_))
 refine WL_r rfl (r_allocp zp_55 (fun b3 hb3 => ?_))
 refine WL_nil (hK1 _ _ ?_)
 clear hK1 K1
 refine W_seq (fun K_1 hK_1 => ?_)
 refine W_join [6, 7, 8, 9, 10, 11, 12, 13, 14, 15, 16, 17, 18] (fun g M => (g 18 = .bool (!a.1.good || (!b.1.good || ((Z.signW b.dec).1 == 0)))) ∧ M = [⟨b3, 55, flat [pI I0, pI I0]⟩, ⟨b2, 28, flat [pI b]⟩, ⟨b1, 28, flat [pI a]⟩]) (fun K_2 hK_2 => ?_) ?_
 ·skip
  refine W_region_k (fun K1 hK1 => ?_)
  refine WL_q rfl (q_loadp ty_28 rfl m2 rfl) ?_
  refine WL_q rfl (q_as (v' := .bool a.1.good) (q_ret en_57 (skewbackref03_Good_ret a.1 a.2) rfl) rfl) ?_
  refine WL_q rfl (q_not rfl) ?_
  rcases bt a.1.good with h6 | h6
  ·skip
   refine WL_q rfl (q_as (v' := .bool false) (q_move rfl) (congrArg Value.bool (not_f h6))) ?_
   refine WL_q rfl (q_loadp ty_28 rfl m1 rfl) ?_
   refine WL_q rfl (q_as (v' := .bool b.1.good) (q_ret en_57 (skewbackref03_Good_ret b.1 b.2) rfl) rfl) ?_
   refine WL_q rfl (q_not rfl) ?_
   refine WL_q rfl (q_pick rfl rfl) ?_
   rcases bt b.1.good with h7 | h7
   ·skip
    refine WL_q rfl (q_as (v' := .bool false) (q_move rfl) (congrArg Value.bool (not_f h7))) ?_
    refine WL_q rfl (q_loadp ty_28 rfl m1 rfl) ?_
    refine WL_q rfl (q_as (v' := .int .i64 ((Z.signW b.dec).1)) (q_ret en_19 (skewbackref03_Sign_ret b.1 b.2) rfl) rfl) ?_
    refine WL_q rfl (q_as (v' := .bool ((Z.signW b.dec).1 == 0)) (q_eql rfl rfl) rfl) ?_
    refine WL_q rfl (q_pick rfl rfl) ?_
    refine WL_nil (hK1 _ _ ?_)
    clear hK1 K1
    refine hK_2 _ _ (by repeat (first | exact .refl | refine .cons rfl ?_)) ⟨_, s0, ?s18, rfl⟩
    case s18 => exact congrArg Value.bool (nor_t h6 (nor_t h7 rfl))
   ·skip
    refine WL_q rfl (q_as (v' := .bool true) (q_move rfl) (congrArg Value.bool (not_t h7))) ?_
    refine WL_n rfl ?_
    refine WL_n rfl ?_
    refine WL_n rfl ?_
    refine WL_q rfl (q_pick rfl rfl) ?_
    refine WL_nil (hK1 _ _ ?_)
    clear hK1 K1
    refine hK_2 _ _ (by repeat (first | exact .refl | refine .cons rfl ?_)) ⟨_, s0, ?s18, rfl⟩
    case s18 => exact congrArg Value.bool (nor_t h6 (nor_f h7))
  ·skip
   refine WL_q rfl (q_as (v' := .bool true) (q_move rfl) (congrArg Value.bool (not_t h6))) ?_
   refine WL_n rfl ?_
   refine WL_n rfl ?_
   refine WL_n rfl ?_
   refine WL_q rfl (q_pick rfl rfl) ?_
   refine WL_q rfl (q_move rfl) ?_
   refine WL_n rfl ?_
   refine WL_n rfl ?_
   refine WL_n rfl ?_
   refine WL_q rfl (q_pick rfl rfl) ?_
   refine WL_nil (hK1 _ _ ?_)
   clear hK1 K1
   refine hK_2 _ _ (by repeat (first | exact .refl | refine .cons rfl ?_)) ⟨_, s0, ?s18, rfl⟩
   case s18 => exact congrArg Value.bool (nor_f h6)
 ·skip
  rintro g8 M ⟨hg18, rfl⟩
  simp only [setG, hg18]
  clear hg18
  rcases bt (!a.1.good || (!b.1.good || ((Z.signW b.dec).1 == 0))) with h9 | h9
  ·skip
   refine W_t h9 rfl ?_
   refine W_sr (fun K1 hK1 => ?_)
   refine WL_q rfl (q_ret en_99 skewbackref04_Bad_ret  rfl) ?_
   refine WL_st (qs := [pI F_skewbackref04_Bad.n, pI F_skewbackref04_Bad.d]) rfl ty_55 rfl rfl rfl rfl rfl (.head _) hb3 ?_
   refine WL_nil (hK1 _ _ ?_)
   clear hK1 K1
   refine W_ret ?_
   refine thenK_r (ret1 rfl (.inr rfl) (resP rfl m0 ty_55 rfl) ?_)
   exact (by exact congrArg (fun r : Rt => (AV [pI r.n, pI r.d] : Value)) (show _ = (F_skewbackref04_Make a b) from bif_t h9 rfl))
  ·skip
   refine W_f h9 rfl ?_
   refine W_skip ?_
   refine hK_1 _ _ ?_
   try clear hK_1 K_1
   refine W_sr (fun K1 hK1 => ?_)
   refine WL_q rfl (q_loadp ty_28 rfl m2 rfl) ?_
   refine WL_q rfl (q_loadp ty_28 rfl m1 rfl) ?_
   refine WL_q rfl (q_as (v' := AV [pI (E (Z.gcd a.dec b.dec))]) (q_ret en_52 (skewbackref03_Gcd_ret a.1 b.1 a.2 b.2) rfl) rfl) ?_
   refine WL_r rfl (r_allocp zp_28 (fun b10 hb10 => ?_))
   refine WL_st (qs := [pI (E (Z.gcd a.dec b.dec))]) rfl ty_28 rfl rfl rfl rfl rfl (.head _) hb10 ?_
   refine WL_nil (hK1 _ _ ?_)
   clear hK1 K1
   refine W_seq (fun K_3 hK_3 => ?_)
   refine W_sr (fun K1 hK1 => ?_)
   refine WL_q rfl (q_loadp ty_28 rfl m2 rfl) ?_
   refine WL_q rfl (q_as (v' := .int .i64 ((Z.signW b.dec).1)) (q_ret en_19 (skewbackref03_Sign_ret b.1 b.2) rfl) rfl) ?_
   refine WL_q rfl (q_as (v' := .bool (decide ((Z.signW b.dec).1 < 0))) (q_lss rfl rfl) rfl) ?_
   refine WL_nil (hK1 _ _ ?_)
   clear hK1 K1
   rcases bt (decide ((Z.signW b.dec).1 < 0)) with h11 | h11
   ·skip
    refine W_t h11 rfl ?_
    refine W_region_k (fun K1 hK1 => ?_)
    refine WL_q rfl (q_loadp ty_28 rfl m0 rfl) ?_
    refine WL_q rfl (q_as (v' := AV [pI (E (Z.neg (Z.gcd a.dec b.dec)))]) (q_ret en_35 (skewbackref03_Neg_ret (E (Z.gcd a.dec b.dec)).1 (E (Z.gcd a.dec b.dec)).2) rfl) (cg1 (fun p => AV [pI (E (Z.neg p))]) (E_dec _))) ?_
    refine WL_st (qs := [pI (E (Z.neg (Z.gcd a.dec b.dec)))]) rfl ty_28 rfl rfl rfl rfl rfl (.head _) hb10 ?_
    refine WL_nil (hK1 _ _ ?_)
    clear hK1 K1
    refine hK_3 _ _ ?_
    try clear hK_3 K_3
    refine W_sdr (sk (sd (sk (sk (s0))))) (.quiet 0 [2,5,6,7] (.quiet 1 [2,5,6,7] (.quiet 2 [5,6,7] (.quiet 3 [5,6,7] (.quiet 4 [5,6,7] (.quiet 5 [6,7] (.quiet 6 [7] (.only 7 (.fin))))))))) [0,1,2,3,4,5,6] mix (by kernel_rfl) (by kernel_rfl) (fun K1 hK1 => ?_)
    refine PL_q rfl rfl (q_loadp ty_28 rfl m3 rfl) ?_
    refine PL_q rfl rfl (q_loadp ty_28 rfl m0 rfl) ?_
    refine PL_q rfl rfl (q_as (v' := AV [pI (E (Z.quo a.dec (Z.neg (Z.gcd a.dec b.dec))))]) (q_ret en_54 (skewbackref03_Quo_ret a.1 (E (Z.neg (Z.gcd a.dec b.dec))).1 a.2 (E (Z.neg (Z.gcd a.dec b.dec))).2) rfl) (cg2 (fun p q => AV [pI (E (Z.quo p q))]) rfl (E_dec _))) ?_
    refine PL_q rfl rfl (q_loadp ty_28 rfl m2 rfl) ?_
    refine PL_q rfl rfl (q_loadp ty_28 rfl m0 rfl) ?_
    refine PL_q rfl rfl (q_as (v' := AV [pI (E (Z.quo b.dec (Z.neg (Z.gcd a.dec b.dec))))]) (q_ret en_54 (skewbackref03_Quo_ret b.1 (E (Z.neg (Z.gcd a.dec b.dec))).1 b.2 (E (Z.neg (Z.gcd a.dec b.dec))).2) rfl) (cg2 (fun p q => AV [pI (E (Z.quo p q))]) rfl (E_dec _))) ?_
    refine PL_q rfl rfl (q_buildsp zp_55 pl_55 rfl (.cons [pI (E (Z.quo a.dec (Z.neg (Z.gcd a.dec b.dec))))] [pI (E (Z.quo a.dec (Z.neg (Z.gcd a.dec b.dec)))), pI I0] rfl rfl rfl rfl (.cons [pI (E (Z.quo b.dec (Z.neg (Z.gcd a.dec b.dec))))] [pI (E (Z.quo a.dec (Z.neg (Z.gcd a.dec b.dec)))), pI (E (Z.quo b.dec (Z.neg (Z.gcd a.dec b.dec))))] rfl rfl rfl rfl (.nil _)))) ?_
    refine PL_st rfl (qs := [pI (E (Z.quo a.dec (Z.neg (Z.gcd a.dec b.dec)))), pI (E (Z.quo b.dec (Z.neg (Z.gcd a.dec b.dec))))]) rfl ty_55 rfl rfl rfl rfl rfl (.tail _ (.head _)) hb3 rfl (sk (sd s0)) ?_
    refine PL_fin (hK1 _ _ ?_)
    clear hK1 K1
    refine W_ret ?_
    refine ret1 rfl (.inr rfl) (resP rfl m1 ty_55 rfl) ?_
    exact (by exact congrArg (fun r : Rt => (AV [pI r.n, pI r.d] : Value)) (show _ = (F_skewbackref04_Make a b) from bif_f h9 (bif_t h11 rfl)))
   ·skip
    refine W_f h11 rfl ?_
    refine W_skip ?_
    refine hK_3 _ _ ?_
    try clear hK_3 K_3
    refine W_sdr (sk (sd (sk (sk (s0))))) (.quiet 0 [2,5,6,7] (.quiet 1 [2,5,6,7] (.quiet 2 [5,6,7] (.quiet 3 [5,6,7] (.quiet 4 [5,6,7] (.quiet 5 [6,7] (.quiet 6 [7] (.only 7 (.fin))))))))) [0,1,2,3,4,5,6] mix (by kernel_rfl) (by kernel_rfl) (fun K1 hK1 => ?_)
    refine PL_q rfl rfl (q_loadp ty_28 rfl m3 rfl) ?_
    refine PL_q rfl rfl (q_loadp ty_28 rfl m0 rfl) ?_
    refine PL_q rfl rfl (q_as (v' := AV [pI (E (Z.quo a.dec (Z.gcd a.dec b.dec)))]) (q_ret en_54 (skewbackref03_Quo_ret a.1 (E (Z.gcd a.dec b.dec)).1 a.2 (E (Z.gcd a.dec b.dec)).2) rfl) (cg2 (fun p q => AV [pI (E (Z.quo p q))]) rfl (E_dec _))) ?_
    refine PL_q rfl rfl (q_loadp ty_28 rfl m2 rfl) ?_
    refine PL_q rfl rfl (q_loadp ty_28 rfl m0 rfl) ?_
    refine PL_q rfl rfl (q_as (v' := AV [pI (E (Z.quo b.dec (Z.gcd a.dec b.dec)))]) (q_ret en_54 (skewbackref03_Quo_ret b.1 (E (Z.gcd a.dec b.dec)).1 b.2 (E (Z.gcd a.dec b.dec)).2) rfl) (cg2 (fun p q => AV [pI (E (Z.quo p q))]) rfl (E_dec _))) ?_
    refine PL_q rfl rfl (q_buildsp zp_55 pl_55 rfl (.cons [pI (E (Z.quo a.dec (Z.gcd a.dec b.dec)))] [pI (E (Z.quo a.dec (Z.gcd a.dec b.dec))), pI I0] rfl rfl rfl rfl (.cons [pI (E (Z.quo b.dec (Z.gcd a.dec b.dec)))] [pI (E (Z.quo a.dec (Z.gcd a.dec b.dec))), pI (E (Z.quo b.dec (Z.gcd a.dec b.dec)))] rfl rfl rfl rfl (.nil _)))) ?_
    refine PL_st rfl (qs := [pI (E (Z.quo a.dec (Z.gcd a.dec b.dec))), pI (E (Z.quo b.dec (Z.gcd a.dec b.dec)))]) rfl ty_55 rfl rfl rfl rfl rfl (.tail _ (.head _)) hb3 rfl (sk (sd s0)) ?_
    refine PL_fin (hK1 _ _ ?_)
    clear hK1 K1
    refine W_ret ?_
    refine ret1 rfl (.inr rfl) (resP rfl m1 ty_55 rfl) ?_
    exact (by exact congrArg (fun r : Rt => (AV [pI r.n, pI r.d] : Value)) (show _ = (F_skewbackref04_Make a b) from bif_f h9 (bif_f h11 rfl)))

theorem skewbackref04_Of_ret (a : W) :
    Ret Try.prog 42 [.int .i64 a.1] (AV [pI ((F_skewbackref04_Of a).n), pI ((F_skewbackref04_Of a).d)]) := by
 refine ret_of_W (N := 7) Try.func42 rfl rfl (by simp) (fun w0 => ?_)
 simp only [initF, Nat.reduceAdd]
 refine W_sr (fun K1 hK1 => ?_)
 refine WL_r rfl (r_allocp zp_55 (fun b1 hb1 => ?_))
 refine WL_nil (hK1 _ _ ?_)
 clear hK1 K1
 refine W_sr (fun K1 hK1 => ?_)
 refine WL_q rfl (q_move rfl) ?_
 refine WL_q rfl (q_as (v' := AV [pI (E (Z.of a.1))]) (q_ret en_22 (skewbackref03_Of_ret a.1 a.2) rfl) rfl) ?_
 refine WL_q rfl (q_ret en_74 skewbackref04_one_ret  rfl) ?_
 obtain ⟨r2, hr2⟩ := nm ((F_skewbackref04_Make (E (Z.of a.1)) F_skewbackref04_one) : Rt)
 refine WL_q rfl (q_as (v' := AV [pI r2.n, pI r2.d]) (q_ret en_73 (skewbackref04_Make_ret (E (Z.of a.1)) F_skewbackref04_one) rfl) (by rw [hr2]; first | done | rfl)) ?_
 refine WL_st (qs := [pI r2.n, pI r2.d]) rfl ty_55 rfl rfl rfl rfl rfl (.head _) hb1 ?_
 refine WL_nil (hK1 _ _ ?_)
 clear hK1 K1
 refine W_ret ?_
 refine ret1 rfl (.inr rfl) (resP rfl m0 ty_55 rfl) ?_
 exact (by subst hr2; rfl)

theorem skewbackref04_Frac_ret (a : W) (b : W) :
    Ret Try.prog 41 [.int .i64 a.1, .int .i64 b.1] (AV [pI ((F_skewbackref04_Frac a b).n), pI ((F_skewbackref04_Frac a b).d)]) := by
 refine ret_of_W (N := 10) Try.func41 rfl rfl (by simp) (fun w0 => ?_)
 simp only [initF, Nat.reduceAdd]
 refine W_sr (fun K1 hK1 => ?_)
 refine WL_r rfl (r_allocp zp_55 (fun b1 hb1 => ?_))
 refine WL_nil (hK1 _ _ ?_)
 clear hK1 K1
 refine W_sr (fun K1 hK1 => ?_)
 refine WL_q rfl (q_move rfl) ?_
 refine WL_q rfl (q_as (v' := AV [pI (E (Z.of a.1))]) (q_ret en_22 (skewbackref03_Of_ret a.1 a.2) rfl) rfl) ?_
 refine WL_q rfl (q_move rfl) ?_
 refine WL_q rfl (q_as (v' := AV [pI (E (Z.of b.1))]) (q_ret en_22 (skewbackref03_Of_ret b.1 b.2) rfl) rfl) ?_
 obtain ⟨r2, hr2⟩ := nm ((F_skewbackref04_Make (E (Z.of a.1)) (E (Z.of b.1))) : Rt)
 refine WL_q rfl (q_as (v' := AV [pI r2.n, pI r2.d]) (q_ret en_73 (skewbackref04_Make_ret (E (Z.of a.1)) (E (Z.of b.1))) rfl) (by rw [hr2]; first | done | rfl)) ?_
 refine WL_st (qs := [pI r2.n, pI r2.d]) rfl ty_55 rfl rfl rfl rfl rfl (.head _) hb1 ?_
 refine WL_nil (hK1 _ _ ?_)
 clear hK1 K1
 refine W_ret ?_
 refine ret1 rfl (.inr rfl) (resP rfl m0 ty_55 rfl) ?_
 exact (by subst hr2; rfl)
end Go.Proofs.Ythbjhbmpfeeilaa
