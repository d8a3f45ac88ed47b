/- Walks: what these functions return. -/
import Derived.Test.YthbjhbmpfeeilaaFa0
import Derived.Test.YthbjhbmpfeeilaaFn
import Derived.Test.YthbjhbmpfeeilaaLa
import Derived.Test.YthbjhbmpfeeilaaRa
import Derived.Test.YthbjhbmpfeeilaaSg
import Derived.Test.YthbjhbmpfeeilaaVa
namespace Go.Proofs.Ythbjhbmpfeeilaa
open Go.Kn Go.Num
set_option linter.unusedVariables false
set_option linter.unusedSimpArgs false
set_option maxRecDepth 20000
set_option maxHeartbeats 8000000
theorem skewbacklaw06_VectorPrimitivesMatchSpec_ret (a : (A3 I)) :
    Ret Try.prog 4 [AV [pI a.x, pI a.y, pI a.z]] (.bool (F_skewbacklaw06_VectorPrimitivesMatchSpec a)) := by
 refine ret_of_W (N := 80) Try.func4 rfl rfl (by simp) (fun w0 => ?_)
 simp only [initF, Nat.reduceAdd]
 refine W_sr (fun K1 hK1 => ?_)
 refine WL_r rfl (r_boxp rfl rfl (fun b1 hb1 => ?_))
 refine WL_q rfl (q_assign rfl) ?_
 refine WL_nil (hK1 _ _ ?_)
 clear hK1 K1
 refine W_sr (fun K1 hK1 => ?_)
 refine WL_q rfl (q_loadp ty_30 rfl m0 rfl) ?_
 obtain ⟨r2, hr2⟩ := nm ((F_vector_Primitive a).1 : (A3 W))
 refine WL_q rfl (q_as (v' := .tuple #[AV [ci .i64 r2.x.1, ci .i64 r2.y.1, ci .i64 r2.z.1], .int .i64 (((F_vector_Primitive a).2).1)]) (q_ret en_14 (vector_Primitive_ret a) rfl) (by rw [hr2]; first | done | rfl)) ?_
 refine WL_q rfl (q_move rfl) ?_
 refine WL_q rfl (q_extract rfl rfl) ?_
 refine WL_q rfl (q_extract rfl rfl) ?_
 refine WL_r rfl (r_allocp zp_23 (fun b3 hb3 => ?_))
 refine WL_st (qs := [ci .i64 r2.x.1, ci .i64 r2.y.1, ci .i64 r2.z.1]) rfl ty_23 rfl rfl rfl rfl rfl (.head _) hb3 ?_
 refine WL_q rfl (q_assign rfl) ?_
 refine WL_nil (hK1 _ _ ?_)
 clear hK1 K1
 refine W_sr (fun K1 hK1 => ?_)
 refine WL_q rfl (q_loadp ty_30 rfl m1 rfl) ?_
 obtain ⟨r4, hr4⟩ := nm ((F_skewbackref06_Primitive a) : Dir)
 refine WL_q rfl (q_as (v' := AV [ci .i64 r4.v.x.1, ci .i64 r4.v.y.1, ci .i64 r4.v.z.1, ci .i64 r4.e.1]) (q_ret en_15 (skewbackref06_Primitive_ret a) rfl) (by rw [hr4]; first | done | rfl)) ?_
 refine WL_r rfl (r_allocp zp_37 (fun b5 hb5 => ?_))
 refine WL_st (qs := [ci .i64 r4.v.x.1, ci .i64 r4.v.y.1, ci .i64 r4.v.z.1, ci .i64 r4.e.1]) rfl ty_37 rfl rfl rfl rfl rfl (.head _) hb5 ?_
 refine WL_nil (hK1 _ _ ?_)
 clear hK1 K1
 refine W_seq (fun K_1 hK_1 => ?_)
 refine W_join [19, 20, 21, 22, 23, 24, 25, 26, 27, 28] (fun g M => (g 28 = .bool (!(decide (r2.x.1 = r4.v.x.1) && (decide (r2.y.1 = r4.v.y.1) && decide (r2.z.1 = r4.v.z.1))) || (((F_vector_Primitive a).2).1 != r4.e.1))) ∧ M = [⟨b5, 37, flat [ci .i64 r4.v.x.1, ci .i64 r4.v.y.1, ci .i64 r4.v.z.1, ci .i64 r4.e.1]⟩, ⟨b3, 23, flat [ci .i64 r2.x.1, ci .i64 r2.y.1, ci .i64 r2.z.1]⟩, ⟨b1, 30, flat [pI a.x, pI a.y, pI a.z]⟩]) (fun K_2 hK_2 => ?_) ?_
 ·skip
  refine W_region_k (fun K1 hK1 => ?_)
  refine WL_q rfl (q_loadp ty_23 rfl m1 rfl) ?_
  refine WL_q rfl (q_ptr (off' := 0) (q_faddr fd_37_0 (by decide) rfl) rfl) ?_
  refine WL_q rfl (q_loadp ty_23 rfl m0 rfl) ?_
  refine WL_q rfl (q_neqa (r := (decide (r2.x.1 = r4.v.x.1) && (decide (r2.y.1 = r4.v.y.1) && decide (r2.z.1 = r4.v.z.1)))) rfl rfl (eqOk_of 8 (by decide) eg_23 lw_23 (lv_cons lv_ci (lv_cons lv_ci (lv_one lv_ci))) (lv_cons lv_ci (lv_cons lv_ci (lv_one lv_ci))) (eqP_cons rfl eq_ci (eqP_cons rfl eq_ci (eqP_one eq_ci))))) ?_
  rcases bt (decide (r2.x.1 = r4.v.x.1) && (decide (r2.y.1 = r4.v.y.1) && decide (r2.z.1 = r4.v.z.1))) with h7 | h7
  ·skip
   refine WL_q rfl (q_as (v' := .bool false) (q_move rfl) (congrArg Value.bool (not_f h7))) ?_
   refine WL_q rfl (q_move rfl) ?_
   refine WL_q rfl (q_ptr (off' := 3) (q_faddr fd_37_1 (by decide) rfl) rfl) ?_
   refine WL_q rfl (q_loadc (v := .int .i64 r4.e.1) ty_33 rfl m0 rfl) ?_
   refine WL_q rfl (q_as (v' := .bool (((F_vector_Primitive a).2).1 != r4.e.1)) (q_neq rfl rfl) rfl) ?_
   refine WL_q rfl (q_pick rfl rfl) ?_
   refine WL_nil (hK1 _ _ ?_)
   clear hK1 K1
   refine hK_2 _ _ (by repeat (first | exact .refl | refine .cons rfl ?_)) ⟨_, s0, ?s28, rfl⟩
   case s28 => exact congrArg Value.bool (nor_t h7 rfl)
  ·skip
   refine WL_q rfl (q_as (v' := .bool true) (q_move rfl) (congrArg Value.bool (not_t h7))) ?_
   refine WL_n rfl ?_
   refine WL_n rfl ?_
   refine WL_n rfl ?_
   refine WL_n rfl ?_
   refine WL_q rfl (q_pick rfl rfl) ?_
   refine WL_nil (hK1 _ _ ?_)
   clear hK1 K1
   refine hK_2 _ _ (by repeat (first | exact .refl | refine .cons rfl ?_)) ⟨_, s0, ?s28, rfl⟩
   case s28 => exact congrArg Value.bool (nor_f h7)
 ·skip
  rintro g8 M ⟨hg28, rfl⟩
  simp only [setG, hg28]
  clear hg28
  rcases bt (!(decide (r2.x.1 = r4.v.x.1) && (decide (r2.y.1 = r4.v.y.1) && decide (r2.z.1 = r4.v.z.1))) || (((F_vector_Primitive a).2).1 != r4.e.1)) with h9 | h9
  ·skip
   refine W_t h9 rfl ?_
   refine W_sr (fun K1 hK1 => ?_)
   refine WL_q rfl (q_assign rfl) ?_
   refine WL_nil (hK1 _ _ ?_)
   clear hK1 K1
   refine W_ret ?_
   refine thenK_r (ret1 rfl (.inr rfl) rfl ?_)
   exact (by subst hr4; subst hr2; exact congrArg (fun r : Bool => (.bool r : Value)) (show _ = (F_skewbacklaw06_VectorPrimitivesMatchSpec a) from bif_t h9 rfl))
  ·skip
   refine W_f h9 rfl ?_
   refine W_skip ?_
   refine hK_1 _ _ ?_
   try clear hK_1 K_1
   refine W_seq (fun K_3 hK_3 => ?_)
   refine W_sr (fun K1 hK1 => ?_)
   refine WL_q rfl (q_move rfl) ?_
   refine WL_q rfl (q_as (v' := .bool (((F_vector_Primitive a).2).1 != 0)) (q_neq rfl rfl) rfl) ?_
   refine WL_nil (hK1 _ _ ?_)
   clear hK1 K1
   rcases bt (((F_vector_Primitive a).2).1 != 0) with h10 | h10
   ·skip
    refine W_t h10 rfl ?_
    refine W_sr (fun K1 hK1 => ?_)
    refine WL_q rfl (q_ret en_9 skewbacklaw06_sanity_ret  rfl) ?_
    refine WL_q rfl (q_assign rfl) ?_
    refine WL_nil (hK1 _ _ ?_)
    clear hK1 K1
    refine W_ret ?_
    refine thenK_r (ret1 rfl (.inr rfl) rfl ?_)
    exact (by subst hr4; subst hr2; exact congrArg (fun r : Bool => (.bool r : Value)) (show _ = (F_skewbacklaw06_VectorPrimitivesMatchSpec a) from bif_f h9 (bif_t h10 rfl)))
   ·skip
    refine W_f h10 rfl ?_
    refine W_skip ?_
    refine hK_3 _ _ ?_
    try clear hK_3 K_3
    refine W_sr (fun K1 hK1 => ?_)
    refine WL_q rfl (q_loadp ty_23 rfl m1 rfl) ?_
    obtain ⟨r11, hr11⟩ := nm ((F_skewbackref06_Wide r2) : (A3 I))
    refine WL_q rfl (q_as (v' := AV [pI r11.x, pI r11.y, pI r11.z]) (q_ret en_16 (skewbackref06_Wide_ret r2) rfl) (by rw [hr11]; first | done | rfl)) ?_
    obtain ⟨r12, hr12⟩ := nm ((F_vector_Primitive r11).1 : (A3 W))
    refine WL_q rfl (q_as (v' := .tuple #[AV [ci .i64 r12.x.1, ci .i64 r12.y.1, ci .i64 r12.z.1], .int .i64 (((F_vector_Primitive r11).2).1)]) (q_ret en_14 (vector_Primitive_ret r11) rfl) (by rw [hr12]; first | done | rfl)) ?_
    refine WL_q rfl (q_move rfl) ?_
    refine WL_q rfl (q_extract rfl rfl) ?_
    refine WL_q rfl (q_extract rfl rfl) ?_
    refine WL_r rfl (r_allocp zp_23 (fun b13 hb13 => ?_))
    refine WL_st (qs := [ci .i64 r12.x.1, ci .i64 r12.y.1, ci .i64 r12.z.1]) rfl ty_23 rfl rfl rfl rfl rfl (.head _) hb13 ?_
    refine WL_q rfl (q_assign rfl) ?_
    refine WL_nil (hK1 _ _ ?_)
    clear hK1 K1
    refine W_sdr (sk (sk (sk (sk (s0))))) (.quiet 0 [1,3,5] (.quiet 1 [3,5] (.quiet 2 [3,5] (.quiet 3 [5] (.only 4 (.only 5 (.fin))))))) [0,1,2,3,4] mix (by kernel_rfl) (by kernel_rfl) (fun K1 hK1 => ?_)
    refine PL_q rfl rfl (q_loadp ty_23 rfl m2 rfl) ?_
    obtain ⟨r14, hr14⟩ := nm ((F_skewbackref06_Wide r2) : (A3 I))
    refine PL_q rfl rfl (q_as (v' := AV [pI r14.x, pI r14.y, pI r14.z]) (q_ret en_16 (skewbackref06_Wide_ret r2) rfl) (by rw [hr14]; first | done | rfl)) ?_
    refine PL_q rfl rfl (q_loadp ty_30 rfl m3 rfl) ?_
    obtain ⟨r15, hr15⟩ := nm ((F_skewbackref06_CrossOf r14 a) : (A3 I))
    refine PL_q rfl rfl (q_as (v' := AV [pI r15.x, pI r15.y, pI r15.z]) (q_ret en_17 (skewbackref06_CrossOf_ret r14 a) rfl) (by rw [hr15]; first | done | rfl)) ?_
    refine PL_o rfl rfl (r_allocp zp_30 (fun b16 hb16 => ⟨(fun _ => sd s0), (sd s0), ?_⟩))
    refine PL_st rfl (qs := [pI r15.x, pI r15.y, pI r15.z]) rfl ty_30 rfl rfl rfl rfl rfl (.head _) hb16 rfl (sd s0) ?_
    refine PL_fin (hK1 _ _ ?_)
    clear hK1 K1
    refine W_sdr (sk (sk (sk (sk (sk (s0)))))) (.quiet 0 [1,3,5] (.quiet 1 [3,5] (.quiet 2 [3,5] (.quiet 3 [5] (.only 4 (.only 5 (.fin))))))) [0,1,2,3,4] mix (by kernel_rfl) (by kernel_rfl) (fun K1 hK1 => ?_)
    refine PL_q rfl rfl (q_loadp ty_23 rfl m3 rfl) ?_
    obtain ⟨r17, hr17⟩ := nm ((F_skewbackref06_Wide r2) : (A3 I))
    refine PL_q rfl rfl (q_as (v' := AV [pI r17.x, pI r17.y, pI r17.z]) (q_ret en_16 (skewbackref06_Wide_ret r2) rfl) (by rw [hr17]; first | done | rfl)) ?_
    refine PL_q rfl rfl (q_loadp ty_30 rfl m4 rfl) ?_
    refine PL_q rfl rfl (q_ret en_18 (skewbackref06_DotOf_ret r17 a) rfl) ?_
    refine PL_o rfl rfl (r_allocp zp_28 (fun b18 hb18 => ⟨(fun _ => sd s0), (sd s0), ?_⟩))
    refine PL_st rfl (qs := [pI (F_skewbackref06_DotOf r17 a)]) rfl ty_28 rfl rfl rfl rfl rfl (.head _) hb18 rfl (sd s0) ?_
    refine PL_fin (hK1 _ _ ?_)
    clear hK1 K1
    refine W_sr (fun K1 hK1 => ?_)
    refine WL_q rfl (q_assign rfl) ?_
    refine WL_nil (hK1 _ _ ?_)
    clear hK1 K1
    refine W_seq (fun K_4 hK_4 => ?_)
    refine W_sr (fun K1 hK1 => ?_)
    refine WL_q rfl (q_assign rfl) ?_
    refine WL_nil (hK1 _ _ ?_)
    clear hK1 K1
    refine W_block ?_
    refine W_un 5 ?_
    refine Un_s (fun K_5 hK_5 => ?_)
    refine W_seq (fun K_6 hK_6 => ?_)
    refine W_sr (fun K1 hK1 => ?_)
    refine WL_q rfl (q_move rfl) ?_
    refine WL_q rfl (q_as (v' := .bool true) (q_lss rfl rfl) rfl) ?_
    refine WL_nil (hK1 _ _ ?_)
    clear hK1 K1
    refine W_true rfl ?_
    refine W_skip ?_
    refine hK_6 _ _ ?_
    try clear hK_6 K_6
    refine W_seq (fun K_7 hK_7 => ?_)
    refine W_block ?_
    refine W_region_k (fun K1 hK1 => ?_)
    refine WL_q rfl (q_move rfl) ?_
    refine WL_q rfl (q_move rfl) ?_
    refine WL_q rfl (q_move rfl) ?_
    refine WL_q rfl (q_ptr (off' := 0) (q_idxa ar_30 rfl rfl (by decide) (by decide)) rfl) ?_
    refine WL_q rfl (q_loadp ty_28 rfl m1 rfl) ?_
    refine WL_q rfl (q_as (v' := .int .i64 ((Z.signW r15.x.dec).1)) (q_ret en_19 (skewbackref03_Sign_ret r15.x.1 r15.x.2) rfl) rfl) ?_
    refine WL_q rfl (q_as (v' := .bool ((Z.signW r15.x.dec).1 == 0)) (q_eql rfl rfl) rfl) ?_
    refine WL_q rfl (q_pick rfl rfl) ?_
    refine WL_q rfl (q_assign rfl) ?_
    refine WL_nil (hK1 _ _ ?_)
    clear hK1 K1
    refine hK_7 _ _ ?_
    try clear hK_7 K_7
    refine W_region_k (fun K1 hK1 => ?_)
    refine WL_q rfl (q_move rfl) ?_
    refine WL_q rfl (q_as (v' := .int .i64 1) (q_add rfl rfl) rfl) ?_
    refine WL_q rfl (q_assign rfl) ?_
    refine WL_nil (hK1 _ _ ?_)
    clear hK1 K1
    refine hK_5 _ _ ?_
    try clear hK_5 K_5
    refine Un_s (fun K_8 hK_8 => ?_)
    refine W_seq (fun K_9 hK_9 => ?_)
    refine W_sr (fun K1 hK1 => ?_)
    refine WL_q rfl (q_move rfl) ?_
    refine WL_q rfl (q_as (v' := .bool true) (q_lss rfl rfl) rfl) ?_
    refine WL_nil (hK1 _ _ ?_)
    clear hK1 K1
    refine W_true rfl ?_
    refine W_skip ?_
    refine hK_9 _ _ ?_
    try clear hK_9 K_9
    refine W_join [10, 50, 51, 52, 53, 54, 55, 56, 57] (fun g M => (g 10 = .bool (((Z.signW r15.x.dec).1 == 0) && ((Z.signW r15.y.dec).1 == 0))) ∧ M = [⟨b18, 28, flat [pI (F_skewbackref06_DotOf r17 a)]⟩, ⟨b16, 30, flat [pI r15.x, pI r15.y, pI r15.z]⟩, ⟨b13, 23, flat [ci .i64 r12.x.1, ci .i64 r12.y.1, ci .i64 r12.z.1]⟩, ⟨b5, 37, flat [ci .i64 r4.v.x.1, ci .i64 r4.v.y.1, ci .i64 r4.v.z.1, ci .i64 r4.e.1]⟩, ⟨b3, 23, flat [ci .i64 r2.x.1, ci .i64 r2.y.1, ci .i64 r2.z.1]⟩, ⟨b1, 30, flat [pI a.x, pI a.y, pI a.z]⟩]) (fun K_11 hK_11 => ?_) ?_
    ·skip
     refine W_block ?_
     refine W_region_k (fun K1 hK1 => ?_)
     refine WL_q rfl (q_move rfl) ?_
     rcases bt ((Z.signW r15.x.dec).1 == 0) with h20 | h20
     ·skip
      refine WL_q rfl (q_as (v' := .bool true) (q_move rfl) (congrArg Value.bool h20)) ?_
      refine WL_q rfl (q_move rfl) ?_
      refine WL_q rfl (q_ptr (off' := 18) (q_idxa ar_30 rfl rfl (by decide) (by decide)) rfl) ?_
      refine WL_q rfl (q_loadp ty_28 rfl m1 rfl) ?_
      refine WL_q rfl (q_as (v' := .int .i64 ((Z.signW r15.y.dec).1)) (q_ret en_19 (skewbackref03_Sign_ret r15.y.1 r15.y.2) rfl) rfl) ?_
      refine WL_q rfl (q_as (v' := .bool ((Z.signW r15.y.dec).1 == 0)) (q_eql rfl rfl) rfl) ?_
      refine WL_q rfl (q_pick rfl rfl) ?_
      refine WL_q rfl (q_assign rfl) ?_
      refine WL_nil (hK1 _ _ ?_)
      clear hK1 K1
      refine hK_11 _ _ (by repeat (first | exact .refl | refine .cons rfl ?_)) ⟨_, s0, ?s10, rfl⟩
      case s10 => exact congrArg Value.bool (and_t h20 rfl)
     ·skip
      refine WL_q rfl (q_as (v' := .bool false) (q_move rfl) (congrArg Value.bool h20)) ?_
      refine WL_n rfl ?_
      refine WL_n rfl ?_
      refine WL_n rfl ?_
      refine WL_n rfl ?_
      refine WL_n rfl ?_
      refine WL_q rfl (q_pick rfl rfl) ?_
      refine WL_q rfl (q_assign rfl) ?_
      refine WL_nil (hK1 _ _ ?_)
      clear hK1 K1
      refine hK_11 _ _ (by repeat (first | exact .refl | refine .cons rfl ?_)) ⟨_, s0, ?s10, rfl⟩
      case s10 => exact congrArg Value.bool (and_f h20)
    ·skip
     rintro g21 M ⟨hg10, rfl⟩
     simp only [setG, hg10]
     clear hg10
     refine W_region_k (fun K1 hK1 => ?_)
     refine WL_q rfl (q_move rfl) ?_
     refine WL_q rfl (q_as (v' := .int .i64 2) (q_add rfl rfl) rfl) ?_
     refine WL_q rfl (q_assign rfl) ?_
     refine WL_nil (hK1 _ _ ?_)
     clear hK1 K1
     refine hK_8 _ _ ?_
     try clear hK_8 K_8
     refine Un_s (fun K_12 hK_12 => ?_)
     refine W_seq (fun K_13 hK_13 => ?_)
     refine W_sr (fun K1 hK1 => ?_)
     refine WL_q rfl (q_move rfl) ?_
     refine WL_q rfl (q_as (v' := .bool true) (q_lss rfl rfl) rfl) ?_
     refine WL_nil (hK1 _ _ ?_)
     clear hK1 K1
     refine W_true rfl ?_
     refine W_skip ?_
     refine hK_13 _ _ ?_
     try clear hK_13 K_13
     refine W_join [10, 50, 51, 52, 53, 54, 55, 56, 57] (fun g M => (g 10 = .bool ((((Z.signW r15.x.dec).1 == 0) && ((Z.signW r15.y.dec).1 == 0)) && ((Z.signW r15.z.dec).1 == 0))) ∧ M = [⟨b18, 28, flat [pI (F_skewbackref06_DotOf r17 a)]⟩, ⟨b16, 30, flat [pI r15.x, pI r15.y, pI r15.z]⟩, ⟨b13, 23, flat [ci .i64 r12.x.1, ci .i64 r12.y.1, ci .i64 r12.z.1]⟩, ⟨b5, 37, flat [ci .i64 r4.v.x.1, ci .i64 r4.v.y.1, ci .i64 r4.v.z.1, ci .i64 r4.e.1]⟩, ⟨b3, 23, flat [ci .i64 r2.x.1, ci .i64 r2.y.1, ci .i64 r2.z.1]⟩, ⟨b1, 30, flat [pI a.x, pI a.y, pI a.z]⟩]) (fun K_15 hK_15 => ?_) ?_
     ·skip
      refine W_block ?_
      refine W_region_k (fun K1 hK1 => ?_)
      refine WL_q rfl (q_move rfl) ?_
      rcases bt (((Z.signW r15.x.dec).1 == 0) && ((Z.signW r15.y.dec).1 == 0)) with h23 | h23
      ·skip
       refine WL_q rfl (q_as (v' := .bool true) (q_move rfl) (congrArg Value.bool h23)) ?_
       refine WL_q rfl (q_move rfl) ?_
       refine WL_q rfl (q_ptr (off' := 36) (q_idxa ar_30 rfl rfl (by decide) (by decide)) rfl) ?_
       refine WL_q rfl (q_loadp ty_28 rfl m1 rfl) ?_
       refine WL_q rfl (q_as (v' := .int .i64 ((Z.signW r15.z.dec).1)) (q_ret en_19 (skewbackref03_Sign_ret r15.z.1 r15.z.2) rfl) rfl) ?_
       refine WL_q rfl (q_as (v' := .bool ((Z.signW r15.z.dec).1 == 0)) (q_eql rfl rfl) rfl) ?_
       refine WL_q rfl (q_pick rfl rfl) ?_
       refine WL_q rfl (q_assign rfl) ?_
       refine WL_nil (hK1 _ _ ?_)
       clear hK1 K1
       refine hK_15 _ _ (by repeat (first | exact .refl | refine .cons rfl ?_)) ⟨_, s0, ?s10, rfl⟩
       case s10 => exact congrArg Value.bool (and_t h23 rfl)
      ·skip
       refine WL_q rfl (q_as (v' := .bool false) (q_move rfl) (congrArg Value.bool h23)) ?_
       refine WL_n rfl ?_
       refine WL_n rfl ?_
       refine WL_n rfl ?_
       refine WL_n rfl ?_
       refine WL_n rfl ?_
       refine WL_q rfl (q_pick rfl rfl) ?_
       refine WL_q rfl (q_assign rfl) ?_
       refine WL_nil (hK1 _ _ ?_)
       clear hK1 K1
       refine hK_15 _ _ (by repeat (first | exact .refl | refine .cons rfl ?_)) ⟨_, s0, ?s10, rfl⟩
       case s10 => exact congrArg Value.bool (and_f h23)
     ·skip
      rintro g24 M ⟨hg10, rfl⟩
      simp only [setG, hg10]
      clear hg10
      refine W_region_k (fun K1 hK1 => ?_)
      refine WL_q rfl (q_move rfl) ?_
      refine WL_q rfl (q_as (v' := .int .i64 3) (q_add rfl rfl) rfl) ?_
      refine WL_q rfl (q_assign rfl) ?_
      refine WL_nil (hK1 _ _ ?_)
      clear hK1 K1
      refine hK_12 _ _ ?_
      try clear hK_12 K_12
      refine Un_s (fun K_16 hK_16 => ?_)
      refine W_seq (fun K_17 hK_17 => ?_)
      refine W_sr (fun K1 hK1 => ?_)
      refine WL_q rfl (q_move rfl) ?_
      refine WL_q rfl (q_as (v' := .bool false) (q_lss rfl rfl) rfl) ?_
      refine WL_nil (hK1 _ _ ?_)
      clear hK1 K1
      refine W_false rfl ?_
      refine W_exit (thenK_x (thenK_x (blockK_hit ?_)))
      refine hK_4 _ _ ?_
      try clear hK_4 K_4
      refine W_join [2, 58, 59, 60, 61, 62, 63, 64, 65, 66, 67, 68, 69, 70, 71, 72, 73, 74, 75, 76, 77, 78, 79] (fun g M => (g 2 = .bool (F_skewbacklaw06_sanity && ((decide (r12.x.1 = r2.x.1) && (decide (r12.y.1 = r2.y.1) && decide (r12.z.1 = r2.z.1))) && ((((F_vector_Primitive r11).2).1 == 0) && (((((Z.signW r15.x.dec).1 == 0) && ((Z.signW r15.y.dec).1 == 0)) && ((Z.signW r15.z.dec).1 == 0)) && ((F_skewbackref06_DotOf r17 a).1.bad || ((Z.signW (F_skewbackref06_DotOf r17 a).dec).1 == 1))))))) ∧ M = [⟨b18, 28, flat [pI (F_skewbackref06_DotOf r17 a)]⟩, ⟨b16, 30, flat [pI r15.x, pI r15.y, pI r15.z]⟩, ⟨b13, 23, flat [ci .i64 r12.x.1, ci .i64 r12.y.1, ci .i64 r12.z.1]⟩, ⟨b5, 37, flat [ci .i64 r4.v.x.1, ci .i64 r4.v.y.1, ci .i64 r4.v.z.1, ci .i64 r4.e.1]⟩, ⟨b3, 23, flat [ci .i64 r2.x.1, ci .i64 r2.y.1, ci .i64 r2.z.1]⟩, ⟨b1, 30, flat [pI a.x, pI a.y, pI a.z]⟩]) (fun K_18 hK_18 => ?_) ?_
      ·skip
       refine W_region_k (fun K1 hK1 => ?_)
       refine WL_q rfl (q_ret en_9 skewbacklaw06_sanity_ret  rfl) ?_
       rcases bt F_skewbacklaw06_sanity with h30 | h30
       ·skip
        refine WL_q rfl (q_as (v' := .bool true) (q_move rfl) (congrArg Value.bool h30)) ?_
        refine WL_q rfl (q_loadp ty_23 rfl m2 rfl) ?_
        refine WL_q rfl (q_loadp ty_23 rfl m4 rfl) ?_
        refine WL_q rfl (q_eqla (r := (decide (r12.x.1 = r2.x.1) && (decide (r12.y.1 = r2.y.1) && decide (r12.z.1 = r2.z.1)))) rfl rfl (eqOk_of 8 (by decide) eg_23 lw_23 (lv_cons lv_ci (lv_cons lv_ci (lv_one lv_ci))) (lv_cons lv_ci (lv_cons lv_ci (lv_one lv_ci))) (eqP_cons rfl eq_ci (eqP_cons rfl eq_ci (eqP_one eq_ci))))) ?_
        refine WL_q rfl (q_pick rfl rfl) ?_
        rcases bt (decide (r12.x.1 = r2.x.1) && (decide (r12.y.1 = r2.y.1) && decide (r12.z.1 = r2.z.1))) with h31 | h31
        ·skip
         refine WL_q rfl (q_as (v' := .bool true) (q_move rfl) (congrArg Value.bool h31)) ?_
         refine WL_q rfl (q_move rfl) ?_
         refine WL_q rfl (q_as (v' := .bool (((F_vector_Primitive r11).2).1 == 0)) (q_eql rfl rfl) rfl) ?_
         refine WL_q rfl (q_pick rfl rfl) ?_
         rcases bt (((F_vector_Primitive r11).2).1 == 0) with h32 | h32
         ·skip
          refine WL_q rfl (q_as (v' := .bool true) (q_move rfl) (congrArg Value.bool h32)) ?_
          refine WL_q rfl (q_move rfl) ?_
          refine WL_q rfl (q_pick rfl rfl) ?_
          rcases bt ((((Z.signW r15.x.dec).1 == 0) && ((Z.signW r15.y.dec).1 == 0)) && ((Z.signW r15.z.dec).1 == 0)) with h33 | h33
          ·skip
           refine WL_q rfl (q_as (v' := .bool true) (q_move rfl) (congrArg Value.bool h33)) ?_
           refine WL_q rfl (q_ptr (off' := 0) (q_faddr fd_28_0 (by decide) rfl) rfl) ?_
           refine WL_q rfl (q_loadc (v := .bool ((F_skewbackref06_DotOf r17 a).1.bad)) ty_4 rfl m0 rfl) ?_
           rcases bt ((F_skewbackref06_DotOf r17 a).1.bad) with h34 | h34
           ·skip
            refine WL_q rfl (q_as (v' := .bool true) (q_move rfl) (congrArg Value.bool h34)) ?_
            refine WL_n rfl ?_
            refine WL_n rfl ?_
            refine WL_n rfl ?_
            refine WL_q rfl (q_pick rfl rfl) ?_
            refine WL_q rfl (q_pick rfl rfl) ?_
            refine WL_q rfl (q_assign rfl) ?_
            refine WL_nil (hK1 _ _ ?_)
            clear hK1 K1
            refine hK_18 _ _ (by repeat (first | exact .refl | refine .cons rfl ?_)) ⟨_, s0, ?s2, rfl⟩
            case s2 => exact congrArg Value.bool (and_t h30 (and_t h31 (and_t h32 (and_t h33 (or_t h34)))))
           ·skip
            refine WL_q rfl (q_as (v' := .bool false) (q_move rfl) (congrArg Value.bool h34)) ?_
            refine WL_q rfl (q_loadp ty_28 rfl m0 rfl) ?_
            refine WL_q rfl (q_as (v' := .int .i64 ((Z.signW (F_skewbackref06_DotOf r17 a).dec).1)) (q_ret en_19 (skewbackref03_Sign_ret (F_skewbackref06_DotOf r17 a).1 (F_skewbackref06_DotOf r17 a).2) rfl) rfl) ?_
            refine WL_q rfl (q_as (v' := .bool ((Z.signW (F_skewbackref06_DotOf r17 a).dec).1 == 1)) (q_eql rfl rfl) rfl) ?_
            refine WL_q rfl (q_pick rfl rfl) ?_
            refine WL_q rfl (q_pick rfl rfl) ?_
            refine WL_q rfl (q_assign rfl) ?_
            refine WL_nil (hK1 _ _ ?_)
            clear hK1 K1
            refine hK_18 _ _ (by repeat (first | exact .refl | refine .cons rfl ?_)) ⟨_, s0, ?s2, rfl⟩
            case s2 => exact congrArg Value.bool (and_t h30 (and_t h31 (and_t h32 (and_t h33 (or_f h34 rfl)))))
          ·skip
           refine WL_q rfl (q_as (v' := .bool false) (q_move rfl) (congrArg Value.bool h33)) ?_
           refine WL_n rfl ?_
           refine WL_n rfl ?_
           refine WL_n rfl ?_
           refine WL_n rfl ?_
           refine WL_n rfl ?_
           refine WL_n rfl ?_
           refine WL_n rfl ?_
           refine WL_q rfl (q_pick rfl rfl) ?_
           refine WL_q rfl (q_assign rfl) ?_
           refine WL_nil (hK1 _ _ ?_)
           clear hK1 K1
           refine hK_18 _ _ (by repeat (first | exact .refl | refine .cons rfl ?_)) ⟨_, s0, ?s2, rfl⟩
           case s2 => exact congrArg Value.bool (and_t h30 (and_t h31 (and_t h32 (and_f h33))))
         ·skip
          refine WL_q rfl (q_as (v' := .bool false) (q_move rfl) (congrArg Value.bool h32)) ?_
          refine WL_n rfl ?_
          refine WL_q rfl (q_pick rfl rfl) ?_
          refine WL_q rfl (q_move rfl) ?_
          refine WL_n rfl ?_
          refine WL_n rfl ?_
          refine WL_n rfl ?_
          refine WL_n rfl ?_
          refine WL_n rfl ?_
          refine WL_n rfl ?_
          refine WL_n rfl ?_
          refine WL_q rfl (q_pick rfl rfl) ?_
          refine WL_q rfl (q_assign rfl) ?_
          refine WL_nil (hK1 _ _ ?_)
          clear hK1 K1
          refine hK_18 _ _ (by repeat (first | exact .refl | refine .cons rfl ?_)) ⟨_, s0, ?s2, rfl⟩
          case s2 => exact congrArg Value.bool (and_t h30 (and_t h31 (and_f h32)))
        ·skip
         refine WL_q rfl (q_as (v' := .bool false) (q_move rfl) (congrArg Value.bool h31)) ?_
         refine WL_n rfl ?_
         refine WL_n rfl ?_
         refine WL_q rfl (q_pick rfl rfl) ?_
         refine WL_q rfl (q_move rfl) ?_
         refine WL_n rfl ?_
         refine WL_q rfl (q_pick rfl rfl) ?_
         refine WL_q rfl (q_move rfl) ?_
         refine WL_n rfl ?_
         refine WL_n rfl ?_
         refine WL_n rfl ?_
         refine WL_n rfl ?_
         refine WL_n rfl ?_
         refine WL_n rfl ?_
         refine WL_n rfl ?_
         refine WL_q rfl (q_pick rfl rfl) ?_
         refine WL_q rfl (q_assign rfl) ?_
         refine WL_nil (hK1 _ _ ?_)
         clear hK1 K1
         refine hK_18 _ _ (by repeat (first | exact .refl | refine .cons rfl ?_)) ⟨_, s0, ?s2, rfl⟩
         case s2 => exact congrArg Value.bool (and_t h30 (and_f h31))
       ·skip
        refine WL_q rfl (q_as (v' := .bool false) (q_move rfl) (congrArg Value.bool h30)) ?_
        refine WL_n rfl ?_
        refine WL_n rfl ?_
        refine WL_n rfl ?_
        refine WL_q rfl (q_pick rfl rfl) ?_
        refine WL_q rfl (q_move rfl) ?_
        refine WL_n rfl ?_
        refine WL_n rfl ?_
        refine WL_q rfl (q_pick rfl rfl) ?_
        refine WL_q rfl (q_move rfl) ?_
        refine WL_n rfl ?_
        refine WL_q rfl (q_pick rfl rfl) ?_
        refine WL_q rfl (q_move rfl) ?_
        refine WL_n rfl ?_
        refine WL_n rfl ?_
        refine WL_n rfl ?_
        refine WL_n rfl ?_
        refine WL_n rfl ?_
        refine WL_n rfl ?_
        refine WL_n rfl ?_
        refine WL_q rfl (q_pick rfl rfl) ?_
        refine WL_q rfl (q_assign rfl) ?_
        refine WL_nil (hK1 _ _ ?_)
        clear hK1 K1
        refine hK_18 _ _ (by repeat (first | exact .refl | refine .cons rfl ?_)) ⟨_, s0, ?s2, rfl⟩
        case s2 => exact congrArg Value.bool (and_f h30)
      ·skip
       rintro g35 M ⟨hg2, rfl⟩
       simp only [setG, hg2]
       clear hg2
       refine W_ret ?_
       refine ret1 rfl (.inr rfl) rfl ?_
       exact (by subst hr17; subst hr15; subst hr14; subst hr12; subst hr11; subst hr4; subst hr2; exact congrArg (fun r : Bool => (.bool r : Value)) (show _ = (F_skewbacklaw06_VectorPrimitivesMatchSpec a) from bif_f h9 (bif_f h10 rfl)))
end Go.Proofs.Ythbjhbmpfeeilaa
