/- Walks: what these functions return. -/
import Derived.Test.YthbjhbmpfeeilaaFa0
import Derived.Test.YthbjhbmpfeeilaaFn
import Derived.Test.YthbjhbmpfeeilaaGa
import Derived.Test.YthbjhbmpfeeilaaVa
import Derived.Test.YthbjhbmpfeeilaaWc
namespace Go.Proofs.Ythbjhbmpfeeilaa
open Go.Kn Go.Num
set_option linter.unusedVariables false
set_option linter.unusedSimpArgs false
set_option maxRecDepth 20000
set_option maxHeartbeats 8000000
theorem vector_Tangents_ret (a : (A3 W)) :
    Ret Try.prog 20 [AV [ci .i64 a.x.1, ci .i64 a.y.1, ci .i64 a.z.1]] (.tuple #[AV [ci .i64 ((((F_vector_Tangents a).1).x).1), ci .i64 ((((F_vector_Tangents a).1).y).1), ci .i64 ((((F_vector_Tangents a).1).z).1)], AV [ci .i64 ((((F_vector_Tangents a).2).x).1), ci .i64 ((((F_vector_Tangents a).2).y).1), ci .i64 ((((F_vector_Tangents a).2).z).1)]]) := by
 refine ret_of_W (N := 47) Try.func20 rfl rfl (by simp) (fun w0 => ?_)
 simp only [initF, Nat.reduceAdd]
 refine W_sr (fun K1 hK1 => ?_)
 refine WL_r rfl (r_boxp rfl rfl (fun b1 hb1 => ?_))
 refine WL_r rfl (r_allocp zp_23 (fun b2 hb2 => ?_))
 refine WL_r rfl (r_allocp zp_23 (fun b3 hb3 => ?_))
 refine WL_nil (hK1 _ _ ?_)
 clear hK1 K1
 refine W_seq (fun K_1 hK_1 => ?_)
 refine W_sr (fun K1 hK1 => ?_)
 refine WL_q rfl (q_loadp ty_23 rfl m2 rfl) ?_
 refine WL_q rfl (q_ptr (off' := 2) (q_idxa ar_23 rfl rfl (by decide) (by decide)) rfl) ?_
 refine WL_q rfl (q_loadc (v := .int .i64 a.z.1) ty_3 rfl m2 rfl) ?_
 refine WL_q rfl (q_buildap zp_23 ar_23 rfl (.cons [ci .i64 0] [ci .i64 0, ci .i64 0, ci .i64 0] rfl rfl rfl rfl (.cons [ci .i64 0] [ci .i64 0, ci .i64 0, ci .i64 0] rfl rfl rfl rfl (.cons [ci .i64 a.z.1] [ci .i64 0, ci .i64 0, ci .i64 a.z.1] rfl rfl rfl rfl (.nil _))))) ?_
 refine WL_q rfl (q_eqla (r := (decide (a.x.1 = 0) && (decide (a.y.1 = 0) && decide (a.z.1 = a.z.1)))) rfl rfl (eqOk_of 8 (by decide) eg_23 lw_23 (lv_cons lv_ci (lv_cons lv_ci (lv_one lv_ci))) (lv_cons lv_ci (lv_cons lv_ci (lv_one lv_ci))) (eqP_cons rfl eq_ci (eqP_cons rfl eq_ci (eqP_one eq_ci))))) ?_
 refine WL_nil (hK1 _ _ ?_)
 clear hK1 K1
 rcases bt (decide (a.x.1 = 0) && (decide (a.y.1 = 0) && decide (a.z.1 = a.z.1))) with h4 | h4
 ·skip
  refine W_t h4 rfl ?_
  refine W_sr (fun K1 hK1 => ?_)
  refine WL_q rfl (q_buildap zp_23 ar_23 rfl (.cons [ci .i64 1] [ci .i64 1, ci .i64 0, ci .i64 0] rfl rfl rfl rfl (.cons [ci .i64 0] [ci .i64 1, ci .i64 0, ci .i64 0] rfl rfl rfl rfl (.cons [ci .i64 0] [ci .i64 1, ci .i64 0, ci .i64 0] rfl rfl rfl rfl (.nil _))))) ?_
  refine WL_q rfl (q_buildap zp_23 ar_23 rfl (.cons [ci .i64 0] [ci .i64 0, ci .i64 0, ci .i64 0] rfl rfl rfl rfl (.cons [ci .i64 1] [ci .i64 0, ci .i64 1, ci .i64 0] rfl rfl rfl rfl (.cons [ci .i64 0] [ci .i64 0, ci .i64 1, ci .i64 0] rfl rfl rfl rfl (.nil _))))) ?_
  refine WL_st (qs := [ci .i64 1, ci .i64 0, ci .i64 0]) rfl ty_23 rfl rfl rfl rfl rfl (.tail _ (.head _)) hb2 ?_
  refine WL_st (qs := [ci .i64 0, ci .i64 1, ci .i64 0]) rfl ty_23 rfl rfl rfl rfl rfl (.head _) hb3 ?_
  refine WL_nil (hK1 _ _ ?_)
  clear hK1 K1
  refine W_ret ?_
  refine thenK_r (ret2 rfl (.inr rfl) (resP rfl m1 ty_23 rfl) (resP rfl m0 ty_23 rfl) ?_)
  exact (by exact congrArg (fun r : (A3 W) × (A3 W) => (.tuple #[AV [ci .i64 r.1.x.1, ci .i64 r.1.y.1, ci .i64 r.1.z.1], AV [ci .i64 r.2.x.1, ci .i64 r.2.y.1, ci .i64 r.2.z.1]] : Value)) (show _ = (F_vector_Tangents a) from bif_t h4 rfl))
 ·skip
  refine W_f h4 rfl ?_
  refine W_skip ?_
  refine hK_1 _ _ ?_
  try clear hK_1 K_1
  refine W_sr (fun K1 hK1 => ?_)
  refine WL_q rfl (q_loadp ty_23 rfl m2 rfl) ?_
  refine WL_q rfl (q_ret en_45 (vector_numbers_ret a) rfl) ?_
  refine WL_r rfl (r_allocp zp_30 (fun b5 hb5 => ?_))
  refine WL_st (qs := [pI ((F_vector_numbers a).x), pI ((F_vector_numbers a).y), pI ((F_vector_numbers a).z)]) rfl ty_30 rfl rfl rfl rfl rfl (.head _) hb5 ?_
  refine WL_nil (hK1 _ _ ?_)
  clear hK1 K1
  refine W_sdr (sd (sk (sk (sk (s0))))) (.quiet 0 [1,2,5,6,7,8,9,10,12,13] (.quiet 1 [2,5,6,7,8,9,10,12,13] (.quiet 2 [5,6,7,8,9,10,12,13] (.quiet 3 [4,6,7,8,9,10,12,13] (.quiet 4 [6,7,8,9,10,12,13] (.quiet 5 [6,7,8,9,10,12,13] (.quiet 6 [7,8,9,10,12,13] (.quiet 7 [8,9,10,12,13] (.quiet 8 [9,10,12,13] (.quiet 9 [12,13] (.still 10 [13] (.only 11 (.only 12 (.quiet 13 [] (.fin))))))))))))))) [0,1,2,3,4,5,6,7,8,9,10,11,13] mix (by kernel_rfl) (by kernel_rfl) (fun K1 hK1 => ?_)
  refine PL_q rfl rfl (q_ptr (off' := 18) (q_idxa ar_30 rfl rfl (by decide) (by decide)) rfl) ?_
  refine PL_q rfl rfl (q_loadp ty_28 rfl m0 rfl) ?_
  refine PL_q rfl rfl (q_as (v' := AV [pI (E (Z.neg ((F_vector_numbers a).y).dec))]) (q_ret en_59 (whole_Neg_ret ((F_vector_numbers a).y).1 ((F_vector_numbers a).y).2) rfl) rfl) ?_
  refine PL_q rfl rfl (q_ptr (off' := 0) (q_idxa ar_30 rfl rfl (by decide) (by decide)) rfl) ?_
  refine PL_q rfl rfl (q_loadp ty_28 rfl m0 rfl) ?_
  refine PL_q rfl rfl (q_as (v' := AV [pI (E (Z.of 0))]) (q_ret en_47 (whole_Of_ret (wl 0).1 (wl 0).2) rfl) rfl) ?_
  refine PL_q rfl rfl (q_buildap zp_30 ar_30 rfl (.cons [pI (E (Z.neg ((F_vector_numbers a).y).dec))] [pI (E (Z.neg ((F_vector_numbers a).y).dec)), pI I0, pI I0] rfl rfl rfl rfl (.cons [pI ((F_vector_numbers a).x)] [pI (E (Z.neg ((F_vector_numbers a).y).dec)), pI ((F_vector_numbers a).x), pI I0] rfl rfl rfl rfl (.cons [pI (E (Z.of 0))] [pI (E (Z.neg ((F_vector_numbers a).y).dec)), pI ((F_vector_numbers a).x), pI (E (Z.of 0))] rfl rfl rfl rfl (.nil _))))) ?_
  obtain ⟨r6, hr6⟩ := nm ((F_vector_Primitive (⟨(E (Z.neg ((F_vector_numbers a).y).dec)), ((F_vector_numbers a).x), (E (Z.of 0))⟩ : (A3 I))).1 : (A3 W))
  obtain ⟨r7, hr7⟩ := nm ((F_vector_Primitive (⟨(E (Z.neg ((F_vector_numbers a).y).dec)), ((F_vector_numbers a).x), (E (Z.of 0))⟩ : (A3 I))).2 : W)
  refine PL_q rfl rfl (q_as (v' := .tuple #[AV [ci .i64 r6.x.1, ci .i64 r6.y.1, ci .i64 r6.z.1], .int .i64 r7.1]) (q_ret en_14 (vector_Primitive_ret (⟨(E (Z.neg ((F_vector_numbers a).y).dec)), ((F_vector_numbers a).x), (E (Z.of 0))⟩ : (A3 I))) rfl) (by rw [hr6, hr7]; first | done | rfl)) ?_
  refine PL_q rfl rfl (q_move rfl) ?_
  refine PL_q rfl rfl (q_extract rfl rfl) ?_
  refine PL_s rfl rfl (q_extract rfl rfl) ?_
  refine PL_o rfl rfl (r_allocp zp_23 (fun b8 hb8 => ⟨(fun _ => sd s0), (sd (sd s0)), ?_⟩))
  refine PL_st rfl (qs := [ci .i64 r6.x.1, ci .i64 r6.y.1, ci .i64 r6.z.1]) rfl ty_23 rfl rfl rfl rfl rfl (.head _) hb8 rfl (sd (sd s0)) ?_
  refine PL_q rfl rfl (q_assign rfl) ?_
  refine PL_fin (hK1 _ _ ?_)
  clear hK1 K1
  refine W_sdr (sk (sk (sk (sk (sk (s0)))))) (.quiet 0 [3,4,5,6,7,9,10] (.quiet 1 [2,3,4,5,6,7,9,10] (.quiet 2 [3,4,5,6,7,9,10] (.quiet 3 [4,5,6,7,9,10] (.quiet 4 [5,6,7,9,10] (.quiet 5 [6,7,9,10] (.quiet 6 [9,10] (.still 7 [10] (.only 8 (.only 9 (.quiet 10 [] (.fin)))))))))))) [0,1,2,3,4,5,6,7,8,10] mix (by kernel_rfl) (by kernel_rfl) (fun K1 hK1 => ?_)
  refine PL_q rfl rfl (q_loadp ty_30 rfl m1 rfl) ?_
  refine PL_q rfl rfl (q_loadp ty_23 rfl m0 rfl) ?_
  refine PL_q rfl rfl (q_ret en_45 (vector_numbers_ret r6) rfl) ?_
  obtain ⟨r9, hr9⟩ := nm ((F_vector_cross (F_vector_numbers a) (F_vector_numbers r6)) : (A3 I))
  refine PL_q rfl rfl (q_as (v' := AV [pI r9.x, pI r9.y, pI r9.z]) (q_ret en_46 (vector_cross_ret (F_vector_numbers a) (F_vector_numbers r6)) rfl) (by rw [hr9]; first | done | rfl)) ?_
  obtain ⟨r10, hr10⟩ := nm ((F_vector_Primitive r9).1 : (A3 W))
  refine PL_q rfl rfl (q_as (v' := .tuple #[AV [ci .i64 r10.x.1, ci .i64 r10.y.1, ci .i64 r10.z.1], .int .i64 (((F_vector_Primitive r9).2).1)]) (q_ret en_14 (vector_Primitive_ret r9) rfl) (by rw [hr10]; first | done | rfl)) ?_
  refine PL_q rfl rfl (q_move rfl) ?_
  refine PL_q rfl rfl (q_extract rfl rfl) ?_
  refine PL_s rfl rfl (q_extract rfl rfl) ?_
  refine PL_o rfl rfl (r_allocp zp_23 (fun b11 hb11 => ⟨(fun _ => sd s0), (sd s0), ?_⟩))
  refine PL_st rfl (qs := [ci .i64 r10.x.1, ci .i64 r10.y.1, ci .i64 r10.z.1]) rfl ty_23 rfl rfl rfl rfl rfl (.head _) hb11 rfl (sd s0) ?_
  refine PL_q rfl rfl (q_assign rfl) ?_
  refine PL_fin (hK1 _ _ ?_)
  clear hK1 K1
  refine W_seq (fun K_2 hK_2 => ?_)
  refine W_join [37, 38, 39, 40, 41, 42] (fun g M => (g 42 = .bool ((r7.1 != 0) || (((F_vector_Primitive r9).2).1 != 0))) ∧ M = [⟨b11, 23, flat [ci .i64 r10.x.1, ci .i64 r10.y.1, ci .i64 r10.z.1]⟩, ⟨b8, 23, flat [ci .i64 r6.x.1, ci .i64 r6.y.1, ci .i64 r6.z.1]⟩, ⟨b5, 30, flat [pI ((F_vector_numbers a).x), pI ((F_vector_numbers a).y), pI ((F_vector_numbers a).z)]⟩, ⟨b3, 23, flat [ci .i64 0, ci .i64 0, ci .i64 0]⟩, ⟨b2, 23, flat [ci .i64 0, ci .i64 0, ci .i64 0]⟩, ⟨b1, 23, flat [ci .i64 a.x.1, ci .i64 a.y.1, ci .i64 a.z.1]⟩]) (fun K_3 hK_3 => ?_) ?_
  ·skip
   refine W_region_k (fun K1 hK1 => ?_)
   refine WL_q rfl (q_move rfl) ?_
   refine WL_q rfl (q_as (v' := .bool (r7.1 != 0)) (q_neq rfl rfl) rfl) ?_
   rcases bt (r7.1 != 0) with h13 | h13
   ·skip
    refine WL_q rfl (q_as (v' := .bool true) (q_move rfl) (congrArg Value.bool h13)) ?_
    refine WL_n rfl ?_
    refine WL_n rfl ?_
    refine WL_q rfl (q_pick rfl rfl) ?_
    refine WL_nil (hK1 _ _ ?_)
    clear hK1 K1
    refine hK_3 _ _ (by repeat (first | exact .refl | refine .cons rfl ?_)) ⟨_, s0, ?s42, rfl⟩
    case s42 => exact congrArg Value.bool (or_t h13)
   ·skip
    refine WL_q rfl (q_as (v' := .bool false) (q_move rfl) (congrArg Value.bool h13)) ?_
    refine WL_q rfl (q_move rfl) ?_
    refine WL_q rfl (q_as (v' := .bool (((F_vector_Primitive r9).2).1 != 0)) (q_neq rfl rfl) rfl) ?_
    refine WL_q rfl (q_pick rfl rfl) ?_
    refine WL_nil (hK1 _ _ ?_)
    clear hK1 K1
    refine hK_3 _ _ (by repeat (first | exact .refl | refine .cons rfl ?_)) ⟨_, s0, ?s42, rfl⟩
    case s42 => exact congrArg Value.bool (or_f h13 rfl)
  ·skip
   rintro g14 M ⟨hg42, rfl⟩
   simp only [setG, hg42]
   clear hg42
   rcases bt ((r7.1 != 0) || (((F_vector_Primitive r9).2).1 != 0)) with h15 | h15
   ·skip
    refine W_t h15 rfl ?_
    refine W_sr (fun K1 hK1 => ?_)
    refine WL_q rfl (q_buildap zp_23 ar_23 rfl (.nil _)) ?_
    refine WL_q rfl (q_buildap zp_23 ar_23 rfl (.nil _)) ?_
    refine WL_st (qs := [ci .i64 0, ci .i64 0, ci .i64 0]) rfl ty_23 rfl rfl rfl rfl rfl (.tail _ (.tail _ (.tail _ (.tail _ (.head _))))) hb2 ?_
    refine WL_st (qs := [ci .i64 0, ci .i64 0, ci .i64 0]) rfl ty_23 rfl rfl rfl rfl rfl (.tail _ (.tail _ (.tail _ (.head _)))) hb3 ?_
    refine WL_nil (hK1 _ _ ?_)
    clear hK1 K1
    refine W_ret ?_
    refine thenK_r (ret2 rfl (.inr rfl) (resP rfl m4 ty_23 rfl) (resP rfl m3 ty_23 rfl) ?_)
    exact (by subst hr10; subst hr9; subst hr7; subst hr6; exact congrArg (fun r : (A3 W) × (A3 W) => (.tuple #[AV [ci .i64 r.1.x.1, ci .i64 r.1.y.1, ci .i64 r.1.z.1], AV [ci .i64 r.2.x.1, ci .i64 r.2.y.1, ci .i64 r.2.z.1]] : Value)) (show _ = (F_vector_Tangents a) from bif_f h4 (bif_t h15 rfl)))
   ·skip
    refine W_f h15 rfl ?_
    refine W_skip ?_
    refine hK_2 _ _ ?_
    try clear hK_2 K_2
    refine W_sdr (sk (sk (sk (sd (sd (sk (s0))))))) (.quiet 0 [2,3] (.still 1 [3] (.only 2 (.only 3 (.fin))))) [0,1] mix (by kernel_rfl) (by kernel_rfl) (fun K1 hK1 => ?_)
    refine PL_q rfl rfl (q_loadp ty_23 rfl m1 rfl) ?_
    refine PL_s rfl rfl (q_loadp ty_23 rfl m0 rfl) ?_
    refine PL_st rfl (qs := [ci .i64 r6.x.1, ci .i64 r6.y.1, ci .i64 r6.z.1]) rfl ty_23 rfl rfl rfl rfl rfl (.tail _ (.tail _ (.tail _ (.tail _ (.head _))))) hb2 rfl (sk (sk (sk (sd (sd s0))))) ?_
    refine PL_st rfl (qs := [ci .i64 r10.x.1, ci .i64 r10.y.1, ci .i64 r10.z.1]) rfl ty_23 rfl rfl rfl rfl rfl (.tail _ (.tail _ (.tail _ (.head _)))) hb3 rfl (sk (sk (sk (sd (sd s0))))) ?_
    refine PL_fin (hK1 _ _ ?_)
    clear hK1 K1
    refine W_ret ?_
    refine ret2 rfl (.inr rfl) (resP rfl m4 ty_23 rfl) (resP rfl m3 ty_23 rfl) ?_
    exact (by subst hr10; subst hr9; subst hr7; subst hr6; exact congrArg (fun r : (A3 W) × (A3 W) => (.tuple #[AV [ci .i64 r.1.x.1, ci .i64 r.1.y.1, ci .i64 r.1.z.1], AV [ci .i64 r.2.x.1, ci .i64 r.2.y.1, ci .i64 r.2.z.1]] : Value)) (show _ = (F_vector_Tangents a) from bif_f h4 (bif_f h15 rfl)))

theorem vector_Orient_1_ret (a : (A3 W)) (o : (A3 W)) (c0 T0 : Nat) (w : World) (hc0 : w.heap[c0]? = some (.cells (flat [ci .i64 o.x.1, ci .i64 o.y.1, ci .i64 o.z.1]).toArray T0 (0, 0))) :
    Calls Try.prog 62 [AV [ci .i64 a.x.1, ci .i64 a.y.1, ci .i64 a.z.1], .pointer (some ⟨c0, 0, none⟩)].toArray w (fun e w' => e = .returned (AV [pI ((F_vector_Orient_1 a o).x), pI ((F_vector_Orient_1 a o).y), pI ((F_vector_Orient_1 a o).z)]) ∧ Ext w w') := by
 refine callsq_of_W (N := 21) Try.func62 rfl rfl (by simp) ?_
 obtain ⟨w0, rfl⟩ : ∃ w0, w0 = w := ⟨_, rfl⟩
 simp only [initF, Nat.reduceAdd]
 refine W_sr (fun K1 hK1 => ?_)
 refine WL_r rfl (r_boxp rfl rfl (fun b1 hb1 => ?_))
 refine WL_r rfl (r_allocp zp_30 (fun b2 hb2 => ?_))
 refine WL_nil (hK1 _ _ ?_)
 clear hK1 K1
 refine W_seq (fun K_1 hK_1 => ?_)
 refine W_sr (fun K1 hK1 => ?_)
 refine WL_q rfl (q_move rfl) ?_
 refine WL_nil (hK1 _ _ ?_)
 clear hK1 K1
 refine W_block ?_
 refine W_un 5 ?_
 refine Un_s (fun K_2 hK_2 => ?_)
 refine W_sr (fun K1 hK1 => ?_)
 refine WL_q rfl (q_as (v' := .bool true) (q_lss rfl rfl) rfl) ?_
 refine WL_nil (hK1 _ _ ?_)
 clear hK1 K1
 refine W_seq (fun K_3 hK_3 => ?_)
 refine W_true rfl ?_
 refine W_skip ?_
 refine hK_3 _ _ ?_
 try clear hK_3 K_3
 refine W_seq (fun K_4 hK_4 => ?_)
 refine W_block ?_
 refine W_sr (fun K1 hK1 => ?_)
 refine WL_q rfl (q_move rfl) ?_
 refine WL_q rfl (q_assign rfl) ?_
 refine WL_nil (hK1 _ _ ?_)
 clear hK1 K1
 refine W_draw (sd (sk (s0))) (.quiet 0 [10,11] (.quiet 1 [2,3,4,8,9,10,11] (.quiet 2 [3,4,8,9,10,11] (.quiet 3 [4,8,9,10,11] (.quiet 4 [8,9,10,11] (.quiet 5 [6,7,8,9,10,11] (.quiet 6 [7,8,9,10,11] (.quiet 7 [8,9,10,11] (.quiet 8 [9,10,11] (.quiet 9 [10,11] (.quiet 10 [11] (.only 11 (.fin))))))))))))) [0,1,2,3,4,5,6,7,8,9,10] mix (by kernel_rfl) (by kernel_rfl) (fun K1 hK1 => ?_)
 refine PL_q rfl rfl (q_move rfl) ?_
 refine PL_q rfl rfl (q_move rfl) ?_
 refine PL_q rfl rfl (q_ptr (off' := 0) (q_idxa ar_23 rfl rfl (by decide) (by decide)) rfl) ?_
 refine PL_q rfl rfl (q_loadc (v := .int .i64 a.x.1) ty_3 rfl m1 rfl) ?_
 refine PL_q rfl rfl (q_as (v' := AV [pI (E (Z.of a.x.1))]) (q_ret en_47 (whole_Of_ret a.x.1 a.x.2) rfl) rfl) ?_
 refine PL_q rfl rfl (q_move rfl) ?_
 refine PL_q rfl rfl (q_ptr (off' := 0) (q_idxa ar_23 rfl rfl (by decide) (by decide)) rfl) ?_
 refine PL_q rfl rfl (q_loadoc (v := .int .i64 o.x.1) ty_3 rfl hc0 (by simp) rfl) ?_
 refine PL_q rfl rfl (q_as (v' := AV [pI (E (Z.of o.x.1))]) (q_ret en_47 (whole_Of_ret o.x.1 o.x.2) rfl) rfl) ?_
 refine PL_q rfl rfl (q_as (v' := AV [pI (E (Z.sub (Z.of a.x.1) (Z.of o.x.1)))]) (q_ret en_63 (whole_Sub_ret (E (Z.of a.x.1)).1 (E (Z.of o.x.1)).1 (E (Z.of a.x.1)).2 (E (Z.of o.x.1)).2) rfl) (cg2 (fun p q => AV [pI (E (Z.sub p q))]) (E_dec _) (E_dec _))) ?_
 refine PL_q rfl rfl (q_ptr (off' := 0) (q_idxa ar_30 rfl rfl (by decide) (by decide)) rfl) ?_
 refine PL_st rfl (qs := [pI (E (Z.sub (Z.of a.x.1) (Z.of o.x.1)))]) rfl ty_28 rfl rfl rfl rfl rfl (.head _) hb2 rfl (sd s0) ?_
 refine PL_fin (hK1 _ _ ?_)
 clear hK1 K1
 refine hK_4 _ _ ?_
 try clear hK_4 K_4
 refine W_region_k (fun K1 hK1 => ?_)
 refine WL_q rfl (q_as (v' := .int .i64 1) (q_add rfl rfl) rfl) ?_
 refine WL_q rfl (q_move rfl) ?_
 refine WL_nil (hK1 _ _ ?_)
 clear hK1 K1
 refine hK_2 _ _ ?_
 try clear hK_2 K_2
 refine Un_s (fun K_5 hK_5 => ?_)
 refine W_sr (fun K1 hK1 => ?_)
 refine WL_q rfl (q_as (v' := .bool true) (q_lss rfl rfl) rfl) ?_
 refine WL_nil (hK1 _ _ ?_)
 clear hK1 K1
 refine W_seq (fun K_6 hK_6 => ?_)
 refine W_true rfl ?_
 refine W_skip ?_
 refine hK_6 _ _ ?_
 try clear hK_6 K_6
 refine W_seq (fun K_7 hK_7 => ?_)
 refine W_block ?_
 refine W_sr (fun K1 hK1 => ?_)
 refine WL_q rfl (q_move rfl) ?_
 refine WL_q rfl (q_assign rfl) ?_
 refine WL_nil (hK1 _ _ ?_)
 clear hK1 K1
 refine W_draw (sd (sk (s0))) (.quiet 0 [10,11] (.quiet 1 [2,3,4,8,9,10,11] (.quiet 2 [3,4,8,9,10,11] (.quiet 3 [4,8,9,10,11] (.quiet 4 [8,9,10,11] (.quiet 5 [6,7,8,9,10,11] (.quiet 6 [7,8,9,10,11] (.quiet 7 [8,9,10,11] (.quiet 8 [9,10,11] (.quiet 9 [10,11] (.quiet 10 [11] (.only 11 (.fin))))))))))))) [0,1,2,3,4,5,6,7,8,9,10] mix (by kernel_rfl) (by kernel_rfl) (fun K1 hK1 => ?_)
 refine PL_q rfl rfl (q_move rfl) ?_
 refine PL_q rfl rfl (q_move rfl) ?_
 refine PL_q rfl rfl (q_ptr (off' := 1) (q_idxa ar_23 rfl rfl (by decide) (by decide)) rfl) ?_
 refine PL_q rfl rfl (q_loadc (v := .int .i64 a.y.1) ty_3 rfl m1 rfl) ?_
 refine PL_q rfl rfl (q_as (v' := AV [pI (E (Z.of a.y.1))]) (q_ret en_47 (whole_Of_ret a.y.1 a.y.2) rfl) rfl) ?_
 refine PL_q rfl rfl (q_move rfl) ?_
 refine PL_q rfl rfl (q_ptr (off' := 1) (q_idxa ar_23 rfl rfl (by decide) (by decide)) rfl) ?_
 refine PL_q rfl rfl (q_loadoc (v := .int .i64 o.y.1) ty_3 rfl hc0 (by simp) rfl) ?_
 refine PL_q rfl rfl (q_as (v' := AV [pI (E (Z.of o.y.1))]) (q_ret en_47 (whole_Of_ret o.y.1 o.y.2) rfl) rfl) ?_
 refine PL_q rfl rfl (q_as (v' := AV [pI (E (Z.sub (Z.of a.y.1) (Z.of o.y.1)))]) (q_ret en_63 (whole_Sub_ret (E (Z.of a.y.1)).1 (E (Z.of o.y.1)).1 (E (Z.of a.y.1)).2 (E (Z.of o.y.1)).2) rfl) (cg2 (fun p q => AV [pI (E (Z.sub p q))]) (E_dec _) (E_dec _))) ?_
 refine PL_q rfl rfl (q_ptr (off' := 18) (q_idxa ar_30 rfl rfl (by decide) (by decide)) rfl) ?_
 refine PL_st rfl (qs := [pI (E (Z.sub (Z.of a.y.1) (Z.of o.y.1)))]) rfl ty_28 rfl rfl rfl rfl rfl (.head _) hb2 rfl (sd s0) ?_
 refine PL_fin (hK1 _ _ ?_)
 clear hK1 K1
 refine hK_7 _ _ ?_
 try clear hK_7 K_7
 refine W_region_k (fun K1 hK1 => ?_)
 refine WL_q rfl (q_as (v' := .int .i64 2) (q_add rfl rfl) rfl) ?_
 refine WL_q rfl (q_move rfl) ?_
 refine WL_nil (hK1 _ _ ?_)
 clear hK1 K1
 refine hK_5 _ _ ?_
 try clear hK_5 K_5
 refine Un_s (fun K_8 hK_8 => ?_)
 refine W_sr (fun K1 hK1 => ?_)
 refine WL_q rfl (q_as (v' := .bool true) (q_lss rfl rfl) rfl) ?_
 refine WL_nil (hK1 _ _ ?_)
 clear hK1 K1
 refine W_seq (fun K_9 hK_9 => ?_)
 refine W_true rfl ?_
 refine W_skip ?_
 refine hK_9 _ _ ?_
 try clear hK_9 K_9
 refine W_seq (fun K_10 hK_10 => ?_)
 refine W_block ?_
 refine W_sr (fun K1 hK1 => ?_)
 refine WL_q rfl (q_move rfl) ?_
 refine WL_q rfl (q_assign rfl) ?_
 refine WL_nil (hK1 _ _ ?_)
 clear hK1 K1
 refine W_draw (sd (sk (s0))) (.quiet 0 [10,11] (.quiet 1 [2,3,4,8,9,10,11] (.quiet 2 [3,4,8,9,10,11] (.quiet 3 [4,8,9,10,11] (.quiet 4 [8,9,10,11] (.quiet 5 [6,7,8,9,10,11] (.quiet 6 [7,8,9,10,11] (.quiet 7 [8,9,10,11] (.quiet 8 [9,10,11] (.quiet 9 [10,11] (.quiet 10 [11] (.only 11 (.fin))))))))))))) [0,1,2,3,4,5,6,7,8,9,10] mix (by kernel_rfl) (by kernel_rfl) (fun K1 hK1 => ?_)
 refine PL_q rfl rfl (q_move rfl) ?_
 refine PL_q rfl rfl (q_move rfl) ?_
 refine PL_q rfl rfl (q_ptr (off' := 2) (q_idxa ar_23 rfl rfl (by decide) (by decide)) rfl) ?_
 refine PL_q rfl rfl (q_loadc (v := .int .i64 a.z.1) ty_3 rfl m1 rfl) ?_
 refine PL_q rfl rfl (q_as (v' := AV [pI (E (Z.of a.z.1))]) (q_ret en_47 (whole_Of_ret a.z.1 a.z.2) rfl) rfl) ?_
 refine PL_q rfl rfl (q_move rfl) ?_
 refine PL_q rfl rfl (q_ptr (off' := 2) (q_idxa ar_23 rfl rfl (by decide) (by decide)) rfl) ?_
 refine PL_q rfl rfl (q_loadoc (v := .int .i64 o.z.1) ty_3 rfl hc0 (by simp) rfl) ?_
 refine PL_q rfl rfl (q_as (v' := AV [pI (E (Z.of o.z.1))]) (q_ret en_47 (whole_Of_ret o.z.1 o.z.2) rfl) rfl) ?_
 refine PL_q rfl rfl (q_as (v' := AV [pI (E (Z.sub (Z.of a.z.1) (Z.of o.z.1)))]) (q_ret en_63 (whole_Sub_ret (E (Z.of a.z.1)).1 (E (Z.of o.z.1)).1 (E (Z.of a.z.1)).2 (E (Z.of o.z.1)).2) rfl) (cg2 (fun p q => AV [pI (E (Z.sub p q))]) (E_dec _) (E_dec _))) ?_
 refine PL_q rfl rfl (q_ptr (off' := 36) (q_idxa ar_30 rfl rfl (by decide) (by decide)) rfl) ?_
 refine PL_st rfl (qs := [pI (E (Z.sub (Z.of a.z.1) (Z.of o.z.1)))]) rfl ty_28 rfl rfl rfl rfl rfl (.head _) hb2 rfl (sd s0) ?_
 refine PL_fin (hK1 _ _ ?_)
 clear hK1 K1
 refine hK_10 _ _ ?_
 try clear hK_10 K_10
 refine W_region_k (fun K1 hK1 => ?_)
 refine WL_q rfl (q_as (v' := .int .i64 3) (q_add rfl rfl) rfl) ?_
 refine WL_q rfl (q_move rfl) ?_
 refine WL_nil (hK1 _ _ ?_)
 clear hK1 K1
 refine hK_8 _ _ ?_
 try clear hK_8 K_8
 refine Un_s (fun K_11 hK_11 => ?_)
 refine W_sr (fun K1 hK1 => ?_)
 refine WL_q rfl (q_as (v' := .bool false) (q_lss rfl rfl) rfl) ?_
 refine WL_nil (hK1 _ _ ?_)
 clear hK1 K1
 refine W_seq (fun K_12 hK_12 => ?_)
 refine W_false rfl ?_
 refine W_exit (thenK_x (thenK_x (blockK_hit ?_)))
 refine hK_1 _ _ ?_
 try clear hK_1 K_1
 refine W_sr (fun K1 hK1 => ?_)
 refine WL_q rfl (q_loadp ty_30 rfl m0 rfl) ?_
 refine WL_st (qs := [pI (E (Z.sub (Z.of a.x.1) (Z.of o.x.1))), pI (E (Z.sub (Z.of a.y.1) (Z.of o.y.1))), pI (E (Z.sub (Z.of a.z.1) (Z.of o.z.1)))]) rfl ty_30 rfl rfl rfl rfl rfl (.head _) hb2 ?_
 refine WL_nil (hK1 _ _ ?_)
 clear hK1 K1
 refine W_ret ?_
 refine ret1 rfl (.inr rfl) (resP rfl m0 ty_30 rfl) ?_
 exact (by rfl)

theorem vector_Orient_ret (a : (A3 W)) (b : (A3 W)) (c : (A3 W)) (d : (A3 W)) :
    Ret Try.prog 23 [AV [ci .i64 a.x.1, ci .i64 a.y.1, ci .i64 a.z.1], AV [ci .i64 b.x.1, ci .i64 b.y.1, ci .i64 b.z.1], AV [ci .i64 c.x.1, ci .i64 c.y.1, ci .i64 c.z.1], AV [ci .i64 d.x.1, ci .i64 d.y.1, ci .i64 d.z.1]] (.int .i64 ((F_vector_Orient a b c d).1)) := by
 refine ret_of_W (N := 23) Try.func23 rfl rfl (by simp) (fun w0 => ?_)
 simp only [initF, Nat.reduceAdd]
 refine W_sr (fun K1 hK1 => ?_)
 refine WL_r rfl (r_boxp rfl rfl (fun b1 hb1 => ?_))
 refine WL_r rfl (r_boxp rfl rfl (fun b2 hb2 => ?_))
 refine WL_r rfl (r_boxp rfl rfl (fun b3 hb3 => ?_))
 refine WL_r rfl (r_boxp rfl rfl (fun b4 hb4 => ?_))
 refine WL_q rfl (q_assign rfl) ?_
 refine WL_nil (hK1 _ _ ?_)
 clear hK1 K1
 refine W_sr (fun K1 hK1 => ?_)
 refine WL_q rfl (q_mkfn rfl rfl) ?_
 refine WL_q rfl (q_assign rfl) ?_
 refine WL_nil (hK1 _ _ ?_)
 clear hK1 K1
 refine W_sdr (sk (sk (sk (sk (s0))))) (.quiet 0 [2,5,6,9,10,11,12] (.quiet 1 [2,5,6,9,10,11,12] (.quiet 2 [5,6,9,10,11,12] (.quiet 3 [5,6,9,10,11,12] (.quiet 4 [5,6,9,10,11,12] (.quiet 5 [6,9,10,11,12] (.quiet 6 [9,10,11,12] (.quiet 7 [9,10,11,12] (.quiet 8 [9,10,11,12] (.quiet 9 [10,11,12] (.quiet 10 [11,12] (.quiet 11 [12] (.quiet 12 [] (.fin)))))))))))))) [0,1,2,3,4,5,6,7,8,9,10,11,12] mix (by kernel_rfl) (by kernel_rfl) (fun K1 hK1 => ?_)
 refine PL_q rfl rfl (q_move rfl) ?_
 refine PL_q rfl rfl (q_loadp ty_23 rfl m2 rfl) ?_
 refine PL_q rfl rfl (q_callv en_62 rfl rfl (fun w hw => vector_Orient_1_ret b a _ _ w (hw.mem _ m3))) ?_
 refine PL_q rfl rfl (q_move rfl) ?_
 refine PL_q rfl rfl (q_loadp ty_23 rfl m1 rfl) ?_
 refine PL_q rfl rfl (q_callv en_62 rfl rfl (fun w hw => vector_Orient_1_ret c a _ _ w (hw.mem _ m3))) ?_
 obtain ⟨r5, hr5⟩ := nm ((F_vector_cross (F_vector_Orient_1 b a) (F_vector_Orient_1 c a)) : (A3 I))
 refine PL_q rfl rfl (q_as (v' := AV [pI r5.x, pI r5.y, pI r5.z]) (q_ret en_46 (vector_cross_ret (F_vector_Orient_1 b a) (F_vector_Orient_1 c a)) rfl) (by rw [hr5]; first | done | rfl)) ?_
 refine PL_q rfl rfl (q_move rfl) ?_
 refine PL_q rfl rfl (q_loadp ty_23 rfl m0 rfl) ?_
 refine PL_q rfl rfl (q_callv en_62 rfl rfl (fun w hw => vector_Orient_1_ret d a _ _ w (hw.mem _ m3))) ?_
 refine PL_q rfl rfl (q_ret en_44 (vector_dot_ret r5 (F_vector_Orient_1 d a)) rfl) ?_
 refine PL_q rfl rfl (q_as (v' := .int .i64 ((Z.signW (F_vector_dot r5 (F_vector_Orient_1 d a)).dec).1)) (q_ret en_49 (whole_Sign_ret (F_vector_dot r5 (F_vector_Orient_1 d a)).1 (F_vector_dot r5 (F_vector_Orient_1 d a)).2) rfl) rfl) ?_
 refine PL_q rfl rfl (q_assign rfl) ?_
 refine PL_fin (hK1 _ _ ?_)
 clear hK1 K1
 refine W_ret ?_
 refine ret1 rfl (.inr rfl) rfl ?_
 exact (by subst hr5; rfl)

theorem vector_Of_ret (a : (A3 W)) :
    Ret Try.prog 37 [AV [ci .i64 a.x.1, ci .i64 a.y.1, ci .i64 a.z.1]] (AV [pI (((F_vector_Of a).x).n), pI (((F_vector_Of a).x).d), pI (((F_vector_Of a).y).n), pI (((F_vector_Of a).y).d), pI (((F_vector_Of a).z).n), pI (((F_vector_Of a).z).d)]) := by
 refine ret_of_W (N := 13) Try.func37 rfl rfl (by simp) (fun w0 => ?_)
 simp only [initF, Nat.reduceAdd]
 refine W_sr (fun K1 hK1 => ?_)
 refine WL_r rfl (r_boxp rfl rfl (fun b1 hb1 => ?_))
 refine WL_r rfl (r_allocp zp_57 (fun b2 hb2 => ?_))
 refine WL_nil (hK1 _ _ ?_)
 clear hK1 K1
 refine W_sdr (sd (sk (s0))) (.quiet 0 [1,2,5,8,9,10] (.quiet 1 [2,5,8,9,10] (.quiet 2 [5,8,9,10] (.quiet 3 [4,5,8,9,10] (.quiet 4 [5,8,9,10] (.quiet 5 [8,9,10] (.quiet 6 [7,8,9,10] (.quiet 7 [8,9,10] (.quiet 8 [9,10] (.quiet 9 [10] (.only 10 (.fin)))))))))))) [0,1,2,3,4,5,6,7,8,9] mix (by kernel_rfl) (by kernel_rfl) (fun K1 hK1 => ?_)
 refine PL_q rfl rfl (q_ptr (off' := 0) (q_idxa ar_23 rfl rfl (by decide) (by decide)) rfl) ?_
 refine PL_q rfl rfl (q_loadc (v := .int .i64 a.x.1) ty_3 rfl m1 rfl) ?_
 refine PL_q rfl rfl (q_ret en_71 (ratio_Of_ret a.x) rfl) ?_
 refine PL_q rfl rfl (q_ptr (off' := 1) (q_idxa ar_23 rfl rfl (by decide) (by decide)) rfl) ?_
 refine PL_q rfl rfl (q_loadc (v := .int .i64 a.y.1) ty_3 rfl m1 rfl) ?_
 refine PL_q rfl rfl (q_ret en_71 (ratio_Of_ret a.y) rfl) ?_
 refine PL_q rfl rfl (q_ptr (off' := 2) (q_idxa ar_23 rfl rfl (by decide) (by decide)) rfl) ?_
 refine PL_q rfl rfl (q_loadc (v := .int .i64 a.z.1) ty_3 rfl m1 rfl) ?_
 refine PL_q rfl rfl (q_ret en_71 (ratio_Of_ret a.z) rfl) ?_
 refine PL_q rfl rfl (q_buildap zp_57 ar_57 rfl (.cons [pI ((F_ratio_Of a.x).n), pI ((F_ratio_Of a.x).d)] [pI ((F_ratio_Of a.x).n), pI ((F_ratio_Of a.x).d), pI I0, pI I0, pI I0, pI I0] rfl rfl rfl rfl (.cons [pI ((F_ratio_Of a.y).n), pI ((F_ratio_Of a.y).d)] [pI ((F_ratio_Of a.x).n), pI ((F_ratio_Of a.x).d), pI ((F_ratio_Of a.y).n), pI ((F_ratio_Of a.y).d), pI I0, pI I0] rfl rfl rfl rfl (.cons [pI ((F_ratio_Of a.z).n), pI ((F_ratio_Of a.z).d)] [pI ((F_ratio_Of a.x).n), pI ((F_ratio_Of a.x).d), pI ((F_ratio_Of a.y).n), pI ((F_ratio_Of a.y).d), pI ((F_ratio_Of a.z).n), pI ((F_ratio_Of a.z).d)] rfl rfl rfl rfl (.nil _))))) ?_
 refine PL_st rfl (qs := [pI ((F_ratio_Of a.x).n), pI ((F_ratio_Of a.x).d), pI ((F_ratio_Of a.y).n), pI ((F_ratio_Of a.y).d), pI ((F_ratio_Of a.z).n), pI ((F_ratio_Of a.z).d)]) rfl ty_57 rfl rfl rfl rfl rfl (.head _) hb2 rfl (sd s0) ?_
 refine PL_fin (hK1 _ _ ?_)
 clear hK1 K1
 refine W_ret ?_
 refine ret1 rfl (.inr rfl) (resP rfl m0 ty_57 rfl) ?_
 exact (by rfl)

theorem vector_Bad_ret (a : (A3 Rt)) :
    Ret Try.prog 43 [AV [pI a.x.n, pI a.x.d, pI a.y.n, pI a.y.d, pI a.z.n, pI a.z.d]] (.bool (F_vector_Bad a)) := by
 refine ret_of_W (N := 19) Try.func43 rfl rfl (by simp) (fun w0 => ?_)
 simp only [initF, Nat.reduceAdd]
 refine W_sr (fun K1 hK1 => ?_)
 refine WL_r rfl (r_boxp rfl rfl (fun b1 hb1 => ?_))
 refine WL_q rfl (q_assign rfl) ?_
 refine WL_nil (hK1 _ _ ?_)
 clear hK1 K1
 refine W_join [2, 3, 4, 5, 6, 7, 8, 9, 10, 11, 12, 13, 14, 15, 16, 17, 18] (fun g M => (g 2 = .bool (a.x.n.1.bad || (a.y.n.1.bad || a.z.n.1.bad))) ∧ M = [⟨b1, 57, flat [pI a.x.n, pI a.x.d, pI a.y.n, pI a.y.d, pI a.z.n, pI a.z.d]⟩]) (fun K_1 hK_1 => ?_) ?_
 ·skip
  refine W_region_k (fun K1 hK1 => ?_)
  refine WL_q rfl (q_ptr (off' := 0) (q_idxa ar_57 rfl rfl (by decide) (by decide)) rfl) ?_
  refine WL_q rfl (q_ptr (off' := 0) (q_faddr fd_55_0 (by decide) rfl) rfl) ?_
  refine WL_q rfl (q_ptr (off' := 0) (q_faddr fd_28_0 (by decide) rfl) rfl) ?_
  refine WL_q rfl (q_loadc (v := .bool a.x.n.1.bad) ty_4 rfl m0 rfl) ?_
  rcases bt a.x.n.1.bad with h4 | h4
  ·skip
   refine WL_q rfl (q_as (v' := .bool true) (q_move rfl) (congrArg Value.bool h4)) ?_
   refine WL_n rfl ?_
   refine WL_n rfl ?_
   refine WL_n rfl ?_
   refine WL_n rfl ?_
   refine WL_q rfl (q_pick rfl rfl) ?_
   refine WL_q rfl (q_move rfl) ?_
   refine WL_n rfl ?_
   refine WL_n rfl ?_
   refine WL_n rfl ?_
   refine WL_n rfl ?_
   refine WL_q rfl (q_pick rfl rfl) ?_
   refine WL_q rfl (q_assign rfl) ?_
   refine WL_nil (hK1 _ _ ?_)
   clear hK1 K1
   refine hK_1 _ _ (by repeat (first | exact .refl | refine .cons rfl ?_)) ⟨_, s0, ?s2, rfl⟩
   case s2 => exact congrArg Value.bool (or_t h4)
  ·skip
   refine WL_q rfl (q_as (v' := .bool false) (q_move rfl) (congrArg Value.bool h4)) ?_
   refine WL_q rfl (q_ptr (off' := 36) (q_idxa ar_57 rfl rfl (by decide) (by decide)) rfl) ?_
   refine WL_q rfl (q_ptr (off' := 36) (q_faddr fd_55_0 (by decide) rfl) rfl) ?_
   refine WL_q rfl (q_ptr (off' := 36) (q_faddr fd_28_0 (by decide) rfl) rfl) ?_
   refine WL_q rfl (q_loadc (v := .bool a.y.n.1.bad) ty_4 rfl m0 rfl) ?_
   refine WL_q rfl (q_pick rfl rfl) ?_
   rcases bt a.y.n.1.bad with h5 | h5
   ·skip
    refine WL_q rfl (q_as (v' := .bool true) (q_move rfl) (congrArg Value.bool h5)) ?_
    refine WL_n rfl ?_
    refine WL_n rfl ?_
    refine WL_n rfl ?_
    refine WL_n rfl ?_
    refine WL_q rfl (q_pick rfl rfl) ?_
    refine WL_q rfl (q_assign rfl) ?_
    refine WL_nil (hK1 _ _ ?_)
    clear hK1 K1
    refine hK_1 _ _ (by repeat (first | exact .refl | refine .cons rfl ?_)) ⟨_, s0, ?s2, rfl⟩
    case s2 => exact congrArg Value.bool (or_f h4 (or_t h5))
   ·skip
    refine WL_q rfl (q_as (v' := .bool false) (q_move rfl) (congrArg Value.bool h5)) ?_
    refine WL_q rfl (q_ptr (off' := 72) (q_idxa ar_57 rfl rfl (by decide) (by decide)) rfl) ?_
    refine WL_q rfl (q_ptr (off' := 72) (q_faddr fd_55_0 (by decide) rfl) rfl) ?_
    refine WL_q rfl (q_ptr (off' := 72) (q_faddr fd_28_0 (by decide) rfl) rfl) ?_
    refine WL_q rfl (q_loadc (v := .bool a.z.n.1.bad) ty_4 rfl m0 rfl) ?_
    refine WL_q rfl (q_pick rfl rfl) ?_
    refine WL_q rfl (q_assign rfl) ?_
    refine WL_nil (hK1 _ _ ?_)
    clear hK1 K1
    refine hK_1 _ _ (by repeat (first | exact .refl | refine .cons rfl ?_)) ⟨_, s0, ?s2, rfl⟩
    case s2 => exact congrArg Value.bool (or_f h4 (or_f h5 rfl))
 ·skip
  rintro g6 M ⟨hg2, rfl⟩
  simp only [setG, hg2]
  clear hg2
  refine W_ret ?_
  refine ret1 rfl (.inr rfl) rfl ?_
  exact (by rfl)

theorem vector_Inner_ret (a : (A3 Rt)) (b : (A3 Rt)) :
    Ret Try.prog 38 [AV [pI a.x.n, pI a.x.d, pI a.y.n, pI a.y.d, pI a.z.n, pI a.z.d], AV [pI b.x.n, pI b.x.d, pI b.y.n, pI b.y.d, pI b.z.n, pI b.z.d]] (AV [pI ((F_vector_Inner a b).n), pI ((F_vector_Inner a b).d)]) := by
 refine ret_of_W (N := 22) Try.func38 rfl rfl (by simp) (fun w0 => ?_)
 simp only [initF, Nat.reduceAdd]
 refine W_sr (fun K1 hK1 => ?_)
 refine WL_r rfl (r_boxp rfl rfl (fun b1 hb1 => ?_))
 refine WL_r rfl (r_boxp rfl rfl (fun b2 hb2 => ?_))
 refine WL_r rfl (r_allocp zp_55 (fun b3 hb3 => ?_))
 refine WL_nil (hK1 _ _ ?_)
 clear hK1 K1
 refine W_sr (fun K1 hK1 => ?_)
 refine WL_q rfl (q_ret en_71 (ratio_Of_ret (wl 0)) rfl) ?_
 refine WL_r rfl (r_allocp zp_55 (fun b4 hb4 => ?_))
 refine WL_st (qs := [pI ((F_ratio_Of (wl 0)).n), pI ((F_ratio_Of (wl 0)).d)]) rfl ty_55 rfl rfl rfl rfl rfl (.head _) hb4 ?_
 refine WL_nil (hK1 _ _ ?_)
 clear hK1 K1
 refine W_seq (fun K_1 hK_1 => ?_)
 refine W_sr (fun K1 hK1 => ?_)
 refine WL_q rfl (q_move rfl) ?_
 refine WL_nil (hK1 _ _ ?_)
 clear hK1 K1
 refine W_block ?_
 refine W_un 5 ?_
 refine Un_s (fun K_2 hK_2 => ?_)
 refine W_sr (fun K1 hK1 => ?_)
 refine WL_q rfl (q_as (v' := .bool true) (q_lss rfl rfl) rfl) ?_
 refine WL_nil (hK1 _ _ ?_)
 clear hK1 K1
 refine W_seq (fun K_3 hK_3 => ?_)
 refine W_true rfl ?_
 refine W_skip ?_
 refine hK_3 _ _ ?_
 try clear hK_3 K_3
 refine W_seq (fun K_4 hK_4 => ?_)
 refine W_block ?_
 refine W_sr (fun K1 hK1 => ?_)
 refine WL_q rfl (q_move rfl) ?_
 refine WL_q rfl (q_assign rfl) ?_
 refine WL_nil (hK1 _ _ ?_)
 clear hK1 K1
 refine W_draw (sd (sk (sk (sk (s0))))) (.quiet 0 [8,9] (.quiet 1 [2,3,7,8,9] (.quiet 2 [3,7,8,9] (.quiet 3 [7,8,9] (.quiet 4 [5,6,7,8,9] (.quiet 5 [6,7,8,9] (.quiet 6 [7,8,9] (.quiet 7 [8,9] (.quiet 8 [9] (.only 9 (.fin))))))))))) [0,1,2,3,4,5,6,7,8] mix (by kernel_rfl) (by kernel_rfl) (fun K1 hK1 => ?_)
 refine PL_q rfl rfl (q_loadp ty_55 rfl m0 rfl) ?_
 refine PL_q rfl rfl (q_move rfl) ?_
 refine PL_q rfl rfl (q_ptr (off' := 0) (q_idxa ar_57 rfl rfl (by decide) (by decide)) rfl) ?_
 refine PL_q rfl rfl (q_loadp ty_55 rfl m3 rfl) ?_
 refine PL_q rfl rfl (q_move rfl) ?_
 refine PL_q rfl rfl (q_ptr (off' := 0) (q_idxa ar_57 rfl rfl (by decide) (by decide)) rfl) ?_
 refine PL_q rfl rfl (q_loadp ty_55 rfl m2 rfl) ?_
 refine PL_q rfl rfl (q_ret en_70 (ratio_Mul_ret a.x b.x) rfl) ?_
 obtain ⟨r5, hr5⟩ := nm ((F_ratio_Add (F_ratio_Of (wl 0)) (F_ratio_Mul a.x b.x)) : Rt)
 refine PL_q rfl rfl (q_as (v' := AV [pI r5.n, pI r5.d]) (q_ret en_72 (ratio_Add_ret (F_ratio_Of (wl 0)) (F_ratio_Mul a.x b.x)) rfl) (by rw [hr5]; first | done | rfl)) ?_
 refine PL_st rfl (qs := [pI r5.n, pI r5.d]) rfl ty_55 rfl rfl rfl rfl rfl (.head _) hb4 rfl (sd s0) ?_
 refine PL_fin (hK1 _ _ ?_)
 clear hK1 K1
 refine hK_4 _ _ ?_
 try clear hK_4 K_4
 refine W_region_k (fun K1 hK1 => ?_)
 refine WL_q rfl (q_as (v' := .int .i64 1) (q_add rfl rfl) rfl) ?_
 refine WL_q rfl (q_move rfl) ?_
 refine WL_nil (hK1 _ _ ?_)
 clear hK1 K1
 refine hK_2 _ _ ?_
 try clear hK_2 K_2
 refine Un_s (fun K_5 hK_5 => ?_)
 refine W_sr (fun K1 hK1 => ?_)
 refine WL_q rfl (q_as (v' := .bool true) (q_lss rfl rfl) rfl) ?_
 refine WL_nil (hK1 _ _ ?_)
 clear hK1 K1
 refine W_seq (fun K_6 hK_6 => ?_)
 refine W_true rfl ?_
 refine W_skip ?_
 refine hK_6 _ _ ?_
 try clear hK_6 K_6
 refine W_seq (fun K_7 hK_7 => ?_)
 refine W_block ?_
 refine W_sr (fun K1 hK1 => ?_)
 refine WL_q rfl (q_move rfl) ?_
 refine WL_q rfl (q_assign rfl) ?_
 refine WL_nil (hK1 _ _ ?_)
 clear hK1 K1
 refine W_draw (sd (sk (sk (sk (s0))))) (.quiet 0 [8,9] (.quiet 1 [2,3,7,8,9] (.quiet 2 [3,7,8,9] (.quiet 3 [7,8,9] (.quiet 4 [5,6,7,8,9] (.quiet 5 [6,7,8,9] (.quiet 6 [7,8,9] (.quiet 7 [8,9] (.quiet 8 [9] (.only 9 (.fin))))))))))) [0,1,2,3,4,5,6,7,8] mix (by kernel_rfl) (by kernel_rfl) (fun K1 hK1 => ?_)
 refine PL_q rfl rfl (q_loadp ty_55 rfl m0 rfl) ?_
 refine PL_q rfl rfl (q_move rfl) ?_
 refine PL_q rfl rfl (q_ptr (off' := 36) (q_idxa ar_57 rfl rfl (by decide) (by decide)) rfl) ?_
 refine PL_q rfl rfl (q_loadp ty_55 rfl m3 rfl) ?_
 refine PL_q rfl rfl (q_move rfl) ?_
 refine PL_q rfl rfl (q_ptr (off' := 36) (q_idxa ar_57 rfl rfl (by decide) (by decide)) rfl) ?_
 refine PL_q rfl rfl (q_loadp ty_55 rfl m2 rfl) ?_
 refine PL_q rfl rfl (q_ret en_70 (ratio_Mul_ret a.y b.y) rfl) ?_
 obtain ⟨r6, hr6⟩ := nm ((F_ratio_Add r5 (F_ratio_Mul a.y b.y)) : Rt)
 refine PL_q rfl rfl (q_as (v' := AV [pI r6.n, pI r6.d]) (q_ret en_72 (ratio_Add_ret r5 (F_ratio_Mul a.y b.y)) rfl) (by rw [hr6]; first | done | rfl)) ?_
 refine PL_st rfl (qs := [pI r6.n, pI r6.d]) rfl ty_55 rfl rfl rfl rfl rfl (.head _) hb4 rfl (sd s0) ?_
 refine PL_fin (hK1 _ _ ?_)
 clear hK1 K1
 refine hK_7 _ _ ?_
 try clear hK_7 K_7
 refine W_region_k (fun K1 hK1 => ?_)
 refine WL_q rfl (q_as (v' := .int .i64 2) (q_add rfl rfl) rfl) ?_
 refine WL_q rfl (q_move rfl) ?_
 refine WL_nil (hK1 _ _ ?_)
 clear hK1 K1
 refine hK_5 _ _ ?_
 try clear hK_5 K_5
 refine Un_s (fun K_8 hK_8 => ?_)
 refine W_sr (fun K1 hK1 => ?_)
 refine WL_q rfl (q_as (v' := .bool true) (q_lss rfl rfl) rfl) ?_
 refine WL_nil (hK1 _ _ ?_)
 clear hK1 K1
 refine W_seq (fun K_9 hK_9 => ?_)
 refine W_true rfl ?_
 refine W_skip ?_
 refine hK_9 _ _ ?_
 try clear hK_9 K_9
 refine W_seq (fun K_10 hK_10 => ?_)
 refine W_block ?_
 refine W_sr (fun K1 hK1 => ?_)
 refine WL_q rfl (q_move rfl) ?_
 refine WL_q rfl (q_assign rfl) ?_
 refine WL_nil (hK1 _ _ ?_)
 clear hK1 K1
 refine W_draw (sd (sk (sk (sk (s0))))) (.quiet 0 [8,9] (.quiet 1 [2,3,7,8,9] (.quiet 2 [3,7,8,9] (.quiet 3 [7,8,9] (.quiet 4 [5,6,7,8,9] (.quiet 5 [6,7,8,9] (.quiet 6 [7,8,9] (.quiet 7 [8,9] (.quiet 8 [9] (.only 9 (.fin))))))))))) [0,1,2,3,4,5,6,7,8] mix (by kernel_rfl) (by kernel_rfl) (fun K1 hK1 => ?_)
 refine PL_q rfl rfl (q_loadp ty_55 rfl m0 rfl) ?_
 refine PL_q rfl rfl (q_move rfl) ?_
 refine PL_q rfl rfl (q_ptr (off' := 72) (q_idxa ar_57 rfl rfl (by decide) (by decide)) rfl) ?_
 refine PL_q rfl rfl (q_loadp ty_55 rfl m3 rfl) ?_
 refine PL_q rfl rfl (q_move rfl) ?_
 refine PL_q rfl rfl (q_ptr (off' := 72) (q_idxa ar_57 rfl rfl (by decide) (by decide)) rfl) ?_
 refine PL_q rfl rfl (q_loadp ty_55 rfl m2 rfl) ?_
 refine PL_q rfl rfl (q_ret en_70 (ratio_Mul_ret a.z b.z) rfl) ?_
 obtain ⟨r7, hr7⟩ := nm ((F_ratio_Add r6 (F_ratio_Mul a.z b.z)) : Rt)
 refine PL_q rfl rfl (q_as (v' := AV [pI r7.n, pI r7.d]) (q_ret en_72 (ratio_Add_ret r6 (F_ratio_Mul a.z b.z)) rfl) (by rw [hr7]; first | done | rfl)) ?_
 refine PL_st rfl (qs := [pI r7.n, pI r7.d]) rfl ty_55 rfl rfl rfl rfl rfl (.head _) hb4 rfl (sd s0) ?_
 refine PL_fin (hK1 _ _ ?_)
 clear hK1 K1
 refine hK_10 _ _ ?_
 try clear hK_10 K_10
 refine W_region_k (fun K1 hK1 => ?_)
 refine WL_q rfl (q_as (v' := .int .i64 3) (q_add rfl rfl) rfl) ?_
 refine WL_q rfl (q_move rfl) ?_
 refine WL_nil (hK1 _ _ ?_)
 clear hK1 K1
 refine hK_8 _ _ ?_
 try clear hK_8 K_8
 refine Un_s (fun K_11 hK_11 => ?_)
 refine W_sr (fun K1 hK1 => ?_)
 refine WL_q rfl (q_as (v' := .bool false) (q_lss rfl rfl) rfl) ?_
 refine WL_nil (hK1 _ _ ?_)
 clear hK1 K1
 refine W_seq (fun K_12 hK_12 => ?_)
 refine W_false rfl ?_
 refine W_exit (thenK_x (thenK_x (blockK_hit ?_)))
 refine hK_1 _ _ ?_
 try clear hK_1 K_1
 refine W_sr (fun K1 hK1 => ?_)
 refine WL_q rfl (q_loadp ty_55 rfl m0 rfl) ?_
 refine WL_st (qs := [pI r7.n, pI r7.d]) rfl ty_55 rfl rfl rfl rfl rfl (.tail _ (.head _)) hb3 ?_
 refine WL_nil (hK1 _ _ ?_)
 clear hK1 K1
 refine W_ret ?_
 refine ret1 rfl (.inr rfl) (resP rfl m1 ty_55 rfl) ?_
 exact (by subst hr7; subst hr6; subst hr5; rfl)

theorem vector_Outer_ret (a : (A3 Rt)) (b : (A3 Rt)) :
    Ret Try.prog 36 [AV [pI a.x.n, pI a.x.d, pI a.y.n, pI a.y.d, pI a.z.n, pI a.z.d], AV [pI b.x.n, pI b.x.d, pI b.y.n, pI b.y.d, pI b.z.n, pI b.z.d]] (AV [pI (((F_vector_Outer a b).x).n), pI (((F_vector_Outer a b).x).d), pI (((F_vector_Outer a b).y).n), pI (((F_vector_Outer a b).y).d), pI (((F_vector_Outer a b).z).n), pI (((F_vector_Outer a b).z).d)]) := by
 refine ret_of_W (N := 36) Try.func36 rfl rfl (by simp) (fun w0 => ?_)
 simp only [initF, Nat.reduceAdd]
 refine W_sr (fun K1 hK1 => ?_)
 refine WL_r rfl (r_boxp rfl rfl (fun b1 hb1 => ?_))
 refine WL_r rfl (r_boxp rfl rfl (fun b2 hb2 => ?_))
 refine WL_r rfl (r_allocp zp_57 (fun b3 hb3 => ?_))
 refine WL_nil (hK1 _ _ ?_)
 clear hK1 K1
 refine W_seq (fun K_1 hK_1 => ?_)
 refine W_sr (fun K1 hK1 => ?_)
 refine WL_q rfl (q_move rfl) ?_
 refine WL_nil (hK1 _ _ ?_)
 clear hK1 K1
 refine W_block ?_
 refine W_un 5 ?_
 refine Un_s (fun K_2 hK_2 => ?_)
 refine W_sr (fun K1 hK1 => ?_)
 refine WL_q rfl (q_as (v' := .bool true) (q_lss rfl rfl) rfl) ?_
 refine WL_nil (hK1 _ _ ?_)
 clear hK1 K1
 refine W_seq (fun K_3 hK_3 => ?_)
 refine W_true rfl ?_
 refine W_skip ?_
 refine hK_3 _ _ ?_
 try clear hK_3 K_3
 refine W_seq (fun K_4 hK_4 => ?_)
 refine W_block ?_
 refine W_sr (fun K1 hK1 => ?_)
 refine WL_q rfl (q_move rfl) ?_
 refine WL_q rfl (q_assign rfl) ?_
 refine WL_nil (hK1 _ _ ?_)
 clear hK1 K1
 refine W_sr (fun K1 hK1 => ?_)
 refine WL_q rfl (q_move rfl) ?_
 refine WL_q rfl (q_as (v' := .int .i64 1) (q_add rfl rfl) rfl) ?_
 refine WL_q rfl (q_as (v' := .int .i64 1) (q_rem rfl rfl (by decide)) rfl) ?_
 refine WL_q rfl (q_move rfl) ?_
 refine WL_q rfl (q_as (v' := .int .i64 2) (q_add rfl rfl) rfl) ?_
 refine WL_q rfl (q_as (v' := .int .i64 2) (q_rem rfl rfl (by decide)) rfl) ?_
 refine WL_q rfl (q_assign rfl) ?_
 refine WL_q rfl (q_assign rfl) ?_
 refine WL_nil (hK1 _ _ ?_)
 clear hK1 K1
 refine W_draw (sd (sk (sk (s0)))) (.quiet 0 [16,17] (.quiet 1 [2,3,7,14,15,16,17] (.quiet 2 [3,7,14,15,16,17] (.quiet 3 [7,14,15,16,17] (.quiet 4 [5,6,7,14,15,16,17] (.quiet 5 [6,7,14,15,16,17] (.quiet 6 [7,14,15,16,17] (.quiet 7 [14,15,16,17] (.quiet 8 [9,10,14,15,16,17] (.quiet 9 [10,14,15,16,17] (.quiet 10 [14,15,16,17] (.quiet 11 [12,13,14,15,16,17] (.quiet 12 [13,14,15,16,17] (.quiet 13 [14,15,16,17] (.quiet 14 [15,16,17] (.quiet 15 [16,17] (.quiet 16 [17] (.only 17 (.fin))))))))))))))))))) [0,1,2,3,4,5,6,7,8,9,10,11,12,13,14,15,16] mix (by kernel_rfl) (by kernel_rfl) (fun K1 hK1 => ?_)
 refine PL_q rfl rfl (q_move rfl) ?_
 refine PL_q rfl rfl (q_move rfl) ?_
 refine PL_q rfl rfl (q_ptr (off' := 36) (q_idxa ar_57 rfl rfl (by decide) (by decide)) rfl) ?_
 refine PL_q rfl rfl (q_loadp ty_55 rfl m2 rfl) ?_
 refine PL_q rfl rfl (q_move rfl) ?_
 refine PL_q rfl rfl (q_ptr (off' := 72) (q_idxa ar_57 rfl rfl (by decide) (by decide)) rfl) ?_
 refine PL_q rfl rfl (q_loadp ty_55 rfl m1 rfl) ?_
 refine PL_q rfl rfl (q_ret en_70 (ratio_Mul_ret a.y b.z) rfl) ?_
 refine PL_q rfl rfl (q_move rfl) ?_
 refine PL_q rfl rfl (q_ptr (off' := 72) (q_idxa ar_57 rfl rfl (by decide) (by decide)) rfl) ?_
 refine PL_q rfl rfl (q_loadp ty_55 rfl m2 rfl) ?_
 refine PL_q rfl rfl (q_move rfl) ?_
 refine PL_q rfl rfl (q_ptr (off' := 36) (q_idxa ar_57 rfl rfl (by decide) (by decide)) rfl) ?_
 refine PL_q rfl rfl (q_loadp ty_55 rfl m1 rfl) ?_
 refine PL_q rfl rfl (q_ret en_70 (ratio_Mul_ret a.z b.y) rfl) ?_
 obtain ⟨r4, hr4⟩ := nm ((F_ratio_Sub (F_ratio_Mul a.y b.z) (F_ratio_Mul a.z b.y)) : Rt)
 refine PL_q rfl rfl (q_as (v' := AV [pI r4.n, pI r4.d]) (q_ret en_69 (ratio_Sub_ret (F_ratio_Mul a.y b.z) (F_ratio_Mul a.z b.y)) rfl) (by rw [hr4]; first | done | rfl)) ?_
 refine PL_q rfl rfl (q_ptr (off' := 0) (q_idxa ar_57 rfl rfl (by decide) (by decide)) rfl) ?_
 refine PL_st rfl (qs := [pI r4.n, pI r4.d]) rfl ty_55 rfl rfl rfl rfl rfl (.head _) hb3 rfl (sd s0) ?_
 refine PL_fin (hK1 _ _ ?_)
 clear hK1 K1
 refine hK_4 _ _ ?_
 try clear hK_4 K_4
 refine W_region_k (fun K1 hK1 => ?_)
 refine WL_q rfl (q_as (v' := .int .i64 1) (q_add rfl rfl) rfl) ?_
 refine WL_q rfl (q_move rfl) ?_
 refine WL_nil (hK1 _ _ ?_)
 clear hK1 K1
 refine hK_2 _ _ ?_
 try clear hK_2 K_2
 refine Un_s (fun K_5 hK_5 => ?_)
 refine W_sr (fun K1 hK1 => ?_)
 refine WL_q rfl (q_as (v' := .bool true) (q_lss rfl rfl) rfl) ?_
 refine WL_nil (hK1 _ _ ?_)
 clear hK1 K1
 refine W_seq (fun K_6 hK_6 => ?_)
 refine W_true rfl ?_
 refine W_skip ?_
 refine hK_6 _ _ ?_
 try clear hK_6 K_6
 refine W_seq (fun K_7 hK_7 => ?_)
 refine W_block ?_
 refine W_sr (fun K1 hK1 => ?_)
 refine WL_q rfl (q_move rfl) ?_
 refine WL_q rfl (q_assign rfl) ?_
 refine WL_nil (hK1 _ _ ?_)
 clear hK1 K1
 refine W_sr (fun K1 hK1 => ?_)
 refine WL_q rfl (q_move rfl) ?_
 refine WL_q rfl (q_as (v' := .int .i64 2) (q_add rfl rfl) rfl) ?_
 refine WL_q rfl (q_as (v' := .int .i64 2) (q_rem rfl rfl (by decide)) rfl) ?_
 refine WL_q rfl (q_move rfl) ?_
 refine WL_q rfl (q_as (v' := .int .i64 3) (q_add rfl rfl) rfl) ?_
 refine WL_q rfl (q_as (v' := .int .i64 0) (q_rem rfl rfl (by decide)) rfl) ?_
 refine WL_q rfl (q_assign rfl) ?_
 refine WL_q rfl (q_assign rfl) ?_
 refine WL_nil (hK1 _ _ ?_)
 clear hK1 K1
 refine W_draw (sd (sk (sk (s0)))) (.quiet 0 [16,17] (.quiet 1 [2,3,7,14,15,16,17] (.quiet 2 [3,7,14,15,16,17] (.quiet 3 [7,14,15,16,17] (.quiet 4 [5,6,7,14,15,16,17] (.quiet 5 [6,7,14,15,16,17] (.quiet 6 [7,14,15,16,17] (.quiet 7 [14,15,16,17] (.quiet 8 [9,10,14,15,16,17] (.quiet 9 [10,14,15,16,17] (.quiet 10 [14,15,16,17] (.quiet 11 [12,13,14,15,16,17] (.quiet 12 [13,14,15,16,17] (.quiet 13 [14,15,16,17] (.quiet 14 [15,16,17] (.quiet 15 [16,17] (.quiet 16 [17] (.only 17 (.fin))))))))))))))))))) [0,1,2,3,4,5,6,7,8,9,10,11,12,13,14,15,16] mix (by kernel_rfl) (by kernel_rfl) (fun K1 hK1 => ?_)
 refine PL_q rfl rfl (q_move rfl) ?_
 refine PL_q rfl rfl (q_move rfl) ?_
 refine PL_q rfl rfl (q_ptr (off' := 72) (q_idxa ar_57 rfl rfl (by decide) (by decide)) rfl) ?_
 refine PL_q rfl rfl (q_loadp ty_55 rfl m2 rfl) ?_
 refine PL_q rfl rfl (q_move rfl) ?_
 refine PL_q rfl rfl (q_ptr (off' := 0) (q_idxa ar_57 rfl rfl (by decide) (by decide)) rfl) ?_
 refine PL_q rfl rfl (q_loadp ty_55 rfl m1 rfl) ?_
 refine PL_q rfl rfl (q_ret en_70 (ratio_Mul_ret a.z b.x) rfl) ?_
 refine PL_q rfl rfl (q_move rfl) ?_
 refine PL_q rfl rfl (q_ptr (off' := 0) (q_idxa ar_57 rfl rfl (by decide) (by decide)) rfl) ?_
 refine PL_q rfl rfl (q_loadp ty_55 rfl m2 rfl) ?_
 refine PL_q rfl rfl (q_move rfl) ?_
 refine PL_q rfl rfl (q_ptr (off' := 72) (q_idxa ar_57 rfl rfl (by decide) (by decide)) rfl) ?_
 refine PL_q rfl rfl (q_loadp ty_55 rfl m1 rfl) ?_
 refine PL_q rfl rfl (q_ret en_70 (ratio_Mul_ret a.x b.z) rfl) ?_
 obtain ⟨r5, hr5⟩ := nm ((F_ratio_Sub (F_ratio_Mul a.z b.x) (F_ratio_Mul a.x b.z)) : Rt)
 refine PL_q rfl rfl (q_as (v' := AV [pI r5.n, pI r5.d]) (q_ret en_69 (ratio_Sub_ret (F_ratio_Mul a.z b.x) (F_ratio_Mul a.x b.z)) rfl) (by rw [hr5]; first | done | rfl)) ?_
 refine PL_q rfl rfl (q_ptr (off' := 36) (q_idxa ar_57 rfl rfl (by decide) (by decide)) rfl) ?_
 refine PL_st rfl (qs := [pI r5.n, pI r5.d]) rfl ty_55 rfl rfl rfl rfl rfl (.head _) hb3 rfl (sd s0) ?_
 refine PL_fin (hK1 _ _ ?_)
 clear hK1 K1
 refine hK_7 _ _ ?_
 try clear hK_7 K_7
 refine W_region_k (fun K1 hK1 => ?_)
 refine WL_q rfl (q_as (v' := .int .i64 2) (q_add rfl rfl) rfl) ?_
 refine WL_q rfl (q_move rfl) ?_
 refine WL_nil (hK1 _ _ ?_)
 clear hK1 K1
 refine hK_5 _ _ ?_
 try clear hK_5 K_5
 refine Un_s (fun K_8 hK_8 => ?_)
 refine W_sr (fun K1 hK1 => ?_)
 refine WL_q rfl (q_as (v' := .bool true) (q_lss rfl rfl) rfl) ?_
 refine WL_nil (hK1 _ _ ?_)
 clear hK1 K1
 refine W_seq (fun K_9 hK_9 => ?_)
 refine W_true rfl ?_
 refine W_skip ?_
 refine hK_9 _ _ ?_
 try clear hK_9 K_9
 refine W_seq (fun K_10 hK_10 => ?_)
 refine W_block ?_
 refine W_sr (fun K1 hK1 => ?_)
 refine WL_q rfl (q_move rfl) ?_
 refine WL_q rfl (q_assign rfl) ?_
 refine WL_nil (hK1 _ _ ?_)
 clear hK1 K1
 refine W_sr (fun K1 hK1 => ?_)
 refine WL_q rfl (q_move rfl) ?_
 refine WL_q rfl (q_as (v' := .int .i64 3) (q_add rfl rfl) rfl) ?_
 refine WL_q rfl (q_as (v' := .int .i64 0) (q_rem rfl rfl (by decide)) rfl) ?_
 refine WL_q rfl (q_move rfl) ?_
 refine WL_q rfl (q_as (v' := .int .i64 4) (q_add rfl rfl) rfl) ?_
 refine WL_q rfl (q_as (v' := .int .i64 1) (q_rem rfl rfl (by decide)) rfl) ?_
 refine WL_q rfl (q_assign rfl) ?_
 refine WL_q rfl (q_assign rfl) ?_
 refine WL_nil (hK1 _ _ ?_)
 clear hK1 K1
 refine W_draw (sd (sk (sk (s0)))) (.quiet 0 [16,17] (.quiet 1 [2,3,7,14,15,16,17] (.quiet 2 [3,7,14,15,16,17] (.quiet 3 [7,14,15,16,17] (.quiet 4 [5,6,7,14,15,16,17] (.quiet 5 [6,7,14,15,16,17] (.quiet 6 [7,14,15,16,17] (.quiet 7 [14,15,16,17] (.quiet 8 [9,10,14,15,16,17] (.quiet 9 [10,14,15,16,17] (.quiet 10 [14,15,16,17] (.quiet 11 [12,13,14,15,16,17] (.quiet 12 [13,14,15,16,17] (.quiet 13 [14,15,16,17] (.quiet 14 [15,16,17] (.quiet 15 [16,17] (.quiet 16 [17] (.only 17 (.fin))))))))))))))))))) [0,1,2,3,4,5,6,7,8,9,10,11,12,13,14,15,16] mix (by kernel_rfl) (by kernel_rfl) (fun K1 hK1 => ?_)
 refine PL_q rfl rfl (q_move rfl) ?_
 refine PL_q rfl rfl (q_move rfl) ?_
 refine PL_q rfl rfl (q_ptr (off' := 0) (q_idxa ar_57 rfl rfl (by decide) (by decide)) rfl) ?_
 refine PL_q rfl rfl (q_loadp ty_55 rfl m2 rfl) ?_
 refine PL_q rfl rfl (q_move rfl) ?_
 refine PL_q rfl rfl (q_ptr (off' := 36) (q_idxa ar_57 rfl rfl (by decide) (by decide)) rfl) ?_
 refine PL_q rfl rfl (q_loadp ty_55 rfl m1 rfl) ?_
 refine PL_q rfl rfl (q_ret en_70 (ratio_Mul_ret a.x b.y) rfl) ?_
 refine PL_q rfl rfl (q_move rfl) ?_
 refine PL_q rfl rfl (q_ptr (off' := 36) (q_idxa ar_57 rfl rfl (by decide) (by decide)) rfl) ?_
 refine PL_q rfl rfl (q_loadp ty_55 rfl m2 rfl) ?_
 refine PL_q rfl rfl (q_move rfl) ?_
 refine PL_q rfl rfl (q_ptr (off' := 0) (q_idxa ar_57 rfl rfl (by decide) (by decide)) rfl) ?_
 refine PL_q rfl rfl (q_loadp ty_55 rfl m1 rfl) ?_
 refine PL_q rfl rfl (q_ret en_70 (ratio_Mul_ret a.y b.x) rfl) ?_
 obtain ⟨r6, hr6⟩ := nm ((F_ratio_Sub (F_ratio_Mul a.x b.y) (F_ratio_Mul a.y b.x)) : Rt)
 refine PL_q rfl rfl (q_as (v' := AV [pI r6.n, pI r6.d]) (q_ret en_69 (ratio_Sub_ret (F_ratio_Mul a.x b.y) (F_ratio_Mul a.y b.x)) rfl) (by rw [hr6]; first | done | rfl)) ?_
 refine PL_q rfl rfl (q_ptr (off' := 72) (q_idxa ar_57 rfl rfl (by decide) (by decide)) rfl) ?_
 refine PL_st rfl (qs := [pI r6.n, pI r6.d]) rfl ty_55 rfl rfl rfl rfl rfl (.head _) hb3 rfl (sd s0) ?_
 refine PL_fin (hK1 _ _ ?_)
 clear hK1 K1
 refine hK_10 _ _ ?_
 try clear hK_10 K_10
 refine W_region_k (fun K1 hK1 => ?_)
 refine WL_q rfl (q_as (v' := .int .i64 3) (q_add rfl rfl) rfl) ?_
 refine WL_q rfl (q_move rfl) ?_
 refine WL_nil (hK1 _ _ ?_)
 clear hK1 K1
 refine hK_8 _ _ ?_
 try clear hK_8 K_8
 refine Un_s (fun K_11 hK_11 => ?_)
 refine W_sr (fun K1 hK1 => ?_)
 refine WL_q rfl (q_as (v' := .bool false) (q_lss rfl rfl) rfl) ?_
 refine WL_nil (hK1 _ _ ?_)
 clear hK1 K1
 refine W_seq (fun K_12 hK_12 => ?_)
 refine W_false rfl ?_
 refine W_exit (thenK_x (thenK_x (blockK_hit ?_)))
 refine hK_1 _ _ ?_
 try clear hK_1 K_1
 refine W_sr (fun K1 hK1 => ?_)
 refine WL_q rfl (q_loadp ty_57 rfl m0 rfl) ?_
 refine WL_st (qs := [pI r4.n, pI r4.d, pI r5.n, pI r5.d, pI r6.n, pI r6.d]) rfl ty_57 rfl rfl rfl rfl rfl (.head _) hb3 ?_
 refine WL_nil (hK1 _ _ ?_)
 clear hK1 K1
 refine W_ret ?_
 refine ret1 rfl (.inr rfl) (resP rfl m0 ty_57 rfl) ?_
 exact (by subst hr6; subst hr5; subst hr4; rfl)

theorem vector_Side_ret (a : (A3 W)) (b : (A3 Rt)) :
    Ret Try.prog 39 [AV [ci .i64 a.x.1, ci .i64 a.y.1, ci .i64 a.z.1], AV [pI b.x.n, pI b.x.d, pI b.y.n, pI b.y.d, pI b.z.n, pI b.z.d]] (AV [pI ((F_vector_Side a b).n), pI ((F_vector_Side a b).d)]) := by
 refine ret_of_W (N := 9) Try.func39 rfl rfl (by simp) (fun w0 => ?_)
 simp only [initF, Nat.reduceAdd]
 refine W_sr (fun K1 hK1 => ?_)
 refine WL_r rfl (r_boxp rfl rfl (fun b1 hb1 => ?_))
 refine WL_r rfl (r_boxp rfl rfl (fun b2 hb2 => ?_))
 refine WL_r rfl (r_allocp zp_55 (fun b3 hb3 => ?_))
 refine WL_nil (hK1 _ _ ?_)
 clear hK1 K1
 refine W_sdr (sd (sk (sk (s0)))) (.quiet 0 [1,3,4] (.quiet 1 [3,4] (.quiet 2 [3,4] (.quiet 3 [4] (.only 4 (.fin)))))) [0,1,2,3] mix (by kernel_rfl) (by kernel_rfl) (fun K1 hK1 => ?_)
 refine PL_q rfl rfl (q_loadp ty_23 rfl m2 rfl) ?_
 obtain ⟨r4, hr4⟩ := nm ((F_vector_Of a) : (A3 Rt))
 refine PL_q rfl rfl (q_as (v' := AV [pI r4.x.n, pI r4.x.d, pI r4.y.n, pI r4.y.d, pI r4.z.n, pI r4.z.d]) (q_ret en_37 (vector_Of_ret a) rfl) (by rw [hr4]; first | done | rfl)) ?_
 refine PL_q rfl rfl (q_loadp ty_57 rfl m1 rfl) ?_
 refine PL_q rfl rfl (q_ret en_38 (vector_Inner_ret r4 b) rfl) ?_
 refine PL_st rfl (qs := [pI ((F_vector_Inner r4 b).n), pI ((F_vector_Inner r4 b).d)]) rfl ty_55 rfl rfl rfl rfl rfl (.head _) hb3 rfl (sd s0) ?_
 refine PL_fin (hK1 _ _ ?_)
 clear hK1 K1
 refine W_ret ?_
 refine ret1 rfl (.inr rfl) (resP rfl m0 ty_55 rfl) ?_
 exact (by subst hr4; rfl)
end Go.Proofs.Ythbjhbmpfeeilaa
