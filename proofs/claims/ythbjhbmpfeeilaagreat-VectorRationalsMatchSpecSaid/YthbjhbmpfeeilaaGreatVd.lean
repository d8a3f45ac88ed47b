/- Walks: what these functions return. -/
import Derived.Test.YthbjhbmpfeeilaaGreatFa0
import Derived.Test.YthbjhbmpfeeilaaGreatFn
import Derived.Test.YthbjhbmpfeeilaaGreatGa
import Derived.Test.YthbjhbmpfeeilaaGreatVa
import Derived.Test.YthbjhbmpfeeilaaGreatWc
namespace Go.Proofs.YthbjhbmpfeeilaaGreat
open Go.Kn Go.Num
set_option linter.unusedVariables false
set_option linter.unusedSimpArgs false
set_option maxRecDepth 20000
set_option maxHeartbeats 8000000
theorem vector_Tangents_ret (a : (A3 W)) :
    Ret Tryz.prog 32 [AV [ci .i64 a.x.1, ci .i64 a.y.1, ci .i64 a.z.1]] (.tuple #[AV [ci .i64 ((((F_vector_Tangents a).1).x).1), ci .i64 ((((F_vector_Tangents a).1).y).1), ci .i64 ((((F_vector_Tangents a).1).z).1)], AV [ci .i64 ((((F_vector_Tangents a).2).x).1), ci .i64 ((((F_vector_Tangents a).2).y).1), ci .i64 ((((F_vector_Tangents a).2).z).1)]]) := by
 refine ret_of_W (N := 47) Tryz.func32 rfl rfl (by simp) (fun w0 => ?_)
 simp only [initF, Nat.reduceAdd]
 refine Rs fun K J => WL_r rfl (r_boxp rfl rfl (fun b1 hb1 => sN zp_31 rfl fun b2 hb2 => sN zp_31 rfl fun b3 hb3 => nl J (Sq fun K1 J1 => Rs fun K J => sQ (qL ty_31 rfl m2 rfl) rfl (sQ (qA ar_31 rfl rfl rfl) rfl (sQ (qC ty_3 rfl m2 rfl) rfl (sQ (q_buildap zp_31 ar_31 rfl (.cons [ci .i64 0] [ci .i64 0, ci .i64 0, ci .i64 0] rfl rfl rfl rfl (.cons [ci .i64 0] [ci .i64 0, ci .i64 0, ci .i64 0] rfl rfl rfl rfl (.cons [ci .i64 a.z.1] [ci .i64 0, ci .i64 0, ci .i64 a.z.1] rfl rfl rfl rfl (.nil _))))) rfl (sQ (q_eqla (r := (decide (a.x.1 = 0) && (decide (a.y.1 = 0) && decide (a.z.1 = a.z.1)))) rfl rfl (eqOk_of 8 (by decide) eg_31 lw_31 (lv_cons lv_ci (lv_cons lv_ci (lv_one lv_ci))) (lv_cons lv_ci (lv_cons lv_ci (lv_one lv_ci))) (eqP_cons rfl eq_ci (eqP_cons rfl eq_ci (eqP_one eq_ci))))) rfl (nl J ?_))))))))
 rcases bt (decide (a.x.1 = 0) && (decide (a.y.1 = 0) && decide (a.z.1 = a.z.1))) with h4 | h4
 ·skip
  refine W_t h4 rfl (Rs fun K J => sQ (q_buildap zp_31 ar_31 rfl (.cons [ci .i64 1] [ci .i64 1, ci .i64 0, ci .i64 0] rfl rfl rfl rfl (.cons [ci .i64 0] [ci .i64 1, ci .i64 0, ci .i64 0] rfl rfl rfl rfl (.cons [ci .i64 0] [ci .i64 1, ci .i64 0, ci .i64 0] rfl rfl rfl rfl (.nil _))))) rfl (sQ (q_buildap zp_31 ar_31 rfl (.cons [ci .i64 0] [ci .i64 0, ci .i64 0, ci .i64 0] rfl rfl rfl rfl (.cons [ci .i64 1] [ci .i64 0, ci .i64 1, ci .i64 0] rfl rfl rfl rfl (.cons [ci .i64 0] [ci .i64 0, ci .i64 1, ci .i64 0] rfl rfl rfl rfl (.nil _))))) rfl (sS [ci .i64 1, ci .i64 0, ci .i64 0] ty_31 rfl rfl rfl rfl rfl (.tail _ (.head _)) rfl hb2 (sS [ci .i64 0, ci .i64 1, ci .i64 0] ty_31 rfl rfl rfl rfl rfl (.head _) rfl hb3 (nl J (W_ret (thenK_r (ret2 rfl (.inr rfl) (resP rfl m1 ty_31 rfl) (resP rfl m0 ty_31 rfl) ?_))))))))
  exact (by exact congrArg (fun r : (A3 W) × (A3 W) => (.tuple #[AV [ci .i64 r.1.x.1, ci .i64 r.1.y.1, ci .i64 r.1.z.1], AV [ci .i64 r.2.x.1, ci .i64 r.2.y.1, ci .i64 r.2.z.1]] : Value)) (show _ = (F_vector_Tangents a) from bif_t h4 rfl))
 ·skip
  refine W_f h4 rfl (W_skip (J1 _ _ (Rs fun K J => sQ (qL ty_31 rfl m2 rfl) rfl (sQ (q_ret en_54 (vector_numbers_ret a) rfl) rfl (sN zp_45 rfl fun b5 hb5 => sS [pI ((F_vector_numbers a).x), pI ((F_vector_numbers a).y), pI ((F_vector_numbers a).z)] ty_45 rfl rfl rfl rfl rfl (.head _) rfl hb5 (nl J (ds (sd (sk (sk (sk (s0))))) [0,4,8,12,16,20,24,28,32,36,42,45,49,52] [12] mix (by kernel_rfl) (fun K J => pQ rfl (qA ar_45 rfl rfl rfl) (pQ rfl (qL ty_25 rfl m0 rfl) (pC (AV [pI (E (Z.neg ((F_vector_numbers a).y).dec))]) en_63 (whole_Neg_ret ((F_vector_numbers a).y).1 ((F_vector_numbers a).y).2) rfl rfl rfl (pQ rfl (qA ar_45 rfl rfl rfl) (pQ rfl (qL ty_25 rfl m0 rfl) (pC (AV [pI (E (Z.of 0))]) en_58 (whole_Of_ret (wl 0).1 (wl 0).2) rfl rfl rfl ?_)))))))))))))
  refine pQ rfl (q_buildap zp_45 ar_45 rfl (.cons [pI (E (Z.neg ((F_vector_numbers a).y).dec))] [pI (E (Z.neg ((F_vector_numbers a).y).dec)), pI I0, pI I0] rfl rfl rfl rfl (.cons [pI ((F_vector_numbers a).x)] [pI (E (Z.neg ((F_vector_numbers a).y).dec)), pI ((F_vector_numbers a).x), pI I0] rfl rfl rfl rfl (.cons [pI (E (Z.of 0))] [pI (E (Z.neg ((F_vector_numbers a).y).dec)), pI ((F_vector_numbers a).x), pI (E (Z.of 0))] rfl rfl rfl rfl (.nil _))))) ?_
  obtain ⟨r6, hr6⟩ := nm ((F_vector_Primitive (⟨(E (Z.neg ((F_vector_numbers a).y).dec)), ((F_vector_numbers a).x), (E (Z.of 0))⟩ : (A3 I))).1 : (A3 W))
  obtain ⟨r7, hr7⟩ := nm ((F_vector_Primitive (⟨(E (Z.neg ((F_vector_numbers a).y).dec)), ((F_vector_numbers a).x), (E (Z.of 0))⟩ : (A3 I))).2 : W)
  refine pC (.tuple #[AV [ci .i64 r6.x.1, ci .i64 r6.y.1, ci .i64 r6.z.1], .int .i64 r7.1]) en_31 (vector_Primitive_ret (⟨(E (Z.neg ((F_vector_numbers a).y).dec)), ((F_vector_numbers a).x), (E (Z.of 0))⟩ : (A3 I))) rfl rfl (by rw [hr6, hr7]; first | done | rfl) (pE rfl (pE rfl (tE rfl (PL_o rfl rfl (r_allocp zp_31 (fun b8 hb8 => ⟨(fun _ => sd s0), (sd (sd s0)), oS [ci .i64 r6.x.1, ci .i64 r6.y.1, ci .i64 r6.z.1] ty_31 rfl rfl rfl rfl rfl rfl (.head _) rfl hb8 rfl (sd (sd s0)) (pE rfl (fl J (ds (sk (sk (sk (sk (sk (s0)))))) [0,4,8,12,16,20,24,30,33,37,40] [9] mix (by kernel_rfl) (fun K J => pQ rfl (qL ty_45 rfl m1 rfl) (pQ rfl (qL ty_31 rfl m0 rfl) (pQ rfl (q_ret en_54 (vector_numbers_ret r6) rfl) ?_))))))⟩))))))
  obtain ⟨r9, hr9⟩ := nm ((F_vector_cross (F_vector_numbers a) (F_vector_numbers r6)) : (A3 I))
  refine pC (AV [pI r9.x, pI r9.y, pI r9.z]) en_57 (vector_cross_ret (F_vector_numbers a) (F_vector_numbers r6)) rfl rfl (by rw [hr9]; first | done | rfl) ?_
  obtain ⟨r10, hr10⟩ := nm ((F_vector_Primitive r9).1 : (A3 W))
  refine pC (.tuple #[AV [ci .i64 r10.x.1, ci .i64 r10.y.1, ci .i64 r10.z.1], .int .i64 (((F_vector_Primitive r9).2).1)]) en_31 (vector_Primitive_ret r9) rfl rfl (by rw [hr10]; first | done | rfl) (pE rfl (pE rfl (tE rfl (PL_o rfl rfl (r_allocp zp_31 (fun b11 hb11 => ⟨(fun _ => sd s0), (sd s0), oS [ci .i64 r10.x.1, ci .i64 r10.y.1, ci .i64 r10.z.1] ty_31 rfl rfl rfl rfl rfl rfl (.head _) rfl hb11 rfl (sd s0) (pE rfl (fl J (Sq fun K2 J2 => ?_)))⟩))))))
  refine W_join [37, 38, 39, 40, 41, 42] (fun g M => (g 42 = .bool ((r7.1 != 0) || (((F_vector_Primitive r9).2).1 != 0))) ∧ M = [⟨b11, 31, flat [ci .i64 r10.x.1, ci .i64 r10.y.1, ci .i64 r10.z.1]⟩, ⟨b8, 31, flat [ci .i64 r6.x.1, ci .i64 r6.y.1, ci .i64 r6.z.1]⟩, ⟨b5, 45, flat [pI ((F_vector_numbers a).x), pI ((F_vector_numbers a).y), pI ((F_vector_numbers a).z)]⟩, ⟨b3, 31, flat [ci .i64 0, ci .i64 0, ci .i64 0]⟩, ⟨b2, 31, flat [ci .i64 0, ci .i64 0, ci .i64 0]⟩, ⟨b1, 31, flat [ci .i64 a.x.1, ci .i64 a.y.1, ci .i64 a.z.1]⟩]) (fun K3 J3 => ?_) ?_
  ·skip
   refine Rk fun K J => sE rfl (sE rfl ?_)
   rcases bt (r7.1 != 0) with h13 | h13
   ·skip
    refine sB h13 rfl (WL_n rfl (WL_n rfl (sE rfl (nl J ?_))))
    refine J3 _ _ (by repeat first | exact .refl | refine .cons rfl ?_) ⟨_, s0, ?s42, rfl⟩
    case s42 => exact congrArg Value.bool (or_t h13)
   ·skip
    refine sB h13 rfl (sE rfl (sE rfl (sE rfl (nl J ?_))))
    refine J3 _ _ (by repeat first | exact .refl | refine .cons rfl ?_) ⟨_, s0, ?s42, rfl⟩
    case s42 => exact congrArg Value.bool (or_f h13 rfl)
  ·skip
   rintro g14 M ⟨hg42, rfl⟩
   simp only [setG, hg42]
   clear hg42
   rcases bt ((r7.1 != 0) || (((F_vector_Primitive r9).2).1 != 0)) with h15 | h15
   ·skip
    refine W_t h15 rfl (Rs fun K J => sQ (q_buildap zp_31 ar_31 rfl (.nil _)) rfl (sQ (q_buildap zp_31 ar_31 rfl (.nil _)) rfl (sS [ci .i64 0, ci .i64 0, ci .i64 0] ty_31 rfl rfl rfl rfl rfl (.tail _ (.tail _ (.tail _ (.tail _ (.head _))))) rfl hb2 (sS [ci .i64 0, ci .i64 0, ci .i64 0] ty_31 rfl rfl rfl rfl rfl (.tail _ (.tail _ (.tail _ (.head _)))) rfl hb3 (nl J (W_ret (thenK_r (ret2 rfl (.inr rfl) (resP rfl m4 ty_31 rfl) (resP rfl m3 ty_31 rfl) ?_))))))))
    exact (by subst hr10; subst hr9; subst hr7; subst hr6; exact congrArg (fun r : (A3 W) × (A3 W) => (.tuple #[AV [ci .i64 r.1.x.1, ci .i64 r.1.y.1, ci .i64 r.1.z.1], AV [ci .i64 r.2.x.1, ci .i64 r.2.y.1, ci .i64 r.2.z.1]] : Value)) (show _ = (F_vector_Tangents a) from bif_f h4 (bif_t h15 rfl)))
   ·skip
    refine W_f h15 rfl (W_skip (J2 _ _ (ds (sk (sk (sk (sd (sd (sk (s0))))))) [0,6,9,13] [2,3] mix (by kernel_rfl) (fun K J => pQ rfl (qL ty_31 rfl m1 rfl) (PL_s rfl rfl (q_loadp ty_31 rfl m0 rfl) (oS [ci .i64 r6.x.1, ci .i64 r6.y.1, ci .i64 r6.z.1] ty_31 rfl rfl rfl rfl rfl rfl (.tail _ (.tail _ (.tail _ (.tail _ (.head _))))) rfl hb2 rfl (sk (sk (sk (sd (sd s0))))) (oS [ci .i64 r10.x.1, ci .i64 r10.y.1, ci .i64 r10.z.1] ty_31 rfl rfl rfl rfl rfl rfl (.tail _ (.tail _ (.tail _ (.head _)))) rfl hb3 rfl (sk (sk (sk (sd (sd s0))))) (fl J (W_ret (ret2 rfl (.inr rfl) (resP rfl m4 ty_31 rfl) (resP rfl m3 ty_31 rfl) ?_))))))))))
    exact (by subst hr10; subst hr9; subst hr7; subst hr6; exact congrArg (fun r : (A3 W) × (A3 W) => (.tuple #[AV [ci .i64 r.1.x.1, ci .i64 r.1.y.1, ci .i64 r.1.z.1], AV [ci .i64 r.2.x.1, ci .i64 r.2.y.1, ci .i64 r.2.z.1]] : Value)) (show _ = (F_vector_Tangents a) from bif_f h4 (bif_f h15 rfl)))

theorem vector_Orient_1_ret (a : (A3 W)) (o : (A3 W)) (c0 T0 : Nat) (w : World) (hc0 : w.heap[c0]? = some (.cells (flat [ci .i64 o.x.1, ci .i64 o.y.1, ci .i64 o.z.1]).toArray T0 (0, 0))) :
    Calls Tryz.prog 64 [AV [ci .i64 a.x.1, ci .i64 a.y.1, ci .i64 a.z.1], .pointer (some ⟨c0, 0, none⟩)].toArray w (fun e w' => e = .returned (AV [pI ((F_vector_Orient_1 a o).x), pI ((F_vector_Orient_1 a o).y), pI ((F_vector_Orient_1 a o).z)]) ∧ Ext w w') := by
 refine callsq_of_W (N := 21) Tryz.func64 rfl rfl (by simp) ?_
 obtain ⟨w0, rfl⟩ : ∃ w0, w0 = w := ⟨_, rfl⟩
 simp only [initF, Nat.reduceAdd]
 refine Rs fun K J => WL_r rfl (r_boxp rfl rfl (fun b1 hb1 => sN zp_45 rfl fun b2 hb2 => nl J (Sq fun K1 J1 => Rs fun K J => sE rfl (nl J (W_block (W_un 5 (Un_s (fun K2 J2 => Rs fun K J => sV (.bool true) rfl rfl (nl J (Sq fun K3 J3 => W_true rfl (W_skip (J3 _ _ (Sq fun K4 J4 => W_block ?_)))))))))))))
 refine Rs fun K J => sE rfl (sE rfl (nl J (dr (sd (sk (s0))) [0,4,8,12,16,20,24,28,32,36,40,45] [11] mix (by kernel_rfl) (fun K J => pE rfl (pE rfl (pQ rfl (qA ar_31 rfl rfl rfl) (pQ rfl (qC ty_3 rfl m1 rfl) (pC (AV [pI (E (Z.of a.x.1))]) en_58 (whole_Of_ret a.x.1 a.x.2) rfl rfl rfl (pE rfl (pQ rfl (qA ar_31 rfl rfl rfl) (pQ rfl (q_loadoc (v := .int .i64 o.x.1) ty_3 rfl hc0 (by simp) rfl) ?_)))))))))))
 refine pC (AV [pI (E (Z.of o.x.1))]) en_58 (whole_Of_ret o.x.1 o.x.2) rfl rfl rfl (pC (AV [pI (E (Z.sub (Z.of a.x.1) (Z.of o.x.1)))]) en_65 (whole_Sub_ret (E (Z.of a.x.1)).1 (E (Z.of o.x.1)).1 (E (Z.of a.x.1)).2 (E (Z.of o.x.1)).2) rfl rfl (cg2 (fun p q => AV [pI (E (Z.sub p q))]) (E_dec _) (E_dec _)) (pQ rfl (qA ar_45 rfl rfl rfl) (oS [pI (E (Z.sub (Z.of a.x.1) (Z.of o.x.1)))] ty_25 rfl rfl rfl rfl rfl rfl (.head _) rfl hb2 rfl (sd s0) (fl J (J4 _ _ (Rk fun K J => sV (.int .i64 1) rfl rfl (sE rfl (nl J (J2 _ _ (Un_s (fun K5 J5 => Rs fun K J => sV (.bool true) rfl rfl (nl J (Sq fun K6 J6 => W_true rfl (W_skip (J6 _ _ (Sq fun K7 J7 => ?_))))))))))))))))
 refine W_block (Rs fun K J => sE rfl (sE rfl (nl J (dr (sd (sk (s0))) [0,4,8,12,16,20,24,28,32,36,40,45] [11] mix (by kernel_rfl) (fun K J => pE rfl (pE rfl (pQ rfl (qA ar_31 rfl rfl rfl) (pQ rfl (qC ty_3 rfl m1 rfl) (pC (AV [pI (E (Z.of a.y.1))]) en_58 (whole_Of_ret a.y.1 a.y.2) rfl rfl rfl (pE rfl (pQ rfl (qA ar_31 rfl rfl rfl) (pQ rfl (q_loadoc (v := .int .i64 o.y.1) ty_3 rfl hc0 (by simp) rfl) ?_))))))))))))
 refine pC (AV [pI (E (Z.of o.y.1))]) en_58 (whole_Of_ret o.y.1 o.y.2) rfl rfl rfl (pC (AV [pI (E (Z.sub (Z.of a.y.1) (Z.of o.y.1)))]) en_65 (whole_Sub_ret (E (Z.of a.y.1)).1 (E (Z.of o.y.1)).1 (E (Z.of a.y.1)).2 (E (Z.of o.y.1)).2) rfl rfl (cg2 (fun p q => AV [pI (E (Z.sub p q))]) (E_dec _) (E_dec _)) (pQ rfl (qA ar_45 rfl rfl rfl) (oS [pI (E (Z.sub (Z.of a.y.1) (Z.of o.y.1)))] ty_25 rfl rfl rfl rfl rfl rfl (.head _) rfl hb2 rfl (sd s0) (fl J (J7 _ _ (Rk fun K J => sV (.int .i64 2) rfl rfl (sE rfl (nl J (J5 _ _ (Un_s (fun K8 J8 => Rs fun K J => sV (.bool true) rfl rfl (nl J (Sq fun K9 J9 => W_true rfl (W_skip (J9 _ _ (Sq fun K10 J10 => ?_))))))))))))))))
 refine W_block (Rs fun K J => sE rfl (sE rfl (nl J (dr (sd (sk (s0))) [0,4,8,12,16,20,24,28,32,36,40,45] [11] mix (by kernel_rfl) (fun K J => pE rfl (pE rfl (pQ rfl (qA ar_31 rfl rfl rfl) (pQ rfl (qC ty_3 rfl m1 rfl) (pC (AV [pI (E (Z.of a.z.1))]) en_58 (whole_Of_ret a.z.1 a.z.2) rfl rfl rfl (pE rfl (pQ rfl (qA ar_31 rfl rfl rfl) (pQ rfl (q_loadoc (v := .int .i64 o.z.1) ty_3 rfl hc0 (by simp) rfl) ?_))))))))))))
 refine pC (AV [pI (E (Z.of o.z.1))]) en_58 (whole_Of_ret o.z.1 o.z.2) rfl rfl rfl (pC (AV [pI (E (Z.sub (Z.of a.z.1) (Z.of o.z.1)))]) en_65 (whole_Sub_ret (E (Z.of a.z.1)).1 (E (Z.of o.z.1)).1 (E (Z.of a.z.1)).2 (E (Z.of o.z.1)).2) rfl rfl (cg2 (fun p q => AV [pI (E (Z.sub p q))]) (E_dec _) (E_dec _)) (pQ rfl (qA ar_45 rfl rfl rfl) (oS [pI (E (Z.sub (Z.of a.z.1) (Z.of o.z.1)))] ty_25 rfl rfl rfl rfl rfl rfl (.head _) rfl hb2 rfl (sd s0) (fl J (J10 _ _ (Rk fun K J => sV (.int .i64 3) rfl rfl (sE rfl (nl J (J8 _ _ (Un_s (fun K11 J11 => Rs fun K J => sV (.bool false) rfl rfl (nl J (Sq fun K12 J12 => W_false rfl (W_exit (thenK_x (thenK_x (blockK_hit (J1 _ _ (Rs fun K J => ?_)))))))))))))))))))
 refine sQ (qL ty_45 rfl m0 rfl) rfl (sS [pI (E (Z.sub (Z.of a.x.1) (Z.of o.x.1))), pI (E (Z.sub (Z.of a.y.1) (Z.of o.y.1))), pI (E (Z.sub (Z.of a.z.1) (Z.of o.z.1)))] ty_45 rfl rfl rfl rfl rfl (.head _) rfl hb2 (nl J (W_ret (ret1 rfl (.inr rfl) (resP rfl m0 ty_45 rfl) ?_))))
 exact (by rfl)

theorem vector_Orient_ret (a : (A3 W)) (b : (A3 W)) (c : (A3 W)) (d : (A3 W)) :
    Ret Tryz.prog 33 [AV [ci .i64 a.x.1, ci .i64 a.y.1, ci .i64 a.z.1], AV [ci .i64 b.x.1, ci .i64 b.y.1, ci .i64 b.z.1], AV [ci .i64 c.x.1, ci .i64 c.y.1, ci .i64 c.z.1], AV [ci .i64 d.x.1, ci .i64 d.y.1, ci .i64 d.z.1]] (.int .i64 ((F_vector_Orient a b c d).1)) := by
 refine ret_of_W (N := 23) Tryz.func33 rfl rfl (by simp) (fun w0 => ?_)
 simp only [initF, Nat.reduceAdd]
 refine Rs fun K J => WL_r rfl (r_boxp rfl rfl (fun b1 hb1 => WL_r rfl (r_boxp rfl rfl (fun b2 hb2 => WL_r rfl (r_boxp rfl rfl (fun b3 hb3 => WL_r rfl (r_boxp rfl rfl (fun b4 hb4 => sE rfl (nl J (Rs fun K J => sQ (q_mkfn rfl rfl) rfl (sE rfl (nl J (ds (sk (sk (sk (sk (s0))))) [0,4,8,12,16,20,24,28,32,36,40,44,48] [] mix (by kernel_rfl) (fun K J => pE rfl (pQ rfl (qL ty_31 rfl m2 rfl) (pQ rfl (q_callv en_64 rfl rfl (fun w hw => vector_Orient_1_ret b a _ _ w (hw.mem _ m3))) (pE rfl (pQ rfl (qL ty_31 rfl m1 rfl) (pQ rfl (q_callv en_64 rfl rfl (fun w hw => vector_Orient_1_ret c a _ _ w (hw.mem _ m3))) ?_)))))))))))))))))))
 obtain ⟨r5, hr5⟩ := nm ((F_vector_cross (F_vector_Orient_1 b a) (F_vector_Orient_1 c a)) : (A3 I))
 refine pC (AV [pI r5.x, pI r5.y, pI r5.z]) en_57 (vector_cross_ret (F_vector_Orient_1 b a) (F_vector_Orient_1 c a)) rfl rfl (by rw [hr5]; first | done | rfl) (pE rfl (pQ rfl (qL ty_31 rfl m0 rfl) (pQ rfl (q_callv en_64 rfl rfl (fun w hw => vector_Orient_1_ret d a _ _ w (hw.mem _ m3))) (pQ rfl (q_ret en_53 (vector_dot_ret r5 (F_vector_Orient_1 d a)) rfl) (pC (.int .i64 ((Z.signW (F_vector_dot r5 (F_vector_Orient_1 d a)).dec).1)) en_60 (whole_Sign_ret (F_vector_dot r5 (F_vector_Orient_1 d a)).1 (F_vector_dot r5 (F_vector_Orient_1 d a)).2) rfl rfl rfl (pE rfl (fl J (W_ret (ret1 rfl (.inr rfl) rfl ?_)))))))))
 exact (by subst hr5; rfl)

theorem vector_Of_ret (a : (A3 W)) :
    Ret Tryz.prog 19 [AV [ci .i64 a.x.1, ci .i64 a.y.1, ci .i64 a.z.1]] (AV [pI (((F_vector_Of a).x).n), pI (((F_vector_Of a).x).d), pI (((F_vector_Of a).y).n), pI (((F_vector_Of a).y).d), pI (((F_vector_Of a).z).n), pI (((F_vector_Of a).z).d)]) := by
 refine ret_of_W (N := 13) Tryz.func19 rfl rfl (by simp) (fun w0 => ?_)
 simp only [initF, Nat.reduceAdd]
 refine Rs fun K J => WL_r rfl (r_boxp rfl rfl (fun b1 hb1 => sN zp_29 rfl fun b2 hb2 => nl J (ds (sd (sk (s0))) [0,4,8,12,16,20,24,28,32,36,41] [10] mix (by kernel_rfl) (fun K J => pQ rfl (qA ar_31 rfl rfl rfl) (pQ rfl (qC ty_3 rfl m1 rfl) (pQ rfl (q_ret en_44 (ratio_Of_ret a.x) rfl) (pQ rfl (qA ar_31 rfl rfl rfl) (pQ rfl (qC ty_3 rfl m1 rfl) (pQ rfl (q_ret en_44 (ratio_Of_ret a.y) rfl) (pQ rfl (qA ar_31 rfl rfl rfl) (pQ rfl (qC ty_3 rfl m1 rfl) (pQ rfl (q_ret en_44 (ratio_Of_ret a.z) rfl) (pQ rfl (q_buildap zp_29 ar_29 rfl (.cons [pI ((F_ratio_Of a.x).n), pI ((F_ratio_Of a.x).d)] [pI ((F_ratio_Of a.x).n), pI ((F_ratio_Of a.x).d), pI I0, pI I0, pI I0, pI I0] rfl rfl rfl rfl (.cons [pI ((F_ratio_Of a.y).n), pI ((F_ratio_Of a.y).d)] [pI ((F_ratio_Of a.x).n), pI ((F_ratio_Of a.x).d), pI ((F_ratio_Of a.y).n), pI ((F_ratio_Of a.y).d), pI I0, pI I0] rfl rfl rfl rfl (.cons [pI ((F_ratio_Of a.z).n), pI ((F_ratio_Of a.z).d)] [pI ((F_ratio_Of a.x).n), pI ((F_ratio_Of a.x).d), pI ((F_ratio_Of a.y).n), pI ((F_ratio_Of a.y).d), pI ((F_ratio_Of a.z).n), pI ((F_ratio_Of a.z).d)] rfl rfl rfl rfl (.nil _))))) (oS [pI ((F_ratio_Of a.x).n), pI ((F_ratio_Of a.x).d), pI ((F_ratio_Of a.y).n), pI ((F_ratio_Of a.y).d), pI ((F_ratio_Of a.z).n), pI ((F_ratio_Of a.z).d)] ty_29 rfl rfl rfl rfl rfl rfl (.head _) rfl hb2 rfl (sd s0) (fl J (W_ret (ret1 rfl (.inr rfl) (resP rfl m0 ty_29 rfl) ?_)))))))))))))))))
 exact (by rfl)

theorem vector_Bad_ret (a : (A3 Rt)) :
    Ret Tryz.prog 21 [AV [pI a.x.n, pI a.x.d, pI a.y.n, pI a.y.d, pI a.z.n, pI a.z.d]] (.bool (F_vector_Bad a)) := by
 refine ret_of_W (N := 19) Tryz.func21 rfl rfl (by simp) (fun w0 => ?_)
 simp only [initF, Nat.reduceAdd]
 refine Rs fun K J => WL_r rfl (r_boxp rfl rfl (fun b1 hb1 => sE rfl (nl J ?_)))
 refine W_join [2, 3, 4, 5, 6, 7, 8, 9, 10, 11, 12, 13, 14, 15, 16, 17, 18] (fun g M => (g 2 = .bool (a.x.n.1.bad || (a.y.n.1.bad || a.z.n.1.bad))) ∧ M = [⟨b1, 29, flat [pI a.x.n, pI a.x.d, pI a.y.n, pI a.y.d, pI a.z.n, pI a.z.d]⟩]) (fun K1 J1 => ?_) ?_
 ·skip
  refine Rk fun K J => sQ (qA ar_29 rfl rfl rfl) rfl (sQ (qF fd_27_0 rfl rfl) rfl (sQ (qF fd_25_0 rfl rfl) rfl (sQ (qC ty_4 rfl m0 rfl) rfl ?_)))
  rcases bt a.x.n.1.bad with h4 | h4
  ·skip
   refine sB h4 rfl (WL_n rfl (WL_n rfl (WL_n rfl (WL_n rfl (sE rfl (sE rfl (WL_n rfl (WL_n rfl (WL_n rfl (WL_n rfl (sE rfl (sE rfl (nl J ?_)))))))))))))
   refine J1 _ _ (by repeat first | exact .refl | refine .cons rfl ?_) ⟨_, s0, ?s2, rfl⟩
   case s2 => exact congrArg Value.bool (or_t h4)
  ·skip
   refine sB h4 rfl (sQ (qA ar_29 rfl rfl rfl) rfl (sQ (qF fd_27_0 rfl rfl) rfl (sQ (qF fd_25_0 rfl rfl) rfl (sQ (qC ty_4 rfl m0 rfl) rfl (sE rfl ?_)))))
   rcases bt a.y.n.1.bad with h5 | h5
   ·skip
    refine sB h5 rfl (WL_n rfl (WL_n rfl (WL_n rfl (WL_n rfl (sE rfl (sE rfl (nl J ?_)))))))
    refine J1 _ _ (by repeat first | exact .refl | refine .cons rfl ?_) ⟨_, s0, ?s2, rfl⟩
    case s2 => exact congrArg Value.bool (or_f h4 (or_t h5))
   ·skip
    refine sB h5 rfl (sQ (qA ar_29 rfl rfl rfl) rfl (sQ (qF fd_27_0 rfl rfl) rfl (sQ (qF fd_25_0 rfl rfl) rfl (sQ (qC ty_4 rfl m0 rfl) rfl (sE rfl (sE rfl (nl J ?_)))))))
    refine J1 _ _ (by repeat first | exact .refl | refine .cons rfl ?_) ⟨_, s0, ?s2, rfl⟩
    case s2 => exact congrArg Value.bool (or_f h4 (or_f h5 rfl))
 ·skip
  rintro g6 M ⟨hg2, rfl⟩
  simp only [setG, hg2]
  clear hg2
  refine W_ret (ret1 rfl (.inr rfl) rfl ?_)
  exact (by rfl)

theorem vector_Inner_ret (a : (A3 Rt)) (b : (A3 Rt)) :
    Ret Tryz.prog 13 [AV [pI a.x.n, pI a.x.d, pI a.y.n, pI a.y.d, pI a.z.n, pI a.z.d], AV [pI b.x.n, pI b.x.d, pI b.y.n, pI b.y.d, pI b.z.n, pI b.z.d]] (AV [pI ((F_vector_Inner a b).n), pI ((F_vector_Inner a b).d)]) := by
 refine ret_of_W (N := 22) Tryz.func13 rfl rfl (by simp) (fun w0 => ?_)
 simp only [initF, Nat.reduceAdd]
 refine Rs fun K J => WL_r rfl (r_boxp rfl rfl (fun b1 hb1 => WL_r rfl (r_boxp rfl rfl (fun b2 hb2 => sN zp_27 rfl fun b3 hb3 => nl J (Rs fun K J => sQ (q_ret en_44 (ratio_Of_ret (wl 0)) rfl) rfl ?_)))))
 refine sN zp_27 rfl fun b4 hb4 => sS [pI ((F_ratio_Of (wl 0)).n), pI ((F_ratio_Of (wl 0)).d)] ty_27 rfl rfl rfl rfl rfl (.head _) rfl hb4 ?_
 refine nl J (Sq fun K1 J1 => Rs fun K J => sE rfl (nl J (W_block (W_un 5 (Un_s (fun K2 J2 => Rs fun K J => sV (.bool true) rfl rfl (nl J (Sq fun K3 J3 => W_true rfl (W_skip (J3 _ _ (Sq fun K4 J4 => W_block (Rs fun K J => sE rfl (sE rfl ?_)))))))))))))
 refine nl J (dr (sd (sk (sk (sk (s0))))) [0,4,8,12,16,20,24,28,32,37] [9] mix (by kernel_rfl) (fun K J => pQ rfl (qL ty_27 rfl m0 rfl) (pE rfl (pQ rfl (qA ar_29 rfl rfl rfl) (pQ rfl (qL ty_27 rfl m3 rfl) (pE rfl (pQ rfl (qA ar_29 rfl rfl rfl) (pQ rfl (qL ty_27 rfl m2 rfl) (pQ rfl (q_ret en_42 (ratio_Mul_ret a.x b.x) rfl) ?_)))))))))
 obtain ⟨r5, hr5⟩ := nm ((F_ratio_Add (F_ratio_Of (wl 0)) (F_ratio_Mul a.x b.x)) : Rt)
 refine pC (AV [pI r5.n, pI r5.d]) en_38 (ratio_Add_ret (F_ratio_Of (wl 0)) (F_ratio_Mul a.x b.x)) rfl rfl (by rw [hr5]; first | done | rfl) ?_
 refine oS [pI r5.n, pI r5.d] ty_27 rfl rfl rfl rfl rfl rfl (.head _) rfl hb4 rfl (sd s0) (fl J (J4 _ _ (Rk fun K J => sV (.int .i64 1) rfl rfl (sE rfl (nl J (J2 _ _ (Un_s (fun K5 J5 => Rs fun K J => sV (.bool true) rfl rfl (nl J (Sq fun K6 J6 => W_true rfl (W_skip (J6 _ _ (Sq fun K7 J7 => W_block (Rs fun K J => sE rfl ?_))))))))))))))
 refine sE rfl (nl J (dr (sd (sk (sk (sk (s0))))) [0,4,8,12,16,20,24,28,32,37] [9] mix (by kernel_rfl) (fun K J => pQ rfl (qL ty_27 rfl m0 rfl) (pE rfl (pQ rfl (qA ar_29 rfl rfl rfl) (pQ rfl (qL ty_27 rfl m3 rfl) (pE rfl (pQ rfl (qA ar_29 rfl rfl rfl) (pQ rfl (qL ty_27 rfl m2 rfl) (pQ rfl (q_ret en_42 (ratio_Mul_ret a.y b.y) rfl) ?_))))))))))
 obtain ⟨r6, hr6⟩ := nm ((F_ratio_Add r5 (F_ratio_Mul a.y b.y)) : Rt)
 refine pC (AV [pI r6.n, pI r6.d]) en_38 (ratio_Add_ret r5 (F_ratio_Mul a.y b.y)) rfl rfl (by rw [hr6]; first | done | rfl) (oS [pI r6.n, pI r6.d] ty_27 rfl rfl rfl rfl rfl rfl (.head _) rfl hb4 rfl (sd s0) (fl J (J7 _ _ (Rk fun K J => sV (.int .i64 2) rfl rfl (sE rfl (nl J (J5 _ _ (Un_s (fun K8 J8 => Rs fun K J => sV (.bool true) rfl rfl (nl J (Sq fun K9 J9 => W_true rfl (W_skip (J9 _ _ (Sq fun K10 J10 => W_block (Rs fun K J => ?_)))))))))))))))
 refine sE rfl (sE rfl (nl J (dr (sd (sk (sk (sk (s0))))) [0,4,8,12,16,20,24,28,32,37] [9] mix (by kernel_rfl) (fun K J => pQ rfl (qL ty_27 rfl m0 rfl) (pE rfl (pQ rfl (qA ar_29 rfl rfl rfl) (pQ rfl (qL ty_27 rfl m3 rfl) (pE rfl (pQ rfl (qA ar_29 rfl rfl rfl) (pQ rfl (qL ty_27 rfl m2 rfl) (pQ rfl (q_ret en_42 (ratio_Mul_ret a.z b.z) rfl) ?_)))))))))))
 obtain ⟨r7, hr7⟩ := nm ((F_ratio_Add r6 (F_ratio_Mul a.z b.z)) : Rt)
 refine pC (AV [pI r7.n, pI r7.d]) en_38 (ratio_Add_ret r6 (F_ratio_Mul a.z b.z)) rfl rfl (by rw [hr7]; first | done | rfl) (oS [pI r7.n, pI r7.d] ty_27 rfl rfl rfl rfl rfl rfl (.head _) rfl hb4 rfl (sd s0) (fl J (J10 _ _ (Rk fun K J => sV (.int .i64 3) rfl rfl (sE rfl (nl J (J8 _ _ (Un_s (fun K11 J11 => Rs fun K J => sV (.bool false) rfl rfl (nl J (Sq fun K12 J12 => W_false rfl (W_exit (thenK_x (thenK_x (blockK_hit (J1 _ _ (Rs fun K J => sQ (qL ty_27 rfl m0 rfl) rfl (sS [pI r7.n, pI r7.d] ty_27 rfl rfl rfl rfl rfl (.tail _ (.head _)) rfl hb3 ?_))))))))))))))))))
 refine nl J (W_ret (ret1 rfl (.inr rfl) (resP rfl m1 ty_27 rfl) ?_))
 exact (by subst hr7; subst hr6; subst hr5; rfl)

theorem vector_Outer_ret (a : (A3 Rt)) (b : (A3 Rt)) :
    Ret Tryz.prog 15 [AV [pI a.x.n, pI a.x.d, pI a.y.n, pI a.y.d, pI a.z.n, pI a.z.d], AV [pI b.x.n, pI b.x.d, pI b.y.n, pI b.y.d, pI b.z.n, pI b.z.d]] (AV [pI (((F_vector_Outer a b).x).n), pI (((F_vector_Outer a b).x).d), pI (((F_vector_Outer a b).y).n), pI (((F_vector_Outer a b).y).d), pI (((F_vector_Outer a b).z).n), pI (((F_vector_Outer a b).z).d)]) := by
 refine ret_of_W (N := 36) Tryz.func15 rfl rfl (by simp) (fun w0 => ?_)
 simp only [initF, Nat.reduceAdd]
 refine Rs fun K J => WL_r rfl (r_boxp rfl rfl (fun b1 hb1 => WL_r rfl (r_boxp rfl rfl (fun b2 hb2 => sN zp_29 rfl fun b3 hb3 => nl J (Sq fun K1 J1 => Rs fun K J => sE rfl (nl J (W_block (W_un 5 (Un_s (fun K2 J2 => Rs fun K J => sV (.bool true) rfl rfl (nl J (Sq fun K3 J3 => W_true rfl (W_skip (J3 _ _ (Sq fun K4 J4 => ?_)))))))))))))))
 refine W_block (Rs fun K J => sE rfl (sE rfl (nl J (Rs fun K J => sE rfl (sV (.int .i64 1) rfl rfl (sQ (q_as (v' := .int .i64 1) (q_rem rfl rfl (by decide)) rfl) rfl (sE rfl (sV (.int .i64 2) rfl rfl (sQ (q_as (v' := .int .i64 2) (q_rem rfl rfl (by decide)) rfl) rfl (sE rfl (sE rfl (nl J (dr (sd (sk (sk (s0)))) [0,4,8,12,16,20,24,28,32,36,40,44,48,52,56,60,64,69] [17] mix (by kernel_rfl) (fun K J => pE rfl (pE rfl (pQ rfl (qA ar_29 rfl rfl rfl) (pQ rfl (qL ty_27 rfl m2 rfl) ?_)))))))))))))))))
 refine pE rfl (pQ rfl (qA ar_29 rfl rfl rfl) (pQ rfl (qL ty_27 rfl m1 rfl) (pQ rfl (q_ret en_42 (ratio_Mul_ret a.y b.z) rfl) (pE rfl (pQ rfl (qA ar_29 rfl rfl rfl) (pQ rfl (qL ty_27 rfl m2 rfl) (pE rfl (pQ rfl (qA ar_29 rfl rfl rfl) (pQ rfl (qL ty_27 rfl m1 rfl) (pQ rfl (q_ret en_42 (ratio_Mul_ret a.z b.y) rfl) ?_))))))))))
 obtain ⟨r4, hr4⟩ := nm ((F_ratio_Sub (F_ratio_Mul a.y b.z) (F_ratio_Mul a.z b.y)) : Rt)
 refine pC (AV [pI r4.n, pI r4.d]) en_40 (ratio_Sub_ret (F_ratio_Mul a.y b.z) (F_ratio_Mul a.z b.y)) rfl rfl (by rw [hr4]; first | done | rfl) (pQ rfl (qA ar_29 rfl rfl rfl) (oS [pI r4.n, pI r4.d] ty_27 rfl rfl rfl rfl rfl rfl (.head _) rfl hb3 rfl (sd s0) (fl J (J4 _ _ (Rk fun K J => sV (.int .i64 1) rfl rfl (sE rfl (nl J (J2 _ _ (Un_s (fun K5 J5 => Rs fun K J => sV (.bool true) rfl rfl (nl J (Sq fun K6 J6 => W_true rfl (W_skip (J6 _ _ (Sq fun K7 J7 => W_block ?_)))))))))))))))
 refine Rs fun K J => sE rfl (sE rfl (nl J (Rs fun K J => sE rfl (sV (.int .i64 2) rfl rfl (sQ (q_as (v' := .int .i64 2) (q_rem rfl rfl (by decide)) rfl) rfl (sE rfl (sV (.int .i64 3) rfl rfl (sQ (q_as (v' := .int .i64 0) (q_rem rfl rfl (by decide)) rfl) rfl (sE rfl (sE rfl (nl J (dr (sd (sk (sk (s0)))) [0,4,8,12,16,20,24,28,32,36,40,44,48,52,56,60,64,69] [17] mix (by kernel_rfl) (fun K J => pE rfl (pE rfl (pQ rfl (qA ar_29 rfl rfl rfl) (pQ rfl (qL ty_27 rfl m2 rfl) (pE rfl ?_)))))))))))))))))
 refine pQ rfl (qA ar_29 rfl rfl rfl) (pQ rfl (qL ty_27 rfl m1 rfl) (pQ rfl (q_ret en_42 (ratio_Mul_ret a.z b.x) rfl) (pE rfl (pQ rfl (qA ar_29 rfl rfl rfl) (pQ rfl (qL ty_27 rfl m2 rfl) (pE rfl (pQ rfl (qA ar_29 rfl rfl rfl) (pQ rfl (qL ty_27 rfl m1 rfl) (pQ rfl (q_ret en_42 (ratio_Mul_ret a.x b.z) rfl) ?_)))))))))
 obtain ⟨r5, hr5⟩ := nm ((F_ratio_Sub (F_ratio_Mul a.z b.x) (F_ratio_Mul a.x b.z)) : Rt)
 refine pC (AV [pI r5.n, pI r5.d]) en_40 (ratio_Sub_ret (F_ratio_Mul a.z b.x) (F_ratio_Mul a.x b.z)) rfl rfl (by rw [hr5]; first | done | rfl) (pQ rfl (qA ar_29 rfl rfl rfl) (oS [pI r5.n, pI r5.d] ty_27 rfl rfl rfl rfl rfl rfl (.head _) rfl hb3 rfl (sd s0) (fl J (J7 _ _ (Rk fun K J => sV (.int .i64 2) rfl rfl (sE rfl (nl J (J5 _ _ (Un_s (fun K8 J8 => Rs fun K J => sV (.bool true) rfl rfl (nl J (Sq fun K9 J9 => W_true rfl (W_skip (J9 _ _ (Sq fun K10 J10 => W_block ?_)))))))))))))))
 refine Rs fun K J => sE rfl (sE rfl (nl J (Rs fun K J => sE rfl (sV (.int .i64 3) rfl rfl (sQ (q_as (v' := .int .i64 0) (q_rem rfl rfl (by decide)) rfl) rfl (sE rfl (sV (.int .i64 4) rfl rfl (sQ (q_as (v' := .int .i64 1) (q_rem rfl rfl (by decide)) rfl) rfl (sE rfl (sE rfl (nl J (dr (sd (sk (sk (s0)))) [0,4,8,12,16,20,24,28,32,36,40,44,48,52,56,60,64,69] [17] mix (by kernel_rfl) (fun K J => pE rfl (pE rfl (pQ rfl (qA ar_29 rfl rfl rfl) (pQ rfl (qL ty_27 rfl m2 rfl) (pE rfl ?_)))))))))))))))))
 refine pQ rfl (qA ar_29 rfl rfl rfl) (pQ rfl (qL ty_27 rfl m1 rfl) (pQ rfl (q_ret en_42 (ratio_Mul_ret a.x b.y) rfl) (pE rfl (pQ rfl (qA ar_29 rfl rfl rfl) (pQ rfl (qL ty_27 rfl m2 rfl) (pE rfl (pQ rfl (qA ar_29 rfl rfl rfl) (pQ rfl (qL ty_27 rfl m1 rfl) (pQ rfl (q_ret en_42 (ratio_Mul_ret a.y b.x) rfl) ?_)))))))))
 obtain ⟨r6, hr6⟩ := nm ((F_ratio_Sub (F_ratio_Mul a.x b.y) (F_ratio_Mul a.y b.x)) : Rt)
 refine pC (AV [pI r6.n, pI r6.d]) en_40 (ratio_Sub_ret (F_ratio_Mul a.x b.y) (F_ratio_Mul a.y b.x)) rfl rfl (by rw [hr6]; first | done | rfl) (pQ rfl (qA ar_29 rfl rfl rfl) (oS [pI r6.n, pI r6.d] ty_27 rfl rfl rfl rfl rfl rfl (.head _) rfl hb3 rfl (sd s0) (fl J (J10 _ _ (Rk fun K J => sV (.int .i64 3) rfl rfl (sE rfl (nl J (J8 _ _ (Un_s (fun K11 J11 => Rs fun K J => sV (.bool false) rfl rfl (nl J (Sq fun K12 J12 => W_false rfl (W_exit (thenK_x (thenK_x (blockK_hit (J1 _ _ (Rs fun K J => sQ (qL ty_29 rfl m0 rfl) rfl ?_))))))))))))))))))
 refine sS [pI r4.n, pI r4.d, pI r5.n, pI r5.d, pI r6.n, pI r6.d] ty_29 rfl rfl rfl rfl rfl (.head _) rfl hb3 (nl J (W_ret (ret1 rfl (.inr rfl) (resP rfl m0 ty_29 rfl) ?_)))
 exact (by subst hr6; subst hr5; subst hr4; rfl)

theorem vector_Side_ret (a : (A3 W)) (b : (A3 Rt)) :
    Ret Tryz.prog 17 [AV [ci .i64 a.x.1, ci .i64 a.y.1, ci .i64 a.z.1], AV [pI b.x.n, pI b.x.d, pI b.y.n, pI b.y.d, pI b.z.n, pI b.z.d]] (AV [pI ((F_vector_Side a b).n), pI ((F_vector_Side a b).d)]) := by
 refine ret_of_W (N := 9) Tryz.func17 rfl rfl (by simp) (fun w0 => ?_)
 simp only [initF, Nat.reduceAdd]
 refine Rs fun K J => WL_r rfl (r_boxp rfl rfl (fun b1 hb1 => WL_r rfl (r_boxp rfl rfl (fun b2 hb2 => sN zp_27 rfl fun b3 hb3 => nl J (ds (sd (sk (sk (s0)))) [0,4,8,12,17] [4] mix (by kernel_rfl) (fun K J => pQ rfl (qL ty_31 rfl m2 rfl) ?_))))))
 obtain ⟨r4, hr4⟩ := nm ((F_vector_Of a) : (A3 Rt))
 refine pC (AV [pI r4.x.n, pI r4.x.d, pI r4.y.n, pI r4.y.d, pI r4.z.n, pI r4.z.d]) en_19 (vector_Of_ret a) rfl rfl (by rw [hr4]; first | done | rfl) (pQ rfl (qL ty_29 rfl m1 rfl) (pQ rfl (q_ret en_13 (vector_Inner_ret r4 b) rfl) (oS [pI ((F_vector_Inner r4 b).n), pI ((F_vector_Inner r4 b).d)] ty_27 rfl rfl rfl rfl rfl rfl (.head _) rfl hb3 rfl (sd s0) (fl J (W_ret (ret1 rfl (.inr rfl) (resP rfl m0 ty_27 rfl) ?_))))))
 exact (by subst hr4; rfl)
end Go.Proofs.YthbjhbmpfeeilaaGreat
