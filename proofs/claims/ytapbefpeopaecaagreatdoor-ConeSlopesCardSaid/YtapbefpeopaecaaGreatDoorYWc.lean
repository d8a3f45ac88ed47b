/- Walks: what these functions return. -/
import Derived.Test.YtapbefpeopaecaaGreatDoorYGE
import Derived.Test.YtapbefpeopaecaaGreatDoorYWa
namespace Go.Proofs.YtapbefpeopaecaaGreatDoor
open Go.Kn Go.Num
set_option linter.unusedVariables false
set_option linter.unusedSimpArgs false
set_option maxRecDepth 20000
set_option maxHeartbeats 8000000
theorem e1_ (a : R) (ha : a.Ok) :
    Ret Tryz.prog 109 [RV a] (RV (Z.neg a.dec).enc) := by
 refine av_ (N := 14) Tryz.func109 rfl rfl (by simp) (fun w0 => ?_)
 simp only [initF, Nat.reduceAdd]
 refine Sq fun K1 J1 => Rk fun K J => WL_r rfl (r_box rfl rfl (fun b1 hb1 => WL_r rfl (bl_ z_37 (fun b2 hb2 => nl J (J1 _ _ (Sq fun K2 J2 => Sq fun K3 J3 => Rk fun K J => sQ (aS_ ty_37 rfl (by repeat (first | exact .head _ | apply List.mem_append_right | apply List.Mem.tail)) (aQ_ ha)) rfl ?_))))))
 refine WL_r rfl (cv_ eR_ z_37 sz_37 rfl (by decide) rfl (gs_ ha) (fun b4 hb4 => sQ (bU_ eT_ rfl (fun w hw => bZ_ [a] (ok1 ha) b4 37 w (hw.mem _ m0) (by simp))) rfl ?_))
 refine sE rfl (nl J (J3 _ _ ?_))
 refine a6_ _ rfl (fun hg => ?_) (fun hg => ?_)
 ·(try simp only [decide_eq_true_eq, decide_eq_false_iff_not, beq_iff_eq, bne_iff_ne, beq_eq_false_iff_ne, bne_eq_false_iff_eq, Bool.not_eq_true', Bool.not_eq_false'] at hg)
  refine Sq fun K4 J4 => Rk fun K J => sQ (q_ret eL_ bW_ rfl) rfl (WL_r rfl (aG_ ty_37 rfl rfl (by repeat (first | exact .head _ | apply Upd.left | apply Upd.tail)) (ag_ _) rfl (at_ _) (.inl (by assumption)) ?_))
  refine nl J (J4 _ _ (W_ret (ai_ (ret1 rfl (.inr rfl) ⟨_, _, _, _, _, _, rfl, (by repeat (first | exact .head _ | apply List.mem_append_right | apply List.Mem.tail)), ty_37, _, (bd_ (ag_ _)), (ag_ _), rfl⟩ ?_))))
  (rw [Z.neg, gq_ (lf_ hg)]; rfl)
 ·(try simp only [decide_eq_true_eq, decide_eq_false_iff_not, beq_iff_eq, bne_iff_ne, beq_eq_false_iff_ne, bne_eq_false_iff_eq, Bool.not_eq_true', Bool.not_eq_false'] at hg)
  refine ak_ (J2 _ _ (Sq fun K5 J5 => Rk fun K J => sQ (aW_ bq_ (by decide) rfl) rfl (sQ (bf_ ty_4 rfl (by repeat (first | exact .head _ | apply List.mem_append_right | apply List.Mem.tail)) rfl) rfl ?_)))
  refine sE rfl (sQ (aW_ bv_ (by decide) rfl) rfl (sQ (cs_ (vs := uw a.w) ty_35 rfl (by repeat (first | exact .head _ | apply List.mem_append_right | apply List.Mem.tail)) (dp_ ha.len) ((ck_ _).trans ha.len)) rfl ?_))
  refine sQ (q_ret eu_ (bn_ (!a.neg) a.w ha.len ha.lim) rfl) rfl (WL_r rfl (aG_ ty_37 rfl rfl (by repeat (first | exact .head _ | apply Upd.left | apply Upd.tail)) (cC_ ha.len) rfl (at_ _) (.inl (by assumption)) ?_))
  refine nl J (J5 _ _ (W_ret (ret1 rfl (.inr rfl) ⟨_, _, _, _, _, _, rfl, (by repeat (first | exact .head _ | apply List.mem_append_right | apply List.Mem.tail)), ty_37, _, (bd_ (cC_ ha.len)), (cC_ ha.len), rfl⟩ ?_)))
  exact congrArg RV (rs_ ha (by simpa using hg))

theorem g3_ (a : R) (ha : a.Ok) :
    Ret Tryz.prog 147 [RV a] (RV (Z.abs a.dec).enc) := by
 refine av_ (N := 11) Tryz.func147 rfl rfl (by simp) (fun w0 => ?_)
 simp only [initF, Nat.reduceAdd]
 refine Sq fun K1 J1 => Rk fun K J => WL_r rfl (r_box rfl rfl (fun b1 hb1 => WL_r rfl (bl_ z_37 (fun b2 hb2 => nl J (J1 _ _ (Sq fun K2 J2 => Sq fun K3 J3 => Rk fun K J => sQ (aS_ ty_37 rfl (by repeat (first | exact .head _ | apply List.mem_append_right | apply List.Mem.tail)) (aQ_ ha)) rfl ?_))))))
 refine WL_r rfl (cv_ eR_ z_37 sz_37 rfl (by decide) rfl (gs_ ha) (fun b4 hb4 => sQ (bU_ eT_ rfl (fun w hw => bZ_ [a] (ok1 ha) b4 37 w (hw.mem _ m0) (by simp))) rfl ?_))
 refine sE rfl (nl J (J3 _ _ ?_))
 refine a6_ _ rfl (fun hg => ?_) (fun hg => ?_)
 ·(try simp only [decide_eq_true_eq, decide_eq_false_iff_not, beq_iff_eq, bne_iff_ne, beq_eq_false_iff_ne, bne_eq_false_iff_eq, Bool.not_eq_true', Bool.not_eq_false'] at hg)
  refine Sq fun K4 J4 => Rk fun K J => sQ (q_ret eL_ bW_ rfl) rfl (WL_r rfl (aG_ ty_37 rfl rfl (by repeat (first | exact .head _ | apply Upd.left | apply Upd.tail)) (ag_ _) rfl (at_ _) (.inl (by assumption)) ?_))
  refine nl J (J4 _ _ (W_ret (ai_ (ret1 rfl (.inr rfl) ⟨_, _, _, _, _, _, rfl, (by repeat (first | exact .head _ | apply List.mem_append_right | apply List.Mem.tail)), ty_37, _, (bd_ (ag_ _)), (ag_ _), rfl⟩ ?_))))
  (rw [Z.abs, gq_ (lf_ hg)]; rfl)
 ·(try simp only [decide_eq_true_eq, decide_eq_false_iff_not, beq_iff_eq, bne_iff_ne, beq_eq_false_iff_ne, bne_eq_false_iff_eq, Bool.not_eq_true', Bool.not_eq_false'] at hg)
  refine ak_ (J2 _ _ (Sq fun K5 J5 => Rk fun K J => sQ (aW_ bv_ (by decide) rfl) rfl (sQ (cs_ (vs := uw a.w) ty_35 rfl (by repeat (first | exact .head _ | apply List.mem_append_right | apply List.Mem.tail)) (dp_ ha.len) ((ck_ _).trans ha.len)) rfl ?_)))
  refine sQ (q_ret eu_ (bn_ false a.w ha.len ha.lim) rfl) rfl (WL_r rfl (aG_ ty_37 rfl rfl (by repeat (first | exact .head _ | apply Upd.left | apply Upd.tail)) (cC_ ha.len) rfl (at_ _) (.inl (by assumption)) ?_))
  refine nl J (J5 _ _ (W_ret (ret1 rfl (.inr rfl) ⟨_, _, _, _, _, _, rfl, (by repeat (first | exact .head _ | apply List.mem_append_right | apply List.Mem.tail)), ty_37, _, (bd_ (cC_ ha.len)), (cC_ ha.len), rfl⟩ ?_)))
  exact congrArg RV (rg_ ha (by simpa using hg))

theorem dK_ (a b : R) (ha : a.Ok) (hb : b.Ok) :
    Ret Tryz.prog 115 [RV a, RV b] (RV (Z.add a.dec b.dec).enc) := by
 refine av_ (N := 55) Tryz.func115 rfl rfl (by simp) (fun w0 => ?_)
 simp only [initF, Nat.reduceAdd]
 refine Sq fun K1 J1 => Rk fun K J => WL_r rfl (r_box rfl rfl (fun b2 hb2 => WL_r rfl (r_box rfl rfl (fun b3 hb3 => WL_r rfl (bl_ z_37 (fun b4 hb4 => nl J (J1 _ _ (Sq fun K2 J2 => Sq fun K3 J3 => Rk fun K J => sQ (aS_ ty_37 rfl (by repeat (first | exact .head _ | apply List.mem_append_right | apply List.Mem.tail)) (aQ_ ha)) rfl ?_))))))))
 refine sQ (aS_ ty_37 rfl (by repeat (first | exact .head _ | apply List.mem_append_right | apply List.Mem.tail)) (aQ_ hb)) rfl ?_
 refine WL_r rfl (cv_ eR_ z_37 sz_37 rfl (by decide) rfl (lI_ ha hb) (fun b9 hb9 => sQ (bU_ eT_ rfl (fun w hw => bZ_ [a, b] (ok2 ha hb) b9 37 w (hw.mem _ m0) (by simp))) rfl ?_))
 refine sE rfl (nl J (J3 _ _ ?_))
 refine a6_ _ rfl (fun hg => ?_) (fun hg => ?_)
 ·(try simp only [decide_eq_true_eq, decide_eq_false_iff_not, beq_iff_eq, bne_iff_ne, beq_eq_false_iff_ne, bne_eq_false_iff_eq, Bool.not_eq_true', Bool.not_eq_false'] at hg)
  refine Sq fun K4 J4 => Rk fun K J => sQ (q_ret eL_ bW_ rfl) rfl (WL_r rfl (aG_ ty_37 rfl rfl (by repeat (first | exact .head _ | apply Upd.left | apply Upd.tail)) (ag_ _) rfl (at_ _) (.inl (by assumption)) ?_))
  refine nl J (J4 _ _ (W_ret (ai_ (ret1 rfl (.inr rfl) ⟨_, _, _, _, _, _, rfl, (by repeat (first | exact .head _ | apply List.mem_append_right | apply List.Mem.tail)), ty_37, _, (bd_ (ag_ _)), (ag_ _), rfl⟩ ?_))))
  (rw [Z.add, c9_ (hO_ hg)]; rfl)
 ·(try simp only [decide_eq_true_eq, decide_eq_false_iff_not, beq_iff_eq, bne_iff_ne, beq_eq_false_iff_ne, bne_eq_false_iff_eq, Bool.not_eq_true', Bool.not_eq_false'] at hg)
  have hg := all2.1 hg
  refine ak_ (J2 _ _ (Sq fun K5 J5 => Sq fun K6 J6 => Rk fun K J => sQ (aW_ bq_ (by decide) rfl) rfl (sQ (bf_ ty_4 rfl (by repeat (first | exact .head _ | apply List.mem_append_right | apply List.Mem.tail)) rfl) rfl ?_)))
  refine sQ (aW_ bq_ (by decide) rfl) rfl (sQ (bf_ ty_4 rfl (by repeat (first | exact .head _ | apply List.mem_append_right | apply List.Mem.tail)) rfl) rfl ?_)
  refine sQ (pt_ bo_4 rfl rfl) rfl (nl J (J6 _ _ ?_))
  refine a6_ _ rfl (fun hn => ?_) (fun hn => ?_)
  ·(try simp only [decide_eq_true_eq, decide_eq_false_iff_not, beq_iff_eq, bne_iff_ne, beq_eq_false_iff_ne, bne_eq_false_iff_eq, Bool.not_eq_true', Bool.not_eq_false'] at hn)
   refine Sq fun K7 J7 => Rk fun K J => sQ (aW_ bv_ (by decide) rfl) rfl (sQ (cs_ (vs := uw a.w) ty_35 rfl (by repeat (first | exact .head _ | apply List.mem_append_right | apply List.Mem.tail)) (dp_ ha.len) ((ck_ _).trans ha.len)) rfl ?_)
   refine sQ (aW_ bv_ (by decide) rfl) rfl (sQ (cs_ (vs := uw b.w) ty_35 rfl (by repeat (first | exact .head _ | apply List.mem_append_right | apply List.Mem.tail)) (dp_ hb.len) ((ck_ _).trans hb.len)) rfl ?_)
   refine sQ (q_ret rf_ (it_ a.w b.w ha.len hb.len ha.lim hb.lim) rfl) rfl (sE rfl (sE rfl (sE rfl (WL_r rfl (bl_ z_35 (fun b5 hb5 => WL_r rfl (aG_ ty_35 rfl rfl (by repeat (first | exact .head _ | apply Upd.left | apply Upd.tail)) (by rw [ck_, a3_]) rfl (ce_ _) (.inl (by assumption)) ?_)))))))
   refine sE rfl (nl J (J7 _ _ (Sq fun K8 J8 => Sq fun K9 J9 => Rk fun K J => sE rfl (sE rfl (nl J (J9 _ _ ?_))))))
   refine a6_ _ rfl (fun hc => ?_) (fun hc => ?_)
   ·(try simp only [decide_eq_true_eq, decide_eq_false_iff_not, beq_iff_eq, bne_iff_ne, beq_eq_false_iff_ne, bne_eq_false_iff_eq, Bool.not_eq_true', Bool.not_eq_false'] at hc)
    refine Sq fun K10 J10 => Rk fun K J => sQ (q_ret eL_ bW_ rfl) rfl (WL_r rfl (aG_ ty_37 rfl rfl (by repeat (first | exact .head _ | apply Upd.left | apply Upd.tail)) (ag_ _) rfl (at_ _) (.inl (by assumption)) ?_))
    refine nl J (J10 _ _ (W_ret (ai_ (ai_ (ret1 rfl (.inr rfl) ⟨_, _, _, _, _, _, rfl, (by repeat (first | exact .head _ | apply List.mem_append_right | apply List.Mem.tail)), ty_37, _, (bd_ (ag_ _)), (ag_ _), rfl⟩ ?_)))))
    exact congrArg RV (n4_ ha hb hg.1 hg.2 hn (by omega))
   ·(try simp only [decide_eq_true_eq, decide_eq_false_iff_not, beq_iff_eq, bne_iff_ne, beq_eq_false_iff_ne, bne_eq_false_iff_eq, Bool.not_eq_true', Bool.not_eq_false'] at hc)
    refine ak_ (J8 _ _ (Sq fun K11 J11 => Rk fun K J => sQ (aW_ bq_ (by decide) rfl) rfl (sQ (bf_ ty_4 rfl (by repeat (first | exact .head _ | apply List.mem_append_right | apply List.Mem.tail)) rfl) rfl ?_)))
    refine sQ (aS_ ty_35 rfl (by repeat (first | exact .head _ | apply List.mem_append_right | apply List.Mem.tail)) (by rw [ck_, a3_])) rfl ?_
    refine sQ (q_ret eu_ (bn_ a.neg _ (a3_ _ _) (dh_ _ _)) rfl) rfl (WL_r rfl (aG_ ty_37 rfl rfl (by repeat (first | exact .head _ | apply Upd.left | apply Upd.tail)) (cC_ (a3_ _ _)) rfl (at_ _) (.inl (by assumption)) ?_))
    refine nl J (J11 _ _ (W_ret (ai_ (ret1 rfl (.inr rfl) ⟨_, _, _, _, _, _, rfl, (by repeat (first | exact .head _ | apply List.mem_append_right | apply List.Mem.tail)), ty_37, _, (bd_ (cC_ (a3_ _ _))), (cC_ (a3_ _ _)), rfl⟩ ?_))))
    exact congrArg RV (ox_ ha hb hg.1 hg.2 hn (by omega))
  ·(try simp only [decide_eq_true_eq, decide_eq_false_iff_not, beq_iff_eq, bne_iff_ne, beq_eq_false_iff_ne, bne_eq_false_iff_eq, Bool.not_eq_true', Bool.not_eq_false'] at hn)
   refine ak_ (J5 _ _ (Sq fun K12 J12 => Sq fun K13 J13 => Rk fun K J => sQ (aW_ bv_ (by decide) rfl) rfl (sQ (cs_ (vs := uw a.w) ty_35 rfl (by repeat (first | exact .head _ | apply List.mem_append_right | apply List.Mem.tail)) (dp_ ha.len) ((ck_ _).trans ha.len)) rfl ?_)))
   refine sQ (aW_ bv_ (by decide) rfl) rfl (sQ (cs_ (vs := uw b.w) ty_35 rfl (by repeat (first | exact .head _ | apply List.mem_append_right | apply List.Mem.tail)) (dp_ hb.len) ((ck_ _).trans hb.len)) rfl ?_)
   refine sQ (q_ret iC_ (dE_ a.w b.w ha.len hb.len ha.lim hb.lim) rfl) rfl (sE rfl (nl J (J13 _ _ ?_)))
   refine a6_ _ rfl (fun ho => ?_) (fun ho => ?_)
   ·(try simp only [decide_eq_true_eq, decide_eq_false_iff_not, beq_iff_eq, bne_iff_ne, beq_eq_false_iff_ne, bne_eq_false_iff_eq, Bool.not_eq_true', Bool.not_eq_false'] at ho)
    have hle : val b.w ≤ val a.w := mp_ ho
    refine Sq fun K14 J14 => dr (sk (sd (sk (sk (s0))))) [0,4,8,12,16,20,24,28,33] [8] mix (by kernel_rfl) (fun K J => pQ rfl (aW_ bq_ (by decide) rfl) (pQ rfl (bf_ ty_4 rfl (by repeat (first | exact .head _ | apply List.mem_append_right | apply List.Mem.tail)) rfl) ?_))
    refine pQ rfl (aW_ bv_ (by decide) rfl) (pQ rfl (cs_ (vs := uw a.w) ty_35 rfl (by repeat (first | exact .head _ | apply List.mem_append_right | apply List.Mem.tail)) (dp_ ha.len) ((ck_ _).trans ha.len)) ?_)
    refine pQ rfl (aW_ bv_ (by decide) rfl) (pQ rfl (cs_ (vs := uw b.w) ty_35 rfl (by repeat (first | exact .head _ | apply List.mem_append_right | apply List.Mem.tail)) (dp_ hb.len) ((ck_ _).trans hb.len)) ?_)
    refine pQ rfl (q_ret mq_ (fe_ a.w b.w ha.len hb.len ha.lim hb.lim hle) rfl) (pQ rfl (q_ret eu_ (bn_ a.neg _ (a3_ _ _) (dh_ _ _)) rfl) ?_)
    refine PL_o rfl rfl (aG_ ty_37 rfl rfl (by repeat (first | exact .head _ | apply Upd.left | apply Upd.tail)) (cC_ (a3_ _ _)) rfl (at_ _) (.inl (by assumption)) ⟨nf, (by repeat (first | exact s0 | exact sn | refine sk ?_ | refine sd ?_ | refine sA ?_ | refine sR ?_)), ?_⟩)
    refine fl J (J14 _ _ (W_ret (ai_ (ret1 rfl (.inr rfl) ⟨_, _, _, _, _, _, rfl, (by repeat (first | exact .head _ | apply List.mem_append_right | apply List.Mem.tail)), ty_37, _, (bd_ (cC_ (a3_ _ _))), (cC_ (a3_ _ _)), rfl⟩ ?_))))
    exact congrArg RV (of_ ha hb hg.1 hg.2 hn hle)
   ·(try simp only [decide_eq_true_eq, decide_eq_false_iff_not, beq_iff_eq, bne_iff_ne, beq_eq_false_iff_ne, bne_eq_false_iff_eq, Bool.not_eq_true', Bool.not_eq_false'] at ho)
    have hle : val a.w ≤ val b.w := n8_ ho
    refine ak_ (J12 _ _ (Sq fun K15 J15 => dr (sk (sd (sk (sk (s0))))) [0,4,8,12,16,20,24,28,33] [8] mix (by kernel_rfl) (fun K J => pQ rfl (aW_ bq_ (by decide) rfl) (pQ rfl (bf_ ty_4 rfl (by repeat (first | exact .head _ | apply List.mem_append_right | apply List.Mem.tail)) rfl) ?_))))
    refine pQ rfl (aW_ bv_ (by decide) rfl) (pQ rfl (cs_ (vs := uw b.w) ty_35 rfl (by repeat (first | exact .head _ | apply List.mem_append_right | apply List.Mem.tail)) (dp_ hb.len) ((ck_ _).trans hb.len)) ?_)
    refine pQ rfl (aW_ bv_ (by decide) rfl) (pQ rfl (cs_ (vs := uw a.w) ty_35 rfl (by repeat (first | exact .head _ | apply List.mem_append_right | apply List.Mem.tail)) (dp_ ha.len) ((ck_ _).trans ha.len)) ?_)
    refine pQ rfl (q_ret mq_ (fe_ b.w a.w hb.len ha.len hb.lim ha.lim hle) rfl) (pQ rfl (q_ret eu_ (bn_ b.neg _ (a3_ _ _) (dh_ _ _)) rfl) ?_)
    refine PL_o rfl rfl (aG_ ty_37 rfl rfl (by repeat (first | exact .head _ | apply Upd.left | apply Upd.tail)) (cC_ (a3_ _ _)) rfl (at_ _) (.inl (by assumption)) ⟨nf, (by repeat (first | exact s0 | exact sn | refine sk ?_ | refine sd ?_ | refine sA ?_ | refine sR ?_)), ?_⟩)
    refine fl J (J15 _ _ (W_ret (ret1 rfl (.inr rfl) ⟨_, _, _, _, _, _, rfl, (by repeat (first | exact .head _ | apply List.mem_append_right | apply List.Mem.tail)), ty_37, _, (bd_ (cC_ (a3_ _ _))), (cC_ (a3_ _ _)), rfl⟩ ?_)))
    exact congrArg RV (n6_ ha hb hg.1 hg.2 hn hle)

theorem e0_ (a b : R) (ha : a.Ok) (hb : b.Ok) :
    Ret Tryz.prog 153 [RV a, RV b] (RV (Z.sub a.dec b.dec).enc) := by
 refine av_ (N := 9) Tryz.func153 rfl rfl (by simp) (fun w0 => ?_)
 simp only [initF, Nat.reduceAdd]
 refine Sq fun K1 J1 => Rk fun K J => WL_r rfl (r_box rfl rfl (fun b2 hb2 => WL_r rfl (r_box rfl rfl (fun b3 hb3 => WL_r rfl (bl_ z_37 (fun b4 hb4 => nl J (J1 _ _ (Sq fun K2 J2 => dr (sd (sk (sk (s0)))) [0,4,8,12,17] [4] mix (by kernel_rfl) (fun K J => pQ rfl (aS_ ty_37 rfl (by repeat (first | exact .head _ | apply List.mem_append_right | apply List.Mem.tail)) (aQ_ ha)) ?_)))))))))
 refine pQ rfl (aS_ ty_37 rfl (by repeat (first | exact .head _ | apply List.mem_append_right | apply List.Mem.tail)) (aQ_ hb)) ?_
 refine pQ rfl (q_ret k1_ (e1_ b hb) rfl) (pQ rfl (q_ret ip_ (dK_ a (Z.neg b.dec).enc ha (Z.enc_ok _)) rfl) ?_)
 refine PL_o rfl rfl (aG_ ty_37 rfl rfl (by repeat (first | exact .head _ | apply Upd.left | apply Upd.tail)) (ag_ _) rfl (at_ _) (.inl (by assumption)) ⟨nf, (by repeat (first | exact s0 | exact sn | refine sk ?_ | refine sd ?_ | refine sA ?_ | refine sR ?_)), ?_⟩)
 refine fl J (J2 _ _ (W_ret (ret1 rfl (.inr rfl) ⟨_, _, _, _, _, _, rfl, (by repeat (first | exact .head _ | apply List.mem_append_right | apply List.Mem.tail)), ty_37, _, (bd_ (ag_ _)), (ag_ _), rfl⟩ ?_)))
 (rw [f7_]; rfl)

theorem cf_ (a : R) (ha : a.Ok) :
    Ret Tryz.prog 107 [RV a] (.int .i64 a.dec.sign) := by
 refine av_ (N := 17) Tryz.func107 rfl rfl (by simp) (fun w0 => ?_)
 simp only [initF, Nat.reduceAdd]
 refine Sq fun K1 J1 => Rk fun K J => WL_r rfl (r_box rfl rfl (fun b1 hb1 => sE rfl (nl J (J1 _ _ (Sq fun K2 J2 => ar_ (Sq fun K3 J3 => Rk fun K J => sQ (aS_ ty_37 rfl (by repeat (first | exact .head _ | apply List.mem_append_right | apply List.Mem.tail)) (aQ_ ha)) rfl ?_))))))
 refine WL_r rfl (cv_ eR_ z_37 sz_37 rfl (by decide) rfl (gs_ ha) (fun b5 hb5 => sQ (bU_ eT_ rfl (fun w hw => bZ_ [a] (ok1 ha) b5 37 w (hw.mem _ m0) (by simp))) rfl ?_))
 refine sE rfl (sE rfl ?_)
 cases hg : [a].all R.good
 ·skip
  refine WL_n rfl (WL_n rfl (WL_n rfl (WL_n rfl (sE rfl (sE rfl (nl J (J3 _ _ (bF_ rfl (Sq fun K4 J4 => Rk fun K J => sE rfl (nl J (J4 _ _ (W_ret (aB_ (ai_ (ret1 rfl (.inr rfl) rfl ?_)))))))))))))))
  exact congrArg _ (g2_ ha (.inl (by simpa using hg)))
 ·skip
  refine sQ (aW_ bv_ (by decide) rfl) rfl (sQ (cs_ (vs := uw a.w) ty_35 rfl (by repeat (first | exact .head _ | apply List.mem_append_right | apply List.Mem.tail)) (dp_ ha.len) ((ck_ _).trans ha.len)) rfl ?_)
  refine sQ (d6_ z_35 ar_35 rfl (.nil _)) rfl ?_
  refine sQ (h0_ (r := a.zero) rfl rfl (dU_ 8 (by decide) eg_35 lv_35 (dM_ ha.len) (dM_ (by simp)) ha.zero_iff)) rfl ?_
  refine sE rfl (sE rfl (nl J (J3 _ _ ?_)))
  refine a6_ _ rfl (fun hz => ?_) (fun hz => ?_)
  ·(try simp only [decide_eq_true_eq, decide_eq_false_iff_not, beq_iff_eq, bne_iff_ne, beq_eq_false_iff_ne, bne_eq_false_iff_eq, Bool.not_eq_true', Bool.not_eq_false'] at hz)
   refine Sq fun K5 J5 => Rk fun K J => sE rfl (nl J (J5 _ _ (W_ret (aB_ (ai_ (ret1 rfl (.inr rfl) rfl ?_))))))
   exact congrArg _ (g2_ ha (.inr hz))
  ·(try simp only [decide_eq_true_eq, decide_eq_false_iff_not, beq_iff_eq, bne_iff_ne, beq_eq_false_iff_ne, bne_eq_false_iff_eq, Bool.not_eq_true', Bool.not_eq_false'] at hz)
   refine Sq fun K6 J6 => Rk fun K J => sQ (aW_ bq_ (by decide) rfl) rfl (sQ (bf_ ty_4 rfl (by repeat (first | exact .head _ | apply List.mem_append_right | apply List.Mem.tail)) rfl) rfl ?_)
   refine sE rfl (nl J (J6 _ _ ?_))
   refine a6_ _ rfl (fun hn => ?_) (fun hn => ?_)
   ·(try simp only [decide_eq_true_eq, decide_eq_false_iff_not, beq_iff_eq, bne_iff_ne, beq_eq_false_iff_ne, bne_eq_false_iff_eq, Bool.not_eq_true', Bool.not_eq_false'] at hn)
    refine Sq fun K7 J7 => Rk fun K J => sE rfl (nl J (J7 _ _ (W_ret (aB_ (ai_ (ret1 rfl (.inr rfl) rfl ?_))))))
    exact congrArg _ (kF_ ha (by simpa using hg) hz hn)
   ·(try simp only [decide_eq_true_eq, decide_eq_false_iff_not, beq_iff_eq, bne_iff_ne, beq_eq_false_iff_ne, bne_eq_false_iff_eq, Bool.not_eq_true', Bool.not_eq_false'] at hn)
    refine ak_ (J2 _ _ (Sq fun K8 J8 => Rk fun K J => sE rfl (nl J (J8 _ _ (W_ret (ret1 rfl (.inr rfl) rfl ?_))))))
    exact congrArg _ (kX_ ha (by simpa using hg) hz hn)

theorem bJ_ (n : Int) (hn : I64 n) :
    Ret Tryz.prog 61 [.int .i64 n] (RV (Z.of n).enc) := by
 refine av_ (N := 19) Tryz.func61 rfl rfl (by simp) (fun w0 => ?_)
 simp only [initF, Nat.reduceAdd]
 refine Sq fun K1 J1 => Rk fun K J => WL_r rfl (bl_ z_37 (fun b2 hb2 => nl J (J1 _ _ (Sq fun K2 J2 => Rk fun K J => sE rfl (sQ (bt_ in_3 bT_ rfl) rfl (sE rfl (nl J (J2 _ _ (Sq fun K3 J3 => Sq fun K4 J4 => Rk fun K J => sE rfl (sE rfl (nl J (J4 _ _ ?_))))))))))))
 refine a6_ _ rfl (fun h0 => ?_) (fun h0 => ?_)
 ·(try simp only [decide_eq_true_eq, decide_eq_false_iff_not, beq_iff_eq, bne_iff_ne, beq_eq_false_iff_ne, bne_eq_false_iff_eq, Bool.not_eq_true', Bool.not_eq_false'] at h0)
  refine Rk fun K J => sE rfl (sQ (q_as (q_neg rfl) (congrArg (Value.int .u64) (ry_ hn h0))) rfl (sE rfl (nl J (J3 _ _ (Sq fun K5 J5 => Rk fun K J => sE rfl (sE rfl (sQ (q_as (c5_ rfl) (show _ = Value.int .u64 ((n.natAbs : Nat) : Int) from by first | rfl | exact congrArg (Value.int .u64) (ls_ hn h0))) rfl ?_)))))))
  refine sQ (bt_ bT_ in_34 rfl) rfl (sQ (q_as (c5_ rfl) (show _ = Value.int .u64 ((n.natAbs : Nat) : Int) from by first | rfl | exact congrArg (Value.int .u64) (ls_ hn h0))) rfl ?_)
  refine sQ (q_as (q_shr rfl rfl (by decide)) (congrArg (Value.int .u64) (ex_ _ 32))) rfl (sQ (bt_ bT_ in_34 rfl) rfl (sQ (d6_ z_35 ar_35 rfl (fill2 (of_lo _) (of_hi (by unfold I64 at hn; omega)))) rfl (sQ (q_ret eu_ (bn_ (decide (n < 0)) _ (by simp) (lim2 (Nat.mod_lt _ (by decide)) (by unfold I64 at hn; omega) 14)) rfl) rfl ?_)))
  refine WL_r rfl (aG_ ty_37 rfl rfl (by repeat (first | exact .head _ | apply Upd.left | apply Upd.tail)) (cC_ (by simp)) rfl (at_ _) (.inl (by assumption)) ?_)
  refine nl J (J5 _ _ (W_ret (ret1 rfl (.inr rfl) ⟨_, _, _, _, _, _, rfl, (by repeat (first | exact .head _ | apply List.mem_append_right | apply List.Mem.tail)), ty_37, _, (bd_ (cC_ (by simp))), (cC_ (by simp)), rfl⟩ ?_)))
  exact congrArg RV (oZ_ hn rfl rfl)
 ·(try simp only [decide_eq_true_eq, decide_eq_false_iff_not, beq_iff_eq, bne_iff_ne, beq_eq_false_iff_ne, bne_eq_false_iff_eq, Bool.not_eq_true', Bool.not_eq_false'] at h0)
  refine ak_ (J3 _ _ (Sq fun K6 J6 => Rk fun K J => sE rfl (sE rfl (sQ (q_as (c5_ rfl) (show _ = Value.int .u64 ((n.natAbs : Nat) : Int) from by first | rfl | exact congrArg (Value.int .u64) (ls_ hn h0))) rfl ?_))))
  refine sQ (bt_ bT_ in_34 rfl) rfl (sQ (q_as (c5_ rfl) (show _ = Value.int .u64 ((n.natAbs : Nat) : Int) from by first | rfl | exact congrArg (Value.int .u64) (ls_ hn h0))) rfl ?_)
  refine sQ (q_as (q_shr rfl rfl (by decide)) (congrArg (Value.int .u64) (ex_ _ 32))) rfl (sQ (bt_ bT_ in_34 rfl) rfl (sQ (d6_ z_35 ar_35 rfl (fill2 (of_lo _) (of_hi (by unfold I64 at hn; omega)))) rfl (sQ (q_ret eu_ (bn_ (decide (n < 0)) _ (by simp) (lim2 (Nat.mod_lt _ (by decide)) (by unfold I64 at hn; omega) 14)) rfl) rfl ?_)))
  refine WL_r rfl (aG_ ty_37 rfl rfl (by repeat (first | exact .head _ | apply Upd.left | apply Upd.tail)) (cC_ (by simp)) rfl (at_ _) (.inl (by assumption)) ?_)
  refine nl J (J6 _ _ (W_ret (ret1 rfl (.inr rfl) ⟨_, _, _, _, _, _, rfl, (by repeat (first | exact .head _ | apply List.mem_append_right | apply List.Mem.tail)), ty_37, _, (bd_ (cC_ (by simp))), (cC_ (by simp)), rfl⟩ ?_)))
  exact congrArg RV (oZ_ hn rfl rfl)
end Go.Proofs.YtapbefpeopaecaaGreatDoor

