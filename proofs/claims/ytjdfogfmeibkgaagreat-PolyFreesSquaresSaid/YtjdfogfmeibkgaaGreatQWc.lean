/- Walks: what these functions return. -/
import Derived.Test.YtjdfogfmeibkgaaGreatQGE
import Derived.Test.YtjdfogfmeibkgaaGreatQWa
namespace Go.Proofs.YtjdfogfmeibkgaaGreat
open Go.Kn Go.Num
set_option linter.unusedVariables false
set_option linter.unusedSimpArgs false
set_option maxRecDepth 20000
set_option maxHeartbeats 8000000
theorem e4_ (a : R) (ha : a.Ok) :
    Ret Tryz.prog 120 [RV a] (RV (Z.neg a.dec).enc) := by
 refine aM_ (N := 14) Tryz.func120 rfl rfl (by simp) (fun w0 => ?_)
 simp only [initF, Nat.reduceAdd]
 refine Sq fun K1 J1 => Rk fun K J => WL_r rfl (r_box rfl rfl (fun b1 hb1 => WL_r rfl (bb_ z_38 (fun b2 hb2 => nl J (J1 _ _ (Sq fun K2 J2 => Sq fun K3 J3 => Rk fun K J => sQ (aG_ ty_38 rfl (by repeat (first | exact .head _ | apply List.mem_append_right | apply List.Mem.tail)) (a0_ ha)) rfl ?_))))))
 refine WL_r rfl (cS_ us_22 z_38 sz_38 rfl (by decide) rfl (jr_ ha) (fun b4 hb4 => sQ (aH_ en_95 rfl (fun w hw => cb_ [a] (ok1 ha) b4 38 w (hw.mem _ m0) (by simp))) rfl ?_))
 refine sE rfl (nl J (J3 _ _ ?_))
 refine be_ _ rfl (fun hg => ?_) (fun hg => ?_)
 ·(try simp only [decide_eq_true_eq, decide_eq_false_iff_not, beq_iff_eq, bne_iff_ne, beq_eq_false_iff_ne, bne_eq_false_iff_eq, Bool.not_eq_true', Bool.not_eq_false'] at hg)
  refine Sq fun K4 J4 => Rk fun K J => sQ (q_ret en_65 bz_ rfl) rfl (WL_r rfl (at_ ty_38 rfl rfl (by repeat (first | exact .head _ | apply Upd.left | apply Upd.tail)) (ag_ _) rfl (ar_ _) (.inl (by assumption)) ?_))
  refine nl J (J4 _ _ (W_ret (aj_ (ret1 rfl (.inr rfl) ⟨_, _, _, _, _, _, rfl, (by repeat (first | exact .head _ | apply List.mem_append_right | apply List.Mem.tail)), ty_38, _, (a1_ (ag_ _)), (ag_ _), rfl⟩ ?_))))
  (rw [Z.neg, fG_ (kJ_ hg)]; rfl)
 ·(try simp only [decide_eq_true_eq, decide_eq_false_iff_not, beq_iff_eq, bne_iff_ne, beq_eq_false_iff_ne, bne_eq_false_iff_eq, Bool.not_eq_true', Bool.not_eq_false'] at hg)
  refine am_ (J2 _ _ (Sq fun K5 J5 => Rk fun K J => sQ (aJ_ ct_ (by decide) rfl) rfl (sQ (bd_ ty_4 rfl (by repeat (first | exact .head _ | apply List.mem_append_right | apply List.Mem.tail)) rfl) rfl ?_)))
  refine sE rfl (sQ (aJ_ bB_ (by decide) rfl) rfl (sQ (b8_ (vs := uw a.w) ty_36 rfl (by repeat (first | exact .head _ | apply List.mem_append_right | apply List.Mem.tail)) (dj_ ha.len) ((bX_ _).trans ha.len)) rfl ?_))
  refine sQ (q_ret eE_ (a4_ (!a.neg) a.w ha.len ha.lim) rfl) rfl (WL_r rfl (at_ ty_38 rfl rfl (by repeat (first | exact .head _ | apply Upd.left | apply Upd.tail)) (cs_ ha.len) rfl (ar_ _) (.inl (by assumption)) ?_))
  refine nl J (J5 _ _ (W_ret (ret1 rfl (.inr rfl) ⟨_, _, _, _, _, _, rfl, (by repeat (first | exact .head _ | apply List.mem_append_right | apply List.Mem.tail)), ty_38, _, (a1_ (cs_ ha.len)), (cs_ ha.len), rfl⟩ ?_)))
  exact congrArg RV (q7_ ha (by simpa using hg))

theorem e5_ (a : R) (ha : a.Ok) :
    Ret Tryz.prog 44 [RV a] (RV (Z.abs a.dec).enc) := by
 refine aM_ (N := 11) Tryz.func44 rfl rfl (by simp) (fun w0 => ?_)
 simp only [initF, Nat.reduceAdd]
 refine Sq fun K1 J1 => Rk fun K J => WL_r rfl (r_box rfl rfl (fun b1 hb1 => WL_r rfl (bb_ z_38 (fun b2 hb2 => nl J (J1 _ _ (Sq fun K2 J2 => Sq fun K3 J3 => Rk fun K J => sQ (aG_ ty_38 rfl (by repeat (first | exact .head _ | apply List.mem_append_right | apply List.Mem.tail)) (a0_ ha)) rfl ?_))))))
 refine WL_r rfl (cS_ us_22 z_38 sz_38 rfl (by decide) rfl (jr_ ha) (fun b4 hb4 => sQ (aH_ en_95 rfl (fun w hw => cb_ [a] (ok1 ha) b4 38 w (hw.mem _ m0) (by simp))) rfl ?_))
 refine sE rfl (nl J (J3 _ _ ?_))
 refine be_ _ rfl (fun hg => ?_) (fun hg => ?_)
 ·(try simp only [decide_eq_true_eq, decide_eq_false_iff_not, beq_iff_eq, bne_iff_ne, beq_eq_false_iff_ne, bne_eq_false_iff_eq, Bool.not_eq_true', Bool.not_eq_false'] at hg)
  refine Sq fun K4 J4 => Rk fun K J => sQ (q_ret en_65 bz_ rfl) rfl (WL_r rfl (at_ ty_38 rfl rfl (by repeat (first | exact .head _ | apply Upd.left | apply Upd.tail)) (ag_ _) rfl (ar_ _) (.inl (by assumption)) ?_))
  refine nl J (J4 _ _ (W_ret (aj_ (ret1 rfl (.inr rfl) ⟨_, _, _, _, _, _, rfl, (by repeat (first | exact .head _ | apply List.mem_append_right | apply List.Mem.tail)), ty_38, _, (a1_ (ag_ _)), (ag_ _), rfl⟩ ?_))))
  (rw [Z.abs, fG_ (kJ_ hg)]; rfl)
 ·(try simp only [decide_eq_true_eq, decide_eq_false_iff_not, beq_iff_eq, bne_iff_ne, beq_eq_false_iff_ne, bne_eq_false_iff_eq, Bool.not_eq_true', Bool.not_eq_false'] at hg)
  refine am_ (J2 _ _ (Sq fun K5 J5 => Rk fun K J => sQ (aJ_ bB_ (by decide) rfl) rfl (sQ (b8_ (vs := uw a.w) ty_36 rfl (by repeat (first | exact .head _ | apply List.mem_append_right | apply List.Mem.tail)) (dj_ ha.len) ((bX_ _).trans ha.len)) rfl ?_)))
  refine sQ (q_ret eE_ (a4_ false a.w ha.len ha.lim) rfl) rfl (WL_r rfl (at_ ty_38 rfl rfl (by repeat (first | exact .head _ | apply Upd.left | apply Upd.tail)) (cs_ ha.len) rfl (ar_ _) (.inl (by assumption)) ?_))
  refine nl J (J5 _ _ (W_ret (ret1 rfl (.inr rfl) ⟨_, _, _, _, _, _, rfl, (by repeat (first | exact .head _ | apply List.mem_append_right | apply List.Mem.tail)), ty_38, _, (a1_ (cs_ ha.len)), (cs_ ha.len), rfl⟩ ?_)))
  exact congrArg RV (qp_ ha (by simpa using hg))

theorem cY_ (a b : R) (ha : a.Ok) (hb : b.Ok) :
    Ret Tryz.prog 94 [RV a, RV b] (RV (Z.add a.dec b.dec).enc) := by
 refine aM_ (N := 55) Tryz.func94 rfl rfl (by simp) (fun w0 => ?_)
 simp only [initF, Nat.reduceAdd]
 refine Sq fun K1 J1 => Rk fun K J => WL_r rfl (r_box rfl rfl (fun b2 hb2 => WL_r rfl (r_box rfl rfl (fun b3 hb3 => WL_r rfl (bb_ z_38 (fun b4 hb4 => nl J (J1 _ _ (Sq fun K2 J2 => Sq fun K3 J3 => Rk fun K J => sQ (aG_ ty_38 rfl (by repeat (first | exact .head _ | apply List.mem_append_right | apply List.Mem.tail)) (a0_ ha)) rfl ?_))))))))
 refine sQ (aG_ ty_38 rfl (by repeat (first | exact .head _ | apply List.mem_append_right | apply List.Mem.tail)) (a0_ hb)) rfl ?_
 refine WL_r rfl (cS_ us_22 z_38 sz_38 rfl (by decide) rfl (kC_ ha hb) (fun b9 hb9 => sQ (aH_ en_95 rfl (fun w hw => cb_ [a, b] (ok2 ha hb) b9 38 w (hw.mem _ m0) (by simp))) rfl ?_))
 refine sE rfl (nl J (J3 _ _ ?_))
 refine be_ _ rfl (fun hg => ?_) (fun hg => ?_)
 ·(try simp only [decide_eq_true_eq, decide_eq_false_iff_not, beq_iff_eq, bne_iff_ne, beq_eq_false_iff_ne, bne_eq_false_iff_eq, Bool.not_eq_true', Bool.not_eq_false'] at hg)
  refine Sq fun K4 J4 => Rk fun K J => sQ (q_ret en_65 bz_ rfl) rfl (WL_r rfl (at_ ty_38 rfl rfl (by repeat (first | exact .head _ | apply Upd.left | apply Upd.tail)) (ag_ _) rfl (ar_ _) (.inl (by assumption)) ?_))
  refine nl J (J4 _ _ (W_ret (aj_ (ret1 rfl (.inr rfl) ⟨_, _, _, _, _, _, rfl, (by repeat (first | exact .head _ | apply List.mem_append_right | apply List.Mem.tail)), ty_38, _, (a1_ (ag_ _)), (ag_ _), rfl⟩ ?_))))
  (rw [Z.add, dP_ (g9_ hg)]; rfl)
 ·(try simp only [decide_eq_true_eq, decide_eq_false_iff_not, beq_iff_eq, bne_iff_ne, beq_eq_false_iff_ne, bne_eq_false_iff_eq, Bool.not_eq_true', Bool.not_eq_false'] at hg)
  have hg := all2.1 hg
  refine am_ (J2 _ _ (Sq fun K5 J5 => Sq fun K6 J6 => Rk fun K J => sQ (aJ_ ct_ (by decide) rfl) rfl (sQ (bd_ ty_4 rfl (by repeat (first | exact .head _ | apply List.mem_append_right | apply List.Mem.tail)) rfl) rfl ?_)))
  refine sQ (aJ_ ct_ (by decide) rfl) rfl (sQ (bd_ ty_4 rfl (by repeat (first | exact .head _ | apply List.mem_append_right | apply List.Mem.tail)) rfl) rfl ?_)
  refine sQ (p9_ bo_4 rfl rfl) rfl (nl J (J6 _ _ ?_))
  refine be_ _ rfl (fun hn => ?_) (fun hn => ?_)
  ·(try simp only [decide_eq_true_eq, decide_eq_false_iff_not, beq_iff_eq, bne_iff_ne, beq_eq_false_iff_ne, bne_eq_false_iff_eq, Bool.not_eq_true', Bool.not_eq_false'] at hn)
   refine Sq fun K7 J7 => Rk fun K J => sQ (aJ_ bB_ (by decide) rfl) rfl (sQ (b8_ (vs := uw a.w) ty_36 rfl (by repeat (first | exact .head _ | apply List.mem_append_right | apply List.Mem.tail)) (dj_ ha.len) ((bX_ _).trans ha.len)) rfl ?_)
   refine sQ (aJ_ bB_ (by decide) rfl) rfl (sQ (b8_ (vs := uw b.w) ty_36 rfl (by repeat (first | exact .head _ | apply List.mem_append_right | apply List.Mem.tail)) (dj_ hb.len) ((bX_ _).trans hb.len)) rfl ?_)
   refine sQ (q_ret qt_ (hZ_ a.w b.w ha.len hb.len ha.lim hb.lim) rfl) rfl (sE rfl (sE rfl (sE rfl (WL_r rfl (bb_ z_36 (fun b5 hb5 => WL_r rfl (at_ ty_36 rfl rfl (by repeat (first | exact .head _ | apply Upd.left | apply Upd.tail)) (by rw [bX_, aE_]) rfl (bH_ _) (.inl (by assumption)) ?_)))))))
   refine sE rfl (nl J (J7 _ _ (Sq fun K8 J8 => Sq fun K9 J9 => Rk fun K J => sE rfl (sE rfl (nl J (J9 _ _ ?_))))))
   refine be_ _ rfl (fun hc => ?_) (fun hc => ?_)
   ·(try simp only [decide_eq_true_eq, decide_eq_false_iff_not, beq_iff_eq, bne_iff_ne, beq_eq_false_iff_ne, bne_eq_false_iff_eq, Bool.not_eq_true', Bool.not_eq_false'] at hc)
    refine Sq fun K10 J10 => Rk fun K J => sQ (q_ret en_65 bz_ rfl) rfl (WL_r rfl (at_ ty_38 rfl rfl (by repeat (first | exact .head _ | apply Upd.left | apply Upd.tail)) (ag_ _) rfl (ar_ _) (.inl (by assumption)) ?_))
    refine nl J (J10 _ _ (W_ret (aj_ (aj_ (ret1 rfl (.inr rfl) ⟨_, _, _, _, _, _, rfl, (by repeat (first | exact .head _ | apply List.mem_append_right | apply List.Mem.tail)), ty_38, _, (a1_ (ag_ _)), (ag_ _), rfl⟩ ?_)))))
    exact congrArg RV (oq_ ha hb hg.1 hg.2 hn (by omega))
   ·(try simp only [decide_eq_true_eq, decide_eq_false_iff_not, beq_iff_eq, bne_iff_ne, beq_eq_false_iff_ne, bne_eq_false_iff_eq, Bool.not_eq_true', Bool.not_eq_false'] at hc)
    refine am_ (J8 _ _ (Sq fun K11 J11 => Rk fun K J => sQ (aJ_ ct_ (by decide) rfl) rfl (sQ (bd_ ty_4 rfl (by repeat (first | exact .head _ | apply List.mem_append_right | apply List.Mem.tail)) rfl) rfl ?_)))
    refine sQ (aG_ ty_36 rfl (by repeat (first | exact .head _ | apply List.mem_append_right | apply List.Mem.tail)) (by rw [bX_, aE_])) rfl ?_
    refine sQ (q_ret eE_ (a4_ a.neg _ (aE_ _ _) (cJ_ _ _)) rfl) rfl (WL_r rfl (at_ ty_38 rfl rfl (by repeat (first | exact .head _ | apply Upd.left | apply Upd.tail)) (cs_ (aE_ _ _)) rfl (ar_ _) (.inl (by assumption)) ?_))
    refine nl J (J11 _ _ (W_ret (aj_ (ret1 rfl (.inr rfl) ⟨_, _, _, _, _, _, rfl, (by repeat (first | exact .head _ | apply List.mem_append_right | apply List.Mem.tail)), ty_38, _, (a1_ (cs_ (aE_ _ _))), (cs_ (aE_ _ _)), rfl⟩ ?_))))
    exact congrArg RV (nX_ ha hb hg.1 hg.2 hn (by omega))
  ·(try simp only [decide_eq_true_eq, decide_eq_false_iff_not, beq_iff_eq, bne_iff_ne, beq_eq_false_iff_ne, bne_eq_false_iff_eq, Bool.not_eq_true', Bool.not_eq_false'] at hn)
   refine am_ (J5 _ _ (Sq fun K12 J12 => Sq fun K13 J13 => Rk fun K J => sQ (aJ_ bB_ (by decide) rfl) rfl (sQ (b8_ (vs := uw a.w) ty_36 rfl (by repeat (first | exact .head _ | apply List.mem_append_right | apply List.Mem.tail)) (dj_ ha.len) ((bX_ _).trans ha.len)) rfl ?_)))
   refine sQ (aJ_ bB_ (by decide) rfl) rfl (sQ (b8_ (vs := uw b.w) ty_36 rfl (by repeat (first | exact .head _ | apply List.mem_append_right | apply List.Mem.tail)) (dj_ hb.len) ((bX_ _).trans hb.len)) rfl ?_)
   refine sQ (q_ret oF_ (fL_ a.w b.w ha.len hb.len ha.lim hb.lim) rfl) rfl (sE rfl (nl J (J13 _ _ ?_)))
   refine be_ _ rfl (fun ho => ?_) (fun ho => ?_)
   ·(try simp only [decide_eq_true_eq, decide_eq_false_iff_not, beq_iff_eq, bne_iff_ne, beq_eq_false_iff_ne, bne_eq_false_iff_eq, Bool.not_eq_true', Bool.not_eq_false'] at ho)
    have hle : val b.w ≤ val a.w := mn_ ho
    refine Sq fun K14 J14 => dr (sk (sd (sk (sk (s0))))) [0,4,8,12,16,20,24,28,33] [8] mix (by kernel_rfl) (fun K J => pQ rfl (aJ_ ct_ (by decide) rfl) (pQ rfl (bd_ ty_4 rfl (by repeat (first | exact .head _ | apply List.mem_append_right | apply List.Mem.tail)) rfl) ?_))
    refine pQ rfl (aJ_ bB_ (by decide) rfl) (pQ rfl (b8_ (vs := uw a.w) ty_36 rfl (by repeat (first | exact .head _ | apply List.mem_append_right | apply List.Mem.tail)) (dj_ ha.len) ((bX_ _).trans ha.len)) ?_)
    refine pQ rfl (aJ_ bB_ (by decide) rfl) (pQ rfl (b8_ (vs := uw b.w) ty_36 rfl (by repeat (first | exact .head _ | apply List.mem_append_right | apply List.Mem.tail)) (dj_ hb.len) ((bX_ _).trans hb.len)) ?_)
    refine pQ rfl (q_ret mD_ (ey_ a.w b.w ha.len hb.len ha.lim hb.lim hle) rfl) (pQ rfl (q_ret eE_ (a4_ a.neg _ (aE_ _ _) (cJ_ _ _)) rfl) ?_)
    refine PL_o rfl rfl (at_ ty_38 rfl rfl (by repeat (first | exact .head _ | apply Upd.left | apply Upd.tail)) (cs_ (aE_ _ _)) rfl (ar_ _) (.inl (by assumption)) ⟨nf, (by repeat (first | exact s0 | exact sn | refine sk ?_ | refine sd ?_ | refine sA ?_ | refine sR ?_)), ?_⟩)
    refine fl J (J14 _ _ (W_ret (aj_ (ret1 rfl (.inr rfl) ⟨_, _, _, _, _, _, rfl, (by repeat (first | exact .head _ | apply List.mem_append_right | apply List.Mem.tail)), ty_38, _, (a1_ (cs_ (aE_ _ _))), (cs_ (aE_ _ _)), rfl⟩ ?_))))
    exact congrArg RV (od_ ha hb hg.1 hg.2 hn hle)
   ·(try simp only [decide_eq_true_eq, decide_eq_false_iff_not, beq_iff_eq, bne_iff_ne, beq_eq_false_iff_ne, bne_eq_false_iff_eq, Bool.not_eq_true', Bool.not_eq_false'] at ho)
    have hle : val a.w ≤ val b.w := n7_ ho
    refine am_ (J12 _ _ (Sq fun K15 J15 => dr (sk (sd (sk (sk (s0))))) [0,4,8,12,16,20,24,28,33] [8] mix (by kernel_rfl) (fun K J => pQ rfl (aJ_ ct_ (by decide) rfl) (pQ rfl (bd_ ty_4 rfl (by repeat (first | exact .head _ | apply List.mem_append_right | apply List.Mem.tail)) rfl) ?_))))
    refine pQ rfl (aJ_ bB_ (by decide) rfl) (pQ rfl (b8_ (vs := uw b.w) ty_36 rfl (by repeat (first | exact .head _ | apply List.mem_append_right | apply List.Mem.tail)) (dj_ hb.len) ((bX_ _).trans hb.len)) ?_)
    refine pQ rfl (aJ_ bB_ (by decide) rfl) (pQ rfl (b8_ (vs := uw a.w) ty_36 rfl (by repeat (first | exact .head _ | apply List.mem_append_right | apply List.Mem.tail)) (dj_ ha.len) ((bX_ _).trans ha.len)) ?_)
    refine pQ rfl (q_ret mD_ (ey_ b.w a.w hb.len ha.len hb.lim ha.lim hle) rfl) (pQ rfl (q_ret eE_ (a4_ b.neg _ (aE_ _ _) (cJ_ _ _)) rfl) ?_)
    refine PL_o rfl rfl (at_ ty_38 rfl rfl (by repeat (first | exact .head _ | apply Upd.left | apply Upd.tail)) (cs_ (aE_ _ _)) rfl (ar_ _) (.inl (by assumption)) ⟨nf, (by repeat (first | exact s0 | exact sn | refine sk ?_ | refine sd ?_ | refine sA ?_ | refine sR ?_)), ?_⟩)
    refine fl J (J15 _ _ (W_ret (ret1 rfl (.inr rfl) ⟨_, _, _, _, _, _, rfl, (by repeat (first | exact .head _ | apply List.mem_append_right | apply List.Mem.tail)), ty_38, _, (a1_ (cs_ (aE_ _ _))), (cs_ (aE_ _ _)), rfl⟩ ?_)))
    exact congrArg RV (nM_ ha hb hg.1 hg.2 hn hle)

theorem dg_ (a b : R) (ha : a.Ok) (hb : b.Ok) :
    Ret Tryz.prog 78 [RV a, RV b] (RV (Z.sub a.dec b.dec).enc) := by
 refine aM_ (N := 9) Tryz.func78 rfl rfl (by simp) (fun w0 => ?_)
 simp only [initF, Nat.reduceAdd]
 refine Sq fun K1 J1 => Rk fun K J => WL_r rfl (r_box rfl rfl (fun b2 hb2 => WL_r rfl (r_box rfl rfl (fun b3 hb3 => WL_r rfl (bb_ z_38 (fun b4 hb4 => nl J (J1 _ _ (Sq fun K2 J2 => dr (sd (sk (sk (s0)))) [0,4,8,12,17] [4] mix (by kernel_rfl) (fun K J => pQ rfl (aG_ ty_38 rfl (by repeat (first | exact .head _ | apply List.mem_append_right | apply List.Mem.tail)) (a0_ ha)) ?_)))))))))
 refine pQ rfl (aG_ ty_38 rfl (by repeat (first | exact .head _ | apply List.mem_append_right | apply List.Mem.tail)) (a0_ hb)) ?_
 refine pQ rfl (q_ret mp_ (e4_ b hb) rfl) (pQ rfl (q_ret en_94 (cY_ a (Z.neg b.dec).enc ha (Z.enc_ok _)) rfl) ?_)
 refine PL_o rfl rfl (at_ ty_38 rfl rfl (by repeat (first | exact .head _ | apply Upd.left | apply Upd.tail)) (ag_ _) rfl (ar_ _) (.inl (by assumption)) ⟨nf, (by repeat (first | exact s0 | exact sn | refine sk ?_ | refine sd ?_ | refine sA ?_ | refine sR ?_)), ?_⟩)
 refine fl J (J2 _ _ (W_ret (ret1 rfl (.inr rfl) ⟨_, _, _, _, _, _, rfl, (by repeat (first | exact .head _ | apply List.mem_append_right | apply List.Mem.tail)), ty_38, _, (a1_ (ag_ _)), (ag_ _), rfl⟩ ?_)))
 (rw [gL_]; rfl)

theorem bK_ (a : R) (ha : a.Ok) :
    Ret Tryz.prog 32 [RV a] (.int .i64 a.dec.sign) := by
 refine aM_ (N := 17) Tryz.func32 rfl rfl (by simp) (fun w0 => ?_)
 simp only [initF, Nat.reduceAdd]
 refine Sq fun K1 J1 => Rk fun K J => WL_r rfl (r_box rfl rfl (fun b1 hb1 => sE rfl (nl J (J1 _ _ (Sq fun K2 J2 => aq_ (Sq fun K3 J3 => Rk fun K J => sQ (aG_ ty_38 rfl (by repeat (first | exact .head _ | apply List.mem_append_right | apply List.Mem.tail)) (a0_ ha)) rfl ?_))))))
 refine WL_r rfl (cS_ us_22 z_38 sz_38 rfl (by decide) rfl (jr_ ha) (fun b5 hb5 => sQ (aH_ en_95 rfl (fun w hw => cb_ [a] (ok1 ha) b5 38 w (hw.mem _ m0) (by simp))) rfl ?_))
 refine sE rfl (sE rfl ?_)
 cases hg : [a].all R.good
 ·skip
  refine WL_n rfl (WL_n rfl (WL_n rfl (WL_n rfl (sE rfl (sE rfl (nl J (J3 _ _ (hv_ rfl (Sq fun K4 J4 => Rk fun K J => sE rfl (nl J (J4 _ _ (W_ret (aX_ (aj_ (ret1 rfl (.inr rfl) rfl ?_)))))))))))))))
  exact congrArg _ (gB_ ha (.inl (by simpa using hg)))
 ·skip
  refine sQ (aJ_ bB_ (by decide) rfl) rfl (sQ (b8_ (vs := uw a.w) ty_36 rfl (by repeat (first | exact .head _ | apply List.mem_append_right | apply List.Mem.tail)) (dj_ ha.len) ((bX_ _).trans ha.len)) rfl ?_)
  refine sQ (dt_ z_36 ar_36 rfl (.nil _)) rfl ?_
  refine sQ (gd_ (r := a.zero) rfl rfl (dz_ 8 (by decide) eg_36 lv_36 (cX_ ha.len) (cX_ (by simp)) ha.zero_iff)) rfl ?_
  refine sE rfl (sE rfl (nl J (J3 _ _ ?_)))
  refine be_ _ rfl (fun hz => ?_) (fun hz => ?_)
  ·(try simp only [decide_eq_true_eq, decide_eq_false_iff_not, beq_iff_eq, bne_iff_ne, beq_eq_false_iff_ne, bne_eq_false_iff_eq, Bool.not_eq_true', Bool.not_eq_false'] at hz)
   refine Sq fun K5 J5 => Rk fun K J => sE rfl (nl J (J5 _ _ (W_ret (aX_ (aj_ (ret1 rfl (.inr rfl) rfl ?_))))))
   exact congrArg _ (gB_ ha (.inr hz))
  ·(try simp only [decide_eq_true_eq, decide_eq_false_iff_not, beq_iff_eq, bne_iff_ne, beq_eq_false_iff_ne, bne_eq_false_iff_eq, Bool.not_eq_true', Bool.not_eq_false'] at hz)
   refine Sq fun K6 J6 => Rk fun K J => sQ (aJ_ ct_ (by decide) rfl) rfl (sQ (bd_ ty_4 rfl (by repeat (first | exact .head _ | apply List.mem_append_right | apply List.Mem.tail)) rfl) rfl ?_)
   refine sE rfl (nl J (J6 _ _ ?_))
   refine be_ _ rfl (fun hn => ?_) (fun hn => ?_)
   ·(try simp only [decide_eq_true_eq, decide_eq_false_iff_not, beq_iff_eq, bne_iff_ne, beq_eq_false_iff_ne, bne_eq_false_iff_eq, Bool.not_eq_true', Bool.not_eq_false'] at hn)
    refine Sq fun K7 J7 => Rk fun K J => sE rfl (nl J (J7 _ _ (W_ret (aX_ (aj_ (ret1 rfl (.inr rfl) rfl ?_))))))
    exact congrArg _ (ld_ ha (by simpa using hg) hz hn)
   ·(try simp only [decide_eq_true_eq, decide_eq_false_iff_not, beq_iff_eq, bne_iff_ne, beq_eq_false_iff_ne, bne_eq_false_iff_eq, Bool.not_eq_true', Bool.not_eq_false'] at hn)
    refine am_ (J2 _ _ (Sq fun K8 J8 => Rk fun K J => sE rfl (nl J (J8 _ _ (W_ret (ret1 rfl (.inr rfl) rfl ?_))))))
    exact congrArg _ (lj_ ha (by simpa using hg) hz hn)

theorem aY_ (n : Int) (hn : I64 n) :
    Ret Tryz.prog 62 [.int .i64 n] (RV (Z.of n).enc) := by
 refine aM_ (N := 19) Tryz.func62 rfl rfl (by simp) (fun w0 => ?_)
 simp only [initF, Nat.reduceAdd]
 refine Sq fun K1 J1 => Rk fun K J => WL_r rfl (bb_ z_38 (fun b2 hb2 => nl J (J1 _ _ (Sq fun K2 J2 => Rk fun K J => sE rfl (sQ (a3_ in_3 in_94 rfl) rfl (sE rfl (nl J (J2 _ _ (Sq fun K3 J3 => Sq fun K4 J4 => Rk fun K J => sE rfl (sE rfl (nl J (J4 _ _ ?_))))))))))))
 refine be_ _ rfl (fun h0 => ?_) (fun h0 => ?_)
 ·(try simp only [decide_eq_true_eq, decide_eq_false_iff_not, beq_iff_eq, bne_iff_ne, beq_eq_false_iff_ne, bne_eq_false_iff_eq, Bool.not_eq_true', Bool.not_eq_false'] at h0)
  refine Rk fun K J => sE rfl (sQ (q_as (q_neg rfl) (congrArg (Value.int .u64) (qD_ hn h0))) rfl (sE rfl (nl J (J3 _ _ (Sq fun K5 J5 => Rk fun K J => sE rfl (sE rfl (sQ (q_as (db_ rfl) (show _ = Value.int .u64 ((n.natAbs : Nat) : Int) from by first | rfl | exact congrArg (Value.int .u64) (lE_ hn h0))) rfl ?_)))))))
  refine sQ (a3_ in_94 in_35 rfl) rfl (sQ (q_as (db_ rfl) (show _ = Value.int .u64 ((n.natAbs : Nat) : Int) from by first | rfl | exact congrArg (Value.int .u64) (lE_ hn h0))) rfl ?_)
  refine sQ (q_as (q_shr rfl rfl (by decide)) (congrArg (Value.int .u64) (dU_ _ 32))) rfl (sQ (a3_ in_94 in_35 rfl) rfl (sQ (dt_ z_36 ar_36 rfl (fill2 (of_lo _) (of_hi (by unfold I64 at hn; omega)))) rfl (sQ (q_ret eE_ (a4_ (decide (n < 0)) _ (by simp) (lim2 (Nat.mod_lt _ (by decide)) (by unfold I64 at hn; omega) 14)) rfl) rfl ?_)))
  refine WL_r rfl (at_ ty_38 rfl rfl (by repeat (first | exact .head _ | apply Upd.left | apply Upd.tail)) (cs_ (by simp)) rfl (ar_ _) (.inl (by assumption)) ?_)
  refine nl J (J5 _ _ (W_ret (ret1 rfl (.inr rfl) ⟨_, _, _, _, _, _, rfl, (by repeat (first | exact .head _ | apply List.mem_append_right | apply List.Mem.tail)), ty_38, _, (a1_ (cs_ (by simp))), (cs_ (by simp)), rfl⟩ ?_)))
  exact congrArg RV (oR_ hn rfl rfl)
 ·(try simp only [decide_eq_true_eq, decide_eq_false_iff_not, beq_iff_eq, bne_iff_ne, beq_eq_false_iff_ne, bne_eq_false_iff_eq, Bool.not_eq_true', Bool.not_eq_false'] at h0)
  refine am_ (J3 _ _ (Sq fun K6 J6 => Rk fun K J => sE rfl (sE rfl (sQ (q_as (db_ rfl) (show _ = Value.int .u64 ((n.natAbs : Nat) : Int) from by first | rfl | exact congrArg (Value.int .u64) (lE_ hn h0))) rfl ?_))))
  refine sQ (a3_ in_94 in_35 rfl) rfl (sQ (q_as (db_ rfl) (show _ = Value.int .u64 ((n.natAbs : Nat) : Int) from by first | rfl | exact congrArg (Value.int .u64) (lE_ hn h0))) rfl ?_)
  refine sQ (q_as (q_shr rfl rfl (by decide)) (congrArg (Value.int .u64) (dU_ _ 32))) rfl (sQ (a3_ in_94 in_35 rfl) rfl (sQ (dt_ z_36 ar_36 rfl (fill2 (of_lo _) (of_hi (by unfold I64 at hn; omega)))) rfl (sQ (q_ret eE_ (a4_ (decide (n < 0)) _ (by simp) (lim2 (Nat.mod_lt _ (by decide)) (by unfold I64 at hn; omega) 14)) rfl) rfl ?_)))
  refine WL_r rfl (at_ ty_38 rfl rfl (by repeat (first | exact .head _ | apply Upd.left | apply Upd.tail)) (cs_ (by simp)) rfl (ar_ _) (.inl (by assumption)) ?_)
  refine nl J (J6 _ _ (W_ret (ret1 rfl (.inr rfl) ⟨_, _, _, _, _, _, rfl, (by repeat (first | exact .head _ | apply List.mem_append_right | apply List.Mem.tail)), ty_38, _, (a1_ (cs_ (by simp))), (cs_ (by simp)), rfl⟩ ?_)))
  exact congrArg RV (oR_ hn rfl rfl)
end Go.Proofs.YtjdfogfmeibkgaaGreat

