/- Walks: what these functions return. -/
import Derived.Test.YtjdfogfmeibkgaaGreatQGE
import Derived.Test.YtjdfogfmeibkgaaGreatQWa
import Derived.Test.YtjdfogfmeibkgaaGreatQWc
import Derived.Test.YtjdfogfmeibkgaaGreatQWd
namespace Go.Proofs.YtjdfogfmeibkgaaGreat
open Go.Kn Go.Num
set_option linter.unusedVariables false
set_option linter.unusedSimpArgs false
set_option maxRecDepth 20000
set_option maxHeartbeats 8000000
theorem h0_ (a : R) (ha : a.Ok) :
    Ret Tryz.prog 166 [RV a] (.int .i64 ((a.dec.bits : Nat) : Int)) := by
 refine aM_ (N := 25) Tryz.func166 rfl rfl (by simp) (fun w0 => ?_)
 simp only [initF, Nat.reduceAdd]
 refine Sq fun K1 J1 => Rk fun K J => WL_r rfl (r_box rfl rfl (fun b1 hb1 => sE rfl (nl J (J1 _ _ (Sq fun K2 J2 => Rk fun K J => sQ (aJ_ bB_ (by decide) rfl) rfl (sQ (b8_ (vs := uw a.w) ty_36 rfl (by repeat (first | exact .head _ | apply List.mem_append_right | apply List.Mem.tail)) (dj_ ha.len) ((bX_ _).trans ha.len)) rfl ?_))))))
 refine sQ (q_ret hw_ (cE_ a.w ha.len) rfl) rfl (sE rfl (nl J (J2 _ _ (Sq fun K3 J3 => Sq fun K4 J4 => Rk fun K J => sQ (aG_ ty_38 rfl (by repeat (first | exact .head _ | apply List.mem_append_right | apply List.Mem.tail)) (a0_ ha)) rfl ?_))))
 refine WL_r rfl (cS_ us_22 z_38 sz_38 rfl (by decide) rfl (jr_ ha) (fun b8 hb8 => sQ (aH_ en_95 rfl (fun w hw => cb_ [a] (ok1 ha) b8 38 w (hw.mem _ m0) (by simp))) rfl ?_))
 refine sE rfl (sE rfl ?_)
 cases hg : [a].all R.good
 ·skip
  refine WL_n rfl (WL_n rfl (sE rfl (nl J (J4 _ _ (hv_ rfl (Sq fun K5 J5 => Rk fun K J => sE rfl (nl J (J5 _ _ (W_ret (aj_ (ret1 rfl (.inr rfl) rfl ?_)))))))))))
  exact congrArg (fun n : Nat => Value.int .i64 (n : Int)) (n3_ (by simpa using hg))
 ·skip
  refine sE rfl (sE rfl (sE rfl (nl J (J4 _ _ ?_))))
  refine be_ _ rfl (fun hz => ?_) (fun hz => ?_)
  ·(try simp only [decide_eq_true_eq, decide_eq_false_iff_not, beq_iff_eq, bne_iff_ne, beq_eq_false_iff_ne, bne_eq_false_iff_eq, Bool.not_eq_true', Bool.not_eq_false'] at hz)
   refine Sq fun K6 J6 => Rk fun K J => sE rfl (nl J (J6 _ _ (W_ret (aj_ (ret1 rfl (.inr rfl) rfl ?_)))))
   exact congrArg (fun n : Nat => Value.int .i64 (n : Int)) (ni_ ha (by simpa using hg) (by omega))
  ·(try simp only [decide_eq_true_eq, decide_eq_false_iff_not, beq_iff_eq, bne_iff_ne, beq_eq_false_iff_ne, bne_eq_false_iff_eq, Bool.not_eq_true', Bool.not_eq_false'] at hz)
   refine am_ (J3 _ _ (Sq fun K7 J7 => ?_))
   have hs1 : 1 ≤ szL a.w := by omega
   have hs16 : szL a.w ≤ 16 := by have := fC_ a.w; rw [ha.len] at this; exact this
   refine Rk fun K J => sE rfl (sQ (q_as (q_sub rfl rfl) (congrArg (Value.int .i64) (fc_ (b := 1) rfl (by omega) (by omega)))) rfl (sQ (q_as (q_mul rfl rfl) (congrArg (Value.int .i64) (mul32 rfl (by omega)))) rfl (sE rfl (sQ (q_as (q_sub rfl rfl) (congrArg (Value.int .i64) (fc_ (b := 1) rfl (by omega) (by omega)))) rfl (sQ (aJ_ bB_ (by decide) rfl) rfl (sQ (bq_ ar_36 rfl rfl (by omega) (by omega)) rfl (sQ (bd_ ty_35 rfl (by repeat (first | exact .head _ | apply List.mem_append_right | apply List.Mem.tail)) (dI_ (r := a) (k := szL a.w - 1) (by rw [ha.len]; omega))) rfl ?_)))))))
   refine sQ (q_ret oE_ (i6_ _ (aR_ ha.lim _)) rfl) rfl (sQ (q_as (q_add rfl rfl) (congrArg (Value.int .i64) (dO_ (by have := fk_ (k := 32) (aR_ ha.lim (szL a.w - 1)); omega)))) rfl (sE rfl (nl J (J7 _ _ (W_ret (ret1 rfl (.inr rfl) rfl ?_))))))
   exact congrArg (fun n : Nat => Value.int .i64 (n : Int)) (n6_ ha (by simpa using hg) hs1)

theorem fJ_ (a : R) (ha : a.Ok) :
    Ret Tryz.prog 154 [RV a] (.tuple #[.int .i64 a.dec.small.1, .bool a.dec.small.2]) := by
 refine aM_ (N := 44) Tryz.func154 rfl rfl (by simp) (fun w0 => ?_)
 simp only [initF, Nat.reduceAdd]
 refine Sq fun K1 J1 => Rk fun K J => WL_r rfl (r_box rfl rfl (fun b1 hb1 => sE rfl (sE rfl (nl J (J1 _ _ (Sq fun K2 J2 => Sq fun K3 J3 => Rk fun K J => sQ (aG_ ty_38 rfl (by repeat (first | exact .head _ | apply List.mem_append_right | apply List.Mem.tail)) (a0_ ha)) rfl ?_))))))
 refine WL_r rfl (cS_ us_22 z_38 sz_38 rfl (by decide) rfl (jr_ ha) (fun b6 hb6 => sQ (aH_ en_95 rfl (fun w hw => cb_ [a] (ok1 ha) b6 38 w (hw.mem _ m0) (by simp))) rfl ?_))
 refine sE rfl (sE rfl ?_)
 cases hg : [a].all R.good
 ·skip
  refine WL_n rfl (WL_n rfl (WL_n rfl (sE rfl (nl J (J3 _ _ (hv_ rfl (Sq fun K4 J4 => Rk fun K J => sE rfl (sE rfl (nl J (J4 _ _ (W_ret (aj_ (ret2 rfl (.inr rfl) rfl rfl ?_)))))))))))))
  exact mk_ (by simpa using hg)
 ·skip
  refine sQ (aG_ ty_38 rfl (by repeat (first | exact .head _ | apply List.mem_append_right | apply List.Mem.tail)) (a0_ ha)) rfl ?_
  refine sQ (q_ret rk_ (h0_ a ha) rfl) rfl (sE rfl (sE rfl (nl J (J3 _ _ ?_))))
  refine be_ _ rfl (fun hb => ?_) (fun hb => ?_)
  ·(try simp only [decide_eq_true_eq, decide_eq_false_iff_not, beq_iff_eq, bne_iff_ne, beq_eq_false_iff_ne, bne_eq_false_iff_eq, Bool.not_eq_true', Bool.not_eq_false'] at hb)
   refine Sq fun K5 J5 => Rk fun K J => sE rfl (sE rfl (nl J (J5 _ _ (W_ret (aj_ (ret2 rfl (.inr rfl) rfl rfl ?_))))))
   exact lQ_ ha (by simpa using hg) hb
  ·(try simp only [decide_eq_true_eq, decide_eq_false_iff_not, beq_iff_eq, bne_iff_ne, beq_eq_false_iff_ne, bne_eq_false_iff_eq, Bool.not_eq_true', Bool.not_eq_false'] at hb)
   have h64 := qh_ ha (by simpa using hg) hb
   refine am_ (J2 _ _ (Sq fun K6 J6 => Rk fun K J => sQ (aJ_ bB_ (by decide) rfl) rfl (sQ (bq_ ar_36 rfl rfl (by decide) (by decide)) rfl (sQ (bd_ ty_35 rfl (by repeat (first | exact .head _ | apply List.mem_append_right | apply List.Mem.tail)) (dI_ (r := a) (k := 1) (by rw [ha.len]; omega))) rfl ?_))))
   refine sQ (q_as (a3_ in_35 in_94 rfl) (fE_ (aR_ ha.lim _))) rfl (sQ (q_as (q_shl rfl rfl (by decide)) (congrArg (Value.int .u64) (fH_ (aR_ ha.lim _)))) rfl (sQ (aJ_ bB_ (by decide) rfl) rfl (sQ (bq_ ar_36 rfl rfl (by decide) (by decide)) rfl (sQ (bd_ ty_35 rfl (by repeat (first | exact .head _ | apply List.mem_append_right | apply List.Mem.tail)) (dI_ (r := a) (k := 0) (by rw [ha.len]; omega))) rfl ?_))))
   refine sQ (q_as (a3_ in_35 in_94 rfl) (fE_ (aR_ ha.lim _))) rfl (sQ (q_as (q_or rfl rfl) (congrArg (Value.int .u64) ((or_hi (aR_ ha.lim _) (aR_ ha.lim _)).trans (congrArg (fun m : Nat => (m : Int)) (gV_ ha h64))))) rfl (sE rfl (nl J (J6 _ _ (Sq fun K7 J7 => aq_ (Sq fun K8 J8 => Rk fun K J => sQ (aJ_ ct_ (by decide) rfl) rfl (sQ (bd_ ty_4 rfl (by repeat (first | exact .head _ | apply List.mem_append_right | apply List.Mem.tail)) rfl) rfl ?_)))))))
   refine sE rfl ?_
   cases hn : a.neg
   ·skip
    refine WL_n rfl (WL_n rfl (sE rfl (sE rfl (nl J (J8 _ _ (dw_ rfl (Sq fun K9 J9 => Rk fun K J => sQ (aJ_ ct_ (by decide) rfl) rfl (sQ (bd_ ty_4 rfl (by repeat (first | exact .head _ | apply List.mem_append_right | apply List.Mem.tail)) rfl) rfl ?_))))))))
    refine sE rfl ?_
    rw [hn]
    refine sE rfl (sE rfl (sE rfl (sE rfl (sE rfl (nl J (J9 _ _ ?_))))))
    refine be_ _ rfl (fun hlt => ?_) (fun hlt => ?_)
    ·(try simp only [decide_eq_true_eq, decide_eq_false_iff_not, beq_iff_eq, bne_iff_ne, beq_eq_false_iff_ne, bne_eq_false_iff_eq, Bool.not_eq_true', Bool.not_eq_false'] at hlt)
     refine Sq fun K10 J10 => Rk fun K J => sE rfl (sQ (q_as (a3_ in_94 in_3 rfl) (congrArg (Value.int .i64) (ns_ (by omega)))) rfl (sE rfl (sE rfl (nl J (J10 _ _ (W_ret (aX_ (aj_ (ret2 rfl (.inr rfl) rfl rfl ?_)))))))))
     exact kL_ ha (by simpa using hg) (by rw [hn]; rfl) (by rw [hn, sgn_f]; omega)
    ·(try simp only [decide_eq_true_eq, decide_eq_false_iff_not, beq_iff_eq, bne_iff_ne, beq_eq_false_iff_ne, bne_eq_false_iff_eq, Bool.not_eq_true', Bool.not_eq_false'] at hlt)
     refine am_ (J7 _ _ (Sq fun K11 J11 => Rk fun K J => sE rfl (sE rfl (nl J (J11 _ _ (W_ret (ret2 rfl (.inr rfl) rfl rfl ?_)))))))
     exact hp_ ha (by simpa using hg) (by rw [hn, sgn_f]; omega)
   ·skip
    refine sE rfl (sE rfl (sE rfl (sE rfl (nl J (J8 _ _ ?_)))))
    refine be_ _ rfl (fun hle => ?_) (fun hle => ?_)
    ·(try simp only [decide_eq_true_eq, decide_eq_false_iff_not, beq_iff_eq, bne_iff_ne, beq_eq_false_iff_ne, bne_eq_false_iff_eq, Bool.not_eq_true', Bool.not_eq_false'] at hle)
     refine Sq fun K12 J12 => Rk fun K J => sE rfl (sE rfl (sQ (q_as (a3_ in_94 in_3 rfl) (congrArg (Value.int .i64) (mH_ (by omega)))) rfl (sE rfl (sE rfl (nl J (J12 _ _ (W_ret (aX_ (aj_ (ret2 rfl (.inr rfl) rfl rfl ?_))))))))))
     exact kL_ ha (by simpa using hg) (by rw [hn]; rfl) (by rw [hn, sgn_t]; omega)
    ·(try simp only [decide_eq_true_eq, decide_eq_false_iff_not, beq_iff_eq, bne_iff_ne, beq_eq_false_iff_ne, bne_eq_false_iff_eq, Bool.not_eq_true', Bool.not_eq_false'] at hle)
     refine Sq fun K13 J13 => Rk fun K J => sQ (aJ_ ct_ (by decide) rfl) rfl (sQ (bd_ ty_4 rfl (by repeat (first | exact .head _ | apply List.mem_append_right | apply List.Mem.tail)) rfl) rfl ?_)
     refine sE rfl ?_
     rw [hn]
     refine sE rfl (WL_n rfl (WL_n rfl (sE rfl (sE rfl (nl J (J13 _ _ (dw_ rfl (am_ (J7 _ _ (Sq fun K14 J14 => Rk fun K J => sE rfl (sE rfl (nl J (J14 _ _ (W_ret (ret2 rfl (.inr rfl) rfl rfl ?_)))))))))))))))
     exact hp_ ha (by simpa using hg) (by rw [hn, sgn_t]; omega)

theorem gM_ (a b : R) (ha : a.Ok) (hb : b.Ok) :
    Ret Tryz.prog 135 [RV a, RV b] (.tuple #[RV (Z.quo a.dec b.dec).enc, RV (Z.rem a.dec b.dec).enc]) := by
 refine aM_ (N := 108) Tryz.func135 rfl rfl (by simp) (fun w0 => ?_)
 simp only [initF, Nat.reduceAdd]
 refine Sq fun K1 J1 => Rk fun K J => WL_r rfl (r_box rfl rfl (fun b2 hb2 => WL_r rfl (r_box rfl rfl (fun b3 hb3 => WL_r rfl (bb_ z_38 (fun b4 hb4 => WL_r rfl (bb_ z_38 (fun b5 hb5 => nl J (J1 _ _ (Sq fun K2 J2 => Sq fun K3 J3 => Rk fun K J => sQ (aG_ ty_38 rfl (by repeat (first | exact .head _ | apply List.mem_append_right | apply List.Mem.tail)) (a0_ ha)) rfl ?_))))))))))
 refine sQ (aG_ ty_38 rfl (by repeat (first | exact .head _ | apply List.mem_append_right | apply List.Mem.tail)) (a0_ hb)) rfl ?_
 refine WL_r rfl (cS_ us_22 z_38 sz_38 rfl (by decide) rfl (kC_ ha hb) (fun b17 hb17 => sQ (aH_ en_95 rfl (fun w hw => cb_ [a, b] (ok2 ha hb) b17 38 w (hw.mem _ m0) (by simp))) rfl ?_))
 refine sE rfl (sE rfl ?_)
 cases hg : [a, b].all R.good
 ·skip
  refine WL_n rfl (WL_n rfl (WL_n rfl (sE rfl (nl J (J3 _ _ (hv_ rfl (Sq fun K4 J4 => Rk fun K J => sQ (q_ret en_65 bz_ rfl) rfl (sQ (q_ret en_65 bz_ rfl) rfl (WL_r rfl (at_ ty_38 rfl rfl (by repeat (first | exact .head _ | apply Upd.left | apply Upd.tail)) (ag_ _) rfl (ar_ _) (.inl (by assumption)) ?_))))))))))
  refine WL_r rfl (at_ ty_38 rfl rfl (by repeat (first | exact .head _ | apply Upd.left | apply Upd.tail)) (ag_ _) rfl (ar_ _) (.inl (by assumption)) ?_)
  refine nl J (J4 _ _ (W_ret (aj_ (ret2 rfl (.inr rfl) ⟨_, _, _, _, _, _, rfl, (by repeat (first | exact .head _ | apply List.mem_append_right | apply List.Mem.tail)), ty_38, _, (a1_ (ag_ _)), (ag_ _), rfl⟩ ⟨_, _, _, _, _, _, rfl, (by repeat (first | exact .head _ | apply List.mem_append_right | apply List.Mem.tail)), ty_38, _, (a1_ (ag_ _)), (ag_ _), rfl⟩ ?_))))
  exact pC_ (g9_ hg)
 ·skip
  have hg := all2.1 hg
  refine sQ (aG_ ty_38 rfl (by repeat (first | exact .head _ | apply List.mem_append_right | apply List.Mem.tail)) (a0_ hb)) rfl ?_
  refine sQ (q_ret en_32 (bK_ b hb) rfl) rfl (sE rfl (sE rfl (nl J (J3 _ _ ?_))))
  refine be_ _ rfl (fun hs0 => ?_) (fun hs0 => ?_)
  ·(try simp only [decide_eq_true_eq, decide_eq_false_iff_not, beq_iff_eq, bne_iff_ne, beq_eq_false_iff_ne, bne_eq_false_iff_eq, Bool.not_eq_true', Bool.not_eq_false'] at hs0)
   refine Sq fun K5 J5 => Rk fun K J => sQ (q_ret en_65 bz_ rfl) rfl (sQ (q_ret en_65 bz_ rfl) rfl (WL_r rfl (at_ ty_38 rfl rfl (by repeat (first | exact .head _ | apply Upd.left | apply Upd.tail)) (ag_ _) rfl (ar_ _) (.inl (by assumption)) ?_)))
   refine WL_r rfl (at_ ty_38 rfl rfl (by repeat (first | exact .head _ | apply Upd.left | apply Upd.tail)) (ag_ _) rfl (ar_ _) (.inl (by assumption)) ?_)
   refine nl J (J5 _ _ (W_ret (aj_ (ret2 rfl (.inr rfl) ⟨_, _, _, _, _, _, rfl, (by repeat (first | exact .head _ | apply List.mem_append_right | apply List.Mem.tail)), ty_38, _, (a1_ (ag_ _)), (ag_ _), rfl⟩ ⟨_, _, _, _, _, _, rfl, (by repeat (first | exact .head _ | apply List.mem_append_right | apply List.Mem.tail)), ty_38, _, (a1_ (ag_ _)), (ag_ _), rfl⟩ ?_))))
   exact nZ_ ha hb hg.1 hg.2 hs0
  ·(try simp only [decide_eq_true_eq, decide_eq_false_iff_not, beq_iff_eq, bne_iff_ne, beq_eq_false_iff_ne, bne_eq_false_iff_eq, Bool.not_eq_true', Bool.not_eq_false'] at hs0)
   have hs0 : b.dec.sign ≠ 0 := hs0
   have hp := hA_ hb hg.2 hs0
   refine am_ (J2 _ _ ?_)
   refine bD_ [6, 7, 8, 9, 10, 11, 27, 28, 29, 30, 31, 32, 33, 34, 35, 36, 37, 38, 39, 40, 41, 42, 43, 44, 45, 46, 47, 48, 49, 50, 51, 52, 53, 54, 55, 56, 57, 58, 59, 60, 61, 62, 63, 64, 65, 66, 67, 68, 69, 70] (fun g M => (True) ∧ M = [⟨b5, 38, zR⟩, ⟨b4, 38, zR⟩, ⟨b3, 38, b.cells⟩, ⟨b2, 38, a.cells⟩] ∧ (True)) (fun K6 J6 => ?_) ?_
   ·skip
    refine Sq fun K7 J7 => Rk fun K J => sQ (aG_ ty_38 rfl (by repeat (first | exact .head _ | apply List.mem_append_right | apply List.Mem.tail)) (a0_ ha)) rfl ?_
    refine sQ (q_ret oQ_ (fJ_ a ha) rfl) rfl (sE rfl (sE rfl (sE rfl (sE rfl (sE rfl (nl J (J7 _ _ (Sq fun K8 J8 => Rk fun K J => sE rfl (sE rfl ?_)))))))))
    cases hsa : a.dec.small.2
    ·skip
     refine WL_n rfl (WL_n rfl (sE rfl (nl J (J8 _ _ (dw_ rfl (am_ ?_))))))
     refine J6 _ _ (by repeat first | exact .refl | refine .cons rfl ?_) ⟨_, (List.Sublist.cons _ (List.Sublist.refl _)), trivial, ?mem, trivial⟩
     case mem => rfl
    ·skip
     refine sE rfl (sE rfl (sE rfl (nl J (J8 _ _ ?_))))
     refine be_ _ rfl (fun hma => ?_) (fun hma => ?_)
     ·(try simp only [decide_eq_true_eq, decide_eq_false_iff_not, beq_iff_eq, bne_iff_ne, beq_eq_false_iff_ne, bne_eq_false_iff_eq, Bool.not_eq_true', Bool.not_eq_false'] at hma)
      have ea := il_ hsa
      refine Sq fun K9 J9 => Rk fun K J => sQ (aG_ ty_38 rfl (by repeat (first | exact .head _ | apply List.mem_append_right | apply List.Mem.tail)) (a0_ hb)) rfl ?_
      refine sQ (q_ret oQ_ (fJ_ b hb) rfl) rfl (sE rfl (sE rfl (sE rfl (sE rfl (sE rfl (nl J (J9 _ _ (Sq fun K10 J10 => Rk fun K J => sE rfl (sE rfl ?_)))))))))
      cases hsb : b.dec.small.2
      ·skip
       refine WL_n rfl (WL_n rfl (sE rfl (nl J (J10 _ _ (dw_ rfl (am_ ?_))))))
       refine J6 _ _ (by repeat first | exact .refl | refine .cons rfl ?_) ⟨_, (List.Sublist.cons _ (List.Sublist.refl _)), trivial, ?mem, trivial⟩
       case mem => rfl
      ·skip
       refine sE rfl (sE rfl (sE rfl (nl J (J10 _ _ ?_))))
       refine be_ _ rfl (fun hmb => ?_) (fun hmb => ?_)
       ·(try simp only [decide_eq_true_eq, decide_eq_false_iff_not, beq_iff_eq, bne_iff_ne, beq_eq_false_iff_ne, bne_eq_false_iff_eq, Bool.not_eq_true', Bool.not_eq_false'] at hmb)
        have eb := il_ hsb
        have hy0 := j4_ eb.1 hs0
        have hq64 : I64 (a.dec.small.1.tdiv b.dec.small.1) := oD_ ea.2 hma
        have hr64 := ri_ (x := a.dec.small.1) hy0 eb.2
        refine Sq fun K11 J11 => dr (sk (sk (sk (sk (sk (s0)))))) [0,4,8,12,16,20,24,28] [] mix (by kernel_rfl) (fun K J => pE rfl (pE rfl (pQ rfl (q_as (q_quo rfl rfl hy0) (congrArg (Value.int .i64) (aV_ (oD_ ea.2 hma)))) (pE rfl (pE rfl (pQ rfl (q_rem rfl rfl hy0) (pE rfl (pE rfl (fl J (J11 _ _ (Sq fun K12 J12 => Sq fun K13 J13 => Rk fun K J => sE rfl (sE rfl (sE rfl ?_)))))))))))))
        cases hr0 : (a.dec.small.1.tmod b.dec.small.1 != 0)
        ·skip
         refine WL_n rfl (WL_n rfl (WL_n rfl (WL_n rfl (WL_n rfl (sE rfl (nl J (J13 _ _ (dw_ rfl (am_ (J12 _ _ (Sq fun K14 J14 => Rk fun K J => sE rfl (sQ (q_ret en_62 (aY_ _ (by first | exact hI1 | exact hq64)) rfl) rfl ?_))))))))))))
         refine sE rfl (sQ (q_ret en_62 (aY_ _ (by first | exact hI2 | exact hr64)) rfl) rfl ?_)
         refine WL_r rfl (at_ ty_38 rfl rfl (by repeat (first | exact .head _ | apply Upd.left | apply Upd.tail)) (ag_ _) rfl (ar_ _) (.inl (by assumption)) ?_)
         refine WL_r rfl (at_ ty_38 rfl rfl (by repeat (first | exact .head _ | apply Upd.left | apply Upd.tail)) (ag_ _) rfl (ar_ _) (.inl (by assumption)) ?_)
         refine nl J (J14 _ _ (W_ret (aj_ (ret2 rfl (.inr rfl) ⟨_, _, _, _, _, _, rfl, (by repeat (first | exact .head _ | apply List.mem_append_right | apply List.Mem.tail)), ty_38, _, (a1_ (ag_ _)), (ag_ _), rfl⟩ ⟨_, _, _, _, _, _, rfl, (by repeat (first | exact .head _ | apply List.mem_append_right | apply List.Mem.tail)), ty_38, _, (a1_ (ag_ _)), (ag_ _), rfl⟩ ?_))))
         exact hj_ ea.1 eb.1 hs0 (nm_ hy0 (.inl (by simpa using hr0)))
        ·skip
         refine sE rfl (sE rfl (sE rfl (sE rfl (sQ (lc_ bo_4 rfl rfl) rfl (sE rfl (nl J (J13 _ _ ?_)))))))
         refine be_ _ rfl (fun hsg => ?_) (fun hsg => ?_)
         ·(try simp only [decide_eq_true_eq, decide_eq_false_iff_not, beq_iff_eq, bne_iff_ne, beq_eq_false_iff_ne, bne_eq_false_iff_eq, Bool.not_eq_true', Bool.not_eq_false'] at hsg)
          have hI1 : I64 (a.dec.small.1.tdiv b.dec.small.1 - 1) := rg_ ea.2 hma
          have hI2 := q9_ hy0 eb.2 (bne_iff_ne.2 hsg)
          refine Rk fun K J => sE rfl (sQ (q_as (q_sub rfl rfl) (congrArg (Value.int .i64) (aV_ hI1))) rfl (sE rfl (sE rfl (sQ (q_as (q_add rfl rfl) (congrArg (Value.int .i64) (aV_ hI2))) rfl (sE rfl (sE rfl (nl J (J12 _ _ (Sq fun K15 J15 => Rk fun K J => sE rfl (sQ (q_ret en_62 (aY_ _ (by first | exact hI1 | exact hq64)) rfl) rfl ?_))))))))))
          refine sE rfl (sQ (q_ret en_62 (aY_ _ (by first | exact hI2 | exact hr64)) rfl) rfl ?_)
          refine WL_r rfl (at_ ty_38 rfl rfl (by repeat (first | exact .head _ | apply Upd.left | apply Upd.tail)) (ag_ _) rfl (ar_ _) (.inl (by assumption)) ?_)
          refine WL_r rfl (at_ ty_38 rfl rfl (by repeat (first | exact .head _ | apply Upd.left | apply Upd.tail)) (ag_ _) rfl (ar_ _) (.inl (by assumption)) ?_)
          refine nl J (J15 _ _ (W_ret (aj_ (ret2 rfl (.inr rfl) ⟨_, _, _, _, _, _, rfl, (by repeat (first | exact .head _ | apply List.mem_append_right | apply List.Mem.tail)), ty_38, _, (a1_ (ag_ _)), (ag_ _), rfl⟩ ⟨_, _, _, _, _, _, rfl, (by repeat (first | exact .head _ | apply List.mem_append_right | apply List.Mem.tail)), ty_38, _, (a1_ (ag_ _)), (ag_ _), rfl⟩ ?_))))
          exact hj_ ea.1 eb.1 hs0 (qn_ hy0 (by simpa using hr0) (bne_iff_ne.2 hsg))
         ·(try simp only [decide_eq_true_eq, decide_eq_false_iff_not, beq_iff_eq, bne_iff_ne, beq_eq_false_iff_ne, bne_eq_false_iff_eq, Bool.not_eq_true', Bool.not_eq_false'] at hsg)
          refine am_ (J12 _ _ (Sq fun K16 J16 => Rk fun K J => sE rfl (sQ (q_ret en_62 (aY_ _ (by first | exact hI1 | exact hq64)) rfl) rfl ?_)))
          refine sE rfl (sQ (q_ret en_62 (aY_ _ (by first | exact hI2 | exact hr64)) rfl) rfl ?_)
          refine WL_r rfl (at_ ty_38 rfl rfl (by repeat (first | exact .head _ | apply Upd.left | apply Upd.tail)) (ag_ _) rfl (ar_ _) (.inl (by assumption)) ?_)
          refine WL_r rfl (at_ ty_38 rfl rfl (by repeat (first | exact .head _ | apply Upd.left | apply Upd.tail)) (ag_ _) rfl (ar_ _) (.inl (by assumption)) ?_)
          refine nl J (J16 _ _ (W_ret (aj_ (ret2 rfl (.inr rfl) ⟨_, _, _, _, _, _, rfl, (by repeat (first | exact .head _ | apply List.mem_append_right | apply List.Mem.tail)), ty_38, _, (a1_ (ag_ _)), (ag_ _), rfl⟩ ⟨_, _, _, _, _, _, rfl, (by repeat (first | exact .head _ | apply List.mem_append_right | apply List.Mem.tail)), ty_38, _, (a1_ (ag_ _)), (ag_ _), rfl⟩ ?_))))
          exact hj_ ea.1 eb.1 hs0 (nm_ hy0 (.inr (by simpa using hsg)))
       ·(try simp only [decide_eq_true_eq, decide_eq_false_iff_not, beq_iff_eq, bne_iff_ne, beq_eq_false_iff_ne, bne_eq_false_iff_eq, Bool.not_eq_true', Bool.not_eq_false'] at hmb)
        refine am_ ?_
        refine J6 _ _ (by repeat first | exact .refl | refine .cons rfl ?_) ⟨_, (List.Sublist.cons _ (List.Sublist.refl _)), trivial, ?mem, trivial⟩
        case mem => rfl
     ·(try simp only [decide_eq_true_eq, decide_eq_false_iff_not, beq_iff_eq, bne_iff_ne, beq_eq_false_iff_ne, bne_eq_false_iff_eq, Bool.not_eq_true', Bool.not_eq_false'] at hma)
      refine am_ ?_
      refine J6 _ _ (by repeat first | exact .refl | refine .cons rfl ?_) ⟨_, (List.Sublist.cons _ (List.Sublist.refl _)), trivial, ?mem, trivial⟩
      case mem => rfl
   ·skip
    rintro g M ⟨-, rfl, -⟩
    simp only [setG]
    refine Sq fun K17 J17 => Rk fun K J => sQ (aJ_ bB_ (by decide) rfl) rfl (sQ (b8_ (vs := uw a.w) ty_36 rfl (by repeat (first | exact .head _ | apply List.mem_append_right | apply List.Mem.tail)) (dj_ ha.len) ((bX_ _).trans ha.len)) rfl ?_)
    refine sQ (aJ_ bB_ (by decide) rfl) rfl (sQ (b8_ (vs := uw b.w) ty_36 rfl (by repeat (first | exact .head _ | apply List.mem_append_right | apply List.Mem.tail)) (dj_ hb.len) ((bX_ _).trans hb.len)) rfl ?_)
    refine sQ (q_ret l0_ (dQ_ a.w b.w ha.len hb.len ha.lim hb.lim hp) rfl) rfl (sE rfl (sE rfl (sE rfl (WL_r rfl (bb_ z_36 (fun b12 hb12 => WL_r rfl (bb_ z_36 (fun b13 hb13 => WL_r rfl (at_ ty_36 rfl rfl (by repeat (first | exact .head _ | apply Upd.left | apply Upd.tail)) (by simp [uw, aE_]) (by simp [uw]) (bH_ _) (.inl (by assumption)) ?_)))))))))
    refine WL_r rfl (at_ ty_36 rfl rfl (by repeat (first | exact .head _ | apply Upd.left | apply Upd.tail)) (by simp [uw, aE_]) (by simp [uw]) (bH_ _) (.inl (by assumption)) ?_)
    refine nl J (J17 _ _ (Sq fun K18 J18 => Rk fun K J => sQ (aJ_ ct_ (by decide) rfl) rfl (sQ (bd_ ty_4 rfl (by repeat (first | exact .head _ | apply List.mem_append_right | apply List.Mem.tail)) rfl) rfl ?_)))
    refine sQ (aJ_ ct_ (by decide) rfl) rfl (sQ (bd_ ty_4 rfl (by repeat (first | exact .head _ | apply List.mem_append_right | apply List.Mem.tail)) rfl) rfl ?_)
    refine sQ (lc_ bo_4 rfl rfl) rfl (sQ (aG_ ty_36 rfl (by repeat (first | exact .head _ | apply List.mem_append_right | apply List.Mem.tail)) (by simp [uw, aE_])) rfl ?_)
    refine sQ (q_as (q_ret eE_ (a4_ (a.neg != b.neg) _ (aE_ _ _) (cJ_ _ _)) rfl) (congrArg RV (de_ _ (o5_ ha)))) rfl (WL_r rfl (bb_ z_38 (fun b14 hb14 => WL_r rfl (at_ ty_38 rfl rfl (by repeat (first | exact .head _ | apply Upd.left | apply Upd.tail)) (ag_ _) rfl (ar_ _) (.inl (by assumption)) ?_))))
    refine nl J (J18 _ _ ?_)
    refine bD_ [86, 87, 88, 89, 90, 91, 92, 93, 94, 95, 96, 97, 98, 99, 100, 101, 102] (fun g M => ∃ (z : Z) (l : List Nat), (True) ∧ M = [⟨b14, 38, z.enc.cells⟩, ⟨b13, 36, uw l⟩, ⟨b12, 36, uw (toL 16 (val a.w / val b.w))⟩, ⟨b5, 38, zR⟩, ⟨b4, 38, zR⟩, ⟨b3, 38, b.cells⟩, ⟨b2, 38, a.cells⟩] ∧ (l.length = 16 ∧ Lim l ∧ z = Z.quo a.dec b.dec ∧ R.mk false (b.neg && !(val l == 0)) l = (Z.rem a.dec b.dec).enc)) (fun K19 J19 => ?_) ?_
    ·skip
     refine Sq fun K20 J20 => Rk fun K J => sQ (aG_ ty_36 rfl (by repeat (first | exact .head _ | apply List.mem_append_right | apply List.Mem.tail)) (by simp [uw, aE_])) rfl ?_
     refine sQ (dt_ z_36 ar_36 rfl (.nil _)) rfl ?_
     refine sQ (h7_ (r := (val a.w % val b.w == 0)) rfl rfl (dz_ 8 (by decide) eg_36 lv_36 (cX_ (aE_ _ _)) (cX_ (by simp)) (ol_ ha))) rfl ?_
     refine sE rfl ?_
     cases hr1 : (val a.w % val b.w == 0)
     ·skip
      refine sQ (aJ_ ct_ (by decide) rfl) rfl (sQ (bd_ ty_4 rfl (by repeat (first | exact .head _ | apply List.mem_append_right | apply List.Mem.tail)) rfl) rfl ?_)
      refine sQ (aJ_ ct_ (by decide) rfl) rfl (sQ (bd_ ty_4 rfl (by repeat (first | exact .head _ | apply List.mem_append_right | apply List.Mem.tail)) rfl) rfl ?_)
      refine sQ (lc_ bo_4 rfl rfl) rfl (sE rfl (nl J (J20 _ _ ?_)))
      refine be_ _ rfl (fun hne => ?_) (fun hne => ?_)
      ·(try simp only [decide_eq_true_eq, decide_eq_false_iff_not, beq_iff_eq, bne_iff_ne, beq_eq_false_iff_ne, bne_eq_false_iff_eq, Bool.not_eq_true', Bool.not_eq_false'] at hne)
       refine dr (sd (sd (sk (sk (sk (sk (sk (s0)))))))) [0,4,8,12,16,20,24,29,33] [7,8] mix (by kernel_rfl) (fun K J => pQ rfl (aG_ ty_38 rfl (by repeat (first | exact .head _ | apply List.mem_append_right | apply List.Mem.tail)) (ag_ _)) ?_)
       refine pQ rfl (q_ret en_62 (aY_ 1 (by unfold I64; decide)) rfl) (pQ rfl (q_ret en_78 (dg_ (Z.of (sgn (a.neg != b.neg) (val a.w / val b.w))).enc (Z.of 1).enc (Z.enc_ok _) (Z.enc_ok _)) rfl) (pQ rfl (aJ_ bB_ (by decide) rfl) (pQ rfl (b8_ (vs := uw b.w) ty_36 rfl (by repeat (first | exact .head _ | apply List.mem_append_right | apply List.Mem.tail)) (dj_ hb.len) ((bX_ _).trans hb.len)) ?_)))
       refine pQ rfl (aG_ ty_36 rfl (by repeat (first | exact .head _ | apply List.mem_append_right | apply List.Mem.tail)) (by simp [uw, aE_])) ?_
       refine pQ rfl (q_ret mD_ (ey_ b.w _ hb.len (aE_ _ _) hb.lim (cJ_ _ _) (rh_ ha hp)) rfl) ?_
       refine PL_o rfl rfl (at_ ty_38 rfl rfl (by repeat (first | exact .head _ | apply Upd.left | apply Upd.tail)) (ag_ _) (ag_ _) (ar_ _) (.inl (by assumption)) ⟨nf, (by repeat (first | exact s0 | exact sn | refine sk ?_ | refine sd ?_ | refine sA ?_ | refine sR ?_)), ?_⟩)
       refine PL_o rfl rfl (at_ ty_36 rfl rfl (by repeat (first | exact .head _ | apply Upd.left | apply Upd.tail)) (by simp [uw, aE_]) (by simp [uw, aE_]) (bH_ _) (.inl (by assumption)) ⟨nf, (by repeat (first | exact s0 | exact sn | refine sk ?_ | refine sd ?_ | refine sA ?_ | refine sR ?_)), ?_⟩)
       refine fl J ?_
       refine J19 _ _ (by repeat first | exact .refl | refine .cons rfl ?_) ⟨_, (List.Sublist.refl _), _, _, trivial, ?mem, pe_ ha hb hg.1 hg.2 hp (by simpa using hr1) hne⟩
       case mem => rfl
      ·(try simp only [decide_eq_true_eq, decide_eq_false_iff_not, beq_iff_eq, bne_iff_ne, beq_eq_false_iff_ne, bne_eq_false_iff_eq, Bool.not_eq_true', Bool.not_eq_false'] at hne)
       refine am_ ?_
       refine J19 _ _ (by repeat first | exact .refl | refine .cons rfl ?_) ⟨_, (List.Sublist.refl _), _, _, trivial, ?mem, kG_ ha hb hg.1 hg.2 hp (.inr (by simpa using hne))⟩
       case mem => rfl
     ·skip
      refine WL_n rfl (WL_n rfl (WL_n rfl (WL_n rfl (WL_n rfl (sE rfl (nl J (J20 _ _ (dw_ rfl (am_ ?_)))))))))
      refine J19 _ _ (by repeat first | exact .refl | refine .cons rfl ?_) ⟨_, (List.Sublist.refl _), _, _, trivial, ?mem, kG_ ha hb hg.1 hg.2 hp (.inl (by simpa using hr1))⟩
      case mem => rfl
    ·skip
     rintro g M ⟨z, l, -, rfl, ⟨hl16, hlim, hzq, hzr⟩⟩
     simp only [setG]
     refine Sq fun K21 J21 => dr (sk (sk (sk (sd (sd (sk (sk (s0)))))))) [0,4,8,12,16,21,25] [5,6] mix (by kernel_rfl) (fun K J => pQ rfl (aG_ ty_38 rfl (by repeat (first | exact .head _ | apply List.mem_append_right | apply List.Mem.tail)) (ag_ _)) ?_)
     refine pQ rfl (aJ_ ct_ (by decide) rfl) (pQ rfl (bd_ ty_4 rfl (by repeat (first | exact .head _ | apply List.mem_append_right | apply List.Mem.tail)) rfl) ?_)
     refine pQ rfl (aG_ ty_36 rfl (by repeat (first | exact .head _ | apply List.mem_append_right | apply List.Mem.tail)) (by rw [bX_, hl16])) ?_
     refine pQ rfl (q_ret eE_ (a4_ b.neg l hl16 hlim) rfl) ?_
     refine PL_o rfl rfl (at_ ty_38 rfl rfl (by repeat (first | exact .head _ | apply Upd.left | apply Upd.tail)) (ag_ _) rfl (ar_ _) (.inl (by assumption)) ⟨nf, (by repeat (first | exact s0 | exact sn | refine sk ?_ | refine sd ?_ | refine sA ?_ | refine sR ?_)), ?_⟩)
     refine PL_o rfl rfl (at_ ty_38 rfl rfl (by repeat (first | exact .head _ | apply Upd.left | apply Upd.tail)) (cs_ hl16) rfl (ar_ _) (.inl (by assumption)) ⟨nf, (by repeat (first | exact s0 | exact sn | refine sk ?_ | refine sd ?_ | refine sA ?_ | refine sR ?_)), ?_⟩)
     refine fl J (J21 _ _ (W_ret (ret2 rfl (.inr rfl) ⟨_, _, _, _, _, _, rfl, (by repeat (first | exact .head _ | apply List.mem_append_right | apply List.Mem.tail)), ty_38, _, (a1_ (ag_ _)), (ag_ _), rfl⟩ ⟨_, _, _, _, _, _, rfl, (by repeat (first | exact .head _ | apply List.mem_append_right | apply List.Mem.tail)), ty_38, _, (a1_ (cs_ hl16)), (cs_ hl16), rfl⟩ ?_)))
     (subst hzq; exact congrArg (fun r : R => Value.tuple #[RV (Z.quo a.dec b.dec).enc, RV r]) hzr)

theorem ca_ (a b : R) (ha : a.Ok) (hb : b.Ok) :
    Ret Tryz.prog 88 [RV a, RV b] (RV (Z.quo a.dec b.dec).enc) := by
 refine aM_ (N := 14) Tryz.func88 rfl rfl (by simp) (fun w0 => ?_)
 simp only [initF, Nat.reduceAdd]
 refine Sq fun K1 J1 => Rk fun K J => WL_r rfl (r_box rfl rfl (fun b2 hb2 => WL_r rfl (r_box rfl rfl (fun b3 hb3 => WL_r rfl (bb_ z_38 (fun b4 hb4 => nl J (J1 _ _ (Sq fun K2 J2 => Rk fun K J => sQ (aG_ ty_38 rfl (by repeat (first | exact .head _ | apply List.mem_append_right | apply List.Mem.tail)) (a0_ ha)) rfl ?_))))))))
 refine sQ (aG_ ty_38 rfl (by repeat (first | exact .head _ | apply List.mem_append_right | apply List.Mem.tail)) (a0_ hb)) rfl ?_
 refine sQ (q_ret qM_ (gM_ a b ha hb) rfl) rfl (sE rfl (sE rfl (sE rfl (WL_r rfl (bb_ z_38 (fun b5 hb5 => WL_r rfl (bb_ z_38 (fun b6 hb6 => WL_r rfl (at_ ty_38 rfl rfl (by repeat (first | exact .head _ | apply Upd.left | apply Upd.tail)) (ag_ _) rfl (ar_ _) (.inl (by assumption)) ?_)))))))))
 refine WL_r rfl (at_ ty_38 rfl rfl (by repeat (first | exact .head _ | apply Upd.left | apply Upd.tail)) (ag_ _) rfl (ar_ _) (.inl (by assumption)) ?_)
 refine nl J (J2 _ _ (Sq fun K3 J3 => Rk fun K J => sQ (aG_ ty_38 rfl (by repeat (first | exact .head _ | apply List.mem_append_right | apply List.Mem.tail)) (ag_ _)) rfl ?_))
 refine WL_r rfl (at_ ty_38 rfl rfl (by repeat (first | exact .head _ | apply Upd.left | apply Upd.tail)) (ag_ _) rfl (ar_ _) (.inl (by assumption)) ?_)
 refine nl J (J3 _ _ (W_ret (ret1 rfl (.inr rfl) ⟨_, _, _, _, _, _, rfl, (by repeat (first | exact .head _ | apply List.mem_append_right | apply List.Mem.tail)), ty_38, _, (a1_ (ag_ _)), (ag_ _), rfl⟩ ?_)))
 exact rfl

end Go.Proofs.YtjdfogfmeibkgaaGreat

