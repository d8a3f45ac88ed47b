/- Walks: what these functions return. -/
import Derived.Test.YtapbefpeopaecaaGreatDoorYGE
import Derived.Test.YtapbefpeopaecaaGreatDoorYWa
import Derived.Test.YtapbefpeopaecaaGreatDoorYWc
import Derived.Test.YtapbefpeopaecaaGreatDoorYWd
namespace Go.Proofs.YtapbefpeopaecaaGreatDoor
open Go.Kn Go.Num
set_option linter.unusedVariables false
set_option linter.unusedSimpArgs false
set_option maxRecDepth 20000
set_option maxHeartbeats 8000000
theorem fr_ (a : R) (ha : a.Ok) :
    Ret Tryz.prog 137 [RV a] (.int .i64 ((a.dec.bits : Nat) : Int)) := by
 refine av_ (N := 25) Tryz.func137 rfl rfl (by simp) (fun w0 => ?_)
 simp only [initF, Nat.reduceAdd]
 refine Sq fun K1 J1 => Rk fun K J => WL_r rfl (r_box rfl rfl (fun b1 hb1 => sE rfl (nl J (J1 _ _ (Sq fun K2 J2 => Rk fun K J => sQ (aW_ bv_ (by decide) rfl) rfl (sQ (cs_ (vs := uw a.w) ty_35 rfl (by repeat (first | exact .head _ | apply List.mem_append_right | apply List.Mem.tail)) (dp_ ha.len) ((ck_ _).trans ha.len)) rfl ?_))))))
 refine sQ (q_ret hY_ (dA_ a.w ha.len) rfl) rfl (sE rfl (nl J (J2 _ _ (Sq fun K3 J3 => Sq fun K4 J4 => Rk fun K J => sQ (aS_ ty_37 rfl (by repeat (first | exact .head _ | apply List.mem_append_right | apply List.Mem.tail)) (aQ_ ha)) rfl ?_))))
 refine WL_r rfl (cv_ eR_ z_37 sz_37 rfl (by decide) rfl (gs_ ha) (fun b8 hb8 => sQ (bU_ eT_ rfl (fun w hw => bZ_ [a] (ok1 ha) b8 37 w (hw.mem _ m0) (by simp))) rfl ?_))
 refine sE rfl (sE rfl ?_)
 cases hg : [a].all R.good
 ·skip
  refine WL_n rfl (WL_n rfl (sE rfl (nl J (J4 _ _ (bF_ rfl (Sq fun K5 J5 => Rk fun K J => sE rfl (nl J (J5 _ _ (W_ret (ai_ (ret1 rfl (.inr rfl) rfl ?_)))))))))))
  exact congrArg (fun n : Nat => Value.int .i64 (n : Int)) (oi_ (by simpa using hg))
 ·skip
  refine sE rfl (sE rfl (sE rfl (nl J (J4 _ _ ?_))))
  refine a6_ _ rfl (fun hz => ?_) (fun hz => ?_)
  ·(try simp only [decide_eq_true_eq, decide_eq_false_iff_not, beq_iff_eq, bne_iff_ne, beq_eq_false_iff_ne, bne_eq_false_iff_eq, Bool.not_eq_true', Bool.not_eq_false'] at hz)
   refine Sq fun K6 J6 => Rk fun K J => sE rfl (nl J (J6 _ _ (W_ret (ai_ (ret1 rfl (.inr rfl) rfl ?_)))))
   exact congrArg (fun n : Nat => Value.int .i64 (n : Int)) (m5_ ha (by simpa using hg) (by omega))
  ·(try simp only [decide_eq_true_eq, decide_eq_false_iff_not, beq_iff_eq, bne_iff_ne, beq_eq_false_iff_ne, bne_eq_false_iff_eq, Bool.not_eq_true', Bool.not_eq_false'] at hz)
   refine ak_ (J3 _ _ (Sq fun K7 J7 => ?_))
   have hs1 : 1 ≤ szL a.w := by omega
   have hs16 : szL a.w ≤ 16 := by have := fQ_ a.w; rw [ha.len] at this; exact this
   refine Rk fun K J => sE rfl (sQ (q_as (q_sub rfl rfl) (congrArg (Value.int .i64) (eV_ (b := 1) rfl (by omega) (by omega)))) rfl (sQ (q_as (q_mul rfl rfl) (congrArg (Value.int .i64) (mul32 rfl (by omega)))) rfl (sE rfl (sQ (q_as (q_sub rfl rfl) (congrArg (Value.int .i64) (eV_ (b := 1) rfl (by omega) (by omega)))) rfl (sQ (aW_ bv_ (by decide) rfl) rfl (sQ (bM_ ar_35 rfl rfl (by omega) (by omega)) rfl (sQ (bf_ ty_34 rfl (by repeat (first | exact .head _ | apply List.mem_append_right | apply List.Mem.tail)) (dC_ (r := a) (k := szL a.w - 1) (by rw [ha.len]; omega))) rfl ?_)))))))
   refine sQ (q_ret pH_ (jC_ _ (bj_ ha.lim _)) rfl) rfl (sQ (q_as (q_add rfl rfl) (congrArg (Value.int .i64) (d2_ (by have := fG_ (k := 32) (bj_ ha.lim (szL a.w - 1)); omega)))) rfl (sE rfl (nl J (J7 _ _ (W_ret (ret1 rfl (.inr rfl) rfl ?_))))))
   exact congrArg (fun n : Nat => Value.int .i64 (n : Int)) (oa_ ha (by simpa using hg) hs1)

theorem d1_ (a : R) (ha : a.Ok) :
    Ret Tryz.prog 152 [RV a] (.tuple #[.int .i64 a.dec.small.1, .bool a.dec.small.2]) := by
 refine av_ (N := 44) Tryz.func152 rfl rfl (by simp) (fun w0 => ?_)
 simp only [initF, Nat.reduceAdd]
 refine Sq fun K1 J1 => Rk fun K J => WL_r rfl (r_box rfl rfl (fun b1 hb1 => sE rfl (sE rfl (nl J (J1 _ _ (Sq fun K2 J2 => Sq fun K3 J3 => Rk fun K J => sQ (aS_ ty_37 rfl (by repeat (first | exact .head _ | apply List.mem_append_right | apply List.Mem.tail)) (aQ_ ha)) rfl ?_))))))
 refine WL_r rfl (cv_ eR_ z_37 sz_37 rfl (by decide) rfl (gs_ ha) (fun b6 hb6 => sQ (bU_ eT_ rfl (fun w hw => bZ_ [a] (ok1 ha) b6 37 w (hw.mem _ m0) (by simp))) rfl ?_))
 refine sE rfl (sE rfl ?_)
 cases hg : [a].all R.good
 ·skip
  refine WL_n rfl (WL_n rfl (WL_n rfl (sE rfl (nl J (J3 _ _ (bF_ rfl (Sq fun K4 J4 => Rk fun K J => sE rfl (sE rfl (nl J (J4 _ _ (W_ret (ai_ (ret2 rfl (.inr rfl) rfl rfl ?_)))))))))))))
  exact jS_ (by simpa using hg)
 ·skip
  refine sQ (aS_ ty_37 rfl (by repeat (first | exact .head _ | apply List.mem_append_right | apply List.Mem.tail)) (aQ_ ha)) rfl ?_
  refine sQ (q_ret nz_ (fr_ a ha) rfl) rfl (sE rfl (sE rfl (nl J (J3 _ _ ?_))))
  refine a6_ _ rfl (fun hb => ?_) (fun hb => ?_)
  ·(try simp only [decide_eq_true_eq, decide_eq_false_iff_not, beq_iff_eq, bne_iff_ne, beq_eq_false_iff_ne, bne_eq_false_iff_eq, Bool.not_eq_true', Bool.not_eq_false'] at hb)
   refine Sq fun K5 J5 => Rk fun K J => sE rfl (sE rfl (nl J (J5 _ _ (W_ret (ai_ (ret2 rfl (.inr rfl) rfl rfl ?_))))))
   exact l1_ ha (by simpa using hg) hb
  ·(try simp only [decide_eq_true_eq, decide_eq_false_iff_not, beq_iff_eq, bne_iff_ne, beq_eq_false_iff_ne, bne_eq_false_iff_eq, Bool.not_eq_true', Bool.not_eq_false'] at hb)
   have h64 := rd_ ha (by simpa using hg) hb
   refine ak_ (J2 _ _ (Sq fun K6 J6 => Rk fun K J => sQ (aW_ bv_ (by decide) rfl) rfl (sQ (bM_ ar_35 rfl rfl (by decide) (by decide)) rfl (sQ (bf_ ty_34 rfl (by repeat (first | exact .head _ | apply List.mem_append_right | apply List.Mem.tail)) (dC_ (r := a) (k := 1) (by rw [ha.len]; omega))) rfl ?_))))
   refine sQ (q_as (bt_ in_34 bT_ rfl) (f6_ (bj_ ha.lim _))) rfl (sQ (q_as (q_shl rfl rfl (by decide)) (congrArg (Value.int .u64) (gi_ (bj_ ha.lim _)))) rfl (sQ (aW_ bv_ (by decide) rfl) rfl (sQ (bM_ ar_35 rfl rfl (by decide) (by decide)) rfl (sQ (bf_ ty_34 rfl (by repeat (first | exact .head _ | apply List.mem_append_right | apply List.Mem.tail)) (dC_ (r := a) (k := 0) (by rw [ha.len]; omega))) rfl ?_))))
   refine sQ (q_as (bt_ in_34 bT_ rfl) (f6_ (bj_ ha.lim _))) rfl (sQ (q_as (q_or rfl rfl) (congrArg (Value.int .u64) ((or_hi (bj_ ha.lim _) (bj_ ha.lim _)).trans (congrArg (fun m : Nat => (m : Int)) (gD_ ha h64))))) rfl (sE rfl (nl J (J6 _ _ (Sq fun K7 J7 => ar_ (Sq fun K8 J8 => Rk fun K J => sQ (aW_ bq_ (by decide) rfl) rfl (sQ (bf_ ty_4 rfl (by repeat (first | exact .head _ | apply List.mem_append_right | apply List.Mem.tail)) rfl) rfl ?_)))))))
   refine sE rfl ?_
   cases hn : a.neg
   ·skip
    refine WL_n rfl (WL_n rfl (sE rfl (sE rfl (nl J (J8 _ _ (by_ rfl (Sq fun K9 J9 => Rk fun K J => sQ (aW_ bq_ (by decide) rfl) rfl (sQ (bf_ ty_4 rfl (by repeat (first | exact .head _ | apply List.mem_append_right | apply List.Mem.tail)) rfl) rfl ?_))))))))
    refine sE rfl ?_
    rw [hn]
    refine sE rfl (sE rfl (sE rfl (sE rfl (sE rfl (nl J (J9 _ _ ?_))))))
    refine a6_ _ rfl (fun hlt => ?_) (fun hlt => ?_)
    ·(try simp only [decide_eq_true_eq, decide_eq_false_iff_not, beq_iff_eq, bne_iff_ne, beq_eq_false_iff_ne, bne_eq_false_iff_eq, Bool.not_eq_true', Bool.not_eq_false'] at hlt)
     refine Sq fun K10 J10 => Rk fun K J => sE rfl (sQ (q_as (bt_ bT_ in_3 rfl) (congrArg (Value.int .i64) (nF_ (by omega)))) rfl (sE rfl (sE rfl (nl J (J10 _ _ (W_ret (aB_ (ai_ (ret2 rfl (.inr rfl) rfl rfl ?_)))))))))
     exact hG_ ha (by simpa using hg) (by rw [hn]; rfl) (by rw [hn, sgn_f]; omega)
    ·(try simp only [decide_eq_true_eq, decide_eq_false_iff_not, beq_iff_eq, bne_iff_ne, beq_eq_false_iff_ne, bne_eq_false_iff_eq, Bool.not_eq_true', Bool.not_eq_false'] at hlt)
     refine ak_ (J7 _ _ (Sq fun K11 J11 => Rk fun K J => sE rfl (sE rfl (nl J (J11 _ _ (W_ret (ret2 rfl (.inr rfl) rfl rfl ?_)))))))
     exact gk_ ha (by simpa using hg) (by rw [hn, sgn_f]; omega)
   ·skip
    refine sE rfl (sE rfl (sE rfl (sE rfl (nl J (J8 _ _ ?_)))))
    refine a6_ _ rfl (fun hle => ?_) (fun hle => ?_)
    ·(try simp only [decide_eq_true_eq, decide_eq_false_iff_not, beq_iff_eq, bne_iff_ne, beq_eq_false_iff_ne, bne_eq_false_iff_eq, Bool.not_eq_true', Bool.not_eq_false'] at hle)
     refine Sq fun K12 J12 => Rk fun K J => sE rfl (sE rfl (sQ (q_as (bt_ bT_ in_3 rfl) (congrArg (Value.int .i64) (nw_ (by omega)))) rfl (sE rfl (sE rfl (nl J (J12 _ _ (W_ret (aB_ (ai_ (ret2 rfl (.inr rfl) rfl rfl ?_))))))))))
     exact hG_ ha (by simpa using hg) (by rw [hn]; rfl) (by rw [hn, sgn_t]; omega)
    ·(try simp only [decide_eq_true_eq, decide_eq_false_iff_not, beq_iff_eq, bne_iff_ne, beq_eq_false_iff_ne, bne_eq_false_iff_eq, Bool.not_eq_true', Bool.not_eq_false'] at hle)
     refine Sq fun K13 J13 => Rk fun K J => sQ (aW_ bq_ (by decide) rfl) rfl (sQ (bf_ ty_4 rfl (by repeat (first | exact .head _ | apply List.mem_append_right | apply List.Mem.tail)) rfl) rfl ?_)
     refine sE rfl ?_
     rw [hn]
     refine sE rfl (WL_n rfl (WL_n rfl (sE rfl (sE rfl (nl J (J13 _ _ (by_ rfl (ak_ (J7 _ _ (Sq fun K14 J14 => Rk fun K J => sE rfl (sE rfl (nl J (J14 _ _ (W_ret (ret2 rfl (.inr rfl) rfl rfl ?_)))))))))))))))
     exact gk_ ha (by simpa using hg) (by rw [hn, sgn_t]; omega)

theorem fy_ (a b : R) (ha : a.Ok) (hb : b.Ok) :
    Ret Tryz.prog 142 [RV a, RV b] (.tuple #[RV (Z.quo a.dec b.dec).enc, RV (Z.rem a.dec b.dec).enc]) := by
 refine av_ (N := 108) Tryz.func142 rfl rfl (by simp) (fun w0 => ?_)
 simp only [initF, Nat.reduceAdd]
 refine Sq fun K1 J1 => Rk fun K J => WL_r rfl (r_box rfl rfl (fun b2 hb2 => WL_r rfl (r_box rfl rfl (fun b3 hb3 => WL_r rfl (bl_ z_37 (fun b4 hb4 => WL_r rfl (bl_ z_37 (fun b5 hb5 => nl J (J1 _ _ (Sq fun K2 J2 => Sq fun K3 J3 => Rk fun K J => sQ (aS_ ty_37 rfl (by repeat (first | exact .head _ | apply List.mem_append_right | apply List.Mem.tail)) (aQ_ ha)) rfl ?_))))))))))
 refine sQ (aS_ ty_37 rfl (by repeat (first | exact .head _ | apply List.mem_append_right | apply List.Mem.tail)) (aQ_ hb)) rfl ?_
 refine WL_r rfl (cv_ eR_ z_37 sz_37 rfl (by decide) rfl (lI_ ha hb) (fun b17 hb17 => sQ (bU_ eT_ rfl (fun w hw => bZ_ [a, b] (ok2 ha hb) b17 37 w (hw.mem _ m0) (by simp))) rfl ?_))
 refine sE rfl (sE rfl ?_)
 cases hg : [a, b].all R.good
 ·skip
  refine WL_n rfl (WL_n rfl (WL_n rfl (sE rfl (nl J (J3 _ _ (bF_ rfl (Sq fun K4 J4 => Rk fun K J => sQ (q_ret eL_ bW_ rfl) rfl (sQ (q_ret eL_ bW_ rfl) rfl (WL_r rfl (aG_ ty_37 rfl rfl (by repeat (first | exact .head _ | apply Upd.left | apply Upd.tail)) (ag_ _) rfl (at_ _) (.inl (by assumption)) ?_))))))))))
  refine WL_r rfl (aG_ ty_37 rfl rfl (by repeat (first | exact .head _ | apply Upd.left | apply Upd.tail)) (ag_ _) rfl (at_ _) (.inl (by assumption)) ?_)
  refine nl J (J4 _ _ (W_ret (ai_ (ret2 rfl (.inr rfl) ⟨_, _, _, _, _, _, rfl, (by repeat (first | exact .head _ | apply List.mem_append_right | apply List.Mem.tail)), ty_37, _, (bd_ (ag_ _)), (ag_ _), rfl⟩ ⟨_, _, _, _, _, _, rfl, (by repeat (first | exact .head _ | apply List.mem_append_right | apply List.Mem.tail)), ty_37, _, (bd_ (ag_ _)), (ag_ _), rfl⟩ ?_))))
  exact qn_ (hO_ hg)
 ·skip
  have hg := all2.1 hg
  refine sQ (aS_ ty_37 rfl (by repeat (first | exact .head _ | apply List.mem_append_right | apply List.Mem.tail)) (aQ_ hb)) rfl ?_
  refine sQ (q_ret fu_ (cf_ b hb) rfl) rfl (sE rfl (sE rfl (nl J (J3 _ _ ?_))))
  refine a6_ _ rfl (fun hs0 => ?_) (fun hs0 => ?_)
  ·(try simp only [decide_eq_true_eq, decide_eq_false_iff_not, beq_iff_eq, bne_iff_ne, beq_eq_false_iff_ne, bne_eq_false_iff_eq, Bool.not_eq_true', Bool.not_eq_false'] at hs0)
   refine Sq fun K5 J5 => Rk fun K J => sQ (q_ret eL_ bW_ rfl) rfl (sQ (q_ret eL_ bW_ rfl) rfl (WL_r rfl (aG_ ty_37 rfl rfl (by repeat (first | exact .head _ | apply Upd.left | apply Upd.tail)) (ag_ _) rfl (at_ _) (.inl (by assumption)) ?_)))
   refine WL_r rfl (aG_ ty_37 rfl rfl (by repeat (first | exact .head _ | apply Upd.left | apply Upd.tail)) (ag_ _) rfl (at_ _) (.inl (by assumption)) ?_)
   refine nl J (J5 _ _ (W_ret (ai_ (ret2 rfl (.inr rfl) ⟨_, _, _, _, _, _, rfl, (by repeat (first | exact .head _ | apply List.mem_append_right | apply List.Mem.tail)), ty_37, _, (bd_ (ag_ _)), (ag_ _), rfl⟩ ⟨_, _, _, _, _, _, rfl, (by repeat (first | exact .head _ | apply List.mem_append_right | apply List.Mem.tail)), ty_37, _, (bd_ (ag_ _)), (ag_ _), rfl⟩ ?_))))
   exact n9_ ha hb hg.1 hg.2 hs0
  ·(try simp only [decide_eq_true_eq, decide_eq_false_iff_not, beq_iff_eq, bne_iff_ne, beq_eq_false_iff_ne, bne_eq_false_iff_eq, Bool.not_eq_true', Bool.not_eq_false'] at hs0)
   have hs0 : b.dec.sign ≠ 0 := hs0
   have hp := gt_ hb hg.2 hs0
   refine ak_ (J2 _ _ ?_)
   refine bQ_ [6, 7, 8, 9, 10, 11, 27, 28, 29, 30, 31, 32, 33, 34, 35, 36, 37, 38, 39, 40, 41, 42, 43, 44, 45, 46, 47, 48, 49, 50, 51, 52, 53, 54, 55, 56, 57, 58, 59, 60, 61, 62, 63, 64, 65, 66, 67, 68, 69, 70] (fun g M => (True) ∧ M = [⟨b5, 37, zR⟩, ⟨b4, 37, zR⟩, ⟨b3, 37, b.cells⟩, ⟨b2, 37, a.cells⟩] ∧ (True)) (fun K6 J6 => ?_) ?_
   ·skip
    refine Sq fun K7 J7 => Rk fun K J => sQ (aS_ ty_37 rfl (by repeat (first | exact .head _ | apply List.mem_append_right | apply List.Mem.tail)) (aQ_ ha)) rfl ?_
    refine sQ (q_ret jy_ (d1_ a ha) rfl) rfl (sE rfl (sE rfl (sE rfl (sE rfl (sE rfl (nl J (J7 _ _ (Sq fun K8 J8 => Rk fun K J => sE rfl (sE rfl ?_)))))))))
    cases hsa : a.dec.small.2
    ·skip
     refine WL_n rfl (WL_n rfl (sE rfl (nl J (J8 _ _ (by_ rfl (ak_ ?_))))))
     refine J6 _ _ (by repeat first | exact .refl | refine .cons rfl ?_) ⟨_, (List.Sublist.cons _ (List.Sublist.refl _)), trivial, ?mem, trivial⟩
     case mem => rfl
    ·skip
     refine sE rfl (sE rfl (sE rfl (nl J (J8 _ _ ?_))))
     refine a6_ _ rfl (fun hma => ?_) (fun hma => ?_)
     ·(try simp only [decide_eq_true_eq, decide_eq_false_iff_not, beq_iff_eq, bne_iff_ne, beq_eq_false_iff_ne, bne_eq_false_iff_eq, Bool.not_eq_true', Bool.not_eq_false'] at hma)
      have ea := ho_ hsa
      refine Sq fun K9 J9 => Rk fun K J => sQ (aS_ ty_37 rfl (by repeat (first | exact .head _ | apply List.mem_append_right | apply List.Mem.tail)) (aQ_ hb)) rfl ?_
      refine sQ (q_ret jy_ (d1_ b hb) rfl) rfl (sE rfl (sE rfl (sE rfl (sE rfl (sE rfl (nl J (J9 _ _ (Sq fun K10 J10 => Rk fun K J => sE rfl (sE rfl ?_)))))))))
      cases hsb : b.dec.small.2
      ·skip
       refine WL_n rfl (WL_n rfl (sE rfl (nl J (J10 _ _ (by_ rfl (ak_ ?_))))))
       refine J6 _ _ (by repeat first | exact .refl | refine .cons rfl ?_) ⟨_, (List.Sublist.cons _ (List.Sublist.refl _)), trivial, ?mem, trivial⟩
       case mem => rfl
      ·skip
       refine sE rfl (sE rfl (sE rfl (nl J (J10 _ _ ?_))))
       refine a6_ _ rfl (fun hmb => ?_) (fun hmb => ?_)
       ·(try simp only [decide_eq_true_eq, decide_eq_false_iff_not, beq_iff_eq, bne_iff_ne, beq_eq_false_iff_ne, bne_eq_false_iff_eq, Bool.not_eq_true', Bool.not_eq_false'] at hmb)
        have eb := ho_ hsb
        have hy0 := je_ eb.1 hs0
        have hq64 : I64 (a.dec.small.1.tdiv b.dec.small.1) := nH_ ea.2 hma
        have hr64 := r9_ (x := a.dec.small.1) hy0 eb.2
        refine Sq fun K11 J11 => dr (sk (sk (sk (sk (sk (s0)))))) [0,4,8,12,16,20,24,28] [] mix (by kernel_rfl) (fun K J => pE rfl (pE rfl (pQ rfl (q_as (q_quo rfl rfl hy0) (congrArg (Value.int .i64) (aN_ (nH_ ea.2 hma)))) (pE rfl (pE rfl (pQ rfl (q_rem rfl rfl hy0) (pE rfl (pE rfl (fl J (J11 _ _ (Sq fun K12 J12 => Sq fun K13 J13 => Rk fun K J => sE rfl (sE rfl (sE rfl ?_)))))))))))))
        cases hr0 : (a.dec.small.1.tmod b.dec.small.1 != 0)
        ·skip
         refine WL_n rfl (WL_n rfl (WL_n rfl (WL_n rfl (WL_n rfl (sE rfl (nl J (J13 _ _ (by_ rfl (ak_ (J12 _ _ (Sq fun K14 J14 => Rk fun K J => sE rfl (sQ (q_ret en_61 (bJ_ _ (by first | exact hI1 | exact hq64)) rfl) rfl ?_))))))))))))
         refine sE rfl (sQ (q_ret en_61 (bJ_ _ (by first | exact hI2 | exact hr64)) rfl) rfl ?_)
         refine WL_r rfl (aG_ ty_37 rfl rfl (by repeat (first | exact .head _ | apply Upd.left | apply Upd.tail)) (ag_ _) rfl (at_ _) (.inl (by assumption)) ?_)
         refine WL_r rfl (aG_ ty_37 rfl rfl (by repeat (first | exact .head _ | apply Upd.left | apply Upd.tail)) (ag_ _) rfl (at_ _) (.inl (by assumption)) ?_)
         refine nl J (J14 _ _ (W_ret (ai_ (ret2 rfl (.inr rfl) ⟨_, _, _, _, _, _, rfl, (by repeat (first | exact .head _ | apply List.mem_append_right | apply List.Mem.tail)), ty_37, _, (bd_ (ag_ _)), (ag_ _), rfl⟩ ⟨_, _, _, _, _, _, rfl, (by repeat (first | exact .head _ | apply List.mem_append_right | apply List.Mem.tail)), ty_37, _, (bd_ (ag_ _)), (ag_ _), rfl⟩ ?_))))
         exact ih_ ea.1 eb.1 hs0 (ir_ hy0 (.inl (by simpa using hr0)))
        ·skip
         refine sE rfl (sE rfl (sE rfl (sE rfl (sQ (fw_ bo_4 rfl rfl) rfl (sE rfl (nl J (J13 _ _ ?_)))))))
         refine a6_ _ rfl (fun hsg => ?_) (fun hsg => ?_)
         ·(try simp only [decide_eq_true_eq, decide_eq_false_iff_not, beq_iff_eq, bne_iff_ne, beq_eq_false_iff_ne, bne_eq_false_iff_eq, Bool.not_eq_true', Bool.not_eq_false'] at hsg)
          have hI1 : I64 (a.dec.small.1.tdiv b.dec.small.1 - 1) := o7_ ea.2 hma
          have hI2 := sc_ hy0 eb.2 (bne_iff_ne.2 hsg)
          refine Rk fun K J => sE rfl (sQ (q_as (q_sub rfl rfl) (congrArg (Value.int .i64) (aN_ hI1))) rfl (sE rfl (sE rfl (sQ (q_as (q_add rfl rfl) (congrArg (Value.int .i64) (aN_ hI2))) rfl (sE rfl (sE rfl (nl J (J12 _ _ (Sq fun K15 J15 => Rk fun K J => sE rfl (sQ (q_ret en_61 (bJ_ _ (by first | exact hI1 | exact hq64)) rfl) rfl ?_))))))))))
          refine sE rfl (sQ (q_ret en_61 (bJ_ _ (by first | exact hI2 | exact hr64)) rfl) rfl ?_)
          refine WL_r rfl (aG_ ty_37 rfl rfl (by repeat (first | exact .head _ | apply Upd.left | apply Upd.tail)) (ag_ _) rfl (at_ _) (.inl (by assumption)) ?_)
          refine WL_r rfl (aG_ ty_37 rfl rfl (by repeat (first | exact .head _ | apply Upd.left | apply Upd.tail)) (ag_ _) rfl (at_ _) (.inl (by assumption)) ?_)
          refine nl J (J15 _ _ (W_ret (ai_ (ret2 rfl (.inr rfl) ⟨_, _, _, _, _, _, rfl, (by repeat (first | exact .head _ | apply List.mem_append_right | apply List.Mem.tail)), ty_37, _, (bd_ (ag_ _)), (ag_ _), rfl⟩ ⟨_, _, _, _, _, _, rfl, (by repeat (first | exact .head _ | apply List.mem_append_right | apply List.Mem.tail)), ty_37, _, (bd_ (ag_ _)), (ag_ _), rfl⟩ ?_))))
          exact ih_ ea.1 eb.1 hs0 (nx_ hy0 (by simpa using hr0) (bne_iff_ne.2 hsg))
         ·(try simp only [decide_eq_true_eq, decide_eq_false_iff_not, beq_iff_eq, bne_iff_ne, beq_eq_false_iff_ne, bne_eq_false_iff_eq, Bool.not_eq_true', Bool.not_eq_false'] at hsg)
          refine ak_ (J12 _ _ (Sq fun K16 J16 => Rk fun K J => sE rfl (sQ (q_ret en_61 (bJ_ _ (by first | exact hI1 | exact hq64)) rfl) rfl ?_)))
          refine sE rfl (sQ (q_ret en_61 (bJ_ _ (by first | exact hI2 | exact hr64)) rfl) rfl ?_)
          refine WL_r rfl (aG_ ty_37 rfl rfl (by repeat (first | exact .head _ | apply Upd.left | apply Upd.tail)) (ag_ _) rfl (at_ _) (.inl (by assumption)) ?_)
          refine WL_r rfl (aG_ ty_37 rfl rfl (by repeat (first | exact .head _ | apply Upd.left | apply Upd.tail)) (ag_ _) rfl (at_ _) (.inl (by assumption)) ?_)
          refine nl J (J16 _ _ (W_ret (ai_ (ret2 rfl (.inr rfl) ⟨_, _, _, _, _, _, rfl, (by repeat (first | exact .head _ | apply List.mem_append_right | apply List.Mem.tail)), ty_37, _, (bd_ (ag_ _)), (ag_ _), rfl⟩ ⟨_, _, _, _, _, _, rfl, (by repeat (first | exact .head _ | apply List.mem_append_right | apply List.Mem.tail)), ty_37, _, (bd_ (ag_ _)), (ag_ _), rfl⟩ ?_))))
          exact ih_ ea.1 eb.1 hs0 (ir_ hy0 (.inr (by simpa using hsg)))
       ·(try simp only [decide_eq_true_eq, decide_eq_false_iff_not, beq_iff_eq, bne_iff_ne, beq_eq_false_iff_ne, bne_eq_false_iff_eq, Bool.not_eq_true', Bool.not_eq_false'] at hmb)
        refine ak_ ?_
        refine J6 _ _ (by repeat first | exact .refl | refine .cons rfl ?_) ⟨_, (List.Sublist.cons _ (List.Sublist.refl _)), trivial, ?mem, trivial⟩
        case mem => rfl
     ·(try simp only [decide_eq_true_eq, decide_eq_false_iff_not, beq_iff_eq, bne_iff_ne, beq_eq_false_iff_ne, bne_eq_false_iff_eq, Bool.not_eq_true', Bool.not_eq_false'] at hma)
      refine ak_ ?_
      refine J6 _ _ (by repeat first | exact .refl | refine .cons rfl ?_) ⟨_, (List.Sublist.cons _ (List.Sublist.refl _)), trivial, ?mem, trivial⟩
      case mem => rfl
   ·skip
    rintro g M ⟨-, rfl, -⟩
    simp only [setG]
    refine Sq fun K17 J17 => Rk fun K J => sQ (aW_ bv_ (by decide) rfl) rfl (sQ (cs_ (vs := uw a.w) ty_35 rfl (by repeat (first | exact .head _ | apply List.mem_append_right | apply List.Mem.tail)) (dp_ ha.len) ((ck_ _).trans ha.len)) rfl ?_)
    refine sQ (aW_ bv_ (by decide) rfl) rfl (sQ (cs_ (vs := uw b.w) ty_35 rfl (by repeat (first | exact .head _ | apply List.mem_append_right | apply List.Mem.tail)) (dp_ hb.len) ((ck_ _).trans hb.len)) rfl ?_)
    refine sQ (q_ret mh_ (ep_ a.w b.w ha.len hb.len ha.lim hb.lim hp) rfl) rfl (sE rfl (sE rfl (sE rfl (WL_r rfl (bl_ z_35 (fun b12 hb12 => WL_r rfl (bl_ z_35 (fun b13 hb13 => WL_r rfl (aG_ ty_35 rfl rfl (by repeat (first | exact .head _ | apply Upd.left | apply Upd.tail)) (by simp [uw, a3_]) (by simp [uw]) (ce_ _) (.inl (by assumption)) ?_)))))))))
    refine WL_r rfl (aG_ ty_35 rfl rfl (by repeat (first | exact .head _ | apply Upd.left | apply Upd.tail)) (by simp [uw, a3_]) (by simp [uw]) (ce_ _) (.inl (by assumption)) ?_)
    refine nl J (J17 _ _ (Sq fun K18 J18 => Rk fun K J => sQ (aW_ bq_ (by decide) rfl) rfl (sQ (bf_ ty_4 rfl (by repeat (first | exact .head _ | apply List.mem_append_right | apply List.Mem.tail)) rfl) rfl ?_)))
    refine sQ (aW_ bq_ (by decide) rfl) rfl (sQ (bf_ ty_4 rfl (by repeat (first | exact .head _ | apply List.mem_append_right | apply List.Mem.tail)) rfl) rfl ?_)
    refine sQ (fw_ bo_4 rfl rfl) rfl (sQ (aS_ ty_35 rfl (by repeat (first | exact .head _ | apply List.mem_append_right | apply List.Mem.tail)) (by simp [uw, a3_])) rfl ?_)
    refine sQ (q_as (q_ret eu_ (bn_ (a.neg != b.neg) _ (a3_ _ _) (dh_ _ _)) rfl) (congrArg RV (dD_ _ (o4_ ha)))) rfl (WL_r rfl (bl_ z_37 (fun b14 hb14 => WL_r rfl (aG_ ty_37 rfl rfl (by repeat (first | exact .head _ | apply Upd.left | apply Upd.tail)) (ag_ _) rfl (at_ _) (.inl (by assumption)) ?_))))
    refine nl J (J18 _ _ ?_)
    refine bQ_ [86, 87, 88, 89, 90, 91, 92, 93, 94, 95, 96, 97, 98, 99, 100, 101, 102] (fun g M => ∃ (z : Z) (l : List Nat), (True) ∧ M = [⟨b14, 37, z.enc.cells⟩, ⟨b13, 35, uw l⟩, ⟨b12, 35, uw (toL 16 (val a.w / val b.w))⟩, ⟨b5, 37, zR⟩, ⟨b4, 37, zR⟩, ⟨b3, 37, b.cells⟩, ⟨b2, 37, a.cells⟩] ∧ (l.length = 16 ∧ Lim l ∧ z = Z.quo a.dec b.dec ∧ R.mk false (b.neg && !(val l == 0)) l = (Z.rem a.dec b.dec).enc)) (fun K19 J19 => ?_) ?_
    ·skip
     refine Sq fun K20 J20 => Rk fun K J => sQ (aS_ ty_35 rfl (by repeat (first | exact .head _ | apply List.mem_append_right | apply List.Mem.tail)) (by simp [uw, a3_])) rfl ?_
     refine sQ (d6_ z_35 ar_35 rfl (.nil _)) rfl ?_
     refine sQ (gw_ (r := (val a.w % val b.w == 0)) rfl rfl (dU_ 8 (by decide) eg_35 lv_35 (dM_ (a3_ _ _)) (dM_ (by simp)) (oG_ ha))) rfl ?_
     refine sE rfl ?_
     cases hr1 : (val a.w % val b.w == 0)
     ·skip
      refine sQ (aW_ bq_ (by decide) rfl) rfl (sQ (bf_ ty_4 rfl (by repeat (first | exact .head _ | apply List.mem_append_right | apply List.Mem.tail)) rfl) rfl ?_)
      refine sQ (aW_ bq_ (by decide) rfl) rfl (sQ (bf_ ty_4 rfl (by repeat (first | exact .head _ | apply List.mem_append_right | apply List.Mem.tail)) rfl) rfl ?_)
      refine sQ (fw_ bo_4 rfl rfl) rfl (sE rfl (nl J (J20 _ _ ?_)))
      refine a6_ _ rfl (fun hne => ?_) (fun hne => ?_)
      ·(try simp only [decide_eq_true_eq, decide_eq_false_iff_not, beq_iff_eq, bne_iff_ne, beq_eq_false_iff_ne, bne_eq_false_iff_eq, Bool.not_eq_true', Bool.not_eq_false'] at hne)
       refine dr (sd (sd (sk (sk (sk (sk (sk (s0)))))))) [0,4,8,12,16,20,24,29,33] [7,8] mix (by kernel_rfl) (fun K J => pQ rfl (aS_ ty_37 rfl (by repeat (first | exact .head _ | apply List.mem_append_right | apply List.Mem.tail)) (ag_ _)) ?_)
       refine pQ rfl (q_ret en_61 (bJ_ 1 (by unfold I64; decide)) rfl) (pQ rfl (q_ret kD_ (e0_ (Z.of (sgn (a.neg != b.neg) (val a.w / val b.w))).enc (Z.of 1).enc (Z.enc_ok _) (Z.enc_ok _)) rfl) (pQ rfl (aW_ bv_ (by decide) rfl) (pQ rfl (cs_ (vs := uw b.w) ty_35 rfl (by repeat (first | exact .head _ | apply List.mem_append_right | apply List.Mem.tail)) (dp_ hb.len) ((ck_ _).trans hb.len)) ?_)))
       refine pQ rfl (aS_ ty_35 rfl (by repeat (first | exact .head _ | apply List.mem_append_right | apply List.Mem.tail)) (by simp [uw, a3_])) ?_
       refine pQ rfl (q_ret mq_ (fe_ b.w _ hb.len (a3_ _ _) hb.lim (dh_ _ _) (rE_ ha hp)) rfl) ?_
       refine PL_o rfl rfl (aG_ ty_37 rfl rfl (by repeat (first | exact .head _ | apply Upd.left | apply Upd.tail)) (ag_ _) (ag_ _) (at_ _) (.inl (by assumption)) ⟨nf, (by repeat (first | exact s0 | exact sn | refine sk ?_ | refine sd ?_ | refine sA ?_ | refine sR ?_)), ?_⟩)
       refine PL_o rfl rfl (aG_ ty_35 rfl rfl (by repeat (first | exact .head _ | apply Upd.left | apply Upd.tail)) (by simp [uw, a3_]) (by simp [uw, a3_]) (ce_ _) (.inl (by assumption)) ⟨nf, (by repeat (first | exact s0 | exact sn | refine sk ?_ | refine sd ?_ | refine sA ?_ | refine sR ?_)), ?_⟩)
       refine fl J ?_
       refine J19 _ _ (by repeat first | exact .refl | refine .cons rfl ?_) ⟨_, (List.Sublist.refl _), _, _, trivial, ?mem, p9_ ha hb hg.1 hg.2 hp (by simpa using hr1) hne⟩
       case mem => rfl
      ·(try simp only [decide_eq_true_eq, decide_eq_false_iff_not, beq_iff_eq, bne_iff_ne, beq_eq_false_iff_ne, bne_eq_false_iff_eq, Bool.not_eq_true', Bool.not_eq_false'] at hne)
       refine ak_ ?_
       refine J19 _ _ (by repeat first | exact .refl | refine .cons rfl ?_) ⟨_, (List.Sublist.refl _), _, _, trivial, ?mem, k0_ ha hb hg.1 hg.2 hp (.inr (by simpa using hne))⟩
       case mem => rfl
     ·skip
      refine WL_n rfl (WL_n rfl (WL_n rfl (WL_n rfl (WL_n rfl (sE rfl (nl J (J20 _ _ (by_ rfl (ak_ ?_)))))))))
      refine J19 _ _ (by repeat first | exact .refl | refine .cons rfl ?_) ⟨_, (List.Sublist.refl _), _, _, trivial, ?mem, k0_ ha hb hg.1 hg.2 hp (.inl (by simpa using hr1))⟩
      case mem => rfl
    ·skip
     rintro g M ⟨z, l, -, rfl, ⟨hl16, hlim, hzq, hzr⟩⟩
     simp only [setG]
     refine Sq fun K21 J21 => dr (sk (sk (sk (sd (sd (sk (sk (s0)))))))) [0,4,8,12,16,21,25] [5,6] mix (by kernel_rfl) (fun K J => pQ rfl (aS_ ty_37 rfl (by repeat (first | exact .head _ | apply List.mem_append_right | apply List.Mem.tail)) (ag_ _)) ?_)
     refine pQ rfl (aW_ bq_ (by decide) rfl) (pQ rfl (bf_ ty_4 rfl (by repeat (first | exact .head _ | apply List.mem_append_right | apply List.Mem.tail)) rfl) ?_)
     refine pQ rfl (aS_ ty_35 rfl (by repeat (first | exact .head _ | apply List.mem_append_right | apply List.Mem.tail)) (by rw [ck_, hl16])) ?_
     refine pQ rfl (q_ret eu_ (bn_ b.neg l hl16 hlim) rfl) ?_
     refine PL_o rfl rfl (aG_ ty_37 rfl rfl (by repeat (first | exact .head _ | apply Upd.left | apply Upd.tail)) (ag_ _) rfl (at_ _) (.inl (by assumption)) ⟨nf, (by repeat (first | exact s0 | exact sn | refine sk ?_ | refine sd ?_ | refine sA ?_ | refine sR ?_)), ?_⟩)
     refine PL_o rfl rfl (aG_ ty_37 rfl rfl (by repeat (first | exact .head _ | apply Upd.left | apply Upd.tail)) (cC_ hl16) rfl (at_ _) (.inl (by assumption)) ⟨nf, (by repeat (first | exact s0 | exact sn | refine sk ?_ | refine sd ?_ | refine sA ?_ | refine sR ?_)), ?_⟩)
     refine fl J (J21 _ _ (W_ret (ret2 rfl (.inr rfl) ⟨_, _, _, _, _, _, rfl, (by repeat (first | exact .head _ | apply List.mem_append_right | apply List.Mem.tail)), ty_37, _, (bd_ (ag_ _)), (ag_ _), rfl⟩ ⟨_, _, _, _, _, _, rfl, (by repeat (first | exact .head _ | apply List.mem_append_right | apply List.Mem.tail)), ty_37, _, (bd_ (cC_ hl16)), (cC_ hl16), rfl⟩ ?_)))
     (subst hzq; exact congrArg (fun r : R => Value.tuple #[RV (Z.quo a.dec b.dec).enc, RV r]) hzr)

theorem cj_ (a b : R) (ha : a.Ok) (hb : b.Ok) :
    Ret Tryz.prog 97 [RV a, RV b] (RV (Z.quo a.dec b.dec).enc) := by
 refine av_ (N := 14) Tryz.func97 rfl rfl (by simp) (fun w0 => ?_)
 simp only [initF, Nat.reduceAdd]
 refine Sq fun K1 J1 => Rk fun K J => WL_r rfl (r_box rfl rfl (fun b2 hb2 => WL_r rfl (r_box rfl rfl (fun b3 hb3 => WL_r rfl (bl_ z_37 (fun b4 hb4 => nl J (J1 _ _ (Sq fun K2 J2 => Rk fun K J => sQ (aS_ ty_37 rfl (by repeat (first | exact .head _ | apply List.mem_append_right | apply List.Mem.tail)) (aQ_ ha)) rfl ?_))))))))
 refine sQ (aS_ ty_37 rfl (by repeat (first | exact .head _ | apply List.mem_append_right | apply List.Mem.tail)) (aQ_ hb)) rfl ?_
 refine sQ (q_ret pF_ (fy_ a b ha hb) rfl) rfl (sE rfl (sE rfl (sE rfl (WL_r rfl (bl_ z_37 (fun b5 hb5 => WL_r rfl (bl_ z_37 (fun b6 hb6 => WL_r rfl (aG_ ty_37 rfl rfl (by repeat (first | exact .head _ | apply Upd.left | apply Upd.tail)) (ag_ _) rfl (at_ _) (.inl (by assumption)) ?_)))))))))
 refine WL_r rfl (aG_ ty_37 rfl rfl (by repeat (first | exact .head _ | apply Upd.left | apply Upd.tail)) (ag_ _) rfl (at_ _) (.inl (by assumption)) ?_)
 refine nl J (J2 _ _ (Sq fun K3 J3 => Rk fun K J => sQ (aS_ ty_37 rfl (by repeat (first | exact .head _ | apply List.mem_append_right | apply List.Mem.tail)) (ag_ _)) rfl ?_))
 refine WL_r rfl (aG_ ty_37 rfl rfl (by repeat (first | exact .head _ | apply Upd.left | apply Upd.tail)) (ag_ _) rfl (at_ _) (.inl (by assumption)) ?_)
 refine nl J (J3 _ _ (W_ret (ret1 rfl (.inr rfl) ⟨_, _, _, _, _, _, rfl, (by repeat (first | exact .head _ | apply List.mem_append_right | apply List.Mem.tail)), ty_37, _, (bd_ (ag_ _)), (ag_ _), rfl⟩ ?_)))
 exact rfl

theorem hb_ (a b : R) (ha : a.Ok) (hb : b.Ok) :
    Ret Tryz.prog 117 [RV a, RV b] (RV (Z.rem a.dec b.dec).enc) := by
 refine av_ (N := 14) Tryz.func117 rfl rfl (by simp) (fun w0 => ?_)
 simp only [initF, Nat.reduceAdd]
 refine Sq fun K1 J1 => Rk fun K J => WL_r rfl (r_box rfl rfl (fun b2 hb2 => WL_r rfl (r_box rfl rfl (fun b3 hb3 => WL_r rfl (bl_ z_37 (fun b4 hb4 => nl J (J1 _ _ (Sq fun K2 J2 => Rk fun K J => sQ (aS_ ty_37 rfl (by repeat (first | exact .head _ | apply List.mem_append_right | apply List.Mem.tail)) (aQ_ ha)) rfl ?_))))))))
 refine sQ (aS_ ty_37 rfl (by repeat (first | exact .head _ | apply List.mem_append_right | apply List.Mem.tail)) (aQ_ hb)) rfl ?_
 refine sQ (q_ret pF_ (fy_ a b ha hb) rfl) rfl (sE rfl (sE rfl (sE rfl (WL_r rfl (bl_ z_37 (fun b5 hb5 => WL_r rfl (bl_ z_37 (fun b6 hb6 => WL_r rfl (aG_ ty_37 rfl rfl (by repeat (first | exact .head _ | apply Upd.left | apply Upd.tail)) (ag_ _) rfl (at_ _) (.inl (by assumption)) ?_)))))))))
 refine WL_r rfl (aG_ ty_37 rfl rfl (by repeat (first | exact .head _ | apply Upd.left | apply Upd.tail)) (ag_ _) rfl (at_ _) (.inl (by assumption)) ?_)
 refine nl J (J2 _ _ (Sq fun K3 J3 => Rk fun K J => sQ (aS_ ty_37 rfl (by repeat (first | exact .head _ | apply List.mem_append_right | apply List.Mem.tail)) (ag_ _)) rfl ?_))
 refine WL_r rfl (aG_ ty_37 rfl rfl (by repeat (first | exact .head _ | apply Upd.left | apply Upd.tail)) (ag_ _) rfl (at_ _) (.inl (by assumption)) ?_)
 refine nl J (J3 _ _ (W_ret (ret1 rfl (.inr rfl) ⟨_, _, _, _, _, _, rfl, (by repeat (first | exact .head _ | apply List.mem_append_right | apply List.Mem.tail)), ty_37, _, (bd_ (ag_ _)), (ag_ _), rfl⟩ ?_)))
 exact rfl

theorem g6_ (a b : R) (ha : a.Ok) (hb : b.Ok) :
    Ret Tryz.prog 116 [RV a, RV b] (.int .i64 (Z.cmp a.dec b.dec)) := by
 refine av_ (N := 47) Tryz.func116 rfl rfl (by simp) (fun w0 => ?_)
 simp only [initF, Nat.reduceAdd]
 refine Sq fun K1 J1 => Rk fun K J => WL_r rfl (r_box rfl rfl (fun b2 hb2 => WL_r rfl (r_box rfl rfl (fun b3 hb3 => sE rfl (nl J (J1 _ _ (Sq fun K2 J2 => la_ (sk (sk (s0))) (.quiet 0 [1, 2, 5, 6, 7] (.quiet 3 [4, 5, 6, 7] (.both 1 (.quiet 2 [5, 6, 7] (.only 4 (.quiet 5 [6, 7] (.quiet 6 [7] (.quiet 7 [] (.fin)))))) 4 (.only 1 (.quiet 2 [5, 6, 7] (.quiet 5 [6, 7] (.quiet 6 [7] (.quiet 7 [] (.fin))))))))) [0, 1, 2, 3, 4, 5, 6, 7] mix (by kernel_rfl) (by kernel_rfl) (fun K J => pQ rfl (aS_ ty_37 rfl (by repeat (first | exact .head _ | apply List.mem_append_right | apply List.Mem.tail)) (aQ_ ha)) ?_))))))))
 refine pQ rfl (aS_ ty_37 rfl (by repeat (first | exact .head _ | apply List.mem_append_right | apply List.Mem.tail)) (aQ_ hb)) ?_
 refine PL_b ?_ ?_
 ·skip
  refine PL_o rfl rfl (cv_ eR_ z_37 sz_37 rfl (by decide) rfl (gs_ ha) (fun b8 hb8 => ⟨(fun _ => by first | exact sd s0 | exact s0), (by repeat (first | exact s0 | exact sn | refine sk ?_ | refine sd ?_ | refine sA ?_ | refine sR ?_)), ?_⟩))
  refine pQ rfl (bU_ eT_ rfl (fun w hw => bZ_ [a] (ok1 ha) b8 37 w (hw.mem ⟨b8, 37, _⟩ (by first | exact m0 | exact m1)) (by simp))) ?_
  refine PL_o rfl rfl (cv_ eR_ z_37 sz_37 rfl (by decide) rfl (gs_ hb) (fun b11 hb11 => ⟨(fun _ => by first | exact sd s0 | exact s0), (by repeat (first | exact s0 | exact sn | refine sk ?_ | refine sd ?_ | refine sA ?_ | refine sR ?_)), ?_⟩))
  refine pQ rfl (bU_ eT_ rfl (fun w hw => bZ_ [b] (ok1 hb) b11 37 w (hw.mem ⟨b11, 37, _⟩ (by first | exact m0 | exact m1)) (by simp))) ?_
  refine pE rfl (pE rfl (fl J (J2 _ _ (Sq fun K3 J3 => ar_ (Sq fun K4 J4 => Rk fun K J => sE rfl (sE rfl (sE rfl ?_)))))))
  cases hga : [a].all R.good
  ·skip
   refine sE rfl (sE rfl (sE rfl (sE rfl (nl J (J4 _ _ ?_)))))
   refine a6_ _ rfl (fun hgb => ?_) (fun hgb => ?_)
   ·(try simp only [decide_eq_true_eq, decide_eq_false_iff_not, beq_iff_eq, bne_iff_ne, beq_eq_false_iff_ne, bne_eq_false_iff_eq, Bool.not_eq_true', Bool.not_eq_false'] at hgb)
    refine Sq fun K5 J5 => Rk fun K J => sE rfl (nl J (J5 _ _ (W_ret (aB_ (ai_ (ret1 rfl (.inr rfl) rfl ?_))))))
    exact congrArg _ (m9_ (by simpa using hga) (by simpa using hgb))
   ·(try simp only [decide_eq_true_eq, decide_eq_false_iff_not, beq_iff_eq, bne_iff_ne, beq_eq_false_iff_ne, bne_eq_false_iff_eq, Bool.not_eq_true', Bool.not_eq_false'] at hgb)
    refine Sq fun K6 J6 => Rk fun K J => sE rfl (sE rfl (sE rfl (nl J (J6 _ _ (bF_ rfl (Sq fun K7 J7 => Rk fun K J => sE rfl (nl J (J7 _ _ (W_ret (aB_ (ai_ (ret1 rfl (.inr rfl) rfl ?_))))))))))))
    exact congrArg _ (nA_ (by simpa using hga) hb (by simpa using hgb))
  ·skip
   refine WL_n rfl (WL_n rfl (sE rfl (sE rfl (nl J (J4 _ _ (by_ rfl (Sq fun K8 J8 => Rk fun K J => sE rfl (sE rfl (sE rfl (nl J (J8 _ _ (by_ rfl (Sq fun K9 J9 => Rk fun K J => sE rfl (sE rfl (sE rfl ?_)))))))))))))))
   refine nl J (J9 _ _ ?_)
   refine a6_ _ rfl (fun hgb => ?_) (fun hgb => ?_)
   ·(try simp only [decide_eq_true_eq, decide_eq_false_iff_not, beq_iff_eq, bne_iff_ne, beq_eq_false_iff_ne, bne_eq_false_iff_eq, Bool.not_eq_true', Bool.not_eq_false'] at hgb)
    refine Sq fun K10 J10 => Rk fun K J => sE rfl (nl J (J10 _ _ (W_ret (aB_ (ai_ (ret1 rfl (.inr rfl) rfl ?_))))))
    exact congrArg _ (nC_ ha (by simpa using hga) (by simpa using hgb))
   ·(try simp only [decide_eq_true_eq, decide_eq_false_iff_not, beq_iff_eq, bne_iff_ne, beq_eq_false_iff_ne, bne_eq_false_iff_eq, Bool.not_eq_true', Bool.not_eq_false'] at hgb)
    refine Sq fun K11 J11 => Rk fun K J => sQ (aW_ bq_ (by decide) rfl) rfl (sQ (bf_ ty_4 rfl (by repeat (first | exact .head _ | apply List.mem_append_right | apply List.Mem.tail)) rfl) rfl ?_)
    refine sQ (aW_ bq_ (by decide) rfl) rfl (sQ (bf_ ty_4 rfl (by repeat (first | exact .head _ | apply List.mem_append_right | apply List.Mem.tail)) rfl) rfl ?_)
    refine sQ (fw_ bo_4 rfl rfl) rfl (sE rfl (nl J (J11 _ _ ?_)))
    refine a6_ _ rfl (fun hn => ?_) (fun hn => ?_)
    ·(try simp only [decide_eq_true_eq, decide_eq_false_iff_not, beq_iff_eq, bne_iff_ne, beq_eq_false_iff_ne, bne_eq_false_iff_eq, Bool.not_eq_true', Bool.not_eq_false'] at hn)
     refine Sq fun K12 J12 => Sq fun K13 J13 => Rk fun K J => sQ (aW_ bq_ (by decide) rfl) rfl (sQ (bf_ ty_4 rfl (by repeat (first | exact .head _ | apply List.mem_append_right | apply List.Mem.tail)) rfl) rfl ?_)
     refine nl J (J13 _ _ ?_)
     refine a6_ _ rfl (fun hs => ?_) (fun hs => ?_)
     ·(try simp only [decide_eq_true_eq, decide_eq_false_iff_not, beq_iff_eq, bne_iff_ne, beq_eq_false_iff_ne, bne_eq_false_iff_eq, Bool.not_eq_true', Bool.not_eq_false'] at hs)
      refine Sq fun K14 J14 => Rk fun K J => sE rfl (nl J (J14 _ _ (W_ret (ai_ (aB_ (ai_ (ret1 rfl (.inr rfl) rfl ?_)))))))
      exact congrArg _ (pS_ ha hb (by simpa using hga) (by simpa using hgb) hn hs)
     ·(try simp only [decide_eq_true_eq, decide_eq_false_iff_not, beq_iff_eq, bne_iff_ne, beq_eq_false_iff_ne, bne_eq_false_iff_eq, Bool.not_eq_true', Bool.not_eq_false'] at hs)
      refine ak_ (J12 _ _ (Sq fun K15 J15 => Rk fun K J => sE rfl (nl J (J15 _ _ (W_ret (aB_ (ai_ (ret1 rfl (.inr rfl) rfl ?_))))))))
      exact congrArg _ (pL_ ha hb (by simpa using hga) (by simpa using hgb) hn (by simpa using hs))
    ·(try simp only [decide_eq_true_eq, decide_eq_false_iff_not, beq_iff_eq, bne_iff_ne, beq_eq_false_iff_ne, bne_eq_false_iff_eq, Bool.not_eq_true', Bool.not_eq_false'] at hn)
     refine Sq fun K16 J16 => Rk fun K J => sQ (aW_ bq_ (by decide) rfl) rfl (sQ (bf_ ty_4 rfl (by repeat (first | exact .head _ | apply List.mem_append_right | apply List.Mem.tail)) rfl) rfl ?_)
     refine sE rfl (nl J (J16 _ _ ?_))
     refine a6_ _ rfl (fun hs => ?_) (fun hs => ?_)
     ·(try simp only [decide_eq_true_eq, decide_eq_false_iff_not, beq_iff_eq, bne_iff_ne, beq_eq_false_iff_ne, bne_eq_false_iff_eq, Bool.not_eq_true', Bool.not_eq_false'] at hs)
      refine Sq fun K17 J17 => Rk fun K J => sQ (aW_ bv_ (by decide) rfl) rfl (sQ (cs_ (vs := uw b.w) ty_35 rfl (by repeat (first | exact .head _ | apply List.mem_append_right | apply List.Mem.tail)) (dp_ hb.len) ((ck_ _).trans hb.len)) rfl ?_)
      refine sQ (aW_ bv_ (by decide) rfl) rfl (sQ (cs_ (vs := uw a.w) ty_35 rfl (by repeat (first | exact .head _ | apply List.mem_append_right | apply List.Mem.tail)) (dp_ ha.len) ((ck_ _).trans ha.len)) rfl ?_)
      refine sQ (q_ret iC_ (dE_ b.w a.w hb.len ha.len hb.lim ha.lim) rfl) rfl (sE rfl (nl J (J17 _ _ (W_ret (aB_ (ai_ (ret1 rfl (.inr rfl) rfl ?_)))))))
      exact congrArg _ (pu_ ha hb (by simpa using hga) (by simpa using hgb) hn hs)
     ·(try simp only [decide_eq_true_eq, decide_eq_false_iff_not, beq_iff_eq, bne_iff_ne, beq_eq_false_iff_ne, bne_eq_false_iff_eq, Bool.not_eq_true', Bool.not_eq_false'] at hs)
      refine ak_ (J3 _ _ (Sq fun K18 J18 => Rk fun K J => sQ (aW_ bv_ (by decide) rfl) rfl (sQ (cs_ (vs := uw a.w) ty_35 rfl (by repeat (first | exact .head _ | apply List.mem_append_right | apply List.Mem.tail)) (dp_ ha.len) ((ck_ _).trans ha.len)) rfl ?_)))
      refine sQ (aW_ bv_ (by decide) rfl) rfl (sQ (cs_ (vs := uw b.w) ty_35 rfl (by repeat (first | exact .head _ | apply List.mem_append_right | apply List.Mem.tail)) (dp_ hb.len) ((ck_ _).trans hb.len)) rfl ?_)
      refine sQ (q_ret iC_ (dE_ a.w b.w ha.len hb.len ha.lim hb.lim) rfl) rfl (sE rfl (nl J (J18 _ _ (W_ret (ret1 rfl (.inr rfl) rfl ?_)))))
      exact congrArg _ (pd_ ha hb (by simpa using hga) (by simpa using hgb) hn (by simpa using hs))
 ·skip
  refine PL_o rfl rfl (cv_ eR_ z_37 sz_37 rfl (by decide) rfl (gs_ hb) (fun b11 hb11 => ⟨(fun _ => by first | exact sd s0 | exact s0), (by repeat (first | exact s0 | exact sn | refine sk ?_ | refine sd ?_ | refine sA ?_ | refine sR ?_)), ?_⟩))
  refine PL_o rfl rfl (cv_ eR_ z_37 sz_37 rfl (by decide) rfl (gs_ ha) (fun b8 hb8 => ⟨(fun _ => by first | exact sd s0 | exact s0), (by repeat (first | exact s0 | exact sn | refine sk ?_ | refine sd ?_ | refine sA ?_ | refine sR ?_)), ?_⟩))
  refine pQ rfl (bU_ eT_ rfl (fun w hw => bZ_ [a] (ok1 ha) b8 37 w (hw.mem ⟨b8, 37, _⟩ (by first | exact m0 | exact m1)) (by simp))) ?_
  refine pQ rfl (bU_ eT_ rfl (fun w hw => bZ_ [b] (ok1 hb) b11 37 w (hw.mem ⟨b11, 37, _⟩ (by first | exact m0 | exact m1)) (by simp))) ?_
  refine pE rfl (pE rfl (fl J (J2 _ _ (Sq fun K19 J19 => ar_ (Sq fun K20 J20 => Rk fun K J => sE rfl (sE rfl (sE rfl ?_)))))))
  cases hga : [a].all R.good
  ·skip
   refine sE rfl (sE rfl (sE rfl (sE rfl (nl J (J20 _ _ ?_)))))
   refine a6_ _ rfl (fun hgb => ?_) (fun hgb => ?_)
   ·(try simp only [decide_eq_true_eq, decide_eq_false_iff_not, beq_iff_eq, bne_iff_ne, beq_eq_false_iff_ne, bne_eq_false_iff_eq, Bool.not_eq_true', Bool.not_eq_false'] at hgb)
    refine Sq fun K21 J21 => Rk fun K J => sE rfl (nl J (J21 _ _ (W_ret (aB_ (ai_ (ret1 rfl (.inr rfl) rfl ?_))))))
    exact congrArg _ (m9_ (by simpa using hga) (by simpa using hgb))
   ·(try simp only [decide_eq_true_eq, decide_eq_false_iff_not, beq_iff_eq, bne_iff_ne, beq_eq_false_iff_ne, bne_eq_false_iff_eq, Bool.not_eq_true', Bool.not_eq_false'] at hgb)
    refine Sq fun K22 J22 => Rk fun K J => sE rfl (sE rfl (sE rfl (nl J (J22 _ _ (bF_ rfl (Sq fun K23 J23 => Rk fun K J => sE rfl (nl J (J23 _ _ (W_ret (aB_ (ai_ (ret1 rfl (.inr rfl) rfl ?_))))))))))))
    exact congrArg _ (nA_ (by simpa using hga) hb (by simpa using hgb))
  ·skip
   refine WL_n rfl (WL_n rfl (sE rfl (sE rfl (nl J (J20 _ _ (by_ rfl (Sq fun K24 J24 => Rk fun K J => sE rfl (sE rfl (sE rfl (nl J (J24 _ _ (by_ rfl (Sq fun K25 J25 => Rk fun K J => sE rfl (sE rfl (sE rfl ?_)))))))))))))))
   refine nl J (J25 _ _ ?_)
   refine a6_ _ rfl (fun hgb => ?_) (fun hgb => ?_)
   ·(try simp only [decide_eq_true_eq, decide_eq_false_iff_not, beq_iff_eq, bne_iff_ne, beq_eq_false_iff_ne, bne_eq_false_iff_eq, Bool.not_eq_true', Bool.not_eq_false'] at hgb)
    refine Sq fun K26 J26 => Rk fun K J => sE rfl (nl J (J26 _ _ (W_ret (aB_ (ai_ (ret1 rfl (.inr rfl) rfl ?_))))))
    exact congrArg _ (nC_ ha (by simpa using hga) (by simpa using hgb))
   ·(try simp only [decide_eq_true_eq, decide_eq_false_iff_not, beq_iff_eq, bne_iff_ne, beq_eq_false_iff_ne, bne_eq_false_iff_eq, Bool.not_eq_true', Bool.not_eq_false'] at hgb)
    refine Sq fun K27 J27 => Rk fun K J => sQ (aW_ bq_ (by decide) rfl) rfl (sQ (bf_ ty_4 rfl (by repeat (first | exact .head _ | apply List.mem_append_right | apply List.Mem.tail)) rfl) rfl ?_)
    refine sQ (aW_ bq_ (by decide) rfl) rfl (sQ (bf_ ty_4 rfl (by repeat (first | exact .head _ | apply List.mem_append_right | apply List.Mem.tail)) rfl) rfl ?_)
    refine sQ (fw_ bo_4 rfl rfl) rfl (sE rfl (nl J (J27 _ _ ?_)))
    refine a6_ _ rfl (fun hn => ?_) (fun hn => ?_)
    ·(try simp only [decide_eq_true_eq, decide_eq_false_iff_not, beq_iff_eq, bne_iff_ne, beq_eq_false_iff_ne, bne_eq_false_iff_eq, Bool.not_eq_true', Bool.not_eq_false'] at hn)
     refine Sq fun K28 J28 => Sq fun K29 J29 => Rk fun K J => sQ (aW_ bq_ (by decide) rfl) rfl (sQ (bf_ ty_4 rfl (by repeat (first | exact .head _ | apply List.mem_append_right | apply List.Mem.tail)) rfl) rfl ?_)
     refine nl J (J29 _ _ ?_)
     refine a6_ _ rfl (fun hs => ?_) (fun hs => ?_)
     ·(try simp only [decide_eq_true_eq, decide_eq_false_iff_not, beq_iff_eq, bne_iff_ne, beq_eq_false_iff_ne, bne_eq_false_iff_eq, Bool.not_eq_true', Bool.not_eq_false'] at hs)
      refine Sq fun K30 J30 => Rk fun K J => sE rfl (nl J (J30 _ _ (W_ret (ai_ (aB_ (ai_ (ret1 rfl (.inr rfl) rfl ?_)))))))
      exact congrArg _ (pS_ ha hb (by simpa using hga) (by simpa using hgb) hn hs)
     ·(try simp only [decide_eq_true_eq, decide_eq_false_iff_not, beq_iff_eq, bne_iff_ne, beq_eq_false_iff_ne, bne_eq_false_iff_eq, Bool.not_eq_true', Bool.not_eq_false'] at hs)
      refine ak_ (J28 _ _ (Sq fun K31 J31 => Rk fun K J => sE rfl (nl J (J31 _ _ (W_ret (aB_ (ai_ (ret1 rfl (.inr rfl) rfl ?_))))))))
      exact congrArg _ (pL_ ha hb (by simpa using hga) (by simpa using hgb) hn (by simpa using hs))
    ·(try simp only [decide_eq_true_eq, decide_eq_false_iff_not, beq_iff_eq, bne_iff_ne, beq_eq_false_iff_ne, bne_eq_false_iff_eq, Bool.not_eq_true', Bool.not_eq_false'] at hn)
     refine Sq fun K32 J32 => Rk fun K J => sQ (aW_ bq_ (by decide) rfl) rfl (sQ (bf_ ty_4 rfl (by repeat (first | exact .head _ | apply List.mem_append_right | apply List.Mem.tail)) rfl) rfl ?_)
     refine sE rfl (nl J (J32 _ _ ?_))
     refine a6_ _ rfl (fun hs => ?_) (fun hs => ?_)
     ·(try simp only [decide_eq_true_eq, decide_eq_false_iff_not, beq_iff_eq, bne_iff_ne, beq_eq_false_iff_ne, bne_eq_false_iff_eq, Bool.not_eq_true', Bool.not_eq_false'] at hs)
      refine Sq fun K33 J33 => Rk fun K J => sQ (aW_ bv_ (by decide) rfl) rfl (sQ (cs_ (vs := uw b.w) ty_35 rfl (by repeat (first | exact .head _ | apply List.mem_append_right | apply List.Mem.tail)) (dp_ hb.len) ((ck_ _).trans hb.len)) rfl ?_)
      refine sQ (aW_ bv_ (by decide) rfl) rfl (sQ (cs_ (vs := uw a.w) ty_35 rfl (by repeat (first | exact .head _ | apply List.mem_append_right | apply List.Mem.tail)) (dp_ ha.len) ((ck_ _).trans ha.len)) rfl ?_)
      refine sQ (q_ret iC_ (dE_ b.w a.w hb.len ha.len hb.lim ha.lim) rfl) rfl (sE rfl (nl J (J33 _ _ (W_ret (aB_ (ai_ (ret1 rfl (.inr rfl) rfl ?_)))))))
      exact congrArg _ (pu_ ha hb (by simpa using hga) (by simpa using hgb) hn hs)
     ·(try simp only [decide_eq_true_eq, decide_eq_false_iff_not, beq_iff_eq, bne_iff_ne, beq_eq_false_iff_ne, bne_eq_false_iff_eq, Bool.not_eq_true', Bool.not_eq_false'] at hs)
      refine ak_ (J19 _ _ (Sq fun K34 J34 => Rk fun K J => sQ (aW_ bv_ (by decide) rfl) rfl (sQ (cs_ (vs := uw a.w) ty_35 rfl (by repeat (first | exact .head _ | apply List.mem_append_right | apply List.Mem.tail)) (dp_ ha.len) ((ck_ _).trans ha.len)) rfl ?_)))
      refine sQ (aW_ bv_ (by decide) rfl) rfl (sQ (cs_ (vs := uw b.w) ty_35 rfl (by repeat (first | exact .head _ | apply List.mem_append_right | apply List.Mem.tail)) (dp_ hb.len) ((ck_ _).trans hb.len)) rfl ?_)
      refine sQ (q_ret iC_ (dE_ a.w b.w ha.len hb.len ha.lim hb.lim) rfl) rfl (sE rfl (nl J (J34 _ _ (W_ret (ret1 rfl (.inr rfl) rfl ?_)))))
      exact congrArg _ (pd_ ha hb (by simpa using hga) (by simpa using hgb) hn (by simpa using hs))
end Go.Proofs.YtapbefpeopaecaaGreatDoor

