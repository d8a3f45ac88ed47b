/- Walks: what these functions return. -/
import Derived.Test.YtjdfogfmeibkgaaGreatQGE
import Derived.Test.YtjdfogfmeibkgaaGreatQWa
import Derived.Test.YtjdfogfmeibkgaaGreatQWc
import Derived.Test.YtjdfogfmeibkgaaGreatQWd
import Derived.Test.YtjdfogfmeibkgaaGreatQSa
import Derived.Test.YtjdfogfmeibkgaaGreatQWe
import Derived.Test.YtjdfogfmeibkgaaGreatQWh
namespace Go.Proofs.YtjdfogfmeibkgaaGreat
open Go.Kn Go.Num
set_option linter.unusedVariables false
set_option linter.unusedSimpArgs false
set_option maxRecDepth 20000
set_option maxHeartbeats 8000000
theorem h1_ (n : Nat) (IH : ∀ (a b : R), a.Ok → b.Ok → val b.w < n → Ret Tryz.prog 111 [RV a, RV b] (RV (Z.gcd a.dec b.dec).enc)) (a b : R) (ha : a.Ok) (hb : b.Ok) (hn : val b.w = n) :
    Ret Tryz.prog 111 [RV a, RV b] (RV (Z.gcd a.dec b.dec).enc) := by
 refine aM_ (N := 80) Tryz.func111 rfl rfl (by simp) (fun w0 => ?_)
 simp only [initF, Nat.reduceAdd]
 refine Sq fun K1 J1 => Rk fun K J => WL_r rfl (r_box rfl rfl (fun b2 hb2 => WL_r rfl (r_box rfl rfl (fun b3 hb3 => WL_r rfl (bb_ z_38 (fun b4 hb4 => nl J (J1 _ _ (Sq fun K2 J2 => Sq fun K3 J3 => Rk fun K J => sQ (aG_ ty_38 rfl (by repeat (first | exact .head _ | apply List.mem_append_right | apply List.Mem.tail)) (a0_ ha)) rfl ?_))))))))
 refine sQ (aG_ ty_38 rfl (by repeat (first | exact .head _ | apply List.mem_append_right | apply List.Mem.tail)) (a0_ hb)) rfl ?_
 refine WL_r rfl (cS_ us_22 z_38 sz_38 rfl (by decide) rfl (kC_ ha hb) (fun b13 hb13 => sQ (aH_ en_95 rfl (fun w hw => cb_ [a, b] (ok2 ha hb) b13 38 w (hw.mem _ m0) (by simp))) rfl ?_))
 refine sE rfl (nl J (J3 _ _ ?_))
 refine be_ _ rfl (fun hg => ?_) (fun hg => ?_)
 ·(try simp only [decide_eq_true_eq, decide_eq_false_iff_not, beq_iff_eq, bne_iff_ne, beq_eq_false_iff_ne, bne_eq_false_iff_eq, Bool.not_eq_true', Bool.not_eq_false'] at hg)
  refine Sq fun K4 J4 => Rk fun K J => sQ (q_ret en_65 bz_ rfl) rfl (WL_r rfl (at_ ty_38 rfl rfl (by repeat (first | exact .head _ | apply Upd.left | apply Upd.tail)) (ag_ _) rfl (ar_ _) (.inl (by assumption)) ?_))
  refine nl J (J4 _ _ (W_ret (aj_ (ret1 rfl (.inr rfl) ⟨_, _, _, _, _, _, rfl, (by repeat (first | exact .head _ | apply List.mem_append_right | apply List.Mem.tail)), ty_38, _, (a1_ (ag_ _)), (ag_ _), rfl⟩ ?_))))
  exact congrArg RV (pi_ hg)
 ·(try simp only [decide_eq_true_eq, decide_eq_false_iff_not, beq_iff_eq, bne_iff_ne, beq_eq_false_iff_ne, bne_eq_false_iff_eq, Bool.not_eq_true', Bool.not_eq_false'] at hg)
  have hg := all2.1 hg
  refine am_ (J2 _ _ ?_)
  refine bD_ [5, 6, 17, 18, 19, 20, 21, 22, 23, 24, 25, 26, 27, 28, 29, 30, 31, 32, 33, 34, 35, 36, 37, 38, 39, 40, 41, 42, 43, 44, 45, 46, 47, 48, 49, 50, 51, 52, 53, 54, 55, 56, 57, 58, 59] (fun g M => (True) ∧ M = [⟨b4, 38, zR⟩, ⟨b3, 38, b.cells⟩, ⟨b2, 38, a.cells⟩] ∧ (True)) (fun K5 J5 => ?_) ?_
  ·skip
   refine Sq fun K6 J6 => Rk fun K J => sQ (aJ_ bB_ (by decide) rfl) rfl (sQ (b8_ (vs := uw a.w) ty_36 rfl (by repeat (first | exact .head _ | apply List.mem_append_right | apply List.Mem.tail)) (dj_ ha.len) ((bX_ _).trans ha.len)) rfl ?_)
   refine sQ (q_ret hw_ (cE_ a.w ha.len) rfl) rfl (sE rfl (sE rfl ?_))
   cases hsz : decide ((szL a.w : Int) ≤ 2)
   ·skip
    refine WL_n rfl (WL_n rfl (WL_n rfl (WL_n rfl (sE rfl (nl J (J6 _ _ (dw_ rfl (am_ ?_))))))))
    refine J5 _ _ (by repeat first | exact .refl | refine .cons rfl ?_) ⟨_, (List.Sublist.cons _ (List.Sublist.refl _)), trivial, ?mem, trivial⟩
    case mem => rfl
   ·skip
    refine sQ (aJ_ bB_ (by decide) rfl) rfl (sQ (b8_ (vs := uw b.w) ty_36 rfl (by repeat (first | exact .head _ | apply List.mem_append_right | apply List.Mem.tail)) (dj_ hb.len) ((bX_ _).trans hb.len)) rfl ?_)
    refine sQ (q_ret hw_ (cE_ b.w hb.len) rfl) rfl (sE rfl (sE rfl (nl J (J6 _ _ ?_))))
    refine be_ _ rfl (fun hsz2 => ?_) (fun hsz2 => ?_)
    ·(try simp only [decide_eq_true_eq, decide_eq_false_iff_not, beq_iff_eq, bne_iff_ne, beq_eq_false_iff_ne, bne_eq_false_iff_eq, Bool.not_eq_true', Bool.not_eq_false'] at hsz2)
     have hA64 := sz2 ha (by have := of_decide_eq_true hsz; omega)
     have hB64 := sz2 hb (by omega)
     refine Sq fun K7 J7 => dr (sk (sk (sk (sk (s0))))) [0,4,8,12,16,20,24,28,32,36,40,44,48,52,56,60,64,68,72,76,80,84] [] mix (by kernel_rfl) (fun K J => pQ rfl (aJ_ bB_ (by decide) rfl) (pQ rfl (bq_ ar_36 rfl rfl (by decide) (by decide)) (pQ rfl (bd_ ty_35 rfl (by repeat (first | exact .head _ | apply List.mem_append_right | apply List.Mem.tail)) (dI_ (r := a) (k := 1) (by rw [ha.len]; omega))) ?_)))
     refine pQ rfl (q_as (a3_ in_35 in_94 rfl) (fE_ (aR_ ha.lim _))) (pQ rfl (q_as (q_shl rfl rfl (by decide)) (congrArg (Value.int .u64) (fH_ (aR_ ha.lim _)))) (pQ rfl (aJ_ bB_ (by decide) rfl) (pQ rfl (bq_ ar_36 rfl rfl (by decide) (by decide)) (pQ rfl (bd_ ty_35 rfl (by repeat (first | exact .head _ | apply List.mem_append_right | apply List.Mem.tail)) (dI_ (r := a) (k := 0) (by rw [ha.len]; omega))) ?_))))
     refine pQ rfl (q_as (a3_ in_35 in_94 rfl) (fE_ (aR_ ha.lim _))) (pQ rfl (q_as (q_or rfl rfl) (congrArg (Value.int .u64) ((or_hi (aR_ ha.lim _) (aR_ ha.lim _)).trans (congrArg (fun m : Nat => (m : Int)) (gV_ ha hA64))))) (pQ rfl (aJ_ bB_ (by decide) rfl) (pQ rfl (bq_ ar_36 rfl rfl (by decide) (by decide)) (pQ rfl (bd_ ty_35 rfl (by repeat (first | exact .head _ | apply List.mem_append_right | apply List.Mem.tail)) (dI_ (r := b) (k := 1) (by rw [hb.len]; omega))) ?_))))
     refine pQ rfl (q_as (a3_ in_35 in_94 rfl) (fE_ (aR_ hb.lim _))) (pQ rfl (q_as (q_shl rfl rfl (by decide)) (congrArg (Value.int .u64) (fH_ (aR_ hb.lim _)))) (pQ rfl (aJ_ bB_ (by decide) rfl) (pQ rfl (bq_ ar_36 rfl rfl (by decide) (by decide)) (pQ rfl (bd_ ty_35 rfl (by repeat (first | exact .head _ | apply List.mem_append_right | apply List.Mem.tail)) (dI_ (r := b) (k := 0) (by rw [hb.len]; omega))) ?_))))
     refine pQ rfl (q_as (a3_ in_35 in_94 rfl) (fE_ (aR_ hb.lim _))) (pQ rfl (q_as (q_or rfl rfl) (congrArg (Value.int .u64) ((or_hi (aR_ hb.lim _) (aR_ hb.lim _)).trans (congrArg (fun m : Nat => (m : Int)) (gV_ hb hB64))))) (pE rfl (pE rfl (fl J (J7 _ _ (Sq fun K8 J8 => aq_ ?_))))))
     refine aL_ [5, 6, 47, 48, 49, 50, 51, 52] (fun g nn M => ∃ (x y : Nat), (g 5 = .int .u64 (x : Int) ∧ g 6 = .int .u64 (y : Int)) ∧ M = [⟨b4, 38, zR⟩, ⟨b3, 38, b.cells⟩, ⟨b2, 38, a.cells⟩] ∧ nn = y ∧ (x < 18446744073709551616 ∧ y < 18446744073709551616 ∧ Nat.gcd x y = Nat.gcd (val a.w) (val b.w))) (val b.w) ?start ?round
     case start =>
      refine ⟨_, (List.Sublist.cons _ (List.Sublist.refl _)), _, _, ⟨?a5, ?a6⟩, ?mem0, rfl, ⟨hA64, hB64, rfl⟩⟩
      case mem0 => rfl
      case a5 => rfl
      case a6 => rfl
     case round =>
      rintro nn g M ⟨x, y, ⟨hg5, hg6⟩, rfl, hmeas, ⟨hx64, hy64, hgc⟩⟩
      subst nn
      simp only [setG, hg5, hg6]
      clear hg5 hg6
      refine Sq fun K9 J9 => Sq fun K10 J10 => Rk fun K J => sE rfl (sE rfl (nl J (J10 _ _ ?_)))
      refine be_ _ rfl (fun hy0 => ?_) (fun hy0 => ?_)
      ·(try simp only [decide_eq_true_eq, decide_eq_false_iff_not, beq_iff_eq, bne_iff_ne, beq_eq_false_iff_ne, bne_eq_false_iff_eq, Bool.not_eq_true', Bool.not_eq_false'] at hy0)
       refine am_ (J9 _ _ (aq_ (dr (sk (sk (sk (s0)))) [0,4,8,12,16,20] [] mix (by kernel_rfl) (fun K J => pE rfl (pE rfl (pE rfl (pQ rfl (q_as (q_rem rfl rfl (by omega)) (congrArg (Value.int .u64) (gH_ _ _))) (pE rfl (pE rfl (fl J ?_))))))))))
       refine ⟨(by repeat first | exact .refl | refine .cons rfl ?_), _, _, (List.Sublist.refl _), (Nat.mod_lt _ (by omega)), y, x % y, ⟨?s5, ?s6⟩, ?mem, rfl, ⟨hy64, Nat.lt_of_le_of_lt (Nat.mod_le _ _) hx64, by rw [Nat.gcd_comm, ← Nat.gcd_rec, Nat.gcd_comm]; exact hgc⟩⟩
       case mem => rfl
       case s5 => rfl
       case s6 => rfl
      ·(try simp only [decide_eq_true_eq, decide_eq_false_iff_not, beq_iff_eq, bne_iff_ne, beq_eq_false_iff_ne, bne_eq_false_iff_eq, Bool.not_eq_true', Bool.not_eq_false'] at hy0)
       refine bw_ (ap_ (ap_ (as_ (J8 _ _ (Sq fun K11 J11 => Rk fun K J => sE rfl (sQ (a3_ in_94 in_35 rfl) rfl (sE rfl (sQ (q_as (q_shr rfl rfl (by decide)) (congrArg (Value.int .u64) (dU_ _ 32))) rfl (sQ (a3_ in_94 in_35 rfl) rfl (sQ (dt_ z_36 ar_36 rfl (qi_ hx64)) rfl (sQ (q_ret eE_ (a4_ false _ (by simp) (lim2 (Nat.mod_lt _ (by decide)) (by omega) 14)) rfl) rfl ?_)))))))))))
       refine WL_r rfl (at_ ty_38 rfl rfl (by repeat (first | exact .head _ | apply Upd.left | apply Upd.tail)) (cs_ (by simp)) rfl (ar_ _) (.inl (by assumption)) ?_)
       refine nl J (J11 _ _ (W_ret (aj_ (ret1 rfl (.inr rfl) ⟨_, _, _, _, _, _, rfl, (by repeat (first | exact .head _ | apply List.mem_append_right | apply List.Mem.tail)), ty_38, _, (a1_ (cs_ (by simp))), (cs_ (by simp)), rfl⟩ ?_))))
       exact pP_ ha hb hg.1 hg.2 hx64 (pA_ hx64 hgc (by omega))
    ·(try simp only [decide_eq_true_eq, decide_eq_false_iff_not, beq_iff_eq, bne_iff_ne, beq_eq_false_iff_ne, bne_eq_false_iff_eq, Bool.not_eq_true', Bool.not_eq_false'] at hsz2)
     refine am_ ?_
     refine J5 _ _ (by repeat first | exact .refl | refine .cons rfl ?_) ⟨_, (List.Sublist.cons _ (List.Sublist.refl _)), trivial, ?mem, trivial⟩
     case mem => rfl
  ·skip
   rintro g M ⟨-, rfl, -⟩
   simp only [setG]
   refine Sq fun K12 J12 => Sq fun K13 J13 => lt_ (sk (sk (sk (s0)))) (.quiet 0 [1, 6, 7] (.quiet 1 [6, 7] (.still 2 [3, 7] (.still 3 [7] (.both 4 (.only 5 (.only 6 (.only 7 (.fin)))) 5 (.only 4 (.only 6 (.only 7 (.fin))))))))) [0, 1, 2, 3, 4, 5] mix (by kernel_rfl) (by kernel_rfl) (fun K J => pQ rfl (aJ_ bB_ (by decide) rfl) (pQ rfl (b8_ (vs := uw a.w) ty_36 rfl (by repeat (first | exact .head _ | apply List.mem_append_right | apply List.Mem.tail)) (dj_ ha.len) ((bX_ _).trans ha.len)) ?_))
   refine PL_s rfl rfl (aJ_ bB_ (by decide) rfl) (PL_s rfl rfl (b8_ (vs := uw b.w) ty_36 rfl (by repeat (first | exact .head _ | apply List.mem_append_right | apply List.Mem.tail)) (dj_ hb.len) ((bX_ _).trans hb.len)) ?_)
   refine PL_b ?_ ?_
   ·skip
    refine PL_o rfl rfl (bb_ z_36 (fun b7 hb7 => ⟨(fun _ => by first | exact sd s0 | exact s0), (by repeat (first | exact s0 | exact sn | refine sk ?_ | refine sd ?_ | refine sA ?_ | refine sR ?_)), ?_⟩))
    refine PL_o rfl rfl (bb_ z_36 (fun b8 hb8 => ⟨(fun _ => by first | exact sd s0 | exact s0), (by repeat (first | exact s0 | exact sn | refine sk ?_ | refine sd ?_ | refine sA ?_ | refine sR ?_)), ?_⟩))
    refine PL_o rfl rfl (at_ ty_36 rfl rfl (by repeat (first | exact .head _ | apply Upd.left | apply Upd.tail)) (by simp [uw, ha.len]) (by simp [uw]) (bH_ _) (.inl (by assumption)) ⟨nf, (by repeat (first | exact s0 | exact sn | refine sk ?_ | refine sd ?_ | refine sA ?_ | refine sR ?_)), ?_⟩)
    refine PL_o rfl rfl (at_ ty_36 rfl rfl (by repeat (first | exact .head _ | apply Upd.left | apply Upd.tail)) (by simp [uw, hb.len]) (by simp [uw]) (bH_ _) (.inl (by assumption)) ⟨nf, (by repeat (first | exact s0 | exact sn | refine sk ?_ | refine sd ?_ | refine sA ?_ | refine sR ?_)), ?_⟩)
    refine fl J (J13 _ _ (Sq fun K14 J14 => Rk fun K J => sQ (aG_ ty_36 rfl (by repeat (first | exact .head _ | apply List.mem_append_right | apply List.Mem.tail)) (by simp [uw, hb.len])) rfl ?_))
    refine sQ (dt_ z_36 ar_36 rfl (.nil _)) rfl ?_
    refine sQ (h7_ (r := (val b.w == 0)) rfl rfl (dz_ 8 (by decide) eg_36 lv_36 (cX_ hb.len) (cX_ (by simp)) (gA_ hb.len hb.lim))) rfl ?_
    refine nl J (J14 _ _ ?_)
    refine be_ _ rfl (fun hb0 => ?_) (fun hb0 => ?_)
    ·(try simp only [decide_eq_true_eq, decide_eq_false_iff_not, beq_iff_eq, bne_iff_ne, beq_eq_false_iff_ne, bne_eq_false_iff_eq, Bool.not_eq_true', Bool.not_eq_false'] at hb0)
     have hp : 0 < val b.w := Nat.pos_of_ne_zero (by simpa using hb0)
     refine Sq fun K15 J15 => Rk fun K J => sQ (aG_ ty_36 rfl (by repeat (first | exact .head _ | apply List.mem_append_right | apply List.Mem.tail)) (by simp [uw, ha.len])) rfl ?_
     refine sQ (aG_ ty_36 rfl (by repeat (first | exact .head _ | apply List.mem_append_right | apply List.Mem.tail)) (by simp [uw, hb.len])) rfl ?_
     refine sQ (q_ret l0_ (dQ_ a.w b.w ha.len hb.len ha.lim hb.lim hp) rfl) rfl (sE rfl (sE rfl (sE rfl (WL_r rfl (bb_ z_36 (fun b9 hb9 => WL_r rfl (bb_ z_36 (fun b10 hb10 => WL_r rfl (at_ ty_36 rfl rfl (by repeat (first | exact .head _ | apply Upd.left | apply Upd.tail)) (by simp [uw, aE_]) (by simp [uw]) (bH_ _) (.inl (by assumption)) ?_)))))))))
     refine WL_r rfl (at_ ty_36 rfl rfl (by repeat (first | exact .head _ | apply Upd.left | apply Upd.tail)) (by simp [uw, aE_]) (by simp [uw]) (bH_ _) (.inl (by assumption)) ?_)
     refine nl J (J15 _ _ (Sq fun K16 J16 => dr (sk (sk (sk (sk (sd (sk (sk (s0)))))))) [0,4,8,12,16,21] [5] mix (by kernel_rfl) (fun K J => pQ rfl (aG_ ty_36 rfl (by repeat (first | exact .head _ | apply List.mem_append_right | apply List.Mem.tail)) (by simp [uw, hb.len])) ?_)))
     refine pQ rfl (q_as (q_ret eE_ (a4_ false b.w hb.len hb.lim) rfl) (hn_ hb.len hb.lim false)) (pQ rfl (aG_ ty_36 rfl (by repeat (first | exact .head _ | apply List.mem_append_right | apply List.Mem.tail)) (by simp [uw, aE_])) ?_)
     refine pQ rfl (q_as (q_ret eE_ (a4_ false _ (aE_ _ _) (cJ_ _ _)) rfl) (congrArg RV (de_ false (ep_ ha)))) (pQ rfl (q_ret ip_ (IH (Z.of (sgn false (val b.w))).enc (Z.of (sgn false (val a.w % val b.w))).enc (Z.enc_ok _) (Z.enc_ok _) (by rw [no_ (ep_ ha), ← hn]; exact Nat.mod_lt _ hp)) rfl) ?_)
     refine PL_o rfl rfl (at_ ty_38 rfl rfl (by repeat (first | exact .head _ | apply Upd.left | apply Upd.tail)) (ag_ _) rfl (ar_ _) (.inl (by assumption)) ⟨nf, (by repeat (first | exact s0 | exact sn | refine sk ?_ | refine sd ?_ | refine sA ?_ | refine sR ?_)), ?_⟩)
     refine fl J (J16 _ _ (W_ret (aj_ (ret1 rfl (.inr rfl) ⟨_, _, _, _, _, _, rfl, (by repeat (first | exact .head _ | apply List.mem_append_right | apply List.Mem.tail)), ty_38, _, (a1_ (ag_ _)), (ag_ _), rfl⟩ ?_))))
     exact kT_ ha hb hg.1 hg.2
    ·(try simp only [decide_eq_true_eq, decide_eq_false_iff_not, beq_iff_eq, bne_iff_ne, beq_eq_false_iff_ne, bne_eq_false_iff_eq, Bool.not_eq_true', Bool.not_eq_false'] at hb0)
     refine am_ (J12 _ _ (Sq fun K17 J17 => Rk fun K J => sQ (aG_ ty_38 rfl (by repeat (first | exact .head _ | apply List.mem_append_right | apply List.Mem.tail)) (a0_ ha)) rfl ?_))
     refine sQ (q_ret en_44 (e5_ a ha) rfl) rfl (WL_r rfl (at_ ty_38 rfl rfl (by repeat (first | exact .head _ | apply Upd.left | apply Upd.tail)) (ag_ _) rfl (ar_ _) (.inl (by assumption)) ?_))
     refine nl J (J17 _ _ (W_ret (ret1 rfl (.inr rfl) ⟨_, _, _, _, _, _, rfl, (by repeat (first | exact .head _ | apply List.mem_append_right | apply List.Mem.tail)), ty_38, _, (a1_ (ag_ _)), (ag_ _), rfl⟩ ?_)))
     exact kY_ ha hb hg.1 hg.2 (by simpa using hb0)
   ·skip
    refine PL_o rfl rfl (bb_ z_36 (fun b8 hb8 => ⟨(fun _ => by first | exact sd s0 | exact s0), (by repeat (first | exact s0 | exact sn | refine sk ?_ | refine sd ?_ | refine sA ?_ | refine sR ?_)), ?_⟩))
    refine PL_o rfl rfl (bb_ z_36 (fun b7 hb7 => ⟨(fun _ => by first | exact sd s0 | exact s0), (by repeat (first | exact s0 | exact sn | refine sk ?_ | refine sd ?_ | refine sA ?_ | refine sR ?_)), ?_⟩))
    refine PL_o rfl rfl (at_ ty_36 rfl rfl (by repeat (first | exact .head _ | apply Upd.left | apply Upd.tail)) (by simp [uw, ha.len]) (by simp [uw]) (bH_ _) (.inl (by assumption)) ⟨nf, (by repeat (first | exact s0 | exact sn | refine sk ?_ | refine sd ?_ | refine sA ?_ | refine sR ?_)), ?_⟩)
    refine PL_o rfl rfl (at_ ty_36 rfl rfl (by repeat (first | exact .head _ | apply Upd.left | apply Upd.tail)) (by simp [uw, hb.len]) (by simp [uw]) (bH_ _) (.inl (by assumption)) ⟨nf, (by repeat (first | exact s0 | exact sn | refine sk ?_ | refine sd ?_ | refine sA ?_ | refine sR ?_)), ?_⟩)
    refine fl J (J13 _ _ (Sq fun K18 J18 => Rk fun K J => sQ (aG_ ty_36 rfl (by repeat (first | exact .head _ | apply List.mem_append_right | apply List.Mem.tail)) (by simp [uw, hb.len])) rfl ?_))
    refine sQ (dt_ z_36 ar_36 rfl (.nil _)) rfl ?_
    refine sQ (h7_ (r := (val b.w == 0)) rfl rfl (dz_ 8 (by decide) eg_36 lv_36 (cX_ hb.len) (cX_ (by simp)) (gA_ hb.len hb.lim))) rfl ?_
    refine nl J (J18 _ _ ?_)
    refine be_ _ rfl (fun hb0 => ?_) (fun hb0 => ?_)
    ·(try simp only [decide_eq_true_eq, decide_eq_false_iff_not, beq_iff_eq, bne_iff_ne, beq_eq_false_iff_ne, bne_eq_false_iff_eq, Bool.not_eq_true', Bool.not_eq_false'] at hb0)
     have hp : 0 < val b.w := Nat.pos_of_ne_zero (by simpa using hb0)
     refine Sq fun K19 J19 => Rk fun K J => sQ (aG_ ty_36 rfl (by repeat (first | exact .head _ | apply List.mem_append_right | apply List.Mem.tail)) (by simp [uw, ha.len])) rfl ?_
     refine sQ (aG_ ty_36 rfl (by repeat (first | exact .head _ | apply List.mem_append_right | apply List.Mem.tail)) (by simp [uw, hb.len])) rfl ?_
     refine sQ (q_ret l0_ (dQ_ a.w b.w ha.len hb.len ha.lim hb.lim hp) rfl) rfl (sE rfl (sE rfl (sE rfl (WL_r rfl (bb_ z_36 (fun b9 hb9 => WL_r rfl (bb_ z_36 (fun b10 hb10 => WL_r rfl (at_ ty_36 rfl rfl (by repeat (first | exact .head _ | apply Upd.left | apply Upd.tail)) (by simp [uw, aE_]) (by simp [uw]) (bH_ _) (.inl (by assumption)) ?_)))))))))
     refine WL_r rfl (at_ ty_36 rfl rfl (by repeat (first | exact .head _ | apply Upd.left | apply Upd.tail)) (by simp [uw, aE_]) (by simp [uw]) (bH_ _) (.inl (by assumption)) ?_)
     refine nl J (J19 _ _ (Sq fun K20 J20 => dr (sk (sk (sk (sk (sd (sk (sk (s0)))))))) [0,4,8,12,16,21] [5] mix (by kernel_rfl) (fun K J => pQ rfl (aG_ ty_36 rfl (by repeat (first | exact .head _ | apply List.mem_append_right | apply List.Mem.tail)) (by simp [uw, hb.len])) ?_)))
     refine pQ rfl (q_as (q_ret eE_ (a4_ false b.w hb.len hb.lim) rfl) (hn_ hb.len hb.lim false)) (pQ rfl (aG_ ty_36 rfl (by repeat (first | exact .head _ | apply List.mem_append_right | apply List.Mem.tail)) (by simp [uw, aE_])) ?_)
     refine pQ rfl (q_as (q_ret eE_ (a4_ false _ (aE_ _ _) (cJ_ _ _)) rfl) (congrArg RV (de_ false (ep_ ha)))) (pQ rfl (q_ret ip_ (IH (Z.of (sgn false (val b.w))).enc (Z.of (sgn false (val a.w % val b.w))).enc (Z.enc_ok _) (Z.enc_ok _) (by rw [no_ (ep_ ha), ← hn]; exact Nat.mod_lt _ hp)) rfl) ?_)
     refine PL_o rfl rfl (at_ ty_38 rfl rfl (by repeat (first | exact .head _ | apply Upd.left | apply Upd.tail)) (ag_ _) rfl (ar_ _) (.inl (by assumption)) ⟨nf, (by repeat (first | exact s0 | exact sn | refine sk ?_ | refine sd ?_ | refine sA ?_ | refine sR ?_)), ?_⟩)
     refine fl J (J20 _ _ (W_ret (aj_ (ret1 rfl (.inr rfl) ⟨_, _, _, _, _, _, rfl, (by repeat (first | exact .head _ | apply List.mem_append_right | apply List.Mem.tail)), ty_38, _, (a1_ (ag_ _)), (ag_ _), rfl⟩ ?_))))
     exact kT_ ha hb hg.1 hg.2
    ·(try simp only [decide_eq_true_eq, decide_eq_false_iff_not, beq_iff_eq, bne_iff_ne, beq_eq_false_iff_ne, bne_eq_false_iff_eq, Bool.not_eq_true', Bool.not_eq_false'] at hb0)
     refine am_ (J12 _ _ (Sq fun K21 J21 => Rk fun K J => sQ (aG_ ty_38 rfl (by repeat (first | exact .head _ | apply List.mem_append_right | apply List.Mem.tail)) (a0_ ha)) rfl ?_))
     refine sQ (q_ret en_44 (e5_ a ha) rfl) rfl (WL_r rfl (at_ ty_38 rfl rfl (by repeat (first | exact .head _ | apply Upd.left | apply Upd.tail)) (ag_ _) rfl (ar_ _) (.inl (by assumption)) ?_))
     refine nl J (J21 _ _ (W_ret (ret1 rfl (.inr rfl) ⟨_, _, _, _, _, _, rfl, (by repeat (first | exact .head _ | apply List.mem_append_right | apply List.Mem.tail)), ty_38, _, (a1_ (ag_ _)), (ag_ _), rfl⟩ ?_)))
     exact kY_ ha hb hg.1 hg.2 (by simpa using hb0)
theorem en_ (a b : R) (ha : a.Ok) (hb : b.Ok) : Ret Tryz.prog 111 [RV a, RV b] (RV (Z.gcd a.dec b.dec).enc) := by
  generalize hn : val b.w = n
  induction n using Nat.strongRecOn generalizing a b with
  | ind n ih => exact h1_ n (fun a b ha hb h => ih _ h a b ha hb rfl) a b ha hb hn
end Go.Proofs.YtjdfogfmeibkgaaGreat

namespace Go.Proofs.YtjdfogfmeibkgaaGreat
open Go.Kn Go.Num
set_option linter.unusedVariables false
set_option linter.unusedSimpArgs false
set_option maxRecDepth 20000
set_option maxHeartbeats 8000000
theorem e3_  :
    Ret Tryz.prog 148 [] (AV [pI F_ratio_one]) := by
 refine aM_ (N := 2) Tryz.func148 rfl rfl (by simp) (fun w0 => ?_)
 simp only [initF, Nat.reduceAdd]
 obtain ⟨q0, hq0⟩ := nm ((E (Z.of 1)) : I)
 refine Rs fun K J => sN zp_38 rfl fun b1 hb1 => nl J (Rs fun K J => sC (AV [pI q0]) en_62 (aY_ (wl 1).1 (wl 1).2) rfl rfl (by rw [hq0]; first | done | rfl) ?_)
 refine sS [pI q0] ty_38 rfl rfl rfl rfl rfl (.head _) rfl hb1 (nl J (W_ret (ret1 rfl (.inr rfl) (resP rfl m0 ty_38 rfl) ?_)))
 exact (by subst hq0; rfl)

theorem fh_  :
    Ret Tryz.prog 110 [] (AV [pI f1_.n, pI f1_.d]) := by
 refine aM_ (N := 4) Tryz.func110 rfl rfl (by simp) (fun w0 => ?_)
 simp only [initF, Nat.reduceAdd]
 obtain ⟨q0, hq0⟩ := nm ((E Z.bad) : I)
 obtain ⟨q1, hq1⟩ := nm (F_ratio_one : I)
 refine Rs fun K J => sN zp_44 rfl fun b1 hb1 => nl J (Rs fun K J => sC (AV [pI q0]) en_65 bz_ rfl rfl (by rw [hq0]; first | done | rfl) (sC (AV [pI q1]) m9_ e3_ rfl rfl (by rw [hq1]; first | done | rfl) (sQ (fD_ zp_44 pl_44 rfl (.cons [pI q0] [pI q0, pI I0] rfl rfl rfl rfl (.cons [pI q1] [pI q0, pI q1] rfl rfl rfl rfl (.nil _)))) rfl (sS [pI q0, pI q1] ty_44 rfl rfl rfl rfl rfl (.head _) rfl hb1 (nl J (W_ret (ret1 rfl (.inr rfl) (resP rfl m0 ty_44 rfl) ?_)))))))
 exact (by subst hq1; subst hq0; rfl)

theorem d8_ (a : I) :
    Ret Tryz.prog 119 [AV [pI a]] (.bool (bI_ a)) := by
 refine aM_ (N := 10) Tryz.func119 rfl rfl (by simp) (fun w0 => ?_)
 simp only [initF, Nat.reduceAdd]
 refine Rs fun K J => WL_r rfl (cG_ rfl rfl (fun b1 hb1 => sE rfl (nl J ?_)))
 refine bD_ [2, 3, 4, 5, 6, 7, 8, 9] (fun g M => (g 2 = .bool (!a.1.bad && a.1.valid)) ∧ M = [⟨b1, 38, flat [pI a]⟩]) (fun K1 J1 => ?_) ?_
 ·skip
  refine Rk fun K J => sQ (qF eu_ rfl rfl) rfl (sQ (qC ty_4 rfl m0 rfl) rfl (sE rfl ?_))
  rcases bt a.1.bad with h3 | h3
  ·skip
   refine sB (not_f h3) rfl (WL_n rfl (WL_n rfl (sE rfl (sE rfl (nl J ?_)))))
   refine J1 _ _ (by repeat first | exact .refl | refine .cons rfl ?_) ⟨_, s0, ?s2, rfl⟩
   case s2 => exact congrArg Value.bool (mI_ h3)
  ·skip
   refine sB (not_t h3) rfl (sQ (qL ty_38 rfl m0 rfl) rfl (sC (.bool a.1.valid) nA_ (eG_ a.1 a.2) rfl rfl rfl (sE rfl (sE rfl (nl J ?_)))))
   refine J1 _ _ (by repeat first | exact .refl | refine .cons rfl ?_) ⟨_, s0, ?s2, rfl⟩
   case s2 => exact congrArg Value.bool (nF_ h3 rfl)
 ·skip
  rintro g4 M ⟨hg2, rfl⟩
  simp only [setG, hg2]
  clear hg2
  refine W_ret (ret1 rfl (.inr rfl) rfl ?_)
  exact (by rfl)

theorem d5_ (a : Rt) :
    Ret Tryz.prog 109 [AV [pI a.n, pI a.d]] (.bool (cc_ a)) := by
 refine aM_ (N := 26) Tryz.func109 rfl rfl (by simp) (fun w0 => ?_)
 simp only [initF, Nat.reduceAdd]
 refine Rs fun K J => WL_r rfl (cG_ rfl rfl (fun b1 hb1 => sE rfl (nl J ?_)))
 refine bD_ [2, 3, 4, 5, 6, 7, 8, 9, 10, 11, 12, 13, 14, 15, 16, 17, 18, 19, 20, 21, 22, 23, 24, 25] (fun g M => (g 2 = .bool ((bI_ a.n) && ((bI_ a.d) && (decide (0 < (Z.signW a.d.dec).1) && decide ((E (Z.gcd a.n.dec a.d.dec)) = F_ratio_one))))) ∧ M = [⟨b1, 44, flat [pI a.n, pI a.d]⟩]) (fun K1 J1 => ?_) ?_
 ·skip
  refine Rk fun K J => sQ (qF eW_ rfl rfl) rfl (sQ (qL ty_38 rfl m0 rfl) rfl (sQ (q_ret lg_ (d8_ a.n) rfl) rfl ?_))
  rcases bt (bI_ a.n) with h5 | h5
  ·skip
   refine sB h5 rfl (sQ (qF dy_ rfl rfl) rfl (sQ (qL ty_38 rfl m0 rfl) rfl (sQ (q_ret lg_ (d8_ a.d) rfl) rfl (sE rfl ?_))))
   rcases bt (bI_ a.d) with h6 | h6
   ·skip
    refine sB h6 rfl (sQ (qF dy_ rfl rfl) rfl (sQ (qL ty_38 rfl m0 rfl) rfl (sC (.int .i64 ((Z.signW a.d.dec).1)) en_32 (bK_ a.d.1 a.d.2) rfl rfl rfl (sE rfl (sE rfl ?_)))))
    rcases bt (decide (0 < (Z.signW a.d.dec).1)) with h7 | h7
    ·skip
     refine sB h7 rfl (sQ (qF eW_ rfl rfl) rfl (sQ (qL ty_38 rfl m0 rfl) rfl (sQ (qF dy_ rfl rfl) rfl (sQ (qL ty_38 rfl m0 rfl) rfl (sC (AV [pI (E (Z.gcd a.n.dec a.d.dec))]) ip_ (en_ a.n.1 a.d.1 a.n.2 a.d.2) rfl rfl rfl (sQ (q_ret m9_ e3_  rfl) rfl ?_))))))
     refine sQ (gd_ (r := decide ((E (Z.gcd a.n.dec a.d.dec)) = F_ratio_one)) rfl rfl (dz_ 8 (by decide) eg_38 lw_38 (ek_ lv_pI) (ek_ lv_pI) (fy_ eq_pI))) rfl (sE rfl (sE rfl (nl J ?_)))
     refine J1 _ _ (by repeat first | exact .refl | refine .cons rfl ?_) ⟨_, s0, ?s2, rfl⟩
     case s2 => exact congrArg Value.bool (and_t h5 (and_t h6 (and_t h7 rfl)))
    ·skip
     refine sB h7 rfl (WL_n rfl (WL_n rfl (WL_n rfl (WL_n rfl (WL_n rfl (WL_n rfl (WL_n rfl (sE rfl (sE rfl (nl J ?_))))))))))
     refine J1 _ _ (by repeat first | exact .refl | refine .cons rfl ?_) ⟨_, s0, ?s2, rfl⟩
     case s2 => exact congrArg Value.bool (and_t h5 (and_t h6 (and_f h7)))
   ·skip
    refine sB h6 rfl (WL_n rfl (WL_n rfl (WL_n rfl (WL_n rfl (sE rfl (sE rfl (WL_n rfl (WL_n rfl (WL_n rfl (WL_n rfl (WL_n rfl (WL_n rfl (WL_n rfl (sE rfl (sE rfl (nl J ?_))))))))))))))))
    refine J1 _ _ (by repeat first | exact .refl | refine .cons rfl ?_) ⟨_, s0, ?s2, rfl⟩
    case s2 => exact congrArg Value.bool (and_t h5 (and_f h6))
  ·skip
   refine sB h5 rfl (WL_n rfl (WL_n rfl (WL_n rfl (sE rfl (sE rfl (WL_n rfl (WL_n rfl (WL_n rfl (WL_n rfl (sE rfl (sE rfl (WL_n rfl (WL_n rfl (WL_n rfl (WL_n rfl (WL_n rfl (WL_n rfl (WL_n rfl (sE rfl ?_)))))))))))))))))))
   refine sE rfl (nl J ?_)
   refine J1 _ _ (by repeat first | exact .refl | refine .cons rfl ?_) ⟨_, s0, ?s2, rfl⟩
   case s2 => exact congrArg Value.bool (and_f h5)
 ·skip
  rintro g8 M ⟨hg2, rfl⟩
  simp only [setG, hg2]
  clear hg2
  refine W_ret (ret1 rfl (.inr rfl) rfl ?_)
  exact (by rfl)

theorem dr_ (a : I) (b : I) :
    Ret Tryz.prog 61 [AV [pI a], AV [pI b]] (AV [pI ((bJ_ a b).n), pI ((bJ_ a b).d)]) := by
 refine aM_ (N := 35) Tryz.func61 rfl rfl (by simp) (fun w0 => ?_)
 simp only [initF, Nat.reduceAdd]
 refine Rs fun K J => WL_r rfl (cG_ rfl rfl (fun b1 hb1 => WL_r rfl (cG_ rfl rfl (fun b2 hb2 => sN zp_44 rfl fun b3 hb3 => nl J (Sq fun K1 J1 => ?_)))))
 refine bD_ [6, 7, 8, 9, 10, 11, 12, 13, 14, 15, 16, 17, 18] (fun g M => (g 18 = .bool (!(bI_ a) || (!(bI_ b) || ((Z.signW b.dec).1 == 0)))) ∧ M = [⟨b3, 44, flat [pI I0, pI I0]⟩, ⟨b2, 38, flat [pI b]⟩, ⟨b1, 38, flat [pI a]⟩]) (fun K2 J2 => ?_) ?_
 ·skip
  refine Rk fun K J => sQ (qL ty_38 rfl m2 rfl) rfl (sQ (q_ret lg_ (d8_ a) rfl) rfl (sE rfl ?_))
  rcases bt (bI_ a) with h6 | h6
  ·skip
   refine sB (not_f h6) rfl (sQ (qL ty_38 rfl m1 rfl) rfl (sQ (q_ret lg_ (d8_ b) rfl) rfl (sE rfl (sE rfl ?_))))
   rcases bt (bI_ b) with h7 | h7
   ·skip
    refine sB (not_f h7) rfl (sQ (qL ty_38 rfl m1 rfl) rfl (sC (.int .i64 ((Z.signW b.dec).1)) en_32 (bK_ b.1 b.2) rfl rfl rfl (sE rfl (sE rfl (nl J ?_)))))
    refine J2 _ _ (by repeat first | exact .refl | refine .cons rfl ?_) ⟨_, s0, ?s18, rfl⟩
    case s18 => exact congrArg Value.bool (nor_t h6 (nor_t h7 rfl))
   ·skip
    refine sB (not_t h7) rfl (WL_n rfl (WL_n rfl (WL_n rfl (sE rfl (nl J ?_)))))
    refine J2 _ _ (by repeat first | exact .refl | refine .cons rfl ?_) ⟨_, s0, ?s18, rfl⟩
    case s18 => exact congrArg Value.bool (nor_t h6 (nor_f h7))
  ·skip
   refine sB (not_t h6) rfl (WL_n rfl (WL_n rfl (WL_n rfl (sE rfl (sE rfl (WL_n rfl (WL_n rfl (WL_n rfl (sE rfl (nl J ?_))))))))))
   refine J2 _ _ (by repeat first | exact .refl | refine .cons rfl ?_) ⟨_, s0, ?s18, rfl⟩
   case s18 => exact congrArg Value.bool (nor_f h6)
 ·skip
  rintro g8 M ⟨hg18, rfl⟩
  simp only [setG, hg18]
  clear hg18
  rcases bt (!(bI_ a) || (!(bI_ b) || ((Z.signW b.dec).1 == 0))) with h9 | h9
  ·skip
   refine W_t h9 rfl (Rs fun K J => sQ (q_ret mP_ fh_  rfl) rfl (sS [pI f1_.n, pI f1_.d] ty_44 rfl rfl rfl rfl rfl (.head _) rfl hb3 (nl J (W_ret (aj_ (ret1 rfl (.inr rfl) (resP rfl m0 ty_44 rfl) ?_))))))
   exact (by exact congrArg (fun r : Rt => (AV [pI r.n, pI r.d] : Value)) (show _ = (bJ_ a b) from bif_t h9 rfl))
  ·skip
   refine W_f h9 rfl (am_ (J1 _ _ (Rs fun K J => sQ (qL ty_38 rfl m2 rfl) rfl (sQ (qL ty_38 rfl m1 rfl) rfl (sC (AV [pI (E (Z.gcd a.dec b.dec))]) ip_ (en_ a.1 b.1 a.2 b.2) rfl rfl rfl (sN zp_38 rfl fun b10 hb10 => sS [pI (E (Z.gcd a.dec b.dec))] ty_38 rfl rfl rfl rfl rfl (.head _) rfl hb10 (nl J (Sq fun K3 J3 => Rs fun K J => sQ (qL ty_38 rfl m2 rfl) rfl (sC (.int .i64 ((Z.signW b.dec).1)) en_32 (bK_ b.1 b.2) rfl rfl rfl (sE rfl (nl J ?_)))))))))))
   rcases bt (decide ((Z.signW b.dec).1 < 0)) with h11 | h11
   ·skip
    refine W_t h11 rfl (Rk fun K J => sQ (qL ty_38 rfl m0 rfl) rfl (sC (AV [pI (E (Z.neg (Z.gcd a.dec b.dec)))]) mp_ (e4_ (E (Z.gcd a.dec b.dec)).1 (E (Z.gcd a.dec b.dec)).2) rfl rfl (cg1 (fun p => AV [pI (E (Z.neg p))]) (E_dec _)) (sS [pI (E (Z.neg (Z.gcd a.dec b.dec)))] ty_38 rfl rfl rfl rfl rfl (.head _) rfl hb10 (nl J (J3 _ _ (ds (sk (sd (sk (sk (s0))))) [0,4,8,12,16,20,24,29] [7] mix (by kernel_rfl) (fun K J => pQ rfl (qL ty_38 rfl m3 rfl) (pQ rfl (qL ty_38 rfl m0 rfl) (pC (AV [pI (E (Z.quo a.dec (Z.neg (Z.gcd a.dec b.dec))))]) en_88 (ca_ a.1 (E (Z.neg (Z.gcd a.dec b.dec))).1 a.2 (E (Z.neg (Z.gcd a.dec b.dec))).2) rfl rfl (cg2 (fun p q => AV [pI (E (Z.quo p q))]) rfl (E_dec _)) (pQ rfl (qL ty_38 rfl m2 rfl) (pQ rfl (qL ty_38 rfl m0 rfl) (pC (AV [pI (E (Z.quo b.dec (Z.neg (Z.gcd a.dec b.dec))))]) en_88 (ca_ b.1 (E (Z.neg (Z.gcd a.dec b.dec))).1 b.2 (E (Z.neg (Z.gcd a.dec b.dec))).2) rfl rfl (cg2 (fun p q => AV [pI (E (Z.quo p q))]) rfl (E_dec _)) (pQ rfl (fD_ zp_44 pl_44 rfl (.cons [pI (E (Z.quo a.dec (Z.neg (Z.gcd a.dec b.dec))))] [pI (E (Z.quo a.dec (Z.neg (Z.gcd a.dec b.dec)))), pI I0] rfl rfl rfl rfl (.cons [pI (E (Z.quo b.dec (Z.neg (Z.gcd a.dec b.dec))))] [pI (E (Z.quo a.dec (Z.neg (Z.gcd a.dec b.dec)))), pI (E (Z.quo b.dec (Z.neg (Z.gcd a.dec b.dec))))] rfl rfl rfl rfl (.nil _)))) (oS [pI (E (Z.quo a.dec (Z.neg (Z.gcd a.dec b.dec)))), pI (E (Z.quo b.dec (Z.neg (Z.gcd a.dec b.dec))))] ty_44 rfl rfl rfl rfl rfl rfl (.tail _ (.head _)) rfl hb3 rfl (sk (sd s0)) (fl J (W_ret (ret1 rfl (.inr rfl) (resP rfl m1 ty_44 rfl) ?_)))))))))))))))))
    exact (by exact congrArg (fun r : Rt => (AV [pI r.n, pI r.d] : Value)) (show _ = (bJ_ a b) from bif_f h9 (bif_t h11 rfl)))
   ·skip
    refine W_f h11 rfl (am_ (J3 _ _ (ds (sk (sd (sk (sk (s0))))) [0,4,8,12,16,20,24,29] [7] mix (by kernel_rfl) (fun K J => pQ rfl (qL ty_38 rfl m3 rfl) (pQ rfl (qL ty_38 rfl m0 rfl) (pC (AV [pI (E (Z.quo a.dec (Z.gcd a.dec b.dec)))]) en_88 (ca_ a.1 (E (Z.gcd a.dec b.dec)).1 a.2 (E (Z.gcd a.dec b.dec)).2) rfl rfl (cg2 (fun p q => AV [pI (E (Z.quo p q))]) rfl (E_dec _)) (pQ rfl (qL ty_38 rfl m2 rfl) (pQ rfl (qL ty_38 rfl m0 rfl) (pC (AV [pI (E (Z.quo b.dec (Z.gcd a.dec b.dec)))]) en_88 (ca_ b.1 (E (Z.gcd a.dec b.dec)).1 b.2 (E (Z.gcd a.dec b.dec)).2) rfl rfl (cg2 (fun p q => AV [pI (E (Z.quo p q))]) rfl (E_dec _)) (pQ rfl (fD_ zp_44 pl_44 rfl (.cons [pI (E (Z.quo a.dec (Z.gcd a.dec b.dec)))] [pI (E (Z.quo a.dec (Z.gcd a.dec b.dec))), pI I0] rfl rfl rfl rfl (.cons [pI (E (Z.quo b.dec (Z.gcd a.dec b.dec)))] [pI (E (Z.quo a.dec (Z.gcd a.dec b.dec))), pI (E (Z.quo b.dec (Z.gcd a.dec b.dec)))] rfl rfl rfl rfl (.nil _)))) (oS [pI (E (Z.quo a.dec (Z.gcd a.dec b.dec))), pI (E (Z.quo b.dec (Z.gcd a.dec b.dec)))] ty_44 rfl rfl rfl rfl rfl rfl (.tail _ (.head _)) rfl hb3 rfl (sk (sd s0)) (fl J (W_ret (ret1 rfl (.inr rfl) (resP rfl m1 ty_44 rfl) ?_))))))))))))))
    exact (by exact congrArg (fun r : Rt => (AV [pI r.n, pI r.d] : Value)) (show _ = (bJ_ a b) from bif_f h9 (bif_f h11 rfl)))

theorem hm_ (a : I) :
    Ret Tryz.prog 115 [AV [pI a]] (AV [pI ((dM_ a).n), pI ((dM_ a).d)]) := by
 refine aM_ (N := 6) Tryz.func115 rfl rfl (by simp) (fun w0 => ?_)
 simp only [initF, Nat.reduceAdd]
 refine Rs fun K J => WL_r rfl (cG_ rfl rfl (fun b1 hb1 => sN zp_44 rfl fun b2 hb2 => nl J (ds (sd (sk (s0))) [0,4,8,13] [3] mix (by kernel_rfl) (fun K J => pQ rfl (qL ty_38 rfl m1 rfl) (pQ rfl (q_ret m9_ e3_  rfl) (pQ rfl (q_ret en_61 (dr_ a F_ratio_one) rfl) (oS [pI ((bJ_ a F_ratio_one).n), pI ((bJ_ a F_ratio_one).d)] ty_44 rfl rfl rfl rfl rfl rfl (.head _) rfl hb2 rfl (sd s0) (fl J (W_ret (ret1 rfl (.inr rfl) (resP rfl m0 ty_44 rfl) ?_))))))))))
 exact (by rfl)

theorem co_ (a : W) :
    Ret Tryz.prog 58 [.int .i64 a.1] (AV [pI ((cu_ a).n), pI ((cu_ a).d)]) := by
 refine aM_ (N := 6) Tryz.func58 rfl rfl (by simp) (fun w0 => ?_)
 simp only [initF, Nat.reduceAdd]
 refine Rs fun K J => sN zp_44 rfl fun b1 hb1 => nl J (Rs fun K J => sE rfl (sC (AV [pI (E (Z.of a.1))]) en_62 (aY_ a.1 a.2) rfl rfl rfl (sQ (q_ret rl_ (hm_ (E (Z.of a.1))) rfl) rfl (sS [pI ((dM_ (E (Z.of a.1))).n), pI ((dM_ (E (Z.of a.1))).d)] ty_44 rfl rfl rfl rfl rfl (.head _) rfl hb1 (nl J (W_ret (ret1 rfl (.inr rfl) (resP rfl m0 ty_44 rfl) ?_)))))))
 exact (by rfl)

theorem iM_ (a : Rt) :
    Ret Tryz.prog 118 [AV [pI a.n, pI a.d]] (AV [pI ((c7_ a).n), pI ((c7_ a).d)]) := by
 refine aM_ (N := 13) Tryz.func118 rfl rfl (by simp) (fun w0 => ?_)
 simp only [initF, Nat.reduceAdd]
 refine Rs fun K J => WL_r rfl (cG_ rfl rfl (fun b1 hb1 => sN zp_44 rfl fun b2 hb2 => nl J (Sq fun K1 J1 => Rs fun K J => sQ (qL ty_44 rfl m1 rfl) rfl (sQ (q_ret kX_ (d5_ a) rfl) rfl (sE rfl (nl J ?_))))))
 rcases bt (cc_ a) with h3 | h3
 ·skip
  refine W_f (not_f h3) rfl (am_ (J1 _ _ (ds (sd (sk (s0))) [0,4,8,12,16,20,25] [6] mix (by kernel_rfl) (fun K J => pQ rfl (qF eW_ rfl rfl) (pQ rfl (qL ty_38 rfl m1 rfl) (pC (AV [pI (E (Z.neg a.n.dec))]) mp_ (e4_ a.n.1 a.n.2) rfl rfl rfl (pQ rfl (qF dy_ rfl rfl) (pQ rfl (qL ty_38 rfl m1 rfl) (pQ rfl (fD_ zp_44 pl_44 rfl (.cons [pI (E (Z.neg a.n.dec))] [pI (E (Z.neg a.n.dec)), pI I0] rfl rfl rfl rfl (.cons [pI a.d] [pI (E (Z.neg a.n.dec)), pI a.d] rfl rfl rfl rfl (.nil _)))) (oS [pI (E (Z.neg a.n.dec)), pI a.d] ty_44 rfl rfl rfl rfl rfl rfl (.head _) rfl hb2 rfl (sd s0) (fl J (W_ret (ret1 rfl (.inr rfl) (resP rfl m0 ty_44 rfl) ?_)))))))))))))
  exact (by exact congrArg (fun r : Rt => (AV [pI r.n, pI r.d] : Value)) (show _ = (c7_ a) from bif_t h3 rfl))
 ·skip
  refine W_t (not_t h3) rfl (Rs fun K J => sQ (q_ret mP_ fh_  rfl) rfl (sS [pI f1_.n, pI f1_.d] ty_44 rfl rfl rfl rfl rfl (.head _) rfl hb2 (nl J (W_ret (aj_ (ret1 rfl (.inr rfl) (resP rfl m0 ty_44 rfl) ?_))))))
  exact (by exact congrArg (fun r : Rt => (AV [pI r.n, pI r.d] : Value)) (show _ = (c7_ a) from bif_f h3 rfl))

theorem iI_ (a : Rt) (b : Rt) :
    Ret Tryz.prog 54 [AV [pI a.n, pI a.d], AV [pI b.n, pI b.d]] (AV [pI ((c6_ a b).n), pI ((c6_ a b).d)]) := by
 refine aM_ (N := 44) Tryz.func54 rfl rfl (by simp) (fun w0 => ?_)
 simp only [initF, Nat.reduceAdd]
 refine Rs fun K J => WL_r rfl (cG_ rfl rfl (fun b1 hb1 => WL_r rfl (cG_ rfl rfl (fun b2 hb2 => sN zp_44 rfl fun b3 hb3 => nl J (Sq fun K1 J1 => ?_)))))
 refine bD_ [8, 9, 10, 11, 12, 13, 14, 15] (fun g M => (g 15 = .bool (!(cc_ a) || (!(cc_ b)))) ∧ M = [⟨b3, 44, flat [pI I0, pI I0]⟩, ⟨b2, 44, flat [pI b.n, pI b.d]⟩, ⟨b1, 44, flat [pI a.n, pI a.d]⟩]) (fun K2 J2 => ?_) ?_
 ·skip
  refine Rk fun K J => sQ (qL ty_44 rfl m2 rfl) rfl (sQ (q_ret kX_ (d5_ a) rfl) rfl (sE rfl ?_))
  rcases bt (cc_ a) with h5 | h5
  ·skip
   refine sB (not_f h5) rfl (sQ (qL ty_44 rfl m1 rfl) rfl (sQ (q_ret kX_ (d5_ b) rfl) rfl (sE rfl (sE rfl (nl J ?_)))))
   refine J2 _ _ (by repeat first | exact .refl | refine .cons rfl ?_) ⟨_, s0, ?s15, rfl⟩
   case s15 => exact congrArg Value.bool (nor_t h5 rfl)
  ·skip
   refine sB (not_t h5) rfl (WL_n rfl (WL_n rfl (WL_n rfl (sE rfl (nl J ?_)))))
   refine J2 _ _ (by repeat first | exact .refl | refine .cons rfl ?_) ⟨_, s0, ?s15, rfl⟩
   case s15 => exact congrArg Value.bool (nor_f h5)
 ·skip
  rintro g6 M ⟨hg15, rfl⟩
  simp only [setG, hg15]
  clear hg15
  rcases bt (!(cc_ a) || (!(cc_ b))) with h7 | h7
  ·skip
   refine W_t h7 rfl (Rs fun K J => sQ (q_ret mP_ fh_  rfl) rfl (sS [pI f1_.n, pI f1_.d] ty_44 rfl rfl rfl rfl rfl (.head _) rfl hb3 (nl J (W_ret (aj_ (ret1 rfl (.inr rfl) (resP rfl m0 ty_44 rfl) ?_))))))
   exact (by exact congrArg (fun r : Rt => (AV [pI r.n, pI r.d] : Value)) (show _ = (c6_ a b) from bif_t h7 rfl))
  ·skip
   refine W_f h7 rfl (am_ (J1 _ _ (Rs fun K J => sQ (qF dy_ rfl rfl) rfl (sQ (qL ty_38 rfl m2 rfl) rfl (sQ (qF dy_ rfl rfl) rfl (sQ (qL ty_38 rfl m1 rfl) rfl (sC (AV [pI (E (Z.gcd a.d.dec b.d.dec))]) ip_ (en_ a.d.1 b.d.1 a.d.2 b.d.2) rfl rfl rfl (sN zp_38 rfl fun b8 hb8 => sS [pI (E (Z.gcd a.d.dec b.d.dec))] ty_38 rfl rfl rfl rfl rfl (.head _) rfl hb8 (nl J (W_sdr (sk (sk (sk (sk (s0))))) (.quiet 0 [1,3,7,10,11] (.quiet 1 [3,7,10,11] (.quiet 2 [3,7,10,11] (.quiet 3 [7,10,11] (.quiet 4 [5,7,10,11] (.quiet 5 [7,10,11] (.quiet 6 [7,10,11] (.quiet 7 [10,11] (.both 8 (.only 9 (.only 10 (.only 11 (.fin)))) 9 (.only 8 (.only 10 (.only 11 (.fin))))))))))))) [0,1,2,3,4,5,6,7,8,9] mix (by kernel_rfl) (by kernel_rfl) (fun K J => pQ rfl (qF dy_ rfl rfl) (pQ rfl (qL ty_38 rfl m3 rfl) (pQ rfl (qL ty_38 rfl m0 rfl) (pC (AV [pI (E (Z.quo a.d.dec (Z.gcd a.d.dec b.d.dec)))]) en_88 (ca_ a.d.1 (E (Z.gcd a.d.dec b.d.dec)).1 a.d.2 (E (Z.gcd a.d.dec b.d.dec)).2) rfl rfl (cg2 (fun p q => AV [pI (E (Z.quo p q))]) rfl (E_dec _)) (pQ rfl (qF dy_ rfl rfl) (pQ rfl (qL ty_38 rfl m2 rfl) (pQ rfl (qL ty_38 rfl m0 rfl) ?_)))))))))))))))))
   refine pC (AV [pI (E (Z.quo b.d.dec (Z.gcd a.d.dec b.d.dec)))]) en_88 (ca_ b.d.1 (E (Z.gcd a.d.dec b.d.dec)).1 b.d.2 (E (Z.gcd a.d.dec b.d.dec)).2) rfl rfl (cg2 (fun p q => AV [pI (E (Z.quo p q))]) rfl (E_dec _)) ?_
   refine PL_b ?_ ?_
   ·skip
    refine PL_o rfl rfl (dK_ zp_38 (fun b9 hb9 => ⟨(fun _ => sd s0), (sd s0), PL_o rfl rfl (dK_ zp_38 (fun b10 hb10 => ⟨(fun _ => sd s0), (sd (sd s0)), oS [pI (E (Z.quo a.d.dec (Z.gcd a.d.dec b.d.dec)))] ty_38 rfl rfl rfl rfl rfl rfl (.tail _ (.head _)) rfl hb9 rfl (sd (sd s0)) (oS [pI (E (Z.quo b.d.dec (Z.gcd a.d.dec b.d.dec)))] ty_38 rfl rfl rfl rfl rfl rfl (.head _) rfl hb10 rfl (sd (sd s0)) (fl J (ds (sk (sk (sk (sd (sk (sk (s0))))))) [0,4,8,12,16,20,24,28,32,36,40,44,48,52,57] [14] mix (by kernel_rfl) (fun K J => pQ rfl (qF eW_ rfl rfl) (pQ rfl (qL ty_38 rfl m5 rfl) (pQ rfl (qL ty_38 rfl m0 rfl) (pC (AV [pI (E (Z.mul a.n.dec (Z.quo b.d.dec (Z.gcd a.d.dec b.d.dec))))]) en_77 (aK_ a.n.1 (E (Z.quo b.d.dec (Z.gcd a.d.dec b.d.dec))).1 a.n.2 (E (Z.quo b.d.dec (Z.gcd a.d.dec b.d.dec))).2) rfl rfl (cg2 (fun p q => AV [pI (E (Z.mul p q))]) rfl (E_dec _)) (pQ rfl (qF eW_ rfl rfl) (pQ rfl (qL ty_38 rfl m4 rfl) (pQ rfl (qL ty_38 rfl m1 rfl) (pC (AV [pI (E (Z.mul b.n.dec (Z.quo a.d.dec (Z.gcd a.d.dec b.d.dec))))]) en_77 (aK_ b.n.1 (E (Z.quo a.d.dec (Z.gcd a.d.dec b.d.dec))).1 b.n.2 (E (Z.quo a.d.dec (Z.gcd a.d.dec b.d.dec))).2) rfl rfl (cg2 (fun p q => AV [pI (E (Z.mul p q))]) rfl (E_dec _)) ?_)))))))))))⟩))⟩))
    obtain ⟨r11, hr11⟩ := nm ((E (Z.add (Z.mul a.n.dec (Z.quo b.d.dec (Z.gcd a.d.dec b.d.dec))) (Z.mul b.n.dec (Z.quo a.d.dec (Z.gcd a.d.dec b.d.dec))))) : I)
    refine pC (AV [pI r11]) en_94 (cY_ (E (Z.mul a.n.dec (Z.quo b.d.dec (Z.gcd a.d.dec b.d.dec)))).1 (E (Z.mul b.n.dec (Z.quo a.d.dec (Z.gcd a.d.dec b.d.dec)))).1 (E (Z.mul a.n.dec (Z.quo b.d.dec (Z.gcd a.d.dec b.d.dec)))).2 (E (Z.mul b.n.dec (Z.quo a.d.dec (Z.gcd a.d.dec b.d.dec)))).2) rfl rfl ((cg2 (fun p q => AV [pI (E (Z.add p q))]) (E_dec _) (E_dec _)).trans (by rw [hr11])) (pQ rfl (qL ty_38 rfl m1 rfl) (pQ rfl (qF dy_ rfl rfl) (pQ rfl (qL ty_38 rfl m4 rfl) (pC (AV [pI (E (Z.mul (Z.quo a.d.dec (Z.gcd a.d.dec b.d.dec)) b.d.dec))]) en_77 (aK_ (E (Z.quo a.d.dec (Z.gcd a.d.dec b.d.dec))).1 b.d.1 (E (Z.quo a.d.dec (Z.gcd a.d.dec b.d.dec))).2 b.d.2) rfl rfl (cg2 (fun p q => AV [pI (E (Z.mul p q))]) (E_dec _) rfl) ?_))))
    obtain ⟨r12, hr12⟩ := nm ((bJ_ r11 (E (Z.mul (Z.quo a.d.dec (Z.gcd a.d.dec b.d.dec)) b.d.dec))) : Rt)
    refine pC (AV [pI r12.n, pI r12.d]) en_61 (dr_ r11 (E (Z.mul (Z.quo a.d.dec (Z.gcd a.d.dec b.d.dec)) b.d.dec))) rfl rfl (by rw [hr12]; first | done | rfl) (oS [pI r12.n, pI r12.d] ty_44 rfl rfl rfl rfl rfl rfl (.tail _ (.tail _ (.tail _ (.head _)))) rfl hb3 rfl (sk (sk (sk (sd s0)))) (fl J (W_ret (ret1 rfl (.inr rfl) (resP rfl m3 ty_44 rfl) ?_))))
    exact (by subst hr12; subst hr11; exact congrArg (fun r : Rt => (AV [pI r.n, pI r.d] : Value)) (show _ = (c6_ a b) from bif_f h7 rfl))
   ·skip
    refine PL_o rfl rfl (dK_ zp_38 (fun b13 hb13 => ⟨(fun _ => sd s0), (sd s0), PL_o rfl rfl (dK_ zp_38 (fun b14 hb14 => ⟨(fun _ => sd s0), (sd (sd s0)), oS [pI (E (Z.quo a.d.dec (Z.gcd a.d.dec b.d.dec)))] ty_38 rfl rfl rfl rfl rfl rfl (.head _) rfl hb14 rfl (sd (sd s0)) (oS [pI (E (Z.quo b.d.dec (Z.gcd a.d.dec b.d.dec)))] ty_38 rfl rfl rfl rfl rfl rfl (.tail _ (.head _)) rfl hb13 rfl (sd (sd s0)) (fl J (ds (sk (sk (sk (sd (sk (sk (s0))))))) [0,4,8,12,16,20,24,28,32,36,40,44,48,52,57] [14] mix (by kernel_rfl) (fun K J => pQ rfl (qF eW_ rfl rfl) (pQ rfl (qL ty_38 rfl m5 rfl) (pQ rfl (qL ty_38 rfl m1 rfl) (pC (AV [pI (E (Z.mul a.n.dec (Z.quo b.d.dec (Z.gcd a.d.dec b.d.dec))))]) en_77 (aK_ a.n.1 (E (Z.quo b.d.dec (Z.gcd a.d.dec b.d.dec))).1 a.n.2 (E (Z.quo b.d.dec (Z.gcd a.d.dec b.d.dec))).2) rfl rfl (cg2 (fun p q => AV [pI (E (Z.mul p q))]) rfl (E_dec _)) (pQ rfl (qF eW_ rfl rfl) (pQ rfl (qL ty_38 rfl m4 rfl) (pQ rfl (qL ty_38 rfl m0 rfl) (pC (AV [pI (E (Z.mul b.n.dec (Z.quo a.d.dec (Z.gcd a.d.dec b.d.dec))))]) en_77 (aK_ b.n.1 (E (Z.quo a.d.dec (Z.gcd a.d.dec b.d.dec))).1 b.n.2 (E (Z.quo a.d.dec (Z.gcd a.d.dec b.d.dec))).2) rfl rfl (cg2 (fun p q => AV [pI (E (Z.mul p q))]) rfl (E_dec _)) ?_)))))))))))⟩))⟩))
    obtain ⟨r15, hr15⟩ := nm ((E (Z.add (Z.mul a.n.dec (Z.quo b.d.dec (Z.gcd a.d.dec b.d.dec))) (Z.mul b.n.dec (Z.quo a.d.dec (Z.gcd a.d.dec b.d.dec))))) : I)
    refine pC (AV [pI r15]) en_94 (cY_ (E (Z.mul a.n.dec (Z.quo b.d.dec (Z.gcd a.d.dec b.d.dec)))).1 (E (Z.mul b.n.dec (Z.quo a.d.dec (Z.gcd a.d.dec b.d.dec)))).1 (E (Z.mul a.n.dec (Z.quo b.d.dec (Z.gcd a.d.dec b.d.dec)))).2 (E (Z.mul b.n.dec (Z.quo a.d.dec (Z.gcd a.d.dec b.d.dec)))).2) rfl rfl ((cg2 (fun p q => AV [pI (E (Z.add p q))]) (E_dec _) (E_dec _)).trans (by rw [hr15])) (pQ rfl (qL ty_38 rfl m0 rfl) (pQ rfl (qF dy_ rfl rfl) (pQ rfl (qL ty_38 rfl m4 rfl) (pC (AV [pI (E (Z.mul (Z.quo a.d.dec (Z.gcd a.d.dec b.d.dec)) b.d.dec))]) en_77 (aK_ (E (Z.quo a.d.dec (Z.gcd a.d.dec b.d.dec))).1 b.d.1 (E (Z.quo a.d.dec (Z.gcd a.d.dec b.d.dec))).2 b.d.2) rfl rfl (cg2 (fun p q => AV [pI (E (Z.mul p q))]) (E_dec _) rfl) ?_))))
    obtain ⟨r16, hr16⟩ := nm ((bJ_ r15 (E (Z.mul (Z.quo a.d.dec (Z.gcd a.d.dec b.d.dec)) b.d.dec))) : Rt)
    refine pC (AV [pI r16.n, pI r16.d]) en_61 (dr_ r15 (E (Z.mul (Z.quo a.d.dec (Z.gcd a.d.dec b.d.dec)) b.d.dec))) rfl rfl (by rw [hr16]; first | done | rfl) (oS [pI r16.n, pI r16.d] ty_44 rfl rfl rfl rfl rfl rfl (.tail _ (.tail _ (.tail _ (.head _)))) rfl hb3 rfl (sk (sk (sk (sd s0)))) (fl J (W_ret (ret1 rfl (.inr rfl) (resP rfl m3 ty_44 rfl) ?_))))
    exact (by subst hr16; subst hr15; exact congrArg (fun r : Rt => (AV [pI r.n, pI r.d] : Value)) (show _ = (c6_ a b) from bif_f h7 rfl))

theorem iJ_ (a : Rt) (b : Rt) :
    Ret Tryz.prog 60 [AV [pI a.n, pI a.d], AV [pI b.n, pI b.d]] (AV [pI ((bT_ a b).n), pI ((bT_ a b).d)]) := by
 refine aM_ (N := 9) Tryz.func60 rfl rfl (by simp) (fun w0 => ?_)
 simp only [initF, Nat.reduceAdd]
 refine Rs fun K J => WL_r rfl (cG_ rfl rfl (fun b1 hb1 => WL_r rfl (cG_ rfl rfl (fun b2 hb2 => sN zp_44 rfl fun b3 hb3 => nl J (ds (sd (sk (sk (s0)))) [0,4,8,12,17] [4] mix (by kernel_rfl) (fun K J => pQ rfl (qL ty_44 rfl m2 rfl) (pQ rfl (qL ty_44 rfl m1 rfl) (pQ rfl (q_ret qJ_ (iM_ b) rfl) (pQ rfl (q_ret en_54 (iI_ a (c7_ b)) rfl) (oS [pI ((c6_ a (c7_ b)).n), pI ((c6_ a (c7_ b)).d)] ty_44 rfl rfl rfl rfl rfl rfl (.head _) rfl hb3 rfl (sd s0) (fl J (W_ret (ret1 rfl (.inr rfl) (resP rfl m0 ty_44 rfl) ?_)))))))))))))
 exact (by rfl)

end Go.Proofs.YtjdfogfmeibkgaaGreat

