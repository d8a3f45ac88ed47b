/- Walks: what these functions return. -/
import Derived.Test.YtapbefpeopaecaaGreatDoorYGE
import Derived.Test.YtapbefpeopaecaaGreatDoorYWa
import Derived.Test.YtapbefpeopaecaaGreatDoorYWc
import Derived.Test.YtapbefpeopaecaaGreatDoorYWd
namespace Go.Proofs.YtapbefpeopaecaaGreatDoor
open Go.Kn Go.Num
set_option linter.unusedVariables false
set_option linter.unusedSimpArgs false
set_option maxRecDepth 20000
set_option maxHeartbeats 8000000
theorem iw_ (n : Nat) (IH : ∀ (a b : R), a.Ok → b.Ok → val b.w < n → Ret Tryz.prog 108 [RV a, RV b] (RV (Z.gcd a.dec b.dec).enc)) (a b : R) (ha : a.Ok) (hb : b.Ok) (hn : val b.w = n) :
    Ret Tryz.prog 108 [RV a, RV b] (RV (Z.gcd a.dec b.dec).enc) := by
 refine av_ (N := 80) Tryz.func108 rfl rfl (by simp) (fun w0 => ?_)
 simp only [initF, Nat.reduceAdd]
 refine Sq fun K1 J1 => Rk fun K J => WL_r rfl (r_box rfl rfl (fun b2 hb2 => WL_r rfl (r_box rfl rfl (fun b3 hb3 => WL_r rfl (bl_ z_37 (fun b4 hb4 => nl J (J1 _ _ (Sq fun K2 J2 => Sq fun K3 J3 => Rk fun K J => sQ (aS_ ty_37 rfl (by repeat (first | exact .head _ | apply List.mem_append_right | apply List.Mem.tail)) (aQ_ ha)) rfl ?_))))))))
 refine sQ (aS_ ty_37 rfl (by repeat (first | exact .head _ | apply List.mem_append_right | apply List.Mem.tail)) (aQ_ hb)) rfl ?_
 refine WL_r rfl (cv_ eR_ z_37 sz_37 rfl (by decide) rfl (lI_ ha hb) (fun b13 hb13 => sQ (bU_ eT_ rfl (fun w hw => bZ_ [a, b] (ok2 ha hb) b13 37 w (hw.mem _ m0) (by simp))) rfl ?_))
 refine sE rfl (nl J (J3 _ _ ?_))
 refine a6_ _ rfl (fun hg => ?_) (fun hg => ?_)
 ·(try simp only [decide_eq_true_eq, decide_eq_false_iff_not, beq_iff_eq, bne_iff_ne, beq_eq_false_iff_ne, bne_eq_false_iff_eq, Bool.not_eq_true', Bool.not_eq_false'] at hg)
  refine Sq fun K4 J4 => Rk fun K J => sQ (q_ret eL_ bW_ rfl) rfl (WL_r rfl (aG_ ty_37 rfl rfl (by repeat (first | exact .head _ | apply Upd.left | apply Upd.tail)) (ag_ _) rfl (at_ _) (.inl (by assumption)) ?_))
  refine nl J (J4 _ _ (W_ret (ai_ (ret1 rfl (.inr rfl) ⟨_, _, _, _, _, _, rfl, (by repeat (first | exact .head _ | apply List.mem_append_right | apply List.Mem.tail)), ty_37, _, (bd_ (ag_ _)), (ag_ _), rfl⟩ ?_))))
  exact congrArg RV (qK_ hg)
 ·(try simp only [decide_eq_true_eq, decide_eq_false_iff_not, beq_iff_eq, bne_iff_ne, beq_eq_false_iff_ne, bne_eq_false_iff_eq, Bool.not_eq_true', Bool.not_eq_false'] at hg)
  have hg := all2.1 hg
  refine ak_ (J2 _ _ ?_)
  refine bQ_ [5, 6, 17, 18, 19, 20, 21, 22, 23, 24, 25, 26, 27, 28, 29, 30, 31, 32, 33, 34, 35, 36, 37, 38, 39, 40, 41, 42, 43, 44, 45, 46, 47, 48, 49, 50, 51, 52, 53, 54, 55, 56, 57, 58, 59] (fun g M => (True) ∧ M = [⟨b4, 37, zR⟩, ⟨b3, 37, b.cells⟩, ⟨b2, 37, a.cells⟩] ∧ (True)) (fun K5 J5 => ?_) ?_
  ·skip
   refine Sq fun K6 J6 => Rk fun K J => sQ (aW_ bv_ (by decide) rfl) rfl (sQ (cs_ (vs := uw a.w) ty_35 rfl (by repeat (first | exact .head _ | apply List.mem_append_right | apply List.Mem.tail)) (dp_ ha.len) ((ck_ _).trans ha.len)) rfl ?_)
   refine sQ (q_ret hY_ (dA_ a.w ha.len) rfl) rfl (sE rfl (sE rfl ?_))
   cases hsz : decide ((szL a.w : Int) ≤ 2)
   ·skip
    refine WL_n rfl (WL_n rfl (WL_n rfl (WL_n rfl (sE rfl (nl J (J6 _ _ (by_ rfl (ak_ ?_))))))))
    refine J5 _ _ (by repeat first | exact .refl | refine .cons rfl ?_) ⟨_, (List.Sublist.cons _ (List.Sublist.refl _)), trivial, ?mem, trivial⟩
    case mem => rfl
   ·skip
    refine sQ (aW_ bv_ (by decide) rfl) rfl (sQ (cs_ (vs := uw b.w) ty_35 rfl (by repeat (first | exact .head _ | apply List.mem_append_right | apply List.Mem.tail)) (dp_ hb.len) ((ck_ _).trans hb.len)) rfl ?_)
    refine sQ (q_ret hY_ (dA_ b.w hb.len) rfl) rfl (sE rfl (sE rfl (nl J (J6 _ _ ?_))))
    refine a6_ _ rfl (fun hsz2 => ?_) (fun hsz2 => ?_)
    ·(try simp only [decide_eq_true_eq, decide_eq_false_iff_not, beq_iff_eq, bne_iff_ne, beq_eq_false_iff_ne, bne_eq_false_iff_eq, Bool.not_eq_true', Bool.not_eq_false'] at hsz2)
     have hA64 := sz2 ha (by have := of_decide_eq_true hsz; omega)
     have hB64 := sz2 hb (by omega)
     refine Sq fun K7 J7 => dr (sk (sk (sk (sk (s0))))) [0,4,8,12,16,20,24,28,32,36,40,44,48,52,56,60,64,68,72,76,80,84] [] mix (by kernel_rfl) (fun K J => pQ rfl (aW_ bv_ (by decide) rfl) (pQ rfl (bM_ ar_35 rfl rfl (by decide) (by decide)) (pQ rfl (bf_ ty_34 rfl (by repeat (first | exact .head _ | apply List.mem_append_right | apply List.Mem.tail)) (dC_ (r := a) (k := 1) (by rw [ha.len]; omega))) ?_)))
     refine pQ rfl (q_as (bt_ in_34 bT_ rfl) (f6_ (bj_ ha.lim _))) (pQ rfl (q_as (q_shl rfl rfl (by decide)) (congrArg (Value.int .u64) (gi_ (bj_ ha.lim _)))) (pQ rfl (aW_ bv_ (by decide) rfl) (pQ rfl (bM_ ar_35 rfl rfl (by decide) (by decide)) (pQ rfl (bf_ ty_34 rfl (by repeat (first | exact .head _ | apply List.mem_append_right | apply List.Mem.tail)) (dC_ (r := a) (k := 0) (by rw [ha.len]; omega))) ?_))))
     refine pQ rfl (q_as (bt_ in_34 bT_ rfl) (f6_ (bj_ ha.lim _))) (pQ rfl (q_as (q_or rfl rfl) (congrArg (Value.int .u64) ((or_hi (bj_ ha.lim _) (bj_ ha.lim _)).trans (congrArg (fun m : Nat => (m : Int)) (gD_ ha hA64))))) (pQ rfl (aW_ bv_ (by decide) rfl) (pQ rfl (bM_ ar_35 rfl rfl (by decide) (by decide)) (pQ rfl (bf_ ty_34 rfl (by repeat (first | exact .head _ | apply List.mem_append_right | apply List.Mem.tail)) (dC_ (r := b) (k := 1) (by rw [hb.len]; omega))) ?_))))
     refine pQ rfl (q_as (bt_ in_34 bT_ rfl) (f6_ (bj_ hb.lim _))) (pQ rfl (q_as (q_shl rfl rfl (by decide)) (congrArg (Value.int .u64) (gi_ (bj_ hb.lim _)))) (pQ rfl (aW_ bv_ (by decide) rfl) (pQ rfl (bM_ ar_35 rfl rfl (by decide) (by decide)) (pQ rfl (bf_ ty_34 rfl (by repeat (first | exact .head _ | apply List.mem_append_right | apply List.Mem.tail)) (dC_ (r := b) (k := 0) (by rw [hb.len]; omega))) ?_))))
     refine pQ rfl (q_as (bt_ in_34 bT_ rfl) (f6_ (bj_ hb.lim _))) (pQ rfl (q_as (q_or rfl rfl) (congrArg (Value.int .u64) ((or_hi (bj_ hb.lim _) (bj_ hb.lim _)).trans (congrArg (fun m : Nat => (m : Int)) (gD_ hb hB64))))) (pE rfl (pE rfl (fl J (J7 _ _ (Sq fun K8 J8 => ar_ ?_))))))
     refine bN_ [5, 6, 47, 48, 49, 50, 51, 52] (fun g nn M => ∃ (x y : Nat), (g 5 = .int .u64 (x : Int) ∧ g 6 = .int .u64 (y : Int)) ∧ M = [⟨b4, 37, zR⟩, ⟨b3, 37, b.cells⟩, ⟨b2, 37, a.cells⟩] ∧ nn = y ∧ (x < 18446744073709551616 ∧ y < 18446744073709551616 ∧ Nat.gcd x y = Nat.gcd (val a.w) (val b.w))) (val b.w) ?start ?round
     case start =>
      refine ⟨_, (List.Sublist.cons _ (List.Sublist.refl _)), _, _, ⟨?a5, ?a6⟩, ?mem0, rfl, ⟨hA64, hB64, rfl⟩⟩
      case mem0 => rfl
      case a5 => rfl
      case a6 => rfl
     case round =>
      rintro nn g M ⟨x, y, ⟨hg5, hg6⟩, rfl, hmeas, ⟨hx64, hy64, hgc⟩⟩
      subst nn
      simp only [setG, hg5, hg6]
      clear hg5 hg6
      refine Sq fun K9 J9 => Sq fun K10 J10 => Rk fun K J => sE rfl (sE rfl (nl J (J10 _ _ ?_)))
      refine a6_ _ rfl (fun hy0 => ?_) (fun hy0 => ?_)
      ·(try simp only [decide_eq_true_eq, decide_eq_false_iff_not, beq_iff_eq, bne_iff_ne, beq_eq_false_iff_ne, bne_eq_false_iff_eq, Bool.not_eq_true', Bool.not_eq_false'] at hy0)
       refine ak_ (J9 _ _ (ar_ (dr (sk (sk (sk (s0)))) [0,4,8,12,16,20] [] mix (by kernel_rfl) (fun K J => pE rfl (pE rfl (pE rfl (pQ rfl (q_as (q_rem rfl rfl (by omega)) (congrArg (Value.int .u64) (hn_ _ _))) (pE rfl (pE rfl (fl J ?_))))))))))
       refine ⟨(by repeat first | exact .refl | refine .cons rfl ?_), _, _, (List.Sublist.refl _), (Nat.mod_lt _ (by omega)), y, x % y, ⟨?s5, ?s6⟩, ?mem, rfl, ⟨hy64, Nat.lt_of_le_of_lt (Nat.mod_le _ _) hx64, by rw [Nat.gcd_comm, ← Nat.gcd_rec, Nat.gcd_comm]; exact hgc⟩⟩
       case mem => rfl
       case s5 => rfl
       case s6 => rfl
      ·(try simp only [decide_eq_true_eq, decide_eq_false_iff_not, beq_iff_eq, bne_iff_ne, beq_eq_false_iff_ne, bne_eq_false_iff_eq, Bool.not_eq_true', Bool.not_eq_false'] at hy0)
       refine bB_ (ax_ (ax_ (aF_ (J8 _ _ (Sq fun K11 J11 => Rk fun K J => sE rfl (sQ (bt_ bT_ in_34 rfl) rfl (sE rfl (sQ (q_as (q_shr rfl rfl (by decide)) (congrArg (Value.int .u64) (ex_ _ 32))) rfl (sQ (bt_ bT_ in_34 rfl) rfl (sQ (d6_ z_35 ar_35 rfl (ri_ hx64)) rfl (sQ (q_ret eu_ (bn_ false _ (by simp) (lim2 (Nat.mod_lt _ (by decide)) (by omega) 14)) rfl) rfl ?_)))))))))))
       refine WL_r rfl (aG_ ty_37 rfl rfl (by repeat (first | exact .head _ | apply Upd.left | apply Upd.tail)) (cC_ (by simp)) rfl (at_ _) (.inl (by assumption)) ?_)
       refine nl J (J11 _ _ (W_ret (ai_ (ret1 rfl (.inr rfl) ⟨_, _, _, _, _, _, rfl, (by repeat (first | exact .head _ | apply List.mem_append_right | apply List.Mem.tail)), ty_37, _, (bd_ (cC_ (by simp))), (cC_ (by simp)), rfl⟩ ?_))))
       exact p5_ ha hb hg.1 hg.2 hx64 (qz_ hx64 hgc (by omega))
    ·(try simp only [decide_eq_true_eq, decide_eq_false_iff_not, beq_iff_eq, bne_iff_ne, beq_eq_false_iff_ne, bne_eq_false_iff_eq, Bool.not_eq_true', Bool.not_eq_false'] at hsz2)
     refine ak_ ?_
     refine J5 _ _ (by repeat first | exact .refl | refine .cons rfl ?_) ⟨_, (List.Sublist.cons _ (List.Sublist.refl _)), trivial, ?mem, trivial⟩
     case mem => rfl
  ·skip
   rintro g M ⟨-, rfl, -⟩
   simp only [setG]
   refine Sq fun K12 J12 => Sq fun K13 J13 => la_ (sk (sk (sk (s0)))) (.quiet 0 [1, 6, 7] (.quiet 1 [6, 7] (.still 2 [3, 7] (.still 3 [7] (.both 4 (.only 5 (.only 6 (.only 7 (.fin)))) 5 (.only 4 (.only 6 (.only 7 (.fin))))))))) [0, 1, 2, 3, 4, 5] mix (by kernel_rfl) (by kernel_rfl) (fun K J => pQ rfl (aW_ bv_ (by decide) rfl) (pQ rfl (cs_ (vs := uw a.w) ty_35 rfl (by repeat (first | exact .head _ | apply List.mem_append_right | apply List.Mem.tail)) (dp_ ha.len) ((ck_ _).trans ha.len)) ?_))
   refine PL_s rfl rfl (aW_ bv_ (by decide) rfl) (PL_s rfl rfl (cs_ (vs := uw b.w) ty_35 rfl (by repeat (first | exact .head _ | apply List.mem_append_right | apply List.Mem.tail)) (dp_ hb.len) ((ck_ _).trans hb.len)) ?_)
   refine PL_b ?_ ?_
   ·skip
    refine PL_o rfl rfl (bl_ z_35 (fun b7 hb7 => ⟨(fun _ => by first | exact sd s0 | exact s0), (by repeat (first | exact s0 | exact sn | refine sk ?_ | refine sd ?_ | refine sA ?_ | refine sR ?_)), ?_⟩))
    refine PL_o rfl rfl (bl_ z_35 (fun b8 hb8 => ⟨(fun _ => by first | exact sd s0 | exact s0), (by repeat (first | exact s0 | exact sn | refine sk ?_ | refine sd ?_ | refine sA ?_ | refine sR ?_)), ?_⟩))
    refine PL_o rfl rfl (aG_ ty_35 rfl rfl (by repeat (first | exact .head _ | apply Upd.left | apply Upd.tail)) (by simp [uw, ha.len]) (by simp [uw]) (ce_ _) (.inl (by assumption)) ⟨nf, (by repeat (first | exact s0 | exact sn | refine sk ?_ | refine sd ?_ | refine sA ?_ | refine sR ?_)), ?_⟩)
    refine PL_o rfl rfl (aG_ ty_35 rfl rfl (by repeat (first | exact .head _ | apply Upd.left | apply Upd.tail)) (by simp [uw, hb.len]) (by simp [uw]) (ce_ _) (.inl (by assumption)) ⟨nf, (by repeat (first | exact s0 | exact sn | refine sk ?_ | refine sd ?_ | refine sA ?_ | refine sR ?_)), ?_⟩)
    refine fl J (J13 _ _ (Sq fun K14 J14 => Rk fun K J => sQ (aS_ ty_35 rfl (by repeat (first | exact .head _ | apply List.mem_append_right | apply List.Mem.tail)) (by simp [uw, hb.len])) rfl ?_))
    refine sQ (d6_ z_35 ar_35 rfl (.nil _)) rfl ?_
    refine sQ (gw_ (r := (val b.w == 0)) rfl rfl (dU_ 8 (by decide) eg_35 lv_35 (dM_ hb.len) (dM_ (by simp)) (g5_ hb.len hb.lim))) rfl ?_
    refine nl J (J14 _ _ ?_)
    refine a6_ _ rfl (fun hb0 => ?_) (fun hb0 => ?_)
    ·(try simp only [decide_eq_true_eq, decide_eq_false_iff_not, beq_iff_eq, bne_iff_ne, beq_eq_false_iff_ne, bne_eq_false_iff_eq, Bool.not_eq_true', Bool.not_eq_false'] at hb0)
     have hp : 0 < val b.w := Nat.pos_of_ne_zero (by simpa using hb0)
     refine Sq fun K15 J15 => Rk fun K J => sQ (aS_ ty_35 rfl (by repeat (first | exact .head _ | apply List.mem_append_right | apply List.Mem.tail)) (by simp [uw, ha.len])) rfl ?_
     refine sQ (aS_ ty_35 rfl (by repeat (first | exact .head _ | apply List.mem_append_right | apply List.Mem.tail)) (by simp [uw, hb.len])) rfl ?_
     refine sQ (q_ret mh_ (ep_ a.w b.w ha.len hb.len ha.lim hb.lim hp) rfl) rfl (sE rfl (sE rfl (sE rfl (WL_r rfl (bl_ z_35 (fun b9 hb9 => WL_r rfl (bl_ z_35 (fun b10 hb10 => WL_r rfl (aG_ ty_35 rfl rfl (by repeat (first | exact .head _ | apply Upd.left | apply Upd.tail)) (by simp [uw, a3_]) (by simp [uw]) (ce_ _) (.inl (by assumption)) ?_)))))))))
     refine WL_r rfl (aG_ ty_35 rfl rfl (by repeat (first | exact .head _ | apply Upd.left | apply Upd.tail)) (by simp [uw, a3_]) (by simp [uw]) (ce_ _) (.inl (by assumption)) ?_)
     refine nl J (J15 _ _ (Sq fun K16 J16 => dr (sk (sk (sk (sk (sd (sk (sk (s0)))))))) [0,4,8,12,16,21] [5] mix (by kernel_rfl) (fun K J => pQ rfl (aS_ ty_35 rfl (by repeat (first | exact .head _ | apply List.mem_append_right | apply List.Mem.tail)) (by simp [uw, hb.len])) ?_)))
     refine pQ rfl (q_as (q_ret eu_ (bn_ false b.w hb.len hb.lim) rfl) (io_ hb.len hb.lim false)) (pQ rfl (aS_ ty_35 rfl (by repeat (first | exact .head _ | apply List.mem_append_right | apply List.Mem.tail)) (by simp [uw, a3_])) ?_)
     refine pQ rfl (q_as (q_ret eu_ (bn_ false _ (a3_ _ _) (dh_ _ _)) rfl) (congrArg RV (dD_ false (eZ_ ha)))) (pQ rfl (q_ret hB_ (IH (Z.of (sgn false (val b.w))).enc (Z.of (sgn false (val a.w % val b.w))).enc (Z.enc_ok _) (Z.enc_ok _) (by rw [nf_ (eZ_ ha), ← hn]; exact Nat.mod_lt _ hp)) rfl) ?_)
     refine PL_o rfl rfl (aG_ ty_37 rfl rfl (by repeat (first | exact .head _ | apply Upd.left | apply Upd.tail)) (ag_ _) rfl (at_ _) (.inl (by assumption)) ⟨nf, (by repeat (first | exact s0 | exact sn | refine sk ?_ | refine sd ?_ | refine sA ?_ | refine sR ?_)), ?_⟩)
     refine fl J (J16 _ _ (W_ret (ai_ (ret1 rfl (.inr rfl) ⟨_, _, _, _, _, _, rfl, (by repeat (first | exact .head _ | apply List.mem_append_right | apply List.Mem.tail)), ty_37, _, (bd_ (ag_ _)), (ag_ _), rfl⟩ ?_))))
     exact lq_ ha hb hg.1 hg.2
    ·(try simp only [decide_eq_true_eq, decide_eq_false_iff_not, beq_iff_eq, bne_iff_ne, beq_eq_false_iff_ne, bne_eq_false_iff_eq, Bool.not_eq_true', Bool.not_eq_false'] at hb0)
     refine ak_ (J12 _ _ (Sq fun K17 J17 => Rk fun K J => sQ (aS_ ty_37 rfl (by repeat (first | exact .head _ | apply List.mem_append_right | apply List.Mem.tail)) (aQ_ ha)) rfl ?_))
     refine sQ (q_ret pQ_ (g3_ a ha) rfl) rfl (WL_r rfl (aG_ ty_37 rfl rfl (by repeat (first | exact .head _ | apply Upd.left | apply Upd.tail)) (ag_ _) rfl (at_ _) (.inl (by assumption)) ?_))
     refine nl J (J17 _ _ (W_ret (ret1 rfl (.inr rfl) ⟨_, _, _, _, _, _, rfl, (by repeat (first | exact .head _ | apply List.mem_append_right | apply List.Mem.tail)), ty_37, _, (bd_ (ag_ _)), (ag_ _), rfl⟩ ?_)))
     exact k3_ ha hb hg.1 hg.2 (by simpa using hb0)
   ·skip
    refine PL_o rfl rfl (bl_ z_35 (fun b8 hb8 => ⟨(fun _ => by first | exact sd s0 | exact s0), (by repeat (first | exact s0 | exact sn | refine sk ?_ | refine sd ?_ | refine sA ?_ | refine sR ?_)), ?_⟩))
    refine PL_o rfl rfl (bl_ z_35 (fun b7 hb7 => ⟨(fun _ => by first | exact sd s0 | exact s0), (by repeat (first | exact s0 | exact sn | refine sk ?_ | refine sd ?_ | refine sA ?_ | refine sR ?_)), ?_⟩))
    refine PL_o rfl rfl (aG_ ty_35 rfl rfl (by repeat (first | exact .head _ | apply Upd.left | apply Upd.tail)) (by simp [uw, ha.len]) (by simp [uw]) (ce_ _) (.inl (by assumption)) ⟨nf, (by repeat (first | exact s0 | exact sn | refine sk ?_ | refine sd ?_ | refine sA ?_ | refine sR ?_)), ?_⟩)
    refine PL_o rfl rfl (aG_ ty_35 rfl rfl (by repeat (first | exact .head _ | apply Upd.left | apply Upd.tail)) (by simp [uw, hb.len]) (by simp [uw]) (ce_ _) (.inl (by assumption)) ⟨nf, (by repeat (first | exact s0 | exact sn | refine sk ?_ | refine sd ?_ | refine sA ?_ | refine sR ?_)), ?_⟩)
    refine fl J (J13 _ _ (Sq fun K18 J18 => Rk fun K J => sQ (aS_ ty_35 rfl (by repeat (first | exact .head _ | apply List.mem_append_right | apply List.Mem.tail)) (by simp [uw, hb.len])) rfl ?_))
    refine sQ (d6_ z_35 ar_35 rfl (.nil _)) rfl ?_
    refine sQ (gw_ (r := (val b.w == 0)) rfl rfl (dU_ 8 (by decide) eg_35 lv_35 (dM_ hb.len) (dM_ (by simp)) (g5_ hb.len hb.lim))) rfl ?_
    refine nl J (J18 _ _ ?_)
    refine a6_ _ rfl (fun hb0 => ?_) (fun hb0 => ?_)
    ·(try simp only [decide_eq_true_eq, decide_eq_false_iff_not, beq_iff_eq, bne_iff_ne, beq_eq_false_iff_ne, bne_eq_false_iff_eq, Bool.not_eq_true', Bool.not_eq_false'] at hb0)
     have hp : 0 < val b.w := Nat.pos_of_ne_zero (by simpa using hb0)
     refine Sq fun K19 J19 => Rk fun K J => sQ (aS_ ty_35 rfl (by repeat (first | exact .head _ | apply List.mem_append_right | apply List.Mem.tail)) (by simp [uw, ha.len])) rfl ?_
     refine sQ (aS_ ty_35 rfl (by repeat (first | exact .head _ | apply List.mem_append_right | apply List.Mem.tail)) (by simp [uw, hb.len])) rfl ?_
     refine sQ (q_ret mh_ (ep_ a.w b.w ha.len hb.len ha.lim hb.lim hp) rfl) rfl (sE rfl (sE rfl (sE rfl (WL_r rfl (bl_ z_35 (fun b9 hb9 => WL_r rfl (bl_ z_35 (fun b10 hb10 => WL_r rfl (aG_ ty_35 rfl rfl (by repeat (first | exact .head _ | apply Upd.left | apply Upd.tail)) (by simp [uw, a3_]) (by simp [uw]) (ce_ _) (.inl (by assumption)) ?_)))))))))
     refine WL_r rfl (aG_ ty_35 rfl rfl (by repeat (first | exact .head _ | apply Upd.left | apply Upd.tail)) (by simp [uw, a3_]) (by simp [uw]) (ce_ _) (.inl (by assumption)) ?_)
     refine nl J (J19 _ _ (Sq fun K20 J20 => dr (sk (sk (sk (sk (sd (sk (sk (s0)))))))) [0,4,8,12,16,21] [5] mix (by kernel_rfl) (fun K J => pQ rfl (aS_ ty_35 rfl (by repeat (first | exact .head _ | apply List.mem_append_right | apply List.Mem.tail)) (by simp [uw, hb.len])) ?_)))
     refine pQ rfl (q_as (q_ret eu_ (bn_ false b.w hb.len hb.lim) rfl) (io_ hb.len hb.lim false)) (pQ rfl (aS_ ty_35 rfl (by repeat (first | exact .head _ | apply List.mem_append_right | apply List.Mem.tail)) (by simp [uw, a3_])) ?_)
     refine pQ rfl (q_as (q_ret eu_ (bn_ false _ (a3_ _ _) (dh_ _ _)) rfl) (congrArg RV (dD_ false (eZ_ ha)))) (pQ rfl (q_ret hB_ (IH (Z.of (sgn false (val b.w))).enc (Z.of (sgn false (val a.w % val b.w))).enc (Z.enc_ok _) (Z.enc_ok _) (by rw [nf_ (eZ_ ha), ← hn]; exact Nat.mod_lt _ hp)) rfl) ?_)
     refine PL_o rfl rfl (aG_ ty_37 rfl rfl (by repeat (first | exact .head _ | apply Upd.left | apply Upd.tail)) (ag_ _) rfl (at_ _) (.inl (by assumption)) ⟨nf, (by repeat (first | exact s0 | exact sn | refine sk ?_ | refine sd ?_ | refine sA ?_ | refine sR ?_)), ?_⟩)
     refine fl J (J20 _ _ (W_ret (ai_ (ret1 rfl (.inr rfl) ⟨_, _, _, _, _, _, rfl, (by repeat (first | exact .head _ | apply List.mem_append_right | apply List.Mem.tail)), ty_37, _, (bd_ (ag_ _)), (ag_ _), rfl⟩ ?_))))
     exact lq_ ha hb hg.1 hg.2
    ·(try simp only [decide_eq_true_eq, decide_eq_false_iff_not, beq_iff_eq, bne_iff_ne, beq_eq_false_iff_ne, bne_eq_false_iff_eq, Bool.not_eq_true', Bool.not_eq_false'] at hb0)
     refine ak_ (J12 _ _ (Sq fun K21 J21 => Rk fun K J => sQ (aS_ ty_37 rfl (by repeat (first | exact .head _ | apply List.mem_append_right | apply List.Mem.tail)) (aQ_ ha)) rfl ?_))
     refine sQ (q_ret pQ_ (g3_ a ha) rfl) rfl (WL_r rfl (aG_ ty_37 rfl rfl (by repeat (first | exact .head _ | apply Upd.left | apply Upd.tail)) (ag_ _) rfl (at_ _) (.inl (by assumption)) ?_))
     refine nl J (J21 _ _ (W_ret (ret1 rfl (.inr rfl) ⟨_, _, _, _, _, _, rfl, (by repeat (first | exact .head _ | apply List.mem_append_right | apply List.Mem.tail)), ty_37, _, (bd_ (ag_ _)), (ag_ _), rfl⟩ ?_)))
     exact k3_ ha hb hg.1 hg.2 (by simpa using hb0)
theorem d7_ (a b : R) (ha : a.Ok) (hb : b.Ok) : Ret Tryz.prog 108 [RV a, RV b] (RV (Z.gcd a.dec b.dec).enc) := by
  generalize hn : val b.w = n
  induction n using Nat.strongRecOn generalizing a b with
  | ind n ih => exact iw_ n (fun a b ha hb h => ih _ h a b ha hb rfl) a b ha hb hn
end Go.Proofs.YtapbefpeopaecaaGreatDoor

