/- Walks: what these functions return. -/
import Derived.Test.YtapbefpeopaecaaGreatDoorYGE
import Derived.Test.YtapbefpeopaecaaGreatDoorYWa
namespace Go.Proofs.YtapbefpeopaecaaGreatDoor
open Go.Kn Go.Num
set_option linter.unusedVariables false
set_option linter.unusedSimpArgs false
set_option maxRecDepth 20000
set_option maxHeartbeats 8000000
theorem bs_ (a b : R) (ha : a.Ok) (hb : b.Ok) :
    Ret Tryz.prog 96 [RV a, RV b] (RV (Z.mul a.dec b.dec).enc) := by
 refine av_ (N := 82) Tryz.func96 rfl rfl (by simp) (fun w0 => ?_)
 simp only [initF, Nat.reduceAdd]
 refine Sq fun K1 J1 => Rk fun K J => WL_r rfl (r_box rfl rfl (fun b2 hb2 => WL_r rfl (r_box rfl rfl (fun b3 hb3 => WL_r rfl (bl_ z_37 (fun b4 hb4 => nl J (J1 _ _ (Sq fun K2 J2 => Sq fun K3 J3 => Rk fun K J => sQ (aS_ ty_37 rfl (by repeat (first | exact .head _ | apply List.mem_append_right | apply List.Mem.tail)) (aQ_ ha)) rfl ?_))))))))
 refine sQ (aS_ ty_37 rfl (by repeat (first | exact .head _ | apply List.mem_append_right | apply List.Mem.tail)) (aQ_ hb)) rfl ?_
 refine WL_r rfl (cv_ eR_ z_37 sz_37 rfl (by decide) rfl (lI_ ha hb) (fun b13 hb13 => sQ (bU_ eT_ rfl (fun w hw => bZ_ [a, b] (ok2 ha hb) b13 37 w (hw.mem _ m0) (by simp))) rfl ?_))
 refine sE rfl (nl J (J3 _ _ ?_))
 refine a6_ _ rfl (fun hg => ?_) (fun hg => ?_)
 ·(try simp only [decide_eq_true_eq, decide_eq_false_iff_not, beq_iff_eq, bne_iff_ne, beq_eq_false_iff_ne, bne_eq_false_iff_eq, Bool.not_eq_true', Bool.not_eq_false'] at hg)
  refine Sq fun K4 J4 => Rk fun K J => sQ (q_ret eL_ bW_ rfl) rfl (WL_r rfl (aG_ ty_37 rfl rfl (by repeat (first | exact .head _ | apply Upd.left | apply Upd.tail)) (ag_ _) rfl (at_ _) (.inl (by assumption)) ?_))
  refine nl J (J4 _ _ (W_ret (ai_ (ret1 rfl (.inr rfl) ⟨_, _, _, _, _, _, rfl, (by repeat (first | exact .head _ | apply List.mem_append_right | apply List.Mem.tail)), ty_37, _, (bd_ (ag_ _)), (ag_ _), rfl⟩ ?_))))
  (rw [Z.mul, c9_ (hO_ hg)]; rfl)
 ·(try simp only [decide_eq_true_eq, decide_eq_false_iff_not, beq_iff_eq, bne_iff_ne, beq_eq_false_iff_ne, bne_eq_false_iff_eq, Bool.not_eq_true', Bool.not_eq_false'] at hg)
  have hg := all2.1 hg
  refine ak_ (J2 _ _ (Sq fun K5 J5 => Rk fun K J => WL_r rfl (bl_ z_132 (fun b5 hb5 => nl J (J5 _ _ (Sq fun K6 J6 => ?_))))))
  have hsa := fQ_ a.w
  have hsb := fQ_ b.w
  rw [ha.len] at hsa
  rw [hb.len] at hsb
  refine dr (sk (sk (sk (sk (sk (s0)))))) [0,4,8,12,16,20,24,28] [] mix (by kernel_rfl) (fun K J => pQ rfl (aW_ bv_ (by decide) rfl) (pQ rfl (cs_ (vs := uw a.w) ty_35 rfl (by repeat (first | exact .head _ | apply List.mem_append_right | apply List.Mem.tail)) (dp_ ha.len) ((ck_ _).trans ha.len)) ?_))
  refine pQ rfl (q_ret hY_ (dA_ a.w ha.len) rfl) (pQ rfl (aW_ bv_ (by decide) rfl) (pQ rfl (cs_ (vs := uw b.w) ty_35 rfl (by repeat (first | exact .head _ | apply List.mem_append_right | apply List.Mem.tail)) (dp_ hb.len) ((ck_ _).trans hb.len)) ?_))
  refine pQ rfl (q_ret hY_ (dA_ b.w hb.len) rfl) (pE rfl (pE rfl (fl J (J6 _ _ (Sq fun K7 J7 => Sq fun K8 J8 => Rk fun K J => sE rfl (sE rfl (nl J (J8 _ _ (ar_ ?_)))))))))
  refine bN_ [8, 9, 10, 24, 25, 26, 27, 28, 29, 30, 31, 32, 33, 34, 35, 36, 37, 38, 39, 40, 41, 42, 43, 44, 45, 46, 47, 48, 49, 50, 51, 52, 53, 54, 55, 56, 57, 58, 59, 60, 61, 62, 63, 64, 65, 66] (fun g nn M => ∃ (i : Nat) (l : List Nat), (g 24 = .int .i64 (i : Int)) ∧ M = [⟨b5, 132, uw l⟩, ⟨b4, 37, zR⟩, ⟨b3, 37, b.cells⟩, ⟨b2, 37, a.cells⟩] ∧ nn = szL a.w - i ∧ (i ≤ szL a.w ∧ MulOut (val a.w) (val b.w) (szL b.w) i l)) (szL a.w - 0) ?start ?round
  case start =>
   refine ⟨_, (List.Sublist.cons_cons _ (List.Sublist.cons _ (List.Sublist.refl _))), 0, _, ?a24, ?mem0, rfl, ⟨Nat.zero_le _, MulOut.start _ _ _⟩⟩
   case mem0 => rfl
   case a24 => rfl
  case round =>
   rintro nn g M ⟨i, l, hg24, rfl, hmeas, ⟨hile, hM⟩⟩
   subst nn
   simp only [setG, hg24]
   clear hg24
   refine Sq fun K9 J9 => Rk fun K J => sE rfl (nl J (J9 _ _ (Sq fun K10 J10 => ?_)))
   refine a6_ _ rfl (fun hi => ?_) (fun hi => ?_)
   ·(try simp only [decide_eq_true_eq, decide_eq_false_iff_not, beq_iff_eq, bne_iff_ne, beq_eq_false_iff_ne, bne_eq_false_iff_eq, Bool.not_eq_true', Bool.not_eq_false'] at hi)
    have hia : i < a.w.length := by rw [ha.len]; omega
    refine ak_ (J10 _ _ (Sq fun K11 J11 => ar_ (Sq fun K12 J12 => Rk fun K J => sE rfl (sE rfl (nl J (J12 _ _ (Sq fun K13 J13 => Rk fun K J => sE rfl (nl J (J13 _ _ (Sq fun K14 J14 => Sq fun K15 J15 => Rk fun K J => sE rfl (sE rfl ?_)))))))))))
    refine nl J (J15 _ _ (ar_ ?_))
    refine bN_ [9, 10, 28, 29, 30, 31, 32, 33, 34, 35, 36, 37, 38, 39, 40, 41, 42, 43, 44, 45, 46, 47, 48, 49, 50, 51, 52, 53, 54, 55, 56, 57, 58, 59] (fun g nn M => ∃ (k : Nat) (l : List Nat) (c : Nat), (g 9 = .int .u64 (c : Int) ∧ g 28 = .int .i64 (k : Int)) ∧ M = [⟨b5, 132, uw l⟩, ⟨b4, 37, zR⟩, ⟨b3, 37, b.cells⟩, ⟨b2, 37, a.cells⟩] ∧ nn = szL b.w - k ∧ (k ≤ szL b.w ∧ MulIn (val a.w) (val b.w) (szL b.w) i k l c)) (szL b.w - 0) ?start ?round
    case start =>
     refine ⟨_, (List.Sublist.refl _), 0, l, 0, ⟨?a9, ?a28⟩, ?mem0, rfl, ⟨Nat.zero_le _, hM.row⟩⟩
     case mem0 => rfl
     case a9 => rfl
     case a28 => rfl
    case round =>
     rintro nn g M ⟨k, l, c, ⟨hg9, hg28⟩, rfl, hmeas, ⟨hkle, hM⟩⟩
     subst nn
     simp only [setG, hg9, hg28]
     clear hg9 hg28
     refine Sq fun K16 J16 => Rk fun K J => sE rfl (nl J (J16 _ _ (Sq fun K17 J17 => ?_)))
     refine a6_ _ rfl (fun hk => ?_) (fun hk => ?_)
     ·(try simp only [decide_eq_true_eq, decide_eq_false_iff_not, beq_iff_eq, bne_iff_ne, beq_eq_false_iff_ne, bne_eq_false_iff_eq, Bool.not_eq_true', Bool.not_eq_false'] at hk)
      have hkb : k < b.w.length := by rw [hb.len]; omega
      refine ak_ (J17 _ _ (Sq fun K18 J18 => ar_ (Sq fun K19 J19 => Rk fun K J => sE rfl (sE rfl (nl J (J19 _ _ (Sq fun K20 J20 => dr (sk (sk (sk (sk (s0))))) [0,4,8,12,16,20,24,28,32,36,40,44,48,52,56,60,64,68,72,76,80] [] mix (by kernel_rfl) (fun K J => pE rfl (pE rfl (pQ rfl (aW_ bv_ (by decide) rfl) (pQ rfl (bM_ ar_35 rfl rfl (by omega) (by omega)) (pQ rfl (bf_ ty_34 rfl (by repeat (first | exact .head _ | apply List.mem_append_right | apply List.Mem.tail)) (dC_ hia)) ?_))))))))))))
      refine pQ rfl (bt_ in_34 bT_ rfl) (pE rfl (pQ rfl (aW_ bv_ (by decide) rfl) (pQ rfl (bM_ ar_35 rfl rfl (by omega) (by omega)) (pQ rfl (bf_ ty_34 rfl (by repeat (first | exact .head _ | apply List.mem_append_right | apply List.Mem.tail)) (dC_ hkb)) ?_))))
      refine pQ rfl (bt_ in_34 bT_ rfl) (pE rfl (pE rfl (pE rfl (pQ rfl (q_as (q_add rfl rfl) (congrArg (Value.int .i64) (d2_ (by omega)))) (pQ rfl (bM_ j3_ rfl rfl (by omega) (by omega)) (pQ rfl (bf_ ty_34 rfl (by repeat (first | exact .head _ | apply List.mem_append_right | apply List.Mem.tail)) (uwAt (by rw [hM.len]; omega))) ?_))))))
      refine pQ rfl (bt_ in_34 bT_ rfl) (pE rfl (pQ rfl (q_as (q_add rfl rfl) (congrArg (Value.int .u64) (mul_s (bj_ ha.lim i) (bj_ hb.lim k) (bj_ hM.lim (i + k)) hM.clt))) (pE rfl (fl J (J20 _ _ (Sq fun K21 J21 => Rk fun K J => sE rfl (sE rfl (sQ (q_as (q_add rfl rfl) (congrArg (Value.int .i64) (d2_ (by omega)))) rfl (sE rfl (sQ (q_as (bt_ bT_ in_34 rfl) (eb_ _)) rfl (sQ (bM_ j3_ rfl rfl (by omega) (by omega)) rfl (WL_r rfl (dI_ ty_34 rfl rfl (by repeat (first | exact .head _ | apply Upd.left | apply Upd.tail)) (by rw [hM.len]; omega) (.inl (by assumption)) ?_)))))))))))))
      refine nl J (J21 _ _ (Rk fun K J => sE rfl (sQ (q_as (q_shr rfl rfl (by decide)) (congrArg (Value.int .u64) (ex_ _ 32))) rfl (sE rfl (nl J (J18 _ _ (Rk fun K J => sQ (q_as (q_add rfl rfl) (congrArg (Value.int .i64) (cV_ (by omega)))) rfl (sE rfl (nl J ?_)))))))))
      refine ⟨(by repeat first | exact .refl | refine .cons rfl ?_), _, _, (List.Sublist.refl _), (by omega), k + 1, _, _, ⟨?s9, ?s28⟩, ?mem, rfl, ⟨by omega, ni_ hM ha.lim hb.lim (by omega) (by omega)⟩⟩
      case mem => rfl
      case s9 => rfl
      case s28 => rfl
     ·(try simp only [decide_eq_true_eq, decide_eq_false_iff_not, beq_iff_eq, bne_iff_ne, beq_eq_false_iff_ne, bne_eq_false_iff_eq, Bool.not_eq_true', Bool.not_eq_false'] at hk)
      obtain rfl : k = szL b.w := by omega
      refine bB_ (ax_ (ax_ (aF_ (J14 _ _ (Rk fun K J => sE rfl (sE rfl (sQ (q_as (q_add rfl rfl) (congrArg (Value.int .i64) (d2_ (by omega)))) rfl (sE rfl (sQ (q_as (bt_ bT_ in_34 rfl) (rn_ hM.clt)) rfl (sQ (bM_ j3_ rfl rfl (by omega) (by omega)) rfl (WL_r rfl (dI_ ty_34 rfl rfl (by repeat (first | exact .head _ | apply Upd.left | apply Upd.tail)) (by rw [hM.len]; omega) (.inl (by assumption)) ?_))))))))))))
      refine nl J (J11 _ _ (Rk fun K J => sQ (q_as (q_add rfl rfl) (congrArg (Value.int .i64) (cV_ (by omega)))) rfl (sE rfl (nl J ?_))))
      refine ⟨(by repeat first | exact .refl | refine .cons rfl ?_), _, _, (List.Sublist.refl _), (by omega), i + 1, _, ?s24, ?mem, rfl, ⟨by omega, hM.done (by omega) (e5_ hb.lim)⟩⟩
      case mem => rfl
      case s24 => rfl
   ·(try simp only [decide_eq_true_eq, decide_eq_false_iff_not, beq_iff_eq, bne_iff_ne, beq_eq_false_iff_ne, bne_eq_false_iff_eq, Bool.not_eq_true', Bool.not_eq_false'] at hi)
    obtain rfl : i = szL a.w := by omega
    refine bB_ (ax_ (ax_ (aF_ (J7 _ _ (Sq fun K22 J22 => Sq fun K23 J23 => Rk fun K J => sQ (gp_ j3_ rfl rfl rfl (by decide) (by decide) (by decide) (by decide)) rfl (sQ (q_s2a ar_35 rfl (by decide)) rfl (sQ (cs_ (vs := uw (l.drop 16)) ty_35 rfl (by repeat (first | exact .head _ | apply List.mem_append_right | apply List.Mem.tail)) (uw_hi hM.len) (by simp [uw, hM.len])) rfl ?_)))))))
    refine sQ (d6_ z_35 ar_35 rfl (.nil _)) rfl ?_
    refine sQ (gw_ (r := decide (l.drop 16 = List.replicate 16 0)) rfl rfl (dU_ 8 (by decide) eg_35 lv_35 (dM_ (by simp [hM.len])) (dM_ (by simp)) (r4_ _ _))) rfl ?_
    refine nl J (J23 _ _ ?_)
    refine a6_ _ rfl (fun h71 => ?_) (fun h71 => ?_)
    ·(try simp only [decide_eq_true_eq, decide_eq_false_iff_not, beq_iff_eq, bne_iff_ne, beq_eq_false_iff_ne, bne_eq_false_iff_eq, Bool.not_eq_true', Bool.not_eq_false'] at h71)
     refine Sq fun K24 J24 => Rk fun K J => sQ (q_ret eL_ bW_ rfl) rfl (WL_r rfl (aG_ ty_37 rfl rfl (by repeat (first | exact .head _ | apply Upd.left | apply Upd.tail)) (ag_ _) rfl (at_ _) (.inl (by assumption)) ?_))
     refine nl J (J24 _ _ (W_ret (ai_ (ret1 rfl (.inr rfl) ⟨_, _, _, _, _, _, rfl, (by repeat (first | exact .head _ | apply List.mem_append_right | apply List.Mem.tail)), ty_37, _, (bd_ (ag_ _)), (ag_ _), rfl⟩ ?_))))
     exact congrArg RV (p3_ ha hb hg.1 hg.2 hM.len hM.lim (iD_ hM ha) (by simpa using h71))
    ·(try simp only [decide_eq_true_eq, decide_eq_false_iff_not, beq_iff_eq, bne_iff_ne, beq_eq_false_iff_ne, bne_eq_false_iff_eq, Bool.not_eq_true', Bool.not_eq_false'] at h71)
     refine ak_ (J22 _ _ (Sq fun K25 J25 => dr (sk (sd (sk (sk (s0))))) [0,4,8,12,16,20,24,28,32,37] [9] mix (by kernel_rfl) (fun K J => pQ rfl (aW_ bq_ (by decide) rfl) (pQ rfl (bf_ ty_4 rfl (by repeat (first | exact .head _ | apply List.mem_append_right | apply List.Mem.tail)) rfl) ?_))))
     refine pQ rfl (aW_ bq_ (by decide) rfl) (pQ rfl (bf_ ty_4 rfl (by repeat (first | exact .head _ | apply List.mem_append_right | apply List.Mem.tail)) rfl) ?_)
     refine pQ rfl (fw_ bo_4 rfl rfl) (pQ rfl (gp_ j3_ rfl rfl rfl (by decide) (by decide) (by decide) (by decide)) (pQ rfl (q_s2a ar_35 rfl (by decide)) (pQ rfl (cs_ (vs := uw (l.take 16)) ty_35 rfl (by repeat (first | exact .head _ | apply List.mem_append_right | apply List.Mem.tail)) (uw_lo hM.len) (by simp [uw, hM.len])) ?_)))
     refine pQ rfl (q_ret eu_ (bn_ (a.neg != b.neg) (l.take 16) (by simp [hM.len]) (hM.lim.take 16)) rfl) ?_
     refine PL_o rfl rfl (aG_ ty_37 rfl rfl (by repeat (first | exact .head _ | apply Upd.left | apply Upd.tail)) (cC_ (by simp [hM.len])) rfl (at_ _) (.inl (by assumption)) ⟨nf, (by repeat (first | exact s0 | exact sn | refine sk ?_ | refine sd ?_ | refine sA ?_ | refine sR ?_)), ?_⟩)
     refine fl J (J25 _ _ (W_ret (ret1 rfl (.inr rfl) ⟨_, _, _, _, _, _, rfl, (by repeat (first | exact .head _ | apply List.mem_append_right | apply List.Mem.tail)), ty_37, _, (bd_ (cC_ (by simp [hM.len]))), (cC_ (by simp [hM.len])), rfl⟩ ?_)))
     exact congrArg RV (qy_ ha hb hg.1 hg.2 hM.len hM.lim (iD_ hM ha) (by simpa using h71))

theorem ig_ (us vs : List Nat) (n j : Nat) (H : QH us vs n j) (bu T : Nat) (w : World) (hbu : w.heap[bu]? = some (.cells (uw us).toArray T (0, 0))) :
    Calls Tryz.prog 158 [.pointer (some ⟨bu, 0, none⟩), UV vs, .int .i64 (n : Int), .int .i64 (j : Int)].toArray w (fun e w' => ∃ x : Nat, e = .returned (.int .u64 (x : Int)) ∧ Ext w w' ∧ Guess us vs j x) := by
 refine kz_ (N := 77) (g := fun x : Nat => .int .u64 (x : Int)) (Q := fun x : Nat => Guess us vs j x) Tryz.func158 rfl rfl (by simp) ?_
 obtain ⟨w0, rfl⟩ : ∃ w0, w0 = w := ⟨_, rfl⟩
 simp only [initF, Nat.reduceAdd]
 have G := H.gh
 have hn2 := H.n2
 have hjn := H.jn
 have hul := H.ulen
 have hvl := H.vlen
 refine Sq fun K1 J1 => Rk fun K J => WL_r rfl (r_box rfl rfl (fun b5 hb5 => sE rfl (nl J (J1 _ _ (Sq fun K2 J2 => dr (sk (s0)) [0,4,8,12,16,20,24,28,32,36,40,44,48,52,56,60,64,68,72,76] [] mix (by kernel_rfl) (fun K J => pE rfl (pE rfl (pE rfl (pQ rfl (q_as (q_add rfl rfl) (congrArg (Value.int .i64) (d2_ (by omega)))) (pE rfl (pQ rfl (bM_ fj_ rfl rfl (by omega) (by omega)) (pQ rfl (j8_ ty_34 rfl hbu (by simp) (uwAt (by omega))) ?_))))))))))))
 refine pQ rfl (q_as (bt_ in_34 bT_ rfl) (f6_ (bj_ H.ulim _))) (pQ rfl (q_as (q_shl rfl rfl (by decide)) (congrArg (Value.int .u64) (gi_ (bj_ H.ulim _)))) (pE rfl (pE rfl (pE rfl (pQ rfl (q_as (q_add rfl rfl) (congrArg (Value.int .i64) (d2_ (by omega)))) (pQ rfl (q_as (q_sub rfl rfl) (congrArg (Value.int .i64) (eV_ (b := 1) rfl (by omega) (by omega)))) (pE rfl (pQ rfl (bM_ fj_ rfl rfl (by omega) (by omega)) (pQ rfl (j8_ ty_34 rfl hbu (by simp) (uwAt (by omega))) ?_)))))))))
 refine pQ rfl (q_as (bt_ in_34 bT_ rfl) (f6_ (bj_ H.ulim _))) (pQ rfl (q_as (q_or rfl rfl) (congrArg (Value.int .u64) (or_hi (bj_ H.ulim _) (bj_ H.ulim _)))) (pE rfl (fl J (J2 _ _ (Sq fun K3 J3 => Rk fun K J => sE rfl (sQ (q_as (q_sub rfl rfl) (congrArg (Value.int .i64) (eV_ (b := 1) rfl (by omega) (by omega)))) rfl (sQ (bM_ ar_35 rfl rfl (by omega) (by omega)) rfl (sQ (bf_ ty_34 rfl (by repeat (first | exact .head _ | apply List.mem_append_right | apply List.Mem.tail)) (uwAt (by omega))) rfl ?_))))))))
 refine sQ (q_as (bt_ in_34 bT_ rfl) (f6_ (bj_ H.vlim _))) rfl (sE rfl (nl J (J3 _ _ (Sq fun K4 J4 => dr (sk (s0)) [0,4,8,12,16,20,24,28] [] mix (by kernel_rfl) (fun K J => pE rfl (pE rfl (pQ rfl (q_as (q_quo rfl rfl (by have := G.f0; omega)) (congrArg (Value.int .u64) (qx_ (by have := G.topLt; have := G.f1; omega)))) (pE rfl (pE rfl (pQ rfl (q_as (q_rem rfl rfl (by have := G.f0; omega)) (congrArg (Value.int .u64) (hn_ _ _))) (pE rfl (pE rfl (fl J (J4 _ _ (Sq fun K5 J5 => ar_ ?_)))))))))))))))
 refine bN_ [11, 12, 43, 44, 45, 46, 47, 48, 49, 50, 51, 52, 53, 54, 55, 56, 57, 58, 59, 60, 61, 62, 63, 64, 65, 66, 67, 68, 69, 70, 71, 72, 73, 74, 75] (fun g nn M => ∃ (d rest : Nat), (g 11 = .int .u64 (d : Int) ∧ g 12 = .int .u64 (rest : Int)) ∧ M = [⟨b5, 35, uw vs⟩] ∧ nn = d ∧ (GI (vs.getD (n - 1) 0) (us.getD (j + n) 0 * 4294967296 + us.getD (j + n - 1) 0) (val us / (val vs * 4294967296 ^ j)) d rest)) ((us.getD (j + n) 0 * 4294967296 + us.getD (j + n - 1) 0) / vs.getD (n - 1) 0) ?start ?round
 case start =>
  refine ⟨_, (List.Sublist.refl _), _, _, ⟨?a11, ?a12⟩, ?mem0, rfl, GI.start G⟩
  case mem0 => rfl
  case a11 => rfl
  case a12 => rfl
 case round =>
  rintro nn g M ⟨d, rest, ⟨hg11, hg12⟩, rfl, hmeas, hG⟩
  subst nn
  simp only [setG, hg11, hg12]
  clear hg11 hg12
  refine Sq fun K6 J6 => Sq fun K7 J7 => dr (sk (s0)) [0,4,8,12,16,20,24,28,32,36,40,44,48,52,56,60,64,68,72,76,80,84,88,92,96,100,104,108] [] mix (by kernel_rfl) (fun K J => pE rfl (pE rfl (pE rfl ?_)))
  cases h2 : decide ((rest : Int) < 4294967296)
  ·skip
   refine PL_n rfl rfl (PL_n rfl rfl (PL_n rfl rfl (PL_n rfl rfl (PL_n rfl rfl (PL_n rfl rfl (PL_n rfl rfl (PL_n rfl rfl (PL_n rfl rfl (PL_n rfl rfl (PL_n rfl rfl (PL_n rfl rfl (PL_n rfl rfl (PL_n rfl rfl (PL_n rfl rfl (PL_n rfl rfl (PL_n rfl rfl (PL_n rfl rfl (PL_n rfl rfl (PL_n rfl rfl ?_)))))))))))))))))))
   refine PL_n rfl rfl (PL_n rfl rfl (PL_n rfl rfl (PL_n rfl rfl (pE rfl (fl J (J7 _ _ (by_ rfl (bB_ (ax_ (ax_ (aF_ (J5 _ _ (Sq fun K8 J8 => Rk fun K J => sE rfl (sE rfl (nl J (J8 _ _ (W_ret (ret1 rfl (.inr rfl) rfl ?_))))))))))))))))))
   exact ⟨d, rfl, jK_ H hG (.inl (by have := of_decide_eq_false h2; omega))⟩
  ·skip
   refine pE rfl (pE rfl (pE rfl ?_))
   cases h5 : decide ((4294967296 : Int) ≤ (d : Int))
   ·skip
    refine pE rfl (pE rfl (pQ rfl (q_as (q_sub rfl rfl) (congrArg (Value.int .i64) (eV_ (b := 2) rfl (by omega) (by omega)))) (pQ rfl (bM_ ar_35 rfl rfl (by omega) (by omega)) (pQ rfl (bf_ ty_34 rfl (by repeat (first | exact .head _ | apply List.mem_append_right | apply List.Mem.tail)) (uwAt (by omega))) ?_))))
    refine pQ rfl (q_as (bt_ in_34 bT_ rfl) (f6_ (bj_ H.vlim _))) (pQ rfl (q_as (q_mul rfl rfl) (congrArg (Value.int .u64) (no_ (nq_ (by have := of_decide_eq_false h5; omega) (bj_ H.vlim _))))) (pE rfl (pQ rfl (q_as (q_shl rfl rfl (by decide)) (congrArg (Value.int .u64) (gi_ (by have := of_decide_eq_true h2; omega)))) (pE rfl (pE rfl (pE rfl (pQ rfl (q_as (q_add rfl rfl) (congrArg (Value.int .i64) (d2_ (by omega)))) (pQ rfl (q_as (q_sub rfl rfl) (congrArg (Value.int .i64) (eV_ (b := 2) rfl (by omega) (by omega)))) (pE rfl (pQ rfl (bM_ fj_ rfl rfl (by omega) (by omega)) (pQ rfl (j8_ ty_34 rfl hbu (by simp) (uwAt (by omega))) ?_)))))))))))
    refine pQ rfl (q_as (bt_ in_34 bT_ rfl) (f6_ (bj_ H.ulim _))) (pQ rfl (q_as (q_or rfl rfl) (congrArg (Value.int .u64) (or_hi (by have := of_decide_eq_true h2; omega) (bj_ H.ulim _)))) (pE rfl (pE rfl (pE rfl (fl J (J7 _ _ ?_))))))
    refine a6_ _ rfl (fun h68 => ?_) (fun h68 => ?_)
    ·(try simp only [decide_eq_true_eq, decide_eq_false_iff_not, beq_iff_eq, bne_iff_ne, beq_eq_false_iff_ne, bne_eq_false_iff_eq, Bool.not_eq_true', Bool.not_eq_false'] at h68)
     refine ak_ (J6 _ _ (ar_ (Sq fun K9 J9 => ?_)))
     have hmore := GI.more G hG (by have := of_decide_eq_true h2; omega) (by first | exact .inl (by have := of_decide_eq_true h5; omega) | exact .inr (by exact_mod_cast h68))
     refine Rk fun K J => sE rfl (sQ (q_as (q_sub rfl rfl) (congrArg (Value.int .u64) (jc_ rfl hmore.1 (by have := GI.dlt G hG; omega)))) rfl (sE rfl (nl J (J9 _ _ (Rk fun K J => sE rfl (sE rfl (sQ (q_as (q_add rfl rfl) (congrArg (Value.int .u64) (ke_ (by have := hG.rlt; have := G.f1; omega)))) rfl (sE rfl (nl J ?_)))))))))
     refine ⟨(by repeat first | exact .refl | refine .cons rfl ?_), _, _, (List.Sublist.refl _), (by have := hmore.1; omega), d - 1, rest + vs.getD (n - 1) 0, ⟨?s11, ?s12⟩, ?mem, rfl, hmore.2⟩
     case mem => rfl
     case s11 => rfl
     case s12 => rfl
    ·(try simp only [decide_eq_true_eq, decide_eq_false_iff_not, beq_iff_eq, bne_iff_ne, beq_eq_false_iff_ne, bne_eq_false_iff_eq, Bool.not_eq_true', Bool.not_eq_false'] at h68)
     refine bB_ (ax_ (ax_ (aF_ (J5 _ _ (Sq fun K10 J10 => Rk fun K J => sE rfl (sE rfl (nl J (J10 _ _ (W_ret (ret1 rfl (.inr rfl) rfl ?_))))))))))
     exact ⟨d, rfl, jK_ H hG (.inr ⟨by have := of_decide_eq_false h5; omega, by have h69 := Int.not_lt.1 h68; exact_mod_cast h69⟩)⟩
   ·skip
    refine PL_n rfl rfl (PL_n rfl rfl (PL_n rfl rfl (PL_n rfl rfl (PL_n rfl rfl (PL_n rfl rfl (PL_n rfl rfl (PL_n rfl rfl (PL_n rfl rfl (PL_n rfl rfl (PL_n rfl rfl (PL_n rfl rfl (PL_n rfl rfl (PL_n rfl rfl (PL_n rfl rfl (PL_n rfl rfl (PL_n rfl rfl (PL_n rfl rfl (PL_n rfl rfl (PL_n rfl rfl ?_)))))))))))))))))))
    refine pE rfl (pE rfl (fl J (J7 _ _ (bF_ rfl (ak_ (J6 _ _ (ar_ (Sq fun K11 J11 => ?_))))))))
    have hmore := GI.more G hG (by have := of_decide_eq_true h2; omega) (by first | exact .inl (by have := of_decide_eq_true h5; omega) | exact .inr (by exact_mod_cast h68))
    refine Rk fun K J => sE rfl (sQ (q_as (q_sub rfl rfl) (congrArg (Value.int .u64) (jc_ rfl hmore.1 (by have := GI.dlt G hG; omega)))) rfl (sE rfl (nl J (J11 _ _ (Rk fun K J => sE rfl (sE rfl (sQ (q_as (q_add rfl rfl) (congrArg (Value.int .u64) (ke_ (by have := hG.rlt; have := G.f1; omega)))) rfl (sE rfl (nl J ?_)))))))))
    refine ⟨(by repeat first | exact .refl | refine .cons rfl ?_), _, _, (List.Sublist.refl _), (by have := hmore.1; omega), d - 1, rest + vs.getD (n - 1) 0, ⟨?s11, ?s12⟩, ?mem, rfl, hmore.2⟩
    case mem => rfl
    case s11 => rfl
    case s12 => rfl

theorem ix_ (us vs : List Nat) (n j d : Nat) (hu : us.length = 17) (lu : Lim us) (hv : vs.length = 16) (lv : Lim vs) (hV : val vs < 4294967296 ^ n) (hjn : j + n ≤ 16) (hsm : val us < 4294967296 ^ (j + n + 1)) (hd : d < 4294967296) (bu T : Nat) (w : World) (hbu : w.heap[bu]? = some (.cells (uw us).toArray T (0, 0))) :
    Calls Tryz.prog 159 [.pointer (some ⟨bu, 0, none⟩), UV vs, .int .i64 (n : Int), .int .i64 (j : Int), .int .u64 (d : Int)].toArray w (fun e w' => ∃ x : List Nat × Nat, e = .returned (.bool (((x.2 : Nat) : Int) == 1)) ∧ ExtX [bu] w w' ∧ w'.heap[bu]? = some (.cells (uw x.1).toArray T (0, 0)) ∧ Took us (val vs) d j n x) := by
 refine lz_ (N := 78) (g := fun x : List Nat × Nat => .bool (((x.2 : Nat) : Int) == 1)) (cs' := fun x : List Nat × Nat => uw x.1) (Q := fun x : List Nat × Nat => Took us (val vs) d j n x) Tryz.func159 rfl rfl (by simp) hbu ?_
 obtain ⟨w0, rfl⟩ : ∃ w0, w0 = w := ⟨_, rfl⟩
 simp only [initF, Nat.reduceAdd]
 refine Sq fun K1 J1 => Rk fun K J => WL_r rfl (r_box rfl rfl (fun b6 hb6 => sE rfl (nl J (J1 _ _ (Sq fun K2 J2 => Rk fun K J => sE rfl (sE rfl (nl J (J2 _ _ (Sq fun K3 J3 => Sq fun K4 J4 => Rk fun K J => sE rfl (sE rfl (nl J (J4 _ _ (ar_ ?_)))))))))))))
 refine bN_ [11, 12, 13, 14, 17, 18, 19, 20, 21, 22, 23, 24, 25, 26, 27, 28, 29, 30, 31, 32, 33, 34, 35, 36, 37, 38, 39, 40, 41, 42, 43, 44, 45, 46, 47, 48, 49, 50, 51, 52, 53, 54] (fun g nn M => ∃ (i : Nat) (l : List Nat) (c bo : Nat), (g 11 = .int .u64 (c : Int) ∧ g 12 = .int .u64 (bo : Int) ∧ g 17 = .int .i64 (i : Int)) ∧ M = [⟨b6, 35, uw vs⟩, ⟨bu, T, uw l⟩] ∧ nn = n - i ∧ (i ≤ n ∧ TakeIn us (val vs) d j i l c bo)) (n - 0) ?start ?round
 case start =>
  refine ⟨_, (List.Sublist.refl _), 0, us, 0, 0, ⟨?a11, ?a12, ?a17⟩, ?mem0, rfl, ⟨Nat.zero_le _, TakeIn.start hu lu _ _ _⟩⟩
  case mem0 => rfl
  case a11 => rfl
  case a12 => rfl
  case a17 => rfl
 case round =>
  rintro nn g M ⟨i, l, c, bo, ⟨hg11, hg12, hg17⟩, rfl, hmeas, ⟨hi, hT⟩⟩
  subst nn
  simp only [setG, hg11, hg12, hg17]
  clear hg11 hg12 hg17
  refine Sq fun K5 J5 => Rk fun K J => sE rfl (nl J (J5 _ _ (Sq fun K6 J6 => ?_)))
  refine a6_ _ rfl (fun hc => ?_) (fun hc => ?_)
  ·(try simp only [decide_eq_true_eq, decide_eq_false_iff_not, beq_iff_eq, bne_iff_ne, beq_eq_false_iff_ne, bne_eq_false_iff_eq, Bool.not_eq_true', Bool.not_eq_false'] at hc)
   have hc : i < n := by omega
   refine ak_ (J6 _ _ (Sq fun K7 J7 => ar_ (Sq fun K8 J8 => Rk fun K J => sE rfl (sE rfl (nl J (J8 _ _ (Sq fun K9 J9 => Rk fun K J => sE rfl (sE rfl (sE rfl (sQ (bM_ ar_35 rfl rfl (by omega) (by omega)) rfl (sQ (bf_ ty_34 rfl (by repeat (first | exact .head _ | apply List.mem_append_right | apply List.Mem.tail)) (uwAt (by omega))) rfl ?_)))))))))))
   refine sQ (bt_ in_34 bT_ rfl) rfl (sE rfl (sQ (q_as (q_add rfl rfl) (congrArg (Value.int .u64) (rm_ hT.clt hd (bj_ lv i)))) rfl (sE rfl (nl J (J9 _ _ (Sq fun K10 J10 => Rk fun K J => sE rfl (sE rfl (sE rfl (sQ (q_as (q_add rfl rfl) (congrArg (Value.int .i64) (d2_ (by omega)))) rfl (sE rfl (sQ (bM_ fj_ rfl rfl (by omega) (by omega)) rfl (sQ (bf_ ty_34 rfl (by repeat (first | exact .head _ | apply List.mem_append_right | apply List.Mem.tail)) (uwAt (by rw [hT.len]; omega))) rfl ?_))))))))))))
   refine sQ (bt_ in_34 bT_ rfl) rfl (sE rfl (sQ (q_as (bt_ bT_ in_34 rfl) (eb_ _)) rfl (sQ (bt_ in_34 bT_ rfl) rfl (sE rfl (sE rfl (sQ (q_as (q_sub rfl rfl) (congrArg (Value.int .u64) (sub_s hT.ble (bj_ hT.lim _) (Nat.mod_lt _ (by decide))))) rfl (sE rfl (nl J (J10 _ _ (Sq fun K11 J11 => Rk fun K J => sE rfl (sE rfl (sE rfl (sQ (q_as (q_add rfl rfl) (congrArg (Value.int .i64) (d2_ (by omega)))) rfl (sE rfl (sQ (q_as (bt_ bT_ in_34 rfl) (eb_ _)) rfl (sE rfl (sQ (bM_ fj_ rfl rfl (by omega) (by omega)) rfl ?_)))))))))))))))))
   refine WL_r rfl (dI_ ty_34 rfl rfl (by repeat (first | exact .head _ | apply Upd.left | apply Upd.tail)) (by rw [hT.len]; omega) (by first | exact .inl (by assumption) | exact .inr (List.mem_singleton.2 rfl)) ?_)
   refine nl J (J11 _ _ (Sq fun K12 J12 => Rk fun K J => sE rfl (sQ (q_as (q_shr rfl rfl (by decide)) (congrArg (Value.int .u64) (ex_ _ 63))) rfl (sE rfl (nl J (J12 _ _ (Rk fun K J => sE rfl (sQ (q_as (q_shr rfl rfl (by decide)) (congrArg (Value.int .u64) (ex_ _ 32))) rfl (sE rfl (nl J (J7 _ _ (Rk fun K J => sQ (q_as (q_add rfl rfl) (congrArg (Value.int .i64) (cV_ (by omega)))) rfl (sE rfl (nl J ?_))))))))))))))
   refine ⟨(by repeat first | exact .refl | refine .cons rfl ?_), _, _, (List.Sublist.refl _), (by omega), i + 1, _, _, _, ⟨?s11, ?s12, ?s17⟩, ?mem, rfl, ⟨by omega, l3_ hT lv (by omega) hd⟩⟩
   case mem => rfl
   case s11 => rfl
   case s12 => rfl
   case s17 => rfl
  ·(try simp only [decide_eq_true_eq, decide_eq_false_iff_not, beq_iff_eq, bne_iff_ne, beq_eq_false_iff_ne, bne_eq_false_iff_eq, Bool.not_eq_true', Bool.not_eq_false'] at hc)
   obtain rfl : n = i := by omega
   refine bB_ (ax_ (ax_ (aF_ (J3 _ _ (Sq fun K13 J13 => Rk fun K J => sE rfl (sE rfl (sE rfl (sQ (q_as (q_add rfl rfl) (congrArg (Value.int .i64) (d2_ (by omega)))) rfl (sE rfl (sQ (bM_ fj_ rfl rfl (by omega) (by omega)) rfl (sQ (bf_ ty_34 rfl (by repeat (first | exact .head _ | apply List.mem_append_right | apply List.Mem.tail)) (uwAt (by rw [hT.len]; omega))) rfl ?_)))))))))))
   refine sQ (bt_ in_34 bT_ rfl) rfl (sE rfl (sE rfl (sE rfl (sQ (q_as (q_sub rfl rfl) (congrArg (Value.int .u64) (rv_ hT.ble (bj_ hT.lim _) hT.clt))) rfl (sE rfl (nl J (J13 _ _ (Sq fun K14 J14 => Rk fun K J => sE rfl (sE rfl (sE rfl (sQ (q_as (q_add rfl rfl) (congrArg (Value.int .i64) (d2_ (by omega)))) rfl (sE rfl (sQ (q_as (bt_ bT_ in_34 rfl) (eb_ _)) rfl (sE rfl (sQ (bM_ fj_ rfl rfl (by omega) (by omega)) rfl (WL_r rfl (dI_ ty_34 rfl rfl (by repeat (first | exact .head _ | apply Upd.left | apply Upd.tail)) (by rw [hT.len]; omega) (by first | exact .inl (by assumption) | exact .inr (List.mem_singleton.2 rfl)) ?_)))))))))))))))))
   refine nl J (J14 _ _ (Sq fun K15 J15 => Rk fun K J => sE rfl (sQ (q_as (q_shr rfl rfl (by decide)) (congrArg (Value.int .u64) (ex_ _ 63))) rfl (sE rfl (sE rfl (nl J (J15 _ _ (W_ret (ret1 rfl (.inr rfl) rfl ?_)))))))))
   exact ⟨(_, _), rfl, by first | exact .tail _ (.head _) | exact .head _, TakeIn.took hT (by omega) hV lu hsm⟩

theorem iv_ (us vs : List Nat) (n j : Nat) (hu : us.length = 17) (lu : Lim us) (hv : vs.length = 16) (lv : Lim vs) (hV : val vs < 4294967296 ^ n) (hjn : j + n ≤ 16) (hsm : val us < 4294967296 ^ (j + n + 1)) (bu T : Nat) (w : World) (hbu : w.heap[bu]? = some (.cells (uw us).toArray T (0, 0))) :
    Calls Tryz.prog 160 [.pointer (some ⟨bu, 0, none⟩), UV vs, .int .i64 (n : Int), .int .i64 (j : Int)].toArray w (fun e w' => ∃ x : List Nat, e = .returned (.tuple #[]) ∧ ExtX [bu] w w' ∧ w'.heap[bu]? = some (.cells (uw x).toArray T (0, 0)) ∧ Gave us (val vs) j n x) := by
 refine lz_ (N := 52) (g := fun x : List Nat => .tuple #[]) (cs' := fun x : List Nat => uw x) (Q := fun x : List Nat => Gave us (val vs) j n x) Tryz.func160 rfl rfl (by simp) hbu ?_
 obtain ⟨w0, rfl⟩ : ∃ w0, w0 = w := ⟨_, rfl⟩
 simp only [initF, Nat.reduceAdd]
 refine Sq fun K1 J1 => Rk fun K J => WL_r rfl (r_box rfl rfl (fun b5 hb5 => nl J (J1 _ _ (Sq fun K2 J2 => Rk fun K J => sE rfl (nl J (J2 _ _ (Sq fun K3 J3 => Sq fun K4 J4 => Rk fun K J => sE rfl (sE rfl (nl J (J4 _ _ (ar_ ?_)))))))))))
 refine bN_ [8, 9, 11, 12, 13, 14, 15, 16, 17, 18, 19, 20, 21, 22, 23, 24, 25, 26, 27, 28, 29, 30, 31, 32, 33, 34, 35, 36, 37, 38, 39] (fun g nn M => ∃ (i : Nat) (l : List Nat) (c : Nat), (g 8 = .int .u64 (c : Int) ∧ g 11 = .int .i64 (i : Int)) ∧ M = [⟨b5, 35, uw vs⟩, ⟨bu, T, uw l⟩] ∧ nn = n - i ∧ (i ≤ n ∧ GiveIn us (val vs) j i l c)) (n - 0) ?start ?round
 case start =>
  refine ⟨_, (List.Sublist.refl _), 0, us, 0, ⟨?a8, ?a11⟩, ?mem0, rfl, ⟨Nat.zero_le _, GiveIn.start hu lu _ _⟩⟩
  case mem0 => rfl
  case a8 => rfl
  case a11 => rfl
 case round =>
  rintro nn g M ⟨i, l, c, ⟨hg8, hg11⟩, rfl, hmeas, ⟨hi, hT⟩⟩
  subst nn
  simp only [setG, hg8, hg11]
  clear hg8 hg11
  refine Sq fun K5 J5 => Rk fun K J => sE rfl (nl J (J5 _ _ (Sq fun K6 J6 => ?_)))
  refine a6_ _ rfl (fun hc => ?_) (fun hc => ?_)
  ·(try simp only [decide_eq_true_eq, decide_eq_false_iff_not, beq_iff_eq, bne_iff_ne, beq_eq_false_iff_ne, bne_eq_false_iff_eq, Bool.not_eq_true', Bool.not_eq_false'] at hc)
   have hc : i < n := by omega
   refine ak_ (J6 _ _ (Sq fun K7 J7 => ar_ (Sq fun K8 J8 => Rk fun K J => sE rfl (sE rfl (nl J (J8 _ _ (Sq fun K9 J9 => dr (sk (sk (s0))) [0,4,8,12,16,20,24,28,32,36,40,44,48,52,56,60] [] mix (by kernel_rfl) (fun K J => pE rfl (pE rfl (pE rfl (pE rfl (pQ rfl (q_as (q_add rfl rfl) (congrArg (Value.int .i64) (d2_ (by omega)))) (pE rfl (pQ rfl (bM_ fj_ rfl rfl (by omega) (by omega)) (pQ rfl (bf_ ty_34 rfl (by repeat (first | exact .head _ | apply List.mem_append_right | apply List.Mem.tail)) (uwAt (by rw [hT.len]; omega))) ?_)))))))))))))))
   refine pQ rfl (bt_ in_34 bT_ rfl) (pE rfl (pQ rfl (bM_ ar_35 rfl rfl (by omega) (by omega)) (pQ rfl (bf_ ty_34 rfl (by repeat (first | exact .head _ | apply List.mem_append_right | apply List.Mem.tail)) (uwAt (by omega))) ?_)))
   refine pQ rfl (bt_ in_34 bT_ rfl) (pE rfl (pQ rfl (q_as (q_add rfl rfl) (congrArg (Value.int .u64) (sa_ hT.cle (bj_ hT.lim _) (bj_ lv i)))) (pE rfl (fl J (J9 _ _ (Sq fun K10 J10 => Rk fun K J => sE rfl (sE rfl (sE rfl (sQ (q_as (q_add rfl rfl) (congrArg (Value.int .i64) (d2_ (by omega)))) rfl (sE rfl (sQ (q_as (bt_ bT_ in_34 rfl) (eb_ _)) rfl (sE rfl (sQ (bM_ fj_ rfl rfl (by omega) (by omega)) rfl (WL_r rfl (dI_ ty_34 rfl rfl (by repeat (first | exact .head _ | apply Upd.left | apply Upd.tail)) (by rw [hT.len]; omega) (by first | exact .inl (by assumption) | exact .inr (List.mem_singleton.2 rfl)) ?_)))))))))))))))
   refine nl J (J10 _ _ (Rk fun K J => sE rfl (sQ (q_as (q_shr rfl rfl (by decide)) (congrArg (Value.int .u64) (ex_ _ 32))) rfl (sE rfl (nl J (J7 _ _ (Rk fun K J => sQ (q_as (q_add rfl rfl) (congrArg (Value.int .i64) (cV_ (by omega)))) rfl (sE rfl (nl J ?_)))))))))
   refine ⟨(by repeat first | exact .refl | refine .cons rfl ?_), _, _, (List.Sublist.refl _), (by omega), i + 1, _, _, ⟨?s8, ?s11⟩, ?mem, rfl, ⟨by omega, l7_ hT lv (by omega)⟩⟩
   case mem => rfl
   case s8 => rfl
   case s11 => rfl
  ·(try simp only [decide_eq_true_eq, decide_eq_false_iff_not, beq_iff_eq, bne_iff_ne, beq_eq_false_iff_ne, bne_eq_false_iff_eq, Bool.not_eq_true', Bool.not_eq_false'] at hc)
   obtain rfl : n = i := by omega
   refine bB_ (ax_ (ax_ (aF_ (J3 _ _ (dr (sk (sd (s0))) [0,4,8,12,16,20,24,28,32,36,40,44,49] [12] mix (by kernel_rfl) (fun K J => pE rfl (pE rfl (pE rfl (pQ rfl (q_as (q_add rfl rfl) (congrArg (Value.int .i64) (d2_ (by omega)))) (pE rfl (pQ rfl (bM_ fj_ rfl rfl (by omega) (by omega)) (pQ rfl (bf_ ty_34 rfl (by repeat (first | exact .head _ | apply List.mem_append_right | apply List.Mem.tail)) (uwAt (by rw [hT.len]; omega))) ?_))))))))))))
   refine pE rfl (pQ rfl (bt_ bT_ in_34 rfl) (pQ rfl (q_as (q_add rfl rfl) (rI_ (bj_ hT.lim _) hT.cle)) (pE rfl (pQ rfl (bM_ fj_ rfl rfl (by omega) (by omega)) ?_))))
   refine PL_o rfl rfl (dI_ ty_34 rfl rfl (by repeat (first | exact .head _ | apply Upd.left | apply Upd.tail)) (by rw [hT.len]; omega) (by first | exact .inl (by assumption) | exact .inr (List.mem_singleton.2 rfl)) ⟨nf, (by repeat (first | exact s0 | exact sn | refine sk ?_ | refine sd ?_ | refine sA ?_ | refine sR ?_)), ?_⟩)
   refine fl J (ret0 rfl (.inl rfl) ?_)
   exact ⟨_, rfl, by first | exact .tail _ (.head _) | exact .head _, GiveIn.gave hT (by omega) hV lu hsm⟩
end Go.Proofs.YtapbefpeopaecaaGreatDoor

