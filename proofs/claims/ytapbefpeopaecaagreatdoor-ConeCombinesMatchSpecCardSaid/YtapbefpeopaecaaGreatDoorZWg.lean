/- Walks: what these functions return. -/
import Derived.Test.YtapbefpeopaecaaGreatDoorZFa0
import Derived.Test.YtapbefpeopaecaaGreatDoorZWa
import Derived.Test.YtapbefpeopaecaaGreatDoorZWd
import Derived.Test.YtapbefpeopaecaaGreatDoorZWe
namespace Go.Proofs.YtapbefpeopaecaaGreatDoor
open Go.Kn Go.Num
set_option linter.unusedVariables false
set_option linter.unusedSimpArgs false
set_option maxRecDepth 20000
set_option maxHeartbeats 8000000
theorem eF_ (xs ys : List Nat) (hx : xs.length = 16) (hy : ys.length = 16) (lx : Lim xs) (ly : Lim ys) (h0 : 0 < val ys) :
    Ret Tryz.prog 146 [UV xs, UV ys] (.tuple #[UV (toL 16 (val xs / val ys)), UV (toL 16 (val xs % val ys))]) := by
 refine as_ (N := 94) Tryz.func146 rfl rfl (by simp) (fun w0 => ?_)
 simp only [initF, Nat.reduceAdd]
 refine Sq fun K1 J1 => Rk fun K J => WL_r rfl (r_box rfl rfl (fun b2 hb2 => WL_r rfl (r_box rfl rfl (fun b3 hb3 => WL_r rfl (br_ z_35 (fun b4 hb4 => WL_r rfl (br_ z_35 (fun b5 hb5 => nl J (J1 _ _ (Sq fun K2 J2 => dr (sk (sk (sk (sk (s0))))) [0,4,8,12,16,20] [] mix (by kernel_rfl) (fun K J => pQ rfl (aN_ ty_35 rfl (by repeat (first | exact .head _ | apply List.mem_append_right | apply List.Mem.tail)) (by simp [uw, hy])) ?_)))))))))))
 refine pQ rfl (q_ret iB_ (dO_ ys hy) rfl) (pQ rfl (aN_ ty_35 rfl (by repeat (first | exact .head _ | apply List.mem_append_right | apply List.Mem.tail)) (by simp [uw, hx])) ?_)
 refine pQ rfl (q_ret iB_ (dO_ xs hx) rfl) (pE rfl (pE rfl (fl J (J2 _ _ (Sq fun K3 J3 => Sq fun K4 J4 => Rk fun K J => sQ (aN_ ty_35 rfl (by repeat (first | exact .head _ | apply List.mem_append_right | apply List.Mem.tail)) (by simp [uw, hx])) rfl ?_)))))
 refine sQ (aN_ ty_35 rfl (by repeat (first | exact .head _ | apply List.mem_append_right | apply List.Mem.tail)) (by simp [uw, hy])) rfl ?_
 refine sQ (q_ret i2_ (dS_ xs ys hx hy lx ly) rfl) rfl (sE rfl (nl J (J4 _ _ ?_)))
 refine a4_ _ rfl (fun ho => ?_) (fun ho => ?_)
 ·(try simp only [decide_eq_true_eq, decide_eq_false_iff_not, beq_iff_eq, bne_iff_ne, beq_eq_false_iff_ne, bne_eq_false_iff_eq, Bool.not_eq_true', Bool.not_eq_false'] at ho)
  have hlt := oo_ ho
  refine Sq fun K5 J5 => dr (sd (sd (sk (sk (s0))))) [0,6,9,13] [2,3] mix (by kernel_rfl) (fun K J => pQ rfl (eo_ z_35 ar_35 rfl (.nil _)) (PL_s rfl rfl (aN_ ty_35 rfl (by repeat (first | exact .head _ | apply List.mem_append_right | apply List.Mem.tail)) (by simp [uw, hx])) ?_))
  refine PL_o rfl rfl (aF_ ty_35 rfl rfl (by repeat (first | exact .head _ | apply Upd.left | apply Upd.tail)) (by simp [uw, List.length_replicate]) (by simp [uw]) (cw_ _) (.inl (by assumption)) ⟨nf, (by repeat (first | exact s0 | exact sn | refine sk ?_ | refine sd ?_ | refine sA ?_ | refine sR ?_)), ?_⟩)
  refine PL_o rfl rfl (aF_ ty_35 rfl rfl (by repeat (first | exact .head _ | apply Upd.left | apply Upd.tail)) (by simp [uw, hx]) (by simp [uw]) (cw_ _) (.inl (by assumption)) ⟨nf, (by repeat (first | exact s0 | exact sn | refine sk ?_ | refine sd ?_ | refine sA ?_ | refine sR ?_)), ?_⟩)
  refine fl J (J5 _ _ (W_ret (af_ (ret2 rfl (.inr rfl) ⟨_, _, _, _, _, _, rfl, (by repeat (first | exact .head _ | apply List.mem_append_right | apply List.Mem.tail)), ty_35, _, (be_ (by simp [uw])), (by simp [uw]), rfl⟩ ⟨_, _, _, _, _, _, rfl, (by repeat (first | exact .head _ | apply List.mem_append_right | apply List.Mem.tail)), ty_35, _, (be_ (by simp [uw, hx])), (by simp [uw, hx]), rfl⟩ ?_))))
  exact oq_ hx lx hlt
 ·(try simp only [decide_eq_true_eq, decide_eq_false_iff_not, beq_iff_eq, bne_iff_ne, beq_eq_false_iff_ne, bne_eq_false_iff_eq, Bool.not_eq_true', Bool.not_eq_false'] at ho)
  have hle := mE_ (Int.not_lt.1 ho)
  have hsp := rO_ h0
  have hsz := gi_ ys
  rw [hy] at hsz
  refine aj_ (J3 _ _ (Sq fun K6 J6 => Sq fun K7 J7 => Rk fun K J => sE rfl (sE rfl (nl J (J7 _ _ ?_)))))
  refine a4_ _ rfl (fun h29 => ?_) (fun h29 => ?_)
  ·(try simp only [decide_eq_true_eq, decide_eq_false_iff_not, beq_iff_eq, bne_iff_ne, beq_eq_false_iff_ne, bne_eq_false_iff_eq, Bool.not_eq_true', Bool.not_eq_false'] at h29)
   have hsz1 : szL ys = 1 := by omega
   refine Sq fun K8 J8 => Rk fun K J => sQ (aN_ ty_35 rfl (by repeat (first | exact .head _ | apply List.mem_append_right | apply List.Mem.tail)) (by simp [uw, hx])) rfl ?_
   refine sQ (b3_ ar_35 rfl rfl (by decide) (by decide)) rfl (sQ (bn_ ty_34 rfl (by repeat (first | exact .head _ | apply List.mem_append_right | apply List.Mem.tail)) (uwAt (k := 0) (by omega))) rfl ?_)
   refine sQ (q_ret sh_ (iH_ xs hx lx _ (bq_ ly 0) (m9_ hsz1)) rfl) rfl (sE rfl (sE rfl (sE rfl (WL_r rfl (br_ z_35 (fun b8 hb8 => WL_r rfl (aF_ ty_35 rfl rfl (by repeat (first | exact .head _ | apply Upd.left | apply Upd.tail)) (by simp [uw, a2_]) (by simp [uw]) (cw_ _) (.inl (by assumption)) ?_)))))))
   refine sE rfl (nl J (J8 _ _ (Sq fun K9 J9 => Rk fun K J => sQ (aN_ ty_35 rfl (by repeat (first | exact .head _ | apply List.mem_append_right | apply List.Mem.tail)) (by simp [uw, a2_])) rfl ?_)))
   refine sE rfl (sQ (eo_ z_35 ar_35 rfl (fill1 _)) rfl (WL_r rfl (aF_ ty_35 rfl rfl (by repeat (first | exact .head _ | apply Upd.left | apply Upd.tail)) (by simp [uw, a2_]) (by simp [uw]) (cw_ _) (.inl (by assumption)) ?_)))
   refine WL_r rfl (aF_ ty_35 rfl rfl (by repeat (first | exact .head _ | apply Upd.left | apply Upd.tail)) (by simp [uw, List.length_replicate]) (by simp [uw]) (cw_ _) (.inl (by assumption)) ?_)
   refine nl J (J9 _ _ (W_ret (af_ (ret2 rfl (.inr rfl) ⟨_, _, _, _, _, _, rfl, (by repeat (first | exact .head _ | apply List.mem_append_right | apply List.Mem.tail)), ty_35, _, (be_ (by simp [uw, a2_])), (by simp [uw, a2_]), rfl⟩ ⟨_, _, _, _, _, _, rfl, (by repeat (first | exact .head _ | apply List.mem_append_right | apply List.Mem.tail)), ty_35, _, (be_ (by simp [uw])), (by simp [uw]), rfl⟩ ?_))))
   exact qw_ ly hsz1
  ·(try simp only [decide_eq_true_eq, decide_eq_false_iff_not, beq_iff_eq, bne_iff_ne, beq_eq_false_iff_ne, bne_eq_false_iff_eq, Bool.not_eq_true', Bool.not_eq_false'] at h29)
   have h2 : 2 ≤ szL ys := by omega
   have D : DV xs ys (szL ys) (32 - bl (ys.getD (szL ys - 1) 0)) := ⟨hx, hy, lx, ly, rfl, h2, rfl, hle⟩
   refine aj_ (J6 _ _ (Sq fun K10 J10 => Rk fun K J => sE rfl (sQ (q_as (q_sub rfl rfl) (congrArg (Value.int .i64) (fl_ (b := 1) rfl (by omega) (by omega)))) rfl (sQ (b3_ ar_35 rfl rfl (by omega) (by omega)) rfl (sQ (bn_ ty_34 rfl (by repeat (first | exact .head _ | apply List.mem_append_right | apply List.Mem.tail)) (uwAt (by omega))) rfl ?_)))))
   refine sQ (q_ret rE_ (oO_ _ (bq_ ly _)) rfl) rfl (sE rfl (nl J (J10 _ _ (Sq fun K11 J11 => Rk fun K J => sQ (aN_ ty_35 rfl (by repeat (first | exact .head _ | apply List.mem_append_right | apply List.Mem.tail)) (by simp [uw, hy])) rfl ?_))))
   refine sE rfl (sQ (q_ret k0_ (fF_ ys hy ly _ D.s32) rfl) rfl (sE rfl (sE rfl (sE rfl (WL_r rfl (br_ z_35 (fun b11 hb11 => WL_r rfl (aF_ ty_35 rfl rfl (by repeat (first | exact .head _ | apply Upd.left | apply Upd.tail)) (by simp [uw, a2_]) (by simp [uw]) (cw_ _) (.inl (by assumption)) ?_))))))))
   refine sE rfl (nl J (J11 _ _ (Sq fun K12 J12 => Rk fun K J => sQ (aN_ ty_35 rfl (by repeat (first | exact .head _ | apply List.mem_append_right | apply List.Mem.tail)) (by simp [uw, hx])) rfl ?_)))
   refine sE rfl (sQ (q_ret k0_ (fF_ xs hx lx _ D.s32) rfl) rfl (sE rfl (sE rfl (sE rfl (WL_r rfl (br_ z_35 (fun b13 hb13 => WL_r rfl (aF_ ty_35 rfl rfl (by repeat (first | exact .head _ | apply Upd.left | apply Upd.tail)) (by simp [uw, a2_]) (by simp [uw]) (cw_ _) (.inl (by assumption)) ?_))))))))
   refine sE rfl (nl J (J12 _ _ (Sq fun K13 J13 => Rk fun K J => WL_r rfl (br_ z_146 (fun b15 hb15 => nl J (J13 _ _ (Sq fun K14 J14 => dr (sd (sk (sk (sk (sk (sk (sk (s0)))))))) [0,4,9] [2] mix (by kernel_rfl) (fun K J => pQ rfl (gB_ fD_ rfl rfl rfl (by decide) (by decide) (by decide) (by decide)) (pQ rfl (gB_ ar_35 rfl rfl rfl (by decide) (by decide) (by decide) (by decide)) ?_)))))))))
   refine PL_o rfl rfl (l6_ lN_ rfl rfl (by repeat (first | exact .head _ | apply List.mem_append_right | apply List.Mem.tail)) (by repeat (first | exact .head _ | apply Upd.left | apply Upd.tail)) (fun v hv => cw_ _ v (List.mem_of_mem_drop (List.mem_of_mem_take hv))) (by simp [uw, a2_]) (by simp [uw]) (qr_ (a2_ _ _)) (.inl (by assumption)) ⟨nf, (by repeat (first | exact s0 | exact sn | refine sk ?_ | refine sd ?_ | refine sA ?_ | refine sR ?_)), ?_⟩)
   refine fl J (J14 _ _ (Sq fun K15 J15 => Rk fun K J => sE rfl (sQ (b3_ fD_ rfl rfl (by decide) (by decide)) rfl (WL_r rfl (dY_ (k := 16) ty_34 rfl rfl (by repeat (first | exact .head _ | apply Upd.left | apply Upd.tail)) (by simp [a2_]) (.inl (by assumption)) ?_)))))
   refine nl J (J15 _ _ (Sq fun K16 J16 => Sq fun K17 J17 => Rk fun K J => sE rfl (sE rfl (sQ (q_as (q_sub rfl rfl) (congrArg (Value.int .i64) (nL_ D.nm (by have := D.m16; omega)))) rfl (sE rfl (nl J (J17 _ _ (ao_ ?_))))))))
   refine bI_ [16, 17, 65, 66, 67, 68, 69, 70, 71, 72, 73, 74, 75, 76, 77, 78, 79, 80, 81, 82, 83, 84, 85, 86, 87] (fun g nn M => ∃ (k : Nat) (l : List Nat), (g 16 = .int .i64 ((k : Int) - 1)) ∧ M = [⟨b15, 146, uw l⟩, ⟨b13, 35, uw (toL 16 (val xs * 2 ^ (32 - bl (ys.getD (szL ys - 1) 0))))⟩, ⟨b11, 35, uw (toL 16 (val ys * 2 ^ (32 - bl (ys.getD (szL ys - 1) 0))))⟩, ⟨b5, 35, uw (List.replicate 16 0)⟩, ⟨b4, 35, uw (hpart k (val xs / val ys))⟩, ⟨b3, 35, uw ys⟩, ⟨b2, 35, uw xs⟩] ∧ nn = k + 0 ∧ (k + szL ys ≤ 17 ∧ QI xs ys (32 - bl (ys.getD (szL ys - 1) 0)) k l)) (szL xs - szL ys + 1) ?start ?round
   case start =>
    refine ⟨_, (List.Sublist.refl _), szL xs - szL ys + 1, ((toL 16 (val xs * 2 ^ (32 - bl (ys.getD (szL ys - 1) 0))) ++ [0]).set 16 (val xs * 2 ^ (32 - bl (ys.getD (szL ys - 1) 0)) / 4294967296 ^ 16)), ?a16, ?mem0, rfl, ⟨by have := D.nm; have := D.m16; omega, QI.start D⟩⟩
    case mem0 => rw [← DV.qstart D]
    case a16 => exact congrArg (Value.int .i64) (by omega)
   case round =>
    rintro nn g M ⟨k, l, hg16, rfl, hmeas, ⟨hkn, hq⟩⟩
    subst nn
    simp only [setG, hg16]
    clear hg16
    refine Sq fun K18 J18 => Sq fun K19 J19 => Rk fun K J => sE rfl (sE rfl (nl J (J19 _ _ ?_)))
    refine a4_ _ rfl (fun hc => ?_) (fun hc => ?_)
    ·(try simp only [decide_eq_true_eq, decide_eq_false_iff_not, beq_iff_eq, bne_iff_ne, beq_eq_false_iff_ne, bne_eq_false_iff_eq, Bool.not_eq_true', Bool.not_eq_false'] at hc)
     obtain ⟨m, rfl⟩ : ∃ m, k = m + 1 := ⟨k - 1, by omega⟩
     refine aj_ (J18 _ _ (Sq fun K20 J20 => ao_ (Sq fun K21 J21 => Rk fun K J => sQ (aN_ ty_35 rfl (by repeat (first | exact .head _ | apply List.mem_append_right | apply List.Mem.tail)) (by simp [uw, a2_])) rfl ?_)))
     refine sE rfl (sQ (q_as (dj_ rfl) (congrArg (Value.int .i64) (show (((m + 1 : Nat) : Int) - 1) = (m : Int) by omega))) rfl (WL_r rfl (rd_ rZ_ rfl (fun w hw => iK_ l _ (szL ys) m (hq.qh D (by omega)) b15 146 w (hw.mem _ m0)) (fun d hd => sE rfl (nl J (J21 _ _ (Sq fun K22 J22 => Sq fun K23 J23 => Rk fun K J => sQ (aN_ ty_35 rfl (by repeat (first | exact .head _ | apply List.mem_append_right | apply List.Mem.tail)) (by simp [uw, a2_])) rfl ?_)))))))
     refine sE rfl (sQ (q_as (dj_ rfl) (congrArg (Value.int .i64) (show (((m + 1 : Nat) : Int) - 1) = (m : Int) by omega))) rfl (sE rfl (WL_r rfl (nW_ rG_ rfl (fun w hw => iW_ l _ (szL ys) m d hq.len hq.lim (a2_ _ _) (dv_ _ _) (by rw [D.v16]; exact D.vlt) (by omega) (hq.small D) hd.1 b15 146 w (hw.mem _ m0)) (fun x => (by repeat (first | exact .head _ | apply Upd.left | apply Upd.tail))) (.inl (by assumption)) (fun x ht => ?_)))))
     refine nl J (J23 _ _ ?_)
     refine a4_ _ rfl (fun h77 => ?_) (fun h77 => ?_)
     ·(try simp only [decide_eq_true_eq, decide_eq_false_iff_not, beq_iff_eq, bne_iff_ne, beq_eq_false_iff_ne, bne_eq_false_iff_eq, Bool.not_eq_true', Bool.not_eq_false'] at h77)
      refine Sq fun K24 J24 => Rk fun K J => sE rfl (sQ (q_as (q_sub rfl rfl) (congrArg (Value.int .u64) (jO_ rfl (ht.pos (by omega)) (by have := hd.1; omega)))) rfl (sE rfl (nl J (J24 _ _ (Rk fun K J => sQ (aN_ ty_35 rfl (by repeat (first | exact .head _ | apply List.mem_append_right | apply List.Mem.tail)) (by simp [uw, a2_])) rfl ?_)))))
      refine sE rfl (sQ (q_as (dj_ rfl) (congrArg (Value.int .i64) (show (((m + 1 : Nat) : Int) - 1) = (m : Int) by omega))) rfl (WL_r rfl (nW_ rj_ rfl (fun w hw => iS_ x.1 _ (szL ys) m ht.len ht.lim (a2_ _ _) (dv_ _ _) (by rw [D.v16]; exact D.vlt) (by omega) ht.small b15 146 w (hw.mem _ m0)) (fun y => (by repeat (first | exact .head _ | apply Upd.left | apply Upd.tail))) (.inl (by assumption)) (fun y hgv => ?_))))
      refine nl J ?_
      obtain ⟨hz, hdz, _⟩ := hq.took1 D hd ht (by omega) hgv
      refine J22 _ _ (Rk fun K J => sQ (q_as (dj_ rfl) (congrArg (Value.int .i64) (show (((m + 1 : Nat) : Int) - 1) = (m : Int) by omega))) rfl (sE rfl (sQ (q_as (bH_ cc_ in_34 rfl) (eu_ _)) rfl (sQ (b3_ ar_35 rfl rfl (by omega) (by omega)) rfl (WL_r rfl (dY_ ty_34 rfl rfl (by repeat (first | exact .head _ | apply Upd.left | apply Upd.tail)) (by rw [dT_ _ (by omega)]; omega) (.inl (by assumption)) ?_))))))
      refine nl J (J20 _ _ (Rk fun K J => sQ (q_as (dj_ rfl) (congrArg (Value.int .i64) (show (((m + 1 : Nat) : Int) - 1) = (m : Int) by omega))) rfl (sE rfl (sE rfl (nl J ?_)))))
      refine ⟨(by repeat first | exact .refl | refine .cons rfl ?_), _, _, (List.Sublist.refl _), (by omega), m, _, ?s16, ?mem, rfl, ⟨by omega, hz⟩⟩
      case mem => rw [hdz, iw_ (by omega)]
      case s16 => exact congrArg (Value.int .i64) (aK_ (n := (m : Int) - 1) (by unfold I64; omega))
     ·(try simp only [decide_eq_true_eq, decide_eq_false_iff_not, beq_iff_eq, bne_iff_ne, beq_eq_false_iff_ne, bne_eq_false_iff_eq, Bool.not_eq_true', Bool.not_eq_false'] at h77)
      obtain ⟨hz, hdz⟩ := hq.took0 D hd ht (by omega)
      refine aj_ (J22 _ _ (Rk fun K J => sQ (q_as (dj_ rfl) (congrArg (Value.int .i64) (show (((m + 1 : Nat) : Int) - 1) = (m : Int) by omega))) rfl (sE rfl (sQ (q_as (bH_ cc_ in_34 rfl) (eu_ _)) rfl (sQ (b3_ ar_35 rfl rfl (by omega) (by omega)) rfl (WL_r rfl (dY_ ty_34 rfl rfl (by repeat (first | exact .head _ | apply Upd.left | apply Upd.tail)) (by rw [dT_ _ (by omega)]; omega) (.inl (by assumption)) ?_)))))))
      refine nl J (J20 _ _ (Rk fun K J => sQ (q_as (dj_ rfl) (congrArg (Value.int .i64) (show (((m + 1 : Nat) : Int) - 1) = (m : Int) by omega))) rfl (sE rfl (sE rfl (nl J ?_)))))
      refine ⟨(by repeat first | exact .refl | refine .cons rfl ?_), _, _, (List.Sublist.refl _), (by omega), m, _, ?s16, ?mem, rfl, ⟨by omega, hz⟩⟩
      case mem => rw [hdz, iw_ (by omega)]
      case s16 => exact congrArg (Value.int .i64) (aK_ (n := (m : Int) - 1) (by unfold I64; omega))
    ·(try simp only [decide_eq_true_eq, decide_eq_false_iff_not, beq_iff_eq, bne_iff_ne, beq_eq_false_iff_ne, bne_eq_false_iff_eq, Bool.not_eq_true', Bool.not_eq_false'] at hc)
     obtain rfl : k = 0 := by omega
     refine bG_ (aw_ (aw_ (aC_ (J16 _ _ (Sq fun K25 J25 => dr (sk (sk (sk (sd (sd (sk (sk (s0)))))))) [0,4,8,12,16,20,25,29] [6,7] mix (by kernel_rfl) (fun K J => pQ rfl (aN_ ty_35 rfl (by repeat (first | exact .head _ | apply List.mem_append_right | apply List.Mem.tail)) (by rw [cF_, dT_ _ (by omega)])) ?_))))))
     refine pQ rfl (gB_ fD_ rfl rfl rfl (by decide) (by decide) (by decide) (by decide)) (pQ rfl (q_s2a ar_35 rfl (by decide)) (pQ rfl (cK_ (vs := uw (l.take 16)) ty_35 rfl (by repeat (first | exact .head _ | apply List.mem_append_right | apply List.Mem.tail)) qV_ (by simp [uw, hq.len])) ?_))
     refine pE rfl (pQ rfl (q_ret pQ_ (hd_ (l.take 16) (by simp [hq.len]) (hq.lim.take 16) _ D.s32) rfl) ?_)
     refine PL_o rfl rfl (aF_ ty_35 rfl rfl (by repeat (first | exact .head _ | apply Upd.left | apply Upd.tail)) (by rw [cF_, dT_ _ (by omega)]) (by rw [cF_, dT_ _ (by omega)]) (cw_ _) (.inl (by assumption)) ⟨nf, (by repeat (first | exact s0 | exact sn | refine sk ?_ | refine sd ?_ | refine sA ?_ | refine sR ?_)), ?_⟩)
     refine PL_o rfl rfl (aF_ ty_35 rfl rfl (by repeat (first | exact .head _ | apply Upd.left | apply Upd.tail)) (by simp [uw, a2_]) (by simp [uw]) (cw_ _) (.inl (by assumption)) ⟨nf, (by repeat (first | exact s0 | exact sn | refine sk ?_ | refine sd ?_ | refine sA ?_ | refine sR ?_)), ?_⟩)
     refine fl J (J25 _ _ (W_ret (ret2 rfl (.inr rfl) ⟨_, _, _, _, _, _, rfl, (by repeat (first | exact .head _ | apply List.mem_append_right | apply List.Mem.tail)), ty_35, _, (be_ (by rw [cF_, dT_ _ (by omega)])), (by rw [cF_, dT_ _ (by omega)]), rfl⟩ ⟨_, _, _, _, _, _, rfl, (by repeat (first | exact .head _ | apply List.mem_append_right | apply List.Mem.tail)), ty_35, _, (be_ (by simp [uw, a2_])), (by simp [uw, a2_]), rfl⟩ ?_)))
     (rw [kj_, hq.fin D]; rfl)
end Go.Proofs.YtapbefpeopaecaaGreatDoor

