/- Walks: what these functions return. -/
import Derived.Test.YtapbefpeopaecaaGreatDoorYGE
import Derived.Test.YtapbefpeopaecaaGreatDoorYSa
import Derived.Test.YtapbefpeopaecaaGreatDoorYPa
import Derived.Test.YtapbefpeopaecaaGreatDoorYSb
import Derived.Test.YtapbefpeopaecaaGreatDoorYSg
namespace Go.Proofs.YtapbefpeopaecaaGreatDoor
open Go.Kn Go.Num
set_option linter.unusedVariables false
set_option linter.unusedSimpArgs false
set_option maxRecDepth 20000
set_option maxHeartbeats 8000000
theorem dJ_ (a : R) (ha : a.Ok) :
    Ret Tryz.prog 126 [RV a] (.tuple #[.int .i64 a.dec.small.1, .bool a.dec.small.2]) := by
 refine av_ (N := 38) Tryz.func126 rfl rfl (by simp) (fun w0 => ?_)
 simp only [initF, Nat.reduceAdd]
 refine Sq fun K1 J1 => Rk fun K J => WL_r rfl (r_box rfl rfl (fun b1 hb1 => sE rfl (sE rfl (nl J (J1 _ _ (Sq fun K2 J2 => Sq fun K3 J3 => Rk fun K J => sQ (aS_ ty_37 rfl (by repeat (first | exact .head _ | apply List.mem_append_right | apply List.Mem.tail)) (aQ_ ha)) rfl ?_))))))
 refine sQ (q_ret en_86 (aH_ a ha) rfl) rfl (sE rfl (nl J (J3 _ _ ?_)))
 refine a6_ _ rfl (fun hg => ?_) (fun hg => ?_)
 ·(try simp only [decide_eq_true_eq, decide_eq_false_iff_not, beq_iff_eq, bne_iff_ne, beq_eq_false_iff_ne, bne_eq_false_iff_eq, Bool.not_eq_true', Bool.not_eq_false'] at hg)
  refine Sq fun K4 J4 => Rk fun K J => sE rfl (sE rfl (nl J (J4 _ _ (W_ret (ai_ (ret2 rfl (.inr rfl) rfl rfl ?_))))))
  exact jS_ hg
 ·(try simp only [decide_eq_true_eq, decide_eq_false_iff_not, beq_iff_eq, bne_iff_ne, beq_eq_false_iff_ne, bne_eq_false_iff_eq, Bool.not_eq_true', Bool.not_eq_false'] at hg)
  refine ak_ (J2 _ _ (Sq fun K5 J5 => Rk fun K J => sQ (q_ret en_74 (a9_ (-9223372036854775808) (by decide)) rfl) rfl (WL_r rfl (bl_ z_37 (fun b4 hb4 => WL_r rfl (aG_ ty_37 rfl rfl (by repeat (first | exact .head _ | apply Upd.left | apply Upd.tail)) (ag_ _) rfl (at_ _) (.inl (by assumption)) ?_))))))
  refine nl J (J5 _ _ (Sq fun K6 J6 => Rk fun K J => sQ (q_ret en_74 (a9_ 9223372036854775807 (by decide)) rfl) rfl (WL_r rfl (bl_ z_37 (fun b5 hb5 => WL_r rfl (aG_ ty_37 rfl rfl (by repeat (first | exact .head _ | apply Upd.left | apply Upd.tail)) (ag_ _) rfl (at_ _) (.inl (by assumption)) ?_))))))
  refine nl J (J6 _ _ (Sq fun K7 J7 => Sq fun K8 J8 => Rk fun K J => sQ (aS_ ty_37 rfl (by repeat (first | exact .head _ | apply List.mem_append_right | apply List.Mem.tail)) (aQ_ ha)) rfl ?_))
  refine sQ (aS_ ty_37 rfl (by repeat (first | exact .head _ | apply List.mem_append_right | apply List.Mem.tail)) (ag_ _)) rfl ?_
  refine sQ (q_ret lH_ (ds_ a (Z.of (-9223372036854775808)).enc ha (Z.enc_ok _)) rfl) rfl (sE rfl (sE rfl ?_))
  cases hlo : decide (Z.cmp a.dec (Z.of (-9223372036854775808)).enc.dec < 0)
  ·skip
   refine sQ (aS_ ty_37 rfl (by repeat (first | exact .head _ | apply List.mem_append_right | apply List.Mem.tail)) (aQ_ ha)) rfl ?_
   refine sQ (aS_ ty_37 rfl (by repeat (first | exact .head _ | apply List.mem_append_right | apply List.Mem.tail)) (ag_ _)) rfl ?_
   refine sQ (q_ret lH_ (ds_ a (Z.of 9223372036854775807).enc ha (Z.enc_ok _)) rfl) rfl (sE rfl (sE rfl (nl J (J8 _ _ ?_))))
   refine a6_ _ rfl (fun hhi => ?_) (fun hhi => ?_)
   ·(try simp only [decide_eq_true_eq, decide_eq_false_iff_not, beq_iff_eq, bne_iff_ne, beq_eq_false_iff_ne, bne_eq_false_iff_eq, Bool.not_eq_true', Bool.not_eq_false'] at hhi)
    refine Sq fun K9 J9 => Rk fun K J => sE rfl (sE rfl (nl J (J9 _ _ (W_ret (ai_ (ret2 rfl (.inr rfl) rfl rfl ?_))))))
    exact gk_ ha hg (nh_ ha hg hhi)
   ·(try simp only [decide_eq_true_eq, decide_eq_false_iff_not, beq_iff_eq, bne_iff_ne, beq_eq_false_iff_ne, bne_eq_false_iff_eq, Bool.not_eq_true', Bool.not_eq_false'] at hhi)
    have hin := mD_ ha hg (of_decide_eq_false hlo) hhi
    have hsm := mF_ hin
    refine ak_ (J7 _ _ (Sq fun K10 J10 => Rk fun K J => sQ (aW_ bv_ (by decide) rfl) rfl (sQ (bM_ ar_35 rfl rfl (by decide) (by decide)) rfl (sQ (bf_ ty_34 rfl (by repeat (first | exact .head _ | apply List.mem_append_right | apply List.Mem.tail)) (dC_ (r := a) (k := 1) (by rw [ha.len]; decide))) rfl ?_))))
    refine sQ (bt_ in_34 bT_ rfl) rfl (sE rfl (sQ (aW_ bv_ (by decide) rfl) rfl (sQ (bM_ ar_35 rfl rfl (by decide) (by decide)) rfl (sQ (bf_ ty_34 rfl (by repeat (first | exact .head _ | apply List.mem_append_right | apply List.Mem.tail)) (dC_ (r := a) (k := 0) (by rw [ha.len]; decide))) rfl ?_))))
    refine sQ (bt_ in_34 bT_ rfl) rfl (sQ (q_as (q_add rfl rfl) (congrArg (Value.int .u64) (mU_ ha hsm))) rfl (sQ (q_as (bt_ bT_ in_3 rfl) (rfl : _ = Value.int .i64 (IntKind.i64.wrap ((val a.w : Nat) : Int)))) rfl (sE rfl (nl J (J10 _ _ (Sq fun K11 J11 => Sq fun K12 J12 => Rk fun K J => sQ (aW_ bq_ (by decide) rfl) rfl (sQ (bf_ ty_4 rfl (by repeat (first | exact .head _ | apply List.mem_append_right | apply List.Mem.tail)) rfl) rfl ?_)))))))
    refine nl J (J12 _ _ ?_)
    refine a6_ _ rfl (fun hn => ?_) (fun hn => ?_)
    ·(try simp only [decide_eq_true_eq, decide_eq_false_iff_not, beq_iff_eq, bne_iff_ne, beq_eq_false_iff_ne, bne_eq_false_iff_eq, Bool.not_eq_true', Bool.not_eq_false'] at hn)
     refine Rk fun K J => sE rfl (sE rfl (sE rfl (nl J (J11 _ _ (Sq fun K13 J13 => Rk fun K J => sE rfl (sE rfl (sE rfl (nl J (J13 _ _ (W_ret (ret2 rfl (.inr rfl) rfl rfl ?_)))))))))))
     exact hG_ ha hg (l2_ hin hn) hin
    ·(try simp only [decide_eq_true_eq, decide_eq_false_iff_not, beq_iff_eq, bne_iff_ne, beq_eq_false_iff_ne, bne_eq_false_iff_eq, Bool.not_eq_true', Bool.not_eq_false'] at hn)
     refine ak_ (J11 _ _ (Sq fun K14 J14 => Rk fun K J => sE rfl (sE rfl (sE rfl (nl J (J14 _ _ (W_ret (ret2 rfl (.inr rfl) rfl rfl ?_))))))))
     exact hG_ ha hg (lX_ hin hn) hin
  ·skip
   refine WL_n rfl (WL_n rfl (WL_n rfl (WL_n rfl (sE rfl (nl J (J8 _ _ (bF_ rfl (Sq fun K15 J15 => Rk fun K J => sE rfl (sE rfl (nl J (J15 _ _ (W_ret (ai_ (ret2 rfl (.inr rfl) rfl rfl ?_))))))))))))))
   exact gk_ ha hg (nm_ ha hg (of_decide_eq_true hlo))

theorem cN_ (a b : R) (ha : a.Ok) (hb : b.Ok) :
    Ret Tryz.prog 77 [RV a, RV b] (RV (Z.gcd a.dec b.dec).enc) := by
 refine av_ (N := 64) Tryz.func77 rfl rfl (by simp) (fun w0 => ?_)
 simp only [initF, Nat.reduceAdd]
 have hla := len32 ha
 have hlb := len32 hb
 refine Sq fun K1 J1 => Rk fun K J => WL_r rfl (r_box rfl rfl (fun b2 hb2 => WL_r rfl (r_box rfl rfl (fun b3 hb3 => WL_r rfl (bl_ z_37 (fun b4 hb4 => nl J (J1 _ _ (Sq fun K2 J2 => Rk fun K J => sQ (aS_ ty_37 rfl (by repeat (first | exact .head _ | apply List.mem_append_right | apply List.Mem.tail)) (aQ_ ha)) rfl ?_))))))))
 refine sQ (q_ret en_88 (bI_ a ha) rfl) rfl (sE rfl (sE rfl (sE rfl (sE rfl (sE rfl (nl J (J2 _ _ (Sq fun K3 J3 => Rk fun K J => sQ (aS_ ty_37 rfl (by repeat (first | exact .head _ | apply List.mem_append_right | apply List.Mem.tail)) (aQ_ hb)) rfl ?_))))))))
 refine sQ (q_ret en_88 (bI_ b hb) rfl) rfl (sE rfl (sE rfl (sE rfl (sE rfl (sE rfl (nl J (J3 _ _ (Sq fun K4 J4 => Sq fun K5 J5 => Rk fun K J => sE rfl (sE rfl ?_)))))))))
 cases w1 : wordB a
 ·skip
  refine WL_n rfl (sE rfl (nl J (J5 _ _ (by_ rfl (ak_ (J4 _ _ (Sq fun K6 J6 => Sq fun K7 J7 => Rk fun K J => sQ (aS_ ty_37 rfl (by repeat (first | exact .head _ | apply List.mem_append_right | apply List.Mem.tail)) (aQ_ ha)) rfl ?_)))))))
  refine sQ (q_ret en_86 (aH_ a ha) rfl) rfl (sE rfl (sE rfl ?_))
  cases ga : a.good
  ·skip
   refine WL_n rfl (WL_n rfl (WL_n rfl (sE rfl (nl J (J7 _ _ (bF_ rfl (Sq fun K8 J8 => Rk fun K J => sQ (q_ret en_90 bm_ rfl) rfl (WL_r rfl (aG_ ty_37 rfl rfl (by repeat (first | exact .head _ | apply Upd.left | apply Upd.tail)) (ag_ _) rfl (at_ _) (.inl (by assumption)) ?_)))))))))
   refine nl J (J8 _ _ (W_ret (ai_ (ret1 rfl (.inr rfl) ⟨_, _, _, _, _, _, rfl, (by repeat (first | exact .head _ | apply List.mem_append_right | apply List.Mem.tail)), ty_37, _, (bd_ (ag_ _)), (ag_ _), rfl⟩ ?_))))
   (rw [Z.gcd, c9_ (.inl (bad1 ga))]; rfl)
  ·skip
   refine sQ (aS_ ty_37 rfl (by repeat (first | exact .head _ | apply List.mem_append_right | apply List.Mem.tail)) (aQ_ hb)) rfl ?_
   refine sQ (q_ret en_86 (aH_ b hb) rfl) rfl (sE rfl (sE rfl (nl J (J7 _ _ ?_))))
   refine a6_ _ rfl (fun gb => ?_) (fun gb => ?_)
   ·(try simp only [decide_eq_true_eq, decide_eq_false_iff_not, beq_iff_eq, bne_iff_ne, beq_eq_false_iff_ne, bne_eq_false_iff_eq, Bool.not_eq_true', Bool.not_eq_false'] at gb)
    refine Sq fun K9 J9 => Rk fun K J => sQ (q_ret en_90 bm_ rfl) rfl (WL_r rfl (aG_ ty_37 rfl rfl (by repeat (first | exact .head _ | apply Upd.left | apply Upd.tail)) (ag_ _) rfl (at_ _) (.inl (by assumption)) ?_))
    refine nl J (J9 _ _ (W_ret (ai_ (ret1 rfl (.inr rfl) ⟨_, _, _, _, _, _, rfl, (by repeat (first | exact .head _ | apply List.mem_append_right | apply List.Mem.tail)), ty_37, _, (bd_ (ag_ _)), (ag_ _), rfl⟩ ?_))))
    (rw [Z.gcd, c9_ (.inr (bad1 gb))]; rfl)
   ·(try simp only [decide_eq_true_eq, decide_eq_false_iff_not, beq_iff_eq, bne_iff_ne, beq_eq_false_iff_ne, bne_eq_false_iff_eq, Bool.not_eq_true', Bool.not_eq_false'] at gb)
    refine ak_ (J6 _ _ (Sq fun K10 J10 => Rk fun K J => sQ (aS_ ty_37 rfl (by repeat (first | exact .head _ | apply List.mem_append_right | apply List.Mem.tail)) (aQ_ ha)) rfl ?_))
    refine WL_r rfl (bP_ en_87 rfl (fun w hw => aI_ a ha w) (fun v5 L5 h5 => sE rfl (nl J (J10 _ _ (Sq fun K11 J11 => Rk fun K J => sQ (aS_ ty_37 rfl (by repeat (first | exact .head _ | apply List.mem_append_right | apply List.Mem.tail)) (aQ_ hb)) rfl ?_)))))
    refine WL_r rfl (bP_ en_87 rfl (fun w hw => aI_ b hb w) (fun v6 L6 h6 => sE rfl (nl J (J11 _ _ (Sq fun K12 J12 => ar_ ?_)))))
    refine bN_ [10, 11, 12, 13, 51, 52, 53, 54, 55, 56, 57, 58, 59, 60, 61] (fun g nn M => ∃ (X Y : Nat) (vx vy : Value) (Lx Ly : List Blk), (g 10 = vx ∧ g 11 = vy) ∧ M = Ly ++ (Lx ++ [⟨b4, 37, zR⟩, ⟨b3, 37, b.cells⟩, ⟨b2, 37, a.cells⟩]) ∧ nn = Y ∧ ((X < 65536 ^ 32 ∧ Y < 65536 ^ 32) ∧ Nat.gcd X Y = Nat.gcd (val a.w) (val b.w) ∧ SL w0 [] Lx vx (dl X) ∧ SL w0 [] Ly vy (dl Y))) (val b.w) ?start ?round
    case start =>
     refine ⟨_, (List.Sublist.refl _), val a.w, val b.w, v5, v6, L5, L6, ⟨?a10, ?a11⟩, ?mem0, rfl, ⟨⟨lt32' ha, lt32' hb⟩, rfl, h5.sl, h6.sl⟩⟩
     case mem0 => rfl
     case a10 => rfl
     case a11 => rfl
    case round =>
     rintro nn g M ⟨X, Y, vx, vy, Lx, Ly, ⟨hg10, hg11⟩, rfl, hmeas, ⟨hb3, hgc, hX, hY⟩⟩
     subst nn
     simp only [setG, hg10, hg11]
     clear hg10 hg11
     refine Sq fun K13 J13 => Sq fun K14 J14 => Rk fun K J => sE rfl (sQ (dX_ sl_81 rfl (hY.sub (List.sublist_append_left _ _))) rfl (sE rfl (nl J (J14 _ _ ?_))))
     refine a6_ _ rfl (fun h53 => ?_) (fun h53 => ?_)
     ·(try simp only [decide_eq_true_eq, decide_eq_false_iff_not, beq_iff_eq, bne_iff_ne, beq_eq_false_iff_ne, bne_eq_false_iff_eq, Bool.not_eq_true', Bool.not_eq_false'] at h53)
      have hYp : 0 < Y := nk_ h53
      refine ak_ (J13 _ _ (ar_ (Sq fun K15 J15 => Rk fun K J => sE rfl (sE rfl (WL_r rfl (hc_ en_91 rfl (fun w hw => c3_ vx vy X Y hYp (iJ_ hb3.1) (iJ_ hb3.2) w (SL.sl (hX.sub (.trans (List.sublist_append_left _ _) (List.sublist_append_right _ _))) hw) (SL.sl (hY.sub (List.sublist_append_left _ _)) hw)) (fun vq vr Lr hq hr => sE rfl (sE rfl (sE rfl (sE rfl (sE rfl (nl J (J15 _ _ (Sq fun K16 J16 => Rk fun K J => sE rfl (sE rfl (nl J ?_))))))))))))))))
      refine J16 _ _ (Rk fun K J => sE rfl (sE rfl (nl J ?_)))
      refine ⟨(by repeat first | exact .refl | refine .cons rfl ?_), _, _, (List.Sublist.append (List.Sublist.refl _) (List.Sublist.append (List.Sublist.refl _) (List.sublist_append_right _ _))), (Nat.mod_lt _ hYp), Y, X % Y, vy, vr, Ly, Lr, ⟨?s10, ?s11⟩, ?mem, rfl, ⟨⟨hb3.2, Nat.lt_of_le_of_lt (Nat.mod_le _ _) hb3.1⟩, by rw [← hgc]; exact j6_ X Y, hY, hr⟩⟩
      case mem => rfl
      case s10 => rfl
      case s11 => rfl
     ·(try simp only [decide_eq_true_eq, decide_eq_false_iff_not, beq_iff_eq, bne_iff_ne, beq_eq_false_iff_ne, bne_eq_false_iff_eq, Bool.not_eq_true', Bool.not_eq_false'] at h53)
      have hY0 : Y = 0 := lr_ h53
      refine bB_ (ax_ (ax_ (aF_ (J12 _ _ (Sq fun K17 J17 => Rk fun K J => sE rfl (sQ (bU_ en_93 rfl (fun w hw => a7_ false _ _ (dl_DL _) (Nat.le_trans (iJ_ hb3.1) (by decide)) w (SL.sl (hX.sub (.trans (List.sublist_append_left _ _) (List.sublist_append_right _ _))) hw))) rfl (WL_r rfl (aG_ ty_37 rfl rfl (by repeat (first | exact .head _ | apply Upd.left | apply Upd.tail)) (ag_ _) rfl (at_ _) (.inl (by assumption)) ?_))))))))
      refine nl J (J17 _ _ (W_ret (ret1 rfl (.inr rfl) ⟨_, _, _, _, _, _, rfl, (by repeat (first | exact .head _ | apply List.mem_append_right | apply List.Mem.tail)), ty_37, _, (bd_ (ag_ _)), (ag_ _), rfl⟩ ?_)))
      (rw [o8_ ha hb ga gb (by rw [← hgc, hY0, Nat.gcd_zero_right]), dv_dl]; rfl)
 ·skip
  refine sE rfl (sE rfl (nl J (J5 _ _ ?_)))
  refine a6_ _ rfl (fun w2 => ?_) (fun w2 => ?_)
  ·(try simp only [decide_eq_true_eq, decide_eq_false_iff_not, beq_iff_eq, bne_iff_ne, beq_eq_false_iff_ne, bne_eq_false_iff_eq, Bool.not_eq_true', Bool.not_eq_false'] at w2)
   refine Sq fun K18 J18 => ar_ ?_
   refine bN_ [5, 7, 9, 28, 29, 30, 31, 32, 33, 34] (fun g nn M => ∃ (x y : Int), (g 5 = .int .i64 x ∧ g 7 = .int .i64 y) ∧ M = [⟨b4, 37, zR⟩, ⟨b3, 37, b.cells⟩, ⟨b2, 37, a.cells⟩] ∧ nn = y.natAbs ∧ ((-4611686018427387904 < x ∧ x < 4611686018427387904) ∧ (-4611686018427387904 < y ∧ y < 4611686018427387904) ∧ Int.gcd x y = Int.gcd (wordI a) (wordI b))) ((wordI b).natAbs) ?start ?round
   case start =>
    refine ⟨_, (List.Sublist.refl _), wordI a, wordI b, ⟨?a5, ?a7⟩, ?mem0, rfl, ⟨(dc_ ha w1).2.2.2, (dc_ hb w2).2.2.2, rfl⟩⟩
    case mem0 => rfl
    case a5 => rfl
    case a7 => rfl
   case round =>
    rintro nn g M ⟨x, y, ⟨hg5, hg7⟩, rfl, hmeas, ⟨hx, hy, hgc⟩⟩
    subst nn
    simp only [setG, hg5, hg7]
    clear hg5 hg7
    refine Sq fun K19 J19 => Sq fun K20 J20 => Rk fun K J => sE rfl (sE rfl (nl J (J20 _ _ ?_)))
    refine a6_ _ rfl (fun h29 => ?_) (fun h29 => ?_)
    ·(try simp only [decide_eq_true_eq, decide_eq_false_iff_not, beq_iff_eq, bne_iff_ne, beq_eq_false_iff_ne, bne_eq_false_iff_eq, Bool.not_eq_true', Bool.not_eq_false'] at h29)
     refine ak_ (J19 _ _ (ar_ (Sq fun K21 J21 => Rk fun K J => sE rfl (sE rfl (sQ (q_rem rfl rfl h29) rfl (sE rfl (nl J (J21 _ _ (Sq fun K22 J22 => Rk fun K J => sE rfl (sE rfl (nl J (J22 _ _ (Rk fun K J => sE rfl (sE rfl ?_))))))))))))))
     refine nl J ?_
     refine ⟨(by repeat first | exact .refl | refine .cons rfl ?_), _, _, (List.Sublist.refl _), (e3_ (by simpa using h29)).1, y, x.tmod y, ⟨?s5, ?s7⟩, ?mem, rfl, ⟨hy, rF_ hx, by rw [← hgc]; exact oH_ x y⟩⟩
     case mem => rfl
     case s5 => rfl
     case s7 => rfl
    ·(try simp only [decide_eq_true_eq, decide_eq_false_iff_not, beq_iff_eq, bne_iff_ne, beq_eq_false_iff_ne, bne_eq_false_iff_eq, Bool.not_eq_true', Bool.not_eq_false'] at h29)
     have hy0 : y = 0 := by simpa using h29
     refine bB_ (ax_ (ax_ (aF_ (J18 _ _ (Sq fun K23 J23 => Rk fun K J => sE rfl (sQ (q_ret en_74 (a9_ x (sb_ hx)) rfl) rfl (sQ (q_ret rx_ (go_ (Z.of x).enc (Z.enc_ok _)) rfl) rfl (WL_r rfl (aG_ ty_37 rfl rfl (by repeat (first | exact .head _ | apply Upd.left | apply Upd.tail)) (ag_ _) rfl (at_ _) (.inl (by assumption)) ?_)))))))))
     refine nl J (J23 _ _ (W_ret (ai_ (ret1 rfl (.inr rfl) ⟨_, _, _, _, _, _, rfl, (by repeat (first | exact .head _ | apply List.mem_append_right | apply List.Mem.tail)), ty_37, _, (bd_ (ag_ _)), (ag_ _), rfl⟩ ?_))))
     (rw [f7_, mn_ ha hb w1 w2 hgc hy0]; rfl)
  ·(try simp only [decide_eq_true_eq, decide_eq_false_iff_not, beq_iff_eq, bne_iff_ne, beq_eq_false_iff_ne, bne_eq_false_iff_eq, Bool.not_eq_true', Bool.not_eq_false'] at w2)
   refine ak_ (J4 _ _ (Sq fun K24 J24 => Sq fun K25 J25 => Rk fun K J => sQ (aS_ ty_37 rfl (by repeat (first | exact .head _ | apply List.mem_append_right | apply List.Mem.tail)) (aQ_ ha)) rfl ?_))
   refine sQ (q_ret en_86 (aH_ a ha) rfl) rfl (sE rfl (sE rfl ?_))
   cases ga : a.good
   ·skip
    refine WL_n rfl (WL_n rfl (WL_n rfl (sE rfl (nl J (J25 _ _ (bF_ rfl (Sq fun K26 J26 => Rk fun K J => sQ (q_ret en_90 bm_ rfl) rfl (WL_r rfl (aG_ ty_37 rfl rfl (by repeat (first | exact .head _ | apply Upd.left | apply Upd.tail)) (ag_ _) rfl (at_ _) (.inl (by assumption)) ?_)))))))))
    refine nl J (J26 _ _ (W_ret (ai_ (ret1 rfl (.inr rfl) ⟨_, _, _, _, _, _, rfl, (by repeat (first | exact .head _ | apply List.mem_append_right | apply List.Mem.tail)), ty_37, _, (bd_ (ag_ _)), (ag_ _), rfl⟩ ?_))))
    (rw [Z.gcd, c9_ (.inl (bad1 ga))]; rfl)
   ·skip
    refine sQ (aS_ ty_37 rfl (by repeat (first | exact .head _ | apply List.mem_append_right | apply List.Mem.tail)) (aQ_ hb)) rfl ?_
    refine sQ (q_ret en_86 (aH_ b hb) rfl) rfl (sE rfl (sE rfl (nl J (J25 _ _ ?_))))
    refine a6_ _ rfl (fun gb => ?_) (fun gb => ?_)
    ·(try simp only [decide_eq_true_eq, decide_eq_false_iff_not, beq_iff_eq, bne_iff_ne, beq_eq_false_iff_ne, bne_eq_false_iff_eq, Bool.not_eq_true', Bool.not_eq_false'] at gb)
     refine Sq fun K27 J27 => Rk fun K J => sQ (q_ret en_90 bm_ rfl) rfl (WL_r rfl (aG_ ty_37 rfl rfl (by repeat (first | exact .head _ | apply Upd.left | apply Upd.tail)) (ag_ _) rfl (at_ _) (.inl (by assumption)) ?_))
     refine nl J (J27 _ _ (W_ret (ai_ (ret1 rfl (.inr rfl) ⟨_, _, _, _, _, _, rfl, (by repeat (first | exact .head _ | apply List.mem_append_right | apply List.Mem.tail)), ty_37, _, (bd_ (ag_ _)), (ag_ _), rfl⟩ ?_))))
     (rw [Z.gcd, c9_ (.inr (bad1 gb))]; rfl)
    ·(try simp only [decide_eq_true_eq, decide_eq_false_iff_not, beq_iff_eq, bne_iff_ne, beq_eq_false_iff_ne, bne_eq_false_iff_eq, Bool.not_eq_true', Bool.not_eq_false'] at gb)
     refine ak_ (J24 _ _ (Sq fun K28 J28 => Rk fun K J => sQ (aS_ ty_37 rfl (by repeat (first | exact .head _ | apply List.mem_append_right | apply List.Mem.tail)) (aQ_ ha)) rfl ?_))
     refine WL_r rfl (bP_ en_87 rfl (fun w hw => aI_ a ha w) (fun v5 L5 h5 => sE rfl (nl J (J28 _ _ (Sq fun K29 J29 => Rk fun K J => sQ (aS_ ty_37 rfl (by repeat (first | exact .head _ | apply List.mem_append_right | apply List.Mem.tail)) (aQ_ hb)) rfl ?_)))))
     refine WL_r rfl (bP_ en_87 rfl (fun w hw => aI_ b hb w) (fun v6 L6 h6 => sE rfl (nl J (J29 _ _ (Sq fun K30 J30 => ar_ ?_)))))
     refine bN_ [10, 11, 12, 13, 51, 52, 53, 54, 55, 56, 57, 58, 59, 60, 61] (fun g nn M => ∃ (X Y : Nat) (vx vy : Value) (Lx Ly : List Blk), (g 10 = vx ∧ g 11 = vy) ∧ M = Ly ++ (Lx ++ [⟨b4, 37, zR⟩, ⟨b3, 37, b.cells⟩, ⟨b2, 37, a.cells⟩]) ∧ nn = Y ∧ ((X < 65536 ^ 32 ∧ Y < 65536 ^ 32) ∧ Nat.gcd X Y = Nat.gcd (val a.w) (val b.w) ∧ SL w0 [] Lx vx (dl X) ∧ SL w0 [] Ly vy (dl Y))) (val b.w) ?start ?round
     case start =>
      refine ⟨_, (List.Sublist.refl _), val a.w, val b.w, v5, v6, L5, L6, ⟨?a10, ?a11⟩, ?mem0, rfl, ⟨⟨lt32' ha, lt32' hb⟩, rfl, h5.sl, h6.sl⟩⟩
      case mem0 => rfl
      case a10 => rfl
      case a11 => rfl
     case round =>
      rintro nn g M ⟨X, Y, vx, vy, Lx, Ly, ⟨hg10, hg11⟩, rfl, hmeas, ⟨hb3, hgc, hX, hY⟩⟩
      subst nn
      simp only [setG, hg10, hg11]
      clear hg10 hg11
      refine Sq fun K31 J31 => Sq fun K32 J32 => Rk fun K J => sE rfl (sQ (dX_ sl_81 rfl (hY.sub (List.sublist_append_left _ _))) rfl (sE rfl (nl J (J32 _ _ ?_))))
      refine a6_ _ rfl (fun h53 => ?_) (fun h53 => ?_)
      ·(try simp only [decide_eq_true_eq, decide_eq_false_iff_not, beq_iff_eq, bne_iff_ne, beq_eq_false_iff_ne, bne_eq_false_iff_eq, Bool.not_eq_true', Bool.not_eq_false'] at h53)
       have hYp : 0 < Y := nk_ h53
       refine ak_ (J31 _ _ (ar_ (Sq fun K33 J33 => Rk fun K J => sE rfl (sE rfl (WL_r rfl (hc_ en_91 rfl (fun w hw => c3_ vx vy X Y hYp (iJ_ hb3.1) (iJ_ hb3.2) w (SL.sl (hX.sub (.trans (List.sublist_append_left _ _) (List.sublist_append_right _ _))) hw) (SL.sl (hY.sub (List.sublist_append_left _ _)) hw)) (fun vq vr Lr hq hr => sE rfl (sE rfl (sE rfl (sE rfl (sE rfl (nl J (J33 _ _ (Sq fun K34 J34 => Rk fun K J => sE rfl (sE rfl (nl J ?_))))))))))))))))
       refine J34 _ _ (Rk fun K J => sE rfl (sE rfl (nl J ?_)))
       refine ⟨(by repeat first | exact .refl | refine .cons rfl ?_), _, _, (List.Sublist.append (List.Sublist.refl _) (List.Sublist.append (List.Sublist.refl _) (List.sublist_append_right _ _))), (Nat.mod_lt _ hYp), Y, X % Y, vy, vr, Ly, Lr, ⟨?s10, ?s11⟩, ?mem, rfl, ⟨⟨hb3.2, Nat.lt_of_le_of_lt (Nat.mod_le _ _) hb3.1⟩, by rw [← hgc]; exact j6_ X Y, hY, hr⟩⟩
       case mem => rfl
       case s10 => rfl
       case s11 => rfl
      ·(try simp only [decide_eq_true_eq, decide_eq_false_iff_not, beq_iff_eq, bne_iff_ne, beq_eq_false_iff_ne, bne_eq_false_iff_eq, Bool.not_eq_true', Bool.not_eq_false'] at h53)
       have hY0 : Y = 0 := lr_ h53
       refine bB_ (ax_ (ax_ (aF_ (J30 _ _ (Sq fun K35 J35 => Rk fun K J => sE rfl (sQ (bU_ en_93 rfl (fun w hw => a7_ false _ _ (dl_DL _) (Nat.le_trans (iJ_ hb3.1) (by decide)) w (SL.sl (hX.sub (.trans (List.sublist_append_left _ _) (List.sublist_append_right _ _))) hw))) rfl (WL_r rfl (aG_ ty_37 rfl rfl (by repeat (first | exact .head _ | apply Upd.left | apply Upd.tail)) (ag_ _) rfl (at_ _) (.inl (by assumption)) ?_))))))))
       refine nl J (J35 _ _ (W_ret (ret1 rfl (.inr rfl) ⟨_, _, _, _, _, _, rfl, (by repeat (first | exact .head _ | apply List.mem_append_right | apply List.Mem.tail)), ty_37, _, (bd_ (ag_ _)), (ag_ _), rfl⟩ ?_)))
       (rw [o8_ ha hb ga gb (by rw [← hgc, hY0, Nat.gcd_zero_right]), dv_dl]; rfl)
end Go.Proofs.YtapbefpeopaecaaGreatDoor

