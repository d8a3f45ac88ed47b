/- Walks: what these functions return. -/
import Derived.Test.YtapbefpeopaecaaGreatDoorUGE
import Derived.Test.YtapbefpeopaecaaGreatDoorUSa
import Derived.Test.YtapbefpeopaecaaGreatDoorUSe
import Derived.Test.YtapbefpeopaecaaGreatDoorUSb
import Derived.Test.YtapbefpeopaecaaGreatDoorUSg
namespace Go.Proofs.YtapbefpeopaecaaGreatDoor
open Go.Kn Go.Num
set_option linter.unusedVariables false
set_option linter.unusedSimpArgs false
set_option maxRecDepth 20000
set_option maxHeartbeats 8000000
theorem dI_ (a b : R) (ha : a.Ok) (hb : b.Ok) :
    Ret Tryz.prog 77 [RV a, RV b] (RV (Z.gcd a.dec b.dec).enc) := by
 refine aB_ (N := 64) Tryz.func77 rfl rfl (by simp) (fun w0 => ?_)
 simp only [initF, Nat.reduceAdd]
 have hla := len32 ha
 have hlb := len32 hb
 refine Sq fun K1 J1 => Rk fun K J => WL_r rfl (r_box rfl rfl (fun b2 hb2 => WL_r rfl (r_box rfl rfl (fun b3 hb3 => WL_r rfl (be_ z_37 (fun b4 hb4 => nl J (J1 _ _ (Sq fun K2 J2 => Rk fun K J => sQ (aK_ ty_37 rfl (by repeat (first | exact .head _ | apply List.mem_append_right | apply List.Mem.tail)) (aJ_ ha)) rfl ?_))))))))
 refine sQ (q_ret en_88 (bH_ a ha) rfl) rfl (sE rfl (sE rfl (sE rfl (sE rfl (sE rfl (nl J (J2 _ _ (Sq fun K3 J3 => Rk fun K J => sQ (aK_ ty_37 rfl (by repeat (first | exact .head _ | apply List.mem_append_right | apply List.Mem.tail)) (aJ_ hb)) rfl ?_))))))))
 refine sQ (q_ret en_88 (bH_ b hb) rfl) rfl (sE rfl (sE rfl (sE rfl (sE rfl (sE rfl (nl J (J3 _ _ (Sq fun K4 J4 => Sq fun K5 J5 => Rk fun K J => sE rfl (sE rfl ?_)))))))))
 cases w1 : wordB a
 ·skip
  refine WL_n rfl (sE rfl (nl J (J5 _ _ (bu_ rfl (am_ (J4 _ _ (Sq fun K6 J6 => Sq fun K7 J7 => Rk fun K J => sQ (aK_ ty_37 rfl (by repeat (first | exact .head _ | apply List.mem_append_right | apply List.Mem.tail)) (aJ_ ha)) rfl ?_)))))))
  refine sQ (q_ret en_86 (aO_ a ha) rfl) rfl (sE rfl (sE rfl ?_))
  cases ga : a.good
  ·skip
   refine WL_n rfl (WL_n rfl (WL_n rfl (sE rfl (nl J (J7 _ _ (bx_ rfl (Sq fun K8 J8 => Rk fun K J => sQ (q_ret en_90 bk_ rfl) rfl (WL_r rfl (aA_ ty_37 rfl rfl (by repeat (first | exact .head _ | apply Upd.left | apply Upd.tail)) (ac_ _) rfl (at_ _) (.inl (by assumption)) ?_)))))))))
   refine nl J (J8 _ _ (W_ret (ah_ (ret1 rfl (.inr rfl) ⟨_, _, _, _, _, _, rfl, (by repeat (first | exact .head _ | apply List.mem_append_right | apply List.Mem.tail)), ty_37, _, (a5_ (ac_ _)), (ac_ _), rfl⟩ ?_))))
   (rw [Z.gcd, c5_ (.inl (bad1 ga))]; rfl)
  ·skip
   refine sQ (aK_ ty_37 rfl (by repeat (first | exact .head _ | apply List.mem_append_right | apply List.Mem.tail)) (aJ_ hb)) rfl ?_
   refine sQ (q_ret en_86 (aO_ b hb) rfl) rfl (sE rfl (sE rfl (nl J (J7 _ _ ?_))))
   refine aZ_ _ rfl (fun gb => ?_) (fun gb => ?_)
   ·(try simp only [decide_eq_true_eq, decide_eq_false_iff_not, beq_iff_eq, bne_iff_ne, beq_eq_false_iff_ne, bne_eq_false_iff_eq, Bool.not_eq_true', Bool.not_eq_false'] at gb)
    refine Sq fun K9 J9 => Rk fun K J => sQ (q_ret en_90 bk_ rfl) rfl (WL_r rfl (aA_ ty_37 rfl rfl (by repeat (first | exact .head _ | apply Upd.left | apply Upd.tail)) (ac_ _) rfl (at_ _) (.inl (by assumption)) ?_))
    refine nl J (J9 _ _ (W_ret (ah_ (ret1 rfl (.inr rfl) ⟨_, _, _, _, _, _, rfl, (by repeat (first | exact .head _ | apply List.mem_append_right | apply List.Mem.tail)), ty_37, _, (a5_ (ac_ _)), (ac_ _), rfl⟩ ?_))))
    (rw [Z.gcd, c5_ (.inr (bad1 gb))]; rfl)
   ·(try simp only [decide_eq_true_eq, decide_eq_false_iff_not, beq_iff_eq, bne_iff_ne, beq_eq_false_iff_ne, bne_eq_false_iff_eq, Bool.not_eq_true', Bool.not_eq_false'] at gb)
    refine am_ (J6 _ _ (Sq fun K10 J10 => Rk fun K J => sQ (aK_ ty_37 rfl (by repeat (first | exact .head _ | apply List.mem_append_right | apply List.Mem.tail)) (aJ_ ha)) rfl ?_))
    refine WL_r rfl (cb_ en_87 rfl (fun w hw => aY_ a ha w) (fun v5 L5 h5 => sE rfl (nl J (J10 _ _ (Sq fun K11 J11 => Rk fun K J => sQ (aK_ ty_37 rfl (by repeat (first | exact .head _ | apply List.mem_append_right | apply List.Mem.tail)) (aJ_ hb)) rfl ?_)))))
    refine WL_r rfl (cb_ en_87 rfl (fun w hw => aY_ b hb w) (fun v6 L6 h6 => sE rfl (nl J (J11 _ _ (Sq fun K12 J12 => as_ ?_)))))
    refine bs_ [10, 11, 12, 13, 51, 52, 53, 54, 55, 56, 57, 58, 59, 60, 61] (fun g nn M => ∃ (X Y : Nat) (vx vy : Value) (Lx Ly : List Blk), (g 10 = vx ∧ g 11 = vy) ∧ M = Ly ++ (Lx ++ [⟨b4, 37, zR⟩, ⟨b3, 37, b.cells⟩, ⟨b2, 37, a.cells⟩]) ∧ nn = Y ∧ ((X < 65536 ^ 32 ∧ Y < 65536 ^ 32) ∧ Nat.gcd X Y = Nat.gcd (val a.w) (val b.w) ∧ SL w0 [] Lx vx (dl X) ∧ SL w0 [] Ly vy (dl Y))) (val b.w) ?start ?round
    case start =>
     refine ⟨_, (List.Sublist.refl _), val a.w, val b.w, v5, v6, L5, L6, ⟨?a10, ?a11⟩, ?mem0, rfl, ⟨⟨lt32' ha, lt32' hb⟩, rfl, h5.sl, h6.sl⟩⟩
     case mem0 => rfl
     case a10 => rfl
     case a11 => rfl
    case round =>
     rintro nn g M ⟨X, Y, vx, vy, Lx, Ly, ⟨hg10, hg11⟩, rfl, hmeas, ⟨hb3, hgc, hX, hY⟩⟩
     subst nn
     simp only [setG, hg10, hg11]
     clear hg10 hg11
     refine Sq fun K13 J13 => Sq fun K14 J14 => Rk fun K J => sE rfl (sQ (dZ_ sl_81 rfl (hY.sub (List.sublist_append_left _ _))) rfl (sE rfl (nl J (J14 _ _ ?_))))
     refine aZ_ _ rfl (fun h53 => ?_) (fun h53 => ?_)
     ·(try simp only [decide_eq_true_eq, decide_eq_false_iff_not, beq_iff_eq, bne_iff_ne, beq_eq_false_iff_ne, bne_eq_false_iff_eq, Bool.not_eq_true', Bool.not_eq_false'] at h53)
      have hYp : 0 < Y := nv_ h53
      refine am_ (J13 _ _ (as_ (Sq fun K15 J15 => Rk fun K J => sE rfl (sE rfl (WL_r rfl (ib_ en_91 rfl (fun w hw => dl_ vx vy X Y hYp (ip_ hb3.1) (ip_ hb3.2) w (SL.sl (hX.sub (.trans (List.sublist_append_left _ _) (List.sublist_append_right _ _))) hw) (SL.sl (hY.sub (List.sublist_append_left _ _)) hw)) (fun vq vr Lr hq hr => sE rfl (sE rfl (sE rfl (sE rfl (sE rfl (nl J (J15 _ _ (Sq fun K16 J16 => Rk fun K J => sE rfl (sE rfl (nl J ?_))))))))))))))))
      refine J16 _ _ (Rk fun K J => sE rfl (sE rfl (nl J ?_)))
      refine ⟨(by repeat first | exact .refl | refine .cons rfl ?_), _, _, (List.Sublist.append (List.Sublist.refl _) (List.Sublist.append (List.Sublist.refl _) (List.sublist_append_right _ _))), (Nat.mod_lt _ hYp), Y, X % Y, vy, vr, Ly, Lr, ⟨?s10, ?s11⟩, ?mem, rfl, ⟨⟨hb3.2, Nat.lt_of_le_of_lt (Nat.mod_le _ _) hb3.1⟩, by rw [← hgc]; exact kj_ X Y, hY, hr⟩⟩
      case mem => rfl
      case s10 => rfl
      case s11 => rfl
     ·(try simp only [decide_eq_true_eq, decide_eq_false_iff_not, beq_iff_eq, bne_iff_ne, beq_eq_false_iff_ne, bne_eq_false_iff_eq, Bool.not_eq_true', Bool.not_eq_false'] at h53)
      have hY0 : Y = 0 := lg_ h53
      refine bq_ (ax_ (ax_ (aE_ (J12 _ _ (Sq fun K17 J17 => Rk fun K J => sE rfl (sQ (bN_ en_93 rfl (fun w hw => a8_ false _ _ (dl_DL _) (Nat.le_trans (ip_ hb3.1) (by decide)) w (SL.sl (hX.sub (.trans (List.sublist_append_left _ _) (List.sublist_append_right _ _))) hw))) rfl (WL_r rfl (aA_ ty_37 rfl rfl (by repeat (first | exact .head _ | apply Upd.left | apply Upd.tail)) (ac_ _) rfl (at_ _) (.inl (by assumption)) ?_))))))))
      refine nl J (J17 _ _ (W_ret (ret1 rfl (.inr rfl) ⟨_, _, _, _, _, _, rfl, (by repeat (first | exact .head _ | apply List.mem_append_right | apply List.Mem.tail)), ty_37, _, (a5_ (ac_ _)), (ac_ _), rfl⟩ ?_)))
      (rw [pc_ ha hb ga gb (by rw [← hgc, hY0, Nat.gcd_zero_right]), dv_dl]; rfl)
 ·skip
  refine sE rfl (sE rfl (nl J (J5 _ _ ?_)))
  refine aZ_ _ rfl (fun w2 => ?_) (fun w2 => ?_)
  ·(try simp only [decide_eq_true_eq, decide_eq_false_iff_not, beq_iff_eq, bne_iff_ne, beq_eq_false_iff_ne, bne_eq_false_iff_eq, Bool.not_eq_true', Bool.not_eq_false'] at w2)
   refine Sq fun K18 J18 => as_ ?_
   refine bs_ [5, 7, 9, 28, 29, 30, 31, 32, 33, 34] (fun g nn M => ∃ (x y : Int), (g 5 = .int .i64 x ∧ g 7 = .int .i64 y) ∧ M = [⟨b4, 37, zR⟩, ⟨b3, 37, b.cells⟩, ⟨b2, 37, a.cells⟩] ∧ nn = y.natAbs ∧ ((-4611686018427387904 < x ∧ x < 4611686018427387904) ∧ (-4611686018427387904 < y ∧ y < 4611686018427387904) ∧ Int.gcd x y = Int.gcd (wordI a) (wordI b))) ((wordI b).natAbs) ?start ?round
   case start =>
    refine ⟨_, (List.Sublist.refl _), wordI a, wordI b, ⟨?a5, ?a7⟩, ?mem0, rfl, ⟨(du_ ha w1).2.2.2, (du_ hb w2).2.2.2, rfl⟩⟩
    case mem0 => rfl
    case a5 => rfl
    case a7 => rfl
   case round =>
    rintro nn g M ⟨x, y, ⟨hg5, hg7⟩, rfl, hmeas, ⟨hx, hy, hgc⟩⟩
    subst nn
    simp only [setG, hg5, hg7]
    clear hg5 hg7
    refine Sq fun K19 J19 => Sq fun K20 J20 => Rk fun K J => sE rfl (sE rfl (nl J (J20 _ _ ?_)))
    refine aZ_ _ rfl (fun h29 => ?_) (fun h29 => ?_)
    ·(try simp only [decide_eq_true_eq, decide_eq_false_iff_not, beq_iff_eq, bne_iff_ne, beq_eq_false_iff_ne, bne_eq_false_iff_eq, Bool.not_eq_true', Bool.not_eq_false'] at h29)
     refine am_ (J19 _ _ (as_ (Sq fun K21 J21 => Rk fun K J => sE rfl (sE rfl (sQ (q_rem rfl rfl h29) rfl (sE rfl (nl J (J21 _ _ (Sq fun K22 J22 => Rk fun K J => sE rfl (sE rfl (nl J (J22 _ _ (Rk fun K J => sE rfl (sE rfl ?_))))))))))))))
     refine nl J ?_
     refine ⟨(by repeat first | exact .refl | refine .cons rfl ?_), _, _, (List.Sublist.refl _), (eV_ (by simpa using h29)).1, y, x.tmod y, ⟨?s5, ?s7⟩, ?mem, rfl, ⟨hy, rn_ hx, by rw [← hgc]; exact ol_ x y⟩⟩
     case mem => rfl
     case s5 => rfl
     case s7 => rfl
    ·(try simp only [decide_eq_true_eq, decide_eq_false_iff_not, beq_iff_eq, bne_iff_ne, beq_eq_false_iff_ne, bne_eq_false_iff_eq, Bool.not_eq_true', Bool.not_eq_false'] at h29)
     have hy0 : y = 0 := by simpa using h29
     refine bq_ (ax_ (ax_ (aE_ (J18 _ _ (Sq fun K23 J23 => Rk fun K J => sE rfl (sQ (q_ret en_74 (bZ_ x (qT_ hx)) rfl) rfl (sQ (q_ret rP_ (f5_ (Z.of x).enc (Z.enc_ok _)) rfl) rfl (WL_r rfl (aA_ ty_37 rfl rfl (by repeat (first | exact .head _ | apply Upd.left | apply Upd.tail)) (ac_ _) rfl (at_ _) (.inl (by assumption)) ?_)))))))))
     refine nl J (J23 _ _ (W_ret (ah_ (ret1 rfl (.inr rfl) ⟨_, _, _, _, _, _, rfl, (by repeat (first | exact .head _ | apply List.mem_append_right | apply List.Mem.tail)), ty_37, _, (a5_ (ac_ _)), (ac_ _), rfl⟩ ?_))))
     (rw [gk_, nf_ ha hb w1 w2 hgc hy0]; rfl)
  ·(try simp only [decide_eq_true_eq, decide_eq_false_iff_not, beq_iff_eq, bne_iff_ne, beq_eq_false_iff_ne, bne_eq_false_iff_eq, Bool.not_eq_true', Bool.not_eq_false'] at w2)
   refine am_ (J4 _ _ (Sq fun K24 J24 => Sq fun K25 J25 => Rk fun K J => sQ (aK_ ty_37 rfl (by repeat (first | exact .head _ | apply List.mem_append_right | apply List.Mem.tail)) (aJ_ ha)) rfl ?_))
   refine sQ (q_ret en_86 (aO_ a ha) rfl) rfl (sE rfl (sE rfl ?_))
   cases ga : a.good
   ·skip
    refine WL_n rfl (WL_n rfl (WL_n rfl (sE rfl (nl J (J25 _ _ (bx_ rfl (Sq fun K26 J26 => Rk fun K J => sQ (q_ret en_90 bk_ rfl) rfl (WL_r rfl (aA_ ty_37 rfl rfl (by repeat (first | exact .head _ | apply Upd.left | apply Upd.tail)) (ac_ _) rfl (at_ _) (.inl (by assumption)) ?_)))))))))
    refine nl J (J26 _ _ (W_ret (ah_ (ret1 rfl (.inr rfl) ⟨_, _, _, _, _, _, rfl, (by repeat (first | exact .head _ | apply List.mem_append_right | apply List.Mem.tail)), ty_37, _, (a5_ (ac_ _)), (ac_ _), rfl⟩ ?_))))
    (rw [Z.gcd, c5_ (.inl (bad1 ga))]; rfl)
   ·skip
    refine sQ (aK_ ty_37 rfl (by repeat (first | exact .head _ | apply List.mem_append_right | apply List.Mem.tail)) (aJ_ hb)) rfl ?_
    refine sQ (q_ret en_86 (aO_ b hb) rfl) rfl (sE rfl (sE rfl (nl J (J25 _ _ ?_))))
    refine aZ_ _ rfl (fun gb => ?_) (fun gb => ?_)
    ·(try simp only [decide_eq_true_eq, decide_eq_false_iff_not, beq_iff_eq, bne_iff_ne, beq_eq_false_iff_ne, bne_eq_false_iff_eq, Bool.not_eq_true', Bool.not_eq_false'] at gb)
     refine Sq fun K27 J27 => Rk fun K J => sQ (q_ret en_90 bk_ rfl) rfl (WL_r rfl (aA_ ty_37 rfl rfl (by repeat (first | exact .head _ | apply Upd.left | apply Upd.tail)) (ac_ _) rfl (at_ _) (.inl (by assumption)) ?_))
     refine nl J (J27 _ _ (W_ret (ah_ (ret1 rfl (.inr rfl) ⟨_, _, _, _, _, _, rfl, (by repeat (first | exact .head _ | apply List.mem_append_right | apply List.Mem.tail)), ty_37, _, (a5_ (ac_ _)), (ac_ _), rfl⟩ ?_))))
     (rw [Z.gcd, c5_ (.inr (bad1 gb))]; rfl)
    ·(try simp only [decide_eq_true_eq, decide_eq_false_iff_not, beq_iff_eq, bne_iff_ne, beq_eq_false_iff_ne, bne_eq_false_iff_eq, Bool.not_eq_true', Bool.not_eq_false'] at gb)
     refine am_ (J24 _ _ (Sq fun K28 J28 => Rk fun K J => sQ (aK_ ty_37 rfl (by repeat (first | exact .head _ | apply List.mem_append_right | apply List.Mem.tail)) (aJ_ ha)) rfl ?_))
     refine WL_r rfl (cb_ en_87 rfl (fun w hw => aY_ a ha w) (fun v5 L5 h5 => sE rfl (nl J (J28 _ _ (Sq fun K29 J29 => Rk fun K J => sQ (aK_ ty_37 rfl (by repeat (first | exact .head _ | apply List.mem_append_right | apply List.Mem.tail)) (aJ_ hb)) rfl ?_)))))
     refine WL_r rfl (cb_ en_87 rfl (fun w hw => aY_ b hb w) (fun v6 L6 h6 => sE rfl (nl J (J29 _ _ (Sq fun K30 J30 => as_ ?_)))))
     refine bs_ [10, 11, 12, 13, 51, 52, 53, 54, 55, 56, 57, 58, 59, 60, 61] (fun g nn M => ∃ (X Y : Nat) (vx vy : Value) (Lx Ly : List Blk), (g 10 = vx ∧ g 11 = vy) ∧ M = Ly ++ (Lx ++ [⟨b4, 37, zR⟩, ⟨b3, 37, b.cells⟩, ⟨b2, 37, a.cells⟩]) ∧ nn = Y ∧ ((X < 65536 ^ 32 ∧ Y < 65536 ^ 32) ∧ Nat.gcd X Y = Nat.gcd (val a.w) (val b.w) ∧ SL w0 [] Lx vx (dl X) ∧ SL w0 [] Ly vy (dl Y))) (val b.w) ?start ?round
     case start =>
      refine ⟨_, (List.Sublist.refl _), val a.w, val b.w, v5, v6, L5, L6, ⟨?a10, ?a11⟩, ?mem0, rfl, ⟨⟨lt32' ha, lt32' hb⟩, rfl, h5.sl, h6.sl⟩⟩
      case mem0 => rfl
      case a10 => rfl
      case a11 => rfl
     case round =>
      rintro nn g M ⟨X, Y, vx, vy, Lx, Ly, ⟨hg10, hg11⟩, rfl, hmeas, ⟨hb3, hgc, hX, hY⟩⟩
      subst nn
      simp only [setG, hg10, hg11]
      clear hg10 hg11
      refine Sq fun K31 J31 => Sq fun K32 J32 => Rk fun K J => sE rfl (sQ (dZ_ sl_81 rfl (hY.sub (List.sublist_append_left _ _))) rfl (sE rfl (nl J (J32 _ _ ?_))))
      refine aZ_ _ rfl (fun h53 => ?_) (fun h53 => ?_)
      ·(try simp only [decide_eq_true_eq, decide_eq_false_iff_not, beq_iff_eq, bne_iff_ne, beq_eq_false_iff_ne, bne_eq_false_iff_eq, Bool.not_eq_true', Bool.not_eq_false'] at h53)
       have hYp : 0 < Y := nv_ h53
       refine am_ (J31 _ _ (as_ (Sq fun K33 J33 => Rk fun K J => sE rfl (sE rfl (WL_r rfl (ib_ en_91 rfl (fun w hw => dl_ vx vy X Y hYp (ip_ hb3.1) (ip_ hb3.2) w (SL.sl (hX.sub (.trans (List.sublist_append_left _ _) (List.sublist_append_right _ _))) hw) (SL.sl (hY.sub (List.sublist_append_left _ _)) hw)) (fun vq vr Lr hq hr => sE rfl (sE rfl (sE rfl (sE rfl (sE rfl (nl J (J33 _ _ (Sq fun K34 J34 => Rk fun K J => sE rfl (sE rfl (nl J ?_))))))))))))))))
       refine J34 _ _ (Rk fun K J => sE rfl (sE rfl (nl J ?_)))
       refine ⟨(by repeat first | exact .refl | refine .cons rfl ?_), _, _, (List.Sublist.append (List.Sublist.refl _) (List.Sublist.append (List.Sublist.refl _) (List.sublist_append_right _ _))), (Nat.mod_lt _ hYp), Y, X % Y, vy, vr, Ly, Lr, ⟨?s10, ?s11⟩, ?mem, rfl, ⟨⟨hb3.2, Nat.lt_of_le_of_lt (Nat.mod_le _ _) hb3.1⟩, by rw [← hgc]; exact kj_ X Y, hY, hr⟩⟩
       case mem => rfl
       case s10 => rfl
       case s11 => rfl
      ·(try simp only [decide_eq_true_eq, decide_eq_false_iff_not, beq_iff_eq, bne_iff_ne, beq_eq_false_iff_ne, bne_eq_false_iff_eq, Bool.not_eq_true', Bool.not_eq_false'] at h53)
       have hY0 : Y = 0 := lg_ h53
       refine bq_ (ax_ (ax_ (aE_ (J30 _ _ (Sq fun K35 J35 => Rk fun K J => sE rfl (sQ (bN_ en_93 rfl (fun w hw => a8_ false _ _ (dl_DL _) (Nat.le_trans (ip_ hb3.1) (by decide)) w (SL.sl (hX.sub (.trans (List.sublist_append_left _ _) (List.sublist_append_right _ _))) hw))) rfl (WL_r rfl (aA_ ty_37 rfl rfl (by repeat (first | exact .head _ | apply Upd.left | apply Upd.tail)) (ac_ _) rfl (at_ _) (.inl (by assumption)) ?_))))))))
       refine nl J (J35 _ _ (W_ret (ret1 rfl (.inr rfl) ⟨_, _, _, _, _, _, rfl, (by repeat (first | exact .head _ | apply List.mem_append_right | apply List.Mem.tail)), ty_37, _, (a5_ (ac_ _)), (ac_ _), rfl⟩ ?_)))
       (rw [pc_ ha hb ga gb (by rw [← hgc, hY0, Nat.gcd_zero_right]), dv_dl]; rfl)
end Go.Proofs.YtapbefpeopaecaaGreatDoor

