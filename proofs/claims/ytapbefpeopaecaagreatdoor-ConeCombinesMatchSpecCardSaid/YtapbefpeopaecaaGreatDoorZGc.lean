/- Walks: what these functions return. -/
import Derived.Test.YtapbefpeopaecaaGreatDoorZFa0
import Derived.Test.YtapbefpeopaecaaGreatDoorZFGc
import Derived.Test.YtapbefpeopaecaaGreatDoorZGa
import Derived.Test.YtapbefpeopaecaaGreatDoorZGd
import Derived.Test.YtapbefpeopaecaaGreatDoorZPq
import Derived.Test.YtapbefpeopaecaaGreatDoorZSg
import Derived.Test.YtapbefpeopaecaaGreatDoorZSr
import Derived.Test.YtapbefpeopaecaaGreatDoorZWc
import Derived.Test.YtapbefpeopaecaaGreatDoorZWh
namespace Go.Proofs.YtapbefpeopaecaaGreatDoor
open Go.Kn Go.Num
set_option linter.unusedVariables false
set_option linter.unusedSimpArgs false
set_option maxRecDepth 20000
set_option maxHeartbeats 8000000
theorem jE_ (a : Rt) (b : Rt) :
    Ret Tryz.prog 70 [AV [pI a.n, pI a.d], AV [pI b.n, pI b.d]] (.int .i64 ((dN_ a b).1)) := by
 refine as_ (N := 80) Tryz.func70 rfl rfl (by simp) (fun w0 => ?_)
 simp only [initF, Nat.reduceAdd]
 refine Rs fun K J => WL_r rfl (aQ_ rfl rfl (fun b1 hb1 => WL_r rfl (aQ_ rfl rfl (fun b2 hb2 => sE rfl (nl J (rb_ (ds (sk (sk (s0))) [0,4,8,12,16,20] [] mix (by kernel_rfl) (fun K J => pQ rfl (qL ty_39 rfl m1 rfl) (pQ rfl (q_ret hu_ (dg_ a) rfl) (pQ rfl (qL ty_39 rfl m0 rfl) (pQ rfl (q_ret hu_ (dg_ b) rfl) (pE rfl (pE rfl (fl J (Sq fun K1 J1 => ao_ ?_)))))))))))))))
 refine bV_ [15, 16, 17, 18, 19, 20, 21] (fun g M => (g 15 = .bool (!(a7_ a) && (!(a7_ b)))) ∧ M = [⟨b2, 39, flat [pI b.n, pI b.d]⟩, ⟨b1, 39, flat [pI a.n, pI a.d]⟩]) (fun K2 J2 => ?_) ?_
 ·skip
  refine Rk fun K J => sE rfl (sE rfl ?_)
  rcases bt (a7_ a) with h4 | h4
  ·skip
   refine sB (not_f h4) rfl (WL_n rfl (WL_n rfl (sE rfl (sE rfl (nl J ?_)))))
   refine J2 _ _ (by repeat first | exact .refl | refine .cons rfl ?_) ⟨_, s0, ?s15, rfl⟩
   case s15 => exact congrArg Value.bool (hX_ h4)
  ·skip
   refine sB (not_t h4) rfl (sE rfl (sE rfl (sE rfl (sE rfl (nl J ?_)))))
   refine J2 _ _ (by repeat first | exact .refl | refine .cons rfl ?_) ⟨_, s0, ?s15, rfl⟩
   case s15 => exact congrArg Value.bool (fS_ h4 rfl)
 ·skip
  rintro g5 M ⟨hg15, rfl⟩
  simp only [setG, hg15]
  clear hg15
  rcases bt (!(a7_ a) && (!(a7_ b))) with h6 | h6
  ·skip
   refine W_t h6 rfl (Rs fun K J => sE rfl (nl J (W_ret (aH_ (af_ (g4_ (ret1 rfl (.inr rfl) rfl ?_)))))))
   exact (by exact congrArg (fun r : W => (.int .i64 r.1 : Value)) (show _ = (dN_ a b) from bif_t h6 rfl))
  ·skip
   refine W_f h6 rfl (Rs fun K J => sE rfl (sE rfl (sE rfl (nl J ?_))))
   rcases bt (a7_ a) with h7 | h7
   ·skip
    refine W_f (not_f h7) rfl (Rs fun K J => sE rfl (sE rfl (sE rfl (nl J ?_))))
    rcases bt (a7_ b) with h8 | h8
    ·skip
     refine W_f (not_f h8) rfl (aj_ (J1 _ _ (Rs fun K J => sE rfl (nl J (Sq fun K3 J3 => q4_ (J3 _ _ (Sq fun K4 J4 => ao_ ?_)))))))
     refine bI_ [7, 8, 9, 10, 28, 29, 30, 31, 32, 33, 34, 35, 36, 37, 38, 39, 40, 41, 42, 43, 44, 45, 46, 47, 48, 49, 50, 51, 52, 53, 54, 55, 56, 57, 58, 59, 60, 61, 62, 63, 64, 65, 66, 67, 68, 69, 70, 71, 72, 73, 74, 75, 76, 77, 78] (fun g nn M => ∃ (o : W) (x : Rt) (y : Rt) (k : Nat), (g 7 = .int .i64 o.1) ∧ M = [⟨b2, 39, flat [pI y.n, pI y.d]⟩, ⟨b1, 39, flat [pI x.n, pI x.d]⟩] ∧ nn = k ∧ (cf k o x.n x.d y.n y.d = cf (cfN a.d) (wl 1) a.n a.d b.n b.d ∧ cfP k x.d)) ((cfN a.d)) ?start ?round
     case start =>
      refine ⟨_, s0, (wl 1), a, b, (cfN a.d), ?a7, rfl, rfl, ⟨rfl, nc_ h7⟩⟩
      case a7 => rfl
     case round =>
      rintro nn g M ⟨o, x, y, k, hg7, rfl, hmeas, hinv⟩
      subst nn
      simp only [setG, hg7]
      clear hg7
      obtain ⟨m, rfl⟩ := k9_ hinv.2
      refine ao_ (Sq fun K5 J5 => ds (sk (sk (s0))) [0,4,8,12,16,20,24,28,32,36,40,44] [] mix (by kernel_rfl) (fun K J => pQ rfl (qF cI_ rfl rfl) (pQ rfl (qL ty_37 rfl m1 rfl) (pQ rfl (qF b7_ rfl rfl) (pQ rfl (qL ty_37 rfl m1 rfl) (pC (AV [pI (E (Z.quo x.n.dec x.d.dec))]) en_97 (cH_ x.n.1 x.d.1 x.n.2 x.d.2) rfl rfl rfl (pQ rfl (qF cI_ rfl rfl) (pQ rfl (qL ty_37 rfl m0 rfl) (pQ rfl (qF b7_ rfl rfl) (pQ rfl (qL ty_37 rfl m0 rfl) (pC (AV [pI (E (Z.quo y.n.dec y.d.dec))]) en_97 (cH_ y.n.1 y.d.1 y.n.2 y.d.2) rfl rfl rfl (pC (.int .i64 ((Z.cmpW (Z.quo x.n.dec x.d.dec) (Z.quo y.n.dec y.d.dec)).1)) pO_ (hC_ (E (Z.quo x.n.dec x.d.dec)).1 (E (Z.quo y.n.dec y.d.dec)).1 (E (Z.quo x.n.dec x.d.dec)).2 (E (Z.quo y.n.dec y.d.dec)).2) rfl rfl (cg2 (fun p q => Value.int .i64 (Z.cmpW p q).1) (E_dec _) (E_dec _)) (pE rfl (fl J (Rs fun K J => sE rfl (sE rfl (nl J ?_)))))))))))))))))
      rcases bt ((Z.cmpW (Z.quo x.n.dec x.d.dec) (Z.quo y.n.dec y.d.dec)).1 != 0) with h9 | h9
      ·skip
       refine W_t h9 rfl (Rs fun K J => sE rfl (sE rfl (sV (.int .i64 ((W.mul o (Z.cmpW (Z.quo x.n.dec x.d.dec) (Z.quo y.n.dec y.d.dec))).1)) rfl rfl (sE rfl (nl J (bG_ (aw_ (hk_ (by decide) (aw_ (aC_ (J4 _ _ (Rs fun K J => sE rfl (sE rfl (nl J (W_ret (g4_ (ret1 rfl (.inr rfl) rfl ?_)))))))))))))))))
       exact (by exact congrArg (fun r : W => (.int .i64 r.1 : Value)) (show _ = (dN_ a b) from bif_f h6 (bif_t h7 (bif_t h8 ((cf_c hinv.1 h9))))))
      ·skip
       refine W_f h9 rfl (aj_ (J5 _ _ (W_sdr sn (.quiet 0 [1,7,16,17] (.quiet 1 [7,16,17] (.quiet 2 [3,6,7,14,15,16,17] (.quiet 3 [6,7,14,15,16,17] (.quiet 4 [5,6,7,14,15,16,17] (.quiet 5 [6,7,14,15,16,17] (.quiet 6 [7,14,15,16,17] (.quiet 7 [16,17] (.quiet 10 [11,14,15,16,17] (.quiet 11 [14,15,16,17] (.quiet 12 [13,14,15,16,17] (.quiet 13 [14,15,16,17] (.quiet 14 [15,16,17] (.still 8 [9,15,17] (.both 9 (.still 15 [17] (.only 16 (.only 17 (.fin)))) 16 (.quiet 9 [15,17] (.quiet 15 [17] (.only 17 (.fin))))))))))))))))))) [0,1,2,3,4,5,6,7,8,9,10,11,12,13,14,15] mix (by kernel_rfl) (by kernel_rfl) (fun K J => pQ rfl (qF b7_ rfl rfl) (pQ rfl (qL ty_37 rfl m1 rfl) (pQ rfl (qF cI_ rfl rfl) (pQ rfl (qL ty_37 rfl m1 rfl) (pQ rfl (qF b7_ rfl rfl) (pQ rfl (qL ty_37 rfl m1 rfl) (pC (AV [pI (E (Z.rem x.n.dec x.d.dec))]) pi_ (hL_ x.n.1 x.d.1 x.n.2 x.d.2) rfl rfl rfl (pQ rfl (b2_ zp_39 pl_39 rfl (.cons [pI x.d] [pI x.d, pI I0] rfl rfl rfl rfl (.cons [pI (E (Z.rem x.n.dec x.d.dec))] [pI x.d, pI (E (Z.rem x.n.dec x.d.dec))] rfl rfl rfl rfl (.nil _)))) (pQ rfl (qF cI_ rfl rfl) (pQ rfl (qL ty_37 rfl m0 rfl) (pQ rfl (qF b7_ rfl rfl) (pQ rfl (qL ty_37 rfl m0 rfl) (pC (AV [pI (E (Z.rem y.n.dec y.d.dec))]) pi_ (hL_ y.n.1 y.d.1 y.n.2 y.d.2) rfl rfl rfl (PL_s rfl rfl (q_ptr (off' := 18) (aS_ b7_ (by decide) rfl) rfl) ?_)))))))))))))))))
       refine PL_b ?_ ?_
       ·skip
        refine PL_o rfl rfl (jP_ (ix_ ty_37 rfl m0 rfl) ⟨fun _ => s0, sn, PL_s rfl rfl (b2_ zp_39 pl_39 rfl (.cons [pI y.d] [pI y.d, pI I0] rfl rfl rfl rfl (.cons [pI (E (Z.rem y.n.dec y.d.dec))] [pI y.d, pI (E (Z.rem y.n.dec y.d.dec))] rfl rfl rfl rfl (.nil _)))) (oS [pI x.d, pI (E (Z.rem x.n.dec x.d.dec))] ty_39 rfl rfl rfl rfl rfl rfl (.tail _ (.head _)) rfl hb1 rfl sn (oS [pI y.d, pI (E (Z.rem y.n.dec y.d.dec))] ty_39 rfl rfl rfl rfl rfl rfl (.head _) rfl hb2 rfl sn (fl J (ds (sk (sk (s0))) [0,4,8,12,16,20,24,28] [] mix (by kernel_rfl) (fun K J => pQ rfl (qF b7_ rfl rfl) (pQ rfl (qL ty_37 rfl m1 rfl) (pC (.int .i64 ((Z.signW (Z.rem x.n.dec x.d.dec)).1)) fQ_ (cx_ (E (Z.rem x.n.dec x.d.dec)).1 (E (Z.rem x.n.dec x.d.dec)).2) rfl rfl (cg1 (fun p => Value.int .i64 (Z.signW p).1) (E_dec _)) (pQ rfl (qF b7_ rfl rfl) (pQ rfl (qL ty_37 rfl m0 rfl) (pC (.int .i64 ((Z.signW (Z.rem y.n.dec y.d.dec)).1)) fQ_ (cx_ (E (Z.rem y.n.dec y.d.dec)).1 (E (Z.rem y.n.dec y.d.dec)).2) rfl rfl (cg1 (fun p => Value.int .i64 (Z.signW p).1) (E_dec _)) (pE rfl (pE rfl (fl J (Sq fun K6 J6 => ?_))))))))))))))⟩)
        refine bV_ [66, 67, 68, 69, 70, 71] (fun g M => (g 71 = .bool (((Z.signW (Z.rem x.n.dec x.d.dec)).1 == 0) || ((Z.signW (Z.rem y.n.dec y.d.dec)).1 == 0))) ∧ M = [⟨b2, 39, flat [pI y.d, pI (E (Z.rem y.n.dec y.d.dec))]⟩, ⟨b1, 39, flat [pI x.d, pI (E (Z.rem x.n.dec x.d.dec))]⟩]) (fun K7 J7 => ?_) ?_
        ·skip
         refine Rk fun K J => sE rfl (sE rfl ?_)
         rcases bt ((Z.signW (Z.rem x.n.dec x.d.dec)).1 == 0) with h11 | h11
         ·skip
          refine sB h11 rfl (WL_n rfl (WL_n rfl (sE rfl (nl J ?_))))
          refine J7 _ _ (by repeat first | exact .refl | refine .cons rfl ?_) ⟨_, s0, ?s71, rfl⟩
          case s71 => exact congrArg Value.bool (or_t h11)
         ·skip
          refine sB h11 rfl (sE rfl (sE rfl (sE rfl (nl J ?_))))
          refine J7 _ _ (by repeat first | exact .refl | refine .cons rfl ?_) ⟨_, s0, ?s71, rfl⟩
          case s71 => exact congrArg Value.bool (or_f h11 rfl)
        ·skip
         rintro g12 M ⟨hg71, rfl⟩
         simp only [setG, hg71]
         clear hg71
         rcases bt (((Z.signW (Z.rem x.n.dec x.d.dec)).1 == 0) || ((Z.signW (Z.rem y.n.dec y.d.dec)).1 == 0)) with h13 | h13
         ·skip
          refine W_t h13 rfl (Rs fun K J => sE rfl (sE rfl (sE rfl (sV (.int .i64 ((W.sub (Z.signW (Z.rem x.n.dec x.d.dec)) (Z.signW (Z.rem y.n.dec y.d.dec))).1)) rfl rfl (sV (.int .i64 ((W.mul o (W.sub (Z.signW (Z.rem x.n.dec x.d.dec)) (Z.signW (Z.rem y.n.dec y.d.dec)))).1)) rfl rfl (sE rfl (nl J (bG_ (aw_ (hk_ (by decide) (aw_ (aC_ (J4 _ _ (Rs fun K J => sE rfl (sE rfl (nl J (W_ret (g4_ (ret1 rfl (.inr rfl) rfl ?_)))))))))))))))))))
          exact (by exact congrArg (fun r : W => (.int .i64 r.1 : Value)) (show _ = (dN_ a b) from bif_f h6 (bif_t h7 (bif_t h8 ((cf_s hinv.1 h9 h13))))))
         ·skip
          refine W_f h13 rfl (aj_ (J6 _ _ (Rk fun K J => sE rfl (sV (.int .i64 ((W.neg o).1)) rfl rfl (sE rfl (nl J ?_))))))
          refine ⟨(by repeat first | exact .refl | refine .cons rfl ?_), _, _, s0, (Nat.lt_succ_self m), (W.neg o), (⟨x.d, (E (Z.rem x.n.dec x.d.dec))⟩ : Rt), (⟨y.d, (E (Z.rem y.n.dec y.d.dec))⟩ : Rt), m, ?s7, rfl, rfl, cf_n hinv h9 h13⟩
          case s7 => rfl
       ·skip
        refine oS [pI x.d, pI (E (Z.rem x.n.dec x.d.dec))] ty_39 rfl rfl rfl rfl rfl rfl (.tail _ (.head _)) rfl hb1 rfl sn (pQ rfl (qL ty_37 rfl m0 rfl) (pQ rfl (b2_ zp_39 pl_39 rfl (.cons [pI y.d] [pI y.d, pI I0] rfl rfl rfl rfl (.cons [pI (E (Z.rem y.n.dec y.d.dec))] [pI y.d, pI (E (Z.rem y.n.dec y.d.dec))] rfl rfl rfl rfl (.nil _)))) (oS [pI y.d, pI (E (Z.rem y.n.dec y.d.dec))] ty_39 rfl rfl rfl rfl rfl rfl (.head _) rfl hb2 rfl sn (fl J (ds (sk (sk (s0))) [0,4,8,12,16,20,24,28] [] mix (by kernel_rfl) (fun K J => pQ rfl (qF b7_ rfl rfl) (pQ rfl (qL ty_37 rfl m1 rfl) (pC (.int .i64 ((Z.signW (Z.rem x.n.dec x.d.dec)).1)) fQ_ (cx_ (E (Z.rem x.n.dec x.d.dec)).1 (E (Z.rem x.n.dec x.d.dec)).2) rfl rfl (cg1 (fun p => Value.int .i64 (Z.signW p).1) (E_dec _)) (pQ rfl (qF b7_ rfl rfl) (pQ rfl (qL ty_37 rfl m0 rfl) (pC (.int .i64 ((Z.signW (Z.rem y.n.dec y.d.dec)).1)) fQ_ (cx_ (E (Z.rem y.n.dec y.d.dec)).1 (E (Z.rem y.n.dec y.d.dec)).2) rfl rfl (cg1 (fun p => Value.int .i64 (Z.signW p).1) (E_dec _)) (pE rfl (pE rfl (fl J (Sq fun K8 J8 => ?_)))))))))))))))
        refine bV_ [66, 67, 68, 69, 70, 71] (fun g M => (g 71 = .bool (((Z.signW (Z.rem x.n.dec x.d.dec)).1 == 0) || ((Z.signW (Z.rem y.n.dec y.d.dec)).1 == 0))) ∧ M = [⟨b2, 39, flat [pI y.d, pI (E (Z.rem y.n.dec y.d.dec))]⟩, ⟨b1, 39, flat [pI x.d, pI (E (Z.rem x.n.dec x.d.dec))]⟩]) (fun K9 J9 => ?_) ?_
        ·skip
         refine Rk fun K J => sE rfl (sE rfl ?_)
         rcases bt ((Z.signW (Z.rem x.n.dec x.d.dec)).1 == 0) with h15 | h15
         ·skip
          refine sB h15 rfl (WL_n rfl (WL_n rfl (sE rfl (nl J ?_))))
          refine J9 _ _ (by repeat first | exact .refl | refine .cons rfl ?_) ⟨_, s0, ?s71, rfl⟩
          case s71 => exact congrArg Value.bool (or_t h15)
         ·skip
          refine sB h15 rfl (sE rfl (sE rfl (sE rfl (nl J ?_))))
          refine J9 _ _ (by repeat first | exact .refl | refine .cons rfl ?_) ⟨_, s0, ?s71, rfl⟩
          case s71 => exact congrArg Value.bool (or_f h15 rfl)
        ·skip
         rintro g16 M ⟨hg71, rfl⟩
         simp only [setG, hg71]
         clear hg71
         rcases bt (((Z.signW (Z.rem x.n.dec x.d.dec)).1 == 0) || ((Z.signW (Z.rem y.n.dec y.d.dec)).1 == 0)) with h17 | h17
         ·skip
          refine W_t h17 rfl (Rs fun K J => sE rfl (sE rfl (sE rfl (sV (.int .i64 ((W.sub (Z.signW (Z.rem x.n.dec x.d.dec)) (Z.signW (Z.rem y.n.dec y.d.dec))).1)) rfl rfl (sV (.int .i64 ((W.mul o (W.sub (Z.signW (Z.rem x.n.dec x.d.dec)) (Z.signW (Z.rem y.n.dec y.d.dec)))).1)) rfl rfl (sE rfl (nl J (bG_ (aw_ (hk_ (by decide) (aw_ (aC_ (J4 _ _ (Rs fun K J => sE rfl (sE rfl (nl J (W_ret (g4_ (ret1 rfl (.inr rfl) rfl ?_)))))))))))))))))))
          exact (by exact congrArg (fun r : W => (.int .i64 r.1 : Value)) (show _ = (dN_ a b) from bif_f h6 (bif_t h7 (bif_t h8 ((cf_s hinv.1 h9 h17))))))
         ·skip
          refine W_f h17 rfl (aj_ (J8 _ _ (Rk fun K J => sE rfl (sV (.int .i64 ((W.neg o).1)) rfl rfl (sE rfl (nl J ?_))))))
          refine ⟨(by repeat first | exact .refl | refine .cons rfl ?_), _, _, s0, (Nat.lt_succ_self m), (W.neg o), (⟨x.d, (E (Z.rem x.n.dec x.d.dec))⟩ : Rt), (⟨y.d, (E (Z.rem y.n.dec y.d.dec))⟩ : Rt), m, ?s7, rfl, rfl, cf_n hinv h9 h17⟩
          case s7 => rfl
    ·skip
     refine W_t (not_t h8) rfl (Rs fun K J => sE rfl (nl J (W_ret (aH_ (af_ (g4_ (ret1 rfl (.inr rfl) rfl ?_)))))))
     exact (by exact congrArg (fun r : W => (.int .i64 r.1 : Value)) (show _ = (dN_ a b) from bif_f h6 (bif_t h7 (bif_f h8 rfl))))
   ·skip
    refine W_t (not_t h7) rfl (Rs fun K J => sE rfl (nl J (W_ret (aH_ (af_ (g4_ (ret1 rfl (.inr rfl) rfl ?_)))))))
    exact (by exact congrArg (fun r : W => (.int .i64 r.1 : Value)) (show _ = (dN_ a b) from bif_f h6 (bif_f h7 rfl)))

theorem gD_ (a : Rt) (b : Rt) :
    Ret Tryz.prog 72 [AV [pI a.n, pI a.d], AV [pI b.n, pI b.d]] (.int .i64 ((cW_ a b).1)) := by
 refine as_ (N := 95) Tryz.func72 rfl rfl (by simp) (fun w0 => ?_)
 simp only [initF, Nat.reduceAdd]
 refine Rs fun K J => WL_r rfl (aQ_ rfl rfl (fun b1 hb1 => WL_r rfl (aQ_ rfl rfl (fun b2 hb2 => sE rfl (nl J (Rs fun K J => sQ (qL ty_39 rfl m1 rfl) rfl (sQ (q_ret en_51 (bo_ a) rfl) rfl (sE rfl (nl J (Rs fun K J => sQ (qL ty_39 rfl m0 rfl) rfl (sQ (q_ret en_51 (bo_ b) rfl) rfl (sE rfl (nl J (Sq fun K1 J1 => ?_))))))))))))))
 refine bV_ [17, 18, 19, 20, 21, 22] (fun g M => (g 22 = .bool (!(ae_ a) || (!(ae_ b)))) ∧ M = [⟨b2, 39, flat [pI b.n, pI b.d]⟩, ⟨b1, 39, flat [pI a.n, pI a.d]⟩]) (fun K2 J2 => ?_) ?_
 ·skip
  refine Rk fun K J => sE rfl (sE rfl ?_)
  rcases bt (ae_ a) with h4 | h4
  ·skip
   refine sB (not_f h4) rfl (sE rfl (sE rfl (sE rfl (nl J ?_))))
   refine J2 _ _ (by repeat first | exact .refl | refine .cons rfl ?_) ⟨_, s0, ?s22, rfl⟩
   case s22 => exact congrArg Value.bool (nor_t h4 rfl)
  ·skip
   refine sB (not_t h4) rfl (WL_n rfl (WL_n rfl (sE rfl (nl J ?_))))
   refine J2 _ _ (by repeat first | exact .refl | refine .cons rfl ?_) ⟨_, s0, ?s22, rfl⟩
   case s22 => exact congrArg Value.bool (nor_f h4)
 ·skip
  rintro g5 M ⟨hg22, rfl⟩
  simp only [setG, hg22]
  clear hg22
  rcases bt (!(ae_ a) || (!(ae_ b))) with h6 | h6
  ·skip
   refine W_t h6 rfl (ds (sk (sk (s0))) [0,4,8,12,16,20,24,28] [] mix (by kernel_rfl) (fun K J => pQ rfl (qL ty_39 rfl m1 rfl) (pE rfl (pQ rfl (q_ret po_ (eP_ a (ae_ a)) rfl) (pQ rfl (qL ty_39 rfl m0 rfl) (pE rfl (pQ rfl (q_ret po_ (eP_ b (ae_ b)) rfl) ?_)))))))
   obtain ⟨r7, hr7⟩ := nm ((Z.cmpW (bN_ a (ae_ a)).dec (bN_ b (ae_ b)).dec) : W)
   refine pC (.int .i64 r7.1) ly_ (dF_ (bN_ a (ae_ a)).1 (bN_ b (ae_ b)).1 (bN_ a (ae_ a)).2 (bN_ b (ae_ b)).2) rfl rfl (by rw [hr7]; first | done | rfl) (pE rfl (fl J (W_ret (af_ (ret1 rfl (.inr rfl) rfl ?_)))))
   exact (by subst hr7; exact congrArg (fun r : W => (.int .i64 r.1 : Value)) (show _ = (cW_ a b) from bif_t h6 rfl))
  ·skip
   refine W_f h6 rfl (aj_ (J1 _ _ (Rs fun K J => sE rfl (nl J (Rs fun K J => sQ (qF cI_ rfl rfl) rfl (sQ (qL ty_37 rfl m1 rfl) rfl (sQ (qF b7_ rfl rfl) rfl (sQ (qL ty_37 rfl m1 rfl) rfl (sQ (bM_ jb_ eM_ rfl (.cons [pI a.n] [pI a.n, pI I0] rfl rfl rfl rfl (.cons [pI a.d] [pI a.n, pI a.d] rfl rfl rfl rfl (.nil _)))) rfl (sN jb_ rfl fun b8 hb8 => sS [pI a.n, pI a.d] lc_ rfl rfl rfl rfl rfl (.head _) rfl hb8 (nl J (Rs fun K J => sQ (qF cI_ rfl rfl) rfl (sQ (qL ty_37 rfl m1 rfl) rfl (sQ (qF b7_ rfl rfl) rfl (sQ (qL ty_37 rfl m1 rfl) rfl ?_)))))))))))))))
   refine sQ (bM_ jb_ eM_ rfl (.cons [pI b.n] [pI b.n, pI I0] rfl rfl rfl rfl (.cons [pI b.d] [pI b.n, pI b.d] rfl rfl rfl rfl (.nil _)))) rfl (sN jb_ rfl fun b9 hb9 => sS [pI b.n, pI b.d] lc_ rfl rfl rfl rfl rfl (.head _) rfl hb9 (nl J (ao_ ?_)))
   refine bI_ [4, 7, 10, 11, 12, 40, 41, 42, 43, 44, 45, 46, 47, 48, 49, 50, 51, 52, 53, 54, 55, 56, 57, 58, 59, 60, 61, 62, 63, 64, 65, 66, 67, 68, 69, 70, 71, 72, 73, 74, 75, 76, 77, 78, 79, 80, 81, 82, 83, 84, 85, 86, 87, 88, 89, 90, 91, 92, 93, 94] (fun g nn M => ∃ (o : W) (x : (A2 I)) (y : (A2 I)) (k : Nat), (g 7 = .int .i64 o.1) ∧ M = [⟨b9, 118, flat [pI y.x, pI y.y]⟩, ⟨b8, 118, flat [pI x.x, pI x.y]⟩, ⟨b2, 39, flat [pI b.n, pI b.d]⟩, ⟨b1, 39, flat [pI a.n, pI a.d]⟩] ∧ nn = k ∧ (cf k o x.x x.y y.x y.y = cf (cfN a.d) (wl 1) a.n a.d b.n b.d ∧ cfP k x.y)) ((cfN a.d)) ?start ?round
   case start =>
    refine ⟨_, s0, (wl 1), (⟨a.n, a.d⟩ : (A2 I)), (⟨b.n, b.d⟩ : (A2 I)), (cfN a.d), ?a7, rfl, rfl, ⟨rfl, nb_ (qi_ h6)⟩⟩
    case a7 => rfl
   case round =>
    rintro nn g M ⟨o, x, y, k, hg7, rfl, hmeas, hinv⟩
    subst nn
    simp only [setG, hg7]
    clear hg7
    obtain ⟨m, rfl⟩ := k9_ hinv.2
    refine ao_ (Rs fun K J => sQ (qA eM_ rfl rfl rfl) rfl (sQ (qL ty_37 rfl m1 rfl) rfl (sQ (qA eM_ rfl rfl rfl) rfl (sQ (qL ty_37 rfl m1 rfl) rfl (sC (AV [pI (E (Z.quo x.x.dec x.y.dec))]) en_78 (bB_ x.x.1 x.y.1 x.x.2 x.y.2) rfl rfl rfl (sN zp_37 rfl fun b10 hb10 => sS [pI (E (Z.quo x.x.dec x.y.dec))] ty_37 rfl rfl rfl rfl rfl (.head _) rfl hb10 (nl J (Rs fun K J => sQ (qA eM_ rfl rfl rfl) rfl (sQ (qL ty_37 rfl m1 rfl) rfl (sQ (qA eM_ rfl rfl rfl) rfl (sQ (qL ty_37 rfl m1 rfl) rfl (sC (AV [pI (E (Z.quo y.x.dec y.y.dec))]) en_78 (bB_ y.x.1 y.y.1 y.x.2 y.y.2) rfl rfl rfl (sN zp_37 rfl fun b11 hb11 => sS [pI (E (Z.quo y.x.dec y.y.dec))] ty_37 rfl rfl rfl rfl rfl (.head _) rfl hb11 (nl J (Rs fun K J => ?_)))))))))))))))
    refine sQ (qL ty_37 rfl m1 rfl) rfl (sQ (qL ty_37 rfl m0 rfl) rfl (sC (.int .i64 ((Z.cmpW (Z.quo x.x.dec x.y.dec) (Z.quo y.x.dec y.y.dec)).1)) ly_ (dF_ (E (Z.quo x.x.dec x.y.dec)).1 (E (Z.quo y.x.dec y.y.dec)).1 (E (Z.quo x.x.dec x.y.dec)).2 (E (Z.quo y.x.dec y.y.dec)).2) rfl rfl (cg2 (fun p q => Value.int .i64 (Z.cmpW p q).1) (E_dec _) (E_dec _)) (sE rfl (nl J (Sq fun K3 J3 => Rs fun K J => sE rfl (sE rfl (nl J ?_)))))))
    rcases bt ((Z.cmpW (Z.quo x.x.dec x.y.dec) (Z.quo y.x.dec y.y.dec)).1 != 0) with h12 | h12
    ·skip
     refine W_t h12 rfl (Rs fun K J => sE rfl (sE rfl (sV (.int .i64 ((W.mul o (Z.cmpW (Z.quo x.x.dec x.y.dec) (Z.quo y.x.dec y.y.dec))).1)) rfl rfl (sE rfl (nl J (W_ret (af_ (aH_ (af_ (aH_ (ret1 rfl (.inr rfl) rfl ?_)))))))))))
     exact (by exact congrArg (fun r : W => (.int .i64 r.1 : Value)) (show _ = (cW_ a b) from bif_f h6 ((cf_c hinv.1 h12))))
    ·skip
     refine W_f h12 rfl (aj_ (J3 _ _ (ds (sk (sk (sk (sd (sk (sk (s0))))))) [0,4,8,12,16,20,24,28,33] [8] mix (by kernel_rfl) (fun K J => pQ rfl (qA eM_ rfl rfl rfl) (pQ rfl (qL ty_37 rfl m3 rfl) (pQ rfl (qA eM_ rfl rfl rfl) (pQ rfl (qL ty_37 rfl m3 rfl) (pQ rfl (qA eM_ rfl rfl rfl) (pQ rfl (qL ty_37 rfl m3 rfl) (pC (AV [pI (E (Z.rem x.x.dec x.y.dec))]) en_41 (fc_ x.x.1 x.y.1 x.x.2 x.y.2) rfl rfl rfl (pQ rfl (bM_ jb_ eM_ rfl (.cons [pI x.y] [pI x.y, pI I0] rfl rfl rfl rfl (.cons [pI (E (Z.rem x.x.dec x.y.dec))] [pI x.y, pI (E (Z.rem x.x.dec x.y.dec))] rfl rfl rfl rfl (.nil _)))) (oS [pI x.y, pI (E (Z.rem x.x.dec x.y.dec))] lc_ rfl rfl rfl rfl rfl rfl (.tail _ (.tail _ (.tail _ (.head _)))) rfl hb8 rfl (sk (sk (sk (sd s0)))) (fl J (ds (sk (sk (sd (sk (sk (sk (s0))))))) [0,4,8,12,16,20,24,28,33] [8] mix (by kernel_rfl) (fun K J => pQ rfl (qA eM_ rfl rfl rfl) (pQ rfl (qL ty_37 rfl m2 rfl) (pQ rfl (qA eM_ rfl rfl rfl) (pQ rfl (qL ty_37 rfl m2 rfl) (pQ rfl (qA eM_ rfl rfl rfl) ?_)))))))))))))))))))
     refine pQ rfl (qL ty_37 rfl m2 rfl) (pC (AV [pI (E (Z.rem y.x.dec y.y.dec))]) en_41 (fc_ y.x.1 y.y.1 y.x.2 y.y.2) rfl rfl rfl (pQ rfl (bM_ jb_ eM_ rfl (.cons [pI y.y] [pI y.y, pI I0] rfl rfl rfl rfl (.cons [pI (E (Z.rem y.x.dec y.y.dec))] [pI y.y, pI (E (Z.rem y.x.dec y.y.dec))] rfl rfl rfl rfl (.nil _)))) (oS [pI y.y, pI (E (Z.rem y.x.dec y.y.dec))] lc_ rfl rfl rfl rfl rfl rfl (.tail _ (.tail _ (.head _))) rfl hb9 rfl (sk (sk (sd s0))) (fl J (Sq fun K4 J4 => ?_)))))
     refine bV_ [74, 75, 76, 77, 78, 79, 80, 81, 82, 83] (fun g M => (g 83 = .bool (((Z.signW (Z.rem x.x.dec x.y.dec)).1 == 0) || ((Z.signW (Z.rem y.x.dec y.y.dec)).1 == 0))) ∧ M = [⟨b11, 37, flat [pI (E (Z.quo y.x.dec y.y.dec))]⟩, ⟨b10, 37, flat [pI (E (Z.quo x.x.dec x.y.dec))]⟩, ⟨b9, 118, flat [pI y.y, pI (E (Z.rem y.x.dec y.y.dec))]⟩, ⟨b8, 118, flat [pI x.y, pI (E (Z.rem x.x.dec x.y.dec))]⟩, ⟨b2, 39, flat [pI b.n, pI b.d]⟩, ⟨b1, 39, flat [pI a.n, pI a.d]⟩]) (fun K5 J5 => ?_) ?_
     ·skip
      refine Rk fun K J => sQ (qA eM_ rfl rfl rfl) rfl (sQ (qL ty_37 rfl m3 rfl) rfl (sC (.int .i64 ((Z.signW (Z.rem x.x.dec x.y.dec)).1)) en_40 (ca_ (E (Z.rem x.x.dec x.y.dec)).1 (E (Z.rem x.x.dec x.y.dec)).2) rfl rfl (cg1 (fun p => Value.int .i64 (Z.signW p).1) (E_dec _)) (sE rfl ?_)))
      rcases bt ((Z.signW (Z.rem x.x.dec x.y.dec)).1 == 0) with h14 | h14
      ·skip
       refine sB h14 rfl (WL_n rfl (WL_n rfl (WL_n rfl (WL_n rfl (sE rfl (nl J ?_))))))
       refine J5 _ _ (by repeat first | exact .refl | refine .cons rfl ?_) ⟨_, s0, ?s83, rfl⟩
       case s83 => exact congrArg Value.bool (or_t h14)
      ·skip
       refine sB h14 rfl (sQ (qA eM_ rfl rfl rfl) rfl (sQ (qL ty_37 rfl m2 rfl) rfl (sC (.int .i64 ((Z.signW (Z.rem y.x.dec y.y.dec)).1)) en_40 (ca_ (E (Z.rem y.x.dec y.y.dec)).1 (E (Z.rem y.x.dec y.y.dec)).2) rfl rfl (cg1 (fun p => Value.int .i64 (Z.signW p).1) (E_dec _)) (sE rfl (sE rfl (nl J ?_))))))
       refine J5 _ _ (by repeat first | exact .refl | refine .cons rfl ?_) ⟨_, s0, ?s83, rfl⟩
       case s83 => exact congrArg Value.bool (or_f h14 rfl)
     ·skip
      rintro g15 M ⟨hg83, rfl⟩
      simp only [setG, hg83]
      clear hg83
      rcases bt (((Z.signW (Z.rem x.x.dec x.y.dec)).1 == 0) || ((Z.signW (Z.rem y.x.dec y.y.dec)).1 == 0)) with h16 | h16
      ·skip
       refine W_t h16 rfl (ds (sk (sk (sk (sk (sk (sk (s0))))))) [0,4,8,12,16,20,24,28,32,36] [] mix (by kernel_rfl) (fun K J => pE rfl (pQ rfl (qA eM_ rfl rfl rfl) (pQ rfl (qL ty_37 rfl m3 rfl) (pC (.int .i64 ((Z.signW (Z.rem x.x.dec x.y.dec)).1)) en_40 (ca_ (E (Z.rem x.x.dec x.y.dec)).1 (E (Z.rem x.x.dec x.y.dec)).2) rfl rfl (cg1 (fun p => Value.int .i64 (Z.signW p).1) (E_dec _)) (pQ rfl (qA eM_ rfl rfl rfl) (pQ rfl (qL ty_37 rfl m2 rfl) (pC (.int .i64 ((Z.signW (Z.rem y.x.dec y.y.dec)).1)) en_40 (ca_ (E (Z.rem y.x.dec y.y.dec)).1 (E (Z.rem y.x.dec y.y.dec)).2) rfl rfl (cg1 (fun p => Value.int .i64 (Z.signW p).1) (E_dec _)) (pV (.int .i64 ((W.sub (Z.signW (Z.rem x.x.dec x.y.dec)) (Z.signW (Z.rem y.x.dec y.y.dec))).1)) rfl rfl (pV (.int .i64 ((W.mul o (W.sub (Z.signW (Z.rem x.x.dec x.y.dec)) (Z.signW (Z.rem y.x.dec y.y.dec)))).1)) rfl rfl (pE rfl (fl J (W_ret (af_ (aH_ (af_ (aH_ (ret1 rfl (.inr rfl) rfl ?_))))))))))))))))))
       exact (by exact congrArg (fun r : W => (.int .i64 r.1 : Value)) (show _ = (cW_ a b) from bif_f h6 ((cf_s hinv.1 h12 h16))))
      ·skip
       refine W_f h16 rfl (aj_ (J4 _ _ (Rk fun K J => sE rfl (sV (.int .i64 ((W.neg o).1)) rfl rfl (sE rfl (nl J ?_))))))
       refine ⟨(by repeat first | exact .refl | refine .cons rfl ?_), _, _, (sd (sd (s0))), (Nat.lt_succ_self m), (W.neg o), (⟨x.y, (E (Z.rem x.x.dec x.y.dec))⟩ : (A2 I)), (⟨y.y, (E (Z.rem y.x.dec y.y.dec))⟩ : (A2 I)), m, ?s7, rfl, rfl, cf_n hinv h12 h16⟩
       case s7 => rfl
end Go.Proofs.YtapbefpeopaecaaGreatDoor

