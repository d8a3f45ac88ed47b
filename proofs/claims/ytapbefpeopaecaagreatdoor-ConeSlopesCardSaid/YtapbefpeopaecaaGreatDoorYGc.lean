/- Walks: what these functions return. -/
import Derived.Test.YtapbefpeopaecaaGreatDoorYGE
import Derived.Test.YtapbefpeopaecaaGreatDoorYFn
import Derived.Test.YtapbefpeopaecaaGreatDoorYGa
import Derived.Test.YtapbefpeopaecaaGreatDoorYGd
import Derived.Test.YtapbefpeopaecaaGreatDoorYSg
import Derived.Test.YtapbefpeopaecaaGreatDoorYWc
import Derived.Test.YtapbefpeopaecaaGreatDoorYWh
namespace Go.Proofs.YtapbefpeopaecaaGreatDoor
open Go.Kn Go.Num
set_option linter.unusedVariables false
set_option linter.unusedSimpArgs false
set_option maxRecDepth 20000
set_option maxHeartbeats 8000000
theorem jp_ (a : Rt) (b : Rt) :
    Ret Tryz.prog 70 [AV [pI a.n, pI a.d], AV [pI b.n, pI b.d]] (.int .i64 ((cK_ a b).1)) := by
 refine av_ (N := 80) Tryz.func70 rfl rfl (by simp) (fun w0 => ?_)
 simp only [initF, Nat.reduceAdd]
 refine Rs fun K J => WL_r rfl (a1_ rfl rfl (fun b1 hb1 => WL_r rfl (a1_ rfl rfl (fun b2 hb2 => sE rfl (nl J (p1_ (ds (sk (sk (s0))) [0,4,8,12,16,20] [] mix (by kernel_rfl) (fun K J => pQ rfl (qL ty_39 rfl m1 rfl) (pQ rfl (q_ret hd_ (c0_ a) rfl) (pQ rfl (qL ty_39 rfl m0 rfl) (pQ rfl (q_ret hd_ (c0_ b) rfl) (pE rfl (pE rfl (fl J (Sq fun K1 J1 => ar_ ?_)))))))))))))))
 refine bQ_ [15, 16, 17, 18, 19, 20, 21] (fun g M => (g 15 = .bool (!(a5_ a) && (!(a5_ b)))) ∧ M = [⟨b2, 39, flat [pI b.n, pI b.d]⟩, ⟨b1, 39, flat [pI a.n, pI a.d]⟩]) (fun K2 J2 => ?_) ?_
 ·skip
  refine Rk fun K J => sE rfl (sE rfl ?_)
  rcases bt (a5_ a) with h4 | h4
  ·skip
   refine sB (not_f h4) rfl (WL_n rfl (WL_n rfl (sE rfl (sE rfl (nl J ?_)))))
   refine J2 _ _ (by repeat first | exact .refl | refine .cons rfl ?_) ⟨_, s0, ?s15, rfl⟩
   case s15 => exact congrArg Value.bool (hu_ h4)
  ·skip
   refine sB (not_t h4) rfl (sE rfl (sE rfl (sE rfl (sE rfl (nl J ?_)))))
   refine J2 _ _ (by repeat first | exact .refl | refine .cons rfl ?_) ⟨_, s0, ?s15, rfl⟩
   case s15 => exact congrArg Value.bool (fz_ h4 rfl)
 ·skip
  rintro g5 M ⟨hg15, rfl⟩
  simp only [setG, hg15]
  clear hg15
  rcases bt (!(a5_ a) && (!(a5_ b))) with h6 | h6
  ·skip
   refine W_t h6 rfl (Rs fun K J => sE rfl (nl J (W_ret (aB_ (ai_ (gE_ (ret1 rfl (.inr rfl) rfl ?_)))))))
   exact (by exact congrArg (fun r : W => (.int .i64 r.1 : Value)) (show _ = (cK_ a b) from bif_t h6 rfl))
  ·skip
   refine W_f h6 rfl (Rs fun K J => sE rfl (sE rfl (sE rfl (nl J ?_))))
   rcases bt (a5_ a) with h7 | h7
   ·skip
    refine W_f (not_f h7) rfl (Rs fun K J => sE rfl (sE rfl (sE rfl (nl J ?_))))
    rcases bt (a5_ b) with h8 | h8
    ·skip
     refine W_f (not_f h8) rfl (ak_ (J1 _ _ (Rs fun K J => sE rfl (nl J (Sq fun K3 J3 => qu_ (J3 _ _ (Sq fun K4 J4 => ar_ ?_)))))))
     refine bN_ [7, 8, 9, 10, 28, 29, 30, 31, 32, 33, 34, 35, 36, 37, 38, 39, 40, 41, 42, 43, 44, 45, 46, 47, 48, 49, 50, 51, 52, 53, 54, 55, 56, 57, 58, 59, 60, 61, 62, 63, 64, 65, 66, 67, 68, 69, 70, 71, 72, 73, 74, 75, 76, 77, 78] (fun g nn M => ∃ (o : W) (x : Rt) (y : Rt) (k : Nat), (g 7 = .int .i64 o.1) ∧ M = [⟨b2, 39, flat [pI y.n, pI y.d]⟩, ⟨b1, 39, flat [pI x.n, pI x.d]⟩] ∧ nn = k ∧ (cf k o x.n x.d y.n y.d = cf (cfN a.d) (wl 1) a.n a.d b.n b.d ∧ cfP k x.d)) ((cfN a.d)) ?start ?round
     case start =>
      refine ⟨_, s0, (wl 1), a, b, (cfN a.d), ?a7, rfl, rfl, ⟨rfl, na_ h7⟩⟩
      case a7 => rfl
     case round =>
      rintro nn g M ⟨o, x, y, k, hg7, rfl, hmeas, hinv⟩
      subst nn
      simp only [setG, hg7]
      clear hg7
      obtain ⟨m, rfl⟩ := kG_ hinv.2
      refine ar_ (Sq fun K5 J5 => ds (sk (sk (s0))) [0,4,8,12,16,20,24,28,32,36,40,44] [] mix (by kernel_rfl) (fun K J => pQ rfl (qF cu_ rfl rfl) (pQ rfl (qL ty_37 rfl m1 rfl) (pQ rfl (qF b0_ rfl rfl) (pQ rfl (qL ty_37 rfl m1 rfl) (pC (AV [pI (E (Z.quo x.n.dec x.d.dec))]) en_97 (cj_ x.n.1 x.d.1 x.n.2 x.d.2) rfl rfl rfl (pQ rfl (qF cu_ rfl rfl) (pQ rfl (qL ty_37 rfl m0 rfl) (pQ rfl (qF b0_ rfl rfl) (pQ rfl (qL ty_37 rfl m0 rfl) (pC (AV [pI (E (Z.quo y.n.dec y.d.dec))]) en_97 (cj_ y.n.1 y.d.1 y.n.2 y.d.2) rfl rfl rfl (pC (.int .i64 ((Z.cmpW (Z.quo x.n.dec x.d.dec) (Z.quo y.n.dec y.d.dec)).1)) o3_ (g6_ (E (Z.quo x.n.dec x.d.dec)).1 (E (Z.quo y.n.dec y.d.dec)).1 (E (Z.quo x.n.dec x.d.dec)).2 (E (Z.quo y.n.dec y.d.dec)).2) rfl rfl (cg2 (fun p q => Value.int .i64 (Z.cmpW p q).1) (E_dec _) (E_dec _)) (pE rfl (fl J (Rs fun K J => sE rfl (sE rfl (nl J ?_)))))))))))))))))
      rcases bt ((Z.cmpW (Z.quo x.n.dec x.d.dec) (Z.quo y.n.dec y.d.dec)).1 != 0) with h9 | h9
      ·skip
       refine W_t h9 rfl (Rs fun K J => sE rfl (sE rfl (sV (.int .i64 ((W.mul o (Z.cmpW (Z.quo x.n.dec x.d.dec) (Z.quo y.n.dec y.d.dec))).1)) rfl rfl (sE rfl (nl J (bB_ (ax_ (gM_ (by decide) (ax_ (aF_ (J4 _ _ (Rs fun K J => sE rfl (sE rfl (nl J (W_ret (gE_ (ret1 rfl (.inr rfl) rfl ?_)))))))))))))))))
       exact (by exact congrArg (fun r : W => (.int .i64 r.1 : Value)) (show _ = (cK_ a b) from bif_f h6 (bif_t h7 (bif_t h8 ((cf_c hinv.1 h9))))))
      ·skip
       refine W_f h9 rfl (ak_ (J5 _ _ (W_sdr sn (.quiet 0 [1,7,16,17] (.quiet 1 [7,16,17] (.quiet 2 [3,6,7,14,15,16,17] (.quiet 3 [6,7,14,15,16,17] (.quiet 4 [5,6,7,14,15,16,17] (.quiet 5 [6,7,14,15,16,17] (.quiet 6 [7,14,15,16,17] (.quiet 7 [16,17] (.quiet 10 [11,14,15,16,17] (.quiet 11 [14,15,16,17] (.quiet 12 [13,14,15,16,17] (.quiet 13 [14,15,16,17] (.quiet 14 [15,16,17] (.still 8 [9,15,17] (.both 9 (.still 15 [17] (.only 16 (.only 17 (.fin)))) 16 (.quiet 9 [15,17] (.quiet 15 [17] (.only 17 (.fin))))))))))))))))))) [0,1,2,3,4,5,6,7,8,9,10,11,12,13,14,15] mix (by kernel_rfl) (by kernel_rfl) (fun K J => pQ rfl (qF b0_ rfl rfl) (pQ rfl (qL ty_37 rfl m1 rfl) (pQ rfl (qF cu_ rfl rfl) (pQ rfl (qL ty_37 rfl m1 rfl) (pQ rfl (qF b0_ rfl rfl) (pQ rfl (qL ty_37 rfl m1 rfl) (pC (AV [pI (E (Z.rem x.n.dec x.d.dec))]) pv_ (hb_ x.n.1 x.d.1 x.n.2 x.d.2) rfl rfl rfl (pQ rfl (cy_ zp_39 pl_39 rfl (.cons [pI x.d] [pI x.d, pI I0] rfl rfl rfl rfl (.cons [pI (E (Z.rem x.n.dec x.d.dec))] [pI x.d, pI (E (Z.rem x.n.dec x.d.dec))] rfl rfl rfl rfl (.nil _)))) (pQ rfl (qF cu_ rfl rfl) (pQ rfl (qL ty_37 rfl m0 rfl) (pQ rfl (qF b0_ rfl rfl) (pQ rfl (qL ty_37 rfl m0 rfl) (pC (AV [pI (E (Z.rem y.n.dec y.d.dec))]) pv_ (hb_ y.n.1 y.d.1 y.n.2 y.d.2) rfl rfl rfl (PL_s rfl rfl (q_ptr (off' := 18) (aW_ b0_ (by decide) rfl) rfl) ?_)))))))))))))))))
       refine PL_b ?_ ?_
       ·skip
        refine PL_o rfl rfl (jb_ (ib_ ty_37 rfl m0 rfl) ⟨fun _ => s0, sn, PL_s rfl rfl (cy_ zp_39 pl_39 rfl (.cons [pI y.d] [pI y.d, pI I0] rfl rfl rfl rfl (.cons [pI (E (Z.rem y.n.dec y.d.dec))] [pI y.d, pI (E (Z.rem y.n.dec y.d.dec))] rfl rfl rfl rfl (.nil _)))) (oS [pI x.d, pI (E (Z.rem x.n.dec x.d.dec))] ty_39 rfl rfl rfl rfl rfl rfl (.tail _ (.head _)) rfl hb1 rfl sn (oS [pI y.d, pI (E (Z.rem y.n.dec y.d.dec))] ty_39 rfl rfl rfl rfl rfl rfl (.head _) rfl hb2 rfl sn (fl J (ds (sk (sk (s0))) [0,4,8,12,16,20,24,28] [] mix (by kernel_rfl) (fun K J => pQ rfl (qF b0_ rfl rfl) (pQ rfl (qL ty_37 rfl m1 rfl) (pC (.int .i64 ((Z.signW (Z.rem x.n.dec x.d.dec)).1)) fu_ (cf_ (E (Z.rem x.n.dec x.d.dec)).1 (E (Z.rem x.n.dec x.d.dec)).2) rfl rfl (cg1 (fun p => Value.int .i64 (Z.signW p).1) (E_dec _)) (pQ rfl (qF b0_ rfl rfl) (pQ rfl (qL ty_37 rfl m0 rfl) (pC (.int .i64 ((Z.signW (Z.rem y.n.dec y.d.dec)).1)) fu_ (cf_ (E (Z.rem y.n.dec y.d.dec)).1 (E (Z.rem y.n.dec y.d.dec)).2) rfl rfl (cg1 (fun p => Value.int .i64 (Z.signW p).1) (E_dec _)) (pE rfl (pE rfl (fl J (Sq fun K6 J6 => ?_))))))))))))))⟩)
        refine bQ_ [66, 67, 68, 69, 70, 71] (fun g M => (g 71 = .bool (((Z.signW (Z.rem x.n.dec x.d.dec)).1 == 0) || ((Z.signW (Z.rem y.n.dec y.d.dec)).1 == 0))) ∧ M = [⟨b2, 39, flat [pI y.d, pI (E (Z.rem y.n.dec y.d.dec))]⟩, ⟨b1, 39, flat [pI x.d, pI (E (Z.rem x.n.dec x.d.dec))]⟩]) (fun K7 J7 => ?_) ?_
        ·skip
         refine Rk fun K J => sE rfl (sE rfl ?_)
         rcases bt ((Z.signW (Z.rem x.n.dec x.d.dec)).1 == 0) with h11 | h11
         ·skip
          refine sB h11 rfl (WL_n rfl (WL_n rfl (sE rfl (nl J ?_))))
          refine J7 _ _ (by repeat first | exact .refl | refine .cons rfl ?_) ⟨_, s0, ?s71, rfl⟩
          case s71 => exact congrArg Value.bool (or_t h11)
         ·skip
          refine sB h11 rfl (sE rfl (sE rfl (sE rfl (nl J ?_))))
          refine J7 _ _ (by repeat first | exact .refl | refine .cons rfl ?_) ⟨_, s0, ?s71, rfl⟩
          case s71 => exact congrArg Value.bool (or_f h11 rfl)
        ·skip
         rintro g12 M ⟨hg71, rfl⟩
         simp only [setG, hg71]
         clear hg71
         rcases bt (((Z.signW (Z.rem x.n.dec x.d.dec)).1 == 0) || ((Z.signW (Z.rem y.n.dec y.d.dec)).1 == 0)) with h13 | h13
         ·skip
          refine W_t h13 rfl (Rs fun K J => sE rfl (sE rfl (sE rfl (sV (.int .i64 ((W.sub (Z.signW (Z.rem x.n.dec x.d.dec)) (Z.signW (Z.rem y.n.dec y.d.dec))).1)) rfl rfl (sV (.int .i64 ((W.mul o (W.sub (Z.signW (Z.rem x.n.dec x.d.dec)) (Z.signW (Z.rem y.n.dec y.d.dec)))).1)) rfl rfl (sE rfl (nl J (bB_ (ax_ (gM_ (by decide) (ax_ (aF_ (J4 _ _ (Rs fun K J => sE rfl (sE rfl (nl J (W_ret (gE_ (ret1 rfl (.inr rfl) rfl ?_)))))))))))))))))))
          exact (by exact congrArg (fun r : W => (.int .i64 r.1 : Value)) (show _ = (cK_ a b) from bif_f h6 (bif_t h7 (bif_t h8 ((cf_s hinv.1 h9 h13))))))
         ·skip
          refine W_f h13 rfl (ak_ (J6 _ _ (Rk fun K J => sE rfl (sV (.int .i64 ((W.neg o).1)) rfl rfl (sE rfl (nl J ?_))))))
          refine ⟨(by repeat first | exact .refl | refine .cons rfl ?_), _, _, s0, (Nat.lt_succ_self m), (W.neg o), (⟨x.d, (E (Z.rem x.n.dec x.d.dec))⟩ : Rt), (⟨y.d, (E (Z.rem y.n.dec y.d.dec))⟩ : Rt), m, ?s7, rfl, rfl, cf_n hinv h9 h13⟩
          case s7 => rfl
       ·skip
        refine oS [pI x.d, pI (E (Z.rem x.n.dec x.d.dec))] ty_39 rfl rfl rfl rfl rfl rfl (.tail _ (.head _)) rfl hb1 rfl sn (pQ rfl (qL ty_37 rfl m0 rfl) (pQ rfl (cy_ zp_39 pl_39 rfl (.cons [pI y.d] [pI y.d, pI I0] rfl rfl rfl rfl (.cons [pI (E (Z.rem y.n.dec y.d.dec))] [pI y.d, pI (E (Z.rem y.n.dec y.d.dec))] rfl rfl rfl rfl (.nil _)))) (oS [pI y.d, pI (E (Z.rem y.n.dec y.d.dec))] ty_39 rfl rfl rfl rfl rfl rfl (.head _) rfl hb2 rfl sn (fl J (ds (sk (sk (s0))) [0,4,8,12,16,20,24,28] [] mix (by kernel_rfl) (fun K J => pQ rfl (qF b0_ rfl rfl) (pQ rfl (qL ty_37 rfl m1 rfl) (pC (.int .i64 ((Z.signW (Z.rem x.n.dec x.d.dec)).1)) fu_ (cf_ (E (Z.rem x.n.dec x.d.dec)).1 (E (Z.rem x.n.dec x.d.dec)).2) rfl rfl (cg1 (fun p => Value.int .i64 (Z.signW p).1) (E_dec _)) (pQ rfl (qF b0_ rfl rfl) (pQ rfl (qL ty_37 rfl m0 rfl) (pC (.int .i64 ((Z.signW (Z.rem y.n.dec y.d.dec)).1)) fu_ (cf_ (E (Z.rem y.n.dec y.d.dec)).1 (E (Z.rem y.n.dec y.d.dec)).2) rfl rfl (cg1 (fun p => Value.int .i64 (Z.signW p).1) (E_dec _)) (pE rfl (pE rfl (fl J (Sq fun K8 J8 => ?_)))))))))))))))
        refine bQ_ [66, 67, 68, 69, 70, 71] (fun g M => (g 71 = .bool (((Z.signW (Z.rem x.n.dec x.d.dec)).1 == 0) || ((Z.signW (Z.rem y.n.dec y.d.dec)).1 == 0))) ∧ M = [⟨b2, 39, flat [pI y.d, pI (E (Z.rem y.n.dec y.d.dec))]⟩, ⟨b1, 39, flat [pI x.d, pI (E (Z.rem x.n.dec x.d.dec))]⟩]) (fun K9 J9 => ?_) ?_
        ·skip
         refine Rk fun K J => sE rfl (sE rfl ?_)
         rcases bt ((Z.signW (Z.rem x.n.dec x.d.dec)).1 == 0) with h15 | h15
         ·skip
          refine sB h15 rfl (WL_n rfl (WL_n rfl (sE rfl (nl J ?_))))
          refine J9 _ _ (by repeat first | exact .refl | refine .cons rfl ?_) ⟨_, s0, ?s71, rfl⟩
          case s71 => exact congrArg Value.bool (or_t h15)
         ·skip
          refine sB h15 rfl (sE rfl (sE rfl (sE rfl (nl J ?_))))
          refine J9 _ _ (by repeat first | exact .refl | refine .cons rfl ?_) ⟨_, s0, ?s71, rfl⟩
          case s71 => exact congrArg Value.bool (or_f h15 rfl)
        ·skip
         rintro g16 M ⟨hg71, rfl⟩
         simp only [setG, hg71]
         clear hg71
         rcases bt (((Z.signW (Z.rem x.n.dec x.d.dec)).1 == 0) || ((Z.signW (Z.rem y.n.dec y.d.dec)).1 == 0)) with h17 | h17
         ·skip
          refine W_t h17 rfl (Rs fun K J => sE rfl (sE rfl (sE rfl (sV (.int .i64 ((W.sub (Z.signW (Z.rem x.n.dec x.d.dec)) (Z.signW (Z.rem y.n.dec y.d.dec))).1)) rfl rfl (sV (.int .i64 ((W.mul o (W.sub (Z.signW (Z.rem x.n.dec x.d.dec)) (Z.signW (Z.rem y.n.dec y.d.dec)))).1)) rfl rfl (sE rfl (nl J (bB_ (ax_ (gM_ (by decide) (ax_ (aF_ (J4 _ _ (Rs fun K J => sE rfl (sE rfl (nl J (W_ret (gE_ (ret1 rfl (.inr rfl) rfl ?_)))))))))))))))))))
          exact (by exact congrArg (fun r : W => (.int .i64 r.1 : Value)) (show _ = (cK_ a b) from bif_f h6 (bif_t h7 (bif_t h8 ((cf_s hinv.1 h9 h17))))))
         ·skip
          refine W_f h17 rfl (ak_ (J8 _ _ (Rk fun K J => sE rfl (sV (.int .i64 ((W.neg o).1)) rfl rfl (sE rfl (nl J ?_))))))
          refine ⟨(by repeat first | exact .refl | refine .cons rfl ?_), _, _, s0, (Nat.lt_succ_self m), (W.neg o), (⟨x.d, (E (Z.rem x.n.dec x.d.dec))⟩ : Rt), (⟨y.d, (E (Z.rem y.n.dec y.d.dec))⟩ : Rt), m, ?s7, rfl, rfl, cf_n hinv h9 h17⟩
          case s7 => rfl
    ·skip
     refine W_t (not_t h8) rfl (Rs fun K J => sE rfl (nl J (W_ret (aB_ (ai_ (gE_ (ret1 rfl (.inr rfl) rfl ?_)))))))
     exact (by exact congrArg (fun r : W => (.int .i64 r.1 : Value)) (show _ = (cK_ a b) from bif_f h6 (bif_t h7 (bif_f h8 rfl))))
   ·skip
    refine W_t (not_t h7) rfl (Rs fun K J => sE rfl (nl J (W_ret (aB_ (ai_ (gE_ (ret1 rfl (.inr rfl) rfl ?_)))))))
    exact (by exact congrArg (fun r : W => (.int .i64 r.1 : Value)) (show _ = (cK_ a b) from bif_f h6 (bif_f h7 rfl)))

theorem f4_ (a : Rt) (b : Rt) :
    Ret Tryz.prog 72 [AV [pI a.n, pI a.d], AV [pI b.n, pI b.d]] (.int .i64 ((cr_ a b).1)) := by
 refine av_ (N := 95) Tryz.func72 rfl rfl (by simp) (fun w0 => ?_)
 simp only [initF, Nat.reduceAdd]
 refine Rs fun K J => WL_r rfl (a1_ rfl rfl (fun b1 hb1 => WL_r rfl (a1_ rfl rfl (fun b2 hb2 => sE rfl (nl J (Rs fun K J => sQ (qL ty_39 rfl m1 rfl) rfl (sQ (q_ret en_51 (b1_ a) rfl) rfl (sE rfl (nl J (Rs fun K J => sQ (qL ty_39 rfl m0 rfl) rfl (sQ (q_ret en_51 (b1_ b) rfl) rfl (sE rfl (nl J (Sq fun K1 J1 => ?_))))))))))))))
 refine bQ_ [17, 18, 19, 20, 21, 22] (fun g M => (g 22 = .bool (!(al_ a) || (!(al_ b)))) ∧ M = [⟨b2, 39, flat [pI b.n, pI b.d]⟩, ⟨b1, 39, flat [pI a.n, pI a.d]⟩]) (fun K2 J2 => ?_) ?_
 ·skip
  refine Rk fun K J => sE rfl (sE rfl ?_)
  rcases bt (al_ a) with h4 | h4
  ·skip
   refine sB (not_f h4) rfl (sE rfl (sE rfl (sE rfl (nl J ?_))))
   refine J2 _ _ (by repeat first | exact .refl | refine .cons rfl ?_) ⟨_, s0, ?s22, rfl⟩
   case s22 => exact congrArg Value.bool (nor_t h4 rfl)
  ·skip
   refine sB (not_t h4) rfl (WL_n rfl (WL_n rfl (sE rfl (nl J ?_))))
   refine J2 _ _ (by repeat first | exact .refl | refine .cons rfl ?_) ⟨_, s0, ?s22, rfl⟩
   case s22 => exact congrArg Value.bool (nor_f h4)
 ·skip
  rintro g5 M ⟨hg22, rfl⟩
  simp only [setG, hg22]
  clear hg22
  rcases bt (!(al_ a) || (!(al_ b))) with h6 | h6
  ·skip
   refine W_t h6 rfl (ds (sk (sk (s0))) [0,4,8,12,16,20,24,28] [] mix (by kernel_rfl) (fun K J => pQ rfl (qL ty_39 rfl m1 rfl) (pE rfl (pQ rfl (q_ret pA_ (ev_ a (al_ a)) rfl) (pQ rfl (qL ty_39 rfl m0 rfl) (pE rfl (pQ rfl (q_ret pA_ (ev_ b (al_ b)) rfl) ?_)))))))
   obtain ⟨r7, hr7⟩ := nm ((Z.cmpW (bw_ a (al_ a)).dec (bw_ b (al_ b)).dec) : W)
   refine pC (.int .i64 r7.1) lH_ (ds_ (bw_ a (al_ a)).1 (bw_ b (al_ b)).1 (bw_ a (al_ a)).2 (bw_ b (al_ b)).2) rfl rfl (by rw [hr7]; first | done | rfl) (pE rfl (fl J (W_ret (ai_ (ret1 rfl (.inr rfl) rfl ?_)))))
   exact (by subst hr7; exact congrArg (fun r : W => (.int .i64 r.1 : Value)) (show _ = (cr_ a b) from bif_t h6 rfl))
  ·skip
   refine W_f h6 rfl (ak_ (J1 _ _ (Rs fun K J => sE rfl (nl J (Rs fun K J => sQ (qF cu_ rfl rfl) rfl (sQ (qL ty_37 rfl m1 rfl) rfl (sQ (qF b0_ rfl rfl) rfl (sQ (qL ty_37 rfl m1 rfl) rfl (sQ (bH_ iH_ et_ rfl (.cons [pI a.n] [pI a.n, pI I0] rfl rfl rfl rfl (.cons [pI a.d] [pI a.n, pI a.d] rfl rfl rfl rfl (.nil _)))) rfl (sN iH_ rfl fun b8 hb8 => sS [pI a.n, pI a.d] kM_ rfl rfl rfl rfl rfl (.head _) rfl hb8 (nl J (Rs fun K J => sQ (qF cu_ rfl rfl) rfl (sQ (qL ty_37 rfl m1 rfl) rfl (sQ (qF b0_ rfl rfl) rfl (sQ (qL ty_37 rfl m1 rfl) rfl ?_)))))))))))))))
   refine sQ (bH_ iH_ et_ rfl (.cons [pI b.n] [pI b.n, pI I0] rfl rfl rfl rfl (.cons [pI b.d] [pI b.n, pI b.d] rfl rfl rfl rfl (.nil _)))) rfl (sN iH_ rfl fun b9 hb9 => sS [pI b.n, pI b.d] kM_ rfl rfl rfl rfl rfl (.head _) rfl hb9 (nl J (ar_ ?_)))
   refine bN_ [4, 7, 10, 11, 12, 40, 41, 42, 43, 44, 45, 46, 47, 48, 49, 50, 51, 52, 53, 54, 55, 56, 57, 58, 59, 60, 61, 62, 63, 64, 65, 66, 67, 68, 69, 70, 71, 72, 73, 74, 75, 76, 77, 78, 79, 80, 81, 82, 83, 84, 85, 86, 87, 88, 89, 90, 91, 92, 93, 94] (fun g nn M => ∃ (o : W) (x : (A2 I)) (y : (A2 I)) (k : Nat), (g 7 = .int .i64 o.1) ∧ M = [⟨b9, 118, flat [pI y.x, pI y.y]⟩, ⟨b8, 118, flat [pI x.x, pI x.y]⟩, ⟨b2, 39, flat [pI b.n, pI b.d]⟩, ⟨b1, 39, flat [pI a.n, pI a.d]⟩] ∧ nn = k ∧ (cf k o x.x x.y y.x y.y = cf (cfN a.d) (wl 1) a.n a.d b.n b.d ∧ cfP k x.y)) ((cfN a.d)) ?start ?round
   case start =>
    refine ⟨_, s0, (wl 1), (⟨a.n, a.d⟩ : (A2 I)), (⟨b.n, b.d⟩ : (A2 I)), (cfN a.d), ?a7, rfl, rfl, ⟨rfl, nB_ (qJ_ h6)⟩⟩
    case a7 => rfl
   case round =>
    rintro nn g M ⟨o, x, y, k, hg7, rfl, hmeas, hinv⟩
    subst nn
    simp only [setG, hg7]
    clear hg7
    obtain ⟨m, rfl⟩ := kG_ hinv.2
    refine ar_ (Rs fun K J => sQ (qA et_ rfl rfl rfl) rfl (sQ (qL ty_37 rfl m1 rfl) rfl (sQ (qA et_ rfl rfl rfl) rfl (sQ (qL ty_37 rfl m1 rfl) rfl (sC (AV [pI (E (Z.quo x.x.dec x.y.dec))]) en_78 (bC_ x.x.1 x.y.1 x.x.2 x.y.2) rfl rfl rfl (sN zp_37 rfl fun b10 hb10 => sS [pI (E (Z.quo x.x.dec x.y.dec))] ty_37 rfl rfl rfl rfl rfl (.head _) rfl hb10 (nl J (Rs fun K J => sQ (qA et_ rfl rfl rfl) rfl (sQ (qL ty_37 rfl m1 rfl) rfl (sQ (qA et_ rfl rfl rfl) rfl (sQ (qL ty_37 rfl m1 rfl) rfl (sC (AV [pI (E (Z.quo y.x.dec y.y.dec))]) en_78 (bC_ y.x.1 y.y.1 y.x.2 y.y.2) rfl rfl rfl (sN zp_37 rfl fun b11 hb11 => sS [pI (E (Z.quo y.x.dec y.y.dec))] ty_37 rfl rfl rfl rfl rfl (.head _) rfl hb11 (nl J (Rs fun K J => ?_)))))))))))))))
    refine sQ (qL ty_37 rfl m1 rfl) rfl (sQ (qL ty_37 rfl m0 rfl) rfl (sC (.int .i64 ((Z.cmpW (Z.quo x.x.dec x.y.dec) (Z.quo y.x.dec y.y.dec)).1)) lH_ (ds_ (E (Z.quo x.x.dec x.y.dec)).1 (E (Z.quo y.x.dec y.y.dec)).1 (E (Z.quo x.x.dec x.y.dec)).2 (E (Z.quo y.x.dec y.y.dec)).2) rfl rfl (cg2 (fun p q => Value.int .i64 (Z.cmpW p q).1) (E_dec _) (E_dec _)) (sE rfl (nl J (Sq fun K3 J3 => Rs fun K J => sE rfl (sE rfl (nl J ?_)))))))
    rcases bt ((Z.cmpW (Z.quo x.x.dec x.y.dec) (Z.quo y.x.dec y.y.dec)).1 != 0) with h12 | h12
    ·skip
     refine W_t h12 rfl (Rs fun K J => sE rfl (sE rfl (sV (.int .i64 ((W.mul o (Z.cmpW (Z.quo x.x.dec x.y.dec) (Z.quo y.x.dec y.y.dec))).1)) rfl rfl (sE rfl (nl J (W_ret (ai_ (aB_ (ai_ (aB_ (ret1 rfl (.inr rfl) rfl ?_)))))))))))
     exact (by exact congrArg (fun r : W => (.int .i64 r.1 : Value)) (show _ = (cr_ a b) from bif_f h6 ((cf_c hinv.1 h12))))
    ·skip
     refine W_f h12 rfl (ak_ (J3 _ _ (ds (sk (sk (sk (sd (sk (sk (s0))))))) [0,4,8,12,16,20,24,28,33] [8] mix (by kernel_rfl) (fun K J => pQ rfl (qA et_ rfl rfl rfl) (pQ rfl (qL ty_37 rfl m3 rfl) (pQ rfl (qA et_ rfl rfl rfl) (pQ rfl (qL ty_37 rfl m3 rfl) (pQ rfl (qA et_ rfl rfl rfl) (pQ rfl (qL ty_37 rfl m3 rfl) (pC (AV [pI (E (Z.rem x.x.dec x.y.dec))]) en_41 (cb_ x.x.1 x.y.1 x.x.2 x.y.2) rfl rfl rfl (pQ rfl (bH_ iH_ et_ rfl (.cons [pI x.y] [pI x.y, pI I0] rfl rfl rfl rfl (.cons [pI (E (Z.rem x.x.dec x.y.dec))] [pI x.y, pI (E (Z.rem x.x.dec x.y.dec))] rfl rfl rfl rfl (.nil _)))) (oS [pI x.y, pI (E (Z.rem x.x.dec x.y.dec))] kM_ rfl rfl rfl rfl rfl rfl (.tail _ (.tail _ (.tail _ (.head _)))) rfl hb8 rfl (sk (sk (sk (sd s0)))) (fl J (ds (sk (sk (sd (sk (sk (sk (s0))))))) [0,4,8,12,16,20,24,28,33] [8] mix (by kernel_rfl) (fun K J => pQ rfl (qA et_ rfl rfl rfl) (pQ rfl (qL ty_37 rfl m2 rfl) (pQ rfl (qA et_ rfl rfl rfl) (pQ rfl (qL ty_37 rfl m2 rfl) (pQ rfl (qA et_ rfl rfl rfl) ?_)))))))))))))))))))
     refine pQ rfl (qL ty_37 rfl m2 rfl) (pC (AV [pI (E (Z.rem y.x.dec y.y.dec))]) en_41 (cb_ y.x.1 y.y.1 y.x.2 y.y.2) rfl rfl rfl (pQ rfl (bH_ iH_ et_ rfl (.cons [pI y.y] [pI y.y, pI I0] rfl rfl rfl rfl (.cons [pI (E (Z.rem y.x.dec y.y.dec))] [pI y.y, pI (E (Z.rem y.x.dec y.y.dec))] rfl rfl rfl rfl (.nil _)))) (oS [pI y.y, pI (E (Z.rem y.x.dec y.y.dec))] kM_ rfl rfl rfl rfl rfl rfl (.tail _ (.tail _ (.head _))) rfl hb9 rfl (sk (sk (sd s0))) (fl J (Sq fun K4 J4 => ?_)))))
     refine bQ_ [74, 75, 76, 77, 78, 79, 80, 81, 82, 83] (fun g M => (g 83 = .bool (((Z.signW (Z.rem x.x.dec x.y.dec)).1 == 0) || ((Z.signW (Z.rem y.x.dec y.y.dec)).1 == 0))) ∧ M = [⟨b11, 37, flat [pI (E (Z.quo y.x.dec y.y.dec))]⟩, ⟨b10, 37, flat [pI (E (Z.quo x.x.dec x.y.dec))]⟩, ⟨b9, 118, flat [pI y.y, pI (E (Z.rem y.x.dec y.y.dec))]⟩, ⟨b8, 118, flat [pI x.y, pI (E (Z.rem x.x.dec x.y.dec))]⟩, ⟨b2, 39, flat [pI b.n, pI b.d]⟩, ⟨b1, 39, flat [pI a.n, pI a.d]⟩]) (fun K5 J5 => ?_) ?_
     ·skip
      refine Rk fun K J => sQ (qA et_ rfl rfl rfl) rfl (sQ (qL ty_37 rfl m3 rfl) rfl (sC (.int .i64 ((Z.signW (Z.rem x.x.dec x.y.dec)).1)) en_40 (ba_ (E (Z.rem x.x.dec x.y.dec)).1 (E (Z.rem x.x.dec x.y.dec)).2) rfl rfl (cg1 (fun p => Value.int .i64 (Z.signW p).1) (E_dec _)) (sE rfl ?_)))
      rcases bt ((Z.signW (Z.rem x.x.dec x.y.dec)).1 == 0) with h14 | h14
      ·skip
       refine sB h14 rfl (WL_n rfl (WL_n rfl (WL_n rfl (WL_n rfl (sE rfl (nl J ?_))))))
       refine J5 _ _ (by repeat first | exact .refl | refine .cons rfl ?_) ⟨_, s0, ?s83, rfl⟩
       case s83 => exact congrArg Value.bool (or_t h14)
      ·skip
       refine sB h14 rfl (sQ (qA et_ rfl rfl rfl) rfl (sQ (qL ty_37 rfl m2 rfl) rfl (sC (.int .i64 ((Z.signW (Z.rem y.x.dec y.y.dec)).1)) en_40 (ba_ (E (Z.rem y.x.dec y.y.dec)).1 (E (Z.rem y.x.dec y.y.dec)).2) rfl rfl (cg1 (fun p => Value.int .i64 (Z.signW p).1) (E_dec _)) (sE rfl (sE rfl (nl J ?_))))))
       refine J5 _ _ (by repeat first | exact .refl | refine .cons rfl ?_) ⟨_, s0, ?s83, rfl⟩
       case s83 => exact congrArg Value.bool (or_f h14 rfl)
     ·skip
      rintro g15 M ⟨hg83, rfl⟩
      simp only [setG, hg83]
      clear hg83
      rcases bt (((Z.signW (Z.rem x.x.dec x.y.dec)).1 == 0) || ((Z.signW (Z.rem y.x.dec y.y.dec)).1 == 0)) with h16 | h16
      ·skip
       refine W_t h16 rfl (ds (sk (sk (sk (sk (sk (sk (s0))))))) [0,4,8,12,16,20,24,28,32,36] [] mix (by kernel_rfl) (fun K J => pE rfl (pQ rfl (qA et_ rfl rfl rfl) (pQ rfl (qL ty_37 rfl m3 rfl) (pC (.int .i64 ((Z.signW (Z.rem x.x.dec x.y.dec)).1)) en_40 (ba_ (E (Z.rem x.x.dec x.y.dec)).1 (E (Z.rem x.x.dec x.y.dec)).2) rfl rfl (cg1 (fun p => Value.int .i64 (Z.signW p).1) (E_dec _)) (pQ rfl (qA et_ rfl rfl rfl) (pQ rfl (qL ty_37 rfl m2 rfl) (pC (.int .i64 ((Z.signW (Z.rem y.x.dec y.y.dec)).1)) en_40 (ba_ (E (Z.rem y.x.dec y.y.dec)).1 (E (Z.rem y.x.dec y.y.dec)).2) rfl rfl (cg1 (fun p => Value.int .i64 (Z.signW p).1) (E_dec _)) (pV (.int .i64 ((W.sub (Z.signW (Z.rem x.x.dec x.y.dec)) (Z.signW (Z.rem y.x.dec y.y.dec))).1)) rfl rfl (pV (.int .i64 ((W.mul o (W.sub (Z.signW (Z.rem x.x.dec x.y.dec)) (Z.signW (Z.rem y.x.dec y.y.dec)))).1)) rfl rfl (pE rfl (fl J (W_ret (ai_ (aB_ (ai_ (aB_ (ret1 rfl (.inr rfl) rfl ?_))))))))))))))))))
       exact (by exact congrArg (fun r : W => (.int .i64 r.1 : Value)) (show _ = (cr_ a b) from bif_f h6 ((cf_s hinv.1 h12 h16))))
      ·skip
       refine W_f h16 rfl (ak_ (J4 _ _ (Rk fun K J => sE rfl (sV (.int .i64 ((W.neg o).1)) rfl rfl (sE rfl (nl J ?_))))))
       refine ⟨(by repeat first | exact .refl | refine .cons rfl ?_), _, _, (sd (sd (s0))), (Nat.lt_succ_self m), (W.neg o), (⟨x.y, (E (Z.rem x.x.dec x.y.dec))⟩ : (A2 I)), (⟨y.y, (E (Z.rem y.x.dec y.y.dec))⟩ : (A2 I)), m, ?s7, rfl, rfl, cf_n hinv h12 h16⟩
       case s7 => rfl
end Go.Proofs.YtapbefpeopaecaaGreatDoor

namespace Go.Proofs.YtapbefpeopaecaaGreatDoor
open Go.Kn Go.Num
set_option linter.unusedVariables false
set_option linter.unusedSimpArgs false
set_option maxRecDepth 20000
set_option maxHeartbeats 8000000
theorem a8_ (a : Rt) :
    Ret Tryz.prog 63 [AV [pI a.n, pI a.d]] (.int .i64 ((aL_ a).1)) := by
 refine av_ (N := 9) Tryz.func63 rfl rfl (by simp) (fun w0 => ?_)
 simp only [initF, Nat.reduceAdd]
 refine Rs fun K J => WL_r rfl (a1_ rfl rfl (fun b1 hb1 => sE rfl (nl J (Sq fun K1 J1 => Rs fun K J => sQ (qL ty_39 rfl m0 rfl) rfl (sQ (q_ret hd_ (c0_ a) rfl) rfl (sE rfl (nl J ?_)))))))
 rcases bt (a5_ a) with h2 | h2
 ·skip
  refine W_f (not_f h2) rfl (ak_ (J1 _ _ (Rs fun K J => sQ (qF cu_ rfl rfl) rfl (sQ (qL ty_37 rfl m0 rfl) rfl (sC (.int .i64 ((Z.signW a.n.dec).1)) fu_ (cf_ a.n.1 a.n.2) rfl rfl rfl (sE rfl (nl J (W_ret (ret1 rfl (.inr rfl) rfl ?_)))))))))
  exact (by exact congrArg (fun r : W => (.int .i64 r.1 : Value)) (show _ = (aL_ a) from bif_t h2 rfl))
 ·skip
  refine W_t (not_t h2) rfl (Rs fun K J => sE rfl (nl J (W_ret (ai_ (ret1 rfl (.inr rfl) rfl ?_)))))
  exact (by exact congrArg (fun r : W => (.int .i64 r.1 : Value)) (show _ = (aL_ a) from bif_f h2 rfl))

theorem eW_ (a : Rt) :
    Ret Tryz.prog 64 [AV [pI a.n, pI a.d]] (AV [pI ((c6_ a).n), pI ((c6_ a).d)]) := by
 refine av_ (N := 11) Tryz.func64 rfl rfl (by simp) (fun w0 => ?_)
 simp only [initF, Nat.reduceAdd]
 refine Rs fun K J => WL_r rfl (a1_ rfl rfl (fun b1 hb1 => sN zp_39 rfl fun b2 hb2 => nl J (Sq fun K1 J1 => Rs fun K J => sQ (qL ty_39 rfl m1 rfl) rfl (sQ (q_ret en_63 (a8_ a) rfl) rfl (sE rfl (nl J ?_))))))
 rcases bt (decide ((aL_ a).1 < 0)) with h3 | h3
 ·skip
  refine W_t h3 rfl (Rs fun K J => sQ (qL ty_39 rfl m1 rfl) rfl (sQ (q_ret lk_ (e2_ a) rfl) rfl (sS [pI ((b4_ a).n), pI ((b4_ a).d)] ty_39 rfl rfl rfl rfl rfl (.head _) rfl hb2 (nl J (W_ret (ai_ (ret1 rfl (.inr rfl) (resP rfl m0 ty_39 rfl) ?_)))))))
  exact (by exact congrArg (fun r : Rt => (AV [pI r.n, pI r.d] : Value)) (show _ = (c6_ a) from bif_t h3 rfl))
 ·skip
  refine W_f h3 rfl (ak_ (J1 _ _ (Rs fun K J => sQ (qL ty_39 rfl m1 rfl) rfl (sQ (q_ret lk_ (e2_ a) rfl) rfl (sQ (q_ret lk_ (e2_ (b4_ a)) rfl) rfl (sS [pI ((b4_ (b4_ a)).n), pI ((b4_ (b4_ a)).d)] ty_39 rfl rfl rfl rfl rfl (.head _) rfl hb2 (nl J (W_ret (ret1 rfl (.inr rfl) (resP rfl m0 ty_39 rfl) ?_)))))))))
  exact (by exact congrArg (fun r : Rt => (AV [pI r.n, pI r.d] : Value)) (show _ = (c6_ a) from bif_f h3 rfl))

theorem cm_ (a : Rt) (b : Rt) :
    Ret Tryz.prog 57 [AV [pI a.n, pI a.d], AV [pI b.n, pI b.d]] (AV [pI ((ab_ a b).n), pI ((ab_ a b).d)]) := by
 refine av_ (N := 16) Tryz.func57 rfl rfl (by simp) (fun w0 => ?_)
 simp only [initF, Nat.reduceAdd]
 refine Rs fun K J => WL_r rfl (a1_ rfl rfl (fun b1 hb1 => WL_r rfl (a1_ rfl rfl (fun b2 hb2 => sN zp_39 rfl fun b3 hb3 => nl J (Sq fun K1 J1 => Rs fun K J => sQ (qL ty_39 rfl m1 rfl) rfl (sQ (q_ret hd_ (c0_ b) rfl) rfl (sE rfl (nl J ?_))))))))
 rcases bt (a5_ b) with h4 | h4
 ·skip
  refine W_f (not_f h4) rfl (ak_ (J1 _ _ (ds (sd (sk (sk (s0)))) [0,4,8,12,16,20,24,29] [7] mix (by kernel_rfl) (fun K J => pQ rfl (qL ty_39 rfl m2 rfl) (pQ rfl (qF b0_ rfl rfl) (pQ rfl (qL ty_37 rfl m1 rfl) (pQ rfl (qF cu_ rfl rfl) (pQ rfl (qL ty_37 rfl m1 rfl) (pQ rfl (q_ret en_59 (c1_ b.d b.n) rfl) ?_)))))))))
  obtain ⟨r5, hr5⟩ := nm ((aE_ a (ap_ b.d b.n)) : Rt)
  refine pC (AV [pI r5.n, pI r5.d]) en_67 (b3_ a (ap_ b.d b.n)) rfl rfl (by rw [hr5]; first | done | rfl) (oS [pI r5.n, pI r5.d] ty_39 rfl rfl rfl rfl rfl rfl (.head _) rfl hb3 rfl (sd s0) (fl J (W_ret (ret1 rfl (.inr rfl) (resP rfl m0 ty_39 rfl) ?_))))
  exact (by subst hr5; exact congrArg (fun r : Rt => (AV [pI r.n, pI r.d] : Value)) (show _ = (ab_ a b) from bif_t h4 rfl))
 ·skip
  refine W_t (not_t h4) rfl (Rs fun K J => sQ (q_ret g9_ da_  rfl) rfl (sS [pI ei_.n, pI ei_.d] ty_39 rfl rfl rfl rfl rfl (.head _) rfl hb3 (nl J (W_ret (ai_ (ret1 rfl (.inr rfl) (resP rfl m0 ty_39 rfl) ?_))))))
  exact (by exact congrArg (fun r : Rt => (AV [pI r.n, pI r.d] : Value)) (show _ = (ab_ a b) from bif_f h4 rfl))

theorem f1_ (a : Rt) :
    Ret Tryz.prog 26 [AV [pI a.n, pI a.d]] (.int .i64 ((b2_ a).1)) := by
 refine av_ (N := 9) Tryz.func26 rfl rfl (by simp) (fun w0 => ?_)
 simp only [initF, Nat.reduceAdd]
 refine Rs fun K J => WL_r rfl (a1_ rfl rfl (fun b1 hb1 => sE rfl (nl J (Sq fun K1 J1 => Rs fun K J => sQ (qL ty_39 rfl m0 rfl) rfl (sQ (q_ret en_51 (b1_ a) rfl) rfl (sE rfl (nl J ?_)))))))
 rcases bt (al_ a) with h2 | h2
 ·skip
  refine W_f (not_f h2) rfl (ak_ (J1 _ _ (Rs fun K J => sQ (qF cu_ rfl rfl) rfl (sQ (qL ty_37 rfl m0 rfl) rfl (sC (.int .i64 ((Z.signW a.n.dec).1)) en_40 (ba_ a.n.1 a.n.2) rfl rfl rfl (sE rfl (nl J (W_ret (ret1 rfl (.inr rfl) rfl ?_)))))))))
  exact (by exact congrArg (fun r : W => (.int .i64 r.1 : Value)) (show _ = (b2_ a) from bif_t h2 rfl))
 ·skip
  refine W_t (not_t h2) rfl (Rs fun K J => sE rfl (nl J (W_ret (ai_ (ret1 rfl (.inr rfl) rfl ?_)))))
  exact (by exact congrArg (fun r : W => (.int .i64 r.1 : Value)) (show _ = (b2_ a) from bif_f h2 rfl))

end Go.Proofs.YtapbefpeopaecaaGreatDoor

