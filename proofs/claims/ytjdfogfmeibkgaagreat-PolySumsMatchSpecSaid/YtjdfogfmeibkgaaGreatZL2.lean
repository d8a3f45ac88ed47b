/- Walks: what these functions return. -/
import Derived.Test.YtjdfogfmeibkgaaGreatZGE
import Derived.Test.YtjdfogfmeibkgaaGreatZFp
import Derived.Test.YtjdfogfmeibkgaaGreatZLa
import Derived.Test.YtjdfogfmeibkgaaGreatZYb
import Derived.Test.YtjdfogfmeibkgaaGreatZYr
import Derived.Test.YtjdfogfmeibkgaaGreatZYf
namespace Go.Proofs.YtjdfogfmeibkgaaGreat
open Go.Kn Go.Num
set_option linter.unusedVariables false
set_option linter.unusedSimpArgs false
set_option maxRecDepth 20000
set_option maxHeartbeats 8000000
theorem hl_ (vp : Value) (p : (List I)) (vq : Value) (q : (List I)) (n : I) (w : World) (hp : Slr w elI vp p) (hq : Slr w elI vq q) :
    Calls Tryz.prog 10 [vp, vq, AV [pI n]].toArray w (fun e w' => e = .returned (.bool (bT_ p q n)) ∧ Ext w w') := by
 obtain ⟨p_p, c_p, rfl⟩ := hp.form
 obtain ⟨p_q, c_q, rfl⟩ := hq.form
 refine aF_ (N := 71) Tryz.func10 rfl rfl (by simp) ?_
 obtain ⟨w0, rfl⟩ : ∃ w0, w0 = w := ⟨_, rfl⟩
 have Hp := hp.old
 have hm_p := hp.max
 have Hq := hq.old
 have hm_q := hq.max
 simp only [initF, Nat.reduceAdd]
 refine Rs fun K J => WL_r rfl (b5_ rfl rfl (fun b1 hb1 => sE rfl (nl J (Sq fun K1 J1 => ?_))))
 refine bu_ [9, 10, 11, 12, 13, 14, 15, 16] (fun g M => (g 16 = .bool (!(as_ p) || (!(as_ q)))) ∧ M = [⟨b1, 38, flat [pI n]⟩]) (fun K2 J2 => ?_) ?_
 ·skip
  refine Rk fun K J => sE rfl (sQ (q_as (v' := .bool (as_ p)) (av_ en_36 rfl (fun w hw => dN_ _ p w (SLe.ap hw (SLe.sub Hp sn)))) rfl) rfl (sE rfl ?_))
  rcases bt (as_ p) with h3 | h3
  ·skip
   refine sB (not_f h3) rfl (sE rfl (sQ (q_as (v' := .bool (as_ q)) (av_ en_36 rfl (fun w hw => dN_ _ q w (SLe.ap hw (SLe.sub Hq sn)))) rfl) rfl (sE rfl (sE rfl (nl J ?_)))))
   refine J2 _ _ (by repeat first | exact .refl | refine .cons rfl ?_) ⟨_, s0, ?s16, rfl⟩
   case s16 => exact congrArg Value.bool (nor_t h3 rfl)
  ·skip
   refine sB (not_t h3) rfl (WL_n rfl (WL_n rfl (WL_n rfl (sE rfl (nl J ?_)))))
   refine J2 _ _ (by repeat first | exact .refl | refine .cons rfl ?_) ⟨_, s0, ?s16, rfl⟩
   case s16 => exact congrArg Value.bool (nor_f h3)
 ·skip
  rintro g4 M ⟨hg16, rfl⟩
  simp only [setG, hg16]
  clear hg16
  rcases bt (!(as_ p) || (!(as_ q))) with h5 | h5
  ·skip
   refine W_t h5 rfl (Rs fun K J => sQ (q_ret en_14 cm_  rfl) rfl (sE rfl (nl J (W_ret (ah_ (ret1 rfl (.inr rfl) rfl ?_))))))
   exact (by exact congrArg (fun r : Bool => (.bool r : Value)) (show _ = (bT_ p q n) from bif_t h5 rfl))
  ·skip
   refine W_f h5 rfl (aj_ (J1 _ _ ?_))
   obtain ⟨hRp, hLp⟩ := hW_ (Bool.or_eq_false_iff.1 h5).1
   obtain ⟨hRq, hLq⟩ := hW_ (Bool.or_eq_false_iff.1 h5).2
   refine bu_ [7, 18, 19, 20, 21, 22, 23, 24, 25, 26, 27, 28, 29, 30, 31, 32, 33, 34, 35, 36, 37, 38, 39, 40, 41, 42] (fun g M => (g 7 = .bool ((af_ (cL_ p q) (bb_ p q)) && ((af_ (dc_ p q) (ba_ p q)) && (af_ (bW_ p q) (a9_ p q))))) ∧ M = [⟨b1, 38, flat [pI n]⟩]) (fun K3 J3 => ?_) ?_
   ·skip
    refine Rk fun K J => sE rfl (sE rfl (WL_r rfl (aq_ (E := 38) (e := elI) (l := (cL_ p q)) (fun v => v) en_42 rfl (fun w hw => ia_ _ p _ q w (SLe.ap hw (SLe.sub Hp sn)) (SLe.ap hw (SLe.sub Hq sn)) (by first | omega | (simp only [List.length_cons, List.length_nil, and_true, true_and] <;> omega) | simp)) (fun p49 c50 L51 hF52 => ?_))))
    have hb53 := (gs_ p q)
    refine sE rfl (sE rfl (WL_r rfl (aq_ (E := 38) (e := elI) (l := (bb_ p q)) (fun v => v) en_45 rfl (fun w hw => g1_ _ p _ q w (SLe.ap hw (SLe.sub Hp sn)) (SLe.ap hw (SLe.sub Hq sn)) (by first | omega | (simp only [List.length_cons, List.length_nil, and_true, true_and] <;> omega) | simp)) (fun p54 c55 L56 hF57 => ?_))))
    have hb58 := (gL_ p q)
    refine sQ (q_as (v' := .bool (af_ (cL_ p q) (bb_ p q))) (av_ en_17 rfl (fun w hw => az_ _ (cL_ p q) _ (bb_ p q) w (SLe.ap hw (SLfe.sle (OwnG.slfe hF52 (sR (List.sublist_append_left _ _))))) (SLe.ap hw (SLfe.sle (OwnG.slfe hF57 (List.sublist_append_left _ _)))))) rfl) rfl ?_
    rcases bt (af_ (cL_ p q) (bb_ p q)) with h59 | h59
    ·skip
     refine sB h59 rfl (sE rfl (sE rfl (WL_r rfl (aq_ (E := 38) (e := elI) (l := (dc_ p q)) (fun v => v) en_46 rfl (fun w hw => kK_ _ p _ q w (SLe.ap hw (SLe.sub Hp sn)) (SLe.ap hw (SLe.sub Hq sn)) (by first | omega | (simp only [List.length_cons, List.length_nil, and_true, true_and] <;> omega) | simp)) (fun p60 c61 L62 hF63 => ?_)))))
     have hb64 := (kq_ p q)
     refine sE rfl (sE rfl (WL_r rfl (aq_ (E := 38) (e := elI) (l := (ba_ p q)) (fun v => v) en_47 rfl (fun w hw => gU_ _ p _ q w (SLe.ap hw (SLe.sub Hp sn)) (SLe.ap hw (SLe.sub Hq sn)) (by first | omega | (simp only [List.length_cons, List.length_nil, and_true, true_and] <;> omega) | simp)) (fun p65 c66 L67 hF68 => ?_))))
     have hb69 := (gP_ p q)
     refine sQ (q_as (v' := .bool (af_ (dc_ p q) (ba_ p q))) (av_ en_17 rfl (fun w hw => az_ _ (dc_ p q) _ (ba_ p q) w (SLe.ap hw (SLfe.sle (OwnG.slfe hF63 (sR (List.sublist_append_left _ _))))) (SLe.ap hw (SLfe.sle (OwnG.slfe hF68 (List.sublist_append_left _ _)))))) rfl) rfl (sE rfl ?_)
     rcases bt (af_ (dc_ p q) (ba_ p q)) with h70 | h70
     ·skip
      refine sB h70 rfl (sE rfl (sE rfl (WL_r rfl (aq_ (E := 38) (e := elI) (l := (bW_ p q)) (fun v => v) en_31 rfl (fun w hw => gI_ _ p _ q w (SLe.ap hw (SLe.sub Hp sn)) (SLe.ap hw (SLe.sub Hq sn)) (by first | omega | (simp only [List.length_cons, List.length_nil, and_true, true_and] <;> omega) | simp)) (fun p71 c72 L73 hF74 => ?_)))))
      have hb75 := (gZ_ p q)
      have hr76 := (gN_ p q)
      refine sE rfl (sE rfl (WL_r rfl (aq_ (E := 38) (e := elI) (l := (a9_ p q)) (fun v => v) en_48 rfl (fun w hw => gJ_ _ p _ q w (SLe.ap hw (SLe.sub Hp sn)) (SLe.ap hw (SLe.sub Hq sn)) (by first | omega | (simp only [List.length_cons, List.length_nil, and_true, true_and] <;> omega) | simp)) (fun p77 c78 L79 hF80 => ?_))))
      have hb81 := (gQ_ p q)
      refine sQ (q_as (v' := .bool (af_ (bW_ p q) (a9_ p q))) (av_ en_17 rfl (fun w hw => az_ _ (bW_ p q) _ (a9_ p q) w (SLe.ap hw (SLfe.sle (OwnG.slfe hF74 (sR (List.sublist_append_left _ _))))) (SLe.ap hw (SLfe.sle (OwnG.slfe hF80 (List.sublist_append_left _ _)))))) rfl) rfl (sE rfl (sE rfl (nl J ?_)))
      refine J3 _ _ (by repeat first | exact .refl | refine .cons rfl ?_) ⟨_, (sR (sR (sR (sR (sR (sR (s0))))))), ?s7, rfl⟩
      case s7 => exact congrArg Value.bool (and_t h59 (and_t h70 rfl))
     ·skip
      refine sB h70 rfl (WL_n rfl (WL_n rfl (WL_n rfl (WL_n rfl (WL_n rfl (WL_n rfl (WL_n rfl (sE rfl (sE rfl (nl J ?_))))))))))
      refine J3 _ _ (by repeat first | exact .refl | refine .cons rfl ?_) ⟨_, (sR (sR (sR (sR (s0))))), ?s7, rfl⟩
      case s7 => exact congrArg Value.bool (and_t h59 (and_f h70))
    ·skip
     refine sB h59 rfl (WL_n rfl (WL_n rfl (WL_n rfl (WL_n rfl (WL_n rfl (WL_n rfl (WL_n rfl (sE rfl (sE rfl (WL_n rfl (WL_n rfl (WL_n rfl (WL_n rfl (WL_n rfl (WL_n rfl (WL_n rfl (sE rfl (sE rfl (nl J ?_)))))))))))))))))))
     refine J3 _ _ (by repeat first | exact .refl | refine .cons rfl ?_) ⟨_, (sR (sR (s0))), ?s7, rfl⟩
     case s7 => exact congrArg Value.bool (and_f h59)
   ·skip
    rintro g82 M ⟨hg7, rfl⟩
    simp only [setG, hg7]
    clear hg7
    refine bu_ [8, 43, 44, 45, 46, 47, 48, 49, 50, 51, 52, 53, 54, 55, 56, 57, 58, 59, 60, 61, 62, 63] (fun g M => (g 8 = .bool ((af_ (cC_ p n) (a5_ p n)) && ((af_ (ad_ p) (aY_ p)) && ((b3_ p).1 == (bd_ p).1)))) ∧ M = [⟨b1, 38, flat [pI n]⟩]) (fun K4 J4 => ?_) ?_
    ·skip
     refine dr s0 [0,4,12,16,9,21,24,28,32,40,37,45,48,52,56,60,64,68,72,76,80,84] [] mix (by kernel_rfl) (fun K J => pE rfl (pQ rfl (qL ty_38 rfl m0 rfl) (pE rfl (pQ rfl (qL ty_38 rfl m0 rfl) (PL_o rfl rfl (aq_ (E := 38) (e := elI) (l := (cC_ p n)) (fun v => v) en_43 rfl (fun w hw => i8_ _ p n w (SLe.ap hw (SLe.sub Hp sn)) (by first | omega | (simp only [List.length_cons, List.length_nil, and_true, true_and] <;> omega) | simp)) (fun p115 c116 L117 hF118 => ⟨(fun _ => sR s0), (sR s0), ?_⟩)))))))
     have hb119 := (ja_ p n)
     refine PL_o rfl rfl (aq_ (E := 38) (e := elI) (l := (a5_ p n)) (fun v => v) en_49 rfl (fun w hw => f2_ _ p n w (SLe.ap hw (SLe.sub Hp sn)) (by first | omega | (simp only [List.length_cons, List.length_nil, and_true, true_and] <;> omega) | simp)) (fun p120 c121 L122 hF123 => ⟨(fun _ => sR s0), (sR (sR s0)), ?_⟩))
     have hb124 := (f4_ p n)
     refine pQ rfl (q_as (v' := .bool (af_ (cC_ p n) (a5_ p n))) (av_ en_17 rfl (fun w hw => az_ _ (cC_ p n) _ (a5_ p n) w (SLe.ap hw (SLfe.sle (OwnG.slfe hF118 (sR (List.sublist_append_left _ _))))) (SLe.ap hw (SLfe.sle (OwnG.slfe hF123 (List.sublist_append_left _ _)))))) rfl) ?_
     rcases bt (af_ (cC_ p n) (a5_ p n)) with h125 | h125
     ·skip
      refine pB h125 rfl (pE rfl (pE rfl (PL_o rfl rfl (aq_ (E := 38) (e := elI) (l := (ad_ p)) (fun v => v) en_33 rfl (fun w hw => fr_ _ p w (SLe.ap hw (SLe.sub Hp sn)) (by first | omega | (simp only [List.length_cons, List.length_nil, and_true, true_and] <;> omega) | simp)) (fun p126 c127 L128 hF129 => ⟨(fun _ => sR s0), (sR (sR (sR s0))), ?_⟩)))))
      have hb130 := (dx_ p)
      refine PL_o rfl rfl (aq_ (E := 38) (e := elI) (l := (aY_ p)) (fun v => v) en_50 rfl (fun w hw => fJ_ _ p w (SLe.ap hw (SLe.sub Hp sn)) (by first | omega | (simp only [List.length_cons, List.length_nil, and_true, true_and] <;> omega) | simp)) (fun p131 c132 L133 hF134 => ⟨(fun _ => sR s0), (sR (sR (sR (sR s0)))), ?_⟩))
      have hb135 := (fQ_ p)
      refine pQ rfl (q_as (v' := .bool (af_ (ad_ p) (aY_ p))) (av_ en_17 rfl (fun w hw => az_ _ (ad_ p) _ (aY_ p) w (SLe.ap hw (SLfe.sle (OwnG.slfe hF129 (sR (List.sublist_append_left _ _))))) (SLe.ap hw (SLfe.sle (OwnG.slfe hF134 (List.sublist_append_left _ _)))))) rfl) (pE rfl ?_)
      rcases bt (af_ (ad_ p) (aY_ p)) with h136 | h136
      ·skip
       refine pB h136 rfl (pE rfl (pQ rfl (q_as (v' := .int .i64 ((b3_ p).1)) (av_ en_35 rfl (fun w hw => df_ _ p w (SLe.ap hw (SLe.sub Hp sn)))) rfl) (pE rfl (pQ rfl (q_as (v' := .int .i64 ((bd_ p).1)) (av_ en_51 rfl (fun w hw => ff_ _ p w (SLe.ap hw (SLe.sub Hp sn)))) rfl) (pE rfl (pE rfl (pE rfl (fl J ?_))))))))
       refine J4 _ _ (by repeat first | exact .refl | refine .cons rfl ?_) ⟨_, (sR (sR (sR (sR (s0))))), ?s8, rfl⟩
       case s8 => exact congrArg Value.bool (and_t h125 (and_t h136 rfl))
      ·skip
       refine pB h136 rfl (PL_n rfl rfl (PL_n rfl rfl (PL_n rfl rfl (PL_n rfl rfl (PL_n rfl rfl (pE rfl (pE rfl (fl J ?_))))))))
       refine J4 _ _ (by repeat first | exact .refl | refine .cons rfl ?_) ⟨_, (sR (sR (sR (sR (s0))))), ?s8, rfl⟩
       case s8 => exact congrArg Value.bool (and_t h125 (and_f h136))
     ·skip
      refine pB h125 rfl (PL_n rfl rfl (PL_n rfl rfl (PL_on rfl rfl (PL_on rfl rfl (PL_n rfl rfl (pE rfl (pE rfl (PL_n rfl rfl (PL_n rfl rfl (PL_n rfl rfl (PL_n rfl rfl (PL_n rfl rfl (pE rfl (pE rfl (fl J ?_)))))))))))))))
      refine J4 _ _ (by repeat first | exact .refl | refine .cons rfl ?_) ⟨_, (sR (sR (s0))), ?s8, rfl⟩
      case s8 => exact congrArg Value.bool (and_f h125)
    ·skip
     rintro g137 M ⟨hg8, rfl⟩
     simp only [setG, hg8]
     clear hg8
     refine bu_ [6, 64, 65, 66, 67, 68, 69, 70] (fun g M => (g 6 = .bool (aO_ && (((af_ (cL_ p q) (bb_ p q)) && ((af_ (dc_ p q) (ba_ p q)) && (af_ (bW_ p q) (a9_ p q)))) && ((af_ (cC_ p n) (a5_ p n)) && ((af_ (ad_ p) (aY_ p)) && ((b3_ p).1 == (bd_ p).1)))))) ∧ M = [⟨b1, 38, flat [pI n]⟩]) (fun K5 J5 => ?_) ?_
     ·skip
      refine Rk fun K J => sQ (q_ret en_14 cm_  rfl) rfl ?_
      rcases bt aO_ with h140 | h140
      ·skip
       refine sB h140 rfl (sE rfl (sE rfl ?_))
       rcases bt ((af_ (cL_ p q) (bb_ p q)) && ((af_ (dc_ p q) (ba_ p q)) && (af_ (bW_ p q) (a9_ p q)))) with h141 | h141
       ·skip
        refine sB h141 rfl (sE rfl (sE rfl (sE rfl (nl J ?_))))
        refine J5 _ _ (by repeat first | exact .refl | refine .cons rfl ?_) ⟨_, s0, ?s6, rfl⟩
        case s6 => exact congrArg Value.bool (and_t h140 (and_t h141 rfl))
       ·skip
        refine sB h141 rfl (WL_n rfl (sE rfl (sE rfl (nl J ?_))))
        refine J5 _ _ (by repeat first | exact .refl | refine .cons rfl ?_) ⟨_, s0, ?s6, rfl⟩
        case s6 => exact congrArg Value.bool (and_t h140 (and_f h141))
      ·skip
       refine sB h140 rfl (WL_n rfl (sE rfl (sE rfl (WL_n rfl (sE rfl (sE rfl (nl J ?_)))))))
       refine J5 _ _ (by repeat first | exact .refl | refine .cons rfl ?_) ⟨_, s0, ?s6, rfl⟩
       case s6 => exact congrArg Value.bool (and_f h140)
     ·skip
      rintro g142 M ⟨hg6, rfl⟩
      simp only [setG, hg6]
      clear hg6
      refine W_ret (ret1 rfl (.inr rfl) rfl ?_)
      exact (by exact congrArg (fun r : Bool => (.bool r : Value)) (show _ = (bT_ p q n) from bif_f h5 rfl))
end Go.Proofs.YtjdfogfmeibkgaaGreat

