/- Lemmas: what they ask stands in their statements. -/
import Derived.Test.YtokjfhfiodopdaaGreatJSa
set_option linter.unusedSimpArgs false
set_option linter.unusedVariables false
set_option maxHeartbeats 8000000
set_option maxRecDepth 20000
namespace Go.Proofs.YtokjfhfiodopdaaGreat
open Go.Kn Go.Num Tryz
attribute [local irreducible] Go.Kn.W WL PL OpQ OpR OpS
theorem AG (a:I) :
   Ret prog 132 [AV [pI a]] (AV [pI (nH a)]):=by
 refine cJ (N:=13) func132 O O zz_ (fun w0=>?_);refine giI ?_;refine go2 ?_;intro b1 hb1;refine go_ ?_;intro b2 hb2;refine go4 ?_;refine sC (.bool a.1.good) aS (bX a.1 a.2) O O O (go2 ?_);rcases bt a.1.good with h3|h3
 ·refine W_f (gS h3) O (go_ ?_);refine tC sn 7 [4,6] [6] (go4 ?_);refine gA O O (fU aS O (fun w hw=>bV a.1 a.2 w) (fun vl4 Ll4 kl4=>⟨(fun _=>sR s0),sn,?_⟩))
  try simp only [gM,lS] at kl4
  refine pQ O (bJ (v':=AV [pI (E (Z.of (sgn (!a.1.neg) (val a.1.w))))]) (dZ aS O (fun w hw=>dY (!a.1.neg) vl4 (dl (val a.1.w)) (kQ _) (Nat.le_trans (i4 (k:=32) (pW a.2)) dd_) w (SL.sl (SL.sub kl4.sl lZ) hw))) (by rw [(gM _)];rfl)) (go3 ?_);refine rtX O (fV O (mA mZ) tyT O) ?_;exact congrArg vS2 (show _=(nH a) from bE h3 O)
 refine W_t (gN h3) O (go_ ?_);refine sC (AV [pI (E Z.bad)]) aS eD O O O (go3 ?_);refine rtX O (fV O m0 tyT O) ?_;exact congrArg vS2 (show _=(nH a) from aQ h3 O)
theorem uM (a:R) (ha:a.Ok):Ret prog 132 [RV a] (RV (Z.neg a.dec).enc):=by
 have h:=AG ⟨a,ha⟩;rw [y3] at h;exact h
theorem AC (a:I) :
   Ret prog 157 [AV [pI a]] (AV [pI (nF a)]):=by
 refine cJ (N:=10) func157 O O zz_ (fun w0=>?_);refine giI ?_;refine go2 ?_;intro b1 hb1;refine go_ ?_;intro b2 hb2;refine go4 ?_;refine sC (.bool a.1.good) aS (bX a.1 a.2) O O O (go2 ?_);rcases bt a.1.good with h3|h3
 ·refine W_f (gS h3) O (go3 ?_);refine bL O (fU aS O (fun w hw=>bV a.1 a.2 w) (fun vl4 Ll4 kl4=>?_))
  try simp only [gM,lS] at kl4
  refine sQ (bJ (v':=AV [pI (E (Z.of (sgn false (val a.1.w))))]) (dZ aS O (fun w hw=>dY false vl4 (dl (val a.1.w)) (kQ _) (Nat.le_trans (i4 (k:=32) (pW a.2)) dd_) w (SL.sl (SL.sub kl4.sl lZ) hw))) (by rw [(gM _)];rfl)) O (go3 ?_);refine rtX O (fV O (mA mZ) tyT O) ?_;exact congrArg vS2 (show _=(nF a) from bE h3 O)
 refine W_t (gN h3) O (go_ ?_);refine sC (AV [pI (E Z.bad)]) aS eD O O O (go3 ?_);refine rtX O (fV O m0 tyT O) ?_;exact congrArg vS2 (show _=(nF a) from aQ h3 O)
theorem uJ (a:R) (ha:a.Ok):Ret prog 157 [RV a] (RV (Z.abs a.dec).enc):=by
 have h:=AC ⟨a,ha⟩;rw [yW] at h;exact h
theorem AD (a:I) (b:I) :
    Ret prog 76 [AV [pI a],AV [pI b]] (AV [pI (j4 a b)]):=by
 refine cJ (N:=70) func76 O O zz_ (fun w0=>?_);refine giI ?_;refine go2 ?_;intro b1 hb1;refine go_ ?_;intro b2 hb2;refine go_ ?_;intro b3 hb3;refine go3 ?_;refine sC (.tuple #[.int .i64 ((eG a).1),.bool (iV a.1)]) aS (gG a.1 a.2) O O O (go8 ?_);refine sC (.tuple #[.int .i64 ((eG b).1),.bool (iV b.1)]) aS (gG b.1 b.2) O O O (go7 ?_);refine gJv [22,23,24,25] [(25,.bool ((iV a.1)&&(iV b.1)))] (fun K2 J2=>?_) ?_
 ·refine go2 ?_;refine sBB O (fun h5=>?_) (fun h5=>?_)
  ·refine go3 ?_;refine J2 _ _ pp_ s0 (bK (cQ h5 O))
  refine go3 ?_;refine J2 _ _ pp_ s0 (bK (iT h5))
 intro g6;refine aZ _ O (fun h7=>?_) (fun h7=>?_)
 ·refine go3 ?_;refine sV (.int .i64 ((W.add (eG a) (eG b)).1)) O O (sC (AV [pI (E (Z.of (W.add (eG a) (eG b)).1))]) aS (dV (W.add (eG a) (eG b)).1 (W.add (eG a) (eG b)).2) O O O (go3 ?_));refine rtX O (fV O m0 tyT O) ?_;exact congrArg vS2 (show _=(j4 a b) from bE h7 O)
 refine go2 ?_;refine gJv (rg [] 30 8) [(37,.bool (!a.1.good||(!b.1.good)))] (fun K4 J4=>?_) ?_
 ·refine go2 ?_;refine sC (.bool a.1.good) aS (bX a.1 a.2) O O O (go_ ?_);rcases bt a.1.good with h9|h9
  ·refine sB (gS h9) O (go_ ?_);refine sC (.bool b.1.good) aS (bX b.1 b.2) O O O (go3 ?_);refine J4 _ _ pp_ s0 (bK (mL h9 O))
  refine sB (gN h9) O (go5 ?_);refine J4 _ _ pp_ s0 (bK (oM h9))
 intro g10;refine aZ _ O (fun h11=>?_) (fun h11=>?_)
 ·refine go_ ?_;refine sC (AV [pI (E Z.bad)]) aS eD O O O (go3 ?_);refine rtX O (fV O m0 tyT O) ?_;exact congrArg vS2 (show _=(j4 a b) from aQ h7 (bE h11 O))
 refine go3 ?_;refine bL O (fU aS O (fun w hw=>bV a.1 a.2 w) (fun vl12 Ll12 kl12=>?_))
 try simp only [gM,lS] at kl12
 refine go4 ?_;refine bL O (fU aS O (fun w hw=>bV b.1 b.2 w) (fun vl13 Ll13 kl13=>?_))
 try simp only [gM,lS] at kl13
 refine go8 ?_;refine sQ (bJ (v':=.bool (a.1.neg==b.1.neg)) (T9 AU O O) O) O (go_ ?_);refine aZ _ O (fun h14=>?_) (fun h14=>?_)
 ·refine tC sn 7 [4,6] [6] (go4 ?_);refine gA O O (fU aS O (fun w hw=>pG vl12 vl13 (dl (val a.1.w)) (dl (val b.1.w)) (kQ _) (kQ _) (Nat.le_trans (i4 (k:=32) (pW a.2)) dd_) (Nat.le_trans (i4 (k:=32) (pW b.2)) dd_) w (SL.sl (SL.sub kl12.sl (sR lZ)) hw) (SL.sl (SL.sub kl13.sl lZ) hw)) (fun vl15 Ll15 kl15=>⟨(fun _=>sR s0),sn,?_⟩))
  try simp only [gM,lS] at kl15
  refine pQ O (bJ (v':=AV [pI (E (Z.of (sgn a.1.neg ((val a.1.w)+(val b.1.w)))))]) (dZ aS O (fun w hw=>dY a.1.neg vl15 (dl ((val a.1.w)+(val b.1.w))) (kQ _) (Nat.le_trans (i4 (k:=33) (gN_ (k:=32) (pW a.2) (pW b.2))) dd_) w (SL.sl (SL.sub kl15.sl lZ) hw))) (by rw [(gM _)];rfl)) (go3 ?_);refine rtX O (fV O (mA (mA (mA mZ))) tyT O) ?_;exact congrArg vS2 (show _=(j4 a b) from aQ h7 (aQ h11 (bE h14 O)))
 refine go4 ?_;refine sQ (bJ (v':=.bool (decide ((val a.1.w)<(val b.1.w)))) (dZ aS O (fun w hw=>kM vl12 vl13 (dl (val a.1.w)) (dl (val b.1.w)) (kQ _) (kQ _) (Nat.le_trans (i4 (k:=32) (pW a.2)) dd_) (Nat.le_trans (i4 (k:=32) (pW b.2)) dd_) w (SL.sl (SL.sub kl12.sl (sR lZ)) hw) (SL.sl (SL.sub kl13.sl lZ) hw))) (by rw [(gM _),(gM _)])) O (go6 ?_);refine aZ _ O (fun h16=>?_) (fun h16=>?_)
 ·refine tC sn 7 [4,6] [6] (go4 ?_);refine gA O O (fU aS O (fun w hw=>lN vl13 vl12 (dl (val b.1.w)) (dl (val a.1.w)) (kQ _) (kQ _) (Nat.le_trans (i4 (k:=32) (pW b.2)) dd_) (Nat.le_trans (i4 (k:=32) (pW a.2)) dd_) (by simp only [gM,lS];exact (Nat.le_of_lt (of_decide_eq_true h16))) w (SL.sl (SL.sub kl13.sl lZ) hw) (SL.sl (SL.sub kl12.sl (sR lZ)) hw)) (fun vl17 Ll17 kl17=>⟨(fun _=>sR s0),sn,?_⟩))
  try simp only [gM,lS] at kl17
  refine pQ O (bJ (v':=AV [pI (E (Z.of (sgn b.1.neg ((val b.1.w) - (val a.1.w)))))]) (dZ aS O (fun w hw=>dY b.1.neg vl17 (dl ((val b.1.w) - (val a.1.w))) (kQ _) (Nat.le_trans (i4 (k:=32) (ff_ (pW b.2))) dd_) w (SL.sl (SL.sub kl17.sl lZ) hw))) (by rw [(gM _)];rfl)) (go3 ?_);refine rtX O (fV O (mA (mA (mA mZ))) tyT O) ?_;exact congrArg vS2 (show _=(j4 a b) from aQ h7 (aQ h11 (aQ h14 (bE h16 O))))
 refine go_ ?_;refine tC sn 7 [4,6] [6] (go4 ?_);refine gA O O (fU aS O (fun w hw=>lN vl12 vl13 (dl (val a.1.w)) (dl (val b.1.w)) (kQ _) (kQ _) (Nat.le_trans (i4 (k:=32) (pW a.2)) dd_) (Nat.le_trans (i4 (k:=32) (pW b.2)) dd_) (by simp only [gM,lS];exact (Nat.le_of_not_lt (of_decide_eq_false h16))) w (SL.sl (SL.sub kl12.sl (sR lZ)) hw) (SL.sl (SL.sub kl13.sl lZ) hw)) (fun vl18 Ll18 kl18=>⟨(fun _=>sR s0),sn,?_⟩))
 try simp only [gM,lS] at kl18
 refine pQ O (bJ (v':=AV [pI (E (Z.of (sgn a.1.neg ((val a.1.w) - (val b.1.w)))))]) (dZ aS O (fun w hw=>dY a.1.neg vl18 (dl ((val a.1.w) - (val b.1.w))) (kQ _) (Nat.le_trans (i4 (k:=32) (ff_ (pW a.2))) dd_) w (SL.sl (SL.sub kl18.sl lZ) hw))) (by rw [(gM _)];rfl)) (go3 ?_);refine rtX O (fV O (mA (mA (mA mZ))) tyT O) ?_;exact congrArg vS2 (show _=(j4 a b) from aQ h7 (aQ h11 (aQ h14 (aQ h16 O))))
theorem pX (a b:R) (ha:a.Ok) (hb:b.Ok):Ret prog 76 [RV a,RV b] (RV (Z.add a.dec b.dec).enc):=by
 have h:=AD ⟨a,ha⟩ ⟨b,hb⟩;rw [yX] at h;exact h
theorem AJ (a:I) (b:I) :
  Ret prog 155 [AV [pI a],AV [pI b]] (AV [pI (vQ a b)]):=by
 refine cJ (N:=9) func155 O O zz_ (fun w0=>?_);refine giI ?_;refine go2 ?_;intro b1 hb1;refine go_ ?_;intro b2 hb2;refine go_ ?_;intro b3 hb3;refine go_ ?_;refine tC (sd (sk (sk s0))) 5 [4] [4] (go2 ?_);refine pC (AV [pI (E (Z.neg b.dec))]) aS (uM b.1 b.2) O O O (pC (AV [pI (E (Z.add a.dec (Z.neg b.dec)))]) aS (pX a.1 (E (Z.neg b.dec)).1 a.2 (E (Z.neg b.dec)).2) O O (cg2 (fun p q=>AV [pI (E (Z.add p q))]) O (cP _)) (go3 ?_));refine rtX O (fV O m0 tyT O) ?_;exact (by rfl)
theorem uO (a b:R) (ha:a.Ok) (hb:b.Ok):Ret prog 155 [RV a,RV b] (RV (Z.sub a.dec b.dec).enc):=by
 have h:=AJ ⟨a,ha⟩ ⟨b,hb⟩;rw [y6] at h;exact h
theorem AF (a:I) (b:I) :
    Ret prog 79 [AV [pI a],AV [pI b]] (AV [pI (l6 a b)]):=by
 refine cJ (N:=55) func79 O O zz_ (fun w0=>?_);refine giI ?_;refine go2 ?_;intro b1 hb1;refine go_ ?_;intro b2 hb2;refine go_ ?_;intro b3 hb3;refine go3 ?_;refine sC (.tuple #[.int .i64 ((eG a).1),.bool (iV a.1)]) aS (gG a.1 a.2) O O O (go8 ?_);refine sC (.tuple #[.int .i64 ((eG b).1),.bool (iV b.1)]) aS (gG b.1 b.2) O O O (go7 ?_);refine gJv (rg [] 19 12) [(30,.bool ((iV a.1)&&((iV b.1)&&((decide ((eG a).1<2147483648)&&decide (-2147483648<(eG a).1))&&(decide ((eG b).1<2147483648)&&decide (-2147483648<(eG b).1))))))] (fun K2 J2=>?_) ?_
 ·refine go2 ?_;refine sBB O (fun h7=>?_) (fun h7=>?_)
  ·refine go2 ?_;refine sBB O (fun h8=>?_) (fun h8=>?_)
   ·refine go_ ?_;refine sC (.bool (decide ((eG a).1<2147483648)&&decide (-2147483648<(eG a).1))) aS (tY (eG a).1) O O O (go_ ?_);refine sBB O (fun h9=>?_) (fun h9=>?_)
    ·refine go_ ?_;refine sC (.bool (decide ((eG b).1<2147483648)&&decide (-2147483648<(eG b).1))) aS (tY (eG b).1) O O O (go2 ?_);refine J2 _ _ pp_ s0 (bK (cQ h7 (cQ h8 (cQ h9 O))))
    refine go4 ?_;refine J2 _ _ pp_ s0 (bK (cQ h7 (cQ h8 (iT h9))))
   refine go8 ?_;refine J2 _ _ pp_ s0 (bK (cQ h7 (iT h8)))
  refine vT ?_;refine J2 _ _ pp_ s0 (bK (iT h7))
 intro g10;refine aZ _ O (fun h11=>?_) (fun h11=>?_)
 ·refine go3 ?_;refine sV (.int .i64 ((W.mul (eG a) (eG b)).1)) O O (sC (AV [pI (E (Z.of (W.mul (eG a) (eG b)).1))]) aS (dV (W.mul (eG a) (eG b)).1 (W.mul (eG a) (eG b)).2) O O O (go3 ?_));refine rtX O (fV O m0 tyT O) ?_;exact congrArg vS2 (show _=(l6 a b) from bE h11 O)
 refine go2 ?_;refine gJv (rg [] 35 8) [(42,.bool (!a.1.good||(!b.1.good)))] (fun K4 J4=>?_) ?_
 ·refine go2 ?_;refine sC (.bool a.1.good) aS (bX a.1 a.2) O O O (go_ ?_);rcases bt a.1.good with h13|h13
  ·refine sB (gS h13) O (go_ ?_);refine sC (.bool b.1.good) aS (bX b.1 b.2) O O O (go3 ?_);refine J4 _ _ pp_ s0 (bK (mL h13 O))
  refine sB (gN h13) O (go5 ?_);refine J4 _ _ pp_ s0 (bK (oM h13))
 intro g14;refine aZ _ O (fun h15=>?_) (fun h15=>?_)
 ·refine go_ ?_;refine sC (AV [pI (E Z.bad)]) aS eD O O O (go3 ?_);refine rtX O (fV O m0 tyT O) ?_;exact congrArg vS2 (show _=(l6 a b) from aQ h11 (bE h15 O))
 refine go_ ?_;refine gds sn [0,4,8,12,16,20,28,25,33,37,40,45] [11] mix (by kernel_rfl) (go4 ?_);refine pQ O (bJ (v':=.bool (a.1.neg != b.1.neg)) (tR AU O O) O) (go2 ?_);refine gA O O (fU aS O (fun w hw=>bV a.1 a.2 w) (fun vl16 Ll16 kl16=>⟨(fun _=>sR s0),sn,?_⟩))
 try simp only [gM,lS] at kl16
 refine gA O O (fU aS O (fun w hw=>bV b.1 b.2 w) (fun vl17 Ll17 kl17=>⟨(fun _=>sR s0),sn,?_⟩))
 try simp only [gM,lS] at kl17
 refine gA O O (fU aS O (fun w hw=>sU vl16 vl17 (dl (val a.1.w)) (dl (val b.1.w)) (kQ _) (kQ _) (Nat.le_trans (i4 (k:=32) (pW a.2)) dd_) (Nat.le_trans (i4 (k:=32) (pW b.2)) dd_) w (SL.sl (SL.sub kl16.sl (sR lZ)) hw) (SL.sl (SL.sub kl17.sl lZ) hw)) (fun vl18 Ll18 kl18=>⟨(fun _=>sR s0),sn,?_⟩))
 try simp only [gM,lS] at kl18
 refine pQ O (bJ (v':=AV [pI (E (Z.of (sgn (a.1.neg != b.1.neg) ((val a.1.w)*(val b.1.w)))))]) (dZ aS O (fun w hw=>dY (a.1.neg != b.1.neg) vl18 (dl ((val a.1.w)*(val b.1.w))) (kQ _) (Nat.le_trans (i4 (k:=64) (ig_ (i:=32) (k:=32) (pW a.2) (pW b.2))) dd_) w (SL.sl (SL.sub kl18.sl lZ) hw))) (by rw [(gM _)];rfl)) (go3 ?_);refine rtX O (fV O (mA (mA (mA mZ))) tyT O) ?_;exact congrArg vS2 (show _=(l6 a b) from aQ h11 (aQ h15 O))
theorem e7 (a b:R) (ha:a.Ok) (hb:b.Ok):Ret prog 79 [RV a,RV b] (RV (Z.mul a.dec b.dec).enc):=by
 have h:=AF ⟨a,ha⟩ ⟨b,hb⟩;rw [yZ] at h;exact h
theorem zL (a:I) :
    Ret prog 69 [AV [pI a]] (.int .i64 ((lM a).1)):=by
 refine cJ (N:=14) func69 O O zz_ (fun w0=>?_);refine giI ?_;refine go2 ?_;intro b1 hb1;refine go3 ?_;refine gJv (rg [] 3 9) [(11,.bool (!a.1.good||(((dl (val a.1.w)).length:Int)==0)))] (fun K2 J2=>?_) ?_
 ·refine go2 ?_;refine sC (.bool a.1.good) aS (bX a.1 a.2) O O O (go_ ?_);rcases bt a.1.good with h4|h4
  ·refine sB (gS h4) O (go_ ?_);refine bL O (fU aS O (fun w hw=>bV a.1 a.2 w) (fun vl5 Ll5 kl5=>?_))
   try simp only [gM,lS] at kl5
   refine sQ (bJ (v':=.int .i64 ((dl (val a.1.w)).length:Int)) (nC kX O (SL.sub kl5.sl lZ)) O) O (go3 ?_);refine J2 _ _ pp_ (sR s0) (bK (mL h4 O))
  refine sB (gN h4) O (go6 ?_);refine J2 _ _ pp_ s0 (bK (oM h4))
 intro g6;refine aZ _ O (fun h7=>?_) (fun h7=>?_)
 ·refine go4 ?_;refine rt1 ?_;exact congrArg vS8 (show _=(lM a) from bE h7 O)
 refine go6 ?_;refine aZ _ O (fun h8=>?_) (fun h8=>?_)
 ·refine go4 ?_;refine rt1 ?_;exact congrArg vS8 (show _=(lM a) from aQ h7 (bE h8 O))
 refine go5 ?_;refine rt1 ?_;exact congrArg vS8 (show _=(lM a) from aQ h7 (aQ h8 O))
theorem eV (a:R) (ha:a.Ok):Ret prog 69 [RV a] (.int .i64 a.dec.sign):=by
 have h:=zL ⟨a,ha⟩;rw [x9] at h;exact h
theorem AE (a:I) (b:I) :
    Ret prog 65 [AV [pI a],AV [pI b]] (.int .i64 ((fP a b).1)):=by
 refine cJ (N:=48) func65 O O zz_ (fun w0=>?_);refine giI ?_;refine go2 ?_;intro b1 hb1;refine go_ ?_;intro b2 hb2;refine go3 ?_;refine gJv (rg [] 9 8) [(16,.bool (!a.1.good&&(!b.1.good)))] (fun K2 J2=>?_) ?_
 ·refine go2 ?_;refine sC (.bool a.1.good) aS (bX a.1 a.2) O O O (go_ ?_);rcases bt a.1.good with h4|h4
  ·refine sB (gS h4) O (go5 ?_);refine J2 _ _ pp_ s0 (bK (zE h4))
  refine sB (gN h4) O (go_ ?_);refine sC (.bool b.1.good) aS (bX b.1 b.2) O O O (go3 ?_);refine J2 _ _ pp_ s0 (bK (qR h4 O))
 intro g5;refine aZ _ O (fun h6=>?_) (fun h6=>?_)
 ·refine go4 ?_;refine rt1 ?_;exact congrArg vS8 (show _=(fP a b) from bE h6 O)
 refine go4 ?_;refine sC (.bool a.1.good) aS (bX a.1 a.2) O O O (go2 ?_);rcases bt a.1.good with h7|h7
 ·refine W_f (gS h7) O (go4 ?_);refine sC (.bool b.1.good) aS (bX b.1 b.2) O O O (go2 ?_);rcases bt b.1.good with h8|h8
  ·refine W_f (gS h8) O (go7 ?_);refine sQ (bJ (v':=.bool (a.1.neg != b.1.neg)) (tR AU O O) O) O (go_ ?_);refine aZ _ O (fun h9=>?_) (fun h9=>?_)
   ·refine go5 ?_;refine aZ _ O (fun h10=>?_) (fun h10=>?_)
    ·refine go4 ?_;refine rt1 ?_;exact congrArg vS8 (show _=(fP a b) from aQ h6 (bE h7 (bE h8 (bE h9 (bE h10 O)))))
    refine go5 ?_;refine rt1 ?_;exact congrArg vS8 (show _=(fP a b) from aQ h6 (bE h7 (bE h8 (bE h9 (aQ h10 O)))))
   refine go3 ?_;refine bL O (fU aS O (fun w hw=>bV a.1 a.2 w) (fun vl11 Ll11 kl11=>?_))
   try simp only [gM,lS] at kl11
   refine go4 ?_;refine bL O (fU aS O (fun w hw=>bV b.1 b.2 w) (fun vl12 Ll12 kl12=>?_))
   try simp only [gM,lS] at kl12
   refine go7 ?_;refine aZ _ O (fun h13=>?_) (fun h13=>?_)
   ·refine go2 ?_;refine bL O (fU aS O (fun w hw=>bV b.1 b.2 w) (fun vl14 Ll14 kl14=>?_))
    try simp only [gM,lS] at kl14
    refine go4 ?_;refine bL O (fU aS O (fun w hw=>bV a.1 a.2 w) (fun vl15 Ll15 kl15=>?_))
    try simp only [gM,lS] at kl15
    refine go5 ?_;refine sQ (bJ (v':=.bool (decide ((val b.1.w)<(val a.1.w)))) (dZ aS O (fun w hw=>kM vl14 vl15 (dl (val b.1.w)) (dl (val a.1.w)) (kQ _) (kQ _) (Nat.le_trans (i4 (k:=32) (pW b.2)) dd_) (Nat.le_trans (i4 (k:=32) (pW a.2)) dd_) w (SL.sl (SL.sub kl14.sl (sR lZ)) hw) (SL.sl (SL.sub kl15.sl lZ) hw))) (by rw [(gM _),(gM _)])) O (go5 ?_);refine sQ (bJ (v':=.bool (decide ((val a.1.w)<(val b.1.w)))) (dZ aS O (fun w hw=>kM vl15 vl14 (dl (val a.1.w)) (dl (val b.1.w)) (kQ _) (kQ _) (Nat.le_trans (i4 (k:=32) (pW a.2)) dd_) (Nat.le_trans (i4 (k:=32) (pW b.2)) dd_) w (SL.sl (SL.sub kl15.sl lZ) hw) (SL.sl (SL.sub kl14.sl (sR lZ)) hw))) (by rw [(gM _),(gM _)])) O (go6 ?_);refine aZ _ O (fun h16=>?_) (fun h16=>?_)
    ·refine go4 ?_;refine rt1 ?_;exact congrArg vS8 (show _=(fP a b) from aQ h6 (bE h7 (bE h8 (aQ h9 (bE h13 (bE h16 O))))))
    refine go5 ?_;refine aZ _ O (fun h17=>?_) (fun h17=>?_)
    ·refine go4 ?_;refine rt1 ?_;exact congrArg vS8 (show _=(fP a b) from aQ h6 (bE h7 (bE h8 (aQ h9 (bE h13 (aQ h16 (bE h17 O)))))))
    refine go5 ?_;refine rt1 ?_;exact congrArg vS8 (show _=(fP a b) from aQ h6 (bE h7 (bE h8 (aQ h9 (bE h13 (aQ h16 (aQ h17 O)))))))
   refine go4 ?_;refine sQ (bJ (v':=.bool (decide ((val a.1.w)<(val b.1.w)))) (dZ aS O (fun w hw=>kM vl11 vl12 (dl (val a.1.w)) (dl (val b.1.w)) (kQ _) (kQ _) (Nat.le_trans (i4 (k:=32) (pW a.2)) dd_) (Nat.le_trans (i4 (k:=32) (pW b.2)) dd_) w (SL.sl (SL.sub kl11.sl (sR lZ)) hw) (SL.sl (SL.sub kl12.sl lZ) hw))) (by rw [(gM _),(gM _)])) O (go5 ?_);refine sQ (bJ (v':=.bool (decide ((val b.1.w)<(val a.1.w)))) (dZ aS O (fun w hw=>kM vl12 vl11 (dl (val b.1.w)) (dl (val a.1.w)) (kQ _) (kQ _) (Nat.le_trans (i4 (k:=32) (pW b.2)) dd_) (Nat.le_trans (i4 (k:=32) (pW a.2)) dd_) w (SL.sl (SL.sub kl12.sl lZ) hw) (SL.sl (SL.sub kl11.sl (sR lZ)) hw))) (by rw [(gM _),(gM _)])) O (go6 ?_);refine aZ _ O (fun h18=>?_) (fun h18=>?_)
   ·refine go4 ?_;refine rt1 ?_;exact congrArg vS8 (show _=(fP a b) from aQ h6 (bE h7 (bE h8 (aQ h9 (aQ h13 (bE h18 O))))))
   refine go5 ?_;refine aZ _ O (fun h19=>?_) (fun h19=>?_)
   ·refine go4 ?_;refine rt1 ?_;exact congrArg vS8 (show _=(fP a b) from aQ h6 (bE h7 (bE h8 (aQ h9 (aQ h13 (aQ h18 (bE h19 O)))))))
   refine go5 ?_;refine rt1 ?_;exact congrArg vS8 (show _=(fP a b) from aQ h6 (bE h7 (bE h8 (aQ h9 (aQ h13 (aQ h18 (aQ h19 O)))))))
  refine W_t (gN h8) O (go4 ?_);refine rt1 ?_;exact congrArg vS8 (show _=(fP a b) from aQ h6 (bE h7 (aQ h8 O)))
 refine W_t (gN h7) O (go4 ?_);refine rt1 ?_;exact congrArg vS8 (show _=(fP a b) from aQ h6 (aQ h7 O))
theorem uK (a b:R) (ha:a.Ok) (hb:b.Ok):Ret prog 65 [RV a,RV b] (.int .i64 (Z.cmp a.dec b.dec)):=by
 have h:=AE ⟨a,ha⟩ ⟨b,hb⟩;rw [yY] at h;exact h
theorem AH (a:I) (b:I) :
    Ret prog 67 [AV [pI a],AV [pI b]] (AV [pI (kR a b)]):=by
 refine cJ (N:=76) func67 O O zz_ (fun w0=>?_);refine giI ?_;refine go2 ?_;intro b1 hb1;refine go_ ?_;intro b2 hb2;refine go_ ?_;intro b3 hb3;refine go3 ?_;refine sC (.tuple #[.int .i64 ((eG a).1),.bool (iV a.1)]) aS (gG a.1 a.2) O O O (go8 ?_);refine sC (.tuple #[.int .i64 ((eG b).1),.bool (iV b.1)]) aS (gG b.1 b.2) O O O (go7 ?_);refine gJv (rg [] 21 8) [(28,.bool ((iV a.1)&&((iV b.1)&&((eG b).1 != 0))))] (fun K2 J2=>?_) ?_
 ·refine go2 ?_;refine sBB O (fun h6=>?_) (fun h6=>?_)
  ·refine go2 ?_;refine sBB O (fun h7=>?_) (fun h7=>?_)
   ·refine go4 ?_;refine J2 _ _ pp_ s0 (bK (cQ h6 (cQ h7 O)))
   refine go4 ?_;refine J2 _ _ pp_ s0 (bK (cQ h6 (iT h7)))
  refine go7 ?_;refine J2 _ _ pp_ s0 (bK (iT h6))
 intro g8;refine aZ _ O (fun h9=>?_) (fun h9=>?_)
 ·refine go3 ?_;have hfl:=OG h9;refine sC (.int .i64 ((W.fdiv (eG a) (eG b)).1)) aS (sP (eG a).1 (eG b).1 (eG a).2 hfl.1 hfl.2.1) O O (congrArg (Value.int .i64) hfl.2.2) (sC (AV [pI (E (Z.of (W.fdiv (eG a) (eG b)).1))]) aS (dV (W.fdiv (eG a) (eG b)).1 (W.fdiv (eG a) (eG b)).2) O O O (go3 ?_));refine rtX O (fV O m0 tyT O) ?_;exact congrArg vS2 (show _=(kR a b) from bE h9 O)
 refine go2 ?_;refine gJv (rg [] 33 14) [(46,.bool (!a.1.good||(!b.1.good||(((dl (val b.1.w)).length:Int)==0))))] (fun K4 J4=>?_) ?_
 ·refine go2 ?_;refine sC (.bool a.1.good) aS (bX a.1 a.2) O O O (go_ ?_);rcases bt a.1.good with h13|h13
  ·refine sB (gS h13) O (go_ ?_);refine sC (.bool b.1.good) aS (bX b.1 b.2) O O O (go2 ?_);rcases bt b.1.good with h14|h14
   ·refine sB (gS h14) O (go_ ?_);refine bL O (fU aS O (fun w hw=>bV b.1 b.2 w) (fun vl15 Ll15 kl15=>?_))
    try simp only [gM,lS] at kl15
    refine sQ (bJ (v':=.int .i64 ((dl (val b.1.w)).length:Int)) (nC kX O (SL.sub kl15.sl lZ)) O) O (go3 ?_);refine J4 _ _ pp_ (sR s0) (bK (mL h13 (mL h14 O)))
   refine sB (gN h14) O (go6 ?_);refine J4 _ _ pp_ s0 (bK (mL h13 (oM h14)))
  refine sB (gN h13) O (vT ?_);refine J4 _ _ pp_ s0 (bK (oM h13))
 intro g16;refine aZ _ O (fun h17=>?_) (fun h17=>?_)
 ·refine go_ ?_;refine sC (AV [pI (E Z.bad)]) aS eD O O O (go3 ?_);refine rtX O (fV O m0 tyT O) ?_;exact congrArg vS2 (show _=(kR a b) from aQ h9 (bE h17 O))
 refine go_ ?_;refine gds sn [0,8,5,13,17,20,24,28,32,36] [] mix (by kernel_rfl) (go2 ?_);refine gA O O (fU aS O (fun w hw=>bV a.1 a.2 w) (fun vl18 Ll18 kl18=>⟨(fun _=>sR s0),sn,?_⟩))
 try simp only [gM,lS] at kl18
 refine gA O O (fU aS O (fun w hw=>bV b.1 b.2 w) (fun vl19 Ll19 kl19=>⟨(fun _=>sR s0),sn,?_⟩))
 try simp only [gM,lS] at kl19
 have hB:=d8_ h17;refine gA O O (CA aS O (fun w hw=>mQ vl18 vl19 (val a.1.w) (val b.1.w) hB (Nat.le_trans (i4 (k:=32) (pW a.2)) dd_) (Nat.le_trans (i4 (k:=32) (pW b.2)) dd_) w (SL.sl (SL.sub kl18.sl (sR lZ)) hw) (SL.sl (SL.sub kl19.sl lZ) hw)) (fun vl20_0 vl20_1 Ll20 kl20_0 kl20_1=>⟨(fun _=>sR s0),sn,?_⟩))
 try simp only [gM,lS] at kl20_0 kl20_1
 refine go7 ?_;refine gJv (rg [] 56 10) [(65,.bool ((a.1.neg != b.1.neg)&&decide (0<((dl ((val a.1.w) % (val b.1.w))).length:Int))))] (fun K6 J6=>?_) ?_
 ·refine go5 ?_;refine sQ (bJ (v':=.bool (a.1.neg != b.1.neg)) (tR AU O O) O) O ?_;refine sBB O (fun h22=>?_) (fun h22=>?_)
  ·refine go_ ?_;refine sQ (bJ (v':=.int .i64 ((dl ((val a.1.w) % (val b.1.w))).length:Int)) (nC kX O (SL.sub kl20_1 lZ)) O) O (go3 ?_);refine J6 _ _ pp_ s0 (bK (cQ h22 O))
  refine go5 ?_;refine J6 _ _ pp_ s0 (bK (iT h22))
 intro g23;refine aZ _ O (fun h24=>?_) (fun h24=>?_)
 ·refine go2 ?_;refine bL O (j8 pO z_3 AR O dd_ O (C0 1) (fun b25 hb25=>bL O (fU aS O (fun w hw=>pG vl20_0 _ (dl ((val a.1.w) / (val b.1.w))) [1] (kQ _) (DL.one dd_) (Nat.le_trans (i4 (k:=32) (fa_ (pW a.2))) dd_) zz_ w (SL.sl (SL.sub kl20_0 (sd lZ)) hw) (SL.sl (SL.sub (SL.mine (l:=[1]) List.mem_cons_self (Nat.le_refl _)) (sk sn)) hw)) (fun vl26 Ll26 kl26=>?_))))
  try simp only [gM,lS] at kl26
  refine go7 ?_;refine sQ (bJ (v':=.bool (a.1.neg != b.1.neg)) (tR AU O O) O) O (go_ ?_);refine sQ (bJ (v':=AV [pI (E (Z.of (sgn (a.1.neg != b.1.neg) (((val a.1.w) / (val b.1.w))+1))))]) (dZ aS O (fun w hw=>dY (a.1.neg != b.1.neg) vl26 (dl (((val a.1.w) / (val b.1.w))+1)) (kQ _) (Nat.le_trans (i4 (k:=33) (gN_ (k:=32) (fa_ (pW a.2)) (Nat.lt_of_lt_of_le (show 1<65536 ^ 1 by decide) (Nat.pow_le_pow_right (show 0<65536 by decide) (show 1≤32 by decide))))) dd_) w (SL.sl (SL.sub kl26.sl lZ) hw))) (by rw [(gM _)];rfl)) O (go3 ?_);refine rtX O (fV O (mA (mC (mA (mA (mA mZ))))) tyT O) ?_;exact congrArg vS2 (show _=(kR a b) from aQ h9 (aQ h17 (bE h24 O)))
 refine go6 ?_;refine sQ (bJ (v':=.bool (a.1.neg != b.1.neg)) (tR AU O O) O) O (go_ ?_);refine sQ (bJ (v':=AV [pI (E (Z.of (sgn (a.1.neg != b.1.neg) ((val a.1.w) / (val b.1.w)))))]) (dZ aS O (fun w hw=>dY (a.1.neg != b.1.neg) vl20_0 (dl ((val a.1.w) / (val b.1.w))) (kQ _) (Nat.le_trans (i4 (k:=32) (fa_ (pW a.2))) dd_) w (SL.sl (SL.sub kl20_0 lZ) hw))) (by rw [(gM _)];rfl)) O (go3 ?_);refine rtX O (fV O (mA (mA (mA mZ))) tyT O) ?_;exact congrArg vS2 (show _=(kR a b) from aQ h9 (aQ h17 (aQ h24 O)))
theorem gU (a b:R) (ha:a.Ok) (hb:b.Ok):Ret prog 67 [RV a,RV b] (RV (Z.quo a.dec b.dec).enc):=by
 have h:=AH ⟨a,ha⟩ ⟨b,hb⟩;rw [y4] at h;exact h
theorem mH (a b:R) (ha:a.Ok) (hb:b.Ok) :
    Ret prog 123 [RV a,RV b] (RV (Z.gcd a.dec b.dec).enc):=by
 refine cJ (N:=64) func123 O O zz_ (fun w0=>?_);refine giI ?_;have hla:=eb_ ha;have hlb:=eb_ hb;refine go_ ?_;refine bL O (kK O O (fun b2 hb2=>bL O (kK O O (fun b3 hb3=>bL O (fF lO (fun b4 hb4=>go2 ?_))))));refine sQ (dD tyT O mm_ (dO ha)) O ?_;refine sQ (bW aS (gG a ha) O) O (go7 ?_);refine sQ (dD tyT O mm_ (dO hb)) O ?_;refine sQ (bW aS (gG b hb) O) O (pU ?_)
 cases w1:iV a
 ·refine go7 ?_;refine sQ (dD tyT O mm_ (dO ha)) O ?_;refine sQ (bW aS (bX a ha) O) O (go2 ?_)
  cases ga:a.good
  ·refine go7 ?_;refine sQ (bW aS eD O) O (bL O (cC tyT O O uu_ (aV _) O (bS _) (.inl gH) ?_));refine go2 ?_;refine rtX O ⟨_,_,_,_,_,_,rfl,mm_,tyT,_,(eJ (aV _)),(aV _),rfl⟩ ?_
   (rw [Z.gcd,jO (.inl (GZ ga))];rfl)
  refine sQ (dD tyT O mm_ (dO hb)) O ?_;refine sQ (bW aS (bX b hb) O) O (go3 ?_);refine aZ _ O (fun gb=>?_) (fun gb=>?_)
  ·replace gb:=cB_ gb
   refine go_ ?_;refine sQ (bW aS eD O) O (bL O (cC tyT O O uu_ (aV _) O (bS _) (.inl gH) ?_));refine go2 ?_;refine rtX O ⟨_,_,_,_,_,_,rfl,mm_,tyT,_,(eJ (aV _)),(aV _),rfl⟩ ?_
   (rw [Z.gcd,jO (.inr (GZ gb))];rfl)
  replace gb:=cB_ gb
  refine go2 ?_;refine sQ (dD tyT O mm_ (dO ha)) O ?_;refine bL O (fU aS O (fun w hw=>bV a ha w) (fun v5 L5 h5=>go3 ?_));refine sQ (dD tyT O mm_ (dO hb)) O ?_;refine bL O (fU aS O (fun w hw=>bV b hb w) (fun v6 L6 h6=>go4 ?_));refine cH (rg [10,11,12,13] 51 11) (fun g nn M=>∃ (X Y:Nat) (vx vy:Value) (Lx Ly:List Blk),(g 10=vx∧g 11=vy)∧M=Ly++(Lx++[⟨b4,27,zR⟩,⟨b3,27,b.cells⟩,⟨b2,27,a.cells⟩])∧nn=Y∧((X<65536 ^ 32∧Y<65536 ^ 32)∧Nat.gcd X Y=Nat.gcd (val a.w) (val b.w)∧SL w0 [] Lx vx (dl X)∧SL w0 [] Ly vy (dl Y))) (val b.w) ?start ?round
  case start =>
   refine ⟨_,(List.Sublist.refl _),val a.w,val b.w,v5,v6,L5,L6,⟨?a10,?a11⟩,?mem0,rfl,⟨⟨VW ha,VW hb⟩,rfl,h5.sl,h6.sl⟩⟩
   case mem0=>rfl
   case a10=>rfl
   case a11=>rfl
  case round =>
   rintro nn g M ⟨X,Y,vx,vy,Lx,Ly,⟨hg10,hg11⟩,rfl,hmeas,⟨hb3,hgc,hX,hY⟩⟩;subst nn;refine gS2 hg10 hg11 ?_;clear hg10 hg11;refine go3 ?_;refine sQ (nC kX O (hY.sub lZ)) O (go2 ?_);refine aZ _ O (fun h53=>?_) (fun h53=>?_)
   ·replace h53:=cB_ h53
    have hYp:0<Y:=VV h53;refine go5 ?_;refine bL O (CA aS O (fun w hw=>mQ vx vy X Y hYp (FK hb3.1) (FK hb3.2) w (SL.sl (hX.sub (.trans lZ (List.sublist_append_right _ _))) hw) (SL.sl (hY.sub lZ) hw)) (fun vq vr Lr hq hr=>OF ?_));refine ⟨pp_,_,_,(List.Sublist.append (List.Sublist.refl _) (List.Sublist.append (List.Sublist.refl _) (List.sublist_append_right _ _))),(Nat.mod_lt _ hYp),Y,X % Y,vy,vr,Ly,Lr,⟨?s10,?s11⟩,?mem,rfl,⟨⟨hb3.2,Nat.lt_of_le_of_lt (Nat.mod_le _ _) hb3.1⟩,by rw [← hgc];exact N9 X Y,hY,hr⟩⟩
    case mem=>rfl
    case s10=>rfl
    case s11=>rfl
   replace h53:=cB_ h53
   have hY0:Y=0:=RB h53;refine go3 ?_;refine sQ (dZ aS O (fun w hw=>dY false _ _ (kQ _) (Nat.le_trans (FK hb3.1) dd_) w (SL.sl (hX.sub (.trans lZ (List.sublist_append_right _ _))) hw))) O (bL O (cC tyT O O uu_ (aV _) O (bS _) (.inl gH) ?_));refine go2 ?_;refine rtX O ⟨_,_,_,_,_,_,rfl,mm_,tyT,_,(eJ (aV _)),(aV _),rfl⟩ ?_
   (rw [aJ_ ha hb ga gb (by rw [← hgc,hY0,Nat.gcd_zero_right]),gM];rfl)
 refine go3 ?_;refine aZ _ O (fun w2=>?_) (fun w2=>?_)
 ·replace w2:=cB_ w2
  refine go2 ?_;refine cH (rg [5,7,9] 28 7) (fun g nn M=>∃ (x y:Int),(g 5 = .int .i64 x∧g 7 = .int .i64 y)∧M=[⟨b4,27,zR⟩,⟨b3,27,b.cells⟩,⟨b2,27,a.cells⟩]∧nn=y.natAbs∧((-4611686018427387904<x∧x<4611686018427387904)∧(-4611686018427387904<y∧y<4611686018427387904)∧Int.gcd x y=Int.gcd (j9 a) (j9 b))) ((j9 b).natAbs) ?start ?round
  case start =>
   refine ⟨_,(List.Sublist.refl _),j9 a,j9 b,⟨?a5,?a7⟩,?mem0,rfl,⟨(l5 ha w1).2.2.2,(l5 hb w2).2.2.2,rfl⟩⟩
   case mem0=>rfl
   case a5=>rfl
   case a7=>rfl
  case round =>
   rintro nn g M ⟨x,y,⟨hg5,hg7⟩,rfl,hmeas,⟨hx,hy,hgc⟩⟩;subst nn;refine gS2 hg5 hg7 ?_;clear hg5 hg7;refine go5 ?_;refine aZ _ O (fun h29=>?_) (fun h29=>?_)
   ·replace h29:=cB_ h29
    refine go5 ?_;refine sQ (uI O O h29) O (pU ?_);refine ⟨pp_,_,_,(List.Sublist.refl _),(uY (by simpa using h29)).1,y,x.tmod y,⟨?s5,?s7⟩,?mem,rfl,⟨hy,fu_ hx,by rw [← hgc];exact aS_ x y⟩⟩
    case mem=>rfl
    case s5=>rfl
    case s7=>rfl
   replace h29:=cB_ h29
   have hy0:y=0:=by simpa using h29
   refine go3 ?_;refine sQ (bW aS (dV x (ft_ hx)) O) O (sQ (bW aS (uJ (Z.of x).enc (Z.enc_ok _)) O) O (bL O (cC tyT O O uu_ (aV _) O (bS _) (.inl gH) ?_)));refine go2 ?_;refine rtX O ⟨_,_,_,_,_,_,rfl,mm_,tyT,_,(eJ (aV _)),(aV _),rfl⟩ ?_
   (rw [y9,XW ha hb w1 w2 hgc hy0];rfl)
 replace w2:=cB_ w2
 refine go3 ?_;refine sQ (dD tyT O mm_ (dO ha)) O ?_;refine sQ (bW aS (bX a ha) O) O (go2 ?_)
 cases ga:a.good
 ·refine go7 ?_;refine sQ (bW aS eD O) O (bL O (cC tyT O O uu_ (aV _) O (bS _) (.inl gH) ?_));refine go2 ?_;refine rtX O ⟨_,_,_,_,_,_,rfl,mm_,tyT,_,(eJ (aV _)),(aV _),rfl⟩ ?_
  (rw [Z.gcd,jO (.inl (GZ ga))];rfl)
 refine sQ (dD tyT O mm_ (dO hb)) O ?_;refine sQ (bW aS (bX b hb) O) O (go3 ?_);refine aZ _ O (fun gb=>?_) (fun gb=>?_)
 ·replace gb:=cB_ gb
  refine go_ ?_;refine sQ (bW aS eD O) O (bL O (cC tyT O O uu_ (aV _) O (bS _) (.inl gH) ?_));refine go2 ?_;refine rtX O ⟨_,_,_,_,_,_,rfl,mm_,tyT,_,(eJ (aV _)),(aV _),rfl⟩ ?_
  (rw [Z.gcd,jO (.inr (GZ gb))];rfl)
 replace gb:=cB_ gb
 refine go2 ?_;refine sQ (dD tyT O mm_ (dO ha)) O ?_;refine bL O (fU aS O (fun w hw=>bV a ha w) (fun v5 L5 h5=>go3 ?_));refine sQ (dD tyT O mm_ (dO hb)) O ?_;refine bL O (fU aS O (fun w hw=>bV b hb w) (fun v6 L6 h6=>go4 ?_));refine cH (rg [10,11,12,13] 51 11) (fun g nn M=>∃ (X Y:Nat) (vx vy:Value) (Lx Ly:List Blk),(g 10=vx∧g 11=vy)∧M=Ly++(Lx++[⟨b4,27,zR⟩,⟨b3,27,b.cells⟩,⟨b2,27,a.cells⟩])∧nn=Y∧((X<65536 ^ 32∧Y<65536 ^ 32)∧Nat.gcd X Y=Nat.gcd (val a.w) (val b.w)∧SL w0 [] Lx vx (dl X)∧SL w0 [] Ly vy (dl Y))) (val b.w) ?start ?round
 case start =>
  refine ⟨_,(List.Sublist.refl _),val a.w,val b.w,v5,v6,L5,L6,⟨?a10,?a11⟩,?mem0,rfl,⟨⟨VW ha,VW hb⟩,rfl,h5.sl,h6.sl⟩⟩
  case mem0=>rfl
  case a10=>rfl
  case a11=>rfl
 case round =>
  rintro nn g M ⟨X,Y,vx,vy,Lx,Ly,⟨hg10,hg11⟩,rfl,hmeas,⟨hb3,hgc,hX,hY⟩⟩;subst nn;refine gS2 hg10 hg11 ?_;clear hg10 hg11;refine go3 ?_;refine sQ (nC kX O (hY.sub lZ)) O (go2 ?_);refine aZ _ O (fun h53=>?_) (fun h53=>?_)
  ·replace h53:=cB_ h53
   have hYp:0<Y:=VV h53;refine go5 ?_;refine bL O (CA aS O (fun w hw=>mQ vx vy X Y hYp (FK hb3.1) (FK hb3.2) w (SL.sl (hX.sub (.trans lZ (List.sublist_append_right _ _))) hw) (SL.sl (hY.sub lZ) hw)) (fun vq vr Lr hq hr=>OF ?_));refine ⟨pp_,_,_,(List.Sublist.append (List.Sublist.refl _) (List.Sublist.append (List.Sublist.refl _) (List.sublist_append_right _ _))),(Nat.mod_lt _ hYp),Y,X % Y,vy,vr,Ly,Lr,⟨?s10,?s11⟩,?mem,rfl,⟨⟨hb3.2,Nat.lt_of_le_of_lt (Nat.mod_le _ _) hb3.1⟩,by rw [← hgc];exact N9 X Y,hY,hr⟩⟩
   case mem=>rfl
   case s10=>rfl
   case s11=>rfl
  replace h53:=cB_ h53
  have hY0:Y=0:=RB h53;refine go3 ?_;refine sQ (dZ aS O (fun w hw=>dY false _ _ (kQ _) (Nat.le_trans (FK hb3.1) dd_) w (SL.sl (hX.sub (.trans lZ (List.sublist_append_right _ _))) hw))) O (bL O (cC tyT O O uu_ (aV _) O (bS _) (.inl gH) ?_));refine go2 ?_;refine rtX O ⟨_,_,_,_,_,_,rfl,mm_,tyT,_,(eJ (aV _)),(aV _),rfl⟩ ?_
  (rw [aJ_ ha hb ga gb (by rw [← hgc,hY0,Nat.gcd_zero_right]),gM];rfl)
theorem vO (r:R) (h:r.Ok) :
    Ret prog 140 [RV r] (.bool r.valid):=by
 refine cJ (N:=23) func140 O O zz_ (fun w0=>?_);refine giI ?_;refine go_ ?_;refine bL O (kK O O (fun b1 hb1=>go3 ?_));refine sQ (cW fdT dd_ O) O (sQ (i7 (vs:=uw r.w) tyT O mm_ (lP h.len) ((iF _).trans h.len)) O ?_);refine sQ (oY qD arT O (.nil _)) O ?_;refine sQ (vM (r:=r.zero) O O (n5 8 dd_ ID I2 (nX h.len) (nX zz_) h.zero_iff)) O ?_;refine go4 ?_;refine sQ (cW fdT dd_ O) O (sQ (eA tyT O mm_ O) O ?_);refine go_ ?_;refine aZ _ O (fun hb=>?_) (fun hb=>?_)
 ·replace hb:=cB_ hb
  refine go3 ?_
  cases hz:r.zero
  ·refine go7 ?_;refine rt1 ?_
   simp [R.valid, *]
  refine sQ (cW fdT dd_ O) O (sQ (eA tyT O mm_ O) O ?_);refine go5 ?_;refine rt1 ?_
  simp [R.valid, *]
 replace hb:=cB_ hb
 refine go5 ?_
 cases hz:r.zero
 ·refine go7 ?_;refine rt1 ?_
  simp [R.valid, *]
 refine sQ (cW fdT dd_ O) O (sQ (eA tyT O mm_ O) O ?_);refine go5 ?_;refine rt1 ?_
 simp [R.valid, *]
theorem jL  :
  Ret prog 161 [] (RV Z.bad.enc):=by
 refine cJ (N:=2) func161 O O zz_ (fun w0=>?_);refine giI ?_;refine go_ ?_;refine bL O (fF lO (fun b0 hb0=>go2 ?_));refine sQ (wP lO plT O (.cons O (vs:=[.bool true]) O O (by simp [zR]) (z':=Z.bad.enc.cells) O (.nil _))) O ?_;refine bL O (cC tyT O O uu_ O O (bS Z.bad.enc) (.inl gH) ?_);refine go2 ?_;refine rtX O ⟨_,_,_,_,_,_,rfl,mm_,tyT,_,(eJ O),rfl,rfl⟩ ?_;exact rfl
theorem gF (neg:Bool) (w:List Nat) (hw:w.length=16) (hlim:Lim w) :
   Ret prog 153 [.bool neg,UV w] (RV ⟨false,neg && !(val w==0),w⟩):=by
 refine cJ (N:=13) func153 O O zz_ (fun w0=>?_);refine giI ?_
 have hlw:(uw w).length=16:=by rw [iF,hw]
 refine go_ ?_;refine bL O (kK O O (fun b3 hb3=>bL O (fF lO (fun b4 hb4=>go2 ?_))));refine rP (sd (sk s0)) 9 [8] [8] (go2 ?_)
 cases neg
 ·refine go4 ?_;refine pQ O (dD tyT O mm_ hlw) ?_;refine pQ O (wP lO plT O (aF_ hw)) ?_;refine gA O O (cC tyT O O uu_ (by simp [R.cells,hlw]) O (bS _) (.inl gH) ⟨nf,ss_,?_⟩);refine go2 ?_;refine rtX O ⟨_,_,_,_,_,_,rfl,mm_,tyT,_,(eJ (by simp [R.cells,hlw])),(by simp [R.cells,hlw]),rfl⟩ ?_;rfl
 refine pQ O (dD tyT O mm_ hlw) ?_;refine pQ O (oY qD arT O (.nil _)) ?_;refine pQ O (FU (r:=(val w==0)) O O (n5 8 dd_ ID I2 (nX hw) (nX zz_) (CH hw hlim))) ?_;refine go_ ?_;refine pQ O (dD tyT O mm_ hlw) ?_;refine pQ O (wP lO plT O (aF_ hw)) ?_;refine gA O O (cC tyT O O uu_ (by simp [R.cells,hlw]) O (bS _) (.inl gH) ⟨nf,ss_,?_⟩);refine go2 ?_;refine rtX O ⟨_,_,_,_,_,_,rfl,mm_,tyT,_,(eJ (by simp [R.cells,hlw])),(by simp [R.cells,hlw]),rfl⟩ ?_;rfl
theorem jI (rs:List R) (hrs:∀ r∈rs,r.Ok) (b T:Nat) (w:World) (hb:w.heap[b]? = some (.cells (rs.flatMap R.cells).toArray T (0,0))) (hn:rs.length≤1000) :
    Calls prog 121 [.slice (some ⟨b,0,none⟩) rs.length rs.length].toArray w (fun e w'=>e = .returned (.bool (rs.all R.good))∧Ext w w'):=by
 refine cU (N:=19) func121 O O zz_ ?_;obtain ⟨w0,rfl⟩:=nm w;refine giI ?_;refine go6 ?_;refine sQ (WB m9 O) O (go3 ?_);refine cH (rg [2,4] 7 12) (fun g nn M=>∃ (k:Nat),(g 7 = .int .i64 (k:Int))∧M=[]∧nn=rs.length - k∧(k≤rs.length∧(rs.take k).all R.good=true)) (rs.length - 0) ?start ?round
 case start =>
  refine ⟨_,(List.Sublist.refl _),0,?a7,?mem0,rfl,⟨Nat.zero_le _,rfl⟩⟩
  case mem0=>rfl
  case a7=>rfl
 case round =>
  rintro nn g M ⟨k,hg7,rfl,hmeas,⟨hk,hall⟩⟩;subst nn;refine gS1 hg7 ?_;clear hg7;refine go4 ?_;refine aZ _ O (fun hc=>?_) (fun hc=>?_)
  ·replace hc:=cB_ hc
   obtain ⟨r,hr⟩:∃ r,rs[k]? = some r:=⟨_,List.getElem?_eq_getElem oo_⟩;have hrok:=hrs r (List.mem_of_getElem? hr);refine go4 ?_;refine sQ (DC m9 O O oo_ oo_) O (sQ (RU (vs:=r.cells) tyT O hb zz_ (by rw [show (0+(k:Int).toNat*18)=k*18 by omega];exact ES R.cells 18 rs k r (fun y hy=>dO (hrs y hy)) hr) (dO hrok)) O ?_);refine bL O (fF lO (fun b4 hb4=>bL O (cC tyT O O uu_ (dO hrok) O (bS _) (.inl gH) ?_)));refine go2 ?_;refine sQ (cW fdT dd_ O) O (sQ (eA tyT O mm_ O) O ?_);refine go_ ?_
   cases hbad:r.bad
   ·refine sQ (dD tyT O mm_ (dO hrok)) O ?_;refine sQ (bW aS (vO r hrok) O) O (go3 ?_);refine aZ _ O (fun hx=>?_) (fun hx=>?_)
    ·replace hx:=cB_ hx
     skip
     refine go4 ?_;refine rt1 ?_;exact congrArg Value.bool (DQ hr (by simp [R.good,hbad,hx]))
    replace hx:=cB_ hx
    skip
    refine go5 ?_;refine ⟨pp_,_,_,(List.Sublist.cons _ (List.Sublist.refl _)),oo_,k+1,?s7,?mem,rfl,⟨by omega,by rw [LH oo_ hr];simp [hall,R.good,hbad,hx]⟩⟩
    case mem=>rfl
    case s7=>(show Value.int .i64 _=_;rw [cG (by unfold I64;omega)];rfl)
   refine pU ?_;refine rt1 ?_;exact congrArg Value.bool (DQ hr (by simp [R.good,hbad]))
  replace hc:=cB_ hc
  have hke:k=rs.length:=by omega
  refine go5 ?_;refine rt1 ?_
  (subst hke;rw [List.take_length] at hall;exact congrArg Value.bool hall.symm)
theorem KS (xs ys:List Nat) (hx:xs.length=16) (hy:ys.length=16) (lx:Lim xs) (ly:Lim ys) :
    Ret prog 168 [UV xs,UV ys] (.tuple #[UV (toL 16 (val xs+val ys)),.bool (((cy (val xs) (val ys) 16:Nat):Int)==0)]):=by
 refine cJ (N:=33) func168 O O zz_ (fun w0=>?_);refine giI ?_;refine go_ ?_;refine bL O (kK O O (fun b2 hb2=>bL O (kK O O (fun b3 hb3=>bL O (fF qD (fun b4 hb4=>go3 ?_))))));refine bL O (fF qD (fun b6 hb6=>go9 ?_));refine cH (rg [] 7 23) (fun g nn M=>∃ (k:Nat),(g 7 = .int .u64 ((cy (val xs) (val ys) k:Nat):Int)∧g 9 = .int .i64 (k:Int))∧M=[⟨b6,25,uw (yA k (val xs+val ys) 16)⟩,⟨b4,25,uw (List.replicate 16 0)⟩,⟨b3,25,uw ys⟩,⟨b2,25,uw xs⟩]∧nn=16 - k∧(k≤16)) (16) ?start ?round
 case start =>
  refine ⟨_,(List.Sublist.refl _),0,⟨?a7,?a9⟩,?mem0,rfl,Nat.zero_le _⟩
  case mem0=>rw [zA]
  case a7=>rw [cN_];rfl
  case a9=>rfl
 case round =>
  rintro nn g M ⟨k,⟨hg7,hg9⟩,rfl,hmeas,hk⟩;subst nn;refine gS2 hg7 hg9 ?_;clear hg7 hg9;refine go4 ?_;refine aZ _ O (fun hc=>?_) (fun hc=>?_)
  ·replace hc:=cB_ hc
   have hc:k<16:=by omega
   have hcy:=gM_ (val xs) (val ys) k;refine go8 ?_;refine rP (sk (sk (sk (sk s0)))) 12 [] [] (go2 ?_);refine pQ O (fK arT O O oo_ oo_) (pQ O (eA tyT O mm_ (uG oo_)) ?_);refine pQ O (eY iG fZ O) (go_ ?_);refine pQ O (fK arT O O oo_ oo_) (pQ O (eA tyT O mm_ (uG oo_)) ?_);refine pQ O (eY iG fZ O) (go_ ?_);refine pQ O (bJ (jJ O O) (congrArg (Value.int .u64) (fS_ hcy (eH lx k) (eH ly k)))) (go5 ?_);refine sQ (bJ (eY fZ iG O) (oV _)) O (sQ (fK arT O O oo_ oo_) O (bL O (nV tyT O O uu_ (by rw [jY _ hk];exact hc) (.inl gH) ?_)));refine go3 ?_;refine sQ (bJ (vE O O dd_) (congrArg (Value.int .u64) (rG _ 32))) O (go6 ?_);refine ⟨pp_,_,_,(List.Sublist.refl _),oo_,k+1,⟨?s7,?s9⟩,?mem,rfl,oo_⟩
   case mem=>rw [fM xs k lx,fM ys k ly,T7,yB _ hc]
   case s7=>rw [← T6,← fM xs k lx,← fM ys k ly];rfl
   case s9=>exact congrArg (Value.int .i64) (cG (n:=(k:Int)+1) (by unfold I64;omega))
  replace hc:=cB_ hc
  obtain rfl:k=16:=by omega
  refine go2 ?_;refine sQ (dD tyT O mm_ (by simp [uw,jY])) O ?_;refine go2 ?_;refine bL O (cC tyT O O uu_ (by simp [uw,jY]) O (jC _) (.inl gH) ?_);refine go3 ?_;refine uX O (.inr O) ⟨_,_,_,_,_,_,rfl,mm_,tyT,_,(eJ (by simp [uw,jY])),(by simp [uw,jY]),rfl⟩ O ?_;rw [B2];rfl
theorem vP (xs ys:List Nat) (hx:xs.length=16) (hy:ys.length=16) (lx:Lim xs) (ly:Lim ys) (hle:val ys≤val xs) :
    Ret prog 170 [UV xs,UV ys] (UV (toL 16 (val xs - val ys))):=by
 refine cJ (N:=31) func170 O O zz_ (fun w0=>?_);refine giI ?_;refine go_ ?_;refine bL O (kK O O (fun b2 hb2=>bL O (kK O O (fun b3 hb3=>bL O (fF qD (fun b4 hb4=>go2 ?_))))));refine bL O (fF qD (fun b5 hb5=>go9 ?_));refine cH (rg [] 6 24) (fun g nn M=>∃ (k:Nat),(g 6 = .int .u64 ((bw (val xs) (val ys) k:Nat):Int)∧g 9 = .int .i64 (k:Int))∧M=[⟨b5,25,uw (yA k (val xs - val ys) 16)⟩,⟨b4,25,uw (List.replicate 16 0)⟩,⟨b3,25,uw ys⟩,⟨b2,25,uw xs⟩]∧nn=16 - k∧(k≤16)) (16) ?start ?round
 case start =>
  refine ⟨_,(List.Sublist.refl _),0,⟨?a6,?a9⟩,?mem0,rfl,Nat.zero_le _⟩
  case mem0=>rw [zA]
  case a6=>rw [cI_];rfl
  case a9=>rfl
 case round =>
  rintro nn g M ⟨k,⟨hg6,hg9⟩,rfl,hmeas,hk⟩;subst nn;refine gS2 hg6 hg9 ?_;clear hg6 hg9;refine go4 ?_;refine aZ _ O (fun hc=>?_) (fun hc=>?_)
  ·replace hc:=cB_ hc
   have hc:k<16:=by omega
   have hbw:=gJ_ (val xs) (val ys) k;refine go8 ?_;refine rP (sk (sk (sk (sk s0)))) 12 [] [] (go_ ?_);refine pQ O (fK arT O O oo_ oo_) (pQ O (eA tyT O mm_ (uG oo_)) ?_);refine pQ O (eY iG fZ O) (go_ ?_);refine pQ O (fK arT O O oo_ oo_) (pQ O (eA tyT O mm_ (uG oo_)) ?_);refine pQ O (eY iG fZ O) (go2 ?_);refine pQ O (bJ (oO O O) (congrArg (Value.int .u64) (V0 hbw (eH lx k) (eH ly k)))) (go5 ?_);refine sQ (bJ (eY fZ iG O) (oV _)) O (sQ (fK arT O O oo_ oo_) O (bL O (nV tyT O O uu_ (by rw [jY _ hk];exact hc) (.inl gH) ?_)));refine go3 ?_;refine sQ (bJ (vE O O dd_) (congrArg (Value.int .u64) (rG _ 63))) O (go6 ?_);refine ⟨pp_,_,_,(List.Sublist.refl _),oo_,k+1,⟨?s6,?s9⟩,?mem,rfl,oo_⟩
   case mem=>rw [fM xs k lx,fM ys k ly,RD k hle,yB _ hc]
   case s6=>rw [← OJ,← fM xs k lx,← fM ys k ly];rfl
   case s9=>exact congrArg (Value.int .i64) (cG (n:=(k:Int)+1) (by unfold I64;omega))
  replace hc:=cB_ hc
  obtain rfl:k=16:=by omega
  refine go2 ?_;refine sQ (dD tyT O mm_ (by simp [uw,jY])) O ?_;refine bL O (cC tyT O O uu_ (by simp [uw,jY]) O (jC _) (.inl gH) ?_);refine go2 ?_;refine rtX O ⟨_,_,_,_,_,_,rfl,mm_,tyT,_,(eJ (by simp [uw,jY])),(by simp [uw,jY]),rfl⟩ ?_;rw [B2];rfl
theorem GM (x:Nat) :
  Ret prog 195 [U32 x] (.bool false):=by
 refine cJ (N:=6) func195 O O zz_ (fun w0=>?_);refine giI ?_;refine go6 ?_;refine sQ (bJ (ej_ O O) (congrArg Value.bool (bne_self_eq_false _))) O (go3 ?_);refine rt1 ?_;exact rfl
theorem XO (x y:Nat) :
   Ret prog 185 [U32 x,U32 y] (.int .i64 (wL x y)):=by
 refine cJ (N:=20) func185 O O zz_ (fun w0=>?_);refine giI ?_;refine go5 ?_;refine sQ (bW aS (GM x) O) O (go4 ?_);refine sQ (bW aS (GM y) O) O (fq_ ?_);refine aZ _ O (fun h1=>?_) (fun h1=>?_)
 ·replace h1:=cB_ h1
  refine go4 ?_;refine rt1 ?_;exact congrArg _ (xF h1).symm
 replace h1:=cB_ h1
 refine go7 ?_;refine aZ _ O (fun h2=>?_) (fun h2=>?_)
 ·replace h2:=cB_ h2
  refine go4 ?_;refine rt1 ?_;exact congrArg _ (xE h2).symm
 replace h2:=cB_ h2
 refine go5 ?_;refine rt1 ?_
 (obtain rfl:x=y:=by omega);exact congrArg _ (DU _).symm
theorem oG (xs ys:List Nat) (hx:xs.length=16) (hy:ys.length=16) (lx:Lim xs) (ly:Lim ys) :
    Ret prog 169 [UV xs,UV ys] (.int .i64 (wL (val xs) (val ys))):=by
 refine cJ (N:=24) func169 O O zz_ (fun w0=>?_);refine giI ?_;refine go_ ?_;refine bL O (kK O O (fun b2 hb2=>bL O (kK O O (fun b3 hb3=>go7 ?_))));refine cH (rg [] 4 20) (fun g nn M=>∃ (k:Nat),(g 5 = .int .i64 ((k:Int) - 1))∧M=[⟨b3,25,uw ys⟩,⟨b2,25,uw xs⟩]∧nn=k+0∧(k≤16∧xs.drop k=ys.drop k)) (16) ?start ?round
 case start =>
  refine ⟨_,(List.Sublist.refl _),16,?a5,?mem0,rfl,⟨Nat.le_refl _,by rw [List.drop_eq_nil_of_le oo_,List.drop_eq_nil_of_le oo_]⟩⟩
  case mem0=>rfl
  case a5=>rfl
 case round =>
  rintro nn g M ⟨k,hg5,rfl,hmeas,⟨hk,hd⟩⟩;subst nn;refine gS1 hg5 ?_;clear hg5;refine go5 ?_;refine aZ _ O (fun hc=>?_) (fun hc=>?_)
  ·replace hc:=cB_ hc
   obtain ⟨m,rfl⟩:∃ m,k=m+1:=⟨k - 1,by omega⟩;refine go4 ?_;refine rP (sk (sk s0)) 7 [] [] (pQ O (bJ (kL O) (congrArg (Value.int .i64) (show (((m+1:Nat):Int) - 1)=(m:Int) by omega))) (pQ O (fK arT O O oo_ oo_) (pQ O (eA tyT O mm_ (uG oo_)) ?_)));refine pQ O (bJ (kL O) (congrArg (Value.int .i64) (show (((m+1:Nat):Int) - 1)=(m:Int) by omega))) (pQ O (fK arT O O oo_ oo_) (pQ O (eA tyT O mm_ (uG oo_)) ?_));refine go2 ?_;refine aZ _ O (fun hne=>?_) (fun hne=>?_)
   ·replace hne:=cB_ hne
    refine go_ ?_;refine rP (sk (sk s0)) 8 [] [] (pQ O (bJ (kL O) (congrArg (Value.int .i64) (show (((m+1:Nat):Int) - 1)=(m:Int) by omega))) (pQ O (fK arT O O oo_ oo_) (pQ O (eA tyT O mm_ (uG oo_)) ?_)));refine pQ O (bJ (kL O) (congrArg (Value.int .i64) (show (((m+1:Nat):Int) - 1)=(m:Int) by omega))) (pQ O (fK arT O O oo_ oo_) (pQ O (eA tyT O mm_ (uG oo_)) ?_));refine pQ O (bW aS (XO _ _) O) (go3 ?_);refine rt1 ?_;exact congrArg _ (T4 lx ly oo_ hd oo_)
   replace hne:=cB_ hne
   refine go2 ?_;refine sQ (bJ (kL O) (congrArg (Value.int .i64) (show (((m+1:Nat):Int) - 1)=(m:Int) by omega))) O (go3 ?_);refine ⟨pp_,_,_,(List.Sublist.refl _),oo_,m,?s5,?mem,rfl,⟨by omega,NY oo_ hd oo_ oo_⟩⟩
   case mem=>rfl
   case s5=>exact congrArg (Value.int .i64) (cG (n:=(m:Int) - 1) (by unfold I64;omega))
  replace hc:=cB_ hc
  obtain rfl:k=0:=by omega
  refine go5 ?_;refine rt1 ?_
  (rw [List.drop_zero,List.drop_zero] at hd;subst hd;exact congrArg _ (DU _).symm)
theorem nY (xs:List Nat) (hx:xs.length=16) :
    Ret prog 171 [UV xs] (.int .i64 ((szL xs:Nat):Int)):=by
 refine cJ (N:=16) func171 O O zz_ (fun w0=>?_);refine giI ?_;refine go_ ?_;refine bL O (kK O O (fun b1 hb1=>go7 ?_));refine cH (rg [] 3 12) (fun g nn M=>∃ (k:Nat),(g 3 = .int .i64 (k:Int))∧M=[⟨b1,25,uw xs⟩]∧nn=k+0∧(k≤16∧∀ j,k≤j→xs.getD j 0=0)) (16) ?start ?round
 case start =>
  refine ⟨_,(List.Sublist.refl _),16,?a3,?mem0,rfl,⟨Nat.le_refl _,fun j hj=>by simp [List.getD,List.getElem?_eq_none (show xs.length≤j by omega)]⟩⟩
  case mem0=>rfl
  case a3=>rfl
 case round =>
  rintro nn g M ⟨k,hg3,rfl,hmeas,⟨hk,hhi⟩⟩;subst nn;refine gS1 hg3 ?_;clear hg3;refine go5 ?_
  cases hz:decide ((0:Int)<(k:Int))
  ·refine OF ?_;refine rt1 ?_;exact congrArg (fun n:Nat=>Value.int .i64 (n:Int)) (PJ hhi (.inl (by have:=of_decide_eq_false hz;omega))).symm
  have hz':=of_decide_eq_true hz;obtain ⟨m,rfl⟩:∃ m,k=m+1:=⟨k - 1,by omega⟩;refine go_ ?_;refine sQ (bJ (oO O O) (congrArg (Value.int .i64) (yK oo_))) O (sQ (fK arT O O oo_ oo_) O (sQ (eA tyT O mm_ (uG oo_)) O ?_));refine go3 ?_;refine aZ _ O (fun h0=>?_) (fun h0=>?_)
  ·replace h0:=cB_ h0
   refine go4 ?_;refine sQ (bJ (oO O O) (congrArg (Value.int .i64) (yK oo_))) O (go2 ?_);refine ⟨pp_,_,_,(List.Sublist.refl _),oo_,m,?s3,?mem,rfl,⟨by omega,fun j hj=>by rcases Nat.eq_or_lt_of_le hj with rfl|hj;omega;exact hhi j hj⟩⟩
   case mem=>rfl
   case s3=>rfl
  replace h0:=cB_ h0
  refine go6 ?_;refine rt1 ?_;exact congrArg (fun n:Nat=>Value.int .i64 (n:Int)) (PJ hhi (.inr (by simp only [Nat.add_sub_cancel];omega))).symm
theorem xY (a:R) (ha:a.Ok) :
   Ret prog 176 [RV a] (RV (Z.neg a.dec).enc):=by
 refine cJ (N:=14) func176 O O zz_ (fun w0=>?_);refine giI ?_;refine go_ ?_;refine bL O (kK O O (fun b1 hb1=>bL O (fF lO (fun b2 hb2=>go3 ?_))));refine sQ (dD tyT O mm_ (dO ha)) O ?_;refine bL O (j8 l4 lO nW O dd_ O (zD ha) (fun b4 hb4=>sQ (dZ aS O (fun w hw=>jI [a] (ok1 ha) b4 27 w (hw.mem _ m0) zz_)) O ?_));refine go2 ?_;refine aZ _ O (fun hg=>?_) (fun hg=>?_)
 ·replace hg:=cB_ hg
  refine go_ ?_;refine sQ (bW aS jL O) O (bL O (cC tyT O O uu_ (aV _) O (bS _) (.inl gH) ?_));refine go2 ?_;refine rtX O ⟨_,_,_,_,_,_,rfl,mm_,tyT,_,(eJ (aV _)),(aV _),rfl⟩ ?_
  (rw [Z.neg,rC (RF hg)];rfl)
 replace hg:=cB_ hg
 refine go2 ?_;refine sQ (cW fdT dd_ O) O (sQ (eA tyT O mm_ O) O ?_);refine go_ ?_;refine sQ (cW fdT dd_ O) O (sQ (i7 (vs:=uw a.w) tyT O mm_ (lP ha.len) ((iF _).trans ha.len)) O ?_);refine sQ (bW aS (gF (!a.neg) a.w ha.len ha.lim) O) O (bL O (cC tyT O O uu_ (lQ ha.len) O (bS _) (.inl gH) ?_));refine go2 ?_;refine rtX O ⟨_,_,_,_,_,_,rfl,mm_,tyT,_,(eJ (lQ ha.len)),(lQ ha.len),rfl⟩ ?_;exact congrArg RV (fH_ ha (by simpa using hg))
theorem xX (a:R) (ha:a.Ok) :
   Ret prog 152 [RV a] (RV (Z.abs a.dec).enc):=by
 refine cJ (N:=11) func152 O O zz_ (fun w0=>?_);refine giI ?_;refine go_ ?_;refine bL O (kK O O (fun b1 hb1=>bL O (fF lO (fun b2 hb2=>go3 ?_))));refine sQ (dD tyT O mm_ (dO ha)) O ?_;refine bL O (j8 l4 lO nW O dd_ O (zD ha) (fun b4 hb4=>sQ (dZ aS O (fun w hw=>jI [a] (ok1 ha) b4 27 w (hw.mem _ m0) zz_)) O ?_));refine go2 ?_;refine aZ _ O (fun hg=>?_) (fun hg=>?_)
 ·replace hg:=cB_ hg
  refine go_ ?_;refine sQ (bW aS jL O) O (bL O (cC tyT O O uu_ (aV _) O (bS _) (.inl gH) ?_));refine go2 ?_;refine rtX O ⟨_,_,_,_,_,_,rfl,mm_,tyT,_,(eJ (aV _)),(aV _),rfl⟩ ?_
  (rw [Z.abs,rC (RF hg)];rfl)
 replace hg:=cB_ hg
 refine go2 ?_;refine sQ (cW fdT dd_ O) O (sQ (i7 (vs:=uw a.w) tyT O mm_ (lP ha.len) ((iF _).trans ha.len)) O ?_);refine sQ (bW aS (gF false a.w ha.len ha.lim) O) O (bL O (cC tyT O O uu_ (lQ ha.len) O (bS _) (.inl gH) ?_));refine go2 ?_;refine rtX O ⟨_,_,_,_,_,_,rfl,mm_,tyT,_,(eJ (lQ ha.len)),(lQ ha.len),rfl⟩ ?_;exact congrArg RV (eV_ ha (by simpa using hg))
theorem oT (a b:R) (ha:a.Ok) (hb:b.Ok) :
    Ret prog 116 [RV a,RV b] (RV (Z.add a.dec b.dec).enc):=by
 refine cJ (N:=55) func116 O O zz_ (fun w0=>?_);refine giI ?_;refine go_ ?_;refine bL O (kK O O (fun b2 hb2=>bL O (kK O O (fun b3 hb3=>bL O (fF lO (fun b4 hb4=>go3 ?_))))));refine sQ (dD tyT O mm_ (dO ha)) O ?_;refine sQ (dD tyT O mm_ (dO hb)) O ?_;refine bL O (j8 l4 lO nW O dd_ O (N5 ha hb) (fun b9 hb9=>sQ (dZ aS O (fun w hw=>jI [a,b] (ok2 ha hb) b9 27 w (hw.mem _ m0) zz_)) O ?_));refine go2 ?_;refine aZ _ O (fun hg=>?_) (fun hg=>?_)
 ·replace hg:=cB_ hg
  refine go_ ?_;refine sQ (bW aS jL O) O (bL O (cC tyT O O uu_ (aV _) O (bS _) (.inl gH) ?_));refine go2 ?_;refine rtX O ⟨_,_,_,_,_,_,rfl,mm_,tyT,_,(eJ (aV _)),(aV _),rfl⟩ ?_
  (rw [Z.add,jO (EE hg)];rfl)
 replace hg:=cB_ hg
 have hg:=all2.1 hg;refine go3 ?_;refine sQ (cW fdT dd_ O) O (sQ (eA tyT O mm_ O) O ?_);refine sQ (cW fdT dd_ O) O (sQ (eA tyT O mm_ O) O ?_);refine sQ (T9 AU O O) O (go_ ?_);refine aZ _ O (fun hn=>?_) (fun hn=>?_)
 ·replace hn:=cB_ hn
  refine go_ ?_;refine sQ (cW fdT dd_ O) O (sQ (i7 (vs:=uw a.w) tyT O mm_ (lP ha.len) ((iF _).trans ha.len)) O ?_);refine sQ (cW fdT dd_ O) O (sQ (i7 (vs:=uw b.w) tyT O mm_ (lP hb.len) ((iF _).trans hb.len)) O ?_);refine sQ (bW aS (KS a.w b.w ha.len hb.len ha.lim hb.lim) O) O (go3 ?_);refine bL O (fF qD (fun b5 hb5=>bL O (cC tyT O O uu_ (by rw [iF,dU]) O (jC _) (.inl gH) ?_)));refine go7 ?_;refine aZ _ O (fun hc=>?_) (fun hc=>?_)
  ·replace hc:=cB_ hc
   refine go_ ?_;refine sQ (bW aS jL O) O (bL O (cC tyT O O uu_ (aV _) O (bS _) (.inl gH) ?_));refine go2 ?_;refine rtX O ⟨_,_,_,_,_,_,rfl,mm_,tyT,_,(eJ (aV _)),(aV _),rfl⟩ ?_;exact congrArg RV (ZN ha hb hg.1 hg.2 hn oo_)
  replace hc:=cB_ hc
  refine go2 ?_;refine sQ (cW fdT dd_ O) O (sQ (eA tyT O mm_ O) O ?_);refine sQ (dD tyT O mm_ (by rw [iF,dU])) O ?_;refine sQ (bW aS (gF a.neg _ (dU _ _) (nB _ _)) O) O (bL O (cC tyT O O uu_ (lQ (dU _ _)) O (bS _) (.inl gH) ?_));refine go2 ?_;refine rtX O ⟨_,_,_,_,_,_,rfl,mm_,tyT,_,(eJ (lQ (dU _ _))),(lQ (dU _ _)),rfl⟩ ?_;exact congrArg RV (ZO ha hb hg.1 hg.2 hn oo_)
 replace hn:=cB_ hn
 refine go3 ?_;refine sQ (cW fdT dd_ O) O (sQ (i7 (vs:=uw a.w) tyT O mm_ (lP ha.len) ((iF _).trans ha.len)) O ?_);refine sQ (cW fdT dd_ O) O (sQ (i7 (vs:=uw b.w) tyT O mm_ (lP hb.len) ((iF _).trans hb.len)) O ?_);refine sQ (bW aS (oG a.w b.w ha.len hb.len ha.lim hb.lim) O) O (go2 ?_);refine aZ _ O (fun ho=>?_) (fun ho=>?_)
 ·replace ho:=cB_ ho
  have hle:val b.w≤val a.w:=U4 ho;refine go_ ?_;refine rP (sk (sd (sk (sk s0)))) 9 [8] [8] (pQ O (cW fdT dd_ O) (pQ O (eA tyT O mm_ O) ?_));refine pQ O (cW fdT dd_ O) (pQ O (i7 (vs:=uw a.w) tyT O mm_ (lP ha.len) ((iF _).trans ha.len)) ?_);refine pQ O (cW fdT dd_ O) (pQ O (i7 (vs:=uw b.w) tyT O mm_ (lP hb.len) ((iF _).trans hb.len)) ?_);refine pQ O (bW aS (vP a.w b.w ha.len hb.len ha.lim hb.lim hle) O) (pQ O (bW aS (gF a.neg _ (dU _ _) (nB _ _)) O) ?_);refine gA O O (cC tyT O O uu_ (lQ (dU _ _)) O (bS _) (.inl gH) ⟨nf,ss_,?_⟩);refine go2 ?_;refine rtX O ⟨_,_,_,_,_,_,rfl,mm_,tyT,_,(eJ (lQ (dU _ _))),(lQ (dU _ _)),rfl⟩ ?_;exact congrArg RV (ZQ ha hb hg.1 hg.2 hn hle)
 replace ho:=cB_ ho
 have hle:val a.w≤val b.w:=Z6 ho;refine go2 ?_;refine rP (sk (sd (sk (sk s0)))) 9 [8] [8] (pQ O (cW fdT dd_ O) (pQ O (eA tyT O mm_ O) ?_));refine pQ O (cW fdT dd_ O) (pQ O (i7 (vs:=uw b.w) tyT O mm_ (lP hb.len) ((iF _).trans hb.len)) ?_);refine pQ O (cW fdT dd_ O) (pQ O (i7 (vs:=uw a.w) tyT O mm_ (lP ha.len) ((iF _).trans ha.len)) ?_);refine pQ O (bW aS (vP b.w a.w hb.len ha.len hb.lim ha.lim hle) O) (pQ O (bW aS (gF b.neg _ (dU _ _) (nB _ _)) O) ?_);refine gA O O (cC tyT O O uu_ (lQ (dU _ _)) O (bS _) (.inl gH) ⟨nf,ss_,?_⟩);refine go2 ?_;refine rtX O ⟨_,_,_,_,_,_,rfl,mm_,tyT,_,(eJ (lQ (dU _ _))),(lQ (dU _ _)),rfl⟩ ?_;exact congrArg RV (ZR ha hb hg.1 hg.2 hn hle)
theorem r8 (a b:R) (ha:a.Ok) (hb:b.Ok) :
  Ret prog 144 [RV a,RV b] (RV (Z.sub a.dec b.dec).enc):=by
 refine cJ (N:=9) func144 O O zz_ (fun w0=>?_);refine giI ?_;refine go_ ?_;refine bL O (kK O O (fun b2 hb2=>bL O (kK O O (fun b3 hb3=>bL O (fF lO (fun b4 hb4=>go2 ?_))))));refine rP (sd (sk (sk s0))) 5 [4] [4] (pQ O (dD tyT O mm_ (dO ha)) ?_);refine pQ O (dD tyT O mm_ (dO hb)) ?_;refine pQ O (bW aS (xY b hb) O) (pQ O (bW aS (oT a (Z.neg b.dec).enc ha (Z.enc_ok _)) O) ?_);refine gA O O (cC tyT O O uu_ (aV _) O (bS _) (.inl gH) ⟨nf,ss_,?_⟩);refine go2 ?_;refine rtX O ⟨_,_,_,_,_,_,rfl,mm_,tyT,_,(eJ (aV _)),(aV _),rfl⟩ ?_
 (rw [y9];rfl)
theorem iM (a:R) (ha:a.Ok) :
   Ret prog 60 [RV a] (.int .i64 a.dec.sign):=by
 refine cJ (N:=17) func60 O O zz_ (fun w0=>?_);refine giI ?_;refine go_ ?_;refine bL O (kK O O (fun b1 hb1=>go5 ?_));refine sQ (dD tyT O mm_ (dO ha)) O ?_;refine bL O (j8 l4 lO nW O dd_ O (zD ha) (fun b5 hb5=>sQ (dZ aS O (fun w hw=>jI [a] (ok1 ha) b5 27 w (hw.mem _ m0) zz_)) O ?_));refine go2 ?_
 cases hg:[a].all R.good
 ·refine Q2 ?_;refine rt1 ?_;exact congrArg _ (CE ha (.inl (by simpa using hg)))
 refine sQ (cW fdT dd_ O) O (sQ (i7 (vs:=uw a.w) tyT O mm_ (lP ha.len) ((iF _).trans ha.len)) O ?_);refine sQ (oY qD arT O (.nil _)) O ?_;refine sQ (vM (r:=a.zero) O O (n5 8 dd_ ID I2 (nX ha.len) (nX zz_) ha.zero_iff)) O ?_;refine go3 ?_;refine aZ _ O (fun hz=>?_) (fun hz=>?_)
 ·replace hz:=cB_ hz
  refine go4 ?_;refine rt1 ?_;exact congrArg _ (CE ha (.inr hz))
 replace hz:=cB_ hz
 refine go_ ?_;refine sQ (cW fdT dd_ O) O (sQ (eA tyT O mm_ O) O ?_);refine go2 ?_;refine aZ _ O (fun hn=>?_) (fun hn=>?_)
 ·replace hn:=cB_ hn
  refine go4 ?_;refine rt1 ?_;exact congrArg _ (SC ha (by simpa using hg) hz hn)
 replace hn:=cB_ hn
 refine go5 ?_;refine rt1 ?_;exact congrArg _ (SD ha (by simpa using hg) hz hn)
theorem iE (n:Int) (hn:I64 n) :
   Ret prog 97 [.int .i64 n] (RV (Z.of n).enc):=by
 refine cJ (N:=19) func97 O O zz_ (fun w0=>?_);refine giI ?_;refine go_ ?_;refine bL O (fF lO (fun b2 hb2=>go3 ?_));refine sQ (eY FJ fZ O) O (go7 ?_);refine aZ _ O (fun h0=>?_) (fun h0=>?_)
 ·replace h0:=cB_ h0
  refine go2 ?_;refine sQ (bJ (bx_ O) (congrArg (Value.int .u64) (fK_ hn h0))) O (go5 ?_);refine sQ (bJ (kL O) (show _=Value.int .u64 (n.natAbs:Int) from by first|rfl|exact congrArg (Value.int .u64) (ON hn h0))) O ?_;refine sQ (eY fZ iG O) O (sQ (bJ (kL O) (show _=Value.int .u64 (n.natAbs:Int) from by first|rfl|exact congrArg (Value.int .u64) (ON hn h0))) O ?_);refine sQ (bJ (vE O O dd_) (congrArg (Value.int .u64) (rG _ 32))) O (sQ (eY fZ iG O) O (sQ (oY qD arT O (aC_ (bn_ _) (bm_ (by unfold I64 at hn;omega)))) O (sQ (bW aS (gF (decide (n<0)) _ zz_ (a3_ (Nat.mod_lt _ dd_) (by unfold I64 at hn;omega) 14)) O) O ?_)));refine bL O (cC tyT O O uu_ (lQ zz_) O (bS _) (.inl gH) ?_);refine go2 ?_;refine rtX O ⟨_,_,_,_,_,_,rfl,mm_,tyT,_,(eJ (lQ zz_)),(lQ zz_),rfl⟩ ?_;exact congrArg RV (bl_ hn O O)
 replace h0:=cB_ h0
 refine go4 ?_;refine sQ (bJ (kL O) (show _=Value.int .u64 (n.natAbs:Int) from by first|rfl|exact congrArg (Value.int .u64) (ON hn h0))) O ?_;refine sQ (eY fZ iG O) O (sQ (bJ (kL O) (show _=Value.int .u64 (n.natAbs:Int) from by first|rfl|exact congrArg (Value.int .u64) (ON hn h0))) O ?_);refine sQ (bJ (vE O O dd_) (congrArg (Value.int .u64) (rG _ 32))) O (sQ (eY fZ iG O) O (sQ (oY qD arT O (aC_ (bn_ _) (bm_ (by unfold I64 at hn;omega)))) O (sQ (bW aS (gF (decide (n<0)) _ zz_ (a3_ (Nat.mod_lt _ dd_) (by unfold I64 at hn;omega) 14)) O) O ?_)));refine bL O (cC tyT O O uu_ (lQ zz_) O (bS _) (.inl gH) ?_);refine go2 ?_;refine rtX O ⟨_,_,_,_,_,_,rfl,mm_,tyT,_,(eJ (lQ zz_)),(lQ zz_),rfl⟩ ?_;exact congrArg RV (bl_ hn O O)
end Go.Proofs.YtokjfhfiodopdaaGreat
