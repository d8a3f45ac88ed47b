/- Lemmas: what they ask stands in their statements. -/
import Derived.Test.YtbjlhfochebmiaaGreatDoorMSb
set_option linter.unusedSimpArgs false
set_option linter.unusedVariables false
set_option maxHeartbeats 8000000
set_option maxRecDepth 20000
namespace Go.Proofs.YtbjlhfochebmiaaGreatDoor
open Go.Kn Go.Num Tryz
attribute [local irreducible] Go.Kn.W WL PL OpQ OpR OpS
theorem CW (a:I) :
   Ret prog 169 [AV [pI a]] (AV [pI (o8 a)]):=by
 refine bA (N:=13) func169 O O zz_ (fun w0=>?_);refine giI ?_;refine go2 ?_;intro b1 hb1;refine go_ ?_;intro b2 hb2;refine go4 ?_;refine sC (.bool a.1.good) aE (cB a.1 a.2) O O O (go2 ?_);rcases bt a.1.good with h3|h3
 ·refine W_f (gG h3) O (go_ ?_);refine mS sn 7 [4,6] [6] (go4 ?_);refine cJ O O (fL aE O (fun w hw=>cC a.1 a.2 w) (fun vl4 Ll4 kl4=>⟨(fun _=>sR s0),sn,?_⟩))
  try simp only [gB,nM] at kl4
  refine pQ O (aM (v':=AV [pI (E (Z.of (sgn (!a.1.neg) (val a.1.w))))]) (dF aE O (fun w hw=>eA (!a.1.neg) vl4 (dl (val a.1.w)) (kV _) (Nat.le_trans (iC (k:=32) (tK a.2)) dd_) w (SL.sl (SL.sub kl4.sl lZ) hw))) (by rw [(gB _)];rfl)) (go3 ?_);refine rtX O (eR O (mA mZ) tyT O) ?_;exact congrArg vS4 (show _=(o8 a) from aQ h3 O)
 refine W_t (gD h3) O (go_ ?_);refine sC (AV [pI (E Z.bad)]) aE dS O O O (go3 ?_);refine rtX O (eR O m0 tyT O) ?_;exact congrArg vS4 (show _=(o8 a) from aN h3 O)
theorem qO (a:R) (ha:a.Ok):Ret prog 169 [RV a] (RV (Z.neg a.dec).enc):=by
 have h:=CW ⟨a,ha⟩;rw [BP] at h;exact h
theorem CR (a:I) :
   Ret prog 177 [AV [pI a]] (AV [pI (o7 a)]):=by
 refine bA (N:=10) func177 O O zz_ (fun w0=>?_);refine giI ?_;refine go2 ?_;intro b1 hb1;refine go_ ?_;intro b2 hb2;refine go4 ?_;refine sC (.bool a.1.good) aE (cB a.1 a.2) O O O (go2 ?_);rcases bt a.1.good with h3|h3
 ·refine W_f (gG h3) O (go3 ?_);refine aY O (fL aE O (fun w hw=>cC a.1 a.2 w) (fun vl4 Ll4 kl4=>?_))
  try simp only [gB,nM] at kl4
  refine sQ (aM (v':=AV [pI (E (Z.of (sgn false (val a.1.w))))]) (dF aE O (fun w hw=>eA false vl4 (dl (val a.1.w)) (kV _) (Nat.le_trans (iC (k:=32) (tK a.2)) dd_) w (SL.sl (SL.sub kl4.sl lZ) hw))) (by rw [(gB _)];rfl)) O (go3 ?_);refine rtX O (eR O (mA mZ) tyT O) ?_;exact congrArg vS4 (show _=(o7 a) from aQ h3 O)
 refine W_t (gD h3) O (go_ ?_);refine sC (AV [pI (E Z.bad)]) aE dS O O O (go3 ?_);refine rtX O (eR O m0 tyT O) ?_;exact congrArg vS4 (show _=(o7 a) from aN h3 O)
theorem CS (a:R) (ha:a.Ok):Ret prog 177 [RV a] (RV (Z.abs a.dec).enc):=by
 have h:=CR ⟨a,ha⟩;rw [BL] at h;exact h
theorem CT (a:I) (b:I) :
    Ret prog 145 [AV [pI a],AV [pI b]] (AV [pI (lB a b)]):=by
 refine bA (N:=70) func145 O O zz_ (fun w0=>?_);refine giI ?_;refine go2 ?_;intro b1 hb1;refine go_ ?_;intro b2 hb2;refine go_ ?_;intro b3 hb3;refine go3 ?_;refine sC (.tuple #[.int .i64 ((eK a).1),.bool (jQ a.1)]) aE (hJ a.1 a.2) O O O (go8 ?_);refine sC (.tuple #[.int .i64 ((eK b).1),.bool (jQ b.1)]) aE (hJ b.1 b.2) O O O (go7 ?_);refine gJv [22,23,24,25] [(25,.bool ((jQ a.1)&&(jQ b.1)))] (fun K2 J2=>?_) ?_
 ·refine go2 ?_;refine sBB O (fun h5=>?_) (fun h5=>?_)
  ·refine go3 ?_;refine J2 _ _ pp_ s0 (bQ (lS h5 O))
  refine go3 ?_;refine J2 _ _ pp_ s0 (bQ (oY h5))
 intro g6;refine aL _ O (fun h7=>?_) (fun h7=>?_)
 ·refine go3 ?_;refine sV (.int .i64 ((W.add (eK a) (eK b)).1)) O O (sC (AV [pI (E (Z.of (W.add (eK a) (eK b)).1))]) aE (bW (W.add (eK a) (eK b)).1 (W.add (eK a) (eK b)).2) O O O (go3 ?_));refine rtX O (eR O m0 tyT O) ?_;exact congrArg vS4 (show _=(lB a b) from aQ h7 O)
 refine go2 ?_;refine gJv (rg [] 30 8) [(37,.bool (!a.1.good||(!b.1.good)))] (fun K4 J4=>?_) ?_
 ·refine go2 ?_;refine sC (.bool a.1.good) aE (cB a.1 a.2) O O O (go_ ?_);rcases bt a.1.good with h9|h9
  ·refine sB (gG h9) O (go_ ?_);refine sC (.bool b.1.good) aE (cB b.1 b.2) O O O (go3 ?_);refine J4 _ _ pp_ s0 (bQ (nO h9 O))
  refine sB (gD h9) O (go5 ?_);refine J4 _ _ pp_ s0 (bQ (rZ h9))
 intro g10;refine aL _ O (fun h11=>?_) (fun h11=>?_)
 ·refine go_ ?_;refine sC (AV [pI (E Z.bad)]) aE dS O O O (go3 ?_);refine rtX O (eR O m0 tyT O) ?_;exact congrArg vS4 (show _=(lB a b) from aN h7 (aQ h11 O))
 refine go3 ?_;refine aY O (fL aE O (fun w hw=>cC a.1 a.2 w) (fun vl12 Ll12 kl12=>?_))
 try simp only [gB,nM] at kl12
 refine go4 ?_;refine aY O (fL aE O (fun w hw=>cC b.1 b.2 w) (fun vl13 Ll13 kl13=>?_))
 try simp only [gB,nM] at kl13
 refine go8 ?_;refine sQ (aM (v':=.bool (a.1.neg==b.1.neg)) (ZW E0 O O) O) O (go_ ?_);refine aL _ O (fun h14=>?_) (fun h14=>?_)
 ·refine mS sn 7 [4,6] [6] (go4 ?_);refine cJ O O (fL aE O (fun w hw=>pK vl12 vl13 (dl (val a.1.w)) (dl (val b.1.w)) (kV _) (kV _) (Nat.le_trans (iC (k:=32) (tK a.2)) dd_) (Nat.le_trans (iC (k:=32) (tK b.2)) dd_) w (SL.sl (SL.sub kl12.sl (sR lZ)) hw) (SL.sl (SL.sub kl13.sl lZ) hw)) (fun vl15 Ll15 kl15=>⟨(fun _=>sR s0),sn,?_⟩))
  try simp only [gB,nM] at kl15
  refine pQ O (aM (v':=AV [pI (E (Z.of (sgn a.1.neg ((val a.1.w)+(val b.1.w)))))]) (dF aE O (fun w hw=>eA a.1.neg vl15 (dl ((val a.1.w)+(val b.1.w))) (kV _) (Nat.le_trans (iC (k:=33) (eE_ (k:=32) (tK a.2) (tK b.2))) dd_) w (SL.sl (SL.sub kl15.sl lZ) hw))) (by rw [(gB _)];rfl)) (go3 ?_);refine rtX O (eR O (mA (mA (mA mZ))) tyT O) ?_;exact congrArg vS4 (show _=(lB a b) from aN h7 (aN h11 (aQ h14 O)))
 refine go4 ?_;refine sQ (aM (v':=.bool (decide ((val a.1.w)<(val b.1.w)))) (dF aE O (fun w hw=>kT vl12 vl13 (dl (val a.1.w)) (dl (val b.1.w)) (kV _) (kV _) (Nat.le_trans (iC (k:=32) (tK a.2)) dd_) (Nat.le_trans (iC (k:=32) (tK b.2)) dd_) w (SL.sl (SL.sub kl12.sl (sR lZ)) hw) (SL.sl (SL.sub kl13.sl lZ) hw))) (by rw [(gB _),(gB _)])) O (go6 ?_);refine aL _ O (fun h16=>?_) (fun h16=>?_)
 ·refine mS sn 7 [4,6] [6] (go4 ?_);refine cJ O O (fL aE O (fun w hw=>nD vl13 vl12 (dl (val b.1.w)) (dl (val a.1.w)) (kV _) (kV _) (Nat.le_trans (iC (k:=32) (tK b.2)) dd_) (Nat.le_trans (iC (k:=32) (tK a.2)) dd_) (by simp only [gB,nM];exact (Nat.le_of_lt (of_decide_eq_true h16))) w (SL.sl (SL.sub kl13.sl lZ) hw) (SL.sl (SL.sub kl12.sl (sR lZ)) hw)) (fun vl17 Ll17 kl17=>⟨(fun _=>sR s0),sn,?_⟩))
  try simp only [gB,nM] at kl17
  refine pQ O (aM (v':=AV [pI (E (Z.of (sgn b.1.neg ((val b.1.w) - (val a.1.w)))))]) (dF aE O (fun w hw=>eA b.1.neg vl17 (dl ((val b.1.w) - (val a.1.w))) (kV _) (Nat.le_trans (iC (k:=32) (dj_ (tK b.2))) dd_) w (SL.sl (SL.sub kl17.sl lZ) hw))) (by rw [(gB _)];rfl)) (go3 ?_);refine rtX O (eR O (mA (mA (mA mZ))) tyT O) ?_;exact congrArg vS4 (show _=(lB a b) from aN h7 (aN h11 (aN h14 (aQ h16 O))))
 refine go_ ?_;refine mS sn 7 [4,6] [6] (go4 ?_);refine cJ O O (fL aE O (fun w hw=>nD vl12 vl13 (dl (val a.1.w)) (dl (val b.1.w)) (kV _) (kV _) (Nat.le_trans (iC (k:=32) (tK a.2)) dd_) (Nat.le_trans (iC (k:=32) (tK b.2)) dd_) (by simp only [gB,nM];exact (Nat.le_of_not_lt (of_decide_eq_false h16))) w (SL.sl (SL.sub kl12.sl (sR lZ)) hw) (SL.sl (SL.sub kl13.sl lZ) hw)) (fun vl18 Ll18 kl18=>⟨(fun _=>sR s0),sn,?_⟩))
 try simp only [gB,nM] at kl18
 refine pQ O (aM (v':=AV [pI (E (Z.of (sgn a.1.neg ((val a.1.w) - (val b.1.w)))))]) (dF aE O (fun w hw=>eA a.1.neg vl18 (dl ((val a.1.w) - (val b.1.w))) (kV _) (Nat.le_trans (iC (k:=32) (dj_ (tK a.2))) dd_) w (SL.sl (SL.sub kl18.sl lZ) hw))) (by rw [(gB _)];rfl)) (go3 ?_);refine rtX O (eR O (mA (mA (mA mZ))) tyT O) ?_;exact congrArg vS4 (show _=(lB a b) from aN h7 (aN h11 (aN h14 (aN h16 O))))
theorem n9 (a b:R) (ha:a.Ok) (hb:b.Ok):Ret prog 145 [RV a,RV b] (RV (Z.add a.dec b.dec).enc):=by
 have h:=CT ⟨a,ha⟩ ⟨b,hb⟩;rw [BM] at h;exact h
theorem CZ (a:I) (b:I) :
  Ret prog 229 [AV [pI a],AV [pI b]] (AV [pI (yH a b)]):=by
 refine bA (N:=9) func229 O O zz_ (fun w0=>?_);refine giI ?_;refine go2 ?_;intro b1 hb1;refine go_ ?_;intro b2 hb2;refine go_ ?_;intro b3 hb3;refine go_ ?_;refine mS (sd (sk (sk s0))) 5 [4] [4] (go2 ?_);refine pC (AV [pI (E (Z.neg b.dec))]) aE (qO b.1 b.2) O O O (pC (AV [pI (E (Z.add a.dec (Z.neg b.dec)))]) aE (n9 a.1 (E (Z.neg b.dec)).1 a.2 (E (Z.neg b.dec)).2) O O (cg2 (fun p q=>AV [pI (E (Z.add p q))]) O (fA _)) (go3 ?_));refine rtX O (eR O m0 tyT O) ?_;exact (by rfl)
theorem C0 (a b:R) (ha:a.Ok) (hb:b.Ok):Ret prog 229 [RV a,RV b] (RV (Z.sub a.dec b.dec).enc):=by
 have h:=CZ ⟨a,ha⟩ ⟨b,hb⟩;rw [BS] at h;exact h
theorem CV (a:I) (b:I) :
    Ret prog 146 [AV [pI a],AV [pI b]] (AV [pI (nY a b)]):=by
 refine bA (N:=55) func146 O O zz_ (fun w0=>?_);refine giI ?_;refine go2 ?_;intro b1 hb1;refine go_ ?_;intro b2 hb2;refine go_ ?_;intro b3 hb3;refine go3 ?_;refine sC (.tuple #[.int .i64 ((eK a).1),.bool (jQ a.1)]) aE (hJ a.1 a.2) O O O (go8 ?_);refine sC (.tuple #[.int .i64 ((eK b).1),.bool (jQ b.1)]) aE (hJ b.1 b.2) O O O (go7 ?_);refine gJv (rg [] 19 12) [(30,.bool ((jQ a.1)&&((jQ b.1)&&((decide ((eK a).1<2147483648)&&decide (-2147483648<(eK a).1))&&(decide ((eK b).1<2147483648)&&decide (-2147483648<(eK b).1))))))] (fun K2 J2=>?_) ?_
 ·refine go2 ?_;refine sBB O (fun h7=>?_) (fun h7=>?_)
  ·refine go2 ?_;refine sBB O (fun h8=>?_) (fun h8=>?_)
   ·refine go_ ?_;refine sC (.bool (decide ((eK a).1<2147483648)&&decide (-2147483648<(eK a).1))) aE (wR (eK a).1) O O O (go_ ?_);refine sBB O (fun h9=>?_) (fun h9=>?_)
    ·refine go_ ?_;refine sC (.bool (decide ((eK b).1<2147483648)&&decide (-2147483648<(eK b).1))) aE (wR (eK b).1) O O O (go2 ?_);refine J2 _ _ pp_ s0 (bQ (lS h7 (lS h8 (lS h9 O))))
    refine go4 ?_;refine J2 _ _ pp_ s0 (bQ (lS h7 (lS h8 (oY h9))))
   refine go8 ?_;refine J2 _ _ pp_ s0 (bQ (lS h7 (oY h8)))
  refine wH ?_;refine J2 _ _ pp_ s0 (bQ (oY h7))
 intro g10;refine aL _ O (fun h11=>?_) (fun h11=>?_)
 ·refine go3 ?_;refine sV (.int .i64 ((W.mul (eK a) (eK b)).1)) O O (sC (AV [pI (E (Z.of (W.mul (eK a) (eK b)).1))]) aE (bW (W.mul (eK a) (eK b)).1 (W.mul (eK a) (eK b)).2) O O O (go3 ?_));refine rtX O (eR O m0 tyT O) ?_;exact congrArg vS4 (show _=(nY a b) from aQ h11 O)
 refine go2 ?_;refine gJv (rg [] 35 8) [(42,.bool (!a.1.good||(!b.1.good)))] (fun K4 J4=>?_) ?_
 ·refine go2 ?_;refine sC (.bool a.1.good) aE (cB a.1 a.2) O O O (go_ ?_);rcases bt a.1.good with h13|h13
  ·refine sB (gG h13) O (go_ ?_);refine sC (.bool b.1.good) aE (cB b.1 b.2) O O O (go3 ?_);refine J4 _ _ pp_ s0 (bQ (nO h13 O))
  refine sB (gD h13) O (go5 ?_);refine J4 _ _ pp_ s0 (bQ (rZ h13))
 intro g14;refine aL _ O (fun h15=>?_) (fun h15=>?_)
 ·refine go_ ?_;refine sC (AV [pI (E Z.bad)]) aE dS O O O (go3 ?_);refine rtX O (eR O m0 tyT O) ?_;exact congrArg vS4 (show _=(nY a b) from aN h11 (aQ h15 O))
 refine go_ ?_;refine gds sn [0,4,8,12,16,20,28,25,33,37,40,45] [11] mix (by kernel_rfl) (go4 ?_);refine pQ O (aM (v':=.bool (a.1.neg != b.1.neg)) (xF E0 O O) O) (go2 ?_);refine cJ O O (fL aE O (fun w hw=>cC a.1 a.2 w) (fun vl16 Ll16 kl16=>⟨(fun _=>sR s0),sn,?_⟩))
 try simp only [gB,nM] at kl16
 refine cJ O O (fL aE O (fun w hw=>cC b.1 b.2 w) (fun vl17 Ll17 kl17=>⟨(fun _=>sR s0),sn,?_⟩))
 try simp only [gB,nM] at kl17
 refine cJ O O (fL aE O (fun w hw=>sH vl16 vl17 (dl (val a.1.w)) (dl (val b.1.w)) (kV _) (kV _) (Nat.le_trans (iC (k:=32) (tK a.2)) dd_) (Nat.le_trans (iC (k:=32) (tK b.2)) dd_) w (SL.sl (SL.sub kl16.sl (sR lZ)) hw) (SL.sl (SL.sub kl17.sl lZ) hw)) (fun vl18 Ll18 kl18=>⟨(fun _=>sR s0),sn,?_⟩))
 try simp only [gB,nM] at kl18
 refine pQ O (aM (v':=AV [pI (E (Z.of (sgn (a.1.neg != b.1.neg) ((val a.1.w)*(val b.1.w)))))]) (dF aE O (fun w hw=>eA (a.1.neg != b.1.neg) vl18 (dl ((val a.1.w)*(val b.1.w))) (kV _) (Nat.le_trans (iC (k:=64) (f7_ (i:=32) (k:=32) (tK a.2) (tK b.2))) dd_) w (SL.sl (SL.sub kl18.sl lZ) hw))) (by rw [(gB _)];rfl)) (go3 ?_);refine rtX O (eR O (mA (mA (mA mZ))) tyT O) ?_;exact congrArg vS4 (show _=(nY a b) from aN h11 (aN h15 O))
theorem iH (a b:R) (ha:a.Ok) (hb:b.Ok):Ret prog 146 [RV a,RV b] (RV (Z.mul a.dec b.dec).enc):=by
 have h:=CV ⟨a,ha⟩ ⟨b,hb⟩;rw [BO] at h;exact h
theorem B4 (a:I) :
    Ret prog 106 [AV [pI a]] (.int .i64 ((mY a).1)):=by
 refine bA (N:=14) func106 O O zz_ (fun w0=>?_);refine giI ?_;refine go2 ?_;intro b1 hb1;refine go3 ?_;refine gJv (rg [] 3 9) [(11,.bool (!a.1.good||(((dl (val a.1.w)).length:Int)==0)))] (fun K2 J2=>?_) ?_
 ·refine go2 ?_;refine sC (.bool a.1.good) aE (cB a.1 a.2) O O O (go_ ?_);rcases bt a.1.good with h4|h4
  ·refine sB (gG h4) O (go_ ?_);refine aY O (fL aE O (fun w hw=>cC a.1 a.2 w) (fun vl5 Ll5 kl5=>?_))
   try simp only [gB,nM] at kl5
   refine sQ (aM (v':=.int .i64 ((dl (val a.1.w)).length:Int)) (oT j7 O (SL.sub kl5.sl lZ)) O) O (go3 ?_);refine J2 _ _ pp_ (sR s0) (bQ (nO h4 O))
  refine sB (gD h4) O (go6 ?_);refine J2 _ _ pp_ s0 (bQ (rZ h4))
 intro g6;refine aL _ O (fun h7=>?_) (fun h7=>?_)
 ·refine go4 ?_;refine rt1 ?_;exact congrArg vS7 (show _=(mY a) from aQ h7 O)
 refine go6 ?_;refine aL _ O (fun h8=>?_) (fun h8=>?_)
 ·refine go4 ?_;refine rt1 ?_;exact congrArg vS7 (show _=(mY a) from aN h7 (aQ h8 O))
 refine go5 ?_;refine rt1 ?_;exact congrArg vS7 (show _=(mY a) from aN h7 (aN h8 O))
theorem gH (a:R) (ha:a.Ok):Ret prog 106 [RV a] (.int .i64 a.dec.sign):=by
 have h:=B4 ⟨a,ha⟩;rw [AP] at h;exact h
theorem CU (a:I) (b:I) :
    Ret prog 109 [AV [pI a],AV [pI b]] (.int .i64 ((fR a b).1)):=by
 refine bA (N:=48) func109 O O zz_ (fun w0=>?_);refine giI ?_;refine go2 ?_;intro b1 hb1;refine go_ ?_;intro b2 hb2;refine go3 ?_;refine gJv (rg [] 9 8) [(16,.bool (!a.1.good&&(!b.1.good)))] (fun K2 J2=>?_) ?_
 ·refine go2 ?_;refine sC (.bool a.1.good) aE (cB a.1 a.2) O O O (go_ ?_);rcases bt a.1.good with h4|h4
  ·refine sB (gG h4) O (go5 ?_);refine J2 _ _ pp_ s0 (bQ (yA h4))
  refine sB (gD h4) O (go_ ?_);refine sC (.bool b.1.good) aE (cB b.1 b.2) O O O (go3 ?_);refine J2 _ _ pp_ s0 (bQ (u3 h4 O))
 intro g5;refine aL _ O (fun h6=>?_) (fun h6=>?_)
 ·refine go4 ?_;refine rt1 ?_;exact congrArg vS7 (show _=(fR a b) from aQ h6 O)
 refine go4 ?_;refine sC (.bool a.1.good) aE (cB a.1 a.2) O O O (go2 ?_);rcases bt a.1.good with h7|h7
 ·refine W_f (gG h7) O (go4 ?_);refine sC (.bool b.1.good) aE (cB b.1 b.2) O O O (go2 ?_);rcases bt b.1.good with h8|h8
  ·refine W_f (gG h8) O (go7 ?_);refine sQ (aM (v':=.bool (a.1.neg != b.1.neg)) (xF E0 O O) O) O (go_ ?_);refine aL _ O (fun h9=>?_) (fun h9=>?_)
   ·refine go5 ?_;refine aL _ O (fun h10=>?_) (fun h10=>?_)
    ·refine go4 ?_;refine rt1 ?_;exact congrArg vS7 (show _=(fR a b) from aN h6 (aQ h7 (aQ h8 (aQ h9 (aQ h10 O)))))
    refine go5 ?_;refine rt1 ?_;exact congrArg vS7 (show _=(fR a b) from aN h6 (aQ h7 (aQ h8 (aQ h9 (aN h10 O)))))
   refine go3 ?_;refine aY O (fL aE O (fun w hw=>cC a.1 a.2 w) (fun vl11 Ll11 kl11=>?_))
   try simp only [gB,nM] at kl11
   refine go4 ?_;refine aY O (fL aE O (fun w hw=>cC b.1 b.2 w) (fun vl12 Ll12 kl12=>?_))
   try simp only [gB,nM] at kl12
   refine go7 ?_;refine aL _ O (fun h13=>?_) (fun h13=>?_)
   ·refine go2 ?_;refine aY O (fL aE O (fun w hw=>cC b.1 b.2 w) (fun vl14 Ll14 kl14=>?_))
    try simp only [gB,nM] at kl14
    refine go4 ?_;refine aY O (fL aE O (fun w hw=>cC a.1 a.2 w) (fun vl15 Ll15 kl15=>?_))
    try simp only [gB,nM] at kl15
    refine go5 ?_;refine sQ (aM (v':=.bool (decide ((val b.1.w)<(val a.1.w)))) (dF aE O (fun w hw=>kT vl14 vl15 (dl (val b.1.w)) (dl (val a.1.w)) (kV _) (kV _) (Nat.le_trans (iC (k:=32) (tK b.2)) dd_) (Nat.le_trans (iC (k:=32) (tK a.2)) dd_) w (SL.sl (SL.sub kl14.sl (sR lZ)) hw) (SL.sl (SL.sub kl15.sl lZ) hw))) (by rw [(gB _),(gB _)])) O (go5 ?_);refine sQ (aM (v':=.bool (decide ((val a.1.w)<(val b.1.w)))) (dF aE O (fun w hw=>kT vl15 vl14 (dl (val a.1.w)) (dl (val b.1.w)) (kV _) (kV _) (Nat.le_trans (iC (k:=32) (tK a.2)) dd_) (Nat.le_trans (iC (k:=32) (tK b.2)) dd_) w (SL.sl (SL.sub kl15.sl lZ) hw) (SL.sl (SL.sub kl14.sl (sR lZ)) hw))) (by rw [(gB _),(gB _)])) O (go6 ?_);refine aL _ O (fun h16=>?_) (fun h16=>?_)
    ·refine go4 ?_;refine rt1 ?_;exact congrArg vS7 (show _=(fR a b) from aN h6 (aQ h7 (aQ h8 (aN h9 (aQ h13 (aQ h16 O))))))
    refine go5 ?_;refine aL _ O (fun h17=>?_) (fun h17=>?_)
    ·refine go4 ?_;refine rt1 ?_;exact congrArg vS7 (show _=(fR a b) from aN h6 (aQ h7 (aQ h8 (aN h9 (aQ h13 (aN h16 (aQ h17 O)))))))
    refine go5 ?_;refine rt1 ?_;exact congrArg vS7 (show _=(fR a b) from aN h6 (aQ h7 (aQ h8 (aN h9 (aQ h13 (aN h16 (aN h17 O)))))))
   refine go4 ?_;refine sQ (aM (v':=.bool (decide ((val a.1.w)<(val b.1.w)))) (dF aE O (fun w hw=>kT vl11 vl12 (dl (val a.1.w)) (dl (val b.1.w)) (kV _) (kV _) (Nat.le_trans (iC (k:=32) (tK a.2)) dd_) (Nat.le_trans (iC (k:=32) (tK b.2)) dd_) w (SL.sl (SL.sub kl11.sl (sR lZ)) hw) (SL.sl (SL.sub kl12.sl lZ) hw))) (by rw [(gB _),(gB _)])) O (go5 ?_);refine sQ (aM (v':=.bool (decide ((val b.1.w)<(val a.1.w)))) (dF aE O (fun w hw=>kT vl12 vl11 (dl (val b.1.w)) (dl (val a.1.w)) (kV _) (kV _) (Nat.le_trans (iC (k:=32) (tK b.2)) dd_) (Nat.le_trans (iC (k:=32) (tK a.2)) dd_) w (SL.sl (SL.sub kl12.sl lZ) hw) (SL.sl (SL.sub kl11.sl (sR lZ)) hw))) (by rw [(gB _),(gB _)])) O (go6 ?_);refine aL _ O (fun h18=>?_) (fun h18=>?_)
   ·refine go4 ?_;refine rt1 ?_;exact congrArg vS7 (show _=(fR a b) from aN h6 (aQ h7 (aQ h8 (aN h9 (aN h13 (aQ h18 O))))))
   refine go5 ?_;refine aL _ O (fun h19=>?_) (fun h19=>?_)
   ·refine go4 ?_;refine rt1 ?_;exact congrArg vS7 (show _=(fR a b) from aN h6 (aQ h7 (aQ h8 (aN h9 (aN h13 (aN h18 (aQ h19 O)))))))
   refine go5 ?_;refine rt1 ?_;exact congrArg vS7 (show _=(fR a b) from aN h6 (aQ h7 (aQ h8 (aN h9 (aN h13 (aN h18 (aN h19 O)))))))
  refine W_t (gD h8) O (go4 ?_);refine rt1 ?_;exact congrArg vS7 (show _=(fR a b) from aN h6 (aQ h7 (aN h8 O)))
 refine W_t (gD h7) O (go4 ?_);refine rt1 ?_;exact congrArg vS7 (show _=(fR a b) from aN h6 (aN h7 O))
theorem qN (a b:R) (ha:a.Ok) (hb:b.Ok):Ret prog 109 [RV a,RV b] (.int .i64 (Z.cmp a.dec b.dec)):=by
 have h:=CU ⟨a,ha⟩ ⟨b,hb⟩;rw [BN] at h;exact h
theorem CX (a:I) (b:I) :
    Ret prog 111 [AV [pI a],AV [pI b]] (AV [pI (mB a b)]):=by
 refine bA (N:=76) func111 O O zz_ (fun w0=>?_);refine giI ?_;refine go2 ?_;intro b1 hb1;refine go_ ?_;intro b2 hb2;refine go_ ?_;intro b3 hb3;refine go3 ?_;refine sC (.tuple #[.int .i64 ((eK a).1),.bool (jQ a.1)]) aE (hJ a.1 a.2) O O O (go8 ?_);refine sC (.tuple #[.int .i64 ((eK b).1),.bool (jQ b.1)]) aE (hJ b.1 b.2) O O O (go7 ?_);refine gJv (rg [] 21 8) [(28,.bool ((jQ a.1)&&((jQ b.1)&&((eK b).1 != 0))))] (fun K2 J2=>?_) ?_
 ·refine go2 ?_;refine sBB O (fun h6=>?_) (fun h6=>?_)
  ·refine go2 ?_;refine sBB O (fun h7=>?_) (fun h7=>?_)
   ·refine go4 ?_;refine J2 _ _ pp_ s0 (bQ (lS h6 (lS h7 O)))
   refine go4 ?_;refine J2 _ _ pp_ s0 (bQ (lS h6 (oY h7)))
  refine go7 ?_;refine J2 _ _ pp_ s0 (bQ (oY h6))
 intro g8;refine aL _ O (fun h9=>?_) (fun h9=>?_)
 ·refine go3 ?_;have hfl:=OH h9;refine sC (.int .i64 ((W.fdiv (eK a) (eK b)).1)) aE (vQ (eK a).1 (eK b).1 (eK a).2 hfl.1 hfl.2.1) O O (congrArg (Value.int .i64) hfl.2.2) (sC (AV [pI (E (Z.of (W.fdiv (eK a) (eK b)).1))]) aE (bW (W.fdiv (eK a) (eK b)).1 (W.fdiv (eK a) (eK b)).2) O O O (go3 ?_));refine rtX O (eR O m0 tyT O) ?_;exact congrArg vS4 (show _=(mB a b) from aQ h9 O)
 refine go2 ?_;refine gJv (rg [] 33 14) [(46,.bool (!a.1.good||(!b.1.good||(((dl (val b.1.w)).length:Int)==0))))] (fun K4 J4=>?_) ?_
 ·refine go2 ?_;refine sC (.bool a.1.good) aE (cB a.1 a.2) O O O (go_ ?_);rcases bt a.1.good with h13|h13
  ·refine sB (gG h13) O (go_ ?_);refine sC (.bool b.1.good) aE (cB b.1 b.2) O O O (go2 ?_);rcases bt b.1.good with h14|h14
   ·refine sB (gG h14) O (go_ ?_);refine aY O (fL aE O (fun w hw=>cC b.1 b.2 w) (fun vl15 Ll15 kl15=>?_))
    try simp only [gB,nM] at kl15
    refine sQ (aM (v':=.int .i64 ((dl (val b.1.w)).length:Int)) (oT j7 O (SL.sub kl15.sl lZ)) O) O (go3 ?_);refine J4 _ _ pp_ (sR s0) (bQ (nO h13 (nO h14 O)))
   refine sB (gD h14) O (go6 ?_);refine J4 _ _ pp_ s0 (bQ (nO h13 (rZ h14)))
  refine sB (gD h13) O (wH ?_);refine J4 _ _ pp_ s0 (bQ (rZ h13))
 intro g16;refine aL _ O (fun h17=>?_) (fun h17=>?_)
 ·refine go_ ?_;refine sC (AV [pI (E Z.bad)]) aE dS O O O (go3 ?_);refine rtX O (eR O m0 tyT O) ?_;exact congrArg vS4 (show _=(mB a b) from aN h9 (aQ h17 O))
 refine go_ ?_;refine gds sn [0,8,5,13,17,20,24,28,32,36] [] mix (by kernel_rfl) (go2 ?_);refine cJ O O (fL aE O (fun w hw=>cC a.1 a.2 w) (fun vl18 Ll18 kl18=>⟨(fun _=>sR s0),sn,?_⟩))
 try simp only [gB,nM] at kl18
 refine cJ O O (fL aE O (fun w hw=>cC b.1 b.2 w) (fun vl19 Ll19 kl19=>⟨(fun _=>sR s0),sn,?_⟩))
 try simp only [gB,nM] at kl19
 have hB:=cm_ h17;refine cJ O O (EG aE O (fun w hw=>oJ vl18 vl19 (val a.1.w) (val b.1.w) hB (Nat.le_trans (iC (k:=32) (tK a.2)) dd_) (Nat.le_trans (iC (k:=32) (tK b.2)) dd_) w (SL.sl (SL.sub kl18.sl (sR lZ)) hw) (SL.sl (SL.sub kl19.sl lZ) hw)) (fun vl20_0 vl20_1 Ll20 kl20_0 kl20_1=>⟨(fun _=>sR s0),sn,?_⟩))
 try simp only [gB,nM] at kl20_0 kl20_1
 refine go7 ?_;refine gJv (rg [] 56 10) [(65,.bool ((a.1.neg != b.1.neg)&&decide (0<((dl ((val a.1.w) % (val b.1.w))).length:Int))))] (fun K6 J6=>?_) ?_
 ·refine go5 ?_;refine sQ (aM (v':=.bool (a.1.neg != b.1.neg)) (xF E0 O O) O) O ?_;refine sBB O (fun h22=>?_) (fun h22=>?_)
  ·refine go_ ?_;refine sQ (aM (v':=.int .i64 ((dl ((val a.1.w) % (val b.1.w))).length:Int)) (oT j7 O (SL.sub kl20_1 lZ)) O) O (go3 ?_);refine J6 _ _ pp_ s0 (bQ (lS h22 O))
  refine go5 ?_;refine J6 _ _ pp_ s0 (bQ (oY h22))
 intro g23;refine aL _ O (fun h24=>?_) (fun h24=>?_)
 ·refine go2 ?_;refine aY O (kH jN z_3 oX O dd_ O (DD 1) (fun b25 hb25=>aY O (fL aE O (fun w hw=>pK vl20_0 _ (dl ((val a.1.w) / (val b.1.w))) [1] (kV _) (DL.one dd_) (Nat.le_trans (iC (k:=32) (dg_ (tK a.2))) dd_) zz_ w (SL.sl (SL.sub kl20_0 (sd lZ)) hw) (SL.sl (SL.sub (SL.mine (l:=[1]) List.mem_cons_self (Nat.le_refl _)) (sk sn)) hw)) (fun vl26 Ll26 kl26=>?_))))
  try simp only [gB,nM] at kl26
  refine go7 ?_;refine sQ (aM (v':=.bool (a.1.neg != b.1.neg)) (xF E0 O O) O) O (go_ ?_);refine sQ (aM (v':=AV [pI (E (Z.of (sgn (a.1.neg != b.1.neg) (((val a.1.w) / (val b.1.w))+1))))]) (dF aE O (fun w hw=>eA (a.1.neg != b.1.neg) vl26 (dl (((val a.1.w) / (val b.1.w))+1)) (kV _) (Nat.le_trans (iC (k:=33) (eE_ (k:=32) (dg_ (tK a.2)) (Nat.lt_of_lt_of_le (show 1<65536 ^ 1 by decide) (Nat.pow_le_pow_right (show 0<65536 by decide) (show 1≤32 by decide))))) dd_) w (SL.sl (SL.sub kl26.sl lZ) hw))) (by rw [(gB _)];rfl)) O (go3 ?_);refine rtX O (eR O (mA (mC (mA (mA (mA mZ))))) tyT O) ?_;exact congrArg vS4 (show _=(mB a b) from aN h9 (aN h17 (aQ h24 O)))
 refine go6 ?_;refine sQ (aM (v':=.bool (a.1.neg != b.1.neg)) (xF E0 O O) O) O (go_ ?_);refine sQ (aM (v':=AV [pI (E (Z.of (sgn (a.1.neg != b.1.neg) ((val a.1.w) / (val b.1.w)))))]) (dF aE O (fun w hw=>eA (a.1.neg != b.1.neg) vl20_0 (dl ((val a.1.w) / (val b.1.w))) (kV _) (Nat.le_trans (iC (k:=32) (dg_ (tK a.2))) dd_) w (SL.sl (SL.sub kl20_0 lZ) hw))) (by rw [(gB _)];rfl)) O (go3 ?_);refine rtX O (eR O (mA (mA (mA mZ))) tyT O) ?_;exact congrArg vS4 (show _=(mB a b) from aN h9 (aN h17 (aN h24 O)))
theorem fY (a b:R) (ha:a.Ok) (hb:b.Ok):Ret prog 111 [RV a,RV b] (RV (Z.quo a.dec b.dec).enc):=by
 have h:=CX ⟨a,ha⟩ ⟨b,hb⟩;rw [BQ] at h;exact h
theorem gP (a:R) (ha:a.Ok) :
    Ret prog 86 [RV a] (.tuple #[.int .i64 a.dec.small.1,.bool a.dec.small.2]):=by
 refine bA (N:=38) func86 O O zz_ (fun w0=>?_);refine giI ?_;refine go_ ?_;refine aY O (lC O O (fun b1 hb1=>go5 ?_));refine sQ (cI tyT O mm_ (cO ha)) O ?_;refine sQ (aX aE (cB a ha) O) O (go2 ?_);refine aL _ O (fun hg=>?_) (fun hg=>?_)
 ·replace hg:=cB_ hg
  refine go5 ?_;refine rt2 ?_;exact NA hg
 replace hg:=cB_ hg
 refine go2 ?_;refine sQ (aX aE (bW (-9223372036854775808) dd_) O) O (aY O (eS mX (fun b4 hb4=>aY O (bV tyT O O uu_ (aI _) O (bN _) (.inl fP) ?_))));refine go2 ?_;refine sQ (aX aE (bW 9223372036854775807 dd_) O) O (aY O (eS mX (fun b5 hb5=>aY O (bV tyT O O uu_ (aI _) O (bN _) (.inl fP) ?_))));refine go3 ?_;refine sQ (cI tyT O mm_ (cO ha)) O ?_;refine sQ (cI tyT O mm_ (aI _)) O ?_;refine sQ (aX aE (qN a (Z.of (-9223372036854775808)).enc ha (Z.enc_ok _)) O) O (go2 ?_)
 cases hlo:decide (Z.cmp a.dec (Z.of (-9223372036854775808)).enc.dec<0)
 ·refine sQ (cI tyT O mm_ (cO ha)) O ?_;refine sQ (cI tyT O mm_ (aI _)) O ?_;refine sQ (aX aE (qN a (Z.of 9223372036854775807).enc ha (Z.enc_ok _)) O) O (go3 ?_);refine aL _ O (fun hhi=>?_) (fun hhi=>?_)
  ·replace hhi:=cB_ hhi
   refine go5 ?_;refine rt2 ?_;exact BF ha hg (W6 ha hg hhi)
  replace hhi:=cB_ hhi
  have hin:=W8 ha hg (of_decide_eq_false hlo) hhi;have hsm:=W3 hin;refine go2 ?_;refine sQ (cH fdT dd_ O) O (sQ (eZ arT O O dd_ dd_) O (sQ (dX tyT O mm_ (oZ (r:=a) (k:=1) (by rw [ha.len];decide))) O ?_));refine sQ (eX i4 gA O) O (go_ ?_);refine sQ (cH fdT dd_ O) O (sQ (eZ arT O O dd_ dd_) O (sQ (dX tyT O mm_ (oZ (r:=a) (k:=0) (by rw [ha.len];decide))) O ?_));refine sQ (eX i4 gA O) O (sQ (aM (j3 O O) (congrArg (Value.int .u64) (W9 ha hsm))) O (sQ (aM (eX gA FS O) (rfl:_=Value.int .i64 (IntKind.i64.wrap ((val a.w:Nat):Int)))) O (go4 ?_)));refine sQ (cH fdT dd_ O) O (sQ (dX tyT O mm_ O) O ?_);refine go_ ?_;refine aL _ O (fun hn=>?_) (fun hn=>?_)
  ·replace hn:=cB_ hn
   refine wH ?_;refine rt2 ?_;exact F7 ha hg (TM hin hn) hin
  replace hn:=cB_ hn
  refine go7 ?_;refine rt2 ?_;exact F7 ha hg (TN hin hn) hin
 refine uP ?_;refine rt2 ?_;exact BF ha hg (W5 ha hg (of_decide_eq_true hlo))
theorem lF (a b:R) (ha:a.Ok) (hb:b.Ok) :
    Ret prog 107 [RV a,RV b] (RV (Z.gcd a.dec b.dec).enc):=by
 refine bA (N:=64) func107 O O zz_ (fun w0=>?_);refine giI ?_;have hla:=cn_ ha;have hlb:=cn_ hb;refine go_ ?_;refine aY O (lC O O (fun b2 hb2=>aY O (lC O O (fun b3 hb3=>aY O (eS mX (fun b4 hb4=>go2 ?_))))));refine sQ (cI tyT O mm_ (cO ha)) O ?_;refine sQ (aX aE (hJ a ha) O) O (go7 ?_);refine sQ (cI tyT O mm_ (cO hb)) O ?_;refine sQ (aX aE (hJ b hb) O) O (jE ?_)
 cases w1:jQ a
 ·refine go7 ?_;refine sQ (cI tyT O mm_ (cO ha)) O ?_;refine sQ (aX aE (cB a ha) O) O (go2 ?_)
  cases ga:a.good
  ·refine go7 ?_;refine sQ (aX aE dS O) O (aY O (bV tyT O O uu_ (aI _) O (bN _) (.inl fP) ?_));refine go2 ?_;refine rtX O ⟨_,_,_,_,_,_,rfl,mm_,tyT,_,(dQ (aI _)),(aI _),rfl⟩ ?_
   (rw [Z.gcd,o0 (.inl (HU ga))];rfl)
  refine sQ (cI tyT O mm_ (cO hb)) O ?_;refine sQ (aX aE (cB b hb) O) O (go3 ?_);refine aL _ O (fun gb=>?_) (fun gb=>?_)
  ·replace gb:=cB_ gb
   refine go_ ?_;refine sQ (aX aE dS O) O (aY O (bV tyT O O uu_ (aI _) O (bN _) (.inl fP) ?_));refine go2 ?_;refine rtX O ⟨_,_,_,_,_,_,rfl,mm_,tyT,_,(dQ (aI _)),(aI _),rfl⟩ ?_
   (rw [Z.gcd,o0 (.inr (HU gb))];rfl)
  replace gb:=cB_ gb
  refine go2 ?_;refine sQ (cI tyT O mm_ (cO ha)) O ?_;refine aY O (fL aE O (fun w hw=>cC a ha w) (fun v5 L5 h5=>go3 ?_));refine sQ (cI tyT O mm_ (cO hb)) O ?_;refine aY O (fL aE O (fun w hw=>cC b hb w) (fun v6 L6 h6=>go4 ?_));refine cE (rg [10,11,12,13] 51 11) (fun g nn M=>∃ (X Y:Nat) (vx vy:Value) (Lx Ly:List Blk),(g 10=vx∧g 11=vy)∧M=Ly++(Lx++[⟨b4,33,zR⟩,⟨b3,33,b.cells⟩,⟨b2,33,a.cells⟩])∧nn=Y∧((X<65536 ^ 32∧Y<65536 ^ 32)∧Nat.gcd X Y=Nat.gcd (val a.w) (val b.w)∧SL w0 [] Lx vx (dl X)∧SL w0 [] Ly vy (dl Y))) (val b.w) ?start ?round
  case start =>
   refine ⟨_,(List.Sublist.refl _),val a.w,val b.w,v5,v6,L5,L6,⟨?a10,?a11⟩,?mem0,rfl,⟨⟨UG ha,UG hb⟩,rfl,h5.sl,h6.sl⟩⟩
   case mem0=>rfl
   case a10=>rfl
   case a11=>rfl
  case round =>
   rintro nn g M ⟨X,Y,vx,vy,Lx,Ly,⟨hg10,hg11⟩,rfl,hmeas,⟨hb3,hgc,hX,hY⟩⟩;subst nn;refine gS2 hg10 hg11 ?_;clear hg10 hg11;refine go3 ?_;refine sQ (oT j7 O (hY.sub lZ)) O (go2 ?_);refine aL _ O (fun h53=>?_) (fun h53=>?_)
   ·replace h53:=cB_ h53
    have hYp:0<Y:=UF h53;refine go5 ?_;refine aY O (EG aE O (fun w hw=>oJ vx vy X Y hYp (GR hb3.1) (GR hb3.2) w (SL.sl (hX.sub (.trans lZ (List.sublist_append_right _ _))) hw) (SL.sl (hY.sub lZ) hw)) (fun vq vr Lr hq hr=>GO ?_));refine ⟨pp_,_,_,(List.Sublist.append (List.Sublist.refl _) (List.Sublist.append (List.Sublist.refl _) (List.sublist_append_right _ _))),(Nat.mod_lt _ hYp),Y,X % Y,vy,vr,Ly,Lr,⟨?s10,?s11⟩,?mem,rfl,⟨⟨hb3.2,Nat.lt_of_le_of_lt (Nat.mod_le _ _) hb3.1⟩,by rw [← hgc];exact OE X Y,hY,hr⟩⟩
    case mem=>rfl
    case s10=>rfl
    case s11=>rfl
   replace h53:=cB_ h53
   have hY0:Y=0:=QP h53;refine go3 ?_;refine sQ (dF aE O (fun w hw=>eA false _ _ (kV _) (Nat.le_trans (GR hb3.1) dd_) w (SL.sl (hX.sub (.trans lZ (List.sublist_append_right _ _))) hw))) O (aY O (bV tyT O O uu_ (aI _) O (bN _) (.inl fP) ?_));refine go2 ?_;refine rtX O ⟨_,_,_,_,_,_,rfl,mm_,tyT,_,(dQ (aI _)),(aI _),rfl⟩ ?_
   (rw [YU ha hb ga gb (by rw [← hgc,hY0,Nat.gcd_zero_right]),gB];rfl)
 refine go3 ?_;refine aL _ O (fun w2=>?_) (fun w2=>?_)
 ·replace w2:=cB_ w2
  refine go2 ?_;refine cE (rg [5,7,9] 28 7) (fun g nn M=>∃ (x y:Int),(g 5 = .int .i64 x∧g 7 = .int .i64 y)∧M=[⟨b4,33,zR⟩,⟨b3,33,b.cells⟩,⟨b2,33,a.cells⟩]∧nn=y.natAbs∧((-4611686018427387904<x∧x<4611686018427387904)∧(-4611686018427387904<y∧y<4611686018427387904)∧Int.gcd x y=Int.gcd (lM a) (lM b))) ((lM b).natAbs) ?start ?round
  case start =>
   refine ⟨_,(List.Sublist.refl _),lM a,lM b,⟨?a5,?a7⟩,?mem0,rfl,⟨(nW ha w1).2.2.2,(nW hb w2).2.2.2,rfl⟩⟩
   case mem0=>rfl
   case a5=>rfl
   case a7=>rfl
  case round =>
   rintro nn g M ⟨x,y,⟨hg5,hg7⟩,rfl,hmeas,⟨hx,hy,hgc⟩⟩;subst nn;refine gS2 hg5 hg7 ?_;clear hg5 hg7;refine go5 ?_;refine aL _ O (fun h29=>?_) (fun h29=>?_)
   ·replace h29:=cB_ h29
    refine go5 ?_;refine sQ (tQ O O h29) O (jE ?_);refine ⟨pp_,_,_,(List.Sublist.refl _),(xJ (by simpa using h29)).1,y,x.tmod y,⟨?s5,?s7⟩,?mem,rfl,⟨hy,ds_ hx,by rw [← hgc];exact Y1 x y⟩⟩
    case mem=>rfl
    case s5=>rfl
    case s7=>rfl
   replace h29:=cB_ h29
   have hy0:y=0:=by simpa using h29
   refine go3 ?_;refine sQ (aX aE (bW x (dr_ hx)) O) O (sQ (aX aE (CS (Z.of x).enc (Z.enc_ok _)) O) O (aY O (bV tyT O O uu_ (aI _) O (bN _) (.inl fP) ?_)));refine go2 ?_;refine rtX O ⟨_,_,_,_,_,_,rfl,mm_,tyT,_,(dQ (aI _)),(aI _),rfl⟩ ?_
   (rw [zW,V2 ha hb w1 w2 hgc hy0];rfl)
 replace w2:=cB_ w2
 refine go3 ?_;refine sQ (cI tyT O mm_ (cO ha)) O ?_;refine sQ (aX aE (cB a ha) O) O (go2 ?_)
 cases ga:a.good
 ·refine go7 ?_;refine sQ (aX aE dS O) O (aY O (bV tyT O O uu_ (aI _) O (bN _) (.inl fP) ?_));refine go2 ?_;refine rtX O ⟨_,_,_,_,_,_,rfl,mm_,tyT,_,(dQ (aI _)),(aI _),rfl⟩ ?_
  (rw [Z.gcd,o0 (.inl (HU ga))];rfl)
 refine sQ (cI tyT O mm_ (cO hb)) O ?_;refine sQ (aX aE (cB b hb) O) O (go3 ?_);refine aL _ O (fun gb=>?_) (fun gb=>?_)
 ·replace gb:=cB_ gb
  refine go_ ?_;refine sQ (aX aE dS O) O (aY O (bV tyT O O uu_ (aI _) O (bN _) (.inl fP) ?_));refine go2 ?_;refine rtX O ⟨_,_,_,_,_,_,rfl,mm_,tyT,_,(dQ (aI _)),(aI _),rfl⟩ ?_
  (rw [Z.gcd,o0 (.inr (HU gb))];rfl)
 replace gb:=cB_ gb
 refine go2 ?_;refine sQ (cI tyT O mm_ (cO ha)) O ?_;refine aY O (fL aE O (fun w hw=>cC a ha w) (fun v5 L5 h5=>go3 ?_));refine sQ (cI tyT O mm_ (cO hb)) O ?_;refine aY O (fL aE O (fun w hw=>cC b hb w) (fun v6 L6 h6=>go4 ?_));refine cE (rg [10,11,12,13] 51 11) (fun g nn M=>∃ (X Y:Nat) (vx vy:Value) (Lx Ly:List Blk),(g 10=vx∧g 11=vy)∧M=Ly++(Lx++[⟨b4,33,zR⟩,⟨b3,33,b.cells⟩,⟨b2,33,a.cells⟩])∧nn=Y∧((X<65536 ^ 32∧Y<65536 ^ 32)∧Nat.gcd X Y=Nat.gcd (val a.w) (val b.w)∧SL w0 [] Lx vx (dl X)∧SL w0 [] Ly vy (dl Y))) (val b.w) ?start ?round
 case start =>
  refine ⟨_,(List.Sublist.refl _),val a.w,val b.w,v5,v6,L5,L6,⟨?a10,?a11⟩,?mem0,rfl,⟨⟨UG ha,UG hb⟩,rfl,h5.sl,h6.sl⟩⟩
  case mem0=>rfl
  case a10=>rfl
  case a11=>rfl
 case round =>
  rintro nn g M ⟨X,Y,vx,vy,Lx,Ly,⟨hg10,hg11⟩,rfl,hmeas,⟨hb3,hgc,hX,hY⟩⟩;subst nn;refine gS2 hg10 hg11 ?_;clear hg10 hg11;refine go3 ?_;refine sQ (oT j7 O (hY.sub lZ)) O (go2 ?_);refine aL _ O (fun h53=>?_) (fun h53=>?_)
  ·replace h53:=cB_ h53
   have hYp:0<Y:=UF h53;refine go5 ?_;refine aY O (EG aE O (fun w hw=>oJ vx vy X Y hYp (GR hb3.1) (GR hb3.2) w (SL.sl (hX.sub (.trans lZ (List.sublist_append_right _ _))) hw) (SL.sl (hY.sub lZ) hw)) (fun vq vr Lr hq hr=>GO ?_));refine ⟨pp_,_,_,(List.Sublist.append (List.Sublist.refl _) (List.Sublist.append (List.Sublist.refl _) (List.sublist_append_right _ _))),(Nat.mod_lt _ hYp),Y,X % Y,vy,vr,Ly,Lr,⟨?s10,?s11⟩,?mem,rfl,⟨⟨hb3.2,Nat.lt_of_le_of_lt (Nat.mod_le _ _) hb3.1⟩,by rw [← hgc];exact OE X Y,hY,hr⟩⟩
   case mem=>rfl
   case s10=>rfl
   case s11=>rfl
  replace h53:=cB_ h53
  have hY0:Y=0:=QP h53;refine go3 ?_;refine sQ (dF aE O (fun w hw=>eA false _ _ (kV _) (Nat.le_trans (GR hb3.1) dd_) w (SL.sl (hX.sub (.trans lZ (List.sublist_append_right _ _))) hw))) O (aY O (bV tyT O O uu_ (aI _) O (bN _) (.inl fP) ?_));refine go2 ?_;refine rtX O ⟨_,_,_,_,_,_,rfl,mm_,tyT,_,(dQ (aI _)),(aI _),rfl⟩ ?_
  (rw [YU ha hb ga gb (by rw [← hgc,hY0,Nat.gcd_zero_right]),gB];rfl)
theorem vG (r:R) (h:r.Ok) :
    Ret prog 195 [RV r] (.bool r.valid):=by
 refine bA (N:=23) func195 O O zz_ (fun w0=>?_);refine giI ?_;refine go_ ?_;refine aY O (lC O O (fun b1 hb1=>go3 ?_));refine sQ (cH fdT dd_ O) O (sQ (jW (vs:=uw r.w) tyT O mm_ (nF h.len) ((jB _).trans h.len)) O ?_);refine sQ (sD sU arT O (.nil _)) O ?_;refine sQ (tB (r:=r.zero) O O (kC 8 dd_ JA JP (qG h.len) (qG zz_) h.zero_iff)) O ?_;refine go4 ?_;refine sQ (cH fdT dd_ O) O (sQ (dX tyT O mm_ O) O ?_);refine go_ ?_;refine aL _ O (fun hb=>?_) (fun hb=>?_)
 ·replace hb:=cB_ hb
  refine go3 ?_
  cases hz:r.zero
  ·refine go7 ?_;refine rt1 ?_
   simp [R.valid, *]
  refine sQ (cH fdT dd_ O) O (sQ (dX tyT O mm_ O) O ?_);refine go5 ?_;refine rt1 ?_
  simp [R.valid, *]
 replace hb:=cB_ hb
 refine go5 ?_
 cases hz:r.zero
 ·refine go7 ?_;refine rt1 ?_
  simp [R.valid, *]
 refine sQ (cH fdT dd_ O) O (sQ (dX tyT O mm_ O) O ?_);refine go5 ?_;refine rt1 ?_
 simp [R.valid, *]
theorem gQ  :
  Ret prog 160 [] (RV Z.bad.enc):=by
 refine bA (N:=2) func160 O O zz_ (fun w0=>?_);refine giI ?_;refine go_ ?_;refine aY O (eS mX (fun b0 hb0=>go2 ?_));refine sQ (zE mX plT O (.cons O (vs:=[.bool true]) O O (by simp [zR]) (z':=Z.bad.enc.cells) O (.nil _))) O ?_;refine aY O (bV tyT O O uu_ O O (bN Z.bad.enc) (.inl fP) ?_);refine go2 ?_;refine rtX O ⟨_,_,_,_,_,_,rfl,mm_,tyT,_,(dQ O),rfl,rfl⟩ ?_;exact rfl
theorem fM (neg:Bool) (w:List Nat) (hw:w.length=16) (hlim:Lim w) :
   Ret prog 126 [.bool neg,UV w] (RV ⟨false,neg && !(val w==0),w⟩):=by
 refine bA (N:=13) func126 O O zz_ (fun w0=>?_);refine giI ?_
 have hlw:(uw w).length=16:=by rw [jB,hw]
 refine go_ ?_;refine aY O (lC O O (fun b3 hb3=>aY O (eS mX (fun b4 hb4=>go2 ?_))));refine kY (sd (sk s0)) 9 [8] [8] (go2 ?_)
 cases neg
 ·refine go4 ?_;refine pQ O (cI tyT O mm_ hlw) ?_;refine pQ O (zE mX plT O (YP hw)) ?_;refine cJ O O (bV tyT O O uu_ (by simp [R.cells,hlw]) O (bN _) (.inl fP) ⟨nf,ss_,?_⟩);refine go2 ?_;refine rtX O ⟨_,_,_,_,_,_,rfl,mm_,tyT,_,(dQ (by simp [R.cells,hlw])),(by simp [R.cells,hlw]),rfl⟩ ?_;rfl
 refine pQ O (cI tyT O mm_ hlw) ?_;refine pQ O (sD sU arT O (.nil _)) ?_;refine pQ O (wP (r:=(val w==0)) O O (kC 8 dd_ JA JP (qG hw) (qG zz_) (EL hw hlim))) ?_;refine go_ ?_;refine pQ O (cI tyT O mm_ hlw) ?_;refine pQ O (zE mX plT O (YP hw)) ?_;refine cJ O O (bV tyT O O uu_ (by simp [R.cells,hlw]) O (bN _) (.inl fP) ⟨nf,ss_,?_⟩);refine go2 ?_;refine rtX O ⟨_,_,_,_,_,_,rfl,mm_,tyT,_,(dQ (by simp [R.cells,hlw])),(by simp [R.cells,hlw]),rfl⟩ ?_;rfl
theorem jH (rs:List R) (hrs:∀ r∈rs,r.Ok) (b T:Nat) (w:World) (hb:w.heap[b]? = some (.cells (rs.flatMap R.cells).toArray T (0,0))) (hn:rs.length≤1000) :
    Calls prog 158 [.slice (some ⟨b,0,none⟩) rs.length rs.length].toArray w (fun e w'=>e = .returned (.bool (rs.all R.good))∧Ext w w'):=by
 refine dL (N:=19) func158 O O zz_ ?_;obtain ⟨w0,rfl⟩:=nm w;refine giI ?_;refine go6 ?_;refine sQ (CO w6 O) O (go3 ?_);refine cE (rg [2,4] 7 12) (fun g nn M=>∃ (k:Nat),(g 7 = .int .i64 (k:Int))∧M=[]∧nn=rs.length - k∧(k≤rs.length∧(rs.take k).all R.good=true)) (rs.length - 0) ?start ?round
 case start =>
  refine ⟨_,(List.Sublist.refl _),0,?a7,?mem0,rfl,⟨Nat.zero_le _,rfl⟩⟩
  case mem0=>rfl
  case a7=>rfl
 case round =>
  rintro nn g M ⟨k,hg7,rfl,hmeas,⟨hk,hall⟩⟩;subst nn;refine gS1 hg7 ?_;clear hg7;refine go4 ?_;refine aL _ O (fun hc=>?_) (fun hc=>?_)
  ·replace hc:=cB_ hc
   obtain ⟨r,hr⟩:∃ r,rs[k]? = some r:=⟨_,List.getElem?_eq_getElem oo_⟩;have hrok:=hrs r (List.mem_of_getElem? hr);refine go4 ?_;refine sQ (sF w6 O O oo_ oo_) O (sQ (Q5 (vs:=r.cells) tyT O hb zz_ (by rw [show (0+(k:Int).toNat*18)=k*18 by omega];exact F8 R.cells 18 rs k r (fun y hy=>cO (hrs y hy)) hr) (cO hrok)) O ?_);refine aY O (eS mX (fun b4 hb4=>aY O (bV tyT O O uu_ (cO hrok) O (bN _) (.inl fP) ?_)));refine go2 ?_;refine sQ (cH fdT dd_ O) O (sQ (dX tyT O mm_ O) O ?_);refine go_ ?_
   cases hbad:r.bad
   ·refine sQ (cI tyT O mm_ (cO hrok)) O ?_;refine sQ (aX aE (vG r hrok) O) O (go3 ?_);refine aL _ O (fun hx=>?_) (fun hx=>?_)
    ·replace hx:=cB_ hx
     skip
     refine go4 ?_;refine rt1 ?_;exact congrArg Value.bool (FG hr (by simp [R.good,hbad,hx]))
    replace hx:=cB_ hx
    skip
    refine go5 ?_;refine ⟨pp_,_,_,(List.Sublist.cons _ (List.Sublist.refl _)),oo_,k+1,?s7,?mem,rfl,⟨by omega,by rw [LT oo_ hr];simp [hall,R.good,hbad,hx]⟩⟩
    case mem=>rfl
    case s7=>(show Value.int .i64 _=_;rw [cL (by unfold I64;omega)];rfl)
   refine jE ?_;refine rt1 ?_;exact congrArg Value.bool (FG hr (by simp [R.good,hbad]))
  replace hc:=cB_ hc
  have hke:k=rs.length:=by omega
  refine go5 ?_;refine rt1 ?_
  (subst hke;rw [List.take_length] at hall;exact congrArg Value.bool hall.symm)
theorem LF (xs ys:List Nat) (hx:xs.length=16) (hy:ys.length=16) (lx:Lim xs) (ly:Lim ys) :
    Ret prog 191 [UV xs,UV ys] (.tuple #[UV (toL 16 (val xs+val ys)),.bool (((cy (val xs) (val ys) 16:Nat):Int)==0)]):=by
 refine bA (N:=33) func191 O O zz_ (fun w0=>?_);refine giI ?_;refine go_ ?_;refine aY O (lC O O (fun b2 hb2=>aY O (lC O O (fun b3 hb3=>aY O (eS sU (fun b4 hb4=>go3 ?_))))));refine aY O (eS sU (fun b6 hb6=>go9 ?_));refine cE (rg [] 7 23) (fun g nn M=>∃ (k:Nat),(g 7 = .int .u64 ((cy (val xs) (val ys) k:Nat):Int)∧g 9 = .int .i64 (k:Int))∧M=[⟨b6,31,uw (AS k (val xs+val ys) 16)⟩,⟨b4,31,uw (List.replicate 16 0)⟩,⟨b3,31,uw ys⟩,⟨b2,31,uw xs⟩]∧nn=16 - k∧(k≤16)) (16) ?start ?round
 case start =>
  refine ⟨_,(List.Sublist.refl _),0,⟨?a7,?a9⟩,?mem0,rfl,Nat.zero_le _⟩
  case mem0=>rw [BU]
  case a7=>rw [bb_];rfl
  case a9=>rfl
 case round =>
  rintro nn g M ⟨k,⟨hg7,hg9⟩,rfl,hmeas,hk⟩;subst nn;refine gS2 hg7 hg9 ?_;clear hg7 hg9;refine go4 ?_;refine aL _ O (fun hc=>?_) (fun hc=>?_)
  ·replace hc:=cB_ hc
   have hc:k<16:=by omega
   have hcy:=eD_ (val xs) (val ys) k;refine go8 ?_;refine kY (sk (sk (sk (sk s0)))) 12 [] [] (go2 ?_);refine pQ O (eZ arT O O oo_ oo_) (pQ O (dX tyT O mm_ (wY oo_)) ?_);refine pQ O (eX i4 gA O) (go_ ?_);refine pQ O (eZ arT O O oo_ oo_) (pQ O (dX tyT O mm_ (wY oo_)) ?_);refine pQ O (eX i4 gA O) (go_ ?_);refine pQ O (aM (j3 O O) (congrArg (Value.int .u64) (dK_ hcy (eJ lx k) (eJ ly k)))) (go5 ?_);refine sQ (aM (eX gA i4 O) (rR _)) O (sQ (eZ arT O O oo_ oo_) O (aY O (pZ tyT O O uu_ (by rw [k7 _ hk];exact hc) (.inl fP) ?_)));refine go3 ?_;refine sQ (aM (xZ O O dd_) (congrArg (Value.int .u64) (uS _ 32))) O (go6 ?_);refine ⟨pp_,_,_,(List.Sublist.refl _),oo_,k+1,⟨?s7,?s9⟩,?mem,rfl,oo_⟩
   case mem=>rw [fQ xs k lx,fQ ys k ly,S7,AT _ hc]
   case s7=>rw [← S6,← fQ xs k lx,← fQ ys k ly];rfl
   case s9=>exact congrArg (Value.int .i64) (cL (n:=(k:Int)+1) (by unfold I64;omega))
  replace hc:=cB_ hc
  obtain rfl:k=16:=by omega
  refine go2 ?_;refine sQ (cI tyT O mm_ (by simp [uw,k7])) O ?_;refine go2 ?_;refine aY O (bV tyT O O uu_ (by simp [uw,k7]) O (jP _) (.inl fP) ?_);refine go3 ?_;refine wX O (.inr O) ⟨_,_,_,_,_,_,rfl,mm_,tyT,_,(dQ (by simp [uw,k7])),(by simp [uw,k7]),rfl⟩ O ?_;rw [EB];rfl
theorem yG (xs ys:List Nat) (hx:xs.length=16) (hy:ys.length=16) (lx:Lim xs) (ly:Lim ys) (hle:val ys≤val xs) :
    Ret prog 192 [UV xs,UV ys] (UV (toL 16 (val xs - val ys))):=by
 refine bA (N:=31) func192 O O zz_ (fun w0=>?_);refine giI ?_;refine go_ ?_;refine aY O (lC O O (fun b2 hb2=>aY O (lC O O (fun b3 hb3=>aY O (eS sU (fun b4 hb4=>go2 ?_))))));refine aY O (eS sU (fun b5 hb5=>go9 ?_));refine cE (rg [] 6 24) (fun g nn M=>∃ (k:Nat),(g 6 = .int .u64 ((bw (val xs) (val ys) k:Nat):Int)∧g 9 = .int .i64 (k:Int))∧M=[⟨b5,31,uw (AS k (val xs - val ys) 16)⟩,⟨b4,31,uw (List.replicate 16 0)⟩,⟨b3,31,uw ys⟩,⟨b2,31,uw xs⟩]∧nn=16 - k∧(k≤16)) (16) ?start ?round
 case start =>
  refine ⟨_,(List.Sublist.refl _),0,⟨?a6,?a9⟩,?mem0,rfl,Nat.zero_le _⟩
  case mem0=>rw [BU]
  case a6=>rw [a3_];rfl
  case a9=>rfl
 case round =>
  rintro nn g M ⟨k,⟨hg6,hg9⟩,rfl,hmeas,hk⟩;subst nn;refine gS2 hg6 hg9 ?_;clear hg6 hg9;refine go4 ?_;refine aL _ O (fun hc=>?_) (fun hc=>?_)
  ·replace hc:=cB_ hc
   have hc:k<16:=by omega
   have hbw:=eB_ (val xs) (val ys) k;refine go8 ?_;refine kY (sk (sk (sk (sk s0)))) 12 [] [] (go_ ?_);refine pQ O (eZ arT O O oo_ oo_) (pQ O (dX tyT O mm_ (wY oo_)) ?_);refine pQ O (eX i4 gA O) (go_ ?_);refine pQ O (eZ arT O O oo_ oo_) (pQ O (dX tyT O mm_ (wY oo_)) ?_);refine pQ O (eX i4 gA O) (go2 ?_);refine pQ O (aM (rD O O) (congrArg (Value.int .u64) (UK hbw (eJ lx k) (eJ ly k)))) (go5 ?_);refine sQ (aM (eX gA i4 O) (rR _)) O (sQ (eZ arT O O oo_ oo_) O (aY O (pZ tyT O O uu_ (by rw [k7 _ hk];exact hc) (.inl fP) ?_)));refine go3 ?_;refine sQ (aM (xZ O O dd_) (congrArg (Value.int .u64) (uS _ 63))) O (go6 ?_);refine ⟨pp_,_,_,(List.Sublist.refl _),oo_,k+1,⟨?s6,?s9⟩,?mem,rfl,oo_⟩
   case mem=>rw [fQ xs k lx,fQ ys k ly,QQ k hle,AT _ hc]
   case s6=>rw [← OK,← fQ xs k lx,← fQ ys k ly];rfl
   case s9=>exact congrArg (Value.int .i64) (cL (n:=(k:Int)+1) (by unfold I64;omega))
  replace hc:=cB_ hc
  obtain rfl:k=16:=by omega
  refine go2 ?_;refine sQ (cI tyT O mm_ (by simp [uw,k7])) O ?_;refine aY O (bV tyT O O uu_ (by simp [uw,k7]) O (jP _) (.inl fP) ?_);refine go2 ?_;refine rtX O ⟨_,_,_,_,_,_,rfl,mm_,tyT,_,(dQ (by simp [uw,k7])),(by simp [uw,k7]),rfl⟩ ?_;rw [EB];rfl
theorem HA (x:Nat) :
  Ret prog 231 [U32 x] (.bool false):=by
 refine bA (N:=6) func231 O O zz_ (fun w0=>?_);refine giI ?_;refine go6 ?_;refine sQ (aM (cx_ O O) (congrArg Value.bool (bne_self_eq_false _))) O (go3 ?_);refine rt1 ?_;exact rfl
theorem VW (x y:Nat) :
   Ret prog 207 [U32 x,U32 y] (.int .i64 (wE x y)):=by
 refine bA (N:=20) func207 O O zz_ (fun w0=>?_);refine giI ?_;refine go5 ?_;refine sQ (aX aE (HA x) O) O (go4 ?_);refine sQ (aX aE (HA y) O) O (dq_ ?_);refine aL _ O (fun h1=>?_) (fun h1=>?_)
 ·replace h1:=cB_ h1
  refine go4 ?_;refine rt1 ?_;exact congrArg _ (zV h1).symm
 replace h1:=cB_ h1
 refine go7 ?_;refine aL _ O (fun h2=>?_) (fun h2=>?_)
 ·replace h2:=cB_ h2
  refine go4 ?_;refine rt1 ?_;exact congrArg _ (zU h2).symm
 replace h2:=cB_ h2
 refine go5 ?_;refine rt1 ?_
 (obtain rfl:x=y:=by omega);exact congrArg _ (FI _).symm
theorem rA (xs ys:List Nat) (hx:xs.length=16) (hy:ys.length=16) (lx:Lim xs) (ly:Lim ys) :
    Ret prog 171 [UV xs,UV ys] (.int .i64 (wE (val xs) (val ys))):=by
 refine bA (N:=24) func171 O O zz_ (fun w0=>?_);refine giI ?_;refine go_ ?_;refine aY O (lC O O (fun b2 hb2=>aY O (lC O O (fun b3 hb3=>go7 ?_))));refine cE (rg [] 4 20) (fun g nn M=>∃ (k:Nat),(g 5 = .int .i64 ((k:Int) - 1))∧M=[⟨b3,31,uw ys⟩,⟨b2,31,uw xs⟩]∧nn=k+0∧(k≤16∧xs.drop k=ys.drop k)) (16) ?start ?round
 case start =>
  refine ⟨_,(List.Sublist.refl _),16,?a5,?mem0,rfl,⟨Nat.le_refl _,by rw [List.drop_eq_nil_of_le oo_,List.drop_eq_nil_of_le oo_]⟩⟩
  case mem0=>rfl
  case a5=>rfl
 case round =>
  rintro nn g M ⟨k,hg5,rfl,hmeas,⟨hk,hd⟩⟩;subst nn;refine gS1 hg5 ?_;clear hg5;refine go5 ?_;refine aL _ O (fun hc=>?_) (fun hc=>?_)
  ·replace hc:=cB_ hc
   obtain ⟨m,rfl⟩:∃ m,k=m+1:=⟨k - 1,by omega⟩;refine go4 ?_;refine kY (sk (sk s0)) 7 [] [] (pQ O (aM (lU O) (congrArg (Value.int .i64) (show (((m+1:Nat):Int) - 1)=(m:Int) by omega))) (pQ O (eZ arT O O oo_ oo_) (pQ O (dX tyT O mm_ (wY oo_)) ?_)));refine pQ O (aM (lU O) (congrArg (Value.int .i64) (show (((m+1:Nat):Int) - 1)=(m:Int) by omega))) (pQ O (eZ arT O O oo_ oo_) (pQ O (dX tyT O mm_ (wY oo_)) ?_));refine go2 ?_;refine aL _ O (fun hne=>?_) (fun hne=>?_)
   ·replace hne:=cB_ hne
    refine go_ ?_;refine kY (sk (sk s0)) 8 [] [] (pQ O (aM (lU O) (congrArg (Value.int .i64) (show (((m+1:Nat):Int) - 1)=(m:Int) by omega))) (pQ O (eZ arT O O oo_ oo_) (pQ O (dX tyT O mm_ (wY oo_)) ?_)));refine pQ O (aM (lU O) (congrArg (Value.int .i64) (show (((m+1:Nat):Int) - 1)=(m:Int) by omega))) (pQ O (eZ arT O O oo_ oo_) (pQ O (dX tyT O mm_ (wY oo_)) ?_));refine pQ O (aX aE (VW _ _) O) (go3 ?_);refine rt1 ?_;exact congrArg _ (S2 lx ly oo_ hd oo_)
   replace hne:=cB_ hne
   refine go2 ?_;refine sQ (aM (lU O) (congrArg (Value.int .i64) (show (((m+1:Nat):Int) - 1)=(m:Int) by omega))) O (go3 ?_);refine ⟨pp_,_,_,(List.Sublist.refl _),oo_,m,?s5,?mem,rfl,⟨by omega,N7 oo_ hd oo_ oo_⟩⟩
   case mem=>rfl
   case s5=>exact congrArg (Value.int .i64) (cL (n:=(m:Int) - 1) (by unfold I64;omega))
  replace hc:=cB_ hc
  obtain rfl:k=0:=by omega
  refine go5 ?_;refine rt1 ?_
  (rw [List.drop_zero,List.drop_zero] at hd;subst hd;exact congrArg _ (FI _).symm)
theorem qH (xs:List Nat) (hx:xs.length=16) :
    Ret prog 188 [UV xs] (.int .i64 ((szL xs:Nat):Int)):=by
 refine bA (N:=16) func188 O O zz_ (fun w0=>?_);refine giI ?_;refine go_ ?_;refine aY O (lC O O (fun b1 hb1=>go7 ?_));refine cE (rg [] 3 12) (fun g nn M=>∃ (k:Nat),(g 3 = .int .i64 (k:Int))∧M=[⟨b1,31,uw xs⟩]∧nn=k+0∧(k≤16∧∀ j,k≤j→xs.getD j 0=0)) (16) ?start ?round
 case start =>
  refine ⟨_,(List.Sublist.refl _),16,?a3,?mem0,rfl,⟨Nat.le_refl _,fun j hj=>by simp [List.getD,List.getElem?_eq_none (show xs.length≤j by omega)]⟩⟩
  case mem0=>rfl
  case a3=>rfl
 case round =>
  rintro nn g M ⟨k,hg3,rfl,hmeas,⟨hk,hhi⟩⟩;subst nn;refine gS1 hg3 ?_;clear hg3;refine go5 ?_
  cases hz:decide ((0:Int)<(k:Int))
  ·refine GO ?_;refine rt1 ?_;exact congrArg (fun n:Nat=>Value.int .i64 (n:Int)) (PD hhi (.inl (by have:=of_decide_eq_false hz;omega))).symm
  have hz':=of_decide_eq_true hz;obtain ⟨m,rfl⟩:∃ m,k=m+1:=⟨k - 1,by omega⟩;refine go_ ?_;refine sQ (aM (rD O O) (congrArg (Value.int .i64) (AZ oo_))) O (sQ (eZ arT O O oo_ oo_) O (sQ (dX tyT O mm_ (wY oo_)) O ?_));refine go3 ?_;refine aL _ O (fun h0=>?_) (fun h0=>?_)
  ·replace h0:=cB_ h0
   refine go4 ?_;refine sQ (aM (rD O O) (congrArg (Value.int .i64) (AZ oo_))) O (go2 ?_);refine ⟨pp_,_,_,(List.Sublist.refl _),oo_,m,?s3,?mem,rfl,⟨by omega,fun j hj=>by rcases Nat.eq_or_lt_of_le hj with rfl|hj;omega;exact hhi j hj⟩⟩
   case mem=>rfl
   case s3=>rfl
  replace h0:=cB_ h0
  refine go6 ?_;refine rt1 ?_;exact congrArg (fun n:Nat=>Value.int .i64 (n:Int)) (PD hhi (.inr (by simp only [Nat.add_sub_cancel];omega))).symm
end Go.Proofs.YtbjlhfochebmiaaGreatDoor
