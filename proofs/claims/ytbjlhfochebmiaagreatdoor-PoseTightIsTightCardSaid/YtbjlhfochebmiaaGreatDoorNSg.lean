/- Lemmas: what they ask stands in their statements. -/
import Derived.Test.YtbjlhfochebmiaaGreatDoorNFtd
set_option linter.unusedSimpArgs false
set_option linter.unusedVariables false
set_option maxHeartbeats 8000000
set_option maxRecDepth 20000
namespace Go.Proofs.YtbjlhfochebmiaaGreatDoor
open Go.Kn Go.Num Tryz
attribute [local irreducible] Go.Kn.W WL PL OpQ OpR OpS
theorem BP (a:I) :
   Ret prog 177 [AV [pI a]] (AV [pI (nW a)]):=by
 refine bJ (N:=10) func177 O O zz_ (fun w0=>?_);refine giI ?_;refine go2 ?_;intro b1 hb1;refine go_ ?_;intro b2 hb2;refine go4 ?_;refine sC (.bool a.1.good) aE (bW a.1 a.2) O O O (go2 ?_);rcases bt a.1.good with h3|h3
 ·refine W_f (fZ h3) O (go3 ?_);refine bI O (fM aE O (fun w hw=>bX a.1 a.2 w) (fun vl4 Ll4 kl4=>?_))
  try simp only [gJ,l9] at kl4
  refine sQ (aS (v':=AV [pI (E (Z.of (sgn false (val a.1.w))))]) (dJ aE O (fun w hw=>dM false vl4 (dl (val a.1.w)) (kS _) (Nat.le_trans (iF (k:=32) (rF a.2)) dd_) w (SL.sl (SL.sub kl4.sl lZ) hw))) (by rw [(gJ _)];rfl)) O (go3 ?_);refine rtX O (fF O (mA mZ) tyT O) ?_;exact congrArg vS3 (show _=(nW a) from aC h3 O)
 refine W_t (gA h3) O (go_ ?_);refine sC (AV [pI (E Z.bad)]) aE eA O O O (go3 ?_);refine rtX O (fF O m0 tyT O) ?_;exact congrArg vS3 (show _=(nW a) from aH h3 O)
theorem BQ (a:R) (ha:a.Ok):Ret prog 177 [RV a] (RV (Z.abs a.dec).enc):=by
 have h:=BP ⟨a,ha⟩;rw [z7] at h;exact h
theorem AS (a:I) :
    Ret prog 106 [AV [pI a]] (.int .i64 ((lL a).1)):=by
 refine bJ (N:=14) func106 O O zz_ (fun w0=>?_);refine giI ?_;refine go2 ?_;intro b1 hb1;refine go3 ?_;refine gJv (rg [] 3 9) [(11,.bool (!a.1.good||(((dl (val a.1.w)).length:Int)==0)))] (fun K2 J2=>?_) ?_
 ·refine go2 ?_;refine sC (.bool a.1.good) aE (bW a.1 a.2) O O O (go_ ?_);rcases bt a.1.good with h4|h4
  ·refine sB (fZ h4) O (go_ ?_);refine bI O (fM aE O (fun w hw=>bX a.1 a.2 w) (fun vl5 Ll5 kl5=>?_))
   try simp only [gJ,l9] at kl5
   refine sQ (aS (v':=.int .i64 ((dl (val a.1.w)).length:Int)) (nU jC O (SL.sub kl5.sl lZ)) O) O (go3 ?_);refine J2 _ _ pp_ (sR s0) (bS (o8 h4 O))
  refine sB (gA h4) O (go6 ?_);refine J2 _ _ pp_ s0 (bS (tH h4))
 intro g6;refine aN _ O (fun h7=>?_) (fun h7=>?_)
 ·refine go4 ?_;refine rt1 ?_;exact congrArg vS6 (show _=(lL a) from aC h7 O)
 refine go6 ?_;refine aN _ O (fun h8=>?_) (fun h8=>?_)
 ·refine go4 ?_;refine rt1 ?_;exact congrArg vS6 (show _=(lL a) from aH h7 (aC h8 O))
 refine go5 ?_;refine rt1 ?_;exact congrArg vS6 (show _=(lL a) from aH h7 (aH h8 O))
theorem fK (a:R) (ha:a.Ok):Ret prog 106 [RV a] (.int .i64 a.dec.sign):=by
 have h:=AS ⟨a,ha⟩;rw [y9] at h;exact h
theorem BT (a:I) (b:I) :
    Ret prog 109 [AV [pI a],AV [pI b]] (.int .i64 ((eZ a b).1)):=by
 refine bJ (N:=48) func109 O O zz_ (fun w0=>?_);refine giI ?_;refine go2 ?_;intro b1 hb1;refine go_ ?_;intro b2 hb2;refine go3 ?_;refine gJv (rg [] 9 8) [(16,.bool (!a.1.good&&(!b.1.good)))] (fun K2 J2=>?_) ?_
 ·refine go2 ?_;refine sC (.bool a.1.good) aE (bW a.1 a.2) O O O (go_ ?_);rcases bt a.1.good with h4|h4
  ·refine sB (fZ h4) O (go5 ?_);refine J2 _ _ pp_ s0 (bS (vO h4))
  refine sB (gA h4) O (go_ ?_);refine sC (.bool b.1.good) aE (bW b.1 b.2) O O O (go3 ?_);refine J2 _ _ pp_ s0 (bS (rY h4 O))
 intro g5;refine aN _ O (fun h6=>?_) (fun h6=>?_)
 ·refine go4 ?_;refine rt1 ?_;exact congrArg vS6 (show _=(eZ a b) from aC h6 O)
 refine go4 ?_;refine sC (.bool a.1.good) aE (bW a.1 a.2) O O O (go2 ?_);rcases bt a.1.good with h7|h7
 ·refine W_f (fZ h7) O (go4 ?_);refine sC (.bool b.1.good) aE (bW b.1 b.2) O O O (go2 ?_);rcases bt b.1.good with h8|h8
  ·refine W_f (fZ h8) O (go7 ?_);refine sQ (aS (v':=.bool (a.1.neg != b.1.neg)) (vQ DU O O) O) O (go_ ?_);refine aN _ O (fun h9=>?_) (fun h9=>?_)
   ·refine go5 ?_;refine aN _ O (fun h10=>?_) (fun h10=>?_)
    ·refine go4 ?_;refine rt1 ?_;exact congrArg vS6 (show _=(eZ a b) from aH h6 (aC h7 (aC h8 (aC h9 (aC h10 O)))))
    refine go5 ?_;refine rt1 ?_;exact congrArg vS6 (show _=(eZ a b) from aH h6 (aC h7 (aC h8 (aC h9 (aH h10 O)))))
   refine go3 ?_;refine bI O (fM aE O (fun w hw=>bX a.1 a.2 w) (fun vl11 Ll11 kl11=>?_))
   try simp only [gJ,l9] at kl11
   refine go4 ?_;refine bI O (fM aE O (fun w hw=>bX b.1 b.2 w) (fun vl12 Ll12 kl12=>?_))
   try simp only [gJ,l9] at kl12
   refine go7 ?_;refine aN _ O (fun h13=>?_) (fun h13=>?_)
   ·refine go2 ?_;refine bI O (fM aE O (fun w hw=>bX b.1 b.2 w) (fun vl14 Ll14 kl14=>?_))
    try simp only [gJ,l9] at kl14
    refine go4 ?_;refine bI O (fM aE O (fun w hw=>bX a.1 a.2 w) (fun vl15 Ll15 kl15=>?_))
    try simp only [gJ,l9] at kl15
    refine go5 ?_;refine sQ (aS (v':=.bool (decide ((val b.1.w)<(val a.1.w)))) (dJ aE O (fun w hw=>kP vl14 vl15 (dl (val b.1.w)) (dl (val a.1.w)) (kS _) (kS _) (Nat.le_trans (iF (k:=32) (rF b.2)) dd_) (Nat.le_trans (iF (k:=32) (rF a.2)) dd_) w (SL.sl (SL.sub kl14.sl (sR lZ)) hw) (SL.sl (SL.sub kl15.sl lZ) hw))) (by rw [(gJ _),(gJ _)])) O (go5 ?_);refine sQ (aS (v':=.bool (decide ((val a.1.w)<(val b.1.w)))) (dJ aE O (fun w hw=>kP vl15 vl14 (dl (val a.1.w)) (dl (val b.1.w)) (kS _) (kS _) (Nat.le_trans (iF (k:=32) (rF a.2)) dd_) (Nat.le_trans (iF (k:=32) (rF b.2)) dd_) w (SL.sl (SL.sub kl15.sl lZ) hw) (SL.sl (SL.sub kl14.sl (sR lZ)) hw))) (by rw [(gJ _),(gJ _)])) O (go6 ?_);refine aN _ O (fun h16=>?_) (fun h16=>?_)
    ·refine go4 ?_;refine rt1 ?_;exact congrArg vS6 (show _=(eZ a b) from aH h6 (aC h7 (aC h8 (aH h9 (aC h13 (aC h16 O))))))
    refine go5 ?_;refine aN _ O (fun h17=>?_) (fun h17=>?_)
    ·refine go4 ?_;refine rt1 ?_;exact congrArg vS6 (show _=(eZ a b) from aH h6 (aC h7 (aC h8 (aH h9 (aC h13 (aH h16 (aC h17 O)))))))
    refine go5 ?_;refine rt1 ?_;exact congrArg vS6 (show _=(eZ a b) from aH h6 (aC h7 (aC h8 (aH h9 (aC h13 (aH h16 (aH h17 O)))))))
   refine go4 ?_;refine sQ (aS (v':=.bool (decide ((val a.1.w)<(val b.1.w)))) (dJ aE O (fun w hw=>kP vl11 vl12 (dl (val a.1.w)) (dl (val b.1.w)) (kS _) (kS _) (Nat.le_trans (iF (k:=32) (rF a.2)) dd_) (Nat.le_trans (iF (k:=32) (rF b.2)) dd_) w (SL.sl (SL.sub kl11.sl (sR lZ)) hw) (SL.sl (SL.sub kl12.sl lZ) hw))) (by rw [(gJ _),(gJ _)])) O (go5 ?_);refine sQ (aS (v':=.bool (decide ((val b.1.w)<(val a.1.w)))) (dJ aE O (fun w hw=>kP vl12 vl11 (dl (val b.1.w)) (dl (val a.1.w)) (kS _) (kS _) (Nat.le_trans (iF (k:=32) (rF b.2)) dd_) (Nat.le_trans (iF (k:=32) (rF a.2)) dd_) w (SL.sl (SL.sub kl12.sl lZ) hw) (SL.sl (SL.sub kl11.sl (sR lZ)) hw))) (by rw [(gJ _),(gJ _)])) O (go6 ?_);refine aN _ O (fun h18=>?_) (fun h18=>?_)
   ·refine go4 ?_;refine rt1 ?_;exact congrArg vS6 (show _=(eZ a b) from aH h6 (aC h7 (aC h8 (aH h9 (aH h13 (aC h18 O))))))
   refine go5 ?_;refine aN _ O (fun h19=>?_) (fun h19=>?_)
   ·refine go4 ?_;refine rt1 ?_;exact congrArg vS6 (show _=(eZ a b) from aH h6 (aC h7 (aC h8 (aH h9 (aH h13 (aH h18 (aC h19 O)))))))
   refine go5 ?_;refine rt1 ?_;exact congrArg vS6 (show _=(eZ a b) from aH h6 (aC h7 (aC h8 (aH h9 (aH h13 (aH h18 (aH h19 O)))))))
  refine W_t (gA h8) O (go4 ?_);refine rt1 ?_;exact congrArg vS6 (show _=(eZ a b) from aH h6 (aC h7 (aH h8 O)))
 refine W_t (gA h7) O (go4 ?_);refine rt1 ?_;exact congrArg vS6 (show _=(eZ a b) from aH h6 (aH h7 O))
theorem oQ (a b:R) (ha:a.Ok) (hb:b.Ok):Ret prog 109 [RV a,RV b] (.int .i64 (Z.cmp a.dec b.dec)):=by
 have h:=BT ⟨a,ha⟩ ⟨b,hb⟩;rw [z9] at h;exact h
theorem BX (a:I) (b:I) :
    Ret prog 111 [AV [pI a],AV [pI b]] (AV [pI (kV a b)]):=by
 refine bJ (N:=76) func111 O O zz_ (fun w0=>?_);refine giI ?_;refine go2 ?_;intro b1 hb1;refine go_ ?_;intro b2 hb2;refine go_ ?_;intro b3 hb3;refine go3 ?_;refine sC (.tuple #[.int .i64 ((dV a).1),.bool (iE a.1)]) aE (gC a.1 a.2) O O O (go8 ?_);refine sC (.tuple #[.int .i64 ((dV b).1),.bool (iE b.1)]) aE (gC b.1 b.2) O O O (go7 ?_);refine gJv (rg [] 21 8) [(28,.bool ((iE a.1)&&((iE b.1)&&((dV b).1 != 0))))] (fun K2 J2=>?_) ?_
 ·refine go2 ?_;refine sBB O (fun h6=>?_) (fun h6=>?_)
  ·refine go2 ?_;refine sBB O (fun h7=>?_) (fun h7=>?_)
   ·refine go4 ?_;refine J2 _ _ pp_ s0 (bS (k6 h6 (k6 h7 O)))
   refine go4 ?_;refine J2 _ _ pp_ s0 (bS (k6 h6 (oB h7)))
  refine go7 ?_;refine J2 _ _ pp_ s0 (bS (oB h6))
 intro g8;refine aN _ O (fun h9=>?_) (fun h9=>?_)
 ·refine go3 ?_;have hfl:=MU h9;refine sC (.int .i64 ((W.fdiv (dV a) (dV b)).1)) aE (uC (dV a).1 (dV b).1 (dV a).2 hfl.1 hfl.2.1) O O (congrArg (Value.int .i64) hfl.2.2) (sC (AV [pI (E (Z.of (W.fdiv (dV a) (dV b)).1))]) aE (dO (W.fdiv (dV a) (dV b)).1 (W.fdiv (dV a) (dV b)).2) O O O (go3 ?_));refine rtX O (fF O m0 tyT O) ?_;exact congrArg vS3 (show _=(kV a b) from aC h9 O)
 refine go2 ?_;refine gJv (rg [] 33 14) [(46,.bool (!a.1.good||(!b.1.good||(((dl (val b.1.w)).length:Int)==0))))] (fun K4 J4=>?_) ?_
 ·refine go2 ?_;refine sC (.bool a.1.good) aE (bW a.1 a.2) O O O (go_ ?_);rcases bt a.1.good with h13|h13
  ·refine sB (fZ h13) O (go_ ?_);refine sC (.bool b.1.good) aE (bW b.1 b.2) O O O (go2 ?_);rcases bt b.1.good with h14|h14
   ·refine sB (fZ h14) O (go_ ?_);refine bI O (fM aE O (fun w hw=>bX b.1 b.2 w) (fun vl15 Ll15 kl15=>?_))
    try simp only [gJ,l9] at kl15
    refine sQ (aS (v':=.int .i64 ((dl (val b.1.w)).length:Int)) (nU jC O (SL.sub kl15.sl lZ)) O) O (go3 ?_);refine J4 _ _ pp_ (sR s0) (bS (o8 h13 (o8 h14 O)))
   refine sB (gA h14) O (go6 ?_);refine J4 _ _ pp_ s0 (bS (o8 h13 (tH h14)))
  refine sB (gA h13) O (wN ?_);refine J4 _ _ pp_ s0 (bS (tH h13))
 intro g16;refine aN _ O (fun h17=>?_) (fun h17=>?_)
 ·refine go_ ?_;refine sC (AV [pI (E Z.bad)]) aE eA O O O (go3 ?_);refine rtX O (fF O m0 tyT O) ?_;exact congrArg vS3 (show _=(kV a b) from aH h9 (aC h17 O))
 refine go_ ?_;refine gds sn [0,8,5,13,17,20,24,28,32,36] [] mix (by kernel_rfl) (go2 ?_);refine dF O O (fM aE O (fun w hw=>bX a.1 a.2 w) (fun vl18 Ll18 kl18=>⟨(fun _=>sR s0),sn,?_⟩))
 try simp only [gJ,l9] at kl18
 refine dF O O (fM aE O (fun w hw=>bX b.1 b.2 w) (fun vl19 Ll19 kl19=>⟨(fun _=>sR s0),sn,?_⟩))
 try simp only [gJ,l9] at kl19
 have hB:=bU_ h17;refine dF O O (C5 aE O (fun w hw=>nF vl18 vl19 (val a.1.w) (val b.1.w) hB (Nat.le_trans (iF (k:=32) (rF a.2)) dd_) (Nat.le_trans (iF (k:=32) (rF b.2)) dd_) w (SL.sl (SL.sub kl18.sl (sR lZ)) hw) (SL.sl (SL.sub kl19.sl lZ) hw)) (fun vl20_0 vl20_1 Ll20 kl20_0 kl20_1=>⟨(fun _=>sR s0),sn,?_⟩))
 try simp only [gJ,l9] at kl20_0 kl20_1
 refine go7 ?_;refine gJv (rg [] 56 10) [(65,.bool ((a.1.neg != b.1.neg)&&decide (0<((dl ((val a.1.w) % (val b.1.w))).length:Int))))] (fun K6 J6=>?_) ?_
 ·refine go5 ?_;refine sQ (aS (v':=.bool (a.1.neg != b.1.neg)) (vQ DU O O) O) O ?_;refine sBB O (fun h22=>?_) (fun h22=>?_)
  ·refine go_ ?_;refine sQ (aS (v':=.int .i64 ((dl ((val a.1.w) % (val b.1.w))).length:Int)) (nU jC O (SL.sub kl20_1 lZ)) O) O (go3 ?_);refine J6 _ _ pp_ s0 (bS (k6 h22 O))
  refine go5 ?_;refine J6 _ _ pp_ s0 (bS (oB h22))
 intro g23;refine aN _ O (fun h24=>?_) (fun h24=>?_)
 ·refine go2 ?_;refine bI O (jB j4 z_3 pR O dd_ O (B8 1) (fun b25 hb25=>bI O (fM aE O (fun w hw=>qY vl20_0 _ (dl ((val a.1.w) / (val b.1.w))) [1] (kS _) (DL.one dd_) (Nat.le_trans (iF (k:=32) (cR_ (rF a.2))) dd_) zz_ w (SL.sl (SL.sub kl20_0 (sd lZ)) hw) (SL.sl (SL.sub (SL.mine (l:=[1]) List.mem_cons_self (Nat.le_refl _)) (sk sn)) hw)) (fun vl26 Ll26 kl26=>?_))))
  try simp only [gJ,l9] at kl26
  refine go7 ?_;refine sQ (aS (v':=.bool (a.1.neg != b.1.neg)) (vQ DU O O) O) O (go_ ?_);refine sQ (aS (v':=AV [pI (E (Z.of (sgn (a.1.neg != b.1.neg) (((val a.1.w) / (val b.1.w))+1))))]) (dJ aE O (fun w hw=>dM (a.1.neg != b.1.neg) vl26 (dl (((val a.1.w) / (val b.1.w))+1)) (kS _) (Nat.le_trans (iF (k:=33) (eg_ (k:=32) (cR_ (rF a.2)) (Nat.lt_of_lt_of_le (show 1<65536 ^ 1 by decide) (Nat.pow_le_pow_right (show 0<65536 by decide) (show 1≤32 by decide))))) dd_) w (SL.sl (SL.sub kl26.sl lZ) hw))) (by rw [(gJ _)];rfl)) O (go3 ?_);refine rtX O (fF O (mA (mC (mA (mA (mA mZ))))) tyT O) ?_;exact congrArg vS3 (show _=(kV a b) from aH h9 (aH h17 (aC h24 O)))
 refine go6 ?_;refine sQ (aS (v':=.bool (a.1.neg != b.1.neg)) (vQ DU O O) O) O (go_ ?_);refine sQ (aS (v':=AV [pI (E (Z.of (sgn (a.1.neg != b.1.neg) ((val a.1.w) / (val b.1.w)))))]) (dJ aE O (fun w hw=>dM (a.1.neg != b.1.neg) vl20_0 (dl ((val a.1.w) / (val b.1.w))) (kS _) (Nat.le_trans (iF (k:=32) (cR_ (rF a.2))) dd_) w (SL.sl (SL.sub kl20_0 lZ) hw))) (by rw [(gJ _)];rfl)) O (go3 ?_);refine rtX O (fF O (mA (mA (mA mZ))) tyT O) ?_;exact congrArg vS3 (show _=(kV a b) from aH h9 (aH h17 (aH h24 O)))
theorem hZ (a b:R) (ha:a.Ok) (hb:b.Ok):Ret prog 111 [RV a,RV b] (RV (Z.quo a.dec b.dec).enc):=by
 have h:=BX ⟨a,ha⟩ ⟨b,hb⟩;rw [AC] at h;exact h
theorem qK (a:R) (ha:a.Ok) :
    Ret prog 86 [RV a] (.tuple #[.int .i64 a.dec.small.1,.bool a.dec.small.2]):=by
 refine bJ (N:=38) func86 O O zz_ (fun w0=>?_);refine giI ?_;refine go_ ?_;refine bI O (jS O O (fun b1 hb1=>go5 ?_));refine sQ (bZ tyT O mm_ (cE ha)) O ?_;refine sQ (aX aE (bW a ha) O) O (go2 ?_);refine aN _ O (fun hg=>?_) (fun hg=>?_)
 ·replace hg:=cB_ hg
  refine go5 ?_;refine rt2 ?_;exact LE hg
 replace hg:=cB_ hg
 refine go2 ?_;refine sQ (aX aE (dO (-9223372036854775808) dd_) O) O (bI O (dU lU (fun b4 hb4=>bI O (bT tyT O O uu_ (aI _) O (bO _) (.inl eL) ?_))));refine go2 ?_;refine sQ (aX aE (dO 9223372036854775807 dd_) O) O (bI O (dU lU (fun b5 hb5=>bI O (bT tyT O O uu_ (aI _) O (bO _) (.inl eL) ?_))));refine go3 ?_;refine sQ (bZ tyT O mm_ (cE ha)) O ?_;refine sQ (bZ tyT O mm_ (aI _)) O ?_;refine sQ (aX aE (oQ a (Z.of (-9223372036854775808)).enc ha (Z.enc_ok _)) O) O (go2 ?_)
 cases hlo:decide (Z.cmp a.dec (Z.of (-9223372036854775808)).enc.dec<0)
 ·refine sQ (bZ tyT O mm_ (cE ha)) O ?_;refine sQ (bZ tyT O mm_ (aI _)) O ?_;refine sQ (aX aE (oQ a (Z.of 9223372036854775807).enc ha (Z.enc_ok _)) O) O (go3 ?_);refine aN _ O (fun hhi=>?_) (fun hhi=>?_)
  ·replace hhi:=cB_ hhi
   refine go5 ?_;refine rt2 ?_;exact zZ ha hg (VU ha hg hhi)
  replace hhi:=cB_ hhi
  have hin:=VW ha hg (of_decide_eq_false hlo) hhi;have hsm:=VR hin;refine go2 ?_;refine sQ (cA fdT dd_ O) O (sQ (eF arT O O dd_ dd_) O (sQ (dI tyT O mm_ (nR (r:=a) (k:=1) (by rw [ha.len];decide))) O ?_));refine sQ (eC gS fE O) O (go_ ?_);refine sQ (cA fdT dd_ O) O (sQ (eF arT O O dd_ dd_) O (sQ (dI tyT O mm_ (nR (r:=a) (k:=0) (by rw [ha.len];decide))) O ?_));refine sQ (eC gS fE O) O (sQ (aS (i4 O O) (congrArg (Value.int .u64) (VX ha hsm))) O (sQ (aS (eC fE EO O) (rfl:_=Value.int .i64 (IntKind.i64.wrap ((val a.w:Nat):Int)))) O (go4 ?_)));refine sQ (cA fdT dd_ O) O (sQ (dI tyT O mm_ O) O ?_);refine go_ ?_;refine aN _ O (fun hn=>?_) (fun hn=>?_)
  ·replace hn:=cB_ hn
   refine wN ?_;refine rt2 ?_;exact E0 ha hg (R9 hin hn) hin
  replace hn:=cB_ hn
  refine go7 ?_;refine rt2 ?_;exact E0 ha hg (SA hin hn) hin
 refine yP ?_;refine rt2 ?_;exact zZ ha hg (VT ha hg (of_decide_eq_true hlo))
theorem k9 (a b:R) (ha:a.Ok) (hb:b.Ok) :
    Ret prog 107 [RV a,RV b] (RV (Z.gcd a.dec b.dec).enc):=by
 refine bJ (N:=64) func107 O O zz_ (fun w0=>?_);refine giI ?_;have hla:=bW_ ha;have hlb:=bW_ hb;refine go_ ?_;refine bI O (jS O O (fun b2 hb2=>bI O (jS O O (fun b3 hb3=>bI O (dU lU (fun b4 hb4=>go2 ?_))))));refine sQ (bZ tyT O mm_ (cE ha)) O ?_;refine sQ (aX aE (gC a ha) O) O (go7 ?_);refine sQ (bZ tyT O mm_ (cE hb)) O ?_;refine sQ (aX aE (gC b hb) O) O (iK ?_)
 cases w1:iE a
 ·refine go7 ?_;refine sQ (bZ tyT O mm_ (cE ha)) O ?_;refine sQ (aX aE (bW a ha) O) O (go2 ?_)
  cases ga:a.good
  ·refine go7 ?_;refine sQ (aX aE eA O) O (bI O (bT tyT O O uu_ (aI _) O (bO _) (.inl eL) ?_));refine go2 ?_;refine rtX O ⟨_,_,_,_,_,_,rfl,mm_,tyT,_,(dE (aI _)),(aI _),rfl⟩ ?_
   (rw [Z.gcd,nS (.inl (GD ga))];rfl)
  refine sQ (bZ tyT O mm_ (cE hb)) O ?_;refine sQ (aX aE (bW b hb) O) O (go3 ?_);refine aN _ O (fun gb=>?_) (fun gb=>?_)
  ·replace gb:=cB_ gb
   refine go_ ?_;refine sQ (aX aE eA O) O (bI O (bT tyT O O uu_ (aI _) O (bO _) (.inl eL) ?_));refine go2 ?_;refine rtX O ⟨_,_,_,_,_,_,rfl,mm_,tyT,_,(dE (aI _)),(aI _),rfl⟩ ?_
   (rw [Z.gcd,nS (.inr (GD gb))];rfl)
  replace gb:=cB_ gb
  refine go2 ?_;refine sQ (bZ tyT O mm_ (cE ha)) O ?_;refine bI O (fM aE O (fun w hw=>bX a ha w) (fun v5 L5 h5=>go3 ?_));refine sQ (bZ tyT O mm_ (cE hb)) O ?_;refine bI O (fM aE O (fun w hw=>bX b hb w) (fun v6 L6 h6=>go4 ?_));refine cI (rg [10,11,12,13] 51 11) (fun g nn M=>∃ (X Y:Nat) (vx vy:Value) (Lx Ly:List Blk),(g 10=vx∧g 11=vy)∧M=Ly++(Lx++[⟨b4,33,zR⟩,⟨b3,33,b.cells⟩,⟨b2,33,a.cells⟩])∧nn=Y∧((X<65536 ^ 32∧Y<65536 ^ 32)∧Nat.gcd X Y=Nat.gcd (val a.w) (val b.w)∧SL w0 [] Lx vx (dl X)∧SL w0 [] Ly vy (dl Y))) (val b.w) ?start ?round
  case start =>
   refine ⟨_,(List.Sublist.refl _),val a.w,val b.w,v5,v6,L5,L6,⟨?a10,?a11⟩,?mem0,rfl,⟨⟨S4 ha,S4 hb⟩,rfl,h5.sl,h6.sl⟩⟩
   case mem0=>rfl
   case a10=>rfl
   case a11=>rfl
  case round =>
   rintro nn g M ⟨X,Y,vx,vy,Lx,Ly,⟨hg10,hg11⟩,rfl,hmeas,⟨hb3,hgc,hX,hY⟩⟩;subst nn;refine gS2 hg10 hg11 ?_;clear hg10 hg11;refine go3 ?_;refine sQ (nU jC O (hY.sub lZ)) O (go2 ?_);refine aN _ O (fun h53=>?_) (fun h53=>?_)
   ·replace h53:=cB_ h53
    have hYp:0<Y:=S2 h53;refine go5 ?_;refine bI O (C5 aE O (fun w hw=>nF vx vy X Y hYp (FF hb3.1) (FF hb3.2) w (SL.sl (hX.sub (.trans lZ (List.sublist_append_right _ _))) hw) (SL.sl (hY.sub lZ) hw)) (fun vq vr Lr hq hr=>BN ?_));refine ⟨pp_,_,_,(List.Sublist.append (List.Sublist.refl _) (List.Sublist.append (List.Sublist.refl _) (List.sublist_append_right _ _))),(Nat.mod_lt _ hYp),Y,X % Y,vy,vr,Ly,Lr,⟨?s10,?s11⟩,?mem,rfl,⟨⟨hb3.2,Nat.lt_of_le_of_lt (Nat.mod_le _ _) hb3.1⟩,by rw [← hgc];exact MS X Y,hY,hr⟩⟩
    case mem=>rfl
    case s10=>rfl
    case s11=>rfl
   replace h53:=cB_ h53
   have hY0:Y=0:=O6 h53;refine go3 ?_;refine sQ (dJ aE O (fun w hw=>dM false _ _ (kS _) (Nat.le_trans (FF hb3.1) dd_) w (SL.sl (hX.sub (.trans lZ (List.sublist_append_right _ _))) hw))) O (bI O (bT tyT O O uu_ (aI _) O (bO _) (.inl eL) ?_));refine go2 ?_;refine rtX O ⟨_,_,_,_,_,_,rfl,mm_,tyT,_,(dE (aI _)),(aI _),rfl⟩ ?_
   (rw [XT ha hb ga gb (by rw [← hgc,hY0,Nat.gcd_zero_right]),gJ];rfl)
 refine go3 ?_;refine aN _ O (fun w2=>?_) (fun w2=>?_)
 ·replace w2:=cB_ w2
  refine go2 ?_;refine cI (rg [5,7,9] 28 7) (fun g nn M=>∃ (x y:Int),(g 5 = .int .i64 x∧g 7 = .int .i64 y)∧M=[⟨b4,33,zR⟩,⟨b3,33,b.cells⟩,⟨b2,33,a.cells⟩]∧nn=y.natAbs∧((-4611686018427387904<x∧x<4611686018427387904)∧(-4611686018427387904<y∧y<4611686018427387904)∧Int.gcd x y=Int.gcd (j8 a) (j8 b))) ((j8 b).natAbs) ?start ?round
  case start =>
   refine ⟨_,(List.Sublist.refl _),j8 a,j8 b,⟨?a5,?a7⟩,?mem0,rfl,⟨(mI ha w1).2.2.2,(mI hb w2).2.2.2,rfl⟩⟩
   case mem0=>rfl
   case a5=>rfl
   case a7=>rfl
  case round =>
   rintro nn g M ⟨x,y,⟨hg5,hg7⟩,rfl,hmeas,⟨hx,hy,hgc⟩⟩;subst nn;refine gS2 hg5 hg7 ?_;clear hg5 hg7;refine go5 ?_;refine aN _ O (fun h29=>?_) (fun h29=>?_)
   ·replace h29:=cB_ h29
    refine go5 ?_;refine sQ (sF O O h29) O (iK ?_);refine ⟨pp_,_,_,(List.Sublist.refl _),(vT (by simpa using h29)).1,y,x.tmod y,⟨?s5,?s7⟩,?mem,rfl,⟨hy,c3_ hx,by rw [← hgc];exact X1 x y⟩⟩
    case mem=>rfl
    case s5=>rfl
    case s7=>rfl
   replace h29:=cB_ h29
   have hy0:y=0:=by simpa using h29
   refine go3 ?_;refine sQ (aX aE (dO x (c2_ hx)) O) O (sQ (aX aE (BQ (Z.of x).enc (Z.enc_ok _)) O) O (bI O (bT tyT O O uu_ (aI _) O (bO _) (.inl eL) ?_)));refine go2 ?_;refine rtX O ⟨_,_,_,_,_,_,rfl,mm_,tyT,_,(dE (aI _)),(aI _),rfl⟩ ?_
   (rw [yC,UU ha hb w1 w2 hgc hy0];rfl)
 replace w2:=cB_ w2
 refine go3 ?_;refine sQ (bZ tyT O mm_ (cE ha)) O ?_;refine sQ (aX aE (bW a ha) O) O (go2 ?_)
 cases ga:a.good
 ·refine go7 ?_;refine sQ (aX aE eA O) O (bI O (bT tyT O O uu_ (aI _) O (bO _) (.inl eL) ?_));refine go2 ?_;refine rtX O ⟨_,_,_,_,_,_,rfl,mm_,tyT,_,(dE (aI _)),(aI _),rfl⟩ ?_
  (rw [Z.gcd,nS (.inl (GD ga))];rfl)
 refine sQ (bZ tyT O mm_ (cE hb)) O ?_;refine sQ (aX aE (bW b hb) O) O (go3 ?_);refine aN _ O (fun gb=>?_) (fun gb=>?_)
 ·replace gb:=cB_ gb
  refine go_ ?_;refine sQ (aX aE eA O) O (bI O (bT tyT O O uu_ (aI _) O (bO _) (.inl eL) ?_));refine go2 ?_;refine rtX O ⟨_,_,_,_,_,_,rfl,mm_,tyT,_,(dE (aI _)),(aI _),rfl⟩ ?_
  (rw [Z.gcd,nS (.inr (GD gb))];rfl)
 replace gb:=cB_ gb
 refine go2 ?_;refine sQ (bZ tyT O mm_ (cE ha)) O ?_;refine bI O (fM aE O (fun w hw=>bX a ha w) (fun v5 L5 h5=>go3 ?_));refine sQ (bZ tyT O mm_ (cE hb)) O ?_;refine bI O (fM aE O (fun w hw=>bX b hb w) (fun v6 L6 h6=>go4 ?_));refine cI (rg [10,11,12,13] 51 11) (fun g nn M=>∃ (X Y:Nat) (vx vy:Value) (Lx Ly:List Blk),(g 10=vx∧g 11=vy)∧M=Ly++(Lx++[⟨b4,33,zR⟩,⟨b3,33,b.cells⟩,⟨b2,33,a.cells⟩])∧nn=Y∧((X<65536 ^ 32∧Y<65536 ^ 32)∧Nat.gcd X Y=Nat.gcd (val a.w) (val b.w)∧SL w0 [] Lx vx (dl X)∧SL w0 [] Ly vy (dl Y))) (val b.w) ?start ?round
 case start =>
  refine ⟨_,(List.Sublist.refl _),val a.w,val b.w,v5,v6,L5,L6,⟨?a10,?a11⟩,?mem0,rfl,⟨⟨S4 ha,S4 hb⟩,rfl,h5.sl,h6.sl⟩⟩
  case mem0=>rfl
  case a10=>rfl
  case a11=>rfl
 case round =>
  rintro nn g M ⟨X,Y,vx,vy,Lx,Ly,⟨hg10,hg11⟩,rfl,hmeas,⟨hb3,hgc,hX,hY⟩⟩;subst nn;refine gS2 hg10 hg11 ?_;clear hg10 hg11;refine go3 ?_;refine sQ (nU jC O (hY.sub lZ)) O (go2 ?_);refine aN _ O (fun h53=>?_) (fun h53=>?_)
  ·replace h53:=cB_ h53
   have hYp:0<Y:=S2 h53;refine go5 ?_;refine bI O (C5 aE O (fun w hw=>nF vx vy X Y hYp (FF hb3.1) (FF hb3.2) w (SL.sl (hX.sub (.trans lZ (List.sublist_append_right _ _))) hw) (SL.sl (hY.sub lZ) hw)) (fun vq vr Lr hq hr=>BN ?_));refine ⟨pp_,_,_,(List.Sublist.append (List.Sublist.refl _) (List.Sublist.append (List.Sublist.refl _) (List.sublist_append_right _ _))),(Nat.mod_lt _ hYp),Y,X % Y,vy,vr,Ly,Lr,⟨?s10,?s11⟩,?mem,rfl,⟨⟨hb3.2,Nat.lt_of_le_of_lt (Nat.mod_le _ _) hb3.1⟩,by rw [← hgc];exact MS X Y,hY,hr⟩⟩
   case mem=>rfl
   case s10=>rfl
   case s11=>rfl
  replace h53:=cB_ h53
  have hY0:Y=0:=O6 h53;refine go3 ?_;refine sQ (dJ aE O (fun w hw=>dM false _ _ (kS _) (Nat.le_trans (FF hb3.1) dd_) w (SL.sl (hX.sub (.trans lZ (List.sublist_append_right _ _))) hw))) O (bI O (bT tyT O O uu_ (aI _) O (bO _) (.inl eL) ?_));refine go2 ?_;refine rtX O ⟨_,_,_,_,_,_,rfl,mm_,tyT,_,(dE (aI _)),(aI _),rfl⟩ ?_
  (rw [XT ha hb ga gb (by rw [← hgc,hY0,Nat.gcd_zero_right]),gJ];rfl)
theorem tO (r:R) (h:r.Ok) :
    Ret prog 195 [RV r] (.bool r.valid):=by
 refine bJ (N:=23) func195 O O zz_ (fun w0=>?_);refine giI ?_;refine go_ ?_;refine bI O (jS O O (fun b1 hb1=>go3 ?_));refine sQ (cA fdT dd_ O) O (sQ (iN (vs:=uw r.w) tyT O mm_ (lT h.len) ((gV _).trans h.len)) O ?_);refine sQ (qG qQ arT O (.nil _)) O ?_;refine sQ (gI (r:=r.zero) O O (dR 8 dd_ HT IA (oL h.len) (oL zz_) h.zero_iff)) O ?_;refine go4 ?_;refine sQ (cA fdT dd_ O) O (sQ (dI tyT O mm_ O) O ?_);refine go_ ?_;refine aN _ O (fun hb=>?_) (fun hb=>?_)
 ·replace hb:=cB_ hb
  refine go3 ?_
  cases hz:r.zero
  ·refine go7 ?_;refine rt1 ?_
   simp [R.valid, *]
  refine sQ (cA fdT dd_ O) O (sQ (dI tyT O mm_ O) O ?_);refine go5 ?_;refine rt1 ?_
  simp [R.valid, *]
 replace hb:=cB_ hb
 refine go5 ?_
 cases hz:r.zero
 ·refine go7 ?_;refine rt1 ?_
  simp [R.valid, *]
 refine sQ (cA fdT dd_ O) O (sQ (dI tyT O mm_ O) O ?_);refine go5 ?_;refine rt1 ?_
 simp [R.valid, *]
theorem fS  :
  Ret prog 160 [] (RV Z.bad.enc):=by
 refine bJ (N:=2) func160 O O zz_ (fun w0=>?_);refine giI ?_;refine go_ ?_;refine bI O (dU lU (fun b0 hb0=>go2 ?_));refine sQ (xN lU plT O (.cons O (vs:=[.bool true]) O O (by simp [zR]) (z':=Z.bad.enc.cells) O (.nil _))) O ?_;refine bI O (bT tyT O O uu_ O O (bO Z.bad.enc) (.inl eL) ?_);refine go2 ?_;refine rtX O ⟨_,_,_,_,_,_,rfl,mm_,tyT,_,(dE O),rfl,rfl⟩ ?_;exact rfl
theorem eP (neg:Bool) (w:List Nat) (hw:w.length=16) (hlim:Lim w) :
   Ret prog 126 [.bool neg,UV w] (RV ⟨false,neg && !(val w==0),w⟩):=by
 refine bJ (N:=13) func126 O O zz_ (fun w0=>?_);refine giI ?_
 have hlw:(uw w).length=16:=by rw [gV,hw]
 refine go_ ?_;refine bI O (jS O O (fun b3 hb3=>bI O (dU lU (fun b4 hb4=>go2 ?_))));refine mB (sd (sk s0)) 9 [8] [8] (go2 ?_)
 cases neg
 ·refine go4 ?_;refine pQ O (bZ tyT O mm_ hlw) ?_;refine pQ O (xN lU plT O (XP hw)) ?_;refine dF O O (bT tyT O O uu_ (by simp [R.cells,hlw]) O (bO _) (.inl eL) ⟨nf,ss_,?_⟩);refine go2 ?_;refine rtX O ⟨_,_,_,_,_,_,rfl,mm_,tyT,_,(dE (by simp [R.cells,hlw])),(by simp [R.cells,hlw]),rfl⟩ ?_;rfl
 refine pQ O (bZ tyT O mm_ hlw) ?_;refine pQ O (qG qQ arT O (.nil _)) ?_;refine pQ O (yW (r:=(val w==0)) O O (dR 8 dd_ HT IA (oL hw) (oL zz_) (DB hw hlim))) ?_;refine go_ ?_;refine pQ O (bZ tyT O mm_ hlw) ?_;refine pQ O (xN lU plT O (XP hw)) ?_;refine dF O O (bT tyT O O uu_ (by simp [R.cells,hlw]) O (bO _) (.inl eL) ⟨nf,ss_,?_⟩);refine go2 ?_;refine rtX O ⟨_,_,_,_,_,_,rfl,mm_,tyT,_,(dE (by simp [R.cells,hlw])),(by simp [R.cells,hlw]),rfl⟩ ?_;rfl
theorem gZ (rs:List R) (hrs:∀ r∈rs,r.Ok) (b T:Nat) (w:World) (hb:w.heap[b]? = some (.cells (rs.flatMap R.cells).toArray T (0,0))) (hn:rs.length≤1000) :
    Calls prog 158 [.slice (some ⟨b,0,none⟩) rs.length rs.length].toArray w (fun e w'=>e = .returned (.bool (rs.all R.good))∧Ext w w'):=by
 refine dB (N:=19) func158 O O zz_ ?_;obtain ⟨w0,rfl⟩:=nm w;refine giI ?_;refine go6 ?_;refine sQ (BI vK O) O (go3 ?_);refine cI (rg [2,4] 7 12) (fun g nn M=>∃ (k:Nat),(g 7 = .int .i64 (k:Int))∧M=[]∧nn=rs.length - k∧(k≤rs.length∧(rs.take k).all R.good=true)) (rs.length - 0) ?start ?round
 case start =>
  refine ⟨_,(List.Sublist.refl _),0,?a7,?mem0,rfl,⟨Nat.zero_le _,rfl⟩⟩
  case mem0=>rfl
  case a7=>rfl
 case round =>
  rintro nn g M ⟨k,hg7,rfl,hmeas,⟨hk,hall⟩⟩;subst nn;refine gS1 hg7 ?_;clear hg7;refine go4 ?_;refine aN _ O (fun hc=>?_) (fun hc=>?_)
  ·replace hc:=cB_ hc
   obtain ⟨r,hr⟩:∃ r,rs[k]? = some r:=⟨_,List.getElem?_eq_getElem oo_⟩;have hrok:=hrs r (List.mem_of_getElem? hr);refine go4 ?_;refine sQ (qX vK O O oo_ oo_) O (sQ (PN (vs:=r.cells) tyT O hb zz_ (by rw [show (0+(k:Int).toNat*18)=k*18 by omega];exact E1 R.cells 18 rs k r (fun y hy=>cE (hrs y hy)) hr) (cE hrok)) O ?_);refine bI O (dU lU (fun b4 hb4=>bI O (bT tyT O O uu_ (cE hrok) O (bO _) (.inl eL) ?_)));refine go2 ?_;refine sQ (cA fdT dd_ O) O (sQ (dI tyT O mm_ O) O ?_);refine go_ ?_
   cases hbad:r.bad
   ·refine sQ (bZ tyT O mm_ (cE hrok)) O ?_;refine sQ (aX aE (tO r hrok) O) O (go3 ?_);refine aN _ O (fun hx=>?_) (fun hx=>?_)
    ·replace hx:=cB_ hx
     skip
     refine go4 ?_;refine rt1 ?_;exact congrArg Value.bool (EC hr (by simp [R.good,hbad,hx]))
    replace hx:=cB_ hx
    skip
    refine go5 ?_;refine ⟨pp_,_,_,(List.Sublist.cons _ (List.Sublist.refl _)),oo_,k+1,?s7,?mem,rfl,⟨by omega,by rw [J0 oo_ hr];simp [hall,R.good,hbad,hx]⟩⟩
    case mem=>rfl
    case s7=>(show Value.int .i64 _=_;rw [cB (by unfold I64;omega)];rfl)
   refine iK ?_;refine rt1 ?_;exact congrArg Value.bool (EC hr (by simp [R.good,hbad]))
  replace hc:=cB_ hc
  have hke:k=rs.length:=by omega
  refine go5 ?_;refine rt1 ?_
  (subst hke;rw [List.take_length] at hall;exact congrArg Value.bool hall.symm)
theorem JP (xs ys:List Nat) (hx:xs.length=16) (hy:ys.length=16) (lx:Lim xs) (ly:Lim ys) :
    Ret prog 191 [UV xs,UV ys] (.tuple #[UV (toL 16 (val xs+val ys)),.bool (((cy (val xs) (val ys) 16:Nat):Int)==0)]):=by
 refine bJ (N:=33) func191 O O zz_ (fun w0=>?_);refine giI ?_;refine go_ ?_;refine bI O (jS O O (fun b2 hb2=>bI O (jS O O (fun b3 hb3=>bI O (dU qQ (fun b4 hb4=>go3 ?_))))));refine bI O (dU qQ (fun b6 hb6=>go9 ?_));refine cI (rg [] 7 23) (fun g nn M=>∃ (k:Nat),(g 7 = .int .u64 ((cy (val xs) (val ys) k:Nat):Int)∧g 9 = .int .i64 (k:Int))∧M=[⟨b6,31,uw (zD k (val xs+val ys) 16)⟩,⟨b4,31,uw (List.replicate 16 0)⟩,⟨b3,31,uw ys⟩,⟨b2,31,uw xs⟩]∧nn=16 - k∧(k≤16)) (16) ?start ?round
 case start =>
  refine ⟨_,(List.Sublist.refl _),0,⟨?a7,?a9⟩,?mem0,rfl,Nat.zero_le _⟩
  case mem0=>rw [AG]
  case a7=>rw [aJ_];rfl
  case a9=>rfl
 case round =>
  rintro nn g M ⟨k,⟨hg7,hg9⟩,rfl,hmeas,hk⟩;subst nn;refine gS2 hg7 hg9 ?_;clear hg7 hg9;refine go4 ?_;refine aN _ O (fun hc=>?_) (fun hc=>?_)
  ·replace hc:=cB_ hc
   have hc:k<16:=by omega
   have hcy:=ef_ (val xs) (val ys) k;refine go8 ?_;refine mB (sk (sk (sk (sk s0)))) 12 [] [] (go2 ?_);refine pQ O (eF arT O O oo_ oo_) (pQ O (dI tyT O mm_ (vF oo_)) ?_);refine pQ O (eC gS fE O) (go_ ?_);refine pQ O (eF arT O O oo_ oo_) (pQ O (dI tyT O mm_ (vF oo_)) ?_);refine pQ O (eC gS fE O) (go_ ?_);refine pQ O (aS (i4 O O) (congrArg (Value.int .u64) (dm_ hcy (dS lx k) (dS ly k)))) (go5 ?_);refine sQ (aS (eC fE gS O) (pU _)) O (sQ (eF arT O O oo_ oo_) O (bI O (oJ tyT O O uu_ (by rw [jT _ hk];exact hc) (.inl eL) ?_)));refine go3 ?_;refine sQ (aS (wK O O dd_) (congrArg (Value.int .u64) (sS _ 32))) O (go6 ?_);refine ⟨pp_,_,_,(List.Sublist.refl _),oo_,k+1,⟨?s7,?s9⟩,?mem,rfl,oo_⟩
   case mem=>rw [eX xs k lx,eX ys k ly,RQ,zE _ hc]
   case s7=>rw [← RP,← eX xs k lx,← eX ys k ly];rfl
   case s9=>exact congrArg (Value.int .i64) (cB (n:=(k:Int)+1) (by unfold I64;omega))
  replace hc:=cB_ hc
  obtain rfl:k=16:=by omega
  refine go2 ?_;refine sQ (bZ tyT O mm_ (by simp [uw,jT])) O ?_;refine go2 ?_;refine bI O (bT tyT O O uu_ (by simp [uw,jT]) O (iD _) (.inl eL) ?_);refine go3 ?_;refine vE O (.inr O) ⟨_,_,_,_,_,_,rfl,mm_,tyT,_,(dE (by simp [uw,jT])),(by simp [uw,jT]),rfl⟩ O ?_;rw [CY];rfl
theorem wS (xs ys:List Nat) (hx:xs.length=16) (hy:ys.length=16) (lx:Lim xs) (ly:Lim ys) (hle:val ys≤val xs) :
    Ret prog 192 [UV xs,UV ys] (UV (toL 16 (val xs - val ys))):=by
 refine bJ (N:=31) func192 O O zz_ (fun w0=>?_);refine giI ?_;refine go_ ?_;refine bI O (jS O O (fun b2 hb2=>bI O (jS O O (fun b3 hb3=>bI O (dU qQ (fun b4 hb4=>go2 ?_))))));refine bI O (dU qQ (fun b5 hb5=>go9 ?_));refine cI (rg [] 6 24) (fun g nn M=>∃ (k:Nat),(g 6 = .int .u64 ((bw (val xs) (val ys) k:Nat):Int)∧g 9 = .int .i64 (k:Int))∧M=[⟨b5,31,uw (zD k (val xs - val ys) 16)⟩,⟨b4,31,uw (List.replicate 16 0)⟩,⟨b3,31,uw ys⟩,⟨b2,31,uw xs⟩]∧nn=16 - k∧(k≤16)) (16) ?start ?round
 case start =>
  refine ⟨_,(List.Sublist.refl _),0,⟨?a6,?a9⟩,?mem0,rfl,Nat.zero_le _⟩
  case mem0=>rw [AG]
  case a6=>rw [aC_];rfl
  case a9=>rfl
 case round =>
  rintro nn g M ⟨k,⟨hg6,hg9⟩,rfl,hmeas,hk⟩;subst nn;refine gS2 hg6 hg9 ?_;clear hg6 hg9;refine go4 ?_;refine aN _ O (fun hc=>?_) (fun hc=>?_)
  ·replace hc:=cB_ hc
   have hc:k<16:=by omega
   have hbw:=ec_ (val xs) (val ys) k;refine go8 ?_;refine mB (sk (sk (sk (sk s0)))) 12 [] [] (go_ ?_);refine pQ O (eF arT O O oo_ oo_) (pQ O (dI tyT O mm_ (vF oo_)) ?_);refine pQ O (eC gS fE O) (go_ ?_);refine pQ O (eF arT O O oo_ oo_) (pQ O (dI tyT O mm_ (vF oo_)) ?_);refine pQ O (eC gS fE O) (go2 ?_);refine pQ O (aS (o9 O O) (congrArg (Value.int .u64) (S9 hbw (dS lx k) (dS ly k)))) (go5 ?_);refine sQ (aS (eC fE gS O) (pU _)) O (sQ (eF arT O O oo_ oo_) O (bI O (oJ tyT O O uu_ (by rw [jT _ hk];exact hc) (.inl eL) ?_)));refine go3 ?_;refine sQ (aS (wK O O dd_) (congrArg (Value.int .u64) (sS _ 63))) O (go6 ?_);refine ⟨pp_,_,_,(List.Sublist.refl _),oo_,k+1,⟨?s6,?s9⟩,?mem,rfl,oo_⟩
   case mem=>rw [eX xs k lx,eX ys k ly,O8 k hle,zE _ hc]
   case s6=>rw [← MW,← eX xs k lx,← eX ys k ly];rfl
   case s9=>exact congrArg (Value.int .i64) (cB (n:=(k:Int)+1) (by unfold I64;omega))
  replace hc:=cB_ hc
  obtain rfl:k=16:=by omega
  refine go2 ?_;refine sQ (bZ tyT O mm_ (by simp [uw,jT])) O ?_;refine bI O (bT tyT O O uu_ (by simp [uw,jT]) O (iD _) (.inl eL) ?_);refine go2 ?_;refine rtX O ⟨_,_,_,_,_,_,rfl,mm_,tyT,_,(dE (by simp [uw,jT])),(by simp [uw,jT]),rfl⟩ ?_;rw [CY];rfl
theorem FZ (x:Nat) :
  Ret prog 231 [U32 x] (.bool false):=by
 refine bJ (N:=6) func231 O O zz_ (fun w0=>?_);refine giI ?_;refine go6 ?_;refine sQ (aS (b6_ O O) (congrArg Value.bool (bne_self_eq_false _))) O (go3 ?_);refine rt1 ?_;exact rfl
theorem UN (x y:Nat) :
   Ret prog 207 [U32 x,U32 y] (.int .i64 (uN x y)):=by
 refine bJ (N:=20) func207 O O zz_ (fun w0=>?_);refine giI ?_;refine go5 ?_;refine sQ (aX aE (FZ x) O) O (go4 ?_);refine sQ (aX aE (FZ y) O) O (en_ ?_);refine aN _ O (fun h1=>?_) (fun h1=>?_)
 ·replace h1:=cB_ h1
  refine go4 ?_;refine rt1 ?_;exact congrArg _ (yB h1).symm
 replace h1:=cB_ h1
 refine go7 ?_;refine aN _ O (fun h2=>?_) (fun h2=>?_)
 ·replace h2:=cB_ h2
  refine go4 ?_;refine rt1 ?_;exact congrArg _ (yA h2).symm
 replace h2:=cB_ h2
 refine go5 ?_;refine rt1 ?_
 (obtain rfl:x=y:=by omega);exact congrArg _ (EE _).symm
theorem oZ (xs ys:List Nat) (hx:xs.length=16) (hy:ys.length=16) (lx:Lim xs) (ly:Lim ys) :
    Ret prog 171 [UV xs,UV ys] (.int .i64 (uN (val xs) (val ys))):=by
 refine bJ (N:=24) func171 O O zz_ (fun w0=>?_);refine giI ?_;refine go_ ?_;refine bI O (jS O O (fun b2 hb2=>bI O (jS O O (fun b3 hb3=>go7 ?_))));refine cI (rg [] 4 20) (fun g nn M=>∃ (k:Nat),(g 5 = .int .i64 ((k:Int) - 1))∧M=[⟨b3,31,uw ys⟩,⟨b2,31,uw xs⟩]∧nn=k+0∧(k≤16∧xs.drop k=ys.drop k)) (16) ?start ?round
 case start =>
  refine ⟨_,(List.Sublist.refl _),16,?a5,?mem0,rfl,⟨Nat.le_refl _,by rw [List.drop_eq_nil_of_le oo_,List.drop_eq_nil_of_le oo_]⟩⟩
  case mem0=>rfl
  case a5=>rfl
 case round =>
  rintro nn g M ⟨k,hg5,rfl,hmeas,⟨hk,hd⟩⟩;subst nn;refine gS1 hg5 ?_;clear hg5;refine go5 ?_;refine aN _ O (fun hc=>?_) (fun hc=>?_)
  ·replace hc:=cB_ hc
   obtain ⟨m,rfl⟩:∃ m,k=m+1:=⟨k - 1,by omega⟩;refine go4 ?_;refine mB (sk (sk s0)) 7 [] [] (pQ O (aS (kN O) (congrArg (Value.int .i64) (show (((m+1:Nat):Int) - 1)=(m:Int) by omega))) (pQ O (eF arT O O oo_ oo_) (pQ O (dI tyT O mm_ (vF oo_)) ?_)));refine pQ O (aS (kN O) (congrArg (Value.int .i64) (show (((m+1:Nat):Int) - 1)=(m:Int) by omega))) (pQ O (eF arT O O oo_ oo_) (pQ O (dI tyT O mm_ (vF oo_)) ?_));refine go2 ?_;refine aN _ O (fun hne=>?_) (fun hne=>?_)
   ·replace hne:=cB_ hne
    refine go_ ?_;refine mB (sk (sk s0)) 8 [] [] (pQ O (aS (kN O) (congrArg (Value.int .i64) (show (((m+1:Nat):Int) - 1)=(m:Int) by omega))) (pQ O (eF arT O O oo_ oo_) (pQ O (dI tyT O mm_ (vF oo_)) ?_)));refine pQ O (aS (kN O) (congrArg (Value.int .i64) (show (((m+1:Nat):Int) - 1)=(m:Int) by omega))) (pQ O (eF arT O O oo_ oo_) (pQ O (dI tyT O mm_ (vF oo_)) ?_));refine pQ O (aX aE (UN _ _) O) (go3 ?_);refine rt1 ?_;exact congrArg _ (RN lx ly oo_ hd oo_)
   replace hne:=cB_ hne
   refine go2 ?_;refine sQ (aS (kN O) (congrArg (Value.int .i64) (show (((m+1:Nat):Int) - 1)=(m:Int) by omega))) O (go3 ?_);refine ⟨pp_,_,_,(List.Sublist.refl _),oo_,m,?s5,?mem,rfl,⟨by omega,ML oo_ hd oo_ oo_⟩⟩
   case mem=>rfl
   case s5=>exact congrArg (Value.int .i64) (cB (n:=(m:Int) - 1) (by unfold I64;omega))
  replace hc:=cB_ hc
  obtain rfl:k=0:=by omega
  refine go5 ?_;refine rt1 ?_
  (rw [List.drop_zero,List.drop_zero] at hd;subst hd;exact congrArg _ (EE _).symm)
theorem oM (xs:List Nat) (hx:xs.length=16) :
    Ret prog 188 [UV xs] (.int .i64 ((szL xs:Nat):Int)):=by
 refine bJ (N:=16) func188 O O zz_ (fun w0=>?_);refine giI ?_;refine go_ ?_;refine bI O (jS O O (fun b1 hb1=>go7 ?_));refine cI (rg [] 3 12) (fun g nn M=>∃ (k:Nat),(g 3 = .int .i64 (k:Int))∧M=[⟨b1,31,uw xs⟩]∧nn=k+0∧(k≤16∧∀ j,k≤j→xs.getD j 0=0)) (16) ?start ?round
 case start =>
  refine ⟨_,(List.Sublist.refl _),16,?a3,?mem0,rfl,⟨Nat.le_refl _,fun j hj=>by simp [List.getD,List.getElem?_eq_none (show xs.length≤j by omega)]⟩⟩
  case mem0=>rfl
  case a3=>rfl
 case round =>
  rintro nn g M ⟨k,hg3,rfl,hmeas,⟨hk,hhi⟩⟩;subst nn;refine gS1 hg3 ?_;clear hg3;refine go5 ?_
  cases hz:decide ((0:Int)<(k:Int))
  ·refine BN ?_;refine rt1 ?_;exact congrArg (fun n:Nat=>Value.int .i64 (n:Int)) (NS hhi (.inl (by have:=of_decide_eq_false hz;omega))).symm
  have hz':=of_decide_eq_true hz;obtain ⟨m,rfl⟩:∃ m,k=m+1:=⟨k - 1,by omega⟩;refine go_ ?_;refine sQ (aS (o9 O O) (congrArg (Value.int .i64) (zP oo_))) O (sQ (eF arT O O oo_ oo_) O (sQ (dI tyT O mm_ (vF oo_)) O ?_));refine go3 ?_;refine aN _ O (fun h0=>?_) (fun h0=>?_)
  ·replace h0:=cB_ h0
   refine go4 ?_;refine sQ (aS (o9 O O) (congrArg (Value.int .i64) (zP oo_))) O (go2 ?_);refine ⟨pp_,_,_,(List.Sublist.refl _),oo_,m,?s3,?mem,rfl,⟨by omega,fun j hj=>by rcases Nat.eq_or_lt_of_le hj with rfl|hj;omega;exact hhi j hj⟩⟩
   case mem=>rfl
   case s3=>rfl
  replace h0:=cB_ h0
  refine go6 ?_;refine rt1 ?_;exact congrArg (fun n:Nat=>Value.int .i64 (n:Int)) (NS hhi (.inr (by simp only [Nat.add_sub_cancel];omega))).symm
theorem wE (a:R) (ha:a.Ok) :
   Ret prog 124 [RV a] (RV (Z.neg a.dec).enc):=by
 refine bJ (N:=14) func124 O O zz_ (fun w0=>?_);refine giI ?_;refine go_ ?_;refine bI O (jS O O (fun b1 hb1=>bI O (dU lU (fun b2 hb2=>go3 ?_))));refine sQ (bZ tyT O mm_ (cE ha)) O ?_;refine bI O (jB tJ lU rL O dd_ O (xJ ha) (fun b4 hb4=>sQ (dJ aE O (fun w hw=>gZ [a] (ok1 ha) b4 33 w (hw.mem _ m0) zz_)) O ?_));refine go2 ?_;refine aN _ O (fun hg=>?_) (fun hg=>?_)
 ·replace hg:=cB_ hg
  refine go_ ?_;refine sQ (aX aE fS O) O (bI O (bT tyT O O uu_ (aI _) O (bO _) (.inl eL) ?_));refine go2 ?_;refine rtX O ⟨_,_,_,_,_,_,rfl,mm_,tyT,_,(dE (aI _)),(aI _),rfl⟩ ?_
  (rw [Z.neg,zK (O9 hg)];rfl)
 replace hg:=cB_ hg
 refine go2 ?_;refine sQ (cA fdT dd_ O) O (sQ (dI tyT O mm_ O) O ?_);refine go_ ?_;refine sQ (cA fdT dd_ O) O (sQ (iN (vs:=uw a.w) tyT O mm_ (lT ha.len) ((gV _).trans ha.len)) O ?_);refine sQ (aX aE (eP (!a.neg) a.w ha.len ha.lim) O) O (bI O (bT tyT O O uu_ (iQ ha.len) O (bO _) (.inl eL) ?_));refine go2 ?_;refine rtX O ⟨_,_,_,_,_,_,rfl,mm_,tyT,_,(dE (iQ ha.len)),(iQ ha.len),rfl⟩ ?_;exact congrArg RV (dc_ ha (by simpa using hg))
theorem DN (a:R) (ha:a.Ok) :
   Ret prog 190 [RV a] (RV (Z.abs a.dec).enc):=by
 refine bJ (N:=11) func190 O O zz_ (fun w0=>?_);refine giI ?_;refine go_ ?_;refine bI O (jS O O (fun b1 hb1=>bI O (dU lU (fun b2 hb2=>go3 ?_))));refine sQ (bZ tyT O mm_ (cE ha)) O ?_;refine bI O (jB tJ lU rL O dd_ O (xJ ha) (fun b4 hb4=>sQ (dJ aE O (fun w hw=>gZ [a] (ok1 ha) b4 33 w (hw.mem _ m0) zz_)) O ?_));refine go2 ?_;refine aN _ O (fun hg=>?_) (fun hg=>?_)
 ·replace hg:=cB_ hg
  refine go_ ?_;refine sQ (aX aE fS O) O (bI O (bT tyT O O uu_ (aI _) O (bO _) (.inl eL) ?_));refine go2 ?_;refine rtX O ⟨_,_,_,_,_,_,rfl,mm_,tyT,_,(dE (aI _)),(aI _),rfl⟩ ?_
  (rw [Z.abs,zK (O9 hg)];rfl)
 replace hg:=cB_ hg
 refine go2 ?_;refine sQ (cA fdT dd_ O) O (sQ (iN (vs:=uw a.w) tyT O mm_ (lT ha.len) ((gV _).trans ha.len)) O ?_);refine sQ (aX aE (eP false a.w ha.len ha.lim) O) O (bI O (bT tyT O O uu_ (iQ ha.len) O (bO _) (.inl eL) ?_));refine go2 ?_;refine rtX O ⟨_,_,_,_,_,_,rfl,mm_,tyT,_,(dE (iQ ha.len)),(iQ ha.len),rfl⟩ ?_;exact congrArg RV (cC_ ha (by simpa using hg))
theorem pM (a b:R) (ha:a.Ok) (hb:b.Ok) :
    Ret prog 122 [RV a,RV b] (RV (Z.add a.dec b.dec).enc):=by
 refine bJ (N:=55) func122 O O zz_ (fun w0=>?_);refine giI ?_;refine go_ ?_;refine bI O (jS O O (fun b2 hb2=>bI O (jS O O (fun b3 hb3=>bI O (dU lU (fun b4 hb4=>go3 ?_))))));refine sQ (bZ tyT O mm_ (cE ha)) O ?_;refine sQ (bZ tyT O mm_ (cE hb)) O ?_;refine bI O (jB tJ lU rL O dd_ O (MQ ha hb) (fun b9 hb9=>sQ (dJ aE O (fun w hw=>gZ [a,b] (ok2 ha hb) b9 33 w (hw.mem _ m0) zz_)) O ?_));refine go2 ?_;refine aN _ O (fun hg=>?_) (fun hg=>?_)
 ·replace hg:=cB_ hg
  refine go_ ?_;refine sQ (aX aE fS O) O (bI O (bT tyT O O uu_ (aI _) O (bO _) (.inl eL) ?_));refine go2 ?_;refine rtX O ⟨_,_,_,_,_,_,rfl,mm_,tyT,_,(dE (aI _)),(aI _),rfl⟩ ?_
  (rw [Z.add,nS (ES hg)];rfl)
 replace hg:=cB_ hg
 have hg:=all2.1 hg;refine go3 ?_;refine sQ (cA fdT dd_ O) O (sQ (dI tyT O mm_ O) O ?_);refine sQ (cA fdT dd_ O) O (sQ (dI tyT O mm_ O) O ?_);refine sQ (YU DU O O) O (go_ ?_);refine aN _ O (fun hn=>?_) (fun hn=>?_)
 ·replace hn:=cB_ hn
  refine go_ ?_;refine sQ (cA fdT dd_ O) O (sQ (iN (vs:=uw a.w) tyT O mm_ (lT ha.len) ((gV _).trans ha.len)) O ?_);refine sQ (cA fdT dd_ O) O (sQ (iN (vs:=uw b.w) tyT O mm_ (lT hb.len) ((gV _).trans hb.len)) O ?_);refine sQ (aX aE (JP a.w b.w ha.len hb.len ha.lim hb.lim) O) O (go3 ?_);refine bI O (dU qQ (fun b5 hb5=>bI O (bT tyT O O uu_ (by rw [gV,cP]) O (iD _) (.inl eL) ?_)));refine go7 ?_;refine aN _ O (fun hc=>?_) (fun hc=>?_)
  ·replace hc:=cB_ hc
   refine go_ ?_;refine sQ (aX aE fS O) O (bI O (bT tyT O O uu_ (aI _) O (bO _) (.inl eL) ?_));refine go2 ?_;refine rtX O ⟨_,_,_,_,_,_,rfl,mm_,tyT,_,(dE (aI _)),(aI _),rfl⟩ ?_;exact congrArg RV (WS ha hb hg.1 hg.2 hn oo_)
  replace hc:=cB_ hc
  refine go2 ?_;refine sQ (cA fdT dd_ O) O (sQ (dI tyT O mm_ O) O ?_);refine sQ (bZ tyT O mm_ (by rw [gV,cP])) O ?_;refine sQ (aX aE (eP a.neg _ (cP _ _) (mG _ _)) O) O (bI O (bT tyT O O uu_ (iQ (cP _ _)) O (bO _) (.inl eL) ?_));refine go2 ?_;refine rtX O ⟨_,_,_,_,_,_,rfl,mm_,tyT,_,(dE (iQ (cP _ _))),(iQ (cP _ _)),rfl⟩ ?_;exact congrArg RV (WT ha hb hg.1 hg.2 hn oo_)
 replace hn:=cB_ hn
 refine go3 ?_;refine sQ (cA fdT dd_ O) O (sQ (iN (vs:=uw a.w) tyT O mm_ (lT ha.len) ((gV _).trans ha.len)) O ?_);refine sQ (cA fdT dd_ O) O (sQ (iN (vs:=uw b.w) tyT O mm_ (lT hb.len) ((gV _).trans hb.len)) O ?_);refine sQ (aX aE (oZ a.w b.w ha.len hb.len ha.lim hb.lim) O) O (go2 ?_);refine aN _ O (fun ho=>?_) (fun ho=>?_)
 ·replace ho:=cB_ ho
  have hle:val b.w≤val a.w:=SO ho;refine go_ ?_;refine mB (sk (sd (sk (sk s0)))) 9 [8] [8] (pQ O (cA fdT dd_ O) (pQ O (dI tyT O mm_ O) ?_));refine pQ O (cA fdT dd_ O) (pQ O (iN (vs:=uw a.w) tyT O mm_ (lT ha.len) ((gV _).trans ha.len)) ?_);refine pQ O (cA fdT dd_ O) (pQ O (iN (vs:=uw b.w) tyT O mm_ (lT hb.len) ((gV _).trans hb.len)) ?_);refine pQ O (aX aE (wS a.w b.w ha.len hb.len ha.lim hb.lim hle) O) (pQ O (aX aE (eP a.neg _ (cP _ _) (mG _ _)) O) ?_);refine dF O O (bT tyT O O uu_ (iQ (cP _ _)) O (bO _) (.inl eL) ⟨nf,ss_,?_⟩);refine go2 ?_;refine rtX O ⟨_,_,_,_,_,_,rfl,mm_,tyT,_,(dE (iQ (cP _ _))),(iQ (cP _ _)),rfl⟩ ?_;exact congrArg RV (WU ha hb hg.1 hg.2 hn hle)
 replace ho:=cB_ ho
 have hle:val a.w≤val b.w:=W5 ho;refine go2 ?_;refine mB (sk (sd (sk (sk s0)))) 9 [8] [8] (pQ O (cA fdT dd_ O) (pQ O (dI tyT O mm_ O) ?_));refine pQ O (cA fdT dd_ O) (pQ O (iN (vs:=uw b.w) tyT O mm_ (lT hb.len) ((gV _).trans hb.len)) ?_);refine pQ O (cA fdT dd_ O) (pQ O (iN (vs:=uw a.w) tyT O mm_ (lT ha.len) ((gV _).trans ha.len)) ?_);refine pQ O (aX aE (wS b.w a.w hb.len ha.len hb.lim ha.lim hle) O) (pQ O (aX aE (eP b.neg _ (cP _ _) (mG _ _)) O) ?_);refine dF O O (bT tyT O O uu_ (iQ (cP _ _)) O (bO _) (.inl eL) ⟨nf,ss_,?_⟩);refine go2 ?_;refine rtX O ⟨_,_,_,_,_,_,rfl,mm_,tyT,_,(dE (iQ (cP _ _))),(iQ (cP _ _)),rfl⟩ ?_;exact congrArg RV (WV ha hb hg.1 hg.2 hn hle)
theorem DQ (a b:R) (ha:a.Ok) (hb:b.Ok) :
  Ret prog 133 [RV a,RV b] (RV (Z.sub a.dec b.dec).enc):=by
 refine bJ (N:=9) func133 O O zz_ (fun w0=>?_);refine giI ?_;refine go_ ?_;refine bI O (jS O O (fun b2 hb2=>bI O (jS O O (fun b3 hb3=>bI O (dU lU (fun b4 hb4=>go2 ?_))))));refine mB (sd (sk (sk s0))) 5 [4] [4] (pQ O (bZ tyT O mm_ (cE ha)) ?_);refine pQ O (bZ tyT O mm_ (cE hb)) ?_;refine pQ O (aX aE (wE b hb) O) (pQ O (aX aE (pM a (Z.neg b.dec).enc ha (Z.enc_ok _)) O) ?_);refine dF O O (bT tyT O O uu_ (aI _) O (bO _) (.inl eL) ⟨nf,ss_,?_⟩);refine go2 ?_;refine rtX O ⟨_,_,_,_,_,_,rfl,mm_,tyT,_,(dE (aI _)),(aI _),rfl⟩ ?_
 (rw [yC];rfl)
theorem iR (a:R) (ha:a.Ok) :
   Ret prog 103 [RV a] (.int .i64 a.dec.sign):=by
 refine bJ (N:=17) func103 O O zz_ (fun w0=>?_);refine giI ?_;refine go_ ?_;refine bI O (jS O O (fun b1 hb1=>go5 ?_));refine sQ (bZ tyT O mm_ (cE ha)) O ?_;refine bI O (jB tJ lU rL O dd_ O (xJ ha) (fun b5 hb5=>sQ (dJ aE O (fun w hw=>gZ [a] (ok1 ha) b5 33 w (hw.mem _ m0) zz_)) O ?_));refine go2 ?_
 cases hg:[a].all R.good
 ·refine yP ?_;refine rt1 ?_;exact congrArg _ (C8 ha (.inl (by simpa using hg)))
 refine sQ (cA fdT dd_ O) O (sQ (iN (vs:=uw a.w) tyT O mm_ (lT ha.len) ((gV _).trans ha.len)) O ?_);refine sQ (qG qQ arT O (.nil _)) O ?_;refine sQ (gI (r:=a.zero) O O (dR 8 dd_ HT IA (oL ha.len) (oL zz_) ha.zero_iff)) O ?_;refine go3 ?_;refine aN _ O (fun hz=>?_) (fun hz=>?_)
 ·replace hz:=cB_ hz
  refine go4 ?_;refine rt1 ?_;exact congrArg _ (C8 ha (.inr hz))
 replace hz:=cB_ hz
 refine go_ ?_;refine sQ (cA fdT dd_ O) O (sQ (dI tyT O mm_ O) O ?_);refine go2 ?_;refine aN _ O (fun hn=>?_) (fun hn=>?_)
 ·replace hn:=cB_ hn
  refine go4 ?_;refine rt1 ?_;exact congrArg _ (P2 ha (by simpa using hg) hz hn)
 replace hn:=cB_ hn
 refine go5 ?_;refine rt1 ?_;exact congrArg _ (P3 ha (by simpa using hg) hz hn)
theorem eG (n:Int) (hn:I64 n) :
   Ret prog 59 [.int .i64 n] (RV (Z.of n).enc):=by
 refine bJ (N:=19) func59 O O zz_ (fun w0=>?_);refine giI ?_;refine go_ ?_;refine bI O (dU lU (fun b2 hb2=>go3 ?_));refine sQ (eC EO fE O) O (go7 ?_);refine aN _ O (fun h0=>?_) (fun h0=>?_)
 ·replace h0:=cB_ h0
  refine go2 ?_;refine sQ (aS (Y0 O) (congrArg (Value.int .u64) (dh_ hn h0))) O (go5 ?_);refine sQ (aS (kN O) (show _=Value.int .u64 (n.natAbs:Int) from by first|rfl|exact congrArg (Value.int .u64) (M5 hn h0))) O ?_;refine sQ (eC fE gS O) O (sQ (aS (kN O) (show _=Value.int .u64 (n.natAbs:Int) from by first|rfl|exact congrArg (Value.int .u64) (M5 hn h0))) O ?_);refine sQ (aS (wK O O dd_) (congrArg (Value.int .u64) (sS _ 32))) O (sQ (eC fE gS O) O (sQ (qG qQ arT O (XM (YO _) (YN (by unfold I64 at hn;omega)))) O (sQ (aX aE (eP (decide (n<0)) _ zz_ (X7 (Nat.mod_lt _ dd_) (by unfold I64 at hn;omega) 14)) O) O ?_)));refine bI O (bT tyT O O uu_ (iQ zz_) O (bO _) (.inl eL) ?_);refine go2 ?_;refine rtX O ⟨_,_,_,_,_,_,rfl,mm_,tyT,_,(dE (iQ zz_)),(iQ zz_),rfl⟩ ?_;exact congrArg RV (YM hn O O)
 replace h0:=cB_ h0
 refine go4 ?_;refine sQ (aS (kN O) (show _=Value.int .u64 (n.natAbs:Int) from by first|rfl|exact congrArg (Value.int .u64) (M5 hn h0))) O ?_;refine sQ (eC fE gS O) O (sQ (aS (kN O) (show _=Value.int .u64 (n.natAbs:Int) from by first|rfl|exact congrArg (Value.int .u64) (M5 hn h0))) O ?_);refine sQ (aS (wK O O dd_) (congrArg (Value.int .u64) (sS _ 32))) O (sQ (eC fE gS O) O (sQ (qG qQ arT O (XM (YO _) (YN (by unfold I64 at hn;omega)))) O (sQ (aX aE (eP (decide (n<0)) _ zz_ (X7 (Nat.mod_lt _ dd_) (by unfold I64 at hn;omega) 14)) O) O ?_)));refine bI O (bT tyT O O uu_ (iQ zz_) O (bO _) (.inl eL) ?_);refine go2 ?_;refine rtX O ⟨_,_,_,_,_,_,rfl,mm_,tyT,_,(dE (iQ zz_)),(iQ zz_),rfl⟩ ?_;exact congrArg RV (YM hn O O)
end Go.Proofs.YtbjlhfochebmiaaGreatDoor
