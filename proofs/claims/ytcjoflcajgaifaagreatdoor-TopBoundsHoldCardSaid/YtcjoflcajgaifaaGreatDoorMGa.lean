/- Lemmas: what they ask stands in their statements. -/
import Derived.Test.YtcjoflcajgaifaaGreatDoorMYv
import Derived.Test.YtcjoflcajgaifaaGreatDoorMWd
set_option linter.unusedSimpArgs false
set_option linter.unusedVariables false
set_option maxHeartbeats 8000000
set_option maxRecDepth 20000
namespace Go.Proofs.YtcjoflcajgaifaaGreatDoor
open Go.Kn Go.Num Tryz
attribute [local irreducible] Go.Kn.W WL PL OpQ OpR OpS
theorem rU  :
  Ret prog 84 [] (AV [pI F_ratio_one]):=by
 refine bI (N:=2) func84 O O zz_ (fun w0=>?_);refine giI ?_;obtain ⟨q0,hq0⟩:=nm ((E (Z.of 1)):I);refine go2 ?_;intro b1 hb1;refine go2 ?_;refine sC (AV [pI q0]) aK (dV (wl 1).1 (wl 1).2) O O (by subst hq0;rfl) ?_;refine go3 ?_;refine rtX O (iN O m0 tyT O) ?_;exact (by obtain rfl:=hq0.symm;rfl)
theorem iK  :
  Ret prog 66 [] (AV [pI F_ratio_Bad.n,pI F_ratio_Bad.d]):=by
 refine bI (N:=4) func66 O O zz_ (fun w0=>?_);refine giI ?_;obtain ⟨q0,hq0⟩:=nm ((E Z.bad):I);obtain ⟨q1,hq1⟩:=nm (F_ratio_one:I);refine go2 ?_;intro b1 hb1;refine go2 ?_;refine sC (AV [pI q0]) aK gR O O (by subst hq0;rfl) (sC (AV [pI q1]) aK rU O O (by subst hq1;rfl) (go4 ?_));refine rtX O (iN O m0 tyT O) ?_;exact (by subst_vars;rfl)
theorem qR (a:I) :
    Ret prog 115 [AV [pI a]] (.bool (i6 a)):=by
 refine bI (N:=10) func115 O O zz_ (fun w0=>?_);refine giI ?_;refine go2 ?_;intro b1 hb1;refine go2 ?_;refine gJv (rg [] 2 8) [(2,.bool (!a.1.bad&&a.1.valid))] (fun K1 J1=>?_) ?_
 ·refine go4 ?_;rcases bt a.1.bad with h3|h3
  ·refine sB (i3 h3) O (go5 ?_);refine J1 _ _ pp_ s0 (cH (AK h3))
  refine sB (i4 h3) O (go_ ?_);refine sC (.bool a.1.valid) aK (sP a.1 a.2) O O O (go3 ?_);refine J1 _ _ pp_ s0 (cH (yM h3 O))
 intro g4;refine go_ ?_;refine rt1 ?_;exact (by rfl)
theorem fC (a:Rt) :
    Ret prog 64 [AV [pI a.n,pI a.d]] (.bool (bD a)):=by
 refine bI (N:=26) func64 O O zz_ (fun w0=>?_);refine giI ?_;refine go2 ?_;intro b1 hb1;refine go2 ?_;refine gJv (rg [] 2 24) [(2,.bool ((i6 a.n)&&((i6 a.d)&&(decide (0<(Z.signW a.d.dec).1)&&decide ((E (Z.gcd a.n.dec a.d.dec))=F_ratio_one)))))] (fun K1 J1=>?_) ?_
 ·refine go3 ?_;refine sQ (aY aK (qR a.n) O) O ?_;refine sBB O (fun h5=>?_) (fun h5=>?_)
  ·refine go2 ?_;refine sQ (aY aK (qR a.d) O) O (go_ ?_);refine sBB O (fun h6=>?_) (fun h6=>?_)
   ·refine go2 ?_;refine sC (.int .i64 ((Z.signW a.d.dec).1)) aK (fD a.d.1 a.d.2) O O O (go2 ?_);refine sBB O (fun h7=>?_) (fun h7=>?_)
    ·refine go4 ?_;refine sC (AV [pI (E (Z.gcd a.n.dec a.d.dec))]) aK (rY a.n.1 a.d.1 a.n.2 a.d.2) O O O (sQ (aY aK rU  rfl) O ?_);refine sQ (nX (r:=decide ((E (Z.gcd a.n.dec a.d.dec))=F_ratio_one)) O O (jY 8 dd_ NX OP (jX oN) (jX oN) (nF yC))) O (go3 ?_);refine J1 _ _ pp_ s0 (cH (j8 h5 (j8 h6 (j8 h7 O))))
    refine oF ?_;refine J1 _ _ pp_ s0 (cH (j8 h5 (j8 h6 (nT h7))))
   refine Q6 ?_;refine J1 _ _ pp_ s0 (cH (j8 h5 (nT h6)))
  refine eg_ ?_;refine J1 _ _ pp_ s0 (cH (nT h5))
 intro g8;refine go_ ?_;refine rt1 ?_;exact (by rfl)
theorem lA (a:I) (b:I) :
    Ret prog 73 [AV [pI a],AV [pI b]] (AV [pI ((cE a b).n),pI ((cE a b).d)]):=by
 refine bI (N:=35) func73 O O zz_ (fun w0=>?_);refine giI ?_;refine go2 ?_;intro b1 hb1;refine go_ ?_;intro b2 hb2;refine go_ ?_;intro b3 hb3;refine go2 ?_;refine gJv (rg [] 6 13) [(18,.bool (!(i6 a)||(!(i6 b)||((Z.signW b.dec).1==0))))] (fun K2 J2=>?_) ?_
 ·refine go2 ?_;refine sQ (aY aK (qR a) O) O (go_ ?_);rcases bt (i6 a) with h6|h6
  ·refine sB (i3 h6) O (go_ ?_);refine sQ (aY aK (qR b) O) O (go2 ?_);rcases bt (i6 b) with h7|h7
   ·refine sB (i3 h7) O (go_ ?_);refine sC (.int .i64 ((Z.signW b.dec).1)) aK (fD b.1 b.2) O O O (go3 ?_);refine J2 _ _ pp_ s0 (cH (lU h6 (lU h7 O)))
   refine sB (i4 h7) O (go5 ?_);refine J2 _ _ pp_ s0 (cH (lU h6 (q9 h7)))
  refine sB (i4 h6) O (oF ?_);refine J2 _ _ pp_ s0 (cH (q9 h6))
 intro g8;refine aS _ O (fun h9=>?_) (fun h9=>?_)
 ·refine go_ ?_;refine sQ (aY aK iK  rfl) O (go3 ?_);refine rtX O (iN O m0 tyT O) ?_;exact congrArg vS5 (show _=(cE a b) from bL h9 O)
 refine go4 ?_;refine sC (AV [pI (E (Z.gcd a.dec b.dec))]) aK (rY a.1 b.1 a.2 b.2) O O O (go_ ?_);intro b10 hb10;refine go5 ?_;refine sC (.int .i64 ((Z.signW b.dec).1)) aK (fD b.1 b.2) O O O (go2 ?_);refine aS _ O (fun h11=>?_) (fun h11=>?_)
 ·refine go2 ?_;refine sC (AV [pI (E (Z.neg (Z.gcd a.dec b.dec)))]) aK (vD (E (Z.gcd a.dec b.dec)).1 (E (Z.gcd a.dec b.dec)).2) O O (cg1 (fun p=>AV [pI (E (Z.neg p))]) (bR _)) (go2 ?_);refine jN (sk (sd (sk (sk s0)))) 8 [7] [7] (go2 ?_);refine pC (AV [pI (E (Z.quo a.dec (Z.neg (Z.gcd a.dec b.dec))))]) aK (iM a.1 (E (Z.neg (Z.gcd a.dec b.dec))).1 a.2 (E (Z.neg (Z.gcd a.dec b.dec))).2) O O (cg2 (fun p q=>AV [pI (E (Z.quo p q))]) O (bR _)) (go2 ?_);refine pC (AV [pI (E (Z.quo b.dec (Z.neg (Z.gcd a.dec b.dec))))]) aK (iM b.1 (E (Z.neg (Z.gcd a.dec b.dec))).1 b.2 (E (Z.neg (Z.gcd a.dec b.dec))).2) O O (cg2 (fun p q=>AV [pI (E (Z.quo p q))]) O (bR _)) (pQ O (jR zpT plT O (.cons [pI (E (Z.quo a.dec (Z.neg (Z.gcd a.dec b.dec))))] [pI (E (Z.quo a.dec (Z.neg (Z.gcd a.dec b.dec)))),pI I0] O O O O (.cons [pI (E (Z.quo b.dec (Z.neg (Z.gcd a.dec b.dec))))] [pI (E (Z.quo a.dec (Z.neg (Z.gcd a.dec b.dec)))),pI (E (Z.quo b.dec (Z.neg (Z.gcd a.dec b.dec))))] O O O O (.nil _)))) (go3 ?_));refine rtX O (iN O m1 tyT O) ?_;exact congrArg vS5 (show _=(cE a b) from aX h9 (bL h11 O))
 refine go_ ?_;refine jN (sk (sd (sk (sk s0)))) 8 [7] [7] (go2 ?_);refine pC (AV [pI (E (Z.quo a.dec (Z.gcd a.dec b.dec)))]) aK (iM a.1 (E (Z.gcd a.dec b.dec)).1 a.2 (E (Z.gcd a.dec b.dec)).2) O O (cg2 (fun p q=>AV [pI (E (Z.quo p q))]) O (bR _)) (go2 ?_);refine pC (AV [pI (E (Z.quo b.dec (Z.gcd a.dec b.dec)))]) aK (iM b.1 (E (Z.gcd a.dec b.dec)).1 b.2 (E (Z.gcd a.dec b.dec)).2) O O (cg2 (fun p q=>AV [pI (E (Z.quo p q))]) O (bR _)) (pQ O (jR zpT plT O (.cons [pI (E (Z.quo a.dec (Z.gcd a.dec b.dec)))] [pI (E (Z.quo a.dec (Z.gcd a.dec b.dec))),pI I0] O O O O (.cons [pI (E (Z.quo b.dec (Z.gcd a.dec b.dec)))] [pI (E (Z.quo a.dec (Z.gcd a.dec b.dec))),pI (E (Z.quo b.dec (Z.gcd a.dec b.dec)))] O O O O (.nil _)))) (go3 ?_));refine rtX O (iN O m1 tyT O) ?_;exact congrArg vS5 (show _=(cE a b) from aX h9 (aX h11 O))
theorem xJ (a:I) :
  Ret prog 26 [AV [pI a]] (AV [pI ((lR a).n),pI ((lR a).d)]):=by
 refine bI (N:=6) func26 O O zz_ (fun w0=>?_);refine giI ?_;refine go2 ?_;intro b1 hb1;refine go_ ?_;intro b2 hb2;refine go_ ?_;refine jN (sd (sk s0)) 4 [3] [3] (go_ ?_);refine pQ O (aY aK rU  rfl) (pQ O (aY aK (lA a F_ratio_one) O) (go3 ?_));refine rtX O (iN O m0 tyT O) ?_;exact (by rfl)
theorem L7 (a:W) :
  Ret prog 11 [.int .i64 a.1] (AV [pI ((mL a).n),pI ((mL a).d)]):=by
 refine bI (N:=6) func11 O O zz_ (fun w0=>?_);refine giI ?_;refine go2 ?_;intro b1 hb1;refine go3 ?_;refine sC (AV [pI (E (Z.of a.1))]) aK (dV a.1 a.2) O O O (sQ (aY aK (xJ (E (Z.of a.1))) O) O (go3 ?_));refine rtX O (iN O m0 tyT O) ?_;exact (by rfl)
theorem H5 (a:Rt) :
   Ret prog 67 [AV [pI a.n,pI a.d]] (AV [pI ((mG a).n),pI ((mG a).d)]):=by
 refine bI (N:=13) func67 O O zz_ (fun w0=>?_);refine giI ?_;refine go2 ?_;intro b1 hb1;refine go_ ?_;intro b2 hb2;refine go4 ?_;refine sQ (aY aK (fC a) O) O (go2 ?_);rcases bt (bD a) with h3|h3
 ·refine W_f (i3 h3) O (go_ ?_);refine jN (sd (sk s0)) 7 [6] [6] (go2 ?_);refine pC (AV [pI (E (Z.neg a.n.dec))]) aK (vD a.n.1 a.n.2) O O O (go2 ?_);refine pQ O (jR zpT plT O (.cons [pI (E (Z.neg a.n.dec))] [pI (E (Z.neg a.n.dec)),pI I0] O O O O (.cons [pI a.d] [pI (E (Z.neg a.n.dec)),pI a.d] O O O O (.nil _)))) (go3 ?_);refine rtX O (iN O m0 tyT O) ?_;exact congrArg vS5 (show _=(mG a) from bL h3 O)
 refine W_t (i4 h3) O (go_ ?_);refine sQ (aY aK iK  rfl) O (go3 ?_);refine rtX O (iN O m0 tyT O) ?_;exact congrArg vS5 (show _=(mG a) from aX h3 O)
theorem rT (a:Rt) (b:Rt) :
    Ret prog 70 [AV [pI a.n,pI a.d],AV [pI b.n,pI b.d]] (AV [pI ((gU a b).n),pI ((gU a b).d)]):=by
 refine bI (N:=44) func70 O O zz_ (fun w0=>?_);refine giI ?_;refine go2 ?_;intro b1 hb1;refine go_ ?_;intro b2 hb2;refine go_ ?_;intro b3 hb3;refine go2 ?_;refine gJv (rg [] 8 8) [(15,.bool (!(bD a)||(!(bD b))))] (fun K2 J2=>?_) ?_
 ·refine go2 ?_;refine sQ (aY aK (fC a) O) O (go_ ?_);rcases bt (bD a) with h5|h5
  ·refine sB (i3 h5) O (go_ ?_);refine sQ (aY aK (fC b) O) O (go3 ?_);refine J2 _ _ pp_ s0 (cH (lU h5 O))
  refine sB (i4 h5) O (go5 ?_);refine J2 _ _ pp_ s0 (cH (q9 h5))
 intro g6;refine aS _ O (fun h7=>?_) (fun h7=>?_)
 ·refine go_ ?_;refine sQ (aY aK iK  rfl) O (go3 ?_);refine rtX O (iN O m0 tyT O) ?_;exact congrArg vS5 (show _=(gU a b) from bL h7 O)
 refine go6 ?_;refine sC (AV [pI (E (Z.gcd a.d.dec b.d.dec))]) aK (rY a.d.1 b.d.1 a.d.2 b.d.2) O O O (go_ ?_);intro b8 hb8;refine go2 ?_;refine gDs (sk (sk (sk (sk s0)))) (.quiet 0 [1,3,7,10,11] (.quiet 1 [3,7,10,11] (.quiet 2 [3,7,10,11] (.quiet 3 [7,10,11] (.quiet 4 [5,7,10,11] (.quiet 5 [7,10,11] (.quiet 6 [7,10,11] (.quiet 7 [10,11] (.both 8 (.only 9 (.only 10 (.only 11 (.fin)))) 9 (.only 8 (.only 10 (.only 11 (.fin))))))))))))) [0,1,2,3,4,5,6,7,8,9] mix (by kernel_rfl) (by kernel_rfl) (go3 ?_);refine pC (AV [pI (E (Z.quo a.d.dec (Z.gcd a.d.dec b.d.dec)))]) aK (iM a.d.1 (E (Z.gcd a.d.dec b.d.dec)).1 a.d.2 (E (Z.gcd a.d.dec b.d.dec)).2) O O (cg2 (fun p q=>AV [pI (E (Z.quo p q))]) O (bR _)) (go3 ?_);refine pC (AV [pI (E (Z.quo b.d.dec (Z.gcd a.d.dec b.d.dec)))]) aK (iM b.d.1 (E (Z.gcd a.d.dec b.d.dec)).1 b.d.2 (E (Z.gcd a.d.dec b.d.dec)).2) O O (cg2 (fun p q=>AV [pI (E (Z.quo p q))]) O (bR _)) ?_;refine vG ?_ ?_
 ·refine dA O O (bN zpT (fun b9 hb9=>⟨(fun _=>sd s0),(sd s0),?_⟩));refine dA O O (bN zpT (fun b10 hb10=>⟨(fun _=>sd s0),(sd (sd s0)),?_⟩));refine go3 ?_;refine gds (sk (sk (sk (sd (sk (sk s0)))))) [0,4,8,12,16,20,24,28,32,36,40,44,48,52,57] [14] mix (by kernel_rfl) (go3 ?_);refine pC (AV [pI (E (Z.mul a.n.dec (Z.quo b.d.dec (Z.gcd a.d.dec b.d.dec))))]) aK (cV a.n.1 (E (Z.quo b.d.dec (Z.gcd a.d.dec b.d.dec))).1 a.n.2 (E (Z.quo b.d.dec (Z.gcd a.d.dec b.d.dec))).2) O O (cg2 (fun p q=>AV [pI (E (Z.mul p q))]) O (bR _)) (go3 ?_);refine pC (AV [pI (E (Z.mul b.n.dec (Z.quo a.d.dec (Z.gcd a.d.dec b.d.dec))))]) aK (cV b.n.1 (E (Z.quo a.d.dec (Z.gcd a.d.dec b.d.dec))).1 b.n.2 (E (Z.quo a.d.dec (Z.gcd a.d.dec b.d.dec))).2) O O (cg2 (fun p q=>AV [pI (E (Z.mul p q))]) O (bR _)) ?_;obtain ⟨r11,hr11⟩:=nm ((E (Z.add (Z.mul a.n.dec (Z.quo b.d.dec (Z.gcd a.d.dec b.d.dec))) (Z.mul b.n.dec (Z.quo a.d.dec (Z.gcd a.d.dec b.d.dec))))):I);refine pC (AV [pI r11]) aK (gQ (E (Z.mul a.n.dec (Z.quo b.d.dec (Z.gcd a.d.dec b.d.dec)))).1 (E (Z.mul b.n.dec (Z.quo a.d.dec (Z.gcd a.d.dec b.d.dec)))).1 (E (Z.mul a.n.dec (Z.quo b.d.dec (Z.gcd a.d.dec b.d.dec)))).2 (E (Z.mul b.n.dec (Z.quo a.d.dec (Z.gcd a.d.dec b.d.dec)))).2) O O ((cg2 (fun p q=>AV [pI (E (Z.add p q))]) (bR _) (bR _)).trans (by rw [hr11])) (go3 ?_);refine pC (AV [pI (E (Z.mul (Z.quo a.d.dec (Z.gcd a.d.dec b.d.dec)) b.d.dec))]) aK (cV (E (Z.quo a.d.dec (Z.gcd a.d.dec b.d.dec))).1 b.d.1 (E (Z.quo a.d.dec (Z.gcd a.d.dec b.d.dec))).2 b.d.2) O O (cg2 (fun p q=>AV [pI (E (Z.mul p q))]) (bR _) O) ?_;obtain ⟨r12,hr12⟩:=nm ((cE r11 (E (Z.mul (Z.quo a.d.dec (Z.gcd a.d.dec b.d.dec)) b.d.dec))):Rt);refine pC (AV [pI r12.n,pI r12.d]) aK (lA r11 (E (Z.mul (Z.quo a.d.dec (Z.gcd a.d.dec b.d.dec)) b.d.dec))) O O (by rw [hr12]) (go3 ?_);refine rtX O (iN O m3 tyT O) ?_
  subst_vars;exact congrArg vS5 (show _=(gU a b) from aX h7 O)
 refine dA O O (bN zpT (fun b13 hb13=>⟨(fun _=>sd s0),(sd s0),?_⟩));refine dA O O (bN zpT (fun b14 hb14=>⟨(fun _=>sd s0),(sd (sd s0)),?_⟩));refine go3 ?_;refine gds (sk (sk (sk (sd (sk (sk s0)))))) [0,4,8,12,16,20,24,28,32,36,40,44,48,52,57] [14] mix (by kernel_rfl) (go3 ?_);refine pC (AV [pI (E (Z.mul a.n.dec (Z.quo b.d.dec (Z.gcd a.d.dec b.d.dec))))]) aK (cV a.n.1 (E (Z.quo b.d.dec (Z.gcd a.d.dec b.d.dec))).1 a.n.2 (E (Z.quo b.d.dec (Z.gcd a.d.dec b.d.dec))).2) O O (cg2 (fun p q=>AV [pI (E (Z.mul p q))]) O (bR _)) (go3 ?_);refine pC (AV [pI (E (Z.mul b.n.dec (Z.quo a.d.dec (Z.gcd a.d.dec b.d.dec))))]) aK (cV b.n.1 (E (Z.quo a.d.dec (Z.gcd a.d.dec b.d.dec))).1 b.n.2 (E (Z.quo a.d.dec (Z.gcd a.d.dec b.d.dec))).2) O O (cg2 (fun p q=>AV [pI (E (Z.mul p q))]) O (bR _)) ?_;obtain ⟨r15,hr15⟩:=nm ((E (Z.add (Z.mul a.n.dec (Z.quo b.d.dec (Z.gcd a.d.dec b.d.dec))) (Z.mul b.n.dec (Z.quo a.d.dec (Z.gcd a.d.dec b.d.dec))))):I);refine pC (AV [pI r15]) aK (gQ (E (Z.mul a.n.dec (Z.quo b.d.dec (Z.gcd a.d.dec b.d.dec)))).1 (E (Z.mul b.n.dec (Z.quo a.d.dec (Z.gcd a.d.dec b.d.dec)))).1 (E (Z.mul a.n.dec (Z.quo b.d.dec (Z.gcd a.d.dec b.d.dec)))).2 (E (Z.mul b.n.dec (Z.quo a.d.dec (Z.gcd a.d.dec b.d.dec)))).2) O O ((cg2 (fun p q=>AV [pI (E (Z.add p q))]) (bR _) (bR _)).trans (by rw [hr15])) (go3 ?_);refine pC (AV [pI (E (Z.mul (Z.quo a.d.dec (Z.gcd a.d.dec b.d.dec)) b.d.dec))]) aK (cV (E (Z.quo a.d.dec (Z.gcd a.d.dec b.d.dec))).1 b.d.1 (E (Z.quo a.d.dec (Z.gcd a.d.dec b.d.dec))).2 b.d.2) O O (cg2 (fun p q=>AV [pI (E (Z.mul p q))]) (bR _) O) ?_;obtain ⟨r16,hr16⟩:=nm ((cE r15 (E (Z.mul (Z.quo a.d.dec (Z.gcd a.d.dec b.d.dec)) b.d.dec))):Rt);refine pC (AV [pI r16.n,pI r16.d]) aK (lA r15 (E (Z.mul (Z.quo a.d.dec (Z.gcd a.d.dec b.d.dec)) b.d.dec))) O O (by rw [hr16]) (go3 ?_);refine rtX O (iN O m3 tyT O) ?_
 subst_vars;exact congrArg vS5 (show _=(gU a b) from aX h7 O)
theorem H6 (a:Rt) (b:Rt) :
  Ret prog 72 [AV [pI a.n,pI a.d],AV [pI b.n,pI b.d]] (AV [pI ((fA a b).n),pI ((fA a b).d)]):=by
 refine bI (N:=9) func72 O O zz_ (fun w0=>?_);refine giI ?_;refine go2 ?_;intro b1 hb1;refine go_ ?_;intro b2 hb2;refine go_ ?_;intro b3 hb3;refine go_ ?_;refine jN (sd (sk (sk s0))) 5 [4] [4] (go2 ?_);refine pQ O (aY aK (H5 b) O) (pQ O (aY aK (rT a (mG b)) O) (go3 ?_));refine rtX O (iN O m0 tyT O) ?_;exact (by rfl)
theorem o5 (a:Rt) (b:Rt) :
    Ret prog 83 [AV [pI a.n,pI a.d],AV [pI b.n,pI b.d]] (AV [pI ((dQ a b).n),pI ((dQ a b).d)]):=by
 refine bI (N:=48) func83 O O zz_ (fun w0=>?_);refine giI ?_;refine go2 ?_;intro b1 hb1;refine go_ ?_;intro b2 hb2;refine go_ ?_;intro b3 hb3;refine go2 ?_;refine gJv (rg [] 9 8) [(16,.bool (!(bD a)||(!(bD b))))] (fun K2 J2=>?_) ?_
 ·refine go2 ?_;refine sQ (aY aK (fC a) O) O (go_ ?_);rcases bt (bD a) with h5|h5
  ·refine sB (i3 h5) O (go_ ?_);refine sQ (aY aK (fC b) O) O (go3 ?_);refine J2 _ _ pp_ s0 (cH (lU h5 O))
  refine sB (i4 h5) O (go5 ?_);refine J2 _ _ pp_ s0 (cH (q9 h5))
 intro g6;refine aS _ O (fun h7=>?_) (fun h7=>?_)
 ·refine go_ ?_;refine sQ (aY aK iK  rfl) O (go3 ?_);refine rtX O (iN O m0 tyT O) ?_;exact congrArg vS5 (show _=(dQ a b) from bL h7 O)
 refine go_ ?_;refine gDs (sk (sk (sk s0))) (.quiet 0 [1,4,9,12,13] (.quiet 1 [4,9,12,13] (.quiet 2 [3,4,9,12,13] (.quiet 3 [4,9,12,13] (.quiet 4 [9,12,13] (.quiet 5 [6,9,12,13] (.quiet 6 [9,12,13] (.quiet 7 [8,9,12,13] (.quiet 8 [9,12,13] (.quiet 9 [12,13] (.both 10 (.only 11 (.only 12 (.only 13 (.fin)))) 11 (.only 10 (.only 12 (.only 13 (.fin))))))))))))))) [0,1,2,3,4,5,6,7,8,9,10,11] mix (by kernel_rfl) (by kernel_rfl) (go4 ?_);refine pQ O (aY aK (lA a.n b.d) O) (go4 ?_);refine pQ O (aY aK (lA b.n a.d) O) ?_;refine vG ?_ ?_
 ·refine dA O O (bN zpT (fun b8 hb8=>⟨(fun _=>sd s0),(sd s0),?_⟩));refine dA O O (bN zpT (fun b9 hb9=>⟨(fun _=>sd s0),(sd (sd s0)),?_⟩));refine go3 ?_;refine gDs (sk (sd (sk (sk (sk s0))))) (.quiet 0 [1,4,9,12,13] (.quiet 1 [4,9,12,13] (.quiet 2 [3,4,9,12,13] (.quiet 3 [4,9,12,13] (.quiet 4 [9,12,13] (.quiet 5 [6,9,12,13] (.quiet 6 [9,12,13] (.quiet 7 [8,9,12,13] (.quiet 8 [9,12,13] (.quiet 9 [12,13] (.both 10 (.only 11 (.only 12 (.only 13 (.fin)))) 11 (.only 10 (.only 12 (.only 13 (.fin))))))))))))))) [0,1,2,3,4,5,6,7,8,9,10,11] mix (by kernel_rfl) (by kernel_rfl) (go4 ?_);obtain ⟨r10,hr10⟩:=nm ((E (Z.mul ((cE a.n b.d).n).dec ((cE b.n a.d).n).dec)):I);refine pC (AV [pI r10]) aK (cV ((cE a.n b.d).n).1 ((cE b.n a.d).n).1 ((cE a.n b.d).n).2 ((cE b.n a.d).n).2) O O (by subst hr10;rfl) (go4 ?_);obtain ⟨r11,hr11⟩:=nm ((E (Z.mul ((cE a.n b.d).d).dec ((cE b.n a.d).d).dec)):I);refine pC (AV [pI r11]) aK (cV ((cE a.n b.d).d).1 ((cE b.n a.d).d).1 ((cE a.n b.d).d).2 ((cE b.n a.d).d).2) O O (by subst hr11;rfl) ?_;refine vG ?_ ?_
  ·refine dA O O (bN zpT (fun b12 hb12=>⟨(fun _=>sd s0),(sd (sk (sd s0))),?_⟩));refine dA O O (bN zpT (fun b13 hb13=>⟨(fun _=>sd s0),(sd (sd (sk (sd s0)))),?_⟩));refine go4 ?_;refine gJv [38,39,40,41,42,43] [(43,.bool (r10.1.bad||r11.1.bad))] (fun K4 J4=>?_) ?_
   ·refine go3 ?_;refine sBB O (fun h15=>?_) (fun h15=>?_)
    ·refine go4 ?_;refine J4 _ _ pp_ s0 (cH (qO h15))
    refine go4 ?_;refine J4 _ _ pp_ s0 (cH (mD h15 O))
   intro g16;refine aS _ O (fun h17=>?_) (fun h17=>?_)
   ·refine go_ ?_;refine sQ (aY aK iK  rfl) O (go3 ?_);refine rtX O (iN O m4 tyT O) ?_
    subst_vars;exact congrArg vS5 (show _=(dQ a b) from aX h7 (bL h17 O))
   refine go8 ?_;refine rtX O (iN O m4 tyT O) ?_
   subst_vars;exact congrArg vS5 (show _=(dQ a b) from aX h7 (aX h17 O))
  refine dA O O (bN zpT (fun b18 hb18=>⟨(fun _=>sd s0),(sd (sk (sd s0))),?_⟩));refine dA O O (bN zpT (fun b19 hb19=>⟨(fun _=>sd s0),(sd (sd (sk (sd s0)))),?_⟩));refine go4 ?_;refine gJv [38,39,40,41,42,43] [(43,.bool (r10.1.bad||r11.1.bad))] (fun K6 J6=>?_) ?_
  ·refine go3 ?_;refine sBB O (fun h21=>?_) (fun h21=>?_)
   ·refine go4 ?_;refine J6 _ _ pp_ s0 (cH (qO h21))
   refine go4 ?_;refine J6 _ _ pp_ s0 (cH (mD h21 O))
  intro g22;refine aS _ O (fun h23=>?_) (fun h23=>?_)
  ·refine go_ ?_;refine sQ (aY aK iK  rfl) O (go3 ?_);refine rtX O (iN O m4 tyT O) ?_
   subst_vars;exact congrArg vS5 (show _=(dQ a b) from aX h7 (bL h23 O))
  refine go8 ?_;refine rtX O (iN O m4 tyT O) ?_
  subst_vars;exact congrArg vS5 (show _=(dQ a b) from aX h7 (aX h23 O))
 refine dA O O (bN zpT (fun b24 hb24=>⟨(fun _=>sd s0),(sd s0),?_⟩));refine dA O O (bN zpT (fun b25 hb25=>⟨(fun _=>sd s0),(sd (sd s0)),?_⟩));refine go3 ?_;refine gDs (sk (sk (sk (sk (sk s0))))) (.quiet 0 [1,4,9,12,13] (.quiet 1 [4,9,12,13] (.quiet 2 [3,4,9,12,13] (.quiet 3 [4,9,12,13] (.quiet 4 [9,12,13] (.quiet 5 [6,9,12,13] (.quiet 6 [9,12,13] (.quiet 7 [8,9,12,13] (.quiet 8 [9,12,13] (.quiet 9 [12,13] (.both 10 (.only 11 (.only 12 (.only 13 (.fin)))) 11 (.only 10 (.only 12 (.only 13 (.fin))))))))))))))) [0,1,2,3,4,5,6,7,8,9,10,11] mix (by kernel_rfl) (by kernel_rfl) (go4 ?_);obtain ⟨r26,hr26⟩:=nm ((E (Z.mul ((cE a.n b.d).n).dec ((cE b.n a.d).n).dec)):I);refine pC (AV [pI r26]) aK (cV ((cE a.n b.d).n).1 ((cE b.n a.d).n).1 ((cE a.n b.d).n).2 ((cE b.n a.d).n).2) O O (by subst hr26;rfl) (go4 ?_);obtain ⟨r27,hr27⟩:=nm ((E (Z.mul ((cE a.n b.d).d).dec ((cE b.n a.d).d).dec)):I);refine pC (AV [pI r27]) aK (cV ((cE a.n b.d).d).1 ((cE b.n a.d).d).1 ((cE a.n b.d).d).2 ((cE b.n a.d).d).2) O O (by subst hr27;rfl) ?_;refine vG ?_ ?_
 ·refine dA O O (bN zpT (fun b28 hb28=>⟨(fun _=>sd s0),(sd s0),?_⟩));refine dA O O (bN zpT (fun b29 hb29=>⟨(fun _=>sd s0),(sd (sd s0)),?_⟩));refine go4 ?_;refine gJv [38,39,40,41,42,43] [(43,.bool (r26.1.bad||r27.1.bad))] (fun K8 J8=>?_) ?_
  ·refine go3 ?_;refine sBB O (fun h31=>?_) (fun h31=>?_)
   ·refine go4 ?_;refine J8 _ _ pp_ s0 (cH (qO h31))
   refine go4 ?_;refine J8 _ _ pp_ s0 (cH (mD h31 O))
  intro g32;refine aS _ O (fun h33=>?_) (fun h33=>?_)
  ·refine go_ ?_;refine sQ (aY aK iK  rfl) O (go3 ?_);refine rtX O (iN O m4 tyT O) ?_
   subst_vars;exact congrArg vS5 (show _=(dQ a b) from aX h7 (bL h33 O))
  refine go8 ?_;refine rtX O (iN O m4 tyT O) ?_
  subst_vars;exact congrArg vS5 (show _=(dQ a b) from aX h7 (aX h33 O))
 refine dA O O (bN zpT (fun b34 hb34=>⟨(fun _=>sd s0),(sd s0),?_⟩));refine dA O O (bN zpT (fun b35 hb35=>⟨(fun _=>sd s0),(sd (sd s0)),?_⟩));refine go4 ?_;refine gJv [38,39,40,41,42,43] [(43,.bool (r26.1.bad||r27.1.bad))] (fun K10 J10=>?_) ?_
 ·refine go3 ?_;refine sBB O (fun h37=>?_) (fun h37=>?_)
  ·refine go4 ?_;refine J10 _ _ pp_ s0 (cH (qO h37))
  refine go4 ?_;refine J10 _ _ pp_ s0 (cH (mD h37 O))
 intro g38;refine aS _ O (fun h39=>?_) (fun h39=>?_)
 ·refine go_ ?_;refine sQ (aY aK iK  rfl) O (go3 ?_);refine rtX O (iN O m4 tyT O) ?_
  subst_vars;exact congrArg vS5 (show _=(dQ a b) from aX h7 (bL h39 O))
 refine go8 ?_;refine rtX O (iN O m4 tyT O) ?_
 subst_vars;exact congrArg vS5 (show _=(dQ a b) from aX h7 (aX h39 O))
theorem xV  :
  Ret prog 100 [] (AV [pI iS]):=by
 refine bI (N:=2) func100 O O zz_ (fun w0=>?_);refine giI ?_;obtain ⟨q0,hq0⟩:=nm ((E (Z.of 1)):I);refine go2 ?_;intro b1 hb1;refine go2 ?_;refine sC (AV [pI q0]) aK (sG (wl 1).1 (wl 1).2) O O (by subst hq0;rfl) ?_;refine go3 ?_;refine rtX O (iN O m0 tyT O) ?_;exact (by obtain rfl:=hq0.symm;rfl)
theorem yS (a:W) (b:W) :
  Ret prog 36 [.int .i64 a.1,.int .i64 b.1] (AV [pI ((mK a b).n),pI ((mK a b).d)]):=by
 refine bI (N:=10) func36 O O zz_ (fun w0=>?_);refine giI ?_;refine go2 ?_;intro b1 hb1;refine go3 ?_;refine sC (AV [pI (E (Z.of a.1))]) aK (dV a.1 a.2) O O O (go_ ?_);refine sC (AV [pI (E (Z.of b.1))]) aK (dV b.1 b.2) O O O ?_;obtain ⟨r2,hr2⟩:=nm ((cE (E (Z.of a.1)) (E (Z.of b.1))):Rt);refine sC (AV [pI r2.n,pI r2.d]) aK (lA (E (Z.of a.1)) (E (Z.of b.1))) O O (by rw [hr2]) (go3 ?_);refine rtX O (iN O m0 tyT O) ?_;exact (by subst hr2;rfl)
theorem GP (a:Rt) :
   Ret prog 31 [AV [pI a.n,pI a.d]] (.int .i64 ((lM a).1)):=by
 refine bI (N:=9) func31 O O zz_ (fun w0=>?_);refine giI ?_;refine go2 ?_;intro b1 hb1;refine go5 ?_;refine sQ (aY aK (fC a) O) O (go2 ?_);rcases bt (bD a) with h2|h2
 ·refine W_f (i3 h2) O (go4 ?_);refine sC (.int .i64 ((Z.signW a.n.dec).1)) aK (fD a.n.1 a.n.2) O O O (go3 ?_);refine rt1 ?_;exact congrArg vS6 (show _=(lM a) from bL h2 O)
 refine W_t (i4 h2) O (go4 ?_);refine rt1 ?_;exact congrArg vS6 (show _=(lM a) from aX h2 O)
end Go.Proofs.YtcjoflcajgaifaaGreatDoor
namespace Go.Kn
open Go Go.Num
section
variable {α:Type} {e:El α} {P:Program} {w0:World} {X:List Nat} {N:Nm} {S:Fr} {M M':List Blk} {d:Option Tmp} {ty:TypeId} {ps:String} {af:Array Edge} {gd:Option (Nat×Bool)} {E:TypeId}
def OwnN (w0:World) (E:TypeId) (e:El α):List Value→List (List α)→List Blk→Prop
 | [],[],L=>L=[]
 | v::vs,l::ls,L=>∃ L1 L2,L=L1++L2∧OwnG w0 E e v l L1∧OwnN w0 E e vs ls L2
 | _,_,_=>False
def SloN (w1 w:World) (E:TypeId) (e:El α) (vs:List Value) (ls:List (List α)):Prop :=
 ∃ L,OwnN w1 E e vs ls L∧(L.map Blk.b).Nodup∧∀ x∈L,w.heap[x.b]? = some (.cells x.cs.toArray x.T (0,0))
theorem OwnG.ge {v:Value} {l:List α} {L:List Blk} (h:OwnG w0 E e v l L):∀ x∈L,w0.heap.size≤x.b:=by
 rcases h with ⟨_,_,rfl⟩|⟨g,cap,cur,_,rfl,hg,_⟩
 ·intro x hx;cases hx
 intro x hx;obtain rfl:=List.mem_singleton.1 hx;exact hg
theorem OwnG.wid {w:World} {v:Value} {l:List α} {L:List Blk} (hs:w0.heap.size≤w.heap.size) (h:OwnG w E e v l L):OwnG w0 E e v l L:=by
 rcases h with h|⟨g,cap,cur,h1,h2,hg,h3⟩
 ·exact .inl h
 exact .inr ⟨g,cap,cur,h1,h2,Nat.le_trans hs hg,h3⟩
theorem OwnN.ge:∀ {vs:List Value} {ls:List (List α)} {L:List Blk},OwnN w0 E e vs ls L→∀ x∈L,w0.heap.size≤x.b
 | [],[],L,h,x,hx=>by rw [show L=[] from h] at hx;cases hx
 | v::vs,l::ls,L,⟨L1,L2,h,h1,h2⟩,x,hx=>by
  rw [h] at hx;rcases List.mem_append.1 hx with hx|hx
  ·exact h1.ge x hx
  exact OwnN.ge h2 x hx
theorem OwnN.wid {w:World} (hs:w0.heap.size≤w.heap.size):∀ {vs:List Value} {ls:List (List α)} {L:List Blk},OwnN w E e vs ls L→OwnN w0 E e vs ls L
 | [],[],_,h=>h
 | v::vs,l::ls,L,⟨L1,L2,h,h1,h2⟩=>⟨L1,L2,h,h1.wid hs,OwnN.wid hs h2⟩
theorem SloN.now {w w':World} {vs:List Value} {ls:List (List α)} (h:SloN w w' E e vs ls) (hw:Sat w0 X M w) (he:Ext w w'):∃ L,Sat w0 X (L++M) w'∧OwnN w0 E e vs ls L:=by
 obtain ⟨L,h1,h2,h3⟩:=h;have hw':=Sat.mono _ _ _ _ _ hw he;refine ⟨L,⟨hw'.os,hw'.tape,hw'.output,hw'.size,hw'.old,?_,fun y hy=>?_⟩,h1.wid hw.size⟩
 ·rw [List.map_append]
  refine List.nodup_append.2 ⟨h2,hw'.nodup,fun a ha b hb e=>?_⟩;subst e;obtain ⟨x,hx,e1⟩:=List.mem_map.1 ha;obtain ⟨y,hy,e2⟩:=List.mem_map.1 hb;have g1:=h1.ge x hx;have g2:=cT? (hw.mem y hy);omega
 rcases List.mem_append.1 hy with hy|hy
 ·exact h3 y hy
 exact hw'.mem y hy
end
open Go Go.Num
section
variable {P:Program} {w0:World} {X:List Nat} {N:Nm} {S:Fr} {M M':List Blk} {d:Option Tmp} {ty:TypeId} {ps:String} {af:Array Edge} {gd:Option (Nat×Bool)}
theorem wR {g:FuncId} {f:Operand} {xs:List Operand} {tys:Array TypeId} {args cap:List Value} {Q K:Value→List Blk→Prop} (he:iV P g=true) (hf:evO N S f=some (.func (.func g) #[] cap.toArray)) (ha:evL N S xs=some args)
  (h:∀ w,Sat w0 X M w→Calls P g (args++cap).toArray w fun e w'=>∃ v M',e = .returned v∧Sat w0 X M' w'∧KeepsOthers w w'∧Q v M') (k:∀ v M',Q v M'→K v M') :
  OpR P w0 X N ⟨d,.call { callee:=.value f,args:=xs.toArray,argTypes:=tys },ty,ps,af,gd⟩ S M K:=by
 intro w hw;unfold opw;rw [iD,vP (first:=[]) (cap:=cap) (args:=args++cap) he (bE hf) (by simpa using qE ha)];exact (h w hw).mono fun e w' ⟨v,M',h1,h2,h4,h3⟩=>⟨v,h1,h4,M',h2,k v M' h3⟩
theorem NM {n:Nat} {f:FuncId} {fn:Func} {c:Code} {args:List Value} {w:World} {Q:Value→List Blk→Prop} (hf:P.funcs[f]? = some fn) (hb:fn.body=some c) (hn:fn.ntmps=n) (hl:args.length≤n) (hw:Sat w0 X M w)
  (h:W P w0 X (pl n) c (kQ P fn w0 X (pl n) fun v M'=>∃ M2 Z,M'.Perm (M2++Z)∧Q v M2) (oM 0 args) M):Calls P f args.toArray w fun e w'=>∃ v M',e = .returned v∧Sat w0 X M' w'∧KeepsOthers w w'∧Q v M' :=
 (iE hf hb hn hl hw h).mono fun e w' ⟨v,M',h1,h2,h3,M2,Z,p,hq⟩=>⟨v,M2,h1,(h2.perm p).sub (List.sublist_append_left _ _),h3,hq⟩
theorem Frq.pc {x:Blk} {M1 R:List Blk} (f:Frq M [x] M1) (g:M1.Perm R):M.Perm (x::R):=f.trans (List.Perm.cons x g)
theorem Frq.pa {L M1 R:List Blk} (f:Frq M L M1) (g:M1.Perm R):M.Perm (L++R):=f.trans (List.Perm.append_left L g)
end
end Go.Kn
namespace Go.Num
open Go Go.Kn
end Go.Num
namespace Go.Kn
open Go Go.Num
structure Lo (σ:Type) where
 p:Option Addr
 c:Nat
 x:σ
structure El2 (σ α:Type) where
 n:Nat
 ps:Option Addr→Nat→σ→List Part
 len:∀ p c x,nI (ps p c x)=n
 e:El α
 li:σ→List α
def El2.el {σ α:Type} (D:El2 σ α):El (Lo σ):=⟨D.n,fun h=>D.ps h.p h.c h.x,fun h=>D.len _ _ _⟩
abbrev El2.v {σ α:Type} (D:El2 σ α) (h:Lo σ):Value:=.slice h.p (D.li h.x).length h.c
def elLL:El2 (List I) I:=⟨1,fun p c x=>[csl p x.length c],fun _ _ _=>rfl,elI,id⟩
section
variable {σ α:Type} {D:El2 σ α} {P:Program} {w0:World} {X:List Nat} {N:Nm} {S:Fr} {M M':List Blk} {d:Option Tmp} {ty:TypeId} {ps:String} {af:Array Edge} {gd:Option (Nat×Bool)} {v:Value} {l:List σ} {L LL:List Blk} {E:TypeId} {B:Nat}
def Slr2 (w:World) (D:El2 σ α) (v:Value) (l:List σ):Prop:=∃ H:List (Lo σ),H.map Lo.x=l∧Slr w D.el v H∧∀ h∈H,Slr w D.e (D.v h) (D.li h.x)
def SLe2 (w0:World) (X:List Nat) (M:List Blk) (D:El2 σ α) (v:Value) (l:List σ):Prop:=∃ H:List (Lo σ),H.map Lo.x=l∧SLe w0 X M D.el v H∧∀ h∈H,SLe w0 X M D.e (D.v h) (D.li h.x)
def Slf2 (B:Nat) (w:World) (D:El2 σ α) (v:Value) (l:List σ):Prop:=∃ H:List (Lo σ),H.map Lo.x=l∧Slfe B w D.el v H∧∀ h∈H,Slfe B w D.e (D.v h) (D.li h.x)
def SLf2 (w0:World) (M:List Blk) (D:El2 σ α) (v:Value) (l:List σ):Prop:=∃ H:List (Lo σ),H.map Lo.x=l∧SLfe w0 M D.el v H∧∀ h∈H,SLfe w0 M D.e (D.v h) (D.li h.x)
def Own2 (w0:World) (E:TypeId) (D:El2 σ α) (v:Value) (l:List σ) (L LL:List Blk):Prop:=∃ H:List (Lo σ),H.map Lo.x=l∧OwnG w0 E D.el v H L∧∀ h∈H,SLfe w0 LL D.e (D.v h) (D.li h.x)
theorem rQ {H:List (Lo σ)} (h:H.map Lo.x=l):H.length=l.length:=by rw [← h,List.length_map]
theorem LE {H:List (Lo σ)} {k:Nat} {x:σ} (h:H.map Lo.x=l) (hx:l[k]? = some x):∃ p c,H[k]? = some ⟨p,c,x⟩:=by
 rw [← h,List.getElem?_map] at hx
 cases hk:H[k]? with
 | none=>rw [hk] at hx;cases hx
 | some y =>
  rw [hk] at hx;obtain ⟨p,c,z⟩:=y
  cases hx
  exact ⟨p,c,rfl⟩
theorem Slr2.old (h:Slr2 w0 D v l):SLe2 w0 [] [] D v l:=by
 obtain ⟨H,h1,h2,h3⟩:=h;exact ⟨H,h1,h2.old,fun x hx=>(h3 x hx).old⟩
theorem Slr2.form {w:World} (h:Slr2 w D v l):∃ p c,v = .slice p l.length c:=by
 obtain ⟨H,h1,h2,_⟩:=h;obtain ⟨p,c,rfl⟩:=h2.form;exact ⟨p,c,by rw [rQ h1]⟩
theorem Slr2.max {w:World} (h:Slr2 w D v l):l.length≤9223372036854775807:=by
 obtain ⟨H,h1,h2,_⟩:=h;rw [← rQ h1];exact h2.max
theorem SLe2.sub (h:SLe2 w0 X M D v l) (hs:M.Sublist M'):SLe2 w0 X M' D v l:=by
 obtain ⟨H,h1,h2,h3⟩:=h;exact ⟨H,h1,h2.sub hs,fun x hx=>(h3 x hx).sub hs⟩
theorem SLf2.sub (h:SLf2 w0 M D v l) (hs:M.Sublist M'):SLf2 w0 M' D v l:=by
 obtain ⟨H,h1,h2,h3⟩:=h;exact ⟨H,h1,h2.sub hs,fun x hx=>(h3 x hx).sub hs⟩
theorem SLf2.sle (h:SLf2 w0 M D v l):SLe2 w0 X M D v l:=by
 obtain ⟨H,h1,h2,h3⟩:=h;exact ⟨H,h1,h2.sle,fun x hx=>(h3 x hx).sle⟩
theorem SLf2.max (h:SLf2 w0 M D v l):l.length≤9223372036854775807:=by
 obtain ⟨H,h1,h2,h3⟩:=h;rw [← rQ h1];exact h2.max
theorem SLf2.nil:SLf2 w0 M D (.slice none 0 0) []:=⟨[],rfl,SLfe.nil,fun _ h=>by cases h⟩
theorem SLe2.nil:SLe2 w0 X M D (.slice none 0 0) []:=SLf2.nil.sle
theorem SLe2.ap {w:World} (hw:Sat w0 X M w) (h:SLe2 w0 X M D v l):Slr2 w D v l:=by
 obtain ⟨H,h1,h2,h3⟩:=h;exact ⟨H,h1,h2 w hw,fun x hx=>h3 x hx w hw⟩
theorem Own2.form (h:Own2 w0 E D v l L LL):∃ p c,v = .slice p l.length c:=by
 obtain ⟨H,h1,h2,_⟩:=h;obtain ⟨p,c,rfl⟩:=h2.form;have:=h2.len;exact ⟨p,c,by rw [this,rQ h1]⟩
theorem Own2.max (h:Own2 w0 E D v l L LL):l.length≤9223372036854775807:=by
 obtain ⟨H,h1,h2,_⟩:=h;rw [← rQ h1];exact h2.max
theorem Own2.slf (h:Own2 w0 E D v l L LL) (h1:L.Sublist M) (h2:LL.Sublist M):SLf2 w0 M D v l:=by
 obtain ⟨H,a,b,c⟩:=h;exact ⟨H,a,b.slfe h1,fun x hx=>(c x hx).sub h2⟩
theorem Own2.sle (h:Own2 w0 E D v l L LL) (h1:L.Sublist M) (h2:LL.Sublist M):SLe2 w0 X M D v l:=(h.slf h1 h2).sle
theorem SLe2.at {k:Nat} {x:σ} (h:SLe2 w0 X M D v l) (hx:l[k]? = some x):∃ p c H,SLe w0 X M D.el v H∧H[k]? = some ⟨p,c,x⟩∧SLe w0 X M D.e (.slice p (D.li x).length c) (D.li x):=by
 obtain ⟨H,h1,h2,h3⟩:=h;obtain ⟨p,c,hk⟩:=LE h1 hx;exact ⟨p,c,H,h2,hk,h3 _ (List.mem_of_getElem? hk)⟩
theorem SLf2.at {k:Nat} {x:σ} (h:SLf2 w0 M D v l) (hx:l[k]? = some x):∃ p c H,SLfe w0 M D.el v H∧H[k]? = some ⟨p,c,x⟩∧SLfe w0 M D.e (.slice p (D.li x).length c) (D.li x):=by
 obtain ⟨H,h1,h2,h3⟩:=h;obtain ⟨p,c,hk⟩:=LE h1 hx;exact ⟨p,c,H,h2,hk,h3 _ (List.mem_of_getElem? hk)⟩
theorem Own2.at {k:Nat} {x:σ} (h:Own2 w0 E D v l L LL) (hx:l[k]? = some x):∃ p c H,OwnG w0 E D.el v H L∧H[k]? = some ⟨p,c,x⟩∧SLfe w0 LL D.e (.slice p (D.li x).length c) (D.li x):=by
 obtain ⟨H,h1,h2,h3⟩:=h;obtain ⟨p,c,hk⟩:=LE h1 hx;exact ⟨p,c,H,h2,hk,h3 _ (List.mem_of_getElem? hk)⟩
theorem R0 {T:TypeId} {x:Operand} {s:Nat} (hT:iO P T=some s) (hx:evO N S x=some v) (hv:SLe2 w0 X M D v l):OpQ P w0 X N ⟨d,.call { callee:=.builtin .len,args:=#[x],argTypes:=#[T] },ty,ps,af,gd⟩ S M (.int .i64 (l.length:Nat)):=by
 obtain ⟨H,h1,h2,_⟩:=hv;rw [← rQ h1];exact bT hT hx h2
theorem LX {T:TypeId} {x y:Operand} {k:Nat} {i:IntKind} {t:Int} (hT:iO P T=some D.n) (hx:evO N S x=some v) (hy:evO N S y=some (.int i t)) (ht:t=(k:Int)) (hv:SLe2 w0 X M D v l) (hk:k<l.length) :
  OpQ P w0 X N ⟨d,.indexAddr T x y,ty,ps,af,gd⟩ S M (.pointer (some (slb v (k*D.n)))):=by
 obtain ⟨H,h1,h2,_⟩:=hv;subst ht;exact aM (e:=D.el) hT hx hy h2 (by rw [rQ h1];exact hk)
theorem Own2.one {b c:Nat} {a:Option Addr} {x:σ} {qs:List Part} (hb:w0.heap.size≤b) (hq:qs=D.ps a c x) (hx:SLfe w0 LL D.e (.slice a (D.li x).length c) (D.li x)):Own2 w0 E D (.slice (some ⟨b,0,none⟩) 1 1) [x] [⟨b,E,aW qs⟩] LL :=
 ⟨[⟨a,c,x⟩],rfl,OwnG.lit (e:=D.el) hb O dd_ (by rw [hq];simp [El2.el]),fun h hh=>by
  obtain rfl:=List.mem_singleton.1 hh
  exact hx⟩
theorem VZ {T:TypeId} {x y:Operand} {u:Value} {a:Option Addr} {c0:Nat} {z:σ} {L1 R:List Blk} {K:Value→List Blk→Prop} (bytes:Nat) (hT:P.underlying T=some (.slice E)) (hE:SB P E D.el.n bytes=true) (h0:0<D.el.n) (hx:evO N S x=some v) (hy:evO N S y=some u)
  (hv:Own2 w0 E D v l L LL) (hu:SLe w0 X M D.el u [⟨a,c0,z⟩]) (hz:SLfe w0 L1 D.e (.slice a (D.li z).length c0) (D.li z)) (hs:M.Perm (L++(L1++(LL++R)))) (hn:(l.length+1)*bytes≤140737488355328) (h8:0<bytes)
  (k:∀ p c L' LL',Own2 w0 E D (.slice p (l++[z]).length c) (l++[z]) L' LL'→L1.Sublist LL'→LL.Sublist LL'→K (.slice p (l++[z]).length c) (L'++(LL'++R))) :
  OpR P w0 X N ⟨d,.call { callee:=.builtin .append,args:=#[x,y],argTypes:=#[T,T] },ty,ps,af,gd⟩ S M K:=by
 obtain ⟨H,h1,h2,h3⟩:=hv;refine dM (e:=D.el) (l:=H) (m:=[⟨a,c0,z⟩]) (L:=L) (M1:=(L1++LL)++R) bytes hT hE h0 hx hy h2 hu (hs.trans (by rw [List.append_assoc])) (by rw [rQ h1];exact hn) h8 fun p c L' ho=>?_
 have e1:(H++[(⟨a,c0,z⟩:Lo σ)]).map Lo.x=l++[z]:=by rw [List.map_append,h1];rfl
 have e2:=rQ e1;rw [e2] at ho ⊢;refine k p c L' (L1++LL) ⟨_,e1,ho,fun h hh=>?_⟩ (List.sublist_append_left _ _) (List.sublist_append_right _ _);rcases List.mem_append.1 hh with hh|hh
 ·exact (h3 h hh).sub (List.sublist_append_right _ _)
 obtain rfl:=List.mem_singleton.1 hh;exact hz.sub (List.sublist_append_left _ _)
theorem GA (w:World) (B:Nat):∀ n:Nat,∃ L:List Blk,(L.map Blk.b).Nodup∧(∀ x∈L,(B≤x.b∧x.b<B+n)∧w.heap[x.b]? = some (.cells x.cs.toArray x.T (0,0)))∧∀ b T (cs:List Value),B≤b→b<B+n→w.heap[b]? = some (.cells cs.toArray T (0,0))→(⟨b,T,cs⟩:Blk)∈L
 | 0=>⟨[],List.nodup_nil,fun x hx=>(by cases hx),fun b T cs h1 h2 _=>oo_⟩
 | n+1=>by
  obtain ⟨L,h1,h2,h3⟩:=GA w B n
  by_cases h:∃ (T:TypeId) (cs:List Value),w.heap[B+n]? = some (.cells cs.toArray T (0,0))
  ·obtain ⟨T,cs,h⟩:=h
   refine ⟨⟨B+n,T,cs⟩::L,?_,fun x hx=>?_,fun b T' cs' b1 b2 hb=>?_⟩
   ·rw [List.map_cons,List.nodup_cons]
    refine ⟨fun hm=>?_,h1⟩;obtain ⟨y,hy,e⟩:=List.mem_map.1 hm;have h4:=(h2 y hy).1;have e':y.b=B+n:=e;omega
   ·rcases List.mem_cons.1 hx with rfl|hx
    ·exact ⟨⟨Nat.le_add_right _ _,by show B+n<B+(n+1);omega⟩,h⟩
    exact ⟨⟨(h2 x hx).1.1,by have:=(h2 x hx).1.2;omega⟩,(h2 x hx).2⟩
   by_cases hn:b=B+n
   ·subst hn
    rw [h] at hb
    injection hb with hb
    injection hb with e1 e2
    subst e2
    obtain rfl:cs=cs':=by simpa using e1
    exact List.mem_cons_self
   exact List.mem_cons_of_mem _ (h3 b T' cs' b1 oo_ hb)
  refine ⟨L,h1,fun x hx=>⟨⟨(h2 x hx).1.1,by have:=(h2 x hx).1.2;omega⟩,(h2 x hx).2⟩,fun b T' cs' b1 b2 hb=>?_⟩
  by_cases hn:b=B+n
  ·subst hn;exact absurd ⟨T',cs',hb⟩ h
  exact h3 b T' cs' b1 oo_ hb
theorem Slfe.all {α:Type} {e:El α} {v:Value} {l:List α} {w:World} {L:List Blk} (h:Slfe B w e v l) (hB:w0.heap.size≤B) (hL:∀ b T (cs:List Value),B≤b→b<w.heap.size→w.heap[b]? = some (.cells cs.toArray T (0,0))→(⟨b,T,cs⟩:Blk)∈L):SLfe w0 L e v l:=by
 obtain ⟨p,c,hv,hc,hm,h⟩:=h;refine ⟨p,c,hv,hc,hm,?_⟩;rcases h with h|⟨b,off,T,cs,hp,hb,hh,ht⟩
 ·exact .inl h
 exact .inr ⟨b,off,T,cs,hp,Nat.le_trans hB hb,hL b T cs hb (cT? hh) hh,ht⟩
theorem Slf2.now {w w':World} (h:Slf2 w.heap.size w' D v l) (hw:Sat w0 X M w) (he:Ext w w'):∃ p c L,v = .slice p l.length c∧Sat w0 X (L++M) w'∧SLf2 w0 L D (.slice p l.length c) l:=by
 have hw':=Sat.mono _ _ _ _ _ hw he;obtain ⟨H,h1,h2,h3⟩:=h;obtain ⟨L,n1,n2,n3⟩:=GA w' w.heap.size (w'.heap.size - w.heap.size);have hL:∀ b T (cs:List Value),w.heap.size≤b→b<w'.heap.size→w'.heap[b]? = some (.cells cs.toArray T (0,0))→(⟨b,T,cs⟩:Blk)∈L:=fun b T cs b1 b2=>n3 b T cs b1 oo_;have g:=h2.all hw.size hL;obtain ⟨p,c,rfl,hc⟩:=id g;have el:=rQ h1;refine ⟨p,c,L,by rw [el],⟨hw'.os,hw'.tape,hw'.output,hw'.size,hw'.old,?_,fun y hy=>?_⟩,H,h1,by rw [← el];exact g,fun x hx=>(h3 x hx).all hw.size hL⟩
 ·rw [List.map_append]
  refine List.nodup_append.2 ⟨n1,hw'.nodup,fun a ha b hb e=>?_⟩;subst e;obtain ⟨x,hx,e1⟩:=List.mem_map.1 ha;obtain ⟨y,hy,e2⟩:=List.mem_map.1 hb;have g1:=(n2 x hx).1.1;have g2:=cT? (hw.mem y hy);omega
 rcases List.mem_append.1 hy with hy|hy
 ·exact (n2 y hy).2
 exact hw'.mem y hy
theorem SLf2.slf {w:World} (h:SLf2 w0 M D v l) (hw:Sat w0 X M w):Slf2 w0.heap.size w D v l:=by
 obtain ⟨H,h1,h2,h3⟩:=h;exact ⟨H,h1,h2.slfe hw,fun x hx=>(h3 x hx).slfe hw⟩
theorem NL {n:Nat} {f:FuncId} {fn:Func} {c:Code} {args:List Value} {w:World} (R:Value→Value) (hf:P.funcs[f]? = some fn) (hb:fn.body=some c) (hn:fn.ntmps=n) (hl:args.length≤n)
  (h:W P w [] (pl n) c (kQ P fn w [] (pl n) fun r M=>∃ v,r=R v∧SLf2 w M D v l) (oM 0 args) []):Calls P f args.toArray w fun f w'=>∃ v,f = .returned (R v)∧Ext w w'∧Slf2 w.heap.size w' D v l :=
 (iE hf hb hn hl (Sat.start w []) h).mono fun f w' ⟨r,M',he,hs,_,v,hr,hu⟩=>⟨v,by rw [he,hr],hs.ext,hu.slf hs⟩
theorem T5 {g:FuncId} {xs:List Operand} {tys:Array TypeId} {args:List Value} {K:Value→List Blk→Prop} (R:Value→Value) (he:iV P g=true) (ha:evL N S xs=some args)
  (h:∀ w,Sat w0 X M w→Calls P g args.toArray w fun f w'=>∃ v,f = .returned (R v)∧Ext w w'∧Slf2 w.heap.size w' D v l) (k:∀ p c L,SLf2 w0 L D (.slice p l.length c) l→K (R (.slice p l.length c)) (L++M)):OpR P w0 X N ⟨d,.call { callee:=.value (.func g),args:=xs.toArray,argTypes:=tys },ty,ps,af,gd⟩ S M K :=
 yR he ha fun w hw=>(h w hw).mono fun _ w' ⟨v,h1,h2,h3⟩=>by
  obtain ⟨p,c,L,rfl,hs,hv⟩:=h3.now hw h2;exact ⟨_,L++M,h1,hs,Ext.keeps h2,k p c L hv⟩
theorem SLe2.atLL {v:Value} {l:List (List I)} {k:Nat} {x:List I} (h:SLe2 w0 X M elLL v l) (hx:l[k]? = some x):∃ p c H,SLe w0 X M elLL.el v H∧H[k]? = some ⟨p,c,x⟩∧SLe w0 X M elI (.slice p x.length c) x:=h.at hx
theorem SLf2.atLL {v:Value} {l:List (List I)} {k:Nat} {x:List I} (h:SLf2 w0 M elLL v l) (hx:l[k]? = some x):∃ p c H,SLfe w0 M elLL.el v H∧H[k]? = some ⟨p,c,x⟩∧SLfe w0 M elI (.slice p x.length c) x:=h.at hx
theorem Own2.atLL {v:Value} {l:List (List I)} {k:Nat} {x:List I} (h:Own2 w0 E elLL v l L LL) (hx:l[k]? = some x):∃ p c H,OwnG w0 E elLL.el v H L∧H[k]? = some ⟨p,c,x⟩∧SLfe w0 LL elI (.slice p x.length c) x:=h.at hx
theorem Frq.po {L M1 A Z:List Blk} (f:Frq M L M1) (g:M1.Perm (A++Z)):M.Perm ((L++A)++Z):=by rw [List.append_assoc];exact f.pa g
theorem Frq.pz {L Z:List Blk} (f:Frq M L Z):M.Perm ((L++[])++Z):=by rw [List.append_nil];exact f
end
end Go.Kn
namespace Go.Num
class Rg (α:Type) [Add α] [Mul α] [OfNat α 0]:Prop where
 aa:∀ a b c:α,a+b+c=a+(b+c)
 ac:∀ a b:α,a+b=b+a
 a0:∀ a:α,a+0=a
 ma:∀ a b c:α,a*b*c=a*(b*c)
 mc:∀ a b:α,a*b=b*a
 md:∀ a b c:α,a*(b+c)=a*b+a*c
 m0:∀ a:α,a*0=0
instance:Rg Int:=⟨Int.add_assoc,Int.add_comm,Int.add_zero,Int.mul_assoc,Int.mul_comm,Int.mul_add,Int.mul_zero⟩
instance:Rg Rat:=⟨Rat.add_assoc,Rat.add_comm,Rat.add_zero,Rat.mul_assoc,Rat.mul_comm,Rat.mul_add,Rat.mul_zero⟩
theorem Rg.za {α:Type} [Add α] [Mul α] [OfNat α 0] [Rg α] (a:α):0+a=a:=by rw [Rg.ac,Rg.a0]
theorem Rg.zm {α:Type} [Add α] [Mul α] [OfNat α 0] [Rg α] (a:α):0*a=0:=by rw [Rg.mc,Rg.m0]
def fF {α:Type} [Add α] [OfNat α 0] (f:Nat→α):Nat→α
 | 0=>0
 | n+1=>fF f n+f n
theorem fO {α:Type} [Add α] [OfNat α 0] {f g:Nat→α}:∀ {n:Nat},(∀ i,i<n→f i=g i)→fF f n=fF g n
 | 0,_=>rfl
 | n+1,h=>by simp only [fF];rw [fO fun i hi=>h i (by omega),h n (by omega)]
theorem jL {α:Type} [Add α] [Mul α] [OfNat α 0] [Rg α] {f:Nat→α}:∀ {n:Nat},(∀ i,i<n→f i=0)→fF f n=0
 | 0,_=>rfl
 | n+1,h=>by simp only [fF];rw [jL fun i hi=>h i (by omega),h n (by omega),Rg.a0]
theorem yZ {α:Type} [Add α] [Mul α] [OfNat α 0] [Rg α] (f g:Nat→α):∀ n:Nat,fF (fun i=>f i+g i) n=fF f n+fF g n
 | 0=>(Rg.a0 _).symm
 | n+1=>by
  simp only [fF];rw [yZ f g n,Rg.aa,Rg.aa,← Rg.aa (fF g n),Rg.ac (fF g n) (f n),Rg.aa]
theorem qY {α:Type} [Add α] [Mul α] [OfNat α 0] [Rg α] (c:α) (f:Nat→α):∀ n:Nat,fF (fun i=>c*f i) n=c*fF f n
 | 0=>(Rg.m0 _).symm
 | n+1=>by simp only [fF];rw [qY c f n,Rg.md]
theorem C9 {α:Type} [Add α] [Mul α] [OfNat α 0] [Rg α] (c:α) (f:Nat→α) (n:Nat):fF (fun i=>f i*c) n=fF f n*c:=by
 rw [Rg.mc _ c,← qY];exact fO fun i _=>Rg.mc _ _
theorem wZ {α:Type} [Add α] [Mul α] [OfNat α 0] [Rg α] (f:Nat→α):∀ n:Nat,fF f (n+1)=f 0+fF (fun i=>f (i+1)) n
 | 0=>by simp only [fF];rw [Rg.ac]
 | n+1=>by rw [fF,wZ f n,Rg.aa];rfl
theorem PV {α:Type} [Add α] [Mul α] [OfNat α 0] [Rg α] (f:Nat→α):∀ n:Nat,fF f n=fF (fun i=>f (n - 1 - i)) n
 | 0=>rfl
 | n+1=>by
  rw [wZ (fun i=>f (n+1 - 1 - i)),fF,Rg.ac,PV f n];rw [show n+1 - 1 - 0=n by omega]
  congr 1
  exact fO fun i hi=>congrArg f (by omega)
theorem nB {α:Type} [Add α] [Mul α] [OfNat α 0] [Rg α] {f:Nat→α} {n:Nat} (h:∀ i,n≤i→f i=0):∀ m:Nat,n≤m→fF f m=fF f n
 | 0,hm=>by rw [show n=0 by omega]
 | m+1,hm=>by
  rcases Nat.lt_or_ge n (m+1) with g|g
  ·rw [fF,h m (by omega),Rg.a0,nB h m (by omega)]
  rw [show n=m+1 by omega]
theorem G9 {α:Type} [Add α] [Mul α] [OfNat α 0] [Rg α] {f:Nat→α} {a:Nat} (h:∀ i,i≠a→f i=0) {n:Nat} (hn:a<n):fF f n=f a:=by
 rw [nB (n:=a+1) (fun i hi=>h i (by omega)) n hn,fF,jL fun i hi=>h i (by omega),Rg.za]
theorem HA {α:Type} [Add α] [Mul α] [OfNat α 0] [Rg α] (f:Nat→Nat→α):∀ n:Nat,fF (fun k=>fF (fun i=>f i (k - i)) (k+1)) n=fF (fun i=>fF (fun j=>f i j) (n - i)) n
 | 0=>rfl
 | n+1=>by
  rw [fF,HA f n]
  rw [fO (f:=fun i=>fF (fun j=>f i j) (n+1 - i)) (g:=fun i=>fF (fun j=>f i j) (n - i)+f i (n - i)) (fun i hi=>by
   rw [show n+1 - i=n - i+1 by omega];rfl)]
  rw [yZ]
  congr 1
  rw [fF,Nat.sub_self,fF,Rg.a0]
def conv {α:Type} [Add α] [Mul α] [OfNat α 0] (c d:Nat→α) (k:Nat):α:=fF (fun i=>c i*d (k - i)) (k+1)
theorem rF {α:Type} [Add α] [Mul α] [OfNat α 0] [Rg α] (c d:Nat→α):conv c d=conv d c:=by
 funext k
 unfold conv;rw [PV];refine fO fun i hi=>?_;rw [Rg.mc,show k - (k+1 - 1 - i)=i by omega,show k+1 - 1 - i=k - i by omega]
theorem A8 {α:Type} [Add α] [Mul α] [OfNat α 0] [Rg α] (c d e:Nat→α):conv c (fun i=>d i+e i)=fun k=>conv c d k+conv c e k:=by
 funext k
 unfold conv;rw [← yZ];exact fO fun i _=>Rg.md _ _ _
theorem XY {α:Type} [Add α] [Mul α] [OfNat α 0] [Rg α] (a:α) (c d:Nat→α):conv (fun i=>a*c i) d=fun k=>a*conv c d k:=by
 funext k
 unfold conv;rw [← qY];exact fO fun i _=>Rg.ma _ _ _
theorem qN {α:Type} [Add α] [Mul α] [OfNat α 0] [Rg α] (a:α) (c d:Nat→α):conv c (fun i=>a*d i)=fun k=>a*conv c d k:=by
 rw [rF,XY,rF]
theorem FE {α:Type} [Add α] [Mul α] [OfNat α 0] [Rg α] (c d e:Nat→α):conv (conv c d) e=conv c (conv d e):=by
 funext k
 unfold conv;have h:=HA (fun j m=>c j*(d m*e (k - j - m))) (k+1);refine Eq.trans (fO fun i hi=>?_) (h.trans (fO fun i hi=>?_))
 ·rw [← C9]
  refine fO fun j hj=>?_;rw [Rg.ma,show k - j - (i - j)=k - i by omega]
 rw [qY,show k+1 - i=k - i+1 by omega]
theorem kU {α:Type} [Add α] [Mul α] [OfNat α 0] [Rg α] {c d:Nat→α} {n m:Nat} (hc:∀ i,n≤i→c i=0) (hd:∀ i,m≤i→d i=0) (k:Nat) (hk:n+m≤k+1):conv c d k=0:=by
 refine jL fun i hi=>?_;rcases Nat.lt_or_ge i n with h|h
 ·rw [hd _ (by omega),Rg.m0]
 rw [hc _ h,Rg.zm]
theorem mW {α:Type} [Add α] [Mul α] [OfNat α 0] [Rg α] {c d:Nat→α} {n m:Nat} (hc:∀ i,n<i→c i=0) (hd:∀ i,m<i→d i=0):conv c d (n+m)=c n*d m:=by
 unfold conv;rw [G9 (a:=n) (fun i hi=>?_) (by omega),show n+m - n=m by omega];rcases Nat.lt_or_ge n i with h|h
 ·rw [hc _ h,Rg.zm]
 rw [hd _ (by omega),Rg.m0]
def cR (c:Nat→Int) (i:Nat):Rat:=(c i:Rat)
theorem HB (f:Nat→Int):∀ n:Nat,((fF f n:Int):Rat)=fF (fun i=>(f i:Rat)) n
 | 0=>rfl
 | n+1=>by simp only [fF];rw [Rat.intCast_add,HB f n]
theorem CF (c d:Nat→Int):cR (conv c d)=conv (cR c) (cR d):=by
 funext k
 unfold cR conv;rw [HB];exact fO fun i _=>Rat.intCast_mul ..
theorem zL (q:Rat):q*((q.den:Int):Rat)=((q.num:Int):Rat):=by
 have h:=Rat.num_divInt_den q;rw [Rat.divInt_eq_div,Rat.div_def] at h;have h0:((q.den:Int):Rat)≠0:=fun h=>q.den_nz (by have:=Rat.intCast_eq_zero_iff.1 h;omega)
 have e:(((q.num:Int):Rat)*((q.den:Int):Rat)⁻¹)*((q.den:Int):Rat)=((q.num:Int):Rat):=by rw [Rat.mul_assoc,Rat.inv_mul_cancel _ h0,Rat.mul_one]
 rw [h] at e;exact e
end Go.Num
