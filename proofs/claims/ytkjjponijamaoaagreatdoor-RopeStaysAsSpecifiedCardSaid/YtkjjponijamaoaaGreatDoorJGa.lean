/- Lemmas: what they ask stands in their statements. -/
import Derived.Test.YtkjjponijamaoaaGreatDoorJPa
import Derived.Test.YtkjjponijamaoaaGreatDoorJWd
set_option linter.unusedSimpArgs false
set_option linter.unusedVariables false
set_option maxHeartbeats 8000000
set_option maxRecDepth 20000
namespace Go.Proofs.YtkjjponijamaoaaGreatDoor
open Go.Kn Go.Num Tryz
attribute [local irreducible] Go.Kn.W WL PL OpQ OpR OpS
theorem y3  :
  Ret prog 131 [] (AV [pI F_ratio_one]):=by
 refine bG (N:=2) func131 O O zz_ (fun w0=>?_);refine giI ?_;obtain ⟨q0,hq0⟩:=nm ((E (Z.of 1)):I);refine go2 ?_;intro b1 hb1;refine go2 ?_;refine sC (AV [pI q0]) aB (cU (wl 1).1 (wl 1).2) O O (by subst hq0;rfl) ?_;refine go3 ?_;refine rtX O (dP O m0 tyT O) ?_;exact (by obtain rfl:=hq0.symm;rfl)
theorem o3  :
  Ret prog 127 [] (AV [pI tQ.n,pI tQ.d]):=by
 refine bG (N:=4) func127 O O zz_ (fun w0=>?_);refine giI ?_;obtain ⟨q0,hq0⟩:=nm ((E Z.bad):I);obtain ⟨q1,hq1⟩:=nm (F_ratio_one:I);refine go2 ?_;intro b1 hb1;refine go2 ?_;refine sC (AV [pI q0]) aB fS O O (by subst hq0;rfl) (sC (AV [pI q1]) aB y3 O O (by subst hq1;rfl) (go4 ?_));refine rtX O (dP O m0 tyT O) ?_;exact (by subst_vars;rfl)
theorem u4 (a:I) :
    Ret prog 153 [AV [pI a]] (.bool (mG a)):=by
 refine bG (N:=10) func153 O O zz_ (fun w0=>?_);refine giI ?_;refine go2 ?_;intro b1 hb1;refine go2 ?_;refine gJv (rg [] 2 8) [(2,.bool (!a.1.bad&&a.1.valid))] (fun K1 J1=>?_) ?_
 ·refine go4 ?_;rcases bt a.1.bad with h3|h3
  ·refine sB (fZ h3) O (go5 ?_);refine J1 _ _ pp_ s0 (bH (IG h3))
  refine sB (iX h3) O (go_ ?_);refine sC (.bool a.1.valid) aB (tK a.1 a.2) O O O (go3 ?_);refine J1 _ _ pp_ s0 (bH (IF h3 O))
 intro g4;refine go_ ?_;refine rt1 ?_;exact (by rfl)
theorem eP (a:Rt) :
    Ret prog 76 [AV [pI a.n,pI a.d]] (.bool (aS a)):=by
 refine bG (N:=26) func76 O O zz_ (fun w0=>?_);refine giI ?_;refine go2 ?_;intro b1 hb1;refine go2 ?_;refine gJv (rg [] 2 24) [(2,.bool ((mG a.n)&&((mG a.d)&&(decide (0<(Z.signW a.d.dec).1)&&decide ((E (Z.gcd a.n.dec a.d.dec))=F_ratio_one)))))] (fun K1 J1=>?_) ?_
 ·refine go3 ?_;refine sQ (bE aB (u4 a.n) O) O ?_;refine sBB O (fun h5=>?_) (fun h5=>?_)
  ·refine go2 ?_;refine sQ (bE aB (u4 a.d) O) O (go_ ?_);refine sBB O (fun h6=>?_) (fun h6=>?_)
   ·refine go2 ?_;refine sC (.int .i64 ((Z.signW a.d.dec).1)) aB (iH a.d.1 a.d.2) O O O (go2 ?_);refine sBB O (fun h7=>?_) (fun h7=>?_)
    ·refine go4 ?_;refine sC (AV [pI (E (Z.gcd a.n.dec a.d.dec))]) aB (qO a.n.1 a.d.1 a.n.2 a.d.2) O O O (sQ (bE aB y3  rfl) O ?_);refine sQ (tM (r:=decide ((E (Z.gcd a.n.dec a.d.dec))=F_ratio_one)) O O (mS 8 dd_ KN KZ (lH eE) (lH eE) (pX kL))) O (go3 ?_);refine J1 _ _ pp_ s0 (bH (mW h5 (mW h6 (mW h7 O))))
    refine j0 ?_;refine J1 _ _ pp_ s0 (bH (mW h5 (mW h6 (pU h7))))
   refine QY ?_;refine J1 _ _ pp_ s0 (bH (mW h5 (pU h6)))
  refine MS ?_;refine J1 _ _ pp_ s0 (bH (pU h5))
 intro g8;refine go_ ?_;refine rt1 ?_;exact (by rfl)
theorem qX (a:I) (b:I) :
    Ret prog 129 [AV [pI a],AV [pI b]] (AV [pI ((cT a b).n),pI ((cT a b).d)]):=by
 refine bG (N:=35) func129 O O zz_ (fun w0=>?_);refine giI ?_;refine go2 ?_;intro b1 hb1;refine go_ ?_;intro b2 hb2;refine go_ ?_;intro b3 hb3;refine go2 ?_;refine gJv (rg [] 6 13) [(18,.bool (!(mG a)||(!(mG b)||((Z.signW b.dec).1==0))))] (fun K2 J2=>?_) ?_
 ·refine go2 ?_;refine sQ (bE aB (u4 a) O) O (go_ ?_);rcases bt (mG a) with h6|h6
  ·refine sB (fZ h6) O (go_ ?_);refine sQ (bE aB (u4 b) O) O (go2 ?_);rcases bt (mG b) with h7|h7
   ·refine sB (fZ h7) O (go_ ?_);refine sC (.int .i64 ((Z.signW b.dec).1)) aB (iH b.1 b.2) O O O (go3 ?_);refine J2 _ _ pp_ s0 (bH (lE h6 (lE h7 O)))
   refine sB (iX h7) O (go5 ?_);refine J2 _ _ pp_ s0 (bH (lE h6 (oG h7)))
  refine sB (iX h6) O (j0 ?_);refine J2 _ _ pp_ s0 (bH (oG h6))
 intro g8;refine aH _ O (fun h9=>?_) (fun h9=>?_)
 ·refine go_ ?_;refine sQ (bE aB o3  rfl) O (go3 ?_);refine rtX O (dP O m0 tyT O) ?_;exact congrArg vS7 (show _=(cT a b) from aX h9 O)
 refine go4 ?_;refine sC (AV [pI (E (Z.gcd a.dec b.dec))]) aB (qO a.1 b.1 a.2 b.2) O O O (go_ ?_);intro b10 hb10;refine go5 ?_;refine sC (.int .i64 ((Z.signW b.dec).1)) aB (iH b.1 b.2) O O O (go2 ?_);refine aH _ O (fun h11=>?_) (fun h11=>?_)
 ·refine go2 ?_;refine sC (AV [pI (E (Z.neg (Z.gcd a.dec b.dec)))]) aB (y9 (E (Z.gcd a.dec b.dec)).1 (E (Z.gcd a.dec b.dec)).2) O O (cg1 (fun p=>AV [pI (E (Z.neg p))]) (eQ _)) (go2 ?_);refine qM (sk (sd (sk (sk s0)))) 8 [7] [7] (go2 ?_);refine pC (AV [pI (E (Z.quo a.dec (Z.neg (Z.gcd a.dec b.dec))))]) aB (gZ a.1 (E (Z.neg (Z.gcd a.dec b.dec))).1 a.2 (E (Z.neg (Z.gcd a.dec b.dec))).2) O O (cg2 (fun p q=>AV [pI (E (Z.quo p q))]) O (eQ _)) (go2 ?_);refine pC (AV [pI (E (Z.quo b.dec (Z.neg (Z.gcd a.dec b.dec))))]) aB (gZ b.1 (E (Z.neg (Z.gcd a.dec b.dec))).1 b.2 (E (Z.neg (Z.gcd a.dec b.dec))).2) O O (cg2 (fun p q=>AV [pI (E (Z.quo p q))]) O (eQ _)) (pQ O (nV zpT plT O (.cons [pI (E (Z.quo a.dec (Z.neg (Z.gcd a.dec b.dec))))] [pI (E (Z.quo a.dec (Z.neg (Z.gcd a.dec b.dec)))),pI I0] O O O O (.cons [pI (E (Z.quo b.dec (Z.neg (Z.gcd a.dec b.dec))))] [pI (E (Z.quo a.dec (Z.neg (Z.gcd a.dec b.dec)))),pI (E (Z.quo b.dec (Z.neg (Z.gcd a.dec b.dec))))] O O O O (.nil _)))) (go3 ?_));refine rtX O (dP O m1 tyT O) ?_;exact congrArg vS7 (show _=(cT a b) from aJ h9 (aX h11 O))
 refine go_ ?_;refine qM (sk (sd (sk (sk s0)))) 8 [7] [7] (go2 ?_);refine pC (AV [pI (E (Z.quo a.dec (Z.gcd a.dec b.dec)))]) aB (gZ a.1 (E (Z.gcd a.dec b.dec)).1 a.2 (E (Z.gcd a.dec b.dec)).2) O O (cg2 (fun p q=>AV [pI (E (Z.quo p q))]) O (eQ _)) (go2 ?_);refine pC (AV [pI (E (Z.quo b.dec (Z.gcd a.dec b.dec)))]) aB (gZ b.1 (E (Z.gcd a.dec b.dec)).1 b.2 (E (Z.gcd a.dec b.dec)).2) O O (cg2 (fun p q=>AV [pI (E (Z.quo p q))]) O (eQ _)) (pQ O (nV zpT plT O (.cons [pI (E (Z.quo a.dec (Z.gcd a.dec b.dec)))] [pI (E (Z.quo a.dec (Z.gcd a.dec b.dec))),pI I0] O O O O (.cons [pI (E (Z.quo b.dec (Z.gcd a.dec b.dec)))] [pI (E (Z.quo a.dec (Z.gcd a.dec b.dec))),pI (E (Z.quo b.dec (Z.gcd a.dec b.dec)))] O O O O (.nil _)))) (go3 ?_));refine rtX O (dP O m1 tyT O) ?_;exact congrArg vS7 (show _=(cT a b) from aJ h9 (aJ h11 O))
theorem BA (a:I) :
  Ret prog 55 [AV [pI a]] (AV [pI ((n5 a).n),pI ((n5 a).d)]):=by
 refine bG (N:=6) func55 O O zz_ (fun w0=>?_);refine giI ?_;refine go2 ?_;intro b1 hb1;refine go_ ?_;intro b2 hb2;refine go_ ?_;refine qM (sd (sk s0)) 4 [3] [3] (go_ ?_);refine pQ O (bE aB y3  rfl) (pQ O (bE aB (qX a F_ratio_one) O) (go3 ?_));refine rtX O (dP O m0 tyT O) ?_;exact (by rfl)
theorem lK (a:W) :
  Ret prog 50 [.int .i64 a.1] (AV [pI ((bQ a).n),pI ((bQ a).d)]):=by
 refine bG (N:=6) func50 O O zz_ (fun w0=>?_);refine giI ?_;refine go2 ?_;intro b1 hb1;refine go3 ?_;refine sC (AV [pI (E (Z.of a.1))]) aB (cU a.1 a.2) O O O (sQ (bE aB (BA (E (Z.of a.1))) O) O (go3 ?_));refine rtX O (dP O m0 tyT O) ?_;exact (by rfl)
theorem JT (a:Rt) :
   Ret prog 205 [AV [pI a.n,pI a.d]] (AV [pI ((rC a).n),pI ((rC a).d)]):=by
 refine bG (N:=13) func205 O O zz_ (fun w0=>?_);refine giI ?_;refine go2 ?_;intro b1 hb1;refine go_ ?_;intro b2 hb2;refine go4 ?_;refine sQ (bE aB (eP a) O) O (go2 ?_);rcases bt (aS a) with h3|h3
 ·refine W_f (fZ h3) O (go_ ?_);refine qM (sd (sk s0)) 7 [6] [6] (go2 ?_);refine pC (AV [pI (E (Z.neg a.n.dec))]) aB (y9 a.n.1 a.n.2) O O O (go2 ?_);refine pQ O (nV zpT plT O (.cons [pI (E (Z.neg a.n.dec))] [pI (E (Z.neg a.n.dec)),pI I0] O O O O (.cons [pI a.d] [pI (E (Z.neg a.n.dec)),pI a.d] O O O O (.nil _)))) (go3 ?_);refine rtX O (dP O m0 tyT O) ?_;exact congrArg vS7 (show _=(rC a) from aX h3 O)
 refine W_t (iX h3) O (go_ ?_);refine sQ (bE aB o3  rfl) O (go3 ?_);refine rtX O (dP O m0 tyT O) ?_;exact congrArg vS7 (show _=(rC a) from aJ h3 O)
theorem o2 (a:Rt) (b:Rt) :
    Ret prog 44 [AV [pI a.n,pI a.d],AV [pI b.n,pI b.d]] (AV [pI ((jH a b).n),pI ((jH a b).d)]):=by
 refine bG (N:=44) func44 O O zz_ (fun w0=>?_);refine giI ?_;refine go2 ?_;intro b1 hb1;refine go_ ?_;intro b2 hb2;refine go_ ?_;intro b3 hb3;refine go2 ?_;refine gJv (rg [] 8 8) [(15,.bool (!(aS a)||(!(aS b))))] (fun K2 J2=>?_) ?_
 ·refine go2 ?_;refine sQ (bE aB (eP a) O) O (go_ ?_);rcases bt (aS a) with h5|h5
  ·refine sB (fZ h5) O (go_ ?_);refine sQ (bE aB (eP b) O) O (go3 ?_);refine J2 _ _ pp_ s0 (bH (lE h5 O))
  refine sB (iX h5) O (go5 ?_);refine J2 _ _ pp_ s0 (bH (oG h5))
 intro g6;refine aH _ O (fun h7=>?_) (fun h7=>?_)
 ·refine go_ ?_;refine sQ (bE aB o3  rfl) O (go3 ?_);refine rtX O (dP O m0 tyT O) ?_;exact congrArg vS7 (show _=(jH a b) from aX h7 O)
 refine go6 ?_;refine sC (AV [pI (E (Z.gcd a.d.dec b.d.dec))]) aB (qO a.d.1 b.d.1 a.d.2 b.d.2) O O O (go_ ?_);intro b8 hb8;refine go2 ?_;refine gDs (sk (sk (sk (sk s0)))) (.quiet 0 [1,3,7,10,11] (.quiet 1 [3,7,10,11] (.quiet 2 [3,7,10,11] (.quiet 3 [7,10,11] (.quiet 4 [5,7,10,11] (.quiet 5 [7,10,11] (.quiet 6 [7,10,11] (.quiet 7 [10,11] (.both 8 (.only 9 (.only 10 (.only 11 (.fin)))) 9 (.only 8 (.only 10 (.only 11 (.fin))))))))))))) [0,1,2,3,4,5,6,7,8,9] mix (by kernel_rfl) (by kernel_rfl) (go3 ?_);refine pC (AV [pI (E (Z.quo a.d.dec (Z.gcd a.d.dec b.d.dec)))]) aB (gZ a.d.1 (E (Z.gcd a.d.dec b.d.dec)).1 a.d.2 (E (Z.gcd a.d.dec b.d.dec)).2) O O (cg2 (fun p q=>AV [pI (E (Z.quo p q))]) O (eQ _)) (go3 ?_);refine pC (AV [pI (E (Z.quo b.d.dec (Z.gcd a.d.dec b.d.dec)))]) aB (gZ b.d.1 (E (Z.gcd a.d.dec b.d.dec)).1 b.d.2 (E (Z.gcd a.d.dec b.d.dec)).2) O O (cg2 (fun p q=>AV [pI (E (Z.quo p q))]) O (eQ _)) ?_;refine BF ?_ ?_
 ·refine bP O O (jJ zpT (fun b9 hb9=>⟨(fun _=>sd s0),(sd s0),?_⟩));refine bP O O (jJ zpT (fun b10 hb10=>⟨(fun _=>sd s0),(sd (sd s0)),?_⟩));refine go3 ?_;refine gds (sk (sk (sk (sd (sk (sk s0)))))) [0,4,8,12,16,20,24,28,32,36,40,44,48,52,57] [14] mix (by kernel_rfl) (go3 ?_);refine pC (AV [pI (E (Z.mul a.n.dec (Z.quo b.d.dec (Z.gcd a.d.dec b.d.dec))))]) aB (eL a.n.1 (E (Z.quo b.d.dec (Z.gcd a.d.dec b.d.dec))).1 a.n.2 (E (Z.quo b.d.dec (Z.gcd a.d.dec b.d.dec))).2) O O (cg2 (fun p q=>AV [pI (E (Z.mul p q))]) O (eQ _)) (go3 ?_);refine pC (AV [pI (E (Z.mul b.n.dec (Z.quo a.d.dec (Z.gcd a.d.dec b.d.dec))))]) aB (eL b.n.1 (E (Z.quo a.d.dec (Z.gcd a.d.dec b.d.dec))).1 b.n.2 (E (Z.quo a.d.dec (Z.gcd a.d.dec b.d.dec))).2) O O (cg2 (fun p q=>AV [pI (E (Z.mul p q))]) O (eQ _)) ?_;obtain ⟨r11,hr11⟩:=nm ((E (Z.add (Z.mul a.n.dec (Z.quo b.d.dec (Z.gcd a.d.dec b.d.dec))) (Z.mul b.n.dec (Z.quo a.d.dec (Z.gcd a.d.dec b.d.dec))))):I);refine pC (AV [pI r11]) aB (mY (E (Z.mul a.n.dec (Z.quo b.d.dec (Z.gcd a.d.dec b.d.dec)))).1 (E (Z.mul b.n.dec (Z.quo a.d.dec (Z.gcd a.d.dec b.d.dec)))).1 (E (Z.mul a.n.dec (Z.quo b.d.dec (Z.gcd a.d.dec b.d.dec)))).2 (E (Z.mul b.n.dec (Z.quo a.d.dec (Z.gcd a.d.dec b.d.dec)))).2) O O ((cg2 (fun p q=>AV [pI (E (Z.add p q))]) (eQ _) (eQ _)).trans (by rw [hr11])) (go3 ?_);refine pC (AV [pI (E (Z.mul (Z.quo a.d.dec (Z.gcd a.d.dec b.d.dec)) b.d.dec))]) aB (eL (E (Z.quo a.d.dec (Z.gcd a.d.dec b.d.dec))).1 b.d.1 (E (Z.quo a.d.dec (Z.gcd a.d.dec b.d.dec))).2 b.d.2) O O (cg2 (fun p q=>AV [pI (E (Z.mul p q))]) (eQ _) O) ?_;obtain ⟨r12,hr12⟩:=nm ((cT r11 (E (Z.mul (Z.quo a.d.dec (Z.gcd a.d.dec b.d.dec)) b.d.dec))):Rt);refine pC (AV [pI r12.n,pI r12.d]) aB (qX r11 (E (Z.mul (Z.quo a.d.dec (Z.gcd a.d.dec b.d.dec)) b.d.dec))) O O (by rw [hr12]) (go3 ?_);refine rtX O (dP O m3 tyT O) ?_
  subst_vars;exact congrArg vS7 (show _=(jH a b) from aJ h7 O)
 refine bP O O (jJ zpT (fun b13 hb13=>⟨(fun _=>sd s0),(sd s0),?_⟩));refine bP O O (jJ zpT (fun b14 hb14=>⟨(fun _=>sd s0),(sd (sd s0)),?_⟩));refine go3 ?_;refine gds (sk (sk (sk (sd (sk (sk s0)))))) [0,4,8,12,16,20,24,28,32,36,40,44,48,52,57] [14] mix (by kernel_rfl) (go3 ?_);refine pC (AV [pI (E (Z.mul a.n.dec (Z.quo b.d.dec (Z.gcd a.d.dec b.d.dec))))]) aB (eL a.n.1 (E (Z.quo b.d.dec (Z.gcd a.d.dec b.d.dec))).1 a.n.2 (E (Z.quo b.d.dec (Z.gcd a.d.dec b.d.dec))).2) O O (cg2 (fun p q=>AV [pI (E (Z.mul p q))]) O (eQ _)) (go3 ?_);refine pC (AV [pI (E (Z.mul b.n.dec (Z.quo a.d.dec (Z.gcd a.d.dec b.d.dec))))]) aB (eL b.n.1 (E (Z.quo a.d.dec (Z.gcd a.d.dec b.d.dec))).1 b.n.2 (E (Z.quo a.d.dec (Z.gcd a.d.dec b.d.dec))).2) O O (cg2 (fun p q=>AV [pI (E (Z.mul p q))]) O (eQ _)) ?_;obtain ⟨r15,hr15⟩:=nm ((E (Z.add (Z.mul a.n.dec (Z.quo b.d.dec (Z.gcd a.d.dec b.d.dec))) (Z.mul b.n.dec (Z.quo a.d.dec (Z.gcd a.d.dec b.d.dec))))):I);refine pC (AV [pI r15]) aB (mY (E (Z.mul a.n.dec (Z.quo b.d.dec (Z.gcd a.d.dec b.d.dec)))).1 (E (Z.mul b.n.dec (Z.quo a.d.dec (Z.gcd a.d.dec b.d.dec)))).1 (E (Z.mul a.n.dec (Z.quo b.d.dec (Z.gcd a.d.dec b.d.dec)))).2 (E (Z.mul b.n.dec (Z.quo a.d.dec (Z.gcd a.d.dec b.d.dec)))).2) O O ((cg2 (fun p q=>AV [pI (E (Z.add p q))]) (eQ _) (eQ _)).trans (by rw [hr15])) (go3 ?_);refine pC (AV [pI (E (Z.mul (Z.quo a.d.dec (Z.gcd a.d.dec b.d.dec)) b.d.dec))]) aB (eL (E (Z.quo a.d.dec (Z.gcd a.d.dec b.d.dec))).1 b.d.1 (E (Z.quo a.d.dec (Z.gcd a.d.dec b.d.dec))).2 b.d.2) O O (cg2 (fun p q=>AV [pI (E (Z.mul p q))]) (eQ _) O) ?_;obtain ⟨r16,hr16⟩:=nm ((cT r15 (E (Z.mul (Z.quo a.d.dec (Z.gcd a.d.dec b.d.dec)) b.d.dec))):Rt);refine pC (AV [pI r16.n,pI r16.d]) aB (qX r15 (E (Z.mul (Z.quo a.d.dec (Z.gcd a.d.dec b.d.dec)) b.d.dec))) O O (by rw [hr16]) (go3 ?_);refine rtX O (dP O m3 tyT O) ?_
 subst_vars;exact congrArg vS7 (show _=(jH a b) from aJ h7 O)
theorem qN (a:Rt) (b:Rt) :
  Ret prog 126 [AV [pI a.n,pI a.d],AV [pI b.n,pI b.d]] (AV [pI ((fH a b).n),pI ((fH a b).d)]):=by
 refine bG (N:=9) func126 O O zz_ (fun w0=>?_);refine giI ?_;refine go2 ?_;intro b1 hb1;refine go_ ?_;intro b2 hb2;refine go_ ?_;intro b3 hb3;refine go_ ?_;refine qM (sd (sk (sk s0))) 5 [4] [4] (go2 ?_);refine pQ O (bE aB (JT b) O) (pQ O (bE aB (o2 a (rC b)) O) (go3 ?_));refine rtX O (dP O m0 tyT O) ?_;exact (by rfl)
theorem kR (a:Rt) (b:Rt) :
    Ret prog 130 [AV [pI a.n,pI a.d],AV [pI b.n,pI b.d]] (AV [pI ((cP a b).n),pI ((cP a b).d)]):=by
 refine bG (N:=48) func130 O O zz_ (fun w0=>?_);refine giI ?_;refine go2 ?_;intro b1 hb1;refine go_ ?_;intro b2 hb2;refine go_ ?_;intro b3 hb3;refine go2 ?_;refine gJv (rg [] 9 8) [(16,.bool (!(aS a)||(!(aS b))))] (fun K2 J2=>?_) ?_
 ·refine go2 ?_;refine sQ (bE aB (eP a) O) O (go_ ?_);rcases bt (aS a) with h5|h5
  ·refine sB (fZ h5) O (go_ ?_);refine sQ (bE aB (eP b) O) O (go3 ?_);refine J2 _ _ pp_ s0 (bH (lE h5 O))
  refine sB (iX h5) O (go5 ?_);refine J2 _ _ pp_ s0 (bH (oG h5))
 intro g6;refine aH _ O (fun h7=>?_) (fun h7=>?_)
 ·refine go_ ?_;refine sQ (bE aB o3  rfl) O (go3 ?_);refine rtX O (dP O m0 tyT O) ?_;exact congrArg vS7 (show _=(cP a b) from aX h7 O)
 refine go_ ?_;refine gDs (sk (sk (sk s0))) (.quiet 0 [1,4,9,12,13] (.quiet 1 [4,9,12,13] (.quiet 2 [3,4,9,12,13] (.quiet 3 [4,9,12,13] (.quiet 4 [9,12,13] (.quiet 5 [6,9,12,13] (.quiet 6 [9,12,13] (.quiet 7 [8,9,12,13] (.quiet 8 [9,12,13] (.quiet 9 [12,13] (.both 10 (.only 11 (.only 12 (.only 13 (.fin)))) 11 (.only 10 (.only 12 (.only 13 (.fin))))))))))))))) [0,1,2,3,4,5,6,7,8,9,10,11] mix (by kernel_rfl) (by kernel_rfl) (go4 ?_);refine pQ O (bE aB (qX a.n b.d) O) (go4 ?_);refine pQ O (bE aB (qX b.n a.d) O) ?_;refine BF ?_ ?_
 ·refine bP O O (jJ zpT (fun b8 hb8=>⟨(fun _=>sd s0),(sd s0),?_⟩));refine bP O O (jJ zpT (fun b9 hb9=>⟨(fun _=>sd s0),(sd (sd s0)),?_⟩));refine go3 ?_;refine gDs (sk (sd (sk (sk (sk s0))))) (.quiet 0 [1,4,9,12,13] (.quiet 1 [4,9,12,13] (.quiet 2 [3,4,9,12,13] (.quiet 3 [4,9,12,13] (.quiet 4 [9,12,13] (.quiet 5 [6,9,12,13] (.quiet 6 [9,12,13] (.quiet 7 [8,9,12,13] (.quiet 8 [9,12,13] (.quiet 9 [12,13] (.both 10 (.only 11 (.only 12 (.only 13 (.fin)))) 11 (.only 10 (.only 12 (.only 13 (.fin))))))))))))))) [0,1,2,3,4,5,6,7,8,9,10,11] mix (by kernel_rfl) (by kernel_rfl) (go4 ?_);obtain ⟨r10,hr10⟩:=nm ((E (Z.mul ((cT a.n b.d).n).dec ((cT b.n a.d).n).dec)):I);refine pC (AV [pI r10]) aB (eL ((cT a.n b.d).n).1 ((cT b.n a.d).n).1 ((cT a.n b.d).n).2 ((cT b.n a.d).n).2) O O (by subst hr10;rfl) (go4 ?_);obtain ⟨r11,hr11⟩:=nm ((E (Z.mul ((cT a.n b.d).d).dec ((cT b.n a.d).d).dec)):I);refine pC (AV [pI r11]) aB (eL ((cT a.n b.d).d).1 ((cT b.n a.d).d).1 ((cT a.n b.d).d).2 ((cT b.n a.d).d).2) O O (by subst hr11;rfl) ?_;refine BF ?_ ?_
  ·refine bP O O (jJ zpT (fun b12 hb12=>⟨(fun _=>sd s0),(sd (sk (sd s0))),?_⟩));refine bP O O (jJ zpT (fun b13 hb13=>⟨(fun _=>sd s0),(sd (sd (sk (sd s0)))),?_⟩));refine go4 ?_;refine gJv [38,39,40,41,42,43] [(43,.bool (r10.1.bad||r11.1.bad))] (fun K4 J4=>?_) ?_
   ·refine go3 ?_;refine sBB O (fun h15=>?_) (fun h15=>?_)
    ·refine go4 ?_;refine J4 _ _ pp_ s0 (bH (mJ h15))
    refine go4 ?_;refine J4 _ _ pp_ s0 (bH (kC h15 O))
   intro g16;refine aH _ O (fun h17=>?_) (fun h17=>?_)
   ·refine go_ ?_;refine sQ (bE aB o3  rfl) O (go3 ?_);refine rtX O (dP O m4 tyT O) ?_
    subst_vars;exact congrArg vS7 (show _=(cP a b) from aJ h7 (aX h17 O))
   refine go8 ?_;refine rtX O (dP O m4 tyT O) ?_
   subst_vars;exact congrArg vS7 (show _=(cP a b) from aJ h7 (aJ h17 O))
  refine bP O O (jJ zpT (fun b18 hb18=>⟨(fun _=>sd s0),(sd (sk (sd s0))),?_⟩));refine bP O O (jJ zpT (fun b19 hb19=>⟨(fun _=>sd s0),(sd (sd (sk (sd s0)))),?_⟩));refine go4 ?_;refine gJv [38,39,40,41,42,43] [(43,.bool (r10.1.bad||r11.1.bad))] (fun K6 J6=>?_) ?_
  ·refine go3 ?_;refine sBB O (fun h21=>?_) (fun h21=>?_)
   ·refine go4 ?_;refine J6 _ _ pp_ s0 (bH (mJ h21))
   refine go4 ?_;refine J6 _ _ pp_ s0 (bH (kC h21 O))
  intro g22;refine aH _ O (fun h23=>?_) (fun h23=>?_)
  ·refine go_ ?_;refine sQ (bE aB o3  rfl) O (go3 ?_);refine rtX O (dP O m4 tyT O) ?_
   subst_vars;exact congrArg vS7 (show _=(cP a b) from aJ h7 (aX h23 O))
  refine go8 ?_;refine rtX O (dP O m4 tyT O) ?_
  subst_vars;exact congrArg vS7 (show _=(cP a b) from aJ h7 (aJ h23 O))
 refine bP O O (jJ zpT (fun b24 hb24=>⟨(fun _=>sd s0),(sd s0),?_⟩));refine bP O O (jJ zpT (fun b25 hb25=>⟨(fun _=>sd s0),(sd (sd s0)),?_⟩));refine go3 ?_;refine gDs (sk (sk (sk (sk (sk s0))))) (.quiet 0 [1,4,9,12,13] (.quiet 1 [4,9,12,13] (.quiet 2 [3,4,9,12,13] (.quiet 3 [4,9,12,13] (.quiet 4 [9,12,13] (.quiet 5 [6,9,12,13] (.quiet 6 [9,12,13] (.quiet 7 [8,9,12,13] (.quiet 8 [9,12,13] (.quiet 9 [12,13] (.both 10 (.only 11 (.only 12 (.only 13 (.fin)))) 11 (.only 10 (.only 12 (.only 13 (.fin))))))))))))))) [0,1,2,3,4,5,6,7,8,9,10,11] mix (by kernel_rfl) (by kernel_rfl) (go4 ?_);obtain ⟨r26,hr26⟩:=nm ((E (Z.mul ((cT a.n b.d).n).dec ((cT b.n a.d).n).dec)):I);refine pC (AV [pI r26]) aB (eL ((cT a.n b.d).n).1 ((cT b.n a.d).n).1 ((cT a.n b.d).n).2 ((cT b.n a.d).n).2) O O (by subst hr26;rfl) (go4 ?_);obtain ⟨r27,hr27⟩:=nm ((E (Z.mul ((cT a.n b.d).d).dec ((cT b.n a.d).d).dec)):I);refine pC (AV [pI r27]) aB (eL ((cT a.n b.d).d).1 ((cT b.n a.d).d).1 ((cT a.n b.d).d).2 ((cT b.n a.d).d).2) O O (by subst hr27;rfl) ?_;refine BF ?_ ?_
 ·refine bP O O (jJ zpT (fun b28 hb28=>⟨(fun _=>sd s0),(sd s0),?_⟩));refine bP O O (jJ zpT (fun b29 hb29=>⟨(fun _=>sd s0),(sd (sd s0)),?_⟩));refine go4 ?_;refine gJv [38,39,40,41,42,43] [(43,.bool (r26.1.bad||r27.1.bad))] (fun K8 J8=>?_) ?_
  ·refine go3 ?_;refine sBB O (fun h31=>?_) (fun h31=>?_)
   ·refine go4 ?_;refine J8 _ _ pp_ s0 (bH (mJ h31))
   refine go4 ?_;refine J8 _ _ pp_ s0 (bH (kC h31 O))
  intro g32;refine aH _ O (fun h33=>?_) (fun h33=>?_)
  ·refine go_ ?_;refine sQ (bE aB o3  rfl) O (go3 ?_);refine rtX O (dP O m4 tyT O) ?_
   subst_vars;exact congrArg vS7 (show _=(cP a b) from aJ h7 (aX h33 O))
  refine go8 ?_;refine rtX O (dP O m4 tyT O) ?_
  subst_vars;exact congrArg vS7 (show _=(cP a b) from aJ h7 (aJ h33 O))
 refine bP O O (jJ zpT (fun b34 hb34=>⟨(fun _=>sd s0),(sd s0),?_⟩));refine bP O O (jJ zpT (fun b35 hb35=>⟨(fun _=>sd s0),(sd (sd s0)),?_⟩));refine go4 ?_;refine gJv [38,39,40,41,42,43] [(43,.bool (r26.1.bad||r27.1.bad))] (fun K10 J10=>?_) ?_
 ·refine go3 ?_;refine sBB O (fun h37=>?_) (fun h37=>?_)
  ·refine go4 ?_;refine J10 _ _ pp_ s0 (bH (mJ h37))
  refine go4 ?_;refine J10 _ _ pp_ s0 (bH (kC h37 O))
 intro g38;refine aH _ O (fun h39=>?_) (fun h39=>?_)
 ·refine go_ ?_;refine sQ (bE aB o3  rfl) O (go3 ?_);refine rtX O (dP O m4 tyT O) ?_
  subst_vars;exact congrArg vS7 (show _=(cP a b) from aJ h7 (aX h39 O))
 refine go8 ?_;refine rtX O (dP O m4 tyT O) ?_
 subst_vars;exact congrArg vS7 (show _=(cP a b) from aJ h7 (aJ h39 O))
theorem rX  :
  Ret prog 151 [] (AV [pI F_skewbackref04_one]):=by
 refine bG (N:=2) func151 O O zz_ (fun w0=>?_);refine giI ?_;obtain ⟨q0,hq0⟩:=nm ((E (Z.of 1)):I);refine go2 ?_;intro b1 hb1;refine go2 ?_;refine sC (AV [pI q0]) aB (bU (wl 1).1 (wl 1).2) O O (by subst hq0;rfl) ?_;refine go3 ?_;refine rtX O (dP O m0 tyT O) ?_;exact (by obtain rfl:=hq0.symm;rfl)
theorem pK  :
  Ret prog 152 [] (AV [pI lS.n,pI lS.d]):=by
 refine bG (N:=4) func152 O O zz_ (fun w0=>?_);refine giI ?_;obtain ⟨q0,hq0⟩:=nm ((E Z.bad):I);obtain ⟨q1,hq1⟩:=nm (F_skewbackref04_one:I);refine go2 ?_;intro b1 hb1;refine go2 ?_;refine sC (AV [pI q0]) aB eO O O (by subst hq0;rfl) (sC (AV [pI q1]) aB rX O O (by subst hq1;rfl) (go4 ?_));refine rtX O (dP O m0 tyT O) ?_;exact (by subst_vars;rfl)
theorem lM (a:I) (b:I) :
    Ret prog 161 [AV [pI a],AV [pI b]] (AV [pI ((bF a b).n),pI ((bF a b).d)]):=by
 refine bG (N:=35) func161 O O zz_ (fun w0=>?_);refine giI ?_;refine go2 ?_;intro b1 hb1;refine go_ ?_;intro b2 hb2;refine go_ ?_;intro b3 hb3;refine go2 ?_;refine gJv (rg [] 6 13) [(18,.bool (!a.1.good||(!b.1.good||((Z.signW b.dec).1==0))))] (fun K2 J2=>?_) ?_
 ·refine go2 ?_;refine sC (.bool a.1.good) aB (bW a.1 a.2) O O O (go_ ?_);rcases bt a.1.good with h6|h6
  ·refine sB (fZ h6) O (go_ ?_);refine sC (.bool b.1.good) aB (bW b.1 b.2) O O O (go2 ?_);rcases bt b.1.good with h7|h7
   ·refine sB (fZ h7) O (go_ ?_);refine sC (.int .i64 ((Z.signW b.dec).1)) aB (fM b.1 b.2) O O O (go3 ?_);refine J2 _ _ pp_ s0 (bH (lE h6 (lE h7 O)))
   refine sB (iX h7) O (go5 ?_);refine J2 _ _ pp_ s0 (bH (lE h6 (oG h7)))
  refine sB (iX h6) O (j0 ?_);refine J2 _ _ pp_ s0 (bH (oG h6))
 intro g8;refine aH _ O (fun h9=>?_) (fun h9=>?_)
 ·refine go_ ?_;refine sQ (bE aB pK  rfl) O (go3 ?_);refine rtX O (dP O m0 tyT O) ?_;exact congrArg vS7 (show _=(bF a b) from aX h9 O)
 refine go4 ?_;refine sC (AV [pI (E (Z.gcd a.dec b.dec))]) aB (nS a.1 b.1 a.2 b.2) O O O (go_ ?_);intro b10 hb10;refine go5 ?_;refine sC (.int .i64 ((Z.signW b.dec).1)) aB (fM b.1 b.2) O O O (go2 ?_);refine aH _ O (fun h11=>?_) (fun h11=>?_)
 ·refine go2 ?_;refine sC (AV [pI (E (Z.neg (Z.gcd a.dec b.dec)))]) aB (rW (E (Z.gcd a.dec b.dec)).1 (E (Z.gcd a.dec b.dec)).2) O O (cg1 (fun p=>AV [pI (E (Z.neg p))]) (eQ _)) (go2 ?_);refine qM (sk (sd (sk (sk s0)))) 8 [7] [7] (go2 ?_);refine pC (AV [pI (E (Z.quo a.dec (Z.neg (Z.gcd a.dec b.dec))))]) aB (fC a.1 (E (Z.neg (Z.gcd a.dec b.dec))).1 a.2 (E (Z.neg (Z.gcd a.dec b.dec))).2) O O (cg2 (fun p q=>AV [pI (E (Z.quo p q))]) O (eQ _)) (go2 ?_);refine pC (AV [pI (E (Z.quo b.dec (Z.neg (Z.gcd a.dec b.dec))))]) aB (fC b.1 (E (Z.neg (Z.gcd a.dec b.dec))).1 b.2 (E (Z.neg (Z.gcd a.dec b.dec))).2) O O (cg2 (fun p q=>AV [pI (E (Z.quo p q))]) O (eQ _)) (pQ O (nV zpT plT O (.cons [pI (E (Z.quo a.dec (Z.neg (Z.gcd a.dec b.dec))))] [pI (E (Z.quo a.dec (Z.neg (Z.gcd a.dec b.dec)))),pI I0] O O O O (.cons [pI (E (Z.quo b.dec (Z.neg (Z.gcd a.dec b.dec))))] [pI (E (Z.quo a.dec (Z.neg (Z.gcd a.dec b.dec)))),pI (E (Z.quo b.dec (Z.neg (Z.gcd a.dec b.dec))))] O O O O (.nil _)))) (go3 ?_));refine rtX O (dP O m1 tyT O) ?_;exact congrArg vS7 (show _=(bF a b) from aJ h9 (aX h11 O))
 refine go_ ?_;refine qM (sk (sd (sk (sk s0)))) 8 [7] [7] (go2 ?_);refine pC (AV [pI (E (Z.quo a.dec (Z.gcd a.dec b.dec)))]) aB (fC a.1 (E (Z.gcd a.dec b.dec)).1 a.2 (E (Z.gcd a.dec b.dec)).2) O O (cg2 (fun p q=>AV [pI (E (Z.quo p q))]) O (eQ _)) (go2 ?_);refine pC (AV [pI (E (Z.quo b.dec (Z.gcd a.dec b.dec)))]) aB (fC b.1 (E (Z.gcd a.dec b.dec)).1 b.2 (E (Z.gcd a.dec b.dec)).2) O O (cg2 (fun p q=>AV [pI (E (Z.quo p q))]) O (eQ _)) (pQ O (nV zpT plT O (.cons [pI (E (Z.quo a.dec (Z.gcd a.dec b.dec)))] [pI (E (Z.quo a.dec (Z.gcd a.dec b.dec))),pI I0] O O O O (.cons [pI (E (Z.quo b.dec (Z.gcd a.dec b.dec)))] [pI (E (Z.quo a.dec (Z.gcd a.dec b.dec))),pI (E (Z.quo b.dec (Z.gcd a.dec b.dec)))] O O O O (.nil _)))) (go3 ?_));refine rtX O (dP O m1 tyT O) ?_;exact congrArg vS7 (show _=(bF a b) from aJ h9 (aJ h11 O))
theorem fV (a:W) :
  Ret prog 87 [.int .i64 a.1] (AV [pI ((aI a).n),pI ((aI a).d)]):=by
 refine bG (N:=7) func87 O O zz_ (fun w0=>?_);refine giI ?_;refine go2 ?_;intro b1 hb1;refine go3 ?_;refine sC (AV [pI (E (Z.of a.1))]) aB (bU a.1 a.2) O O O (sQ (bE aB rX  rfl) O ?_);obtain ⟨r2,hr2⟩:=nm ((bF (E (Z.of a.1)) F_skewbackref04_one):Rt);refine sC (AV [pI r2.n,pI r2.d]) aB (lM (E (Z.of a.1)) F_skewbackref04_one) O O (by rw [hr2]) (go3 ?_);refine rtX O (dP O m0 tyT O) ?_;exact (by subst hr2;rfl)
theorem AS (a:W) (b:W) :
  Ret prog 262 [.int .i64 a.1,.int .i64 b.1] (AV [pI ((oD a b).n),pI ((oD a b).d)]):=by
 refine bG (N:=10) func262 O O zz_ (fun w0=>?_);refine giI ?_;refine go2 ?_;intro b1 hb1;refine go3 ?_;refine sC (AV [pI (E (Z.of a.1))]) aB (bU a.1 a.2) O O O (go_ ?_);refine sC (AV [pI (E (Z.of b.1))]) aB (bU b.1 b.2) O O O ?_;obtain ⟨r2,hr2⟩:=nm ((bF (E (Z.of a.1)) (E (Z.of b.1))):Rt);refine sC (AV [pI r2.n,pI r2.d]) aB (lM (E (Z.of a.1)) (E (Z.of b.1))) O O (by rw [hr2]) (go3 ?_);refine rtX O (dP O m0 tyT O) ?_;exact (by subst hr2;rfl)
theorem fN (a:Rt) :
    Ret prog 74 [AV [pI a.n,pI a.d]] (.bool (aP a)):=by
 refine bG (N:=26) func74 O O zz_ (fun w0=>?_);refine giI ?_;refine go2 ?_;intro b1 hb1;refine go3 ?_;refine gJv (rg [] 3 10) [(12,.bool (!a.n.1.good||(!a.d.1.good)))] (fun K2 J2=>?_) ?_
 ·refine go3 ?_;refine sC (.bool a.n.1.good) aB (bW a.n.1 a.n.2) O O O (go_ ?_);rcases bt a.n.1.good with h3|h3
  ·refine sB (fZ h3) O (go2 ?_);refine sC (.bool a.d.1.good) aB (bW a.d.1 a.d.2) O O O (go3 ?_);refine J2 _ _ pp_ s0 (bH (lE h3 O))
  refine sB (iX h3) O (go6 ?_);refine J2 _ _ pp_ s0 (bH (oG h3))
 intro g4;refine aH _ O (fun h5=>?_) (fun h5=>?_)
 ·refine go4 ?_;refine rt1 ?_;exact congrArg vS2 (show _=(aP a) from aX h5 O)
 refine go_ ?_;refine gJv (rg [2] 13 13) [(2,.bool (decide (0<(Z.signW a.d.dec).1)&&decide ((E (Z.gcd a.n.dec a.d.dec))=F_skewbackref04_one)))] (fun K3 J3=>?_) ?_
 ·refine go3 ?_;refine sC (.int .i64 ((Z.signW a.d.dec).1)) aB (fM a.d.1 a.d.2) O O O (go_ ?_);refine sBB O (fun h7=>?_) (fun h7=>?_)
  ·refine go4 ?_;refine sC (AV [pI (E (Z.gcd a.n.dec a.d.dec))]) aB (nS a.n.1 a.d.1 a.n.2 a.d.2) O O O (sQ (bE aB rX  rfl) O ?_);refine sQ (tM (r:=decide ((E (Z.gcd a.n.dec a.d.dec))=F_skewbackref04_one)) O O (mS 8 dd_ KN KZ (lH eE) (lH eE) (pX kL))) O (go3 ?_);refine J3 _ _ pp_ s0 (bH (mW h7 O))
  refine j0 ?_;refine J3 _ _ pp_ s0 (bH (pU h7))
 intro g8;refine go_ ?_;refine rt1 ?_;exact congrArg vS2 (show _=(aP a) from aJ h5 O)
theorem BV (a:Rt) :
   Ret prog 233 [AV [pI a.n,pI a.d]] (AV [pI ((j6 a).n),pI ((j6 a).d)]):=by
 refine bG (N:=13) func233 O O zz_ (fun w0=>?_);refine giI ?_;refine go2 ?_;intro b1 hb1;refine go_ ?_;intro b2 hb2;refine go4 ?_;refine sQ (bE aB (fN a) O) O (go2 ?_);rcases bt (aP a) with h3|h3
 ·refine W_f (fZ h3) O (go_ ?_);refine qM (sd (sk s0)) 7 [6] [6] (go2 ?_);refine pC (AV [pI (E (Z.neg a.n.dec))]) aB (rW a.n.1 a.n.2) O O O (go2 ?_);refine pQ O (nV zpT plT O (.cons [pI (E (Z.neg a.n.dec))] [pI (E (Z.neg a.n.dec)),pI I0] O O O O (.cons [pI a.d] [pI (E (Z.neg a.n.dec)),pI a.d] O O O O (.nil _)))) (go3 ?_);refine rtX O (dP O m0 tyT O) ?_;exact congrArg vS7 (show _=(j6 a) from aX h3 O)
 refine W_t (iX h3) O (go_ ?_);refine sQ (bE aB pK  rfl) O (go3 ?_);refine rtX O (dP O m0 tyT O) ?_;exact congrArg vS7 (show _=(j6 a) from aJ h3 O)
theorem vN (a:Rt) (b:Rt) :
    Ret prog 162 [AV [pI a.n,pI a.d],AV [pI b.n,pI b.d]] (AV [pI ((iU a b).n),pI ((iU a b).d)]):=by
 refine bG (N:=44) func162 O O zz_ (fun w0=>?_);refine giI ?_;refine go2 ?_;intro b1 hb1;refine go_ ?_;intro b2 hb2;refine go_ ?_;intro b3 hb3;refine go2 ?_;refine gJv (rg [] 8 8) [(15,.bool (!(aP a)||(!(aP b))))] (fun K2 J2=>?_) ?_
 ·refine go2 ?_;refine sQ (bE aB (fN a) O) O (go_ ?_);rcases bt (aP a) with h5|h5
  ·refine sB (fZ h5) O (go_ ?_);refine sQ (bE aB (fN b) O) O (go3 ?_);refine J2 _ _ pp_ s0 (bH (lE h5 O))
  refine sB (iX h5) O (go5 ?_);refine J2 _ _ pp_ s0 (bH (oG h5))
 intro g6;refine aH _ O (fun h7=>?_) (fun h7=>?_)
 ·refine go_ ?_;refine sQ (bE aB pK  rfl) O (go3 ?_);refine rtX O (dP O m0 tyT O) ?_;exact congrArg vS7 (show _=(iU a b) from aX h7 O)
 refine go6 ?_;refine sC (AV [pI (E (Z.gcd a.d.dec b.d.dec))]) aB (nS a.d.1 b.d.1 a.d.2 b.d.2) O O O (go_ ?_);intro b8 hb8;refine go6 ?_;refine sC (AV [pI (E (Z.quo a.d.dec (Z.gcd a.d.dec b.d.dec)))]) aB (fC a.d.1 (E (Z.gcd a.d.dec b.d.dec)).1 a.d.2 (E (Z.gcd a.d.dec b.d.dec)).2) O O (cg2 (fun p q=>AV [pI (E (Z.quo p q))]) O (eQ _)) (go_ ?_);intro b9 hb9;refine go6 ?_;refine sC (AV [pI (E (Z.quo b.d.dec (Z.gcd a.d.dec b.d.dec)))]) aB (fC b.d.1 (E (Z.gcd a.d.dec b.d.dec)).1 b.d.2 (E (Z.gcd a.d.dec b.d.dec)).2) O O (cg2 (fun p q=>AV [pI (E (Z.quo p q))]) O (eQ _)) (go_ ?_);intro b10 hb10;refine go2 ?_;refine gds (sk (sk (sk (sd (sk (sk s0)))))) [0,4,8,12,16,20,24,28,32,36,40,44,48,52,57] [14] mix (by kernel_rfl) (go3 ?_);refine pC (AV [pI (E (Z.mul a.n.dec (Z.quo b.d.dec (Z.gcd a.d.dec b.d.dec))))]) aB (cG a.n.1 (E (Z.quo b.d.dec (Z.gcd a.d.dec b.d.dec))).1 a.n.2 (E (Z.quo b.d.dec (Z.gcd a.d.dec b.d.dec))).2) O O (cg2 (fun p q=>AV [pI (E (Z.mul p q))]) O (eQ _)) (go3 ?_);refine pC (AV [pI (E (Z.mul b.n.dec (Z.quo a.d.dec (Z.gcd a.d.dec b.d.dec))))]) aB (cG b.n.1 (E (Z.quo a.d.dec (Z.gcd a.d.dec b.d.dec))).1 b.n.2 (E (Z.quo a.d.dec (Z.gcd a.d.dec b.d.dec))).2) O O (cg2 (fun p q=>AV [pI (E (Z.mul p q))]) O (eQ _)) ?_;obtain ⟨r11,hr11⟩:=nm ((E (Z.add (Z.mul a.n.dec (Z.quo b.d.dec (Z.gcd a.d.dec b.d.dec))) (Z.mul b.n.dec (Z.quo a.d.dec (Z.gcd a.d.dec b.d.dec))))):I);refine pC (AV [pI r11]) aB (lW (E (Z.mul a.n.dec (Z.quo b.d.dec (Z.gcd a.d.dec b.d.dec)))).1 (E (Z.mul b.n.dec (Z.quo a.d.dec (Z.gcd a.d.dec b.d.dec)))).1 (E (Z.mul a.n.dec (Z.quo b.d.dec (Z.gcd a.d.dec b.d.dec)))).2 (E (Z.mul b.n.dec (Z.quo a.d.dec (Z.gcd a.d.dec b.d.dec)))).2) O O ((cg2 (fun p q=>AV [pI (E (Z.add p q))]) (eQ _) (eQ _)).trans (by rw [hr11])) (go3 ?_);refine pC (AV [pI (E (Z.mul (Z.quo a.d.dec (Z.gcd a.d.dec b.d.dec)) b.d.dec))]) aB (cG (E (Z.quo a.d.dec (Z.gcd a.d.dec b.d.dec))).1 b.d.1 (E (Z.quo a.d.dec (Z.gcd a.d.dec b.d.dec))).2 b.d.2) O O (cg2 (fun p q=>AV [pI (E (Z.mul p q))]) (eQ _) O) ?_;obtain ⟨r12,hr12⟩:=nm ((bF r11 (E (Z.mul (Z.quo a.d.dec (Z.gcd a.d.dec b.d.dec)) b.d.dec))):Rt);refine pC (AV [pI r12.n,pI r12.d]) aB (lM r11 (E (Z.mul (Z.quo a.d.dec (Z.gcd a.d.dec b.d.dec)) b.d.dec))) O O (by rw [hr12]) (go3 ?_);refine rtX O (dP O m3 tyT O) ?_
 subst_vars;exact congrArg vS7 (show _=(iU a b) from aJ h7 O)
theorem BW (a:Rt) (b:Rt) :
  Ret prog 157 [AV [pI a.n,pI a.d],AV [pI b.n,pI b.d]] (AV [pI ((gE a b).n),pI ((gE a b).d)]):=by
 refine bG (N:=9) func157 O O zz_ (fun w0=>?_);refine giI ?_;refine go2 ?_;intro b1 hb1;refine go_ ?_;intro b2 hb2;refine go_ ?_;intro b3 hb3;refine go_ ?_;refine qM (sd (sk (sk s0))) 5 [4] [4] (go2 ?_);refine pQ O (bE aB (BV b) O) ?_;obtain ⟨r4,hr4⟩:=nm ((iU a (j6 b)):Rt);refine pC (AV [pI r4.n,pI r4.d]) aB (vN a (j6 b)) O O (by rw [hr4]) (go3 ?_);refine rtX O (dP O m0 tyT O) ?_;exact (by subst hr4;rfl)
theorem BU (a:Rt) (b:Rt) :
    Ret prog 160 [AV [pI a.n,pI a.d],AV [pI b.n,pI b.d]] (AV [pI ((kT a b).n),pI ((kT a b).d)]):=by
 refine bG (N:=41) func160 O O zz_ (fun w0=>?_);refine giI ?_;refine go2 ?_;intro b1 hb1;refine go_ ?_;intro b2 hb2;refine go_ ?_;intro b3 hb3;refine go2 ?_;refine gJv (rg [] 9 8) [(16,.bool (!(aP a)||(!(aP b))))] (fun K2 J2=>?_) ?_
 ·refine go2 ?_;refine sQ (bE aB (fN a) O) O (go_ ?_);rcases bt (aP a) with h5|h5
  ·refine sB (fZ h5) O (go_ ?_);refine sQ (bE aB (fN b) O) O (go3 ?_);refine J2 _ _ pp_ s0 (bH (lE h5 O))
  refine sB (iX h5) O (go5 ?_);refine J2 _ _ pp_ s0 (bH (oG h5))
 intro g6;refine aH _ O (fun h7=>?_) (fun h7=>?_)
 ·refine go_ ?_;refine sQ (bE aB pK  rfl) O (go3 ?_);refine rtX O (dP O m0 tyT O) ?_;exact congrArg vS7 (show _=(kT a b) from aX h7 O)
 refine go6 ?_;refine sQ (bE aB (lM a.n b.d) O) O (go_ ?_);intro b8 hb8;refine go7 ?_;refine sQ (bE aB (lM b.n a.d) O) O (go_ ?_);intro b9 hb9;refine go7 ?_;obtain ⟨r10,hr10⟩:=nm ((E (Z.mul ((bF a.n b.d).n).dec ((bF b.n a.d).n).dec)):I);refine sC (AV [pI r10]) aB (cG ((bF a.n b.d).n).1 ((bF b.n a.d).n).1 ((bF a.n b.d).n).2 ((bF b.n a.d).n).2) O O (by subst hr10;rfl) (go_ ?_);intro b11 hb11;refine go7 ?_;obtain ⟨r12,hr12⟩:=nm ((E (Z.mul ((bF a.n b.d).d).dec ((bF b.n a.d).d).dec)):I);refine sC (AV [pI r12]) aB (cG ((bF a.n b.d).d).1 ((bF b.n a.d).d).1 ((bF a.n b.d).d).2 ((bF b.n a.d).d).2) O O (by subst hr12;rfl) (go_ ?_);intro b13 hb13;refine go5 ?_;refine sQ (bE aB (lM r10 r12) O) O (go3 ?_);refine rtX O (dP O m4 tyT O) ?_
 subst_vars;exact congrArg vS7 (show _=(kT a b) from aJ h7 O)
theorem u9 (a:Rt) (b:Bool) :
   Ret prog 214 [AV [pI a.n,pI a.d],.bool b] (AV [pI (gF a b)]):=by
 refine bG (N:=8) func214 O O zz_ (fun w0=>?_);refine giI ?_;refine go2 ?_;intro b1 hb1;refine go_ ?_;intro b2 hb2;refine go5 ?_;refine aH _ O (fun h3=>?_) (fun h3=>?_)
 ·refine go_ ?_;refine sC (AV [pI (E (Z.of 0))]) aB (bU (wl 0).1 (wl 0).2) O O O ?_;refine go3 ?_;refine rtX O (dP O m0 tyT O) ?_;exact congrArg vS4 (show _=(gF a b) from aX h3 O)
 refine go2 ?_;refine sC (AV [pI (E Z.bad)]) aB eO O O O (go3 ?_);refine rtX O (dP O m0 tyT O) ?_;exact congrArg vS4 (show _=(gF a b) from aJ h3 O)
end Go.Proofs.YtkjjponijamaoaaGreatDoor
namespace Go.Num
open Go Go.Kn
theorem UQ {a:Rt} (h:aS a=true):cfP (cfN a.d) a.d:=by
 unfold aS at h;simp only [Bool.and_eq_true,decide_eq_true_eq] at h;exact KG h.2.2.1
theorem UR {a:Rt} (h:aP a=true):cfP (cfN a.d) a.d:=by
 unfold aP at h
 cases h1:(!a.n.1.good||(!a.d.1.good))
 ·rw [h1,cond_false] at h
  simp only [Bool.and_eq_true,decide_eq_true_eq] at h;exact KG h.1
 rw [h1,cond_true] at h;cases h
theorem Z0 {a b:Bool} (h:(!a || !b)=false):a=true:=by cases a with|true=>rfl|false=>cases h
theorem OO (n m:Bool) {x y:Nat} (hy:0<y):(sgn n x).fmod (sgn m y)=if n≠m∧x % y≠0 then sgn m (y - x % y) else sgn m (x % y):=by
 rw [Int.fmod_def,H1 n m hy];have h1:=Nat.div_add_mod x y;have h2:=Nat.mod_lt x hy
 have e:(x:Int)=(y:Int)*((x / y:Nat):Int)+((x % y:Nat):Int):=by exact_mod_cast h1.symm
 have e2:(y:Int)*(-((x / y:Nat):Int) - 1) = -((y:Int)*((x / y:Nat):Int)) - y:=by grind
 have e3:(y:Int)*(-((x / y:Nat):Int)) = -((y:Int)*((x / y:Nat):Int)):=by grind
 have e4:(-(y:Int))*(-((x / y:Nat):Int) - 1)=((y:Int)*((x / y:Nat):Int))+y:=by grind
 have e5:(-(y:Int))*(-((x / y:Nat):Int))=((y:Int)*((x / y:Nat):Int)):=by grind
 have e6:(-(y:Int))*((x / y:Nat):Int) = -((y:Int)*((x / y:Nat):Int)):=by grind
 cases n<;>cases m<;>by_cases h0:x % y=0<;>simp only [u6,tU,reduceIte,Bool.false_eq_true,Bool.true_eq_false,reduceCtorEq,ne_eq,not_true_eq_false,not_false_eq_true,false_and,true_and,and_self,h0]<;>omega
theorem ce_ {x y:W} (hx:-4611686018427387904<x.1∧x.1<4611686018427387904) (hy:-4611686018427387904<y.1∧y.1<4611686018427387904) (h0:y.1≠0) (hf:x.1.fdiv y.1=(W.fdiv x y).1) :
  (W.sub x (W.mul y (W.fdiv x y))).1=x.1.fmod y.1:=by
 have e:x.1.fmod y.1=x.1 - y.1*x.1.fdiv y.1:=Int.fmod_def ..
 have hb:(x.1.fmod y.1).natAbs<y.1.natAbs:=by
  rcases Int.lt_or_gt_of_ne h0 with h|h
  ·have h1:=Int.fmod_nonneg_of_pos (-x.1) (show 0 < -y.1 by omega)
   have h2:=Int.fmod_lt_of_pos (-x.1) (show 0 < -y.1 by omega);rw [Int.neg_fmod_neg] at h1 h2;omega
  have h1:=Int.fmod_nonneg_of_pos x.1 h;have h2:=Int.fmod_lt_of_pos x.1 h;omega
 show IntKind.i64.wrap (x.1 - IntKind.i64.wrap (y.1*(W.fdiv x y).1))=_
 rw [← hf,bV (n:=y.1*x.1.fdiv y.1) (by unfold I64;omega),← e,bV (by unfold I64;omega)]
theorem US {a b:R} (ha:a.Ok) (hb:b.Ok) (h:jL a=true) (k:jL b=true) (h0:kZ b≠0):Z.of ((kZ a).fmod (kZ b))=Z.rem a.dec b.dec:=by
 rw [Z.rem,dM (nL ha h).1 (nL hb k).1,if_neg h0]
theorem aT_ {a b:R} (h:a.good=false∨b.good=false):Z.bad=Z.rem a.dec b.dec:=by
 rw [Z.rem,oN (h.imp GN GN)]
theorem dz_ {a b:R} (ha:a.Ok) (hb:b.Ok) (ga:a.good=true) (gb:b.good=true) (h:val b.w=0):Z.bad=Z.rem a.dec b.dec:=by
 rw [Z.rem,dM (cK ha ga) (cK hb gb),if_pos (by rw [h];cases b.neg<;>rfl)]
theorem cc_ {a b:R} (ha:a.Ok) (hb:b.Ok) (ga:a.good=true) (gb:b.good=true) (h0:val b.w≠0) (h:a.neg=b.neg∨val a.w % val b.w=0):Z.of (sgn b.neg (val a.w % val b.w))=Z.rem a.dec b.dec:=by
 have hp:0<val b.w:=Nat.pos_of_ne_zero h0;rw [Z.rem,dM (cK ha ga) (cK hb gb),if_neg (FS hp),OO _ _ hp,if_neg];rintro ⟨h1,h2⟩;exact h.elim h1 h2
theorem aa_ {a b:R} (ha:a.Ok) (hb:b.Ok) (ga:a.good=true) (gb:b.good=true) (h0:val b.w≠0) (hn:a.neg≠b.neg) (h:val a.w % val b.w≠0):Z.of (sgn b.neg (val b.w - val a.w % val b.w))=Z.rem a.dec b.dec:=by
 have hp:0<val b.w:=Nat.pos_of_ne_zero h0;rw [Z.rem,dM (cK ha ga) (cK hb gb),if_neg (FS hp),OO _ _ hp,if_pos ⟨hn,h⟩]
theorem AE (a b:I):lR a b=E (Z.rem a.dec b.dec):=by
 unfold lR;rw [bM_]
 show _=E (Z.rem a.1.dec b.1.dec)
 cases hw:(jL a.1&&(jL b.1&&((eF b).1 != 0)))
 ·rw [cond_false]
  cases hg:(!a.1.good||(!b.1.good||(val b.1.w==0)))
  ·rw [cond_false]
   simp only [Bool.or_eq_false_iff,Bool.not_eq_false',beq_eq_false_iff_ne] at hg;obtain ⟨ga,gb,h0⟩:=hg
   cases hc:((a.1.neg != b.1.neg)&&decide ((0:Int)<((dl (val a.1.w % val b.1.w)).length:Int)))
   ·rw [cond_false,cc_ a.2 b.2 ga gb h0]
    rw [Bool.and_eq_false_iff] at hc;rcases hc with hc|hc
    ·exact .inl (by simpa using hc)
    right
    have:=of_decide_eq_false hc;exact MI.1 oo_
   rw [cond_true,aa_ a.2 b.2 ga gb h0]
   ·rw [Bool.and_eq_true] at hc;simpa using hc.1
   rw [Bool.and_eq_true] at hc;have:=of_decide_eq_true hc.2;intro h;rw [h,rY] at this;exact absurd this dd_
  rw [cond_true]
  cases ga:a.1.good
  ·rw [aT_ (.inl ga)]
  ·cases gb:b.1.good
   ·rw [aT_ (.inr gb)]
   rw [ga,gb] at hg;rw [dz_ a.2 b.2 ga gb (by simpa using hg)]
 rw [cond_true];have hf:=MT hw;rw [Bool.and_eq_true,Bool.and_eq_true] at hw
 show E (Z.of (W.sub (eF a) (W.mul (eF b) (W.fdiv (eF a) (eF b)))).1)=_
 rw [ce_ (nL a.2 hw.1).2.2.2 (nL b.2 hw.2.1).2.2.2 hf.2.1 hf.2.2];exact congrArg E (US a.2 b.2 hw.1 hw.2.1 hf.2.1)
end Go.Num
namespace Go.Proofs.YtkjjponijamaoaaGreatDoor
open Go.Kn Go.Num Tryz
attribute [local irreducible] Go.Kn.W WL PL OpQ OpR OpS
theorem BP (a:I) (b:I) :
    Ret prog 215 [AV [pI a],AV [pI b]] (AV [pI (lR a b)]):=by
 refine bG (N:=78) func215 O O zz_ (fun w0=>?_);refine giI ?_;refine go2 ?_;intro b1 hb1;refine go_ ?_;intro b2 hb2;refine go_ ?_;intro b3 hb3;refine go3 ?_;refine sC (.tuple #[.int .i64 ((eF a).1),.bool (jL a.1)]) aB (gY a.1 a.2) O O O (go8 ?_);refine sC (.tuple #[.int .i64 ((eF b).1),.bool (jL b.1)]) aB (gY b.1 b.2) O O O (go7 ?_);refine gJv (rg [] 21 8) [(28,.bool ((jL a.1)&&((jL b.1)&&((eF b).1 != 0))))] (fun K2 J2=>?_) ?_
 ·refine go2 ?_;refine sBB O (fun h6=>?_) (fun h6=>?_)
  ·refine go2 ?_;refine sBB O (fun h7=>?_) (fun h7=>?_)
   ·refine go4 ?_;refine J2 _ _ pp_ s0 (bH (mW h6 (mW h7 O)))
   refine go4 ?_;refine J2 _ _ pp_ s0 (bH (mW h6 (pU h7)))
  refine go7 ?_;refine J2 _ _ pp_ s0 (bH (pU h6))
 intro g8;refine aH _ O (fun h9=>?_) (fun h9=>?_)
 ·refine go3 ?_;have hfl:=MT h9;refine go2 ?_;refine sC (.int .i64 ((W.fdiv (eF a) (eF b)).1)) aB (tX (eF a).1 (eF b).1 (eF a).2 hfl.1 hfl.2.1) O O (congrArg (Value.int .i64) hfl.2.2) (sV (.int .i64 ((W.mul (eF b) (W.fdiv (eF a) (eF b))).1)) O O (sV (.int .i64 ((W.sub (eF a) (W.mul (eF b) (W.fdiv (eF a) (eF b)))).1)) O O ?_));obtain ⟨r10,hr10⟩:=nm ((E (Z.of (W.sub (eF a) (W.mul (eF b) (W.fdiv (eF a) (eF b)))).1)):I);refine sC (AV [pI r10]) aB (bU (W.sub (eF a) (W.mul (eF b) (W.fdiv (eF a) (eF b)))).1 (W.sub (eF a) (W.mul (eF b) (W.fdiv (eF a) (eF b)))).2) O O (by subst hr10;rfl) (go3 ?_);refine rtX O (dP O m0 tyT O) ?_;exact (by subst hr10;exact congrArg vS4 (show _=(lR a b) from aX h9 O))
 refine go2 ?_;refine gJv (rg [] 37 14) [(50,.bool (!a.1.good||(!b.1.good||(((dl (val b.1.w)).length:Int)==0))))] (fun K4 J4=>?_) ?_
 ·refine go2 ?_;refine sC (.bool a.1.good) aB (bW a.1 a.2) O O O (go_ ?_);rcases bt a.1.good with h14|h14
  ·refine sB (fZ h14) O (go_ ?_);refine sC (.bool b.1.good) aB (bW b.1 b.2) O O O (go2 ?_);rcases bt b.1.good with h15|h15
   ·refine sB (fZ h15) O (go_ ?_);refine aZ O (gK aB O (fun w hw=>bS b.1 b.2 w) (fun vl16 Ll16 kl16=>?_))
    try simp only [iI,nC] at kl16
    refine sQ (aY (v':=.int .i64 ((dl (val b.1.w)).length:Int)) (oV iV O (SL.sub kl16.sl lZ)) O) O (go3 ?_);refine J4 _ _ pp_ (sR s0) (bH (lE h14 (lE h15 O)))
   refine sB (iX h15) O (go6 ?_);refine J4 _ _ pp_ s0 (bH (lE h14 (oG h15)))
  refine sB (iX h14) O (BG ?_);refine J4 _ _ pp_ s0 (bH (oG h14))
 intro g17;refine aH _ O (fun h18=>?_) (fun h18=>?_)
 ·refine go_ ?_;refine sC (AV [pI (E Z.bad)]) aB eO O O O (go3 ?_);refine rtX O (dP O m0 tyT O) ?_;exact congrArg vS4 (show _=(lR a b) from aJ h9 (aX h18 O))
 refine go_ ?_;refine gds sn [0,8,5,13,17,20,24,28,32,36] [] mix (by kernel_rfl) (go2 ?_);refine bP O O (gK aB O (fun w hw=>bS a.1 a.2 w) (fun vl19 Ll19 kl19=>⟨(fun _=>sR s0),sn,?_⟩))
 try simp only [iI,nC] at kl19
 refine bP O O (gK aB O (fun w hw=>bS b.1 b.2 w) (fun vl20 Ll20 kl20=>⟨(fun _=>sR s0),sn,?_⟩))
 try simp only [iI,nC] at kl20
 have hB:=aG_ h18;refine bP O O (CX aB O (fun w hw=>n7 vl19 vl20 (val a.1.w) (val b.1.w) hB (Nat.le_trans (jT (k:=32) (rU a.2)) dd_) (Nat.le_trans (jT (k:=32) (rU b.2)) dd_) w (SL.sl (SL.sub kl19.sl (sR lZ)) hw) (SL.sl (SL.sub kl20.sl lZ) hw)) (fun vl21_0 vl21_1 Ll21 kl21_0 kl21_1=>⟨(fun _=>sR s0),sn,?_⟩))
 try simp only [iI,nC] at kl21_0 kl21_1
 refine go7 ?_;refine gJv (rg [] 60 10) [(69,.bool ((a.1.neg != b.1.neg)&&decide (0<((dl ((val a.1.w) % (val b.1.w))).length:Int))))] (fun K6 J6=>?_) ?_
 ·refine go5 ?_;refine sQ (aY (v':=.bool (a.1.neg != b.1.neg)) (vU C6 O O) O) O ?_;refine sBB O (fun h23=>?_) (fun h23=>?_)
  ·refine go_ ?_;refine sQ (aY (v':=.int .i64 ((dl ((val a.1.w) % (val b.1.w))).length:Int)) (oV iV O (SL.sub kl21_1 lZ)) O) O (go3 ?_);refine J6 _ _ pp_ s0 (bH (mW h23 O))
  refine go5 ?_;refine J6 _ _ pp_ s0 (bH (pU h23))
 intro g24;refine aH _ O (fun h25=>?_) (fun h25=>?_)
 ·refine go2 ?_;refine aZ O (gK aB O (fun w hw=>bS b.1 b.2 w) (fun vl26 Ll26 kl26=>?_))
  try simp only [iI,nC] at kl26
  refine go_ ?_;refine aZ O (gK aB O (fun w hw=>mQ vl26 vl21_1 (dl (val b.1.w)) (dl ((val a.1.w) % (val b.1.w))) (lN _) (lN _) (Nat.le_trans (jT (k:=32) (rU b.2)) dd_) (Nat.le_trans (jT (k:=32) (c0_ (rU a.2))) dd_) (by simp only [iI,nC];exact (Nat.le_of_lt (Nat.mod_lt _ hB))) w (SL.sl (SL.sub kl26.sl lZ) hw) (SL.sl (SL.sub kl21_1 (sR lZ)) hw)) (fun vl27 Ll27 kl27=>?_))
  try simp only [iI,nC] at kl27
  refine go6 ?_;refine sQ (aY (v':=AV [pI (E (Z.of (sgn b.1.neg ((val b.1.w) - ((val a.1.w) % (val b.1.w))))))]) (dF aB O (fun w hw=>dU b.1.neg vl27 (dl ((val b.1.w) - ((val a.1.w) % (val b.1.w)))) (lN _) (Nat.le_trans (jT (k:=32) (bz_ (rU b.2))) dd_) w (SL.sl (SL.sub kl27.sl lZ) hw))) (by rw [(iI _)];rfl)) O (go3 ?_);refine rtX O (dP O (mA (mA (mA (mA (mA mZ))))) tyT O) ?_;exact congrArg vS4 (show _=(lR a b) from aJ h9 (aJ h18 (aX h25 O)))
 refine go5 ?_;refine sQ (aY (v':=AV [pI (E (Z.of (sgn b.1.neg ((val a.1.w) % (val b.1.w)))))]) (dF aB O (fun w hw=>dU b.1.neg vl21_1 (dl ((val a.1.w) % (val b.1.w))) (lN _) (Nat.le_trans (jT (k:=32) (c0_ (rU a.2))) dd_) w (SL.sl (SL.sub kl21_1 lZ) hw))) (by rw [(iI _)];rfl)) O (go3 ?_);refine rtX O (dP O (mA (mA (mA mZ))) tyT O) ?_;exact congrArg vS4 (show _=(lR a b) from aJ h9 (aJ h18 (aJ h25 O)))
theorem vM (a b:R) (ha:a.Ok) (hb:b.Ok):Ret prog 215 [RV a,RV b] (RV (Z.rem a.dec b.dec).enc):=by
 have h:=BP ⟨a,ha⟩ ⟨b,hb⟩;rw [AE] at h;exact h
end Go.Proofs.YtkjjponijamaoaaGreatDoor
