/- Lemmas: what they ask stands in their statements. -/
import Derived.Test.YtokjfhfiodopdaaGreatZSb
import Derived.Test.YtokjfhfiodopdaaGreatZWg
set_option linter.unusedSimpArgs false
set_option linter.unusedVariables false
set_option maxHeartbeats 8000000
set_option maxRecDepth 20000
namespace Go.Proofs.YtokjfhfiodopdaaGreat
open Go.Kn Go.Num Tryz
attribute [local irreducible] Go.Kn.W WL PL OpQ OpR OpS
theorem zN  :
  Ret prog 175 [] (AV [pI F_ratio_one]):=by
 refine bU (N:=2) func175 O O zz_ (fun w0=>?_);refine giI ?_;obtain ⟨q0,hq0⟩:=nm ((E (Z.of 1)):I);refine go2 ?_;intro b1 hb1;refine go2 ?_;refine sC (AV [pI q0]) aM (fS (wl 1).1 (wl 1).2) O O (by subst hq0;rfl) ?_;refine go3 ?_;refine rtX O (iJ O m0 tyT O) ?_;exact (by obtain rfl:=hq0.symm;rfl)
theorem lP  :
  Ret prog 158 [] (AV [pI pN.n,pI pN.d]):=by
 refine bU (N:=4) func158 O O zz_ (fun w0=>?_);refine giI ?_;obtain ⟨q0,hq0⟩:=nm ((E Z.bad):I);obtain ⟨q1,hq1⟩:=nm (F_ratio_one:I);refine go2 ?_;intro b1 hb1;refine go2 ?_;refine sC (AV [pI q0]) aM iB O O (by subst hq0;rfl) (sC (AV [pI q1]) aM zN O O (by subst hq1;rfl) (go4 ?_));refine rtX O (iJ O m0 tyT O) ?_;exact (by subst_vars;rfl)
theorem qS (a:I) :
    Ret prog 174 [AV [pI a]] (.bool (jN a)):=by
 refine bU (N:=10) func174 O O zz_ (fun w0=>?_);refine giI ?_;refine go2 ?_;intro b1 hb1;refine go2 ?_;refine gJv (rg [] 2 8) [(2,.bool (!a.1.bad&&a.1.valid))] (fun K1 J1=>?_) ?_
 ·refine go4 ?_;rcases bt a.1.bad with h3|h3
  ·refine sB (iI h3) O (go5 ?_);refine J1 _ _ pp_ s0 (bH (z7 h3))
  refine sB (iG h3) O (go_ ?_);refine sC (.bool a.1.valid) aM (sW a.1 a.2) O O O (go3 ?_);refine J1 _ _ pp_ s0 (bH (qO h3 O))
 intro g4;refine go_ ?_;refine rt1 ?_;exact (by rfl)
theorem kW (a:Rt) :
    Ret prog 141 [AV [pI a.n,pI a.d]] (.bool (bX a)):=by
 refine bU (N:=26) func141 O O zz_ (fun w0=>?_);refine giI ?_;refine go2 ?_;intro b1 hb1;refine go2 ?_;refine gJv (rg [] 2 24) [(2,.bool ((jN a.n)&&((jN a.d)&&(decide (0<(Z.signW a.d.dec).1)&&decide ((E (Z.gcd a.n.dec a.d.dec))=F_ratio_one)))))] (fun K1 J1=>?_) ?_
 ·refine go3 ?_;refine sQ (bR aM (qS a.n) O) O ?_;refine sBB O (fun h5=>?_) (fun h5=>?_)
  ·refine go2 ?_;refine sQ (bR aM (qS a.d) O) O (go_ ?_);refine sBB O (fun h6=>?_) (fun h6=>?_)
   ·refine go2 ?_;refine sC (.int .i64 ((Z.signW a.d.dec).1)) aM (gD a.d.1 a.d.2) O O O (go2 ?_);refine sBB O (fun h7=>?_) (fun h7=>?_)
    ·refine go4 ?_;refine sC (AV [pI (E (Z.gcd a.n.dec a.d.dec))]) aM (rY a.n.1 a.d.1 a.n.2 a.d.2) O O O (sQ (bR aM zN  rfl) O ?_);refine sQ (wP (r:=decide ((E (Z.gcd a.n.dec a.d.dec))=F_ratio_one)) O O (nJ 8 dd_ RI R6 (o3 kN) (o3 kN) (uR rF))) O (go3 ?_);refine J1 _ _ pp_ s0 (bH (cG h5 (cG h6 (cG h7 O))))
    refine o2 ?_;refine J1 _ _ pp_ s0 (bH (cG h5 (cG h6 (hJ h7))))
   refine eT_ ?_;refine J1 _ _ pp_ s0 (bH (cG h5 (hJ h6)))
  refine do_ ?_;refine J1 _ _ pp_ s0 (bH (hJ h5))
 intro g8;refine go_ ?_;refine rt1 ?_;exact (by rfl)
theorem oJ (a:I) (b:I) :
    Ret prog 159 [AV [pI a],AV [pI b]] (AV [pI ((cH a b).n),pI ((cH a b).d)]):=by
 refine bU (N:=35) func159 O O zz_ (fun w0=>?_);refine giI ?_;refine go2 ?_;intro b1 hb1;refine go_ ?_;intro b2 hb2;refine go_ ?_;intro b3 hb3;refine go2 ?_;refine gJv (rg [] 6 13) [(18,.bool (!(jN a)||(!(jN b)||((Z.signW b.dec).1==0))))] (fun K2 J2=>?_) ?_
 ·refine go2 ?_;refine sQ (bR aM (qS a) O) O (go_ ?_);rcases bt (jN a) with h6|h6
  ·refine sB (iI h6) O (go_ ?_);refine sQ (bR aM (qS b) O) O (go2 ?_);rcases bt (jN b) with h7|h7
   ·refine sB (iI h7) O (go_ ?_);refine sC (.int .i64 ((Z.signW b.dec).1)) aM (gD b.1 b.2) O O O (go3 ?_);refine J2 _ _ pp_ s0 (bH (oB h6 (oB h7 O)))
   refine sB (iG h7) O (go5 ?_);refine J2 _ _ pp_ s0 (bH (oB h6 (pS h7)))
  refine sB (iG h6) O (o2 ?_);refine J2 _ _ pp_ s0 (bH (pS h6))
 intro g8;refine aQ _ O (fun h9=>?_) (fun h9=>?_)
 ·refine go_ ?_;refine sQ (bR aM lP  rfl) O (go3 ?_);refine rtX O (iJ O m0 tyT O) ?_;exact congrArg vS6 (show _=(cH a b) from aY h9 O)
 refine go4 ?_;refine sC (AV [pI (E (Z.gcd a.dec b.dec))]) aM (rY a.1 b.1 a.2 b.2) O O O (go_ ?_);intro b10 hb10;refine go5 ?_;refine sC (.int .i64 ((Z.signW b.dec).1)) aM (gD b.1 b.2) O O O (go2 ?_);refine aQ _ O (fun h11=>?_) (fun h11=>?_)
 ·refine go2 ?_;refine sC (AV [pI (E (Z.neg (Z.gcd a.dec b.dec)))]) aM (vB (E (Z.gcd a.dec b.dec)).1 (E (Z.gcd a.dec b.dec)).2) O O (cg1 (fun p=>AV [pI (E (Z.neg p))]) (cJ _)) (go2 ?_);refine sK (sk (sd (sk (sk s0)))) 8 [7] [7] (go2 ?_);refine pC (AV [pI (E (Z.quo a.dec (Z.neg (Z.gcd a.dec b.dec))))]) aM (i5 a.1 (E (Z.neg (Z.gcd a.dec b.dec))).1 a.2 (E (Z.neg (Z.gcd a.dec b.dec))).2) O O (cg2 (fun p q=>AV [pI (E (Z.quo p q))]) O (cJ _)) (go2 ?_);refine pC (AV [pI (E (Z.quo b.dec (Z.neg (Z.gcd a.dec b.dec))))]) aM (i5 b.1 (E (Z.neg (Z.gcd a.dec b.dec))).1 b.2 (E (Z.neg (Z.gcd a.dec b.dec))).2) O O (cg2 (fun p q=>AV [pI (E (Z.quo p q))]) O (cJ _)) (pQ O (m7 zpT plT O (.cons [pI (E (Z.quo a.dec (Z.neg (Z.gcd a.dec b.dec))))] [pI (E (Z.quo a.dec (Z.neg (Z.gcd a.dec b.dec)))),pI I0] O O O O (.cons [pI (E (Z.quo b.dec (Z.neg (Z.gcd a.dec b.dec))))] [pI (E (Z.quo a.dec (Z.neg (Z.gcd a.dec b.dec)))),pI (E (Z.quo b.dec (Z.neg (Z.gcd a.dec b.dec))))] O O O O (.nil _)))) (go3 ?_));refine rtX O (iJ O m1 tyT O) ?_;exact congrArg vS6 (show _=(cH a b) from aT h9 (aY h11 O))
 refine go_ ?_;refine sK (sk (sd (sk (sk s0)))) 8 [7] [7] (go2 ?_);refine pC (AV [pI (E (Z.quo a.dec (Z.gcd a.dec b.dec)))]) aM (i5 a.1 (E (Z.gcd a.dec b.dec)).1 a.2 (E (Z.gcd a.dec b.dec)).2) O O (cg2 (fun p q=>AV [pI (E (Z.quo p q))]) O (cJ _)) (go2 ?_);refine pC (AV [pI (E (Z.quo b.dec (Z.gcd a.dec b.dec)))]) aM (i5 b.1 (E (Z.gcd a.dec b.dec)).1 b.2 (E (Z.gcd a.dec b.dec)).2) O O (cg2 (fun p q=>AV [pI (E (Z.quo p q))]) O (cJ _)) (pQ O (m7 zpT plT O (.cons [pI (E (Z.quo a.dec (Z.gcd a.dec b.dec)))] [pI (E (Z.quo a.dec (Z.gcd a.dec b.dec))),pI I0] O O O O (.cons [pI (E (Z.quo b.dec (Z.gcd a.dec b.dec)))] [pI (E (Z.quo a.dec (Z.gcd a.dec b.dec))),pI (E (Z.quo b.dec (Z.gcd a.dec b.dec)))] O O O O (.nil _)))) (go3 ?_));refine rtX O (iJ O m1 tyT O) ?_;exact congrArg vS6 (show _=(cH a b) from aT h9 (aT h11 O))
theorem HJ (a:Rt) :
   Ret prog 167 [AV [pI a.n,pI a.d]] (AV [pI ((m9 a).n),pI ((m9 a).d)]):=by
 refine bU (N:=13) func167 O O zz_ (fun w0=>?_);refine giI ?_;refine go2 ?_;intro b1 hb1;refine go_ ?_;intro b2 hb2;refine go4 ?_;refine sQ (bR aM (kW a) O) O (go2 ?_);rcases bt (bX a) with h3|h3
 ·refine W_f (iI h3) O (go_ ?_);refine sK (sd (sk s0)) 7 [6] [6] (go2 ?_);refine pC (AV [pI (E (Z.neg a.n.dec))]) aM (vB a.n.1 a.n.2) O O O (go2 ?_);refine pQ O (m7 zpT plT O (.cons [pI (E (Z.neg a.n.dec))] [pI (E (Z.neg a.n.dec)),pI I0] O O O O (.cons [pI a.d] [pI (E (Z.neg a.n.dec)),pI a.d] O O O O (.nil _)))) (go3 ?_);refine rtX O (iJ O m0 tyT O) ?_;exact congrArg vS6 (show _=(m9 a) from aY h3 O)
 refine W_t (iG h3) O (go_ ?_);refine sQ (bR aM lP  rfl) O (go3 ?_);refine rtX O (iJ O m0 tyT O) ?_;exact congrArg vS6 (show _=(m9 a) from aT h3 O)
theorem zM (a:Rt) (b:Rt) :
    Ret prog 106 [AV [pI a.n,pI a.d],AV [pI b.n,pI b.d]] (AV [pI ((kS a b).n),pI ((kS a b).d)]):=by
 refine bU (N:=44) func106 O O zz_ (fun w0=>?_);refine giI ?_;refine go2 ?_;intro b1 hb1;refine go_ ?_;intro b2 hb2;refine go_ ?_;intro b3 hb3;refine go2 ?_;refine gJv (rg [] 8 8) [(15,.bool (!(bX a)||(!(bX b))))] (fun K2 J2=>?_) ?_
 ·refine go2 ?_;refine sQ (bR aM (kW a) O) O (go_ ?_);rcases bt (bX a) with h5|h5
  ·refine sB (iI h5) O (go_ ?_);refine sQ (bR aM (kW b) O) O (go3 ?_);refine J2 _ _ pp_ s0 (bH (oB h5 O))
  refine sB (iG h5) O (go5 ?_);refine J2 _ _ pp_ s0 (bH (pS h5))
 intro g6;refine aQ _ O (fun h7=>?_) (fun h7=>?_)
 ·refine go_ ?_;refine sQ (bR aM lP  rfl) O (go3 ?_);refine rtX O (iJ O m0 tyT O) ?_;exact congrArg vS6 (show _=(kS a b) from aY h7 O)
 refine go6 ?_;refine sC (AV [pI (E (Z.gcd a.d.dec b.d.dec))]) aM (rY a.d.1 b.d.1 a.d.2 b.d.2) O O O (go_ ?_);intro b8 hb8;refine go2 ?_;refine gDs (sk (sk (sk (sk s0)))) (.quiet 0 [1,3,7,10,11] (.quiet 1 [3,7,10,11] (.quiet 2 [3,7,10,11] (.quiet 3 [7,10,11] (.quiet 4 [5,7,10,11] (.quiet 5 [7,10,11] (.quiet 6 [7,10,11] (.quiet 7 [10,11] (.both 8 (.only 9 (.only 10 (.only 11 (.fin)))) 9 (.only 8 (.only 10 (.only 11 (.fin))))))))))))) [0,1,2,3,4,5,6,7,8,9] mix (by kernel_rfl) (by kernel_rfl) (go3 ?_);refine pC (AV [pI (E (Z.quo a.d.dec (Z.gcd a.d.dec b.d.dec)))]) aM (i5 a.d.1 (E (Z.gcd a.d.dec b.d.dec)).1 a.d.2 (E (Z.gcd a.d.dec b.d.dec)).2) O O (cg2 (fun p q=>AV [pI (E (Z.quo p q))]) O (cJ _)) (go3 ?_);refine pC (AV [pI (E (Z.quo b.d.dec (Z.gcd a.d.dec b.d.dec)))]) aM (i5 b.d.1 (E (Z.gcd a.d.dec b.d.dec)).1 b.d.2 (E (Z.gcd a.d.dec b.d.dec)).2) O O (cg2 (fun p q=>AV [pI (E (Z.quo p q))]) O (cJ _)) ?_;refine HB ?_ ?_
 ·refine fP O O (gT zpT (fun b9 hb9=>⟨(fun _=>sd s0),(sd s0),?_⟩));refine fP O O (gT zpT (fun b10 hb10=>⟨(fun _=>sd s0),(sd (sd s0)),?_⟩));refine go3 ?_;refine gds (sk (sk (sk (sd (sk (sk s0)))))) [0,4,8,12,16,20,24,28,32,36,40,44,48,52,57] [14] mix (by kernel_rfl) (go3 ?_);refine pC (AV [pI (E (Z.mul a.n.dec (Z.quo b.d.dec (Z.gcd a.d.dec b.d.dec))))]) aM (dQ a.n.1 (E (Z.quo b.d.dec (Z.gcd a.d.dec b.d.dec))).1 a.n.2 (E (Z.quo b.d.dec (Z.gcd a.d.dec b.d.dec))).2) O O (cg2 (fun p q=>AV [pI (E (Z.mul p q))]) O (cJ _)) (go3 ?_);refine pC (AV [pI (E (Z.mul b.n.dec (Z.quo a.d.dec (Z.gcd a.d.dec b.d.dec))))]) aM (dQ b.n.1 (E (Z.quo a.d.dec (Z.gcd a.d.dec b.d.dec))).1 b.n.2 (E (Z.quo a.d.dec (Z.gcd a.d.dec b.d.dec))).2) O O (cg2 (fun p q=>AV [pI (E (Z.mul p q))]) O (cJ _)) ?_;obtain ⟨r11,hr11⟩:=nm ((E (Z.add (Z.mul a.n.dec (Z.quo b.d.dec (Z.gcd a.d.dec b.d.dec))) (Z.mul b.n.dec (Z.quo a.d.dec (Z.gcd a.d.dec b.d.dec))))):I);refine pC (AV [pI r11]) aM (mT (E (Z.mul a.n.dec (Z.quo b.d.dec (Z.gcd a.d.dec b.d.dec)))).1 (E (Z.mul b.n.dec (Z.quo a.d.dec (Z.gcd a.d.dec b.d.dec)))).1 (E (Z.mul a.n.dec (Z.quo b.d.dec (Z.gcd a.d.dec b.d.dec)))).2 (E (Z.mul b.n.dec (Z.quo a.d.dec (Z.gcd a.d.dec b.d.dec)))).2) O O ((cg2 (fun p q=>AV [pI (E (Z.add p q))]) (cJ _) (cJ _)).trans (by rw [hr11])) (go3 ?_);refine pC (AV [pI (E (Z.mul (Z.quo a.d.dec (Z.gcd a.d.dec b.d.dec)) b.d.dec))]) aM (dQ (E (Z.quo a.d.dec (Z.gcd a.d.dec b.d.dec))).1 b.d.1 (E (Z.quo a.d.dec (Z.gcd a.d.dec b.d.dec))).2 b.d.2) O O (cg2 (fun p q=>AV [pI (E (Z.mul p q))]) (cJ _) O) ?_;obtain ⟨r12,hr12⟩:=nm ((cH r11 (E (Z.mul (Z.quo a.d.dec (Z.gcd a.d.dec b.d.dec)) b.d.dec))):Rt);refine pC (AV [pI r12.n,pI r12.d]) aM (oJ r11 (E (Z.mul (Z.quo a.d.dec (Z.gcd a.d.dec b.d.dec)) b.d.dec))) O O (by rw [hr12]) (go3 ?_);refine rtX O (iJ O m3 tyT O) ?_
  subst_vars;exact congrArg vS6 (show _=(kS a b) from aT h7 O)
 refine fP O O (gT zpT (fun b13 hb13=>⟨(fun _=>sd s0),(sd s0),?_⟩));refine fP O O (gT zpT (fun b14 hb14=>⟨(fun _=>sd s0),(sd (sd s0)),?_⟩));refine go3 ?_;refine gds (sk (sk (sk (sd (sk (sk s0)))))) [0,4,8,12,16,20,24,28,32,36,40,44,48,52,57] [14] mix (by kernel_rfl) (go3 ?_);refine pC (AV [pI (E (Z.mul a.n.dec (Z.quo b.d.dec (Z.gcd a.d.dec b.d.dec))))]) aM (dQ a.n.1 (E (Z.quo b.d.dec (Z.gcd a.d.dec b.d.dec))).1 a.n.2 (E (Z.quo b.d.dec (Z.gcd a.d.dec b.d.dec))).2) O O (cg2 (fun p q=>AV [pI (E (Z.mul p q))]) O (cJ _)) (go3 ?_);refine pC (AV [pI (E (Z.mul b.n.dec (Z.quo a.d.dec (Z.gcd a.d.dec b.d.dec))))]) aM (dQ b.n.1 (E (Z.quo a.d.dec (Z.gcd a.d.dec b.d.dec))).1 b.n.2 (E (Z.quo a.d.dec (Z.gcd a.d.dec b.d.dec))).2) O O (cg2 (fun p q=>AV [pI (E (Z.mul p q))]) O (cJ _)) ?_;obtain ⟨r15,hr15⟩:=nm ((E (Z.add (Z.mul a.n.dec (Z.quo b.d.dec (Z.gcd a.d.dec b.d.dec))) (Z.mul b.n.dec (Z.quo a.d.dec (Z.gcd a.d.dec b.d.dec))))):I);refine pC (AV [pI r15]) aM (mT (E (Z.mul a.n.dec (Z.quo b.d.dec (Z.gcd a.d.dec b.d.dec)))).1 (E (Z.mul b.n.dec (Z.quo a.d.dec (Z.gcd a.d.dec b.d.dec)))).1 (E (Z.mul a.n.dec (Z.quo b.d.dec (Z.gcd a.d.dec b.d.dec)))).2 (E (Z.mul b.n.dec (Z.quo a.d.dec (Z.gcd a.d.dec b.d.dec)))).2) O O ((cg2 (fun p q=>AV [pI (E (Z.add p q))]) (cJ _) (cJ _)).trans (by rw [hr15])) (go3 ?_);refine pC (AV [pI (E (Z.mul (Z.quo a.d.dec (Z.gcd a.d.dec b.d.dec)) b.d.dec))]) aM (dQ (E (Z.quo a.d.dec (Z.gcd a.d.dec b.d.dec))).1 b.d.1 (E (Z.quo a.d.dec (Z.gcd a.d.dec b.d.dec))).2 b.d.2) O O (cg2 (fun p q=>AV [pI (E (Z.mul p q))]) (cJ _) O) ?_;obtain ⟨r16,hr16⟩:=nm ((cH r15 (E (Z.mul (Z.quo a.d.dec (Z.gcd a.d.dec b.d.dec)) b.d.dec))):Rt);refine pC (AV [pI r16.n,pI r16.d]) aM (oJ r15 (E (Z.mul (Z.quo a.d.dec (Z.gcd a.d.dec b.d.dec)) b.d.dec))) O O (by rw [hr16]) (go3 ?_);refine rtX O (iJ O m3 tyT O) ?_
 subst_vars;exact congrArg vS6 (show _=(kS a b) from aT h7 O)
theorem HK (a:Rt) (b:Rt) :
  Ret prog 114 [AV [pI a.n,pI a.d],AV [pI b.n,pI b.d]] (AV [pI ((gJ a b).n),pI ((gJ a b).d)]):=by
 refine bU (N:=9) func114 O O zz_ (fun w0=>?_);refine giI ?_;refine go2 ?_;intro b1 hb1;refine go_ ?_;intro b2 hb2;refine go_ ?_;intro b3 hb3;refine go_ ?_;refine sK (sd (sk (sk s0))) 5 [4] [4] (go2 ?_);refine pQ O (bR aM (HJ b) O) (pQ O (bR aM (zM a (m9 b)) O) (go3 ?_));refine rtX O (iJ O m0 tyT O) ?_;exact (by rfl)
theorem HI (a:Rt) (b:Rt) :
    Ret prog 105 [AV [pI a.n,pI a.d],AV [pI b.n,pI b.d]] (AV [pI ((iX a b).n),pI ((iX a b).d)]):=by
 refine bU (N:=48) func105 O O zz_ (fun w0=>?_);refine giI ?_;refine go2 ?_;intro b1 hb1;refine go_ ?_;intro b2 hb2;refine go_ ?_;intro b3 hb3;refine go2 ?_;refine gJv (rg [] 9 8) [(16,.bool (!(bX a)||(!(bX b))))] (fun K2 J2=>?_) ?_
 ·refine go2 ?_;refine sQ (bR aM (kW a) O) O (go_ ?_);rcases bt (bX a) with h5|h5
  ·refine sB (iI h5) O (go_ ?_);refine sQ (bR aM (kW b) O) O (go3 ?_);refine J2 _ _ pp_ s0 (bH (oB h5 O))
  refine sB (iG h5) O (go5 ?_);refine J2 _ _ pp_ s0 (bH (pS h5))
 intro g6;refine aQ _ O (fun h7=>?_) (fun h7=>?_)
 ·refine go_ ?_;refine sQ (bR aM lP  rfl) O (go3 ?_);refine rtX O (iJ O m0 tyT O) ?_;exact congrArg vS6 (show _=(iX a b) from aY h7 O)
 refine go_ ?_;refine gDs (sk (sk (sk s0))) (.quiet 0 [1,4,9,12,13] (.quiet 1 [4,9,12,13] (.quiet 2 [3,4,9,12,13] (.quiet 3 [4,9,12,13] (.quiet 4 [9,12,13] (.quiet 5 [6,9,12,13] (.quiet 6 [9,12,13] (.quiet 7 [8,9,12,13] (.quiet 8 [9,12,13] (.quiet 9 [12,13] (.both 10 (.only 11 (.only 12 (.only 13 (.fin)))) 11 (.only 10 (.only 12 (.only 13 (.fin))))))))))))))) [0,1,2,3,4,5,6,7,8,9,10,11] mix (by kernel_rfl) (by kernel_rfl) (go4 ?_);refine pQ O (bR aM (oJ a.n b.d) O) (go4 ?_);refine pQ O (bR aM (oJ b.n a.d) O) ?_;refine HB ?_ ?_
 ·refine fP O O (gT zpT (fun b8 hb8=>⟨(fun _=>sd s0),(sd s0),?_⟩));refine fP O O (gT zpT (fun b9 hb9=>⟨(fun _=>sd s0),(sd (sd s0)),?_⟩));refine go3 ?_;refine gDs (sk (sd (sk (sk (sk s0))))) (.quiet 0 [1,4,9,12,13] (.quiet 1 [4,9,12,13] (.quiet 2 [3,4,9,12,13] (.quiet 3 [4,9,12,13] (.quiet 4 [9,12,13] (.quiet 5 [6,9,12,13] (.quiet 6 [9,12,13] (.quiet 7 [8,9,12,13] (.quiet 8 [9,12,13] (.quiet 9 [12,13] (.both 10 (.only 11 (.only 12 (.only 13 (.fin)))) 11 (.only 10 (.only 12 (.only 13 (.fin))))))))))))))) [0,1,2,3,4,5,6,7,8,9,10,11] mix (by kernel_rfl) (by kernel_rfl) (go4 ?_);obtain ⟨r10,hr10⟩:=nm ((E (Z.mul ((cH a.n b.d).n).dec ((cH b.n a.d).n).dec)):I);refine pC (AV [pI r10]) aM (dQ ((cH a.n b.d).n).1 ((cH b.n a.d).n).1 ((cH a.n b.d).n).2 ((cH b.n a.d).n).2) O O (by subst hr10;rfl) (go4 ?_);obtain ⟨r11,hr11⟩:=nm ((E (Z.mul ((cH a.n b.d).d).dec ((cH b.n a.d).d).dec)):I);refine pC (AV [pI r11]) aM (dQ ((cH a.n b.d).d).1 ((cH b.n a.d).d).1 ((cH a.n b.d).d).2 ((cH b.n a.d).d).2) O O (by subst hr11;rfl) ?_;refine HB ?_ ?_
  ·refine fP O O (gT zpT (fun b12 hb12=>⟨(fun _=>sd s0),(sd (sk (sd s0))),?_⟩));refine fP O O (gT zpT (fun b13 hb13=>⟨(fun _=>sd s0),(sd (sd (sk (sd s0)))),?_⟩));refine go4 ?_;refine gJv [38,39,40,41,42,43] [(43,.bool (r10.1.bad||r11.1.bad))] (fun K4 J4=>?_) ?_
   ·refine go3 ?_;refine sBB O (fun h15=>?_) (fun h15=>?_)
    ·refine go4 ?_;refine J4 _ _ pp_ s0 (bH (oI h15))
    refine go4 ?_;refine J4 _ _ pp_ s0 (bH (nS h15 O))
   intro g16;refine aQ _ O (fun h17=>?_) (fun h17=>?_)
   ·refine go_ ?_;refine sQ (bR aM lP  rfl) O (go3 ?_);refine rtX O (iJ O m4 tyT O) ?_
    subst_vars;exact congrArg vS6 (show _=(iX a b) from aT h7 (aY h17 O))
   refine go8 ?_;refine rtX O (iJ O m4 tyT O) ?_
   subst_vars;exact congrArg vS6 (show _=(iX a b) from aT h7 (aT h17 O))
  refine fP O O (gT zpT (fun b18 hb18=>⟨(fun _=>sd s0),(sd (sk (sd s0))),?_⟩));refine fP O O (gT zpT (fun b19 hb19=>⟨(fun _=>sd s0),(sd (sd (sk (sd s0)))),?_⟩));refine go4 ?_;refine gJv [38,39,40,41,42,43] [(43,.bool (r10.1.bad||r11.1.bad))] (fun K6 J6=>?_) ?_
  ·refine go3 ?_;refine sBB O (fun h21=>?_) (fun h21=>?_)
   ·refine go4 ?_;refine J6 _ _ pp_ s0 (bH (oI h21))
   refine go4 ?_;refine J6 _ _ pp_ s0 (bH (nS h21 O))
  intro g22;refine aQ _ O (fun h23=>?_) (fun h23=>?_)
  ·refine go_ ?_;refine sQ (bR aM lP  rfl) O (go3 ?_);refine rtX O (iJ O m4 tyT O) ?_
   subst_vars;exact congrArg vS6 (show _=(iX a b) from aT h7 (aY h23 O))
  refine go8 ?_;refine rtX O (iJ O m4 tyT O) ?_
  subst_vars;exact congrArg vS6 (show _=(iX a b) from aT h7 (aT h23 O))
 refine fP O O (gT zpT (fun b24 hb24=>⟨(fun _=>sd s0),(sd s0),?_⟩));refine fP O O (gT zpT (fun b25 hb25=>⟨(fun _=>sd s0),(sd (sd s0)),?_⟩));refine go3 ?_;refine gDs (sk (sk (sk (sk (sk s0))))) (.quiet 0 [1,4,9,12,13] (.quiet 1 [4,9,12,13] (.quiet 2 [3,4,9,12,13] (.quiet 3 [4,9,12,13] (.quiet 4 [9,12,13] (.quiet 5 [6,9,12,13] (.quiet 6 [9,12,13] (.quiet 7 [8,9,12,13] (.quiet 8 [9,12,13] (.quiet 9 [12,13] (.both 10 (.only 11 (.only 12 (.only 13 (.fin)))) 11 (.only 10 (.only 12 (.only 13 (.fin))))))))))))))) [0,1,2,3,4,5,6,7,8,9,10,11] mix (by kernel_rfl) (by kernel_rfl) (go4 ?_);obtain ⟨r26,hr26⟩:=nm ((E (Z.mul ((cH a.n b.d).n).dec ((cH b.n a.d).n).dec)):I);refine pC (AV [pI r26]) aM (dQ ((cH a.n b.d).n).1 ((cH b.n a.d).n).1 ((cH a.n b.d).n).2 ((cH b.n a.d).n).2) O O (by subst hr26;rfl) (go4 ?_);obtain ⟨r27,hr27⟩:=nm ((E (Z.mul ((cH a.n b.d).d).dec ((cH b.n a.d).d).dec)):I);refine pC (AV [pI r27]) aM (dQ ((cH a.n b.d).d).1 ((cH b.n a.d).d).1 ((cH a.n b.d).d).2 ((cH b.n a.d).d).2) O O (by subst hr27;rfl) ?_;refine HB ?_ ?_
 ·refine fP O O (gT zpT (fun b28 hb28=>⟨(fun _=>sd s0),(sd s0),?_⟩));refine fP O O (gT zpT (fun b29 hb29=>⟨(fun _=>sd s0),(sd (sd s0)),?_⟩));refine go4 ?_;refine gJv [38,39,40,41,42,43] [(43,.bool (r26.1.bad||r27.1.bad))] (fun K8 J8=>?_) ?_
  ·refine go3 ?_;refine sBB O (fun h31=>?_) (fun h31=>?_)
   ·refine go4 ?_;refine J8 _ _ pp_ s0 (bH (oI h31))
   refine go4 ?_;refine J8 _ _ pp_ s0 (bH (nS h31 O))
  intro g32;refine aQ _ O (fun h33=>?_) (fun h33=>?_)
  ·refine go_ ?_;refine sQ (bR aM lP  rfl) O (go3 ?_);refine rtX O (iJ O m4 tyT O) ?_
   subst_vars;exact congrArg vS6 (show _=(iX a b) from aT h7 (aY h33 O))
  refine go8 ?_;refine rtX O (iJ O m4 tyT O) ?_
  subst_vars;exact congrArg vS6 (show _=(iX a b) from aT h7 (aT h33 O))
 refine fP O O (gT zpT (fun b34 hb34=>⟨(fun _=>sd s0),(sd s0),?_⟩));refine fP O O (gT zpT (fun b35 hb35=>⟨(fun _=>sd s0),(sd (sd s0)),?_⟩));refine go4 ?_;refine gJv [38,39,40,41,42,43] [(43,.bool (r26.1.bad||r27.1.bad))] (fun K10 J10=>?_) ?_
 ·refine go3 ?_;refine sBB O (fun h37=>?_) (fun h37=>?_)
  ·refine go4 ?_;refine J10 _ _ pp_ s0 (bH (oI h37))
  refine go4 ?_;refine J10 _ _ pp_ s0 (bH (nS h37 O))
 intro g38;refine aQ _ O (fun h39=>?_) (fun h39=>?_)
 ·refine go_ ?_;refine sQ (bR aM lP  rfl) O (go3 ?_);refine rtX O (iJ O m4 tyT O) ?_
  subst_vars;exact congrArg vS6 (show _=(iX a b) from aT h7 (aY h39 O))
 refine go8 ?_;refine rtX O (iJ O m4 tyT O) ?_
 subst_vars;exact congrArg vS6 (show _=(iX a b) from aT h7 (aT h39 O))
theorem n8  :
  Ret prog 87 [] (AV [pI F_skewbackref04_one]):=by
 refine bU (N:=2) func87 O O zz_ (fun w0=>?_);refine giI ?_;obtain ⟨q0,hq0⟩:=nm ((E (Z.of 1)):I);refine go2 ?_;intro b1 hb1;refine go2 ?_;refine sC (AV [pI q0]) aM (e9 (wl 1).1 (wl 1).2) O O (by subst hq0;rfl) ?_;refine go3 ?_;refine rtX O (iJ O m0 tyT O) ?_;exact (by obtain rfl:=hq0.symm;rfl)
theorem xN  :
  Ret prog 80 [] (AV [pI gW.n,pI gW.d]):=by
 refine bU (N:=4) func80 O O zz_ (fun w0=>?_);refine giI ?_;obtain ⟨q0,hq0⟩:=nm ((E Z.bad):I);obtain ⟨q1,hq1⟩:=nm (F_skewbackref04_one:I);refine go2 ?_;intro b1 hb1;refine go2 ?_;refine sC (AV [pI q0]) aM dV O O (by subst hq0;rfl) (sC (AV [pI q1]) aM n8 O O (by subst hq1;rfl) (go4 ?_));refine rtX O (iJ O m0 tyT O) ?_;exact (by subst_vars;rfl)
theorem qV (a:I) (b:I) :
    Ret prog 71 [AV [pI a],AV [pI b]] (AV [pI ((bM a b).n),pI ((bM a b).d)]):=by
 refine bU (N:=35) func71 O O zz_ (fun w0=>?_);refine giI ?_;refine go2 ?_;intro b1 hb1;refine go_ ?_;intro b2 hb2;refine go_ ?_;intro b3 hb3;refine go2 ?_;refine gJv (rg [] 6 13) [(18,.bool (!a.1.good||(!b.1.good||((Z.signW b.dec).1==0))))] (fun K2 J2=>?_) ?_
 ·refine go2 ?_;refine sC (.bool a.1.good) aM (cI a.1 a.2) O O O (go_ ?_);rcases bt a.1.good with h6|h6
  ·refine sB (iI h6) O (go_ ?_);refine sC (.bool b.1.good) aM (cI b.1 b.2) O O O (go2 ?_);rcases bt b.1.good with h7|h7
   ·refine sB (iI h7) O (go_ ?_);refine sC (.int .i64 ((Z.signW b.dec).1)) aM (iE b.1 b.2) O O O (go3 ?_);refine J2 _ _ pp_ s0 (bH (oB h6 (oB h7 O)))
   refine sB (iG h7) O (go5 ?_);refine J2 _ _ pp_ s0 (bH (oB h6 (pS h7)))
  refine sB (iG h6) O (o2 ?_);refine J2 _ _ pp_ s0 (bH (pS h6))
 intro g8;refine aQ _ O (fun h9=>?_) (fun h9=>?_)
 ·refine go_ ?_;refine sQ (bR aM xN  rfl) O (go3 ?_);refine rtX O (iJ O m0 tyT O) ?_;exact congrArg vS6 (show _=(bM a b) from aY h9 O)
 refine go4 ?_;refine sC (AV [pI (E (Z.gcd a.dec b.dec))]) aM (n7 a.1 b.1 a.2 b.2) O O O (go_ ?_);intro b10 hb10;refine go5 ?_;refine sC (.int .i64 ((Z.signW b.dec).1)) aM (iE b.1 b.2) O O O (go2 ?_);refine aQ _ O (fun h11=>?_) (fun h11=>?_)
 ·refine go2 ?_;refine sC (AV [pI (E (Z.neg (Z.gcd a.dec b.dec)))]) aM (xK (E (Z.gcd a.dec b.dec)).1 (E (Z.gcd a.dec b.dec)).2) O O (cg1 (fun p=>AV [pI (E (Z.neg p))]) (cJ _)) (go2 ?_);refine sK (sk (sd (sk (sk s0)))) 8 [7] [7] (go2 ?_);refine pC (AV [pI (E (Z.quo a.dec (Z.neg (Z.gcd a.dec b.dec))))]) aM (l9 a.1 (E (Z.neg (Z.gcd a.dec b.dec))).1 a.2 (E (Z.neg (Z.gcd a.dec b.dec))).2) O O (cg2 (fun p q=>AV [pI (E (Z.quo p q))]) O (cJ _)) (go2 ?_);refine pC (AV [pI (E (Z.quo b.dec (Z.neg (Z.gcd a.dec b.dec))))]) aM (l9 b.1 (E (Z.neg (Z.gcd a.dec b.dec))).1 b.2 (E (Z.neg (Z.gcd a.dec b.dec))).2) O O (cg2 (fun p q=>AV [pI (E (Z.quo p q))]) O (cJ _)) (pQ O (m7 zpT plT O (.cons [pI (E (Z.quo a.dec (Z.neg (Z.gcd a.dec b.dec))))] [pI (E (Z.quo a.dec (Z.neg (Z.gcd a.dec b.dec)))),pI I0] O O O O (.cons [pI (E (Z.quo b.dec (Z.neg (Z.gcd a.dec b.dec))))] [pI (E (Z.quo a.dec (Z.neg (Z.gcd a.dec b.dec)))),pI (E (Z.quo b.dec (Z.neg (Z.gcd a.dec b.dec))))] O O O O (.nil _)))) (go3 ?_));refine rtX O (iJ O m1 tyT O) ?_;exact congrArg vS6 (show _=(bM a b) from aT h9 (aY h11 O))
 refine go_ ?_;refine sK (sk (sd (sk (sk s0)))) 8 [7] [7] (go2 ?_);refine pC (AV [pI (E (Z.quo a.dec (Z.gcd a.dec b.dec)))]) aM (l9 a.1 (E (Z.gcd a.dec b.dec)).1 a.2 (E (Z.gcd a.dec b.dec)).2) O O (cg2 (fun p q=>AV [pI (E (Z.quo p q))]) O (cJ _)) (go2 ?_);refine pC (AV [pI (E (Z.quo b.dec (Z.gcd a.dec b.dec)))]) aM (l9 b.1 (E (Z.gcd a.dec b.dec)).1 b.2 (E (Z.gcd a.dec b.dec)).2) O O (cg2 (fun p q=>AV [pI (E (Z.quo p q))]) O (cJ _)) (pQ O (m7 zpT plT O (.cons [pI (E (Z.quo a.dec (Z.gcd a.dec b.dec)))] [pI (E (Z.quo a.dec (Z.gcd a.dec b.dec))),pI I0] O O O O (.cons [pI (E (Z.quo b.dec (Z.gcd a.dec b.dec)))] [pI (E (Z.quo a.dec (Z.gcd a.dec b.dec))),pI (E (Z.quo b.dec (Z.gcd a.dec b.dec)))] O O O O (.nil _)))) (go3 ?_));refine rtX O (iJ O m1 tyT O) ?_;exact congrArg vS6 (show _=(bM a b) from aT h9 (aT h11 O))
theorem i3 (a:W) :
  Ret prog 40 [.int .i64 a.1] (AV [pI ((fE a).n),pI ((fE a).d)]):=by
 refine bU (N:=7) func40 O O zz_ (fun w0=>?_);refine giI ?_;refine go2 ?_;intro b1 hb1;refine go3 ?_;refine sC (AV [pI (E (Z.of a.1))]) aM (e9 a.1 a.2) O O O (sQ (bR aM n8  rfl) O ?_);obtain ⟨r2,hr2⟩:=nm ((bM (E (Z.of a.1)) F_skewbackref04_one):Rt);refine sC (AV [pI r2.n,pI r2.d]) aM (qV (E (Z.of a.1)) F_skewbackref04_one) O O (by rw [hr2]) (go3 ?_);refine rtX O (iJ O m0 tyT O) ?_;exact (by subst hr2;rfl)
theorem jB (a:W) (b:W) :
  Ret prog 30 [.int .i64 a.1,.int .i64 b.1] (AV [pI ((bB a b).n),pI ((bB a b).d)]):=by
 refine bU (N:=10) func30 O O zz_ (fun w0=>?_);refine giI ?_;refine go2 ?_;intro b1 hb1;refine go3 ?_;refine sC (AV [pI (E (Z.of a.1))]) aM (e9 a.1 a.2) O O O (go_ ?_);refine sC (AV [pI (E (Z.of b.1))]) aM (e9 b.1 b.2) O O O ?_;obtain ⟨r2,hr2⟩:=nm ((bM (E (Z.of a.1)) (E (Z.of b.1))):Rt);refine sC (AV [pI r2.n,pI r2.d]) aM (qV (E (Z.of a.1)) (E (Z.of b.1))) O O (by rw [hr2]) (go3 ?_);refine rtX O (iJ O m0 tyT O) ?_;exact (by subst hr2;rfl)
end Go.Proofs.YtokjfhfiodopdaaGreat
namespace Go.Kn
open Go Go.Num
section
variable {α:Type} {e:El α} {P:Program} {w0:World} {X:List Nat} {N:Nm} {S:Fr} {M M':List Blk} {d:Option Tmp} {ty:TypeId} {ps:String} {af:Array Edge} {gd:Option (Nat×Bool)} {E:TypeId}
def OwnN (w0:World) (E:TypeId) (e:El α):List Value→List (List α)→List Blk→Prop
 | [],[],L=>L=[]
 | v::vs,l::ls,L=>∃ L1 L2,L=L1++L2∧OwnG w0 E e v l L1∧OwnN w0 E e vs ls L2
 | _,_,_=>False
def SloN (w1 w:World) (E:TypeId) (e:El α) (vs:List Value) (ls:List (List α)):Prop :=
 ∃ L,OwnN w1 E e vs ls L∧(L.map Blk.b).Nodup∧∀ x∈L,w.heap[x.b]? = some (.cells x.cs.toArray x.T (0,0))
theorem OwnG.ge {v:Value} {l:List α} {L:List Blk} (h:OwnG w0 E e v l L):∀ x∈L,w0.heap.size≤x.b:=by
 rcases h with ⟨_,_,rfl⟩|⟨g,cap,cur,_,rfl,hg,_⟩
 ·intro x hx;cases hx
 intro x hx;obtain rfl:=List.mem_singleton.1 hx;exact hg
theorem OwnG.wid {w:World} {v:Value} {l:List α} {L:List Blk} (hs:w0.heap.size≤w.heap.size) (h:OwnG w E e v l L):OwnG w0 E e v l L:=by
 rcases h with h|⟨g,cap,cur,h1,h2,hg,h3⟩
 ·exact .inl h
 exact .inr ⟨g,cap,cur,h1,h2,Nat.le_trans hs hg,h3⟩
theorem OwnN.ge:∀ {vs:List Value} {ls:List (List α)} {L:List Blk},OwnN w0 E e vs ls L→∀ x∈L,w0.heap.size≤x.b
 | [],[],L,h,x,hx=>by rw [show L=[] from h] at hx;cases hx
 | v::vs,l::ls,L,⟨L1,L2,h,h1,h2⟩,x,hx=>by
  rw [h] at hx;rcases List.mem_append.1 hx with hx|hx
  ·exact h1.ge x hx
  exact OwnN.ge h2 x hx
theorem OwnN.wid {w:World} (hs:w0.heap.size≤w.heap.size):∀ {vs:List Value} {ls:List (List α)} {L:List Blk},OwnN w E e vs ls L→OwnN w0 E e vs ls L
 | [],[],_,h=>h
 | v::vs,l::ls,L,⟨L1,L2,h,h1,h2⟩=>⟨L1,L2,h,h1.wid hs,OwnN.wid hs h2⟩
theorem SloN.now {w w':World} {vs:List Value} {ls:List (List α)} (h:SloN w w' E e vs ls) (hw:Sat w0 X M w) (he:Ext w w'):∃ L,Sat w0 X (L++M) w'∧OwnN w0 E e vs ls L:=by
 obtain ⟨L,h1,h2,h3⟩:=h;have hw':=Sat.mono _ _ _ _ _ hw he;refine ⟨L,⟨hw'.os,hw'.tape,hw'.output,hw'.size,hw'.old,?_,fun y hy=>?_⟩,h1.wid hw.size⟩
 ·rw [List.map_append]
  refine List.nodup_append.2 ⟨h2,hw'.nodup,fun a ha b hb e=>?_⟩;subst e;obtain ⟨x,hx,e1⟩:=List.mem_map.1 ha;obtain ⟨y,hy,e2⟩:=List.mem_map.1 hb;have g1:=h1.ge x hx;have g2:=dP? (hw.mem y hy);omega
 rcases List.mem_append.1 hy with hy|hy
 ·exact h3 y hy
 exact hw'.mem y hy
end
open Go Go.Num
section
variable {P:Program} {w0:World} {X:List Nat} {N:Nm} {S:Fr} {M M':List Blk} {d:Option Tmp} {ty:TypeId} {ps:String} {af:Array Edge} {gd:Option (Nat×Bool)}
theorem tF {g:FuncId} {f:Operand} {xs:List Operand} {tys:Array TypeId} {args cap:List Value} {Q K:Value→List Blk→Prop} (he:j5 P g=true) (hf:evO N S f=some (.func (.func g) #[] cap.toArray)) (ha:evL N S xs=some args)
  (h:∀ w,Sat w0 X M w→Calls P g (args++cap).toArray w fun e w'=>∃ v M',e = .returned v∧Sat w0 X M' w'∧KeepsOthers w w'∧Q v M') (k:∀ v M',Q v M'→K v M') :
  OpR P w0 X N ⟨d,.call { callee:=.value f,args:=xs.toArray,argTypes:=tys },ty,ps,af,gd⟩ S M K:=by
 intro w hw;unfold opw;rw [kV,yY (first:=[]) (cap:=cap) (args:=args++cap) he (bO hf) (by simpa using rZ ha)];exact (h w hw).mono fun e w' ⟨v,M',h1,h2,h4,h3⟩=>⟨v,h1,h4,M',h2,k v M' h3⟩
theorem C9 {n:Nat} {f:FuncId} {fn:Func} {c:Code} {args:List Value} {w:World} {Q:Value→List Blk→Prop} (hf:P.funcs[f]? = some fn) (hb:fn.body=some c) (hn:fn.ntmps=n) (hl:args.length≤n) (hw:Sat w0 X M w)
  (h:W P w0 X (pl n) c (lL P fn w0 X (pl n) fun v M'=>∃ M2 Z,M'.Perm (M2++Z)∧Q v M2) (pP 0 args) M):Calls P f args.toArray w fun e w'=>∃ v M',e = .returned v∧Sat w0 X M' w'∧KeepsOthers w w'∧Q v M' :=
 (mR hf hb hn hl hw h).mono fun e w' ⟨v,M',h1,h2,h3,M2,Z,p,hq⟩=>⟨v,M2,h1,(h2.perm p).sub (List.sublist_append_left _ _),h3,hq⟩
theorem Frq.pc {x:Blk} {M1 R:List Blk} (f:Frq M [x] M1) (g:M1.Perm R):M.Perm (x::R):=f.trans (List.Perm.cons x g)
theorem Frq.pa {L M1 R:List Blk} (f:Frq M L M1) (g:M1.Perm R):M.Perm (L++R):=f.trans (List.Perm.append_left L g)
theorem eR_ {M:List Blk}:Frq M [] M:=List.Perm.refl _
end
end Go.Kn
namespace Go.Num
open Go Go.Kn
end Go.Num
namespace Go.Kn
open Go Go.Num
structure Lo (σ:Type) where
 p:Option Addr
 c:Nat
 x:σ
structure El2 (σ α:Type) where
 n:Nat
 ps:Option Addr→Nat→σ→List Part
 len:∀ p c x,oC (ps p c x)=n
 e:El α
 li:σ→List α
def El2.el {σ α:Type} (D:El2 σ α):El (Lo σ):=⟨D.n,fun h=>D.ps h.p h.c h.x,fun h=>D.len _ _ _⟩
abbrev El2.v {σ α:Type} (D:El2 σ α) (h:Lo σ):Value:=.slice h.p (D.li h.x).length h.c
def elLL:El2 (List I) I:=⟨1,fun p c x=>[csl p x.length c],fun _ _ _=>rfl,elI,id⟩
section
variable {σ α:Type} {D:El2 σ α} {P:Program} {w0:World} {X:List Nat} {N:Nm} {S:Fr} {M M':List Blk} {d:Option Tmp} {ty:TypeId} {ps:String} {af:Array Edge} {gd:Option (Nat×Bool)} {v:Value} {l:List σ} {L LL:List Blk} {E:TypeId} {B:Nat}
def Slr2 (w:World) (D:El2 σ α) (v:Value) (l:List σ):Prop:=∃ H:List (Lo σ),H.map Lo.x=l∧Slr w D.el v H∧∀ h∈H,Slr w D.e (D.v h) (D.li h.x)
def SLe2 (w0:World) (X:List Nat) (M:List Blk) (D:El2 σ α) (v:Value) (l:List σ):Prop:=∃ H:List (Lo σ),H.map Lo.x=l∧SLe w0 X M D.el v H∧∀ h∈H,SLe w0 X M D.e (D.v h) (D.li h.x)
def Slf2 (B:Nat) (w:World) (D:El2 σ α) (v:Value) (l:List σ):Prop:=∃ H:List (Lo σ),H.map Lo.x=l∧Slfe B w D.el v H∧∀ h∈H,Slfe B w D.e (D.v h) (D.li h.x)
def SLf2 (w0:World) (M:List Blk) (D:El2 σ α) (v:Value) (l:List σ):Prop:=∃ H:List (Lo σ),H.map Lo.x=l∧SLfe w0 M D.el v H∧∀ h∈H,SLfe w0 M D.e (D.v h) (D.li h.x)
def Own2 (w0:World) (E:TypeId) (D:El2 σ α) (v:Value) (l:List σ) (L LL:List Blk):Prop:=∃ H:List (Lo σ),H.map Lo.x=l∧OwnG w0 E D.el v H L∧∀ h∈H,SLfe w0 LL D.e (D.v h) (D.li h.x)
theorem rS {H:List (Lo σ)} (h:H.map Lo.x=l):H.length=l.length:=by rw [← h,List.length_map]
theorem KF {H:List (Lo σ)} {k:Nat} {x:σ} (h:H.map Lo.x=l) (hx:l[k]? = some x):∃ p c,H[k]? = some ⟨p,c,x⟩:=by
 rw [← h,List.getElem?_map] at hx
 cases hk:H[k]? with
 | none=>rw [hk] at hx;cases hx
 | some y =>
  rw [hk] at hx;obtain ⟨p,c,z⟩:=y
  cases hx
  exact ⟨p,c,rfl⟩
theorem Slr2.old (h:Slr2 w0 D v l):SLe2 w0 [] [] D v l:=by
 obtain ⟨H,h1,h2,h3⟩:=h;exact ⟨H,h1,h2.old,fun x hx=>(h3 x hx).old⟩
theorem Slr2.form {w:World} (h:Slr2 w D v l):∃ p c,v = .slice p l.length c:=by
 obtain ⟨H,h1,h2,_⟩:=h;obtain ⟨p,c,rfl⟩:=h2.form;exact ⟨p,c,by rw [rS h1]⟩
theorem Slr2.max {w:World} (h:Slr2 w D v l):l.length≤9223372036854775807:=by
 obtain ⟨H,h1,h2,_⟩:=h;rw [← rS h1];exact h2.max
theorem SLe2.sub (h:SLe2 w0 X M D v l) (hs:M.Sublist M'):SLe2 w0 X M' D v l:=by
 obtain ⟨H,h1,h2,h3⟩:=h;exact ⟨H,h1,h2.sub hs,fun x hx=>(h3 x hx).sub hs⟩
theorem SLf2.sub (h:SLf2 w0 M D v l) (hs:M.Sublist M'):SLf2 w0 M' D v l:=by
 obtain ⟨H,h1,h2,h3⟩:=h;exact ⟨H,h1,h2.sub hs,fun x hx=>(h3 x hx).sub hs⟩
theorem SLf2.sle (h:SLf2 w0 M D v l):SLe2 w0 X M D v l:=by
 obtain ⟨H,h1,h2,h3⟩:=h;exact ⟨H,h1,h2.sle,fun x hx=>(h3 x hx).sle⟩
theorem SLf2.max (h:SLf2 w0 M D v l):l.length≤9223372036854775807:=by
 obtain ⟨H,h1,h2,h3⟩:=h;rw [← rS h1];exact h2.max
theorem SLf2.nil:SLf2 w0 M D (.slice none 0 0) []:=⟨[],rfl,SLfe.nil,fun _ h=>by cases h⟩
theorem SLe2.nil:SLe2 w0 X M D (.slice none 0 0) []:=SLf2.nil.sle
theorem SLe2.ap {w:World} (hw:Sat w0 X M w) (h:SLe2 w0 X M D v l):Slr2 w D v l:=by
 obtain ⟨H,h1,h2,h3⟩:=h;exact ⟨H,h1,h2 w hw,fun x hx=>h3 x hx w hw⟩
theorem Own2.form (h:Own2 w0 E D v l L LL):∃ p c,v = .slice p l.length c:=by
 obtain ⟨H,h1,h2,_⟩:=h;obtain ⟨p,c,rfl⟩:=h2.form;have:=h2.len;exact ⟨p,c,by rw [this,rS h1]⟩
theorem Own2.max (h:Own2 w0 E D v l L LL):l.length≤9223372036854775807:=by
 obtain ⟨H,h1,h2,_⟩:=h;rw [← rS h1];exact h2.max
theorem Own2.slf (h:Own2 w0 E D v l L LL) (h1:L.Sublist M) (h2:LL.Sublist M):SLf2 w0 M D v l:=by
 obtain ⟨H,a,b,c⟩:=h;exact ⟨H,a,b.slfe h1,fun x hx=>(c x hx).sub h2⟩
theorem Own2.sle (h:Own2 w0 E D v l L LL) (h1:L.Sublist M) (h2:LL.Sublist M):SLe2 w0 X M D v l:=(h.slf h1 h2).sle
theorem SLe2.at {k:Nat} {x:σ} (h:SLe2 w0 X M D v l) (hx:l[k]? = some x):∃ p c H,SLe w0 X M D.el v H∧H[k]? = some ⟨p,c,x⟩∧SLe w0 X M D.e (.slice p (D.li x).length c) (D.li x):=by
 obtain ⟨H,h1,h2,h3⟩:=h;obtain ⟨p,c,hk⟩:=KF h1 hx;exact ⟨p,c,H,h2,hk,h3 _ (List.mem_of_getElem? hk)⟩
theorem SLf2.at {k:Nat} {x:σ} (h:SLf2 w0 M D v l) (hx:l[k]? = some x):∃ p c H,SLfe w0 M D.el v H∧H[k]? = some ⟨p,c,x⟩∧SLfe w0 M D.e (.slice p (D.li x).length c) (D.li x):=by
 obtain ⟨H,h1,h2,h3⟩:=h;obtain ⟨p,c,hk⟩:=KF h1 hx;exact ⟨p,c,H,h2,hk,h3 _ (List.mem_of_getElem? hk)⟩
theorem Own2.at {k:Nat} {x:σ} (h:Own2 w0 E D v l L LL) (hx:l[k]? = some x):∃ p c H,OwnG w0 E D.el v H L∧H[k]? = some ⟨p,c,x⟩∧SLfe w0 LL D.e (.slice p (D.li x).length c) (D.li x):=by
 obtain ⟨H,h1,h2,h3⟩:=h;obtain ⟨p,c,hk⟩:=KF h1 hx;exact ⟨p,c,H,h2,hk,h3 _ (List.mem_of_getElem? hk)⟩
theorem QN {T:TypeId} {x:Operand} {s:Nat} (hT:kG P T=some s) (hx:evO N S x=some v) (hv:SLe2 w0 X M D v l):OpQ P w0 X N ⟨d,.call { callee:=.builtin .len,args:=#[x],argTypes:=#[T] },ty,ps,af,gd⟩ S M (.int .i64 (l.length:Nat)):=by
 obtain ⟨H,h1,h2,_⟩:=hv;rw [← rS h1];exact dJ hT hx h2
theorem KX {T:TypeId} {x y:Operand} {k:Nat} {i:IntKind} {t:Int} (hT:kG P T=some D.n) (hx:evO N S x=some v) (hy:evO N S y=some (.int i t)) (ht:t=(k:Int)) (hv:SLe2 w0 X M D v l) (hk:k<l.length) :
  OpQ P w0 X N ⟨d,.indexAddr T x y,ty,ps,af,gd⟩ S M (.pointer (some (slb v (k*D.n)))):=by
 obtain ⟨H,h1,h2,_⟩:=hv;subst ht;exact iT (e:=D.el) hT hx hy h2 (by rw [rS h1];exact hk)
theorem Own2.one {b c:Nat} {a:Option Addr} {x:σ} {qs:List Part} (hb:w0.heap.size≤b) (hq:qs=D.ps a c x) (hx:SLfe w0 LL D.e (.slice a (D.li x).length c) (D.li x)):Own2 w0 E D (.slice (some ⟨b,0,none⟩) 1 1) [x] [⟨b,E,aX qs⟩] LL :=
 ⟨[⟨a,c,x⟩],rfl,OwnG.lit (e:=D.el) hb O dd_ (by rw [hq];simp [El2.el]),fun h hh=>by
  obtain rfl:=List.mem_singleton.1 hh
  exact hx⟩
theorem UP {T:TypeId} {x y:Operand} {u:Value} {a:Option Addr} {c0:Nat} {z:σ} {L1 R:List Blk} {K:Value→List Blk→Prop} (bytes:Nat) (hT:P.underlying T=some (.slice E)) (hE:QY P E D.el.n bytes=true) (h0:0<D.el.n) (hx:evO N S x=some v) (hy:evO N S y=some u)
  (hv:Own2 w0 E D v l L LL) (hu:SLe w0 X M D.el u [⟨a,c0,z⟩]) (hz:SLfe w0 L1 D.e (.slice a (D.li z).length c0) (D.li z)) (hs:M.Perm (L++(L1++(LL++R)))) (hn:(l.length+1)*bytes≤140737488355328) (h8:0<bytes)
  (k:∀ p c L' LL',Own2 w0 E D (.slice p (l++[z]).length c) (l++[z]) L' LL'→L1.Sublist LL'→LL.Sublist LL'→K (.slice p (l++[z]).length c) (L'++(LL'++R))) :
  OpR P w0 X N ⟨d,.call { callee:=.builtin .append,args:=#[x,y],argTypes:=#[T,T] },ty,ps,af,gd⟩ S M K:=by
 obtain ⟨H,h1,h2,h3⟩:=hv;refine nX (e:=D.el) (l:=H) (m:=[⟨a,c0,z⟩]) (L:=L) (M1:=(L1++LL)++R) bytes hT hE h0 hx hy h2 hu (hs.trans (by rw [List.append_assoc])) (by rw [rS h1];exact hn) h8 fun p c L' ho=>?_
 have e1:(H++[(⟨a,c0,z⟩:Lo σ)]).map Lo.x=l++[z]:=by rw [List.map_append,h1];rfl
 have e2:=rS e1;rw [e2] at ho ⊢;refine k p c L' (L1++LL) ⟨_,e1,ho,fun h hh=>?_⟩ (List.sublist_append_left _ _) (List.sublist_append_right _ _);rcases List.mem_append.1 hh with hh|hh
 ·exact (h3 h hh).sub (List.sublist_append_right _ _)
 obtain rfl:=List.mem_singleton.1 hh;exact hz.sub (List.sublist_append_left _ _)
theorem FS (w:World) (B:Nat):∀ n:Nat,∃ L:List Blk,(L.map Blk.b).Nodup∧(∀ x∈L,(B≤x.b∧x.b<B+n)∧w.heap[x.b]? = some (.cells x.cs.toArray x.T (0,0)))∧∀ b T (cs:List Value),B≤b→b<B+n→w.heap[b]? = some (.cells cs.toArray T (0,0))→(⟨b,T,cs⟩:Blk)∈L
 | 0=>⟨[],List.nodup_nil,fun x hx=>(by cases hx),fun b T cs h1 h2 _=>oo_⟩
 | n+1=>by
  obtain ⟨L,h1,h2,h3⟩:=FS w B n
  by_cases h:∃ (T:TypeId) (cs:List Value),w.heap[B+n]? = some (.cells cs.toArray T (0,0))
  ·obtain ⟨T,cs,h⟩:=h
   refine ⟨⟨B+n,T,cs⟩::L,?_,fun x hx=>?_,fun b T' cs' b1 b2 hb=>?_⟩
   ·rw [List.map_cons,List.nodup_cons]
    refine ⟨fun hm=>?_,h1⟩;obtain ⟨y,hy,e⟩:=List.mem_map.1 hm;have h4:=(h2 y hy).1;have e':y.b=B+n:=e;omega
   ·rcases List.mem_cons.1 hx with rfl|hx
    ·exact ⟨⟨Nat.le_add_right _ _,by show B+n<B+(n+1);omega⟩,h⟩
    exact ⟨⟨(h2 x hx).1.1,by have:=(h2 x hx).1.2;omega⟩,(h2 x hx).2⟩
   by_cases hn:b=B+n
   ·subst hn
    rw [h] at hb
    injection hb with hb
    injection hb with e1 e2
    subst e2
    obtain rfl:cs=cs':=by simpa using e1
    exact List.mem_cons_self
   exact List.mem_cons_of_mem _ (h3 b T' cs' b1 oo_ hb)
  refine ⟨L,h1,fun x hx=>⟨⟨(h2 x hx).1.1,by have:=(h2 x hx).1.2;omega⟩,(h2 x hx).2⟩,fun b T' cs' b1 b2 hb=>?_⟩
  by_cases hn:b=B+n
  ·subst hn;exact absurd ⟨T',cs',hb⟩ h
  exact h3 b T' cs' b1 oo_ hb
theorem Slfe.all {α:Type} {e:El α} {v:Value} {l:List α} {w:World} {L:List Blk} (h:Slfe B w e v l) (hB:w0.heap.size≤B) (hL:∀ b T (cs:List Value),B≤b→b<w.heap.size→w.heap[b]? = some (.cells cs.toArray T (0,0))→(⟨b,T,cs⟩:Blk)∈L):SLfe w0 L e v l:=by
 obtain ⟨p,c,hv,hc,hm,h⟩:=h;refine ⟨p,c,hv,hc,hm,?_⟩;rcases h with h|⟨b,off,T,cs,hp,hb,hh,ht⟩
 ·exact .inl h
 exact .inr ⟨b,off,T,cs,hp,Nat.le_trans hB hb,hL b T cs hb (dP? hh) hh,ht⟩
theorem Slf2.now {w w':World} (h:Slf2 w.heap.size w' D v l) (hw:Sat w0 X M w) (he:Ext w w'):∃ p c L,v = .slice p l.length c∧Sat w0 X (L++M) w'∧SLf2 w0 L D (.slice p l.length c) l:=by
 have hw':=Sat.mono _ _ _ _ _ hw he;obtain ⟨H,h1,h2,h3⟩:=h;obtain ⟨L,n1,n2,n3⟩:=FS w' w.heap.size (w'.heap.size - w.heap.size);have hL:∀ b T (cs:List Value),w.heap.size≤b→b<w'.heap.size→w'.heap[b]? = some (.cells cs.toArray T (0,0))→(⟨b,T,cs⟩:Blk)∈L:=fun b T cs b1 b2=>n3 b T cs b1 oo_;have g:=h2.all hw.size hL;obtain ⟨p,c,rfl,hc⟩:=id g;have el:=rS h1;refine ⟨p,c,L,by rw [el],⟨hw'.os,hw'.tape,hw'.output,hw'.size,hw'.old,?_,fun y hy=>?_⟩,H,h1,by rw [← el];exact g,fun x hx=>(h3 x hx).all hw.size hL⟩
 ·rw [List.map_append]
  refine List.nodup_append.2 ⟨n1,hw'.nodup,fun a ha b hb e=>?_⟩;subst e;obtain ⟨x,hx,e1⟩:=List.mem_map.1 ha;obtain ⟨y,hy,e2⟩:=List.mem_map.1 hb;have g1:=(n2 x hx).1.1;have g2:=dP? (hw.mem y hy);omega
 rcases List.mem_append.1 hy with hy|hy
 ·exact (n2 y hy).2
 exact hw'.mem y hy
theorem SLf2.slf {w:World} (h:SLf2 w0 M D v l) (hw:Sat w0 X M w):Slf2 w0.heap.size w D v l:=by
 obtain ⟨H,h1,h2,h3⟩:=h;exact ⟨H,h1,h2.slfe hw,fun x hx=>(h3 x hx).slfe hw⟩
theorem C8 {n:Nat} {f:FuncId} {fn:Func} {c:Code} {args:List Value} {w:World} (R:Value→Value) (hf:P.funcs[f]? = some fn) (hb:fn.body=some c) (hn:fn.ntmps=n) (hl:args.length≤n)
  (h:W P w [] (pl n) c (lL P fn w [] (pl n) fun r M=>∃ v,r=R v∧SLf2 w M D v l) (pP 0 args) []):Calls P f args.toArray w fun f w'=>∃ v,f = .returned (R v)∧Ext w w'∧Slf2 w.heap.size w' D v l :=
 (mR hf hb hn hl (Sat.start w []) h).mono fun f w' ⟨r,M',he,hs,_,v,hr,hu⟩=>⟨v,by rw [he,hr],hs.ext,hu.slf hs⟩
theorem tD {g:FuncId} {xs:List Operand} {tys:Array TypeId} {args:List Value} {K:Value→List Blk→Prop} (R:Value→Value) (he:j5 P g=true) (ha:evL N S xs=some args)
  (h:∀ w,Sat w0 X M w→Calls P g args.toArray w fun f w'=>∃ v,f = .returned (R v)∧Ext w w'∧Slf2 w.heap.size w' D v l) (k:∀ p c L,SLf2 w0 L D (.slice p l.length c) l→K (R (.slice p l.length c)) (L++M)):OpR P w0 X N ⟨d,.call { callee:=.value (.func g),args:=xs.toArray,argTypes:=tys },ty,ps,af,gd⟩ S M K :=
 AB he ha fun w hw=>(h w hw).mono fun _ w' ⟨v,h1,h2,h3⟩=>by
  obtain ⟨p,c,L,rfl,hs,hv⟩:=h3.now hw h2;exact ⟨_,L++M,h1,hs,Ext.keeps h2,k p c L hv⟩
theorem SLe2.atLL {v:Value} {l:List (List I)} {k:Nat} {x:List I} (h:SLe2 w0 X M elLL v l) (hx:l[k]? = some x):∃ p c H,SLe w0 X M elLL.el v H∧H[k]? = some ⟨p,c,x⟩∧SLe w0 X M elI (.slice p x.length c) x:=h.at hx
theorem SLf2.atLL {v:Value} {l:List (List I)} {k:Nat} {x:List I} (h:SLf2 w0 M elLL v l) (hx:l[k]? = some x):∃ p c H,SLfe w0 M elLL.el v H∧H[k]? = some ⟨p,c,x⟩∧SLfe w0 M elI (.slice p x.length c) x:=h.at hx
theorem Own2.atLL {v:Value} {l:List (List I)} {k:Nat} {x:List I} (h:Own2 w0 E elLL v l L LL) (hx:l[k]? = some x):∃ p c H,OwnG w0 E elLL.el v H L∧H[k]? = some ⟨p,c,x⟩∧SLfe w0 LL elI (.slice p x.length c) x:=h.at hx
theorem bH_ {b:Bool} (h:(!b)=false):b=true:=by cases b<;>first|rfl|cases h
theorem Frq.po {L M1 A Z:List Blk} (f:Frq M L M1) (g:M1.Perm (A++Z)):M.Perm ((L++A)++Z):=by rw [List.append_assoc];exact f.pa g
theorem Frq.pz {L Z:List Blk} (f:Frq M L Z):M.Perm ((L++[])++Z):=by rw [List.append_nil];exact f
end
end Go.Kn
namespace Go.Num
open Go Go.Kn
theorem uW (p:List I) (x:Iv):AL (bW p x).1:=by
 unfold bW;generalize bI p x.lo x.hi=C;have hs:=kX p;generalize (aH p).1=L at hs ⊢
 cases (C.2.1 != 0)
 ·cases (C.1.1 != 1)
  ·exact hs
  exact EN
 exact EN
end Go.Num
namespace Go.Proofs.YtokjfhfiodopdaaGreat
open Go.Kn Go.Num Tryz
attribute [local irreducible] Go.Kn.W WL PL OpQ OpR OpS
theorem wT (a:Rt) :
    Ret prog 64 [AV [pI a.n,pI a.d]] (.bool (bG a)):=by
 refine bU (N:=26) func64 O O zz_ (fun w0=>?_);refine giI ?_;refine go2 ?_;intro b1 hb1;refine go3 ?_;refine gJv (rg [] 3 10) [(12,.bool (!a.n.1.good||(!a.d.1.good)))] (fun K2 J2=>?_) ?_
 ·refine go3 ?_;refine sC (.bool a.n.1.good) aM (cI a.n.1 a.n.2) O O O (go_ ?_);rcases bt a.n.1.good with h3|h3
  ·refine sB (iI h3) O (go2 ?_);refine sC (.bool a.d.1.good) aM (cI a.d.1 a.d.2) O O O (go3 ?_);refine J2 _ _ pp_ s0 (bH (oB h3 O))
  refine sB (iG h3) O (go6 ?_);refine J2 _ _ pp_ s0 (bH (pS h3))
 intro g4;refine aQ _ O (fun h5=>?_) (fun h5=>?_)
 ·refine go4 ?_;refine rt1 ?_;exact congrArg vS0 (show _=(bG a) from aY h5 O)
 refine go_ ?_;refine gJv (rg [2] 13 13) [(2,.bool (decide (0<(Z.signW a.d.dec).1)&&decide ((E (Z.gcd a.n.dec a.d.dec))=F_skewbackref04_one)))] (fun K3 J3=>?_) ?_
 ·refine go3 ?_;refine sC (.int .i64 ((Z.signW a.d.dec).1)) aM (iE a.d.1 a.d.2) O O O (go_ ?_);refine sBB O (fun h7=>?_) (fun h7=>?_)
  ·refine go4 ?_;refine sC (AV [pI (E (Z.gcd a.n.dec a.d.dec))]) aM (n7 a.n.1 a.d.1 a.n.2 a.d.2) O O O (sQ (bR aM n8  rfl) O ?_);refine sQ (wP (r:=decide ((E (Z.gcd a.n.dec a.d.dec))=F_skewbackref04_one)) O O (nJ 8 dd_ RI R6 (o3 kN) (o3 kN) (uR rF))) O (go3 ?_);refine J3 _ _ pp_ s0 (bH (cG h7 O))
  refine o2 ?_;refine J3 _ _ pp_ s0 (bH (hJ h7))
 intro g8;refine go_ ?_;refine rt1 ?_;exact congrArg vS0 (show _=(bG a) from aT h5 O)
theorem xM (va:Value) (n k:Nat) (hk:k≤1000000) (w:World) (hva:Sl w va (dl n)) :
  Calls prog 85 [va,.int .i64 (k:Int)].toArray w (fun e w'=>e = .returned (.int .i64 ((n / 2 ^ k % 2:Nat):Int))∧Ext w w'):=by
 refine cQ (N:=13) func85 O O zz_ ?_;obtain ⟨w0,rfl⟩:=nm w;refine giI ?_;refine go6 ?_;refine sQ (aW (qR O O dd_) (congrArg (Value.int .i64) (shq 16 dd_ oo_))) O (sQ (aW (eH aM O (fun w hw=>fC va (dl n) (k / 16) w (SL.sl (M:=_) hva.old hw))) (congrArg (fun z:Nat=>Value.int .i64 (z:Int)) (yV n (k / 16)))) O (go_ ?_));refine sQ (aW (pT O O dd_) (congrArg (Value.int .i64) (shr 16 k))) O (sQ (r7 O O (Int.natCast_nonneg _)) O (sQ (aW (pT O O dd_) (congrArg (Value.int .i64) (aC_ n k))) O (go3 ?_)));refine rt1 ?_;exact rfl
theorem nM (a:R) (ha:a.Ok) :
    Ret prog 38 [RV a] (.int .i64 (a.dec.bits:Int)):=by
 refine bU (N:=25) func38 O O zz_ (fun w0=>?_);refine giI ?_;refine go_ ?_;refine aZ O (i7 O O (fun b1 hb1=>go4 ?_));refine sQ (cC tyT O mm_ (cU ha)) O ?_;refine sQ (bR aM (cI a ha) O) O (go2 ?_);refine aQ _ O (fun hg=>?_) (fun hg=>?_)
 ·replace hg:=cB_ hg
  refine go4 ?_;refine rt1 ?_;exact congrArg (fun z:Nat=>Value.int .i64 (z:Int)) (V3 (by simpa using hg)).symm
 replace hg:=cB_ hg
 refine go2 ?_;refine sQ (cC tyT O mm_ (cU ha)) O ?_;refine aZ O (gS aM O (fun w hw=>cV a ha w) (fun v L hv=>go3 ?_));have hl32:(dl (val a.w)).length≤32:=jU (by rw [← FX];have:=u9 a.w ha.lim;rwa [ha.len] at this);refine go_ ?_;refine sQ (lW jQ O (SL.sub hv.sl lZ)) O (sQ (aW (SK O O) (congrArg (Value.int .i64) (e4_ (Nat.le_trans hl32 dd_)))) O (go4 ?_));refine bP (rg [4] 13 11) (fun g nn M=>∃ (k:Nat),(g 4 = .int .i64 (k:Int))∧M=L++[⟨b1,27,a.cells⟩]∧nn=k+0∧(k≤16*(dl (val a.w)).length∧val a.w<2 ^ k)) (16*(dl (val a.w)).length) ?start ?round
 case start =>
  refine ⟨_,(List.Sublist.refl _),16*(dl (val a.w)).length,?a4,?mem0,rfl,⟨Nat.le_refl _,PJ _⟩⟩
  case mem0=>rfl
  case a4=>rfl
 case round =>
  rintro nn g M ⟨k,hg4,rfl,hmeas,⟨hk,hlt⟩⟩;subst nn;refine gS1 hg4 ?_;clear hg4;refine go5 ?_
  cases hz:decide ((0:Int)<(k:Int))
  ·refine PV ?_;refine rt1 ?_;exact congrArg (fun z:Nat=>Value.int .i64 (z:Int)) (aD_ ha (by simpa using hg) hlt (by have:=of_decide_eq_false hz;omega)).symm
  have hz':=of_decide_eq_true hz;obtain ⟨m,rfl⟩:∃ m,k=m+1:=⟨k - 1,by omega⟩;refine go2 ?_;refine sQ (aW (mM O O) (congrArg (Value.int .i64) (vP oo_))) O (sQ (eH aM O (fun w hw=>xM v (val a.w) m oo_ w (SL.sl (SL.sub hv.sl lZ) hw))) O (go3 ?_));refine aQ _ O (fun h0=>?_) (fun h0=>?_)
  ·replace h0:=cB_ h0
   refine go4 ?_;refine sQ (aW (mM O O) (congrArg (Value.int .i64) (vP oo_))) O (go2 ?_);refine ⟨pp_,_,_,(List.Sublist.refl _),oo_,m,?s4,?mem,rfl,⟨by omega,TS hlt oo_⟩⟩
   case mem=>rfl
   case s4=>rfl
  replace h0:=cB_ h0
  refine go6 ?_;refine rt1 ?_;exact congrArg (fun z:Nat=>Value.int .i64 (z:Int)) ((HY ha (by simpa using hg)).trans (aE_ hlt oo_)).symm
end Go.Proofs.YtokjfhfiodopdaaGreat
