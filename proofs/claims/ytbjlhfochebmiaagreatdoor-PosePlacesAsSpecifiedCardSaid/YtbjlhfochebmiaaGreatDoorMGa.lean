/- Lemmas: what they ask stands in their statements. -/
import Derived.Test.YtbjlhfochebmiaaGreatDoorMWh
set_option linter.unusedSimpArgs false
set_option linter.unusedVariables false
set_option maxHeartbeats 8000000
set_option maxRecDepth 20000
namespace Go.Proofs.YtbjlhfochebmiaaGreatDoor
open Go.Kn Go.Num Tryz
attribute [local irreducible] Go.Kn.W WL PL OpQ OpR OpS
theorem AE  :
  Ret prog 125 [] (AV [pI F_ratio_one]):=by
 refine bA (N:=2) func125 O O zz_ (fun w0=>?_);refine giI ?_;obtain ⟨q0,hq0⟩:=nm ((E (Z.of 1)):I);refine go2 ?_;intro b1 hb1;refine go2 ?_;refine sC (AV [pI q0]) aE (fB (wl 1).1 (wl 1).2) O O (by subst hq0;rfl) ?_;refine go3 ?_;refine rtX O (eR O m0 tyT O) ?_;exact (by obtain rfl:=hq0.symm;rfl)
theorem oI  :
  Ret prog 119 [] (AV [pI tT.n,pI tT.d]):=by
 refine bA (N:=4) func119 O O zz_ (fun w0=>?_);refine giI ?_;obtain ⟨q0,hq0⟩:=nm ((E Z.bad):I);obtain ⟨q1,hq1⟩:=nm (F_ratio_one:I);refine go2 ?_;intro b1 hb1;refine go2 ?_;refine sC (AV [pI q0]) aE gQ O O (by subst hq0;rfl) (sC (AV [pI q1]) aE AE O O (by subst hq1;rfl) (go4 ?_));refine rtX O (eR O m0 tyT O) ?_;exact (by subst_vars;rfl)
theorem wQ (a:I) :
    Ret prog 170 [AV [pI a]] (.bool (mQ a)):=by
 refine bA (N:=10) func170 O O zz_ (fun w0=>?_);refine giI ?_;refine go2 ?_;intro b1 hb1;refine go2 ?_;refine gJv (rg [] 2 8) [(2,.bool (!a.1.bad&&a.1.valid))] (fun K1 J1=>?_) ?_
 ·refine go4 ?_;rcases bt a.1.bad with h3|h3
  ·refine sB (gG h3) O (go5 ?_);refine J1 _ _ pp_ s0 (bQ (yA h3))
  refine sB (gD h3) O (go_ ?_);refine sC (.bool a.1.valid) aE (vG a.1 a.2) O O O (go3 ?_);refine J1 _ _ pp_ s0 (bQ (u3 h3 O))
 intro g4;refine go_ ?_;refine rt1 ?_;exact (by rfl)
theorem oU (a:Rt) :
    Ret prog 99 [AV [pI a.n,pI a.d]] (.bool (eE a)):=by
 refine bA (N:=26) func99 O O zz_ (fun w0=>?_);refine giI ?_;refine go2 ?_;intro b1 hb1;refine go2 ?_;refine gJv (rg [] 2 24) [(2,.bool ((mQ a.n)&&((mQ a.d)&&(decide (0<(Z.signW a.d.dec).1)&&decide ((E (Z.gcd a.n.dec a.d.dec))=F_ratio_one)))))] (fun K1 J1=>?_) ?_
 ·refine go3 ?_;refine sQ (aX aE (wQ a.n) O) O ?_;refine sBB O (fun h5=>?_) (fun h5=>?_)
  ·refine go2 ?_;refine sQ (aX aE (wQ a.d) O) O (go_ ?_);refine sBB O (fun h6=>?_) (fun h6=>?_)
   ·refine go2 ?_;refine sC (.int .i64 ((Z.signW a.d.dec).1)) aE (nV a.d.1 a.d.2) O O O (go2 ?_);refine sBB O (fun h7=>?_) (fun h7=>?_)
    ·refine go4 ?_;refine sC (AV [pI (E (Z.gcd a.n.dec a.d.dec))]) aE (AM a.n.1 a.d.1 a.n.2 a.d.2) O O O (sQ (aX aE AE  rfl) O ?_);refine sQ (tB (r:=decide ((E (Z.gcd a.n.dec a.d.dec))=F_ratio_one)) O O (kC 8 dd_ T8 UI (iD gC) (iD gC) (mG nG))) O (go3 ?_);refine J1 _ _ pp_ s0 (bQ (lS h5 (lS h6 (lS h7 O))))
    refine jE ?_;refine J1 _ _ pp_ s0 (bQ (lS h5 (lS h6 (oY h7))))
   refine V4 ?_;refine J1 _ _ pp_ s0 (bQ (lS h5 (oY h6)))
  refine OG ?_;refine J1 _ _ pp_ s0 (bQ (oY h5))
 intro g8;refine go_ ?_;refine rt1 ?_;exact (by rfl)
theorem oV (a:I) (b:I) :
    Ret prog 116 [AV [pI a],AV [pI b]] (AV [pI ((cV a b).n),pI ((cV a b).d)]):=by
 refine bA (N:=35) func116 O O zz_ (fun w0=>?_);refine giI ?_;refine go2 ?_;intro b1 hb1;refine go_ ?_;intro b2 hb2;refine go_ ?_;intro b3 hb3;refine go2 ?_;refine gJv (rg [] 6 13) [(18,.bool (!(mQ a)||(!(mQ b)||((Z.signW b.dec).1==0))))] (fun K2 J2=>?_) ?_
 ·refine go2 ?_;refine sQ (aX aE (wQ a) O) O (go_ ?_);rcases bt (mQ a) with h6|h6
  ·refine sB (gG h6) O (go_ ?_);refine sQ (aX aE (wQ b) O) O (go2 ?_);rcases bt (mQ b) with h7|h7
   ·refine sB (gG h7) O (go_ ?_);refine sC (.int .i64 ((Z.signW b.dec).1)) aE (nV b.1 b.2) O O O (go3 ?_);refine J2 _ _ pp_ s0 (bQ (nO h6 (nO h7 O)))
   refine sB (gD h7) O (go5 ?_);refine J2 _ _ pp_ s0 (bQ (nO h6 (rZ h7)))
  refine sB (gD h6) O (jE ?_);refine J2 _ _ pp_ s0 (bQ (rZ h6))
 intro g8;refine aL _ O (fun h9=>?_) (fun h9=>?_)
 ·refine go_ ?_;refine sQ (aX aE oI  rfl) O (go3 ?_);refine rtX O (eR O m0 tyT O) ?_;exact congrArg vS6 (show _=(cV a b) from aQ h9 O)
 refine go4 ?_;refine sC (AV [pI (E (Z.gcd a.dec b.dec))]) aE (AM a.1 b.1 a.2 b.2) O O O (go_ ?_);intro b10 hb10;refine go5 ?_;refine sC (.int .i64 ((Z.signW b.dec).1)) aE (nV b.1 b.2) O O O (go2 ?_);refine aL _ O (fun h11=>?_) (fun h11=>?_)
 ·refine go2 ?_;refine sC (AV [pI (E (Z.neg (Z.gcd a.dec b.dec)))]) aE (xU (E (Z.gcd a.dec b.dec)).1 (E (Z.gcd a.dec b.dec)).2) O O (cg1 (fun p=>AV [pI (E (Z.neg p))]) (fA _)) (go2 ?_);refine mS (sk (sd (sk (sk s0)))) 8 [7] [7] (go2 ?_);refine pC (AV [pI (E (Z.quo a.dec (Z.neg (Z.gcd a.dec b.dec))))]) aE (pU a.1 (E (Z.neg (Z.gcd a.dec b.dec))).1 a.2 (E (Z.neg (Z.gcd a.dec b.dec))).2) O O (cg2 (fun p q=>AV [pI (E (Z.quo p q))]) O (fA _)) (go2 ?_);refine pC (AV [pI (E (Z.quo b.dec (Z.neg (Z.gcd a.dec b.dec))))]) aE (pU b.1 (E (Z.neg (Z.gcd a.dec b.dec))).1 b.2 (E (Z.neg (Z.gcd a.dec b.dec))).2) O O (cg2 (fun p q=>AV [pI (E (Z.quo p q))]) O (fA _)) (pQ O (qY zpT plT O (.cons [pI (E (Z.quo a.dec (Z.neg (Z.gcd a.dec b.dec))))] [pI (E (Z.quo a.dec (Z.neg (Z.gcd a.dec b.dec)))),pI I0] O O O O (.cons [pI (E (Z.quo b.dec (Z.neg (Z.gcd a.dec b.dec))))] [pI (E (Z.quo a.dec (Z.neg (Z.gcd a.dec b.dec)))),pI (E (Z.quo b.dec (Z.neg (Z.gcd a.dec b.dec))))] O O O O (.nil _)))) (go3 ?_));refine rtX O (eR O m1 tyT O) ?_;exact congrArg vS6 (show _=(cV a b) from aN h9 (aQ h11 O))
 refine go_ ?_;refine mS (sk (sd (sk (sk s0)))) 8 [7] [7] (go2 ?_);refine pC (AV [pI (E (Z.quo a.dec (Z.gcd a.dec b.dec)))]) aE (pU a.1 (E (Z.gcd a.dec b.dec)).1 a.2 (E (Z.gcd a.dec b.dec)).2) O O (cg2 (fun p q=>AV [pI (E (Z.quo p q))]) O (fA _)) (go2 ?_);refine pC (AV [pI (E (Z.quo b.dec (Z.gcd a.dec b.dec)))]) aE (pU b.1 (E (Z.gcd a.dec b.dec)).1 b.2 (E (Z.gcd a.dec b.dec)).2) O O (cg2 (fun p q=>AV [pI (E (Z.quo p q))]) O (fA _)) (pQ O (qY zpT plT O (.cons [pI (E (Z.quo a.dec (Z.gcd a.dec b.dec)))] [pI (E (Z.quo a.dec (Z.gcd a.dec b.dec))),pI I0] O O O O (.cons [pI (E (Z.quo b.dec (Z.gcd a.dec b.dec)))] [pI (E (Z.quo a.dec (Z.gcd a.dec b.dec))),pI (E (Z.quo b.dec (Z.gcd a.dec b.dec)))] O O O O (.nil _)))) (go3 ?_));refine rtX O (eR O m1 tyT O) ?_;exact congrArg vS6 (show _=(cV a b) from aN h9 (aN h11 O))
theorem H4 (a:I) :
  Ret prog 58 [AV [pI a]] (AV [pI ((z8 a).n),pI ((z8 a).d)]):=by
 refine bA (N:=6) func58 O O zz_ (fun w0=>?_);refine giI ?_;refine go2 ?_;intro b1 hb1;refine go_ ?_;intro b2 hb2;refine go_ ?_;refine mS (sd (sk s0)) 4 [3] [3] (go_ ?_);refine pQ O (aX aE AE  rfl) (pQ O (aX aE (oV a F_ratio_one) O) (go3 ?_));refine rtX O (eR O m0 tyT O) ?_;exact (by rfl)
theorem rE (a:W) :
  Ret prog 14 [.int .i64 a.1] (AV [pI ((fI a).n),pI ((fI a).d)]):=by
 refine bA (N:=6) func14 O O zz_ (fun w0=>?_);refine giI ?_;refine go2 ?_;intro b1 hb1;refine go3 ?_;refine sC (AV [pI (E (Z.of a.1))]) aE (fB a.1 a.2) O O O (sQ (aX aE (H4 (E (Z.of a.1))) O) O (go3 ?_));refine rtX O (eR O m0 tyT O) ?_;exact (by rfl)
theorem LP (a:Rt) :
   Ret prog 57 [AV [pI a.n,pI a.d]] (AV [pI ((n5 a).n),pI ((n5 a).d)]):=by
 refine bA (N:=13) func57 O O zz_ (fun w0=>?_);refine giI ?_;refine go2 ?_;intro b1 hb1;refine go_ ?_;intro b2 hb2;refine go4 ?_;refine sQ (aX aE (oU a) O) O (go2 ?_);rcases bt (eE a) with h3|h3
 ·refine W_f (gG h3) O (go_ ?_);refine mS (sd (sk s0)) 7 [6] [6] (go2 ?_);refine pC (AV [pI (E (Z.neg a.n.dec))]) aE (xU a.n.1 a.n.2) O O O (go2 ?_);refine pQ O (qY zpT plT O (.cons [pI (E (Z.neg a.n.dec))] [pI (E (Z.neg a.n.dec)),pI I0] O O O O (.cons [pI a.d] [pI (E (Z.neg a.n.dec)),pI a.d] O O O O (.nil _)))) (go3 ?_);refine rtX O (eR O m0 tyT O) ?_;exact congrArg vS6 (show _=(n5 a) from aQ h3 O)
 refine W_t (gD h3) O (go_ ?_);refine sQ (aX aE oI  rfl) O (go3 ?_);refine rtX O (eR O m0 tyT O) ?_;exact congrArg vS6 (show _=(n5 a) from aN h3 O)
theorem AC (a:Rt) (b:Rt) :
    Ret prog 56 [AV [pI a.n,pI a.d],AV [pI b.n,pI b.d]] (AV [pI ((pN a b).n),pI ((pN a b).d)]):=by
 refine bA (N:=44) func56 O O zz_ (fun w0=>?_);refine giI ?_;refine go2 ?_;intro b1 hb1;refine go_ ?_;intro b2 hb2;refine go_ ?_;intro b3 hb3;refine go2 ?_;refine gJv (rg [] 8 8) [(15,.bool (!(eE a)||(!(eE b))))] (fun K2 J2=>?_) ?_
 ·refine go2 ?_;refine sQ (aX aE (oU a) O) O (go_ ?_);rcases bt (eE a) with h5|h5
  ·refine sB (gG h5) O (go_ ?_);refine sQ (aX aE (oU b) O) O (go3 ?_);refine J2 _ _ pp_ s0 (bQ (nO h5 O))
  refine sB (gD h5) O (go5 ?_);refine J2 _ _ pp_ s0 (bQ (rZ h5))
 intro g6;refine aL _ O (fun h7=>?_) (fun h7=>?_)
 ·refine go_ ?_;refine sQ (aX aE oI  rfl) O (go3 ?_);refine rtX O (eR O m0 tyT O) ?_;exact congrArg vS6 (show _=(pN a b) from aQ h7 O)
 refine go6 ?_;refine sC (AV [pI (E (Z.gcd a.d.dec b.d.dec))]) aE (AM a.d.1 b.d.1 a.d.2 b.d.2) O O O (go_ ?_);intro b8 hb8;refine go2 ?_;refine gDs (sk (sk (sk (sk s0)))) (.quiet 0 [1,3,7,10,11] (.quiet 1 [3,7,10,11] (.quiet 2 [3,7,10,11] (.quiet 3 [7,10,11] (.quiet 4 [5,7,10,11] (.quiet 5 [7,10,11] (.quiet 6 [7,10,11] (.quiet 7 [10,11] (.both 8 (.only 9 (.only 10 (.only 11 (.fin)))) 9 (.only 8 (.only 10 (.only 11 (.fin))))))))))))) [0,1,2,3,4,5,6,7,8,9] mix (by kernel_rfl) (by kernel_rfl) (go3 ?_);refine pC (AV [pI (E (Z.quo a.d.dec (Z.gcd a.d.dec b.d.dec)))]) aE (pU a.d.1 (E (Z.gcd a.d.dec b.d.dec)).1 a.d.2 (E (Z.gcd a.d.dec b.d.dec)).2) O O (cg2 (fun p q=>AV [pI (E (Z.quo p q))]) O (fA _)) (go3 ?_);refine pC (AV [pI (E (Z.quo b.d.dec (Z.gcd a.d.dec b.d.dec)))]) aE (pU b.d.1 (E (Z.gcd a.d.dec b.d.dec)).1 b.d.2 (E (Z.gcd a.d.dec b.d.dec)).2) O O (cg2 (fun p q=>AV [pI (E (Z.quo p q))]) O (fA _)) ?_;refine z9 ?_ ?_
 ·refine cJ O O (fF zpT (fun b9 hb9=>⟨(fun _=>sd s0),(sd s0),?_⟩));refine cJ O O (fF zpT (fun b10 hb10=>⟨(fun _=>sd s0),(sd (sd s0)),?_⟩));refine go3 ?_;refine gds (sk (sk (sk (sd (sk (sk s0)))))) [0,4,8,12,16,20,24,28,32,36,40,44,48,52,57] [14] mix (by kernel_rfl) (go3 ?_);refine pC (AV [pI (E (Z.mul a.n.dec (Z.quo b.d.dec (Z.gcd a.d.dec b.d.dec))))]) aE (jZ a.n.1 (E (Z.quo b.d.dec (Z.gcd a.d.dec b.d.dec))).1 a.n.2 (E (Z.quo b.d.dec (Z.gcd a.d.dec b.d.dec))).2) O O (cg2 (fun p q=>AV [pI (E (Z.mul p q))]) O (fA _)) (go3 ?_);refine pC (AV [pI (E (Z.mul b.n.dec (Z.quo a.d.dec (Z.gcd a.d.dec b.d.dec))))]) aE (jZ b.n.1 (E (Z.quo a.d.dec (Z.gcd a.d.dec b.d.dec))).1 b.n.2 (E (Z.quo a.d.dec (Z.gcd a.d.dec b.d.dec))).2) O O (cg2 (fun p q=>AV [pI (E (Z.mul p q))]) O (fA _)) ?_;obtain ⟨r11,hr11⟩:=nm ((E (Z.add (Z.mul a.n.dec (Z.quo b.d.dec (Z.gcd a.d.dec b.d.dec))) (Z.mul b.n.dec (Z.quo a.d.dec (Z.gcd a.d.dec b.d.dec))))):I);refine pC (AV [pI r11]) aE (rM (E (Z.mul a.n.dec (Z.quo b.d.dec (Z.gcd a.d.dec b.d.dec)))).1 (E (Z.mul b.n.dec (Z.quo a.d.dec (Z.gcd a.d.dec b.d.dec)))).1 (E (Z.mul a.n.dec (Z.quo b.d.dec (Z.gcd a.d.dec b.d.dec)))).2 (E (Z.mul b.n.dec (Z.quo a.d.dec (Z.gcd a.d.dec b.d.dec)))).2) O O ((cg2 (fun p q=>AV [pI (E (Z.add p q))]) (fA _) (fA _)).trans (by rw [hr11])) (go3 ?_);refine pC (AV [pI (E (Z.mul (Z.quo a.d.dec (Z.gcd a.d.dec b.d.dec)) b.d.dec))]) aE (jZ (E (Z.quo a.d.dec (Z.gcd a.d.dec b.d.dec))).1 b.d.1 (E (Z.quo a.d.dec (Z.gcd a.d.dec b.d.dec))).2 b.d.2) O O (cg2 (fun p q=>AV [pI (E (Z.mul p q))]) (fA _) O) ?_;obtain ⟨r12,hr12⟩:=nm ((cV r11 (E (Z.mul (Z.quo a.d.dec (Z.gcd a.d.dec b.d.dec)) b.d.dec))):Rt);refine pC (AV [pI r12.n,pI r12.d]) aE (oV r11 (E (Z.mul (Z.quo a.d.dec (Z.gcd a.d.dec b.d.dec)) b.d.dec))) O O (by rw [hr12]) (go3 ?_);refine rtX O (eR O m3 tyT O) ?_
  subst_vars;exact congrArg vS6 (show _=(pN a b) from aN h7 O)
 refine cJ O O (fF zpT (fun b13 hb13=>⟨(fun _=>sd s0),(sd s0),?_⟩));refine cJ O O (fF zpT (fun b14 hb14=>⟨(fun _=>sd s0),(sd (sd s0)),?_⟩));refine go3 ?_;refine gds (sk (sk (sk (sd (sk (sk s0)))))) [0,4,8,12,16,20,24,28,32,36,40,44,48,52,57] [14] mix (by kernel_rfl) (go3 ?_);refine pC (AV [pI (E (Z.mul a.n.dec (Z.quo b.d.dec (Z.gcd a.d.dec b.d.dec))))]) aE (jZ a.n.1 (E (Z.quo b.d.dec (Z.gcd a.d.dec b.d.dec))).1 a.n.2 (E (Z.quo b.d.dec (Z.gcd a.d.dec b.d.dec))).2) O O (cg2 (fun p q=>AV [pI (E (Z.mul p q))]) O (fA _)) (go3 ?_);refine pC (AV [pI (E (Z.mul b.n.dec (Z.quo a.d.dec (Z.gcd a.d.dec b.d.dec))))]) aE (jZ b.n.1 (E (Z.quo a.d.dec (Z.gcd a.d.dec b.d.dec))).1 b.n.2 (E (Z.quo a.d.dec (Z.gcd a.d.dec b.d.dec))).2) O O (cg2 (fun p q=>AV [pI (E (Z.mul p q))]) O (fA _)) ?_;obtain ⟨r15,hr15⟩:=nm ((E (Z.add (Z.mul a.n.dec (Z.quo b.d.dec (Z.gcd a.d.dec b.d.dec))) (Z.mul b.n.dec (Z.quo a.d.dec (Z.gcd a.d.dec b.d.dec))))):I);refine pC (AV [pI r15]) aE (rM (E (Z.mul a.n.dec (Z.quo b.d.dec (Z.gcd a.d.dec b.d.dec)))).1 (E (Z.mul b.n.dec (Z.quo a.d.dec (Z.gcd a.d.dec b.d.dec)))).1 (E (Z.mul a.n.dec (Z.quo b.d.dec (Z.gcd a.d.dec b.d.dec)))).2 (E (Z.mul b.n.dec (Z.quo a.d.dec (Z.gcd a.d.dec b.d.dec)))).2) O O ((cg2 (fun p q=>AV [pI (E (Z.add p q))]) (fA _) (fA _)).trans (by rw [hr15])) (go3 ?_);refine pC (AV [pI (E (Z.mul (Z.quo a.d.dec (Z.gcd a.d.dec b.d.dec)) b.d.dec))]) aE (jZ (E (Z.quo a.d.dec (Z.gcd a.d.dec b.d.dec))).1 b.d.1 (E (Z.quo a.d.dec (Z.gcd a.d.dec b.d.dec))).2 b.d.2) O O (cg2 (fun p q=>AV [pI (E (Z.mul p q))]) (fA _) O) ?_;obtain ⟨r16,hr16⟩:=nm ((cV r15 (E (Z.mul (Z.quo a.d.dec (Z.gcd a.d.dec b.d.dec)) b.d.dec))):Rt);refine pC (AV [pI r16.n,pI r16.d]) aE (oV r15 (E (Z.mul (Z.quo a.d.dec (Z.gcd a.d.dec b.d.dec)) b.d.dec))) O O (by rw [hr16]) (go3 ?_);refine rtX O (eR O m3 tyT O) ?_
 subst_vars;exact congrArg vS6 (show _=(pN a b) from aN h7 O)
theorem xQ (a:Rt) (b:Rt) :
    Ret prog 92 [AV [pI a.n,pI a.d],AV [pI b.n,pI b.d]] (AV [pI ((j4 a b).n),pI ((j4 a b).d)]):=by
 refine bA (N:=48) func92 O O zz_ (fun w0=>?_);refine giI ?_;refine go2 ?_;intro b1 hb1;refine go_ ?_;intro b2 hb2;refine go_ ?_;intro b3 hb3;refine go2 ?_;refine gJv (rg [] 9 8) [(16,.bool (!(eE a)||(!(eE b))))] (fun K2 J2=>?_) ?_
 ·refine go2 ?_;refine sQ (aX aE (oU a) O) O (go_ ?_);rcases bt (eE a) with h5|h5
  ·refine sB (gG h5) O (go_ ?_);refine sQ (aX aE (oU b) O) O (go3 ?_);refine J2 _ _ pp_ s0 (bQ (nO h5 O))
  refine sB (gD h5) O (go5 ?_);refine J2 _ _ pp_ s0 (bQ (rZ h5))
 intro g6;refine aL _ O (fun h7=>?_) (fun h7=>?_)
 ·refine go_ ?_;refine sQ (aX aE oI  rfl) O (go3 ?_);refine rtX O (eR O m0 tyT O) ?_;exact congrArg vS6 (show _=(j4 a b) from aQ h7 O)
 refine go_ ?_;refine gDs (sk (sk (sk s0))) (.quiet 0 [1,4,9,12,13] (.quiet 1 [4,9,12,13] (.quiet 2 [3,4,9,12,13] (.quiet 3 [4,9,12,13] (.quiet 4 [9,12,13] (.quiet 5 [6,9,12,13] (.quiet 6 [9,12,13] (.quiet 7 [8,9,12,13] (.quiet 8 [9,12,13] (.quiet 9 [12,13] (.both 10 (.only 11 (.only 12 (.only 13 (.fin)))) 11 (.only 10 (.only 12 (.only 13 (.fin))))))))))))))) [0,1,2,3,4,5,6,7,8,9,10,11] mix (by kernel_rfl) (by kernel_rfl) (go4 ?_);refine pQ O (aX aE (oV a.n b.d) O) (go4 ?_);refine pQ O (aX aE (oV b.n a.d) O) ?_;refine z9 ?_ ?_
 ·refine cJ O O (fF zpT (fun b8 hb8=>⟨(fun _=>sd s0),(sd s0),?_⟩));refine cJ O O (fF zpT (fun b9 hb9=>⟨(fun _=>sd s0),(sd (sd s0)),?_⟩));refine go3 ?_;refine gDs (sk (sd (sk (sk (sk s0))))) (.quiet 0 [1,4,9,12,13] (.quiet 1 [4,9,12,13] (.quiet 2 [3,4,9,12,13] (.quiet 3 [4,9,12,13] (.quiet 4 [9,12,13] (.quiet 5 [6,9,12,13] (.quiet 6 [9,12,13] (.quiet 7 [8,9,12,13] (.quiet 8 [9,12,13] (.quiet 9 [12,13] (.both 10 (.only 11 (.only 12 (.only 13 (.fin)))) 11 (.only 10 (.only 12 (.only 13 (.fin))))))))))))))) [0,1,2,3,4,5,6,7,8,9,10,11] mix (by kernel_rfl) (by kernel_rfl) (go4 ?_);obtain ⟨r10,hr10⟩:=nm ((E (Z.mul ((cV a.n b.d).n).dec ((cV b.n a.d).n).dec)):I);refine pC (AV [pI r10]) aE (jZ ((cV a.n b.d).n).1 ((cV b.n a.d).n).1 ((cV a.n b.d).n).2 ((cV b.n a.d).n).2) O O (by subst hr10;rfl) (go4 ?_);obtain ⟨r11,hr11⟩:=nm ((E (Z.mul ((cV a.n b.d).d).dec ((cV b.n a.d).d).dec)):I);refine pC (AV [pI r11]) aE (jZ ((cV a.n b.d).d).1 ((cV b.n a.d).d).1 ((cV a.n b.d).d).2 ((cV b.n a.d).d).2) O O (by subst hr11;rfl) ?_;refine z9 ?_ ?_
  ·refine cJ O O (fF zpT (fun b12 hb12=>⟨(fun _=>sd s0),(sd (sk (sd s0))),?_⟩));refine cJ O O (fF zpT (fun b13 hb13=>⟨(fun _=>sd s0),(sd (sd (sk (sd s0)))),?_⟩));refine go4 ?_;refine gJv [38,39,40,41,42,43] [(43,.bool (r10.1.bad||r11.1.bad))] (fun K4 J4=>?_) ?_
   ·refine go3 ?_;refine sBB O (fun h15=>?_) (fun h15=>?_)
    ·refine go4 ?_;refine J4 _ _ pp_ s0 (bQ (o9 h15))
    refine go4 ?_;refine J4 _ _ pp_ s0 (bQ (nA h15 O))
   intro g16;refine aL _ O (fun h17=>?_) (fun h17=>?_)
   ·refine go_ ?_;refine sQ (aX aE oI  rfl) O (go3 ?_);refine rtX O (eR O m4 tyT O) ?_
    subst_vars;exact congrArg vS6 (show _=(j4 a b) from aN h7 (aQ h17 O))
   refine go8 ?_;refine rtX O (eR O m4 tyT O) ?_
   subst_vars;exact congrArg vS6 (show _=(j4 a b) from aN h7 (aN h17 O))
  refine cJ O O (fF zpT (fun b18 hb18=>⟨(fun _=>sd s0),(sd (sk (sd s0))),?_⟩));refine cJ O O (fF zpT (fun b19 hb19=>⟨(fun _=>sd s0),(sd (sd (sk (sd s0)))),?_⟩));refine go4 ?_;refine gJv [38,39,40,41,42,43] [(43,.bool (r10.1.bad||r11.1.bad))] (fun K6 J6=>?_) ?_
  ·refine go3 ?_;refine sBB O (fun h21=>?_) (fun h21=>?_)
   ·refine go4 ?_;refine J6 _ _ pp_ s0 (bQ (o9 h21))
   refine go4 ?_;refine J6 _ _ pp_ s0 (bQ (nA h21 O))
  intro g22;refine aL _ O (fun h23=>?_) (fun h23=>?_)
  ·refine go_ ?_;refine sQ (aX aE oI  rfl) O (go3 ?_);refine rtX O (eR O m4 tyT O) ?_
   subst_vars;exact congrArg vS6 (show _=(j4 a b) from aN h7 (aQ h23 O))
  refine go8 ?_;refine rtX O (eR O m4 tyT O) ?_
  subst_vars;exact congrArg vS6 (show _=(j4 a b) from aN h7 (aN h23 O))
 refine cJ O O (fF zpT (fun b24 hb24=>⟨(fun _=>sd s0),(sd s0),?_⟩));refine cJ O O (fF zpT (fun b25 hb25=>⟨(fun _=>sd s0),(sd (sd s0)),?_⟩));refine go3 ?_;refine gDs (sk (sk (sk (sk (sk s0))))) (.quiet 0 [1,4,9,12,13] (.quiet 1 [4,9,12,13] (.quiet 2 [3,4,9,12,13] (.quiet 3 [4,9,12,13] (.quiet 4 [9,12,13] (.quiet 5 [6,9,12,13] (.quiet 6 [9,12,13] (.quiet 7 [8,9,12,13] (.quiet 8 [9,12,13] (.quiet 9 [12,13] (.both 10 (.only 11 (.only 12 (.only 13 (.fin)))) 11 (.only 10 (.only 12 (.only 13 (.fin))))))))))))))) [0,1,2,3,4,5,6,7,8,9,10,11] mix (by kernel_rfl) (by kernel_rfl) (go4 ?_);obtain ⟨r26,hr26⟩:=nm ((E (Z.mul ((cV a.n b.d).n).dec ((cV b.n a.d).n).dec)):I);refine pC (AV [pI r26]) aE (jZ ((cV a.n b.d).n).1 ((cV b.n a.d).n).1 ((cV a.n b.d).n).2 ((cV b.n a.d).n).2) O O (by subst hr26;rfl) (go4 ?_);obtain ⟨r27,hr27⟩:=nm ((E (Z.mul ((cV a.n b.d).d).dec ((cV b.n a.d).d).dec)):I);refine pC (AV [pI r27]) aE (jZ ((cV a.n b.d).d).1 ((cV b.n a.d).d).1 ((cV a.n b.d).d).2 ((cV b.n a.d).d).2) O O (by subst hr27;rfl) ?_;refine z9 ?_ ?_
 ·refine cJ O O (fF zpT (fun b28 hb28=>⟨(fun _=>sd s0),(sd s0),?_⟩));refine cJ O O (fF zpT (fun b29 hb29=>⟨(fun _=>sd s0),(sd (sd s0)),?_⟩));refine go4 ?_;refine gJv [38,39,40,41,42,43] [(43,.bool (r26.1.bad||r27.1.bad))] (fun K8 J8=>?_) ?_
  ·refine go3 ?_;refine sBB O (fun h31=>?_) (fun h31=>?_)
   ·refine go4 ?_;refine J8 _ _ pp_ s0 (bQ (o9 h31))
   refine go4 ?_;refine J8 _ _ pp_ s0 (bQ (nA h31 O))
  intro g32;refine aL _ O (fun h33=>?_) (fun h33=>?_)
  ·refine go_ ?_;refine sQ (aX aE oI  rfl) O (go3 ?_);refine rtX O (eR O m4 tyT O) ?_
   subst_vars;exact congrArg vS6 (show _=(j4 a b) from aN h7 (aQ h33 O))
  refine go8 ?_;refine rtX O (eR O m4 tyT O) ?_
  subst_vars;exact congrArg vS6 (show _=(j4 a b) from aN h7 (aN h33 O))
 refine cJ O O (fF zpT (fun b34 hb34=>⟨(fun _=>sd s0),(sd s0),?_⟩));refine cJ O O (fF zpT (fun b35 hb35=>⟨(fun _=>sd s0),(sd (sd s0)),?_⟩));refine go4 ?_;refine gJv [38,39,40,41,42,43] [(43,.bool (r26.1.bad||r27.1.bad))] (fun K10 J10=>?_) ?_
 ·refine go3 ?_;refine sBB O (fun h37=>?_) (fun h37=>?_)
  ·refine go4 ?_;refine J10 _ _ pp_ s0 (bQ (o9 h37))
  refine go4 ?_;refine J10 _ _ pp_ s0 (bQ (nA h37 O))
 intro g38;refine aL _ O (fun h39=>?_) (fun h39=>?_)
 ·refine go_ ?_;refine sQ (aX aE oI  rfl) O (go3 ?_);refine rtX O (eR O m4 tyT O) ?_
  subst_vars;exact congrArg vS6 (show _=(j4 a b) from aN h7 (aQ h39 O))
 refine go8 ?_;refine rtX O (eR O m4 tyT O) ?_
 subst_vars;exact congrArg vS6 (show _=(j4 a b) from aN h7 (aN h39 O))
theorem tO  :
  Ret prog 108 [] (AV [pI F_skewbackref04_one]):=by
 refine bA (N:=2) func108 O O zz_ (fun w0=>?_);refine giI ?_;obtain ⟨q0,hq0⟩:=nm ((E (Z.of 1)):I);refine go2 ?_;intro b1 hb1;refine go2 ?_;refine sC (AV [pI q0]) aE (bW (wl 1).1 (wl 1).2) O O (by subst hq0;rfl) ?_;refine go3 ?_;refine rtX O (eR O m0 tyT O) ?_;exact (by obtain rfl:=hq0.symm;rfl)
theorem mJ  :
  Ret prog 156 [] (AV [pI j9.n,pI j9.d]):=by
 refine bA (N:=4) func156 O O zz_ (fun w0=>?_);refine giI ?_;obtain ⟨q0,hq0⟩:=nm ((E Z.bad):I);obtain ⟨q1,hq1⟩:=nm (F_skewbackref04_one:I);refine go2 ?_;intro b1 hb1;refine go2 ?_;refine sC (AV [pI q0]) aE dS O O (by subst hq0;rfl) (sC (AV [pI q1]) aE tO O O (by subst hq1;rfl) (go4 ?_));refine rtX O (eR O m0 tyT O) ?_;exact (by subst_vars;rfl)
theorem jX (a:I) (b:I) :
    Ret prog 113 [AV [pI a],AV [pI b]] (AV [pI ((aW a b).n),pI ((aW a b).d)]):=by
 refine bA (N:=35) func113 O O zz_ (fun w0=>?_);refine giI ?_;refine go2 ?_;intro b1 hb1;refine go_ ?_;intro b2 hb2;refine go_ ?_;intro b3 hb3;refine go2 ?_;refine gJv (rg [] 6 13) [(18,.bool (!a.1.good||(!b.1.good||((Z.signW b.dec).1==0))))] (fun K2 J2=>?_) ?_
 ·refine go2 ?_;refine sC (.bool a.1.good) aE (cB a.1 a.2) O O O (go_ ?_);rcases bt a.1.good with h6|h6
  ·refine sB (gG h6) O (go_ ?_);refine sC (.bool b.1.good) aE (cB b.1 b.2) O O O (go2 ?_);rcases bt b.1.good with h7|h7
   ·refine sB (gG h7) O (go_ ?_);refine sC (.int .i64 ((Z.signW b.dec).1)) aE (gH b.1 b.2) O O O (go3 ?_);refine J2 _ _ pp_ s0 (bQ (nO h6 (nO h7 O)))
   refine sB (gD h7) O (go5 ?_);refine J2 _ _ pp_ s0 (bQ (nO h6 (rZ h7)))
  refine sB (gD h6) O (jE ?_);refine J2 _ _ pp_ s0 (bQ (rZ h6))
 intro g8;refine aL _ O (fun h9=>?_) (fun h9=>?_)
 ·refine go_ ?_;refine sQ (aX aE mJ  rfl) O (go3 ?_);refine rtX O (eR O m0 tyT O) ?_;exact congrArg vS6 (show _=(aW a b) from aQ h9 O)
 refine go4 ?_;refine sC (AV [pI (E (Z.gcd a.dec b.dec))]) aE (lF a.1 b.1 a.2 b.2) O O O (go_ ?_);intro b10 hb10;refine go5 ?_;refine sC (.int .i64 ((Z.signW b.dec).1)) aE (gH b.1 b.2) O O O (go2 ?_);refine aL _ O (fun h11=>?_) (fun h11=>?_)
 ·refine go2 ?_;refine sC (AV [pI (E (Z.neg (Z.gcd a.dec b.dec)))]) aE (qO (E (Z.gcd a.dec b.dec)).1 (E (Z.gcd a.dec b.dec)).2) O O (cg1 (fun p=>AV [pI (E (Z.neg p))]) (fA _)) (go2 ?_);refine mS (sk (sd (sk (sk s0)))) 8 [7] [7] (go2 ?_);refine pC (AV [pI (E (Z.quo a.dec (Z.neg (Z.gcd a.dec b.dec))))]) aE (fY a.1 (E (Z.neg (Z.gcd a.dec b.dec))).1 a.2 (E (Z.neg (Z.gcd a.dec b.dec))).2) O O (cg2 (fun p q=>AV [pI (E (Z.quo p q))]) O (fA _)) (go2 ?_);refine pC (AV [pI (E (Z.quo b.dec (Z.neg (Z.gcd a.dec b.dec))))]) aE (fY b.1 (E (Z.neg (Z.gcd a.dec b.dec))).1 b.2 (E (Z.neg (Z.gcd a.dec b.dec))).2) O O (cg2 (fun p q=>AV [pI (E (Z.quo p q))]) O (fA _)) (pQ O (qY zpT plT O (.cons [pI (E (Z.quo a.dec (Z.neg (Z.gcd a.dec b.dec))))] [pI (E (Z.quo a.dec (Z.neg (Z.gcd a.dec b.dec)))),pI I0] O O O O (.cons [pI (E (Z.quo b.dec (Z.neg (Z.gcd a.dec b.dec))))] [pI (E (Z.quo a.dec (Z.neg (Z.gcd a.dec b.dec)))),pI (E (Z.quo b.dec (Z.neg (Z.gcd a.dec b.dec))))] O O O O (.nil _)))) (go3 ?_));refine rtX O (eR O m1 tyT O) ?_;exact congrArg vS6 (show _=(aW a b) from aN h9 (aQ h11 O))
 refine go_ ?_;refine mS (sk (sd (sk (sk s0)))) 8 [7] [7] (go2 ?_);refine pC (AV [pI (E (Z.quo a.dec (Z.gcd a.dec b.dec)))]) aE (fY a.1 (E (Z.gcd a.dec b.dec)).1 a.2 (E (Z.gcd a.dec b.dec)).2) O O (cg2 (fun p q=>AV [pI (E (Z.quo p q))]) O (fA _)) (go2 ?_);refine pC (AV [pI (E (Z.quo b.dec (Z.gcd a.dec b.dec)))]) aE (fY b.1 (E (Z.gcd a.dec b.dec)).1 b.2 (E (Z.gcd a.dec b.dec)).2) O O (cg2 (fun p q=>AV [pI (E (Z.quo p q))]) O (fA _)) (pQ O (qY zpT plT O (.cons [pI (E (Z.quo a.dec (Z.gcd a.dec b.dec)))] [pI (E (Z.quo a.dec (Z.gcd a.dec b.dec))),pI I0] O O O O (.cons [pI (E (Z.quo b.dec (Z.gcd a.dec b.dec)))] [pI (E (Z.quo a.dec (Z.gcd a.dec b.dec))),pI (E (Z.quo b.dec (Z.gcd a.dec b.dec)))] O O O O (.nil _)))) (go3 ?_));refine rtX O (eR O m1 tyT O) ?_;exact congrArg vS6 (show _=(aW a b) from aN h9 (aN h11 O))
theorem rG (a:W) :
  Ret prog 47 [.int .i64 a.1] (AV [pI ((cM a).n),pI ((cM a).d)]):=by
 refine bA (N:=7) func47 O O zz_ (fun w0=>?_);refine giI ?_;refine go2 ?_;intro b1 hb1;refine go3 ?_;refine sC (AV [pI (E (Z.of a.1))]) aE (bW a.1 a.2) O O O (sQ (aX aE tO  rfl) O ?_);obtain ⟨r2,hr2⟩:=nm ((aW (E (Z.of a.1)) F_skewbackref04_one):Rt);refine sC (AV [pI r2.n,pI r2.d]) aE (jX (E (Z.of a.1)) F_skewbackref04_one) O O (by rw [hr2]) (go3 ?_);refine rtX O (eR O m0 tyT O) ?_;exact (by subst hr2;rfl)
theorem tD (a:W) (b:W) :
  Ret prog 153 [.int .i64 a.1,.int .i64 b.1] (AV [pI ((jT a b).n),pI ((jT a b).d)]):=by
 refine bA (N:=10) func153 O O zz_ (fun w0=>?_);refine giI ?_;refine go2 ?_;intro b1 hb1;refine go3 ?_;refine sC (AV [pI (E (Z.of a.1))]) aE (bW a.1 a.2) O O O (go_ ?_);refine sC (AV [pI (E (Z.of b.1))]) aE (bW b.1 b.2) O O O ?_;obtain ⟨r2,hr2⟩:=nm ((aW (E (Z.of a.1)) (E (Z.of b.1))):Rt);refine sC (AV [pI r2.n,pI r2.d]) aE (jX (E (Z.of a.1)) (E (Z.of b.1))) O O (by rw [hr2]) (go3 ?_);refine rtX O (eR O m0 tyT O) ?_;exact (by subst hr2;rfl)
end Go.Proofs.YtbjlhfochebmiaaGreatDoor
namespace Go.Num
open Go Go.Kn
theorem KP (l out:List (A3 W)) (i:Nat):∀ (f:Nat) (next:List (A3 W)) (put:Bool) (k:Nat),sI put next.length k→sI (eB l out i f next put k).2.1 (eB l out i f next put k).1.length (max k out.length)
 | 0,next,put,k,hs=>⟨Nat.le_trans hs.1 oo_,fun e=>Nat.le_trans (hs.2 e) oo_⟩
 | f+1,next,put,k,hs=>by
  unfold eB
  by_cases hk:k<out.length
  ·rw [decide_eq_true oo_,cond_true,show max k out.length=max (k+1) out.length by omega]
   generalize hb:(!put&&((hP (l.getD i A30) (out.getD k A30))||(decide (((l.getD i A30).x).1=((out.getD k A30).x).1)&&(decide (((l.getD i A30).y).1=((out.getD k A30).y).1)&&decide (((l.getD i A30).z).1=((out.getD k A30).z).1)))))=b;generalize (decide (((out.getD k A30).x).1=((l.getD i A30).x).1)&&(decide (((out.getD k A30).y).1=((l.getD i A30).y).1)&&decide (((out.getD k A30).z).1=((l.getD i A30).z).1)))=c
   cases b
   ·cases c
    ·exact KP l out i f _ _ _ (by rw [List.length_append];exact M7 hs)
    exact KP l out i f _ _ _ (RE hs)
   ·cases c
    ·exact KP l out i f _ _ _ (by rw [List.length_append,List.length_append];exact U3 hs (TJ hb))
    exact KP l out i f _ _ _ (by rw [List.length_append];exact af_ hs (TJ hb))
  rw [decide_eq_false oo_,cond_false];exact ⟨Nat.le_trans hs.1 oo_,fun e=>Nat.le_trans (hs.2 e) oo_⟩
theorem PC (l:List (A3 W)):∀ (f:Nat) (out:List (A3 W)) (i:Nat),out.length≤i→(fO l f out i).1.length≤max i l.length
 | 0,out,i,h=>by show out.length≤_;omega
 | f+1,out,i,h=>by
  unfold fO
  by_cases hk:i<l.length
  ·rw [decide_eq_true oo_,cond_true,show max i l.length=max (i+1) l.length by omega]
   have k:=KP l out i (out.length+1) [] false 0 dZ_;generalize eB l out i (out.length+1) [] false 0=a at k ⊢;obtain ⟨a1,a2,a3⟩:=a;simp only [ap] at k ⊢
   cases a2
   ·simp only [cond_false]
    exact PC l f _ _ (by rw [List.length_append];simp only [List.length_singleton];have:=k.2 O;omega)
   simp only [cond_true];exact PC l f _ _ (by have:=k.1;omega)
  rw [decide_eq_false oo_,cond_false];show out.length≤_;omega
theorem TO (l:List (A3 W)):(aK l).length≤l.length:=by
 have:=PC l (l.length+1) [] 0 (Nat.zero_le _);unfold aK
 show (fO l (l.length+1) [] 0).1.length≤_
 omega
end Go.Num
namespace Go.Kn
open Go Go.Num
section
variable {α:Type} {e:El α} {P:Program} {w0:World} {X:List Nat} {N:Nm} {S:Fr} {M M':List Blk} {d:Option Tmp} {ty:TypeId} {ps:String} {af:Array Edge} {gd:Option (Nat×Bool)} {E:TypeId}
def OwnN (w0:World) (E:TypeId) (e:El α):List Value→List (List α)→List Blk→Prop
 | [],[],L=>L=[]
 | v::vs,l::ls,L=>∃ L1 L2,L=L1++L2∧OwnG w0 E e v l L1∧OwnN w0 E e vs ls L2
 | _,_,_=>False
def SloN (w1 w:World) (E:TypeId) (e:El α) (vs:List Value) (ls:List (List α)):Prop :=
 ∃ L,OwnN w1 E e vs ls L∧(L.map Blk.b).Nodup∧∀ x∈L,w.heap[x.b]? = some (.cells x.cs.toArray x.T (0,0))
theorem OwnG.ge {v:Value} {l:List α} {L:List Blk} (h:OwnG w0 E e v l L):∀ x∈L,w0.heap.size≤x.b:=by
 rcases h with ⟨_,_,rfl⟩|⟨g,cap,cur,_,rfl,hg,_⟩
 ·intro x hx;cases hx
 intro x hx;obtain rfl:=List.mem_singleton.1 hx;exact hg
theorem OwnG.wid {w:World} {v:Value} {l:List α} {L:List Blk} (hs:w0.heap.size≤w.heap.size) (h:OwnG w E e v l L):OwnG w0 E e v l L:=by
 rcases h with h|⟨g,cap,cur,h1,h2,hg,h3⟩
 ·exact .inl h
 exact .inr ⟨g,cap,cur,h1,h2,Nat.le_trans hs hg,h3⟩
theorem OwnN.ge:∀ {vs:List Value} {ls:List (List α)} {L:List Blk},OwnN w0 E e vs ls L→∀ x∈L,w0.heap.size≤x.b
 | [],[],L,h,x,hx=>by rw [show L=[] from h] at hx;cases hx
 | v::vs,l::ls,L,⟨L1,L2,h,h1,h2⟩,x,hx=>by
  rw [h] at hx;rcases List.mem_append.1 hx with hx|hx
  ·exact h1.ge x hx
  exact OwnN.ge h2 x hx
theorem OwnN.wid {w:World} (hs:w0.heap.size≤w.heap.size):∀ {vs:List Value} {ls:List (List α)} {L:List Blk},OwnN w E e vs ls L→OwnN w0 E e vs ls L
 | [],[],_,h=>h
 | v::vs,l::ls,L,⟨L1,L2,h,h1,h2⟩=>⟨L1,L2,h,h1.wid hs,OwnN.wid hs h2⟩
theorem SloN.now {w w':World} {vs:List Value} {ls:List (List α)} (h:SloN w w' E e vs ls) (hw:Sat w0 X M w) (he:Ext w w'):∃ L,Sat w0 X (L++M) w'∧OwnN w0 E e vs ls L:=by
 obtain ⟨L,h1,h2,h3⟩:=h;have hw':=Sat.mono _ _ _ _ _ hw he;refine ⟨L,⟨hw'.os,hw'.tape,hw'.output,hw'.size,hw'.old,?_,fun y hy=>?_⟩,h1.wid hw.size⟩
 ·rw [List.map_append]
  refine List.nodup_append.2 ⟨h2,hw'.nodup,fun a ha b hb e=>?_⟩;subst e;obtain ⟨x,hx,e1⟩:=List.mem_map.1 ha;obtain ⟨y,hy,e2⟩:=List.mem_map.1 hb;have g1:=h1.ge x hx;have g2:=eM? (hw.mem y hy);omega
 rcases List.mem_append.1 hy with hy|hy
 ·exact h3 y hy
 exact hw'.mem y hy
theorem Sat.sloN {w:World} {L M2:List Blk} {vs:List Value} {ls:List (List α)} (hw:Sat w0 X M w) (p:M.Perm (L++M2)) (h:OwnN w0 E e vs ls L):SloN w0 w E e vs ls:=by
 have h2:=hw.perm p;refine ⟨L,h,?_,fun x hx=>h2.mem x (List.mem_append_left _ hx)⟩;have:=h2.nodup;rw [List.map_append] at this;exact (List.nodup_append.1 this).1
def cc_ (w0:World) (M:List Blk) (E:TypeId) (e:El α) (v1 v2 v3 v4:Value) (l1 l2 l3 l4:List α):Prop:=∃ L M2,M.Perm (L++M2)∧OwnN w0 E e [v1,v2,v3,v4] [l1,l2,l3,l4] L
theorem WN {v1 v2 v3 v4:Value} {l1 l2 l3 l4:List α} {L1 L2 L3 L4 M1 M2 M3 M4:List Blk} (h1:OwnG w0 E e v1 l1 L1) (h2:OwnG w0 E e v2 l2 L2) (h3:OwnG w0 E e v3 l3 L3) (h4:OwnG w0 E e v4 l4 L4)
  (f1:Frq M L1 M1) (f2:Frq M1 L2 M2) (f3:Frq M2 L3 M3) (f4:Frq M3 L4 M4):cc_ w0 M E e v1 v2 v3 v4 l1 l2 l3 l4 :=
 ⟨L1++(L2++(L3++(L4++[]))),M4,f1.trans (by
  have g1:M1.Perm (L2++(L3++(L4++M4))):=f2.trans (List.Perm.append_left _ (f3.trans (List.Perm.append_left _ f4)));have:=List.Perm.append_left L1 g1
  simpa [List.append_assoc] using this),L1,_,rfl,h1,L2,_,rfl,h2,L3,_,rfl,h3,L4,_,rfl,h4,rfl⟩
theorem zT {n:Nat} {f:FuncId} {fn:Func} {c:Code} {args:List Value} {w:World} {l1 l2 l3 l4:List α} (R:Value→Value→Value→Value→Value) (hf:P.funcs[f]? = some fn) (hb:fn.body=some c) (hn:fn.ntmps=n) (hl:args.length≤n)
  (h:W P w [] (pl n) c (qK P fn w [] (pl n) fun r M=>∃ v1 v2 v3 v4,r=R v1 v2 v3 v4∧cc_ w M E e v1 v2 v3 v4 l1 l2 l3 l4) (vO 0 args) []):Calls P f args.toArray w fun f w'=>∃ v1 v2 v3 v4,f = .returned (R v1 v2 v3 v4)∧Ext w w'∧SloN w w' E e [v1,v2,v3,v4] [l1,l2,l3,l4] :=
 (rK hf hb hn hl (Sat.start w []) h).mono fun f w' ⟨r,M',he,hs,_,v1,v2,v3,v4,hr,L,M2,p,hN⟩=>⟨v1,v2,v3,v4,by rw [he,hr],hs.ext,hs.sloN p hN⟩
theorem mH {g:FuncId} {xs:List Operand} {tys:Array TypeId} {args:List Value} {K:Value→List Blk→Prop} {l1 l2 l3 l4:List α} (R:Value→Value→Value→Value→Value) (he:lV P g=true) (ha:evL N S xs=some args)
  (h:∀ w,Sat w0 X M w→Calls P g args.toArray w fun f w'=>∃ v1 v2 v3 v4,f = .returned (R v1 v2 v3 v4)∧Ext w w'∧SloN w w' E e [v1,v2,v3,v4] [l1,l2,l3,l4])
  (k:∀ p1 c1 L1 p2 c2 L2 p3 c3 L3 p4 c4 L4,OwnG w0 E e (.slice p1 l1.length c1) l1 L1→OwnG w0 E e (.slice p2 l2.length c2) l2 L2→OwnG w0 E e (.slice p3 l3.length c3) l3 L3→OwnG w0 E e (.slice p4 l4.length c4) l4 L4→K (R (.slice p1 l1.length c1) (.slice p2 l2.length c2) (.slice p3 l3.length c3) (.slice p4 l4.length c4)) (L1++(L2++(L3++(L4++M))))) :
  OpR P w0 X N ⟨d,.call { callee:=.value (.func g),args:=xs.toArray,argTypes:=tys },ty,ps,af,gd⟩ S M K :=
 BZ he ha fun w hw=>(h w hw).mono fun _ w' ⟨v1,v2,v3,v4,h1,h2,h3⟩=>by
  obtain ⟨L,hs,L1,_,rfl,q1,L2,_,rfl,q2,L3,_,rfl,q3,L4,_,rfl,q4,rfl⟩:=h3.now hw h2;obtain ⟨p1,c1,rfl⟩:=q1.form;obtain ⟨p2,c2,rfl⟩:=q2.form;obtain ⟨p3,c3,rfl⟩:=q3.form;obtain ⟨p4,c4,rfl⟩:=q4.form;simp only [List.append_assoc,List.nil_append] at hs;exact ⟨_,_,h1,hs,Ext.keeps h2,k _ _ _ _ _ _ _ _ _ _ _ _ q1 q2 q3 q4⟩
end
end Go.Kn
namespace Go.Proofs.YtbjlhfochebmiaaGreatDoor
open Go.Kn Go.Num Tryz
attribute [local irreducible] Go.Kn.W WL PL OpQ OpR OpS
theorem fD (a:Rt) :
    Ret prog 44 [AV [pI a.n,pI a.d]] (.bool (aT a)):=by
 refine bA (N:=26) func44 O O zz_ (fun w0=>?_);refine giI ?_;refine go2 ?_;intro b1 hb1;refine go3 ?_;refine gJv (rg [] 3 10) [(12,.bool (!a.n.1.good||(!a.d.1.good)))] (fun K2 J2=>?_) ?_
 ·refine go3 ?_;refine sC (.bool a.n.1.good) aE (cB a.n.1 a.n.2) O O O (go_ ?_);rcases bt a.n.1.good with h3|h3
  ·refine sB (gG h3) O (go2 ?_);refine sC (.bool a.d.1.good) aE (cB a.d.1 a.d.2) O O O (go3 ?_);refine J2 _ _ pp_ s0 (bQ (nO h3 O))
  refine sB (gD h3) O (go6 ?_);refine J2 _ _ pp_ s0 (bQ (rZ h3))
 intro g4;refine aL _ O (fun h5=>?_) (fun h5=>?_)
 ·refine go4 ?_;refine rt1 ?_;exact congrArg vS2 (show _=(aT a) from aQ h5 O)
 refine go_ ?_;refine gJv (rg [2] 13 13) [(2,.bool (decide (0<(Z.signW a.d.dec).1)&&decide ((E (Z.gcd a.n.dec a.d.dec))=F_skewbackref04_one)))] (fun K3 J3=>?_) ?_
 ·refine go3 ?_;refine sC (.int .i64 ((Z.signW a.d.dec).1)) aE (gH a.d.1 a.d.2) O O O (go_ ?_);refine sBB O (fun h7=>?_) (fun h7=>?_)
  ·refine go4 ?_;refine sC (AV [pI (E (Z.gcd a.n.dec a.d.dec))]) aE (lF a.n.1 a.d.1 a.n.2 a.d.2) O O O (sQ (aX aE tO  rfl) O ?_);refine sQ (tB (r:=decide ((E (Z.gcd a.n.dec a.d.dec))=F_skewbackref04_one)) O O (kC 8 dd_ T8 UI (iD gC) (iD gC) (mG nG))) O (go3 ?_);refine J3 _ _ pp_ s0 (bQ (lS h7 O))
  refine jE ?_;refine J3 _ _ pp_ s0 (bQ (oY h7))
 intro g8;refine go_ ?_;refine rt1 ?_;exact congrArg vS2 (show _=(aT a) from aN h5 O)
theorem qQ (a:Rt) :
   Ret prog 168 [AV [pI a.n,pI a.d]] (AV [pI ((dM a).n),pI ((dM a).d)]):=by
 refine bA (N:=13) func168 O O zz_ (fun w0=>?_);refine giI ?_;refine go2 ?_;intro b1 hb1;refine go_ ?_;intro b2 hb2;refine go4 ?_;refine sQ (aX aE (fD a) O) O (go2 ?_);rcases bt (aT a) with h3|h3
 ·refine W_f (gG h3) O (go_ ?_);refine mS (sd (sk s0)) 7 [6] [6] (go2 ?_);refine pC (AV [pI (E (Z.neg a.n.dec))]) aE (qO a.n.1 a.n.2) O O O (go2 ?_);refine pQ O (qY zpT plT O (.cons [pI (E (Z.neg a.n.dec))] [pI (E (Z.neg a.n.dec)),pI I0] O O O O (.cons [pI a.d] [pI (E (Z.neg a.n.dec)),pI a.d] O O O O (.nil _)))) (go3 ?_);refine rtX O (eR O m0 tyT O) ?_;exact congrArg vS6 (show _=(dM a) from aQ h3 O)
 refine W_t (gD h3) O (go_ ?_);refine sQ (aX aE mJ  rfl) O (go3 ?_);refine rtX O (eR O m0 tyT O) ?_;exact congrArg vS6 (show _=(dM a) from aN h3 O)
theorem tL (a:Rt) (b:Rt) :
    Ret prog 152 [AV [pI a.n,pI a.d],AV [pI b.n,pI b.d]] (AV [pI ((cN a b).n),pI ((cN a b).d)]):=by
 refine bA (N:=44) func152 O O zz_ (fun w0=>?_);refine giI ?_;refine go2 ?_;intro b1 hb1;refine go_ ?_;intro b2 hb2;refine go_ ?_;intro b3 hb3;refine go2 ?_;refine gJv (rg [] 8 8) [(15,.bool (!(aT a)||(!(aT b))))] (fun K2 J2=>?_) ?_
 ·refine go2 ?_;refine sQ (aX aE (fD a) O) O (go_ ?_);rcases bt (aT a) with h5|h5
  ·refine sB (gG h5) O (go_ ?_);refine sQ (aX aE (fD b) O) O (go3 ?_);refine J2 _ _ pp_ s0 (bQ (nO h5 O))
  refine sB (gD h5) O (go5 ?_);refine J2 _ _ pp_ s0 (bQ (rZ h5))
 intro g6;refine aL _ O (fun h7=>?_) (fun h7=>?_)
 ·refine go_ ?_;refine sQ (aX aE mJ  rfl) O (go3 ?_);refine rtX O (eR O m0 tyT O) ?_;exact congrArg vS6 (show _=(cN a b) from aQ h7 O)
 refine go6 ?_;refine sC (AV [pI (E (Z.gcd a.d.dec b.d.dec))]) aE (lF a.d.1 b.d.1 a.d.2 b.d.2) O O O (go_ ?_);intro b8 hb8;refine go6 ?_;refine sC (AV [pI (E (Z.quo a.d.dec (Z.gcd a.d.dec b.d.dec)))]) aE (fY a.d.1 (E (Z.gcd a.d.dec b.d.dec)).1 a.d.2 (E (Z.gcd a.d.dec b.d.dec)).2) O O (cg2 (fun p q=>AV [pI (E (Z.quo p q))]) O (fA _)) (go_ ?_);intro b9 hb9;refine go6 ?_;refine sC (AV [pI (E (Z.quo b.d.dec (Z.gcd a.d.dec b.d.dec)))]) aE (fY b.d.1 (E (Z.gcd a.d.dec b.d.dec)).1 b.d.2 (E (Z.gcd a.d.dec b.d.dec)).2) O O (cg2 (fun p q=>AV [pI (E (Z.quo p q))]) O (fA _)) (go_ ?_);intro b10 hb10;refine go2 ?_;refine gds (sk (sk (sk (sd (sk (sk s0)))))) [0,4,8,12,16,20,24,28,32,36,40,44,48,52,57] [14] mix (by kernel_rfl) (go3 ?_);refine pC (AV [pI (E (Z.mul a.n.dec (Z.quo b.d.dec (Z.gcd a.d.dec b.d.dec))))]) aE (iH a.n.1 (E (Z.quo b.d.dec (Z.gcd a.d.dec b.d.dec))).1 a.n.2 (E (Z.quo b.d.dec (Z.gcd a.d.dec b.d.dec))).2) O O (cg2 (fun p q=>AV [pI (E (Z.mul p q))]) O (fA _)) (go3 ?_);refine pC (AV [pI (E (Z.mul b.n.dec (Z.quo a.d.dec (Z.gcd a.d.dec b.d.dec))))]) aE (iH b.n.1 (E (Z.quo a.d.dec (Z.gcd a.d.dec b.d.dec))).1 b.n.2 (E (Z.quo a.d.dec (Z.gcd a.d.dec b.d.dec))).2) O O (cg2 (fun p q=>AV [pI (E (Z.mul p q))]) O (fA _)) ?_;obtain ⟨r11,hr11⟩:=nm ((E (Z.add (Z.mul a.n.dec (Z.quo b.d.dec (Z.gcd a.d.dec b.d.dec))) (Z.mul b.n.dec (Z.quo a.d.dec (Z.gcd a.d.dec b.d.dec))))):I);refine pC (AV [pI r11]) aE (n9 (E (Z.mul a.n.dec (Z.quo b.d.dec (Z.gcd a.d.dec b.d.dec)))).1 (E (Z.mul b.n.dec (Z.quo a.d.dec (Z.gcd a.d.dec b.d.dec)))).1 (E (Z.mul a.n.dec (Z.quo b.d.dec (Z.gcd a.d.dec b.d.dec)))).2 (E (Z.mul b.n.dec (Z.quo a.d.dec (Z.gcd a.d.dec b.d.dec)))).2) O O ((cg2 (fun p q=>AV [pI (E (Z.add p q))]) (fA _) (fA _)).trans (by rw [hr11])) (go3 ?_);refine pC (AV [pI (E (Z.mul (Z.quo a.d.dec (Z.gcd a.d.dec b.d.dec)) b.d.dec))]) aE (iH (E (Z.quo a.d.dec (Z.gcd a.d.dec b.d.dec))).1 b.d.1 (E (Z.quo a.d.dec (Z.gcd a.d.dec b.d.dec))).2 b.d.2) O O (cg2 (fun p q=>AV [pI (E (Z.mul p q))]) (fA _) O) ?_;obtain ⟨r12,hr12⟩:=nm ((aW r11 (E (Z.mul (Z.quo a.d.dec (Z.gcd a.d.dec b.d.dec)) b.d.dec))):Rt);refine pC (AV [pI r12.n,pI r12.d]) aE (jX r11 (E (Z.mul (Z.quo a.d.dec (Z.gcd a.d.dec b.d.dec)) b.d.dec))) O O (by rw [hr12]) (go3 ?_);refine rtX O (eR O m3 tyT O) ?_
 subst_vars;exact congrArg vS6 (show _=(cN a b) from aN h7 O)
theorem C2 (a:Rt) (b:Rt) :
    Ret prog 157 [AV [pI a.n,pI a.d],AV [pI b.n,pI b.d]] (AV [pI ((fJ a b).n),pI ((fJ a b).d)]):=by
 refine bA (N:=41) func157 O O zz_ (fun w0=>?_);refine giI ?_;refine go2 ?_;intro b1 hb1;refine go_ ?_;intro b2 hb2;refine go_ ?_;intro b3 hb3;refine go2 ?_;refine gJv (rg [] 9 8) [(16,.bool (!(aT a)||(!(aT b))))] (fun K2 J2=>?_) ?_
 ·refine go2 ?_;refine sQ (aX aE (fD a) O) O (go_ ?_);rcases bt (aT a) with h5|h5
  ·refine sB (gG h5) O (go_ ?_);refine sQ (aX aE (fD b) O) O (go3 ?_);refine J2 _ _ pp_ s0 (bQ (nO h5 O))
  refine sB (gD h5) O (go5 ?_);refine J2 _ _ pp_ s0 (bQ (rZ h5))
 intro g6;refine aL _ O (fun h7=>?_) (fun h7=>?_)
 ·refine go_ ?_;refine sQ (aX aE mJ  rfl) O (go3 ?_);refine rtX O (eR O m0 tyT O) ?_;exact congrArg vS6 (show _=(fJ a b) from aQ h7 O)
 refine go6 ?_;refine sQ (aX aE (jX a.n b.d) O) O (go_ ?_);intro b8 hb8;refine go7 ?_;refine sQ (aX aE (jX b.n a.d) O) O (go_ ?_);intro b9 hb9;refine go7 ?_;obtain ⟨r10,hr10⟩:=nm ((E (Z.mul ((aW a.n b.d).n).dec ((aW b.n a.d).n).dec)):I);refine sC (AV [pI r10]) aE (iH ((aW a.n b.d).n).1 ((aW b.n a.d).n).1 ((aW a.n b.d).n).2 ((aW b.n a.d).n).2) O O (by subst hr10;rfl) (go_ ?_);intro b11 hb11;refine go7 ?_;obtain ⟨r12,hr12⟩:=nm ((E (Z.mul ((aW a.n b.d).d).dec ((aW b.n a.d).d).dec)):I);refine sC (AV [pI r12]) aE (iH ((aW a.n b.d).d).1 ((aW b.n a.d).d).1 ((aW a.n b.d).d).2 ((aW b.n a.d).d).2) O O (by subst hr12;rfl) (go_ ?_);intro b13 hb13;refine go5 ?_;refine sQ (aX aE (jX r10 r12) O) O (go3 ?_);refine rtX O (eR O m4 tyT O) ?_
 subst_vars;exact congrArg vS6 (show _=(fJ a b) from aN h7 O)
theorem wS (a:Rt) (b:Bool) :
   Ret prog 110 [AV [pI a.n,pI a.d],.bool b] (AV [pI (gJ a b)]):=by
 refine bA (N:=8) func110 O O zz_ (fun w0=>?_);refine giI ?_;refine go2 ?_;intro b1 hb1;refine go_ ?_;intro b2 hb2;refine go5 ?_;refine aL _ O (fun h3=>?_) (fun h3=>?_)
 ·refine go_ ?_;refine sC (AV [pI (E (Z.of 0))]) aE (bW (wl 0).1 (wl 0).2) O O O ?_;refine go3 ?_;refine rtX O (eR O m0 tyT O) ?_;exact congrArg vS4 (show _=(gJ a b) from aQ h3 O)
 refine go2 ?_;refine sC (AV [pI (E Z.bad)]) aE dS O O O (go3 ?_);refine rtX O (eR O m0 tyT O) ?_;exact congrArg vS4 (show _=(gJ a b) from aN h3 O)
theorem A7 (a:(A3 W)) :
    Ret prog 238 [AV [cw a.x.1,cw a.y.1,cw a.z.1]] (.bool (lD a)):=by
 refine bA (N:=18) func238 O O zz_ (fun w0=>?_);refine giI ?_;refine go2 ?_;intro b1 hb1;refine go7 ?_;refine qS 5 (go4 ?_);refine sV (.bool true) O O (go5 ?_);refine gJv (rg [] 8 10) [(17,.bool (decide (2305843009213693952≤a.x.1)||decide (a.x.1≤(-2305843009213693952))))] (fun K5 J5=>?_) ?_
 ·refine go5 ?_;refine sBB O (fun h3=>?_) (fun h3=>?_)
  ·refine go6 ?_;refine J5 _ _ pp_ s0 (bQ (o9 h3))
  refine go6 ?_;refine J5 _ _ pp_ s0 (bQ (nA h3 O))
 intro g4;refine aL _ O (fun h5=>?_) (fun h5=>?_)
 ·refine go4 ?_;refine rt1 ?_;exact congrArg vS2 (show _=(lD a) from aQ h5 O)
 refine go3 ?_;refine sV (.int .i64 1) O O (go6 ?_);refine sV (.bool true) O O (go5 ?_);refine gJv (rg [] 8 10) [(17,.bool (decide (2305843009213693952≤a.y.1)||decide (a.y.1≤(-2305843009213693952))))] (fun K9 J9=>?_) ?_
 ·refine go5 ?_;refine sBB O (fun h7=>?_) (fun h7=>?_)
  ·refine go6 ?_;refine J9 _ _ pp_ s0 (bQ (o9 h7))
  refine go6 ?_;refine J9 _ _ pp_ s0 (bQ (nA h7 O))
 intro g8;refine aL _ O (fun h9=>?_) (fun h9=>?_)
 ·refine go4 ?_;refine rt1 ?_;exact congrArg vS2 (show _=(lD a) from aN h5 (aQ h9 O))
 refine go3 ?_;refine sV (.int .i64 2) O O (go6 ?_);refine sV (.bool true) O O (go5 ?_);refine gJv (rg [] 8 10) [(17,.bool (decide (2305843009213693952≤a.z.1)||decide (a.z.1≤(-2305843009213693952))))] (fun K13 J13=>?_) ?_
 ·refine go5 ?_;refine sBB O (fun h11=>?_) (fun h11=>?_)
  ·refine go6 ?_;refine J13 _ _ pp_ s0 (bQ (o9 h11))
  refine go6 ?_;refine J13 _ _ pp_ s0 (bQ (nA h11 O))
 intro g12;refine aL _ O (fun h13=>?_) (fun h13=>?_)
 ·refine go4 ?_;refine rt1 ?_;exact congrArg vS2 (show _=(lD a) from aN h5 (aN h9 (aQ h13 O)))
 refine go3 ?_;refine sV (.int .i64 3) O O (go6 ?_);refine sV (.bool false) O O (go7 ?_);refine rt1 ?_;exact congrArg vS2 (show _=(lD a) from aN h5 (aN h9 (aN h13 O)))
theorem B8 (a:(A3 W)) :
  Ret prog 235 [AV [cw a.x.1,cw a.y.1,cw a.z.1]] (AV [pI ((oL a).x),pI ((oL a).y),pI ((oL a).z)]):=by
 refine bA (N:=13) func235 O O zz_ (fun w0=>?_);refine giI ?_;refine go2 ?_;intro b1 hb1;refine go_ ?_;intro b2 hb2;refine go_ ?_;refine mS (sd (sk s0)) 11 [10] [10] (go2 ?_);refine pC (AV [pI (E (Z.of a.x.1))]) aE (bW a.x.1 a.x.2) O O O (go2 ?_);refine pC (AV [pI (E (Z.of a.y.1))]) aE (bW a.y.1 a.y.2) O O O (go2 ?_);refine pC (AV [pI (E (Z.of a.z.1))]) aE (bW a.z.1 a.z.2) O O O (pQ O (o4 zpT arT O (.cons [pI (E (Z.of a.x.1))] [pI (E (Z.of a.x.1)),pI I0,pI I0] O O O O (.cons [pI (E (Z.of a.y.1))] [pI (E (Z.of a.x.1)),pI (E (Z.of a.y.1)),pI I0] O O O O (.cons [pI (E (Z.of a.z.1))] [pI (E (Z.of a.x.1)),pI (E (Z.of a.y.1)),pI (E (Z.of a.z.1))] O O O O (.nil _))))) (go3 ?_));refine rtX O (eR O m0 tyT O) ?_;exact (by rfl)
theorem yQ (a:(A3 I)) :
    Ret prog 234 [AV [pI a.x,pI a.y,pI a.z]] (AV [cw ((((eH a).v).x).1),cw ((((eH a).v).y).1),cw ((((eH a).v).z).1),cw (((eH a).e).1)]):=by
 refine bA (N:=55) func234 O O zz_ (fun w0=>?_);refine giI ?_;refine go2 ?_;intro b1 hb1;refine go_ ?_;intro b2 hb2;refine go2 ?_;refine sC (AV [pI (E (Z.of 0))]) aE (bW (wl 0).1 (wl 0).2) O O O ?_;refine go_ ?_;intro b3 hb3;refine go7 ?_;refine qS 5 (go4 ?_);refine sV (.bool true) O O (go5 ?_);refine kY (sd (sk (sk s0))) 6 [5] [5] (go4 ?_);refine pC (AV [pI (E (Z.gcd (Z.of 0) a.x.dec))]) aE (lF (E (Z.of 0)).1 a.x.1 (E (Z.of 0)).2 a.x.2) O O (cg2 (fun p q=>AV [pI (E (Z.gcd p q))]) (fA _) O) (go4 ?_);refine sV (.int .i64 1) O O (go6 ?_);refine sV (.bool true) O O (go5 ?_);refine kY (sd (sk (sk s0))) 6 [5] [5] (go4 ?_);refine pC (AV [pI (E (Z.gcd (Z.gcd (Z.of 0) a.x.dec) a.y.dec))]) aE (lF (E (Z.gcd (Z.of 0) a.x.dec)).1 a.y.1 (E (Z.gcd (Z.of 0) a.x.dec)).2 a.y.2) O O (cg2 (fun p q=>AV [pI (E (Z.gcd p q))]) (fA _) O) (go4 ?_);refine sV (.int .i64 2) O O (go6 ?_);refine sV (.bool true) O O (go5 ?_);refine kY (sd (sk (sk s0))) 6 [5] [5] (go4 ?_);refine pC (AV [pI (E (Z.gcd (Z.gcd (Z.gcd (Z.of 0) a.x.dec) a.y.dec) a.z.dec))]) aE (lF (E (Z.gcd (Z.gcd (Z.of 0) a.x.dec) a.y.dec)).1 a.z.1 (E (Z.gcd (Z.gcd (Z.of 0) a.x.dec) a.y.dec)).2 a.z.2) O O (cg2 (fun p q=>AV [pI (E (Z.gcd p q))]) (fA _) O) (go4 ?_);refine sV (.int .i64 3) O O (go6 ?_);refine sV (.bool false) O O (go8 ?_);refine aL _ O (fun h4=>?_) (fun h4=>?_)
 ·refine go5 ?_;refine rtX O (eR O m1 tyT O) ?_;exact congrArg vS3 (show _=(eH a) from aQ h4 O)
 refine go4 ?_;refine sC (.int .i64 ((Z.signW (Z.gcd (Z.gcd (Z.gcd (Z.of 0) a.x.dec) a.y.dec) a.z.dec)).1)) aE (gH (E (Z.gcd (Z.gcd (Z.gcd (Z.of 0) a.x.dec) a.y.dec) a.z.dec)).1 (E (Z.gcd (Z.gcd (Z.gcd (Z.of 0) a.x.dec) a.y.dec) a.z.dec)).2) O O (cg1 (fun p=>Value.int .i64 (Z.signW p).1) (fA _)) (go2 ?_);refine aL _ O (fun h5=>?_) (fun h5=>?_)
 ·refine go5 ?_;refine rtX O (eR O m1 tyT O) ?_;exact congrArg vS3 (show _=(eH a) from aN h4 (aQ h5 O))
 refine go4 ?_;intro b6 hb6;refine go7 ?_;refine qS 5 (go4 ?_);refine sV (.bool true) O O (go5 ?_);refine mS (sk (sk (sk (sk s0)))) 11 [] [] (go4 ?_);obtain ⟨r7,hr7⟩:=nm ((E (Z.quo a.x.dec (Z.gcd (Z.gcd (Z.gcd (Z.of 0) a.x.dec) a.y.dec) a.z.dec))):I);refine pC (AV [pI r7]) aE (fY a.x.1 (E (Z.gcd (Z.gcd (Z.gcd (Z.of 0) a.x.dec) a.y.dec) a.z.dec)).1 a.x.2 (E (Z.gcd (Z.gcd (Z.gcd (Z.of 0) a.x.dec) a.y.dec) a.z.dec)).2) O O ((cg2 (fun p q=>AV [pI (E (Z.quo p q))]) O (fA _)).trans (by rw [hr7])) (pC (.tuple #[.int .i64 ((Z.smallW r7.dec).1),.bool r7.dec.small.2]) aE (gP r7.1 r7.2) O O O (wH ?_));rcases bt r7.dec.small.2 with h8|h8
 ·refine W_f (gG h8) O (jE ?_);refine sV (.int .i64 1) O O (go6 ?_);refine sV (.bool true) O O (go5 ?_);refine mS (sk (sk (sk (sk s0)))) 11 [] [] (go4 ?_);obtain ⟨r9,hr9⟩:=nm ((E (Z.quo a.y.dec (Z.gcd (Z.gcd (Z.gcd (Z.of 0) a.x.dec) a.y.dec) a.z.dec))):I);refine pC (AV [pI r9]) aE (fY a.y.1 (E (Z.gcd (Z.gcd (Z.gcd (Z.of 0) a.x.dec) a.y.dec) a.z.dec)).1 a.y.2 (E (Z.gcd (Z.gcd (Z.gcd (Z.of 0) a.x.dec) a.y.dec) a.z.dec)).2) O O ((cg2 (fun p q=>AV [pI (E (Z.quo p q))]) O (fA _)).trans (by rw [hr9])) (pC (.tuple #[.int .i64 ((Z.smallW r9.dec).1),.bool r9.dec.small.2]) aE (gP r9.1 r9.2) O O O (wH ?_));rcases bt r9.dec.small.2 with h10|h10
  ·refine W_f (gG h10) O (jE ?_);refine sV (.int .i64 2) O O (go6 ?_);refine sV (.bool true) O O (go5 ?_);refine mS (sk (sk (sk (sk s0)))) 11 [] [] (go4 ?_);obtain ⟨r11,hr11⟩:=nm ((E (Z.quo a.z.dec (Z.gcd (Z.gcd (Z.gcd (Z.of 0) a.x.dec) a.y.dec) a.z.dec))):I);refine pC (AV [pI r11]) aE (fY a.z.1 (E (Z.gcd (Z.gcd (Z.gcd (Z.of 0) a.x.dec) a.y.dec) a.z.dec)).1 a.z.2 (E (Z.gcd (Z.gcd (Z.gcd (Z.of 0) a.x.dec) a.y.dec) a.z.dec)).2) O O ((cg2 (fun p q=>AV [pI (E (Z.quo p q))]) O (fA _)).trans (by rw [hr11])) (pC (.tuple #[.int .i64 ((Z.smallW r11.dec).1),.bool r11.dec.small.2]) aE (gP r11.1 r11.2) O O O (wH ?_));rcases bt r11.dec.small.2 with h12|h12
   ·refine W_f (gG h12) O (jE ?_);refine sV (.int .i64 3) O O (go6 ?_);refine sV (.bool false) O O (go6 ?_);refine sQ (aX aE (A7 (⟨(Z.smallW r7.dec),(Z.smallW r9.dec),(Z.smallW r11.dec)⟩:(A3 W))) O) O (go7 ?_);rcases bt (lD (⟨(Z.smallW r7.dec),(Z.smallW r9.dec),(Z.smallW r11.dec)⟩:(A3 W))) with h13|h13
    ·refine W_f (gG h13) O (go6 ?_);refine rtX O (eR O m2 tyT O) ?_
     subst_vars;exact congrArg vS3 (show _=(eH a) from aN h4 (aN h5 (aQ h8 (aQ h10 (aQ h12 (aQ h13 O))))))
    refine W_t (gD h13) O (go5 ?_);refine rtX O (eR O m2 tyT O) ?_
    subst_vars;exact congrArg vS3 (show _=(eH a) from aN h4 (aN h5 (aQ h8 (aQ h10 (aQ h12 (aN h13 O))))))
   refine W_t (gD h12) O (go5 ?_);refine rtX O (eR O m2 tyT O) ?_
   subst_vars;exact congrArg vS3 (show _=(eH a) from aN h4 (aN h5 (aQ h8 (aQ h10 (aN h12 O)))))
  refine W_t (gD h10) O (go5 ?_);refine rtX O (eR O m2 tyT O) ?_
  subst_vars;exact congrArg vS3 (show _=(eH a) from aN h4 (aN h5 (aQ h8 (aN h10 O))))
 refine W_t (gD h8) O (go5 ?_);refine rtX O (eR O m2 tyT O) ?_;exact (by subst hr7;exact congrArg vS3 (show _=(eH a) from aN h4 (aN h5 (aN h8 O))))
theorem B7 (a:(A3 Rt)) (b:(A3 Rt)) :
  Ret prog 79 [AV [pI a.x.n,pI a.x.d,pI a.y.n,pI a.y.d,pI a.z.n,pI a.z.d],AV [pI b.x.n,pI b.x.d,pI b.y.n,pI b.y.d,pI b.z.n,pI b.z.d]] (AV [pI (((gK a b).x).n),pI (((gK a b).x).d),pI (((gK a b).y).n),pI (((gK a b).y).d),pI (((gK a b).z).n),pI (((gK a b).z).d)]):=by
 refine bA (N:=21) func79 O O zz_ (fun w0=>?_);refine giI ?_;refine go2 ?_;intro b1 hb1;refine go_ ?_;intro b2 hb2;refine go_ ?_;intro b3 hb3;refine go_ ?_;refine gds (sd (sk (sk s0))) [0,4,8,12,16,20,24,28,32,36,40,44,48,52,56,60,65] [16] mix (by kernel_rfl) (go4 ?_);refine pQ O (aX aE (tL a.x b.x) O) (go4 ?_);refine pQ O (aX aE (tL a.y b.y) O) (go4 ?_);refine pQ O (aX aE (tL a.z b.z) O) (pQ O (o4 zpT arT O (.cons [pI ((cN a.x b.x).n),pI ((cN a.x b.x).d)] [pI ((cN a.x b.x).n),pI ((cN a.x b.x).d),pI I0,pI I0,pI I0,pI I0] O O O O (.cons [pI ((cN a.y b.y).n),pI ((cN a.y b.y).d)] [pI ((cN a.x b.x).n),pI ((cN a.x b.x).d),pI ((cN a.y b.y).n),pI ((cN a.y b.y).d),pI I0,pI I0] O O O O (.cons [pI ((cN a.z b.z).n),pI ((cN a.z b.z).d)] [pI ((cN a.x b.x).n),pI ((cN a.x b.x).d),pI ((cN a.y b.y).n),pI ((cN a.y b.y).d),pI ((cN a.z b.z).n),pI ((cN a.z b.z).d)] O O O O (.nil _))))) (go3 ?_));refine rtX O (eR O m0 tyT O) ?_;exact (by rfl)
theorem DX (a:(A3 W)) :
  Ret prog 80 [AV [cw a.x.1,cw a.y.1,cw a.z.1]] (AV [pI (((iN a).x).n),pI (((iN a).x).d),pI (((iN a).y).n),pI (((iN a).y).d),pI (((iN a).z).n),pI (((iN a).z).d)]):=by
 refine bA (N:=13) func80 O O zz_ (fun w0=>?_);refine giI ?_;refine go2 ?_;intro b1 hb1;refine go_ ?_;intro b2 hb2;refine go_ ?_;refine mS (sd (sk s0)) 11 [10] [10] (go2 ?_);refine pQ O (aX aE (rG a.x) O) (go2 ?_);refine pQ O (aX aE (rG a.y) O) (go2 ?_);refine pQ O (aX aE (rG a.z) O) (pQ O (o4 zpT arT O (.cons [pI ((cM a.x).n),pI ((cM a.x).d)] [pI ((cM a.x).n),pI ((cM a.x).d),pI I0,pI I0,pI I0,pI I0] O O O O (.cons [pI ((cM a.y).n),pI ((cM a.y).d)] [pI ((cM a.x).n),pI ((cM a.x).d),pI ((cM a.y).n),pI ((cM a.y).d),pI I0,pI I0] O O O O (.cons [pI ((cM a.z).n),pI ((cM a.z).d)] [pI ((cM a.x).n),pI ((cM a.x).d),pI ((cM a.y).n),pI ((cM a.y).d),pI ((cM a.z).n),pI ((cM a.z).d)] O O O O (.nil _))))) (go3 ?_));refine rtX O (eR O m0 tyT O) ?_;exact (by rfl)
end Go.Proofs.YtbjlhfochebmiaaGreatDoor
