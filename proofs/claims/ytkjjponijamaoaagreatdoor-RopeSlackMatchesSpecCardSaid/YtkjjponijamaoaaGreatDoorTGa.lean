/- Lemmas: what they ask stands in their statements. -/
import Derived.Test.YtkjjponijamaoaaGreatDoorTSe
import Derived.Test.YtkjjponijamaoaaGreatDoorTWh
import Derived.Test.YtkjjponijamaoaaGreatDoorTFOf
set_option linter.unusedSimpArgs false
set_option linter.unusedVariables false
set_option maxHeartbeats 8000000
set_option maxRecDepth 20000
namespace Go.Proofs.YtkjjponijamaoaaGreatDoor
open Go.Kn Go.Num Tryz
attribute [local irreducible] Go.Kn.W WL PL OpQ OpR OpS
theorem BN  :
    Ret prog 131 [] (AV [pI F_ratio_one]):=by
 refine bL (N:=2) func131 rfl rfl (by simp) (fun w0=>?_);simp only [bO,Nat.reduceAdd];obtain ⟨q0,hq0⟩:=nm ((E (Z.of 1)):I);refine go2 ?_;intro b1 hb1;refine go2 ?_;refine sC (AV [pI q0]) aB (dO (wl 1).1 (wl 1).2) rfl rfl (by subst hq0;rfl) ?_;refine go3 ?_;refine bA rfl (.inr rfl) (eF rfl m0 tyT rfl) ?_;exact (by obtain rfl:=hq0.symm;rfl)
theorem pM  :
    Ret prog 127 [] (AV [pI uY.n,pI uY.d]):=by
 refine bL (N:=4) func127 rfl rfl (by simp) (fun w0=>?_);simp only [bO,Nat.reduceAdd];obtain ⟨q0,hq0⟩:=nm ((E Z.bad):I);obtain ⟨q1,hq1⟩:=nm (F_ratio_one:I);refine go2 ?_;intro b1 hb1;refine go2 ?_;refine sC (AV [pI q0]) aB gX rfl rfl (by subst hq0;rfl) (sC (AV [pI q1]) aB BN rfl rfl (by subst hq1;rfl) (go4 ?_));refine bA rfl (.inr rfl) (eF rfl m0 tyT rfl) ?_;exact (by subst_vars;rfl)
theorem xE (a:I) :
    Ret prog 153 [AV [pI a]] (.bool (nS a)):=by
 refine bL (N:=10) func153 rfl rfl (by simp) (fun w0=>?_);simp only [bO,Nat.reduceAdd];refine go2 ?_;intro b1 hb1;refine go2 ?_;refine gJv [2,3,4,5,6,7,8,9] [(2,.bool (!a.1.bad&&a.1.valid))] (fun K1 J1=>?_) ?_
 ·refine go4 ?_;rcases bt a.1.bad with h3 | h3
  ·refine sB (gE h3) rfl (go5 ?_);refine J1 _ _ pp_ s0 (bK (MO h3))
  refine sB (iK h3) rfl (go_ ?_);refine sC (.bool a.1.valid) aB (vR a.1 a.2) rfl rfl rfl (go3 ?_);refine J1 _ _ pp_ s0 (bK (MN h3 rfl))
 intro g4;refine go_ ?_;refine bA rfl (.inr rfl) rfl ?_;exact (by rfl)
theorem eV (a:Rt) :
    Ret prog 76 [AV [pI a.n,pI a.d]] (.bool (aT a)):=by
 refine bL (N:=26) func76 rfl rfl (by simp) (fun w0=>?_);simp only [bO,Nat.reduceAdd];refine go2 ?_;intro b1 hb1;refine go2 ?_;refine gJv [2,3,4,5,6,7,8,9,10,11,12,13,14,15,16,17,18,19,20,21,22,23,24,25] [(2,.bool ((nS a.n)&&((nS a.d)&&(decide (0<(Z.signW a.d.dec).1)&&decide ((E (Z.gcd a.n.dec a.d.dec))=F_ratio_one)))))] (fun K1 J1=>?_) ?_
 ·refine go3 ?_;refine sQ (bI aB (xE a.n) rfl) rfl ?_;refine sBB rfl (fun h5=>?_) (fun h5=>?_)
  ·refine go2 ?_;refine sQ (bI aB (xE a.d) rfl) rfl (go_ ?_);refine sBB rfl (fun h6=>?_) (fun h6=>?_)
   ·refine go2 ?_;refine sC (.int .i64 ((Z.signW a.d.dec).1)) aB (iY a.d.1 a.d.2) rfl rfl rfl (go2 ?_);refine sBB rfl (fun h7=>?_) (fun h7=>?_)
    ·refine go4 ?_;refine sC (AV [pI (E (Z.gcd a.n.dec a.d.dec))]) aB (sW a.n.1 a.d.1 a.n.2 a.d.2) rfl rfl rfl (sQ (bI aB BN  rfl) rfl ?_);refine sQ (vT (r:=decide ((E (Z.gcd a.n.dec a.d.dec))=F_ratio_one)) rfl rfl (oB 8 dd_ OR O0 (mU fH) (mU fH) (sH lT))) rfl (go3 ?_);refine J1 _ _ pp_ s0 (bK (kZ h5 (kZ h6 (kZ h7 rfl))))
    refine jT ?_;refine J1 _ _ pp_ s0 (bK (kZ h5 (kZ h6 (oZ h7))))
   refine SV ?_;refine J1 _ _ pp_ s0 (bK (kZ h5 (oZ h6)))
  refine N1 ?_;refine J1 _ _ pp_ s0 (bK (oZ h5))
 intro g8;refine go_ ?_;refine bA rfl (.inr rfl) rfl ?_;exact (by rfl)
theorem pZ (a:I) (b:I) :
    Ret prog 129 [AV [pI a],AV [pI b]] (AV [pI ((cX a b).n),pI ((cX a b).d)]):=by
 refine bL (N:=35) func129 rfl rfl (by simp) (fun w0=>?_);simp only [bO,Nat.reduceAdd];refine go2 ?_;intro b1 hb1;refine go_ ?_;intro b2 hb2;refine go_ ?_;intro b3 hb3;refine go2 ?_;refine gJv [6,7,8,9,10,11,12,13,14,15,16,17,18] [(18,.bool (!(nS a)||(!(nS b)||((Z.signW b.dec).1==0))))] (fun K2 J2=>?_) ?_
 ·refine go2 ?_;refine sQ (bI aB (xE a) rfl) rfl (go_ ?_);rcases bt (nS a) with h6 | h6
  ·refine sB (gE h6) rfl (go_ ?_);refine sQ (bI aB (xE b) rfl) rfl (go2 ?_);rcases bt (nS b) with h7 | h7
   ·refine sB (gE h7) rfl (go_ ?_);refine sC (.int .i64 ((Z.signW b.dec).1)) aB (iY b.1 b.2) rfl rfl rfl (go3 ?_);refine J2 _ _ pp_ s0 (bK (jU h6 (jU h7 rfl)))
   refine sB (iK h7) rfl (go5 ?_);refine J2 _ _ pp_ s0 (bK (jU h6 (n7 h7)))
  refine sB (iK h6) rfl (jT ?_);refine J2 _ _ pp_ s0 (bK (n7 h6))
 intro g8;refine aH _ rfl (fun h9=>?_) (fun h9=>?_)
 ·refine go_ ?_;refine sQ (bI aB pM  rfl) rfl (go3 ?_);refine bA rfl (.inr rfl) (eF rfl m0 tyT rfl) ?_;exact congrArg vS7 (show _=(cX a b) from aY h9 rfl)
 refine go4 ?_;refine sC (AV [pI (E (Z.gcd a.dec b.dec))]) aB (sW a.1 b.1 a.2 b.2) rfl rfl rfl (go_ ?_);intro b10 hb10;refine go5 ?_;refine sC (.int .i64 ((Z.signW b.dec).1)) aB (iY b.1 b.2) rfl rfl rfl (go2 ?_);refine aH _ rfl (fun h11=>?_) (fun h11=>?_)
 ·refine go2 ?_;refine sC (AV [pI (E (Z.neg (Z.gcd a.dec b.dec)))]) aB (BT (E (Z.gcd a.dec b.dec)).1 (E (Z.gcd a.dec b.dec)).2) rfl rfl (cg1 (fun p=>AV [pI (E (Z.neg p))]) (dB _)) (go2 ?_);refine oX (sk (sd (sk (sk (s0))))) 8 [7] [7] (go2 ?_);refine pC (AV [pI (E (Z.quo a.dec (Z.neg (Z.gcd a.dec b.dec))))]) aB (i8 a.1 (E (Z.neg (Z.gcd a.dec b.dec))).1 a.2 (E (Z.neg (Z.gcd a.dec b.dec))).2) rfl rfl (cg2 (fun p q=>AV [pI (E (Z.quo p q))]) rfl (dB _)) (go2 ?_);refine pC (AV [pI (E (Z.quo b.dec (Z.neg (Z.gcd a.dec b.dec))))]) aB (i8 b.1 (E (Z.neg (Z.gcd a.dec b.dec))).1 b.2 (E (Z.neg (Z.gcd a.dec b.dec))).2) rfl rfl (cg2 (fun p q=>AV [pI (E (Z.quo p q))]) rfl (dB _)) (pQ rfl (oW zpT plT rfl (.cons [pI (E (Z.quo a.dec (Z.neg (Z.gcd a.dec b.dec))))] [pI (E (Z.quo a.dec (Z.neg (Z.gcd a.dec b.dec)))),pI I0] rfl rfl rfl rfl (.cons [pI (E (Z.quo b.dec (Z.neg (Z.gcd a.dec b.dec))))] [pI (E (Z.quo a.dec (Z.neg (Z.gcd a.dec b.dec)))),pI (E (Z.quo b.dec (Z.neg (Z.gcd a.dec b.dec))))] rfl rfl rfl rfl (.nil _)))) (go3 ?_));refine bA rfl (.inr rfl) (eF rfl m1 tyT rfl) ?_;exact congrArg vS7 (show _=(cX a b) from aI h9 (aY h11 rfl))
 refine go_ ?_;refine oX (sk (sd (sk (sk (s0))))) 8 [7] [7] (go2 ?_);refine pC (AV [pI (E (Z.quo a.dec (Z.gcd a.dec b.dec)))]) aB (i8 a.1 (E (Z.gcd a.dec b.dec)).1 a.2 (E (Z.gcd a.dec b.dec)).2) rfl rfl (cg2 (fun p q=>AV [pI (E (Z.quo p q))]) rfl (dB _)) (go2 ?_);refine pC (AV [pI (E (Z.quo b.dec (Z.gcd a.dec b.dec)))]) aB (i8 b.1 (E (Z.gcd a.dec b.dec)).1 b.2 (E (Z.gcd a.dec b.dec)).2) rfl rfl (cg2 (fun p q=>AV [pI (E (Z.quo p q))]) rfl (dB _)) (pQ rfl (oW zpT plT rfl (.cons [pI (E (Z.quo a.dec (Z.gcd a.dec b.dec)))] [pI (E (Z.quo a.dec (Z.gcd a.dec b.dec))),pI I0] rfl rfl rfl rfl (.cons [pI (E (Z.quo b.dec (Z.gcd a.dec b.dec)))] [pI (E (Z.quo a.dec (Z.gcd a.dec b.dec))),pI (E (Z.quo b.dec (Z.gcd a.dec b.dec)))] rfl rfl rfl rfl (.nil _)))) (go3 ?_));refine bA rfl (.inr rfl) (eF rfl m1 tyT rfl) ?_;exact congrArg vS7 (show _=(cX a b) from aI h9 (aI h11 rfl))
theorem DX (a:I) :
    Ret prog 55 [AV [pI a]] (AV [pI ((pK a).n),pI ((pK a).d)]):=by
 refine bL (N:=6) func55 rfl rfl (by simp) (fun w0=>?_);simp only [bO,Nat.reduceAdd];refine go2 ?_;intro b1 hb1;refine go_ ?_;intro b2 hb2;refine go_ ?_;refine oX (sd (sk (s0))) 4 [3] [3] (go_ ?_);refine pQ rfl (bI aB BN  rfl) (pQ rfl (bI aB (pZ a F_ratio_one) rfl) (go3 ?_));refine bA rfl (.inr rfl) (eF rfl m0 tyT rfl) ?_;exact (by rfl)
theorem lQ (a:W) :
    Ret prog 50 [.int .i64 a.1] (AV [pI ((bR a).n),pI ((bR a).d)]):=by
 refine bL (N:=6) func50 rfl rfl (by simp) (fun w0=>?_);simp only [bO,Nat.reduceAdd];refine go2 ?_;intro b1 hb1;refine go3 ?_;refine sC (AV [pI (E (Z.of a.1))]) aB (dO a.1 a.2) rfl rfl rfl (sQ (bI aB (DX (E (Z.of a.1))) rfl) rfl (go3 ?_));refine bA rfl (.inr rfl) (eF rfl m0 tyT rfl) ?_;exact (by rfl)
theorem N6 (a:Rt) :
    Ret prog 205 [AV [pI a.n,pI a.d]] (AV [pI ((tL a).n),pI ((tL a).d)]):=by
 refine bL (N:=13) func205 rfl rfl (by simp) (fun w0=>?_);simp only [bO,Nat.reduceAdd];refine go2 ?_;intro b1 hb1;refine go_ ?_;intro b2 hb2;refine go4 ?_;refine sQ (bI aB (eV a) rfl) rfl (go2 ?_);rcases bt (aT a) with h3 | h3
 ·refine W_f (gE h3) rfl (go_ ?_);refine oX (sd (sk (s0))) 7 [6] [6] (go2 ?_);refine pC (AV [pI (E (Z.neg a.n.dec))]) aB (BT a.n.1 a.n.2) rfl rfl rfl (go2 ?_);refine pQ rfl (oW zpT plT rfl (.cons [pI (E (Z.neg a.n.dec))] [pI (E (Z.neg a.n.dec)),pI I0] rfl rfl rfl rfl (.cons [pI a.d] [pI (E (Z.neg a.n.dec)),pI a.d] rfl rfl rfl rfl (.nil _)))) (go3 ?_);refine bA rfl (.inr rfl) (eF rfl m0 tyT rfl) ?_;exact congrArg vS7 (show _=(tL a) from aY h3 rfl)
 refine W_t (iK h3) rfl (go_ ?_);refine sQ (bI aB pM  rfl) rfl (go3 ?_);refine bA rfl (.inr rfl) (eF rfl m0 tyT rfl) ?_;exact congrArg vS7 (show _=(tL a) from aI h3 rfl)
theorem rA (a:Rt) (b:Rt) :
    Ret prog 44 [AV [pI a.n,pI a.d],AV [pI b.n,pI b.d]] (AV [pI ((kF a b).n),pI ((kF a b).d)]):=by
 refine bL (N:=44) func44 rfl rfl (by simp) (fun w0=>?_);simp only [bO,Nat.reduceAdd];refine go2 ?_;intro b1 hb1;refine go_ ?_;intro b2 hb2;refine go_ ?_;intro b3 hb3;refine go2 ?_;refine gJv [8,9,10,11,12,13,14,15] [(15,.bool (!(aT a)||(!(aT b))))] (fun K2 J2=>?_) ?_
 ·refine go2 ?_;refine sQ (bI aB (eV a) rfl) rfl (go_ ?_);rcases bt (aT a) with h5 | h5
  ·refine sB (gE h5) rfl (go_ ?_);refine sQ (bI aB (eV b) rfl) rfl (go3 ?_);refine J2 _ _ pp_ s0 (bK (jU h5 rfl))
  refine sB (iK h5) rfl (go5 ?_);refine J2 _ _ pp_ s0 (bK (n7 h5))
 intro g6;refine aH _ rfl (fun h7=>?_) (fun h7=>?_)
 ·refine go_ ?_;refine sQ (bI aB pM  rfl) rfl (go3 ?_);refine bA rfl (.inr rfl) (eF rfl m0 tyT rfl) ?_;exact congrArg vS7 (show _=(kF a b) from aY h7 rfl)
 refine go6 ?_;refine sC (AV [pI (E (Z.gcd a.d.dec b.d.dec))]) aB (sW a.d.1 b.d.1 a.d.2 b.d.2) rfl rfl rfl (go_ ?_);intro b8 hb8;refine go2 ?_;refine gDs (sk (sk (sk (sk (s0))))) (.quiet 0 [1,3,7,10,11] (.quiet 1 [3,7,10,11] (.quiet 2 [3,7,10,11] (.quiet 3 [7,10,11] (.quiet 4 [5,7,10,11] (.quiet 5 [7,10,11] (.quiet 6 [7,10,11] (.quiet 7 [10,11] (.both 8 (.only 9 (.only 10 (.only 11 (.fin)))) 9 (.only 8 (.only 10 (.only 11 (.fin))))))))))))) [0,1,2,3,4,5,6,7,8,9] mix (by kernel_rfl) (by kernel_rfl) (go3 ?_);refine pC (AV [pI (E (Z.quo a.d.dec (Z.gcd a.d.dec b.d.dec)))]) aB (i8 a.d.1 (E (Z.gcd a.d.dec b.d.dec)).1 a.d.2 (E (Z.gcd a.d.dec b.d.dec)).2) rfl rfl (cg2 (fun p q=>AV [pI (E (Z.quo p q))]) rfl (dB _)) (go3 ?_);refine pC (AV [pI (E (Z.quo b.d.dec (Z.gcd a.d.dec b.d.dec)))]) aB (i8 b.d.1 (E (Z.gcd a.d.dec b.d.dec)).1 b.d.2 (E (Z.gcd a.d.dec b.d.dec)).2) rfl rfl (cg2 (fun p q=>AV [pI (E (Z.quo p q))]) rfl (dB _)) ?_;refine D4 ?_ ?_
 ·refine cF rfl rfl (kA zpT (fun b9 hb9=>⟨(fun _=>sd s0),(sd s0),?_⟩));refine cF rfl rfl (kA zpT (fun b10 hb10=>⟨(fun _=>sd s0),(sd (sd s0)),?_⟩));refine go3 ?_;refine gds (sk (sk (sk (sd (sk (sk (s0))))))) [0,4,8,12,16,20,24,28,32,36,40,44,48,52,57] [14] mix (by kernel_rfl) (go3 ?_);refine pC (AV [pI (E (Z.mul a.n.dec (Z.quo b.d.dec (Z.gcd a.d.dec b.d.dec))))]) aB (fL a.n.1 (E (Z.quo b.d.dec (Z.gcd a.d.dec b.d.dec))).1 a.n.2 (E (Z.quo b.d.dec (Z.gcd a.d.dec b.d.dec))).2) rfl rfl (cg2 (fun p q=>AV [pI (E (Z.mul p q))]) rfl (dB _)) (go3 ?_);refine pC (AV [pI (E (Z.mul b.n.dec (Z.quo a.d.dec (Z.gcd a.d.dec b.d.dec))))]) aB (fL b.n.1 (E (Z.quo a.d.dec (Z.gcd a.d.dec b.d.dec))).1 b.n.2 (E (Z.quo a.d.dec (Z.gcd a.d.dec b.d.dec))).2) rfl rfl (cg2 (fun p q=>AV [pI (E (Z.mul p q))]) rfl (dB _)) ?_;obtain ⟨r11,hr11⟩:=nm ((E (Z.add (Z.mul a.n.dec (Z.quo b.d.dec (Z.gcd a.d.dec b.d.dec))) (Z.mul b.n.dec (Z.quo a.d.dec (Z.gcd a.d.dec b.d.dec))))):I);refine pC (AV [pI r11]) aB (oH (E (Z.mul a.n.dec (Z.quo b.d.dec (Z.gcd a.d.dec b.d.dec)))).1 (E (Z.mul b.n.dec (Z.quo a.d.dec (Z.gcd a.d.dec b.d.dec)))).1 (E (Z.mul a.n.dec (Z.quo b.d.dec (Z.gcd a.d.dec b.d.dec)))).2 (E (Z.mul b.n.dec (Z.quo a.d.dec (Z.gcd a.d.dec b.d.dec)))).2) rfl rfl ((cg2 (fun p q=>AV [pI (E (Z.add p q))]) (dB _) (dB _)).trans (by rw [hr11])) (go3 ?_);refine pC (AV [pI (E (Z.mul (Z.quo a.d.dec (Z.gcd a.d.dec b.d.dec)) b.d.dec))]) aB (fL (E (Z.quo a.d.dec (Z.gcd a.d.dec b.d.dec))).1 b.d.1 (E (Z.quo a.d.dec (Z.gcd a.d.dec b.d.dec))).2 b.d.2) rfl rfl (cg2 (fun p q=>AV [pI (E (Z.mul p q))]) (dB _) rfl) ?_;obtain ⟨r12,hr12⟩:=nm ((cX r11 (E (Z.mul (Z.quo a.d.dec (Z.gcd a.d.dec b.d.dec)) b.d.dec))):Rt);refine pC (AV [pI r12.n,pI r12.d]) aB (pZ r11 (E (Z.mul (Z.quo a.d.dec (Z.gcd a.d.dec b.d.dec)) b.d.dec))) rfl rfl (by rw [hr12]) (go3 ?_);refine bA rfl (.inr rfl) (eF rfl m3 tyT rfl) ?_
  subst_vars;exact congrArg vS7 (show _=(kF a b) from aI h7 rfl)
 refine cF rfl rfl (kA zpT (fun b13 hb13=>⟨(fun _=>sd s0),(sd s0),?_⟩));refine cF rfl rfl (kA zpT (fun b14 hb14=>⟨(fun _=>sd s0),(sd (sd s0)),?_⟩));refine go3 ?_;refine gds (sk (sk (sk (sd (sk (sk (s0))))))) [0,4,8,12,16,20,24,28,32,36,40,44,48,52,57] [14] mix (by kernel_rfl) (go3 ?_);refine pC (AV [pI (E (Z.mul a.n.dec (Z.quo b.d.dec (Z.gcd a.d.dec b.d.dec))))]) aB (fL a.n.1 (E (Z.quo b.d.dec (Z.gcd a.d.dec b.d.dec))).1 a.n.2 (E (Z.quo b.d.dec (Z.gcd a.d.dec b.d.dec))).2) rfl rfl (cg2 (fun p q=>AV [pI (E (Z.mul p q))]) rfl (dB _)) (go3 ?_);refine pC (AV [pI (E (Z.mul b.n.dec (Z.quo a.d.dec (Z.gcd a.d.dec b.d.dec))))]) aB (fL b.n.1 (E (Z.quo a.d.dec (Z.gcd a.d.dec b.d.dec))).1 b.n.2 (E (Z.quo a.d.dec (Z.gcd a.d.dec b.d.dec))).2) rfl rfl (cg2 (fun p q=>AV [pI (E (Z.mul p q))]) rfl (dB _)) ?_;obtain ⟨r15,hr15⟩:=nm ((E (Z.add (Z.mul a.n.dec (Z.quo b.d.dec (Z.gcd a.d.dec b.d.dec))) (Z.mul b.n.dec (Z.quo a.d.dec (Z.gcd a.d.dec b.d.dec))))):I);refine pC (AV [pI r15]) aB (oH (E (Z.mul a.n.dec (Z.quo b.d.dec (Z.gcd a.d.dec b.d.dec)))).1 (E (Z.mul b.n.dec (Z.quo a.d.dec (Z.gcd a.d.dec b.d.dec)))).1 (E (Z.mul a.n.dec (Z.quo b.d.dec (Z.gcd a.d.dec b.d.dec)))).2 (E (Z.mul b.n.dec (Z.quo a.d.dec (Z.gcd a.d.dec b.d.dec)))).2) rfl rfl ((cg2 (fun p q=>AV [pI (E (Z.add p q))]) (dB _) (dB _)).trans (by rw [hr15])) (go3 ?_);refine pC (AV [pI (E (Z.mul (Z.quo a.d.dec (Z.gcd a.d.dec b.d.dec)) b.d.dec))]) aB (fL (E (Z.quo a.d.dec (Z.gcd a.d.dec b.d.dec))).1 b.d.1 (E (Z.quo a.d.dec (Z.gcd a.d.dec b.d.dec))).2 b.d.2) rfl rfl (cg2 (fun p q=>AV [pI (E (Z.mul p q))]) (dB _) rfl) ?_;obtain ⟨r16,hr16⟩:=nm ((cX r15 (E (Z.mul (Z.quo a.d.dec (Z.gcd a.d.dec b.d.dec)) b.d.dec))):Rt);refine pC (AV [pI r16.n,pI r16.d]) aB (pZ r15 (E (Z.mul (Z.quo a.d.dec (Z.gcd a.d.dec b.d.dec)) b.d.dec))) rfl rfl (by rw [hr16]) (go3 ?_);refine bA rfl (.inr rfl) (eF rfl m3 tyT rfl) ?_
 subst_vars;exact congrArg vS7 (show _=(kF a b) from aI h7 rfl)
theorem sU (a:Rt) (b:Rt) :
    Ret prog 126 [AV [pI a.n,pI a.d],AV [pI b.n,pI b.d]] (AV [pI ((eP a b).n),pI ((eP a b).d)]):=by
 refine bL (N:=9) func126 rfl rfl (by simp) (fun w0=>?_);simp only [bO,Nat.reduceAdd];refine go2 ?_;intro b1 hb1;refine go_ ?_;intro b2 hb2;refine go_ ?_;intro b3 hb3;refine go_ ?_;refine oX (sd (sk (sk (s0)))) 5 [4] [4] (go2 ?_);refine pQ rfl (bI aB (N6 b) rfl) (pQ rfl (bI aB (rA a (tL b)) rfl) (go3 ?_));refine bA rfl (.inr rfl) (eF rfl m0 tyT rfl) ?_;exact (by rfl)
theorem lH (a:Rt) (b:Rt) :
    Ret prog 130 [AV [pI a.n,pI a.d],AV [pI b.n,pI b.d]] (AV [pI ((dG a b).n),pI ((dG a b).d)]):=by
 refine bL (N:=48) func130 rfl rfl (by simp) (fun w0=>?_);simp only [bO,Nat.reduceAdd];refine go2 ?_;intro b1 hb1;refine go_ ?_;intro b2 hb2;refine go_ ?_;intro b3 hb3;refine go2 ?_;refine gJv [9,10,11,12,13,14,15,16] [(16,.bool (!(aT a)||(!(aT b))))] (fun K2 J2=>?_) ?_
 ·refine go2 ?_;refine sQ (bI aB (eV a) rfl) rfl (go_ ?_);rcases bt (aT a) with h5 | h5
  ·refine sB (gE h5) rfl (go_ ?_);refine sQ (bI aB (eV b) rfl) rfl (go3 ?_);refine J2 _ _ pp_ s0 (bK (jU h5 rfl))
  refine sB (iK h5) rfl (go5 ?_);refine J2 _ _ pp_ s0 (bK (n7 h5))
 intro g6;refine aH _ rfl (fun h7=>?_) (fun h7=>?_)
 ·refine go_ ?_;refine sQ (bI aB pM  rfl) rfl (go3 ?_);refine bA rfl (.inr rfl) (eF rfl m0 tyT rfl) ?_;exact congrArg vS7 (show _=(dG a b) from aY h7 rfl)
 refine go_ ?_;refine gDs (sk (sk (sk (s0)))) (.quiet 0 [1,4,9,12,13] (.quiet 1 [4,9,12,13] (.quiet 2 [3,4,9,12,13] (.quiet 3 [4,9,12,13] (.quiet 4 [9,12,13] (.quiet 5 [6,9,12,13] (.quiet 6 [9,12,13] (.quiet 7 [8,9,12,13] (.quiet 8 [9,12,13] (.quiet 9 [12,13] (.both 10 (.only 11 (.only 12 (.only 13 (.fin)))) 11 (.only 10 (.only 12 (.only 13 (.fin))))))))))))))) [0,1,2,3,4,5,6,7,8,9,10,11] mix (by kernel_rfl) (by kernel_rfl) (go4 ?_);refine pQ rfl (bI aB (pZ a.n b.d) rfl) (go4 ?_);refine pQ rfl (bI aB (pZ b.n a.d) rfl) ?_;refine D4 ?_ ?_
 ·refine cF rfl rfl (kA zpT (fun b8 hb8=>⟨(fun _=>sd s0),(sd s0),?_⟩));refine cF rfl rfl (kA zpT (fun b9 hb9=>⟨(fun _=>sd s0),(sd (sd s0)),?_⟩));refine go3 ?_;refine gDs (sk (sd (sk (sk (sk (s0)))))) (.quiet 0 [1,4,9,12,13] (.quiet 1 [4,9,12,13] (.quiet 2 [3,4,9,12,13] (.quiet 3 [4,9,12,13] (.quiet 4 [9,12,13] (.quiet 5 [6,9,12,13] (.quiet 6 [9,12,13] (.quiet 7 [8,9,12,13] (.quiet 8 [9,12,13] (.quiet 9 [12,13] (.both 10 (.only 11 (.only 12 (.only 13 (.fin)))) 11 (.only 10 (.only 12 (.only 13 (.fin))))))))))))))) [0,1,2,3,4,5,6,7,8,9,10,11] mix (by kernel_rfl) (by kernel_rfl) (go4 ?_);obtain ⟨r10,hr10⟩:=nm ((E (Z.mul ((cX a.n b.d).n).dec ((cX b.n a.d).n).dec)):I);refine pC (AV [pI r10]) aB (fL ((cX a.n b.d).n).1 ((cX b.n a.d).n).1 ((cX a.n b.d).n).2 ((cX b.n a.d).n).2) rfl rfl (by subst hr10;rfl) (go4 ?_);obtain ⟨r11,hr11⟩:=nm ((E (Z.mul ((cX a.n b.d).d).dec ((cX b.n a.d).d).dec)):I);refine pC (AV [pI r11]) aB (fL ((cX a.n b.d).d).1 ((cX b.n a.d).d).1 ((cX a.n b.d).d).2 ((cX b.n a.d).d).2) rfl rfl (by subst hr11;rfl) ?_;refine D4 ?_ ?_
  ·refine cF rfl rfl (kA zpT (fun b12 hb12=>⟨(fun _=>sd s0),(sd (sk (sd s0))),?_⟩));refine cF rfl rfl (kA zpT (fun b13 hb13=>⟨(fun _=>sd s0),(sd (sd (sk (sd s0)))),?_⟩));refine go4 ?_;refine gJv [38,39,40,41,42,43] [(43,.bool (r10.1.bad||r11.1.bad))] (fun K4 J4=>?_) ?_
   ·refine go3 ?_;refine sBB rfl (fun h15=>?_) (fun h15=>?_)
    ·refine go4 ?_;refine J4 _ _ pp_ s0 (bK (mF h15))
    refine go4 ?_;refine J4 _ _ pp_ s0 (bK (j9 h15 rfl))
   intro g16;refine aH _ rfl (fun h17=>?_) (fun h17=>?_)
   ·refine go_ ?_;refine sQ (bI aB pM  rfl) rfl (go3 ?_);refine bA rfl (.inr rfl) (eF rfl m4 tyT rfl) ?_
    subst_vars;exact congrArg vS7 (show _=(dG a b) from aI h7 (aY h17 rfl))
   refine go8 ?_;refine bA rfl (.inr rfl) (eF rfl m4 tyT rfl) ?_
   subst_vars;exact congrArg vS7 (show _=(dG a b) from aI h7 (aI h17 rfl))
  refine cF rfl rfl (kA zpT (fun b18 hb18=>⟨(fun _=>sd s0),(sd (sk (sd s0))),?_⟩));refine cF rfl rfl (kA zpT (fun b19 hb19=>⟨(fun _=>sd s0),(sd (sd (sk (sd s0)))),?_⟩));refine go4 ?_;refine gJv [38,39,40,41,42,43] [(43,.bool (r10.1.bad||r11.1.bad))] (fun K6 J6=>?_) ?_
  ·refine go3 ?_;refine sBB rfl (fun h21=>?_) (fun h21=>?_)
   ·refine go4 ?_;refine J6 _ _ pp_ s0 (bK (mF h21))
   refine go4 ?_;refine J6 _ _ pp_ s0 (bK (j9 h21 rfl))
  intro g22;refine aH _ rfl (fun h23=>?_) (fun h23=>?_)
  ·refine go_ ?_;refine sQ (bI aB pM  rfl) rfl (go3 ?_);refine bA rfl (.inr rfl) (eF rfl m4 tyT rfl) ?_
   subst_vars;exact congrArg vS7 (show _=(dG a b) from aI h7 (aY h23 rfl))
  refine go8 ?_;refine bA rfl (.inr rfl) (eF rfl m4 tyT rfl) ?_
  subst_vars;exact congrArg vS7 (show _=(dG a b) from aI h7 (aI h23 rfl))
 refine cF rfl rfl (kA zpT (fun b24 hb24=>⟨(fun _=>sd s0),(sd s0),?_⟩));refine cF rfl rfl (kA zpT (fun b25 hb25=>⟨(fun _=>sd s0),(sd (sd s0)),?_⟩));refine go3 ?_;refine gDs (sk (sk (sk (sk (sk (s0)))))) (.quiet 0 [1,4,9,12,13] (.quiet 1 [4,9,12,13] (.quiet 2 [3,4,9,12,13] (.quiet 3 [4,9,12,13] (.quiet 4 [9,12,13] (.quiet 5 [6,9,12,13] (.quiet 6 [9,12,13] (.quiet 7 [8,9,12,13] (.quiet 8 [9,12,13] (.quiet 9 [12,13] (.both 10 (.only 11 (.only 12 (.only 13 (.fin)))) 11 (.only 10 (.only 12 (.only 13 (.fin))))))))))))))) [0,1,2,3,4,5,6,7,8,9,10,11] mix (by kernel_rfl) (by kernel_rfl) (go4 ?_);obtain ⟨r26,hr26⟩:=nm ((E (Z.mul ((cX a.n b.d).n).dec ((cX b.n a.d).n).dec)):I);refine pC (AV [pI r26]) aB (fL ((cX a.n b.d).n).1 ((cX b.n a.d).n).1 ((cX a.n b.d).n).2 ((cX b.n a.d).n).2) rfl rfl (by subst hr26;rfl) (go4 ?_);obtain ⟨r27,hr27⟩:=nm ((E (Z.mul ((cX a.n b.d).d).dec ((cX b.n a.d).d).dec)):I);refine pC (AV [pI r27]) aB (fL ((cX a.n b.d).d).1 ((cX b.n a.d).d).1 ((cX a.n b.d).d).2 ((cX b.n a.d).d).2) rfl rfl (by subst hr27;rfl) ?_;refine D4 ?_ ?_
 ·refine cF rfl rfl (kA zpT (fun b28 hb28=>⟨(fun _=>sd s0),(sd s0),?_⟩));refine cF rfl rfl (kA zpT (fun b29 hb29=>⟨(fun _=>sd s0),(sd (sd s0)),?_⟩));refine go4 ?_;refine gJv [38,39,40,41,42,43] [(43,.bool (r26.1.bad||r27.1.bad))] (fun K8 J8=>?_) ?_
  ·refine go3 ?_;refine sBB rfl (fun h31=>?_) (fun h31=>?_)
   ·refine go4 ?_;refine J8 _ _ pp_ s0 (bK (mF h31))
   refine go4 ?_;refine J8 _ _ pp_ s0 (bK (j9 h31 rfl))
  intro g32;refine aH _ rfl (fun h33=>?_) (fun h33=>?_)
  ·refine go_ ?_;refine sQ (bI aB pM  rfl) rfl (go3 ?_);refine bA rfl (.inr rfl) (eF rfl m4 tyT rfl) ?_
   subst_vars;exact congrArg vS7 (show _=(dG a b) from aI h7 (aY h33 rfl))
  refine go8 ?_;refine bA rfl (.inr rfl) (eF rfl m4 tyT rfl) ?_
  subst_vars;exact congrArg vS7 (show _=(dG a b) from aI h7 (aI h33 rfl))
 refine cF rfl rfl (kA zpT (fun b34 hb34=>⟨(fun _=>sd s0),(sd s0),?_⟩));refine cF rfl rfl (kA zpT (fun b35 hb35=>⟨(fun _=>sd s0),(sd (sd s0)),?_⟩));refine go4 ?_;refine gJv [38,39,40,41,42,43] [(43,.bool (r26.1.bad||r27.1.bad))] (fun K10 J10=>?_) ?_
 ·refine go3 ?_;refine sBB rfl (fun h37=>?_) (fun h37=>?_)
  ·refine go4 ?_;refine J10 _ _ pp_ s0 (bK (mF h37))
  refine go4 ?_;refine J10 _ _ pp_ s0 (bK (j9 h37 rfl))
 intro g38;refine aH _ rfl (fun h39=>?_) (fun h39=>?_)
 ·refine go_ ?_;refine sQ (bI aB pM  rfl) rfl (go3 ?_);refine bA rfl (.inr rfl) (eF rfl m4 tyT rfl) ?_
  subst_vars;exact congrArg vS7 (show _=(dG a b) from aI h7 (aY h39 rfl))
 refine go8 ?_;refine bA rfl (.inr rfl) (eF rfl m4 tyT rfl) ?_
 subst_vars;exact congrArg vS7 (show _=(dG a b) from aI h7 (aI h39 rfl))
theorem uO  :
    Ret prog 151 [] (AV [pI F_skewbackref04_one]):=by
 refine bL (N:=2) func151 rfl rfl (by simp) (fun w0=>?_);simp only [bO,Nat.reduceAdd];obtain ⟨q0,hq0⟩:=nm ((E (Z.of 1)):I);refine go2 ?_;intro b1 hb1;refine go2 ?_;refine sC (AV [pI q0]) aB (cI (wl 1).1 (wl 1).2) rfl rfl (by subst hq0;rfl) ?_;refine go3 ?_;refine bA rfl (.inr rfl) (eF rfl m0 tyT rfl) ?_;exact (by obtain rfl:=hq0.symm;rfl)
theorem rM  :
    Ret prog 152 [] (AV [pI lB.n,pI lB.d]):=by
 refine bL (N:=4) func152 rfl rfl (by simp) (fun w0=>?_);simp only [bO,Nat.reduceAdd];obtain ⟨q0,hq0⟩:=nm ((E Z.bad):I);obtain ⟨q1,hq1⟩:=nm (F_skewbackref04_one:I);refine go2 ?_;intro b1 hb1;refine go2 ?_;refine sC (AV [pI q0]) aB fQ rfl rfl (by subst hq0;rfl) (sC (AV [pI q1]) aB uO rfl rfl (by subst hq1;rfl) (go4 ?_));refine bA rfl (.inr rfl) (eF rfl m0 tyT rfl) ?_;exact (by subst_vars;rfl)
theorem mY (a:I) (b:I) :
    Ret prog 161 [AV [pI a],AV [pI b]] (AV [pI ((bH a b).n),pI ((bH a b).d)]):=by
 refine bL (N:=35) func161 rfl rfl (by simp) (fun w0=>?_);simp only [bO,Nat.reduceAdd];refine go2 ?_;intro b1 hb1;refine go_ ?_;intro b2 hb2;refine go_ ?_;intro b3 hb3;refine go2 ?_;refine gJv [6,7,8,9,10,11,12,13,14,15,16,17,18] [(18,.bool (!a.1.good||(!b.1.good||((Z.signW b.dec).1==0))))] (fun K2 J2=>?_) ?_
 ·refine go2 ?_;refine sC (.bool a.1.good) aB (cJ a.1 a.2) rfl rfl rfl (go_ ?_);rcases bt a.1.good with h6 | h6
  ·refine sB (gE h6) rfl (go_ ?_);refine sC (.bool b.1.good) aB (cJ b.1 b.2) rfl rfl rfl (go2 ?_);rcases bt b.1.good with h7 | h7
   ·refine sB (gE h7) rfl (go_ ?_);refine sC (.int .i64 ((Z.signW b.dec).1)) aB (gR b.1 b.2) rfl rfl rfl (go3 ?_);refine J2 _ _ pp_ s0 (bK (jU h6 (jU h7 rfl)))
   refine sB (iK h7) rfl (go5 ?_);refine J2 _ _ pp_ s0 (bK (jU h6 (n7 h7)))
  refine sB (iK h6) rfl (jT ?_);refine J2 _ _ pp_ s0 (bK (n7 h6))
 intro g8;refine aH _ rfl (fun h9=>?_) (fun h9=>?_)
 ·refine go_ ?_;refine sQ (bI aB rM  rfl) rfl (go3 ?_);refine bA rfl (.inr rfl) (eF rfl m0 tyT rfl) ?_;exact congrArg vS7 (show _=(bH a b) from aY h9 rfl)
 refine go4 ?_;refine sC (AV [pI (E (Z.gcd a.dec b.dec))]) aB (o8 a.1 b.1 a.2 b.2) rfl rfl rfl (go_ ?_);intro b10 hb10;refine go5 ?_;refine sC (.int .i64 ((Z.signW b.dec).1)) aB (gR b.1 b.2) rfl rfl rfl (go2 ?_);refine aH _ rfl (fun h11=>?_) (fun h11=>?_)
 ·refine go2 ?_;refine sC (AV [pI (E (Z.neg (Z.gcd a.dec b.dec)))]) aB (uN (E (Z.gcd a.dec b.dec)).1 (E (Z.gcd a.dec b.dec)).2) rfl rfl (cg1 (fun p=>AV [pI (E (Z.neg p))]) (dB _)) (go2 ?_);refine oX (sk (sd (sk (sk (s0))))) 8 [7] [7] (go2 ?_);refine pC (AV [pI (E (Z.quo a.dec (Z.neg (Z.gcd a.dec b.dec))))]) aB (gK a.1 (E (Z.neg (Z.gcd a.dec b.dec))).1 a.2 (E (Z.neg (Z.gcd a.dec b.dec))).2) rfl rfl (cg2 (fun p q=>AV [pI (E (Z.quo p q))]) rfl (dB _)) (go2 ?_);refine pC (AV [pI (E (Z.quo b.dec (Z.neg (Z.gcd a.dec b.dec))))]) aB (gK b.1 (E (Z.neg (Z.gcd a.dec b.dec))).1 b.2 (E (Z.neg (Z.gcd a.dec b.dec))).2) rfl rfl (cg2 (fun p q=>AV [pI (E (Z.quo p q))]) rfl (dB _)) (pQ rfl (oW zpT plT rfl (.cons [pI (E (Z.quo a.dec (Z.neg (Z.gcd a.dec b.dec))))] [pI (E (Z.quo a.dec (Z.neg (Z.gcd a.dec b.dec)))),pI I0] rfl rfl rfl rfl (.cons [pI (E (Z.quo b.dec (Z.neg (Z.gcd a.dec b.dec))))] [pI (E (Z.quo a.dec (Z.neg (Z.gcd a.dec b.dec)))),pI (E (Z.quo b.dec (Z.neg (Z.gcd a.dec b.dec))))] rfl rfl rfl rfl (.nil _)))) (go3 ?_));refine bA rfl (.inr rfl) (eF rfl m1 tyT rfl) ?_;exact congrArg vS7 (show _=(bH a b) from aI h9 (aY h11 rfl))
 refine go_ ?_;refine oX (sk (sd (sk (sk (s0))))) 8 [7] [7] (go2 ?_);refine pC (AV [pI (E (Z.quo a.dec (Z.gcd a.dec b.dec)))]) aB (gK a.1 (E (Z.gcd a.dec b.dec)).1 a.2 (E (Z.gcd a.dec b.dec)).2) rfl rfl (cg2 (fun p q=>AV [pI (E (Z.quo p q))]) rfl (dB _)) (go2 ?_);refine pC (AV [pI (E (Z.quo b.dec (Z.gcd a.dec b.dec)))]) aB (gK b.1 (E (Z.gcd a.dec b.dec)).1 b.2 (E (Z.gcd a.dec b.dec)).2) rfl rfl (cg2 (fun p q=>AV [pI (E (Z.quo p q))]) rfl (dB _)) (pQ rfl (oW zpT plT rfl (.cons [pI (E (Z.quo a.dec (Z.gcd a.dec b.dec)))] [pI (E (Z.quo a.dec (Z.gcd a.dec b.dec))),pI I0] rfl rfl rfl rfl (.cons [pI (E (Z.quo b.dec (Z.gcd a.dec b.dec)))] [pI (E (Z.quo a.dec (Z.gcd a.dec b.dec))),pI (E (Z.quo b.dec (Z.gcd a.dec b.dec)))] rfl rfl rfl rfl (.nil _)))) (go3 ?_));refine bA rfl (.inr rfl) (eF rfl m1 tyT rfl) ?_;exact congrArg vS7 (show _=(bH a b) from aI h9 (aI h11 rfl))
theorem hJ (a:W) :
    Ret prog 87 [.int .i64 a.1] (AV [pI ((aJ a).n),pI ((aJ a).d)]):=by
 refine bL (N:=7) func87 rfl rfl (by simp) (fun w0=>?_);simp only [bO,Nat.reduceAdd];refine go2 ?_;intro b1 hb1;refine go3 ?_;refine sC (AV [pI (E (Z.of a.1))]) aB (cI a.1 a.2) rfl rfl rfl (sQ (bI aB uO  rfl) rfl ?_);obtain ⟨r2,hr2⟩:=nm ((bH (E (Z.of a.1)) F_skewbackref04_one):Rt);refine sC (AV [pI r2.n,pI r2.d]) aB (mY (E (Z.of a.1)) F_skewbackref04_one) rfl rfl (by rw [hr2]) (go3 ?_);refine bA rfl (.inr rfl) (eF rfl m0 tyT rfl) ?_;exact (by subst hr2;rfl)
theorem u7 (a:W) (b:W) :
    Ret prog 64 [.int .i64 a.1,.int .i64 b.1] (AV [pI ((lA a b).n),pI ((lA a b).d)]):=by
 refine bL (N:=10) func64 rfl rfl (by simp) (fun w0=>?_);simp only [bO,Nat.reduceAdd];refine go2 ?_;intro b1 hb1;refine go3 ?_;refine sC (AV [pI (E (Z.of a.1))]) aB (dO a.1 a.2) rfl rfl rfl (go_ ?_);refine sC (AV [pI (E (Z.of b.1))]) aB (dO b.1 b.2) rfl rfl rfl ?_;obtain ⟨r2,hr2⟩:=nm ((cX (E (Z.of a.1)) (E (Z.of b.1))):Rt);refine sC (AV [pI r2.n,pI r2.d]) aB (pZ (E (Z.of a.1)) (E (Z.of b.1))) rfl rfl (by rw [hr2]) (go3 ?_);refine bA rfl (.inr rfl) (eF rfl m0 tyT rfl) ?_;exact (by subst hr2;rfl)
end Go.Proofs.YtkjjponijamaoaaGreatDoor
namespace Go.Kn
open Go Go.Num
section
variable {α:Type} {e:El α} {P:Program} {w0:World} {X:List Nat} {N:Nm} {S:Fr} {M M':List Blk} {d:Option Tmp} {ty:TypeId} {ps:String} {af:Array Edge} {gd:Option (Nat×Bool)} {E:TypeId}
def OwnN (w0:World) (E:TypeId) (e:El α):List Value→List (List α)→List Blk→Prop
  | [],[],L=>L=[]
  | v :: vs,l :: ls,L=>∃ L1 L2,L=L1 ++ L2∧OwnG w0 E e v l L1∧OwnN w0 E e vs ls L2
  | _,_,_=>False
def SloN (w1 w:World) (E:TypeId) (e:El α) (vs:List Value) (ls:List (List α)):Prop :=
  ∃ L,OwnN w1 E e vs ls L∧(L.map Blk.b).Nodup∧∀ x∈L,w.heap[x.b]? = some (.cells x.cs.toArray x.T (0,0))
theorem OwnG.ge {v:Value} {l:List α} {L:List Blk} (h:OwnG w0 E e v l L):∀ x∈L,w0.heap.size≤x.b:=by
  rcases h with ⟨_,_,rfl⟩ | ⟨g,cap,cur,_,rfl,hg,_⟩
  · intro x hx;cases hx
  intro x hx;obtain rfl:=List.mem_singleton.1 hx;exact hg
theorem OwnG.wid {w:World} {v:Value} {l:List α} {L:List Blk} (hs:w0.heap.size≤w.heap.size) (h:OwnG w E e v l L):OwnG w0 E e v l L:=by
  rcases h with h | ⟨g,cap,cur,h1,h2,hg,h3⟩
  · exact .inl h
  exact .inr ⟨g,cap,cur,h1,h2,Nat.le_trans hs hg,h3⟩
theorem OwnN.ge:∀ {vs:List Value} {ls:List (List α)} {L:List Blk},OwnN w0 E e vs ls L→∀ x∈L,w0.heap.size≤x.b
  | [],[],L,h,x,hx=>by rw [show L=[] from h] at hx;cases hx
  | v :: vs,l :: ls,L,⟨L1,L2,h,h1,h2⟩,x,hx=>by
    rw [h] at hx;rcases List.mem_append.1 hx with hx | hx
    · exact h1.ge x hx
    exact OwnN.ge h2 x hx
theorem OwnN.wid {w:World} (hs:w0.heap.size≤w.heap.size):∀ {vs:List Value} {ls:List (List α)} {L:List Blk},OwnN w E e vs ls L→OwnN w0 E e vs ls L
  | [],[],_,h=>h
  | v :: vs,l :: ls,L,⟨L1,L2,h,h1,h2⟩=>⟨L1,L2,h,h1.wid hs,OwnN.wid hs h2⟩
theorem SloN.now {w w':World} {vs:List Value} {ls:List (List α)} (h:SloN w w' E e vs ls) (hw:Sat w0 X M w) (he:Ext w w'):∃ L,Sat w0 X (L ++ M) w'∧OwnN w0 E e vs ls L:=by
  obtain ⟨L,h1,h2,h3⟩:=h;have hw':=Sat.mono _ _ _ _ _ hw he;refine ⟨L,⟨hw'.os,hw'.tape,hw'.output,hw'.size,hw'.old,?_,fun y hy=>?_⟩,h1.wid hw.size⟩
  · rw [List.map_append]
    refine List.nodup_append.2 ⟨h2,hw'.nodup,fun a ha b hb e=>?_⟩;subst e;obtain ⟨x,hx,e1⟩:=List.mem_map.1 ha;obtain ⟨y,hy,e2⟩:=List.mem_map.1 hb;have g1:=h1.ge x hx;have g2:=gB? (hw.mem y hy);omega
  rcases List.mem_append.1 hy with hy | hy
  · exact h3 y hy
  exact hw'.mem y hy
theorem Sat.sloN {w:World} {L M2:List Blk} {vs:List Value} {ls:List (List α)} (hw:Sat w0 X M w) (p:M.Perm (L ++ M2)) (h:OwnN w0 E e vs ls L):SloN w0 w E e vs ls:=by
  have h2:=hw.perm p;refine ⟨L,h,?_,fun x hx=>h2.mem x (List.mem_append_left _ hx)⟩;have:=h2.nodup;rw [List.map_append] at this;exact (List.nodup_append.1 this).1
def es_ (w0:World) (M:List Blk) (E:TypeId) (e:El α) (v1 v2 v3 v4:Value) (l1 l2 l3 l4:List α):Prop:=∃ L M2,M.Perm (L ++ M2)∧OwnN w0 E e [v1,v2,v3,v4] [l1,l2,l3,l4] L
theorem ZO {v1 v2 v3 v4:Value} {l1 l2 l3 l4:List α} {L1 L2 L3 L4 M1 M2 M3 M4:List Blk} (h1:OwnG w0 E e v1 l1 L1) (h2:OwnG w0 E e v2 l2 L2) (h3:OwnG w0 E e v3 l3 L3) (h4:OwnG w0 E e v4 l4 L4)
    (f1:Frq M L1 M1) (f2:Frq M1 L2 M2) (f3:Frq M2 L3 M3) (f4:Frq M3 L4 M4):es_ w0 M E e v1 v2 v3 v4 l1 l2 l3 l4 :=
  ⟨L1 ++ (L2 ++ (L3 ++ (L4 ++ []))),M4,f1.trans (by
    have g1:M1.Perm (L2 ++ (L3 ++ (L4 ++ M4))):=f2.trans (List.Perm.append_left _ (f3.trans (List.Perm.append_left _ f4)));have:=List.Perm.append_left L1 g1
    simpa [List.append_assoc] using this),L1,_,rfl,h1,L2,_,rfl,h2,L3,_,rfl,h3,L4,_,rfl,h4,rfl⟩
theorem AS {n:Nat} {f:FuncId} {fn:Func} {c:Code} {args:List Value} {w:World} {l1 l2 l3 l4:List α} (R:Value→Value→Value→Value→Value) (hf:P.funcs[f]? = some fn) (hb:fn.body=some c) (hn:fn.ntmps=n) (hl:args.length≤n)
    (h:W P w [] (pl n) c (tA P fn w [] (pl n) fun r M=>∃ v1 v2 v3 v4,r=R v1 v2 v3 v4∧es_ w M E e v1 v2 v3 v4 l1 l2 l3 l4) (bO 0 args) []):Calls P f args.toArray w fun f w'=>∃ v1 v2 v3 v4,f = .returned (R v1 v2 v3 v4)∧Ext w w'∧SloN w w' E e [v1,v2,v3,v4] [l1,l2,l3,l4] :=
  (sP hf hb hn hl (Sat.start w []) h).mono fun f w' ⟨r,M',he,hs,_,v1,v2,v3,v4,hr,L,M2,p,hN⟩=>⟨v1,v2,v3,v4,by rw [he,hr],hs.ext,hs.sloN p hN⟩
theorem A5 {g:FuncId} {xs:List Operand} {tys:Array TypeId} {args:List Value} {K:Value→List Blk→Prop} {l1 l2 l3 l4:List α} (R:Value→Value→Value→Value→Value) (he:nU P g=true) (ha:evL N S xs=some args)
    (h:∀ w,Sat w0 X M w→Calls P g args.toArray w fun f w'=>∃ v1 v2 v3 v4,f = .returned (R v1 v2 v3 v4)∧Ext w w'∧SloN w w' E e [v1,v2,v3,v4] [l1,l2,l3,l4])
    (k:∀ p1 c1 L1 p2 c2 L2 p3 c3 L3 p4 c4 L4,OwnG w0 E e (.slice p1 l1.length c1) l1 L1→OwnG w0 E e (.slice p2 l2.length c2) l2 L2→OwnG w0 E e (.slice p3 l3.length c3) l3 L3→OwnG w0 E e (.slice p4 l4.length c4) l4 L4→K (R (.slice p1 l1.length c1) (.slice p2 l2.length c2) (.slice p3 l3.length c3) (.slice p4 l4.length c4)) (L1 ++ (L2 ++ (L3 ++ (L4 ++ M))))) :
    OpR P w0 X N ⟨d,.call { callee:=.value (.func g),args:=xs.toArray,argTypes:=tys },ty,ps,af,gd⟩ S M K :=
  GU he ha fun w hw=>(h w hw).mono fun _ w' ⟨v1,v2,v3,v4,h1,h2,h3⟩=>by
    obtain ⟨L,hs,L1,_,rfl,q1,L2,_,rfl,q2,L3,_,rfl,q3,L4,_,rfl,q4,rfl⟩:=h3.now hw h2;obtain ⟨p1,c1,rfl⟩:=q1.form;obtain ⟨p2,c2,rfl⟩:=q2.form;obtain ⟨p3,c3,rfl⟩:=q3.form;obtain ⟨p4,c4,rfl⟩:=q4.form;simp only [List.append_assoc,List.nil_append] at hs;exact ⟨_,_,h1,hs,Ext.keeps h2,k _ _ _ _ _ _ _ _ _ _ _ _ q1 q2 q3 q4⟩
end
open Go Go.Num
section
variable {P:Program} {w0:World} {X:List Nat} {N:Nm} {S:Fr} {M M':List Blk} {d:Option Tmp} {ty:TypeId} {ps:String} {af:Array Edge} {gd:Option (Nat×Bool)}
theorem KU {g:FuncId} {f:Operand} {xs:List Operand} {tys:Array TypeId} {args cap:List Value} {Q K:Value→List Blk→Prop} (he:nU P g=true) (hf:evO N S f=some (.func (.func g) #[] cap.toArray)) (ha:evL N S xs=some args)
    (h:∀ w,Sat w0 X M w→Calls P g (args ++ cap).toArray w fun e w'=>∃ v M',e = .returned v∧Sat w0 X M' w'∧KeepsOthers w w'∧Q v M') (k:∀ v M',Q v M'→K v M') :
    OpR P w0 X N ⟨d,.call { callee:=.value f,args:=xs.toArray,argTypes:=tys },ty,ps,af,gd⟩ S M K:=by
  intro w hw;unfold opw;rw [o5,CA (first:=[]) (cap:=cap) (args:=args ++ cap) he (cG hf) (by simpa using wX ha)];exact (h w hw).mono fun e w' ⟨v,M',h1,h2,h4,h3⟩=>⟨v,h1,h4,M',h2,k v M' h3⟩
theorem MX {α:Type} {e:El α} {l:List α} {E:TypeId} {g:FuncId} {f:Operand} {xs:List Operand} {tys:Array TypeId} {args:List Value} {K:Value→List Blk→Prop} (R:Value→Value) (he:nU P g=true) (hf:evO N S f=some (.func (.func g) #[] #[])) (ha:evL N S xs=some args)
    (h:∀ w,Sat w0 X M w→Calls P g args.toArray w fun f w'=>∃ v,f = .returned (R v)∧Ext w w'∧Slo w.heap.size w' E e v l) (k:∀ p c L,OwnG w0 E e (.slice p l.length c) l L→K (R (.slice p l.length c)) (L ++ M)) :
    OpR P w0 X N ⟨d,.call { callee:=.value f,args:=xs.toArray,argTypes:=tys },ty,ps,af,gd⟩ S M K :=
  KU (cap:=[]) (Q:=K) he hf ha (fun w hw=>by
    rw [List.append_nil]
    exact (h w hw).mono fun _ w' ⟨v,h1,h2,h3⟩=>by
      obtain ⟨p,c,L,rfl,hs,hv⟩:=h3.now hw h2
      exact ⟨_,L ++ M,h1,hs,Ext.keeps h2,k p c L hv⟩) (fun _ _ h=>h)
theorem R8 {n:Nat} {f:FuncId} {fn:Func} {c:Code} {args:List Value} {w:World} {Q:Value→List Blk→Prop} (hf:P.funcs[f]? = some fn) (hb:fn.body=some c) (hn:fn.ntmps=n) (hl:args.length≤n) (hw:Sat w0 X M w)
    (h:W P w0 X (pl n) c (tA P fn w0 X (pl n) fun v M'=>∃ M2 Z,M'.Perm (M2 ++ Z)∧Q v M2) (bO 0 args) M):Calls P f args.toArray w fun e w'=>∃ v M',e = .returned v∧Sat w0 X M' w'∧KeepsOthers w w'∧Q v M' :=
  (sP hf hb hn hl hw h).mono fun e w' ⟨v,M',h1,h2,h3,M2,Z,p,hq⟩=>⟨v,M2,h1,(h2.perm p).sub (List.sublist_append_left _ _),h3,hq⟩
theorem QF {x y z:Blk} {L R M1 M2 M3 M4 M5:List Blk} (f1:Frq M [x] M1) (f2:Frq M1 L M2) (f3:Frq M2 [y] M3) (f4:Frq M3 [z] M4) (f5:Frq M4 R M5):M.Perm (x :: (L ++ (y :: (z :: (R ++ M5))))):=by
  have g4:M3.Perm (z :: (R ++ M5)):=f4.trans (List.Perm.cons z f5);have g3:M2.Perm (y :: (z :: (R ++ M5))):=f3.trans (List.Perm.cons y g4);have g2:M1.Perm (L ++ (y :: (z :: (R ++ M5)))):=f2.trans (List.Perm.append_left L g3);exact f1.trans (List.Perm.cons x g2)
theorem Frq.pc {x:Blk} {M1 R:List Blk} (f:Frq M [x] M1) (g:M1.Perm R):M.Perm (x :: R):=f.trans (List.Perm.cons x g)
theorem Frq.pa {L M1 R:List Blk} (f:Frq M L M1) (g:M1.Perm R):M.Perm (L ++ R):=f.trans (List.Perm.append_left L g)
theorem CE {x y z:Blk} {L R Z:List Blk}:(x :: (L ++ (y :: (z :: (R ++ Z))))).Perm ((x :: (L ++ (y :: (z :: (R ++ []))))) ++ Z):=by
  simp [List.append_assoc]
theorem hc_ {M:List Blk}:Frq M [] M:=List.Perm.refl _
def h9_ {α:Type} (w0:World) (E T:TypeId) (e:El α) (bt:Nat) (v:Value) (l:List α) (R:List Blk) (r:Value) (M:List Blk):Prop :=
  ∃ p c L,r=v∧OwnG w0 E e (.slice p l.length c) l L∧M=⟨bt,T,cV [csl p l.length c]⟩ :: (L ++ R)
end
end Go.Kn
namespace Go.Num
open Go Go.Kn
theorem W.sub1 {a:W} (h:1≤a.1):(W.sub a (wl 1)).1=a.1 - 1:=by
  have:=a.2;unfold I64 at this;exact wi ⟨by show _≤a.1 - 1;omega,by show a.1 - 1≤_;omega⟩
theorem gF_ {k:Nat} (h:k≤12):([]:List Rt).length+2 ^ k≤5000:=by
  have:=Nat.pow_le_pow_right (show 0<2 by decide) h
  show 0+2 ^ k≤5000
  omega
end Go.Num
namespace Go.Proofs.YtkjjponijamaoaaGreatDoor
open Go.Kn Go.Num Tryz
attribute [local irreducible] Go.Kn.W WL PL OpQ OpR OpS
theorem gG (a:Rt) :
    Ret prog 74 [AV [pI a.n,pI a.d]] (.bool (aG a)):=by
 refine bL (N:=26) func74 rfl rfl (by simp) (fun w0=>?_);simp only [bO,Nat.reduceAdd];refine go2 ?_;intro b1 hb1;refine go3 ?_;refine gJv [3,4,5,6,7,8,9,10,11,12] [(12,.bool (!a.n.1.good||(!a.d.1.good)))] (fun K2 J2=>?_) ?_
 ·refine go3 ?_;refine sC (.bool a.n.1.good) aB (cJ a.n.1 a.n.2) rfl rfl rfl (go_ ?_);rcases bt a.n.1.good with h3 | h3
  ·refine sB (gE h3) rfl (go2 ?_);refine sC (.bool a.d.1.good) aB (cJ a.d.1 a.d.2) rfl rfl rfl (go3 ?_);refine J2 _ _ pp_ s0 (bK (jU h3 rfl))
  refine sB (iK h3) rfl (go6 ?_);refine J2 _ _ pp_ s0 (bK (n7 h3))
 intro g4;refine aH _ rfl (fun h5=>?_) (fun h5=>?_)
 ·refine go4 ?_;refine bA rfl (.inr rfl) rfl ?_;exact congrArg vS2 (show _=(aG a) from aY h5 rfl)
 refine go_ ?_;refine gJv [2,13,14,15,16,17,18,19,20,21,22,23,24,25] [(2,.bool (decide (0<(Z.signW a.d.dec).1)&&decide ((E (Z.gcd a.n.dec a.d.dec))=F_skewbackref04_one)))] (fun K3 J3=>?_) ?_
 ·refine go3 ?_;refine sC (.int .i64 ((Z.signW a.d.dec).1)) aB (gR a.d.1 a.d.2) rfl rfl rfl (go_ ?_);refine sBB rfl (fun h7=>?_) (fun h7=>?_)
  ·refine go4 ?_;refine sC (AV [pI (E (Z.gcd a.n.dec a.d.dec))]) aB (o8 a.n.1 a.d.1 a.n.2 a.d.2) rfl rfl rfl (sQ (bI aB uO  rfl) rfl ?_);refine sQ (vT (r:=decide ((E (Z.gcd a.n.dec a.d.dec))=F_skewbackref04_one)) rfl rfl (oB 8 dd_ OR O0 (mU fH) (mU fH) (sH lT))) rfl (go3 ?_);refine J3 _ _ pp_ s0 (bK (kZ h7 rfl))
  refine jT ?_;refine J3 _ _ pp_ s0 (bK (oZ h7))
 intro g8;refine go_ ?_;refine bA rfl (.inr rfl) rfl ?_;exact congrArg vS2 (show _=(aG a) from aI h5 rfl)
end Go.Proofs.YtkjjponijamaoaaGreatDoor
