/- Lemmas: what they ask stands in their statements. -/
import Derived.Test.YtbjlhfochebmiaaGreatDoorXFn
import Derived.Test.YtbjlhfochebmiaaGreatDoorXPa
import Derived.Test.YtbjlhfochebmiaaGreatDoorXWh
set_option linter.unusedSimpArgs false
set_option linter.unusedVariables false
set_option maxHeartbeats 8000000
set_option maxRecDepth 20000
namespace Go.Proofs.YtbjlhfochebmiaaGreatDoor
open Go.Kn Go.Num
attribute [local irreducible] Go.Kn.W WL PL OpQ OpR OpS
theorem tN  :
    Ret Tryz.prog 125 [] (AV [pI F_ratio_one]):=by
 refine aW (N:=2) Tryz.func125 rfl rfl (by simp) (fun w0=>?_);simp only [bA,Nat.reduceAdd];obtain ⟨q0,hq0⟩:=nm ((E (Z.of 1)):I);refine go2 ?_;intro b1 hb1;refine go2 ?_;refine sC (AV [pI q0]) kW (cN (wl 1).1 (wl 1).2) rfl rfl (by subst hq0;rfl) ?_;refine go3 ?_;refine aS rfl (.inr rfl) (fB rfl m0 tyT rfl) ?_;exact (by obtain rfl:=hq0.symm;rfl)

theorem i7  :
    Ret Tryz.prog 119 [] (AV [pI mR.n,pI mR.d]):=by
 refine aW (N:=4) Tryz.func119 rfl rfl (by simp) (fun w0=>?_);simp only [bA,Nat.reduceAdd];obtain ⟨q0,hq0⟩:=nm ((E Z.bad):I);obtain ⟨q1,hq1⟩:=nm (F_ratio_one:I);refine go2 ?_;intro b1 hb1;refine go2 ?_;refine sC (AV [pI q0]) lQ dR rfl rfl (by subst hq0;rfl) (sC (AV [pI q1]) LE tN rfl rfl (by subst hq1;rfl) (go4 ?_));refine aS rfl (.inr rfl) (fB rfl m0 tyT rfl) ?_;exact (by subst_vars;rfl)

theorem o8 (a:I) :
    Ret Tryz.prog 170 [AV [pI a]] (.bool (gW a)):=by
 refine aW (N:=10) Tryz.func170 rfl rfl (by simp) (fun w0=>?_);simp only [bA,Nat.reduceAdd];refine go2 ?_;intro b1 hb1;refine go2 ?_;refine gJv [2,3,4,5,6,7,8,9] [(2,.bool (!a.1.bad&&a.1.valid))] (fun K1 J1=>?_) ?_
 ·refine go4 ?_;rcases bt a.1.bad with h3 | h3
  ·refine sB (iX h3) rfl (go5 ?_);refine J1 _ _ pp_ s0 (bQ (G9 h3))
  refine sB (iY h3) rfl (go_ ?_);refine sC (.bool a.1.valid) GU (n4 a.1 a.2) rfl rfl rfl (go3 ?_);refine J1 _ _ pp_ s0 (bQ (G7 h3 rfl))
 intro g4;refine go_ ?_;refine aS rfl (.inr rfl) rfl ?_;exact (by rfl)

theorem j4 (a:Rt) :
    Ret Tryz.prog 99 [AV [pI a.n,pI a.d]] (.bool (cV a)):=by
 refine aW (N:=26) Tryz.func99 rfl rfl (by simp) (fun w0=>?_);simp only [bA,Nat.reduceAdd];refine go2 ?_;intro b1 hb1;refine go2 ?_;refine gJv [2,3,4,5,6,7,8,9,10,11,12,13,14,15,16,17,18,19,20,21,22,23,24,25] [(2,.bool ((gW a.n)&&((gW a.d)&&(decide (0<(Z.signW a.d.dec).1)&&decide ((E (Z.gcd a.n.dec a.d.dec))=F_ratio_one)))))] (fun K1 J1=>?_) ?_
 ·refine go3 ?_;refine sQ (aZ GS (o8 a.n) rfl) rfl ?_;refine sBB rfl (fun h5=>?_) (fun h5=>?_)
  ·refine go2 ?_;refine sQ (aZ GS (o8 a.d) rfl) rfl (go_ ?_);refine sBB rfl (fun h6=>?_) (fun h6=>?_)
   ·refine go2 ?_;refine sC (.int .i64 ((Z.signW a.d.dec).1)) u4 (iQ a.d.1 a.d.2) rfl rfl rfl (go2 ?_);refine sBB rfl (fun h7=>?_) (fun h7=>?_)
    ·refine go4 ?_;refine sC (AV [pI (E (Z.gcd a.n.dec a.d.dec))]) CS (tP a.n.1 a.d.1 a.n.2 a.d.2) rfl rfl rfl (sQ (aZ LE tN  rfl) rfl ?_);refine sQ (d5 (r:=decide ((E (Z.gcd a.n.dec a.d.dec))=F_ratio_one)) rfl rfl (cL 8 dd_ Q2 SC (bP aH) (bP aH) (dA bJ))) rfl (go3 ?_);refine J1 _ _ pp_ s0 (bQ (iI h5 (iI h6 (iI h7 rfl))))
    refine iE ?_;refine J1 _ _ pp_ s0 (bQ (iI h5 (iI h6 (lV h7))))
   refine RY ?_;refine J1 _ _ pp_ s0 (bQ (iI h5 (lV h6)))
  refine C4 ?_;refine J1 _ _ pp_ s0 (bQ (lV h5))
 intro g8;refine go_ ?_;refine aS rfl (.inr rfl) rfl ?_;exact (by rfl)

theorem jG (a:I) (b:I) :
    Ret Tryz.prog 116 [AV [pI a],AV [pI b]] (AV [pI ((bH a b).n),pI ((bH a b).d)]):=by
 refine aW (N:=35) Tryz.func116 rfl rfl (by simp) (fun w0=>?_);simp only [bA,Nat.reduceAdd];refine go2 ?_;intro b1 hb1;refine go_ ?_;intro b2 hb2;refine go_ ?_;intro b3 hb3;refine go2 ?_;refine gJv [6,7,8,9,10,11,12,13,14,15,16,17,18] [(18,.bool (!(gW a)||(!(gW b)||((Z.signW b.dec).1==0))))] (fun K2 J2=>?_) ?_
 ·refine go2 ?_;refine sQ (aZ GS (o8 a) rfl) rfl (go_ ?_);rcases bt (gW a) with h6 | h6
  ·refine sB (iX h6) rfl (go_ ?_);refine sQ (aZ GS (o8 b) rfl) rfl (go2 ?_);rcases bt (gW b) with h7 | h7
   ·refine sB (iX h7) rfl (go_ ?_);refine sC (.int .i64 ((Z.signW b.dec).1)) u4 (iQ b.1 b.2) rfl rfl rfl (go3 ?_);refine J2 _ _ pp_ s0 (bQ (oX h6 (oX h7 rfl)))
   refine sB (iY h7) rfl (go5 ?_);refine J2 _ _ pp_ s0 (bQ (oX h6 (r8 h7)))
  refine sB (iY h6) rfl (iE ?_);refine J2 _ _ pp_ s0 (bQ (r8 h6))
 intro g8;refine aK _ rfl (fun h9=>?_) (fun h9=>?_)
 ·refine go_ ?_;refine sQ (aZ u6 i7  rfl) rfl (go3 ?_);refine aS rfl (.inr rfl) (fB rfl m0 tyT rfl) ?_;exact congrArg vS4 (show _=(bH a b) from aE h9 rfl)
 refine go4 ?_;refine sC (AV [pI (E (Z.gcd a.dec b.dec))]) CS (tP a.1 b.1 a.2 b.2) rfl rfl rfl (go_ ?_);intro b10 hb10;refine go5 ?_;refine sC (.int .i64 ((Z.signW b.dec).1)) u4 (iQ b.1 b.2) rfl rfl rfl (go2 ?_);refine aK _ rfl (fun h11=>?_) (fun h11=>?_)
 ·refine go2 ?_;refine sC (AV [pI (E (Z.neg (Z.gcd a.dec b.dec)))]) LD (tQ (E (Z.gcd a.dec b.dec)).1 (E (Z.gcd a.dec b.dec)).2) rfl rfl (cg1 (fun p=>AV [pI (E (Z.neg p))]) (dB _)) (go2 ?_);refine gds (sk (sd (sk (sk (s0))))) [0,4,8,12,16,20,24,29] [7] mix (by kernel_rfl) (go2 ?_);refine pC (AV [pI (E (Z.quo a.dec (Z.neg (Z.gcd a.dec b.dec))))]) yN (kV a.1 (E (Z.neg (Z.gcd a.dec b.dec))).1 a.2 (E (Z.neg (Z.gcd a.dec b.dec))).2) rfl rfl (cg2 (fun p q=>AV [pI (E (Z.quo p q))]) rfl (dB _)) (go2 ?_);refine pC (AV [pI (E (Z.quo b.dec (Z.neg (Z.gcd a.dec b.dec))))]) yN (kV b.1 (E (Z.neg (Z.gcd a.dec b.dec))).1 b.2 (E (Z.neg (Z.gcd a.dec b.dec))).2) rfl rfl (cg2 (fun p q=>AV [pI (E (Z.quo p q))]) rfl (dB _)) (pQ rfl (rP zpT plT rfl (.cons [pI (E (Z.quo a.dec (Z.neg (Z.gcd a.dec b.dec))))] [pI (E (Z.quo a.dec (Z.neg (Z.gcd a.dec b.dec)))),pI I0] rfl rfl rfl rfl (.cons [pI (E (Z.quo b.dec (Z.neg (Z.gcd a.dec b.dec))))] [pI (E (Z.quo a.dec (Z.neg (Z.gcd a.dec b.dec)))),pI (E (Z.quo b.dec (Z.neg (Z.gcd a.dec b.dec))))] rfl rfl rfl rfl (.nil _)))) (go3 ?_));refine aS rfl (.inr rfl) (fB rfl m1 tyT rfl) ?_;exact congrArg vS4 (show _=(bH a b) from aM h9 (aE h11 rfl))
 refine go_ ?_;refine gds (sk (sd (sk (sk (s0))))) [0,4,8,12,16,20,24,29] [7] mix (by kernel_rfl) (go2 ?_);refine pC (AV [pI (E (Z.quo a.dec (Z.gcd a.dec b.dec)))]) yN (kV a.1 (E (Z.gcd a.dec b.dec)).1 a.2 (E (Z.gcd a.dec b.dec)).2) rfl rfl (cg2 (fun p q=>AV [pI (E (Z.quo p q))]) rfl (dB _)) (go2 ?_);refine pC (AV [pI (E (Z.quo b.dec (Z.gcd a.dec b.dec)))]) yN (kV b.1 (E (Z.gcd a.dec b.dec)).1 b.2 (E (Z.gcd a.dec b.dec)).2) rfl rfl (cg2 (fun p q=>AV [pI (E (Z.quo p q))]) rfl (dB _)) (pQ rfl (rP zpT plT rfl (.cons [pI (E (Z.quo a.dec (Z.gcd a.dec b.dec)))] [pI (E (Z.quo a.dec (Z.gcd a.dec b.dec))),pI I0] rfl rfl rfl rfl (.cons [pI (E (Z.quo b.dec (Z.gcd a.dec b.dec)))] [pI (E (Z.quo a.dec (Z.gcd a.dec b.dec))),pI (E (Z.quo b.dec (Z.gcd a.dec b.dec)))] rfl rfl rfl rfl (.nil _)))) (go3 ?_));refine aS rfl (.inr rfl) (fB rfl m1 tyT rfl) ?_;exact congrArg vS4 (show _=(bH a b) from aM h9 (aM h11 rfl))

theorem BR (a:I) :
    Ret Tryz.prog 58 [AV [pI a]] (AV [pI ((tB a).n),pI ((tB a).d)]):=by
 refine aW (N:=6) Tryz.func58 rfl rfl (by simp) (fun w0=>?_);simp only [bA,Nat.reduceAdd];refine go2 ?_;intro b1 hb1;refine go_ ?_;intro b2 hb2;refine go_ ?_;refine gds (sd (sk (s0))) [0,4,8,13] [3] mix (by kernel_rfl) (go_ ?_);refine pQ rfl (aZ LE tN  rfl) (pQ rfl (aZ wQ (jG a F_ratio_one) rfl) (go3 ?_));refine aS rfl (.inr rfl) (fB rfl m0 tyT rfl) ?_;exact (by rfl)

theorem bF (a:W) :
    Ret Tryz.prog 14 [.int .i64 a.1] (AV [pI ((cG a).n),pI ((cG a).d)]):=by
 refine aW (N:=6) Tryz.func14 rfl rfl (by simp) (fun w0=>?_);simp only [bA,Nat.reduceAdd];refine go2 ?_;intro b1 hb1;refine go3 ?_;refine sC (AV [pI (E (Z.of a.1))]) kW (cN a.1 a.2) rfl rfl rfl (sQ (aZ by_ (BR (E (Z.of a.1))) rfl) rfl (go3 ?_));refine aS rfl (.inr rfl) (fB rfl m0 tyT rfl) ?_;exact (by rfl)

theorem EV (a:Rt) :
    Ret Tryz.prog 57 [AV [pI a.n,pI a.d]] (AV [pI ((lI a).n),pI ((lI a).d)]):=by
 refine aW (N:=13) Tryz.func57 rfl rfl (by simp) (fun w0=>?_);simp only [bA,Nat.reduceAdd];refine go2 ?_;intro b1 hb1;refine go_ ?_;intro b2 hb2;refine go4 ?_;refine sQ (aZ CX (j4 a) rfl) rfl (go2 ?_);rcases bt (cV a) with h3 | h3
 ·refine W_f (iX h3) rfl (go_ ?_);refine gds (sd (sk (s0))) [0,4,8,12,16,20,25] [6] mix (by kernel_rfl) (go2 ?_);refine pC (AV [pI (E (Z.neg a.n.dec))]) LD (tQ a.n.1 a.n.2) rfl rfl rfl (go2 ?_);refine pQ rfl (rP zpT plT rfl (.cons [pI (E (Z.neg a.n.dec))] [pI (E (Z.neg a.n.dec)),pI I0] rfl rfl rfl rfl (.cons [pI a.d] [pI (E (Z.neg a.n.dec)),pI a.d] rfl rfl rfl rfl (.nil _)))) (go3 ?_);refine aS rfl (.inr rfl) (fB rfl m0 tyT rfl) ?_;exact congrArg vS4 (show _=(lI a) from aE h3 rfl)
 refine W_t (iY h3) rfl (go_ ?_);refine sQ (aZ u6 i7  rfl) rfl (go3 ?_);refine aS rfl (.inr rfl) (fB rfl m0 tyT rfl) ?_;exact congrArg vS4 (show _=(lI a) from aM h3 rfl)

theorem qG (a:Rt) (b:Rt) :
    Ret Tryz.prog 56 [AV [pI a.n,pI a.d],AV [pI b.n,pI b.d]] (AV [pI ((i9 a b).n),pI ((i9 a b).d)]):=by
 refine aW (N:=44) Tryz.func56 rfl rfl (by simp) (fun w0=>?_);simp only [bA,Nat.reduceAdd];refine go2 ?_;intro b1 hb1;refine go_ ?_;intro b2 hb2;refine go_ ?_;intro b3 hb3;refine go2 ?_;refine gJv [8,9,10,11,12,13,14,15] [(15,.bool (!(cV a)||(!(cV b))))] (fun K2 J2=>?_) ?_
 ·refine go2 ?_;refine sQ (aZ CX (j4 a) rfl) rfl (go_ ?_);rcases bt (cV a) with h5 | h5
  ·refine sB (iX h5) rfl (go_ ?_);refine sQ (aZ CX (j4 b) rfl) rfl (go3 ?_);refine J2 _ _ pp_ s0 (bQ (oX h5 rfl))
  refine sB (iY h5) rfl (go5 ?_);refine J2 _ _ pp_ s0 (bQ (r8 h5))
 intro g6;refine aK _ rfl (fun h7=>?_) (fun h7=>?_)
 ·refine go_ ?_;refine sQ (aZ u6 i7  rfl) rfl (go3 ?_);refine aS rfl (.inr rfl) (fB rfl m0 tyT rfl) ?_;exact congrArg vS4 (show _=(i9 a b) from aE h7 rfl)
 refine go6 ?_;refine sC (AV [pI (E (Z.gcd a.d.dec b.d.dec))]) CS (tP a.d.1 b.d.1 a.d.2 b.d.2) rfl rfl rfl (go_ ?_);intro b8 hb8;refine go2 ?_;refine gDs (sk (sk (sk (sk (s0))))) (.quiet 0 [1,3,7,10,11] (.quiet 1 [3,7,10,11] (.quiet 2 [3,7,10,11] (.quiet 3 [7,10,11] (.quiet 4 [5,7,10,11] (.quiet 5 [7,10,11] (.quiet 6 [7,10,11] (.quiet 7 [10,11] (.both 8 (.only 9 (.only 10 (.only 11 (.fin)))) 9 (.only 8 (.only 10 (.only 11 (.fin))))))))))))) [0,1,2,3,4,5,6,7,8,9] mix (by kernel_rfl) (by kernel_rfl) (go3 ?_);refine pC (AV [pI (E (Z.quo a.d.dec (Z.gcd a.d.dec b.d.dec)))]) yN (kV a.d.1 (E (Z.gcd a.d.dec b.d.dec)).1 a.d.2 (E (Z.gcd a.d.dec b.d.dec)).2) rfl rfl (cg2 (fun p q=>AV [pI (E (Z.quo p q))]) rfl (dB _)) (go3 ?_);refine pC (AV [pI (E (Z.quo b.d.dec (Z.gcd a.d.dec b.d.dec)))]) yN (kV b.d.1 (E (Z.gcd a.d.dec b.d.dec)).1 b.d.2 (E (Z.gcd a.d.dec b.d.dec)).2) rfl rfl (cg2 (fun p q=>AV [pI (E (Z.quo p q))]) rfl (dB _)) ?_;refine EN ?_ ?_
 ·refine cS rfl rfl (fT zpT (fun b9 hb9=>⟨(fun _=>sd s0),(sd s0),?_⟩));refine cS rfl rfl (fT zpT (fun b10 hb10=>⟨(fun _=>sd s0),(sd (sd s0)),?_⟩));refine go3 ?_;refine gds (sk (sk (sk (sd (sk (sk (s0))))))) [0,4,8,12,16,20,24,28,32,36,40,44,48,52,57] [14] mix (by kernel_rfl) (go3 ?_);refine pC (AV [pI (E (Z.mul a.n.dec (Z.quo b.d.dec (Z.gcd a.d.dec b.d.dec))))]) n6 (eY a.n.1 (E (Z.quo b.d.dec (Z.gcd a.d.dec b.d.dec))).1 a.n.2 (E (Z.quo b.d.dec (Z.gcd a.d.dec b.d.dec))).2) rfl rfl (cg2 (fun p q=>AV [pI (E (Z.mul p q))]) rfl (dB _)) (go3 ?_);refine pC (AV [pI (E (Z.mul b.n.dec (Z.quo a.d.dec (Z.gcd a.d.dec b.d.dec))))]) n6 (eY b.n.1 (E (Z.quo a.d.dec (Z.gcd a.d.dec b.d.dec))).1 b.n.2 (E (Z.quo a.d.dec (Z.gcd a.d.dec b.d.dec))).2) rfl rfl (cg2 (fun p q=>AV [pI (E (Z.mul p q))]) rfl (dB _)) ?_;obtain ⟨r11,hr11⟩:=nm ((E (Z.add (Z.mul a.n.dec (Z.quo b.d.dec (Z.gcd a.d.dec b.d.dec))) (Z.mul b.n.dec (Z.quo a.d.dec (Z.gcd a.d.dec b.d.dec))))):I);refine pC (AV [pI r11]) yO (kU (E (Z.mul a.n.dec (Z.quo b.d.dec (Z.gcd a.d.dec b.d.dec)))).1 (E (Z.mul b.n.dec (Z.quo a.d.dec (Z.gcd a.d.dec b.d.dec)))).1 (E (Z.mul a.n.dec (Z.quo b.d.dec (Z.gcd a.d.dec b.d.dec)))).2 (E (Z.mul b.n.dec (Z.quo a.d.dec (Z.gcd a.d.dec b.d.dec)))).2) rfl rfl ((cg2 (fun p q=>AV [pI (E (Z.add p q))]) (dB _) (dB _)).trans (by rw [hr11])) (go3 ?_);refine pC (AV [pI (E (Z.mul (Z.quo a.d.dec (Z.gcd a.d.dec b.d.dec)) b.d.dec))]) n6 (eY (E (Z.quo a.d.dec (Z.gcd a.d.dec b.d.dec))).1 b.d.1 (E (Z.quo a.d.dec (Z.gcd a.d.dec b.d.dec))).2 b.d.2) rfl rfl (cg2 (fun p q=>AV [pI (E (Z.mul p q))]) (dB _) rfl) ?_;obtain ⟨r12,hr12⟩:=nm ((bH r11 (E (Z.mul (Z.quo a.d.dec (Z.gcd a.d.dec b.d.dec)) b.d.dec))):Rt);refine pC (AV [pI r12.n,pI r12.d]) wQ (jG r11 (E (Z.mul (Z.quo a.d.dec (Z.gcd a.d.dec b.d.dec)) b.d.dec))) rfl rfl (by rw [hr12]) (go3 ?_);refine aS rfl (.inr rfl) (fB rfl m3 tyT rfl) ?_
  subst_vars;exact congrArg vS4 (show _=(i9 a b) from aM h7 rfl)
 refine cS rfl rfl (fT zpT (fun b13 hb13=>⟨(fun _=>sd s0),(sd s0),?_⟩));refine cS rfl rfl (fT zpT (fun b14 hb14=>⟨(fun _=>sd s0),(sd (sd s0)),?_⟩));refine go3 ?_;refine gds (sk (sk (sk (sd (sk (sk (s0))))))) [0,4,8,12,16,20,24,28,32,36,40,44,48,52,57] [14] mix (by kernel_rfl) (go3 ?_);refine pC (AV [pI (E (Z.mul a.n.dec (Z.quo b.d.dec (Z.gcd a.d.dec b.d.dec))))]) n6 (eY a.n.1 (E (Z.quo b.d.dec (Z.gcd a.d.dec b.d.dec))).1 a.n.2 (E (Z.quo b.d.dec (Z.gcd a.d.dec b.d.dec))).2) rfl rfl (cg2 (fun p q=>AV [pI (E (Z.mul p q))]) rfl (dB _)) (go3 ?_);refine pC (AV [pI (E (Z.mul b.n.dec (Z.quo a.d.dec (Z.gcd a.d.dec b.d.dec))))]) n6 (eY b.n.1 (E (Z.quo a.d.dec (Z.gcd a.d.dec b.d.dec))).1 b.n.2 (E (Z.quo a.d.dec (Z.gcd a.d.dec b.d.dec))).2) rfl rfl (cg2 (fun p q=>AV [pI (E (Z.mul p q))]) rfl (dB _)) ?_;obtain ⟨r15,hr15⟩:=nm ((E (Z.add (Z.mul a.n.dec (Z.quo b.d.dec (Z.gcd a.d.dec b.d.dec))) (Z.mul b.n.dec (Z.quo a.d.dec (Z.gcd a.d.dec b.d.dec))))):I);refine pC (AV [pI r15]) yO (kU (E (Z.mul a.n.dec (Z.quo b.d.dec (Z.gcd a.d.dec b.d.dec)))).1 (E (Z.mul b.n.dec (Z.quo a.d.dec (Z.gcd a.d.dec b.d.dec)))).1 (E (Z.mul a.n.dec (Z.quo b.d.dec (Z.gcd a.d.dec b.d.dec)))).2 (E (Z.mul b.n.dec (Z.quo a.d.dec (Z.gcd a.d.dec b.d.dec)))).2) rfl rfl ((cg2 (fun p q=>AV [pI (E (Z.add p q))]) (dB _) (dB _)).trans (by rw [hr15])) (go3 ?_);refine pC (AV [pI (E (Z.mul (Z.quo a.d.dec (Z.gcd a.d.dec b.d.dec)) b.d.dec))]) n6 (eY (E (Z.quo a.d.dec (Z.gcd a.d.dec b.d.dec))).1 b.d.1 (E (Z.quo a.d.dec (Z.gcd a.d.dec b.d.dec))).2 b.d.2) rfl rfl (cg2 (fun p q=>AV [pI (E (Z.mul p q))]) (dB _) rfl) ?_;obtain ⟨r16,hr16⟩:=nm ((bH r15 (E (Z.mul (Z.quo a.d.dec (Z.gcd a.d.dec b.d.dec)) b.d.dec))):Rt);refine pC (AV [pI r16.n,pI r16.d]) wQ (jG r15 (E (Z.mul (Z.quo a.d.dec (Z.gcd a.d.dec b.d.dec)) b.d.dec))) rfl rfl (by rw [hr16]) (go3 ?_);refine aS rfl (.inr rfl) (fB rfl m3 tyT rfl) ?_
 subst_vars;exact congrArg vS4 (show _=(i9 a b) from aM h7 rfl)

theorem EW (a:Rt) (b:Rt) :
    Ret Tryz.prog 13 [AV [pI a.n,pI a.d],AV [pI b.n,pI b.d]] (AV [pI ((mS a b).n),pI ((mS a b).d)]):=by
 refine aW (N:=9) Tryz.func13 rfl rfl (by simp) (fun w0=>?_);simp only [bA,Nat.reduceAdd];refine go2 ?_;intro b1 hb1;refine go_ ?_;intro b2 hb2;refine go_ ?_;intro b3 hb3;refine go_ ?_;refine gds (sd (sk (sk (s0)))) [0,4,8,12,17] [4] mix (by kernel_rfl) (go2 ?_);refine pQ rfl (aZ bx_ (EV b) rfl) (pQ rfl (aZ ND (qG a (lI b)) rfl) (go3 ?_));refine aS rfl (.inr rfl) (fB rfl m0 tyT rfl) ?_;exact (by rfl)

theorem EU (a:Rt) (b:Rt) :
    Ret Tryz.prog 92 [AV [pI a.n,pI a.d],AV [pI b.n,pI b.d]] (AV [pI ((fZ a b).n),pI ((fZ a b).d)]):=by
 refine aW (N:=48) Tryz.func92 rfl rfl (by simp) (fun w0=>?_);simp only [bA,Nat.reduceAdd];refine go2 ?_;intro b1 hb1;refine go_ ?_;intro b2 hb2;refine go_ ?_;intro b3 hb3;refine go2 ?_;refine gJv [9,10,11,12,13,14,15,16] [(16,.bool (!(cV a)||(!(cV b))))] (fun K2 J2=>?_) ?_
 ·refine go2 ?_;refine sQ (aZ CX (j4 a) rfl) rfl (go_ ?_);rcases bt (cV a) with h5 | h5
  ·refine sB (iX h5) rfl (go_ ?_);refine sQ (aZ CX (j4 b) rfl) rfl (go3 ?_);refine J2 _ _ pp_ s0 (bQ (oX h5 rfl))
  refine sB (iY h5) rfl (go5 ?_);refine J2 _ _ pp_ s0 (bQ (r8 h5))
 intro g6;refine aK _ rfl (fun h7=>?_) (fun h7=>?_)
 ·refine go_ ?_;refine sQ (aZ u6 i7  rfl) rfl (go3 ?_);refine aS rfl (.inr rfl) (fB rfl m0 tyT rfl) ?_;exact congrArg vS4 (show _=(fZ a b) from aE h7 rfl)
 refine go_ ?_;refine gDs (sk (sk (sk (s0)))) (.quiet 0 [1,4,9,12,13] (.quiet 1 [4,9,12,13] (.quiet 2 [3,4,9,12,13] (.quiet 3 [4,9,12,13] (.quiet 4 [9,12,13] (.quiet 5 [6,9,12,13] (.quiet 6 [9,12,13] (.quiet 7 [8,9,12,13] (.quiet 8 [9,12,13] (.quiet 9 [12,13] (.both 10 (.only 11 (.only 12 (.only 13 (.fin)))) 11 (.only 10 (.only 12 (.only 13 (.fin))))))))))))))) [0,1,2,3,4,5,6,7,8,9,10,11] mix (by kernel_rfl) (by kernel_rfl) (go4 ?_);refine pQ rfl (aZ wQ (jG a.n b.d) rfl) (go4 ?_);refine pQ rfl (aZ wQ (jG b.n a.d) rfl) ?_;refine EN ?_ ?_
 ·refine cS rfl rfl (fT zpT (fun b8 hb8=>⟨(fun _=>sd s0),(sd s0),?_⟩));refine cS rfl rfl (fT zpT (fun b9 hb9=>⟨(fun _=>sd s0),(sd (sd s0)),?_⟩));refine go3 ?_;refine gDs (sk (sd (sk (sk (sk (s0)))))) (.quiet 0 [1,4,9,12,13] (.quiet 1 [4,9,12,13] (.quiet 2 [3,4,9,12,13] (.quiet 3 [4,9,12,13] (.quiet 4 [9,12,13] (.quiet 5 [6,9,12,13] (.quiet 6 [9,12,13] (.quiet 7 [8,9,12,13] (.quiet 8 [9,12,13] (.quiet 9 [12,13] (.both 10 (.only 11 (.only 12 (.only 13 (.fin)))) 11 (.only 10 (.only 12 (.only 13 (.fin))))))))))))))) [0,1,2,3,4,5,6,7,8,9,10,11] mix (by kernel_rfl) (by kernel_rfl) (go4 ?_);obtain ⟨r10,hr10⟩:=nm ((E (Z.mul ((bH a.n b.d).n).dec ((bH b.n a.d).n).dec)):I);refine pC (AV [pI r10]) n6 (eY ((bH a.n b.d).n).1 ((bH b.n a.d).n).1 ((bH a.n b.d).n).2 ((bH b.n a.d).n).2) rfl rfl (by subst hr10;rfl) (go4 ?_);obtain ⟨r11,hr11⟩:=nm ((E (Z.mul ((bH a.n b.d).d).dec ((bH b.n a.d).d).dec)):I);refine pC (AV [pI r11]) n6 (eY ((bH a.n b.d).d).1 ((bH b.n a.d).d).1 ((bH a.n b.d).d).2 ((bH b.n a.d).d).2) rfl rfl (by subst hr11;rfl) ?_;refine EN ?_ ?_
  ·refine cS rfl rfl (fT zpT (fun b12 hb12=>⟨(fun _=>sd s0),(sd (sk (sd s0))),?_⟩));refine cS rfl rfl (fT zpT (fun b13 hb13=>⟨(fun _=>sd s0),(sd (sd (sk (sd s0)))),?_⟩));refine go4 ?_;refine gJv [38,39,40,41,42,43] [(43,.bool (r10.1.bad||r11.1.bad))] (fun K4 J4=>?_) ?_
   ·refine go3 ?_;refine sBB rfl (fun h15=>?_) (fun h15=>?_)
    ·refine go4 ?_;refine J4 _ _ pp_ s0 (bQ (oM h15))
    refine go4 ?_;refine J4 _ _ pp_ s0 (bQ (mY h15 rfl))
   intro g16;refine aK _ rfl (fun h17=>?_) (fun h17=>?_)
   ·refine go_ ?_;refine sQ (aZ u6 i7  rfl) rfl (go3 ?_);refine aS rfl (.inr rfl) (fB rfl m4 tyT rfl) ?_
    subst_vars;exact congrArg vS4 (show _=(fZ a b) from aM h7 (aE h17 rfl))
   refine go8 ?_;refine aS rfl (.inr rfl) (fB rfl m4 tyT rfl) ?_
   subst_vars;exact congrArg vS4 (show _=(fZ a b) from aM h7 (aM h17 rfl))
  refine cS rfl rfl (fT zpT (fun b18 hb18=>⟨(fun _=>sd s0),(sd (sk (sd s0))),?_⟩));refine cS rfl rfl (fT zpT (fun b19 hb19=>⟨(fun _=>sd s0),(sd (sd (sk (sd s0)))),?_⟩));refine go4 ?_;refine gJv [38,39,40,41,42,43] [(43,.bool (r10.1.bad||r11.1.bad))] (fun K6 J6=>?_) ?_
  ·refine go3 ?_;refine sBB rfl (fun h21=>?_) (fun h21=>?_)
   ·refine go4 ?_;refine J6 _ _ pp_ s0 (bQ (oM h21))
   refine go4 ?_;refine J6 _ _ pp_ s0 (bQ (mY h21 rfl))
  intro g22;refine aK _ rfl (fun h23=>?_) (fun h23=>?_)
  ·refine go_ ?_;refine sQ (aZ u6 i7  rfl) rfl (go3 ?_);refine aS rfl (.inr rfl) (fB rfl m4 tyT rfl) ?_
   subst_vars;exact congrArg vS4 (show _=(fZ a b) from aM h7 (aE h23 rfl))
  refine go8 ?_;refine aS rfl (.inr rfl) (fB rfl m4 tyT rfl) ?_
  subst_vars;exact congrArg vS4 (show _=(fZ a b) from aM h7 (aM h23 rfl))
 refine cS rfl rfl (fT zpT (fun b24 hb24=>⟨(fun _=>sd s0),(sd s0),?_⟩));refine cS rfl rfl (fT zpT (fun b25 hb25=>⟨(fun _=>sd s0),(sd (sd s0)),?_⟩));refine go3 ?_;refine gDs (sk (sk (sk (sk (sk (s0)))))) (.quiet 0 [1,4,9,12,13] (.quiet 1 [4,9,12,13] (.quiet 2 [3,4,9,12,13] (.quiet 3 [4,9,12,13] (.quiet 4 [9,12,13] (.quiet 5 [6,9,12,13] (.quiet 6 [9,12,13] (.quiet 7 [8,9,12,13] (.quiet 8 [9,12,13] (.quiet 9 [12,13] (.both 10 (.only 11 (.only 12 (.only 13 (.fin)))) 11 (.only 10 (.only 12 (.only 13 (.fin))))))))))))))) [0,1,2,3,4,5,6,7,8,9,10,11] mix (by kernel_rfl) (by kernel_rfl) (go4 ?_);obtain ⟨r26,hr26⟩:=nm ((E (Z.mul ((bH a.n b.d).n).dec ((bH b.n a.d).n).dec)):I);refine pC (AV [pI r26]) n6 (eY ((bH a.n b.d).n).1 ((bH b.n a.d).n).1 ((bH a.n b.d).n).2 ((bH b.n a.d).n).2) rfl rfl (by subst hr26;rfl) (go4 ?_);obtain ⟨r27,hr27⟩:=nm ((E (Z.mul ((bH a.n b.d).d).dec ((bH b.n a.d).d).dec)):I);refine pC (AV [pI r27]) n6 (eY ((bH a.n b.d).d).1 ((bH b.n a.d).d).1 ((bH a.n b.d).d).2 ((bH b.n a.d).d).2) rfl rfl (by subst hr27;rfl) ?_;refine EN ?_ ?_
 ·refine cS rfl rfl (fT zpT (fun b28 hb28=>⟨(fun _=>sd s0),(sd s0),?_⟩));refine cS rfl rfl (fT zpT (fun b29 hb29=>⟨(fun _=>sd s0),(sd (sd s0)),?_⟩));refine go4 ?_;refine gJv [38,39,40,41,42,43] [(43,.bool (r26.1.bad||r27.1.bad))] (fun K8 J8=>?_) ?_
  ·refine go3 ?_;refine sBB rfl (fun h31=>?_) (fun h31=>?_)
   ·refine go4 ?_;refine J8 _ _ pp_ s0 (bQ (oM h31))
   refine go4 ?_;refine J8 _ _ pp_ s0 (bQ (mY h31 rfl))
  intro g32;refine aK _ rfl (fun h33=>?_) (fun h33=>?_)
  ·refine go_ ?_;refine sQ (aZ u6 i7  rfl) rfl (go3 ?_);refine aS rfl (.inr rfl) (fB rfl m4 tyT rfl) ?_
   subst_vars;exact congrArg vS4 (show _=(fZ a b) from aM h7 (aE h33 rfl))
  refine go8 ?_;refine aS rfl (.inr rfl) (fB rfl m4 tyT rfl) ?_
  subst_vars;exact congrArg vS4 (show _=(fZ a b) from aM h7 (aM h33 rfl))
 refine cS rfl rfl (fT zpT (fun b34 hb34=>⟨(fun _=>sd s0),(sd s0),?_⟩));refine cS rfl rfl (fT zpT (fun b35 hb35=>⟨(fun _=>sd s0),(sd (sd s0)),?_⟩));refine go4 ?_;refine gJv [38,39,40,41,42,43] [(43,.bool (r26.1.bad||r27.1.bad))] (fun K10 J10=>?_) ?_
 ·refine go3 ?_;refine sBB rfl (fun h37=>?_) (fun h37=>?_)
  ·refine go4 ?_;refine J10 _ _ pp_ s0 (bQ (oM h37))
  refine go4 ?_;refine J10 _ _ pp_ s0 (bQ (mY h37 rfl))
 intro g38;refine aK _ rfl (fun h39=>?_) (fun h39=>?_)
 ·refine go_ ?_;refine sQ (aZ u6 i7  rfl) rfl (go3 ?_);refine aS rfl (.inr rfl) (fB rfl m4 tyT rfl) ?_
  subst_vars;exact congrArg vS4 (show _=(fZ a b) from aM h7 (aE h39 rfl))
 refine go8 ?_;refine aS rfl (.inr rfl) (fB rfl m4 tyT rfl) ?_
 subst_vars;exact congrArg vS4 (show _=(fZ a b) from aM h7 (aM h39 rfl))

theorem mE  :
    Ret Tryz.prog 108 [] (AV [pI F_skewbackref04_one]):=by
 refine aW (N:=2) Tryz.func108 rfl rfl (by simp) (fun w0=>?_);simp only [bA,Nat.reduceAdd];obtain ⟨q0,hq0⟩:=nm ((E (Z.of 1)):I);refine go2 ?_;intro b1 hb1;refine go2 ?_;refine sC (AV [pI q0]) CW (f9 (wl 1).1 (wl 1).2) rfl rfl (by subst hq0;rfl) ?_;refine go3 ?_;refine aS rfl (.inr rfl) (fB rfl m0 tyT rfl) ?_;exact (by obtain rfl:=hq0.symm;rfl)

theorem wL  :
    Ret Tryz.prog 156 [] (AV [pI gM.n,pI gM.d]):=by
 refine aW (N:=4) Tryz.func156 rfl rfl (by simp) (fun w0=>?_);simp only [bA,Nat.reduceAdd];obtain ⟨q0,hq0⟩:=nm ((E Z.bad):I);obtain ⟨q1,hq1⟩:=nm (F_skewbackref04_one:I);refine go2 ?_;intro b1 hb1;refine go2 ?_;refine sC (AV [pI q0]) qR dE rfl rfl (by subst hq0;rfl) (sC (AV [pI q1]) LC mE rfl rfl (by subst hq1;rfl) (go4 ?_));refine aS rfl (.inr rfl) (fB rfl m0 tyT rfl) ?_;exact (by subst_vars;rfl)

theorem vF (a:I) (b:I) :
    Ret Tryz.prog 113 [AV [pI a],AV [pI b]] (AV [pI ((aY a b).n),pI ((aY a b).d)]):=by
 refine aW (N:=35) Tryz.func113 rfl rfl (by simp) (fun w0=>?_);simp only [bA,Nat.reduceAdd];refine go2 ?_;intro b1 hb1;refine go_ ?_;intro b2 hb2;refine go_ ?_;intro b3 hb3;refine go2 ?_;refine gJv [6,7,8,9,10,11,12,13,14,15,16,17,18] [(18,.bool (!a.1.good||(!b.1.good||((Z.signW b.dec).1==0))))] (fun K2 J2=>?_) ?_
 ·refine go2 ?_;refine sC (.bool a.1.good) kS (bL a.1 a.2) rfl rfl rfl (go_ ?_);rcases bt a.1.good with h6 | h6
  ·refine sB (iX h6) rfl (go_ ?_);refine sC (.bool b.1.good) kS (bL b.1 b.2) rfl rfl rfl (go2 ?_);rcases bt b.1.good with h7 | h7
   ·refine sB (iX h7) rfl (go_ ?_);refine sC (.int .i64 ((Z.signW b.dec).1)) u5 (d7 b.1 b.2) rfl rfl rfl (go3 ?_);refine J2 _ _ pp_ s0 (bQ (oX h6 (oX h7 rfl)))
   refine sB (iY h7) rfl (go5 ?_);refine J2 _ _ pp_ s0 (bQ (oX h6 (r8 h7)))
  refine sB (iY h6) rfl (iE ?_);refine J2 _ _ pp_ s0 (bQ (r8 h6))
 intro g8;refine aK _ rfl (fun h9=>?_) (fun h9=>?_)
 ·refine go_ ?_;refine sQ (aZ Y9 wL  rfl) rfl (go3 ?_);refine aS rfl (.inr rfl) (fB rfl m0 tyT rfl) ?_;exact congrArg vS4 (show _=(aY a b) from aE h9 rfl)
 refine go4 ?_;refine sC (AV [pI (E (Z.gcd a.dec b.dec))]) Q3 (pJ a.1 b.1 a.2 b.2) rfl rfl rfl (go_ ?_);intro b10 hb10;refine go5 ?_;refine sC (.int .i64 ((Z.signW b.dec).1)) u5 (d7 b.1 b.2) rfl rfl rfl (go2 ?_);refine aK _ rfl (fun h11=>?_) (fun h11=>?_)
 ·refine go2 ?_;refine sC (AV [pI (E (Z.neg (Z.gcd a.dec b.dec)))]) ZC (wG (E (Z.gcd a.dec b.dec)).1 (E (Z.gcd a.dec b.dec)).2) rfl rfl (cg1 (fun p=>AV [pI (E (Z.neg p))]) (dB _)) (go2 ?_);refine gds (sk (sd (sk (sk (s0))))) [0,4,8,12,16,20,24,29] [7] mix (by kernel_rfl) (go2 ?_);refine pC (AV [pI (E (Z.quo a.dec (Z.neg (Z.gcd a.dec b.dec))))]) AF (gR a.1 (E (Z.neg (Z.gcd a.dec b.dec))).1 a.2 (E (Z.neg (Z.gcd a.dec b.dec))).2) rfl rfl (cg2 (fun p q=>AV [pI (E (Z.quo p q))]) rfl (dB _)) (go2 ?_);refine pC (AV [pI (E (Z.quo b.dec (Z.neg (Z.gcd a.dec b.dec))))]) AF (gR b.1 (E (Z.neg (Z.gcd a.dec b.dec))).1 b.2 (E (Z.neg (Z.gcd a.dec b.dec))).2) rfl rfl (cg2 (fun p q=>AV [pI (E (Z.quo p q))]) rfl (dB _)) (pQ rfl (rP zpT plT rfl (.cons [pI (E (Z.quo a.dec (Z.neg (Z.gcd a.dec b.dec))))] [pI (E (Z.quo a.dec (Z.neg (Z.gcd a.dec b.dec)))),pI I0] rfl rfl rfl rfl (.cons [pI (E (Z.quo b.dec (Z.neg (Z.gcd a.dec b.dec))))] [pI (E (Z.quo a.dec (Z.neg (Z.gcd a.dec b.dec)))),pI (E (Z.quo b.dec (Z.neg (Z.gcd a.dec b.dec))))] rfl rfl rfl rfl (.nil _)))) (go3 ?_));refine aS rfl (.inr rfl) (fB rfl m1 tyT rfl) ?_;exact congrArg vS4 (show _=(aY a b) from aM h9 (aE h11 rfl))
 refine go_ ?_;refine gds (sk (sd (sk (sk (s0))))) [0,4,8,12,16,20,24,29] [7] mix (by kernel_rfl) (go2 ?_);refine pC (AV [pI (E (Z.quo a.dec (Z.gcd a.dec b.dec)))]) AF (gR a.1 (E (Z.gcd a.dec b.dec)).1 a.2 (E (Z.gcd a.dec b.dec)).2) rfl rfl (cg2 (fun p q=>AV [pI (E (Z.quo p q))]) rfl (dB _)) (go2 ?_);refine pC (AV [pI (E (Z.quo b.dec (Z.gcd a.dec b.dec)))]) AF (gR b.1 (E (Z.gcd a.dec b.dec)).1 b.2 (E (Z.gcd a.dec b.dec)).2) rfl rfl (cg2 (fun p q=>AV [pI (E (Z.quo p q))]) rfl (dB _)) (pQ rfl (rP zpT plT rfl (.cons [pI (E (Z.quo a.dec (Z.gcd a.dec b.dec)))] [pI (E (Z.quo a.dec (Z.gcd a.dec b.dec))),pI I0] rfl rfl rfl rfl (.cons [pI (E (Z.quo b.dec (Z.gcd a.dec b.dec)))] [pI (E (Z.quo a.dec (Z.gcd a.dec b.dec))),pI (E (Z.quo b.dec (Z.gcd a.dec b.dec)))] rfl rfl rfl rfl (.nil _)))) (go3 ?_));refine aS rfl (.inr rfl) (fB rfl m1 tyT rfl) ?_;exact congrArg vS4 (show _=(aY a b) from aM h9 (aM h11 rfl))

theorem xA (a:W) :
    Ret Tryz.prog 47 [.int .i64 a.1] (AV [pI ((dZ a).n),pI ((dZ a).d)]):=by
 refine aW (N:=7) Tryz.func47 rfl rfl (by simp) (fun w0=>?_);simp only [bA,Nat.reduceAdd];refine go2 ?_;intro b1 hb1;refine go3 ?_;refine sC (AV [pI (E (Z.of a.1))]) CW (f9 a.1 a.2) rfl rfl rfl (sQ (aZ LC mE  rfl) rfl ?_);obtain ⟨r2,hr2⟩:=nm ((aY (E (Z.of a.1)) F_skewbackref04_one):Rt);refine sC (AV [pI r2.n,pI r2.d]) YZ (vF (E (Z.of a.1)) F_skewbackref04_one) rfl rfl (by rw [hr2]) (go3 ?_);refine aS rfl (.inr rfl) (fB rfl m0 tyT rfl) ?_;exact (by subst hr2;rfl)

end Go.Proofs.YtbjlhfochebmiaaGreatDoor

namespace Go.Kn
open Go Go.Num
section
variable {α:Type} {e:El α} {P:Program} {w0:World} {X:List Nat} {N:Nm} {S:Fr} {M M':List Blk} {d:Option Tmp} {ty:TypeId} {ps:String} {af:Array Edge} {gd:Option (Nat×Bool)} {E:TypeId}
def OwnN (w0:World) (E:TypeId) (e:El α):List Value→List (List α)→List Blk→Prop
  | [],[],L=>L=[]
  | v :: vs,l :: ls,L=>∃ L1 L2,L=L1 ++ L2∧OwnG w0 E e v l L1∧OwnN w0 E e vs ls L2
  | _,_,_=>False
def SloN (w1 w:World) (E:TypeId) (e:El α) (vs:List Value) (ls:List (List α)):Prop :=
  ∃ L,OwnN w1 E e vs ls L∧(L.map Blk.b).Nodup∧∀ x∈L,w.heap[x.b]? = some (.cells x.cs.toArray x.T (0,0))
theorem OwnG.ge {v:Value} {l:List α} {L:List Blk} (h:OwnG w0 E e v l L):∀ x∈L,w0.heap.size≤x.b:=by
  rcases h with ⟨_,_,rfl⟩ | ⟨g,cap,cur,_,rfl,hg,_⟩
  · intro x hx;cases hx
  intro x hx;obtain rfl:=List.mem_singleton.1 hx;exact hg
theorem OwnG.wid {w:World} {v:Value} {l:List α} {L:List Blk} (hs:w0.heap.size≤w.heap.size) (h:OwnG w E e v l L):OwnG w0 E e v l L:=by
  rcases h with h | ⟨g,cap,cur,h1,h2,hg,h3⟩
  · exact .inl h
  exact .inr ⟨g,cap,cur,h1,h2,Nat.le_trans hs hg,h3⟩
theorem OwnN.ge:∀ {vs:List Value} {ls:List (List α)} {L:List Blk},OwnN w0 E e vs ls L→∀ x∈L,w0.heap.size≤x.b
  | [],[],L,h,x,hx=>by rw [show L=[] from h] at hx;cases hx
  | v :: vs,l :: ls,L,⟨L1,L2,h,h1,h2⟩,x,hx=>by
    rw [h] at hx;rcases List.mem_append.1 hx with hx | hx
    · exact h1.ge x hx
    exact OwnN.ge h2 x hx
theorem OwnN.wid {w:World} (hs:w0.heap.size≤w.heap.size):∀ {vs:List Value} {ls:List (List α)} {L:List Blk},OwnN w E e vs ls L→OwnN w0 E e vs ls L
  | [],[],_,h=>h
  | v :: vs,l :: ls,L,⟨L1,L2,h,h1,h2⟩=>⟨L1,L2,h,h1.wid hs,OwnN.wid hs h2⟩
theorem SloN.now {w w':World} {vs:List Value} {ls:List (List α)} (h:SloN w w' E e vs ls) (hw:Sat w0 X M w) (he:Ext w w'):∃ L,Sat w0 X (L ++ M) w'∧OwnN w0 E e vs ls L:=by
  obtain ⟨L,h1,h2,h3⟩:=h;have hw':=Sat.mono _ _ _ _ _ hw he;refine ⟨L,⟨hw'.os,hw'.tape,hw'.output,hw'.size,hw'.old,?_,fun y hy=>?_⟩,h1.wid hw.size⟩
  · rw [List.map_append]
    refine List.nodup_append.2 ⟨h2,hw'.nodup,fun a ha b hb e=>?_⟩;subst e;obtain ⟨x,hx,e1⟩:=List.mem_map.1 ha;obtain ⟨y,hy,e2⟩:=List.mem_map.1 hb;have g1:=h1.ge x hx;have g2:=cQ? (hw.mem y hy);omega
  rcases List.mem_append.1 hy with hy | hy
  · exact h3 y hy
  exact hw'.mem y hy
theorem Sat.sloN {w:World} {L M2:List Blk} {vs:List Value} {ls:List (List α)} (hw:Sat w0 X M w) (p:M.Perm (L ++ M2)) (h:OwnN w0 E e vs ls L):SloN w0 w E e vs ls:=by
  have h2:=hw.perm p;refine ⟨L,h,?_,fun x hx=>h2.mem x (List.mem_append_left _ hx)⟩;have:=h2.nodup;rw [List.map_append] at this;exact (List.nodup_append.1 this).1
def WW (w0:World) (M:List Blk) (E:TypeId) (e:El α) (v1 v2 v3 v4:Value) (l1 l2 l3 l4:List α):Prop:=∃ L M2,M.Perm (L ++ M2)∧OwnN w0 E e [v1,v2,v3,v4] [l1,l2,l3,l4] L
theorem az_ {v1 v2 v3 v4:Value} {l1 l2 l3 l4:List α} {L1 L2 L3 L4 M1 M2 M3 M4:List Blk} (h1:OwnG w0 E e v1 l1 L1) (h2:OwnG w0 E e v2 l2 L2) (h3:OwnG w0 E e v3 l3 L3) (h4:OwnG w0 E e v4 l4 L4)
    (f1:Frq M L1 M1) (f2:Frq M1 L2 M2) (f3:Frq M2 L3 M3) (f4:Frq M3 L4 M4):WW w0 M E e v1 v2 v3 v4 l1 l2 l3 l4 :=
  ⟨L1 ++ (L2 ++ (L3 ++ (L4 ++ []))),M4,f1.trans (by
    have g1:M1.Perm (L2 ++ (L3 ++ (L4 ++ M4))):=f2.trans (List.Perm.append_left _ (f3.trans (List.Perm.append_left _ f4)));have:=List.Perm.append_left L1 g1
    simpa [List.append_assoc] using this),L1,_,rfl,h1,L2,_,rfl,h2,L3,_,rfl,h3,L4,_,rfl,h4,rfl⟩
theorem AZ {n:Nat} {f:FuncId} {fn:Func} {c:Code} {args:List Value} {w:World} {l1 l2 l3 l4:List α} (R:Value→Value→Value→Value→Value) (hf:P.funcs[f]? = some fn) (hb:fn.body=some c) (hn:fn.ntmps=n) (hl:args.length≤n)
    (h:W P w [] (pl n) c (mL P fn w [] (pl n) fun r M=>∃ v1 v2 v3 v4,r=R v1 v2 v3 v4∧WW w M E e v1 v2 v3 v4 l1 l2 l3 l4) (bA 0 args) []):Calls P f args.toArray w fun f w'=>∃ v1 v2 v3 v4,f = .returned (R v1 v2 v3 v4)∧Ext w w'∧SloN w w' E e [v1,v2,v3,v4] [l1,l2,l3,l4] :=
  (lN hf hb hn hl (Sat.start w []) h).mono fun f w' ⟨r,M',he,hs,_,v1,v2,v3,v4,hr,L,M2,p,hN⟩=>⟨v1,v2,v3,v4,by rw [he,hr],hs.ext,hs.sloN p hN⟩
theorem zU {g:FuncId} {xs:List Operand} {tys:Array TypeId} {args:List Value} {K:Value→List Blk→Prop} {l1 l2 l3 l4:List α} (R:Value→Value→Value→Value→Value) (he:aJ P g=true) (ha:evL N S xs=some args)
    (h:∀ w,Sat w0 X M w→Calls P g args.toArray w fun f w'=>∃ v1 v2 v3 v4,f = .returned (R v1 v2 v3 v4)∧Ext w w'∧SloN w w' E e [v1,v2,v3,v4] [l1,l2,l3,l4])
    (k:∀ p1 c1 L1 p2 c2 L2 p3 c3 L3 p4 c4 L4,OwnG w0 E e (.slice p1 l1.length c1) l1 L1→OwnG w0 E e (.slice p2 l2.length c2) l2 L2→OwnG w0 E e (.slice p3 l3.length c3) l3 L3→OwnG w0 E e (.slice p4 l4.length c4) l4 L4→K (R (.slice p1 l1.length c1) (.slice p2 l2.length c2) (.slice p3 l3.length c3) (.slice p4 l4.length c4)) (L1 ++ (L2 ++ (L3 ++ (L4 ++ M))))) :
    OpR P w0 X N ⟨d,.call { callee:=.value (.func g),args:=xs.toArray,argTypes:=tys },ty,ps,af,gd⟩ S M K :=
  y3 he ha fun w hw=>(h w hw).mono fun _ w' ⟨v1,v2,v3,v4,h1,h2,h3⟩=>by
    obtain ⟨L,hs,L1,_,rfl,q1,L2,_,rfl,q2,L3,_,rfl,q3,L4,_,rfl,q4,rfl⟩:=h3.now hw h2;obtain ⟨p1,c1,rfl⟩:=q1.form;obtain ⟨p2,c2,rfl⟩:=q2.form;obtain ⟨p3,c3,rfl⟩:=q3.form;obtain ⟨p4,c4,rfl⟩:=q4.form;simp only [List.append_assoc,List.nil_append] at hs;exact ⟨_,_,h1,hs,Ext.keeps h2,k _ _ _ _ _ _ _ _ _ _ _ _ q1 q2 q3 q4⟩
end
end Go.Kn

namespace Go.Kn
open Go Go.Num
section
variable {P:Program} {w0:World} {X:List Nat} {N:Nm} {S:Fr} {M M':List Blk} {d:Option Tmp} {ty:TypeId} {ps:String} {af:Array Edge} {gd:Option (Nat×Bool)}
theorem V2 {g:FuncId} {f:Operand} {xs:List Operand} {tys:Array TypeId} {args cap:List Value} {Q K:Value→List Blk→Prop} (he:aJ P g=true) (hf:evO N S f=some (.func (.func g) #[] cap.toArray)) (ha:evL N S xs=some args)
    (h:∀ w,Sat w0 X M w→Calls P g (args ++ cap).toArray w fun e w'=>∃ v M',e = .returned v∧Sat w0 X M' w'∧KeepsOthers w w'∧Q v M') (k:∀ v M',Q v M'→K v M') :
    OpR P w0 X N ⟨d,.call { callee:=.value f,args:=xs.toArray,argTypes:=tys },ty,ps,af,gd⟩ S M K:=by
  intro w hw;unfold opw;rw [jC,xK (first:=[]) (cap:=cap) (args:=args ++ cap) he (bC hf) (by simpa using qN ha)];exact (h w hw).mono fun e w' ⟨v,M',h1,h2,h4,h3⟩=>⟨v,h1,h4,M',h2,k v M' h3⟩
theorem DT {α:Type} {e:El α} {l:List α} {E:TypeId} {g:FuncId} {f:Operand} {xs:List Operand} {tys:Array TypeId} {args:List Value} {K:Value→List Blk→Prop} (R:Value→Value) (he:aJ P g=true) (hf:evO N S f=some (.func (.func g) #[] #[])) (ha:evL N S xs=some args)
    (h:∀ w,Sat w0 X M w→Calls P g args.toArray w fun f w'=>∃ v,f = .returned (R v)∧Ext w w'∧Slo w.heap.size w' E e v l) (k:∀ p c L,OwnG w0 E e (.slice p l.length c) l L→K (R (.slice p l.length c)) (L ++ M)) :
    OpR P w0 X N ⟨d,.call { callee:=.value f,args:=xs.toArray,argTypes:=tys },ty,ps,af,gd⟩ S M K :=
  V2 (cap:=[]) (Q:=K) he hf ha (fun w hw=>by
    rw [List.append_nil]
    exact (h w hw).mono fun _ w' ⟨v,h1,h2,h3⟩=>by
      obtain ⟨p,c,L,rfl,hs,hv⟩:=h3.now hw h2
      exact ⟨_,L ++ M,h1,hs,Ext.keeps h2,k p c L hv⟩) (fun _ _ h=>h)
theorem Frq.pc {x:Blk} {M1 R:List Blk} (f:Frq M [x] M1) (g:M1.Perm R):M.Perm (x :: R):=f.trans (List.Perm.cons x g)
end
end Go.Kn
namespace Go.Num
open Go Go.Kn
end Go.Num

namespace Go.Proofs.YtbjlhfochebmiaaGreatDoor
open Go.Kn Go.Num
attribute [local irreducible] Go.Kn.W WL PL OpQ OpR OpS
theorem jT (a:Rt) :
    Ret Tryz.prog 44 [AV [pI a.n,pI a.d]] (.bool (aP a)):=by
 refine aW (N:=26) Tryz.func44 rfl rfl (by simp) (fun w0=>?_);simp only [bA,Nat.reduceAdd];refine go2 ?_;intro b1 hb1;refine go3 ?_;refine gJv [3,4,5,6,7,8,9,10,11,12] [(12,.bool (!a.n.1.good||(!a.d.1.good)))] (fun K2 J2=>?_) ?_
 ·refine go3 ?_;refine sC (.bool a.n.1.good) kS (bL a.n.1 a.n.2) rfl rfl rfl (go_ ?_);rcases bt a.n.1.good with h3 | h3
  ·refine sB (iX h3) rfl (go2 ?_);refine sC (.bool a.d.1.good) kS (bL a.d.1 a.d.2) rfl rfl rfl (go3 ?_);refine J2 _ _ pp_ s0 (bQ (oX h3 rfl))
  refine sB (iY h3) rfl (go6 ?_);refine J2 _ _ pp_ s0 (bQ (r8 h3))
 intro g4;refine aK _ rfl (fun h5=>?_) (fun h5=>?_)
 ·refine go4 ?_;refine aS rfl (.inr rfl) rfl ?_;exact congrArg vS1 (show _=(aP a) from aE h5 rfl)
 refine go_ ?_;refine gJv [2,13,14,15,16,17,18,19,20,21,22,23,24,25] [(2,.bool (decide (0<(Z.signW a.d.dec).1)&&decide ((E (Z.gcd a.n.dec a.d.dec))=F_skewbackref04_one)))] (fun K3 J3=>?_) ?_
 ·refine go3 ?_;refine sC (.int .i64 ((Z.signW a.d.dec).1)) u5 (d7 a.d.1 a.d.2) rfl rfl rfl (go_ ?_);refine sBB rfl (fun h7=>?_) (fun h7=>?_)
  ·refine go4 ?_;refine sC (AV [pI (E (Z.gcd a.n.dec a.d.dec))]) Q3 (pJ a.n.1 a.d.1 a.n.2 a.d.2) rfl rfl rfl (sQ (aZ LC mE  rfl) rfl ?_);refine sQ (d5 (r:=decide ((E (Z.gcd a.n.dec a.d.dec))=F_skewbackref04_one)) rfl rfl (cL 8 dd_ Q2 SC (bP aH) (bP aH) (dA bJ))) rfl (go3 ?_);refine J3 _ _ pp_ s0 (bQ (iI h7 rfl))
  refine iE ?_;refine J3 _ _ pp_ s0 (bQ (lV h7))
 intro g8;refine go_ ?_;refine aS rfl (.inr rfl) rfl ?_;exact congrArg vS1 (show _=(aP a) from aM h5 rfl)

theorem pB (a:Rt) (b:Bool) :
    Ret Tryz.prog 110 [AV [pI a.n,pI a.d],.bool b] (AV [pI (dI a b)]):=by
 refine aW (N:=8) Tryz.func110 rfl rfl (by simp) (fun w0=>?_);simp only [bA,Nat.reduceAdd];refine go2 ?_;intro b1 hb1;refine go_ ?_;intro b2 hb2;refine go5 ?_;refine aK _ rfl (fun h3=>?_) (fun h3=>?_)
 ·refine go_ ?_;refine sC (AV [pI (E (Z.of 0))]) CW (f9 (wl 0).1 (wl 0).2) rfl rfl rfl ?_;refine go3 ?_;refine aS rfl (.inr rfl) (fB rfl m0 tyT rfl) ?_;exact congrArg vS2 (show _=(dI a b) from aE h3 rfl)
 refine go2 ?_;refine sC (AV [pI (E Z.bad)]) qR dE rfl rfl rfl (go3 ?_);refine aS rfl (.inr rfl) (fB rfl m0 tyT rfl) ?_;exact congrArg vS2 (show _=(dI a b) from aM h3 rfl)
theorem cJ (a:W) (b:W) :
    Ret Tryz.prog 49 [.int .i64 a.1,.int .i64 b.1] (AV [pI ((e7 a b).n),pI ((e7 a b).d)]):=by
 refine aW (N:=10) Tryz.func49 rfl rfl (by simp) (fun w0=>?_);simp only [bA,Nat.reduceAdd];refine go2 ?_;intro b1 hb1;refine go3 ?_;refine sC (AV [pI (E (Z.of a.1))]) kW (cN a.1 a.2) rfl rfl rfl (go_ ?_);refine sC (AV [pI (E (Z.of b.1))]) kW (cN b.1 b.2) rfl rfl rfl ?_;obtain ⟨r2,hr2⟩:=nm ((bH (E (Z.of a.1)) (E (Z.of b.1))):Rt);refine sC (AV [pI r2.n,pI r2.d]) wQ (jG (E (Z.of a.1)) (E (Z.of b.1))) rfl rfl (by rw [hr2]) (go3 ?_);refine aS rfl (.inr rfl) (fB rfl m0 tyT rfl) ?_;exact (by subst hr2;rfl)

theorem tM (a:Rt) (b:Rt) :
    Ret Tryz.prog 54 [AV [pI a.n,pI a.d],AV [pI b.n,pI b.d]] (AV [pI ((gZ a b).n),pI ((gZ a b).d)]):=by
 refine aW (N:=16) Tryz.func54 rfl rfl (by simp) (fun w0=>?_);simp only [bA,Nat.reduceAdd];refine go2 ?_;intro b1 hb1;refine go_ ?_;intro b2 hb2;refine go_ ?_;intro b3 hb3;refine go4 ?_;refine sQ (aZ CX (j4 b) rfl) rfl (go2 ?_);rcases bt (cV b) with h4 | h4
 ·refine W_f (iX h4) rfl (go_ ?_);refine gds (sd (sk (sk (s0)))) [0,4,8,12,16,20,24,29] [7] mix (by kernel_rfl) (go5 ?_);refine pQ rfl (aZ wQ (jG b.d b.n) rfl) ?_;obtain ⟨r5,hr5⟩:=nm ((fZ a (bH b.d b.n)):Rt);refine pC (AV [pI r5.n,pI r5.d]) bG_ (EU a (bH b.d b.n)) rfl rfl (by rw [hr5]) (go3 ?_);refine aS rfl (.inr rfl) (fB rfl m0 tyT rfl) ?_;exact (by subst hr5;exact congrArg vS4 (show _=(gZ a b) from aE h4 rfl))
 refine W_t (iY h4) rfl (go_ ?_);refine sQ (aZ u6 i7  rfl) rfl (go3 ?_);refine aS rfl (.inr rfl) (fB rfl m0 tyT rfl) ?_;exact congrArg vS4 (show _=(gZ a b) from aM h4 rfl)

theorem vG (a:Rt) :
    Ret Tryz.prog 45 [AV [pI a.n,pI a.d]] (.int .i64 ((f5 a).1)):=by
 refine aW (N:=9) Tryz.func45 rfl rfl (by simp) (fun w0=>?_);simp only [bA,Nat.reduceAdd];refine go2 ?_;intro b1 hb1;refine go5 ?_;refine sQ (aZ NA (jT a) rfl) rfl (go2 ?_);rcases bt (aP a) with h2 | h2
 ·refine W_f (iX h2) rfl (go4 ?_);refine sC (.int .i64 ((Z.signW a.n.dec).1)) u5 (d7 a.n.1 a.n.2) rfl rfl rfl (go3 ?_);refine aS rfl (.inr rfl) rfl ?_;exact congrArg vS5 (show _=(f5 a) from aE h2 rfl)
 refine W_t (iY h2) rfl (go4 ?_);refine aS rfl (.inr rfl) rfl ?_;exact congrArg vS5 (show _=(f5 a) from aM h2 rfl)

end Go.Proofs.YtbjlhfochebmiaaGreatDoor

