/- Lemmas: what they ask stands in their statements. -/
import Derived.Test.YtokjfhfiodopdaaGreatUWh
set_option linter.unusedSimpArgs false
set_option linter.unusedVariables false
set_option maxHeartbeats 8000000
set_option maxRecDepth 20000
namespace Go.Proofs.YtokjfhfiodopdaaGreat
open Go.Kn Go.Num Tryz
attribute [local irreducible] Go.Kn.W WL PL OpQ OpR OpS
theorem B6  :
    Ret prog 175 [] (AV [pI F_ratio_one]):=by
 refine cL (N:=2) func175 rfl rfl (by simp) (fun w0=>?_);simp only [bS,Nat.reduceAdd];obtain ⟨q0,hq0⟩:=nm ((E (Z.of 1)):I);refine go2 ?_;intro b1 hb1;refine go2 ?_;refine sC (AV [pI q0]) aJ (hZ (wl 1).1 (wl 1).2) rfl rfl (by subst hq0;rfl) ?_;refine go3 ?_;refine bP rfl (.inr rfl) (fQ rfl m0 tyT rfl) ?_;exact (by obtain rfl:=hq0.symm;rfl)
theorem nJ  :
    Ret prog 158 [] (AV [pI r9.n,pI r9.d]):=by
 refine cL (N:=4) func158 rfl rfl (by simp) (fun w0=>?_);simp only [bS,Nat.reduceAdd];obtain ⟨q0,hq0⟩:=nm ((E Z.bad):I);obtain ⟨q1,hq1⟩:=nm (F_ratio_one:I);refine go2 ?_;intro b1 hb1;refine go2 ?_;refine sC (AV [pI q0]) aJ jF rfl rfl (by subst hq0;rfl) (sC (AV [pI q1]) aJ B6 rfl rfl (by subst hq1;rfl) (go4 ?_));refine bP rfl (.inr rfl) (fQ rfl m0 tyT rfl) ?_;exact (by subst_vars;rfl)
theorem tM (a:I) :
    Ret prog 174 [AV [pI a]] (.bool (kV a)):=by
 refine cL (N:=10) func174 rfl rfl (by simp) (fun w0=>?_);simp only [bS,Nat.reduceAdd];refine go2 ?_;intro b1 hb1;refine go2 ?_;refine gJv [2,3,4,5,6,7,8,9] [(2,.bool (!a.1.bad&&a.1.valid))] (fun K1 J1=>?_) ?_
 ·refine go4 ?_;rcases bt a.1.bad with h3 | h3
  ·refine sB (gG h3) rfl (go5 ?_);refine J1 _ _ pp_ s0 (bI (xF h3))
  refine sB (gD h3) rfl (go_ ?_);refine sC (.bool a.1.valid) aJ (vE a.1 a.2) rfl rfl rfl (go3 ?_);refine J1 _ _ pp_ s0 (bI (o6 h3 rfl))
 intro g4;refine go_ ?_;refine bP rfl (.inr rfl) rfl ?_;exact (by rfl)
theorem mT (a:Rt) :
    Ret prog 141 [AV [pI a.n,pI a.d]] (.bool (dS a)):=by
 refine cL (N:=26) func141 rfl rfl (by simp) (fun w0=>?_);simp only [bS,Nat.reduceAdd];refine go2 ?_;intro b1 hb1;refine go2 ?_;refine gJv [2,3,4,5,6,7,8,9,10,11,12,13,14,15,16,17,18,19,20,21,22,23,24,25] [(2,.bool ((kV a.n)&&((kV a.d)&&(decide (0<(Z.signW a.d.dec).1)&&decide ((E (Z.gcd a.n.dec a.d.dec))=F_ratio_one)))))] (fun K1 J1=>?_) ?_
 ·refine go3 ?_;refine sQ (bZ aJ (tM a.n) rfl) rfl ?_;refine sBB rfl (fun h5=>?_) (fun h5=>?_)
  ·refine go2 ?_;refine sQ (bZ aJ (tM a.d) rfl) rfl (go_ ?_);refine sBB rfl (fun h6=>?_) (fun h6=>?_)
   ·refine go2 ?_;refine sC (.int .i64 ((Z.signW a.d.dec).1)) aJ (iJ a.d.1 a.d.2) rfl rfl rfl (go2 ?_);refine sBB rfl (fun h7=>?_) (fun h7=>?_)
    ·refine go4 ?_;refine sC (AV [pI (E (Z.gcd a.n.dec a.d.dec))]) aJ (uZ a.n.1 a.d.1 a.n.2 a.d.2) rfl rfl rfl (sQ (bZ aJ B6  rfl) rfl ?_);refine sQ (xI (r:=decide ((E (Z.gcd a.n.dec a.d.dec))=F_ratio_one)) rfl rfl (oA 8 dd_ TS UJ (oT jU) (oT jU) (uR pU))) rfl (go3 ?_);refine J1 _ _ pp_ s0 (bI (cU h5 (cU h6 (cU h7 rfl))))
    refine oS ?_;refine J1 _ _ pp_ s0 (bI (cU h5 (cU h6 (iQ h7))))
   refine V7 ?_;refine J1 _ _ pp_ s0 (bI (cU h5 (iQ h6)))
  refine d8_ ?_;refine J1 _ _ pp_ s0 (bI (iQ h5))
 intro g8;refine go_ ?_;refine bP rfl (.inr rfl) rfl ?_;exact (by rfl)
theorem qG (a:I) (b:I) :
    Ret prog 159 [AV [pI a],AV [pI b]] (AV [pI ((dJ a b).n),pI ((dJ a b).d)]):=by
 refine cL (N:=35) func159 rfl rfl (by simp) (fun w0=>?_);simp only [bS,Nat.reduceAdd];refine go2 ?_;intro b1 hb1;refine go_ ?_;intro b2 hb2;refine go_ ?_;intro b3 hb3;refine go2 ?_;refine gJv [6,7,8,9,10,11,12,13,14,15,16,17,18] [(18,.bool (!(kV a)||(!(kV b)||((Z.signW b.dec).1==0))))] (fun K2 J2=>?_) ?_
 ·refine go2 ?_;refine sQ (bZ aJ (tM a) rfl) rfl (go_ ?_);rcases bt (kV a) with h6 | h6
  ·refine sB (gG h6) rfl (go_ ?_);refine sQ (bZ aJ (tM b) rfl) rfl (go2 ?_);rcases bt (kV b) with h7 | h7
   ·refine sB (gG h7) rfl (go_ ?_);refine sC (.int .i64 ((Z.signW b.dec).1)) aJ (iJ b.1 b.2) rfl rfl rfl (go3 ?_);refine J2 _ _ pp_ s0 (bI (lE h6 (lE h7 rfl)))
   refine sB (gD h7) rfl (go5 ?_);refine J2 _ _ pp_ s0 (bI (lE h6 (nI h7)))
  refine sB (gD h6) rfl (oS ?_);refine J2 _ _ pp_ s0 (bI (nI h6))
 intro g8;refine aT _ rfl (fun h9=>?_) (fun h9=>?_)
 ·refine go_ ?_;refine sQ (bZ aJ nJ  rfl) rfl (go3 ?_);refine bP rfl (.inr rfl) (fQ rfl m0 tyT rfl) ?_;exact congrArg vS6 (show _=(dJ a b) from bE h9 rfl)
 refine go4 ?_;refine sC (AV [pI (E (Z.gcd a.dec b.dec))]) aJ (uZ a.1 b.1 a.2 b.2) rfl rfl rfl (go_ ?_);intro b10 hb10;refine go5 ?_;refine sC (.int .i64 ((Z.signW b.dec).1)) aJ (iJ b.1 b.2) rfl rfl rfl (go2 ?_);refine aT _ rfl (fun h11=>?_) (fun h11=>?_)
 ·refine go2 ?_;refine sC (AV [pI (E (Z.neg (Z.gcd a.dec b.dec)))]) aJ (xL (E (Z.gcd a.dec b.dec)).1 (E (Z.gcd a.dec b.dec)).2) rfl rfl (cg1 (fun p=>AV [pI (E (Z.neg p))]) (cZ _)) (go2 ?_);refine rX (sk (sd (sk (sk (s0))))) 8 [7] [7] (go2 ?_);refine pC (AV [pI (E (Z.quo a.dec (Z.neg (Z.gcd a.dec b.dec))))]) aJ (kA a.1 (E (Z.neg (Z.gcd a.dec b.dec))).1 a.2 (E (Z.neg (Z.gcd a.dec b.dec))).2) rfl rfl (cg2 (fun p q=>AV [pI (E (Z.quo p q))]) rfl (cZ _)) (go2 ?_);refine pC (AV [pI (E (Z.quo b.dec (Z.neg (Z.gcd a.dec b.dec))))]) aJ (kA b.1 (E (Z.neg (Z.gcd a.dec b.dec))).1 b.2 (E (Z.neg (Z.gcd a.dec b.dec))).2) rfl rfl (cg2 (fun p q=>AV [pI (E (Z.quo p q))]) rfl (cZ _)) (pQ rfl (oW zpT plT rfl (.cons [pI (E (Z.quo a.dec (Z.neg (Z.gcd a.dec b.dec))))] [pI (E (Z.quo a.dec (Z.neg (Z.gcd a.dec b.dec)))),pI I0] rfl rfl rfl rfl (.cons [pI (E (Z.quo b.dec (Z.neg (Z.gcd a.dec b.dec))))] [pI (E (Z.quo a.dec (Z.neg (Z.gcd a.dec b.dec)))),pI (E (Z.quo b.dec (Z.neg (Z.gcd a.dec b.dec))))] rfl rfl rfl rfl (.nil _)))) (go3 ?_));refine bP rfl (.inr rfl) (fQ rfl m1 tyT rfl) ?_;exact congrArg vS6 (show _=(dJ a b) from aN h9 (bE h11 rfl))
 refine go_ ?_;refine rX (sk (sd (sk (sk (s0))))) 8 [7] [7] (go2 ?_);refine pC (AV [pI (E (Z.quo a.dec (Z.gcd a.dec b.dec)))]) aJ (kA a.1 (E (Z.gcd a.dec b.dec)).1 a.2 (E (Z.gcd a.dec b.dec)).2) rfl rfl (cg2 (fun p q=>AV [pI (E (Z.quo p q))]) rfl (cZ _)) (go2 ?_);refine pC (AV [pI (E (Z.quo b.dec (Z.gcd a.dec b.dec)))]) aJ (kA b.1 (E (Z.gcd a.dec b.dec)).1 b.2 (E (Z.gcd a.dec b.dec)).2) rfl rfl (cg2 (fun p q=>AV [pI (E (Z.quo p q))]) rfl (cZ _)) (pQ rfl (oW zpT plT rfl (.cons [pI (E (Z.quo a.dec (Z.gcd a.dec b.dec)))] [pI (E (Z.quo a.dec (Z.gcd a.dec b.dec))),pI I0] rfl rfl rfl rfl (.cons [pI (E (Z.quo b.dec (Z.gcd a.dec b.dec)))] [pI (E (Z.quo a.dec (Z.gcd a.dec b.dec))),pI (E (Z.quo b.dec (Z.gcd a.dec b.dec)))] rfl rfl rfl rfl (.nil _)))) (go3 ?_));refine bP rfl (.inr rfl) (fQ rfl m1 tyT rfl) ?_;exact congrArg vS6 (show _=(dJ a b) from aN h9 (aN h11 rfl))
theorem JV (a:Rt) :
    Ret prog 167 [AV [pI a.n,pI a.d]] (AV [pI ((sD a).n),pI ((sD a).d)]):=by
 refine cL (N:=13) func167 rfl rfl (by simp) (fun w0=>?_);simp only [bS,Nat.reduceAdd];refine go2 ?_;intro b1 hb1;refine go_ ?_;intro b2 hb2;refine go4 ?_;refine sQ (bZ aJ (mT a) rfl) rfl (go2 ?_);rcases bt (dS a) with h3 | h3
 ·refine W_f (gG h3) rfl (go_ ?_);refine rX (sd (sk (s0))) 7 [6] [6] (go2 ?_);refine pC (AV [pI (E (Z.neg a.n.dec))]) aJ (xL a.n.1 a.n.2) rfl rfl rfl (go2 ?_);refine pQ rfl (oW zpT plT rfl (.cons [pI (E (Z.neg a.n.dec))] [pI (E (Z.neg a.n.dec)),pI I0] rfl rfl rfl rfl (.cons [pI a.d] [pI (E (Z.neg a.n.dec)),pI a.d] rfl rfl rfl rfl (.nil _)))) (go3 ?_);refine bP rfl (.inr rfl) (fQ rfl m0 tyT rfl) ?_;exact congrArg vS6 (show _=(sD a) from bE h3 rfl)
 refine W_t (gD h3) rfl (go_ ?_);refine sQ (bZ aJ nJ  rfl) rfl (go3 ?_);refine bP rfl (.inr rfl) (fQ rfl m0 tyT rfl) ?_;exact congrArg vS6 (show _=(sD a) from aN h3 rfl)
theorem B5 (a:Rt) (b:Rt) :
    Ret prog 106 [AV [pI a.n,pI a.d],AV [pI b.n,pI b.d]] (AV [pI ((mO a b).n),pI ((mO a b).d)]):=by
 refine cL (N:=44) func106 rfl rfl (by simp) (fun w0=>?_);simp only [bS,Nat.reduceAdd];refine go2 ?_;intro b1 hb1;refine go_ ?_;intro b2 hb2;refine go_ ?_;intro b3 hb3;refine go2 ?_;refine gJv [8,9,10,11,12,13,14,15] [(15,.bool (!(dS a)||(!(dS b))))] (fun K2 J2=>?_) ?_
 ·refine go2 ?_;refine sQ (bZ aJ (mT a) rfl) rfl (go_ ?_);rcases bt (dS a) with h5 | h5
  ·refine sB (gG h5) rfl (go_ ?_);refine sQ (bZ aJ (mT b) rfl) rfl (go3 ?_);refine J2 _ _ pp_ s0 (bI (lE h5 rfl))
  refine sB (gD h5) rfl (go5 ?_);refine J2 _ _ pp_ s0 (bI (nI h5))
 intro g6;refine aT _ rfl (fun h7=>?_) (fun h7=>?_)
 ·refine go_ ?_;refine sQ (bZ aJ nJ  rfl) rfl (go3 ?_);refine bP rfl (.inr rfl) (fQ rfl m0 tyT rfl) ?_;exact congrArg vS6 (show _=(mO a b) from bE h7 rfl)
 refine go6 ?_;refine sC (AV [pI (E (Z.gcd a.d.dec b.d.dec))]) aJ (uZ a.d.1 b.d.1 a.d.2 b.d.2) rfl rfl rfl (go_ ?_);intro b8 hb8;refine go2 ?_;refine gDs (sk (sk (sk (sk (s0))))) (.quiet 0 [1,3,7,10,11] (.quiet 1 [3,7,10,11] (.quiet 2 [3,7,10,11] (.quiet 3 [7,10,11] (.quiet 4 [5,7,10,11] (.quiet 5 [7,10,11] (.quiet 6 [7,10,11] (.quiet 7 [10,11] (.both 8 (.only 9 (.only 10 (.only 11 (.fin)))) 9 (.only 8 (.only 10 (.only 11 (.fin))))))))))))) [0,1,2,3,4,5,6,7,8,9] mix (by kernel_rfl) (by kernel_rfl) (go3 ?_);refine pC (AV [pI (E (Z.quo a.d.dec (Z.gcd a.d.dec b.d.dec)))]) aJ (kA a.d.1 (E (Z.gcd a.d.dec b.d.dec)).1 a.d.2 (E (Z.gcd a.d.dec b.d.dec)).2) rfl rfl (cg2 (fun p q=>AV [pI (E (Z.quo p q))]) rfl (cZ _)) (go3 ?_);refine pC (AV [pI (E (Z.quo b.d.dec (Z.gcd a.d.dec b.d.dec)))]) aJ (kA b.d.1 (E (Z.gcd a.d.dec b.d.dec)).1 b.d.2 (E (Z.gcd a.d.dec b.d.dec)).2) rfl rfl (cg2 (fun p q=>AV [pI (E (Z.quo p q))]) rfl (cZ _)) ?_;refine G5 ?_ ?_
 ·refine fT rfl rfl (iD zpT (fun b9 hb9=>⟨(fun _=>sd s0),(sd s0),?_⟩));refine fT rfl rfl (iD zpT (fun b10 hb10=>⟨(fun _=>sd s0),(sd (sd s0)),?_⟩));refine go3 ?_;refine gds (sk (sk (sk (sd (sk (sk (s0))))))) [0,4,8,12,16,20,24,28,32,36,40,44,48,52,57] [14] mix (by kernel_rfl) (go3 ?_);refine pC (AV [pI (E (Z.mul a.n.dec (Z.quo b.d.dec (Z.gcd a.d.dec b.d.dec))))]) aJ (eK a.n.1 (E (Z.quo b.d.dec (Z.gcd a.d.dec b.d.dec))).1 a.n.2 (E (Z.quo b.d.dec (Z.gcd a.d.dec b.d.dec))).2) rfl rfl (cg2 (fun p q=>AV [pI (E (Z.mul p q))]) rfl (cZ _)) (go3 ?_);refine pC (AV [pI (E (Z.mul b.n.dec (Z.quo a.d.dec (Z.gcd a.d.dec b.d.dec))))]) aJ (eK b.n.1 (E (Z.quo a.d.dec (Z.gcd a.d.dec b.d.dec))).1 b.n.2 (E (Z.quo a.d.dec (Z.gcd a.d.dec b.d.dec))).2) rfl rfl (cg2 (fun p q=>AV [pI (E (Z.mul p q))]) rfl (cZ _)) ?_;obtain ⟨r11,hr11⟩:=nm ((E (Z.add (Z.mul a.n.dec (Z.quo b.d.dec (Z.gcd a.d.dec b.d.dec))) (Z.mul b.n.dec (Z.quo a.d.dec (Z.gcd a.d.dec b.d.dec))))):I);refine pC (AV [pI r11]) aJ (oL (E (Z.mul a.n.dec (Z.quo b.d.dec (Z.gcd a.d.dec b.d.dec)))).1 (E (Z.mul b.n.dec (Z.quo a.d.dec (Z.gcd a.d.dec b.d.dec)))).1 (E (Z.mul a.n.dec (Z.quo b.d.dec (Z.gcd a.d.dec b.d.dec)))).2 (E (Z.mul b.n.dec (Z.quo a.d.dec (Z.gcd a.d.dec b.d.dec)))).2) rfl rfl ((cg2 (fun p q=>AV [pI (E (Z.add p q))]) (cZ _) (cZ _)).trans (by rw [hr11])) (go3 ?_);refine pC (AV [pI (E (Z.mul (Z.quo a.d.dec (Z.gcd a.d.dec b.d.dec)) b.d.dec))]) aJ (eK (E (Z.quo a.d.dec (Z.gcd a.d.dec b.d.dec))).1 b.d.1 (E (Z.quo a.d.dec (Z.gcd a.d.dec b.d.dec))).2 b.d.2) rfl rfl (cg2 (fun p q=>AV [pI (E (Z.mul p q))]) (cZ _) rfl) ?_;obtain ⟨r12,hr12⟩:=nm ((dJ r11 (E (Z.mul (Z.quo a.d.dec (Z.gcd a.d.dec b.d.dec)) b.d.dec))):Rt);refine pC (AV [pI r12.n,pI r12.d]) aJ (qG r11 (E (Z.mul (Z.quo a.d.dec (Z.gcd a.d.dec b.d.dec)) b.d.dec))) rfl rfl (by rw [hr12]) (go3 ?_);refine bP rfl (.inr rfl) (fQ rfl m3 tyT rfl) ?_
  subst_vars;exact congrArg vS6 (show _=(mO a b) from aN h7 rfl)
 refine fT rfl rfl (iD zpT (fun b13 hb13=>⟨(fun _=>sd s0),(sd s0),?_⟩));refine fT rfl rfl (iD zpT (fun b14 hb14=>⟨(fun _=>sd s0),(sd (sd s0)),?_⟩));refine go3 ?_;refine gds (sk (sk (sk (sd (sk (sk (s0))))))) [0,4,8,12,16,20,24,28,32,36,40,44,48,52,57] [14] mix (by kernel_rfl) (go3 ?_);refine pC (AV [pI (E (Z.mul a.n.dec (Z.quo b.d.dec (Z.gcd a.d.dec b.d.dec))))]) aJ (eK a.n.1 (E (Z.quo b.d.dec (Z.gcd a.d.dec b.d.dec))).1 a.n.2 (E (Z.quo b.d.dec (Z.gcd a.d.dec b.d.dec))).2) rfl rfl (cg2 (fun p q=>AV [pI (E (Z.mul p q))]) rfl (cZ _)) (go3 ?_);refine pC (AV [pI (E (Z.mul b.n.dec (Z.quo a.d.dec (Z.gcd a.d.dec b.d.dec))))]) aJ (eK b.n.1 (E (Z.quo a.d.dec (Z.gcd a.d.dec b.d.dec))).1 b.n.2 (E (Z.quo a.d.dec (Z.gcd a.d.dec b.d.dec))).2) rfl rfl (cg2 (fun p q=>AV [pI (E (Z.mul p q))]) rfl (cZ _)) ?_;obtain ⟨r15,hr15⟩:=nm ((E (Z.add (Z.mul a.n.dec (Z.quo b.d.dec (Z.gcd a.d.dec b.d.dec))) (Z.mul b.n.dec (Z.quo a.d.dec (Z.gcd a.d.dec b.d.dec))))):I);refine pC (AV [pI r15]) aJ (oL (E (Z.mul a.n.dec (Z.quo b.d.dec (Z.gcd a.d.dec b.d.dec)))).1 (E (Z.mul b.n.dec (Z.quo a.d.dec (Z.gcd a.d.dec b.d.dec)))).1 (E (Z.mul a.n.dec (Z.quo b.d.dec (Z.gcd a.d.dec b.d.dec)))).2 (E (Z.mul b.n.dec (Z.quo a.d.dec (Z.gcd a.d.dec b.d.dec)))).2) rfl rfl ((cg2 (fun p q=>AV [pI (E (Z.add p q))]) (cZ _) (cZ _)).trans (by rw [hr15])) (go3 ?_);refine pC (AV [pI (E (Z.mul (Z.quo a.d.dec (Z.gcd a.d.dec b.d.dec)) b.d.dec))]) aJ (eK (E (Z.quo a.d.dec (Z.gcd a.d.dec b.d.dec))).1 b.d.1 (E (Z.quo a.d.dec (Z.gcd a.d.dec b.d.dec))).2 b.d.2) rfl rfl (cg2 (fun p q=>AV [pI (E (Z.mul p q))]) (cZ _) rfl) ?_;obtain ⟨r16,hr16⟩:=nm ((dJ r15 (E (Z.mul (Z.quo a.d.dec (Z.gcd a.d.dec b.d.dec)) b.d.dec))):Rt);refine pC (AV [pI r16.n,pI r16.d]) aJ (qG r15 (E (Z.mul (Z.quo a.d.dec (Z.gcd a.d.dec b.d.dec)) b.d.dec))) rfl rfl (by rw [hr16]) (go3 ?_);refine bP rfl (.inr rfl) (fQ rfl m3 tyT rfl) ?_
 subst_vars;exact congrArg vS6 (show _=(mO a b) from aN h7 rfl)
theorem JW (a:Rt) (b:Rt) :
    Ret prog 114 [AV [pI a.n,pI a.d],AV [pI b.n,pI b.d]] (AV [pI ((kP a b).n),pI ((kP a b).d)]):=by
 refine cL (N:=9) func114 rfl rfl (by simp) (fun w0=>?_);simp only [bS,Nat.reduceAdd];refine go2 ?_;intro b1 hb1;refine go_ ?_;intro b2 hb2;refine go_ ?_;intro b3 hb3;refine go_ ?_;refine rX (sd (sk (sk (s0)))) 5 [4] [4] (go2 ?_);refine pQ rfl (bZ aJ (JV b) rfl) (pQ rfl (bZ aJ (B5 a (sD b)) rfl) (go3 ?_));refine bP rfl (.inr rfl) (fQ rfl m0 tyT rfl) ?_;exact (by rfl)
theorem JU (a:Rt) (b:Rt) :
    Ret prog 105 [AV [pI a.n,pI a.d],AV [pI b.n,pI b.d]] (AV [pI ((j4 a b).n),pI ((j4 a b).d)]):=by
 refine cL (N:=48) func105 rfl rfl (by simp) (fun w0=>?_);simp only [bS,Nat.reduceAdd];refine go2 ?_;intro b1 hb1;refine go_ ?_;intro b2 hb2;refine go_ ?_;intro b3 hb3;refine go2 ?_;refine gJv [9,10,11,12,13,14,15,16] [(16,.bool (!(dS a)||(!(dS b))))] (fun K2 J2=>?_) ?_
 ·refine go2 ?_;refine sQ (bZ aJ (mT a) rfl) rfl (go_ ?_);rcases bt (dS a) with h5 | h5
  ·refine sB (gG h5) rfl (go_ ?_);refine sQ (bZ aJ (mT b) rfl) rfl (go3 ?_);refine J2 _ _ pp_ s0 (bI (lE h5 rfl))
  refine sB (gD h5) rfl (go5 ?_);refine J2 _ _ pp_ s0 (bI (nI h5))
 intro g6;refine aT _ rfl (fun h7=>?_) (fun h7=>?_)
 ·refine go_ ?_;refine sQ (bZ aJ nJ  rfl) rfl (go3 ?_);refine bP rfl (.inr rfl) (fQ rfl m0 tyT rfl) ?_;exact congrArg vS6 (show _=(j4 a b) from bE h7 rfl)
 refine go_ ?_;refine gDs (sk (sk (sk (s0)))) (.quiet 0 [1,4,9,12,13] (.quiet 1 [4,9,12,13] (.quiet 2 [3,4,9,12,13] (.quiet 3 [4,9,12,13] (.quiet 4 [9,12,13] (.quiet 5 [6,9,12,13] (.quiet 6 [9,12,13] (.quiet 7 [8,9,12,13] (.quiet 8 [9,12,13] (.quiet 9 [12,13] (.both 10 (.only 11 (.only 12 (.only 13 (.fin)))) 11 (.only 10 (.only 12 (.only 13 (.fin))))))))))))))) [0,1,2,3,4,5,6,7,8,9,10,11] mix (by kernel_rfl) (by kernel_rfl) (go4 ?_);refine pQ rfl (bZ aJ (qG a.n b.d) rfl) (go4 ?_);refine pQ rfl (bZ aJ (qG b.n a.d) rfl) ?_;refine G5 ?_ ?_
 ·refine fT rfl rfl (iD zpT (fun b8 hb8=>⟨(fun _=>sd s0),(sd s0),?_⟩));refine fT rfl rfl (iD zpT (fun b9 hb9=>⟨(fun _=>sd s0),(sd (sd s0)),?_⟩));refine go3 ?_;refine gDs (sk (sd (sk (sk (sk (s0)))))) (.quiet 0 [1,4,9,12,13] (.quiet 1 [4,9,12,13] (.quiet 2 [3,4,9,12,13] (.quiet 3 [4,9,12,13] (.quiet 4 [9,12,13] (.quiet 5 [6,9,12,13] (.quiet 6 [9,12,13] (.quiet 7 [8,9,12,13] (.quiet 8 [9,12,13] (.quiet 9 [12,13] (.both 10 (.only 11 (.only 12 (.only 13 (.fin)))) 11 (.only 10 (.only 12 (.only 13 (.fin))))))))))))))) [0,1,2,3,4,5,6,7,8,9,10,11] mix (by kernel_rfl) (by kernel_rfl) (go4 ?_);obtain ⟨r10,hr10⟩:=nm ((E (Z.mul ((dJ a.n b.d).n).dec ((dJ b.n a.d).n).dec)):I);refine pC (AV [pI r10]) aJ (eK ((dJ a.n b.d).n).1 ((dJ b.n a.d).n).1 ((dJ a.n b.d).n).2 ((dJ b.n a.d).n).2) rfl rfl (by subst hr10;rfl) (go4 ?_);obtain ⟨r11,hr11⟩:=nm ((E (Z.mul ((dJ a.n b.d).d).dec ((dJ b.n a.d).d).dec)):I);refine pC (AV [pI r11]) aJ (eK ((dJ a.n b.d).d).1 ((dJ b.n a.d).d).1 ((dJ a.n b.d).d).2 ((dJ b.n a.d).d).2) rfl rfl (by subst hr11;rfl) ?_;refine G5 ?_ ?_
  ·refine fT rfl rfl (iD zpT (fun b12 hb12=>⟨(fun _=>sd s0),(sd (sk (sd s0))),?_⟩));refine fT rfl rfl (iD zpT (fun b13 hb13=>⟨(fun _=>sd s0),(sd (sd (sk (sd s0)))),?_⟩));refine go4 ?_;refine gJv [38,39,40,41,42,43] [(43,.bool (r10.1.bad||r11.1.bad))] (fun K4 J4=>?_) ?_
   ·refine go3 ?_;refine sBB rfl (fun h15=>?_) (fun h15=>?_)
    ·refine go4 ?_;refine J4 _ _ pp_ s0 (bI (mS h15))
    refine go4 ?_;refine J4 _ _ pp_ s0 (bI (kX h15 rfl))
   intro g16;refine aT _ rfl (fun h17=>?_) (fun h17=>?_)
   ·refine go_ ?_;refine sQ (bZ aJ nJ  rfl) rfl (go3 ?_);refine bP rfl (.inr rfl) (fQ rfl m4 tyT rfl) ?_
    subst_vars;exact congrArg vS6 (show _=(j4 a b) from aN h7 (bE h17 rfl))
   refine go8 ?_;refine bP rfl (.inr rfl) (fQ rfl m4 tyT rfl) ?_
   subst_vars;exact congrArg vS6 (show _=(j4 a b) from aN h7 (aN h17 rfl))
  refine fT rfl rfl (iD zpT (fun b18 hb18=>⟨(fun _=>sd s0),(sd (sk (sd s0))),?_⟩));refine fT rfl rfl (iD zpT (fun b19 hb19=>⟨(fun _=>sd s0),(sd (sd (sk (sd s0)))),?_⟩));refine go4 ?_;refine gJv [38,39,40,41,42,43] [(43,.bool (r10.1.bad||r11.1.bad))] (fun K6 J6=>?_) ?_
  ·refine go3 ?_;refine sBB rfl (fun h21=>?_) (fun h21=>?_)
   ·refine go4 ?_;refine J6 _ _ pp_ s0 (bI (mS h21))
   refine go4 ?_;refine J6 _ _ pp_ s0 (bI (kX h21 rfl))
  intro g22;refine aT _ rfl (fun h23=>?_) (fun h23=>?_)
  ·refine go_ ?_;refine sQ (bZ aJ nJ  rfl) rfl (go3 ?_);refine bP rfl (.inr rfl) (fQ rfl m4 tyT rfl) ?_
   subst_vars;exact congrArg vS6 (show _=(j4 a b) from aN h7 (bE h23 rfl))
  refine go8 ?_;refine bP rfl (.inr rfl) (fQ rfl m4 tyT rfl) ?_
  subst_vars;exact congrArg vS6 (show _=(j4 a b) from aN h7 (aN h23 rfl))
 refine fT rfl rfl (iD zpT (fun b24 hb24=>⟨(fun _=>sd s0),(sd s0),?_⟩));refine fT rfl rfl (iD zpT (fun b25 hb25=>⟨(fun _=>sd s0),(sd (sd s0)),?_⟩));refine go3 ?_;refine gDs (sk (sk (sk (sk (sk (s0)))))) (.quiet 0 [1,4,9,12,13] (.quiet 1 [4,9,12,13] (.quiet 2 [3,4,9,12,13] (.quiet 3 [4,9,12,13] (.quiet 4 [9,12,13] (.quiet 5 [6,9,12,13] (.quiet 6 [9,12,13] (.quiet 7 [8,9,12,13] (.quiet 8 [9,12,13] (.quiet 9 [12,13] (.both 10 (.only 11 (.only 12 (.only 13 (.fin)))) 11 (.only 10 (.only 12 (.only 13 (.fin))))))))))))))) [0,1,2,3,4,5,6,7,8,9,10,11] mix (by kernel_rfl) (by kernel_rfl) (go4 ?_);obtain ⟨r26,hr26⟩:=nm ((E (Z.mul ((dJ a.n b.d).n).dec ((dJ b.n a.d).n).dec)):I);refine pC (AV [pI r26]) aJ (eK ((dJ a.n b.d).n).1 ((dJ b.n a.d).n).1 ((dJ a.n b.d).n).2 ((dJ b.n a.d).n).2) rfl rfl (by subst hr26;rfl) (go4 ?_);obtain ⟨r27,hr27⟩:=nm ((E (Z.mul ((dJ a.n b.d).d).dec ((dJ b.n a.d).d).dec)):I);refine pC (AV [pI r27]) aJ (eK ((dJ a.n b.d).d).1 ((dJ b.n a.d).d).1 ((dJ a.n b.d).d).2 ((dJ b.n a.d).d).2) rfl rfl (by subst hr27;rfl) ?_;refine G5 ?_ ?_
 ·refine fT rfl rfl (iD zpT (fun b28 hb28=>⟨(fun _=>sd s0),(sd s0),?_⟩));refine fT rfl rfl (iD zpT (fun b29 hb29=>⟨(fun _=>sd s0),(sd (sd s0)),?_⟩));refine go4 ?_;refine gJv [38,39,40,41,42,43] [(43,.bool (r26.1.bad||r27.1.bad))] (fun K8 J8=>?_) ?_
  ·refine go3 ?_;refine sBB rfl (fun h31=>?_) (fun h31=>?_)
   ·refine go4 ?_;refine J8 _ _ pp_ s0 (bI (mS h31))
   refine go4 ?_;refine J8 _ _ pp_ s0 (bI (kX h31 rfl))
  intro g32;refine aT _ rfl (fun h33=>?_) (fun h33=>?_)
  ·refine go_ ?_;refine sQ (bZ aJ nJ  rfl) rfl (go3 ?_);refine bP rfl (.inr rfl) (fQ rfl m4 tyT rfl) ?_
   subst_vars;exact congrArg vS6 (show _=(j4 a b) from aN h7 (bE h33 rfl))
  refine go8 ?_;refine bP rfl (.inr rfl) (fQ rfl m4 tyT rfl) ?_
  subst_vars;exact congrArg vS6 (show _=(j4 a b) from aN h7 (aN h33 rfl))
 refine fT rfl rfl (iD zpT (fun b34 hb34=>⟨(fun _=>sd s0),(sd s0),?_⟩));refine fT rfl rfl (iD zpT (fun b35 hb35=>⟨(fun _=>sd s0),(sd (sd s0)),?_⟩));refine go4 ?_;refine gJv [38,39,40,41,42,43] [(43,.bool (r26.1.bad||r27.1.bad))] (fun K10 J10=>?_) ?_
 ·refine go3 ?_;refine sBB rfl (fun h37=>?_) (fun h37=>?_)
  ·refine go4 ?_;refine J10 _ _ pp_ s0 (bI (mS h37))
  refine go4 ?_;refine J10 _ _ pp_ s0 (bI (kX h37 rfl))
 intro g38;refine aT _ rfl (fun h39=>?_) (fun h39=>?_)
 ·refine go_ ?_;refine sQ (bZ aJ nJ  rfl) rfl (go3 ?_);refine bP rfl (.inr rfl) (fQ rfl m4 tyT rfl) ?_
  subst_vars;exact congrArg vS6 (show _=(j4 a b) from aN h7 (bE h39 rfl))
 refine go8 ?_;refine bP rfl (.inr rfl) (fQ rfl m4 tyT rfl) ?_
 subst_vars;exact congrArg vS6 (show _=(j4 a b) from aN h7 (aN h39 rfl))
theorem pO  :
    Ret prog 87 [] (AV [pI F_skewbackref04_one]):=by
 refine cL (N:=2) func87 rfl rfl (by simp) (fun w0=>?_);simp only [bS,Nat.reduceAdd];obtain ⟨q0,hq0⟩:=nm ((E (Z.of 1)):I);refine go2 ?_;intro b1 hb1;refine go2 ?_;refine sC (AV [pI q0]) aJ (dY (wl 1).1 (wl 1).2) rfl rfl (by subst hq0;rfl) ?_;refine go3 ?_;refine bP rfl (.inr rfl) (fQ rfl m0 tyT rfl) ?_;exact (by obtain rfl:=hq0.symm;rfl)
theorem nS  :
    Ret prog 80 [] (AV [pI jQ.n,pI jQ.d]):=by
 refine cL (N:=4) func80 rfl rfl (by simp) (fun w0=>?_);simp only [bS,Nat.reduceAdd];obtain ⟨q0,hq0⟩:=nm ((E Z.bad):I);obtain ⟨q1,hq1⟩:=nm (F_skewbackref04_one:I);refine go2 ?_;intro b1 hb1;refine go2 ?_;refine sC (AV [pI q0]) aJ eB rfl rfl (by subst hq0;rfl) (sC (AV [pI q1]) aJ pO rfl rfl (by subst hq1;rfl) (go4 ?_));refine bP rfl (.inr rfl) (fQ rfl m0 tyT rfl) ?_;exact (by subst_vars;rfl)
theorem kG (a:I) (b:I) :
    Ret prog 71 [AV [pI a],AV [pI b]] (AV [pI ((bL a b).n),pI ((bL a b).d)]):=by
 refine cL (N:=35) func71 rfl rfl (by simp) (fun w0=>?_);simp only [bS,Nat.reduceAdd];refine go2 ?_;intro b1 hb1;refine go_ ?_;intro b2 hb2;refine go_ ?_;intro b3 hb3;refine go2 ?_;refine gJv [6,7,8,9,10,11,12,13,14,15,16,17,18] [(18,.bool (!a.1.good||(!b.1.good||((Z.signW b.dec).1==0))))] (fun K2 J2=>?_) ?_
 ·refine go2 ?_;refine sC (.bool a.1.good) aJ (cF a.1 a.2) rfl rfl rfl (go_ ?_);rcases bt a.1.good with h6 | h6
  ·refine sB (gG h6) rfl (go_ ?_);refine sC (.bool b.1.good) aJ (cF b.1 b.2) rfl rfl rfl (go2 ?_);rcases bt b.1.good with h7 | h7
   ·refine sB (gG h7) rfl (go_ ?_);refine sC (.int .i64 ((Z.signW b.dec).1)) aJ (eT b.1 b.2) rfl rfl rfl (go3 ?_);refine J2 _ _ pp_ s0 (bI (lE h6 (lE h7 rfl)))
   refine sB (gD h7) rfl (go5 ?_);refine J2 _ _ pp_ s0 (bI (lE h6 (nI h7)))
  refine sB (gD h6) rfl (oS ?_);refine J2 _ _ pp_ s0 (bI (nI h6))
 intro g8;refine aT _ rfl (fun h9=>?_) (fun h9=>?_)
 ·refine go_ ?_;refine sQ (bZ aJ nS  rfl) rfl (go3 ?_);refine bP rfl (.inr rfl) (fQ rfl m0 tyT rfl) ?_;exact congrArg vS6 (show _=(bL a b) from bE h9 rfl)
 refine go4 ?_;refine sC (AV [pI (E (Z.gcd a.dec b.dec))]) aJ (mD a.1 b.1 a.2 b.2) rfl rfl rfl (go_ ?_);intro b10 hb10;refine go5 ?_;refine sC (.int .i64 ((Z.signW b.dec).1)) aJ (eT b.1 b.2) rfl rfl rfl (go2 ?_);refine aT _ rfl (fun h11=>?_) (fun h11=>?_)
 ·refine go2 ?_;refine sC (AV [pI (E (Z.neg (Z.gcd a.dec b.dec)))]) aJ (uA (E (Z.gcd a.dec b.dec)).1 (E (Z.gcd a.dec b.dec)).2) rfl rfl (cg1 (fun p=>AV [pI (E (Z.neg p))]) (cZ _)) (go2 ?_);refine rX (sk (sd (sk (sk (s0))))) 8 [7] [7] (go2 ?_);refine pC (AV [pI (E (Z.quo a.dec (Z.neg (Z.gcd a.dec b.dec))))]) aJ (gS a.1 (E (Z.neg (Z.gcd a.dec b.dec))).1 a.2 (E (Z.neg (Z.gcd a.dec b.dec))).2) rfl rfl (cg2 (fun p q=>AV [pI (E (Z.quo p q))]) rfl (cZ _)) (go2 ?_);refine pC (AV [pI (E (Z.quo b.dec (Z.neg (Z.gcd a.dec b.dec))))]) aJ (gS b.1 (E (Z.neg (Z.gcd a.dec b.dec))).1 b.2 (E (Z.neg (Z.gcd a.dec b.dec))).2) rfl rfl (cg2 (fun p q=>AV [pI (E (Z.quo p q))]) rfl (cZ _)) (pQ rfl (oW zpT plT rfl (.cons [pI (E (Z.quo a.dec (Z.neg (Z.gcd a.dec b.dec))))] [pI (E (Z.quo a.dec (Z.neg (Z.gcd a.dec b.dec)))),pI I0] rfl rfl rfl rfl (.cons [pI (E (Z.quo b.dec (Z.neg (Z.gcd a.dec b.dec))))] [pI (E (Z.quo a.dec (Z.neg (Z.gcd a.dec b.dec)))),pI (E (Z.quo b.dec (Z.neg (Z.gcd a.dec b.dec))))] rfl rfl rfl rfl (.nil _)))) (go3 ?_));refine bP rfl (.inr rfl) (fQ rfl m1 tyT rfl) ?_;exact congrArg vS6 (show _=(bL a b) from aN h9 (bE h11 rfl))
 refine go_ ?_;refine rX (sk (sd (sk (sk (s0))))) 8 [7] [7] (go2 ?_);refine pC (AV [pI (E (Z.quo a.dec (Z.gcd a.dec b.dec)))]) aJ (gS a.1 (E (Z.gcd a.dec b.dec)).1 a.2 (E (Z.gcd a.dec b.dec)).2) rfl rfl (cg2 (fun p q=>AV [pI (E (Z.quo p q))]) rfl (cZ _)) (go2 ?_);refine pC (AV [pI (E (Z.quo b.dec (Z.gcd a.dec b.dec)))]) aJ (gS b.1 (E (Z.gcd a.dec b.dec)).1 b.2 (E (Z.gcd a.dec b.dec)).2) rfl rfl (cg2 (fun p q=>AV [pI (E (Z.quo p q))]) rfl (cZ _)) (pQ rfl (oW zpT plT rfl (.cons [pI (E (Z.quo a.dec (Z.gcd a.dec b.dec)))] [pI (E (Z.quo a.dec (Z.gcd a.dec b.dec))),pI I0] rfl rfl rfl rfl (.cons [pI (E (Z.quo b.dec (Z.gcd a.dec b.dec)))] [pI (E (Z.quo a.dec (Z.gcd a.dec b.dec))),pI (E (Z.quo b.dec (Z.gcd a.dec b.dec)))] rfl rfl rfl rfl (.nil _)))) (go3 ?_));refine bP rfl (.inr rfl) (fQ rfl m1 tyT rfl) ?_;exact congrArg vS6 (show _=(bL a b) from aN h9 (aN h11 rfl))
theorem j8 (a:W) :
    Ret prog 40 [.int .i64 a.1] (AV [pI ((gV a).n),pI ((gV a).d)]):=by
 refine cL (N:=7) func40 rfl rfl (by simp) (fun w0=>?_);simp only [bS,Nat.reduceAdd];refine go2 ?_;intro b1 hb1;refine go3 ?_;refine sC (AV [pI (E (Z.of a.1))]) aJ (dY a.1 a.2) rfl rfl rfl (sQ (bZ aJ pO  rfl) rfl ?_);obtain ⟨r2,hr2⟩:=nm ((bL (E (Z.of a.1)) F_skewbackref04_one):Rt);refine sC (AV [pI r2.n,pI r2.d]) aJ (kG (E (Z.of a.1)) F_skewbackref04_one) rfl rfl (by rw [hr2]) (go3 ?_);refine bP rfl (.inr rfl) (fQ rfl m0 tyT rfl) ?_;exact (by subst hr2;rfl)
theorem nF (a:W) (b:W) :
    Ret prog 30 [.int .i64 a.1,.int .i64 b.1] (AV [pI ((fU a b).n),pI ((fU a b).d)]):=by
 refine cL (N:=10) func30 rfl rfl (by simp) (fun w0=>?_);simp only [bS,Nat.reduceAdd];refine go2 ?_;intro b1 hb1;refine go3 ?_;refine sC (AV [pI (E (Z.of a.1))]) aJ (dY a.1 a.2) rfl rfl rfl (go_ ?_);refine sC (AV [pI (E (Z.of b.1))]) aJ (dY b.1 b.2) rfl rfl rfl ?_;obtain ⟨r2,hr2⟩:=nm ((bL (E (Z.of a.1)) (E (Z.of b.1))):Rt);refine sC (AV [pI r2.n,pI r2.d]) aJ (kG (E (Z.of a.1)) (E (Z.of b.1))) rfl rfl (by rw [hr2]) (go3 ?_);refine bP rfl (.inr rfl) (fQ rfl m0 tyT rfl) ?_;exact (by subst hr2;rfl)
theorem i4 (a:Rt) :
    Ret prog 64 [AV [pI a.n,pI a.d]] (.bool (aZ a)):=by
 refine cL (N:=26) func64 rfl rfl (by simp) (fun w0=>?_);simp only [bS,Nat.reduceAdd];refine go2 ?_;intro b1 hb1;refine go3 ?_;refine gJv [3,4,5,6,7,8,9,10,11,12] [(12,.bool (!a.n.1.good||(!a.d.1.good)))] (fun K2 J2=>?_) ?_
 ·refine go3 ?_;refine sC (.bool a.n.1.good) aJ (cF a.n.1 a.n.2) rfl rfl rfl (go_ ?_);rcases bt a.n.1.good with h3 | h3
  ·refine sB (gG h3) rfl (go2 ?_);refine sC (.bool a.d.1.good) aJ (cF a.d.1 a.d.2) rfl rfl rfl (go3 ?_);refine J2 _ _ pp_ s0 (bI (lE h3 rfl))
  refine sB (gD h3) rfl (go6 ?_);refine J2 _ _ pp_ s0 (bI (nI h3))
 intro g4;refine aT _ rfl (fun h5=>?_) (fun h5=>?_)
 ·refine go4 ?_;refine bP rfl (.inr rfl) rfl ?_;exact congrArg vS0 (show _=(aZ a) from bE h5 rfl)
 refine go_ ?_;refine gJv [2,13,14,15,16,17,18,19,20,21,22,23,24,25] [(2,.bool (decide (0<(Z.signW a.d.dec).1)&&decide ((E (Z.gcd a.n.dec a.d.dec))=F_skewbackref04_one)))] (fun K3 J3=>?_) ?_
 ·refine go3 ?_;refine sC (.int .i64 ((Z.signW a.d.dec).1)) aJ (eT a.d.1 a.d.2) rfl rfl rfl (go_ ?_);refine sBB rfl (fun h7=>?_) (fun h7=>?_)
  ·refine go4 ?_;refine sC (AV [pI (E (Z.gcd a.n.dec a.d.dec))]) aJ (mD a.n.1 a.d.1 a.n.2 a.d.2) rfl rfl rfl (sQ (bZ aJ pO  rfl) rfl ?_);refine sQ (xI (r:=decide ((E (Z.gcd a.n.dec a.d.dec))=F_skewbackref04_one)) rfl rfl (oA 8 dd_ TS UJ (oT jU) (oT jU) (uR pU))) rfl (go3 ?_);refine J3 _ _ pp_ s0 (bI (cU h7 rfl))
  refine oS ?_;refine J3 _ _ pp_ s0 (bI (iQ h7))
 intro g8;refine go_ ?_;refine bP rfl (.inr rfl) rfl ?_;exact congrArg vS0 (show _=(aZ a) from aN h5 rfl)
theorem tR (a:Rt) (b:Bool) :
    Ret prog 66 [AV [pI a.n,pI a.d],.bool b] (AV [pI (fV a b)]):=by
 refine cL (N:=8) func66 rfl rfl (by simp) (fun w0=>?_);simp only [bS,Nat.reduceAdd];refine go2 ?_;intro b1 hb1;refine go_ ?_;intro b2 hb2;refine go5 ?_;refine aT _ rfl (fun h3=>?_) (fun h3=>?_)
 ·refine go_ ?_;refine sC (AV [pI (E (Z.of 0))]) aJ (dY (wl 0).1 (wl 0).2) rfl rfl rfl ?_;refine go3 ?_;refine bP rfl (.inr rfl) (fQ rfl m0 tyT rfl) ?_;exact congrArg vS2 (show _=(fV a b) from bE h3 rfl)
 refine go2 ?_;refine sC (AV [pI (E Z.bad)]) aJ eB rfl rfl rfl (go3 ?_);refine bP rfl (.inr rfl) (fQ rfl m0 tyT rfl) ?_;exact congrArg vS2 (show _=(fV a b) from aN h3 rfl)
theorem z4 (va:Value) (n k:Nat) (hk:k≤1000000) (w:World) (hva:Sl w va (dl n)) :
    Calls prog 85 [va,.int .i64 (k:Int)].toArray w (fun e w'=>e = .returned (.int .i64 ((n / 2 ^ k % 2:Nat):Int))∧Ext w w'):=by
 refine cT (N:=13) func85 rfl rfl (by simp) ?_;obtain ⟨w0,rfl⟩:∃ w0,w0=w:=⟨_,rfl⟩;simp only [bS,Nat.reduceAdd];refine go6 ?_;refine sQ (aV (tL rfl rfl dd_) (congrArg (Value.int .i64) (shq 16 dd_ oo_))) rfl (sQ (aV (bN aJ rfl (fun w hw=>gR va (dl n) (k / 16) w (SL.sl (M:=_) hva.old hw))) (congrArg (fun z:Nat=>Value.int .i64 (z:Int)) (BH n (k / 16)))) rfl (go_ ?_));refine sQ (aV (t7 rfl rfl dd_) (congrArg (Value.int .i64) (shr 16 k))) rfl (sQ (u5 rfl rfl (Int.natCast_nonneg _)) rfl (sQ (aV (t7 rfl rfl dd_) (congrArg (Value.int .i64) (bu_ n k))) rfl (go3 ?_)));refine bP rfl (.inr rfl) rfl ?_;exact rfl
theorem jL (a:R) (ha:a.Ok) :
    Ret prog 38 [RV a] (.int .i64 ((a.dec.bits:Nat):Int)):=by
 refine cL (N:=25) func38 rfl rfl (by simp) (fun w0=>?_);simp only [bS,Nat.reduceAdd];refine go_ ?_;refine bJ rfl (kC rfl rfl (fun b1 hb1=>go4 ?_));refine sQ (dF tyT rfl mm_ (dQ ha)) rfl ?_;refine sQ (bZ aJ (cF a ha) rfl) rfl (go2 ?_);refine aT _ rfl (fun hg=>?_) (fun hg=>?_)
 ·replace hg:=cB_ hg
  refine go4 ?_;refine bP rfl (.inr rfl) rfl ?_;exact congrArg (fun z:Nat=>Value.int .i64 (z:Int)) (X7 (by simpa using hg)).symm
 replace hg:=cB_ hg
 refine go2 ?_;refine sQ (dF tyT rfl mm_ (dQ ha)) rfl ?_;refine bJ rfl (fS aJ rfl (fun w hw=>cE a ha w) (fun v L hv=>go3 ?_));have hl32:(dl (val a.w)).length≤32:=iV (by rw [← II];have:=xJ a.w ha.lim;rwa [ha.len] at this);refine go_ ?_;refine sQ (m8 kR rfl (SL.sub hv.sl lZ)) rfl (sQ (aV (UW rfl rfl) (congrArg (Value.int .i64) (fG_ (Nat.le_trans hl32 dd_)))) rfl (go4 ?_));refine cO [4,13,14,15,16,17,18,19,20,21,22,23] (fun g nn M=>∃ (k:Nat),(g 4 = .int .i64 (k:Int))∧M=L ++ [⟨b1,27,a.cells⟩]∧nn=k+0∧(k≤16 * (dl (val a.w)).length∧val a.w<2 ^ k)) (16 * (dl (val a.w)).length) ?start ?round
 case start =>
  refine ⟨_,(List.Sublist.refl _),16 * (dl (val a.w)).length,?a4,?mem0,rfl,⟨Nat.le_refl _,RQ _⟩⟩
  case mem0=>rfl
  case a4=>rfl
 case round =>
  rintro nn g M ⟨k,hg4,rfl,hmeas,⟨hk,hlt⟩⟩;subst nn;simp only [eO,hg4];clear hg4;refine go5 ?_
  cases hz:decide ((0:Int)<(k:Int))
  ·refine HW ?_;refine bP rfl (.inr rfl) rfl ?_;exact congrArg (fun z:Nat=>Value.int .i64 (z:Int)) (bv_ ha (by simpa using hg) hlt (by have:=of_decide_eq_false hz;omega)).symm
  have hz':=of_decide_eq_true hz;obtain ⟨m,rfl⟩:∃ m,k=m+1:=⟨k - 1,by omega⟩;refine go2 ?_;refine sQ (aV (oD rfl rfl) (congrArg (Value.int .i64) (xX oo_))) rfl (sQ (bN aJ rfl (fun w hw=>z4 v (val a.w) m oo_ w (SL.sl (SL.sub hv.sl lZ) hw))) rfl (go3 ?_));refine aT _ rfl (fun h0=>?_) (fun h0=>?_)
  ·replace h0:=cB_ h0
   refine go4 ?_;refine sQ (aV (oD rfl rfl) (congrArg (Value.int .i64) (xX oo_))) rfl (go2 ?_);refine ⟨pp_,_,_,(List.Sublist.refl _),oo_,m,?s4,?mem,rfl,⟨by omega,VV hlt oo_⟩⟩
   case mem=>rfl
   case s4=>rfl
  replace h0:=cB_ h0
  refine go6 ?_;refine bP rfl (.inr rfl) rfl ?_;exact congrArg (fun z:Nat=>Value.int .i64 (z:Int)) ((KL ha (by simpa using hg)).trans (bw_ hlt oo_)).symm
end Go.Proofs.YtokjfhfiodopdaaGreat
