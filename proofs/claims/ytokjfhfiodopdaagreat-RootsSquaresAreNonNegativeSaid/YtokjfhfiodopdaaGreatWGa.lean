/- Lemmas: what they ask stands in their statements. -/
import Derived.Test.YtokjfhfiodopdaaGreatWWh
set_option linter.unusedSimpArgs false
set_option linter.unusedVariables false
set_option maxHeartbeats 8000000
set_option maxRecDepth 20000
namespace Go.Proofs.YtokjfhfiodopdaaGreat
open Go.Kn Go.Num Tryz
attribute [local irreducible] Go.Kn.W WL PL OpQ OpR OpS
theorem AF  :
    Ret prog 175 [] (AV [pI F_ratio_one]):=by
 refine bT (N:=2) func175 rfl rfl (by simp) (fun w0=>?_);simp only [bK,Nat.reduceAdd];obtain ⟨q0,hq0⟩:=nm ((E (Z.of 1)):I);refine go2 ?_;intro b1 hb1;refine go2 ?_;refine sC (AV [pI q0]) aJ (gF (wl 1).1 (wl 1).2) rfl rfl (by subst hq0;rfl) ?_;refine go3 ?_;refine bG rfl (.inr rfl) (gT rfl m0 tyT rfl) ?_;exact (by obtain rfl:=hq0.symm;rfl)
theorem mD  :
    Ret prog 158 [] (AV [pI qT.n,pI qT.d]):=by
 refine bT (N:=4) func158 rfl rfl (by simp) (fun w0=>?_);simp only [bK,Nat.reduceAdd];obtain ⟨q0,hq0⟩:=nm ((E Z.bad):I);obtain ⟨q1,hq1⟩:=nm (F_ratio_one:I);refine go2 ?_;intro b1 hb1;refine go2 ?_;refine sC (AV [pI q0]) aJ iQ rfl rfl (by subst hq0;rfl) (sC (AV [pI q1]) aJ AF rfl rfl (by subst hq1;rfl) (go4 ?_));refine bG rfl (.inr rfl) (gT rfl m0 tyT rfl) ?_;exact (by subst_vars;rfl)
theorem rU (a:I) :
    Ret prog 174 [AV [pI a]] (.bool (j4 a)):=by
 refine bT (N:=10) func174 rfl rfl (by simp) (fun w0=>?_);simp only [bK,Nat.reduceAdd];refine go2 ?_;intro b1 hb1;refine go2 ?_;refine gJv [2,3,4,5,6,7,8,9] [(2,.bool (!a.1.bad&&a.1.valid))] (fun K1 J1=>?_) ?_
 ·refine go4 ?_;rcases bt a.1.bad with h3 | h3
  ·refine sB (fY h3) rfl (go5 ?_);refine J1 _ _ pp_ s0 (aZ (w6 h3))
  refine sB (fP h3) rfl (go_ ?_);refine sC (.bool a.1.valid) aJ (tT a.1 a.2) rfl rfl rfl (go3 ?_);refine J1 _ _ pp_ s0 (aZ (pX h3 rfl))
 intro g4;refine go_ ?_;refine bG rfl (.inr rfl) rfl ?_;exact (by rfl)
theorem lJ (a:Rt) :
    Ret prog 141 [AV [pI a.n,pI a.d]] (.bool (cG a)):=by
 refine bT (N:=26) func141 rfl rfl (by simp) (fun w0=>?_);simp only [bK,Nat.reduceAdd];refine go2 ?_;intro b1 hb1;refine go2 ?_;refine gJv [2,3,4,5,6,7,8,9,10,11,12,13,14,15,16,17,18,19,20,21,22,23,24,25] [(2,.bool ((j4 a.n)&&((j4 a.d)&&(decide (0<(Z.signW a.d.dec).1)&&decide ((E (Z.gcd a.n.dec a.d.dec))=F_ratio_one)))))] (fun K1 J1=>?_) ?_
 ·refine go3 ?_;refine sQ (bM aJ (rU a.n) rfl) rfl ?_;refine sBB rfl (fun h5=>?_) (fun h5=>?_)
  ·refine go2 ?_;refine sQ (bM aJ (rU a.d) rfl) rfl (go_ ?_);refine sBB rfl (fun h6=>?_) (fun h6=>?_)
   ·refine go2 ?_;refine sC (.int .i64 ((Z.signW a.d.dec).1)) aJ (gM a.d.1 a.d.2) rfl rfl rfl (go2 ?_);refine sBB rfl (fun h7=>?_) (fun h7=>?_)
    ·refine go4 ?_;refine sC (AV [pI (E (Z.gcd a.n.dec a.d.dec))]) aJ (tG a.n.1 a.d.1 a.n.2 a.d.2) rfl rfl rfl (sQ (bM aJ AF  rfl) rfl ?_);refine sQ (uR (r:=decide ((E (Z.gcd a.n.dec a.d.dec))=F_ratio_one)) rfl rfl (mQ 8 dd_ R0 SQ (mY iV) (mY iV) (rI nX))) rfl (go3 ?_);refine J1 _ _ pp_ s0 (aZ (bW h5 (bW h6 (bW h7 rfl))))
    refine pO ?_;refine J1 _ _ pp_ s0 (aZ (bW h5 (bW h6 (hJ h7))))
   refine a2_ ?_;refine J1 _ _ pp_ s0 (aZ (bW h5 (hJ h6)))
  refine a3_ ?_;refine J1 _ _ pp_ s0 (aZ (hJ h5))
 intro g8;refine go_ ?_;refine bG rfl (.inr rfl) rfl ?_;exact (by rfl)
theorem pA (a:I) (b:I) :
    Ret prog 159 [AV [pI a],AV [pI b]] (AV [pI ((cP a b).n),pI ((cP a b).d)]):=by
 refine bT (N:=35) func159 rfl rfl (by simp) (fun w0=>?_);simp only [bK,Nat.reduceAdd];refine go2 ?_;intro b1 hb1;refine go_ ?_;intro b2 hb2;refine go_ ?_;intro b3 hb3;refine go2 ?_;refine gJv [6,7,8,9,10,11,12,13,14,15,16,17,18] [(18,.bool (!(j4 a)||(!(j4 b)||((Z.signW b.dec).1==0))))] (fun K2 J2=>?_) ?_
 ·refine go2 ?_;refine sQ (bM aJ (rU a) rfl) rfl (go_ ?_);rcases bt (j4 a) with h6 | h6
  ·refine sB (fY h6) rfl (go_ ?_);refine sQ (bM aJ (rU b) rfl) rfl (go2 ?_);rcases bt (j4 b) with h7 | h7
   ·refine sB (fY h7) rfl (go_ ?_);refine sC (.int .i64 ((Z.signW b.dec).1)) aJ (gM b.1 b.2) rfl rfl rfl (go3 ?_);refine J2 _ _ pp_ s0 (aZ (jC h6 (jC h7 rfl)))
   refine sB (fP h7) rfl (go5 ?_);refine J2 _ _ pp_ s0 (aZ (jC h6 (mI h7)))
  refine sB (fP h6) rfl (pO ?_);refine J2 _ _ pp_ s0 (aZ (mI h6))
 intro g8;refine aQ _ rfl (fun h9=>?_) (fun h9=>?_)
 ·refine go_ ?_;refine sQ (bM aJ mD  rfl) rfl (go3 ?_);refine bG rfl (.inr rfl) (gT rfl m0 tyT rfl) ?_;exact congrArg vS6 (show _=(cP a b) from aW h9 rfl)
 refine go4 ?_;refine sC (AV [pI (E (Z.gcd a.dec b.dec))]) aJ (tG a.1 b.1 a.2 b.2) rfl rfl rfl (go_ ?_);intro b10 hb10;refine go5 ?_;refine sC (.int .i64 ((Z.signW b.dec).1)) aJ (gM b.1 b.2) rfl rfl rfl (go2 ?_);refine aQ _ rfl (fun h11=>?_) (fun h11=>?_)
 ·refine go2 ?_;refine sC (AV [pI (E (Z.neg (Z.gcd a.dec b.dec)))]) aJ (vR (E (Z.gcd a.dec b.dec)).1 (E (Z.gcd a.dec b.dec)).2) rfl rfl (cg1 (fun p=>AV [pI (E (Z.neg p))]) (bZ _)) (go2 ?_);refine rD (sk (sd (sk (sk (s0))))) 8 [7] [7] (go2 ?_);refine pC (AV [pI (E (Z.quo a.dec (Z.neg (Z.gcd a.dec b.dec))))]) aJ (jL a.1 (E (Z.neg (Z.gcd a.dec b.dec))).1 a.2 (E (Z.neg (Z.gcd a.dec b.dec))).2) rfl rfl (cg2 (fun p q=>AV [pI (E (Z.quo p q))]) rfl (bZ _)) (go2 ?_);refine pC (AV [pI (E (Z.quo b.dec (Z.neg (Z.gcd a.dec b.dec))))]) aJ (jL b.1 (E (Z.neg (Z.gcd a.dec b.dec))).1 b.2 (E (Z.neg (Z.gcd a.dec b.dec))).2) rfl rfl (cg2 (fun p q=>AV [pI (E (Z.quo p q))]) rfl (bZ _)) (pQ rfl (m6 zpT plT rfl (.cons [pI (E (Z.quo a.dec (Z.neg (Z.gcd a.dec b.dec))))] [pI (E (Z.quo a.dec (Z.neg (Z.gcd a.dec b.dec)))),pI I0] rfl rfl rfl rfl (.cons [pI (E (Z.quo b.dec (Z.neg (Z.gcd a.dec b.dec))))] [pI (E (Z.quo a.dec (Z.neg (Z.gcd a.dec b.dec)))),pI (E (Z.quo b.dec (Z.neg (Z.gcd a.dec b.dec))))] rfl rfl rfl rfl (.nil _)))) (go3 ?_));refine bG rfl (.inr rfl) (gT rfl m1 tyT rfl) ?_;exact congrArg vS6 (show _=(cP a b) from aM h9 (aW h11 rfl))
 refine go_ ?_;refine rD (sk (sd (sk (sk (s0))))) 8 [7] [7] (go2 ?_);refine pC (AV [pI (E (Z.quo a.dec (Z.gcd a.dec b.dec)))]) aJ (jL a.1 (E (Z.gcd a.dec b.dec)).1 a.2 (E (Z.gcd a.dec b.dec)).2) rfl rfl (cg2 (fun p q=>AV [pI (E (Z.quo p q))]) rfl (bZ _)) (go2 ?_);refine pC (AV [pI (E (Z.quo b.dec (Z.gcd a.dec b.dec)))]) aJ (jL b.1 (E (Z.gcd a.dec b.dec)).1 b.2 (E (Z.gcd a.dec b.dec)).2) rfl rfl (cg2 (fun p q=>AV [pI (E (Z.quo p q))]) rfl (bZ _)) (pQ rfl (m6 zpT plT rfl (.cons [pI (E (Z.quo a.dec (Z.gcd a.dec b.dec)))] [pI (E (Z.quo a.dec (Z.gcd a.dec b.dec))),pI I0] rfl rfl rfl rfl (.cons [pI (E (Z.quo b.dec (Z.gcd a.dec b.dec)))] [pI (E (Z.quo a.dec (Z.gcd a.dec b.dec))),pI (E (Z.quo b.dec (Z.gcd a.dec b.dec)))] rfl rfl rfl rfl (.nil _)))) (go3 ?_));refine bG rfl (.inr rfl) (gT rfl m1 tyT rfl) ?_;exact congrArg vS6 (show _=(cP a b) from aM h9 (aM h11 rfl))
theorem HV (a:Rt) :
    Ret prog 167 [AV [pI a.n,pI a.d]] (AV [pI ((nW a).n),pI ((nW a).d)]):=by
 refine bT (N:=13) func167 rfl rfl (by simp) (fun w0=>?_);simp only [bK,Nat.reduceAdd];refine go2 ?_;intro b1 hb1;refine go_ ?_;intro b2 hb2;refine go4 ?_;refine sQ (bM aJ (lJ a) rfl) rfl (go2 ?_);rcases bt (cG a) with h3 | h3
 ·refine W_f (fY h3) rfl (go_ ?_);refine rD (sd (sk (s0))) 7 [6] [6] (go2 ?_);refine pC (AV [pI (E (Z.neg a.n.dec))]) aJ (vR a.n.1 a.n.2) rfl rfl rfl (go2 ?_);refine pQ rfl (m6 zpT plT rfl (.cons [pI (E (Z.neg a.n.dec))] [pI (E (Z.neg a.n.dec)),pI I0] rfl rfl rfl rfl (.cons [pI a.d] [pI (E (Z.neg a.n.dec)),pI a.d] rfl rfl rfl rfl (.nil _)))) (go3 ?_);refine bG rfl (.inr rfl) (gT rfl m0 tyT rfl) ?_;exact congrArg vS6 (show _=(nW a) from aW h3 rfl)
 refine W_t (fP h3) rfl (go_ ?_);refine sQ (bM aJ mD  rfl) rfl (go3 ?_);refine bG rfl (.inr rfl) (gT rfl m0 tyT rfl) ?_;exact congrArg vS6 (show _=(nW a) from aM h3 rfl)
theorem AE (a:Rt) (b:Rt) :
    Ret prog 106 [AV [pI a.n,pI a.d],AV [pI b.n,pI b.d]] (AV [pI ((lG a b).n),pI ((lG a b).d)]):=by
 refine bT (N:=44) func106 rfl rfl (by simp) (fun w0=>?_);simp only [bK,Nat.reduceAdd];refine go2 ?_;intro b1 hb1;refine go_ ?_;intro b2 hb2;refine go_ ?_;intro b3 hb3;refine go2 ?_;refine gJv [8,9,10,11,12,13,14,15] [(15,.bool (!(cG a)||(!(cG b))))] (fun K2 J2=>?_) ?_
 ·refine go2 ?_;refine sQ (bM aJ (lJ a) rfl) rfl (go_ ?_);rcases bt (cG a) with h5 | h5
  ·refine sB (fY h5) rfl (go_ ?_);refine sQ (bM aJ (lJ b) rfl) rfl (go3 ?_);refine J2 _ _ pp_ s0 (aZ (jC h5 rfl))
  refine sB (fP h5) rfl (go5 ?_);refine J2 _ _ pp_ s0 (aZ (mI h5))
 intro g6;refine aQ _ rfl (fun h7=>?_) (fun h7=>?_)
 ·refine go_ ?_;refine sQ (bM aJ mD  rfl) rfl (go3 ?_);refine bG rfl (.inr rfl) (gT rfl m0 tyT rfl) ?_;exact congrArg vS6 (show _=(lG a b) from aW h7 rfl)
 refine go6 ?_;refine sC (AV [pI (E (Z.gcd a.d.dec b.d.dec))]) aJ (tG a.d.1 b.d.1 a.d.2 b.d.2) rfl rfl rfl (go_ ?_);intro b8 hb8;refine go2 ?_;refine gDs (sk (sk (sk (sk (s0))))) (.quiet 0 [1,3,7,10,11] (.quiet 1 [3,7,10,11] (.quiet 2 [3,7,10,11] (.quiet 3 [7,10,11] (.quiet 4 [5,7,10,11] (.quiet 5 [7,10,11] (.quiet 6 [7,10,11] (.quiet 7 [10,11] (.both 8 (.only 9 (.only 10 (.only 11 (.fin)))) 9 (.only 8 (.only 10 (.only 11 (.fin))))))))))))) [0,1,2,3,4,5,6,7,8,9] mix (by kernel_rfl) (by kernel_rfl) (go3 ?_);refine pC (AV [pI (E (Z.quo a.d.dec (Z.gcd a.d.dec b.d.dec)))]) aJ (jL a.d.1 (E (Z.gcd a.d.dec b.d.dec)).1 a.d.2 (E (Z.gcd a.d.dec b.d.dec)).2) rfl rfl (cg2 (fun p q=>AV [pI (E (Z.quo p q))]) rfl (bZ _)) (go3 ?_);refine pC (AV [pI (E (Z.quo b.d.dec (Z.gcd a.d.dec b.d.dec)))]) aJ (jL b.d.1 (E (Z.gcd a.d.dec b.d.dec)).1 b.d.2 (E (Z.gcd a.d.dec b.d.dec)).2) rfl rfl (cg2 (fun p q=>AV [pI (E (Z.quo p q))]) rfl (bZ _)) ?_;refine HP ?_ ?_
 ·refine fM rfl rfl (iB zpT (fun b9 hb9=>⟨(fun _=>sd s0),(sd s0),?_⟩));refine fM rfl rfl (iB zpT (fun b10 hb10=>⟨(fun _=>sd s0),(sd (sd s0)),?_⟩));refine go3 ?_;refine gds (sk (sk (sk (sd (sk (sk (s0))))))) [0,4,8,12,16,20,24,28,32,36,40,44,48,52,57] [14] mix (by kernel_rfl) (go3 ?_);refine pC (AV [pI (E (Z.mul a.n.dec (Z.quo b.d.dec (Z.gcd a.d.dec b.d.dec))))]) aJ (dV a.n.1 (E (Z.quo b.d.dec (Z.gcd a.d.dec b.d.dec))).1 a.n.2 (E (Z.quo b.d.dec (Z.gcd a.d.dec b.d.dec))).2) rfl rfl (cg2 (fun p q=>AV [pI (E (Z.mul p q))]) rfl (bZ _)) (go3 ?_);refine pC (AV [pI (E (Z.mul b.n.dec (Z.quo a.d.dec (Z.gcd a.d.dec b.d.dec))))]) aJ (dV b.n.1 (E (Z.quo a.d.dec (Z.gcd a.d.dec b.d.dec))).1 b.n.2 (E (Z.quo a.d.dec (Z.gcd a.d.dec b.d.dec))).2) rfl rfl (cg2 (fun p q=>AV [pI (E (Z.mul p q))]) rfl (bZ _)) ?_;obtain ⟨r11,hr11⟩:=nm ((E (Z.add (Z.mul a.n.dec (Z.quo b.d.dec (Z.gcd a.d.dec b.d.dec))) (Z.mul b.n.dec (Z.quo a.d.dec (Z.gcd a.d.dec b.d.dec))))):I);refine pC (AV [pI r11]) aJ (nL (E (Z.mul a.n.dec (Z.quo b.d.dec (Z.gcd a.d.dec b.d.dec)))).1 (E (Z.mul b.n.dec (Z.quo a.d.dec (Z.gcd a.d.dec b.d.dec)))).1 (E (Z.mul a.n.dec (Z.quo b.d.dec (Z.gcd a.d.dec b.d.dec)))).2 (E (Z.mul b.n.dec (Z.quo a.d.dec (Z.gcd a.d.dec b.d.dec)))).2) rfl rfl ((cg2 (fun p q=>AV [pI (E (Z.add p q))]) (bZ _) (bZ _)).trans (by rw [hr11])) (go3 ?_);refine pC (AV [pI (E (Z.mul (Z.quo a.d.dec (Z.gcd a.d.dec b.d.dec)) b.d.dec))]) aJ (dV (E (Z.quo a.d.dec (Z.gcd a.d.dec b.d.dec))).1 b.d.1 (E (Z.quo a.d.dec (Z.gcd a.d.dec b.d.dec))).2 b.d.2) rfl rfl (cg2 (fun p q=>AV [pI (E (Z.mul p q))]) (bZ _) rfl) ?_;obtain ⟨r12,hr12⟩:=nm ((cP r11 (E (Z.mul (Z.quo a.d.dec (Z.gcd a.d.dec b.d.dec)) b.d.dec))):Rt);refine pC (AV [pI r12.n,pI r12.d]) aJ (pA r11 (E (Z.mul (Z.quo a.d.dec (Z.gcd a.d.dec b.d.dec)) b.d.dec))) rfl rfl (by rw [hr12]) (go3 ?_);refine bG rfl (.inr rfl) (gT rfl m3 tyT rfl) ?_
  subst_vars;exact congrArg vS6 (show _=(lG a b) from aM h7 rfl)
 refine fM rfl rfl (iB zpT (fun b13 hb13=>⟨(fun _=>sd s0),(sd s0),?_⟩));refine fM rfl rfl (iB zpT (fun b14 hb14=>⟨(fun _=>sd s0),(sd (sd s0)),?_⟩));refine go3 ?_;refine gds (sk (sk (sk (sd (sk (sk (s0))))))) [0,4,8,12,16,20,24,28,32,36,40,44,48,52,57] [14] mix (by kernel_rfl) (go3 ?_);refine pC (AV [pI (E (Z.mul a.n.dec (Z.quo b.d.dec (Z.gcd a.d.dec b.d.dec))))]) aJ (dV a.n.1 (E (Z.quo b.d.dec (Z.gcd a.d.dec b.d.dec))).1 a.n.2 (E (Z.quo b.d.dec (Z.gcd a.d.dec b.d.dec))).2) rfl rfl (cg2 (fun p q=>AV [pI (E (Z.mul p q))]) rfl (bZ _)) (go3 ?_);refine pC (AV [pI (E (Z.mul b.n.dec (Z.quo a.d.dec (Z.gcd a.d.dec b.d.dec))))]) aJ (dV b.n.1 (E (Z.quo a.d.dec (Z.gcd a.d.dec b.d.dec))).1 b.n.2 (E (Z.quo a.d.dec (Z.gcd a.d.dec b.d.dec))).2) rfl rfl (cg2 (fun p q=>AV [pI (E (Z.mul p q))]) rfl (bZ _)) ?_;obtain ⟨r15,hr15⟩:=nm ((E (Z.add (Z.mul a.n.dec (Z.quo b.d.dec (Z.gcd a.d.dec b.d.dec))) (Z.mul b.n.dec (Z.quo a.d.dec (Z.gcd a.d.dec b.d.dec))))):I);refine pC (AV [pI r15]) aJ (nL (E (Z.mul a.n.dec (Z.quo b.d.dec (Z.gcd a.d.dec b.d.dec)))).1 (E (Z.mul b.n.dec (Z.quo a.d.dec (Z.gcd a.d.dec b.d.dec)))).1 (E (Z.mul a.n.dec (Z.quo b.d.dec (Z.gcd a.d.dec b.d.dec)))).2 (E (Z.mul b.n.dec (Z.quo a.d.dec (Z.gcd a.d.dec b.d.dec)))).2) rfl rfl ((cg2 (fun p q=>AV [pI (E (Z.add p q))]) (bZ _) (bZ _)).trans (by rw [hr15])) (go3 ?_);refine pC (AV [pI (E (Z.mul (Z.quo a.d.dec (Z.gcd a.d.dec b.d.dec)) b.d.dec))]) aJ (dV (E (Z.quo a.d.dec (Z.gcd a.d.dec b.d.dec))).1 b.d.1 (E (Z.quo a.d.dec (Z.gcd a.d.dec b.d.dec))).2 b.d.2) rfl rfl (cg2 (fun p q=>AV [pI (E (Z.mul p q))]) (bZ _) rfl) ?_;obtain ⟨r16,hr16⟩:=nm ((cP r15 (E (Z.mul (Z.quo a.d.dec (Z.gcd a.d.dec b.d.dec)) b.d.dec))):Rt);refine pC (AV [pI r16.n,pI r16.d]) aJ (pA r15 (E (Z.mul (Z.quo a.d.dec (Z.gcd a.d.dec b.d.dec)) b.d.dec))) rfl rfl (by rw [hr16]) (go3 ?_);refine bG rfl (.inr rfl) (gT rfl m3 tyT rfl) ?_
 subst_vars;exact congrArg vS6 (show _=(lG a b) from aM h7 rfl)
theorem HW (a:Rt) (b:Rt) :
    Ret prog 114 [AV [pI a.n,pI a.d],AV [pI b.n,pI b.d]] (AV [pI ((gS a b).n),pI ((gS a b).d)]):=by
 refine bT (N:=9) func114 rfl rfl (by simp) (fun w0=>?_);simp only [bK,Nat.reduceAdd];refine go2 ?_;intro b1 hb1;refine go_ ?_;intro b2 hb2;refine go_ ?_;intro b3 hb3;refine go_ ?_;refine rD (sd (sk (sk (s0)))) 5 [4] [4] (go2 ?_);refine pQ rfl (bM aJ (HV b) rfl) (pQ rfl (bM aJ (AE a (nW b)) rfl) (go3 ?_));refine bG rfl (.inr rfl) (gT rfl m0 tyT rfl) ?_;exact (by rfl)
theorem HU (a:Rt) (b:Rt) :
    Ret prog 105 [AV [pI a.n,pI a.d],AV [pI b.n,pI b.d]] (AV [pI ((jG a b).n),pI ((jG a b).d)]):=by
 refine bT (N:=48) func105 rfl rfl (by simp) (fun w0=>?_);simp only [bK,Nat.reduceAdd];refine go2 ?_;intro b1 hb1;refine go_ ?_;intro b2 hb2;refine go_ ?_;intro b3 hb3;refine go2 ?_;refine gJv [9,10,11,12,13,14,15,16] [(16,.bool (!(cG a)||(!(cG b))))] (fun K2 J2=>?_) ?_
 ·refine go2 ?_;refine sQ (bM aJ (lJ a) rfl) rfl (go_ ?_);rcases bt (cG a) with h5 | h5
  ·refine sB (fY h5) rfl (go_ ?_);refine sQ (bM aJ (lJ b) rfl) rfl (go3 ?_);refine J2 _ _ pp_ s0 (aZ (jC h5 rfl))
  refine sB (fP h5) rfl (go5 ?_);refine J2 _ _ pp_ s0 (aZ (mI h5))
 intro g6;refine aQ _ rfl (fun h7=>?_) (fun h7=>?_)
 ·refine go_ ?_;refine sQ (bM aJ mD  rfl) rfl (go3 ?_);refine bG rfl (.inr rfl) (gT rfl m0 tyT rfl) ?_;exact congrArg vS6 (show _=(jG a b) from aW h7 rfl)
 refine go_ ?_;refine gDs (sk (sk (sk (s0)))) (.quiet 0 [1,4,9,12,13] (.quiet 1 [4,9,12,13] (.quiet 2 [3,4,9,12,13] (.quiet 3 [4,9,12,13] (.quiet 4 [9,12,13] (.quiet 5 [6,9,12,13] (.quiet 6 [9,12,13] (.quiet 7 [8,9,12,13] (.quiet 8 [9,12,13] (.quiet 9 [12,13] (.both 10 (.only 11 (.only 12 (.only 13 (.fin)))) 11 (.only 10 (.only 12 (.only 13 (.fin))))))))))))))) [0,1,2,3,4,5,6,7,8,9,10,11] mix (by kernel_rfl) (by kernel_rfl) (go4 ?_);refine pQ rfl (bM aJ (pA a.n b.d) rfl) (go4 ?_);refine pQ rfl (bM aJ (pA b.n a.d) rfl) ?_;refine HP ?_ ?_
 ·refine fM rfl rfl (iB zpT (fun b8 hb8=>⟨(fun _=>sd s0),(sd s0),?_⟩));refine fM rfl rfl (iB zpT (fun b9 hb9=>⟨(fun _=>sd s0),(sd (sd s0)),?_⟩));refine go3 ?_;refine gDs (sk (sd (sk (sk (sk (s0)))))) (.quiet 0 [1,4,9,12,13] (.quiet 1 [4,9,12,13] (.quiet 2 [3,4,9,12,13] (.quiet 3 [4,9,12,13] (.quiet 4 [9,12,13] (.quiet 5 [6,9,12,13] (.quiet 6 [9,12,13] (.quiet 7 [8,9,12,13] (.quiet 8 [9,12,13] (.quiet 9 [12,13] (.both 10 (.only 11 (.only 12 (.only 13 (.fin)))) 11 (.only 10 (.only 12 (.only 13 (.fin))))))))))))))) [0,1,2,3,4,5,6,7,8,9,10,11] mix (by kernel_rfl) (by kernel_rfl) (go4 ?_);obtain ⟨r10,hr10⟩:=nm ((E (Z.mul ((cP a.n b.d).n).dec ((cP b.n a.d).n).dec)):I);refine pC (AV [pI r10]) aJ (dV ((cP a.n b.d).n).1 ((cP b.n a.d).n).1 ((cP a.n b.d).n).2 ((cP b.n a.d).n).2) rfl rfl (by subst hr10;rfl) (go4 ?_);obtain ⟨r11,hr11⟩:=nm ((E (Z.mul ((cP a.n b.d).d).dec ((cP b.n a.d).d).dec)):I);refine pC (AV [pI r11]) aJ (dV ((cP a.n b.d).d).1 ((cP b.n a.d).d).1 ((cP a.n b.d).d).2 ((cP b.n a.d).d).2) rfl rfl (by subst hr11;rfl) ?_;refine HP ?_ ?_
  ·refine fM rfl rfl (iB zpT (fun b12 hb12=>⟨(fun _=>sd s0),(sd (sk (sd s0))),?_⟩));refine fM rfl rfl (iB zpT (fun b13 hb13=>⟨(fun _=>sd s0),(sd (sd (sk (sd s0)))),?_⟩));refine go4 ?_;refine gJv [38,39,40,41,42,43] [(43,.bool (r10.1.bad||r11.1.bad))] (fun K4 J4=>?_) ?_
   ·refine go3 ?_;refine sBB rfl (fun h15=>?_) (fun h15=>?_)
    ·refine go4 ?_;refine J4 _ _ pp_ s0 (aZ (lX h15))
    refine go4 ?_;refine J4 _ _ pp_ s0 (aZ (kE h15 rfl))
   intro g16;refine aQ _ rfl (fun h17=>?_) (fun h17=>?_)
   ·refine go_ ?_;refine sQ (bM aJ mD  rfl) rfl (go3 ?_);refine bG rfl (.inr rfl) (gT rfl m4 tyT rfl) ?_
    subst_vars;exact congrArg vS6 (show _=(jG a b) from aM h7 (aW h17 rfl))
   refine go8 ?_;refine bG rfl (.inr rfl) (gT rfl m4 tyT rfl) ?_
   subst_vars;exact congrArg vS6 (show _=(jG a b) from aM h7 (aM h17 rfl))
  refine fM rfl rfl (iB zpT (fun b18 hb18=>⟨(fun _=>sd s0),(sd (sk (sd s0))),?_⟩));refine fM rfl rfl (iB zpT (fun b19 hb19=>⟨(fun _=>sd s0),(sd (sd (sk (sd s0)))),?_⟩));refine go4 ?_;refine gJv [38,39,40,41,42,43] [(43,.bool (r10.1.bad||r11.1.bad))] (fun K6 J6=>?_) ?_
  ·refine go3 ?_;refine sBB rfl (fun h21=>?_) (fun h21=>?_)
   ·refine go4 ?_;refine J6 _ _ pp_ s0 (aZ (lX h21))
   refine go4 ?_;refine J6 _ _ pp_ s0 (aZ (kE h21 rfl))
  intro g22;refine aQ _ rfl (fun h23=>?_) (fun h23=>?_)
  ·refine go_ ?_;refine sQ (bM aJ mD  rfl) rfl (go3 ?_);refine bG rfl (.inr rfl) (gT rfl m4 tyT rfl) ?_
   subst_vars;exact congrArg vS6 (show _=(jG a b) from aM h7 (aW h23 rfl))
  refine go8 ?_;refine bG rfl (.inr rfl) (gT rfl m4 tyT rfl) ?_
  subst_vars;exact congrArg vS6 (show _=(jG a b) from aM h7 (aM h23 rfl))
 refine fM rfl rfl (iB zpT (fun b24 hb24=>⟨(fun _=>sd s0),(sd s0),?_⟩));refine fM rfl rfl (iB zpT (fun b25 hb25=>⟨(fun _=>sd s0),(sd (sd s0)),?_⟩));refine go3 ?_;refine gDs (sk (sk (sk (sk (sk (s0)))))) (.quiet 0 [1,4,9,12,13] (.quiet 1 [4,9,12,13] (.quiet 2 [3,4,9,12,13] (.quiet 3 [4,9,12,13] (.quiet 4 [9,12,13] (.quiet 5 [6,9,12,13] (.quiet 6 [9,12,13] (.quiet 7 [8,9,12,13] (.quiet 8 [9,12,13] (.quiet 9 [12,13] (.both 10 (.only 11 (.only 12 (.only 13 (.fin)))) 11 (.only 10 (.only 12 (.only 13 (.fin))))))))))))))) [0,1,2,3,4,5,6,7,8,9,10,11] mix (by kernel_rfl) (by kernel_rfl) (go4 ?_);obtain ⟨r26,hr26⟩:=nm ((E (Z.mul ((cP a.n b.d).n).dec ((cP b.n a.d).n).dec)):I);refine pC (AV [pI r26]) aJ (dV ((cP a.n b.d).n).1 ((cP b.n a.d).n).1 ((cP a.n b.d).n).2 ((cP b.n a.d).n).2) rfl rfl (by subst hr26;rfl) (go4 ?_);obtain ⟨r27,hr27⟩:=nm ((E (Z.mul ((cP a.n b.d).d).dec ((cP b.n a.d).d).dec)):I);refine pC (AV [pI r27]) aJ (dV ((cP a.n b.d).d).1 ((cP b.n a.d).d).1 ((cP a.n b.d).d).2 ((cP b.n a.d).d).2) rfl rfl (by subst hr27;rfl) ?_;refine HP ?_ ?_
 ·refine fM rfl rfl (iB zpT (fun b28 hb28=>⟨(fun _=>sd s0),(sd s0),?_⟩));refine fM rfl rfl (iB zpT (fun b29 hb29=>⟨(fun _=>sd s0),(sd (sd s0)),?_⟩));refine go4 ?_;refine gJv [38,39,40,41,42,43] [(43,.bool (r26.1.bad||r27.1.bad))] (fun K8 J8=>?_) ?_
  ·refine go3 ?_;refine sBB rfl (fun h31=>?_) (fun h31=>?_)
   ·refine go4 ?_;refine J8 _ _ pp_ s0 (aZ (lX h31))
   refine go4 ?_;refine J8 _ _ pp_ s0 (aZ (kE h31 rfl))
  intro g32;refine aQ _ rfl (fun h33=>?_) (fun h33=>?_)
  ·refine go_ ?_;refine sQ (bM aJ mD  rfl) rfl (go3 ?_);refine bG rfl (.inr rfl) (gT rfl m4 tyT rfl) ?_
   subst_vars;exact congrArg vS6 (show _=(jG a b) from aM h7 (aW h33 rfl))
  refine go8 ?_;refine bG rfl (.inr rfl) (gT rfl m4 tyT rfl) ?_
  subst_vars;exact congrArg vS6 (show _=(jG a b) from aM h7 (aM h33 rfl))
 refine fM rfl rfl (iB zpT (fun b34 hb34=>⟨(fun _=>sd s0),(sd s0),?_⟩));refine fM rfl rfl (iB zpT (fun b35 hb35=>⟨(fun _=>sd s0),(sd (sd s0)),?_⟩));refine go4 ?_;refine gJv [38,39,40,41,42,43] [(43,.bool (r26.1.bad||r27.1.bad))] (fun K10 J10=>?_) ?_
 ·refine go3 ?_;refine sBB rfl (fun h37=>?_) (fun h37=>?_)
  ·refine go4 ?_;refine J10 _ _ pp_ s0 (aZ (lX h37))
  refine go4 ?_;refine J10 _ _ pp_ s0 (aZ (kE h37 rfl))
 intro g38;refine aQ _ rfl (fun h39=>?_) (fun h39=>?_)
 ·refine go_ ?_;refine sQ (bM aJ mD  rfl) rfl (go3 ?_);refine bG rfl (.inr rfl) (gT rfl m4 tyT rfl) ?_
  subst_vars;exact congrArg vS6 (show _=(jG a b) from aM h7 (aW h39 rfl))
 refine go8 ?_;refine bG rfl (.inr rfl) (gT rfl m4 tyT rfl) ?_
 subst_vars;exact congrArg vS6 (show _=(jG a b) from aM h7 (aM h39 rfl))
theorem oU  :
    Ret prog 87 [] (AV [pI F_skewbackref04_one]):=by
 refine bT (N:=2) func87 rfl rfl (by simp) (fun w0=>?_);simp only [bK,Nat.reduceAdd];obtain ⟨q0,hq0⟩:=nm ((E (Z.of 1)):I);refine go2 ?_;intro b1 hb1;refine go2 ?_;refine sC (AV [pI q0]) aJ (eV (wl 1).1 (wl 1).2) rfl rfl (by subst hq0;rfl) ?_;refine go3 ?_;refine bG rfl (.inr rfl) (gT rfl m0 tyT rfl) ?_;exact (by obtain rfl:=hq0.symm;rfl)
theorem mU  :
    Ret prog 80 [] (AV [pI iJ.n,pI iJ.d]):=by
 refine bT (N:=4) func80 rfl rfl (by simp) (fun w0=>?_);simp only [bK,Nat.reduceAdd];obtain ⟨q0,hq0⟩:=nm ((E Z.bad):I);obtain ⟨q1,hq1⟩:=nm (F_skewbackref04_one:I);refine go2 ?_;intro b1 hb1;refine go2 ?_;refine sC (AV [pI q0]) aJ dL rfl rfl (by subst hq0;rfl) (sC (AV [pI q1]) aJ oU rfl rfl (by subst hq1;rfl) (go4 ?_));refine bG rfl (.inr rfl) (gT rfl m0 tyT rfl) ?_;exact (by subst_vars;rfl)
theorem jQ (a:I) (b:I) :
    Ret prog 71 [AV [pI a],AV [pI b]] (AV [pI ((aY a b).n),pI ((aY a b).d)]):=by
 refine bT (N:=35) func71 rfl rfl (by simp) (fun w0=>?_);simp only [bK,Nat.reduceAdd];refine go2 ?_;intro b1 hb1;refine go_ ?_;intro b2 hb2;refine go_ ?_;intro b3 hb3;refine go2 ?_;refine gJv [6,7,8,9,10,11,12,13,14,15,16,17,18] [(18,.bool (!a.1.good||(!b.1.good||((Z.signW b.dec).1==0))))] (fun K2 J2=>?_) ?_
 ·refine go2 ?_;refine sC (.bool a.1.good) aJ (bN a.1 a.2) rfl rfl rfl (go_ ?_);rcases bt a.1.good with h6 | h6
  ·refine sB (fY h6) rfl (go_ ?_);refine sC (.bool b.1.good) aJ (bN b.1 b.2) rfl rfl rfl (go2 ?_);rcases bt b.1.good with h7 | h7
   ·refine sB (fY h7) rfl (go_ ?_);refine sC (.int .i64 ((Z.signW b.dec).1)) aJ (e9 b.1 b.2) rfl rfl rfl (go3 ?_);refine J2 _ _ pp_ s0 (aZ (jC h6 (jC h7 rfl)))
   refine sB (fP h7) rfl (go5 ?_);refine J2 _ _ pp_ s0 (aZ (jC h6 (mI h7)))
  refine sB (fP h6) rfl (pO ?_);refine J2 _ _ pp_ s0 (aZ (mI h6))
 intro g8;refine aQ _ rfl (fun h9=>?_) (fun h9=>?_)
 ·refine go_ ?_;refine sQ (bM aJ mU  rfl) rfl (go3 ?_);refine bG rfl (.inr rfl) (gT rfl m0 tyT rfl) ?_;exact congrArg vS6 (show _=(aY a b) from aW h9 rfl)
 refine go4 ?_;refine sC (AV [pI (E (Z.gcd a.dec b.dec))]) aJ (mT a.1 b.1 a.2 b.2) rfl rfl rfl (go_ ?_);intro b10 hb10;refine go5 ?_;refine sC (.int .i64 ((Z.signW b.dec).1)) aJ (e9 b.1 b.2) rfl rfl rfl (go2 ?_);refine aQ _ rfl (fun h11=>?_) (fun h11=>?_)
 ·refine go2 ?_;refine sC (AV [pI (E (Z.neg (Z.gcd a.dec b.dec)))]) aJ (sD (E (Z.gcd a.dec b.dec)).1 (E (Z.gcd a.dec b.dec)).2) rfl rfl (cg1 (fun p=>AV [pI (E (Z.neg p))]) (bZ _)) (go2 ?_);refine rD (sk (sd (sk (sk (s0))))) 8 [7] [7] (go2 ?_);refine pC (AV [pI (E (Z.quo a.dec (Z.neg (Z.gcd a.dec b.dec))))]) aJ (iH a.1 (E (Z.neg (Z.gcd a.dec b.dec))).1 a.2 (E (Z.neg (Z.gcd a.dec b.dec))).2) rfl rfl (cg2 (fun p q=>AV [pI (E (Z.quo p q))]) rfl (bZ _)) (go2 ?_);refine pC (AV [pI (E (Z.quo b.dec (Z.neg (Z.gcd a.dec b.dec))))]) aJ (iH b.1 (E (Z.neg (Z.gcd a.dec b.dec))).1 b.2 (E (Z.neg (Z.gcd a.dec b.dec))).2) rfl rfl (cg2 (fun p q=>AV [pI (E (Z.quo p q))]) rfl (bZ _)) (pQ rfl (m6 zpT plT rfl (.cons [pI (E (Z.quo a.dec (Z.neg (Z.gcd a.dec b.dec))))] [pI (E (Z.quo a.dec (Z.neg (Z.gcd a.dec b.dec)))),pI I0] rfl rfl rfl rfl (.cons [pI (E (Z.quo b.dec (Z.neg (Z.gcd a.dec b.dec))))] [pI (E (Z.quo a.dec (Z.neg (Z.gcd a.dec b.dec)))),pI (E (Z.quo b.dec (Z.neg (Z.gcd a.dec b.dec))))] rfl rfl rfl rfl (.nil _)))) (go3 ?_));refine bG rfl (.inr rfl) (gT rfl m1 tyT rfl) ?_;exact congrArg vS6 (show _=(aY a b) from aM h9 (aW h11 rfl))
 refine go_ ?_;refine rD (sk (sd (sk (sk (s0))))) 8 [7] [7] (go2 ?_);refine pC (AV [pI (E (Z.quo a.dec (Z.gcd a.dec b.dec)))]) aJ (iH a.1 (E (Z.gcd a.dec b.dec)).1 a.2 (E (Z.gcd a.dec b.dec)).2) rfl rfl (cg2 (fun p q=>AV [pI (E (Z.quo p q))]) rfl (bZ _)) (go2 ?_);refine pC (AV [pI (E (Z.quo b.dec (Z.gcd a.dec b.dec)))]) aJ (iH b.1 (E (Z.gcd a.dec b.dec)).1 b.2 (E (Z.gcd a.dec b.dec)).2) rfl rfl (cg2 (fun p q=>AV [pI (E (Z.quo p q))]) rfl (bZ _)) (pQ rfl (m6 zpT plT rfl (.cons [pI (E (Z.quo a.dec (Z.gcd a.dec b.dec)))] [pI (E (Z.quo a.dec (Z.gcd a.dec b.dec))),pI I0] rfl rfl rfl rfl (.cons [pI (E (Z.quo b.dec (Z.gcd a.dec b.dec)))] [pI (E (Z.quo a.dec (Z.gcd a.dec b.dec))),pI (E (Z.quo b.dec (Z.gcd a.dec b.dec)))] rfl rfl rfl rfl (.nil _)))) (go3 ?_));refine bG rfl (.inr rfl) (gT rfl m1 tyT rfl) ?_;exact congrArg vS6 (show _=(aY a b) from aM h9 (aM h11 rfl))
theorem jJ (a:W) :
    Ret prog 40 [.int .i64 a.1] (AV [pI ((fU a).n),pI ((fU a).d)]):=by
 refine bT (N:=7) func40 rfl rfl (by simp) (fun w0=>?_);simp only [bK,Nat.reduceAdd];refine go2 ?_;intro b1 hb1;refine go3 ?_;refine sC (AV [pI (E (Z.of a.1))]) aJ (eV a.1 a.2) rfl rfl rfl (sQ (bM aJ oU  rfl) rfl ?_);obtain ⟨r2,hr2⟩:=nm ((aY (E (Z.of a.1)) F_skewbackref04_one):Rt);refine sC (AV [pI r2.n,pI r2.d]) aJ (jQ (E (Z.of a.1)) F_skewbackref04_one) rfl rfl (by rw [hr2]) (go3 ?_);refine bG rfl (.inr rfl) (gT rfl m0 tyT rfl) ?_;exact (by subst hr2;rfl)
theorem l7 (a:W) (b:W) :
    Ret prog 30 [.int .i64 a.1,.int .i64 b.1] (AV [pI ((d6 a b).n),pI ((d6 a b).d)]):=by
 refine bT (N:=10) func30 rfl rfl (by simp) (fun w0=>?_);simp only [bK,Nat.reduceAdd];refine go2 ?_;intro b1 hb1;refine go3 ?_;refine sC (AV [pI (E (Z.of a.1))]) aJ (eV a.1 a.2) rfl rfl rfl (go_ ?_);refine sC (AV [pI (E (Z.of b.1))]) aJ (eV b.1 b.2) rfl rfl rfl ?_;obtain ⟨r2,hr2⟩:=nm ((aY (E (Z.of a.1)) (E (Z.of b.1))):Rt);refine sC (AV [pI r2.n,pI r2.d]) aJ (jQ (E (Z.of a.1)) (E (Z.of b.1))) rfl rfl (by rw [hr2]) (go3 ?_);refine bG rfl (.inr rfl) (gT rfl m0 tyT rfl) ?_;exact (by subst hr2;rfl)
theorem iD (a:Rt) :
    Ret prog 64 [AV [pI a.n,pI a.d]] (.bool (aP a)):=by
 refine bT (N:=26) func64 rfl rfl (by simp) (fun w0=>?_);simp only [bK,Nat.reduceAdd];refine go2 ?_;intro b1 hb1;refine go3 ?_;refine gJv [3,4,5,6,7,8,9,10,11,12] [(12,.bool (!a.n.1.good||(!a.d.1.good)))] (fun K2 J2=>?_) ?_
 ·refine go3 ?_;refine sC (.bool a.n.1.good) aJ (bN a.n.1 a.n.2) rfl rfl rfl (go_ ?_);rcases bt a.n.1.good with h3 | h3
  ·refine sB (fY h3) rfl (go2 ?_);refine sC (.bool a.d.1.good) aJ (bN a.d.1 a.d.2) rfl rfl rfl (go3 ?_);refine J2 _ _ pp_ s0 (aZ (jC h3 rfl))
  refine sB (fP h3) rfl (go6 ?_);refine J2 _ _ pp_ s0 (aZ (mI h3))
 intro g4;refine aQ _ rfl (fun h5=>?_) (fun h5=>?_)
 ·refine go4 ?_;refine bG rfl (.inr rfl) rfl ?_;exact congrArg vS0 (show _=(aP a) from aW h5 rfl)
 refine go_ ?_;refine gJv [2,13,14,15,16,17,18,19,20,21,22,23,24,25] [(2,.bool (decide (0<(Z.signW a.d.dec).1)&&decide ((E (Z.gcd a.n.dec a.d.dec))=F_skewbackref04_one)))] (fun K3 J3=>?_) ?_
 ·refine go3 ?_;refine sC (.int .i64 ((Z.signW a.d.dec).1)) aJ (e9 a.d.1 a.d.2) rfl rfl rfl (go_ ?_);refine sBB rfl (fun h7=>?_) (fun h7=>?_)
  ·refine go4 ?_;refine sC (AV [pI (E (Z.gcd a.n.dec a.d.dec))]) aJ (mT a.n.1 a.d.1 a.n.2 a.d.2) rfl rfl rfl (sQ (bM aJ oU  rfl) rfl ?_);refine sQ (uR (r:=decide ((E (Z.gcd a.n.dec a.d.dec))=F_skewbackref04_one)) rfl rfl (mQ 8 dd_ R0 SQ (mY iV) (mY iV) (rI nX))) rfl (go3 ?_);refine J3 _ _ pp_ s0 (aZ (bW h7 rfl))
  refine pO ?_;refine J3 _ _ pp_ s0 (aZ (hJ h7))
 intro g8;refine go_ ?_;refine bG rfl (.inr rfl) rfl ?_;exact congrArg vS0 (show _=(aP a) from aM h5 rfl)
theorem rX (a:Rt) (b:Bool) :
    Ret prog 66 [AV [pI a.n,pI a.d],.bool b] (AV [pI (fC a b)]):=by
 refine bT (N:=8) func66 rfl rfl (by simp) (fun w0=>?_);simp only [bK,Nat.reduceAdd];refine go2 ?_;intro b1 hb1;refine go_ ?_;intro b2 hb2;refine go5 ?_;refine aQ _ rfl (fun h3=>?_) (fun h3=>?_)
 ·refine go_ ?_;refine sC (AV [pI (E (Z.of 0))]) aJ (eV (wl 0).1 (wl 0).2) rfl rfl rfl ?_;refine go3 ?_;refine bG rfl (.inr rfl) (gT rfl m0 tyT rfl) ?_;exact congrArg vS2 (show _=(fC a b) from aW h3 rfl)
 refine go2 ?_;refine sC (AV [pI (E Z.bad)]) aJ dL rfl rfl rfl (go3 ?_);refine bG rfl (.inr rfl) (gT rfl m0 tyT rfl) ?_;exact congrArg vS2 (show _=(fC a b) from aM h3 rfl)
end Go.Proofs.YtokjfhfiodopdaaGreat
namespace Go.Num
open Go Go.Kn
theorem U6 {a:Rt} (h:cG a=true):cfP (cfN a.d) a.d:=by
  unfold cG at h;simp only [Bool.and_eq_true,decide_eq_true_eq] at h;exact IB h.2.2.1
theorem U7 {a:Rt} (h:aP a=true):cfP (cfN a.d) a.d:=by
  unfold aP at h
  cases h1:(!a.n.1.good||(!a.d.1.good))
  · rw [h1,cond_false] at h
    simp only [Bool.and_eq_true,decide_eq_true_eq] at h;exact IB h.1
  rw [h1,cond_true] at h;cases h
theorem bl_ {a b:Bool} (h:(!a || !b)=false):a=true:=by cases a with | true=>rfl | false=>cases h
theorem NS (n m:Bool) {x y:Nat} (hy:0<y):(sgn n x).fmod (sgn m y)=if n≠m∧x % y≠0 then sgn m (y - x % y) else sgn m (x % y):=by
  rw [Int.fmod_def,FP n m hy];have h1:=Nat.div_add_mod x y;have h2:=Nat.mod_lt x hy
  have e:((x:Nat):Int)=(y:Int) * ((x / y:Nat):Int)+((x % y:Nat):Int):=by exact_mod_cast h1.symm
  have e2:(y:Int) * (-((x / y:Nat):Int) - 1) = -((y:Int) * ((x / y:Nat):Int)) - y:=by grind
  have e3:(y:Int) * (-((x / y:Nat):Int)) = -((y:Int) * ((x / y:Nat):Int)):=by grind
  have e4:(-(y:Int)) * (-((x / y:Nat):Int) - 1)=((y:Int) * ((x / y:Nat):Int))+y:=by grind
  have e5:(-(y:Int)) * (-((x / y:Nat):Int))=((y:Int) * ((x / y:Nat):Int)):=by grind
  have e6:(-(y:Int)) * ((x / y:Nat):Int) = -((y:Int) * ((x / y:Nat):Int)):=by grind
  cases n <;> cases m <;> by_cases h0:x % y=0 <;> simp only [rV,qY,reduceIte,Bool.false_eq_true,Bool.true_eq_false,reduceCtorEq,ne_eq,not_true_eq_false,not_false_eq_true,false_and,true_and,and_self,h0] <;> omega
theorem d0_ {x y:W} (hx:-4611686018427387904<x.1∧x.1<4611686018427387904) (hy:-4611686018427387904<y.1∧y.1<4611686018427387904) (h0:y.1≠0) (hf:x.1.fdiv y.1=(W.fdiv x y).1) :
    (W.sub x (W.mul y (W.fdiv x y))).1=x.1.fmod y.1:=by
  have e:x.1.fmod y.1=x.1 - y.1 * x.1.fdiv y.1:=Int.fmod_def ..
  have hb:(x.1.fmod y.1).natAbs<y.1.natAbs:=by
    rcases Int.lt_or_gt_of_ne h0 with h | h
    · have h1:=Int.fmod_nonneg_of_pos (-x.1) (show 0 < -y.1 by omega)
      have h2:=Int.fmod_lt_of_pos (-x.1) (show 0 < -y.1 by omega);rw [Int.neg_fmod_neg] at h1 h2;omega
    have h1:=Int.fmod_nonneg_of_pos x.1 h;have h2:=Int.fmod_lt_of_pos x.1 h;omega
  show IntKind.i64.wrap (x.1 - IntKind.i64.wrap (y.1 * (W.fdiv x y).1))=_
  rw [← hf,bQ (n:=y.1 * x.1.fdiv y.1) (by unfold I64;omega),← e,bQ (by unfold I64;omega)]
theorem U8 {a b:R} (ha:a.Ok) (hb:b.Ok) (h:gU a=true) (k:gU b=true) (h0:jD b≠0):Z.of ((jD a).fmod (jD b))=Z.rem a.dec b.dec:=by
  rw [Z.rem,cY (kO ha h).1 (kO hb k).1,if_neg h0]
theorem cm_ {a b:R} (h:a.good=false∨b.good=false):Z.bad=Z.rem a.dec b.dec:=by
  rw [Z.rem,jB (h.imp D8 D8)]
theorem fl_ {a b:R} (ha:a.Ok) (hb:b.Ok) (ga:a.good=true) (gb:b.good=true) (h:val b.w=0):Z.bad=Z.rem a.dec b.dec:=by
  rw [Z.rem,cY (cO ha ga) (cO hb gb),if_pos (by rw [h];cases b.neg <;> rfl)]
theorem dY_ {a b:R} (ha:a.Ok) (hb:b.Ok) (ga:a.good=true) (gb:b.good=true) (h0:val b.w≠0) (h:a.neg=b.neg∨val a.w % val b.w=0):Z.of (sgn b.neg (val a.w % val b.w))=Z.rem a.dec b.dec:=by
  have hp:0<val b.w:=Nat.pos_of_ne_zero h0;rw [Z.rem,cY (cO ha ga) (cO hb gb),if_neg (DE hp),NS _ _ hp,if_neg];rintro ⟨h1,h2⟩;exact h.elim h1 h2
theorem bx_ {a b:R} (ha:a.Ok) (hb:b.Ok) (ga:a.good=true) (gb:b.good=true) (h0:val b.w≠0) (hn:a.neg≠b.neg) (h:val a.w % val b.w≠0):Z.of (sgn b.neg (val b.w - val a.w % val b.w))=Z.rem a.dec b.dec:=by
  have hp:0<val b.w:=Nat.pos_of_ne_zero h0;rw [Z.rem,cY (cO ha ga) (cO hb gb),if_neg (DE hp),NS _ _ hp,if_pos ⟨hn,h⟩]
theorem wS (a b:I):jT a b=E (Z.rem a.dec b.dec):=by
  unfold jT;rw [ds_]
  show _=E (Z.rem a.1.dec b.1.dec)
  cases hw:(gU a.1&&(gU b.1&&((dQ b).1 != 0)))
  · rw [cond_false]
    cases hg:(!a.1.good||(!b.1.good||(val b.1.w==0)))
    · rw [cond_false]
      simp only [Bool.or_eq_false_iff,Bool.not_eq_false',beq_eq_false_iff_ne] at hg;obtain ⟨ga,gb,h0⟩:=hg
      cases hc:((a.1.neg != b.1.neg)&&decide ((0:Int)<(((dl (val a.1.w % val b.1.w)).length:Nat):Int)))
      · rw [cond_false,dY_ a.2 b.2 ga gb h0]
        rw [Bool.and_eq_false_iff] at hc;rcases hc with hc | hc
        · exact .inl (by simpa using hc)
        right
        have:=of_decide_eq_false hc;exact KH.1 oo_
      rw [cond_true,bx_ a.2 b.2 ga gb h0]
      · rw [Bool.and_eq_true] at hc;simpa using hc.1
      rw [Bool.and_eq_true] at hc;have:=of_decide_eq_true hc.2;intro h;rw [h,o2] at this;exact absurd this dd_
    rw [cond_true]
    cases ga:a.1.good
    · rw [cm_ (.inl ga)]
    · cases gb:b.1.good
      · rw [cm_ (.inr gb)]
      rw [ga,gb] at hg;rw [fl_ a.2 b.2 ga gb (by simpa using hg)]
  rw [cond_true];have hf:=KW hw;rw [Bool.and_eq_true,Bool.and_eq_true] at hw
  show E (Z.of (W.sub (dQ a) (W.mul (dQ b) (W.fdiv (dQ a) (dQ b)))).1)=_
  rw [d0_ (kO a.2 hw.1).2.2.2 (kO b.2 hw.2.1).2.2.2 hf.2.1 hf.2.2];exact congrArg E (U8 a.2 b.2 hw.1 hw.2.1 hf.2.1)
end Go.Num
namespace Go.Proofs.YtokjfhfiodopdaaGreat
open Go.Kn Go.Num Tryz
attribute [local irreducible] Go.Kn.W WL PL OpQ OpR OpS
theorem yA (a:I) (b:I) :
    Ret prog 68 [AV [pI a],AV [pI b]] (AV [pI (jT a b)]):=by
 refine bT (N:=78) func68 rfl rfl (by simp) (fun w0=>?_);simp only [bK,Nat.reduceAdd];refine go2 ?_;intro b1 hb1;refine go_ ?_;intro b2 hb2;refine go_ ?_;intro b3 hb3;refine go3 ?_;refine sC (.tuple #[.int .i64 ((dQ a).1),.bool (gU a.1)]) aJ (fI a.1 a.2) rfl rfl rfl (go8 ?_);refine sC (.tuple #[.int .i64 ((dQ b).1),.bool (gU b.1)]) aJ (fI b.1 b.2) rfl rfl rfl (go7 ?_);refine gJv [21,22,23,24,25,26,27,28] [(28,.bool ((gU a.1)&&((gU b.1)&&((dQ b).1 != 0))))] (fun K2 J2=>?_) ?_
 ·refine go2 ?_;refine sBB rfl (fun h6=>?_) (fun h6=>?_)
  ·refine go2 ?_;refine sBB rfl (fun h7=>?_) (fun h7=>?_)
   ·refine go4 ?_;refine J2 _ _ pp_ s0 (aZ (bW h6 (bW h7 rfl)))
   refine go4 ?_;refine J2 _ _ pp_ s0 (aZ (bW h6 (hJ h7)))
  refine go7 ?_;refine J2 _ _ pp_ s0 (aZ (hJ h6))
 intro g8;refine aQ _ rfl (fun h9=>?_) (fun h9=>?_)
 ·refine go3 ?_;have hfl:=KW h9;refine go2 ?_;refine sC (.int .i64 ((W.fdiv (dQ a) (dQ b)).1)) aJ (rA (dQ a).1 (dQ b).1 (dQ a).2 hfl.1 hfl.2.1) rfl rfl (congrArg (Value.int .i64) hfl.2.2) (sV (.int .i64 ((W.mul (dQ b) (W.fdiv (dQ a) (dQ b))).1)) rfl rfl (sV (.int .i64 ((W.sub (dQ a) (W.mul (dQ b) (W.fdiv (dQ a) (dQ b)))).1)) rfl rfl ?_));obtain ⟨r10,hr10⟩:=nm ((E (Z.of (W.sub (dQ a) (W.mul (dQ b) (W.fdiv (dQ a) (dQ b)))).1)):I);refine sC (AV [pI r10]) aJ (eV (W.sub (dQ a) (W.mul (dQ b) (W.fdiv (dQ a) (dQ b)))).1 (W.sub (dQ a) (W.mul (dQ b) (W.fdiv (dQ a) (dQ b)))).2) rfl rfl (by subst hr10;rfl) (go3 ?_);refine bG rfl (.inr rfl) (gT rfl m0 tyT rfl) ?_;exact (by subst hr10;exact congrArg vS2 (show _=(jT a b) from aW h9 rfl))
 refine go2 ?_;refine gJv [37,38,39,40,41,42,43,44,45,46,47,48,49,50] [(50,.bool (!a.1.good||(!b.1.good||((((dl (val b.1.w)).length:Nat):Int)==0))))] (fun K4 J4=>?_) ?_
 ·refine go2 ?_;refine sC (.bool a.1.good) aJ (bN a.1 a.2) rfl rfl rfl (go_ ?_);rcases bt a.1.good with h14 | h14
  ·refine sB (fY h14) rfl (go_ ?_);refine sC (.bool b.1.good) aJ (bN b.1 b.2) rfl rfl rfl (go2 ?_);rcases bt b.1.good with h15 | h15
   ·refine sB (fY h15) rfl (go_ ?_);refine bC rfl (fB aJ rfl (fun w hw=>bL b.1 b.2 w) (fun vl16 Ll16 kl16=>?_))
    try simp only [fL,kK] at kl16
    refine sQ (aS (v':=.int .i64 (((dl (val b.1.w)).length:Nat):Int)) (lR jV rfl (SL.sub kl16.sl lZ)) rfl) rfl (go3 ?_);refine J4 _ _ pp_ (sR (s0)) (aZ (jC h14 (jC h15 rfl)))
   refine sB (fP h15) rfl (go6 ?_);refine J4 _ _ pp_ s0 (aZ (jC h14 (mI h15)))
  refine sB (fP h14) rfl (vK ?_);refine J4 _ _ pp_ s0 (aZ (mI h14))
 intro g17;refine aQ _ rfl (fun h18=>?_) (fun h18=>?_)
 ·refine go_ ?_;refine sC (AV [pI (E Z.bad)]) aJ dL rfl rfl rfl (go3 ?_);refine bG rfl (.inr rfl) (gT rfl m0 tyT rfl) ?_;exact congrArg vS2 (show _=(jT a b) from aM h9 (aW h18 rfl))
 refine go_ ?_;refine gds sn [0,8,5,13,17,20,24,28,32,36] [] mix (by kernel_rfl) (go2 ?_);refine fM rfl rfl (fB aJ rfl (fun w hw=>bL a.1 a.2 w) (fun vl19 Ll19 kl19=>⟨(fun _=>sR s0),sn,?_⟩))
 try simp only [fL,kK] at kl19
 refine fM rfl rfl (fB aJ rfl (fun w hw=>bL b.1 b.2 w) (fun vl20 Ll20 kl20=>⟨(fun _=>sR s0),sn,?_⟩))
 try simp only [fL,kK] at kl20
 have hB:=b7_ h18;refine fM rfl rfl (zQ aJ rfl (fun w hw=>lD vl19 vl20 (val a.1.w) (val b.1.w) hB (Nat.le_trans (gW (k:=32) (oQ a.2)) dd_) (Nat.le_trans (gW (k:=32) (oQ b.2)) dd_) w (SL.sl (SL.sub kl19.sl (sR lZ)) hw) (SL.sl (SL.sub kl20.sl lZ) hw)) (fun vl21_0 vl21_1 Ll21 kl21_0 kl21_1=>⟨(fun _=>sR s0),sn,?_⟩))
 try simp only [fL,kK] at kl21_0 kl21_1
 refine go7 ?_;refine gJv [60,61,62,63,64,65,66,67,68,69] [(69,.bool ((a.1.neg != b.1.neg)&&decide (0<(((dl ((val a.1.w) % (val b.1.w))).length:Nat):Int))))] (fun K6 J6=>?_) ?_
 ·refine go5 ?_;refine sQ (aS (v':=.bool (a.1.neg != b.1.neg)) (qQ xS rfl rfl) rfl) rfl ?_;refine sBB rfl (fun h23=>?_) (fun h23=>?_)
  ·refine go_ ?_;refine sQ (aS (v':=.int .i64 (((dl ((val a.1.w) % (val b.1.w))).length:Nat):Int)) (lR jV rfl (SL.sub kl21_1 lZ)) rfl) rfl (go3 ?_);refine J6 _ _ pp_ s0 (aZ (bW h23 rfl))
  refine go5 ?_;refine J6 _ _ pp_ s0 (aZ (hJ h23))
 intro g24;refine aQ _ rfl (fun h25=>?_) (fun h25=>?_)
 ·refine go2 ?_;refine bC rfl (fB aJ rfl (fun w hw=>bL b.1 b.2 w) (fun vl26 Ll26 kl26=>?_))
  try simp only [fL,kK] at kl26
  refine go_ ?_;refine bC rfl (fB aJ rfl (fun w hw=>kF vl26 vl21_1 (dl (val b.1.w)) (dl ((val a.1.w) % (val b.1.w))) (jR _) (jR _) (Nat.le_trans (gW (k:=32) (oQ b.2)) dd_) (Nat.le_trans (gW (k:=32) (eK_ (oQ a.2))) dd_) (by simp only [fL,kK];exact (Nat.le_of_lt (Nat.mod_lt _ hB))) w (SL.sl (SL.sub kl26.sl lZ) hw) (SL.sl (SL.sub kl21_1 (sR lZ)) hw)) (fun vl27 Ll27 kl27=>?_))
  try simp only [fL,kK] at kl27
  refine go6 ?_;refine sQ (aS (v':=AV [pI (E (Z.of (sgn b.1.neg ((val b.1.w) - ((val a.1.w) % (val b.1.w))))))]) (bE aJ rfl (fun w hw=>dG b.1.neg vl27 (dl ((val b.1.w) - ((val a.1.w) % (val b.1.w)))) (jR _) (Nat.le_trans (gW (k:=32) (dc_ (oQ b.2))) dd_) w (SL.sl (SL.sub kl27.sl lZ) hw))) (by rw [(fL _)];rfl)) rfl (go3 ?_);refine bG rfl (.inr rfl) (gT rfl (mA (mA (mA (mA (mA mZ))))) tyT rfl) ?_;exact congrArg vS2 (show _=(jT a b) from aM h9 (aM h18 (aW h25 rfl)))
 refine go5 ?_;refine sQ (aS (v':=AV [pI (E (Z.of (sgn b.1.neg ((val a.1.w) % (val b.1.w)))))]) (bE aJ rfl (fun w hw=>dG b.1.neg vl21_1 (dl ((val a.1.w) % (val b.1.w))) (jR _) (Nat.le_trans (gW (k:=32) (eK_ (oQ a.2))) dd_) w (SL.sl (SL.sub kl21_1 lZ) hw))) (by rw [(fL _)];rfl)) rfl (go3 ?_);refine bG rfl (.inr rfl) (gT rfl (mA (mA (mA mZ))) tyT rfl) ?_;exact congrArg vS2 (show _=(jT a b) from aM h9 (aM h18 (aM h25 rfl)))
theorem sF (a b:R) (ha:a.Ok) (hb:b.Ok):Ret prog 68 [RV a,RV b] (RV (Z.rem a.dec b.dec).enc):=by
  have h:=yA ⟨a,ha⟩ ⟨b,hb⟩;rw [wS] at h;exact h
end Go.Proofs.YtokjfhfiodopdaaGreat
