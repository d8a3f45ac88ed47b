/- Lemmas: what they ask stands in their statements. -/
import Derived.Test.YtokjfhfiodopdaaGreatUYr
set_option linter.unusedSimpArgs false
set_option linter.unusedVariables false
set_option maxHeartbeats 8000000
set_option maxRecDepth 20000
namespace Go.Proofs.YtokjfhfiodopdaaGreat
open Go.Kn Go.Num Tryz
attribute [local irreducible] Go.Kn.W WL PL OpQ OpR OpS
theorem JT (a:Rt) (b:Rt) :
    Ret prog 91 [AV [pI a.n,pI a.d],AV [pI b.n,pI b.d]] (.int .i64 ((jZ a b).1)):=by
 refine cL (N:=80) func91 rfl rfl (by simp) (fun w0=>?_);simp only [bS,Nat.reduceAdd];refine go2 ?_;intro b1 hb1;refine go_ ?_;intro b2 hb2;refine go3 ?_;refine rX (sk (sk (s0))) 6 [] [] (go_ ?_);refine pQ rfl (bZ aJ (mT a) rfl) (go_ ?_);refine pQ rfl (bZ aJ (mT b) rfl) (go5 ?_);refine gJv [15,16,17,18,19,20,21] [(15,.bool (!(dS a)&&(!(dS b))))] (fun K2 J2=>?_) ?_
 ·refine go3 ?_;rcases bt (dS a) with h4 | h4
  ·refine sB (gG h4) rfl (go5 ?_);refine J2 _ _ pp_ s0 (bI (xF h4))
  refine sB (gD h4) rfl (go5 ?_);refine J2 _ _ pp_ s0 (bI (o6 h4 rfl))
 intro g5;refine aT _ rfl (fun h6=>?_) (fun h6=>?_)
 ·refine go4 ?_;refine bP rfl (.inr rfl) rfl ?_;exact congrArg vS7 (show _=(jZ a b) from bE h6 rfl)
 refine go5 ?_;rcases bt (dS a) with h7 | h7
 ·refine W_f (gG h7) rfl (go5 ?_);rcases bt (dS b) with h8 | h8
  ·refine W_f (gG h8) rfl (go8 ?_);refine cO [7,8,9,10,28,29,30,31,32,33,34,35,36,37,38,39,40,41,42,43,44,45,46,47,48,49,50,51,52,53,54,55,56,57,58,59,60,61,62,63,64,65,66,67,68,69,70,71,72,73,74,75,76,77,78] (fun g nn M=>∃ (o:W) (x:Rt) (y:Rt) (k:Nat),(g 7 = .int .i64 o.1)∧M=[⟨b2,29,bK [pI y.n,pI y.d]⟩,⟨b1,29,bK [pI x.n,pI x.d]⟩]∧nn=k∧(cf k o x.n x.d y.n y.d=cf (cfN a.d) (wl 1) a.n a.d b.n b.d∧cfP k x.d)) ((cfN a.d)) ?start ?round
   case start =>
    refine ⟨_,s0,(wl 1),a,b,(cfN a.d),?a7,rfl,rfl,⟨rfl,WT h7⟩⟩
    case a7=>rfl
   case round =>
    rintro nn g M ⟨o,x,y,k,hg7,rfl,hmeas,hinv⟩;subst nn;simp only [eO,hg7];clear hg7;obtain ⟨m,rfl⟩:=O7 hinv.2;refine go2 ?_;refine rX (sk (sk (s0))) 12 [] [] (go4 ?_);refine pC (AV [pI (E (Z.quo x.n.dec x.d.dec))]) aJ (kA x.n.1 x.d.1 x.n.2 x.d.2) rfl rfl rfl (go4 ?_);refine pC (AV [pI (E (Z.quo y.n.dec y.d.dec))]) aJ (kA y.n.1 y.d.1 y.n.2 y.d.2) rfl rfl rfl (pC (.int .i64 ((Z.cmpW (Z.quo x.n.dec x.d.dec) (Z.quo y.n.dec y.d.dec)).1)) aJ (KC (E (Z.quo x.n.dec x.d.dec)).1 (E (Z.quo y.n.dec y.d.dec)).1 (E (Z.quo x.n.dec x.d.dec)).2 (E (Z.quo y.n.dec y.d.dec)).2) rfl rfl (cg2 (fun p q=>Value.int .i64 (Z.cmpW p q).1) (cZ _) (cZ _)) (go6 ?_));refine aT _ rfl (fun h9=>?_) (fun h9=>?_)
    ·refine go3 ?_;refine sV (.int .i64 ((W.mul o (Z.cmpW (Z.quo x.n.dec x.d.dec) (Z.quo y.n.dec y.d.dec))).1)) rfl rfl (go8 ?_);refine bP rfl (.inr rfl) rfl ?_;exact congrArg vS7 (show _=(jZ a b) from aN h6 (bE h7 (bE h8 ((fn_ hinv.1 h9)))))
    refine go_ ?_;refine gDs sn (.quiet 0 [1,7,16,17] (.quiet 1 [7,16,17] (.quiet 2 [3,6,7,14,15,16,17] (.quiet 3 [6,7,14,15,16,17] (.quiet 4 [5,6,7,14,15,16,17] (.quiet 5 [6,7,14,15,16,17] (.quiet 6 [7,14,15,16,17] (.quiet 7 [16,17] (.quiet 10 [11,14,15,16,17] (.quiet 11 [14,15,16,17] (.quiet 12 [13,14,15,16,17] (.quiet 13 [14,15,16,17] (.quiet 14 [15,16,17] (.still 8 [9,15,17] (.both 9 (.still 15 [17] (.only 16 (.only 17 (.fin)))) 16 (.quiet 9 [15,17] (.quiet 15 [17] (.only 17 (.fin))))))))))))))))))) [0,1,2,3,4,5,6,7,8,9,10,11,12,13,14,15] mix (by kernel_rfl) (by kernel_rfl) (go6 ?_);refine pC (AV [pI (E (Z.rem x.n.dec x.d.dec))]) aJ (B8 x.n.1 x.d.1 x.n.2 x.d.2) rfl rfl rfl (pQ rfl (oW zpT plT rfl (.cons [pI x.d] [pI x.d,pI I0] rfl rfl rfl rfl (.cons [pI (E (Z.rem x.n.dec x.d.dec))] [pI x.d,pI (E (Z.rem x.n.dec x.d.dec))] rfl rfl rfl rfl (.nil _)))) (go4 ?_));refine pC (AV [pI (E (Z.rem y.n.dec y.d.dec))]) aJ (B8 y.n.1 y.d.1 y.n.2 y.d.2) rfl rfl rfl (G6 rfl rfl (fX_ (off':=18) (dA fdT dd_ rfl) rfl) ?_);refine G5 ?_ ?_
    ·refine fT rfl rfl (G4 (UU tyT rfl m0 rfl) ⟨fun _=>s0,sn,G6 rfl rfl (oW zpT plT rfl (.cons [pI y.d] [pI y.d,pI I0] rfl rfl rfl rfl (.cons [pI (E (Z.rem y.n.dec y.d.dec))] [pI y.d,pI (E (Z.rem y.n.dec y.d.dec))] rfl rfl rfl rfl (.nil _)))) (go3 ?_)⟩);refine rX (sk (sk (s0))) 8 [] [] (go2 ?_);refine pC (.int .i64 ((Z.signW (Z.rem x.n.dec x.d.dec)).1)) aJ (iJ (E (Z.rem x.n.dec x.d.dec)).1 (E (Z.rem x.n.dec x.d.dec)).2) rfl rfl (cg1 (fun p=>Value.int .i64 (Z.signW p).1) (cZ _)) (go2 ?_);refine pC (.int .i64 ((Z.signW (Z.rem y.n.dec y.d.dec)).1)) aJ (iJ (E (Z.rem y.n.dec y.d.dec)).1 (E (Z.rem y.n.dec y.d.dec)).2) rfl rfl (cg1 (fun p=>Value.int .i64 (Z.signW p).1) (cZ _)) (go4 ?_);refine gJv [66,67,68,69,70,71] [(71,.bool (((Z.signW (Z.rem x.n.dec x.d.dec)).1==0)||((Z.signW (Z.rem y.n.dec y.d.dec)).1==0)))] (fun K7 J7=>?_) ?_
     ·refine go3 ?_;refine sBB rfl (fun h11=>?_) (fun h11=>?_)
      ·refine go4 ?_;refine J7 _ _ pp_ s0 (bI (mS h11))
      refine go4 ?_;refine J7 _ _ pp_ s0 (bI (kX h11 rfl))
     intro g12;refine aT _ rfl (fun h13=>?_) (fun h13=>?_)
     ·refine go4 ?_;refine sV (.int .i64 ((W.sub (Z.signW (Z.rem x.n.dec x.d.dec)) (Z.signW (Z.rem y.n.dec y.d.dec))).1)) rfl rfl (sV (.int .i64 ((W.mul o (W.sub (Z.signW (Z.rem x.n.dec x.d.dec)) (Z.signW (Z.rem y.n.dec y.d.dec)))).1)) rfl rfl (go8 ?_));refine bP rfl (.inr rfl) rfl ?_;exact congrArg vS7 (show _=(jZ a b) from aN h6 (bE h7 (bE h8 ((dQ_ hinv.1 h9 h13)))))
     refine go3 ?_;refine sV (.int .i64 ((W.neg o).1)) rfl rfl (go2 ?_);refine ⟨pp_,_,_,s0,(Nat.lt_succ_self m),(W.neg o),(⟨x.d,(E (Z.rem x.n.dec x.d.dec))⟩:Rt),(⟨y.d,(E (Z.rem y.n.dec y.d.dec))⟩:Rt),m,?s7,rfl,rfl,dP_ hinv h9 h13⟩
     case s7=>rfl
    refine go2 ?_;refine pQ rfl (oW zpT plT rfl (.cons [pI y.d] [pI y.d,pI I0] rfl rfl rfl rfl (.cons [pI (E (Z.rem y.n.dec y.d.dec))] [pI y.d,pI (E (Z.rem y.n.dec y.d.dec))] rfl rfl rfl rfl (.nil _)))) (go2 ?_);refine rX (sk (sk (s0))) 8 [] [] (go2 ?_);refine pC (.int .i64 ((Z.signW (Z.rem x.n.dec x.d.dec)).1)) aJ (iJ (E (Z.rem x.n.dec x.d.dec)).1 (E (Z.rem x.n.dec x.d.dec)).2) rfl rfl (cg1 (fun p=>Value.int .i64 (Z.signW p).1) (cZ _)) (go2 ?_);refine pC (.int .i64 ((Z.signW (Z.rem y.n.dec y.d.dec)).1)) aJ (iJ (E (Z.rem y.n.dec y.d.dec)).1 (E (Z.rem y.n.dec y.d.dec)).2) rfl rfl (cg1 (fun p=>Value.int .i64 (Z.signW p).1) (cZ _)) (go4 ?_);refine gJv [66,67,68,69,70,71] [(71,.bool (((Z.signW (Z.rem x.n.dec x.d.dec)).1==0)||((Z.signW (Z.rem y.n.dec y.d.dec)).1==0)))] (fun K9 J9=>?_) ?_
    ·refine go3 ?_;refine sBB rfl (fun h15=>?_) (fun h15=>?_)
     ·refine go4 ?_;refine J9 _ _ pp_ s0 (bI (mS h15))
     refine go4 ?_;refine J9 _ _ pp_ s0 (bI (kX h15 rfl))
    intro g16;refine aT _ rfl (fun h17=>?_) (fun h17=>?_)
    ·refine go4 ?_;refine sV (.int .i64 ((W.sub (Z.signW (Z.rem x.n.dec x.d.dec)) (Z.signW (Z.rem y.n.dec y.d.dec))).1)) rfl rfl (sV (.int .i64 ((W.mul o (W.sub (Z.signW (Z.rem x.n.dec x.d.dec)) (Z.signW (Z.rem y.n.dec y.d.dec)))).1)) rfl rfl (go8 ?_));refine bP rfl (.inr rfl) rfl ?_;exact congrArg vS7 (show _=(jZ a b) from aN h6 (bE h7 (bE h8 ((dQ_ hinv.1 h9 h17)))))
    refine go3 ?_;refine sV (.int .i64 ((W.neg o).1)) rfl rfl (go2 ?_);refine ⟨pp_,_,_,s0,(Nat.lt_succ_self m),(W.neg o),(⟨x.d,(E (Z.rem x.n.dec x.d.dec))⟩:Rt),(⟨y.d,(E (Z.rem y.n.dec y.d.dec))⟩:Rt),m,?s7,rfl,rfl,dP_ hinv h9 h17⟩
    case s7=>rfl
  refine W_t (gD h8) rfl (go4 ?_);refine bP rfl (.inr rfl) rfl ?_;exact congrArg vS7 (show _=(jZ a b) from aN h6 (bE h7 (aN h8 rfl)))
 refine W_t (gD h7) rfl (go4 ?_);refine bP rfl (.inr rfl) rfl ?_;exact congrArg vS7 (show _=(jZ a b) from aN h6 (aN h7 rfl))
theorem z6 (a:Rt) (b:Rt) :
    Ret prog 28 [AV [pI a.n,pI a.d],AV [pI b.n,pI b.d]] (.int .i64 ((i9 a b).1)):=by
 refine cL (N:=95) func28 rfl rfl (by simp) (fun w0=>?_);simp only [bS,Nat.reduceAdd];refine go2 ?_;intro b1 hb1;refine go_ ?_;intro b2 hb2;refine go4 ?_;refine sQ (bZ aJ (i4 a) rfl) rfl (go4 ?_);refine sQ (bZ aJ (i4 b) rfl) rfl (go3 ?_);refine gJv [17,18,19,20,21,22] [(22,.bool (!(aZ a)||(!(aZ b))))] (fun K2 J2=>?_) ?_
 ·refine go3 ?_;rcases bt (aZ a) with h4 | h4
  ·refine sB (gG h4) rfl (go4 ?_);refine J2 _ _ pp_ s0 (bI (lE h4 rfl))
  refine sB (gD h4) rfl (go4 ?_);refine J2 _ _ pp_ s0 (bI (nI h4))
 intro g5;refine aT _ rfl (fun h6=>?_) (fun h6=>?_)
 ·refine rX (sk (sk (s0))) 8 [] [] (go2 ?_);refine pQ rfl (bZ aJ (tR a (aZ a)) rfl) (go2 ?_);refine pQ rfl (bZ aJ (tR b (aZ b)) rfl) ?_;obtain ⟨r7,hr7⟩:=nm ((Z.cmpW (fV a (aZ a)).dec (fV b (aZ b)).dec):W);refine pC (.int .i64 r7.1) aJ (t9 (fV a (aZ a)).1 (fV b (aZ b)).1 (fV a (aZ a)).2 (fV b (aZ b)).2) rfl rfl (by rw [hr7];first | done | rfl) (go3 ?_);refine bP rfl (.inr rfl) rfl ?_;exact (by subst hr7;exact congrArg vS7 (show _=(i9 a b) from bE h6 rfl))
 refine vK ?_;intro b8 hb8;refine go9 ?_;intro b9 hb9;refine go3 ?_;refine cO [4,7,10,11,12,40,41,42,43,44,45,46,47,48,49,50,51,52,53,54,55,56,57,58,59,60,61,62,63,64,65,66,67,68,69,70,71,72,73,74,75,76,77,78,79,80,81,82,83,84,85,86,87,88,89,90,91,92,93,94] (fun g nn M=>∃ (o:W) (x:(A2 I)) (y:(A2 I)) (k:Nat),(g 7 = .int .i64 o.1)∧M=[⟨b9,112,bK [pI y.x,pI y.y]⟩,⟨b8,112,bK [pI x.x,pI x.y]⟩,⟨b2,29,bK [pI b.n,pI b.d]⟩,⟨b1,29,bK [pI a.n,pI a.d]⟩]∧nn=k∧(cf k o x.x x.y y.x y.y=cf (cfN a.d) (wl 1) a.n a.d b.n b.d∧cfP k x.y)) ((cfN a.d)) ?start ?round
 case start =>
  refine ⟨_,s0,(wl 1),(⟨a.n,a.d⟩:(A2 I)),(⟨b.n,b.d⟩:(A2 I)),(cfN a.d),?a7,rfl,rfl,⟨rfl,WU (b6_ h6)⟩⟩
  case a7=>rfl
 case round =>
  rintro nn g M ⟨o,x,y,k,hg7,rfl,hmeas,hinv⟩;subst nn;simp only [eO,hg7];clear hg7;obtain ⟨m,rfl⟩:=O7 hinv.2;refine go6 ?_;refine sC (AV [pI (E (Z.quo x.x.dec x.y.dec))]) aJ (gS x.x.1 x.y.1 x.x.2 x.y.2) rfl rfl rfl (go_ ?_);intro b10 hb10;refine go7 ?_;refine sC (AV [pI (E (Z.quo y.x.dec y.y.dec))]) aJ (gS y.x.1 y.y.1 y.x.2 y.y.2) rfl rfl rfl (go_ ?_);intro b11 hb11;refine go5 ?_;refine sC (.int .i64 ((Z.cmpW (Z.quo x.x.dec x.y.dec) (Z.quo y.x.dec y.y.dec)).1)) aJ (t9 (E (Z.quo x.x.dec x.y.dec)).1 (E (Z.quo y.x.dec y.y.dec)).1 (E (Z.quo x.x.dec x.y.dec)).2 (E (Z.quo y.x.dec y.y.dec)).2) rfl rfl (cg2 (fun p q=>Value.int .i64 (Z.cmpW p q).1) (cZ _) (cZ _)) (go7 ?_);refine aT _ rfl (fun h12=>?_) (fun h12=>?_)
  ·refine go3 ?_;refine sV (.int .i64 ((W.mul o (Z.cmpW (Z.quo x.x.dec x.y.dec) (Z.quo y.x.dec y.y.dec))).1)) rfl rfl (go3 ?_);refine bP rfl (.inr rfl) rfl ?_;exact congrArg vS7 (show _=(i9 a b) from aN h6 ((fn_ hinv.1 h12)))
  refine go_ ?_;refine gds (sk (sk (sk (sd (sk (sk (s0))))))) [0,4,8,12,16,20,24,28,33] [8] mix (by kernel_rfl) (go6 ?_);refine pC (AV [pI (E (Z.rem x.x.dec x.y.dec))]) aJ (uB x.x.1 x.y.1 x.x.2 x.y.2) rfl rfl rfl (pQ rfl (E5 zpT arT rfl (.cons [pI x.y] [pI x.y,pI I0] rfl rfl rfl rfl (.cons [pI (E (Z.rem x.x.dec x.y.dec))] [pI x.y,pI (E (Z.rem x.x.dec x.y.dec))] rfl rfl rfl rfl (.nil _)))) (go2 ?_));refine gds (sk (sk (sd (sk (sk (sk (s0))))))) [0,4,8,12,16,20,24,28,33] [8] mix (by kernel_rfl) (go6 ?_);refine pC (AV [pI (E (Z.rem y.x.dec y.y.dec))]) aJ (uB y.x.1 y.y.1 y.x.2 y.y.2) rfl rfl rfl (pQ rfl (E5 zpT arT rfl (.cons [pI y.y] [pI y.y,pI I0] rfl rfl rfl rfl (.cons [pI (E (Z.rem y.x.dec y.y.dec))] [pI y.y,pI (E (Z.rem y.x.dec y.y.dec))] rfl rfl rfl rfl (.nil _)))) (go3 ?_));refine gJv [74,75,76,77,78,79,80,81,82,83] [(83,.bool (((Z.signW (Z.rem x.x.dec x.y.dec)).1==0)||((Z.signW (Z.rem y.x.dec y.y.dec)).1==0)))] (fun K5 J5=>?_) ?_
  ·refine go3 ?_;refine sC (.int .i64 ((Z.signW (Z.rem x.x.dec x.y.dec)).1)) aJ (eT (E (Z.rem x.x.dec x.y.dec)).1 (E (Z.rem x.x.dec x.y.dec)).2) rfl rfl (cg1 (fun p=>Value.int .i64 (Z.signW p).1) (cZ _)) (go_ ?_);refine sBB rfl (fun h14=>?_) (fun h14=>?_)
   ·refine go6 ?_;refine J5 _ _ pp_ s0 (bI (mS h14))
   refine go2 ?_;refine sC (.int .i64 ((Z.signW (Z.rem y.x.dec y.y.dec)).1)) aJ (eT (E (Z.rem y.x.dec y.y.dec)).1 (E (Z.rem y.x.dec y.y.dec)).2) rfl rfl (cg1 (fun p=>Value.int .i64 (Z.signW p).1) (cZ _)) (go3 ?_);refine J5 _ _ pp_ s0 (bI (kX h14 rfl))
  intro g15;refine aT _ rfl (fun h16=>?_) (fun h16=>?_)
  ·refine gds (sk (sk (sk (sk (sk (sk (s0))))))) [0,4,8,12,16,20,24,28,32,36] [] mix (by kernel_rfl) (go3 ?_);refine pC (.int .i64 ((Z.signW (Z.rem x.x.dec x.y.dec)).1)) aJ (eT (E (Z.rem x.x.dec x.y.dec)).1 (E (Z.rem x.x.dec x.y.dec)).2) rfl rfl (cg1 (fun p=>Value.int .i64 (Z.signW p).1) (cZ _)) (go2 ?_);refine pC (.int .i64 ((Z.signW (Z.rem y.x.dec y.y.dec)).1)) aJ (eT (E (Z.rem y.x.dec y.y.dec)).1 (E (Z.rem y.x.dec y.y.dec)).2) rfl rfl (cg1 (fun p=>Value.int .i64 (Z.signW p).1) (cZ _)) (pV (.int .i64 ((W.sub (Z.signW (Z.rem x.x.dec x.y.dec)) (Z.signW (Z.rem y.x.dec y.y.dec))).1)) rfl rfl (pV (.int .i64 ((W.mul o (W.sub (Z.signW (Z.rem x.x.dec x.y.dec)) (Z.signW (Z.rem y.x.dec y.y.dec)))).1)) rfl rfl (go3 ?_)));refine bP rfl (.inr rfl) rfl ?_;exact congrArg vS7 (show _=(i9 a b) from aN h6 ((dQ_ hinv.1 h12 h16)))
  refine go3 ?_;refine sV (.int .i64 ((W.neg o).1)) rfl rfl (go2 ?_);refine ⟨pp_,_,_,(sd (sd (s0))),(Nat.lt_succ_self m),(W.neg o),(⟨x.y,(E (Z.rem x.x.dec x.y.dec))⟩:(A2 I)),(⟨y.y,(E (Z.rem y.x.dec y.y.dec))⟩:(A2 I)),m,?s7,rfl,rfl,dP_ hinv h12 h16⟩
  case s7=>rfl
theorem IP (a:W) (b:W) :
    Ret prog 107 [.int .i64 a.1,.int .i64 b.1] (AV [pI ((qP a b).n),pI ((qP a b).d)]):=by
 refine cL (N:=10) func107 rfl rfl (by simp) (fun w0=>?_);simp only [bS,Nat.reduceAdd];refine go2 ?_;intro b1 hb1;refine go3 ?_;refine sC (AV [pI (E (Z.of a.1))]) aJ (hZ a.1 a.2) rfl rfl rfl (go_ ?_);refine sC (AV [pI (E (Z.of b.1))]) aJ (hZ b.1 b.2) rfl rfl rfl ?_;obtain ⟨r2,hr2⟩:=nm ((dJ (E (Z.of a.1)) (E (Z.of b.1))):Rt);refine sC (AV [pI r2.n,pI r2.d]) aJ (qG (E (Z.of a.1)) (E (Z.of b.1))) rfl rfl (by rw [hr2]) (go3 ?_);refine bP rfl (.inr rfl) (fQ rfl m0 tyT rfl) ?_;exact (by subst hr2;rfl)
theorem uV (a:I) :
    Ret prog 150 [AV [pI a]] (AV [pI (gK a)]):=by
 refine cL (N:=4) func150 rfl rfl (by simp) (fun w0=>?_);simp only [bS,Nat.reduceAdd];refine go2 ?_;intro b1 hb1;refine go_ ?_;intro b2 hb2;refine go6 ?_;refine bP rfl (.inr rfl) (fQ rfl m0 tyT rfl) ?_;exact (by rfl)
theorem xH (a:I) :
    Ret prog 90 [AV [pI a]] (.bool (n7 a)):=by
 refine cL (N:=10) func90 rfl rfl (by simp) (fun w0=>?_);simp only [bS,Nat.reduceAdd];refine go2 ?_;intro b1 hb1;refine go2 ?_;refine gJv [2,3,4,5,6,7,8,9] [(2,.bool (!a.1.bad&&a.1.valid))] (fun K1 J1=>?_) ?_
 ·refine go4 ?_;rcases bt a.1.bad with h3 | h3
  ·refine sB (gG h3) rfl (go5 ?_);refine J1 _ _ pp_ s0 (bI (xF h3))
  refine sB (gD h3) rfl (go_ ?_);refine sC (.bool a.1.valid) aJ (vE a.1 a.2) rfl rfl rfl (go3 ?_);refine J1 _ _ pp_ s0 (bI (o6 h3 rfl))
 intro g4;refine go_ ?_;refine bP rfl (.inr rfl) rfl ?_;exact (by rfl)
theorem kY  (w:World)  :
    Calls prog 108 [].toArray w (fun e w'=>∃ v,e = .returned (v)∧Ext w w'∧Slo w.heap.size w' 27 elI v F_poly_bad):=by
 refine e8 (n:=3) (fun v=>v) func108 rfl rfl (by simp) ?_;obtain ⟨w0,rfl⟩:∃ w0,w0=w:=⟨_,rfl⟩;simp only [bS,Nat.reduceAdd];obtain ⟨q0,hq0⟩:=nm ((E Z.bad):I);refine go4 ?_;refine sC (AV [pI q0]) aJ jF rfl rfl (by subst hq0;rfl) (bJ rfl (fJ [[pI q0]] [pI q0] zP lH nN rfl dd_ rfl rfl ⟨rfl,rfl,rfl,trivial⟩ rfl (fun b1 hb1=>go3 ?_)));refine bP rfl (.inr rfl) rfl ?_
 have hE:([q0]:(List I))=F_poly_bad:=by obtain rfl:=hq0.symm;exact rfl
 rw [← hE];exact ⟨_,rfl,⟨_,(sk sn),OwnG.lit (e:=elI) (l:=[q0]) (qs:=[pI q0]) hb1 rfl (Nat.le_of_ble_eq_true rfl) rfl⟩⟩
theorem tJ (n:Int) (vf:Value) (f:Nat→I) (vo:Value) (o:I→I) (w:World) (hf:FnV prog w vf eN (fun k=>(k:Int)<n) (b8_ f)) (ho:FnV prog w vo eI (fun _=>True) (b8_ o)) (hpre:n≤200) :
    Calls prog 148 [.int .i64 n,vf,vo].toArray w (fun e w'=>∃ v,e = .returned (v)∧Ext w w'∧Slo w.heap.size w' 27 elI v (gY n f o)):=by
 obtain ⟨g_f,c_f,rfl,Hf⟩:=hf.open;obtain ⟨g_o,c_o,rfl,Ho⟩:=ho.open;refine e8 (n:=55) (fun v=>v) func148 rfl rfl (by simp) ?_;obtain ⟨w0,rfl⟩:∃ w0,w0=w:=⟨_,rfl⟩;simp only [bS,Nat.reduceAdd];refine go5 ?_;refine sQ (aV (v':=.int .i64 (((n).toNat:Nat):Int)) (IL rfl rfl) (congrArg (Value.int .i64) oo_)) rfl (bJ rfl (N1 (E:=27) (e:=elI) (n:=0) (c:=(n).toNat) 68 I0 zP (by kernel_rfl) dd_ (by kernel_rfl) rfl rfl oo_ oo_ oo_ oo_ dd_ dd_ (fun p1 L2 hO3=>go5 ?_)));refine sQ (aV (v':=.int .i64 (((n).toNat:Nat):Int)) (IL rfl rfl) (congrArg (Value.int .i64) oo_)) rfl (go2 ?_);refine gJ3 [6,7,8,9,15,16,17,18,19,20,21,22,23,24,25,26,27,28,29,30,31] (fun g M=>∃ (out:List I) (i:Nat) (p_out:Option Addr) (c_out:Nat) (L_out:List Blk),(kZ n f o ((n.toNat+1)) ([]:List I) 0) = .inl (out,i)∧(g 7 = .slice p_out out.length c_out∧g 15 = .int .i64 ((i:Nat):Int)∧OwnG w0 27 elI (.slice p_out out.length c_out) out L_out)∧M=(L_out ++ [])) (fun K_u4 hK_u4=>?_) ?_
 ·refine go_ ?_;refine cO [6,7,8,9,15,16,17,18,19,20,21,22,23,24,25,26,27,28,29,30,31] (fun g nn M=>∃ (out:List I) (i:Nat) (p_out:Option Addr) (c_out:Nat) (L_out:List Blk),(kZ n f o nn out i)=(kZ n f o ((n.toNat+1)) ([]:List I) 0)∧n.toNat - i<nn∧(i≤n.toNat∧out.length=i)∧(g 7 = .slice p_out out.length c_out∧g 15 = .int .i64 ((i:Nat):Int)∧OwnG w0 27 elI (.slice p_out out.length c_out) out L_out)∧M=(L_out ++ [])) ((n.toNat+1)) ?start ?round
  case start=>exact ⟨_,s0,([]:List I),0,p1,((n).toNat),L2,rfl,o1_,⟨by omega,rfl⟩,⟨rfl,rfl,hO3⟩,rfl⟩
  case round =>
   rintro nn g M ⟨out,i,p_out,c_out,L_out,hT0,hq0,hinv0,⟨hg7,hg15,hO_out⟩,rfl⟩;obtain ⟨k0,rfl⟩:∃ m,nn=m+1:=⟨nn - 1,by omega⟩;simp only [eO,hg7,hg15];clear hg7 hg15;have hm_out:=OwnG.max hO_out;refine go4 ?_;refine aT _ rfl (fun h29=>?_) (fun h29=>?_)
   ·have ph29:=of_decide_eq_true h29;refine vK ?_;refine sQ (aV (v':=AV [pI (f i)]) (an_ (x:=i) rfl rfl (FnE.sub Hf sn) (by show ((i:Nat):Int)<n;omega)) rfl) rfl (sQ (aV (v':=AV [pI (o (f i))]) (an_ (x:=(f i)) rfl rfl (FnE.sub Ho sn) trivial) rfl) rfl (go_ ?_));intro b30 hb30;refine go5 ?_;refine sQ (bZ aJ (xH (o (f i))) rfl) rfl (go2 ?_);rcases bt (n7 (o (f i))) with h31 | h31
    ·refine W_f (gG h31) rfl (go4 ?_);refine bJ rfl (fJ [[pI (o (f i))]] [pI (o (f i))] zP lH nN rfl dd_ rfl rfl ⟨rfl,rfl,rfl,trivial⟩ rfl (fun b32 hb32=>bJ rfl (lX (e:=elI) (l:=out) (m:=[(o (f i))]) 68 zP (by kernel_rfl) dd_ rfl rfl hO_out (SLe.lit (e:=elI) (l:=[(o (f i))]) m0 rfl (Nat.le_of_ble_eq_true rfl) rfl) (cV (cV oY)) (by show (out.length+1) * 68≤_;omega) dd_ (fun p33 c34 L35 hO36=>go3 ?_))));refine sV (.int .i64 (((i+1):Nat):Int)) rfl (congrArg (Value.int .i64) (wx oo_ oo_ oo_)) (go2 ?_);refine ⟨pp_,_,_,(sA (sd (sd (s0)))),(Nat.lt_succ_self _),(out ++ [(o (f i))]),(i+1),p33,c34,L35,(by exact (hT0.symm.trans (Eq.symm (bE h29 (bE h31 rfl)))).symm),(Nat.lt_of_lt_of_le o1_ (Nat.le_of_lt_succ hq0)),⟨by omega,(by rw [List.length_append];show _+1=_;omega)⟩,⟨rfl,rfl,hO36⟩,rfl⟩
    refine W_t (gD h31) rfl (go_ ?_);refine bJ rfl (cP (E:=27) (e:=elI) (l:=F_poly_bad) (fun v=>v) aJ rfl (fun w hw=>kY  w) (fun p37 c38 L39 hF40=>go3 ?_));refine bP rfl (.inr rfl) rfl ?_
    have hE:(F_poly_bad:(List I))=(gY n f o):=by exact (rG rfl (hT0.symm.trans (Eq.symm (bE h29 (aN h31 rfl)))))
    rw [← hE];exact ⟨_,rfl,⟨L39,lZ,hF40⟩⟩
   have ph29:=of_decide_eq_false h29;refine go_ ?_;refine hK_u4 _ _ pp_ ⟨_,s0,out,i,p_out,c_out,L_out,(by exact hT0.symm.trans (Eq.symm (aN h29 rfl))),⟨rfl,rfl,hO_out⟩,rfl⟩
 rintro g M ⟨out,i,p_out,c_out,L_out,hCu4,⟨hg7,hg15,hO_out⟩,rfl⟩;simp only [eO,hg7,hg15];clear hg7 hg15;have hm_out:=OwnG.max hO_out;refine rV [7,32,33,34,35,36,37,38,39,40,41,42,43,44,45,46,47,48,49] (fun g M=>∃ (cut:List I) (p_cut:Option Addr) (c_cut:Nat) (L_cut:List Blk),(lA n f o out i ((out.length+1)) out)=cut∧(g 7 = .slice p_cut cut.length c_cut∧OwnG w0 27 elI (.slice p_cut cut.length c_cut) cut L_cut)∧M=(L_cut ++ [])) (fun K_u41 hK_u41=>?_) ?_
 ·refine go_ ?_;refine cO [7,32,33,34,35,36,37,38,39,40,41,42,43,44,45,46,47,48,49] (fun g nn M=>∃ (cut:List I) (p_cut:Option Addr) (c_cut:Nat) (L_cut:List Blk),(lA n f o out i nn cut)=(lA n f o out i ((out.length+1)) out)∧cut.length<nn∧(True)∧(g 7 = .slice p_cut cut.length c_cut∧OwnG w0 27 elI (.slice p_cut cut.length c_cut) cut L_cut)∧M=(L_cut ++ [])) ((out.length+1)) ?start ?round
  case start=>exact ⟨_,s0,out,p_out,c_out,L_out,rfl,(Nat.lt_succ_self _),trivial,⟨rfl,hO_out⟩,rfl⟩
  case round =>
   rintro nn g M ⟨cut,p_cut,c_cut,L_cut,hT1,hq1,hinv1,⟨hg7,hO_cut⟩,rfl⟩;obtain ⟨k1,rfl⟩:∃ m,nn=m+1:=⟨nn - 1,by omega⟩;simp only [eO,hg7];clear hg7;have hm_cut:=OwnG.max hO_cut;refine go_ ?_;refine gJv [32,33,34,35,36,37,38,39,40,41,42,43,44] [(44,.bool (decide (0<(((cut).length:Nat):Int))&&((Z.signW (cut.getD ((cut).length - 1) I0).dec).1==0)))] (fun K14 J14=>?_) ?_
   ·refine go2 ?_;refine sQ (aV (v':=.int .i64 (((cut).length:Nat):Int)) (dO (e:=elI) dZ rfl (rO hO_cut lZ)) rfl) rfl (go_ ?_);refine sBB rfl (fun h48=>?_) (fun h48=>?_)
    ·have ph48:=of_decide_eq_true h48;refine go2 ?_;refine sQ (aV (v':=.int .i64 (((cut).length:Nat):Int)) (dO (e:=elI) dZ rfl (rO hO_cut lZ)) rfl) rfl (sV (.int .i64 ((((cut).length:Nat):Int) - 1)) rfl (congrArg (Value.int .i64) (wx oo_ oo_ oo_)) (sQ (aV (v':=.pointer (some (slb (.slice p_cut cut.length c_cut) (((cut).length - 1) * 18+0)))) (lC (e:=elI) (l:=cut) (k:=((cut).length - 1)) dZ rfl rfl oo_ (rO hO_cut lZ) o2_) rfl) rfl ?_));refine sQ (jI (e:=elI) (l:=cut) (k:=((cut).length - 1)) (o:=0) tyT rfl (rO hO_cut lZ) (dC I0 o2_) rfl) rfl ?_;refine sC (.int .i64 ((Z.signW (cut.getD ((cut).length - 1) I0).dec).1)) aJ (iJ (cut.getD ((cut).length - 1) I0).1 (cut.getD ((cut).length - 1) I0).2) rfl rfl rfl (go3 ?_);refine J14 _ _ pp_ s0 (bI (cU h48 rfl))
    have ph48:=of_decide_eq_false h48;refine oS ?_;refine J14 _ _ pp_ s0 (bI (iQ h48))
   intro g49;refine aT _ rfl (fun h50=>?_) (fun h50=>?_)
   ·have ph51:=of_decide_eq_true (Bool.and_eq_true_iff.1 h50).1;refine go5 ?_;refine sQ (aV (v':=.int .i64 (((cut).length:Nat):Int)) (dO (e:=elI) dZ rfl (rO hO_cut lZ)) rfl) rfl (sV (.int .i64 ((((cut).length:Nat):Int) - 1)) rfl (congrArg (Value.int .i64) (wx oo_ oo_ oo_)) (sQ (cb_ (e:=elI) (l:=cut) (k:=((cut).length - 1)) dZ rfl rfl oo_ hO_cut oo_) rfl (go2 ?_)));refine ⟨pp_,_,_,s0,(Nat.lt_succ_self _),(cut.take ((cut).length - 1)),p_cut,c_cut,L_cut,(by exact (hT1.symm.trans (Eq.symm (bE h50 rfl))).symm),(Nat.lt_of_lt_of_le (by rw [List.length_take];omega) (Nat.le_of_lt_succ hq1)),trivial,⟨rfl,(OwnG.take hO_cut oo_)⟩,rfl⟩
   refine go_ ?_;refine hK_u41 _ _ pp_ ⟨_,s0,cut,p_cut,c_cut,L_cut,(by exact hT1.symm.trans (Eq.symm (aN h50 rfl))),⟨rfl,hO_cut⟩,rfl⟩
 rintro g M ⟨cut,p_cut,c_cut,L_cut,hCu41,⟨hg7,hO_cut⟩,rfl⟩;simp only [eO,hg7];clear hg7;have hm_cut:=OwnG.max hO_cut;refine go3 ?_;refine sQ (aV (v':=.int .i64 (((cut).length:Nat):Int)) (dO (e:=elI) dZ rfl (rO hO_cut lZ)) rfl) rfl (go2 ?_);refine aT _ rfl (fun h52=>?_) (fun h52=>?_)
 ·have ph52:=of_decide_eq_true h52;refine go_ ?_;refine bJ rfl (cP (E:=27) (e:=elI) (l:=F_poly_bad) (fun v=>v) aJ rfl (fun w hw=>kY  w) (fun p53 c54 L55 hF56=>go3 ?_));refine bP rfl (.inr rfl) rfl ?_
  have hE:(F_poly_bad:(List I))=(gY n f o):=by exact trs (Eq.symm (smS hCu4)) (trs (Eq.symm (apS hCu41)) (bE h52 rfl))
  rw [← hE];exact ⟨_,rfl,⟨L55,lZ,hF56⟩⟩
 have ph52:=of_decide_eq_false h52;refine go6 ?_;refine bP rfl (.inr rfl) rfl ?_
 have hE:(cut:(List I))=(gY n f o):=by exact trs (Eq.symm (smS hCu4)) (trs (Eq.symm (apS hCu41)) (aN h52 rfl))
 rw [← hE];exact ⟨_,rfl,⟨L_cut,lZ,hO_cut⟩⟩
theorem JR (vl:Value) (l:(List I)) (vf:Value) (f:I→Bool) (w:World) (hl:Slr w elI vl l) (hf:FnV prog w vf eI (fun _=>True) (b7_ f)) :
    Calls prog 139 [vl,vf].toArray w (fun e w'=>e = .returned (.int .i64 ((rZ l f).1))∧Ext w w'):=by
 obtain ⟨p_l,c_l,rfl⟩:=hl.form;obtain ⟨g_f,c_f,rfl,Hf⟩:=hf.open;refine cT (N:=19) func139 rfl rfl (by simp) ?_;obtain ⟨w0,rfl⟩:∃ w0,w0=w:=⟨_,rfl⟩;have Hl:=hl.old;have hm_l:=hl.max;simp only [bS,Nat.reduceAdd];refine go6 ?_;refine sQ (aV (v':=.int .i64 (((l).length:Nat):Int)) (dO (e:=elI) dZ rfl (SLe.sub Hl sn)) rfl) rfl (go2 ?_);refine gJ3 [4,5,8,9,10,11,12,13,14,15,16,17,18] (fun g M=>∃ (i:Nat),(kO l f ((l.length+1)) 0) = .inl i∧(g 8 = .int .i64 ((i:Nat):Int))∧M=[]) (fun K_u1 hK_u1=>?_) ?_
 ·refine go_ ?_;refine cO [4,5,8,9,10,11,12,13,14,15,16,17,18] (fun g nn M=>∃ (i:Nat),(kO l f nn i)=(kO l f ((l.length+1)) 0)∧l.length - i<nn∧(i≤l.length)∧(g 8 = .int .i64 ((i:Nat):Int))∧M=[]) ((l.length+1)) ?start ?round
  case start=>exact ⟨_,s0,0,rfl,o1_,o1_,rfl,rfl⟩
  case round =>
   rintro nn g M ⟨i,hT0,hq0,hinv0,hg8,rfl⟩;obtain ⟨k0,rfl⟩:∃ m,nn=m+1:=⟨nn - 1,by omega⟩;simp only [eO,hg8];clear hg8;refine go4 ?_;refine aT _ rfl (fun h6=>?_) (fun h6=>?_)
   ·have ph6:=of_decide_eq_true h6;refine vK ?_;refine sQ (aV (v':=.pointer (some (slb (.slice p_l l.length c_l) (i * 18+0)))) (jT (e:=elI) (l:=l) (k:=i) dZ rfl rfl (SLe.sub Hl sn) o2_) rfl) rfl ?_;refine sQ (jI (e:=elI) (l:=l) (k:=i) (o:=0) tyT rfl (SLe.sub Hl sn) (dC I0 o2_) rfl) rfl ?_;refine sQ (aV (v':=.bool (f (l.getD i I0))) (an_ (x:=(l.getD i I0)) rfl rfl (FnE.sub Hf sn) trivial) rfl) rfl (go_ ?_);refine aT _ rfl (fun h7=>?_) (fun h7=>?_)
    ·refine go5 ?_;refine bP rfl (.inr rfl) rfl ?_;refine (show (.int .i64 ((i:Nat):Int):Value) = .int .i64 ((W.cv ((i:Nat):Int)).1) by simp only [cvE (t:=((i:Nat):Int)) oo_]).trans ?_;exact congrArg vS7 (show _=(rZ l f) from (rG rfl (hT0.symm.trans (Eq.symm (bE h6 (bE h7 rfl))))))
    refine go2 ?_;refine sV (.int .i64 (((i+1):Nat):Int)) rfl (congrArg (Value.int .i64) (wx oo_ oo_ oo_)) (go2 ?_);refine ⟨pp_,_,_,s0,(Nat.lt_succ_self _),(i+1),(by exact (hT0.symm.trans (Eq.symm (bE h6 (aN h7 rfl)))).symm),(Nat.lt_of_lt_of_le o1_ (Nat.le_of_lt_succ hq0)),o1_,rfl,rfl⟩
   have ph6:=of_decide_eq_false h6;refine go_ ?_;refine hK_u1 _ _ pp_ ⟨_,s0,i,(by exact hT0.symm.trans (Eq.symm (aN h6 rfl))),rfl,rfl⟩
 rintro g M ⟨i,hCu1,hg8,rfl⟩;simp only [eO,hg8];clear hg8;refine go4 ?_;refine bP rfl (.inr rfl) rfl ?_;exact congrArg vS7 (show _=(rZ l f) from trs (Eq.symm (smS hCu1)) rfl)
theorem EN (vl:Value) (l:(List I)) (vf:Value) (f:I→Bool) (w:World) (hl:Slr w elI vl l) (hf:FnV prog w vf eI (fun _=>True) (b7_ f)) :
    Calls prog 88 [vl,vf].toArray w (fun e w'=>e = .returned (.bool (pX l f))∧Ext w w'):=by
 obtain ⟨p_l,c_l,rfl⟩:=hl.form;obtain ⟨g_f,c_f,rfl,Hf⟩:=hf.open;refine cT (N:=9) func88 rfl rfl (by simp) ?_;obtain ⟨w0,rfl⟩:∃ w0,w0=w:=⟨_,rfl⟩;have Hl:=hl.old;have hm_l:=hl.max;simp only [bS,Nat.reduceAdd];refine go6 ?_;refine sQ (aV (v':=.int .i64 ((rZ l f).1)) (bN aJ rfl (fun w hw=>JR _ l _ f w (aR hw Hl sn) (FnE.ap hw (FnE.sub Hf sn)))) rfl) rfl (go4 ?_);refine bP rfl (.inr rfl) rfl ?_;exact (by rfl)
theorem EZ (a:I) :
    Ret prog 89 [AV [pI a]] (.bool (sW a)):=by
 refine cL (N:=6) func89 rfl rfl (by simp) (fun w0=>?_);simp only [bS,Nat.reduceAdd];refine go2 ?_;intro b1 hb1;refine go4 ?_;refine sQ (bZ aJ (xH a) rfl) rfl (go4 ?_);refine bP rfl (.inr rfl) rfl ?_;exact (by rfl)
theorem fF (vp:Value) (p:(List I)) (w:World) (hp:Slr w elI vp p) :
    Calls prog 43 [vp].toArray w (fun e w'=>e = .returned (.bool (aU p))∧Ext w w'):=by
 obtain ⟨p_p,c_p,rfl⟩:=hp.form;refine cT (N:=5) func43 rfl rfl (by simp) ?_;obtain ⟨w0,rfl⟩:∃ w0,w0=w:=⟨_,rfl⟩;have Hp:=hp.old;have hm_p:=hp.max;simp only [bS,Nat.reduceAdd];refine go5 ?_;refine sQ (aV (v':=.bool (pX p (fun (y:I)=>(sW y)))) (bN aJ rfl (fun w hw=>EN _ p _ (fun (y:I)=>(sW y)) w (aR hw Hp sn) (FnV.mk hw aJ (fun w hw x hx=>(EZ x) w)))) rfl) rfl (go3 ?_);refine bP rfl (.inr rfl) rfl ?_;exact (by rfl)
theorem HY (vl:Value) (l:(List Rt)) (vf:Value) (f:Rt→Bool) (w:World) (hl:Slr w M8 vl l) (hf:FnV prog w vf eRt (fun _=>True) (b7_ f)) :
    Calls prog 182 [vl,vf].toArray w (fun e w'=>e = .returned (.int .i64 ((qO l f).1))∧Ext w w'):=by
 obtain ⟨p_l,c_l,rfl⟩:=hl.form;obtain ⟨g_f,c_f,rfl,Hf⟩:=hf.open;refine cT (N:=19) func182 rfl rfl (by simp) ?_;obtain ⟨w0,rfl⟩:∃ w0,w0=w:=⟨_,rfl⟩;have Hl:=hl.old;have hm_l:=hl.max;simp only [bS,Nat.reduceAdd];refine go6 ?_;refine sQ (aV (v':=.int .i64 (((l).length:Nat):Int)) (dO (e:=M8) aM_ rfl (SLe.sub Hl sn)) rfl) rfl (go2 ?_);refine gJ3 [4,5,8,9,10,11,12,13,14,15,16,17,18] (fun g M=>∃ (i:Nat),(mE l f ((l.length+1)) 0) = .inl i∧(g 8 = .int .i64 ((i:Nat):Int))∧M=[]) (fun K_u1 hK_u1=>?_) ?_
 ·refine go_ ?_;refine cO [4,5,8,9,10,11,12,13,14,15,16,17,18] (fun g nn M=>∃ (i:Nat),(mE l f nn i)=(mE l f ((l.length+1)) 0)∧l.length - i<nn∧(i≤l.length)∧(g 8 = .int .i64 ((i:Nat):Int))∧M=[]) ((l.length+1)) ?start ?round
  case start=>exact ⟨_,s0,0,rfl,o1_,o1_,rfl,rfl⟩
  case round =>
   rintro nn g M ⟨i,hT0,hq0,hinv0,hg8,rfl⟩;obtain ⟨k0,rfl⟩:∃ m,nn=m+1:=⟨nn - 1,by omega⟩;simp only [eO,hg8];clear hg8;refine go4 ?_;refine aT _ rfl (fun h6=>?_) (fun h6=>?_)
   ·have ph6:=of_decide_eq_true h6;refine vK ?_;refine sQ (aV (v':=.pointer (some (slb (.slice p_l l.length c_l) (i * 36+0)))) (jT (e:=M8) (l:=l) (k:=i) aM_ rfl rfl (SLe.sub Hl sn) o2_) rfl) rfl ?_;refine sQ (jI (e:=M8) (l:=l) (k:=i) (o:=0) tyT rfl (SLe.sub Hl sn) (dC Rt0 o2_) rfl) rfl ?_;refine sQ (aV (v':=.bool (f (l.getD i Rt0))) (an_ (x:=(l.getD i Rt0)) rfl rfl (FnE.sub Hf sn) trivial) rfl) rfl (go_ ?_);refine aT _ rfl (fun h7=>?_) (fun h7=>?_)
    ·refine go5 ?_;refine bP rfl (.inr rfl) rfl ?_;refine (show (.int .i64 ((i:Nat):Int):Value) = .int .i64 ((W.cv ((i:Nat):Int)).1) by simp only [cvE (t:=((i:Nat):Int)) oo_]).trans ?_;exact congrArg vS7 (show _=(qO l f) from (rG rfl (hT0.symm.trans (Eq.symm (bE h6 (bE h7 rfl))))))
    refine go2 ?_;refine sV (.int .i64 (((i+1):Nat):Int)) rfl (congrArg (Value.int .i64) (wx oo_ oo_ oo_)) (go2 ?_);refine ⟨pp_,_,_,s0,(Nat.lt_succ_self _),(i+1),(by exact (hT0.symm.trans (Eq.symm (bE h6 (aN h7 rfl)))).symm),(Nat.lt_of_lt_of_le o1_ (Nat.le_of_lt_succ hq0)),o1_,rfl,rfl⟩
   have ph6:=of_decide_eq_false h6;refine go_ ?_;refine hK_u1 _ _ pp_ ⟨_,s0,i,(by exact hT0.symm.trans (Eq.symm (aN h6 rfl))),rfl,rfl⟩
 rintro g M ⟨i,hCu1,hg8,rfl⟩;simp only [eO,hg8];clear hg8;refine go4 ?_;refine bP rfl (.inr rfl) rfl ?_;exact congrArg vS7 (show _=(qO l f) from trs (Eq.symm (smS hCu1)) rfl)
theorem C6 (vl:Value) (l:(List Rt)) (vf:Value) (f:Rt→Bool) (w:World) (hl:Slr w M8 vl l) (hf:FnV prog w vf eRt (fun _=>True) (b7_ f)) :
    Calls prog 164 [vl,vf].toArray w (fun e w'=>e = .returned (.bool (rT l f))∧Ext w w'):=by
 obtain ⟨p_l,c_l,rfl⟩:=hl.form;obtain ⟨g_f,c_f,rfl,Hf⟩:=hf.open;refine cT (N:=9) func164 rfl rfl (by simp) ?_;obtain ⟨w0,rfl⟩:∃ w0,w0=w:=⟨_,rfl⟩;have Hl:=hl.old;have hm_l:=hl.max;simp only [bS,Nat.reduceAdd];refine go6 ?_;refine sQ (aV (v':=.int .i64 ((qO l f).1)) (bN aJ rfl (fun w hw=>HY _ l _ f w (aR hw Hl sn) (FnE.ap hw (FnE.sub Hf sn)))) rfl) rfl (go4 ?_);refine bP rfl (.inr rfl) rfl ?_;exact (by rfl)
theorem GA (a:Rt) :
    Ret prog 165 [AV [pI a.n,pI a.d]] (.bool (oJ a)):=by
 refine cL (N:=6) func165 rfl rfl (by simp) (fun w0=>?_);simp only [bS,Nat.reduceAdd];refine go2 ?_;intro b1 hb1;refine go4 ?_;refine sQ (bZ aJ (mT a) rfl) rfl (go4 ?_);refine bP rfl (.inr rfl) rfl ?_;exact (by rfl)
theorem xG (vl:Value) (l:(List Rt)) (w:World) (hl:Slr w M8 vl l) :
    Calls prog 112 [vl].toArray w (fun e w'=>e = .returned (.bool (lY l))∧Ext w w'):=by
 obtain ⟨p_l,c_l,rfl⟩:=hl.form;refine cT (N:=6) func112 rfl rfl (by simp) ?_;obtain ⟨w0,rfl⟩:∃ w0,w0=w:=⟨_,rfl⟩;have Hl:=hl.old;have hm_l:=hl.max;simp only [bS,Nat.reduceAdd];refine go5 ?_;refine sQ (aV (v':=.bool (rT l (fun (y:Rt)=>(oJ y)))) (bN aJ rfl (fun w hw=>C6 _ l _ (fun (y:Rt)=>(oJ y)) w (aR hw Hl sn) (FnV.mk hw aJ (fun w hw x hx=>(GA x) w)))) rfl) rfl (go4 ?_);refine bP rfl (.inr rfl) rfl ?_;exact (by rfl)
end Go.Proofs.YtokjfhfiodopdaaGreat
