/- Lemmas: what they ask stands in their statements. -/
import Derived.Test.YtokjfhfiodopdaaGreatWRe
import Derived.Test.YtokjfhfiodopdaaGreatWYs
set_option linter.unusedSimpArgs false
set_option linter.unusedVariables false
set_option maxHeartbeats 8000000
set_option maxRecDepth 20000
namespace Go.Proofs.YtokjfhfiodopdaaGreat
open Go.Kn Go.Num Tryz
attribute [local irreducible] Go.Kn.W WL PL OpQ OpR OpS
theorem B7 (vp:Value) (p:(List I)) (a:Rt) (b:Rt) (w:World) (hp:Slr w elI vp p) (hpre:Rgt p∧p.length≤100) :
    Calls prog 16 [vp,AV [pI a.n,pI a.d],AV [pI b.n,pI b.d]].toArray w (fun e w'=>∃ v,e = .returned (.tuple #[v,.int .i64 (((iX p a b).2).1)])∧Ext w w'∧Slo w.heap.size w' 49 z6 v (iX p a b).1):=by
 obtain ⟨p_p,c_p,rfl⟩:=hp.form;refine fF (n:=39) (fun v=>.tuple #[v,.int .i64 (((iX p a b).2).1)]) func16 rfl rfl (by simp) ?_;obtain ⟨w0,rfl⟩:∃ w0,w0=w:=⟨_,rfl⟩;have Hp:=hp.old;have hm_p:=hp.max;simp only [bK,Nat.reduceAdd];refine go2 ?_;intro b1 hb1;refine go_ ?_;intro b2 hb2;refine go4 ?_;refine gJv [12,13,14,15,16,17,18,19,20,21,22,23,24] [(24,.bool ((aT p)||(((((p).length:Nat):Int)==0)||(!(kJ a b)))))] (fun K2 J2=>?_) ?_
 ·refine go2 ?_;refine sQ (aS (v':=.bool (aT p)) (bE aJ rfl (fun w hw=>eG _ p w (aR hw Hp sn))) rfl) rfl ?_;refine sBB rfl (fun h5=>?_) (fun h5=>?_)
  ·refine vK ?_;refine J2 _ _ pp_ s0 (aZ (lX h5))
  refine go_ ?_;refine sQ (aS (v':=.int .i64 (((p).length:Nat):Int)) (dW (e:=elI) d9 rfl (SLe.sub Hp sn)) rfl) rfl (go2 ?_);refine sBB rfl (fun h6=>?_) (fun h6=>?_)
  ·have ph6:=tR h6;refine go6 ?_;refine J2 _ _ pp_ s0 (aZ (kE h5 (lX h6)))
  have ph6:=nJ h6;refine go2 ?_;refine sQ (bM aJ (uT a b) rfl) rfl (go3 ?_);refine J2 _ _ pp_ s0 (aZ (kE h5 (kE h6 rfl)))
 intro g7;refine aQ _ rfl (fun h8=>?_) (fun h8=>?_)
 ·refine go5 ?_;refine iY rfl (.inr rfl) rfl rfl ?_
  have hE:((([]:List Iv),(wl 1)):(List Iv)×W)=(iX p a b):=by exact aW h8 rfl
  rw [← hE];exact ⟨_,rfl,⟨[],sn,OwnG.nil⟩⟩
 have ph9:=nJ (Bool.or_eq_false_iff.1 (Bool.or_eq_false_iff.1 h8).2).1;refine go3 ?_;refine bC rfl (t6 (D:=elLL) (l:=(aI p).1) (fun v=>.tuple #[v,.bool ((aI p).2)]) aJ rfl (fun w hw=>lT _ p w (aR hw Hp sn) (by with_reducible first | assumption | exact ⟨hpre.1,by omega⟩ | exact ⟨by assumption,by omega⟩ | exact hpre.1 | exact hpre.2)) (fun p10 c11 L12 hF13=>?_));have hb14:=(lK p);refine go4 ?_;intro b15 hb15;refine go_ ?_;intro b16 hb16;refine go5 ?_;intro b17 hb17;refine go2 ?_;refine bC rfl (iB (qs:=[WV]) zpT (fun b18 hb18=>?_));refine go2 ?_;refine sQ (uS rfl rfl) rfl (sS [cfn 50 [.pointer (some ⟨b15,0,none⟩),.pointer (some ⟨b16,0,none⟩),.pointer (some ⟨b17,0,none⟩),.pointer (some ⟨b18,0,none⟩)]] tyT rfl rfl rfl rfl rfl uH rfl hb18 (go5 ?_));refine aQ _ rfl (fun h19=>?_) (fun h19=>?_)
 ·refine go4 ?_;refine bC rfl (OpR.perm (Frq.pc (bX (bX gH)) (Frq.pc (bX gH) (Frq.pa eN_ (Frq.pc (bX gH) (Frq.pc gH (List.Perm.refl _)))))) (t7 aJ rfl rfl (fun w hw=>by have hx:=z9 w0 _ _ _ _ hb16 hb17 _ _ ((aI p).1) (by with_reducible assumption) 601 _ a b 0 ((aI p).2) none 0 ([]:List Iv) [] (SLf2.sle (SLf2.sub hF13 lZ)) (OwnG.nil) oo_ oo_ (HY p _ _ hpre h19) w hw;exact hx) (fun r M' hback=>?_)));obtain ⟨rfl,p20,c21,L22,hF23,rfl⟩:=hback;refine go_ ?_;refine pW (sk (sk (sA (sd (sd (sR (sd (sd (s0))))))))) ?_;refine go5 ?_;rcases bt ((aU ((aI p).1) 601 a b 0 ((aI p).2) ([]:List Iv)).1) with h24 | h24
  ·refine W_f (fY h24) rfl (go7 ?_);refine iY rfl (.inr rfl) rfl rfl ?_
   have hE:(((aU ((aI p).1) 601 a b 0 ((aI p).2) ([]:List Iv)).2,(wl 0)):(List Iv)×W)=(iX p a b):=by exact aM h8 (aW h19 (aW h24 rfl))
   rw [← hE];exact ⟨_,rfl,⟨L22,(sd (sd lZ)),hF23⟩⟩
  refine W_t (fP h24) rfl (go5 ?_);refine iY rfl (.inr rfl) rfl rfl ?_
  have hE:((([]:List Iv),(wl 30)):(List Iv)×W)=(iX p a b):=by exact aM h8 (aW h19 (aM h24 rfl))
  rw [← hE];exact ⟨_,rfl,⟨[],sn,OwnG.nil⟩⟩
 refine go_ ?_;refine pW (sd (sk (sk (sd (sR (sd (sd (s0)))))))) ?_;refine go5 ?_;refine W_t (fP h19) rfl (go5 ?_);refine iY rfl (.inr rfl) rfl rfl ?_
 have hE:((([]:List Iv),(wl 30)):(List Iv)×W)=(iX p a b):=by exact aM h8 (aM h19 rfl)
 rw [← hE];exact ⟨_,rfl,⟨[],sn,OwnG.nil⟩⟩
theorem dX (vp:Value) (p:(List I)) (a:Rt) (b:Rt) (w:World) (hp:Slr w elI vp p) (hpre:Rgt p∧p.length≤100) :
    Calls prog 23 [vp,AV [pI a.n,pI a.d],AV [pI b.n,pI b.d]].toArray w (fun e w'=>e = .returned (.tuple #[.bool ((aD p a b).1),.int .i64 (((aD p a b).2).1)])∧Ext w w'):=by
 obtain ⟨p_p,c_p,rfl⟩:=hp.form;refine cQ (N:=97) func23 rfl rfl (by simp) ?_;obtain ⟨w0,rfl⟩:∃ w0,w0=w:=⟨_,rfl⟩;have Hp:=hp.old;have hm_p:=hp.max;simp only [bK,Nat.reduceAdd];refine go2 ?_;intro b1 hb1;refine go_ ?_;intro b2 hb2;refine go_ ?_;intro b3 hb3;refine go4 ?_;refine gJv [20,21,22,23,24,25,26,27] [(27,.bool ((aT p)||(!(kJ a b))))] (fun K2 J2=>?_) ?_
 ·refine go2 ?_;refine sQ (aS (v':=.bool (aT p)) (bE aJ rfl (fun w hw=>eG _ p w (aR hw Hp sn))) rfl) rfl ?_;refine sBB rfl (fun h5=>?_) (fun h5=>?_)
  ·refine go6 ?_;refine J2 _ _ pp_ s0 (aZ (lX h5))
  refine go2 ?_;refine sQ (bM aJ (uT a b) rfl) rfl (go3 ?_);refine J2 _ _ pp_ s0 (aZ (kE h5 rfl))
 intro g6;refine aQ _ rfl (fun h7=>?_) (fun h7=>?_)
 ·refine go5 ?_;refine iY rfl (.inr rfl) rfl rfl ?_;exact congrArg vS1 (show _=(aD p a b) from aW h7 rfl)
 refine go4 ?_;refine sQ (aS (v':=.int .i64 (((p).length:Nat):Int)) (dW (e:=elI) d9 rfl (SLe.sub Hp sn)) rfl) rfl (go2 ?_);refine aQ _ rfl (fun h8=>?_) (fun h8=>?_)
 ·have ph8:=tR h8;refine go5 ?_;refine iY rfl (.inr rfl) rfl rfl ?_;exact congrArg vS1 (show _=(aD p a b) from aM h7 (aW h8 rfl))
 have ph8:=nJ h8;refine go4 ?_;refine sQ (aS (v':=.tuple #[.int .i64 (((aG p a).1).1),.bool ((aG p a).2)]) (bE aJ rfl (fun w hw=>qE _ p a w (aR hw Hp sn) oo_)) rfl) rfl (go4 ?_);intro b9 hb9;refine go6 ?_;refine sQ (aS (v':=.tuple #[.int .i64 (((aG p b).1).1),.bool ((aG p b).2)]) (bE aJ rfl (fun w hw=>qE _ p b w (aR hw Hp sn) oo_)) rfl) rfl (go7 ?_);refine gJv [43,44,45,46,47,48] [(48,.bool (!((aG p a).2)||(!(aG p b).2)))] (fun K5 J5=>?_) ?_
 ·refine go3 ?_;rcases bt ((aG p a).2) with h11 | h11
  ·refine sB (fY h11) rfl (go4 ?_);refine J5 _ _ pp_ s0 (aZ (jC h11 rfl))
  refine sB (fP h11) rfl (go4 ?_);refine J5 _ _ pp_ s0 (aZ (mI h11))
 intro g12;refine aQ _ rfl (fun h13=>?_) (fun h13=>?_)
 ·refine go5 ?_;refine iY rfl (.inr rfl) rfl rfl ?_;exact congrArg vS1 (show _=(aD p a b) from aM h7 (aM h8 (aW h13 rfl)))
 refine go2 ?_;refine gJv [49,50,51,52,53,54] [(54,.bool (decide (((aG p a).1).1<0)||decide (((aG p b).1).1<0)))] (fun K7 J7=>?_) ?_
 ·refine go3 ?_;refine sBB rfl (fun h15=>?_) (fun h15=>?_)
  ·have ph15:=of_decide_eq_true h15;refine go4 ?_;refine J7 _ _ pp_ s0 (aZ (lX h15))
  have ph15:=of_decide_eq_false h15;refine go4 ?_;refine J7 _ _ pp_ s0 (aZ (kE h15 rfl))
 intro g16;refine aQ _ rfl (fun h17=>?_) (fun h17=>?_)
 ·refine go5 ?_;refine iY rfl (.inr rfl) rfl rfl ?_;exact congrArg vS1 (show _=(aD p a b) from aM h7 (aM h8 (aM h13 (aW h17 rfl))))
 have ph18:=of_decide_eq_false (Bool.or_eq_false_iff.1 h17).1;have ph19:=of_decide_eq_false (Bool.or_eq_false_iff.1 h17).2;refine go5 ?_;refine sQ (uR (r:=(decide (a.n=b.n)&&decide (a.d=b.d))) rfl rfl (mQ 8 dd_ XD YC (iZ iV (mY iV)) (iZ iV (mY iV)) (mH rfl nX (rI nX)))) rfl (go_ ?_);refine aQ _ rfl (fun h20=>?_) (fun h20=>?_)
 ·have ph21:=of_decide_eq_true (Bool.and_eq_true_iff.1 h20).1;have ph22:=of_decide_eq_true (Bool.and_eq_true_iff.1 h20).2;refine go5 ?_;refine iY rfl (.inr rfl) rfl rfl ?_;exact congrArg vS1 (show _=(aD p a b) from aM h7 (aM h8 (aM h13 (aM h17 (aW h20 rfl)))))
 refine go6 ?_;refine bC rfl (cU (E:=27) (e:=elI) (l:=(bJ p a b).1) (fun v=>.tuple #[v,.bool ((bJ p a b).2)]) aJ rfl (fun w hw=>AX _ p a b w (aR hw Hp sn) oo_) (fun p23 c24 L25 hF26=>go9 ?_));refine aQ _ rfl (fun h27=>?_) (fun h27=>?_)
 ·refine go6 ?_;refine sQ (aS (v':=.int .i64 ((((bJ p a b).1).length:Nat):Int)) (dW (e:=elI) pF rfl (rO hF26 lZ)) rfl) rfl (go2 ?_);refine gJ3 [14,16,68,69,70,71,72,73,74,75,76,77,78] (fun g M=>∃ (all:Bool),(fV p a b (bJ p a b).1 true)=all∧(g 14 = .bool all)∧M=(L25 ++ (⟨b9,4,bB [cb ((aG p a).2)]⟩ :: (⟨b3,29,bB [pI b.n,pI b.d]⟩ :: (⟨b2,29,bB [pI a.n,pI a.d]⟩ :: (⟨b1,23,bB [csl p_p p.length c_p]⟩ :: [])))))) (fun K_u28 hK_u28=>?_) ?_
  ·refine go_ ?_;have hmx0:((bJ p a b).1).length≤9223372036854775807:=(OwnG.max hF26);refine cF [14,16,68,69,70,71,72,73,74,75,76,77,78] (fun g nn M=>∃ (i0:Nat) (l0:List I) (all:Bool),(fV p a b l0 all)=(fV p a b (bJ p a b).1 true)∧((bJ p a b).1).drop i0=l0∧l0.length=nn∧g 68 = .int .i64 ((i0:Nat):Int)∧(g 14 = .bool all)∧M=(L25 ++ (⟨b9,4,bB [cb ((aG p a).2)]⟩ :: (⟨b3,29,bB [pI b.n,pI b.d]⟩ :: (⟨b2,29,bB [pI a.n,pI a.d]⟩ :: (⟨b1,23,bB [csl p_p p.length c_p]⟩ :: [])))))) ((bJ p a b).1).length ?start ?round
   case start=>exact ⟨_,s0,0,(bJ p a b).1,true,rfl,rfl,rfl,rfl,rfl,rfl⟩
   case round =>
    rintro nn g M ⟨i0,l0,all,hT0,hr0,rfl,hgi,hg14,rfl⟩;simp only [eH,hgi,hg14];clear hgi hg14;refine go4 ?_;rcases l0 with _ | ⟨x0,l0⟩
    ·have h38:=EM hr0;refine W_f h38 rfl (go_ ?_);refine hK_u28 _ _ pp_ ⟨_,s0,all,(by exact hT0.symm.trans (Eq.symm (rfl))),rfl,rfl⟩
    have h39:=BM hr0;have g40:=vW hr0;refine W_t h39 rfl (go_ ?_);refine gJv [14,16,70,71,72,73,74,75,76,77] [(14,.bool (all&&decide (0≤(Z.signW x0.dec).1)))] (fun K16 J16=>?_) ?_
    ·refine go2 ?_;refine sQ (aS (v':=.pointer (some (slb (.slice p23 ((bJ p a b).1).length c24) (i0 * 18+0)))) (kZ (e:=elI) (l:=(bJ p a b).1) (k:=i0) pF rfl rfl (rO hF26 lZ) g40.2.1) rfl) rfl (sQ (j7 (e:=elI) (l:=(bJ p a b).1) (k:=i0) (o:=0) tyT rfl (rO hF26 lZ) g40.1 rfl) rfl (go_ ?_));intro b44 hb44;refine go4 ?_;refine sBB rfl (fun h45=>?_) (fun h45=>?_)
     ·refine go_ ?_;refine sC (.int .i64 ((Z.signW x0.dec).1)) aJ (gM x0.1 x0.2) rfl rfl rfl (go4 ?_);refine J16 _ _ pp_ (sd (s0)) (aZ (bW h45 rfl))
     refine go6 ?_;refine J16 _ _ pp_ (sd (s0)) (aZ (hJ h45))
    intro g46;refine go_ ?_;refine sV (.int .i64 ((i0+1:Nat):Int)) rfl (congrArg (Value.int .i64) (nxt g40.2.1 hmx0)) (go2 ?_);refine ⟨pp_,_,_,s0,(Nat.lt_succ_self _),i0+1,l0,(all&&decide (0≤(Z.signW x0.dec).1)),(by exact (hT0.symm.trans (Eq.symm (rfl))).symm),g40.2.2,rfl,rfl,rfl,rfl⟩
  rintro g M ⟨all,hCu28,hg14,rfl⟩;simp only [eH,hg14];clear hg14;refine go3 ?_;refine aQ _ rfl (fun h47=>?_) (fun h47=>?_)
  ·refine go5 ?_;refine iY rfl (.inr rfl) rfl rfl ?_;exact congrArg vS1 (show _=(aD p a b) from aM h7 (aM h8 (aM h13 (aM h17 (aM h20 (aW h27 (trs (Eq.symm (apS hCu28)) (aW h47 rfl))))))))
  refine go3 ?_;refine bC rfl (t6 (D:=elLL) (l:=(aI p).1) (fun v=>.tuple #[v,.bool ((aI p).2)]) aJ rfl (fun w hw=>lT _ p w (aR hw Hp sn) (by with_reducible first | assumption | exact ⟨hpre.1,by omega⟩ | exact ⟨by assumption,by omega⟩ | exact hpre.1 | exact hpre.2)) (fun p48 c49 L50 hF51=>?_));have hb52:=(lK p);refine go4 ?_;intro b53 hb53;refine go8 ?_;rcases bt ((aI p).2) with h54 | h54
  ·refine W_f (fY h54) rfl (go3 ?_);intro b55 hb55;refine go3 ?_;refine bC rfl (iB (qs:=[WV]) zpT (fun b56 hb56=>?_));refine go2 ?_;refine sQ (uS rfl rfl) rfl (sS [cfn 61 [.pointer (some ⟨b55,0,none⟩),.pointer (some ⟨b9,0,none⟩),.pointer (some ⟨b53,0,none⟩),.pointer (some ⟨b1,0,none⟩),.pointer (some ⟨b56,0,none⟩)]] tyT rfl rfl rfl rfl rfl uH rfl hb56 (go7 ?_));refine bC rfl (OpR.perm (Frq.pc (bX gH) (Frq.pc (bX (bX (uK (uK gH)))) (Frq.pc (bX gH) (Frq.pc (bX (uK (uK (bX (bX gH))))) (Frq.pc gH (List.Perm.refl _)))))) (t7 aJ rfl rfl (fun w hw=>by have hx:=qX w0 _ _ _ _ _ hb55 hb9 _ _ ((aI p).1) _ _ p (by with_reducible assumption) oo_ 601 _ a b ((aG p a).1) ((aG p b).1) 0 true ((aI p).2) (SLf2.sle (SLf2.sub hF51 lZ)) (SLe.sub Hp sn)  oo_ oo_ w hw;exact hx) (fun r M' hback=>?_)));obtain ⟨rfl,rfl⟩:=hback;refine go_ ?_;refine pW (sk (sk (sd (sd (sd (sR (sR (sd (sd (s0)))))))))) ?_;refine go5 ?_;rcases bt ((aK ((aI p).1) p 601 a b ((aG p a).1) ((aG p b).1) 0 true ((aI p).2)).2) with h57 | h57
   ·refine W_f (fY h57) rfl (go7 ?_);refine iY rfl (.inr rfl) rfl rfl ?_;exact congrArg (a₁:=((((aK ((aI p).1) p 601 a b ((aG p a).1) ((aG p b).1) 0 true ((aI p).2)).1),(wl 0)):Bool×W)) (fun r:Bool×W=>(.tuple #[.bool r.1,.int .i64 r.2.1]:Value)) (show _=(aD p a b) from aM h7 (aM h8 (aM h13 (aM h17 (aM h20 (aW h27 (trs (Eq.symm (apS hCu28)) (aM h47 (aW h54 (aW h57 rfl))))))))))
   refine W_t (fP h57) rfl (go5 ?_);refine iY rfl (.inr rfl) rfl rfl ?_;exact congrArg vS1 (show _=(aD p a b) from aM h7 (aM h8 (aM h13 (aM h17 (aM h20 (aW h27 (trs (Eq.symm (apS hCu28)) (aM h47 (aW h54 (aM h57 rfl))))))))))
  refine W_t (fP h54) rfl (go5 ?_);refine iY rfl (.inr rfl) rfl rfl ?_;exact congrArg vS1 (show _=(aD p a b) from aM h7 (aM h8 (aM h13 (aM h17 (aM h20 (aW h27 (trs (Eq.symm (apS hCu28)) (aM h47 (aM h54 rfl)))))))))
 refine go3 ?_;refine bC rfl (t6 (D:=elLL) (l:=(aI p).1) (fun v=>.tuple #[v,.bool ((aI p).2)]) aJ rfl (fun w hw=>lT _ p w (aR hw Hp sn) (by with_reducible first | assumption | exact ⟨hpre.1,by omega⟩ | exact ⟨by assumption,by omega⟩ | exact hpre.1 | exact hpre.2)) (fun p58 c59 L60 hF61=>?_));have hb62:=(lK p);refine go4 ?_;intro b63 hb63;refine go8 ?_;rcases bt ((aI p).2) with h64 | h64
 ·refine W_f (fY h64) rfl (go3 ?_);intro b65 hb65;refine go3 ?_;refine bC rfl (iB (qs:=[WV]) zpT (fun b66 hb66=>?_));refine go2 ?_;refine sQ (uS rfl rfl) rfl (sS [cfn 61 [.pointer (some ⟨b65,0,none⟩),.pointer (some ⟨b9,0,none⟩),.pointer (some ⟨b63,0,none⟩),.pointer (some ⟨b1,0,none⟩),.pointer (some ⟨b66,0,none⟩)]] tyT rfl rfl rfl rfl rfl uH rfl hb66 (go7 ?_));refine bC rfl (OpR.perm (Frq.pc (bX gH) (Frq.pc (bX (bX (uK (uK gH)))) (Frq.pc (bX gH) (Frq.pc (bX (uK (uK (bX (bX gH))))) (Frq.pc gH (List.Perm.refl _)))))) (t7 aJ rfl rfl (fun w hw=>by have hx:=qX w0 _ _ _ _ _ hb65 hb9 _ _ ((aI p).1) _ _ p (by with_reducible assumption) oo_ 601 _ a b ((aG p a).1) ((aG p b).1) 0 true ((aI p).2) (SLf2.sle (SLf2.sub hF61 lZ)) (SLe.sub Hp sn)  oo_ oo_ w hw;exact hx) (fun r M' hback=>?_)));obtain ⟨rfl,rfl⟩:=hback;refine go_ ?_;refine pW (sk (sk (sd (sd (sd (sR (sR (sd (sd (s0)))))))))) ?_;refine go5 ?_;rcases bt ((aK ((aI p).1) p 601 a b ((aG p a).1) ((aG p b).1) 0 true ((aI p).2)).2) with h67 | h67
  ·refine W_f (fY h67) rfl (go7 ?_);refine iY rfl (.inr rfl) rfl rfl ?_;exact congrArg (a₁:=((((aK ((aI p).1) p 601 a b ((aG p a).1) ((aG p b).1) 0 true ((aI p).2)).1),(wl 0)):Bool×W)) (fun r:Bool×W=>(.tuple #[.bool r.1,.int .i64 r.2.1]:Value)) (show _=(aD p a b) from aM h7 (aM h8 (aM h13 (aM h17 (aM h20 (aM h27 (aW h64 (aW h67 rfl))))))))
  refine W_t (fP h67) rfl (go5 ?_);refine iY rfl (.inr rfl) rfl rfl ?_;exact congrArg vS1 (show _=(aD p a b) from aM h7 (aM h8 (aM h13 (aM h17 (aM h20 (aM h27 (aW h64 (aM h67 rfl))))))))
 refine W_t (fP h64) rfl (go5 ?_);refine iY rfl (.inr rfl) rfl rfl ?_;exact congrArg vS1 (show _=(aD p a b) from aM h7 (aM h8 (aM h13 (aM h17 (aM h20 (aM h27 (aM h64 rfl)))))))
theorem qO (vp:Value) (p:(List I)) (a:Rt) (b:Rt) (k:Int) (w:World) (hp:Slr w elI vp p) (hpre:Rgt p∧p.length≤100) :
    Calls prog 25 [vp,AV [pI a.n,pI a.d],AV [pI b.n,pI b.d],.int .i64 k].toArray w (fun e w'=>e = .returned (.tuple #[AV [pI ((((dD p a b k).1).lo).n),pI ((((dD p a b k).1).lo).d),pI ((((dD p a b k).1).hi).n),pI ((((dD p a b k).1).hi).d)],.bool ((dD p a b k).2.1),.int .i64 (((dD p a b k).2.2).1)])∧Ext w w'):=by
 obtain ⟨p_p,c_p,rfl⟩:=hp.form;refine cQ (N:=72) func25 rfl rfl (by simp) ?_;obtain ⟨w0,rfl⟩:∃ w0,w0=w:=⟨_,rfl⟩;have Hp:=hp.old;have hm_p:=hp.max;simp only [bK,Nat.reduceAdd];refine go2 ?_;intro b1 hb1;refine go_ ?_;intro b2 hb2;refine go_ ?_;intro b3 hb3;refine go4 ?_;refine gJv [17,18,19,20,21,22] [(22,.bool (decide (k<0)||decide (64<k)))] (fun K2 J2=>?_) ?_
 ·refine go3 ?_;refine sBB rfl (fun h5=>?_) (fun h5=>?_)
  ·have ph5:=of_decide_eq_true h5;refine go4 ?_;refine J2 _ _ pp_ s0 (aZ (lX h5))
  have ph5:=of_decide_eq_false h5;refine go4 ?_;refine J2 _ _ pp_ s0 (aZ (kE h5 rfl))
 intro g6;refine aQ _ rfl (fun h7=>?_) (fun h7=>?_)
 ·refine go7 ?_;refine ZJ rfl (.inr rfl) (gT rfl m0 tyT rfl) rfl rfl ?_;exact congrArg vS4 (show _=(dD p a b k) from aW h7 rfl)
 have ph8:=of_decide_eq_false (Bool.or_eq_false_iff.1 h7).1;have ph9:=of_decide_eq_false (Bool.or_eq_false_iff.1 h7).2;refine go5 ?_;refine sQ (aS (v':=.tuple #[.bool ((aD p a b).1),.int .i64 (((aD p a b).2).1)]) (bE aJ rfl (fun w hw=>dX _ p a b w (aR hw Hp sn) (by with_reducible first | assumption | exact ⟨hpre.1,by omega⟩ | exact ⟨by assumption,by omega⟩ | exact hpre.1 | exact hpre.2))) rfl) rfl (go7 ?_);refine gJv [31,32,33,34,35] [(35,.bool ((((aD p a b).2).1 != 0)||(aD p a b).1))] (fun K4 J4=>?_) ?_
 ·refine go3 ?_;refine sBB rfl (fun h11=>?_) (fun h11=>?_)
  ·refine go3 ?_;refine J4 _ _ pp_ s0 (aZ (lX h11))
  refine go3 ?_;refine J4 _ _ pp_ s0 (aZ (kE h11 rfl))
 intro g12;refine aQ _ rfl (fun h13=>?_) (fun h13=>?_)
 ·refine go8 ?_;refine ZJ rfl (.inr rfl) (gT rfl m0 tyT rfl) rfl rfl ?_;exact congrArg (a₁:=(((⟨(⟨I0,I0⟩:Rt),(⟨I0,I0⟩:Rt)⟩:Iv),false,(aD p a b).2):Iv×Bool×W)) (fun r:Iv×Bool×W=>(.tuple #[AV [pI r.1.lo.n,pI r.1.lo.d,pI r.1.hi.n,pI r.1.hi.d],.bool r.2.1,.int .i64 r.2.2.1]:Value)) (show _=(dD p a b k) from aM h7 (aW h13 rfl))
 refine go6 ?_;intro b14 hb14;refine go2 ?_;refine pW (sk (sk (sd (sd (s0))))) ?_;refine go5 ?_;refine gJ3 [9,10,14,15,16,42,43,44,45,46,47,48,49,50,51,52,53,54,55,56,57,58,59,60,61,62,63,64,65,66,67,68,69,70] (fun g M=>∃ (i:Nat) (mb14:Iv),(i7 p a b k ((k.toNat+1)) 0 (⟨a,b⟩:Iv)) = .inl (i,mb14)∧(g 42 = .int .i64 ((i:Nat):Int))∧M=[⟨b14,49,bB [pI mb14.lo.n,pI mb14.lo.d,pI mb14.hi.n,pI mb14.hi.d]⟩,⟨b3,49,bB [pI I0,pI I0,pI I0,pI I0]⟩]) (fun K_u15 hK_u15=>?_) ?_
 ·refine go_ ?_;refine cF [9,10,14,15,16,42,43,44,45,46,47,48,49,50,51,52,53,54,55,56,57,58,59,60,61,62,63,64,65,66,67,68,69,70] (fun g nn M=>∃ (i:Nat) (mb14:Iv),(i7 p a b k nn i mb14)=(i7 p a b k ((k.toNat+1)) 0 (⟨a,b⟩:Iv))∧k.toNat - i<nn∧(i≤k.toNat)∧(g 42 = .int .i64 ((i:Nat):Int))∧M=[⟨b14,49,bB [pI mb14.lo.n,pI mb14.lo.d,pI mb14.hi.n,pI mb14.hi.d]⟩,⟨b3,49,bB [pI I0,pI I0,pI I0,pI I0]⟩]) ((k.toNat+1)) ?start ?round
  case start=>exact ⟨_,s0,0,(⟨a,b⟩:Iv),rfl,oo_,oo_,rfl,rfl⟩
  case round =>
   rintro nn g M ⟨i,mb14,hT0,hq0,hinv0,hg42,rfl⟩;obtain ⟨k0,rfl⟩:∃ m,nn=m+1:=⟨nn - 1,by omega⟩;simp only [eH,hg42];clear hg42;refine go4 ?_;refine aQ _ rfl (fun h26=>?_) (fun h26=>?_)
   ·have ph26:=of_decide_eq_true h26;refine go8 ?_;refine sQ (bM aJ (tC mb14.lo mb14.hi) rfl) rfl (go_ ?_);intro b27 hb27;refine go8 ?_;refine aQ _ rfl (fun h28=>?_) (fun h28=>?_)
    ·refine go7 ?_;refine ZJ rfl (.inr rfl) (gT rfl m2 tyT rfl) rfl rfl ?_;exact congrArg vS4 (show _=(dD p a b k) from aM h7 (aM h13 ((vO rfl (hT0.symm.trans (Eq.symm (aW h26 (aW h28 rfl))))))))
    refine go6 ?_;refine sQ (aS (v':=.tuple #[.bool ((aD p mb14.lo (aE mb14.lo mb14.hi)).1),.int .i64 (((aD p mb14.lo (aE mb14.lo mb14.hi)).2).1)]) (bE aJ rfl (fun w hw=>dX _ p mb14.lo (aE mb14.lo mb14.hi) w (aR hw Hp sn) (by with_reducible first | assumption | exact ⟨hpre.1,by omega⟩ | exact ⟨by assumption,by omega⟩ | exact hpre.1 | exact hpre.2))) rfl) rfl (vK ?_);refine aQ _ rfl (fun h29=>?_) (fun h29=>?_)
    ·refine go8 ?_;refine ZJ rfl (.inr rfl) (gT rfl m2 tyT rfl) rfl rfl ?_;exact congrArg (a₁:=(((⟨(⟨I0,I0⟩:Rt),(⟨I0,I0⟩:Rt)⟩:Iv),false,(aD p mb14.lo (aE mb14.lo mb14.hi)).2):Iv×Bool×W)) (fun r:Iv×Bool×W=>(.tuple #[AV [pI r.1.lo.n,pI r.1.lo.d,pI r.1.hi.n,pI r.1.hi.d],.bool r.2.1,.int .i64 r.2.2.1]:Value)) (show _=(dD p a b k) from aM h7 (aM h13 ((vO rfl (hT0.symm.trans (Eq.symm (aW h26 (aM h28 (aW h29 rfl)))))))))
    refine go4 ?_;refine aQ _ rfl (fun h30=>?_) (fun h30=>?_)
    ·refine go6 ?_;refine sV (.int .i64 (((i+1):Nat):Int)) rfl (congrArg (Value.int .i64) (wx oo_ oo_ oo_)) (go2 ?_);refine ⟨pp_,_,_,(sd (s0)),(Nat.lt_succ_self _),(i+1),(⟨(aE mb14.lo mb14.hi),mb14.hi⟩:Iv),(by exact (hT0.symm.trans (Eq.symm (aW h26 (aM h28 (aM h29 (aW h30 rfl)))))).symm),(Nat.lt_of_lt_of_le oo_ (Nat.le_of_lt_succ hq0)),oo_,rfl,rfl⟩
    refine go6 ?_;refine sV (.int .i64 (((i+1):Nat):Int)) rfl (congrArg (Value.int .i64) (wx oo_ oo_ oo_)) (go2 ?_);refine ⟨pp_,_,_,(sd (s0)),(Nat.lt_succ_self _),(i+1),(⟨mb14.lo,(aE mb14.lo mb14.hi)⟩:Iv),(by exact (hT0.symm.trans (Eq.symm (aW h26 (aM h28 (aM h29 (aM h30 rfl)))))).symm),(Nat.lt_of_lt_of_le oo_ (Nat.le_of_lt_succ hq0)),oo_,rfl,rfl⟩
   have ph26:=of_decide_eq_false h26;refine go_ ?_;refine hK_u15 _ _ pp_ ⟨_,s0,i,mb14,(by exact hT0.symm.trans (Eq.symm (aM h26 rfl))),rfl,rfl⟩
 rintro g M ⟨i,mb14,hCu15,hg42,rfl⟩;simp only [eH,hg42];clear hg42;refine go7 ?_;refine ZJ rfl (.inr rfl) (gT rfl m1 tyT rfl) rfl rfl ?_;exact congrArg vS4 (show _=(dD p a b k) from aM h7 (aM h13 (trs (Eq.symm (smS hCu15)) rfl)))
end Go.Proofs.YtokjfhfiodopdaaGreat
