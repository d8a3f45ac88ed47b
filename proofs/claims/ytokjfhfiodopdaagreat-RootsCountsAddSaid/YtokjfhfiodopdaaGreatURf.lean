/- Lemmas: what they ask stands in their statements. -/
import Derived.Test.YtokjfhfiodopdaaGreatURe
import Derived.Test.YtokjfhfiodopdaaGreatUYs
set_option linter.unusedSimpArgs false
set_option linter.unusedVariables false
set_option maxHeartbeats 8000000
set_option maxRecDepth 20000
namespace Go.Proofs.YtokjfhfiodopdaaGreat
open Go.Kn Go.Num Tryz
attribute [local irreducible] Go.Kn.W WL PL OpQ OpR OpS
theorem w9 (vp:Value) (p:(List I)) (a:Rt) (b:Rt) (w:World) (hp:Slr w elI vp p) (hpre:Rgt p∧p.length≤100) :
    Calls prog 16 [vp,AV [pI a.n,pI a.d],AV [pI b.n,pI b.d]].toArray w (fun e w'=>∃ v,e = .returned (.tuple #[v,.int .i64 (((cX p a b).2).1)])∧Ext w w'∧Slo w.heap.size w' 49 u3 v (cX p a b).1):=by
 obtain ⟨p_p,c_p,rfl⟩:=hp.form;refine e8 (n:=39) (fun v=>.tuple #[v,.int .i64 (((cX p a b).2).1)]) func16 rfl rfl (by simp) ?_;obtain ⟨w0,rfl⟩:∃ w0,w0=w:=⟨_,rfl⟩;have Hp:=hp.old;have hm_p:=hp.max;simp only [bS,Nat.reduceAdd];refine go2 ?_;intro b1 hb1;refine go_ ?_;intro b2 hb2;refine go4 ?_;refine gJv [12,13,14,15,16,17,18,19,20,21,22,23,24] [(24,.bool ((aU p)||(((((p).length:Nat):Int)==0)||(!(iM a b)))))] (fun K2 J2=>?_) ?_
 ·refine go2 ?_;refine sQ (aV (v':=.bool (aU p)) (bN aJ rfl (fun w hw=>fF _ p w (aR hw Hp sn))) rfl) rfl ?_;refine sBB rfl (fun h5=>?_) (fun h5=>?_)
  ·refine vK ?_;refine J2 _ _ pp_ s0 (bI (mS h5))
  refine go_ ?_;refine sQ (aV (v':=.int .i64 (((p).length:Nat):Int)) (dO (e:=elI) dZ rfl (SLe.sub Hp sn)) rfl) rfl (go2 ?_);refine sBB rfl (fun h6=>?_) (fun h6=>?_)
  ·have ph6:=rW h6;refine go6 ?_;refine J2 _ _ pp_ s0 (bI (kX h5 (mS h6)))
  have ph6:=l6 h6;refine go2 ?_;refine sQ (bZ aJ (wJ a b) rfl) rfl (go3 ?_);refine J2 _ _ pp_ s0 (bI (kX h5 (kX h6 rfl)))
 intro g7;refine aT _ rfl (fun h8=>?_) (fun h8=>?_)
 ·refine go5 ?_;refine i7 rfl (.inr rfl) rfl rfl ?_
  have hE:((([]:List Iv),(wl 1)):(List Iv)×W)=(cX p a b):=by exact bE h8 rfl
  rw [← hE];exact ⟨_,rfl,⟨[],sn,OwnG.nil⟩⟩
 have ph9:=l6 (Bool.or_eq_false_iff.1 (Bool.or_eq_false_iff.1 h8).2).1;refine go3 ?_;refine bJ rfl (qZ (D:=elLL) (l:=(aH p).1) (fun v=>.tuple #[v,.bool ((aH p).2)]) aJ rfl (fun w hw=>m9 _ p w (aR hw Hp sn) (by with_reducible first | assumption | exact ⟨hpre.1,by omega⟩ | exact ⟨by assumption,by omega⟩ | exact hpre.1 | exact hpre.2)) (fun p10 c11 L12 hF13=>?_));have hb14:=(iI p);refine go4 ?_;intro b15 hb15;refine go_ ?_;intro b16 hb16;refine go5 ?_;intro b17 hb17;refine go2 ?_;refine bJ rfl (iD (qs:=[YJ]) zpT (fun b18 hb18=>?_));refine go2 ?_;refine sQ (wE rfl rfl) rfl (sS [cfn 50 [.pointer (some ⟨b15,0,none⟩),.pointer (some ⟨b16,0,none⟩),.pointer (some ⟨b17,0,none⟩),.pointer (some ⟨b18,0,none⟩)]] tyT rfl rfl rfl rfl rfl uH rfl hb18 (go5 ?_));refine aT _ rfl (fun h19=>?_) (fun h19=>?_)
 ·refine go4 ?_;refine bJ rfl (OpR.perm (Frq.pc (cV (cV gW)) (Frq.pc (cV gW) (Frq.pa fy_ (Frq.pc (cV gW) (Frq.pc gW (List.Perm.refl _)))))) (vN aJ rfl rfl (fun w hw=>by have hx:=B2 w0 _ _ _ _ hb16 hb17 _ _ ((aH p).1) (by with_reducible assumption) 601 _ a b 0 ((aH p).2) none 0 ([]:List Iv) [] (SLf2.sle (SLf2.sub hF13 lZ)) (OwnG.nil) oo_ oo_ (JY p _ _ hpre h19) w hw;exact hx) (fun r M' hback=>?_)));obtain ⟨rfl,p20,c21,L22,hF23,rfl⟩:=hback;refine go_ ?_;refine oM (sk (sk (sA (sd (sd (sR (sd (sd (s0))))))))) ?_;refine go5 ?_;rcases bt ((aW ((aH p).1) 601 a b 0 ((aH p).2) ([]:List Iv)).1) with h24 | h24
  ·refine W_f (gG h24) rfl (go7 ?_);refine i7 rfl (.inr rfl) rfl rfl ?_
   have hE:(((aW ((aH p).1) 601 a b 0 ((aH p).2) ([]:List Iv)).2,(wl 0)):(List Iv)×W)=(cX p a b):=by exact aN h8 (bE h19 (bE h24 rfl))
   rw [← hE];exact ⟨_,rfl,⟨L22,(sd (sd lZ)),hF23⟩⟩
  refine W_t (gD h24) rfl (go5 ?_);refine i7 rfl (.inr rfl) rfl rfl ?_
  have hE:((([]:List Iv),(wl 30)):(List Iv)×W)=(cX p a b):=by exact aN h8 (bE h19 (aN h24 rfl))
  rw [← hE];exact ⟨_,rfl,⟨[],sn,OwnG.nil⟩⟩
 refine go_ ?_;refine oM (sd (sk (sk (sd (sR (sd (sd (s0)))))))) ?_;refine go5 ?_;refine W_t (gD h19) rfl (go5 ?_);refine i7 rfl (.inr rfl) rfl rfl ?_
 have hE:((([]:List Iv),(wl 30)):(List Iv)×W)=(cX p a b):=by exact aN h8 (aN h19 rfl)
 rw [← hE];exact ⟨_,rfl,⟨[],sn,OwnG.nil⟩⟩
theorem l9 (vp:Value) (p:(List I)) (a:Rt) (b:Rt) (w:World) (hp:Slr w elI vp p) (hpre:Rgt p∧p.length≤100) :
    Calls prog 23 [vp,AV [pI a.n,pI a.d],AV [pI b.n,pI b.d]].toArray w (fun e w'=>e = .returned (.tuple #[.bool ((bO p a b).1),.int .i64 (((bO p a b).2).1)])∧Ext w w'):=by
 obtain ⟨p_p,c_p,rfl⟩:=hp.form;refine cT (N:=97) func23 rfl rfl (by simp) ?_;obtain ⟨w0,rfl⟩:∃ w0,w0=w:=⟨_,rfl⟩;have Hp:=hp.old;have hm_p:=hp.max;simp only [bS,Nat.reduceAdd];refine go2 ?_;intro b1 hb1;refine go_ ?_;intro b2 hb2;refine go_ ?_;intro b3 hb3;refine go4 ?_;refine gJv [20,21,22,23,24,25,26,27] [(27,.bool ((aU p)||(!(iM a b))))] (fun K2 J2=>?_) ?_
 ·refine go2 ?_;refine sQ (aV (v':=.bool (aU p)) (bN aJ rfl (fun w hw=>fF _ p w (aR hw Hp sn))) rfl) rfl ?_;refine sBB rfl (fun h5=>?_) (fun h5=>?_)
  ·refine go6 ?_;refine J2 _ _ pp_ s0 (bI (mS h5))
  refine go2 ?_;refine sQ (bZ aJ (wJ a b) rfl) rfl (go3 ?_);refine J2 _ _ pp_ s0 (bI (kX h5 rfl))
 intro g6;refine aT _ rfl (fun h7=>?_) (fun h7=>?_)
 ·refine go5 ?_;refine i7 rfl (.inr rfl) rfl rfl ?_;exact congrArg vS1 (show _=(bO p a b) from bE h7 rfl)
 refine go4 ?_;refine sQ (aV (v':=.int .i64 (((p).length:Nat):Int)) (dO (e:=elI) dZ rfl (SLe.sub Hp sn)) rfl) rfl (go2 ?_);refine aT _ rfl (fun h8=>?_) (fun h8=>?_)
 ·have ph8:=rW h8;refine go5 ?_;refine i7 rfl (.inr rfl) rfl rfl ?_;exact congrArg vS1 (show _=(bO p a b) from aN h7 (bE h8 rfl))
 have ph8:=l6 h8;refine go4 ?_;refine sQ (aV (v':=.tuple #[.int .i64 (((aL p a).1).1),.bool ((aL p a).2)]) (bN aJ rfl (fun w hw=>rL _ p a w (aR hw Hp sn) oo_)) rfl) rfl (go4 ?_);intro b9 hb9;refine go6 ?_;refine sQ (aV (v':=.tuple #[.int .i64 (((aL p b).1).1),.bool ((aL p b).2)]) (bN aJ rfl (fun w hw=>rL _ p b w (aR hw Hp sn) oo_)) rfl) rfl (go7 ?_);refine gJv [43,44,45,46,47,48] [(48,.bool (!((aL p a).2)||(!(aL p b).2)))] (fun K5 J5=>?_) ?_
 ·refine go3 ?_;rcases bt ((aL p a).2) with h11 | h11
  ·refine sB (gG h11) rfl (go4 ?_);refine J5 _ _ pp_ s0 (bI (lE h11 rfl))
  refine sB (gD h11) rfl (go4 ?_);refine J5 _ _ pp_ s0 (bI (nI h11))
 intro g12;refine aT _ rfl (fun h13=>?_) (fun h13=>?_)
 ·refine go5 ?_;refine i7 rfl (.inr rfl) rfl rfl ?_;exact congrArg vS1 (show _=(bO p a b) from aN h7 (aN h8 (bE h13 rfl)))
 refine go2 ?_;refine gJv [49,50,51,52,53,54] [(54,.bool (decide (((aL p a).1).1<0)||decide (((aL p b).1).1<0)))] (fun K7 J7=>?_) ?_
 ·refine go3 ?_;refine sBB rfl (fun h15=>?_) (fun h15=>?_)
  ·have ph15:=of_decide_eq_true h15;refine go4 ?_;refine J7 _ _ pp_ s0 (bI (mS h15))
  have ph15:=of_decide_eq_false h15;refine go4 ?_;refine J7 _ _ pp_ s0 (bI (kX h15 rfl))
 intro g16;refine aT _ rfl (fun h17=>?_) (fun h17=>?_)
 ·refine go5 ?_;refine i7 rfl (.inr rfl) rfl rfl ?_;exact congrArg vS1 (show _=(bO p a b) from aN h7 (aN h8 (aN h13 (bE h17 rfl))))
 have ph18:=of_decide_eq_false (Bool.or_eq_false_iff.1 h17).1;have ph19:=of_decide_eq_false (Bool.or_eq_false_iff.1 h17).2;refine go5 ?_;refine sQ (xI (r:=(decide (a.n=b.n)&&decide (a.d=b.d))) rfl rfl (oA 8 dd_ cP_ cX_ (jW jU (oT jU)) (jW jU (oT jU)) (oB rfl pU (uR pU)))) rfl (go_ ?_);refine aT _ rfl (fun h20=>?_) (fun h20=>?_)
 ·have ph21:=of_decide_eq_true (Bool.and_eq_true_iff.1 h20).1;have ph22:=of_decide_eq_true (Bool.and_eq_true_iff.1 h20).2;refine go5 ?_;refine i7 rfl (.inr rfl) rfl rfl ?_;exact congrArg vS1 (show _=(bO p a b) from aN h7 (aN h8 (aN h13 (aN h17 (bE h20 rfl)))))
 refine go6 ?_;refine bJ rfl (cP (E:=27) (e:=elI) (l:=(eC p a b).1) (fun v=>.tuple #[v,.bool ((eC p a b).2)]) aJ rfl (fun w hw=>CM _ p a b w (aR hw Hp sn) oo_) (fun p23 c24 L25 hF26=>go9 ?_));refine aT _ rfl (fun h27=>?_) (fun h27=>?_)
 ·refine go6 ?_;refine sQ (aV (v':=.int .i64 ((((eC p a b).1).length:Nat):Int)) (dO (e:=elI) m6 rfl (rO hF26 lZ)) rfl) rfl (go2 ?_);refine gJ3 [14,16,68,69,70,71,72,73,74,75,76,77,78] (fun g M=>∃ (all:Bool),(kK p a b (eC p a b).1 true)=all∧(g 14 = .bool all)∧M=(L25 ++ (⟨b9,4,bK [cb ((aL p a).2)]⟩ :: (⟨b3,29,bK [pI b.n,pI b.d]⟩ :: (⟨b2,29,bK [pI a.n,pI a.d]⟩ :: (⟨b1,23,bK [csl p_p p.length c_p]⟩ :: [])))))) (fun K_u28 hK_u28=>?_) ?_
  ·refine go_ ?_;have hmx0:((eC p a b).1).length≤9223372036854775807:=(OwnG.max hF26);refine cO [14,16,68,69,70,71,72,73,74,75,76,77,78] (fun g nn M=>∃ (i0:Nat) (l0:List I) (all:Bool),(kK p a b l0 all)=(kK p a b (eC p a b).1 true)∧((eC p a b).1).drop i0=l0∧l0.length=nn∧g 68 = .int .i64 ((i0:Nat):Int)∧(g 14 = .bool all)∧M=(L25 ++ (⟨b9,4,bK [cb ((aL p a).2)]⟩ :: (⟨b3,29,bK [pI b.n,pI b.d]⟩ :: (⟨b2,29,bK [pI a.n,pI a.d]⟩ :: (⟨b1,23,bK [csl p_p p.length c_p]⟩ :: [])))))) ((eC p a b).1).length ?start ?round
   case start=>exact ⟨_,s0,0,(eC p a b).1,true,rfl,rfl,rfl,rfl,rfl,rfl⟩
   case round =>
    rintro nn g M ⟨i0,l0,all,hT0,hr0,rfl,hgi,hg14,rfl⟩;simp only [eO,hgi,hg14];clear hgi hg14;refine go4 ?_;rcases l0 with _ | ⟨x0,l0⟩
    ·have h38:=GN hr0;refine W_f h38 rfl (go_ ?_);refine hK_u28 _ _ pp_ ⟨_,s0,all,(by exact hT0.symm.trans (Eq.symm (rfl))),rfl,rfl⟩
    have h39:=DB hr0;have g40:=xQ hr0;refine W_t h39 rfl (go_ ?_);refine gJv [14,16,70,71,72,73,74,75,76,77] [(14,.bool (all&&decide (0≤(Z.signW x0.dec).1)))] (fun K16 J16=>?_) ?_
    ·refine go2 ?_;refine sQ (aV (v':=.pointer (some (slb (.slice p23 ((eC p a b).1).length c24) (i0 * 18+0)))) (jT (e:=elI) (l:=(eC p a b).1) (k:=i0) m6 rfl rfl (rO hF26 lZ) g40.2.1) rfl) rfl (sQ (jI (e:=elI) (l:=(eC p a b).1) (k:=i0) (o:=0) tyT rfl (rO hF26 lZ) g40.1 rfl) rfl (go_ ?_));intro b44 hb44;refine go4 ?_;refine sBB rfl (fun h45=>?_) (fun h45=>?_)
     ·refine go_ ?_;refine sC (.int .i64 ((Z.signW x0.dec).1)) aJ (iJ x0.1 x0.2) rfl rfl rfl (go4 ?_);refine J16 _ _ pp_ (sd (s0)) (bI (cU h45 rfl))
     refine go6 ?_;refine J16 _ _ pp_ (sd (s0)) (bI (iQ h45))
    intro g46;refine go_ ?_;refine sV (.int .i64 ((i0+1:Nat):Int)) rfl (congrArg (Value.int .i64) (nxt g40.2.1 hmx0)) (go2 ?_);refine ⟨pp_,_,_,s0,(Nat.lt_succ_self _),i0+1,l0,(all&&decide (0≤(Z.signW x0.dec).1)),(by exact (hT0.symm.trans (Eq.symm (rfl))).symm),g40.2.2,rfl,rfl,rfl,rfl⟩
  rintro g M ⟨all,hCu28,hg14,rfl⟩;simp only [eO,hg14];clear hg14;refine go3 ?_;refine aT _ rfl (fun h47=>?_) (fun h47=>?_)
  ·refine go5 ?_;refine i7 rfl (.inr rfl) rfl rfl ?_;exact congrArg vS1 (show _=(bO p a b) from aN h7 (aN h8 (aN h13 (aN h17 (aN h20 (bE h27 (trs (Eq.symm (apS hCu28)) (bE h47 rfl))))))))
  refine go3 ?_;refine bJ rfl (qZ (D:=elLL) (l:=(aH p).1) (fun v=>.tuple #[v,.bool ((aH p).2)]) aJ rfl (fun w hw=>m9 _ p w (aR hw Hp sn) (by with_reducible first | assumption | exact ⟨hpre.1,by omega⟩ | exact ⟨by assumption,by omega⟩ | exact hpre.1 | exact hpre.2)) (fun p48 c49 L50 hF51=>?_));have hb52:=(iI p);refine go4 ?_;intro b53 hb53;refine go8 ?_;rcases bt ((aH p).2) with h54 | h54
  ·refine W_f (gG h54) rfl (go3 ?_);intro b55 hb55;refine go3 ?_;refine bJ rfl (iD (qs:=[YJ]) zpT (fun b56 hb56=>?_));refine go2 ?_;refine sQ (wE rfl rfl) rfl (sS [cfn 61 [.pointer (some ⟨b55,0,none⟩),.pointer (some ⟨b9,0,none⟩),.pointer (some ⟨b53,0,none⟩),.pointer (some ⟨b1,0,none⟩),.pointer (some ⟨b56,0,none⟩)]] tyT rfl rfl rfl rfl rfl uH rfl hb56 (go7 ?_));refine bJ rfl (OpR.perm (Frq.pc (cV gW) (Frq.pc (cV (cV (t6 (t6 gW)))) (Frq.pc (cV gW) (Frq.pc (cV (t6 (t6 (cV (cV gW))))) (Frq.pc gW (List.Perm.refl _)))))) (vN aJ rfl rfl (fun w hw=>by have hx:=sG w0 _ _ _ _ _ hb55 hb9 _ _ ((aH p).1) _ _ p (by with_reducible assumption) oo_ 601 _ a b ((aL p a).1) ((aL p b).1) 0 true ((aH p).2) (SLf2.sle (SLf2.sub hF51 lZ)) (SLe.sub Hp sn)  oo_ oo_ w hw;exact hx) (fun r M' hback=>?_)));obtain ⟨rfl,rfl⟩:=hback;refine go_ ?_;refine oM (sk (sk (sd (sd (sd (sR (sR (sd (sd (s0)))))))))) ?_;refine go5 ?_;rcases bt ((bC ((aH p).1) p 601 a b ((aL p a).1) ((aL p b).1) 0 true ((aH p).2)).2) with h57 | h57
   ·refine W_f (gG h57) rfl (go7 ?_);refine i7 rfl (.inr rfl) rfl rfl ?_;exact congrArg (a₁:=((((bC ((aH p).1) p 601 a b ((aL p a).1) ((aL p b).1) 0 true ((aH p).2)).1),(wl 0)):Bool×W)) (fun r:Bool×W=>(.tuple #[.bool r.1,.int .i64 r.2.1]:Value)) (show _=(bO p a b) from aN h7 (aN h8 (aN h13 (aN h17 (aN h20 (bE h27 (trs (Eq.symm (apS hCu28)) (aN h47 (bE h54 (bE h57 rfl))))))))))
   refine W_t (gD h57) rfl (go5 ?_);refine i7 rfl (.inr rfl) rfl rfl ?_;exact congrArg vS1 (show _=(bO p a b) from aN h7 (aN h8 (aN h13 (aN h17 (aN h20 (bE h27 (trs (Eq.symm (apS hCu28)) (aN h47 (bE h54 (aN h57 rfl))))))))))
  refine W_t (gD h54) rfl (go5 ?_);refine i7 rfl (.inr rfl) rfl rfl ?_;exact congrArg vS1 (show _=(bO p a b) from aN h7 (aN h8 (aN h13 (aN h17 (aN h20 (bE h27 (trs (Eq.symm (apS hCu28)) (aN h47 (aN h54 rfl)))))))))
 refine go3 ?_;refine bJ rfl (qZ (D:=elLL) (l:=(aH p).1) (fun v=>.tuple #[v,.bool ((aH p).2)]) aJ rfl (fun w hw=>m9 _ p w (aR hw Hp sn) (by with_reducible first | assumption | exact ⟨hpre.1,by omega⟩ | exact ⟨by assumption,by omega⟩ | exact hpre.1 | exact hpre.2)) (fun p58 c59 L60 hF61=>?_));have hb62:=(iI p);refine go4 ?_;intro b63 hb63;refine go8 ?_;rcases bt ((aH p).2) with h64 | h64
 ·refine W_f (gG h64) rfl (go3 ?_);intro b65 hb65;refine go3 ?_;refine bJ rfl (iD (qs:=[YJ]) zpT (fun b66 hb66=>?_));refine go2 ?_;refine sQ (wE rfl rfl) rfl (sS [cfn 61 [.pointer (some ⟨b65,0,none⟩),.pointer (some ⟨b9,0,none⟩),.pointer (some ⟨b63,0,none⟩),.pointer (some ⟨b1,0,none⟩),.pointer (some ⟨b66,0,none⟩)]] tyT rfl rfl rfl rfl rfl uH rfl hb66 (go7 ?_));refine bJ rfl (OpR.perm (Frq.pc (cV gW) (Frq.pc (cV (cV (t6 (t6 gW)))) (Frq.pc (cV gW) (Frq.pc (cV (t6 (t6 (cV (cV gW))))) (Frq.pc gW (List.Perm.refl _)))))) (vN aJ rfl rfl (fun w hw=>by have hx:=sG w0 _ _ _ _ _ hb65 hb9 _ _ ((aH p).1) _ _ p (by with_reducible assumption) oo_ 601 _ a b ((aL p a).1) ((aL p b).1) 0 true ((aH p).2) (SLf2.sle (SLf2.sub hF61 lZ)) (SLe.sub Hp sn)  oo_ oo_ w hw;exact hx) (fun r M' hback=>?_)));obtain ⟨rfl,rfl⟩:=hback;refine go_ ?_;refine oM (sk (sk (sd (sd (sd (sR (sR (sd (sd (s0)))))))))) ?_;refine go5 ?_;rcases bt ((bC ((aH p).1) p 601 a b ((aL p a).1) ((aL p b).1) 0 true ((aH p).2)).2) with h67 | h67
  ·refine W_f (gG h67) rfl (go7 ?_);refine i7 rfl (.inr rfl) rfl rfl ?_;exact congrArg (a₁:=((((bC ((aH p).1) p 601 a b ((aL p a).1) ((aL p b).1) 0 true ((aH p).2)).1),(wl 0)):Bool×W)) (fun r:Bool×W=>(.tuple #[.bool r.1,.int .i64 r.2.1]:Value)) (show _=(bO p a b) from aN h7 (aN h8 (aN h13 (aN h17 (aN h20 (aN h27 (bE h64 (bE h67 rfl))))))))
  refine W_t (gD h67) rfl (go5 ?_);refine i7 rfl (.inr rfl) rfl rfl ?_;exact congrArg vS1 (show _=(bO p a b) from aN h7 (aN h8 (aN h13 (aN h17 (aN h20 (aN h27 (bE h64 (aN h67 rfl))))))))
 refine W_t (gD h64) rfl (go5 ?_);refine i7 rfl (.inr rfl) rfl rfl ?_;exact congrArg vS1 (show _=(bO p a b) from aN h7 (aN h8 (aN h13 (aN h17 (aN h20 (aN h27 (aN h64 rfl)))))))
theorem vC (vp:Value) (p:(List I)) (a:Rt) (b:Rt) (k:Int) (w:World) (hp:Slr w elI vp p) (hpre:Rgt p∧p.length≤100) :
    Calls prog 25 [vp,AV [pI a.n,pI a.d],AV [pI b.n,pI b.d],.int .i64 k].toArray w (fun e w'=>e = .returned (.tuple #[AV [pI ((((iB p a b k).1).lo).n),pI ((((iB p a b k).1).lo).d),pI ((((iB p a b k).1).hi).n),pI ((((iB p a b k).1).hi).d)],.bool ((iB p a b k).2.1),.int .i64 (((iB p a b k).2.2).1)])∧Ext w w'):=by
 obtain ⟨p_p,c_p,rfl⟩:=hp.form;refine cT (N:=72) func25 rfl rfl (by simp) ?_;obtain ⟨w0,rfl⟩:∃ w0,w0=w:=⟨_,rfl⟩;have Hp:=hp.old;have hm_p:=hp.max;simp only [bS,Nat.reduceAdd];refine go2 ?_;intro b1 hb1;refine go_ ?_;intro b2 hb2;refine go_ ?_;intro b3 hb3;refine go4 ?_;refine gJv [17,18,19,20,21,22] [(22,.bool (decide (k<0)||decide (64<k)))] (fun K2 J2=>?_) ?_
 ·refine go3 ?_;refine sBB rfl (fun h5=>?_) (fun h5=>?_)
  ·have ph5:=of_decide_eq_true h5;refine go4 ?_;refine J2 _ _ pp_ s0 (bI (mS h5))
  have ph5:=of_decide_eq_false h5;refine go4 ?_;refine J2 _ _ pp_ s0 (bI (kX h5 rfl))
 intro g6;refine aT _ rfl (fun h7=>?_) (fun h7=>?_)
 ·refine go7 ?_;refine aF_ rfl (.inr rfl) (fQ rfl m0 tyT rfl) rfl rfl ?_;exact congrArg vS4 (show _=(iB p a b k) from bE h7 rfl)
 have ph8:=of_decide_eq_false (Bool.or_eq_false_iff.1 h7).1;have ph9:=of_decide_eq_false (Bool.or_eq_false_iff.1 h7).2;refine go5 ?_;refine sQ (aV (v':=.tuple #[.bool ((bO p a b).1),.int .i64 (((bO p a b).2).1)]) (bN aJ rfl (fun w hw=>l9 _ p a b w (aR hw Hp sn) (by with_reducible first | assumption | exact ⟨hpre.1,by omega⟩ | exact ⟨by assumption,by omega⟩ | exact hpre.1 | exact hpre.2))) rfl) rfl (go7 ?_);refine gJv [31,32,33,34,35] [(35,.bool ((((bO p a b).2).1 != 0)||(bO p a b).1))] (fun K4 J4=>?_) ?_
 ·refine go3 ?_;refine sBB rfl (fun h11=>?_) (fun h11=>?_)
  ·refine go3 ?_;refine J4 _ _ pp_ s0 (bI (mS h11))
  refine go3 ?_;refine J4 _ _ pp_ s0 (bI (kX h11 rfl))
 intro g12;refine aT _ rfl (fun h13=>?_) (fun h13=>?_)
 ·refine go8 ?_;refine aF_ rfl (.inr rfl) (fQ rfl m0 tyT rfl) rfl rfl ?_;exact congrArg (a₁:=(((⟨(⟨I0,I0⟩:Rt),(⟨I0,I0⟩:Rt)⟩:Iv),false,(bO p a b).2):Iv×Bool×W)) (fun r:Iv×Bool×W=>(.tuple #[AV [pI r.1.lo.n,pI r.1.lo.d,pI r.1.hi.n,pI r.1.hi.d],.bool r.2.1,.int .i64 r.2.2.1]:Value)) (show _=(iB p a b k) from aN h7 (bE h13 rfl))
 refine go6 ?_;intro b14 hb14;refine go2 ?_;refine oM (sk (sk (sd (sd (s0))))) ?_;refine go5 ?_;refine gJ3 [9,10,14,15,16,42,43,44,45,46,47,48,49,50,51,52,53,54,55,56,57,58,59,60,61,62,63,64,65,66,67,68,69,70] (fun g M=>∃ (i:Nat) (mb14:Iv),(lV p a b k ((k.toNat+1)) 0 (⟨a,b⟩:Iv)) = .inl (i,mb14)∧(g 42 = .int .i64 ((i:Nat):Int))∧M=[⟨b14,49,bK [pI mb14.lo.n,pI mb14.lo.d,pI mb14.hi.n,pI mb14.hi.d]⟩,⟨b3,49,bK [pI I0,pI I0,pI I0,pI I0]⟩]) (fun K_u15 hK_u15=>?_) ?_
 ·refine go_ ?_;refine cO [9,10,14,15,16,42,43,44,45,46,47,48,49,50,51,52,53,54,55,56,57,58,59,60,61,62,63,64,65,66,67,68,69,70] (fun g nn M=>∃ (i:Nat) (mb14:Iv),(lV p a b k nn i mb14)=(lV p a b k ((k.toNat+1)) 0 (⟨a,b⟩:Iv))∧k.toNat - i<nn∧(i≤k.toNat)∧(g 42 = .int .i64 ((i:Nat):Int))∧M=[⟨b14,49,bK [pI mb14.lo.n,pI mb14.lo.d,pI mb14.hi.n,pI mb14.hi.d]⟩,⟨b3,49,bK [pI I0,pI I0,pI I0,pI I0]⟩]) ((k.toNat+1)) ?start ?round
  case start=>exact ⟨_,s0,0,(⟨a,b⟩:Iv),rfl,oo_,oo_,rfl,rfl⟩
  case round =>
   rintro nn g M ⟨i,mb14,hT0,hq0,hinv0,hg42,rfl⟩;obtain ⟨k0,rfl⟩:∃ m,nn=m+1:=⟨nn - 1,by omega⟩;simp only [eO,hg42];clear hg42;refine go4 ?_;refine aT _ rfl (fun h26=>?_) (fun h26=>?_)
   ·have ph26:=of_decide_eq_true h26;refine go8 ?_;refine sQ (bZ aJ (uW mb14.lo mb14.hi) rfl) rfl (go_ ?_);intro b27 hb27;refine go8 ?_;refine aT _ rfl (fun h28=>?_) (fun h28=>?_)
    ·refine go7 ?_;refine aF_ rfl (.inr rfl) (fQ rfl m2 tyT rfl) rfl rfl ?_;exact congrArg vS4 (show _=(iB p a b k) from aN h7 (aN h13 ((rG rfl (hT0.symm.trans (Eq.symm (bE h26 (bE h28 rfl))))))))
    refine go6 ?_;refine sQ (aV (v':=.tuple #[.bool ((bO p mb14.lo (aF mb14.lo mb14.hi)).1),.int .i64 (((bO p mb14.lo (aF mb14.lo mb14.hi)).2).1)]) (bN aJ rfl (fun w hw=>l9 _ p mb14.lo (aF mb14.lo mb14.hi) w (aR hw Hp sn) (by with_reducible first | assumption | exact ⟨hpre.1,by omega⟩ | exact ⟨by assumption,by omega⟩ | exact hpre.1 | exact hpre.2))) rfl) rfl (vK ?_);refine aT _ rfl (fun h29=>?_) (fun h29=>?_)
    ·refine go8 ?_;refine aF_ rfl (.inr rfl) (fQ rfl m2 tyT rfl) rfl rfl ?_;exact congrArg (a₁:=(((⟨(⟨I0,I0⟩:Rt),(⟨I0,I0⟩:Rt)⟩:Iv),false,(bO p mb14.lo (aF mb14.lo mb14.hi)).2):Iv×Bool×W)) (fun r:Iv×Bool×W=>(.tuple #[AV [pI r.1.lo.n,pI r.1.lo.d,pI r.1.hi.n,pI r.1.hi.d],.bool r.2.1,.int .i64 r.2.2.1]:Value)) (show _=(iB p a b k) from aN h7 (aN h13 ((rG rfl (hT0.symm.trans (Eq.symm (bE h26 (aN h28 (bE h29 rfl)))))))))
    refine go4 ?_;refine aT _ rfl (fun h30=>?_) (fun h30=>?_)
    ·refine go6 ?_;refine sV (.int .i64 (((i+1):Nat):Int)) rfl (congrArg (Value.int .i64) (wx oo_ oo_ oo_)) (go2 ?_);refine ⟨pp_,_,_,(sd (s0)),(Nat.lt_succ_self _),(i+1),(⟨(aF mb14.lo mb14.hi),mb14.hi⟩:Iv),(by exact (hT0.symm.trans (Eq.symm (bE h26 (aN h28 (aN h29 (bE h30 rfl)))))).symm),(Nat.lt_of_lt_of_le oo_ (Nat.le_of_lt_succ hq0)),oo_,rfl,rfl⟩
    refine go6 ?_;refine sV (.int .i64 (((i+1):Nat):Int)) rfl (congrArg (Value.int .i64) (wx oo_ oo_ oo_)) (go2 ?_);refine ⟨pp_,_,_,(sd (s0)),(Nat.lt_succ_self _),(i+1),(⟨mb14.lo,(aF mb14.lo mb14.hi)⟩:Iv),(by exact (hT0.symm.trans (Eq.symm (bE h26 (aN h28 (aN h29 (aN h30 rfl)))))).symm),(Nat.lt_of_lt_of_le oo_ (Nat.le_of_lt_succ hq0)),oo_,rfl,rfl⟩
   have ph26:=of_decide_eq_false h26;refine go_ ?_;refine hK_u15 _ _ pp_ ⟨_,s0,i,mb14,(by exact hT0.symm.trans (Eq.symm (aN h26 rfl))),rfl,rfl⟩
 rintro g M ⟨i,mb14,hCu15,hg42,rfl⟩;simp only [eO,hg42];clear hg42;refine go7 ?_;refine aF_ rfl (.inr rfl) (fQ rfl m1 tyT rfl) rfl rfl ?_;exact congrArg vS4 (show _=(iB p a b k) from aN h7 (aN h13 (trs (Eq.symm (smS hCu15)) rfl)))
end Go.Proofs.YtokjfhfiodopdaaGreat
