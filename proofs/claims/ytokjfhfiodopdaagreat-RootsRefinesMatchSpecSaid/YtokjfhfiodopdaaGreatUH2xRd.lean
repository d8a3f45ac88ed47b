/- Lemmas: what they ask stands in their statements. -/
import Derived.Test.YtokjfhfiodopdaaGreatUH2xYf
import Derived.Test.YtokjfhfiodopdaaGreatUAt
import Derived.Test.YtokjfhfiodopdaaGreatULb
set_option linter.unusedSimpArgs false
set_option linter.unusedVariables false
set_option maxHeartbeats 8000000
set_option maxRecDepth 20000
namespace Go.Proofs.YtokjfhfiodopdaaGreat
open Go.Kn Go.Num Tryz
attribute [local irreducible] Go.Kn.W WL PL OpQ OpR OpS
theorem rR (vp:Value) (p:(List I)) (x:Iv) (k:Int) (w:World) (hp:Slr w elI vp p) (hpre:Rgt p∧p.length≤100) :
    Calls prog 20 [vp,AV [pI x.lo.n,pI x.lo.d,pI x.hi.n,pI x.hi.d],.int .i64 k].toArray w (fun e w'=>e = .returned (AV [pI ((((cS p x k).x).lo).n),pI ((((cS p x k).x).lo).d),pI ((((cS p x k).x).hi).n),pI ((((cS p x k).x).hi).d),cb ((cS p x k).is),cw (((cS p x k).e).1)])∧Ext w w'):=by
 obtain ⟨p_p,c_p,rfl⟩:=hp.form;refine cT (N:=58) func20 rfl rfl (by simp) ?_;obtain ⟨w0,rfl⟩:∃ w0,w0=w:=⟨_,rfl⟩;have Hp:=hp.old;have hm_p:=hp.max;simp only [bS,Nat.reduceAdd];refine go2 ?_;intro b1 hb1;refine go_ ?_;intro b2 hb2;refine go2 ?_;refine gJv [13,14,15,16,17,18] [(18,.bool (decide (k<0)||decide (64<k)))] (fun K2 J2=>?_) ?_
 ·refine go3 ?_;refine sBB rfl (fun h4=>?_) (fun h4=>?_)
  ·have ph4:=of_decide_eq_true h4;refine go4 ?_;refine J2 _ _ pp_ s0 (bI (mS h4))
  have ph4:=of_decide_eq_false h4;refine go4 ?_;refine J2 _ _ pp_ s0 (bI (kX h4 rfl))
 intro g5;refine aT _ rfl (fun h6=>?_) (fun h6=>?_)
 ·refine go5 ?_;refine bP rfl (.inr rfl) (fQ rfl m0 tyT rfl) ?_;exact congrArg (fun r:Fnd9=>(AV [pI r.x.lo.n,pI r.x.lo.d,pI r.x.hi.n,pI r.x.hi.d,cb r.is,cw r.e.1]:Value)) (show _=(cS p x k) from bE h6 rfl)
 have ph7:=of_decide_eq_false (Bool.or_eq_false_iff.1 h6).1;have ph8:=of_decide_eq_false (Bool.or_eq_false_iff.1 h6).2;refine go7 ?_;refine sQ (aV (v':=AV [cw (((aY p x.lo x.hi).n).1),cw (((aY p x.lo x.hi).e).1)]) (bN aJ rfl (fun w hw=>lG _ p x.lo x.hi w (aR hw Hp sn) (by with_reducible first|assumption|exact ⟨hpre.1,by omega⟩|exact ⟨by assumption,by omega⟩|exact hpre.1|exact hpre.2))) rfl) rfl (go_ ?_);intro b9 hb9;refine go8 ?_;refine aT _ rfl (fun h10=>?_) (fun h10=>?_)
 ·refine go7 ?_;refine bP rfl (.inr rfl) (fQ rfl m1 tyT rfl) ?_;exact congrArg (a₁:=((⟨(⟨(⟨I0,I0⟩:Rt),(⟨I0,I0⟩:Rt)⟩:Iv),false,(aY p x.lo x.hi).e⟩:Fnd9):Fnd9)) (fun r:Fnd9=>(AV [pI r.x.lo.n,pI r.x.lo.d,pI r.x.hi.n,pI r.x.hi.d,cb r.is,cw r.e.1]:Value)) (show _=(cS p x k) from aN h6 (bE h10 rfl))
 refine go7 ?_;refine aT _ rfl (fun h11=>?_) (fun h11=>?_)
 ·refine go5 ?_;refine bP rfl (.inr rfl) (fQ rfl m1 tyT rfl) ?_;exact congrArg (fun r:Fnd9=>(AV [pI r.x.lo.n,pI r.x.lo.d,pI r.x.hi.n,pI r.x.hi.d,cb r.is,cw r.e.1]:Value)) (show _=(cS p x k) from aN h6 (aN h10 (bE h11 rfl)))
 refine go3 ?_;refine bJ rfl (qZ (D:=elLL) (l:=(bA p).1) (fun v=>.tuple #[v,.bool ((bA p).2)]) aJ rfl (fun w hw=>mY _ p w (aR hw Hp sn) (by with_reducible first|assumption|exact ⟨hpre.1,by omega⟩|exact ⟨by assumption,by omega⟩|exact hpre.1|exact hpre.2)) (fun p12 c13 L14 hF15=>?_));have hb16:=(tN p (by first|exact hpre.1|exact hpre.1.1|exact hpre.2.1));refine oS ?_;refine gJ3 [10,11,12,41,42,43,44,45,46,47,48,49,50,51,52,53,54,55] (fun g M=>∃ (i:Nat) (mb1:Iv),(fX p x k ((k.toNat+1)) 0 x) = .inl (i,mb1)∧(g 10 = .int .i64 ((i:Nat):Int))∧M=(L14++(⟨b9,37,bK [cw (((aY p x.lo x.hi).n).1),cw (((aY p x.lo x.hi).e).1)]⟩::(⟨b2,53,bK [pI I0,pI I0,pI I0,pI I0,cb false,cw 0]⟩::(⟨b1,49,bK [pI mb1.lo.n,pI mb1.lo.d,pI mb1.hi.n,pI mb1.hi.d]⟩::[]))))) (fun K_u17 hK_u17=>?_) ?_
 ·refine go_ ?_;refine cO [10,11,12,41,42,43,44,45,46,47,48,49,50,51,52,53,54,55] (fun g nn M=>∃ (i:Nat) (mb1:Iv),(fX p x k nn i mb1)=(fX p x k ((k.toNat+1)) 0 x)∧k.toNat - i<nn∧(i≤k.toNat)∧(g 10 = .int .i64 ((i:Nat):Int))∧M=(L14++(⟨b9,37,bK [cw (((aY p x.lo x.hi).n).1),cw (((aY p x.lo x.hi).e).1)]⟩::(⟨b2,53,bK [pI I0,pI I0,pI I0,pI I0,cb false,cw 0]⟩::(⟨b1,49,bK [pI mb1.lo.n,pI mb1.lo.d,pI mb1.hi.n,pI mb1.hi.d]⟩::[]))))) ((k.toNat+1)) ?start ?round
  case start=>exact ⟨_,s0,0,x,rfl,oo_,oo_,rfl,rfl⟩
  case round =>
   rintro nn g M ⟨i,mb1,hT0,hq0,hinv0,hg10,rfl⟩;obtain ⟨k0,rfl⟩:∃ m,nn=m+1:=⟨nn - 1,by omega⟩;simp only [eO,hg10];clear hg10;refine go6 ?_;refine aT _ rfl (fun h26=>?_) (fun h26=>?_)
   ·have ph26:=of_decide_eq_true h26;refine go6 ?_;obtain ⟨r27,hr27⟩:=nm ((dB ((bA p).1) mb1).1:Iv);refine sQ (aV (v':=.tuple #[AV [pI r27.lo.n,pI r27.lo.d,pI r27.hi.n,pI r27.hi.d],.bool ((dB ((bA p).1) mb1).2)]) (bN aJ rfl (fun w hw=>tU _ ((bA p).1) mb1 w (SLe2.ap hw (SLf2.sle (SLf2.sub hF15 lZ))) (by with_reducible first|assumption|exact hpre.1))) (by rw [hr27])) rfl (go4 ?_);intro b28 hb28;refine go8 ?_;rcases bt ((dB ((bA p).1) mb1).2) with h29|h29
    ·refine W_f (gG h29) rfl (go7 ?_);refine sV (.int .i64 (((i+1):Nat):Int)) rfl (congrArg (Value.int .i64) (wx oo_ oo_ oo_)) (go2 ?_);refine ⟨pp_,_,_,(sd (s0)),(Nat.lt_succ_self _),(i+1),r27,(by subst hr27;exact (hT0.symm.trans (Eq.symm (bE h26 (bE h29 rfl)))).symm),(Nat.lt_of_lt_of_le oo_ (Nat.le_of_lt_succ hq0)),oo_,rfl,rfl⟩
    refine W_t (gD h29) rfl (go5 ?_);refine bP rfl (.inr rfl) (fQ rfl (mC (mA (mC mZ))) tyT rfl) ?_;exact (by subst hr27;exact congrArg (fun r:Fnd9=>(AV [pI r.x.lo.n,pI r.x.lo.d,pI r.x.hi.n,pI r.x.hi.d,cb r.is,cw r.e.1]:Value)) (show _=(cS p x k) from aN h6 (aN h10 (aN h11 ((rG rfl (hT0.symm.trans (Eq.symm (bE h26 (aN h29 rfl))))))))))
   have ph26:=of_decide_eq_false h26;refine go_ ?_;refine hK_u17 _ _ pp_ ⟨_,s0,i,mb1,(by exact hT0.symm.trans (Eq.symm (aN h26 rfl))),rfl,rfl⟩
 rintro g M ⟨i,mb1,hCu17,hg10,rfl⟩;simp only [eO,hg10];clear hg10;refine oM (sR (sd (s0))) ?_;refine go6 ?_;refine bP rfl (.inr rfl) (fQ rfl m0 tyT rfl) ?_;exact congrArg (fun r:Fnd9=>(AV [pI r.x.lo.n,pI r.x.lo.d,pI r.x.hi.n,pI r.x.hi.d,cb r.is,cw r.e.1]:Value)) (show _=(cS p x k) from aN h6 (aN h10 (aN h11 (trs (Eq.symm (smS hCu17)) rfl))))
theorem zA (vq:Value) (q:(List I)) (vp:Value) (p:(List I)) (x:Iv) (w:World) (hq:Slr w elI vq q) (hp:Slr w elI vp p) (hpre:(Rgt q∧q.length≤100)∧(Rgt p∧p.length≤100)) :
    Calls prog 22 [vq,vp,AV [pI x.lo.n,pI x.lo.d,pI x.hi.n,pI x.hi.d]].toArray w (fun e w'=>e = .returned (AV [cw (((bX q p x).n).1),cw (((bX q p x).e).1)])∧Ext w w'):=by
 obtain ⟨p_q,c_q,rfl⟩:=hq.form;obtain ⟨p_p,c_p,rfl⟩:=hp.form;refine cT (N:=92) func22 rfl rfl (by simp) ?_;obtain ⟨w0,rfl⟩:∃ w0,w0=w:=⟨_,rfl⟩;have Hq:=hq.old;have hm_q:=hq.max;have Hp:=hp.old;have hm_p:=hp.max;simp only [bS,Nat.reduceAdd];refine go2 ?_;intro b1 hb1;refine go_ ?_;intro b2 hb2;refine go4 ?_;refine sQ (aV (v':=.bool (aP q)) (bN aJ rfl (fun w hw=>dN _ q w (aR hw Hq sn))) rfl) rfl (go_ ?_);refine aT _ rfl (fun h3=>?_) (fun h3=>?_)
 ·refine go5 ?_;refine bP rfl (.inr rfl) (fQ rfl m0 tyT rfl) ?_;exact congrArg (fun r:Num9=>(AV [cw r.n.1,cw r.e.1]:Value)) (show _=(bX q p x) from bE h3 rfl)
 refine go4 ?_;obtain ⟨r4,hr4⟩:=nm ((cS p x 0):Fnd9);refine sQ (aV (v':=AV [pI r4.x.lo.n,pI r4.x.lo.d,pI r4.x.hi.n,pI r4.x.hi.d,cb r4.is,cw r4.e.1]) (bN aJ rfl (fun w hw=>rR _ p x 0 w (aR hw Hp sn) (by with_reducible first|assumption|exact ⟨hpre.1,by omega⟩|exact ⟨by assumption,by omega⟩|exact hpre.1|exact hpre.2))) (by rw [hr4])) rfl (go_ ?_);intro b5 hb5;refine go8 ?_;refine aT _ rfl (fun h6=>?_) (fun h6=>?_)
 ·refine go7 ?_;refine bP rfl (.inr rfl) (fQ rfl m1 tyT rfl) ?_;exact (by subst hr4;exact congrArg (fun r:Num9=>(AV [cw r.n.1,cw r.e.1]:Value)) (show _=(bX q p x) from aN h3 (bE h6 rfl)))
 refine go4 ?_;refine sQ (aV (v':=.int .i64 (((q).length:Nat):Int)) (dO (e:=elI) dZ rfl (SLe.sub Hq sn)) rfl) rfl (go2 ?_);refine aT _ rfl (fun h7=>?_) (fun h7=>?_)
 ·have ph7:=rW h7;refine go5 ?_;refine bP rfl (.inr rfl) (fQ rfl m1 tyT rfl) ?_;exact (by subst hr4;exact congrArg (fun r:Num9=>(AV [cw r.n.1,cw r.e.1]:Value)) (show _=(bX q p x) from aN h3 (aN h6 (bE h7 rfl))))
 have ph7:=l6 h7;refine go_ ?_;refine rV [8,32,33,34,35,36,37,38,39] (fun g M=>∃ (b22:Nat) (p23:Option Addr) (c24:Nat) (L25:List Blk),(g 8 = .pointer (some ⟨b22,0,none⟩))∧(w0.heap.size≤b22∧OwnG w0 27 elI (.slice p23 (aK p q).length c24) (aK p q) L25)∧M.Perm (⟨b22,37,bK [cw (((aY (aK p q) x.lo x.hi).n).1),cw (((aY (aK p q) x.lo x.hi).e).1)]⟩::(L25++(⟨b5,53,bK [pI r4.x.lo.n,pI r4.x.lo.d,pI r4.x.hi.n,pI r4.x.hi.d,cb r4.is,cw r4.e.1]⟩::(⟨b2,37,bK [cw 0,cw 0]⟩::(⟨b1,49,bK [pI x.lo.n,pI x.lo.d,pI x.hi.n,pI x.hi.d]⟩::[])))))) (fun K4 J4=>?_) ?_
 ·refine gDk s0 (.quiet 0 [2,7,9] (.quiet 1 [2,7,9] (.quiet 3 [4,7,9] (.quiet 4 [7,9] (.quiet 5 [6,7,9] (.quiet 6 [7,9] (.both 2 (.quiet 7 [9] (.only 8 (.only 9 (.fin)))) 8 (.only 2 (.quiet 7 [9] (.only 9 (.fin))))))))))) [0,1,2,3,4,5,6,7,8] mix (by kernel_rfl) (by kernel_rfl) (go6 ?_);refine G5 ?_ ?_
  ·refine fT rfl rfl (cP (E:=27) (e:=elI) (l:=(aK p q)) (fun v=>v) aJ rfl (fun w hw=>pP _ p _ q w (aR hw Hp sn) (aR hw Hq sn) oo_) (fun p27 c28 L29 hF30=>⟨(fun _=>sR s0),(sR s0),?_⟩));have hb31:=(nT p q);have hr32:=(pR p q oo_ oo_);refine pQ rfl (aV (v':=AV [cw (((aY (aK p q) x.lo x.hi).n).1),cw (((aY (aK p q) x.lo x.hi).e).1)]) (bN aJ rfl (fun w hw=>lG _ (aK p q) x.lo x.hi w (aO hw hF30 lZ) (by with_reducible first|assumption|exact ⟨hpre.1,by omega⟩|exact ⟨by assumption,by omega⟩|exact hpre.1|exact hpre.2))) rfl) (fT rfl rfl (iD zpT (fun b33 hb33=>⟨(fun _=>sd s0),(sd (sR s0)),?_⟩)));refine go2 ?_;refine J4 _ _ pp_ ⟨_,List.Sublist.refl _,b33,p27,c28,L29,rfl,⟨hb33,hF30⟩,(List.Perm.refl _)⟩
  refine fT rfl rfl (iD zpT (fun b34 hb34=>⟨(fun _=>sd s0),(sd s0),?_⟩));refine fT rfl rfl (cP (E:=27) (e:=elI) (l:=(aK p q)) (fun v=>v) aJ rfl (fun w hw=>pP _ p _ q w (aR hw Hp sn) (aR hw Hq sn) oo_) (fun p35 c36 L37 hF38=>⟨(fun _=>sR s0),(sR (sd s0)),?_⟩));have hb39:=(nT p q);have hr40:=(pR p q oo_ oo_);refine pQ rfl (aV (v':=AV [cw (((aY (aK p q) x.lo x.hi).n).1),cw (((aY (aK p q) x.lo x.hi).e).1)]) (bN aJ rfl (fun w hw=>lG _ (aK p q) x.lo x.hi w (aO hw hF38 lZ) (by with_reducible first|assumption|exact ⟨hpre.1,by omega⟩|exact ⟨by assumption,by omega⟩|exact hpre.1|exact hpre.2))) rfl) (go2 ?_);refine J4 _ _ pp_ ⟨_,List.Sublist.refl _,b34,p35,c36,L37,rfl,⟨hb34,hF38⟩,(Frq.pc (t6 gW) (List.Perm.refl _))⟩
 rintro g4 M ⟨b22,p23,c24,L25,hg8,⟨hb22,hF26⟩,hpm41⟩;refine MP hpm41 ?_;clear hpm41;simp only [eO,hg8];clear hg8;have hb12:=(nT p q);have hr13:=(pR p q oo_ oo_);refine oM (sk (sR (sd (s0)))) ?_;refine go6 ?_;refine aT _ rfl (fun h42=>?_) (fun h42=>?_)
 ·refine go5 ?_;refine bP rfl (.inr rfl) (fQ rfl m1 tyT rfl) ?_;exact (by subst hr4;exact congrArg (fun r:Num9=>(AV [cw r.n.1,cw r.e.1]:Value)) (show _=(bX q p x) from aN h3 (aN h6 (aN h7 (bE h42 rfl)))))
 refine go7 ?_;refine aT _ rfl (fun h43=>?_) (fun h43=>?_)
 ·have ph43:=of_decide_eq_true h43;refine go5 ?_;refine bP rfl (.inr rfl) (fQ rfl m1 tyT rfl) ?_;exact (by subst hr4;exact congrArg (fun r:Num9=>(AV [cw r.n.1,cw r.e.1]:Value)) (show _=(bX q p x) from aN h3 (aN h6 (aN h7 (aN h42 (bE h43 rfl))))))
 have ph43:=of_decide_eq_false h43;refine go3 ?_;refine bJ rfl (qZ (D:=elLL) (l:=(bA p).1) (fun v=>.tuple #[v,.bool ((bA p).2)]) aJ rfl (fun w hw=>mY _ p w (aR hw Hp sn) (by with_reducible first|assumption|exact ⟨hpre.1,by omega⟩|exact ⟨by assumption,by omega⟩|exact hpre.1|exact hpre.2)) (fun p44 c45 L46 hF47=>?_));have hb48:=(tN p (by first|exact hpre.1|exact hpre.1.1|exact hpre.2.1));refine oS ?_;refine gJ3 [11,12,13,14,15,53,54,55,56,57,58,59,60,61,62,63,64,65,66,67,68,69,70,71,72,73,74,75,76,77,78,79,80,81,82,83,84,85,86,87,88,89,90] (fun g M=>∃ (i:Nat) (mb1:Iv),(gN q p x r4 ((500+1)) 0 x) = .inl (i,mb1)∧(g 11 = .int .i64 ((i:Nat):Int))∧M=(L46++(⟨b22,37,bK [cw (((aY (aK p q) x.lo x.hi).n).1),cw (((aY (aK p q) x.lo x.hi).e).1)]⟩::(⟨b2,37,bK [cw 0,cw 0]⟩::(⟨b1,49,bK [pI mb1.lo.n,pI mb1.lo.d,pI mb1.hi.n,pI mb1.hi.d]⟩::[]))))) (fun K_u49 hK_u49=>?_) ?_
 ·refine go_ ?_;refine cO [11,12,13,14,15,53,54,55,56,57,58,59,60,61,62,63,64,65,66,67,68,69,70,71,72,73,74,75,76,77,78,79,80,81,82,83,84,85,86,87,88,89,90] (fun g nn M=>∃ (i:Nat) (mb1:Iv),(gN q p x r4 nn i mb1)=(gN q p x r4 ((500+1)) 0 x)∧500 - i<nn∧(i≤500)∧(g 11 = .int .i64 ((i:Nat):Int))∧M=(L46++(⟨b22,37,bK [cw (((aY (aK p q) x.lo x.hi).n).1),cw (((aY (aK p q) x.lo x.hi).e).1)]⟩::(⟨b2,37,bK [cw 0,cw 0]⟩::(⟨b1,49,bK [pI mb1.lo.n,pI mb1.lo.d,pI mb1.hi.n,pI mb1.hi.d]⟩::[]))))) ((500+1)) ?start ?round
  case start=>exact ⟨_,s0,0,x,rfl,oo_,oo_,rfl,rfl⟩
  case round =>
   rintro nn g M ⟨i,mb1,hT0,hq0,hinv0,hg11,rfl⟩;obtain ⟨k0,rfl⟩:∃ m,nn=m+1:=⟨nn - 1,by omega⟩;simp only [eO,hg11];clear hg11;refine go5 ?_;refine aT _ rfl (fun h69=>?_) (fun h69=>?_)
   ·have ph69:=of_decide_eq_true h69;refine go9 ?_;obtain ⟨r70,hr70⟩:=nm ((aY q mb1.lo mb1.hi):Num9);refine sQ (aV (v':=AV [cw r70.n.1,cw r70.e.1]) (bN aJ rfl (fun w hw=>lG _ q mb1.lo mb1.hi w (aR hw Hq sn) (by with_reducible first|assumption|exact ⟨hpre.1,by omega⟩|exact ⟨by assumption,by omega⟩|exact hpre.1|exact hpre.2))) (by rw [hr70])) rfl (go_ ?_);intro b71 hb71;refine go8 ?_;refine aT _ rfl (fun h72=>?_) (fun h72=>?_)
    ·refine go5 ?_;refine bP rfl (.inr rfl) (fQ rfl (mC (mA (mC mZ))) tyT rfl) ?_
     subst_vars;exact congrArg (fun r:Num9=>(AV [cw r.n.1,cw r.e.1]:Value)) (show _=(bX q p x) from aN h3 (aN h6 (aN h7 (aN h42 (aN h43 ((rG rfl (hT0.symm.trans (Eq.symm (bE h69 (bE h72 rfl)))))))))))
    refine go7 ?_;refine aT _ rfl (fun h73=>?_) (fun h73=>?_)
    ·refine go4 ?_;refine sQ (aV (v':=AV [cw (((d7 q mb1.hi).s).1),cb ((d7 q mb1.hi).ok)]) (bN aJ rfl (fun w hw=>tT _ q mb1.hi w (aR hw Hq sn) oo_)) rfl) rfl (go_ ?_);intro b74 hb74;refine go8 ?_;rcases bt ((d7 q mb1.hi).ok) with h75|h75
     ·refine W_f (gG h75) rfl (go8 ?_);refine bP rfl (.inr rfl) (fQ rfl (mC (mC (mA (mC mZ)))) tyT rfl) ?_
      subst_vars;exact congrArg (a₁:=((⟨(d7 q mb1.hi).s,(wl 0)⟩:Num9):Num9)) (fun r:Num9=>(AV [cw r.n.1,cw r.e.1]:Value)) (show _=(bX q p x) from aN h3 (aN h6 (aN h7 (aN h42 (aN h43 ((rG rfl (hT0.symm.trans (Eq.symm (bE h69 (aN h72 (bE h73 (bE h75 rfl)))))))))))))
     refine W_t (gD h75) rfl (go5 ?_);refine bP rfl (.inr rfl) (fQ rfl (mC (mC (mA (mC mZ)))) tyT rfl) ?_
     subst_vars;exact congrArg (fun r:Num9=>(AV [cw r.n.1,cw r.e.1]:Value)) (show _=(bX q p x) from aN h3 (aN h6 (aN h7 (aN h42 (aN h43 ((rG rfl (hT0.symm.trans (Eq.symm (bE h69 (aN h72 (bE h73 (aN h75 rfl)))))))))))))
    refine go4 ?_;obtain ⟨r76,hr76⟩:=nm ((dB ((bA p).1) mb1).1:Iv);refine sQ (aV (v':=.tuple #[AV [pI r76.lo.n,pI r76.lo.d,pI r76.hi.n,pI r76.hi.d],.bool ((dB ((bA p).1) mb1).2)]) (bN aJ rfl (fun w hw=>tU _ ((bA p).1) mb1 w (SLe2.ap hw (SLf2.sle (SLf2.sub hF47 (sd lZ)))) (by with_reducible first|assumption|exact hpre.1))) (by rw [hr76])) rfl (go4 ?_);intro b77 hb77;refine go8 ?_;rcases bt ((dB ((bA p).1) mb1).2) with h78|h78
    ·refine W_f (gG h78) rfl (go7 ?_);refine sV (.int .i64 (((i+1):Nat):Int)) rfl (congrArg (Value.int .i64) (wx oo_ oo_ oo_)) (go2 ?_);refine ⟨pp_,_,_,(sd (sd (s0))),(Nat.lt_succ_self _),(i+1),r76,(by subst_vars;exact (hT0.symm.trans (Eq.symm (bE h69 (aN h72 (aN h73 (bE h78 rfl)))))).symm),(Nat.lt_of_lt_of_le oo_ (Nat.le_of_lt_succ hq0)),oo_,rfl,rfl⟩
    refine W_t (gD h78) rfl (go5 ?_);refine bP rfl (.inr rfl) (fQ rfl (mC (mC (mA (mC mZ)))) tyT rfl) ?_
    subst_vars;exact congrArg (fun r:Num9=>(AV [cw r.n.1,cw r.e.1]:Value)) (show _=(bX q p x) from aN h3 (aN h6 (aN h7 (aN h42 (aN h43 ((rG rfl (hT0.symm.trans (Eq.symm (bE h69 (aN h72 (aN h73 (aN h78 rfl)))))))))))))
   have ph69:=of_decide_eq_false h69;refine go_ ?_;refine hK_u49 _ _ pp_ ⟨_,s0,i,mb1,(by exact hT0.symm.trans (Eq.symm (aN h69 rfl))),rfl,rfl⟩
 rintro g M ⟨i,mb1,hCu49,hg11,rfl⟩;simp only [eO,hg11];clear hg11;refine oM (sR (sd (sk (sd (s0))))) ?_;refine go5 ?_;refine bP rfl (.inr rfl) (fQ rfl m0 tyT rfl) ?_;exact (by subst hr4;exact congrArg (fun r:Num9=>(AV [cw r.n.1,cw r.e.1]:Value)) (show _=(bX q p x) from aN h3 (aN h6 (aN h7 (aN h42 (aN h43 (trs (Eq.symm (smS hCu49)) rfl)))))))
end Go.Proofs.YtokjfhfiodopdaaGreat
namespace Go.Num
open Go Go.Kn
open QP (V)
theorem T9 {p:List I} {L:List (List I)} (h:St p L) (hA:AL L) (hl:L.length≤100) (x:Iv) :
    (gA L x).2=(dB L x).2∧((dB L x).2=true→(gA L x).1=(dB L x).1):=by
  unfold gA dB;rw [← G2,← u1 hA]
  cases hs:(aG L x.lo (aF x.lo x.hi)).2
  · simp only [Bool.not_false,Bool.true_or,cond_true]
    cases ((aG L x.lo (aF x.lo x.hi)).1.1==1)<;>simp
  obtain ⟨qa,qb,ha,hb⟩:=HH h hl hs;rw [FL hb];simp only [Bool.not_true,Bool.or_false,cond_false]
  cases ((aG L x.lo (aF x.lo x.hi)).1.1==1)<;>simp
theorem FX {p:List I} (hs:St p (aH p).1) (hr:(bA p).1=(aH p).1) (x:Iv) (hi:(bM p x).1=(aH p).1) (k:Int):∀ (n i:Nat) (m:Iv),
    (∃ j y,iC p x k n i m = .inl (j,y)∧fX p x k n i m = .inl (j,y)) ∨
    (iC p x k n i m = .inr (⟨⟨I0,I0⟩,⟨I0,I0⟩⟩,wl 30)∧fX p x k n i m = .inr ⟨⟨⟨I0,I0⟩,⟨I0,I0⟩⟩,false,wl 30⟩)
  | 0,i,m=>.inl ⟨i,m,rfl,rfl⟩
  | n+1,i,m=>by
    unfold iC fX
    cases decide (((i:Nat):Int)<k)
    · exact .inl ⟨i,m,rfl,rfl⟩
    obtain ⟨h1,h2⟩:=T9 hs (iI p) (yE p) m;rw [hi,hr];simp only [cond_true];rw [h1]
    cases h3:(dB (aH p).1 m).2
    · exact .inr ⟨rfl,rfl⟩
    rw [h2 h3];simp only [cond_true];exact FX hs hr x hi k n (i+1) _
theorem CU {p:List I} (hp:Rgt p) {a b:Rt} (h:(bG p a b).2.1=0):p≠[]∧p.all gdI=true∧iM a b=true∧(aH p).2=true∧(aG (aH p).1 a b).2=true∧(bG p a b).1=(aG (aH p).1 a b).1∧St p (aH p).1:=by
  unfold bG at h ⊢;rw [iY (tO hp)] at h ⊢
  cases hg:p.all gdI
  · rw [hg] at h;cases h
  rw [hg] at h
  by_cases h0:p=[]
  · subst h0;cases h
  have hl:((((p).length:Nat):Int)==0)=false:=by rw [cW_,decide_eq_false h0]
  rw [hl] at h ⊢
  cases hab:iM a b
  · rw [hab] at h;cases h
  rw [hab] at h
  cases hs:(aH p).2
  · rw [hs] at h;cases h
  rw [hs] at h
  cases hc:(aG (aH p).1 a b).2
  · rw [hc] at h;cases h
  refine ⟨h0,rfl,rfl,rfl,rfl,rfl,(A7 hp hs).resolve_left h0⟩
theorem VQ {p:List I} (hp:Rgt p) (x:Iv) (k:Int):dG p x k=((cS p x k).x,(cS p x k).e):=by
  have hC:=AA hp x.lo x.hi
  have e1:(aY p x.lo x.hi).e=(bG p x.lo x.hi).2:=by rw [hC]
  have e2:(aY p x.lo x.hi).n=(bG p x.lo x.hi).1:=by rw [hC]
  unfold dG cS;rw [e1,e2]
  cases (decide (k<0)||decide (64<k))
  case true=>rfl
  simp only [cond_false]
  cases h0:((bG p x.lo x.hi).2.1 != 0)
  · cases h1:((bG p x.lo x.hi).1.1 != 1)
    · have hi:bM p x=((aH p).1,wl 0):=by
        unfold bM;rw [h0,h1];rfl
      have hok:=CU hp (a:=x.lo) (b:=x.hi) (by simpa using h0)
      have hr:(bA p).1=(aH p).1:=by rw [yD hp]
      rw [hi];simp only [cond_false];rcases FX hok.2.2.2.2.2.2 hr x (by rw [hi]) k (k.toNat+1) 0 x with ⟨j,y,l1,l2⟩|⟨l1,l2⟩
      · rw [l1,l2];rfl
      rw [l1,l2];rfl
    have hi:bM p x=([],wl 1):=by
      unfold bM;rw [h0,h1];rfl
    rw [hi];rfl
  have hi:bM p x=([],(bG p x.lo x.hi).2):=by
    unfold bM;rw [h0];rfl
  rw [hi];simp only [cond_true];rw [h0];rfl
theorem W3 {q p:List I} (hq:Rgt q) (hs:St p (aH p).1) (hr:(bA p).1=(aH p).1) (x:Iv) (r4:Fnd9) (hi:(bM p x).1=(aH p).1):∀ (m n i:Nat) (y:Iv) (r:W×W) (r':Num9),m+i=501→n+i=601→1≤m →
    j5 q p x n i y = .inr r→gN q p x r4 m i y = .inr r'→r'.e.1≠30→r=(r'.n,r'.e):=by
  intro m
  induction m with
  | zero=>intro n i y r r' _ _ h;exact absurd h dd_
  | succ m ih =>
    intro n i y r r' hm hn _ h1 h2 h3;obtain ⟨n,rfl⟩:∃ j,n=j+1:=⟨n - 1,by omega⟩;unfold j5 at h1;unfold gN at h2
    by_cases hlt:((i:Nat):Int)<500
    · rw [decide_eq_true (show ((i:Nat):Int)<600 by omega),cond_true] at h1
      rw [decide_eq_true hlt,cond_true] at h2
      dsimp only at h1 h2
      have hC:=AA hq y.lo y.hi
      have e1:(aY q y.lo y.hi).e=(bG q y.lo y.hi).2:=by rw [hC]
      have e2:(aY q y.lo y.hi).n=(bG q y.lo y.hi).1:=by rw [hC]
      rw [e1,e2] at h2
      cases h0:((bG q y.lo y.hi).2.1 != 0)
      · rw [h0,cond_false] at h2
        obtain ⟨_,_,_,_,c1,c2,_⟩:=CU hq (a:=y.lo) (b:=y.hi) (by simpa using h0);rw [c2] at h2;rw [c1,cond_true] at h1
        cases hz:((aG (aH q).1 y.lo y.hi).1.1==0)
        · rw [hz,cond_false] at h1 h2
          obtain ⟨k1,k2⟩:=T9 hs (iI p) (yE p) y;rw [hi] at h1;rw [hr] at h2;rw [k1] at h1
          cases k3:(dB (aH p).1 y).2
          · rw [k3,cond_false] at h2
            cases h2
            exact absurd rfl h3
          rw [k3,cond_true] at h1 h2;rw [k2 k3] at h1;exact ih n (i+1) _ r r' oo_ oo_ oo_ h1 h2 h3
        rw [hz,cond_true] at h1 h2;rw [OU (tO hq)] at h1
        cases hS:(d7 q y.hi).ok
        · rw [hS,cond_false] at h2
          cases h2
          exact absurd rfl h3
        rw [hS,cond_true] at h1 h2
        cases h1;cases h2;rfl
      rw [h0,cond_true] at h2
      cases h2
      exact absurd rfl h3
    rw [decide_eq_false hlt,cond_false] at h2
    cases h2
theorem XR {q p:List I} (hq:Rgt q) (hp:Rgt p) (x:Iv) (h1:(dU q p x).2.1≠30) (h2:(bX q p x).e.1≠30):dU q p x=((bX q p x).n,(bX q p x).e):=by
  have hR:(cS p x 0).e=(bM p x).2:=by
    have hC:=AA hp x.lo x.hi
    have e1:(aY p x.lo x.hi).e=(bG p x.lo x.hi).2:=by rw [hC]
    have e2:(aY p x.lo x.hi).n=(bG p x.lo x.hi).1:=by rw [hC]
    unfold cS bM;rw [e1,e2,show (decide ((0:Int)<0)||decide ((64:Int)<0))=false by decide,cond_false]
    cases ((bG p x.lo x.hi).2.1 != 0)
    · cases ((bG p x.lo x.hi).1.1 != 1)
      · rfl
      rfl
    rfl
  unfold dU at h1 ⊢;unfold bX at h2 ⊢;rw [iY (tO hq)] at h1 ⊢;rw [lN] at h2 ⊢
  dsimp only at h2 ⊢
  rw [hR] at h2 ⊢
  cases hgq:q.all gdI
  · rfl
  rw [hgq] at h1 h2;simp only [Bool.not_true,cond_false] at h1 h2 ⊢
  cases hi:((bM p x).2.1 != 0)
  case true=>rfl
  rw [hi] at h1 h2;simp only [cond_false] at h1 h2 ⊢
  cases hz:((((q).length:Nat):Int)==0)
  case true=>rfl
  rw [hz] at h1 h2;simp only [cond_false] at h1 h2 ⊢
  -- the interval is of one zero of p
  have hiso:(bG p x.lo x.hi).2.1=0∧(bM p x).1=(aH p).1:=by
    unfold bM at hi ⊢
    cases c1:((bG p x.lo x.hi).2.1 != 0)
    · rw [c1] at hi
      cases c2:((bG p x.lo x.hi).1.1 != 1)
      · refine ⟨by simpa using c1,?_⟩
        simp only [cond_false]
      rw [c2] at hi;simp only [cond_false,cond_true] at hi;cases hi
    rw [c1] at hi;rw [cond_true] at hi;rw [c1] at hi;cases hi
  obtain ⟨p0,pg,pab,ps,pc,_,pSt⟩:=CU hp hiso.1;have hgr:=yY p q (tO hp) (tO hq);have hC:=AA hgr x.lo x.hi;rw [← GF (tO hp) (tO hq)] at h2 ⊢
  have e1:(aY (aQ p q) x.lo x.hi).e=(bG (aQ p q) x.lo x.hi).2:=by rw [hC]
  have e2:(aY (aQ p q) x.lo x.hi).n=(bG (aQ p q) x.lo x.hi).1:=by rw [hC]
  rw [e1,e2] at h2 ⊢
  cases hc:((bG (aQ p q) x.lo x.hi).2.1 != 0)
  case true=>rw [hc] at h2;exact absurd rfl h2
  obtain ⟨_,_,_,gs,gc,gn,_⟩:=CU hgr (by simpa using hc);rw [hc,gn] at h2;rw [gs] at h1;rw [gn,gs]
  cases hqs:(aH q).2
  case false=>rw [hqs] at h1;exact absurd rfl h1
  rw [hqs,gc] at h1;rw [gc];simp only [Bool.not_true,Bool.or_false,cond_false,cond_true] at h1 h2 ⊢
  cases hpos:decide (0<(aG (aH (aQ p q)).1 x.lo x.hi).1.1)
  case true=>rfl
  rw [hpos] at h1 h2;simp only [cond_false] at h1 h2 ⊢
  cases l1:j5 q p x (600+1) 0 x with
  | inl s=>rw [l1] at h1;exact absurd rfl h1
  | inr r =>
    cases l2:gN q p x (cS p x 0) (500+1) 0 x with
    | inl s=>rw [l2] at h2;exact absurd rfl h2
    | inr r' =>
      rw [l2] at h2;exact W3 hq pSt (by rw [yD hp]) x _ hiso.2 (500+1) (600+1) 0 x r r' dd_ dd_ dd_ l1 l2 h2
def fP (q:(List I)) (p:(List I)) (x:Iv) (k:W):Bool :=
  bif (!(eM p x.lo x.hi)||(!(eM q x.lo x.hi))) then (iX) else (let r6:Iv:=(dG p x k.1).1
  let r8:Fnd9:=(cS p x k.1)
  bif (!((cQ ((dG p x k.1).2) r8.e (bV p x.lo x.hi k)).2)||(!((cQ ((dG p x k.1).2) r8.e (bV p x.lo x.hi k)).1)&&(!(decide (r6.lo.n=r8.x.lo.n)&&(decide (r6.lo.d=r8.x.lo.d)&&(decide (r6.hi.n=r8.x.hi.n)&&decide (r6.hi.d=r8.x.hi.d))))||(((dG p x k.1).2).1 != r8.e.1)))) then (false) else ((iX&&((cQ ((dU q p x).2) ((bX q p x).e) false).2&&((cQ ((dU q p x).2) ((bX q p x).e) false).1||((((dU q p x).1).1==((bX q p x).n).1)&&(((dU q p x).2).1==((bX q p x).e).1)))))))
open QP (V Rb Two)
theorem GS {e f:W} {S:Bool} (h:S=true→e.1≠30∧f.1≠30):(cQ e f S).2=true:=by
  unfold cQ
  cases S
  · simp
  obtain ⟨h1,h2⟩:=h rfl
  simp [h1,h2]
theorem UE {e f:W} {S P:Bool} (h:e.1≠30→f.1≠30→P=true):((cQ e f S).1||P)=true:=by
  unfold cQ
  by_cases h1:e.1=30
  · simp [h1]
  by_cases h2:f.1=30
  · simp [h2]
  rw [h h1 h2];simp
theorem A5 {p:List I} {a b:Rt} {k:W} (hS:bV p a b k=true):Rgt p∧k.1≤16∧((aU p||((((p).length:Nat):Int)==0))=true ∨ ∃ A B,a.At A∧b.At B∧Sp p A B):=by
  obtain ⟨hf,⟨A,hA,sA⟩,⟨B,hB,sB⟩,hk⟩:=XU hS;have hr:=(TW hf).1;refine ⟨hr,hk,?_⟩
  cases hg:p.all gdI
  · left;rw [iY (tO hr),hg];rfl
  by_cases h0:p=[]
  · left;rw [h0];rfl
  exact .inr ⟨A,B,hA,hB,Sp.of hf hg h0 sA sB⟩
theorem AB {p:List I} {a b:Rt} {k:W} (hS:bV p a b k=true):(bG p a b).2.1≠30:=by
  obtain ⟨_,_,h|⟨A,B,hA,hB,h⟩⟩:=A5 hS
  · unfold bG
    rw [← Bool.or_assoc,h,Bool.true_or,cond_true];decide
  rw [h.Count hA hB]
  cases iM a b
  · rw [cond_false];decide
  rw [cond_true];show ((0:Int))≠30;decide
theorem E8 {p:List I} {A B:Rat} (h:Sp p A B) (x:Iv) (hi:(bM p x).1=(aH p).1) {k:Int} (hk:k≤16):∀ (n i:Nat) (j:Int) (m:Iv) (u v:Rat),i≤17→m.lo.At u→m.hi.At v→It A B (2 ^ i) j u v→∃ y,iC p x k n i m = .inl y
  | 0,i,j,m,u,v,_,_,_,_=>⟨_,rfl⟩
  | n+1,i,j,m,u,v,hi17,ha,hb,it=>by
    unfold iC
    by_cases hik:((i:Nat):Int)<k
    · rw [decide_eq_true hik,cond_true,hi]
      have hm:=h.mid oo_ ha hb it.lo it.hi;have hc:=h.count oo_ ha hm it.left.lo it.left.hi
      dsimp only
      unfold gA;rw [hc,FL hm];simp only [Bool.not_true,Bool.or_self,cond_false]
      cases ((aG (aH p).1 m.lo (aF m.lo m.hi)).1.1==1)
      · simp only [cond_false,cond_true]
        exact E8 h x hi hk n (i+1) _ _ _ v oo_ hm hb it.right
      simp only [cond_true];exact E8 h x hi hk n (i+1) _ _ u _ oo_ ha hm it.left
    rw [decide_eq_false hik,cond_false];exact ⟨_,rfl⟩
theorem CX {p:List I} {x:Iv} {k:W} (hS:bV p x.lo x.hi k=true):(dG p x k.1).2.1≠30:=by
  have hc:=AB hS;unfold dG
  cases (decide (k.1<0)||decide (64<k.1))
  case true=>rw [cond_true];decide
  rw [cond_false]
  cases h0:((bG p x.lo x.hi).2.1 != 0)
  · cases h1:((bG p x.lo x.hi).1.1 != 1)
    · have hi:bM p x=((aH p).1,wl 0):=by
        unfold bM;rw [h0,h1];rfl
      obtain ⟨_,hk,h|⟨A,B,hA,hB,h⟩⟩:=A5 hS
      · exfalso
        unfold bG at h0;rw [← Bool.or_assoc,h,Bool.true_or,cond_true] at h0;cases h0
      obtain ⟨y,hy⟩:=E8 h x (by rw [hi]) hk (k.1.toNat+1) 0 0 x A B dd_ hA hB h.pA;rw [hi,hy]
      show (0:Int)≠30
      decide
    have hi:bM p x=([],wl 1):=by
      unfold bM;rw [h0,h1];rfl
    rw [hi]
    show (1:Int)≠30
    decide
  have hi:bM p x=([],(bG p x.lo x.hi).2):=by
    unfold bM;rw [h0];rfl
  rw [hi];simp only;rw [h0,cond_true];exact hc
theorem TD (q p:List I) (x:Iv) (k:W):fP q p x k=true:=by
  unfold fP
  cases hf:(!(eM p x.lo x.hi)||(!(eM q x.lo x.hi)))
  case true=>rw [cond_true];exact DY
  simp only [Bool.or_eq_false_iff,Bool.not_eq_false'] at hf;have hp:=(AE hf.1).1;have hq:=(AE hf.2).1;have hR:=VQ hp x k.1
  have e1:(cS p x k.1).e=(dG p x k.1).2:=by rw [hR]
  have e2:(cS p x k.1).x=(dG p x k.1).1:=by rw [hR]
  rw [cond_false]
  dsimp only
  rw [e1,e2,DY];rw [GS (e:=(dG p x k.1).2) (f:=(dG p x k.1).2) fun hS=>⟨CX hS,CX hS⟩];rw [GS (e:=(dU q p x).2) (f:=(bX q p x).e) (S:=false) fun hS=>by cases hS]
  rw [UE (e:=(dU q p x).2) (f:=(bX q p x).e) fun h1 h2=>by
    have:=XR hq hp x h1 h2
    rw [this];simp]
  simp
end Go.Num
namespace Go.Proofs.YtokjfhfiodopdaaGreat
open Go.Kn Go.Num Tryz
attribute [local irreducible] Go.Kn.W WL PL OpQ OpR OpS
theorem z9 (vq:Value) (q:(List I)) (vp:Value) (p:(List I)) (x:Iv) (k:W) (w:World) (hq:Slr w elI vq q) (hp:Slr w elI vp p) :
    Calls prog 4 [vq,vp,AV [pI x.lo.n,pI x.lo.d,pI x.hi.n,pI x.hi.d],.int .i64 k.1].toArray w (fun e w'=>e = .returned (.bool (fP q p x k))∧Ext w w'):=by
 obtain ⟨p_q,c_q,rfl⟩:=hq.form;obtain ⟨p_p,c_p,rfl⟩:=hp.form;refine cT (N:=118) func4 rfl rfl (by simp) ?_;obtain ⟨w0,rfl⟩:∃ w0,w0=w:=⟨_,rfl⟩;have Hq:=hq.old;have hm_q:=hq.max;have Hp:=hp.old;have hm_p:=hp.max;simp only [bS,Nat.reduceAdd];refine go2 ?_;intro b1 hb1;refine go8 ?_;refine sQ (aV (v':=.bool (eM p x.lo x.hi)) (bN aJ rfl (fun w hw=>pM _ p x.lo x.hi w (aR hw Hp sn))) rfl) rfl (go8 ?_);refine sQ (aV (v':=.bool (eM q x.lo x.hi)) (bN aJ rfl (fun w hw=>pM _ q x.lo x.hi w (aR hw Hq sn))) rfl) rfl (go3 ?_);refine gJv [31,32,33,34,35,36] [(36,.bool (!(eM p x.lo x.hi)||(!(eM q x.lo x.hi))))] (fun K2 J2=>?_) ?_
 ·refine go3 ?_;rcases bt (eM p x.lo x.hi) with h3|h3
  ·refine sB (gG h3) rfl (go4 ?_);refine J2 _ _ pp_ s0 (bI (lE h3 rfl))
  refine sB (gD h3) rfl (go4 ?_);refine J2 _ _ pp_ s0 (bI (nI h3))
 intro g4;refine aT _ rfl (fun h5=>?_) (fun h5=>?_)
 ·refine go_ ?_;refine sQ (bZ aJ mL  rfl) rfl (go3 ?_);refine bP rfl (.inr rfl) rfl ?_;exact congrArg vS0 (show _=(fP q p x k) from bE h5 rfl)
 refine go_ ?_;obtain ⟨hRp,hLp⟩:=KV (Bool.or_eq_false_iff.1 h5).1;obtain ⟨hRq,hLq⟩:=KV (Bool.or_eq_false_iff.1 h5).2;refine go4 ?_;obtain ⟨r6,hr6⟩:=nm ((dG p x k.1).1:Iv);refine sQ (aV (v':=.tuple #[AV [pI r6.lo.n,pI r6.lo.d,pI r6.hi.n,pI r6.hi.d],.int .i64 (((dG p x k.1).2).1)]) (bN aJ rfl (fun w hw=>xZ _ p x k.1 w (aR hw Hp sn) (by with_reducible first|assumption|exact ⟨hpre.1,by omega⟩|exact ⟨by assumption,by omega⟩|exact hpre.1|exact hpre.2))) (by rw [hr6])) rfl (go4 ?_);intro b7 hb7;refine go7 ?_;obtain ⟨r8,hr8⟩:=nm ((cS p x k.1):Fnd9);refine sQ (aV (v':=AV [pI r8.x.lo.n,pI r8.x.lo.d,pI r8.x.hi.n,pI r8.x.hi.d,cb r8.is,cw r8.e.1]) (bN aJ rfl (fun w hw=>rR _ p x k.1 w (aR hw Hp sn) (by with_reducible first|assumption|exact ⟨hpre.1,by omega⟩|exact ⟨by assumption,by omega⟩|exact hpre.1|exact hpre.2))) (by rw [hr8])) rfl (go_ ?_);intro b9 hb9;refine go2 ?_;refine rX s0 16 [] [] (go9 ?_);refine pQ rfl (aV (v':=.bool (bV p x.lo x.hi k)) (bN aJ rfl (fun w hw=>sM _ p x.lo x.hi k w (aR hw Hp sn))) rfl) (pQ rfl (bZ aJ (nE ((dG p x k.1).2) r8.e (bV p x.lo x.hi k)) rfl) (go7 ?_));refine gJv [63,64,65,66,67,68,69,70,71,72,73,74,75,76,77,78,79,80] [(80,.bool (!((cQ ((dG p x k.1).2) r8.e (bV p x.lo x.hi k)).2)||(!((cQ ((dG p x k.1).2) r8.e (bV p x.lo x.hi k)).1)&&(!(decide (r6.lo.n=r8.x.lo.n)&&(decide (r6.lo.d=r8.x.lo.d)&&(decide (r6.hi.n=r8.x.hi.n)&&decide (r6.hi.d=r8.x.hi.d))))||(((dG p x k.1).2).1 != r8.e.1)))))] (fun K4 J4=>?_) ?_
 ·refine go3 ?_;rcases bt ((cQ ((dG p x k.1).2) r8.e (bV p x.lo x.hi k)).2) with h17|h17
  ·refine sB (gG h17) rfl (go2 ?_);rcases bt ((cQ ((dG p x k.1).2) r8.e (bV p x.lo x.hi k)).1) with h18|h18
   ·refine sB (gG h18) rfl (F7 ?_);refine J4 _ _ pp_ s0 (bI (lE h17 (xF h18)))
   refine sB (gD h18) rfl (go3 ?_);refine sQ (CO (r:=(decide (r6.lo.n=r8.x.lo.n)&&(decide (r6.lo.d=r8.x.lo.d)&&(decide (r6.hi.n=r8.x.hi.n)&&decide (r6.hi.d=r8.x.hi.d))))) rfl rfl (oA 8 dd_ TT UK (jW jU (jW jU (jW jU (oT jU)))) (jW jU (jW jU (jW jU (oT jU)))) (oB rfl pU (oB rfl pU (oB rfl pU (uR pU)))))) rfl ?_;rcases bt (decide (r6.lo.n=r8.x.lo.n)&&(decide (r6.lo.d=r8.x.lo.d)&&(decide (r6.hi.n=r8.x.hi.n)&&decide (r6.hi.d=r8.x.hi.d)))) with h19|h19
   ·have ph20:=of_decide_eq_true (Bool.and_eq_true_iff.1 h19).1;have ph21:=of_decide_eq_true (Bool.and_eq_true_iff.1 (Bool.and_eq_true_iff.1 h19).2).1;have ph22:=of_decide_eq_true (Bool.and_eq_true_iff.1 (Bool.and_eq_true_iff.1 (Bool.and_eq_true_iff.1 h19).2).2).1;have ph23:=of_decide_eq_true (Bool.and_eq_true_iff.1 (Bool.and_eq_true_iff.1 (Bool.and_eq_true_iff.1 h19).2).2).2;refine sB (gG h19) rfl (go8 ?_);refine J4 _ _ pp_ s0 (bI (lE h17 (o6 h18 (lE h19 rfl))))
   refine sB (gD h19) rfl (go8 ?_);refine J4 _ _ pp_ s0 (bI (lE h17 (o6 h18 (nI h19))))
  refine sB (gD h17) rfl (V7 ?_);refine J4 _ _ pp_ s0 (bI (nI h17))
 intro g24;refine aT _ rfl (fun h25=>?_) (fun h25=>?_)
 ·refine go4 ?_;refine bP rfl (.inr rfl) rfl ?_
  subst_vars;exact congrArg vS0 (show _=(fP q p x k) from aN h5 (bE h25 rfl))
 refine go5 ?_;refine sQ (aV (v':=.tuple #[.int .i64 (((dU q p x).1).1),.int .i64 (((dU q p x).2).1)]) (bN aJ rfl (fun w hw=>wH _ q _ p x w (aR hw Hq sn) (aR hw Hp sn) (by with_reducible first|assumption|exact ⟨⟨by assumption,by omega⟩,⟨by assumption,by omega⟩⟩))) rfl) rfl (oS ?_);refine sQ (aV (v':=AV [cw (((bX q p x).n).1),cw (((bX q p x).e).1)]) (bN aJ rfl (fun w hw=>zA _ q _ p x w (aR hw Hq sn) (aR hw Hp sn) (by with_reducible first|assumption|exact ⟨⟨by assumption,by omega⟩,⟨by assumption,by omega⟩⟩))) rfl) rfl (go_ ?_);intro b26 hb26;refine go2 ?_;refine oM (sk (sd (sd (sd (s0))))) ?_;refine go4 ?_;refine sQ (bZ aJ (nE ((dU q p x).2) ((bX q p x).e) false) rfl) rfl (go6 ?_);refine gJv [8,99,100,101,102,103,104,105,106,107,108,109,110,111,112,113,114,115,116,117] [(8,.bool (iX&&((cQ ((dU q p x).2) ((bX q p x).e) false).2&&((cQ ((dU q p x).2) ((bX q p x).e) false).1||((((dU q p x).1).1==((bX q p x).n).1)&&(((dU q p x).2).1==((bX q p x).e).1))))))] (fun K5 J5=>?_) ?_
 ·refine go_ ?_;refine sQ (bZ aJ mL  rfl) rfl ?_;refine sBB rfl (fun h31=>?_) (fun h31=>?_)
  ·refine go2 ?_;refine sBB rfl (fun h32=>?_) (fun h32=>?_)
   ·refine go_ ?_;refine sBB rfl (fun h33=>?_) (fun h33=>?_)
    ·refine HW ?_;refine J5 _ _ pp_ s0 (bI (cU h31 (cU h32 (mS h33))))
    refine go4 ?_;refine sBB rfl (fun h34=>?_) (fun h34=>?_)
    ·refine go9 ?_;refine J5 _ _ pp_ s0 (bI (cU h31 (cU h32 (kX h33 (cU h34 rfl)))))
    refine go9 ?_;refine J5 _ _ pp_ s0 (bI (cU h31 (cU h32 (kX h33 (iQ h34)))))
   refine V7 ?_;refine J5 _ _ pp_ s0 (bI (cU h31 (iQ h32)))
  refine bM_ ?_;refine J5 _ _ pp_ s0 (bI (iQ h31))
 intro g35;refine go_ ?_;refine bP rfl (.inr rfl) rfl ?_
 subst_vars;exact congrArg vS0 (show _=(fP q p x k) from aN h5 (aN h25 rfl))
end Go.Proofs.YtokjfhfiodopdaaGreat
