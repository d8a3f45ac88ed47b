/- Lemmas: what they ask stands in their statements. -/
import Derived.Test.YtokjfhfiodopdaaGreatWYf
set_option linter.unusedSimpArgs false
set_option linter.unusedVariables false
set_option maxHeartbeats 8000000
set_option maxRecDepth 20000
namespace Go.Proofs.YtokjfhfiodopdaaGreat
open Go.Kn Go.Num Tryz
attribute [local irreducible] Go.Kn.W WL PL OpQ OpR OpS
theorem uU (vp:Value) (p:(List I)) (x:Iv) (w:World) (hp:Slr w elI vp p) (hpre:Rgt p∧p.length≤100) :
    Calls prog 53 [vp,AV [pI x.lo.n,pI x.lo.d,pI x.hi.n,pI x.hi.d]].toArray w (fun e w'=>∃ v,e = .returned (.tuple #[v,.int .i64 (((cE p x).2).1)])∧Ext w w'∧Slf2 w.heap.size w' elLL v (cE p x).1):=by
 obtain ⟨p_p,c_p,rfl⟩:=hp.form;refine DO (n:=30) (fun v=>.tuple #[v,.int .i64 (((cE p x).2).1)]) func53 rfl rfl (by simp) ?_;obtain ⟨w0,rfl⟩:∃ w0,w0=w:=⟨_,rfl⟩;have Hp:=hp.old;have hm_p:=hp.max;simp only [bK,Nat.reduceAdd];refine go2 ?_;intro b1 hb1;refine go9 ?_;refine sQ (aS (v':=.tuple #[.int .i64 (((dF p x.lo x.hi).1).1),.int .i64 (((dF p x.lo x.hi).2).1)]) (bE aJ rfl (fun w hw=>oK _ p x.lo x.hi w (aR hw Hp sn) (by with_reducible first | assumption | exact ⟨hpre.1,by omega⟩ | exact ⟨by assumption,by omega⟩ | exact hpre.1 | exact hpre.2))) rfl) rfl (vK ?_);refine aQ _ rfl (fun h2=>?_) (fun h2=>?_)
 ·refine go6 ?_;refine iY rfl (.inr rfl) rfl rfl ?_
  have hE:((([]:List (List I)),(dF p x.lo x.hi).2):(List (List I))×W)=(cE p x):=by exact aW h2 rfl
  rw [← hE];exact ⟨_,rfl,SLf2.nil⟩
 refine go6 ?_;refine aQ _ rfl (fun h3=>?_) (fun h3=>?_)
 ·refine go5 ?_;refine iY rfl (.inr rfl) rfl rfl ?_
  have hE:((([]:List (List I)),(wl 1)):(List (List I))×W)=(cE p x):=by exact aM h2 (aW h3 rfl)
  rw [← hE];exact ⟨_,rfl,SLf2.nil⟩
 refine go3 ?_;refine bC rfl (t6 (D:=elLL) (l:=(aI p).1) (fun v=>.tuple #[v,.bool ((aI p).2)]) aJ rfl (fun w hw=>lT _ p w (aR hw Hp sn) (by with_reducible first | assumption | exact ⟨hpre.1,by omega⟩ | exact ⟨by assumption,by omega⟩ | exact hpre.1 | exact hpre.2)) (fun p4 c5 L6 hF7=>?_));have hb8:=(lK p);refine FU ?_;refine iY rfl (.inr rfl) rfl rfl ?_
 have hE:(((aI p).1,(wl 0)):(List (List I))×W)=(cE p x):=by exact aM h2 (aM h3 rfl)
 rw [← hE];exact ⟨_,rfl,(SLf2.sub hF7 lZ)⟩
theorem yZ (vc:Value) (c:(List (List I))) (x:Iv) (w:World) (hc:Slr2 w elLL vc c) (hpre:AL c) :
    Calls prog 54 [vc,AV [pI x.lo.n,pI x.lo.d,pI x.hi.n,pI x.hi.d]].toArray w (fun e w'=>e = .returned (.tuple #[AV [pI ((((gP c x).1).lo).n),pI ((((gP c x).1).lo).d),pI ((((gP c x).1).hi).n),pI ((((gP c x).1).hi).d)],.bool ((gP c x).2)])∧Ext w w'):=by
 obtain ⟨p_c,c_c,rfl⟩:=hc.form;refine cQ (N:=40) func54 rfl rfl (by simp) ?_;obtain ⟨w0,rfl⟩:∃ w0,w0=w:=⟨_,rfl⟩;have Hc:=hc.old;have hm_c:=hc.max;simp only [bK,Nat.reduceAdd];refine go2 ?_;intro b1 hb1;refine go_ ?_;intro b2 hb2;refine go7 ?_;refine sQ (bM aJ (tC x.lo x.hi) rfl) rfl (go_ ?_);intro b3 hb3;refine go7 ?_;refine sQ (aS (v':=.tuple #[.int .i64 (((aH c x.lo (aE x.lo x.hi)).1).1),.bool ((aH c x.lo (aE x.lo x.hi)).2)]) (bE aJ rfl (fun w hw=>m7 _ c x.lo (aE x.lo x.hi) w (SLe2.ap hw (SLe2.sub Hc sn)) (by with_reducible first | assumption | exact hpre.1))) rfl) rfl (go7 ?_);refine gJv [22,23,24,25,26,27,28] [(28,.bool (!((aH c x.lo (aE x.lo x.hi)).2)||((aE x.lo x.hi).n).1.bad))] (fun K2 J2=>?_) ?_
 ·refine go3 ?_;rcases bt ((aH c x.lo (aE x.lo x.hi)).2) with h5 | h5
  ·refine sB (fY h5) rfl (go5 ?_);refine J2 _ _ pp_ s0 (aZ (jC h5 rfl))
  refine sB (fP h5) rfl (go5 ?_);refine J2 _ _ pp_ s0 (aZ (mI h5))
 intro g6;refine aQ _ rfl (fun h7=>?_) (fun h7=>?_)
 ·refine go6 ?_;refine iY rfl (.inr rfl) (gT rfl m1 tyT rfl) rfl ?_;exact congrArg (fun r:Iv×Bool=>(.tuple #[AV [pI r.1.lo.n,pI r.1.lo.d,pI r.1.hi.n,pI r.1.hi.d],.bool r.2]:Value)) (show _=(gP c x) from aW h7 rfl)
 refine go6 ?_;refine aQ _ rfl (fun h8=>?_) (fun h8=>?_)
 ·refine go9 ?_;refine iY rfl (.inr rfl) (gT rfl m1 tyT rfl) rfl ?_;exact congrArg (a₁:=(((⟨x.lo,(aE x.lo x.hi)⟩:Iv),true):Iv×Bool)) (fun r:Iv×Bool=>(.tuple #[AV [pI r.1.lo.n,pI r.1.lo.d,pI r.1.hi.n,pI r.1.hi.d],.bool r.2]:Value)) (show _=(gP c x) from aM h7 (aW h8 rfl))
 refine pO ?_;refine iY rfl (.inr rfl) (gT rfl m1 tyT rfl) rfl ?_;exact congrArg (a₁:=(((⟨(aE x.lo x.hi),x.hi⟩:Iv),true):Iv×Bool)) (fun r:Iv×Bool=>(.tuple #[AV [pI r.1.lo.n,pI r.1.lo.d,pI r.1.hi.n,pI r.1.hi.d],.bool r.2]:Value)) (show _=(gP c x) from aM h7 (aM h8 rfl))
theorem rC (x:Rt) :
    Ret prog 42 [AV [pI x.n,pI x.d]] (.bool (i9 x)):=by
 refine bT (N:=17) func42 rfl rfl (by simp) (fun w0=>?_);simp only [bK,Nat.reduceAdd];refine go2 ?_;intro b1 hb1;refine go2 ?_;refine gJv [2,3,4,5,6,7,8,9,10,11,12,13,14,15,16] [(2,.bool ((aP x)&&(decide ((Z.bitsW x.n.dec).1≤12)&&decide ((Z.bitsW x.d.dec).1≤12))))] (fun K1 J1=>?_) ?_
 ·refine go2 ?_;refine sQ (bM aJ (iD x) rfl) rfl ?_;refine sBB rfl (fun h4=>?_) (fun h4=>?_)
  ·refine go2 ?_;refine sC (.int .i64 ((Z.bitsW x.n.dec).1)) aJ (n9 x.n.1 x.n.2) rfl rfl rfl (go2 ?_);refine sBB rfl (fun h5=>?_) (fun h5=>?_)
   ·have ph5:=of_decide_eq_true h5;refine go2 ?_;refine sC (.int .i64 ((Z.bitsW x.d.dec).1)) aJ (n9 x.d.1 x.d.2) rfl rfl rfl (go4 ?_);refine J1 _ _ pp_ s0 (aZ (bW h4 (bW h5 rfl)))
   have ph5:=of_decide_eq_false h5;refine go7 ?_;refine J1 _ _ pp_ s0 (aZ (bW h4 (hJ h5)))
  refine FV ?_;refine J1 _ _ pp_ s0 (aZ (hJ h4))
 intro g6;refine go_ ?_;refine bG rfl (.inr rfl) rfl ?_;exact (by rfl)
theorem nT (vp:Value) (p:(List I)) (a:Rt) (b:Rt) (k:W) (w:World) (hp:Slr w elI vp p) :
    Calls prog 12 [vp,AV [pI a.n,pI a.d],AV [pI b.n,pI b.d],.int .i64 k.1].toArray w (fun e w'=>e = .returned (.bool (cK p a b k))∧Ext w w'):=by
 obtain ⟨p_p,c_p,rfl⟩:=hp.form;refine cQ (N:=25) func12 rfl rfl (by simp) ?_;obtain ⟨w0,rfl⟩:∃ w0,w0=w:=⟨_,rfl⟩;have Hp:=hp.old;have hm_p:=hp.max;simp only [bK,Nat.reduceAdd];refine go2 ?_;intro b1 hb1;refine go_ ?_;intro b2 hb2;refine go4 ?_;refine sQ (aS (v':=.bool (bU p 3 32)) (bE aJ rfl (fun w hw=>oV _ p 3 32 w (aR hw Hp sn) oo_)) rfl) rfl (go2 ?_);refine gJv [8,12,13,14,15,16,17,18,19,20,21,22,23,24] [(8,.bool ((bU p 3 32)&&((i9 a)&&((i9 b)&&decide (k.1≤16)))))] (fun K1 J1=>?_) ?_
 ·refine go2 ?_;refine sBB rfl (fun h6=>?_) (fun h6=>?_)
  ·refine go_ ?_;refine sQ (bM aJ (rC a) rfl) rfl (go_ ?_);refine sBB rfl (fun h7=>?_) (fun h7=>?_)
   ·refine go_ ?_;refine sQ (bM aJ (rC b) rfl) rfl (go_ ?_);refine sBB rfl (fun h8=>?_) (fun h8=>?_)
    ·refine go5 ?_;refine J1 _ _ pp_ s0 (aZ (bW h6 (bW h7 (bW h8 rfl))))
    refine go5 ?_;refine J1 _ _ pp_ s0 (aZ (bW h6 (bW h7 (hJ h8))))
   refine go9 ?_;refine J1 _ _ pp_ s0 (aZ (bW h6 (hJ h7)))
  refine FV ?_;refine J1 _ _ pp_ s0 (aZ (hJ h6))
 intro g9;refine go_ ?_;refine bG rfl (.inr rfl) rfl ?_;exact (by rfl)
theorem uX (va:Value) (a:(List Iv)) (vb:Value) (b:(List Iv)) (w:World) (ha:Slr w z6 va a) (hb:Slr w z6 vb b) :
    Calls prog 18 [va,vb].toArray w (fun e w'=>e = .returned (.bool (i3 a b))∧Ext w w'):=by
 obtain ⟨p_a,c_a,rfl⟩:=ha.form;obtain ⟨p_b,c_b,rfl⟩:=hb.form;refine cQ (N:=26) func18 rfl rfl (by simp) ?_;obtain ⟨w0,rfl⟩:∃ w0,w0=w:=⟨_,rfl⟩;have Ha:=ha.old;have hm_a:=ha.max;have Hb:=hb.old;have hm_b:=hb.max;simp only [bK,Nat.reduceAdd];refine go6 ?_;refine sQ (aS (v':=.int .i64 (((a).length:Nat):Int)) (dW (e:=z6) O5 rfl (SLe.sub Ha sn)) rfl) rfl (go_ ?_);refine sQ (aS (v':=.int .i64 (((b).length:Nat):Int)) (dW (e:=z6) O5 rfl (SLe.sub Hb sn)) rfl) rfl (go2 ?_);refine aQ _ rfl (fun h1=>?_) (fun h1=>?_)
 ·have ph2:=e2_ h1;refine go4 ?_;refine bG rfl (.inr rfl) rfl ?_;exact congrArg vS0 (show _=(i3 a b) from aW h1 rfl)
 have ph3:=e1_ h1;refine go5 ?_;refine gJ3 [4,5,11,12,13,14,15,16,17,18,19,20,21,22,23,24,25] (fun g M=>∃ (k:Nat),(iM a b ((a.length+1)) 0) = .inl k∧(g 5 = .int .i64 ((k:Nat):Int))∧M=[]) (fun K_u4 hK_u4=>?_) ?_
 ·refine go_ ?_;refine cF [4,5,11,12,13,14,15,16,17,18,19,20,21,22,23,24,25] (fun g nn M=>∃ (k:Nat),(iM a b nn k)=(iM a b ((a.length+1)) 0)∧a.length - k<nn∧(k≤a.length)∧(g 5 = .int .i64 ((k:Nat):Int))∧M=[]) ((a.length+1)) ?start ?round
  case start=>exact ⟨_,s0,0,rfl,oo_,oo_,rfl,rfl⟩
  case round =>
   rintro nn g M ⟨k,hT0,hq0,hinv0,hg5,rfl⟩;obtain ⟨k0,rfl⟩:∃ m,nn=m+1:=⟨nn - 1,by omega⟩;simp only [eH,hg5];clear hg5;refine go4 ?_;refine sQ (aS (v':=.int .i64 (((a).length:Nat):Int)) (dW (e:=z6) O5 rfl (SLe.sub Ha sn)) rfl) rfl (go2 ?_);refine aQ _ rfl (fun h17=>?_) (fun h17=>?_)
   ·have ph17:=of_decide_eq_true h17;refine go3 ?_;refine rD sn 9 [] [] (go2 ?_);refine pQ rfl (aS (v':=.pointer (some (slb (.slice p_a a.length c_a) (k * 72+0)))) (kZ (e:=z6) (l:=a) (k:=k) O5 rfl rfl (SLe.sub Ha sn) o2_) rfl) ?_;refine pQ rfl (j7 (e:=z6) (l:=a) (k:=k) (o:=0) tyT rfl (SLe.sub Ha sn) (dN Iv0 o2_) rfl) ?_;refine go2 ?_;refine pQ rfl (aS (v':=.pointer (some (slb (.slice p_b b.length c_b) (k * 72+0)))) (kZ (e:=z6) (l:=b) (k:=k) O5 rfl rfl (SLe.sub Hb sn) o2_) rfl) ?_;refine pQ rfl (j7 (e:=z6) (l:=b) (k:=k) (o:=0) tyT rfl (SLe.sub Hb sn) (dN Iv0 o2_) rfl) ?_;refine pQ rfl (A5 (r:=(decide ((((a.getD k Iv0).lo).n)=(((b.getD k Iv0).lo).n))&&(decide ((((a.getD k Iv0).lo).d)=(((b.getD k Iv0).lo).d))&&(decide ((((a.getD k Iv0).hi).n)=(((b.getD k Iv0).hi).n))&&decide ((((a.getD k Iv0).hi).d)=(((b.getD k Iv0).hi).d)))))) rfl rfl (mQ 8 dd_ R2 SR (iZ iV (iZ iV (iZ iV (mY iV)))) (iZ iV (iZ iV (iZ iV (mY iV)))) (mH rfl nX (mH rfl nX (mH rfl nX (rI nX)))))) (go_ ?_);rcases bt (decide ((((a.getD k Iv0).lo).n)=(((b.getD k Iv0).lo).n))&&(decide ((((a.getD k Iv0).lo).d)=(((b.getD k Iv0).lo).d))&&(decide ((((a.getD k Iv0).hi).n)=(((b.getD k Iv0).hi).n))&&decide ((((a.getD k Iv0).hi).d)=(((b.getD k Iv0).hi).d))))) with h18 | h18
    ·have ph19:=of_decide_eq_true (Bool.and_eq_true_iff.1 h18).1;have ph20:=of_decide_eq_true (Bool.and_eq_true_iff.1 (Bool.and_eq_true_iff.1 h18).2).1;have ph21:=of_decide_eq_true (Bool.and_eq_true_iff.1 (Bool.and_eq_true_iff.1 (Bool.and_eq_true_iff.1 h18).2).2).1;have ph22:=of_decide_eq_true (Bool.and_eq_true_iff.1 (Bool.and_eq_true_iff.1 (Bool.and_eq_true_iff.1 h18).2).2).2;refine W_f (fY h18) rfl (go3 ?_);refine sV (.int .i64 (((k+1):Nat):Int)) rfl (congrArg (Value.int .i64) (wx oo_ oo_ oo_)) (go2 ?_);refine ⟨pp_,_,_,s0,(Nat.lt_succ_self _),(k+1),(by exact (hT0.symm.trans (Eq.symm (aW h17 (aW h18 rfl)))).symm),(Nat.lt_of_lt_of_le oo_ (Nat.le_of_lt_succ hq0)),oo_,rfl,rfl⟩
    refine W_t (fP h18) rfl (go4 ?_);refine bG rfl (.inr rfl) rfl ?_;exact congrArg vS0 (show _=(i3 a b) from aM h1 ((vO rfl (hT0.symm.trans (Eq.symm (aW h17 (aM h18 rfl)))))))
   have ph17:=of_decide_eq_false h17;refine go_ ?_;refine hK_u4 _ _ pp_ ⟨_,s0,k,(by exact hT0.symm.trans (Eq.symm (aM h17 rfl))),rfl,rfl⟩
 rintro g M ⟨k,hCu4,hg5,rfl⟩;simp only [eH,hg5];clear hg5;refine go4 ?_;refine bG rfl (.inr rfl) rfl ?_;exact congrArg vS0 (show _=(i3 a b) from aM h1 (trs (Eq.symm (smS hCu4)) rfl))
theorem DC (vp:Value) (p:(List I)) (x:Iv) (k:Int) (w:World) (hp:Slr w elI vp p) (hpre:Rgt p∧p.length≤100) :
    Calls prog 19 [vp,AV [pI x.lo.n,pI x.lo.d,pI x.hi.n,pI x.hi.d],.int .i64 k].toArray w (fun e w'=>e = .returned (.tuple #[AV [pI ((((iK p x k).1).lo).n),pI ((((iK p x k).1).lo).d),pI ((((iK p x k).1).hi).n),pI ((((iK p x k).1).hi).d)],.int .i64 (((iK p x k).2).1)])∧Ext w w'):=by
 obtain ⟨p_p,c_p,rfl⟩:=hp.form;refine cQ (N:=44) func19 rfl rfl (by simp) ?_;obtain ⟨w0,rfl⟩:∃ w0,w0=w:=⟨_,rfl⟩;have Hp:=hp.old;have hm_p:=hp.max;simp only [bK,Nat.reduceAdd];refine go2 ?_;intro b1 hb1;refine go_ ?_;intro b2 hb2;refine go3 ?_;refine gJv [12,13,14,15,16,17] [(17,.bool (decide (k<0)||decide (64<k)))] (fun K2 J2=>?_) ?_
 ·refine go3 ?_;refine sBB rfl (fun h4=>?_) (fun h4=>?_)
  ·have ph4:=of_decide_eq_true h4;refine go4 ?_;refine J2 _ _ pp_ s0 (aZ (lX h4))
  have ph4:=of_decide_eq_false h4;refine go4 ?_;refine J2 _ _ pp_ s0 (aZ (kE h4 rfl))
 intro g5;refine aQ _ rfl (fun h6=>?_) (fun h6=>?_)
 ·refine go6 ?_;refine iY rfl (.inr rfl) (gT rfl m0 tyT rfl) rfl ?_;exact congrArg vS5 (show _=(iK p x k) from aW h6 rfl)
 have ph7:=of_decide_eq_false (Bool.or_eq_false_iff.1 h6).1;have ph8:=of_decide_eq_false (Bool.or_eq_false_iff.1 h6).2;refine go4 ?_;refine bC rfl (t6 (D:=elLL) (l:=(cE p x).1) (fun v=>.tuple #[v,.int .i64 (((cE p x).2).1)]) aJ rfl (fun w hw=>uU _ p x w (aR hw Hp sn) (by with_reducible first | assumption | exact ⟨hpre.1,by omega⟩ | exact ⟨by assumption,by omega⟩ | exact hpre.1 | exact hpre.2)) (fun p9 c10 L11 hF12=>?_));have hb13:=(vD p x);refine vK ?_;refine aQ _ rfl (fun h14=>?_) (fun h14=>?_)
 ·refine go7 ?_;refine iY rfl (.inr rfl) (gT rfl (mA mZ) tyT rfl) rfl ?_;exact congrArg (a₁:=(((⟨(⟨I0,I0⟩:Rt),(⟨I0,I0⟩:Rt)⟩:Iv),(cE p x).2):Iv×W)) (fun r:Iv×W=>(.tuple #[AV [pI r.1.lo.n,pI r.1.lo.d,pI r.1.hi.n,pI r.1.hi.d],.int .i64 r.2.1]:Value)) (show _=(iK p x k) from aM h6 (aW h14 rfl))
 refine go6 ?_;refine gJ3 [7,10,11,30,31,32,33,34,35,36,37,38,39,40,41,42] (fun g M=>∃ (i:Nat) (mb1:Iv),(lH p x k ((k.toNat+1)) 0 x) = .inl (i,mb1)∧(g 30 = .int .i64 ((i:Nat):Int))∧M=(L11 ++ (⟨b2,49,bB [pI I0,pI I0,pI I0,pI I0]⟩ :: (⟨b1,49,bB [pI mb1.lo.n,pI mb1.lo.d,pI mb1.hi.n,pI mb1.hi.d]⟩ :: [])))) (fun K_u15 hK_u15=>?_) ?_
 ·refine go_ ?_;refine cF [7,10,11,30,31,32,33,34,35,36,37,38,39,40,41,42] (fun g nn M=>∃ (i:Nat) (mb1:Iv),(lH p x k nn i mb1)=(lH p x k ((k.toNat+1)) 0 x)∧k.toNat - i<nn∧(i≤k.toNat)∧(g 30 = .int .i64 ((i:Nat):Int))∧M=(L11 ++ (⟨b2,49,bB [pI I0,pI I0,pI I0,pI I0]⟩ :: (⟨b1,49,bB [pI mb1.lo.n,pI mb1.lo.d,pI mb1.hi.n,pI mb1.hi.d]⟩ :: [])))) ((k.toNat+1)) ?start ?round
  case start=>exact ⟨_,s0,0,x,rfl,oo_,oo_,rfl,rfl⟩
  case round =>
   rintro nn g M ⟨i,mb1,hT0,hq0,hinv0,hg30,rfl⟩;obtain ⟨k0,rfl⟩:∃ m,nn=m+1:=⟨nn - 1,by omega⟩;simp only [eH,hg30];clear hg30;refine go4 ?_;refine aQ _ rfl (fun h24=>?_) (fun h24=>?_)
   ·have ph24:=of_decide_eq_true h24;refine go6 ?_;obtain ⟨r25,hr25⟩:=nm ((gP ((cE p x).1) mb1).1:Iv);refine sQ (aS (v':=.tuple #[AV [pI r25.lo.n,pI r25.lo.d,pI r25.hi.n,pI r25.hi.d],.bool ((gP ((cE p x).1) mb1).2)]) (bE aJ rfl (fun w hw=>yZ _ ((cE p x).1) mb1 w (SLe2.ap hw (SLf2.sle (SLf2.sub hF12 lZ))) (by with_reducible first | assumption | exact hpre.1))) (by rw [hr25])) rfl (go4 ?_);intro b26 hb26;refine go8 ?_;rcases bt ((gP ((cE p x).1) mb1).2) with h27 | h27
    ·refine W_f (fY h27) rfl (go6 ?_);refine sV (.int .i64 (((i+1):Nat):Int)) rfl (congrArg (Value.int .i64) (wx oo_ oo_ oo_)) (go2 ?_);refine ⟨pp_,_,_,(sd (s0)),(Nat.lt_succ_self _),(i+1),r25,(by subst hr25;exact (hT0.symm.trans (Eq.symm (aW h24 (aW h27 rfl)))).symm),(Nat.lt_of_lt_of_le oo_ (Nat.le_of_lt_succ hq0)),oo_,rfl,rfl⟩
    refine W_t (fP h27) rfl (go6 ?_);refine iY rfl (.inr rfl) (gT rfl (mC (mA mZ)) tyT rfl) rfl ?_;exact (by subst hr25;exact congrArg vS5 (show _=(iK p x k) from aM h6 (aM h14 ((vO rfl (hT0.symm.trans (Eq.symm (aW h24 (aM h27 rfl)))))))))
   have ph24:=of_decide_eq_false h24;refine go_ ?_;refine hK_u15 _ _ pp_ ⟨_,s0,i,mb1,(by exact hT0.symm.trans (Eq.symm (aM h24 rfl))),rfl,rfl⟩
 rintro g M ⟨i,mb1,hCu15,hg30,rfl⟩;simp only [eH,hg30];clear hg30;refine go6 ?_;refine iY rfl (.inr rfl) (gT rfl (mA mZ) tyT rfl) rfl ?_;exact congrArg vS5 (show _=(iK p x k) from aM h6 (aM h14 (trs (Eq.symm (smS hCu15)) rfl)))
theorem yY (vq:Value) (q:(List I)) (vp:Value) (p:(List I)) (x:Iv) (w:World) (hq:Slr w elI vq q) (hp:Slr w elI vp p) (hpre:(Rgt q∧q.length≤100)∧(Rgt p∧p.length≤100)) :
    Calls prog 21 [vq,vp,AV [pI x.lo.n,pI x.lo.d,pI x.hi.n,pI x.hi.d]].toArray w (fun e w'=>e = .returned (.tuple #[.int .i64 (((gO q p x).1).1),.int .i64 (((gO q p x).2).1)])∧Ext w w'):=by
 obtain ⟨p_q,c_q,rfl⟩:=hq.form;obtain ⟨p_p,c_p,rfl⟩:=hp.form;refine cQ (N:=97) func21 rfl rfl (by simp) ?_;obtain ⟨w0,rfl⟩:∃ w0,w0=w:=⟨_,rfl⟩;have Hq:=hq.old;have hm_q:=hq.max;have Hp:=hp.old;have hm_p:=hp.max;simp only [bK,Nat.reduceAdd];refine go2 ?_;intro b1 hb1;refine go7 ?_;refine sQ (aS (v':=.bool (aT q)) (bE aJ rfl (fun w hw=>eG _ q w (aR hw Hq sn))) rfl) rfl (go_ ?_);refine aQ _ rfl (fun h2=>?_) (fun h2=>?_)
 ·refine go5 ?_;refine iY rfl (.inr rfl) rfl rfl ?_;exact congrArg vS9 (show _=(gO q p x) from aW h2 rfl)
 refine go4 ?_;refine bC rfl (t6 (D:=elLL) (l:=(cE p x).1) (fun v=>.tuple #[v,.int .i64 (((cE p x).2).1)]) aJ rfl (fun w hw=>uU _ p x w (aR hw Hp sn) (by with_reducible first | assumption | exact ⟨hpre.1,by omega⟩ | exact ⟨by assumption,by omega⟩ | exact hpre.1 | exact hpre.2)) (fun p3 c4 L5 hF6=>?_));have hb7:=(vD p x);refine vK ?_;refine aQ _ rfl (fun h8=>?_) (fun h8=>?_)
 ·refine go6 ?_;refine iY rfl (.inr rfl) rfl rfl ?_;exact congrArg (a₁:=(((wl 0),(cE p x).2):W×W)) (fun r:W×W=>(.tuple #[.int .i64 r.1.1,.int .i64 r.2.1]:Value)) (show _=(gO q p x) from aM h2 (aW h8 rfl))
 refine go4 ?_;refine sQ (aS (v':=.int .i64 (((q).length:Nat):Int)) (dW (e:=elI) d9 rfl (SLe.sub Hq sn)) rfl) rfl (go2 ?_);refine aQ _ rfl (fun h9=>?_) (fun h9=>?_)
 ·have ph9:=tR h9;refine go5 ?_;refine iY rfl (.inr rfl) rfl rfl ?_;exact congrArg vS9 (show _=(gO q p x) from aM h2 (aM h8 (aW h9 rfl)))
 have ph9:=nJ h9;refine go4 ?_;refine bC rfl (cU (E:=27) (e:=elI) (l:=(aN p q)) (fun v=>v) aJ rfl (fun w hw=>B2 _ p _ q w (aR hw Hp sn) (aR hw Hq sn) oo_) (fun p10 c11 L12 hF13=>?_));have hb14:=(w8 p q);have hr15:=(LF p q oo_ oo_);refine bC rfl (t6 (D:=elLL) (l:=(aI (aN p q)).1) (fun v=>.tuple #[v,.bool ((aI (aN p q)).2)]) aJ rfl (fun w hw=>lT _ (aN p q) w (aO hw hF13 lZ) (by with_reducible first | assumption | exact ⟨hpre.1,by omega⟩ | exact ⟨by assumption,by omega⟩ | exact hpre.1 | exact hpre.2)) (fun p16 c17 L18 hF19=>?_));have hb20:=(lK (aN p q));refine go8 ?_;refine bC rfl (t6 (D:=elLL) (l:=(aI q).1) (fun v=>.tuple #[v,.bool ((aI q).2)]) aJ rfl (fun w hw=>lT _ q w (aR hw Hq sn) (by with_reducible first | assumption | exact ⟨hpre.1,by omega⟩ | exact ⟨by assumption,by omega⟩ | exact hpre.1 | exact hpre.2)) (fun p21 c22 L23 hF24=>?_));have hb25:=(lK q);refine go7 ?_;refine gJv [45,46,47,48,49,50] [(50,.bool (!((aI (aN p q)).2)||(!(aI q).2)))] (fun K5 J5=>?_) ?_
 ·refine go3 ?_;rcases bt ((aI (aN p q)).2) with h27 | h27
  ·refine sB (fY h27) rfl (go4 ?_);refine J5 _ _ pp_ s0 (aZ (jC h27 rfl))
  refine sB (fP h27) rfl (go4 ?_);refine J5 _ _ pp_ s0 (aZ (mI h27))
 intro g28;refine aQ _ rfl (fun h29=>?_) (fun h29=>?_)
 ·refine go5 ?_;refine iY rfl (.inr rfl) rfl rfl ?_;exact congrArg vS9 (show _=(gO q p x) from aM h2 (aM h8 (aM h9 (aW h29 rfl))))
 refine go7 ?_;refine sQ (aS (v':=.tuple #[.int .i64 (((aH ((aI (aN p q)).1) x.lo x.hi).1).1),.bool ((aH ((aI (aN p q)).1) x.lo x.hi).2)]) (bE aJ rfl (fun w hw=>m7 _ ((aI (aN p q)).1) x.lo x.hi w (SLe2.ap hw (SLf2.sle (SLf2.sub hF19 (sR lZ)))) (by with_reducible first | assumption | exact hpre.1))) rfl) rfl (go6 ?_);refine pW (sA (sR (sR (s0)))) ?_;refine go5 ?_;rcases bt ((aH ((aI (aN p q)).1) x.lo x.hi).2) with h30 | h30
 ·refine W_f (fY h30) rfl (go6 ?_);refine aQ _ rfl (fun h31=>?_) (fun h31=>?_)
  ·have ph31:=of_decide_eq_true h31;refine go5 ?_;refine iY rfl (.inr rfl) rfl rfl ?_;exact congrArg vS9 (show _=(gO q p x) from aM h2 (aM h8 (aM h9 (aM h29 (aW h30 (aW h31 rfl))))))
  have ph31:=of_decide_eq_false h31;refine go7 ?_;refine gJ3 [6,7,15,16,17,18,64,65,66,67,68,69,70,71,72,73,74,75,76,77,78,79,80,81,82,83,84,85,86,87,88,89,90,91,92,93,94,95,96] (fun g M=>∃ (i:Nat) (mb1:Iv),(mG q p x ((600+1)) 0 x) = .inl (i,mb1)∧(g 64 = .int .i64 ((i:Nat):Int))∧M=(L23 ++ (L5 ++ (⟨b1,49,bB [pI mb1.lo.n,pI mb1.lo.d,pI mb1.hi.n,pI mb1.hi.d]⟩ :: [])))) (fun K_u32 hK_u32=>?_) ?_
  ·refine go_ ?_;refine cF [6,7,15,16,17,18,64,65,66,67,68,69,70,71,72,73,74,75,76,77,78,79,80,81,82,83,84,85,86,87,88,89,90,91,92,93,94,95,96] (fun g nn M=>∃ (i:Nat) (mb1:Iv),(mG q p x nn i mb1)=(mG q p x ((600+1)) 0 x)∧600 - i<nn∧(i≤600)∧(g 64 = .int .i64 ((i:Nat):Int))∧M=(L23 ++ (L5 ++ (⟨b1,49,bB [pI mb1.lo.n,pI mb1.lo.d,pI mb1.hi.n,pI mb1.hi.d]⟩ :: [])))) ((600+1)) ?start ?round
   case start=>exact ⟨_,s0,0,x,rfl,oo_,oo_,rfl,rfl⟩
   case round =>
    rintro nn g M ⟨i,mb1,hT0,hq0,hinv0,hg64,rfl⟩;obtain ⟨k0,rfl⟩:∃ m,nn=m+1:=⟨nn - 1,by omega⟩;simp only [eH,hg64];clear hg64;refine go4 ?_;refine aQ _ rfl (fun h45=>?_) (fun h45=>?_)
    ·have ph45:=of_decide_eq_true h45;refine go9 ?_;refine sQ (aS (v':=.tuple #[.int .i64 (((aH ((aI q).1) mb1.lo mb1.hi).1).1),.bool ((aH ((aI q).1) mb1.lo mb1.hi).2)]) (bE aJ rfl (fun w hw=>m7 _ ((aI q).1) mb1.lo mb1.hi w (SLe2.ap hw (SLf2.sle (SLf2.sub hF24 lZ))) (by with_reducible first | assumption | exact hpre.1))) rfl) rfl (vK ?_);rcases bt ((aH ((aI q).1) mb1.lo mb1.hi).2) with h46 | h46
     ·refine W_f (fY h46) rfl (go6 ?_);refine aQ _ rfl (fun h47=>?_) (fun h47=>?_)
      ·refine go5 ?_;refine sQ (aS (v':=.tuple #[.int .i64 (((aG q mb1.hi).1).1),.bool ((aG q mb1.hi).2)]) (bE aJ rfl (fun w hw=>qE _ q mb1.hi w (aR hw Hq sn) oo_)) rfl) rfl (go9 ?_);refine aQ _ rfl (fun h48=>?_) (fun h48=>?_)
       ·refine go6 ?_;refine iY rfl (.inr rfl) rfl rfl ?_;exact congrArg (a₁:=(((aG q mb1.hi).1,(wl 0)):W×W)) (fun r:W×W=>(.tuple #[.int .i64 r.1.1,.int .i64 r.2.1]:Value)) (show _=(gO q p x) from aM h2 (aM h8 (aM h9 (aM h29 (aW h30 (aM h31 ((vO rfl (hT0.symm.trans (Eq.symm (aW h45 (aW h46 (aW h47 (aW h48 rfl))))))))))))))
       refine go2 ?_;refine hK_u32 _ _ pp_ ⟨_,s0,i,mb1,(by exact hT0.symm.trans (Eq.symm (aW h45 (aW h46 (aW h47 (aM h48 rfl)))))),rfl,rfl⟩
      refine go4 ?_;obtain ⟨r49,hr49⟩:=nm ((gP ((cE p x).1) mb1).1:Iv);refine sQ (aS (v':=.tuple #[AV [pI r49.lo.n,pI r49.lo.d,pI r49.hi.n,pI r49.hi.d],.bool ((gP ((cE p x).1) mb1).2)]) (bE aJ rfl (fun w hw=>yZ _ ((cE p x).1) mb1 w (SLe2.ap hw (SLf2.sle (SLf2.sub hF6 (sR lZ)))) (by with_reducible first | assumption | exact hpre.1))) (by rw [hr49])) rfl (pO ?_);rcases bt ((gP ((cE p x).1) mb1).2) with h50 | h50
      ·refine W_f (fY h50) rfl (go2 ?_);refine sV (.int .i64 (((i+1):Nat):Int)) rfl (congrArg (Value.int .i64) (wx oo_ oo_ oo_)) (go2 ?_);refine ⟨pp_,_,_,s0,(Nat.lt_succ_self _),(i+1),r49,(by subst hr49;exact (hT0.symm.trans (Eq.symm (aW h45 (aW h46 (aM h47 (aW h50 rfl)))))).symm),(Nat.lt_of_lt_of_le oo_ (Nat.le_of_lt_succ hq0)),oo_,rfl,rfl⟩
      refine W_t (fP h50) rfl (go_ ?_);refine hK_u32 _ _ pp_ ⟨_,s0,i,r49,(by subst hr49;exact hT0.symm.trans (Eq.symm (aW h45 (aW h46 (aM h47 (aM h50 rfl)))))),rfl,rfl⟩
     refine W_t (fP h46) rfl (go_ ?_);refine hK_u32 _ _ pp_ ⟨_,s0,i,mb1,(by exact hT0.symm.trans (Eq.symm (aW h45 (aM h46 rfl)))),rfl,rfl⟩
    have ph45:=of_decide_eq_false h45;refine go_ ?_;refine hK_u32 _ _ pp_ ⟨_,s0,i,mb1,(by exact hT0.symm.trans (Eq.symm (aM h45 rfl))),rfl,rfl⟩
  rintro g M ⟨i,mb1,hCu32,hg64,rfl⟩;simp only [eH,hg64];clear hg64;refine go5 ?_;refine iY rfl (.inr rfl) rfl rfl ?_;exact congrArg vS9 (show _=(gO q p x) from aM h2 (aM h8 (aM h9 (aM h29 (aW h30 (aM h31 (trs (Eq.symm (smS hCu32)) rfl)))))))
 refine W_t (fP h30) rfl (go5 ?_);refine iY rfl (.inr rfl) rfl rfl ?_;exact congrArg vS9 (show _=(gO q p x) from aM h2 (aM h8 (aM h9 (aM h29 (aM h30 rfl)))))
end Go.Proofs.YtokjfhfiodopdaaGreat
namespace Go.Num
open Go Go.Kn
theorem BT (c:List (List I)):∀ (n:Nat) (a b:Rt) (k:Nat) (ok:Bool) (out:List Iv),out.length≤(aU c n a b k ok out).2.length
  | 0,a,b,k,ok,out=>Nat.le_refl _
  | n+1,a,b,k,ok,out=>by
    unfold aU;generalize (ok&&((aH c a b).2&&(decide (((k:Nat):Int)<600)&&(!a.n.1.bad&&(!b.n.1.bad)))))=o;generalize ((aH c a b).1).1=m
    cases (!o||(m==0))
    · rw [cond_false]
      cases (m==1)
      · rw [cond_false]
        exact Nat.le_trans (BT c n _ _ _ _ _) (BT c n _ _ _ _ _)
      rw [cond_true]
      simp
    exact Nat.le_refl _
end Go.Num
