/- Lemmas: what they ask stands in their statements. -/
import Derived.Test.YtokjfhfiodopdaaGreatUYf
set_option linter.unusedSimpArgs false
set_option linter.unusedVariables false
set_option maxHeartbeats 8000000
set_option maxRecDepth 20000
namespace Go.Proofs.YtokjfhfiodopdaaGreat
open Go.Kn Go.Num Tryz
attribute [local irreducible] Go.Kn.W WL PL OpQ OpR OpS
theorem wK (vp:Value) (p:(List I)) (x:Iv) (w:World) (hp:Slr w elI vp p) (hpre:Rgt p∧p.length≤100) :
    Calls prog 53 [vp,AV [pI x.lo.n,pI x.lo.d,pI x.hi.n,pI x.hi.d]].toArray w (fun e w'=>∃ v,e = .returned (.tuple #[v,.int .i64 (((bM p x).2).1)])∧Ext w w'∧Slf2 w.heap.size w' elLL v (bM p x).1):=by
 obtain ⟨p_p,c_p,rfl⟩:=hp.form;refine AD (n:=30) (fun v=>.tuple #[v,.int .i64 (((bM p x).2).1)]) func53 rfl rfl (by simp) ?_;obtain ⟨w0,rfl⟩:∃ w0,w0=w:=⟨_,rfl⟩;have Hp:=hp.old;have hm_p:=hp.max;simp only [bS,Nat.reduceAdd];refine go2 ?_;intro b1 hb1;refine go9 ?_;refine sQ (aV (v':=.tuple #[.int .i64 (((bG p x.lo x.hi).1).1),.int .i64 (((bG p x.lo x.hi).2).1)]) (bN aJ rfl (fun w hw=>nX _ p x.lo x.hi w (aR hw Hp sn) (by with_reducible first | assumption | exact ⟨hpre.1,by omega⟩ | exact ⟨by assumption,by omega⟩ | exact hpre.1 | exact hpre.2))) rfl) rfl (vK ?_);refine aT _ rfl (fun h2=>?_) (fun h2=>?_)
 ·refine go6 ?_;refine i7 rfl (.inr rfl) rfl rfl ?_
  have hE:((([]:List (List I)),(bG p x.lo x.hi).2):(List (List I))×W)=(bM p x):=by exact bE h2 rfl
  rw [← hE];exact ⟨_,rfl,SLf2.nil⟩
 refine go6 ?_;refine aT _ rfl (fun h3=>?_) (fun h3=>?_)
 ·refine go5 ?_;refine i7 rfl (.inr rfl) rfl rfl ?_
  have hE:((([]:List (List I)),(wl 1)):(List (List I))×W)=(bM p x):=by exact aN h2 (bE h3 rfl)
  rw [← hE];exact ⟨_,rfl,SLf2.nil⟩
 refine go3 ?_;refine bJ rfl (qZ (D:=elLL) (l:=(aH p).1) (fun v=>.tuple #[v,.bool ((aH p).2)]) aJ rfl (fun w hw=>m9 _ p w (aR hw Hp sn) (by with_reducible first | assumption | exact ⟨hpre.1,by omega⟩ | exact ⟨by assumption,by omega⟩ | exact hpre.1 | exact hpre.2)) (fun p4 c5 L6 hF7=>?_));have hb8:=(iI p);refine R8 ?_;refine i7 rfl (.inr rfl) rfl rfl ?_
 have hE:(((aH p).1,(wl 0)):(List (List I))×W)=(bM p x):=by exact aN h2 (aN h3 rfl)
 rw [← hE];exact ⟨_,rfl,(SLf2.sub hF7 lZ)⟩
theorem AU (vc:Value) (c:(List (List I))) (x:Iv) (w:World) (hc:Slr2 w elLL vc c) (hpre:AL c) :
    Calls prog 54 [vc,AV [pI x.lo.n,pI x.lo.d,pI x.hi.n,pI x.hi.d]].toArray w (fun e w'=>e = .returned (.tuple #[AV [pI ((((gA c x).1).lo).n),pI ((((gA c x).1).lo).d),pI ((((gA c x).1).hi).n),pI ((((gA c x).1).hi).d)],.bool ((gA c x).2)])∧Ext w w'):=by
 obtain ⟨p_c,c_c,rfl⟩:=hc.form;refine cT (N:=40) func54 rfl rfl (by simp) ?_;obtain ⟨w0,rfl⟩:∃ w0,w0=w:=⟨_,rfl⟩;have Hc:=hc.old;have hm_c:=hc.max;simp only [bS,Nat.reduceAdd];refine go2 ?_;intro b1 hb1;refine go_ ?_;intro b2 hb2;refine go7 ?_;refine sQ (bZ aJ (uW x.lo x.hi) rfl) rfl (go_ ?_);intro b3 hb3;refine go7 ?_;refine sQ (aV (v':=.tuple #[.int .i64 (((aG c x.lo (aF x.lo x.hi)).1).1),.bool ((aG c x.lo (aF x.lo x.hi)).2)]) (bN aJ rfl (fun w hw=>nY _ c x.lo (aF x.lo x.hi) w (SLe2.ap hw (SLe2.sub Hc sn)) (by with_reducible first | assumption | exact hpre.1))) rfl) rfl (go7 ?_);refine gJv [22,23,24,25,26,27,28] [(28,.bool (!((aG c x.lo (aF x.lo x.hi)).2)||((aF x.lo x.hi).n).1.bad))] (fun K2 J2=>?_) ?_
 ·refine go3 ?_;rcases bt ((aG c x.lo (aF x.lo x.hi)).2) with h5 | h5
  ·refine sB (gG h5) rfl (go5 ?_);refine J2 _ _ pp_ s0 (bI (lE h5 rfl))
  refine sB (gD h5) rfl (go5 ?_);refine J2 _ _ pp_ s0 (bI (nI h5))
 intro g6;refine aT _ rfl (fun h7=>?_) (fun h7=>?_)
 ·refine go6 ?_;refine i7 rfl (.inr rfl) (fQ rfl m1 tyT rfl) rfl ?_;exact congrArg (fun r:Iv×Bool=>(.tuple #[AV [pI r.1.lo.n,pI r.1.lo.d,pI r.1.hi.n,pI r.1.hi.d],.bool r.2]:Value)) (show _=(gA c x) from bE h7 rfl)
 refine go6 ?_;refine aT _ rfl (fun h8=>?_) (fun h8=>?_)
 ·refine go9 ?_;refine i7 rfl (.inr rfl) (fQ rfl m1 tyT rfl) rfl ?_;exact congrArg (a₁:=(((⟨x.lo,(aF x.lo x.hi)⟩:Iv),true):Iv×Bool)) (fun r:Iv×Bool=>(.tuple #[AV [pI r.1.lo.n,pI r.1.lo.d,pI r.1.hi.n,pI r.1.hi.d],.bool r.2]:Value)) (show _=(gA c x) from aN h7 (bE h8 rfl))
 refine oS ?_;refine i7 rfl (.inr rfl) (fQ rfl m1 tyT rfl) rfl ?_;exact congrArg (a₁:=(((⟨(aF x.lo x.hi),x.hi⟩:Iv),true):Iv×Bool)) (fun r:Iv×Bool=>(.tuple #[AV [pI r.1.lo.n,pI r.1.lo.d,pI r.1.hi.n,pI r.1.hi.d],.bool r.2]:Value)) (show _=(gA c x) from aN h7 (aN h8 rfl))
theorem sO (x:Rt) :
    Ret prog 42 [AV [pI x.n,pI x.d]] (.bool (jR x)):=by
 refine cL (N:=17) func42 rfl rfl (by simp) (fun w0=>?_);simp only [bS,Nat.reduceAdd];refine go2 ?_;intro b1 hb1;refine go2 ?_;refine gJv [2,3,4,5,6,7,8,9,10,11,12,13,14,15,16] [(2,.bool ((aZ x)&&(decide ((Z.bitsW x.n.dec).1≤12)&&decide ((Z.bitsW x.d.dec).1≤12))))] (fun K1 J1=>?_) ?_
 ·refine go2 ?_;refine sQ (bZ aJ (i4 x) rfl) rfl ?_;refine sBB rfl (fun h4=>?_) (fun h4=>?_)
  ·refine go2 ?_;refine sC (.int .i64 ((Z.bitsW x.n.dec).1)) aJ (jL x.n.1 x.n.2) rfl rfl rfl (go2 ?_);refine sBB rfl (fun h5=>?_) (fun h5=>?_)
   ·have ph5:=of_decide_eq_true h5;refine go2 ?_;refine sC (.int .i64 ((Z.bitsW x.d.dec).1)) aJ (jL x.d.1 x.d.2) rfl rfl rfl (go4 ?_);refine J1 _ _ pp_ s0 (bI (cU h4 (cU h5 rfl)))
   have ph5:=of_decide_eq_false h5;refine go7 ?_;refine J1 _ _ pp_ s0 (bI (cU h4 (iQ h5)))
  refine F7 ?_;refine J1 _ _ pp_ s0 (bI (iQ h4))
 intro g6;refine go_ ?_;refine bP rfl (.inr rfl) rfl ?_;exact (by rfl)
theorem sM (vp:Value) (p:(List I)) (a:Rt) (b:Rt) (k:W) (w:World) (hp:Slr w elI vp p) :
    Calls prog 12 [vp,AV [pI a.n,pI a.d],AV [pI b.n,pI b.d],.int .i64 k.1].toArray w (fun e w'=>e = .returned (.bool (bV p a b k))∧Ext w w'):=by
 obtain ⟨p_p,c_p,rfl⟩:=hp.form;refine cT (N:=25) func12 rfl rfl (by simp) ?_;obtain ⟨w0,rfl⟩:∃ w0,w0=w:=⟨_,rfl⟩;have Hp:=hp.old;have hm_p:=hp.max;simp only [bS,Nat.reduceAdd];refine go2 ?_;intro b1 hb1;refine go_ ?_;intro b2 hb2;refine go4 ?_;refine sQ (aV (v':=.bool (eA p 3 32)) (bN aJ rfl (fun w hw=>uE _ p 3 32 w (aR hw Hp sn) oo_)) rfl) rfl (go2 ?_);refine gJv [8,12,13,14,15,16,17,18,19,20,21,22,23,24] [(8,.bool ((eA p 3 32)&&((jR a)&&((jR b)&&decide (k.1≤16)))))] (fun K1 J1=>?_) ?_
 ·refine go2 ?_;refine sBB rfl (fun h6=>?_) (fun h6=>?_)
  ·refine go_ ?_;refine sQ (bZ aJ (sO a) rfl) rfl (go_ ?_);refine sBB rfl (fun h7=>?_) (fun h7=>?_)
   ·refine go_ ?_;refine sQ (bZ aJ (sO b) rfl) rfl (go_ ?_);refine sBB rfl (fun h8=>?_) (fun h8=>?_)
    ·refine go5 ?_;refine J1 _ _ pp_ s0 (bI (cU h6 (cU h7 (cU h8 rfl))))
    refine go5 ?_;refine J1 _ _ pp_ s0 (bI (cU h6 (cU h7 (iQ h8))))
   refine go9 ?_;refine J1 _ _ pp_ s0 (bI (cU h6 (iQ h7)))
  refine F7 ?_;refine J1 _ _ pp_ s0 (bI (iQ h6))
 intro g9;refine go_ ?_;refine bP rfl (.inr rfl) rfl ?_;exact (by rfl)
theorem qK (va:Value) (a:(List Iv)) (vb:Value) (b:(List Iv)) (w:World) (ha:Slr w u3 va a) (hb:Slr w u3 vb b) :
    Calls prog 18 [va,vb].toArray w (fun e w'=>e = .returned (.bool (fE a b))∧Ext w w'):=by
 obtain ⟨p_a,c_a,rfl⟩:=ha.form;obtain ⟨p_b,c_b,rfl⟩:=hb.form;refine cT (N:=26) func18 rfl rfl (by simp) ?_;obtain ⟨w0,rfl⟩:∃ w0,w0=w:=⟨_,rfl⟩;have Ha:=ha.old;have hm_a:=ha.max;have Hb:=hb.old;have hm_b:=hb.max;simp only [bS,Nat.reduceAdd];refine go6 ?_;refine sQ (aV (v':=.int .i64 (((a).length:Nat):Int)) (dO (e:=u3) Q2 rfl (SLe.sub Ha sn)) rfl) rfl (go_ ?_);refine sQ (aV (v':=.int .i64 (((b).length:Nat):Int)) (dO (e:=u3) Q2 rfl (SLe.sub Hb sn)) rfl) rfl (go2 ?_);refine aT _ rfl (fun h1=>?_) (fun h1=>?_)
 ·have ph2:=fK_ h1;refine go4 ?_;refine bP rfl (.inr rfl) rfl ?_;exact congrArg vS0 (show _=(fE a b) from bE h1 rfl)
 have ph3:=fJ_ h1;refine go5 ?_;refine gJ3 [4,5,11,12,13,14,15,16,17,18,19,20,21,22,23,24,25] (fun g M=>∃ (k:Nat),(gH a b ((a.length+1)) 0) = .inl k∧(g 5 = .int .i64 ((k:Nat):Int))∧M=[]) (fun K_u4 hK_u4=>?_) ?_
 ·refine go_ ?_;refine cO [4,5,11,12,13,14,15,16,17,18,19,20,21,22,23,24,25] (fun g nn M=>∃ (k:Nat),(gH a b nn k)=(gH a b ((a.length+1)) 0)∧a.length - k<nn∧(k≤a.length)∧(g 5 = .int .i64 ((k:Nat):Int))∧M=[]) ((a.length+1)) ?start ?round
  case start=>exact ⟨_,s0,0,rfl,oo_,oo_,rfl,rfl⟩
  case round =>
   rintro nn g M ⟨k,hT0,hq0,hinv0,hg5,rfl⟩;obtain ⟨k0,rfl⟩:∃ m,nn=m+1:=⟨nn - 1,by omega⟩;simp only [eO,hg5];clear hg5;refine go4 ?_;refine sQ (aV (v':=.int .i64 (((a).length:Nat):Int)) (dO (e:=u3) Q2 rfl (SLe.sub Ha sn)) rfl) rfl (go2 ?_);refine aT _ rfl (fun h17=>?_) (fun h17=>?_)
   ·have ph17:=of_decide_eq_true h17;refine go3 ?_;refine rX sn 9 [] [] (go2 ?_);refine pQ rfl (aV (v':=.pointer (some (slb (.slice p_a a.length c_a) (k * 72+0)))) (jT (e:=u3) (l:=a) (k:=k) Q2 rfl rfl (SLe.sub Ha sn) o2_) rfl) ?_;refine pQ rfl (jI (e:=u3) (l:=a) (k:=k) (o:=0) tyT rfl (SLe.sub Ha sn) (dC Iv0 o2_) rfl) ?_;refine go2 ?_;refine pQ rfl (aV (v':=.pointer (some (slb (.slice p_b b.length c_b) (k * 72+0)))) (jT (e:=u3) (l:=b) (k:=k) Q2 rfl rfl (SLe.sub Hb sn) o2_) rfl) ?_;refine pQ rfl (jI (e:=u3) (l:=b) (k:=k) (o:=0) tyT rfl (SLe.sub Hb sn) (dC Iv0 o2_) rfl) ?_;refine pQ rfl (CO (r:=(decide ((((a.getD k Iv0).lo).n)=(((b.getD k Iv0).lo).n))&&(decide ((((a.getD k Iv0).lo).d)=(((b.getD k Iv0).lo).d))&&(decide ((((a.getD k Iv0).hi).n)=(((b.getD k Iv0).hi).n))&&decide ((((a.getD k Iv0).hi).d)=(((b.getD k Iv0).hi).d)))))) rfl rfl (oA 8 dd_ TT UK (jW jU (jW jU (jW jU (oT jU)))) (jW jU (jW jU (jW jU (oT jU)))) (oB rfl pU (oB rfl pU (oB rfl pU (uR pU)))))) (go_ ?_);rcases bt (decide ((((a.getD k Iv0).lo).n)=(((b.getD k Iv0).lo).n))&&(decide ((((a.getD k Iv0).lo).d)=(((b.getD k Iv0).lo).d))&&(decide ((((a.getD k Iv0).hi).n)=(((b.getD k Iv0).hi).n))&&decide ((((a.getD k Iv0).hi).d)=(((b.getD k Iv0).hi).d))))) with h18 | h18
    ·have ph19:=of_decide_eq_true (Bool.and_eq_true_iff.1 h18).1;have ph20:=of_decide_eq_true (Bool.and_eq_true_iff.1 (Bool.and_eq_true_iff.1 h18).2).1;have ph21:=of_decide_eq_true (Bool.and_eq_true_iff.1 (Bool.and_eq_true_iff.1 (Bool.and_eq_true_iff.1 h18).2).2).1;have ph22:=of_decide_eq_true (Bool.and_eq_true_iff.1 (Bool.and_eq_true_iff.1 (Bool.and_eq_true_iff.1 h18).2).2).2;refine W_f (gG h18) rfl (go3 ?_);refine sV (.int .i64 (((k+1):Nat):Int)) rfl (congrArg (Value.int .i64) (wx oo_ oo_ oo_)) (go2 ?_);refine ⟨pp_,_,_,s0,(Nat.lt_succ_self _),(k+1),(by exact (hT0.symm.trans (Eq.symm (bE h17 (bE h18 rfl)))).symm),(Nat.lt_of_lt_of_le oo_ (Nat.le_of_lt_succ hq0)),oo_,rfl,rfl⟩
    refine W_t (gD h18) rfl (go4 ?_);refine bP rfl (.inr rfl) rfl ?_;exact congrArg vS0 (show _=(fE a b) from aN h1 ((rG rfl (hT0.symm.trans (Eq.symm (bE h17 (aN h18 rfl)))))))
   have ph17:=of_decide_eq_false h17;refine go_ ?_;refine hK_u4 _ _ pp_ ⟨_,s0,k,(by exact hT0.symm.trans (Eq.symm (aN h17 rfl))),rfl,rfl⟩
 rintro g M ⟨k,hCu4,hg5,rfl⟩;simp only [eO,hg5];clear hg5;refine go4 ?_;refine bP rfl (.inr rfl) rfl ?_;exact congrArg vS0 (show _=(fE a b) from aN h1 (trs (Eq.symm (smS hCu4)) rfl))
theorem xZ (vp:Value) (p:(List I)) (x:Iv) (k:Int) (w:World) (hp:Slr w elI vp p) (hpre:Rgt p∧p.length≤100) :
    Calls prog 19 [vp,AV [pI x.lo.n,pI x.lo.d,pI x.hi.n,pI x.hi.d],.int .i64 k].toArray w (fun e w'=>e = .returned (.tuple #[AV [pI ((((dG p x k).1).lo).n),pI ((((dG p x k).1).lo).d),pI ((((dG p x k).1).hi).n),pI ((((dG p x k).1).hi).d)],.int .i64 (((dG p x k).2).1)])∧Ext w w'):=by
 obtain ⟨p_p,c_p,rfl⟩:=hp.form;refine cT (N:=44) func19 rfl rfl (by simp) ?_;obtain ⟨w0,rfl⟩:∃ w0,w0=w:=⟨_,rfl⟩;have Hp:=hp.old;have hm_p:=hp.max;simp only [bS,Nat.reduceAdd];refine go2 ?_;intro b1 hb1;refine go_ ?_;intro b2 hb2;refine go3 ?_;refine gJv [12,13,14,15,16,17] [(17,.bool (decide (k<0)||decide (64<k)))] (fun K2 J2=>?_) ?_
 ·refine go3 ?_;refine sBB rfl (fun h4=>?_) (fun h4=>?_)
  ·have ph4:=of_decide_eq_true h4;refine go4 ?_;refine J2 _ _ pp_ s0 (bI (mS h4))
  have ph4:=of_decide_eq_false h4;refine go4 ?_;refine J2 _ _ pp_ s0 (bI (kX h4 rfl))
 intro g5;refine aT _ rfl (fun h6=>?_) (fun h6=>?_)
 ·refine go6 ?_;refine i7 rfl (.inr rfl) (fQ rfl m0 tyT rfl) rfl ?_;exact congrArg vS5 (show _=(dG p x k) from bE h6 rfl)
 have ph7:=of_decide_eq_false (Bool.or_eq_false_iff.1 h6).1;have ph8:=of_decide_eq_false (Bool.or_eq_false_iff.1 h6).2;refine go4 ?_;refine bJ rfl (qZ (D:=elLL) (l:=(bM p x).1) (fun v=>.tuple #[v,.int .i64 (((bM p x).2).1)]) aJ rfl (fun w hw=>wK _ p x w (aR hw Hp sn) (by with_reducible first | assumption | exact ⟨hpre.1,by omega⟩ | exact ⟨by assumption,by omega⟩ | exact hpre.1 | exact hpre.2)) (fun p9 c10 L11 hF12=>?_));have hb13:=(xB p x);refine vK ?_;refine aT _ rfl (fun h14=>?_) (fun h14=>?_)
 ·refine go7 ?_;refine i7 rfl (.inr rfl) (fQ rfl (mA mZ) tyT rfl) rfl ?_;exact congrArg (a₁:=(((⟨(⟨I0,I0⟩:Rt),(⟨I0,I0⟩:Rt)⟩:Iv),(bM p x).2):Iv×W)) (fun r:Iv×W=>(.tuple #[AV [pI r.1.lo.n,pI r.1.lo.d,pI r.1.hi.n,pI r.1.hi.d],.int .i64 r.2.1]:Value)) (show _=(dG p x k) from aN h6 (bE h14 rfl))
 refine go6 ?_;refine gJ3 [7,10,11,30,31,32,33,34,35,36,37,38,39,40,41,42] (fun g M=>∃ (i:Nat) (mb1:Iv),(iC p x k ((k.toNat+1)) 0 x) = .inl (i,mb1)∧(g 30 = .int .i64 ((i:Nat):Int))∧M=(L11 ++ (⟨b2,49,bK [pI I0,pI I0,pI I0,pI I0]⟩ :: (⟨b1,49,bK [pI mb1.lo.n,pI mb1.lo.d,pI mb1.hi.n,pI mb1.hi.d]⟩ :: [])))) (fun K_u15 hK_u15=>?_) ?_
 ·refine go_ ?_;refine cO [7,10,11,30,31,32,33,34,35,36,37,38,39,40,41,42] (fun g nn M=>∃ (i:Nat) (mb1:Iv),(iC p x k nn i mb1)=(iC p x k ((k.toNat+1)) 0 x)∧k.toNat - i<nn∧(i≤k.toNat)∧(g 30 = .int .i64 ((i:Nat):Int))∧M=(L11 ++ (⟨b2,49,bK [pI I0,pI I0,pI I0,pI I0]⟩ :: (⟨b1,49,bK [pI mb1.lo.n,pI mb1.lo.d,pI mb1.hi.n,pI mb1.hi.d]⟩ :: [])))) ((k.toNat+1)) ?start ?round
  case start=>exact ⟨_,s0,0,x,rfl,oo_,oo_,rfl,rfl⟩
  case round =>
   rintro nn g M ⟨i,mb1,hT0,hq0,hinv0,hg30,rfl⟩;obtain ⟨k0,rfl⟩:∃ m,nn=m+1:=⟨nn - 1,by omega⟩;simp only [eO,hg30];clear hg30;refine go4 ?_;refine aT _ rfl (fun h24=>?_) (fun h24=>?_)
   ·have ph24:=of_decide_eq_true h24;refine go6 ?_;obtain ⟨r25,hr25⟩:=nm ((gA ((bM p x).1) mb1).1:Iv);refine sQ (aV (v':=.tuple #[AV [pI r25.lo.n,pI r25.lo.d,pI r25.hi.n,pI r25.hi.d],.bool ((gA ((bM p x).1) mb1).2)]) (bN aJ rfl (fun w hw=>AU _ ((bM p x).1) mb1 w (SLe2.ap hw (SLf2.sle (SLf2.sub hF12 lZ))) (by with_reducible first | assumption | exact hpre.1))) (by rw [hr25])) rfl (go4 ?_);intro b26 hb26;refine go8 ?_;rcases bt ((gA ((bM p x).1) mb1).2) with h27 | h27
    ·refine W_f (gG h27) rfl (go6 ?_);refine sV (.int .i64 (((i+1):Nat):Int)) rfl (congrArg (Value.int .i64) (wx oo_ oo_ oo_)) (go2 ?_);refine ⟨pp_,_,_,(sd (s0)),(Nat.lt_succ_self _),(i+1),r25,(by subst hr25;exact (hT0.symm.trans (Eq.symm (bE h24 (bE h27 rfl)))).symm),(Nat.lt_of_lt_of_le oo_ (Nat.le_of_lt_succ hq0)),oo_,rfl,rfl⟩
    refine W_t (gD h27) rfl (go6 ?_);refine i7 rfl (.inr rfl) (fQ rfl (mC (mA mZ)) tyT rfl) rfl ?_;exact (by subst hr25;exact congrArg vS5 (show _=(dG p x k) from aN h6 (aN h14 ((rG rfl (hT0.symm.trans (Eq.symm (bE h24 (aN h27 rfl)))))))))
   have ph24:=of_decide_eq_false h24;refine go_ ?_;refine hK_u15 _ _ pp_ ⟨_,s0,i,mb1,(by exact hT0.symm.trans (Eq.symm (aN h24 rfl))),rfl,rfl⟩
 rintro g M ⟨i,mb1,hCu15,hg30,rfl⟩;simp only [eO,hg30];clear hg30;refine go6 ?_;refine i7 rfl (.inr rfl) (fQ rfl (mA mZ) tyT rfl) rfl ?_;exact congrArg vS5 (show _=(dG p x k) from aN h6 (aN h14 (trs (Eq.symm (smS hCu15)) rfl)))
theorem wH (vq:Value) (q:(List I)) (vp:Value) (p:(List I)) (x:Iv) (w:World) (hq:Slr w elI vq q) (hp:Slr w elI vp p) (hpre:(Rgt q∧q.length≤100)∧(Rgt p∧p.length≤100)) :
    Calls prog 21 [vq,vp,AV [pI x.lo.n,pI x.lo.d,pI x.hi.n,pI x.hi.d]].toArray w (fun e w'=>e = .returned (.tuple #[.int .i64 (((dU q p x).1).1),.int .i64 (((dU q p x).2).1)])∧Ext w w'):=by
 obtain ⟨p_q,c_q,rfl⟩:=hq.form;obtain ⟨p_p,c_p,rfl⟩:=hp.form;refine cT (N:=97) func21 rfl rfl (by simp) ?_;obtain ⟨w0,rfl⟩:∃ w0,w0=w:=⟨_,rfl⟩;have Hq:=hq.old;have hm_q:=hq.max;have Hp:=hp.old;have hm_p:=hp.max;simp only [bS,Nat.reduceAdd];refine go2 ?_;intro b1 hb1;refine go7 ?_;refine sQ (aV (v':=.bool (aU q)) (bN aJ rfl (fun w hw=>fF _ q w (aR hw Hq sn))) rfl) rfl (go_ ?_);refine aT _ rfl (fun h2=>?_) (fun h2=>?_)
 ·refine go5 ?_;refine i7 rfl (.inr rfl) rfl rfl ?_;exact congrArg vS9 (show _=(dU q p x) from bE h2 rfl)
 refine go4 ?_;refine bJ rfl (qZ (D:=elLL) (l:=(bM p x).1) (fun v=>.tuple #[v,.int .i64 (((bM p x).2).1)]) aJ rfl (fun w hw=>wK _ p x w (aR hw Hp sn) (by with_reducible first | assumption | exact ⟨hpre.1,by omega⟩ | exact ⟨by assumption,by omega⟩ | exact hpre.1 | exact hpre.2)) (fun p3 c4 L5 hF6=>?_));have hb7:=(xB p x);refine vK ?_;refine aT _ rfl (fun h8=>?_) (fun h8=>?_)
 ·refine go6 ?_;refine i7 rfl (.inr rfl) rfl rfl ?_;exact congrArg (a₁:=(((wl 0),(bM p x).2):W×W)) (fun r:W×W=>(.tuple #[.int .i64 r.1.1,.int .i64 r.2.1]:Value)) (show _=(dU q p x) from aN h2 (bE h8 rfl))
 refine go4 ?_;refine sQ (aV (v':=.int .i64 (((q).length:Nat):Int)) (dO (e:=elI) dZ rfl (SLe.sub Hq sn)) rfl) rfl (go2 ?_);refine aT _ rfl (fun h9=>?_) (fun h9=>?_)
 ·have ph9:=rW h9;refine go5 ?_;refine i7 rfl (.inr rfl) rfl rfl ?_;exact congrArg vS9 (show _=(dU q p x) from aN h2 (aN h8 (bE h9 rfl)))
 have ph9:=l6 h9;refine go4 ?_;refine bJ rfl (cP (E:=27) (e:=elI) (l:=(aQ p q)) (fun v=>v) aJ rfl (fun w hw=>DR _ p _ q w (aR hw Hp sn) (aR hw Hq sn) oo_) (fun p10 c11 L12 hF13=>?_));have hb14:=(tI p q);have hr15:=(yY p q oo_ oo_);refine bJ rfl (qZ (D:=elLL) (l:=(aH (aQ p q)).1) (fun v=>.tuple #[v,.bool ((aH (aQ p q)).2)]) aJ rfl (fun w hw=>m9 _ (aQ p q) w (aO hw hF13 lZ) (by with_reducible first | assumption | exact ⟨hpre.1,by omega⟩ | exact ⟨by assumption,by omega⟩ | exact hpre.1 | exact hpre.2)) (fun p16 c17 L18 hF19=>?_));have hb20:=(iI (aQ p q));refine go8 ?_;refine bJ rfl (qZ (D:=elLL) (l:=(aH q).1) (fun v=>.tuple #[v,.bool ((aH q).2)]) aJ rfl (fun w hw=>m9 _ q w (aR hw Hq sn) (by with_reducible first | assumption | exact ⟨hpre.1,by omega⟩ | exact ⟨by assumption,by omega⟩ | exact hpre.1 | exact hpre.2)) (fun p21 c22 L23 hF24=>?_));have hb25:=(iI q);refine go7 ?_;refine gJv [45,46,47,48,49,50] [(50,.bool (!((aH (aQ p q)).2)||(!(aH q).2)))] (fun K5 J5=>?_) ?_
 ·refine go3 ?_;rcases bt ((aH (aQ p q)).2) with h27 | h27
  ·refine sB (gG h27) rfl (go4 ?_);refine J5 _ _ pp_ s0 (bI (lE h27 rfl))
  refine sB (gD h27) rfl (go4 ?_);refine J5 _ _ pp_ s0 (bI (nI h27))
 intro g28;refine aT _ rfl (fun h29=>?_) (fun h29=>?_)
 ·refine go5 ?_;refine i7 rfl (.inr rfl) rfl rfl ?_;exact congrArg vS9 (show _=(dU q p x) from aN h2 (aN h8 (aN h9 (bE h29 rfl))))
 refine go7 ?_;refine sQ (aV (v':=.tuple #[.int .i64 (((aG ((aH (aQ p q)).1) x.lo x.hi).1).1),.bool ((aG ((aH (aQ p q)).1) x.lo x.hi).2)]) (bN aJ rfl (fun w hw=>nY _ ((aH (aQ p q)).1) x.lo x.hi w (SLe2.ap hw (SLf2.sle (SLf2.sub hF19 (sR lZ)))) (by with_reducible first | assumption | exact hpre.1))) rfl) rfl (go6 ?_);refine oM (sA (sR (sR (s0)))) ?_;refine go5 ?_;rcases bt ((aG ((aH (aQ p q)).1) x.lo x.hi).2) with h30 | h30
 ·refine W_f (gG h30) rfl (go6 ?_);refine aT _ rfl (fun h31=>?_) (fun h31=>?_)
  ·have ph31:=of_decide_eq_true h31;refine go5 ?_;refine i7 rfl (.inr rfl) rfl rfl ?_;exact congrArg vS9 (show _=(dU q p x) from aN h2 (aN h8 (aN h9 (aN h29 (bE h30 (bE h31 rfl))))))
  have ph31:=of_decide_eq_false h31;refine go7 ?_;refine gJ3 [6,7,15,16,17,18,64,65,66,67,68,69,70,71,72,73,74,75,76,77,78,79,80,81,82,83,84,85,86,87,88,89,90,91,92,93,94,95,96] (fun g M=>∃ (i:Nat) (mb1:Iv),(j5 q p x ((600+1)) 0 x) = .inl (i,mb1)∧(g 64 = .int .i64 ((i:Nat):Int))∧M=(L23 ++ (L5 ++ (⟨b1,49,bK [pI mb1.lo.n,pI mb1.lo.d,pI mb1.hi.n,pI mb1.hi.d]⟩ :: [])))) (fun K_u32 hK_u32=>?_) ?_
  ·refine go_ ?_;refine cO [6,7,15,16,17,18,64,65,66,67,68,69,70,71,72,73,74,75,76,77,78,79,80,81,82,83,84,85,86,87,88,89,90,91,92,93,94,95,96] (fun g nn M=>∃ (i:Nat) (mb1:Iv),(j5 q p x nn i mb1)=(j5 q p x ((600+1)) 0 x)∧600 - i<nn∧(i≤600)∧(g 64 = .int .i64 ((i:Nat):Int))∧M=(L23 ++ (L5 ++ (⟨b1,49,bK [pI mb1.lo.n,pI mb1.lo.d,pI mb1.hi.n,pI mb1.hi.d]⟩ :: [])))) ((600+1)) ?start ?round
   case start=>exact ⟨_,s0,0,x,rfl,oo_,oo_,rfl,rfl⟩
   case round =>
    rintro nn g M ⟨i,mb1,hT0,hq0,hinv0,hg64,rfl⟩;obtain ⟨k0,rfl⟩:∃ m,nn=m+1:=⟨nn - 1,by omega⟩;simp only [eO,hg64];clear hg64;refine go4 ?_;refine aT _ rfl (fun h45=>?_) (fun h45=>?_)
    ·have ph45:=of_decide_eq_true h45;refine go9 ?_;refine sQ (aV (v':=.tuple #[.int .i64 (((aG ((aH q).1) mb1.lo mb1.hi).1).1),.bool ((aG ((aH q).1) mb1.lo mb1.hi).2)]) (bN aJ rfl (fun w hw=>nY _ ((aH q).1) mb1.lo mb1.hi w (SLe2.ap hw (SLf2.sle (SLf2.sub hF24 lZ))) (by with_reducible first | assumption | exact hpre.1))) rfl) rfl (vK ?_);rcases bt ((aG ((aH q).1) mb1.lo mb1.hi).2) with h46 | h46
     ·refine W_f (gG h46) rfl (go6 ?_);refine aT _ rfl (fun h47=>?_) (fun h47=>?_)
      ·refine go5 ?_;refine sQ (aV (v':=.tuple #[.int .i64 (((aL q mb1.hi).1).1),.bool ((aL q mb1.hi).2)]) (bN aJ rfl (fun w hw=>rL _ q mb1.hi w (aR hw Hq sn) oo_)) rfl) rfl (go9 ?_);refine aT _ rfl (fun h48=>?_) (fun h48=>?_)
       ·refine go6 ?_;refine i7 rfl (.inr rfl) rfl rfl ?_;exact congrArg (a₁:=(((aL q mb1.hi).1,(wl 0)):W×W)) (fun r:W×W=>(.tuple #[.int .i64 r.1.1,.int .i64 r.2.1]:Value)) (show _=(dU q p x) from aN h2 (aN h8 (aN h9 (aN h29 (bE h30 (aN h31 ((rG rfl (hT0.symm.trans (Eq.symm (bE h45 (bE h46 (bE h47 (bE h48 rfl))))))))))))))
       refine go2 ?_;refine hK_u32 _ _ pp_ ⟨_,s0,i,mb1,(by exact hT0.symm.trans (Eq.symm (bE h45 (bE h46 (bE h47 (aN h48 rfl)))))),rfl,rfl⟩
      refine go4 ?_;obtain ⟨r49,hr49⟩:=nm ((gA ((bM p x).1) mb1).1:Iv);refine sQ (aV (v':=.tuple #[AV [pI r49.lo.n,pI r49.lo.d,pI r49.hi.n,pI r49.hi.d],.bool ((gA ((bM p x).1) mb1).2)]) (bN aJ rfl (fun w hw=>AU _ ((bM p x).1) mb1 w (SLe2.ap hw (SLf2.sle (SLf2.sub hF6 (sR lZ)))) (by with_reducible first | assumption | exact hpre.1))) (by rw [hr49])) rfl (oS ?_);rcases bt ((gA ((bM p x).1) mb1).2) with h50 | h50
      ·refine W_f (gG h50) rfl (go2 ?_);refine sV (.int .i64 (((i+1):Nat):Int)) rfl (congrArg (Value.int .i64) (wx oo_ oo_ oo_)) (go2 ?_);refine ⟨pp_,_,_,s0,(Nat.lt_succ_self _),(i+1),r49,(by subst hr49;exact (hT0.symm.trans (Eq.symm (bE h45 (bE h46 (aN h47 (bE h50 rfl)))))).symm),(Nat.lt_of_lt_of_le oo_ (Nat.le_of_lt_succ hq0)),oo_,rfl,rfl⟩
      refine W_t (gD h50) rfl (go_ ?_);refine hK_u32 _ _ pp_ ⟨_,s0,i,r49,(by subst hr49;exact hT0.symm.trans (Eq.symm (bE h45 (bE h46 (aN h47 (aN h50 rfl)))))),rfl,rfl⟩
     refine W_t (gD h46) rfl (go_ ?_);refine hK_u32 _ _ pp_ ⟨_,s0,i,mb1,(by exact hT0.symm.trans (Eq.symm (bE h45 (aN h46 rfl)))),rfl,rfl⟩
    have ph45:=of_decide_eq_false h45;refine go_ ?_;refine hK_u32 _ _ pp_ ⟨_,s0,i,mb1,(by exact hT0.symm.trans (Eq.symm (aN h45 rfl))),rfl,rfl⟩
  rintro g M ⟨i,mb1,hCu32,hg64,rfl⟩;simp only [eO,hg64];clear hg64;refine go5 ?_;refine i7 rfl (.inr rfl) rfl rfl ?_;exact congrArg vS9 (show _=(dU q p x) from aN h2 (aN h8 (aN h9 (aN h29 (bE h30 (aN h31 (trs (Eq.symm (smS hCu32)) rfl)))))))
 refine W_t (gD h30) rfl (go5 ?_);refine i7 rfl (.inr rfl) rfl rfl ?_;exact congrArg vS9 (show _=(dU q p x) from aN h2 (aN h8 (aN h9 (aN h29 (aN h30 rfl)))))
end Go.Proofs.YtokjfhfiodopdaaGreat
namespace Go.Num
open Go Go.Kn
theorem DJ (c:List (List I)):∀ (n:Nat) (a b:Rt) (k:Nat) (ok:Bool) (out:List Iv),out.length≤(aW c n a b k ok out).2.length
  | 0,a,b,k,ok,out=>Nat.le_refl _
  | n+1,a,b,k,ok,out=>by
    unfold aW;generalize (ok&&((aG c a b).2&&(decide (((k:Nat):Int)<600)&&(!a.n.1.bad&&(!b.n.1.bad)))))=o;generalize ((aG c a b).1).1=m
    cases (!o||(m==0))
    · rw [cond_false]
      cases (m==1)
      · rw [cond_false]
        exact Nat.le_trans (DJ c n _ _ _ _ _) (DJ c n _ _ _ _ _)
      rw [cond_true]
      simp
    exact Nat.le_refl _
end Go.Num
