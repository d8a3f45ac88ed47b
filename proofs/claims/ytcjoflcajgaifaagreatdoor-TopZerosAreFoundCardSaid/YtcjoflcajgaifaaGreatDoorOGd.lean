/- Lemmas: what they ask stands in their statements. -/
import Derived.Test.YtcjoflcajgaifaaGreatDoorOU9
set_option linter.unusedSimpArgs false
set_option linter.unusedVariables false
set_option maxHeartbeats 8000000
set_option maxRecDepth 20000
namespace Go.Proofs.YtcjoflcajgaifaaGreatDoor
open Go.Kn Go.Num Tryz
attribute [local irreducible] Go.Kn.W WL PL OpQ OpR OpS
theorem vY (a:Rt) :
    Ret prog 39 [AV [pI a.n,pI a.d]] (.bool (bA a)):=by
 refine bG (N:=26) func39 O O zz_ (fun w0=>?_);refine giI ?_;refine go2 ?_;intro b1 hb1;refine go3 ?_;refine gJv (rg [] 3 10) [(12,.bool (!a.n.1.good||(!a.d.1.good)))] (fun K2 J2=>?_) ?_
 ·refine go3 ?_;refine sC (.bool a.n.1.good) aH (eX a.n.1 a.n.2) O O O (go_ ?_);rcases bt a.n.1.good with h3|h3
  ·refine sB (kC h3) O (go2 ?_);refine sC (.bool a.d.1.good) aH (eX a.d.1 a.d.2) O O O (go3 ?_);refine J2 _ _ pp_ s0 (dG (uX h3 O))
  refine sB (j8 h3) O (go6 ?_);refine J2 _ _ pp_ s0 (dG (xK h3))
 intro g4;refine aT _ O (fun h5=>?_) (fun h5=>?_)
 ·refine go4 ?_;refine rt1 ?_;exact congrArg vS0 (show _=(bA a) from bS h5 O)
 refine go_ ?_;refine gJv (rg [2] 13 13) [(2,.bool (decide (0<(Z.signW a.d.dec).1)&&decide ((E (Z.gcd a.n.dec a.d.dec))=iH)))] (fun K3 J3=>?_) ?_
 ·refine go3 ?_;refine sC (.int .i64 ((Z.signW a.d.dec).1)) aH (vV a.d.1 a.d.2) O O O (go_ ?_);refine sBB O (fun h7=>?_) (fun h7=>?_)
  ·refine go4 ?_;refine sC (AV [pI (E (Z.gcd a.n.dec a.d.dec))]) aH (wU a.n.1 a.d.1 a.n.2 a.d.2) O O O (sQ (aW aH wW  rfl) O ?_);refine sQ (nY (r:=decide ((E (Z.gcd a.n.dec a.d.dec))=iH)) O O (jP 8 dd_ SK TB (jN oY) (jN oY) (mN zE))) O (go3 ?_);refine J3 _ _ pp_ s0 (dG (sG h7 O))
  refine mQ ?_;refine J3 _ _ pp_ s0 (dG (w6 h7))
 intro g8;refine go_ ?_;refine rt1 ?_;exact congrArg vS0 (show _=(bA a) from bH h5 O)
theorem wV (va:Value) (n k:Nat) (hk:k≤1000000) (w:World) (hva:Sl w va (dl n)) :
  Calls prog 102 [va,.int .i64 (k:Int)].toArray w (fun e w'=>e = .returned (.int .i64 ((n / 2 ^ k % 2:Nat):Int))∧Ext w w'):=by
 refine cV (N:=13) func102 O O zz_ ?_;obtain ⟨w0,rfl⟩:=nm w;refine giI ?_;refine go6 ?_;refine sQ (aE (oF O O dd_) (congrArg (Value.int .i64) (shq 16 dd_ oo_))) O (sQ (aE (eH aH O (fun w hw=>e7 va (dl n) (k / 16) w (SL.sl (M:=_) hva.old hw))) (congrArg (fun z:Nat=>Value.int .i64 (z:Int)) (yP n (k / 16)))) O (go_ ?_));refine sQ (aE (pW O O dd_) (congrArg (Value.int .i64) (shr 16 k))) O (sQ (rA O O (Int.natCast_nonneg _)) O (sQ (aE (pW O O dd_) (congrArg (Value.int .i64) (ba_ n k))) O (go3 ?_)));refine rt1 ?_;exact rfl
theorem pN (a:R) (ha:a.Ok) :
    Ret prog 40 [RV a] (.int .i64 (a.dec.bits:Int)):=by
 refine bG (N:=25) func40 O O zz_ (fun w0=>?_);refine giI ?_;refine go_ ?_;refine aQ O (gW O O (fun b1 hb1=>go4 ?_));refine sQ (bU tyT O mm_ (cJ ha)) O ?_;refine sQ (aW aH (eX a ha) O) O (go2 ?_);refine aT _ O (fun hg=>?_) (fun hg=>?_)
 ·replace hg:=cB_ hg
  refine go4 ?_;refine rt1 ?_;exact congrArg (fun z:Nat=>Value.int .i64 (z:Int)) (WZ (by simpa using hg)).symm
 replace hg:=cB_ hg
 refine go2 ?_;refine sQ (bU tyT O mm_ (cJ ha)) O ?_;refine aQ O (lS aH O (fun w hw=>fT a ha w) (fun v L hv=>go3 ?_));have hl32:(dl (val a.w)).length≤32:=sJ (by rw [← GJ];have:=uJ a.w ha.lim;rwa [ha.len] at this);refine go_ ?_;refine sQ (lK bQ O (SL.sub hv.sl lZ)) O (sQ (aE (TN O O) (congrArg (Value.int .i64) (fw_ (Nat.le_trans hl32 dd_)))) O (go4 ?_));refine cE (rg [4] 13 11) (fun g nn M=>∃ (k:Nat),(g 4 = .int .i64 (k:Int))∧M=L++[⟨b1,31,a.cells⟩]∧nn=k+0∧(k≤16*(dl (val a.w)).length∧val a.w<2 ^ k)) (16*(dl (val a.w)).length) ?start ?round
 case start =>
  refine ⟨_,(List.Sublist.refl _),16*(dl (val a.w)).length,?a4,?mem0,rfl,⟨Nat.le_refl _,QF _⟩⟩
  case mem0=>rfl
  case a4=>rfl
 case round =>
  rintro nn g M ⟨k,hg4,rfl,hmeas,⟨hk,hlt⟩⟩;subst nn;refine gS1 hg4 ?_;clear hg4;refine go5 ?_
  cases hz:decide ((0:Int)<(k:Int))
  ·refine DT ?_;refine rt1 ?_;exact congrArg (fun z:Nat=>Value.int .i64 (z:Int)) (bc_ ha (by simpa using hg) hlt (by have:=of_decide_eq_false hz;omega)).symm
  have hz':=of_decide_eq_true hz;obtain ⟨m,rfl⟩:∃ m,k=m+1:=⟨k - 1,by omega⟩;refine go2 ?_;refine sQ (aE (lL O O) (congrArg (Value.int .i64) (uZ oo_))) O (sQ (eH aH O (fun w hw=>wV v (val a.w) m oo_ w (SL.sl (SL.sub hv.sl lZ) hw))) O (go3 ?_));refine aT _ O (fun h0=>?_) (fun h0=>?_)
  ·replace h0:=cB_ h0
   refine go4 ?_;refine sQ (aE (lL O O) (congrArg (Value.int .i64) (uZ oo_))) O (go2 ?_);refine ⟨pp_,_,_,(List.Sublist.refl _),oo_,m,?s4,?mem,rfl,⟨by omega,UQ hlt oo_⟩⟩
   case mem=>rfl
   case s4=>rfl
  replace h0:=cB_ h0
  refine go6 ?_;refine rt1 ?_;exact congrArg (fun z:Nat=>Value.int .i64 (z:Int)) ((IF ha (by simpa using hg)).trans (bd_ hlt oo_)).symm
theorem u7 (x:Rt) (n:W) :
    Ret prog 7 [AV [pI x.n,pI x.d],.int .i64 n.1] (.bool (iM x n)):=by
 refine bG (N:=21) func7 O O zz_ (fun w0=>?_);refine giI ?_;refine go2 ?_;intro b1 hb1;refine go2 ?_;refine gJv (rg [] 4 17) [(4,.bool ((bA x)&&(decide ((Z.bitsW x.n.dec).1≤n.1)&&decide ((Z.bitsW x.d.dec).1≤n.1))))] (fun K1 J1=>?_) ?_
 ·refine go2 ?_;refine sQ (aW aH (vY x) O) O ?_;refine sBB O (fun h4=>?_) (fun h4=>?_)
  ·refine go2 ?_;refine sC (.int .i64 ((Z.bitsW x.n.dec).1)) aH (pN x.n.1 x.n.2) O O O (go3 ?_);refine sBB O (fun h5=>?_) (fun h5=>?_)
   ·have ph5:=of_decide_eq_true h5;refine go2 ?_;refine sC (.int .i64 ((Z.bitsW x.d.dec).1)) aH (pN x.d.1 x.d.2) O O O (go5 ?_);refine J1 _ _ pp_ s0 (dG (sG h4 (sG h5 O)))
   have ph5:=of_decide_eq_false h5;refine go8 ?_;refine J1 _ _ pp_ s0 (dG (sG h4 (w6 h5)))
  refine AZ ?_;refine J1 _ _ pp_ s0 (dG (w6 h4))
 intro g6;refine go_ ?_;refine rt1 ?_;exact (by rfl)
theorem wM (x:Rt) :
   Ret prog 69 [AV [pI x.n,pI x.d]] (AV [pI (dH x)]):=by
 refine bG (N:=12) func69 O O zz_ (fun w0=>?_);refine giI ?_;refine go2 ?_;intro b1 hb1;refine go_ ?_;intro b2 hb2;refine go4 ?_;refine sQ (aW aH (fO x) O) O (go2 ?_);rcases bt (aU x) with h3|h3
 ·refine W_f (kC h3) O (go6 ?_);refine sC (AV [pI (E (Z.quo x.n.dec x.d.dec))]) aH (iQ x.n.1 x.d.1 x.n.2 x.d.2) O O O (go3 ?_);refine rtX O (iC O m0 tyT O) ?_;exact congrArg vS1 (show _=(dH x) from bS h3 O)
 refine W_t (j8 h3) O (go_ ?_);refine sC (AV [pI (E Z.bad)]) aH fU O O O (go3 ?_);refine rtX O (iC O m0 tyT O) ?_;exact congrArg vS1 (show _=(dH x) from bH h3 O)
theorem GQ (x:Rt) :
  Ret prog 68 [AV [pI x.n,pI x.d]] (AV [pI (j5 x)]):=by
 refine bG (N:=7) func68 O O zz_ (fun w0=>?_);refine giI ?_;refine go2 ?_;intro b1 hb1;refine go_ ?_;intro b2 hb2;refine go3 ?_;refine sQ (aW aH (oH x) O) O (sQ (aW aH (wM (dW x)) O) O (sC (AV [pI (E (Z.neg (dH (dW x)).dec))]) aH (oK (dH (dW x)).1 (dH (dW x)).2) O O O (go3 ?_)));refine rtX O (iC O m0 tyT O) ?_;exact (by rfl)
theorem z6 (k:Nat):∀ (a:Rt) (b:Rt),(siM a b)<k→Ret prog 17 [AV [pI a.n,pI a.d],AV [pI b.n,pI b.d]] (AV [pI ((dO k a b).n),pI ((dO k a b).d)]):=by
 refine Nat.rec (motive:=fun k=>∀ (a:Rt) (b:Rt),(siM a b)<k→Ret prog 17 [AV [pI a.n,pI a.d],AV [pI b.n,pI b.d]] (AV [pI ((dO k a b).n),pI ((dO k a b).d)])) (fun a b h=>absurd h (Nat.not_lt_zero _)) (fun k ih a b hq=>bG (N:=69) func17 O O zz_ (fun w0=>?_)) k;refine giI ?_;refine go2 ?_;intro b1 hb1;refine go_ ?_;intro b2 hb2;refine go_ ?_;intro b3 hb3;refine go3 ?_;refine gJv (rg [] 7 15) [(7,.bool (!(aU a)||(!(aU b)||decide (0<(eS a b).1))))] (fun K2 J2=>?_) ?_
 ·refine go2 ?_;refine sQ (aW aH (fO a) O) O (go_ ?_);rcases bt (aU a) with h6|h6
  ·refine sB (kC h6) O (go_ ?_);refine sQ (aW aH (fO b) O) O (go2 ?_);rcases bt (aU b) with h7|h7
   ·refine sB (kC h7) O (go2 ?_);refine sQ (aW aH (uF a b) O) O (go4 ?_);refine J2 _ _ pp_ s0 (dG (uX h6 (uX h7 O)))
   refine sB (j8 h7) O (go7 ?_);refine J2 _ _ pp_ s0 (dG (uX h6 (xK h7)))
  refine sB (j8 h6) O (wR ?_);refine J2 _ _ pp_ s0 (dG (xK h6))
 intro g8;refine aT _ O (fun h9=>?_) (fun h9=>?_)
 ·refine go_ ?_;refine sQ (aW aH i9  rfl) O (go3 ?_);refine rtX O (iC O m0 tyT O) ?_;exact congrArg (a₁:=(F_ratio_Bad:Rt)) (fun r:Rt=>(AV [pI r.n,pI r.d]:Value)) (show _=(dO (k+1) a b) from bS h9 O)
 have ph10:=of_decide_eq_false (Bool.or_eq_false_iff.1 (Bool.or_eq_false_iff.1 h9).2).2;refine gJv (rg [] 23 9) [(23,.bool (decide ((eE a).1≤0)&&decide (0≤(eE b).1)))] (fun K3 J3=>?_) ?_
 ·refine go2 ?_;refine sQ (aW aH (sO a) O) O (go_ ?_);refine sBB O (fun h12=>?_) (fun h12=>?_)
  ·have ph12:=of_decide_eq_true h12;refine go_ ?_;refine sQ (aW aH (sO b) O) O (go4 ?_);refine J3 _ _ pp_ s0 (dG (sG h12 O))
  have ph12:=of_decide_eq_false h12;refine go6 ?_;refine J3 _ _ pp_ s0 (dG (w6 h12))
 intro g13;refine aT _ O (fun h14=>?_) (fun h14=>?_)
 ·have ph15:=of_decide_eq_true (Bool.and_eq_true_iff.1 h14).1;have ph16:=of_decide_eq_true (Bool.and_eq_true_iff.1 h14).2;refine go_ ?_;refine sQ (aW aH (l7 (wl 0)) O) O ?_;refine go3 ?_;refine rtX O (iC O m0 tyT O) ?_;exact congrArg (a₁:=((aP (wl 0)):Rt)) (fun r:Rt=>(AV [pI r.n,pI r.d]:Value)) (show _=(dO (k+1) a b) from bH h9 (bS h14 O))
 refine go2 ?_;refine sQ (aW aH (sO b) O) O (go3 ?_);refine aT _ O (fun h17=>?_) (fun h17=>?_)
 ·have ph17:=of_decide_eq_true h17;refine jA (sd s0) 7 [6] [6] (go_ ?_);refine pQ O (aW aH (oH b) O) (go_ ?_);refine pQ O (aW aH (oH a) O) ?_;obtain ⟨r18,hr18⟩:=nm ((dO k (dW b) (dW a)):Rt);refine pC (AV [pI r18.n,pI r18.d]) aH (ih (dW b) (dW a) (ak_ h9 h14 h17 hq)) O O (by rw [hr18]) (pQ O (aW aH (oH r18) O) (go3 ?_));refine rtX O (iC O m0 tyT O) ?_;exact (by subst hr18;exact congrArg vS4 (show _=(dO (k+1) a b) from bH h9 (bH h14 (bS h17 O))))
 have ph17:=of_decide_eq_false h17;refine go4 ?_;refine sQ (aW aH (GQ a) O) O (sQ (aW aH (rK (j5 a)) O) O (go_ ?_));intro b19 hb19;refine go5 ?_;refine sQ (aW aH (uF (cZ (j5 a)) b) O) O (go2 ?_);refine aT _ O (fun h20=>?_) (fun h20=>?_)
 ·have ph20:=of_decide_eq_true h20;refine go5 ?_;refine rtX O (iC O m1 tyT O) ?_;exact congrArg (a₁:=((cZ (j5 a)):Rt)) (fun r:Rt=>(AV [pI r.n,pI r.d]:Value)) (show _=(dO (k+1) a b) from bH h9 (bH h14 (bH h17 (bS h20 O))))
 have ph20:=of_decide_eq_false h20;refine go3 ?_;refine sQ (aW aH (wM a) O) O (sQ (aW aH (rK (dH a)) O) O (go_ ?_));intro b21 hb21;refine go2 ?_;refine jA (sk (sk (sd s0))) 16 [15] [15] (go_ ?_);refine pQ O (aW aH (l7 (wl 1)) O) ?_;refine pQ O (aW aH (l7 (wl 1)) O) ?_;refine go2 ?_;obtain ⟨r22,hr22⟩:=nm ((gD b (cZ (dH a))):Rt);refine pC (AV [pI r22.n,pI r22.d]) aH (zL b (cZ (dH a))) O O (by rw [hr22]) (pQ O (aW aH (uG (aP (wl 1)) r22) O) ?_);refine pQ O (aW aH (l7 (wl 1)) O) ?_;refine go2 ?_;obtain ⟨r23,hr23⟩:=nm ((gD a (cZ (dH a))):Rt);refine pC (AV [pI r23.n,pI r23.d]) aH (zL a (cZ (dH a))) O O (by rw [hr23]) (pQ O (aW aH (uG (aP (wl 1)) r23) O) ?_);obtain ⟨r24,hr24⟩:=nm ((dO k (dV (aP (wl 1)) r22) (dV (aP (wl 1)) r23)):Rt);refine pC (AV [pI r24.n,pI r24.d]) aH (ih (dV (aP (wl 1)) r22) (dV (aP (wl 1)) r23) (al_ h9 h14 h17 h20 hr22 hr23 hq)) O O (by rw [hr24]) ?_;refine pQ O (aW aH (uG (aP (wl 1)) r24) O) ?_;obtain ⟨r25,hr25⟩:=nm ((iZ (cZ (dH a)) (dV (aP (wl 1)) r24)):Rt);refine pC (AV [pI r25.n,pI r25.d]) aH (uE (cZ (dH a)) (dV (aP (wl 1)) r24)) O O (by rw [hr25]) ?_;refine go3 ?_;refine rtX O (iC O m2 tyT O) ?_
 subst_vars;exact congrArg vS4 (show _=(dO (k+1) a b) from bH h9 (bH h14 (bH h17 (bH h20 O))))
theorem z7 (a:Rt) (b:Rt):Ret prog 17 [AV [pI a.n,pI a.d],AV [pI b.n,pI b.d]] (AV [pI ((cI a b).n),pI ((cI a b).d)]):=z6 _ a b (Nat.lt_succ_self _)
theorem BQ (vl:Value) (l:(List Rt)) (w:World) (hl:Slr w elRt vl l) :
    Calls prog 3 [vl].toArray w (fun e w'=>e = .returned (.bool (dX l))∧Ext w w'):=by
 obtain ⟨p_l,c_l,rfl⟩:=hl.form;refine cV (N:=164) func3 O O zz_ ?_;obtain ⟨w0,rfl⟩:=nm w;have Hl:=hl.old;have hm_l:=hl.max;refine giI ?_;refine go6 ?_;refine sQ (bX yA O (SLe.sub Hl sn)) O (go2 ?_);refine aT _ O (fun h1=>?_) (fun h1=>?_)
 ·have ph1:=of_decide_eq_true h1;refine go_ ?_;refine sC (.bool true) aH mL O O O (go3 ?_);refine rt1 ?_;exact congrArg vS0 (show _=(dX l) from bS h1 O)
 have ph1:=of_decide_eq_false h1;refine go2 ?_;refine aQ O (bZ [[cw 1]] [cw 1] fG z_3 mR O dd_ O O ⟨rfl,rfl,rfl,trivial⟩ O (fun b2 hb2=>aQ O (dM (E:=31) (e:=elI) (l:=(jE [(wl 1)])) (fun v=>v) aH O (fun w hw=>OX _ [(wl 1)] w (SLe.ap hw (SLe.lit (e:=elW) (l:=[(wl 1)]) m0 O (Nat.le_of_ble_eq_true O) O)) o3_) (fun p3 c4 L5 hF6=>?_))));have hb7:=(OW [(wl 1)]);have hr8:=(DJ [(wl 1)]);refine go9 ?_;refine gJ3 (rg [2,3,4,5,6,7] 26 49) (fun g M=>∃ (p:List I) (n:W) (i:Nat) (p_p:Option Addr) (c_p:Nat) (L_p:List Blk),(cQ l (l.length+1) (jE [(wl 1)]) (wl 0) 0) = .inl (p,n,i)∧(p.length≤25∧Rgt p)∧(g 3 = .slice p_p p.length c_p∧g 4 = .int .i64 n.1∧g 5 = .int .i64 (i:Int)∧OwnG w0 31 elI (.slice p_p p.length c_p) p L_p)∧M=(L_p++(⟨b2,3,aV [cw 1]⟩::[]))) (fun K_u9 hK_u9=>?_) ?_
 ·refine go_ ?_;refine cE (rg [2,3,4,5,6,7] 26 49) (fun g nn M=>∃ (p:List I) (n:W) (i:Nat) (p_p:Option Addr) (c_p:Nat) (L_p:List Blk),(cQ l nn p n i)=(cQ l (l.length+1) (jE [(wl 1)]) (wl 0) 0)∧l.length - i<nn∧(i≤l.length∧p.length≤25∧Rgt p)∧(g 3 = .slice p_p p.length c_p∧g 4 = .int .i64 n.1∧g 5 = .int .i64 (i:Int)∧OwnG w0 31 elI (.slice p_p p.length c_p) p L_p)∧M=(L_p++(⟨b2,3,aV [cw 1]⟩::[]))) (l.length+1) ?start ?round
  case start=>exact ⟨_,s0,(jE [(wl 1)]),(wl 0),0,p3,c4,L5,rfl,oo_,⟨by omega,by omega,DJ _⟩,⟨rfl,rfl,rfl,hF6⟩,rfl⟩
  case round =>
   rintro nn g M ⟨p,n,i,p_p,c_p,L_p,hT0,hq0,hinv0,⟨hg3,hg4,hg5,hO_p⟩,rfl⟩;obtain ⟨k0,rfl⟩:∃ m,nn=m+1:=⟨nn - 1,by omega⟩;refine gS3 hg3 hg4 hg5 ?_;clear hg3 hg4 hg5;have hm_p:=OwnG.max hO_p;refine go4 ?_;refine sQ (bX yA O (SLe.sub Hl sn)) O (go2 ?_);refine aT _ O (fun h58=>?_) (fun h58=>?_)
   ·have ph58:=of_decide_eq_true h58;refine go7 ?_;refine sQ (aE (v':=.pointer (some (slb (.slice p_l l.length c_l) (i*36+0)))) (aJ (e:=elRt) (l:=l) (k:=i) yA O O (SLe.sub Hl sn) o2_) O) O ?_;refine sQ (bJ (e:=elRt) (l:=l) (k:=i) (o:=0) tyT O (SLe.sub Hl sn) (aF Rt0 o2_) O) O ?_;refine sQ (aW aH (u7 (l.getD i Rt0) (wl 5)) O) O ?_;refine go2 ?_;rcases bt (iM (l.getD i Rt0) (wl 5)) with h59|h59
    ·refine W_f (kC h59) O (go_ ?_);refine jA s0 16 [12,13,14] [] (go3 ?_);refine pQ O (aE (v':=.pointer (some (slb (.slice p_l l.length c_l) (i*36+0)))) (aJ (e:=elRt) (l:=l) (k:=i) yA O O (SLe.sub Hl sn) o2_) O) ?_;refine pQ O (aE (v':=.pointer (some (slb (.slice p_l l.length c_l) (i*36+0)))) (LX fdT O O) O) (pQ O (bJ (e:=elRt) (l:=l) (k:=i) (o:=0) tyT O (SLe.sub Hl sn) (aF Rt0 o2_) O) ?_);refine pC (AV [pI (E (Z.neg ((l.getD i Rt0).n).dec))]) aH (oK ((l.getD i Rt0).n).1 ((l.getD i Rt0).n).2) O O O (go2 ?_);refine pQ O (aE (v':=.pointer (some (slb (.slice p_l l.length c_l) (i*36+0)))) (aJ (e:=elRt) (l:=l) (k:=i) yA O O (SLe.sub Hl sn) o2_) O) ?_;refine pQ O (aE (v':=.pointer (some (slb (.slice p_l l.length c_l) (i*36+18)))) (LX fdT O O) O) (pQ O (bJ (e:=elRt) (l:=l) (k:=i) (o:=18) tyT O (SLe.sub Hl sn) (aF Rt0 o2_) O) ?_);refine dC O O (bZ [[pI (E (Z.neg ((l.getD i Rt0).n).dec))],[pI ((l.getD i Rt0).d)]] [pI (E (Z.neg ((l.getD i Rt0).n).dec)),pI ((l.getD i Rt0).d)] pX kB oJ O dd_ O O ⟨rfl,rfl,rfl,rfl,rfl,rfl,trivial⟩ O (fun b60 hb60=>⟨(fun _=>sd s0),(sd s0),dC O O (dM (E:=31) (e:=elI) (l:=(bD [(E (Z.neg ((l.getD i Rt0).n).dec)),((l.getD i Rt0).d)])) (fun v=>v) aH O (fun w hw=>uD _ [(E (Z.neg ((l.getD i Rt0).n).dec)),((l.getD i Rt0).d)] w (SLe.ap hw (SLe.lit (e:=elI) (l:=[(E (Z.neg ((l.getD i Rt0).n).dec)),((l.getD i Rt0).d)]) m0 O (Nat.le_of_ble_eq_true O) O)) o3_) (fun p61 c62 L63 hF64=>⟨(fun _=>sR s0),(sR (sd s0)),?_⟩))⟩));have hb65:=(oB [(E (Z.neg ((l.getD i Rt0).n).dec)),((l.getD i Rt0).d)]);refine dC O O (dM (E:=31) (e:=elI) (l:=(fR p (bD [(E (Z.neg ((l.getD i Rt0).n).dec)),((l.getD i Rt0).d)]))) (fun v=>v) aH O (fun w hw=>LT _ p _ (bD [(E (Z.neg ((l.getD i Rt0).n).dec)),((l.getD i Rt0).d)]) w (aO hw hO_p (sR (sd lZ))) (aO hw hF64 lZ) o3_) (fun p66 c67 L68 hF69=>⟨(fun _=>sR s0),(sR (sR (sd s0))),?_⟩));have hb70:=(BG p (bD [(E (Z.neg ((l.getD i Rt0).n).dec)),((l.getD i Rt0).d)]));have hr71:=(vP p (bD [(E (Z.neg ((l.getD i Rt0).n).dec)),((l.getD i Rt0).d)]));refine go9 ?_;refine gJ3 (rg [6,7] 54 17) (fun g M=>∃ (old:Bool) (k:Nat),(dE l p n i (i+1) false 0)=(old,k)∧(g 6 = .bool old∧g 7 = .int .i64 (k:Int))∧M=(L68++(L63++(⟨b60,31,aV [pI (E (Z.neg ((l.getD i Rt0).n).dec)),pI ((l.getD i Rt0).d)]⟩::(L_p++(⟨b2,3,aV [cw 1]⟩::[])))))) (fun K_u72 hK_u72=>?_) ?_
     ·refine go_ ?_;refine cE (rg [6,7] 54 17) (fun g nn M=>∃ (old:Bool) (k:Nat),(dE l p n i nn old k)=(dE l p n i (i+1) false 0)∧i - k<nn∧(k≤i)∧(g 6 = .bool old∧g 7 = .int .i64 (k:Int))∧M=(L68++(L63++(⟨b60,31,aV [pI (E (Z.neg ((l.getD i Rt0).n).dec)),pI ((l.getD i Rt0).d)]⟩::(L_p++(⟨b2,3,aV [cw 1]⟩::[])))))) (i+1) ?start ?round
      case start=>exact ⟨_,s0,false,0,rfl,oo_,oo_,⟨rfl,rfl⟩,rfl⟩
      case round =>
       rintro nn g M ⟨old,k,hT1,hq1,hinv1,⟨hg6,hg7⟩,rfl⟩;obtain ⟨k1,rfl⟩:∃ m,nn=m+1:=⟨nn - 1,by omega⟩;refine gS2 hg6 hg7 ?_;clear hg6 hg7;refine go6 ?_;refine aT _ O (fun h77=>?_) (fun h77=>?_)
       ·have ph77:=of_decide_eq_true h77;refine go_ ?_;refine gJv (rg [6] 59 12) [(6,.bool (old||(decide (((l.getD k Rt0).n)=((l.getD i Rt0).n))&&decide (((l.getD k Rt0).d)=((l.getD i Rt0).d)))))] (fun K32 J32=>?_) ?_
        ·refine go_ ?_;refine lJ s0 13 [] [] (go_ ?_);refine pBB O (fun h79=>?_) (fun h79=>?_)
         ·refine wR ?_;refine J32 _ _ pp_ s0 (dG (pJ h79))
         refine go2 ?_;refine pQ O (aE (v':=.pointer (some (slb (.slice p_l l.length c_l) (k*36+0)))) (aJ (e:=elRt) (l:=l) (k:=k) yA O O (SLe.sub Hl sn) o2_) O) ?_;refine pQ O (bJ (e:=elRt) (l:=l) (k:=k) (o:=0) tyT O (SLe.sub Hl sn) (aF Rt0 o2_) O) ?_;refine go2 ?_;refine pQ O (aE (v':=.pointer (some (slb (.slice p_l l.length c_l) (i*36+0)))) (aJ (e:=elRt) (l:=l) (k:=i) yA O O (SLe.sub Hl sn) o2_) O) ?_;refine pQ O (bJ (e:=elRt) (l:=l) (k:=i) (o:=0) tyT O (SLe.sub Hl sn) (aF Rt0 o2_) O) ?_;refine pQ O (nY (r:=(decide (((l.getD k Rt0).n)=((l.getD i Rt0).n))&&decide (((l.getD k Rt0).d)=((l.getD i Rt0).d)))) O O (jP 8 dd_ X1 Y5 (fV oY (jN oY)) (fV oY (jN oY)) (j7 O zE (mN zE)))) (go3 ?_);refine J32 _ _ pp_ s0 (dG (l5 h79 O))
        intro g80;refine go2 ?_;refine sWi (((k+1):Nat):Int) O (go2 ?_);refine ⟨pp_,_,_,s0,(Nat.lt_succ_self _),(old||(decide (((l.getD k Rt0).n)=((l.getD i Rt0).n))&&decide (((l.getD k Rt0).d)=((l.getD i Rt0).d)))),(k+1),(by exact (hT1.symm.trans (Eq.symm (bS h77 O))).symm),(Nat.lt_of_lt_of_le oo_ (Nat.le_of_lt_succ hq1)),oo_,⟨rfl,rfl⟩,rfl⟩
       have ph77:=of_decide_eq_false h77;refine go_ ?_;refine hK_u72 _ _ pp_ ⟨_,s0,old,k,(by exact hT1.symm.trans (Eq.symm (bH h77 O))),⟨rfl,rfl⟩,rfl⟩
     rintro g M ⟨old,k,hCu72,⟨hg6,hg7⟩,rfl⟩;refine gS2 hg6 hg7 ?_;clear hg6 hg7;refine go4 ?_;rcases bt old with h81|h81
     ·refine W_f (kC h81) O (go3 ?_);refine sWi (((i+1):Nat):Int) O (go2 ?_);refine ⟨pp_,_,_,(sA (sR (sd (sR s0)))),(Nat.lt_succ_self _),(fR p (bD [(E (Z.neg ((l.getD i Rt0).n).dec)),((l.getD i Rt0).d)])),n,(i+1),p66,c67,L68,(by exact (hT0.symm.trans (Eq.symm (bS h58 (bS h59 (trs (Eq.symm (apS hCu72)) (bS h81 O)))))).symm),(Nat.lt_of_lt_of_le oo_ (Nat.le_of_lt_succ hq0)),⟨by omega,by omega,vP _ _⟩,⟨rfl,rfl,rfl,hF69⟩,rfl⟩
     refine W_t (j8 h81) O (go2 ?_);refine sV (.int .i64 ((W.add n (wl 1)).1)) O O ?_;refine go4 ?_;refine sWi (((i+1):Nat):Int) O (go2 ?_);refine ⟨pp_,_,_,(sA (sR (sd (sR s0)))),(Nat.lt_succ_self _),(fR p (bD [(E (Z.neg ((l.getD i Rt0).n).dec)),((l.getD i Rt0).d)])),(W.add n (wl 1)),(i+1),p66,c67,L68,(by exact (hT0.symm.trans (Eq.symm (bS h58 (bS h59 (trs (Eq.symm (apS hCu72)) (bH h81 O)))))).symm),(Nat.lt_of_lt_of_le oo_ (Nat.le_of_lt_succ hq0)),⟨by omega,by omega,vP _ _⟩,⟨rfl,rfl,rfl,hF69⟩,rfl⟩
    refine W_t (j8 h59) O (go_ ?_);refine sC (.bool true) aH mL O O O (go3 ?_);refine rt1 ?_;exact congrArg vS0 (show _=(dX l) from bH h1 (wX O (hT0.symm.trans (Eq.symm (bS h58 (bH h59 O))))))
   have ph58:=of_decide_eq_false h58;refine go_ ?_;refine hK_u9 _ _ pp_ ⟨_,s0,p,n,i,p_p,c_p,L_p,(by exact hT0.symm.trans (Eq.symm (bH h58 O))),hinv0.2,⟨rfl,rfl,rfl,hO_p⟩,rfl⟩
 rintro g M ⟨p,n,i,p_p,c_p,L_p,hCu9,hPu9,⟨hg3,hg4,hg5,hO_p⟩,rfl⟩;refine gS3 hg3 hg4 hg5 ?_;clear hg3 hg4 hg5;have hm_p:=OwnG.max hO_p;obtain ⟨hLp,hRp⟩:=hPu9;refine go_ ?_;refine sQ (aW aH (l7 (wl (-32))) O) O ?_;refine go_ ?_;intro b82 hb82;refine go3 ?_;refine sQ (aW aH (l7 (wl 32)) O) O ?_;refine go_ ?_;intro b83 hb83;refine go6 ?_;refine sFc (.tuple #[.int .i64 (((dN p (aP (wl (-32))) (aP (wl 32))).1).1),.int .i64 (((dN p (aP (wl (-32))) (aP (wl 32))).2).1)]) O (fun w hw=>wN _ p (aP (wl (-32))) (aP (wl 32)) w (aO hw hO_p (sd (sd lZ))) HV) O O ?_;refine mQ ?_;refine aQ O (dM (E:=47) (e:=HT) (l:=(bO p (aP (wl (-32))) (aP (wl 32))).1) (fun v=>.tuple #[v,.int .i64 (((bO p (aP (wl (-32))) (aP (wl 32))).2).1)]) aH O (fun w hw=>BJ _ p (aP (wl (-32))) (aP (wl 32)) w (aO hw hO_p (sd (sd lZ))) HV) (fun p84 c85 L86 hF87=>?_));refine go6 ?_;refine fQ (sA (sd (sd (sA (sd s0))))) ?_;refine go_ ?_;refine gJv (rg [] 91 24) [(114,.bool ((((dN p (aP (wl (-32))) (aP (wl 32))).2).1 != 0)||((((bO p (aP (wl (-32))) (aP (wl 32))).2).1 != 0)||((((dN p (aP (wl (-32))) (aP (wl 32))).1).1 != n.1)||(((((bO p (aP (wl (-32))) (aP (wl 32))).1).length:Int) != n.1)||((kQ (aN p)).1 != n.1))))))] (fun K34 J34=>?_) ?_
 ·refine go3 ?_;refine sBB O (fun h99=>?_) (fun h99=>?_)
  ·refine gG_ ?_;refine J34 _ _ pp_ s0 (dG (pJ h99))
  refine go3 ?_;refine sBB O (fun h100=>?_) (fun h100=>?_)
  ·refine gE_ ?_;refine J34 _ _ pp_ s0 (dG (l5 h99 (pJ h100)))
  refine go4 ?_;refine sBB O (fun h101=>?_) (fun h101=>?_)
  ·refine U1 ?_;refine J34 _ _ pp_ s0 (dG (l5 h99 (l5 h100 (pJ h101))))
  refine go_ ?_;refine sQ (aE (v':=.int .i64 (((bO p (aP (wl (-32))) (aP (wl 32))).1).length:Int)) (bX (e:=HT) aq_ O (rO hF87 lZ)) O) O ?_;refine go3 ?_;refine sBB O (fun h102=>?_) (fun h102=>?_)
  ·have ph103:=fz_ h102;refine go7 ?_;refine J34 _ _ pp_ s0 (dG (l5 h99 (l5 h100 (l5 h101 (pJ h102)))))
  have ph104:=cS_ h102;refine go_ ?_;refine aQ O (dM (E:=31) (e:=elI) (l:=(aN p)) (fun v=>v) aH O (fun w hw=>zI _ p w (aO hw hO_p (sR lZ)) HV) (fun p105 c106 L107 hF108=>?_));have hb109:=(qU p);refine sFc (.int .i64 ((kQ (aN p)).1)) O (fun w hw=>DX _ (aN p) w (aO hw hF108 lZ)) O O (go4 ?_);refine J34 _ _ pp_ (sR s0) (dG (l5 h99 (l5 h100 (l5 h101 (l5 h102 O)))))
 intro g110;refine aT _ O (fun h111=>?_) (fun h111=>?_)
 ·refine go4 ?_;refine rt1 ?_;exact congrArg vS0 (show _=(dX l) from bH h1 (trs (Eq.symm (smS hCu9)) (bS h111 O)))
 have ph112:=cS_ (Bool.or_eq_false_iff.1 (Bool.or_eq_false_iff.1 (Bool.or_eq_false_iff.1 (Bool.or_eq_false_iff.1 h111).2).2).2).1;refine go3 ?_;have hmx0:=OwnG.max hF6;have hmx1:=OwnG.max hO_p;have hmx2:=OwnG.max hF87;refine go2 ?_;refine gJ3 (rg [2,14,15,16,17,18,19] 115 48) (fun g M=>∃ (j:Nat),(dP l p n i ((bO p (aP (wl (-32))) (aP (wl 32))).1.length+1) 0) = .inl j∧(g 14 = .int .i64 (j:Int))∧M=(L86++(L_p++[]))) (fun K_u113 hK_u113=>?_) ?_
 ·refine go_ ?_;refine cE (rg [2,14,15,16,17,18,19] 115 48) (fun g nn M=>∃ (j:Nat),(dP l p n i nn j)=(dP l p n i ((bO p (aP (wl (-32))) (aP (wl 32))).1.length+1) 0)∧(bO p (aP (wl (-32))) (aP (wl 32))).1.length - j<nn∧(j≤(bO p (aP (wl (-32))) (aP (wl 32))).1.length)∧(g 14 = .int .i64 (j:Int))∧M=(L86++(L_p++[]))) ((bO p (aP (wl (-32))) (aP (wl 32))).1.length+1) ?start ?round
  case start=>exact ⟨_,s0,0,rfl,oo_,oo_,rfl,rfl⟩
  case round =>
   rintro nn g M ⟨j,hT2,hq2,hinv2,hg14,rfl⟩;obtain ⟨k2,rfl⟩:∃ m,nn=m+1:=⟨nn - 1,by omega⟩;refine gS1 hg14 ?_;clear hg14;refine go4 ?_;refine sQ (aE (v':=.int .i64 (((bO p (aP (wl (-32))) (aP (wl 32))).1).length:Int)) (bX (e:=HT) aq_ O (rO hF87 lZ)) O) O ?_;refine go2 ?_;refine aT _ O (fun h136=>?_) (fun h136=>?_)
   ·have ph136:=of_decide_eq_true h136;refine go7 ?_;refine sQ (aE (v':=.pointer (some (slb (.slice p84 ((bO p (aP (wl (-32))) (aP (wl 32))).1).length c85) (j*72+0)))) (aJ (e:=HT) (l:=(bO p (aP (wl (-32))) (aP (wl 32))).1) (k:=j) aq_ O O (rO hF87 lZ) o2_) O) O ?_;refine sQ (bJ (e:=HT) (l:=(bO p (aP (wl (-32))) (aP (wl 32))).1) (k:=j) (o:=0) tyT O (rO hF87 lZ) (aF Iv0 o2_) O) O ?_;obtain ⟨r137,hr137⟩:=nm ((fF p (((bO p (aP (wl (-32))) (aP (wl 32))).1).getD j Iv0) 16).1:Iv);obtain ⟨r138,hr138⟩:=nm ((fF p (((bO p (aP (wl (-32))) (aP (wl 32))).1).getD j Iv0) 16).2:W);refine sQ (aE (v':=.tuple #[AV [pI r137.lo.n,pI r137.lo.d,pI r137.hi.n,pI r137.hi.d],.int .i64 r138.1]) (eH aH O (fun w hw=>CT _ p (((bO p (aP (wl (-32))) (aP (wl 32))).1).getD j Iv0) 16 w (aO hw hO_p (sR lZ)) HV)) (by rw [hr137,hr138];first|done|rfl)) O ?_;refine go4 ?_;intro b139 hb139;refine go8 ?_;refine sQ (aW aH (z7 r137.lo r137.hi) O) O (go_ ?_);intro b140 hb140;refine go9 ?_;refine gJ3 (rg [18,19] 135 15) (fun g M=>∃ (is1:Bool) (m:Nat),(dF l p n i j r137 r138 (l.length+1) false 0)=(is1,m)∧(g 18 = .bool is1∧g 19 = .int .i64 (m:Int))∧M=(⟨b140,33,aV [pI ((cI r137.lo r137.hi).n),pI ((cI r137.lo r137.hi).d)]⟩::(⟨b139,47,aV [pI r137.lo.n,pI r137.lo.d,pI r137.hi.n,pI r137.hi.d]⟩::(L86++(L_p++[]))))) (fun K_u141 hK_u141=>?_) ?_
    ·refine go_ ?_;refine cE (rg [18,19] 135 15) (fun g nn M=>∃ (is1:Bool) (m:Nat),(dF l p n i j r137 r138 nn is1 m)=(dF l p n i j r137 r138 (l.length+1) false 0)∧l.length - m<nn∧(m≤l.length)∧(g 18 = .bool is1∧g 19 = .int .i64 (m:Int))∧M=(⟨b140,33,aV [pI ((cI r137.lo r137.hi).n),pI ((cI r137.lo r137.hi).d)]⟩::(⟨b139,47,aV [pI r137.lo.n,pI r137.lo.d,pI r137.hi.n,pI r137.hi.d]⟩::(L86++(L_p++[]))))) (l.length+1) ?start ?round
     case start=>exact ⟨_,s0,false,0,rfl,oo_,oo_,⟨rfl,rfl⟩,rfl⟩
     case round =>
      rintro nn g M ⟨is1,m,hT3,hq3,hinv3,⟨hg18,hg19⟩,rfl⟩;obtain ⟨k3,rfl⟩:∃ m,nn=m+1:=⟨nn - 1,by omega⟩;refine gS2 hg18 hg19 ?_;clear hg18 hg19;refine go4 ?_;refine sQ (bX yA O (SLe.sub Hl sn)) O (go2 ?_);refine aT _ O (fun h146=>?_) (fun h146=>?_)
      ·have ph146:=of_decide_eq_true h146;refine go_ ?_;refine gJv (rg [18] 141 9) [(18,.bool (is1||(decide (((l.getD m Rt0).n)=((cI r137.lo r137.hi).n))&&decide (((l.getD m Rt0).d)=((cI r137.lo r137.hi).d)))))] (fun K54 J54=>?_) ?_
       ·refine go_ ?_;refine lJ s0 10 [] [] (go_ ?_);refine pBB O (fun h148=>?_) (fun h148=>?_)
        ·refine go9 ?_;refine J54 _ _ pp_ s0 (dG (pJ h148))
        refine go2 ?_;refine pQ O (aE (v':=.pointer (some (slb (.slice p_l l.length c_l) (m*36+0)))) (aJ (e:=elRt) (l:=l) (k:=m) yA O O (SLe.sub Hl sn) o2_) O) ?_;refine pQ O (bJ (e:=elRt) (l:=l) (k:=m) (o:=0) tyT O (SLe.sub Hl sn) (aF Rt0 o2_) O) ?_;refine go_ ?_;refine pQ O (nY (r:=(decide (((l.getD m Rt0).n)=((cI r137.lo r137.hi).n))&&decide (((l.getD m Rt0).d)=((cI r137.lo r137.hi).d)))) O O (jP 8 dd_ X1 Y5 (fV oY (jN oY)) (fV oY (jN oY)) (j7 O zE (mN zE)))) (go3 ?_);refine J54 _ _ pp_ s0 (dG (l5 h148 O))
       intro g149;refine go2 ?_;refine sWi (((m+1):Nat):Int) O (go2 ?_);refine ⟨pp_,_,_,s0,(Nat.lt_succ_self _),(is1||(decide (((l.getD m Rt0).n)=((cI r137.lo r137.hi).n))&&decide (((l.getD m Rt0).d)=((cI r137.lo r137.hi).d)))),(m+1),(by exact (hT3.symm.trans (Eq.symm (bS h146 O))).symm),(Nat.lt_of_lt_of_le oo_ (Nat.le_of_lt_succ hq3)),oo_,⟨rfl,rfl⟩,rfl⟩
      have ph146:=of_decide_eq_false h146;refine go_ ?_;refine hK_u141 _ _ pp_ ⟨_,s0,is1,m,(by exact hT3.symm.trans (Eq.symm (bH h146 O))),⟨rfl,rfl⟩,rfl⟩
    rintro g M ⟨is1,m,hCu141,⟨hg18,hg19⟩,rfl⟩;refine gS2 hg18 hg19 ?_;clear hg18 hg19;refine gJv (rg [] 150 13) [(162,.bool ((r138.1 != 0)||(!is1||(!(decide (((iY p (cI r137.lo r137.hi)).n)=((aP (wl 0)).n))&&decide (((iY p (cI r137.lo r137.hi)).d)=((aP (wl 0)).d)))))))] (fun K55 J55=>?_) ?_
    ·refine go3 ?_;refine sBB O (fun h152=>?_) (fun h152=>?_)
     ·refine zX ?_;refine J55 _ _ pp_ s0 (dG (pJ h152))
     refine go3 ?_;rcases bt is1 with h153|h153
     ·refine sB (kC h153) O (go2 ?_);refine sFc (AV [pI ((iY p (cI r137.lo r137.hi)).n),pI ((iY p (cI r137.lo r137.hi)).d)]) O (fun w hw=>HX _ p (cI r137.lo r137.hi) w (aO hw hO_p (sd (sd (sR lZ)))) oo_) O O (sQ (aW aH (l7 (wl 0)) O) O ?_);refine sQ (CO (r:=(decide (((iY p (cI r137.lo r137.hi)).n)=((aP (wl 0)).n))&&decide (((iY p (cI r137.lo r137.hi)).d)=((aP (wl 0)).d)))) O O (jP 8 dd_ X1 Y5 (fV oY (jN oY)) (fV oY (jN oY)) (j7 O zE (mN zE)))) O ?_;refine go2 ?_;refine J55 _ _ pp_ s0 (dG (l5 h152 (uX h153 O)))
     refine sB (j8 h153) O (go7 ?_);refine J55 _ _ pp_ s0 (dG (l5 h152 (xK h153)))
    intro g154;refine aT _ O (fun h155=>?_) (fun h155=>?_)
    ·refine go4 ?_;refine rt1 ?_
     subst_vars;exact congrArg vS0 (show _=(dX l) from bH h1 (trs (Eq.symm (smS hCu9)) (bH h111 (wX O (hT2.symm.trans (Eq.symm (bS h136 (trs (Eq.symm (apS hCu141)) (bS h155 O)))))))))
    have ph156:=of_decide_eq_true (Bool.and_eq_true_iff.1 (MY (Bool.or_eq_false_iff.1 (Bool.or_eq_false_iff.1 h155).2).2)).1;have ph157:=of_decide_eq_true (Bool.and_eq_true_iff.1 (MY (Bool.or_eq_false_iff.1 (Bool.or_eq_false_iff.1 h155).2).2)).2;refine go3 ?_;refine sWi (((j+1):Nat):Int) O (go2 ?_);refine ⟨pp_,_,_,(sd (sd s0)),(Nat.lt_succ_self _),(j+1),(by subst_vars;exact (hT2.symm.trans (Eq.symm (bS h136 (trs (Eq.symm (apS hCu141)) (bH h155 O))))).symm),(Nat.lt_of_lt_of_le oo_ (Nat.le_of_lt_succ hq2)),oo_,rfl,rfl⟩
   have ph136:=of_decide_eq_false h136;refine go_ ?_;refine hK_u113 _ _ pp_ ⟨_,s0,j,(by exact hT2.symm.trans (Eq.symm (bH h136 O))),rfl,rfl⟩
 rintro g M ⟨j,hCu113,hg14,rfl⟩;refine gS1 hg14 ?_;clear hg14;refine go_ ?_;refine sC (.bool true) aH mL O O O (go3 ?_);refine rt1 ?_;exact congrArg vS0 (show _=(dX l) from bH h1 (trs (Eq.symm (smS hCu9)) (bH h111 (trs (Eq.symm (smS hCu113)) O))))
end Go.Proofs.YtcjoflcajgaifaaGreatDoor
namespace Go.Num
open Go Go.Kn
open QP (V)
theorem xI {x y:Int} {A:Nat} (h:(x*y).natAbs≤A) (hy:y≠0):x.natAbs≤A:=by
 rw [Int.natAbs_mul] at h;exact Nat.le_trans (Nat.le_mul_of_pos_right _ oo_) h
theorem xJ {x y:Int} {A:Nat} (h:(x*y).natAbs≤A) (hx:x≠0):y.natAbs≤A:=xI (by rwa [Int.mul_comm] at h) hx
theorem XH (g F:Nat→Int):conv g F 0=g 0*F 0∧conv g F 1=g 0*F 1+g 1*F 0∧conv g F 2=g 0*F 2+g 1*F 1+g 2*F 0∧conv g F 3=g 0*F 3+g 1*F 2+g 2*F 1+g 3*F 0:=by
 refine ⟨?_,?_,?_,?_⟩<;>(unfold conv;simp [gN])
theorem Y3 {g F P:Nat→Int} {A:Nat} (hP:∀ k,(P k).natAbs≤A) (h:∀ k,P k=conv g F k) (g2:∀ i,1<i→g i=0) (g1:g 1≠0) {m:Nat} (hm:m≤2) (Fm:F m≠0) (Fz:∀ i,m<i→F i=0):(g 0).natAbs≤A∧(g 1).natAbs≤A∧(F m).natAbs≤A:=by
 obtain ⟨c0,c1,c2,c3⟩:=XH g F;have p0:=hP 0;have p1:=hP 1;have p2:=hP 2;rw [h,c0] at p0;rw [h,c1] at p1;rw [h,c2,g2 2 oo_] at p2;have top:=l9 (c:=g) (d:=F) (n:=1) (m:=m) g2 Fz;have pt:=hP (1+m);rw [h,top] at pt;refine ⟨?_,xI pt Fm,xJ pt g1⟩
 by_cases z0:F 0=0
 ·rw [z0,Int.mul_zero,Int.add_zero] at p1
  by_cases z1:F 1=0
  ·have:m=2:=by
    rcases Nat.lt_or_ge m 1 with k|k
    ·exact absurd (by rw [show m=0 by omega];exact z0) Fm
    rcases Nat.lt_or_ge m 2 with k'|k'
    ·exact absurd (by rw [show m=1 by omega];exact z1) Fm
    omega
   subst this;rw [z1,z0,Int.mul_zero,Int.mul_zero,Int.add_zero,Int.add_zero] at p2;exact xI p2 Fm
  exact xI p1 z1
 exact xI p0 z0
theorem dM_ {g F P:Nat→Int} {A:Nat} (hP:∀ k,(P k).natAbs≤A) (h:∀ k,P k=conv g F k) {n m:Nat} (hnm:n+m≤3) (gn:g n≠0) (gz:∀ i,n<i→g i=0) (Fm:F m≠0) (Fz:∀ i,m<i→F i=0) :
  (F m).natAbs≤A∧((m=2∧∀ k,(F k).natAbs≤A+A*(A+A*A))∨(m≠2∧∀ k,(F k).natAbs≤A)):=by
 have top:=l9 (c:=g) (d:=F) (n:=n) (m:=m) gz Fz;have pt:=hP (n+m);rw [h,top] at pt;have Fle:=xJ pt gn;refine ⟨Fle,?_⟩;have A0:A≤A+A*(A+A*A):=Nat.le_add_right _ _
 by_cases n0:n=0
 ·subst n0
  have hF:∀ k,(F k).natAbs≤A:=fun k=>by
   have e:conv g F k=g 0*F k:=by
    by_cases hk:k≤3
    ·obtain ⟨c0,c1,c2,c3⟩:=XH g F
     have z1:=gz 1 oo_;have z2:=gz 2 oo_;have z3:=gz 3 oo_;rcases (show k=0∨k=1∨k=2∨k=3 by omega) with r|r|r|r<;>subst r
     ·exact c0
     ·rw [c1,z1,Int.zero_mul,Int.add_zero]
     ·rw [c2,z1,z2,Int.zero_mul,Int.zero_mul,Int.add_zero,Int.add_zero]
     rw [c3,z1,z2,z3,Int.zero_mul,Int.zero_mul,Int.zero_mul,Int.add_zero,Int.add_zero,Int.add_zero]
    rw [Fz k oo_,Int.mul_zero];exact lB (n:=1) (m:=m+1) (fun j hj=>gz j oo_) (fun j hj=>Fz j oo_) k oo_
   have:=hP k;rw [h,e] at this;exact xJ this gn
  by_cases m2:m=2
  ·exact .inl ⟨m2,fun k=>Nat.le_trans (hF k) A0⟩
  exact .inr ⟨m2,hF⟩
 by_cases m0:m=0
 ·subst m0
  refine .inr ⟨by decide,fun k=>?_⟩
  by_cases hk:k=0
  ·subst hk;exact Fle
  rw [Fz k oo_];exact Nat.zero_le _
 by_cases m1:m=1
 ·subst m1
  obtain ⟨l0,l1,_⟩:=Y3 (g:=F) (F:=g) (P:=P) hP (fun k=>by rw [h,qE]) Fz Fm (m:=n) oo_ gn gz;refine .inr ⟨by decide,fun k=>?_⟩;rcases (show k=0∨k=1∨1<k by omega) with r|r|r
  ·subst r;exact l0
  ·subst r;exact l1
  rw [Fz k r];exact Nat.zero_le _
 obtain rfl:m=2:=by omega
 obtain rfl:n=1:=by omega
 obtain ⟨g0,g1,F2⟩:=Y3 hP h gz gn (m:=2) oo_ Fm Fz;refine .inl ⟨rfl,?_⟩;obtain ⟨c0,c1,c2,c3⟩:=XH g F;have p1:=hP 1;have p2:=hP 2;rw [h,c1] at p1;rw [h,c2,gz 2 oo_,Int.zero_mul,Int.add_zero] at p2
 have F1:(F 1).natAbs≤A+A*A:=by
  refine xJ (x:=g 1) ?_ gn
  have e:g 1*F 1=(g 0*F 2+g 1*F 1) - g 0*F 2:=by omega
  have h1:(g 0*F 2).natAbs≤A*A:=by rw [Int.natAbs_mul];exact Nat.mul_le_mul g0 F2
  omega
 have F0:(F 0).natAbs≤A+A*(A+A*A):=by
  refine xJ (x:=g 1) ?_ gn
  have e:g 1*F 0=(g 0*F 1+g 1*F 0) - g 0*F 1:=by omega
  have h1:(g 0*F 1).natAbs≤A*(A+A*A):=by rw [Int.natAbs_mul];exact Nat.mul_le_mul g0 F1
  omega
 have A1:A*A≤A*(A+A*A):=Nat.mul_le_mul_left _ (Nat.le_add_right _ _);intro k;rcases (show k=0∨k=1∨k=2∨2<k by omega) with r|r|r|r
 ·subst r;exact F0
 ·subst r;omega
 ·subst r;omega
 rw [Fz k r];exact Nat.zero_le _
def one (i:Nat):Int:=if i=0 then 1 else 0
theorem GD (c:Nat→Int) (k:Nat):conv one c k=c k:=by rw [qE];unfold one;rw [XJ,Int.mul_one]
theorem bU_:Cop one:=fun u h=>h 0
theorem cD_ {c:Nat→Int} {n b:Nat} (h:Bd c n b) (hn:n≤4):Bd (dI c) (n - 1) (b+2):=by
 refine ⟨fun k hk=>by unfold dI;rw [h.z _ oo_,Int.mul_zero],fun k=>?_⟩;unfold dI
 by_cases hk:k+1<n
 ·rw [Int.natAbs_mul,Int.natAbs_natCast,Nat.pow_add _ b 2,Nat.mul_comm]
  have h1:=h.b (k+1);have h2:(c (k+1)).natAbs*(k+1)≤(c (k+1)).natAbs*2 ^ 2:=Nat.mul_le_mul_left _ (by show k+1≤4;omega);have h3:(c (k+1)).natAbs*2 ^ 2<2 ^ b*2 ^ 2:=Nat.mul_lt_mul_of_pos_right h1 dd_;omega
 rw [h.z _ oo_,Int.mul_zero];exact Nat.pow_pos dd_
theorem OZ {p:List I} {c:Nat→Int} (h:Po p c) {n M:Nat} (hz:∀ i,n<i→c i=0) (hb:∀ k,(c k).natAbs≤M):Pr (fun k=>(c k).fdiv (cN p)) n M:=by
 by_cases h0:p=[]
 ·have hz':∀ k,c k=0:=fun k=>h.zero (by rw [h0];exact Nat.zero_le _)
  exact ⟨fun i _=>by rw [hz' i,Int.zero_fdiv],fun k=>by rw [hz' k,Int.zero_fdiv];exact Nat.zero_le _,.inr fun k=>by rw [hz' k,Int.zero_fdiv]⟩
 exact ⟨fun i hi=>by rw [hz i hi,Int.zero_fdiv],fun k=>Nat.le_trans (SO (h.cpos h0) (h.dvd k)) (hb k),.inl (GK h h0)⟩
theorem fA_:okT 1 0 (2 ^ 103) 4 3 2 (2 ^ 32) (2 ^ 34)=true:=by kernel_rfl
theorem cU_:2 ^ 32+2 ^ 32*(2 ^ 32+2 ^ 32*2 ^ 32)<2 ^ 98:=by decide
structure Fs (F:Nat→Int) (m:Nat):Prop where
 top:F m≠0
 z:∀ i,m<i→F i=0
 m3:m≤3
 lead:(F m).natAbs≤2 ^ 32
 b:(m=2∧∀ k,(F k).natAbs<2 ^ 98)∨(m≠2∧∀ k,(F k).natAbs≤2 ^ 32)
theorem QA {p:List I} {c:Nat→Int} (h:Po p c) (hb:Bd c 4 32) (h0:p≠[]):∃ (F:Nat→Int) (m:Nat),Po (aN p) F∧Fs F m:=by
 have hd:=cD_ hb dd_;have hD:Po (aD p) (dI c):=H8 h fun k=>vD (hd.b k) dd_;have pa:=OZ h (n:=3) (M:=2 ^ 32) (fun i hi=>hb.z i oo_) (fun k=>Nat.le_of_lt (hb.b k));have pb:=OZ hD (n:=2) (M:=2 ^ 34) (fun i hi=>hd.z i oo_) (fun k=>Nat.le_of_lt (hd.b k));have hα:=tS h;have hβ:=tS hD;obtain ⟨g,F,n,eρ,eF,hG,g0,gz,gB,gC,FC,hF,_⟩:=eq_ bU_ (ds:=0) (S:=1) dd_ (fun i hi=>if_neg oo_) (fun k=>by unfold one;split<;>decide) h h0 hD pa pb fA_ (hα.cast fun k=>(GD (fun k=>(c k).fdiv (cN p)) k).symm) (hβ.cast fun k=>(GD (fun k=>(dI c k).fdiv (cN (aD p))) k).symm)
 have hF':∀ k,(c k).fdiv (cN p)=conv g F k:=fun k=>by rw [← hF k,GD]
 obtain ⟨m,m1,m2⟩:=(HD eF).resolve_left (B9 FC)
 have gn:g n≠0:=by omega
 have hnm:n+m≤3:=by
  rcases Nat.lt_or_ge 3 (n+m) with k|k
  ·exfalso
   have e1:=hF' (n+m);rw [l9 gz m2,hb.z _ oo_,Int.zero_fdiv] at e1;exact (Int.mul_ne_zero gn m1) e1.symm
  exact k
 obtain ⟨f1,f2⟩:=dM_ (A:=2 ^ 32) pa.b hF' hnm gn gz m1 m2
 have hA:∀ i,(F i).natAbs≤2 ^ 98:=fun i=>by
  rcases f2 with ⟨_,f⟩|⟨_,f⟩
  ·exact Nat.le_trans (f i) (Nat.le_of_lt cU_)
  exact Nat.le_trans (f i) dd_
 have hl:(aM p (aD p)).length=n+1:=hG.len_top gn gz
 obtain ⟨e,he,hP,_⟩:=V9 hG hl g0 (A:=2 ^ 98) (B:=(0+1)*(1*2 ^ 103)) hA gB (by
  have:n+1≤4:=by omega
  refine Nat.lt_of_le_of_lt (Nat.mul_le_mul_right _ this) dd_) hα hF' m1 m2
 have ab:∀ k,(e*F k).natAbs=(F k).natAbs:=fun k=>by
  rcases he with rfl|rfl
  ·rw [Int.one_mul]
  rw [Int.neg_one_mul,Int.natAbs_neg]
 refine ⟨_,m,hP,?_,fun i hi=>by rw [m2 i hi,Int.mul_zero],by omega,by rw [ab];exact f1,?_⟩
 ·rcases he with rfl|rfl
  ·rw [Int.one_mul];exact m1
  rw [Int.neg_one_mul];omega
 rcases f2 with ⟨hm,f⟩|⟨hm,f⟩
 ·exact .inl ⟨hm,fun k=>by rw [ab];exact Nat.lt_of_le_of_lt (f k) cU_⟩
 exact .inr ⟨hm,fun k=>by rw [ab];exact f k⟩
def AH (s:Nat) (x:List I):Prop:=∃ c n b,Po x c∧Bd c n b∧n≤4∧b+s*n+3≤512
def okS (s:Nat):Nat→Nat→Nat→Nat→Nat→Bool
 | 0,_,_,_,_=>false
 | f+1,n0,n1,b0,b1=>(List.range (n1+1)).all fun n =>
  decide (n≤3)&&decide (((if n=0 then 1 else b1)+1)*(n0+1 - n)+b0+1≤512)&&decide ((if n=0 then 1 else b1)+s*(n+1)+3≤512)&&(decide (n=0)||okS s f n (n - 1) (if n=0 then 1 else b1) (((if n=0 then 1 else b1)+1)*(n0+1 - n)+b0+1))
theorem d9_ {s f n0 n1 b0 b1 n:Nat} (h:okS s (f+1) n0 n1 b0 b1=true) (hn:n≤n1):n≤3∧((if n=0 then 1 else b1)+1)*(n0+1 - n)+b0+1≤512∧(if n=0 then 1 else b1)+s*(n+1)+3≤512∧(n=0∨okS s f n (n - 1) (if n=0 then 1 else b1) (((if n=0 then 1 else b1)+1)*(n0+1 - n)+b0+1)=true):=by
 unfold okS at h;rw [List.all_eq_true] at h;have h4:=h n (List.mem_range.2 oo_);rw [Bool.and_eq_true,Bool.and_eq_true,Bool.and_eq_true,Bool.or_eq_true] at h4;obtain ⟨⟨⟨h5,h6⟩,h7⟩,h8⟩:=h4;exact ⟨of_decide_eq_true h5,of_decide_eq_true h6,of_decide_eq_true h7,h8.imp of_decide_eq_true id⟩
theorem ft_ {x k:Nat} (m:Nat) (hm:4294967296 ^ 16=2 ^ m) (h:x<2 ^ k) (hk:k≤m):x<4294967296 ^ 16:=by
 rw [hm];exact Nat.lt_of_lt_of_le h (Nat.pow_le_pow_right dd_ hk)
theorem av_ {a b:List I} {α β:Nat→Int} {n0 n b0 b1:Nat} (ha:Po a α) (hb:Po b β) (za:∀ i,n0<i→α i=0) (ba:∀ k,(α k).natAbs<2 ^ b0) (tb:β n≠0) (zb:∀ i,n<i→β i=0) (bb:∀ k,(β k).natAbs<2 ^ b1) (hk:(b1+1)*(n0+1 - n)+b0+1≤512) :
  ∃ γ:Nat→Int,Po (aC (bL (aX a b) (E (Z.of (-1))))) γ∧(∀ k,(γ k).natAbs<2 ^ ((b1+1)*(n0+1 - n)+b0+1))∧(∀ i,n≤i→γ i=0)∧(aC (bL (aX a b) (E (Z.of (-1))))≠[]→Cop γ):=by
 have hl:b.length=n+1:=hb.len_top tb zb;have hal:a.length≤n0+1:=ha.short fun k hk=>za k oo_
 have o1:((β n).sign).natAbs≤1:=by
  have:=BP (β n);omega
 have B1:1≤2 ^ b1:=Nat.one_le_two_pow
 have an:((β n).natAbs:Int).natAbs≤2 ^ b1:=by rw [Int.natAbs_natCast];exact Nat.le_of_lt (bb n)
 have hm:a.length - n≤n0+1 - n:=by omega
 have e1:(2*2 ^ b1) ^ (a.length - n)*2 ^ b0≤2 ^ ((b1+1)*(n0+1 - n)+b0):=by
  rw [show 2*2 ^ b1=2 ^ (b1+1) by rw [Nat.pow_succ,Nat.mul_comm],← Nat.pow_mul,← Nat.pow_add];refine Nat.pow_le_pow_right dd_ ?_;have:=Nat.mul_le_mul_left (b1+1) hm;omega
 have e2:2 ^ ((b1+1)*(n0+1 - n)+b0)<2 ^ ((b1+1)*(n0+1 - n)+b0+1):=Nat.pow_lt_pow_right dd_ (Nat.lt_succ_self _);have hB:=KD (n:=n) B1 an o1 (fun k=>Nat.le_of_lt (bb k)) (a.length - n) (2 ^ b0) α (fun k=>Nat.le_of_lt (ba k)) (ft_ 512 MX (Nat.lt_of_le_of_lt e1 e2) hk);have hr:=WF ha hb hl hB;have hrl:=MA (n:=n) an o1 (fun k=>Nat.le_of_lt (bb k)) (a.length - n) (2 ^ b0) α (fun k=>Nat.le_of_lt (ba k));have hrz:=CS (a:=((β n).natAbs:Int)) (o:=(β n).sign) (d:=β) (n:=n) (GY _) zb (a.length - n) α (fun k hk=>ha.zero oo_)
 have hs:Po (bL (aX a b) (E (Z.of (-1)))) _:=NC hr dd_ (fun k=>by
  have:=hr.B k;unfold B512 at *;rwa [Int.mul_neg_one,Int.natAbs_neg])
 obtain ⟨γ,t,t0,tp,hγ,e4,hc⟩:=sL hs;refine ⟨γ,hγ,fun k=>?_,fun i hi=>?_,hc⟩
 ·have h1:(t*γ k).natAbs<2 ^ ((b1+1)*(n0+1 - n)+b0+1):=by
   rw [← e4 k,Int.mul_neg_one,Int.natAbs_neg];have:=hrl k;omega
  rw [Int.natAbs_mul] at h1;exact Nat.lt_of_le_of_lt (Nat.le_mul_of_pos_left _ oo_) h1
 have h1:=e4 i;rw [hrz i hi,Int.zero_mul] at h1;rcases Int.mul_eq_zero.1 h1.symm with k|k
 ·exact absurd k t0
 exact k
theorem PN {s:Nat} (p:List I):∀ (f n0 n1 b0 b1 k:Nat) (pre:List (List I)) (last next:List I) (α β:Nat→Int),okS s f n0 n1 b0 b1=true→Po last α→Po next β→(∀ i,n0<i→α i=0)→(∀ k,(α k).natAbs<2 ^ b0) →
  (∀ i,n1<i→β i=0)→(∀ k,(β k).natAbs<2 ^ b1)→(next≠[]→Cop β)→gmP next<k→∃ s':List (List I)×List I,cK p k (pre++[last]) next = .inl s'∧∀ x∈s'.1,x∈pre++[last]∨AH s x
 | 0,_,_,_,_,_,_,_,_,_,_,h,_,_,_,_,_,_,_,_=>absurd h (by unfold okS;decide)
 | f+1,n0,n1,b0,b1,0,_,_,_,_,_,_,_,_,_,_,_,_,_,hk=>absurd hk (Nat.not_lt_zero _)
 | f+1,n0,n1,b0,b1,k+1,pre,last,next,α,β,h,ha,hb,za,ba,zb,bb,hC,hk=>by
  unfold cK
  by_cases h0:next=[]
  ·subst h0
   exact ⟨_,rfl,fun x hx=>.inl hx⟩
  have hl:0<next.length:=List.length_pos_iff.2 h0
  rw [decide_eq_true (show 0<(next.length:Int) by omega),cond_true,FO,yU];obtain ⟨n,n1',n2,n3⟩:=hb.top h0
  have hn:n≤n1:=by
   rcases Nat.lt_or_ge n1 n with q|q
   ·exact absurd (zb n q) n2
   exact q
  obtain ⟨w1,w2,w3,w4⟩:=d9_ h hn
  have bb':∀ k,(β k).natAbs<2 ^ (if n=0 then 1 else b1):=fun k=>by
   by_cases hn0:n=0
   ·rw [if_pos hn0]
    subst hn0;have:=B8 (hC h0) n3
    by_cases hk0:k=0
    ·subst hk0;omega
    rw [n3 k oo_];decide
   rw [if_neg hn0];exact bb k
  obtain ⟨γ,g1,g2,g3,g4⟩:=av_ ha hb za ba n2 n3 bb' w2;rw [g1.nb,cond_false]
  have hT:AH s next:=⟨β,n+1,_,hb,⟨fun k hk=>n3 k oo_,bb'⟩,by omega,w3⟩
  have lift:∀ {s':List (List I)×List I},(∀ x∈s'.1,x∈(pre++[last])++[next]∨AH s x)→∀ x∈s'.1,x∈pre++[last]∨AH s x:=fun hx x hm=>by
   rcases hx x hm with q|q
   ·rcases List.mem_append.1 q with q|q
    ·exact .inl q
    rw [List.mem_singleton.1 q];exact .inr hT
   exact .inr q
  have hgm:gmP (aC (bL (aX last next) (E (Z.of (-1)))))<gmP next:=by
   have h1:=(MO (n:=E (Z.of (-1))) (a:=last) hb.l g1.g).2;unfold gmP;rw [g1.g,hb.g,cond_true,cond_true];omega
  rcases w4 with w4|w4
  ·have hnil:aC (bL (aX last next) (E (Z.of (-1))))=[]:=g1.nil fun k=>g3 k oo_
   rw [hnil];obtain ⟨k,rfl⟩:∃ j,k=j+1:=⟨k - 1,by omega⟩;refine ⟨((pre++[last])++[next],[]),by unfold cK;rfl,lift fun x hx=>.inl hx⟩
  obtain ⟨s',e,hs'⟩:=PN p f n (n - 1) _ _ k (pre++[last]) next _ β γ w4 hb g1 n3 bb' (fun i hi=>g3 i oo_) g2 g4 oo_
  exact ⟨s',e,lift hs'⟩
theorem gO_:okS 119 4 3 2 33 35=true:=by kernel_rfl
theorem gN_:okS 119 4 2 1 98 100=true:=by kernel_rfl
theorem DO {p:List I} {c:Nat→Int} (h:Po p c) (hb:Bd c 4 32) (h0:p≠[]):(aI p).2=true∧(∃ F m,Po (aN p) F∧Fs F m)∧∀ x∈(aI p).1,AH 119 x:=by
 obtain ⟨F,m,hF,fs⟩:=QA h hb h0;have hne:aN p≠[]:=fun e=>fs.top (hF.zero (by rw [e];exact Nat.zero_le _))
 have key:∀ {n0 b0:Nat},n0≤3→(∀ i,n0<i→F i=0)→(∀ k,(F k).natAbs<2 ^ b0)→b0+2≤512→okS 119 4 n0 (n0 - 1) b0 (b0+2)=true→b0+119*(n0+1)+3≤512→(aI p).2=true∧∀ x∈(aI p).1,AH 119 x:=fun {n0 b0} hn zF bF hb2 hok hTm=>by
  have bd:Bd F (n0+1) b0:=⟨fun k hk=>zF k oo_,bF⟩;have hd:=cD_ bd oo_;have hD:Po (aD (aN p)) (dI F):=H8 hF fun k=>vD (hd.b k) hb2;obtain ⟨γ,t,t0,tp,hγ,e1,hc⟩:=sL hD
  have gz:∀ i,n0 - 1<i→γ i=0:=fun i hi=>by
   have h1:=e1 i;rw [hd.z i oo_] at h1;rcases Int.mul_eq_zero.1 h1.symm with k|k
   ·exact absurd k t0
   exact k
  have gb:∀ k,(γ k).natAbs<2 ^ (b0+2):=fun k=>by
   have h1:=hd.b k;rw [e1 k,Int.natAbs_mul] at h1;exact Nat.lt_of_le_of_lt (Nat.le_mul_of_pos_left _ oo_) h1
  obtain ⟨s',e,hs'⟩:=PN (s:=119) p 4 n0 (n0 - 1) b0 (b0+2) (gmP (aC (aD (aN p)))+1) [] (aN p) _ F γ hok hF hγ zF bF gz gb hc (Nat.lt_succ_self _);have hT:AH 119 (aN p):=⟨F,n0+1,b0,hF,bd,by omega,hTm⟩
  have hall:∀ x∈s'.1,AH 119 x:=fun x hx=>by
   rcases hs' x hx with q|q
   ·rw [List.mem_singleton.1 q];exact hT
   exact q
  rw [List.nil_append] at e;unfold aI;rw [e]
  show (sm (fun (_:Unit)=>(s'.1,true)) (fun r=>r) (cP p s'.1 s'.2 s'.1)).2=true∧∀ x∈(sm (fun (_:Unit)=>(s'.1,true)) (fun r=>r) (cP p s'.1 s'.2 s'.1)).1,AH 119 x
  rw [OI p s'.1 s'.2 s'.1 fun x hx=>by obtain ⟨c,_,_,hc,_⟩:=hall x hx;exact hc.nb];exact ⟨rfl,hall⟩
 have res:(aI p).2=true∧∀ x∈(aI p).1,AH 119 x:=by
  rcases fs.b with ⟨hm,hB⟩|⟨hm,hB⟩
  ·subst hm
   exact key (n0:=2) (b0:=98) dd_ fs.z hB dd_ gN_ dd_
  have:=fs.m3;exact key (n0:=3) (b0:=33) dd_ (fun i hi=>fs.z i oo_) (fun k=>Nat.lt_of_le_of_lt (hB k) dd_) dd_ gO_ dd_
 exact ⟨res.1,⟨F,m,hF,fs⟩,res.2⟩
end Go.Num
