/- Lemmas: what they ask stands in their statements. -/
import Derived.Test.YtokjfhfiodopdaaGreatJRf
set_option linter.unusedSimpArgs false
set_option linter.unusedVariables false
set_option maxHeartbeats 8000000
set_option maxRecDepth 20000
namespace Go.Proofs.YtokjfhfiodopdaaGreat
open Go.Kn Go.Num Tryz
attribute [local irreducible] Go.Kn.W WL PL OpQ OpR OpS
theorem xB (n:Nat):∀ (vc:Value) (c:(List (List I))) (a:Rt) (b:Rt) (k:Int) (w:World) (hc:Slr2 w elLL vc c) (hpre:AL c∧(∀ n a b k,(aM n c a b k).l.length≤1000)∧0≤k∧k≤501),(502 - k).toNat<n→Calls prog 52 [vc,AV [pI a.n,pI a.d],AV [pI b.n,pI b.d],.int .i64 k].toArray w (fun e w'=>∃ v,e = .returned (.agg #[v,.int .i64 (((aM n c a b k).e).1)])∧Ext w w'∧Slo w.heap.size w' 49 vB v (aM n c a b k).l):=by
 induction n with
 | zero=>intros;omega
 | succ n ih =>
 intro vc c a b k w hc hpre hq;obtain ⟨p_c,c_c,rfl⟩:=hc.form;refine fA (n:=67) (fun v=>.agg #[v,.int .i64 (((aM (n+1) c a b k).e).1)]) func52 O O zz_ ?_;obtain ⟨w0,rfl⟩:=nm w;have Hc:=hc.old;have hm_c:=hc.max;refine giI ?_;refine go2 ?_;intro b1 hb1;refine go_ ?_;intro b2 hb2;refine go_ ?_;intro b3 hb3;refine go5 ?_;refine sFc (.tuple #[.int .i64 (((bP c a b).1).1),.bool ((bP c a b).2)]) O (fun w hw=>rL _ c a b w (SLe2.ap hw (SLe2.sub Hc sn)) C6) O O (go7 ?_);refine gJv [21,22,23,24,25,26] [(26,.bool (!((bP c a b).2)||decide (500<k)))] (fun K2 J2=>?_) ?_
 ·refine go3 ?_;rcases bt ((bP c a b).2) with h5|h5
  ·refine sB (gS h5) O (go4 ?_);refine J2 _ _ pp_ s0 (bK (mL h5 O))
  refine sB (gN h5) O (go4 ?_);refine J2 _ _ pp_ s0 (bK (oM h5))
 intro g6;refine aZ _ O (fun h7=>?_) (fun h7=>?_)
 ·refine go5 ?_;refine rtX O (fV O m0 tyT O) ?_
  have hE:((⟨([]:List Iv),(wl 30)⟩:Lst9):Lst9)=(aM (n+1) c a b k):=by exact bE h7 O
  rw [← hE];exact ⟨_,rfl,⟨[],sn,OwnG.nil⟩⟩
 have ph8:=of_decide_eq_false (Bool.or_eq_false_iff.1 h7).2;refine go6 ?_;refine aZ _ O (fun h9=>?_) (fun h9=>?_)
 ·refine go5 ?_;refine rtX O (fV O m0 tyT O) ?_
  have hE:((⟨([]:List Iv),(wl 0)⟩:Lst9):Lst9)=(aM (n+1) c a b k):=by exact aQ h7 (bE h9 O)
  rw [← hE];exact ⟨_,rfl,⟨[],sn,OwnG.nil⟩⟩
 refine go6 ?_;refine aZ _ O (fun h10=>?_) (fun h10=>?_)
 ·refine go4 ?_;refine bL O (fL [[pI a.n,pI a.d,pI b.n,pI b.d]] [pI a.n,pI a.d,pI b.n,pI b.d] SP gq_ b3_ O dd_ O O ⟨rfl,rfl,rfl,trivial⟩ O (fun b11 hb11=>go4 ?_));refine rtX O (fV O m1 tyT O) ?_
  have hE:((⟨[(⟨a,b⟩:Iv)],(wl 0)⟩:Lst9):Lst9)=(aM (n+1) c a b k):=by exact aQ h7 (aQ h9 (bE h10 O))
  rw [← hE];exact ⟨_,rfl,⟨_,(sk sn),OwnG.lit (e:=vB) (l:=[(⟨a,b⟩:Iv)]) (qs:=[pI a.n,pI a.d,pI b.n,pI b.d]) hb11 O (Nat.le_of_ble_eq_true O) O⟩⟩
 refine go4 ?_;refine sQ (bW aS (pY a b) O) O (go_ ?_);intro b12 hb12;refine go7 ?_;refine sWi (k+1) O (bL O (cO (E:=49) (e:=vB) (l:=(aM n c a (aI a b) (k+1)).l) (fun v=>.agg #[v,.int .i64 (((aM n c a (aI a b) (k+1)).e).1)]) aS O (fun w hw=>ih _ c a (aI a b) (k+1) w (SLe2.ap hw (SLe2.sub Hc sn)) (by first|exact ⟨hpre.1,hpre.2.1,by omega,by omega⟩|exact ⟨by with_reducible assumption,BG _ hpre (by with_reducible assumption),by omega,by omega⟩) oo_) (fun p13 c14 L15 hF16=>?_)));have hb17:=(hpre.2.1 n a (aI a b) (k+1));refine go_ ?_;intro b18 hb18;refine go8 ?_;refine aZ _ O (fun h19=>?_) (fun h19=>?_)
 ·refine go5 ?_;refine rtX O (fV O (mC (mA (mC mZ))) tyT O) ?_
  have hE:((⟨(aM n c a (aI a b) (k+1)).l,(aM n c a (aI a b) (k+1)).e⟩:Lst9):Lst9)=(aM (n+1) c a b k):=by exact aQ h7 (aQ h9 (aQ h10 (bE h19 O)))
  rw [← hE];exact ⟨_,rfl,⟨L15,(sd lZ),hF16⟩⟩
 refine go6 ?_;refine sWi (k+1) O (bL O (cO (E:=49) (e:=vB) (l:=(aM n c (aI a b) b (k+1)).l) (fun v=>.agg #[v,.int .i64 (((aM n c (aI a b) b (k+1)).e).1)]) aS O (fun w hw=>ih _ c (aI a b) b (k+1) w (SLe2.ap hw (SLe2.sub Hc sn)) (by first|exact ⟨hpre.1,hpre.2.1,by omega,by omega⟩|exact ⟨by with_reducible assumption,BG _ hpre (by with_reducible assumption),by omega,by omega⟩) oo_) (fun p20 c21 L22 hF23=>?_)));have hb24:=(hpre.2.1 n (aI a b) b (k+1));refine go_ ?_;intro b25 hb25;refine go2 ?_;refine o5 (sk (sA (sk (sA (sd (sk (sd (sd s0)))))))) ?_;refine go6 ?_;refine aZ _ O (fun h26=>?_) (fun h26=>?_)
 ·refine go5 ?_;refine rtX O (fV O (mC (mA (mC (mA mZ)))) tyT O) ?_
  have hE:((⟨(aM n c (aI a b) b (k+1)).l,(aM n c (aI a b) b (k+1)).e⟩:Lst9):Lst9)=(aM (n+1) c a b k):=by exact aQ h7 (aQ h9 (aQ h10 (aQ h19 (bE h26 O))))
  rw [← hE];exact ⟨_,rfl,⟨L22,(sd lZ),hF23⟩⟩
 refine go6 ?_;refine bL O (l8 (e:=vB) (l:=(aM n c a (aI a b) (k+1)).l) (m:=(aM n c (aI a b) b (k+1)).l) 272 SP (by kernel_rfl) dd_ O O hF16 (rO hF23 (sd lZ)) (cS (vD (cS o3))) (by show (((aM n c a (aI a b) (k+1)).l).length+((aM n c (aI a b) b (k+1)).l).length)*272≤_;omega) dd_ (fun p27 c28 L29 hO30=>go4 ?_));refine rtX O (fV O (mA (mC (mA (mC mZ)))) tyT O) ?_
 have hE:((⟨((aM n c a (aI a b) (k+1)).l++(aM n c (aI a b) b (k+1)).l),(wl 0)⟩:Lst9):Lst9)=(aM (n+1) c a b k):=by exact aQ h7 (aQ h9 (aQ h10 (aQ h19 (aQ h26 O))))
 rw [← hE];exact ⟨_,rfl,⟨L29,lZ,hO30⟩⟩
theorem xC (vc:Value) (c:(List (List I))) (a:Rt) (b:Rt) (k:Int) (w:World) (hc:Slr2 w elLL vc c) (hpre:AL c∧(∀ n a b k,(aM n c a b k).l.length≤1000)∧0≤k∧k≤501) :
 Calls prog 52 [vc,AV [pI a.n,pI a.d],AV [pI b.n,pI b.d],.int .i64 k].toArray w (fun e w'=>∃ v,e = .returned (.agg #[v,.int .i64 (((gR c a b k).e).1)])∧Ext w w'∧Slo w.heap.size w' 49 vB v (gR c a b k).l):=xB _ vc c a b k w hc hpre (Nat.lt_succ_self _)
theorem xA (vp:Value) (p:(List I)) (a:Rt) (b:Rt) (w:World) (hp:Slr w elI vp p) (hpre:Rgt p∧p.length≤100) :
    Calls prog 17 [vp,AV [pI a.n,pI a.d],AV [pI b.n,pI b.d]].toArray w (fun e w'=>∃ v,e = .returned (.agg #[v,.int .i64 (((aU p a b).e).1)])∧Ext w w'∧Slo w.heap.size w' 49 vB v (aU p a b).l):=by
 obtain ⟨p_p,c_p,rfl⟩:=hp.form;refine fA (n:=31) (fun v=>.agg #[v,.int .i64 (((aU p a b).e).1)]) func17 O O zz_ ?_;obtain ⟨w0,rfl⟩:=nm w;have Hp:=hp.old;have hm_p:=hp.max;refine giI ?_;refine go2 ?_;intro b1 hb1;refine go_ ?_;intro b2 hb2;refine go_ ?_;intro b3 hb3;refine go2 ?_;refine gJv (rg [] 9 9) [(17,.bool ((fT p a b)||((p.length:Int)==0)))] (fun K2 J2=>?_) ?_
 ·refine go4 ?_;refine sFc (.bool (fT p a b)) O (c1_ (tA _ p a b) Hp sn) O O ?_;refine sBB O (fun h5=>?_) (fun h5=>?_)
  ·refine go5 ?_;refine J2 _ _ pp_ s0 (bK (mW h5))
  refine go_ ?_;refine sQ (dK dW O (SLe.sub Hp sn)) O (go3 ?_);refine J2 _ _ pp_ s0 (bK (lF h5 O))
 intro g6;refine aZ _ O (fun h7=>?_) (fun h7=>?_)
 ·refine go5 ?_;refine rtX O (fV O m0 tyT O) ?_
  have hE:((⟨([]:List Iv),(wl 1)⟩:Lst9):Lst9)=(aU p a b):=by exact bE h7 O
  rw [← hE];exact ⟨_,rfl,⟨[],sn,OwnG.nil⟩⟩
 have ph8:=mD (Bool.or_eq_false_iff.1 h7).2;refine go3 ?_;refine bL O (tT (D:=elLL) (l:=(bO p).1) (fun v=>.tuple #[v,.bool ((bO p).2)]) aS O (fun w hw=>sZ _ p w (aR hw Hp sn) qP) (fun p9 c10 L11 hF12=>?_));have hb13:=(BF p (by first|exact hpre.1|exact hpre.1.1|exact hpre.2.1));refine vT ?_;rcases bt ((bO p).2) with h14|h14
 ·refine W_f (gS h14) O (go5 ?_);refine bL O (cO (E:=49) (e:=vB) (l:=(gR ((bO p).1) a b 0).l) (fun v=>.agg #[v,.int .i64 (((gR ((bO p).1) a b 0).e).1)]) aS O (fun w hw=>xC _ ((bO p).1) a b 0 w (SLe2.ap hw (SLf2.sle (SLf2.sub hF12 lZ))) (by first|exact ⟨hpre.1,hpre.2.1,by omega,by omega⟩|exact ⟨by with_reducible assumption,BG _ hpre (by with_reducible assumption),by omega,by omega⟩)) (fun p15 c16 L17 hF18=>?_));have hb19:=trivial;refine go3 ?_;refine rtX O (fV O (mA (mA mZ)) tyT O) ?_
  have hE:((⟨(gR ((bO p).1) a b 0).l,(gR ((bO p).1) a b 0).e⟩:Lst9):Lst9)=(aU p a b):=by exact aQ h7 (bE h14 O)
  rw [← hE];exact ⟨_,rfl,⟨L17,lZ,hF18⟩⟩
 refine W_t (gN h14) O (go5 ?_);refine rtX O (fV O (mA mZ) tyT O) ?_
 have hE:((⟨([]:List Iv),(wl 30)⟩:Lst9):Lst9)=(aU p a b):=by exact aQ h7 (aQ h14 O)
 rw [← hE];exact ⟨_,rfl,⟨[],sn,OwnG.nil⟩⟩
theorem m6 (vp:Value) (p:(List I)) (a:Rt) (b:Rt) (w:World) (hp:Slr w elI vp p) (hpre:Rgt p∧p.length≤100) :
    Calls prog 24 [vp,AV [pI a.n,pI a.d],AV [pI b.n,pI b.d]].toArray w (fun e w'=>e = .returned (AV [pI ((((aN p a b).x).lo).n),pI ((((aN p a b).x).lo).d),pI ((((aN p a b).x).hi).n),pI ((((aN p a b).x).hi).d),cb ((aN p a b).is),cw (((aN p a b).e).1)])∧Ext w w'):=by
 obtain ⟨p_p,c_p,rfl⟩:=hp.form;refine cU (N:=143) func24 O O zz_ ?_;obtain ⟨w0,rfl⟩:=nm w;have Hp:=hp.old;have hm_p:=hp.max;refine giI ?_;refine go2 ?_;intro b1 hb1;refine go_ ?_;intro b2 hb2;refine go_ ?_;intro b3 hb3;refine go6 ?_;refine sFc (.bool (fT p a b)) O (c1_ (tA _ p a b) Hp sn) O O (go_ ?_);refine aZ _ O (fun h4=>?_) (fun h4=>?_)
 ·refine go5 ?_;refine rtX O (fV O m0 tyT O) ?_;exact congrArg (fun r:Fnd9=>(AV [pI r.x.lo.n,pI r.x.lo.d,pI r.x.hi.n,pI r.x.hi.d,cb r.is,cw r.e.1]:Value)) (show _=(aN p a b) from bE h4 O)
 refine go4 ?_;refine sQ (dK dW O (SLe.sub Hp sn)) O (go2 ?_);refine aZ _ O (fun h5=>?_) (fun h5=>?_)
 ·have ph5:=qM h5;refine go5 ?_;refine rtX O (fV O m0 tyT O) ?_;exact congrArg (fun r:Fnd9=>(AV [pI r.x.lo.n,pI r.x.lo.d,pI r.x.hi.n,pI r.x.hi.d,cb r.is,cw r.e.1]:Value)) (show _=(aN p a b) from aQ h4 (bE h5 O))
 have ph5:=mD h5;refine go4 ?_;refine sFc (AV [cw (((aF p a).s).1),cb ((aF p a).ok)]) O (fun w hw=>lX _ p a w (aR hw Hp sn) oo_) O O (go_ ?_);intro b6 hb6;refine go5 ?_;refine sFc (AV [cw (((aF p b).s).1),cb ((aF p b).ok)]) O (fun w hw=>lX _ p b w (aR hw Hp sn) oo_) O O (go_ ?_);intro b7 hb7;refine go3 ?_;refine gJv (rg [] 33 8) [(40,.bool (!((aF p a).ok)||(!(aF p b).ok)))] (fun K4 J4=>?_) ?_
 ·refine go4 ?_;rcases bt ((aF p a).ok) with h9|h9
  ·refine sB (gS h9) O (go5 ?_);refine J4 _ _ pp_ s0 (bK (mL h9 O))
  refine sB (gN h9) O (go5 ?_);refine J4 _ _ pp_ s0 (bK (oM h9))
 intro g10;refine aZ _ O (fun h11=>?_) (fun h11=>?_)
 ·refine go5 ?_;refine rtX O (fV O m2 tyT O) ?_;exact congrArg (fun r:Fnd9=>(AV [pI r.x.lo.n,pI r.x.lo.d,pI r.x.hi.n,pI r.x.hi.d,cb r.is,cw r.e.1]:Value)) (show _=(aN p a b) from aQ h4 (aQ h5 (bE h11 O)))
 refine go2 ?_;refine gJv (rg [] 42 8) [(49,.bool (decide (((aF p a).s).1<0)||decide (((aF p b).s).1<0)))] (fun K6 J6=>?_) ?_
 ·refine go4 ?_;refine sBB O (fun h13=>?_) (fun h13=>?_)
  ·have ph13:=of_decide_eq_true h13;refine go5 ?_;refine J6 _ _ pp_ s0 (bK (mW h13))
  have ph13:=of_decide_eq_false h13;refine go5 ?_;refine J6 _ _ pp_ s0 (bK (lF h13 O))
 intro g14;refine aZ _ O (fun h15=>?_) (fun h15=>?_)
 ·refine go5 ?_;refine rtX O (fV O m2 tyT O) ?_;exact congrArg (fun r:Fnd9=>(AV [pI r.x.lo.n,pI r.x.lo.d,pI r.x.hi.n,pI r.x.hi.d,cb r.is,cw r.e.1]:Value)) (show _=(aN p a b) from aQ h4 (aQ h5 (aQ h11 (bE h15 O))))
 have ph16:=of_decide_eq_false (Bool.or_eq_false_iff.1 h15).1;have ph17:=of_decide_eq_false (Bool.or_eq_false_iff.1 h15).2;refine go5 ?_;refine bL O (cO (E:=49) (e:=vB) (l:=(aU p a b).l) (fun v=>.agg #[v,.int .i64 (((aU p a b).e).1)]) aS O (fun w hw=>xA _ p a b w (aR hw Hp sn) qP) (fun p18 c19 L20 hF21=>go_ ?_));intro b22 hb22;refine go8 ?_;refine aZ _ O (fun h23=>?_) (fun h23=>?_)
 ·refine go7 ?_;refine rtX O (fV O (mC (mA (mC (mC mZ)))) tyT O) ?_;exact congrArg (a₁:=((⟨(⟨(⟨I0,I0⟩:Rt),(⟨I0,I0⟩:Rt)⟩:Iv),false,(aU p a b).e⟩:Fnd9):Fnd9)) (fun r:Fnd9=>(AV [pI r.x.lo.n,pI r.x.lo.d,pI r.x.hi.n,pI r.x.hi.d,cb r.is,cw r.e.1]:Value)) (show _=(aN p a b) from aQ h4 (aQ h5 (aQ h11 (aQ h15 (bE h23 O)))))
 refine go3 ?_;have hmx0:=OwnG.max hF21;refine go2 ?_;refine sQ (bJ (v':=.int .i64 (((aU p a b).l).length:Int)) (dK (e:=vB) GU O (rO hF21 (sd lZ))) O) O (go2 ?_);refine aZ _ O (fun h24=>?_) (fun h24=>?_)
 ·have ph24:=qM h24;refine sF (rg [] 65 14) (fun g M=>(True)∧M=(⟨b22,45,bH [csl p18 ((aU p a b).l).length c19,cw (((aU p a b).e).1)]⟩::(L20++(⟨b7,74,bH [cw (((aF p b).s).1),cb ((aF p b).ok)]⟩::(⟨b6,74,bH [cw (((aF p a).s).1),cb ((aF p a).ok)]⟩::(⟨b3,53,bH [pI I0,pI I0,pI I0,pI I0,cb ((decide (a.n=b.n)&&decide (a.d=b.d))||(decide (0<((aF p a).s).1)||decide (0<((aF p b).s).1))),cw 0]⟩::(⟨b2,29,bH [pI b.n,pI b.d]⟩::(⟨b1,29,bH [pI a.n,pI a.d]⟩::[])))))))) (fun K9 J9=>?_) ?_
  ·refine go3 ?_;refine sQ (vM (r:=(decide (a.n=b.n)&&decide (a.d=b.d))) O O (n5 8 dd_ at_ a6_ (jW jU (oB jU)) (jW jU (oB jU)) (nT O o6 (tJ o6)))) O ?_;refine sBB O (fun h29=>?_) (fun h29=>?_)
   ·have ph30:=of_decide_eq_true (Bool.and_eq_true_iff.1 h29).1;have ph31:=of_decide_eq_true (Bool.and_eq_true_iff.1 h29).2;refine Q2 ?_;refine J9 _ _ pp_ ⟨_,s0,trivial,(show ((⟨b22,45,bH [csl p18 ((aU p a b).l).length c19,cw (((aU p a b).e).1)]⟩::(L20++(⟨b7,74,bH [cw (((aF p b).s).1),cb ((aF p b).ok)]⟩::(⟨b6,74,bH [cw (((aF p a).s).1),cb ((aF p a).ok)]⟩::(⟨b3,53,bH [pI I0,pI I0,pI I0,pI I0,cb true,cw 0]⟩::(⟨b2,29,bH [pI b.n,pI b.d]⟩::(⟨b1,29,bH [pI a.n,pI a.d]⟩::[]))))))):List Blk)=(⟨b22,45,bH [csl p18 ((aU p a b).l).length c19,cw (((aU p a b).e).1)]⟩::(L20++(⟨b7,74,bH [cw (((aF p b).s).1),cb ((aF p b).ok)]⟩::(⟨b6,74,bH [cw (((aF p a).s).1),cb ((aF p a).ok)]⟩::(⟨b3,53,bH [pI I0,pI I0,pI I0,pI I0,cb ((decide (a.n=b.n)&&decide (a.d=b.d))||(decide (0<((aF p a).s).1)||decide (0<((aF p b).s).1))),cw 0]⟩::(⟨b2,29,bH [pI b.n,pI b.d]⟩::(⟨b1,29,bH [pI a.n,pI a.d]⟩::[]))))))) by first|done|rfl|simp [h29]|(simp [h29];rfl))⟩
   refine go4 ?_;refine sBB O (fun h32=>?_) (fun h32=>?_)
   ·have ph32:=of_decide_eq_true h32;refine go7 ?_;refine J9 _ _ pp_ ⟨_,s0,trivial,(show ((⟨b22,45,bH [csl p18 ((aU p a b).l).length c19,cw (((aU p a b).e).1)]⟩::(L20++(⟨b7,74,bH [cw (((aF p b).s).1),cb ((aF p b).ok)]⟩::(⟨b6,74,bH [cw (((aF p a).s).1),cb ((aF p a).ok)]⟩::(⟨b3,53,bH [pI I0,pI I0,pI I0,pI I0,cb true,cw 0]⟩::(⟨b2,29,bH [pI b.n,pI b.d]⟩::(⟨b1,29,bH [pI a.n,pI a.d]⟩::[]))))))):List Blk)=(⟨b22,45,bH [csl p18 ((aU p a b).l).length c19,cw (((aU p a b).e).1)]⟩::(L20++(⟨b7,74,bH [cw (((aF p b).s).1),cb ((aF p b).ok)]⟩::(⟨b6,74,bH [cw (((aF p a).s).1),cb ((aF p a).ok)]⟩::(⟨b3,53,bH [pI I0,pI I0,pI I0,pI I0,cb ((decide (a.n=b.n)&&decide (a.d=b.d))||(decide (0<((aF p a).s).1)||decide (0<((aF p b).s).1))),cw 0]⟩::(⟨b2,29,bH [pI b.n,pI b.d]⟩::(⟨b1,29,bH [pI a.n,pI a.d]⟩::[]))))))) by first|done|rfl|simp [h29,h32]|(simp [h29,h32];rfl))⟩
   have ph32:=of_decide_eq_false h32;refine go7 ?_;refine J9 _ _ pp_ ⟨_,s0,trivial,(show ((⟨b22,45,bH [csl p18 ((aU p a b).l).length c19,cw (((aU p a b).e).1)]⟩::(L20++(⟨b7,74,bH [cw (((aF p b).s).1),cb ((aF p b).ok)]⟩::(⟨b6,74,bH [cw (((aF p a).s).1),cb ((aF p a).ok)]⟩::(⟨b3,53,bH [pI I0,pI I0,pI I0,pI I0,cb (decide (0<((aF p b).s).1)),cw 0]⟩::(⟨b2,29,bH [pI b.n,pI b.d]⟩::(⟨b1,29,bH [pI a.n,pI a.d]⟩::[]))))))):List Blk)=(⟨b22,45,bH [csl p18 ((aU p a b).l).length c19,cw (((aU p a b).e).1)]⟩::(L20++(⟨b7,74,bH [cw (((aF p b).s).1),cb ((aF p b).ok)]⟩::(⟨b6,74,bH [cw (((aF p a).s).1),cb ((aF p a).ok)]⟩::(⟨b3,53,bH [pI I0,pI I0,pI I0,pI I0,cb ((decide (a.n=b.n)&&decide (a.d=b.d))||(decide (0<((aF p a).s).1)||decide (0<((aF p b).s).1))),cw 0]⟩::(⟨b2,29,bH [pI b.n,pI b.d]⟩::(⟨b1,29,bH [pI a.n,pI a.d]⟩::[]))))))) by first|done|rfl|simp [h29,h32]|(simp [h29,h32];rfl))⟩
  rintro g33 M ⟨-,rfl⟩;refine gS0 ?_;refine go_ ?_;refine rtX O (fV O (mC (mA (mC (mC mZ)))) tyT O) ?_;exact congrArg (a₁:=((⟨(⟨(⟨I0,I0⟩:Rt),(⟨I0,I0⟩:Rt)⟩:Iv),((decide (a.n=b.n)&&decide (a.d=b.d))||(decide (0<((aF p a).s).1)||decide (0<((aF p b).s).1))),(wl 0)⟩:Fnd9):Fnd9)) (fun r:Fnd9=>(AV [pI r.x.lo.n,pI r.x.lo.d,pI r.x.hi.n,pI r.x.hi.d,cb r.is,cw r.e.1]:Value)) (show _=(aN p a b) from aQ h4 (aQ h5 (aQ h11 (aQ h15 (aQ h23 (bE h24 O))))))
 have ph24:=mD h24;refine go_ ?_;refine o5 (sk (sA (sd (sk (sk (sd (sd s0))))))) ?_;refine go2 ?_;refine bL O (tT (D:=elLL) (l:=(bO p).1) (fun v=>.tuple #[v,.bool ((bO p).2)]) aS O (fun w hw=>sZ _ p w (aR hw Hp sn) qP) (fun p34 c35 L36 hF37=>?_));have hb38:=(BF p (by first|exact hpre.1|exact hpre.1.1|exact hpre.2.1));refine pU ?_;refine gJ3 (rg [12,13,14,15,16,17] 84 58) (fun g M=>∃ (i:Nat),(cK p a b (((aU p a b).l).length+1) 0) = .inl i∧(g 12 = .int .i64 (i:Int))∧M=(L36++(⟨b22,45,bH [csl p18 ((aU p a b).l).length c19,cw (((aU p a b).e).1)]⟩::(L20++(⟨b6,74,bH [cw (((aF p a).s).1),cb ((aF p a).ok)]⟩::(⟨b3,53,bH [pI I0,pI I0,pI I0,pI I0,cb false,cw 0]⟩::[])))))) (fun K_u39 hK_u39=>?_) ?_
 ·refine go_ ?_;refine cH (rg [12,13,14,15,16,17] 84 58) (fun g nn M=>∃ (i:Nat),(cK p a b nn i)=(cK p a b (((aU p a b).l).length+1) 0)∧((aU p a b).l).length - i<nn∧(i≤((aU p a b).l).length)∧(g 12 = .int .i64 (i:Int))∧M=(L36++(⟨b22,45,bH [csl p18 ((aU p a b).l).length c19,cw (((aU p a b).e).1)]⟩::(L20++(⟨b6,74,bH [cw (((aF p a).s).1),cb ((aF p a).ok)]⟩::(⟨b3,53,bH [pI I0,pI I0,pI I0,pI I0,cb false,cw 0]⟩::[])))))) (((aU p a b).l).length+1) ?start ?round
  case start=>exact ⟨_,s0,0,rfl,oo_,oo_,rfl,rfl⟩
  case round =>
   rintro nn g M ⟨i,hT0,hq0,hinv0,hg12,rfl⟩;obtain ⟨k0,rfl⟩:∃ m,nn=m+1:=⟨nn - 1,by omega⟩;refine gS1 hg12 ?_;clear hg12;refine go5 ?_;refine sQ (bJ (v':=.int .i64 (((aU p a b).l).length:Int)) (dK (e:=vB) GU O (rO hF21 (sR (sd lZ)))) O) O (go2 ?_);refine aZ _ O (fun h83=>?_) (fun h83=>?_)
   ·have ph83:=of_decide_eq_true h83;refine go4 ?_;refine gJv [91,92,93,94,95,96,97] [(97,.bool (((i:Int)==0)&&decide (0<((aF p a).s).1)))] (fun K32 J32=>?_) ?_
    ·refine go3 ?_;refine sBB O (fun h85=>?_) (fun h85=>?_)
     ·refine go5 ?_;refine J32 _ _ pp_ s0 (bK (cQ h85 O))
     refine go5 ?_;refine J32 _ _ pp_ s0 (bK (iT h85))
    intro g86;refine aZ _ O (fun h87=>?_) (fun h87=>?_)
    ·have ph88:=qM (Bool.and_eq_true_iff.1 h87).1;have ph89:=of_decide_eq_true (Bool.and_eq_true_iff.1 h87).2;refine go3 ?_;refine sWi (((i+1):Nat):Int) O (go2 ?_);refine ⟨pp_,_,_,s0,(Nat.lt_succ_self _),(i+1),(by exact (hT0.symm.trans (Eq.symm (bE h83 (bE h87 O)))).symm),(Nat.lt_of_lt_of_le oo_ (Nat.le_of_lt_succ hq0)),oo_,rfl,rfl⟩
    refine go5 ?_;refine sQ (bJ (v':=.pointer (some (slb (.slice p18 ((aU p a b).l).length c19) (i*72+0)))) (j7 (e:=vB) (l:=(aU p a b).l) (k:=i) GU O O (rO hF21 (sR (sd lZ))) o2_) O) O ?_;refine sQ (jK (e:=vB) (l:=(aU p a b).l) (k:=i) (o:=0) tyT O (rO hF21 (sR (sd lZ))) (cZ Iv0 o2_) O) O ?_;refine go_ ?_;intro b90 hb90;refine go6 ?_;obtain ⟨r91,hr91⟩:=nm ((aF p ((((aU p a b).l).getD i Iv0).lo)):Sgd);refine sQ (bJ (v':=AV [cw r91.s.1,cb r91.ok]) (dZ aS O (fun w hw=>lX _ p ((((aU p a b).l).getD i Iv0).lo) w (aR hw Hp sn) oo_)) (by rw [hr91])) O (go_ ?_);intro b92 hb92;refine go6 ?_;refine gJ3 (rg [15,16,17] 107 27) (fun g M=>∃ (m:Nat) (mb92:Sgd) (mb90:Iv),(cY p a b i r91 (500+1) 0 r91 (((aU p a b).l).getD i Iv0)) = .inl (m,mb92,mb90)∧(g 15 = .int .i64 (m:Int))∧M=(⟨b92,74,bH [cw mb92.s.1,cb mb92.ok]⟩::(⟨b90,49,bH [pI mb90.lo.n,pI mb90.lo.d,pI mb90.hi.n,pI mb90.hi.d]⟩::(L36++(⟨b22,45,bH [csl p18 ((aU p a b).l).length c19,cw (((aU p a b).e).1)]⟩::(L20++(⟨b6,74,bH [cw (((aF p a).s).1),cb ((aF p a).ok)]⟩::(⟨b3,53,bH [pI I0,pI I0,pI I0,pI I0,cb false,cw 0]⟩::[])))))))) (fun K_u93 hK_u93=>?_) ?_
    ·refine go_ ?_;refine cH (rg [15,16,17] 107 27) (fun g nn M=>∃ (m:Nat) (mb92:Sgd) (mb90:Iv),(cY p a b i r91 nn m mb92 mb90)=(cY p a b i r91 (500+1) 0 r91 (((aU p a b).l).getD i Iv0))∧500 - m<nn∧(m≤500)∧(g 15 = .int .i64 (m:Int))∧M=(⟨b92,74,bH [cw mb92.s.1,cb mb92.ok]⟩::(⟨b90,49,bH [pI mb90.lo.n,pI mb90.lo.d,pI mb90.hi.n,pI mb90.hi.d]⟩::(L36++(⟨b22,45,bH [csl p18 ((aU p a b).l).length c19,cw (((aU p a b).e).1)]⟩::(L20++(⟨b6,74,bH [cw (((aF p a).s).1),cb ((aF p a).ok)]⟩::(⟨b3,53,bH [pI I0,pI I0,pI I0,pI I0,cb false,cw 0]⟩::[])))))))) (500+1) ?start ?round
     case start=>exact ⟨_,s0,0,r91,(((aU p a b).l).getD i Iv0),rfl,oo_,oo_,rfl,rfl⟩
     case round =>
      rintro nn g M ⟨m,mb92,mb90,hT1,hq1,hinv1,hg15,rfl⟩;obtain ⟨k1,rfl⟩:∃ m,nn=m+1:=⟨nn - 1,by omega⟩;refine gS1 hg15 ?_;clear hg15;refine go_ ?_;refine gJv (rg [] 107 11) [(117,.bool (mb92.ok&&((mb92.s.1==0)&&decide ((m:Int)<500))))] (fun K43 J43=>?_) ?_
      ·refine go3 ?_;refine sBB O (fun h116=>?_) (fun h116=>?_)
       ·refine go4 ?_;refine sBB O (fun h117=>?_) (fun h117=>?_)
        ·refine go4 ?_;refine J43 _ _ pp_ s0 (bK (cQ h116 (cQ h117 O)))
        refine go4 ?_;refine J43 _ _ pp_ s0 (bK (cQ h116 (iT h117)))
       refine go9 ?_;refine J43 _ _ pp_ s0 (bK (iT h116))
      intro g118;refine aZ _ O (fun h119=>?_) (fun h119=>?_)
      ·have ph120:=of_decide_eq_true (Bool.and_eq_true_iff.1 (Bool.and_eq_true_iff.1 h119).2).2;refine go6 ?_;obtain ⟨r121,hr121⟩:=nm ((eR ((bO p).1) mb90).1:Iv);refine sQ (bJ (v':=.tuple #[AV [pI r121.lo.n,pI r121.lo.d,pI r121.hi.n,pI r121.hi.d],.bool ((eR ((bO p).1) mb90).2)]) (dZ aS O (fun w hw=>zP _ ((bO p).1) mb90 w (SLe2.ap hw (SLf2.sle (SLf2.sub hF37 (sd (sd lZ))))) C6)) (by rw [hr121])) O (go4 ?_);intro b122 hb122;refine go8 ?_;rcases bt ((eR ((bO p).1) mb90).2) with h123|h123
       ·refine W_f (gS h123) O (go9 ?_);refine sFc (AV [cw (((aF p r121.lo).s).1),cb ((aF p r121.lo).ok)]) O (fun w hw=>lX _ p r121.lo w (aR hw Hp sn) oo_) O O (go4 ?_);refine sWi (((m+1):Nat):Int) O (go2 ?_);refine ⟨pp_,_,_,(sd s0),(Nat.lt_succ_self _),(m+1),(aF p r121.lo),r121,(by subst hr121;exact (hT1.symm.trans (Eq.symm (bE h119 (bE h123 O)))).symm),(Nat.lt_of_lt_of_le oo_ (Nat.le_of_lt_succ hq1)),oo_,rfl,rfl⟩
       refine W_t (gN h123) O (go5 ?_);refine rtX O (fV O (mC (mC (mC (mA (mC (mA (mC mZ))))))) tyT O) ?_
       subst_vars;exact congrArg (fun r:Fnd9=>(AV [pI r.x.lo.n,pI r.x.lo.d,pI r.x.hi.n,pI r.x.hi.d,cb r.is,cw r.e.1]:Value)) (show _=(aN p a b) from aQ h4 (aQ h5 (aQ h11 (aQ h15 (aQ h23 (aQ h24 (rH O (hT0.symm.trans (Eq.symm (bE h83 (aQ h87 (rH O (hT1.symm.trans (Eq.symm (bE h119 (aQ h123 O))))))))))))))))
      refine go_ ?_;refine hK_u93 _ _ pp_ ⟨_,s0,m,mb92,mb90,(by exact hT1.symm.trans (Eq.symm (aQ h119 O))),rfl,rfl⟩
    rintro g M ⟨m,mb92,mb90,hCu93,hg15,rfl⟩;refine gS1 hg15 ?_;clear hg15;refine go6 ?_;rcases bt mb92.ok with h124|h124
    ·refine W_f (gS h124) O (go6 ?_);refine aZ _ O (fun h125=>?_) (fun h125=>?_)
     ·have ph125:=of_decide_eq_true h125;refine go5 ?_;refine rtX O (fV O (mC (mC (mA (mC (mA (mC mZ)))))) tyT O) ?_;exact (by subst hr91;exact congrArg (fun r:Fnd9=>(AV [pI r.x.lo.n,pI r.x.lo.d,pI r.x.hi.n,pI r.x.hi.d,cb r.is,cw r.e.1]:Value)) (show _=(aN p a b) from aQ h4 (aQ h5 (aQ h11 (aQ h15 (aQ h23 (aQ h24 (rH O (hT0.symm.trans (Eq.symm (bE h83 (aQ h87 (trs (Eq.symm (smS hCu93)) (bE h124 (bE h125 O)))))))))))))))
     have ph125:=of_decide_eq_false h125;refine go3 ?_;refine sWi (((i+1):Nat):Int) O (go2 ?_);refine ⟨pp_,_,_,(sd (sd s0)),(Nat.lt_succ_self _),(i+1),(by subst hr91;exact (hT0.symm.trans (Eq.symm (bE h83 (aQ h87 (trs (Eq.symm (smS hCu93)) (bE h124 (aQ h125 O))))))).symm),(Nat.lt_of_lt_of_le oo_ (Nat.le_of_lt_succ hq0)),oo_,rfl,rfl⟩
    refine W_t (gN h124) O (go5 ?_);refine rtX O (fV O (mC (mC (mA (mC (mA (mC mZ)))))) tyT O) ?_;exact (by subst hr91;exact congrArg (fun r:Fnd9=>(AV [pI r.x.lo.n,pI r.x.lo.d,pI r.x.hi.n,pI r.x.hi.d,cb r.is,cw r.e.1]:Value)) (show _=(aN p a b) from aQ h4 (aQ h5 (aQ h11 (aQ h15 (aQ h23 (aQ h24 (rH O (hT0.symm.trans (Eq.symm (bE h83 (aQ h87 (trs (Eq.symm (smS hCu93)) (aQ h124 O))))))))))))))
   have ph83:=of_decide_eq_false h83;refine go_ ?_;refine hK_u39 _ _ pp_ ⟨_,s0,i,(by exact hT0.symm.trans (Eq.symm (aQ h83 O))),rfl,rfl⟩
 rintro g M ⟨i,hCu39,hg12,rfl⟩;refine gS1 hg12 ?_;clear hg12;refine o5 (sR (sd (sR (sd s0)))) ?_;refine go5 ?_;refine rtX O (fV O m0 tyT O) ?_;exact congrArg (fun r:Fnd9=>(AV [pI r.x.lo.n,pI r.x.lo.d,pI r.x.hi.n,pI r.x.hi.d,cb r.is,cw r.e.1]:Value)) (show _=(aN p a b) from aQ h4 (aQ h5 (aQ h11 (aQ h15 (aQ h23 (aQ h24 (trs (Eq.symm (smS hCu39)) O)))))))
theorem yR (vp:Value) (p:(List I)) (a:Rt) (b:Rt) (k:Int) (w:World) (hp:Slr w elI vp p) (hpre:Rgt p∧p.length≤100) :
    Calls prog 26 [vp,AV [pI a.n,pI a.d],AV [pI b.n,pI b.d],.int .i64 k].toArray w (fun e w'=>e = .returned (AV [pI ((((bR p a b k).x).lo).n),pI ((((bR p a b k).x).lo).d),pI ((((bR p a b k).x).hi).n),pI ((((bR p a b k).x).hi).d),cb ((bR p a b k).is),cw (((bR p a b k).e).1)])∧Ext w w'):=by
 obtain ⟨p_p,c_p,rfl⟩:=hp.form;refine cU (N:=71) func26 O O zz_ ?_;obtain ⟨w0,rfl⟩:=nm w;have Hp:=hp.old;have hm_p:=hp.max;refine giI ?_;refine go2 ?_;intro b1 hb1;refine go_ ?_;intro b2 hb2;refine go_ ?_;intro b3 hb3;refine go2 ?_;refine gJv [14,15,16,17,18,19] [(19,.bool (decide (k<0)||decide (64<k)))] (fun K2 J2=>?_) ?_
 ·refine go3 ?_;refine sBB O (fun h5=>?_) (fun h5=>?_)
  ·have ph5:=of_decide_eq_true h5;refine go4 ?_;refine J2 _ _ pp_ s0 (bK (mW h5))
  have ph5:=of_decide_eq_false h5;refine go4 ?_;refine J2 _ _ pp_ s0 (bK (lF h5 O))
 intro g6;refine aZ _ O (fun h7=>?_) (fun h7=>?_)
 ·refine go5 ?_;refine rtX O (fV O m0 tyT O) ?_;exact congrArg (fun r:Fnd9=>(AV [pI r.x.lo.n,pI r.x.lo.d,pI r.x.hi.n,pI r.x.hi.d,cb r.is,cw r.e.1]:Value)) (show _=(bR p a b k) from bE h7 O)
 have ph8:=of_decide_eq_false (Bool.or_eq_false_iff.1 h7).1;have ph9:=of_decide_eq_false (Bool.or_eq_false_iff.1 h7).2;refine go5 ?_;obtain ⟨r10,hr10⟩:=nm ((aN p a b):Fnd9);refine sQ (bJ (v':=AV [pI r10.x.lo.n,pI r10.x.lo.d,pI r10.x.hi.n,pI r10.x.hi.d,cb r10.is,cw r10.e.1]) (dZ aS O (fun w hw=>m6 _ p a b w (aR hw Hp sn) qP)) (by rw [hr10])) O (go_ ?_);intro b11 hb11;refine go3 ?_;refine gJv [25,26,27,28,29,30,31] [(31,.bool ((r10.e.1 != 0)||r10.is))] (fun K4 J4=>?_) ?_
 ·refine go4 ?_;refine sBB O (fun h13=>?_) (fun h13=>?_)
  ·refine go4 ?_;refine J4 _ _ pp_ s0 (bK (mW h13))
  refine go4 ?_;refine J4 _ _ pp_ s0 (bK (lF h13 O))
 intro g14;refine aZ _ O (fun h15=>?_) (fun h15=>?_)
 ·refine go7 ?_;refine rtX O (fV O m1 tyT O) ?_;exact (by subst hr10;exact congrArg (fun r:Fnd9=>(AV [pI r.x.lo.n,pI r.x.lo.d,pI r.x.hi.n,pI r.x.hi.d,cb r.is,cw r.e.1]:Value)) (show _=(bR p a b k) from aQ h7 (bE h15 O)))
 refine go6 ?_;intro b16 hb16;refine go2 ?_;refine o5 (sk (sd (sk (sd (sd s0))))) ?_;refine go4 ?_;refine gJ3 (rg [11,12,13] 38 31) (fun g M=>∃ (i:Nat) (mb16:Iv),(eU p a b k r10 (k.toNat+1) 0 (⟨a,b⟩:Iv)) = .inl (i,mb16)∧(g 11 = .int .i64 (i:Int))∧M=[⟨b16,49,bH [pI mb16.lo.n,pI mb16.lo.d,pI mb16.hi.n,pI mb16.hi.d]⟩,⟨b3,53,bH [pI I0,pI I0,pI I0,pI I0,cb false,cw 0]⟩]) (fun K_u17 hK_u17=>?_) ?_
 ·refine go_ ?_;refine cH (rg [11,12,13] 38 31) (fun g nn M=>∃ (i:Nat) (mb16:Iv),(eU p a b k r10 nn i mb16)=(eU p a b k r10 (k.toNat+1) 0 (⟨a,b⟩:Iv))∧k.toNat - i<nn∧(i≤k.toNat)∧(g 11 = .int .i64 (i:Int))∧M=[⟨b16,49,bH [pI mb16.lo.n,pI mb16.lo.d,pI mb16.hi.n,pI mb16.hi.d]⟩,⟨b3,53,bH [pI I0,pI I0,pI I0,pI I0,cb false,cw 0]⟩]) (k.toNat+1) ?start ?round
  case start=>exact ⟨_,s0,0,(⟨a,b⟩:Iv),rfl,oo_,oo_,rfl,rfl⟩
  case round =>
   rintro nn g M ⟨i,mb16,hT0,hq0,hinv0,hg11,rfl⟩;obtain ⟨k0,rfl⟩:∃ m,nn=m+1:=⟨nn - 1,by omega⟩;refine gS1 hg11 ?_;clear hg11;refine go6 ?_;refine aZ _ O (fun h32=>?_) (fun h32=>?_)
   ·have ph32:=of_decide_eq_true h32;refine go8 ?_;refine sQ (bW aS (pY mb16.lo mb16.hi) O) O (go_ ?_);intro b33 hb33;refine go7 ?_;obtain ⟨r34,hr34⟩:=nm ((aN p mb16.lo (aI mb16.lo mb16.hi)):Fnd9);refine sQ (bJ (v':=AV [pI r34.x.lo.n,pI r34.x.lo.d,pI r34.x.hi.n,pI r34.x.hi.d,cb r34.is,cw r34.e.1]) (dZ aS O (fun w hw=>m6 _ p mb16.lo (aI mb16.lo mb16.hi) w (aR hw Hp sn) qP)) (by rw [hr34])) O (go_ ?_);intro b35 hb35;refine go8 ?_;refine aZ _ O (fun h36=>?_) (fun h36=>?_)
    ·refine go5 ?_;refine rtX O (fV O m3 tyT O) ?_
     subst_vars;exact congrArg (fun r:Fnd9=>(AV [pI r.x.lo.n,pI r.x.lo.d,pI r.x.hi.n,pI r.x.hi.d,cb r.is,cw r.e.1]:Value)) (show _=(bR p a b k) from aQ h7 (aQ h15 (rH O (hT0.symm.trans (Eq.symm (bE h32 (bE h36 O)))))))
    refine go7 ?_;refine aZ _ O (fun h37=>?_) (fun h37=>?_)
    ·refine go7 ?_;refine rtX O (fV O m3 tyT O) ?_
     subst_vars;exact congrArg (fun r:Fnd9=>(AV [pI r.x.lo.n,pI r.x.lo.d,pI r.x.hi.n,pI r.x.hi.d,cb r.is,cw r.e.1]:Value)) (show _=(bR p a b k) from aQ h7 (aQ h15 (rH O (hT0.symm.trans (Eq.symm (bE h32 (aQ h36 (bE h37 O))))))))
    refine go5 ?_;refine aZ _ O (fun h38=>?_) (fun h38=>?_)
    ·refine go7 ?_;refine sWi (((i+1):Nat):Int) O (go2 ?_);refine ⟨pp_,_,_,(sd (sd s0)),(Nat.lt_succ_self _),(i+1),(⟨(aI mb16.lo mb16.hi),mb16.hi⟩:Iv),(by subst hr34;exact (hT0.symm.trans (Eq.symm (bE h32 (aQ h36 (aQ h37 (bE h38 O)))))).symm),(Nat.lt_of_lt_of_le oo_ (Nat.le_of_lt_succ hq0)),oo_,rfl,rfl⟩
    refine go7 ?_;refine sWi (((i+1):Nat):Int) O (go2 ?_);refine ⟨pp_,_,_,(sd (sd s0)),(Nat.lt_succ_self _),(i+1),(⟨mb16.lo,(aI mb16.lo mb16.hi)⟩:Iv),(by subst hr34;exact (hT0.symm.trans (Eq.symm (bE h32 (aQ h36 (aQ h37 (aQ h38 O)))))).symm),(Nat.lt_of_lt_of_le oo_ (Nat.le_of_lt_succ hq0)),oo_,rfl,rfl⟩
   have ph32:=of_decide_eq_false h32;refine go_ ?_;refine hK_u17 _ _ pp_ ⟨_,s0,i,mb16,(by exact hT0.symm.trans (Eq.symm (aQ h32 O))),rfl,rfl⟩
 rintro g M ⟨i,mb16,hCu17,hg11,rfl⟩;refine gS1 hg11 ?_;clear hg11;refine go6 ?_;refine rtX O (fV O m1 tyT O) ?_;exact (by subst hr10;exact congrArg (fun r:Fnd9=>(AV [pI r.x.lo.n,pI r.x.lo.d,pI r.x.hi.n,pI r.x.hi.d,cb r.is,cw r.e.1]:Value)) (show _=(bR p a b k) from aQ h7 (aQ h15 (trs (Eq.symm (smS hCu17)) O))))
theorem yN (vp:Value) (p:(List I)) (a:Rt) (b:Rt) (k:W) (w:World) (hp:Slr w elI vp p) :
    Calls prog 5 [vp,AV [pI a.n,pI a.d],AV [pI b.n,pI b.d],.int .i64 k.1].toArray w (fun e w'=>e = .returned (.bool (e8 p a b k))∧Ext w w'):=by
 obtain ⟨p_p,c_p,rfl⟩:=hp.form;refine cU (N:=116) func5 O O zz_ ?_;obtain ⟨w0,rfl⟩:=nm w;have Hp:=hp.old;have hm_p:=hp.max;refine giI ?_;refine go2 ?_;intro b1 hb1;refine go_ ?_;intro b2 hb2;refine go6 ?_;refine sFc (.bool (fO p a b)) O (c1_ (AB _ p a b) Hp sn) O O (go7 ?_);rcases bt (fO p a b) with h3|h3
 ·refine W_f (gS h3) O (go_ ?_);obtain ⟨hRp,hLp⟩:=az_ h3;refine go5 ?_;refine sFc (.bool (cL p a b k)) O (c1_ (yS _ p a b k) Hp sn) O O (go6 ?_);refine sFc (.tuple #[.bool ((aP p a b).1),.int .i64 (((aP p a b).2).1)]) O (fun w hw=>kZ _ p a b w (aR hw Hp sn) qP) O O (pU ?_);obtain ⟨r4,hr4⟩:=nm ((aN p a b):Fnd9);refine sQ (bJ (v':=AV [pI r4.x.lo.n,pI r4.x.lo.d,pI r4.x.hi.n,pI r4.x.hi.d,cb r4.is,cw r4.e.1]) (dZ aS O (fun w hw=>m6 _ p a b w (aR hw Hp sn) qP)) (by rw [hr4])) O (go_ ?_);intro b5 hb5;refine go7 ?_;refine sQ (bW aS (tX ((aP p a b).2) r4.e (cL p a b k)) O) O (go7 ?_);refine gJv (rg [] 51 18) [(68,.bool (!((dM ((aP p a b).2) r4.e (cL p a b k)).2)||(!((dM ((aP p a b).2) r4.e (cL p a b k)).1)&&(((aP p a b).1 != r4.is)||(((aP p a b).2).1 != r4.e.1)))))] (fun K3 J3=>?_) ?_
  ·refine go3 ?_;rcases bt ((dM ((aP p a b).2) r4.e (cL p a b k)).2) with h9|h9
   ·refine sB (gS h9) O (go2 ?_);rcases bt ((dM ((aP p a b).2) r4.e (cL p a b k)).1) with h10|h10
    ·refine sB (gS h10) O (IP ?_);refine J3 _ _ pp_ s0 (bK (mL h9 (zE h10)))
    refine sB (gN h10) O (go3 ?_);refine sQ (bJ (v':=.bool ((aP p a b).1 != r4.is)) (tR AU O O) O) O ?_;refine sBB O (fun h11=>?_) (fun h11=>?_)
    ·refine go8 ?_;refine J3 _ _ pp_ s0 (bK (mL h9 (qR h10 (mW h11))))
    refine go8 ?_;refine J3 _ _ pp_ s0 (bK (mL h9 (qR h10 (lF h11 O))))
   refine sB (gN h9) O (fp_ ?_);refine J3 _ _ pp_ s0 (bK (oM h9))
  intro g12;refine aZ _ O (fun h13=>?_) (fun h13=>?_)
  ·refine go4 ?_;refine rt1 ?_;exact (by subst hr4;exact congrArg vS0 (show _=(e8 p a b k) from bE h3 (bE h13 O)))
  refine go6 ?_;obtain ⟨r14,hr14⟩:=nm ((bZ p a b k.1).1:Iv);refine sQ (bJ (v':=.tuple #[AV [pI r14.lo.n,pI r14.lo.d,pI r14.hi.n,pI r14.hi.d],.bool ((bZ p a b k.1).2.1),.int .i64 (((bZ p a b k.1).2.2).1)]) (dZ aS O (fun w hw=>r9 _ p a b k.1 w (aR hw Hp sn) qP)) (by rw [hr14])) O (go5 ?_);intro b15 hb15;refine go9 ?_;obtain ⟨r16,hr16⟩:=nm ((bR p a b k.1):Fnd9);refine sQ (bJ (v':=AV [pI r16.x.lo.n,pI r16.x.lo.d,pI r16.x.hi.n,pI r16.x.hi.d,cb r16.is,cw r16.e.1]) (dZ aS O (fun w hw=>yR _ p a b k.1 w (aR hw Hp sn) qP)) (by rw [hr16])) O (go_ ?_);intro b17 hb17;refine go2 ?_;refine o5 (sk (sk (sd (sd (sd s0))))) ?_;refine go5 ?_;refine sQ (bW aS (tX ((bZ p a b k.1).2.2) r16.e (cL p a b k)) O) O (go6 ?_);refine gJv (rg [8] 91 25) [(8,.bool (lR&&((dM ((bZ p a b k.1).2.2) r16.e (cL p a b k)).2&&((dM ((bZ p a b k.1).2.2) r16.e (cL p a b k)).1||((decide (r14.lo.n=r16.x.lo.n)&&(decide (r14.lo.d=r16.x.lo.d)&&(decide (r14.hi.n=r16.x.hi.n)&&decide (r14.hi.d=r16.x.hi.d))))&&(((bZ p a b k.1).2.1==r16.is)&&(((bZ p a b k.1).2.2).1==r16.e.1)))))))] (fun K4 J4=>?_) ?_
  ·refine go_ ?_;refine sQ (bW aS rY  rfl) O ?_;refine sBB O (fun h27=>?_) (fun h27=>?_)
   ·refine go2 ?_;refine sBB O (fun h28=>?_) (fun h28=>?_)
    ·refine go_ ?_;refine sBB O (fun h29=>?_) (fun h29=>?_)
     ·refine fq_ ?_;refine J4 _ _ pp_ s0 (bK (cQ h27 (cQ h28 (mW h29))))
     refine go3 ?_;refine sQ (vM (r:=(decide (r14.lo.n=r16.x.lo.n)&&(decide (r14.lo.d=r16.x.lo.d)&&(decide (r14.hi.n=r16.x.hi.n)&&decide (r14.hi.d=r16.x.hi.d))))) O O (n5 8 dd_ VD VZ (jW jU (jW jU (jW jU (oB jU)))) (jW jU (jW jU (jW jU (oB jU)))) (nT O o6 (nT O o6 (nT O o6 (tJ o6)))))) O ?_;refine sBB O (fun h30=>?_) (fun h30=>?_)
     ·have ph31:=of_decide_eq_true (Bool.and_eq_true_iff.1 h30).1;have ph32:=of_decide_eq_true (Bool.and_eq_true_iff.1 (Bool.and_eq_true_iff.1 h30).2).1;have ph33:=of_decide_eq_true (Bool.and_eq_true_iff.1 (Bool.and_eq_true_iff.1 (Bool.and_eq_true_iff.1 h30).2).2).1;have ph34:=of_decide_eq_true (Bool.and_eq_true_iff.1 (Bool.and_eq_true_iff.1 (Bool.and_eq_true_iff.1 h30).2).2).2;refine go3 ?_;refine sQ (bJ (v':=.bool ((bZ p a b k.1).2.1==r16.is)) (T9 AU O O) O) O (go_ ?_);refine sBB O (fun h35=>?_) (fun h35=>?_)
      ·refine go9 ?_;refine J4 _ _ pp_ s0 (bK (cQ h27 (cQ h28 (lF h29 (cQ h30 (cQ h35 O))))))
      refine go9 ?_;refine J4 _ _ pp_ s0 (bK (cQ h27 (cQ h28 (lF h29 (cQ h30 (iT h35))))))
     refine gZ_ ?_;refine J4 _ _ pp_ s0 (bK (cQ h27 (cQ h28 (lF h29 (iT h30)))))
    refine ii_ ?_;refine J4 _ _ pp_ s0 (bK (cQ h27 (iT h28)))
   refine g2_ ?_;refine J4 _ _ pp_ s0 (bK (iT h27))
  intro g36;refine go_ ?_;refine rt1 ?_
  subst_vars;exact congrArg vS0 (show _=(e8 p a b k) from bE h3 (aQ h13 O))
 refine W_t (gN h3) O (go_ ?_);refine sQ (bW aS rY  rfl) O (go3 ?_);refine rt1 ?_;exact congrArg vS0 (show _=(e8 p a b k) from aQ h3 O)
end Go.Proofs.YtokjfhfiodopdaaGreat
namespace Go.Num
open Go Go.Kn
open QP (V)
theorem BA {x y:Int} {A:Nat} (h:(x*y).natAbs≤A) (hy:y≠0):x.natAbs≤A:=by
 rw [Int.natAbs_mul] at h;exact Nat.le_trans (Nat.le_mul_of_pos_right _ oo_) h
theorem BB {x y:Int} {A:Nat} (h:(x*y).natAbs≤A) (hx:x≠0):y.natAbs≤A:=BA (by rwa [Int.mul_comm] at h) hx
theorem ae_ (g F:Nat→Int):conv g F 0=g 0*F 0∧conv g F 1=g 0*F 1+g 1*F 0∧conv g F 2=g 0*F 2+g 1*F 1+g 2*F 0∧conv g F 3=g 0*F 3+g 1*F 2+g 2*F 1+g 3*F 0:=by
 refine ⟨?_,?_,?_,?_⟩<;>(unfold conv;simp [jA])
theorem a4_ {g F P:Nat→Int} {A:Nat} (hP:∀ k,(P k).natAbs≤A) (h:∀ k,P k=conv g F k) (g2:∀ i,1<i→g i=0) (g1:g 1≠0) {m:Nat} (hm:m≤2) (Fm:F m≠0) (Fz:∀ i,m<i→F i=0):(g 0).natAbs≤A∧(g 1).natAbs≤A∧(F m).natAbs≤A:=by
 obtain ⟨c0,c1,c2,c3⟩:=ae_ g F;have p0:=hP 0;have p1:=hP 1;have p2:=hP 2;rw [h,c0] at p0;rw [h,c1] at p1;rw [h,c2,g2 2 oo_] at p2;have top:=pL (c:=g) (d:=F) (n:=1) (m:=m) g2 Fz;have pt:=hP (1+m);rw [h,top] at pt;refine ⟨?_,BA pt Fm,BB pt g1⟩
 by_cases z0:F 0=0
 ·rw [z0,Int.mul_zero,Int.add_zero] at p1
  by_cases z1:F 1=0
  ·have:m=2:=by
    rcases Nat.lt_or_ge m 1 with k|k
    ·exact absurd (by rw [show m=0 by omega];exact z0) Fm
    rcases Nat.lt_or_ge m 2 with k'|k'
    ·exact absurd (by rw [show m=1 by omega];exact z1) Fm
    omega
   subst this;rw [z1,z0,Int.mul_zero,Int.mul_zero,Int.add_zero,Int.add_zero] at p2;exact BA p2 Fm
  exact BA p1 z1
 exact BA p0 z0
theorem fh_ {g F P:Nat→Int} {A:Nat} (hP:∀ k,(P k).natAbs≤A) (h:∀ k,P k=conv g F k) {n m:Nat} (hnm:n+m≤3) (gn:g n≠0) (gz:∀ i,n<i→g i=0) (Fm:F m≠0) (Fz:∀ i,m<i→F i=0) :
  (F m).natAbs≤A∧((m=2∧∀ k,(F k).natAbs≤A+A*(A+A*A))∨(m≠2∧∀ k,(F k).natAbs≤A)):=by
 have top:=pL (c:=g) (d:=F) (n:=n) (m:=m) gz Fz;have pt:=hP (n+m);rw [h,top] at pt;have Fle:=BB pt gn;refine ⟨Fle,?_⟩;have A0:A≤A+A*(A+A*A):=Nat.le_add_right _ _
 by_cases n0:n=0
 ·subst n0
  have hF:∀ k,(F k).natAbs≤A:=fun k=>by
   have e:conv g F k=g 0*F k:=by
    by_cases hk:k≤3
    ·obtain ⟨c0,c1,c2,c3⟩:=ae_ g F
     have z1:=gz 1 oo_;have z2:=gz 2 oo_;have z3:=gz 3 oo_;rcases (show k=0∨k=1∨k=2∨k=3 by omega) with r|r|r|r<;>subst r
     ·exact c0
     ·rw [c1,z1,Int.zero_mul,Int.add_zero]
     ·rw [c2,z1,z2,Int.zero_mul,Int.zero_mul,Int.add_zero,Int.add_zero]
     rw [c3,z1,z2,z3,Int.zero_mul,Int.zero_mul,Int.zero_mul,Int.add_zero,Int.add_zero,Int.add_zero]
    rw [Fz k oo_,Int.mul_zero];exact oC (n:=1) (m:=m+1) (fun j hj=>gz j oo_) (fun j hj=>Fz j oo_) k oo_
   have:=hP k;rw [h,e] at this;exact BB this gn
  by_cases m2:m=2
  ·exact .inl ⟨m2,fun k=>Nat.le_trans (hF k) A0⟩
  exact .inr ⟨m2,hF⟩
 by_cases m0:m=0
 ·subst m0
  refine .inr ⟨by decide,fun k=>?_⟩
  by_cases hk:k=0
  ·subst hk;exact Fle
  rw [Fz k oo_];exact Nat.zero_le _
 by_cases m1:m=1
 ·subst m1
  obtain ⟨l0,l1,_⟩:=a4_ (g:=F) (F:=g) (P:=P) hP (fun k=>by rw [h,uS]) Fz Fm (m:=n) oo_ gn gz;refine .inr ⟨by decide,fun k=>?_⟩;rcases (show k=0∨k=1∨1<k by omega) with r|r|r
  ·subst r;exact l0
  ·subst r;exact l1
  rw [Fz k r];exact Nat.zero_le _
 obtain rfl:m=2:=by omega
 obtain rfl:n=1:=by omega
 obtain ⟨g0,g1,F2⟩:=a4_ hP h gz gn (m:=2) oo_ Fm Fz;refine .inl ⟨rfl,?_⟩;obtain ⟨c0,c1,c2,c3⟩:=ae_ g F;have p1:=hP 1;have p2:=hP 2;rw [h,c1] at p1;rw [h,c2,gz 2 oo_,Int.zero_mul,Int.add_zero] at p2
 have F1:(F 1).natAbs≤A+A*A:=by
  refine BB (x:=g 1) ?_ gn
  have e:g 1*F 1=(g 0*F 2+g 1*F 1) - g 0*F 2:=by omega
  have h1:(g 0*F 2).natAbs≤A*A:=by rw [Int.natAbs_mul];exact Nat.mul_le_mul g0 F2
  omega
 have F0:(F 0).natAbs≤A+A*(A+A*A):=by
  refine BB (x:=g 1) ?_ gn
  have e:g 1*F 0=(g 0*F 1+g 1*F 0) - g 0*F 1:=by omega
  have h1:(g 0*F 1).natAbs≤A*(A+A*A):=by rw [Int.natAbs_mul];exact Nat.mul_le_mul g0 F1
  omega
 have A1:A*A≤A*(A+A*A):=Nat.mul_le_mul_left _ (Nat.le_add_right _ _);intro k;rcases (show k=0∨k=1∨k=2∨2<k by omega) with r|r|r|r
 ·subst r;exact F0
 ·subst r;omega
 ·subst r;omega
 rw [Fz k r];exact Nat.zero_le _
def one (i:Nat):Int:=if i=0 then 1 else 0
theorem JA (c:Nat→Int) (k:Nat):conv one c k=c k:=by rw [uS];unfold one;rw [ag_,Int.mul_one]
theorem dm_:Cop one:=fun u h=>h 0
theorem d3_ {c:Nat→Int} {n b:Nat} (h:Bd c n b) (hn:n≤4):Bd (dI c) (n - 1) (b+2):=by
 refine ⟨fun k hk=>by unfold dI;rw [h.z _ oo_,Int.mul_zero],fun k=>?_⟩;unfold dI
 by_cases hk:k+1<n
 ·rw [Int.natAbs_mul,Int.natAbs_natCast,Nat.pow_add _ b 2,Nat.mul_comm]
  have h1:=h.b (k+1);have h2:(c (k+1)).natAbs*(k+1)≤(c (k+1)).natAbs*2 ^ 2:=Nat.mul_le_mul_left _ (by show k+1≤4;omega);have h3:(c (k+1)).natAbs*2 ^ 2<2 ^ b*2 ^ 2:=Nat.mul_lt_mul_of_pos_right h1 dd_;omega
 rw [h.z _ oo_,Int.mul_zero];exact Nat.pow_pos dd_
theorem RQ {p:List I} {c:Nat→Int} (h:Po p c) {n M:Nat} (hz:∀ i,n<i→c i=0) (hb:∀ k,(c k).natAbs≤M):Pr (fun k=>(c k).fdiv (cN p)) n M:=by
 by_cases h0:p=[]
 ·have hz':∀ k,c k=0:=fun k=>h.zero (by rw [h0];exact Nat.zero_le _)
  exact ⟨fun i _=>by rw [hz' i,Int.zero_fdiv],fun k=>by rw [hz' k,Int.zero_fdiv];exact Nat.zero_le _,.inr fun k=>by rw [hz' k,Int.zero_fdiv]⟩
 exact ⟨fun i hi=>by rw [hz i hi,Int.zero_fdiv],fun k=>Nat.le_trans (VF (h.cpos h0) (h.dvd k)) (hb k),.inl (JF h h0)⟩
theorem he_:okT 1 0 (2 ^ 103) 4 3 2 (2 ^ 32) (2 ^ 34)=true:=by kernel_rfl
theorem eh_:2 ^ 32+2 ^ 32*(2 ^ 32+2 ^ 32*2 ^ 32)<2 ^ 98:=by decide
structure Fs (F:Nat→Int) (m:Nat):Prop where
 top:F m≠0
 z:∀ i,m<i→F i=0
 m3:m≤3
 lead:(F m).natAbs≤2 ^ 32
 b:(m=2∧∀ k,(F k).natAbs<2 ^ 98)∨(m≠2∧∀ k,(F k).natAbs≤2 ^ 32)
theorem S2 {p:List I} {c:Nat→Int} (h:Po p c) (hb:Bd c 4 32) (h0:p≠[]):∃ (F:Nat→Int) (m:Nat),Po (bD p) F∧Fs F m:=by
 have hd:=d3_ hb dd_;have hD:Po (aE p) (dI c):=LM h fun k=>CT (hd.b k) dd_;have pa:=RQ h (n:=3) (M:=2 ^ 32) (fun i hi=>hb.z i oo_) (fun k=>Nat.le_of_lt (hb.b k));have pb:=RQ hD (n:=2) (M:=2 ^ 34) (fun i hi=>hd.z i oo_) (fun k=>Nat.le_of_lt (hd.b k));have hα:=vV h;have hβ:=vV hD;obtain ⟨g,F,n,eρ,eF,hG,g0,gz,gB,gC,FC,hF,_⟩:=f0_ dm_ (ds:=0) (S:=1) dd_ (fun i hi=>if_neg oo_) (fun k=>by unfold one;split<;>decide) h h0 hD pa pb he_ (hα.cast fun k=>(JA (fun k=>(c k).fdiv (cN p)) k).symm) (hβ.cast fun k=>(JA (fun k=>(dI c k).fdiv (cN (aE p))) k).symm)
 have hF':∀ k,(c k).fdiv (cN p)=conv g F k:=fun k=>by rw [← hF k,JA]
 obtain ⟨m,m1,m2⟩:=(KG eF).resolve_left (FF FC)
 have gn:g n≠0:=by omega
 have hnm:n+m≤3:=by
  rcases Nat.lt_or_ge 3 (n+m) with k|k
  ·exfalso
   have e1:=hF' (n+m);rw [pL gz m2,hb.z _ oo_,Int.zero_fdiv] at e1;exact (Int.mul_ne_zero gn m1) e1.symm
  exact k
 obtain ⟨f1,f2⟩:=fh_ (A:=2 ^ 32) pa.b hF' hnm gn gz m1 m2
 have hA:∀ i,(F i).natAbs≤2 ^ 98:=fun i=>by
  rcases f2 with ⟨_,f⟩|⟨_,f⟩
  ·exact Nat.le_trans (f i) (Nat.le_of_lt eh_)
  exact Nat.le_trans (f i) dd_
 have hl:(aX p (aE p)).length=n+1:=hG.len_top gn gz
 obtain ⟨e,he,hP,_⟩:=Y7 hG hl g0 (A:=2 ^ 98) (B:=(0+1)*(1*2 ^ 103)) hA gB (by
  have:n+1≤4:=by omega
  refine Nat.lt_of_le_of_lt (Nat.mul_le_mul_right _ this) dd_) hα hF' m1 m2
 have ab:∀ k,(e*F k).natAbs=(F k).natAbs:=fun k=>by
  rcases he with rfl|rfl
  ·rw [Int.one_mul]
  rw [Int.neg_one_mul,Int.natAbs_neg]
 refine ⟨_,m,hP,?_,fun i hi=>by rw [m2 i hi,Int.mul_zero],by omega,by rw [ab];exact f1,?_⟩
 ·rcases he with rfl|rfl
  ·rw [Int.one_mul];exact m1
  rw [Int.neg_one_mul];omega
 rcases f2 with ⟨hm,f⟩|⟨hm,f⟩
 ·exact .inl ⟨hm,fun k=>by rw [ab];exact Nat.lt_of_le_of_lt (f k) eh_⟩
 exact .inr ⟨hm,fun k=>by rw [ab];exact f k⟩
def DO (s:Nat) (x:List I):Prop:=∃ c n b,Po x c∧Bd c n b∧n≤4∧b+s*n+3≤512
def okS (s:Nat):Nat→Nat→Nat→Nat→Nat→Bool
 | 0,_,_,_,_=>false
 | f+1,n0,n1,b0,b1=>(List.range (n1+1)).all fun n =>
  decide (n≤3)&&decide (((if n=0 then 1 else b1)+1)*(n0+1 - n)+b0+1≤512)&&decide ((if n=0 then 1 else b1)+s*(n+1)+3≤512)&&(decide (n=0)||okS s f n (n - 1) (if n=0 then 1 else b1) (((if n=0 then 1 else b1)+1)*(n0+1 - n)+b0+1))
theorem fL_ {s f n0 n1 b0 b1 n:Nat} (h:okS s (f+1) n0 n1 b0 b1=true) (hn:n≤n1):n≤3∧((if n=0 then 1 else b1)+1)*(n0+1 - n)+b0+1≤512∧(if n=0 then 1 else b1)+s*(n+1)+3≤512∧(n=0∨okS s f n (n - 1) (if n=0 then 1 else b1) (((if n=0 then 1 else b1)+1)*(n0+1 - n)+b0+1)=true):=by
 unfold okS at h;rw [List.all_eq_true] at h;have h4:=h n (List.mem_range.2 oo_);rw [Bool.and_eq_true,Bool.and_eq_true,Bool.and_eq_true,Bool.or_eq_true] at h4;obtain ⟨⟨⟨h5,h6⟩,h7⟩,h8⟩:=h4;exact ⟨of_decide_eq_true h5,of_decide_eq_true h6,of_decide_eq_true h7,h8.imp of_decide_eq_true id⟩
theorem g5_ {x k:Nat} (m:Nat) (hm:4294967296 ^ 16=2 ^ m) (h:x<2 ^ k) (hk:k≤m):x<4294967296 ^ 16:=by
 rw [hm];exact Nat.lt_of_lt_of_le h (Nat.pow_le_pow_right dd_ hk)
theorem b0_ {a b:List I} {α β:Nat→Int} {n0 n b0 b1:Nat} (ha:Po a α) (hb:Po b β) (za:∀ i,n0<i→α i=0) (ba:∀ k,(α k).natAbs<2 ^ b0) (tb:β n≠0) (zb:∀ i,n<i→β i=0) (bb:∀ k,(β k).natAbs<2 ^ b1) (hk:(b1+1)*(n0+1 - n)+b0+1≤512) :
  ∃ γ:Nat→Int,Po (aC (cE (bN a b) (E (Z.of (-1))))) γ∧(∀ k,(γ k).natAbs<2 ^ ((b1+1)*(n0+1 - n)+b0+1))∧(∀ i,n≤i→γ i=0)∧(aC (cE (bN a b) (E (Z.of (-1))))≠[]→Cop γ):=by
 have hl:b.length=n+1:=hb.len_top tb zb;have hal:a.length≤n0+1:=ha.short fun k hk=>za k oo_
 have o1:((β n).sign).natAbs≤1:=by
  have:=ER (β n);omega
 have B1:1≤2 ^ b1:=Nat.one_le_two_pow
 have an:((β n).natAbs:Int).natAbs≤2 ^ b1:=by rw [Int.natAbs_natCast];exact Nat.le_of_lt (bb n)
 have hm:a.length - n≤n0+1 - n:=by omega
 have e1:(2*2 ^ b1) ^ (a.length - n)*2 ^ b0≤2 ^ ((b1+1)*(n0+1 - n)+b0):=by
  rw [show 2*2 ^ b1=2 ^ (b1+1) by rw [Nat.pow_succ,Nat.mul_comm],← Nat.pow_mul,← Nat.pow_add];refine Nat.pow_le_pow_right dd_ ?_;have:=Nat.mul_le_mul_left (b1+1) hm;omega
 have e2:2 ^ ((b1+1)*(n0+1 - n)+b0)<2 ^ ((b1+1)*(n0+1 - n)+b0+1):=Nat.pow_lt_pow_right dd_ (Nat.lt_succ_self _);have hB:=NJ (n:=n) B1 an o1 (fun k=>Nat.le_of_lt (bb k)) (a.length - n) (2 ^ b0) α (fun k=>Nat.le_of_lt (ba k)) (g5_ 512 PO (Nat.lt_of_le_of_lt e1 e2) hk);have hr:=ZD ha hb hl hB;have hrl:=O1 (n:=n) an o1 (fun k=>Nat.le_of_lt (bb k)) (a.length - n) (2 ^ b0) α (fun k=>Nat.le_of_lt (ba k));have hrz:=F3 (a:=((β n).natAbs:Int)) (o:=(β n).sign) (d:=β) (n:=n) (JR _) zb (a.length - n) α (fun k hk=>ha.zero oo_)
 have hs:Po (cE (bN a b) (E (Z.of (-1)))) _:=PY hr dd_ (fun k=>by
  have:=hr.B k;unfold dR at *;rwa [Int.mul_neg_one,Int.natAbs_neg])
 obtain ⟨γ,t,t0,tp,hγ,e4,hc⟩:=wO hs;refine ⟨γ,hγ,fun k=>?_,fun i hi=>?_,hc⟩
 ·have h1:(t*γ k).natAbs<2 ^ ((b1+1)*(n0+1 - n)+b0+1):=by
   rw [← e4 k,Int.mul_neg_one,Int.natAbs_neg];have:=hrl k;omega
  rw [Int.natAbs_mul] at h1;exact Nat.lt_of_le_of_lt (Nat.le_mul_of_pos_left _ oo_) h1
 have h1:=e4 i;rw [hrz i hi,Int.zero_mul] at h1;rcases Int.mul_eq_zero.1 h1.symm with k|k
 ·exact absurd k t0
 exact k
theorem SG {s:Nat} (p:List I):∀ (f n0 n1 b0 b1 k:Nat) (pre:List (List I)) (last next:List I) (α β:Nat→Int),okS s f n0 n1 b0 b1=true→Po last α→Po next β→(∀ i,n0<i→α i=0)→(∀ k,(α k).natAbs<2 ^ b0) →
  (∀ i,n1<i→β i=0)→(∀ k,(β k).natAbs<2 ^ b1)→(next≠[]→Cop β)→gmP next<k→∃ s':List (List I)×List I,cF p k (pre++[last]) next = .inl s'∧∀ x∈s'.1,x∈pre++[last]∨DO s x
 | 0,_,_,_,_,_,_,_,_,_,_,h,_,_,_,_,_,_,_,_=>absurd h (by unfold okS;decide)
 | f+1,n0,n1,b0,b1,0,_,_,_,_,_,_,_,_,_,_,_,_,_,hk=>absurd hk (Nat.not_lt_zero _)
 | f+1,n0,n1,b0,b1,k+1,pre,last,next,α,β,h,ha,hb,za,ba,zb,bb,hC,hk=>by
  unfold cF
  by_cases h0:next=[]
  ·subst h0
   exact ⟨_,rfl,fun x hx=>.inl hx⟩
  have hl:0<next.length:=List.length_pos_iff.2 h0
  rw [decide_eq_true (show 0<(next.length:Int) by omega),cond_true,IM,wC];obtain ⟨n,n1',n2,n3⟩:=hb.top h0
  have hn:n≤n1:=by
   rcases Nat.lt_or_ge n1 n with q|q
   ·exact absurd (zb n q) n2
   exact q
  obtain ⟨w1,w2,w3,w4⟩:=fL_ h hn
  have bb':∀ k,(β k).natAbs<2 ^ (if n=0 then 1 else b1):=fun k=>by
   by_cases hn0:n=0
   ·rw [if_pos hn0]
    subst hn0;have:=FE (hC h0) n3
    by_cases hk0:k=0
    ·subst hk0;omega
    rw [n3 k oo_];decide
   rw [if_neg hn0];exact bb k
  obtain ⟨γ,g1,g2,g3,g4⟩:=b0_ ha hb za ba n2 n3 bb' w2;rw [g1.nb,cond_false]
  have hT:DO s next:=⟨β,n+1,_,hb,⟨fun k hk=>n3 k oo_,bb'⟩,by omega,w3⟩
  have lift:∀ {s':List (List I)×List I},(∀ x∈s'.1,x∈(pre++[last])++[next]∨DO s x)→∀ x∈s'.1,x∈pre++[last]∨DO s x:=fun hx x hm=>by
   rcases hx x hm with q|q
   ·rcases List.mem_append.1 q with q|q
    ·exact .inl q
    rw [List.mem_singleton.1 q];exact .inr hT
   exact .inr q
  have hgm:gmP (aC (cE (bN last next) (E (Z.of (-1)))))<gmP next:=by
   have h1:=(HQ (n:=E (Z.of (-1))) (a:=last) hb.l g1.g).2;unfold gmP;rw [g1.g,hb.g,cond_true,cond_true];omega
  rcases w4 with w4|w4
  ·have hnil:aC (cE (bN last next) (E (Z.of (-1))))=[]:=g1.nil fun k=>g3 k oo_
   rw [hnil];obtain ⟨k,rfl⟩:∃ j,k=j+1:=⟨k - 1,by omega⟩;refine ⟨((pre++[last])++[next],[]),by unfold cF;rfl,lift fun x hx=>.inl hx⟩
  obtain ⟨s',e,hs'⟩:=SG p f n (n - 1) _ _ k (pre++[last]) next _ β γ w4 hb g1 n3 bb' (fun i hi=>g3 i oo_) g2 g4 oo_
  exact ⟨s',e,lift hs'⟩
theorem iq_:okS 119 4 3 2 33 35=true:=by kernel_rfl
theorem ip_:okS 119 4 2 1 98 100=true:=by kernel_rfl
theorem SJ {p:List I} {c:Nat→Int} (h:Po p c) (hb:Bd c 4 32) (h0:p≠[]):(aL p).2=true∧(∃ F m,Po (bD p) F∧Fs F m)∧∀ x∈(aL p).1,DO 119 x:=by
 obtain ⟨F,m,hF,fs⟩:=S2 h hb h0;have hne:bD p≠[]:=fun e=>fs.top (hF.zero (by rw [e];exact Nat.zero_le _))
 have key:∀ {n0 b0:Nat},n0≤3→(∀ i,n0<i→F i=0)→(∀ k,(F k).natAbs<2 ^ b0)→b0+2≤512→okS 119 4 n0 (n0 - 1) b0 (b0+2)=true→b0+119*(n0+1)+3≤512→(aL p).2=true∧∀ x∈(aL p).1,DO 119 x:=fun {n0 b0} hn zF bF hb2 hok hTm=>by
  have bd:Bd F (n0+1) b0:=⟨fun k hk=>zF k oo_,bF⟩;have hd:=d3_ bd oo_;have hD:Po (aE (bD p)) (dI F):=LM hF fun k=>CT (hd.b k) hb2;obtain ⟨γ,t,t0,tp,hγ,e1,hc⟩:=wO hD
  have gz:∀ i,n0 - 1<i→γ i=0:=fun i hi=>by
   have h1:=e1 i;rw [hd.z i oo_] at h1;rcases Int.mul_eq_zero.1 h1.symm with k|k
   ·exact absurd k t0
   exact k
  have gb:∀ k,(γ k).natAbs<2 ^ (b0+2):=fun k=>by
   have h1:=hd.b k;rw [e1 k,Int.natAbs_mul] at h1;exact Nat.lt_of_le_of_lt (Nat.le_mul_of_pos_left _ oo_) h1
  obtain ⟨s',e,hs'⟩:=SG (s:=119) p 4 n0 (n0 - 1) b0 (b0+2) (gmP (aC (aE (bD p)))+1) [] (bD p) _ F γ hok hF hγ zF bF gz gb hc (Nat.lt_succ_self _);have hT:DO 119 (bD p):=⟨F,n0+1,b0,hF,bd,by omega,hTm⟩
  have hall:∀ x∈s'.1,DO 119 x:=fun x hx=>by
   rcases hs' x hx with q|q
   ·rw [List.mem_singleton.1 q];exact hT
   exact q
  rw [List.nil_append] at e;unfold aL;rw [e]
  show (sm (fun (_:Unit)=>(s'.1,true)) (fun r=>r) (dN p s'.1 s'.2 s'.1)).2=true∧∀ x∈(sm (fun (_:Unit)=>(s'.1,true)) (fun r=>r) (dN p s'.1 s'.2 s'.1)).1,DO 119 x
  rw [I1 p s'.1 s'.2 s'.1 fun x hx=>by obtain ⟨c,_,_,hc,_⟩:=hall x hx;exact hc.nb];exact ⟨rfl,hall⟩
 have res:(aL p).2=true∧∀ x∈(aL p).1,DO 119 x:=by
  rcases fs.b with ⟨hm,hB⟩|⟨hm,hB⟩
  ·subst hm
   exact key (n0:=2) (b0:=98) dd_ fs.z hB dd_ ip_ dd_
  have:=fs.m3;exact key (n0:=3) (b0:=33) dd_ (fun i hi=>fs.z i oo_) (fun k=>Nat.lt_of_le_of_lt (hB k) dd_) dd_ iq_ dd_
 exact ⟨res.1,⟨F,m,hF,fs⟩,res.2⟩
end Go.Num
