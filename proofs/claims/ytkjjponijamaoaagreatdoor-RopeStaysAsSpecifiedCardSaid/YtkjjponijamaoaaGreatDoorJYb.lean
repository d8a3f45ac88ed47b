/- Lemmas: what they ask stands in their statements. -/
import Derived.Test.YtkjjponijamaoaaGreatDoorJYa
set_option linter.unusedSimpArgs false
set_option linter.unusedVariables false
set_option maxHeartbeats 8000000
set_option maxRecDepth 20000
namespace Go.Proofs.YtkjjponijamaoaaGreatDoor
open Go.Kn Go.Num Tryz
attribute [local irreducible] Go.Kn.W WL PL OpQ OpR OpS
theorem GO (k:Nat) (c0 T0:Nat) (p_l:Option Addr) (c_l:Nat) (l:(List I)) (w:World) (hc0:w.heap[c0]? = some (.cells (cF [csl p_l l.length c_l]).toArray T0 (0,0))) (hl:Slr w elI (.slice p_l l.length c_l) l) (hpre:k<l.length) :
  Calls prog 283 [.int .i64 (k:Int),.pointer (some ⟨c0,0,none⟩)].toArray w (fun e w'=>e = .returned (AV [pI (rS k l)])∧Ext w w'):=by
 refine cM (N:=8) func283 O O zz_ ?_;obtain ⟨w0,rfl⟩:=nm w;have Hl:=hl.old;have hm_l:=hl.max;refine giI ?_;refine go2 ?_;intro b1 hb1;refine go2 ?_;refine sQ (mE (v:=.slice p_l l.length c_l) tyT O hc0 zz_ O) O ?_;refine go_ ?_;refine sQ (aY (v':=.pointer (some (slb (.slice p_l l.length c_l) (k*18+0)))) (kJ (e:=elI) (l:=l) (k:=k) nX O O (SLe.sub Hl sn) o2_) O) O ?_;refine sQ (kW (e:=elI) (l:=l) (k:=k) (o:=0) tyT O (SLe.sub Hl sn) (dS I0 o2_) O) O ?_;refine go3 ?_;refine rtX O (dP O m0 tyT O) ?_;exact (by rfl)
theorem DB (vl:Value) (l:(List I)) (w:World) (hl:Slr w elI vl l) (hpre:l.length≤200) :
  Calls prog 282 [vl].toArray w (fun e w'=>∃ v,e = .returned (v)∧Ext w w'∧Slo w.heap.size w' 31 elI v (gR l)):=by
 obtain ⟨p_l,c_l,rfl⟩:=hl.form;refine dD (n:=7) (fun v=>v) func282 O O zz_ ?_;obtain ⟨w0,rfl⟩:=nm w;have Hl:=hl.old;have hm_l:=hl.max;refine giI ?_;refine go2 ?_;intro b1 hb1;refine go4 ?_;refine sQ (dW nX O (SLe.sub Hl sn)) O (sQ (yZ O O) O (aZ O (aN (E:=31) (e:=elI) (l:=(jQ (l.length:Int) (fun (y:Nat)=>(rS y l)) (fun (y:I)=>(k9 y)))) (fun v=>v) aB O (fun w hw=>xL (l.length:Int) _ (fun (y:Nat)=>(rS y l)) _ (fun (y:I)=>(k9 y)) w (FnV.mk hw aB (fun w hw x hx=>GO x _ _ _ _ l w (hw.mem _ m0) (aR hw Hl sn) (Int.ofNat_lt.1 hx))) (FnV.mk hw aB (fun w hw x hx=>(yX x) w)) oo_) (fun p2 c3 L4 hF5=>go3 ?_))));refine rt1 ?_
 have hE:((jQ (l.length:Int) (fun (y:Nat)=>(rS y l)) (fun (y:I)=>(k9 y))):(List I))=(gR l):=by exact rfl
 rw [← hE];exact ⟨_,rfl,⟨L4,lZ,hF5⟩⟩
theorem JP (k:Nat) (c0 T0:Nat) (p_l:Option Addr) (c_l:Nat) (l:(List W)) (w:World) (hc0:w.heap[c0]? = some (.cells (cF [csl p_l l.length c_l]).toArray T0 (0,0))) (hl:Slr w elW (.slice p_l l.length c_l) l) (hpre:k<l.length) :
  Calls prog 239 [.int .i64 (k:Int),.pointer (some ⟨c0,0,none⟩)].toArray w (fun e w'=>e = .returned (.int .i64 ((wJ k l).1))∧Ext w w'):=by
 refine cM (N:=8) func239 O O zz_ ?_;obtain ⟨w0,rfl⟩:=nm w;have Hl:=hl.old;have hm_l:=hl.max;refine giI ?_;refine go4 ?_;refine sQ (mE (v:=.slice p_l l.length c_l) tyT O hc0 zz_ O) O ?_;refine go_ ?_;refine sQ (aY (v':=.pointer (some (slb (.slice p_l l.length c_l) (k*1+0)))) (kJ (e:=elW) (l:=l) (k:=k) iV O O (SLe.sub Hl sn) o2_) O) O ?_;refine sQ (IO (u:=.int .i64 ((l.getD k W.z).1)) (e:=elW) (l:=l) (k:=k) (o:=0) tyT O (SLe.sub Hl sn) (dS W.z o2_) O) O ?_;refine go3 ?_;refine rt1 ?_;exact (by rfl)
theorem oH (vl:Value) (l:(List W)) (w:World) (hl:Slr w elW vl l) (hpre:l.length≤200) :
  Calls prog 178 [vl].toArray w (fun e w'=>∃ v,e = .returned (v)∧Ext w w'∧Slo w.heap.size w' 31 elI v (cX l)):=by
 obtain ⟨p_l,c_l,rfl⟩:=hl.form;refine dD (n:=7) (fun v=>v) func178 O O zz_ ?_;obtain ⟨w0,rfl⟩:=nm w;have Hl:=hl.old;have hm_l:=hl.max;refine giI ?_;refine go2 ?_;intro b1 hb1;refine go4 ?_;refine sQ (dW iV O (SLe.sub Hl sn)) O (sQ (yZ O O) O (aZ O (aN (E:=31) (e:=elI) (l:=(nY (l.length:Int) (fun (y:Nat)=>(wJ y l)) (fun (y:Go.Num.W)=>(E (Z.of y.1))))) (fun v=>v) aB O (fun w hw=>GP (l.length:Int) _ (fun (y:Nat)=>(wJ y l)) _ (fun (y:Go.Num.W)=>(E (Z.of y.1))) w (FnV.mk hw aB (fun w hw x hx=>JP x _ _ _ _ l w (hw.mem _ m0) (aR hw Hl sn) (Int.ofNat_lt.1 hx))) (FnV.mk hw aB (fun w hw x hx=>(cU x.1 x.2) w)) oo_) (fun p2 c3 L4 hF5=>go3 ?_))));refine rt1 ?_
 have hE:((nY (l.length:Int) (fun (y:Nat)=>(wJ y l)) (fun (y:Go.Num.W)=>(E (Z.of y.1)))):(List I))=(cX l):=by exact rfl
 rw [← hE];exact ⟨_,rfl,⟨L4,lZ,hF5⟩⟩
theorem B9 (vp:Value) (p:(List I)) (k:Int) (w:World) (hp:Slr w elI vp p) :
    Calls prog 241 [vp,.int .i64 k].toArray w (fun e w'=>e = .returned (AV [pI (kF p k)])∧Ext w w'):=by
 obtain ⟨p_p,c_p,rfl⟩:=hp.form;refine cM (N:=18) func241 O O zz_ ?_;obtain ⟨w0,rfl⟩:=nm w;have Hp:=hp.old;have hm_p:=hp.max;refine giI ?_;refine go2 ?_;intro b1 hb1;refine go2 ?_;refine gJv (rg [] 5 8) [(12,.bool (decide (k<0)||decide ((p.length:Int)≤k)))] (fun K2 J2=>?_) ?_
 ·refine go3 ?_;refine sBB O (fun h3=>?_) (fun h3=>?_)
  ·have ph3:=of_decide_eq_true h3;refine go6 ?_;refine J2 _ _ pp_ s0 (bH (mJ h3))
  have ph3:=of_decide_eq_false h3;refine go2 ?_;refine sQ (dW jB O (SLe.sub Hp sn)) O (go3 ?_);refine J2 _ _ pp_ s0 (bH (kC h3 O))
 intro g4;refine aH _ O (fun h5=>?_) (fun h5=>?_)
 ·refine go5 ?_;refine rtX O (dP O m0 tyT O) ?_;exact congrArg vS4 (show _=(kF p k) from aX h5 O)
 have ph6:=of_decide_eq_false (Bool.or_eq_false_iff.1 h5).1;have ph7:=of_decide_eq_false (Bool.or_eq_false_iff.1 h5).2;refine go4 ?_;refine sQ (aY (v':=.pointer (some (slb (.slice p_p p.length c_p) ((k.toNat)*18+0)))) (sK (e:=elI) (l:=p) (k:=(k).toNat) jB O O oo_ (SLe.sub Hp sn) o2_) O) O ?_;refine sQ (kW (e:=elI) (l:=p) (k:=(k).toNat) (o:=0) tyT O (SLe.sub Hp sn) (dS I0 o2_) O) O ?_;refine go3 ?_;refine rtX O (dP O m0 tyT O) ?_;exact congrArg vS4 (show _=(kF p k) from aJ h5 O)
theorem GQ (k:Nat) (c0 T0:Nat) (g_f:Nat) (c_f:List Value) (f:I→I→I) (c1 T1:Nat) (p_p:Option Addr) (c_p:Nat) (p:(List I)) (c2 T2:Nat) (p_q:Option Addr) (c_q:Nat) (q:(List I)) (w:World) (hc0:w.heap[c0]? = some (.cells (cF [cfn g_f c_f]).toArray T0 (0,0))) (hc1:w.heap[c1]? = some (.cells (cF [csl p_p p.length c_p]).toArray T1 (0,0))) (hc2:w.heap[c2]? = some (.cells (cF [csl p_q q.length c_q]).toArray T2 (0,0))) (hf:FnV prog w (.func (.func g_f) #[] c_f.toArray) eII (fun _=>True) (XH (fun x:I×I=>f x.1 x.2))) (hp:Slr w elI (.slice p_p p.length c_p) p) (hq:Slr w elI (.slice p_q q.length c_q) q) :
  Calls prog 240 [.int .i64 (k:Int),.pointer (some ⟨c0,0,none⟩),.pointer (some ⟨c1,0,none⟩),.pointer (some ⟨c2,0,none⟩)].toArray w (fun e w'=>e = .returned (AV [pI (rT k f p q)])∧Ext w w'):=by
 refine cM (N:=14) func240 O O zz_ ?_;obtain ⟨w0,rfl⟩:=nm w;have Hf:=hf.get;have Hp:=hp.old;have hm_p:=hp.max;have Hq:=hq.old;have hm_q:=hq.max;refine giI ?_;refine go2 ?_;intro b1 hb1;refine go_ ?_;refine qM sn 9 [8] [8] (pQ O (mE (v:=.func (.func g_f) #[] c_f.toArray) tyT O hc0 zz_ O) ?_);refine pQ O (mE (v:=.slice p_p p.length c_p) tyT O hc1 zz_ O) ?_;refine go_ ?_;refine pQ O (aY (v':=AV [pI (kF p (k:Int))]) (dF aB O (c1_ (B9 _ p (k:Int)) Hp sn)) O) (pQ O (mE (v:=.slice p_q q.length c_q) tyT O hc2 zz_ O) ?_);refine go_ ?_;refine pQ O (aY (v':=AV [pI (kF q (k:Int))]) (dF aB O (c1_ (B9 _ q (k:Int)) Hq sn)) O) (pQ O (aY (v':=AV [pI (f (kF p (k:Int)) (kF q (k:Int)))]) (PH (x:=((kF p (k:Int)),(kF q (k:Int)))) O O (FnE.sub Hf sn) trivial) O) (go3 ?_));refine rtX O (dP O m0 tyT O) ?_;exact (by rfl)
theorem wE (vp:Value) (p:(List I)) (vq:Value) (q:(List I)) (vf:Value) (f:I→I→I) (w:World) (hp:Slr w elI vp p) (hq:Slr w elI vq q) (hf:FnV prog w vf eII (fun _=>True) (XH (fun x:I×I=>f x.1 x.2))) (hpre:p.length≤100∧q.length≤100) :
    Calls prog 179 [vp,vq,vf].toArray w (fun e w'=>∃ v,e = .returned (v)∧Ext w w'∧Slo w.heap.size w' 31 elI v (jG p q f)):=by
 obtain ⟨p_p,c_p,rfl⟩:=hp.form;obtain ⟨p_q,c_q,rfl⟩:=hq.form;obtain ⟨g_f,c_f,rfl,Hf⟩:=hf.open;refine dD (n:=21) (fun v=>v) func179 O O zz_ ?_;obtain ⟨w0,rfl⟩:=nm w;have Hp:=hp.old;have hm_p:=hp.max;have Hq:=hq.old;have hm_q:=hq.max;refine giI ?_;refine go2 ?_;intro b1 hb1;refine go_ ?_;intro b2 hb2;refine sX [cfn g_f c_f] O O O fun b3 hb3=>go3 ?_;refine gJv [7,8,9,10,11,12] [(12,.bool ((dC p)||(dC q)))] (fun K2 J2=>?_) ?_
 ·refine go2 ?_;refine sFc (.bool (dC p)) O (c1_ (nG _ p) Hp sn) O O ?_;refine sBB O (fun h5=>?_) (fun h5=>?_)
  ·refine go4 ?_;refine J2 _ _ pp_ s0 (bH (mJ h5))
  refine go_ ?_;refine sFc (.bool (dC q)) O (c1_ (nG _ q) Hq sn) O O (go2 ?_);refine J2 _ _ pp_ s0 (bH (kC h5 O))
 intro g6;refine aH _ O (fun h7=>?_) (fun h7=>?_)
 ·refine go_ ?_;refine aZ O (aN (E:=31) (e:=elI) (l:=F_poly_bad) (fun v=>v) aB O (fun w hw=>pZ  w) (fun p8 c9 L10 hF11=>go3 ?_));refine rt1 ?_
  have hE:(F_poly_bad:(List I))=(jG p q f):=by exact aX h7 O
  rw [← hE];exact ⟨_,rfl,⟨L10,lZ,hF11⟩⟩
 refine go3 ?_;refine sQ (dW jB O (SLe.sub Hp sn)) O (go_ ?_);refine sQ (dW jB O (SLe.sub Hq sn)) O (sQ (aY (v':=.int .i64 (((max (p.length) (q.length)):Nat):Int)) (rV O O) (congrArg (Value.int .i64) oo_)) O (sQ (yZ O O) O (aZ O (aN (E:=31) (e:=elI) (l:=(jQ (((max (p.length) (q.length)):Nat):Int) (fun (y:Nat)=>(rT y f p q)) (fun (y:I)=>(k9 y)))) (fun v=>v) aB O (fun w hw=>xL (((max (p.length) (q.length)):Nat):Int) _ (fun (y:Nat)=>(rT y f p q)) _ (fun (y:I)=>(k9 y)) w (FnV.mk hw aB (fun w hw x hx=>GQ x _ _ _ _ f _ _ _ _ p _ _ _ _ q w (hw.mem _ m0) (hw.mem _ m2) (hw.mem _ m1) (FnE.ap hw (FnE.sub Hf sn)) (aR hw Hp sn) (aR hw Hq sn))) (FnV.mk hw aB (fun w hw x hx=>(yX x) w)) oo_) (fun p12 c13 L14 hF15=>go3 ?_)))));refine rt1 ?_
 have hE:((jQ (((max (p.length) (q.length)):Nat):Int) (fun (y:Nat)=>(rT y f p q)) (fun (y:I)=>(k9 y))):(List I))=(jG p q f):=by exact aJ h7 O
 rw [← hE];exact ⟨_,rfl,⟨L14,lZ,hF15⟩⟩
theorem i5 (vp:Value) (p:(List I)) (vq:Value) (q:(List I)) (w:World) (hp:Slr w elI vp p) (hq:Slr w elI vq q) (hpre:p.length≤100∧q.length≤100) :
  Calls prog 104 [vp,vq].toArray w (fun e w'=>∃ v,e = .returned (v)∧Ext w w'∧Slo w.heap.size w' 31 elI v (bC p q)):=by
 obtain ⟨p_p,c_p,rfl⟩:=hp.form;obtain ⟨p_q,c_q,rfl⟩:=hq.form;refine dD (n:=8) (fun v=>v) func104 O O zz_ ?_;obtain ⟨w0,rfl⟩:=nm w;have Hp:=hp.old;have hm_p:=hp.max;have Hq:=hq.old;have hm_q:=hq.max;refine giI ?_;refine go6 ?_;refine aZ O (aN (E:=31) (e:=elI) (l:=(jG p q (fun (y:I) (z:I)=>(E (Z.add y.dec z.dec))))) (fun v=>v) aB O (fun w hw=>wE _ p _ q _ (fun (y:I) (z:I)=>(E (Z.add y.dec z.dec))) w (aR hw Hp sn) (aR hw Hq sn) (FnV.mk hw aB (fun w hw x hx=>(mY x.1.1 x.2.1 x.1.2 x.2.2) w)) oo_) (fun p1 c2 L3 hF4=>go3 ?_));refine rt1 ?_
 have hE:((jG p q (fun (y:I) (z:I)=>(E (Z.add y.dec z.dec)))):(List I))=(bC p q):=by exact rfl
 rw [← hE];exact ⟨_,rfl,⟨L3,lZ,hF4⟩⟩
theorem uS (vp:Value) (p:(List I)) (vq:Value) (q:(List I)) (w:World) (hp:Slr w elI vp p) (hq:Slr w elI vq q) (hpre:p.length≤100∧q.length≤100) :
  Calls prog 101 [vp,vq].toArray w (fun e w'=>∃ v,e = .returned (v)∧Ext w w'∧Slo w.heap.size w' 31 elI v (jM p q)):=by
 obtain ⟨p_p,c_p,rfl⟩:=hp.form;obtain ⟨p_q,c_q,rfl⟩:=hq.form;refine dD (n:=8) (fun v=>v) func101 O O zz_ ?_;obtain ⟨w0,rfl⟩:=nm w;have Hp:=hp.old;have hm_p:=hp.max;have Hq:=hq.old;have hm_q:=hq.max;refine giI ?_;refine go6 ?_;refine aZ O (aN (E:=31) (e:=elI) (l:=(jG p q (fun (y:I) (z:I)=>(E (Z.sub y.dec z.dec))))) (fun v=>v) aB O (fun w hw=>wE _ p _ q _ (fun (y:I) (z:I)=>(E (Z.sub y.dec z.dec))) w (aR hw Hp sn) (aR hw Hq sn) (FnV.mk hw aB (fun w hw x hx=>(DJ x.1.1 x.2.1 x.1.2 x.2.2) w)) oo_) (fun p1 c2 L3 hF4=>go3 ?_));refine rt1 ?_
 have hE:((jG p q (fun (y:I) (z:I)=>(E (Z.sub y.dec z.dec)))):(List I))=(jM p q):=by exact rfl
 rw [← hE];exact ⟨_,rfl,⟨L3,lZ,hF4⟩⟩
theorem II (k:Nat) (c0 T0:Nat) (p_q:Option Addr) (c_q:Nat) (q:(List I)) (c1 T1:Nat) (p_p:Option Addr) (c_p:Nat) (p:(List I)) (w:World) (hc0:w.heap[c0]? = some (.cells (cF [csl p_q q.length c_q]).toArray T0 (0,0))) (hc1:w.heap[c1]? = some (.cells (cF [csl p_p p.length c_p]).toArray T1 (0,0))) (hq:Slr w elI (.slice p_q q.length c_q) q) (hp:Slr w elI (.slice p_p p.length c_p) p) (hpre:k<300∧p.length≤100∧q.length≤100) :
    Calls prog 185 [.int .i64 (k:Int),.pointer (some ⟨c0,0,none⟩),.pointer (some ⟨c1,0,none⟩)].toArray w (fun e w'=>e = .returned (AV [pI (nA k q p)])∧Ext w w'):=by
 refine cM (N:=36) func185 O O zz_ ?_;obtain ⟨w0,rfl⟩:=nm w;have Hq:=hq.old;have hm_q:=hq.max;have Hp:=hp.old;have hm_p:=hp.max;refine giI ?_;refine go2 ?_;intro b1 hb1;refine go3 ?_;intro b2 hb2;refine go4 ?_;refine sQ (mE (v:=.slice p_q q.length c_q) tyT O hc0 zz_ O) O ?_;refine sQ (dW jB O (SLe.sub Hq sn)) O (sWi ((k:Int) - (q.length:Int)) O (sWi (((k:Int) - (q.length:Int))+1) O (sQ (aY (v':=.int .i64 ((((k:Int) - (q.length:Int))+1).toNat:Int)) (rV O O) (congrArg (Value.int .i64) oo_)) O (go2 ?_))));refine gJ3 (rg [6] 13 22) (fun g M=>∃ (i:Nat) (mb2:I),(iM k q p (k+2) ((((k:Int) - (q.length:Int))+1).toNat) I0)=(i,mb2)∧(g 6 = .int .i64 (i:Int))∧M=[⟨b2,31,cF [pI mb2]⟩,⟨b1,31,cF [pI I0]⟩]) (fun K_u3 hK_u3=>?_) ?_
 ·refine go_ ?_;refine bX (rg [6] 13 22) (fun g nn M=>∃ (i:Nat) (mb2:I),(iM k q p nn i mb2)=(iM k q p (k+2) ((((k:Int) - (q.length:Int))+1).toNat) I0)∧k+1 - i<nn∧(k+1≤i+q.length)∧(g 6 = .int .i64 (i:Int))∧M=[⟨b2,31,cF [pI mb2]⟩,⟨b1,31,cF [pI I0]⟩]) (k+2) ?start ?round
  case start=>exact ⟨_,s0,(((k:Int) - (q.length:Int))+1).toNat,I0,rfl,o1_,o1_,rfl,rfl⟩
  case round =>
   rintro nn g M ⟨i,mb2,hT0,hq0,hinv0,hg6,rfl⟩;obtain ⟨k0,rfl⟩:∃ m,nn=m+1:=⟨nn - 1,by omega⟩;refine gS1 hg6 ?_;clear hg6;refine go4 ?_;refine sQ (mE (v:=.slice p_p p.length c_p) tyT O hc1 zz_ O) O ?_;refine sQ (dW jB O (SLe.sub Hp sn)) O (sWi ((p.length:Int) - 1) O (sQ (aY (v':=.int .i64 (min (k:Int) ((p.length:Int) - 1))) (XM O O) (congrArg (Value.int .i64) oo_)) O (go2 ?_)));refine aH _ O (fun h6=>?_) (fun h6=>?_)
   ·have ph6:=of_decide_eq_true h6;refine go3 ?_;refine kU (sd s0) 14 [13] [13] (go_ ?_);refine pQ O (mE (v:=.slice p_p p.length c_p) tyT O hc1 zz_ O) ?_;refine go_ ?_;refine pQ O (aY (v':=.pointer (some (slb (.slice p_p p.length c_p) (i*18+0)))) (kJ (e:=elI) (l:=p) (k:=i) jB O O (SLe.sub Hp sn) o2_) O) ?_;refine pQ O (kW (e:=elI) (l:=p) (k:=i) (o:=0) tyT O (SLe.sub Hp sn) (dS I0 o2_) O) ?_;refine pQ O (mE (v:=.slice p_q q.length c_q) tyT O hc0 zz_ O) ?_;refine go2 ?_;refine pV (.int .i64 ((k:Int) - (i:Int))) O wxo (pQ O (aY (v':=.pointer (some (slb (.slice p_q q.length c_q) ((k - i)*18+0)))) (sK (e:=elI) (l:=q) (k:=(k - i)) jB O O oo_ (SLe.sub Hq sn) o2_) O) ?_);refine pQ O (kW (e:=elI) (l:=q) (k:=(k - i)) (o:=0) tyT O (SLe.sub Hq sn) (dS I0 o2_) O) ?_;refine pC (AV [pI (E (Z.mul (p.getD i I0).dec (q.getD (k - i) I0).dec))]) aB (eL (p.getD i I0).1 (q.getD (k - i) I0).1 (p.getD i I0).2 (q.getD (k - i) I0).2) O O O (pC (AV [pI (E (Z.add mb2.dec (Z.mul (p.getD i I0).dec (q.getD (k - i) I0).dec)))]) aB (mY mb2.1 (E (Z.mul (p.getD i I0).dec (q.getD (k - i) I0).dec)).1 mb2.2 (E (Z.mul (p.getD i I0).dec (q.getD (k - i) I0).dec)).2) O O (cg2 (fun p q=>AV [pI (E (Z.add p q))]) O (eQ _)) (go4 ?_));refine sWi (((i+1):Nat):Int) O (go2 ?_);refine ⟨pp_,_,_,s0,(Nat.lt_succ_self _),(i+1),(E (Z.add mb2.dec (Z.mul (p.getD i I0).dec (q.getD (k - i) I0).dec))),(by exact (hT0.symm.trans (Eq.symm (aX h6 O))).symm),(Nat.lt_of_lt_of_le o1_ (Nat.le_of_lt_succ hq0)),o1_,rfl,rfl⟩
   have ph6:=of_decide_eq_false h6;refine go_ ?_;refine hK_u3 _ _ pp_ ⟨_,s0,i,mb2,(by exact hT0.symm.trans (Eq.symm (aJ h6 O))),rfl,rfl⟩
 rintro g M ⟨i,mb2,hCu3,hg6,rfl⟩;refine gS1 hg6 ?_;clear hg6;refine go5 ?_;refine rtX O (dP O m1 tyT O) ?_;exact congrArg vS4 (show _=(nA k q p) from (by unfold nA;exact trs (Eq.symm (apS hCu3)) O))
theorem kI (vp:Value) (p:(List I)) (vq:Value) (q:(List I)) (w:World) (hp:Slr w elI vp p) (hq:Slr w elI vq q) (hpre:p.length≤100∧q.length≤100) :
    Calls prog 105 [vp,vq].toArray w (fun e w'=>∃ v,e = .returned (v)∧Ext w w'∧Slo w.heap.size w' 31 elI v (aV p q)):=by
 obtain ⟨p_p,c_p,rfl⟩:=hp.form;obtain ⟨p_q,c_q,rfl⟩:=hq.form;refine dD (n:=28) (fun v=>v) func105 O O zz_ ?_;obtain ⟨w0,rfl⟩:=nm w;have Hp:=hp.old;have hm_p:=hp.max;have Hq:=hq.old;have hm_q:=hq.max;refine giI ?_;refine go2 ?_;intro b1 hb1;refine go_ ?_;intro b2 hb2;refine go3 ?_;refine gJv [5,6,7,8,9,10] [(10,.bool ((dC p)||(dC q)))] (fun K2 J2=>?_) ?_
 ·refine go2 ?_;refine sFc (.bool (dC p)) O (c1_ (nG _ p) Hp sn) O O ?_;refine sBB O (fun h4=>?_) (fun h4=>?_)
  ·refine go4 ?_;refine J2 _ _ pp_ s0 (bH (mJ h4))
  refine go_ ?_;refine sFc (.bool (dC q)) O (c1_ (nG _ q) Hq sn) O O (go2 ?_);refine J2 _ _ pp_ s0 (bH (kC h4 O))
 intro g5;refine aH _ O (fun h6=>?_) (fun h6=>?_)
 ·refine go_ ?_;refine aZ O (aN (E:=31) (e:=elI) (l:=F_poly_bad) (fun v=>v) aB O (fun w hw=>pZ  w) (fun p7 c8 L9 hF10=>go3 ?_));refine rt1 ?_
  have hE:(F_poly_bad:(List I))=(aV p q):=by exact aX h6 O
  rw [← hE];exact ⟨_,rfl,⟨L9,lZ,hF10⟩⟩
 refine go2 ?_;refine gJv (rg [] 12 8) [(19,.bool (((p.length:Int)==0)||((q.length:Int)==0)))] (fun K4 J4=>?_) ?_
 ·refine go2 ?_;refine sQ (dW jB O (SLe.sub Hp sn)) O (go_ ?_);refine sBB O (fun h12=>?_) (fun h12=>?_)
  ·have ph12:=E8 h12;refine go5 ?_;refine J4 _ _ pp_ s0 (bH (mJ h12))
  have ph12:=wO h12;refine go_ ?_;refine sQ (dW jB O (SLe.sub Hq sn)) O (go3 ?_);refine J4 _ _ pp_ s0 (bH (kC h12 O))
 intro g13;refine aH _ O (fun h14=>?_) (fun h14=>?_)
 ·refine go4 ?_;refine rt1 ?_
  have hE:(([]:List I):(List I))=(aV p q):=by exact aJ h6 (aX h14 O)
  rw [← hE];exact ⟨_,rfl,⟨[],sn,OwnG.nil⟩⟩
 have ph15:=wO (Bool.or_eq_false_iff.1 h14).1;have ph16:=wO (Bool.or_eq_false_iff.1 h14).2;refine go3 ?_;refine sQ (dW jB O (SLe.sub Hp sn)) O (go_ ?_);refine sQ (dW jB O (SLe.sub Hq sn)) O (sWi (((p.length+(q).length):Nat):Int) O (sWi ((((p.length+(q).length):Nat):Int) - 1) O (sQ (yZ O O) O (aZ O (aN (E:=31) (e:=elI) (l:=(jQ ((((p.length+(q).length):Nat):Int) - 1) (fun (y:Nat)=>(nA y q p)) (fun (y:I)=>(k9 y)))) (fun v=>v) aB O (fun w hw=>xL ((((p.length+(q).length):Nat):Int) - 1) _ (fun (y:Nat)=>(nA y q p)) _ (fun (y:I)=>(k9 y)) w (FnV.mk hw aB (fun w hw x hx=>II x _ _ _ _ q _ _ _ _ p w (hw.mem _ m0) (hw.mem _ m1) (aR hw Hq sn) (aR hw Hp sn) (by have hx':(x:Int)<_:=hx;omega))) (FnV.mk hw aB (fun w hw x hx=>(yX x) w)) oo_) (fun p17 c18 L19 hF20=>go3 ?_))))));refine rt1 ?_
 have hE:((jQ ((((p.length+(q).length):Nat):Int) - 1) (fun (y:Nat)=>(nA y q p)) (fun (y:I)=>(k9 y))):(List I))=(aV p q):=by exact aJ h6 (aJ h14 O)
 rw [← hE];exact ⟨_,rfl,⟨L19,lZ,hF20⟩⟩
theorem FK (a:I) (b:I) (c0 T0:Nat) (n:I) (w:World) (hc0:w.heap[c0]? = some (.cells (cF [pI n]).toArray T0 (0,0))) :
  Calls prog 182 [AV [pI a],AV [pI b],.pointer (some ⟨c0,0,none⟩)].toArray w (fun e w'=>e = .returned (AV [pI (qR a b n)])∧Ext w w'):=by
 refine cM (N:=9) func182 O O zz_ ?_;obtain ⟨w0,rfl⟩:=nm w;refine giI ?_;refine go2 ?_;intro b1 hb1;refine go_ ?_;intro b2 hb2;refine go_ ?_;intro b3 hb3;refine go3 ?_;refine sQ (PJ tyT O hc0 zz_ O) O ?_;refine sC (AV [pI (E (Z.mul a.dec n.dec))]) aB (eL a.1 n.1 a.2 n.2) O O O (go3 ?_);refine rtX O (dP O m0 tyT O) ?_;exact (by rfl)
theorem fF (vp:Value) (p:(List I)) (n:I) (w:World) (hp:Slr w elI vp p) (hpre:p.length≤100) :
   Calls prog 102 [vp,AV [pI n]].toArray w (fun e w'=>∃ v,e = .returned (v)∧Ext w w'∧Slo w.heap.size w' 31 elI v (bK p n)):=by
 obtain ⟨p_p,c_p,rfl⟩:=hp.form;refine dD (n:=12) (fun v=>v) func102 O O zz_ ?_;obtain ⟨w0,rfl⟩:=nm w;have Hp:=hp.old;have hm_p:=hp.max;refine giI ?_;refine go2 ?_;intro b1 hb1;refine go5 ?_;refine sQ (bE aB (wF n) O) O (go2 ?_);rcases bt (pS n) with h2|h2
 ·refine W_f (fZ h2) O (go3 ?_);refine sQ (yZ O O) O (aZ O (aN (E:=31) (e:=elI) (l:=(jG p ([]:List I) (fun (y:I) (z:I)=>(qR y z n)))) (fun v=>v) aB O (fun w hw=>wE _ p _ ([]:List I) _ (fun (y:I) (z:I)=>(qR y z n)) w (aR hw Hp sn) (SLe.ap hw (SLfe.sle SLfe.nil)) (FnV.mk hw aB (fun w hw x hx=>FK x.1 x.2 _ _ n w (hw.mem _ m0))) o3_) (fun p3 c4 L5 hF6=>?_)));refine go3 ?_;refine rt1 ?_
  have hE:((jG p ([]:List I) (fun (y:I) (z:I)=>(qR y z n))):(List I))=(bK p n):=by exact aX h2 O
  rw [← hE];exact ⟨_,rfl,⟨L5,lZ,hF6⟩⟩
 refine W_t (iX h2) O (go_ ?_);refine aZ O (aN (E:=31) (e:=elI) (l:=F_poly_bad) (fun v=>v) aB O (fun w hw=>pZ  w) (fun p7 c8 L9 hF10=>go3 ?_));refine rt1 ?_
 have hE:(F_poly_bad:(List I))=(bK p n):=by exact aJ h2 O
 rw [← hE];exact ⟨_,rfl,⟨L9,lZ,hF10⟩⟩
theorem zV (vl:Value) (l:(List I)) (w:World) (hl:Slr w elI vl l) :
    Calls prog 187 [vl].toArray w (fun e w'=>e = .returned (AV [pI (dH l)])∧Ext w w'):=by
 obtain ⟨p_l,c_l,rfl⟩:=hl.form;refine cM (N:=17) func187 O O zz_ ?_;obtain ⟨w0,rfl⟩:=nm w;have Hl:=hl.old;have hm_l:=hl.max;refine giI ?_;refine go2 ?_;intro b1 hb1;refine go3 ?_;intro b2 hb2;refine go4 ?_;refine sQ (dW nX O (SLe.sub Hl sn)) O (go2 ?_);refine gJ3 (rg [5] 8 8) (fun g M=>∃ (mb2:I),(mL l l I0)=mb2∧(True)∧M=[⟨b2,31,cF [pI mb2]⟩,⟨b1,31,cF [pI I0]⟩]) (fun K_u3 hK_u3=>?_) ?_
 ·refine go_ ?_;have hmx0:(l).length≤9223372036854775807:=hm_l;refine bX (rg [5] 8 8) (fun g nn M=>∃ (i0:Nat) (l0:List I) (mb2:I),(mL l l0 mb2)=(mL l l I0)∧(l).drop i0=l0∧l0.length=nn∧g 8 = .int .i64 (i0:Int)∧(True)∧M=[⟨b2,31,cF [pI mb2]⟩,⟨b1,31,cF [pI I0]⟩]) l.length ?start ?round
  case start=>exact ⟨_,s0,0,l,I0,rfl,rfl,rfl,rfl,trivial,rfl⟩
  case round =>
   rintro nn g M ⟨i0,l0,mb2,hT0,hr0,rfl,hgi,-,rfl⟩;refine gS1 hgi ?_;clear hgi;refine go4 ?_;rcases l0 with _|⟨x0,l0⟩
   ·have h12:=CQ hr0;refine W_f h12 O (go_ ?_);refine hK_u3 _ _ pp_ ⟨_,s0,mb2,(by exact hT0.symm.trans (Eq.symm rfl)),trivial,rfl⟩
   have h13:=zE hr0;have g14:=vO hr0;refine W_t h13 O (go4 ?_);refine sQ (aY (v':=.pointer (some (slb (.slice p_l l.length c_l) (i0*18+0)))) (kJ (e:=elI) (l:=l) (k:=i0) nX O O (SLe.sub Hl sn) g14.2.1) O) O (sQ (kW (e:=elI) (l:=l) (k:=i0) (o:=0) tyT O (SLe.sub Hl sn) g14.1 O) O (go_ ?_));intro b15 hb15;refine go5 ?_;refine sC (AV [pI (E (Z.gcd mb2.dec x0.dec))]) aB (qO mb2.1 x0.1 mb2.2 x0.2) O O O (go3 ?_);refine sV (.int .i64 ((i0+1:Nat):Int)) O (congrArg (Value.int .i64) (nxt g14.2.1 hmx0)) (go2 ?_);refine ⟨pp_,_,_,(sd s0),(Nat.lt_succ_self _),i0+1,l0,(E (Z.gcd mb2.dec x0.dec)),(by exact (hT0.symm.trans (Eq.symm rfl)).symm),g14.2.2,rfl,rfl,trivial,rfl⟩
 rintro g M ⟨mb2,hCu3,-,rfl⟩;refine gS0 ?_;refine go5 ?_;refine rtX O (dP O m1 tyT O) ?_;exact congrArg vS4 (show _=(dH l) from (by unfold dH;exact trs (Eq.symm (apS hCu3)) O))
theorem B8 (a:I) (b:I) (c0 T0:Nat) (n:I) (w:World) (hc0:w.heap[c0]? = some (.cells (cF [pI n]).toArray T0 (0,0))) :
  Calls prog 188 [AV [pI a],AV [pI b],.pointer (some ⟨c0,0,none⟩)].toArray w (fun e w'=>e = .returned (AV [pI (o5 a b n)])∧Ext w w'):=by
 refine cM (N:=9) func188 O O zz_ ?_;obtain ⟨w0,rfl⟩:=nm w;refine giI ?_;refine go2 ?_;intro b1 hb1;refine go_ ?_;intro b2 hb2;refine go_ ?_;intro b3 hb3;refine go3 ?_;refine sQ (PJ tyT O hc0 zz_ O) O ?_;refine sC (AV [pI (E (Z.quo a.dec n.dec))]) aB (gZ a.1 n.1 a.2 n.2) O O O (go3 ?_);refine rtX O (dP O m0 tyT O) ?_;exact (by rfl)
theorem xK (vp:Value) (p:(List I)) (w:World) (hp:Slr w elI vp p) (hpre:p.length≤100) :
  Calls prog 106 [vp].toArray w (fun e w'=>∃ v,e = .returned (v)∧Ext w w'∧Slo w.heap.size w' 31 elI v (iJ p)):=by
 obtain ⟨p_p,c_p,rfl⟩:=hp.form;refine dD (n:=9) (fun v=>v) func106 O O zz_ ?_;obtain ⟨w0,rfl⟩:=nm w;have Hp:=hp.old;have hm_p:=hp.max;refine giI ?_;refine go5 ?_;refine sFc (AV [pI (dH p)]) O (c1_ (zV _ p) Hp sn) O O (go_ ?_);intro b1 hb1;refine go4 ?_;refine sQ (yZ O O) O (aZ O (aN (E:=31) (e:=elI) (l:=(jG p ([]:List I) (fun (y:I) (z:I)=>(o5 y z (dH p))))) (fun v=>v) aB O (fun w hw=>wE _ p _ ([]:List I) _ (fun (y:I) (z:I)=>(o5 y z (dH p))) w (aR hw Hp sn) (SLe.ap hw (SLfe.sle SLfe.nil)) (FnV.mk hw aB (fun w hw x hx=>B8 x.1 x.2 _ _ (dH p) w (hw.mem _ m0))) o3_) (fun p2 c3 L4 hF5=>?_)));refine go3 ?_;refine rt1 ?_
 have hE:((jG p ([]:List I) (fun (y:I) (z:I)=>(o5 y z (dH p)))):(List I))=(iJ p):=by exact rfl
 rw [← hE];exact ⟨_,rfl,⟨L4,lZ,hF5⟩⟩
end Go.Proofs.YtkjjponijamaoaaGreatDoor
namespace Go.Num
open Go Go.Kn
theorem Z.cases (z:Z):z=Z.bad ∨ ∃ v:Int,v.natAbs<4294967296 ^ 16∧z=Z.of v∧z.o=some v:=by
 cases h:z.o with
 | none=>exact .inl (Z.eq_bad h)
 | some v=>exact .inr ⟨v,z.h v h,Z.eq_of h,rfl⟩
theorem Z.zero_add (z:Z):Z.add (Z.of 0) z=z:=by
 rcases Z.cases z with rfl|⟨v,_,rfl,hv⟩
 ·rfl
 rw [Z.add,dM (Z.of_some dd_) hv,Int.zero_add]
theorem W.ext {a b:W} (h:a.1=b.1):a=b:=Subtype.ext h
structure PrimOk (a:A3 I) (p:A3 W) (x y z g:Int):Prop where
 ax:a.x.dec.o=some x
 ay:a.y.dec.o=some y
 az:a.z.dec.o=some z
 gd:g=((Int.gcd (Int.gcd (Int.gcd 0 x:Nat) y:Nat) z:Nat):Int)
 g0:0<g
 px:g*p.x.1=x
 py:g*p.y.1=y
 pz:g*p.z.1=z
 bx:-2305843009213693952<p.x.1∧p.x.1<2305843009213693952
 bY:-2305843009213693952<p.y.1∧p.y.1<2305843009213693952
 bz:-2305843009213693952<p.z.1∧p.z.1<2305843009213693952
def Z.Is (z:Z) (v:Int):Prop:=z.o=none∨z.o=some v
theorem Z.Is.sign {z:Z} {v:Int} (h:z.Is v):z.o=none∨z.sign=v.sign:=by
 rcases h with h|h
 ·exact .inl h
 right;unfold Z.sign;rw [h]
structure Fit (z:Z) (v:Int) (k:Nat):Prop where
 eq:z=Z.of v
 lt:v.natAbs<2 ^ k
theorem eH_ {k:Nat} (hk:k≤511) {n:Nat} (h:n<2 ^ k):n<4294967296 ^ 16:=by
 have e:(2:Nat) ^ (32*16)=(2 ^ 32) ^ 16:=Nat.pow_mul 2 32 16;exact Nat.lt_of_lt_of_le h (Nat.le_trans (Nat.pow_le_pow_right dd_ (show k≤32*16 by omega)) (Nat.le_of_eq e))
theorem Fit.o {z:Z} {v:Int} {k:Nat} (h:Fit z v k) (hk:k≤511):z.o=some v:=by rw [h.eq];exact Z.of_some (eH_ hk h.lt)
theorem Fit.mono {z:Z} {v:Int} {k k':Nat} (h:Fit z v k) (hk:k≤k'):Fit z v k':=⟨h.eq,Nat.lt_of_lt_of_le h.lt (Nat.pow_le_pow_right dd_ hk)⟩
theorem Fit.mul {a b:Z} {x y:Int} {k l:Nat} (ha:Fit a x k) (hb:Fit b y l) (hk:k≤511∧l≤511):Fit (Z.mul a b) (x*y) (k+l) :=
 ⟨by rw [Z.mul,dM (ha.o hk.1) (hb.o hk.2)],by rw [Int.natAbs_mul,Nat.pow_add];exact Nat.mul_lt_mul_of_lt_of_lt ha.lt hb.lt⟩
theorem Fit.add {a b:Z} {x y:Int} {k l:Nat} (ha:Fit a x k) (hb:Fit b y l) (hk:k≤511∧l≤511):Fit (Z.add a b) (x+y) (max k l+1):=by
 refine ⟨by rw [Z.add,dM (ha.o hk.1) (hb.o hk.2)],?_⟩;have h1:=(ha.mono (Nat.le_max_left k l)).lt;have h2:=(hb.mono (Nat.le_max_right k l)).lt;rw [Nat.pow_succ];omega
theorem Fit.neg {a:Z} {x:Int} {k:Nat} (ha:Fit a x k) (hk:k≤511):Fit (Z.neg a) (-x) k:=⟨by rw [Z.neg,nF (ha.o hk)],by rw [Int.natAbs_neg];exact ha.lt⟩
theorem Fit.sub {a b:Z} {x y:Int} {k l:Nat} (ha:Fit a x k) (hb:Fit b y l) (hk:k≤511∧l≤511):Fit (Z.sub a b) (x - y) (max k l+1):=by
 rw [Int.sub_eq_add_neg];exact ha.add (hb.neg hk.2) hk
theorem Fit.sign {z:Z} {v:Int} {k:Nat} (h:Fit z v k) (hk:k≤511):z.sign=v.sign:=by unfold Z.sign;rw [h.o hk]
theorem z5 {L:Nat→List I→Nat→List I×Nat} {n:Nat} {g:Nat→I} (h1:∀ k out i,i<n→L (k+1) out i=L k (out++[g i]) (i+1)) (h2:∀ k out i,¬ i<n→L (k+1) out i=(out,i)) :
  ∀ (k:Nat) (out:List I) (i:Nat),n - i<k→(L k out i).1=out++(List.range' i (n - i)).map g
 | 0,out,i,h=>absurd h (Nat.not_lt_zero _)
 | k+1,out,i,h=>by
  by_cases hi:i<n
  ·obtain ⟨m,hm⟩:∃ m,n - i=m+1:=⟨n - i - 1,by omega⟩
   rw [h1 _ _ _ hi,z5 h1 h2 k _ _ oo_,hm,GB,show n - (i+1)=m by omega]
   simp
  rw [h2 _ _ _ hi,show n - i=0 by omega];simp
theorem H7 (l:List I) (f:I→Bool):∀ (k i:Nat),l.length - i<k→(∃ j:Nat,j<l.length∧lU l f k i = .inr (W.cv (j:Int))∧(l.drop i).any f=true)∨(∃ j,lU l f k i = .inl j∧(l.drop i).any f=false)
 | 0,i,h=>absurd h (Nat.not_lt_zero _)
 | k+1,i,h=>by
  unfold lU
  by_cases hi:i<l.length
  ·rw [decide_eq_true oo_,cond_true,vP l hi,List.any_cons]
   cases hf:f (l.getD i I0)
   ·simp only [cond_false,Bool.false_or]
    exact H7 l f k (i+1) oo_
   exact .inl ⟨i,hi,rfl,rfl⟩
  rw [decide_eq_false oo_,cond_false,List.drop_of_length_le oo_];exact .inr ⟨i,rfl,rfl⟩
theorem OE (l:List I) (f:I→Bool) (hl:l.length≤1000):sG l f=l.any f:=by
 unfold sG tP;rcases H7 l f (l.length+1) 0 oo_ with ⟨j,hj,h1,h2⟩|⟨j,h1,h2⟩
 ·rw [h1]
  show decide (0≤(W.cv (j:Int)).1)=_
  rw [cvE oo_,decide_eq_true oo_];rw [List.drop_zero] at h2;exact h2.symm
 rw [h1];rw [List.drop_zero] at h2;rw [h2];rfl
theorem Y1 (l:List I):(l.any fun y=>!gdI y) = !l.all gdI:=by
 induction l with
 | nil=>rfl
 | cons x l ih =>
  rw [List.any_cons,List.all_cons,ih]
  cases gdI x<;>rfl
theorem v7 {p:List I} (h:p.length≤1000):dC p = !p.all gdI:=by
 unfold dC;rw [OE _ _ h];exact Y1 p
theorem H8 (p:List I):∀ (k i:Nat),p.length - i<k→(∃ j,gS p k i = .inl j∧(p.drop i).all gdI=true)∨(gS p k i = .inr true∧(p.drop i).all gdI=false)
 | 0,i,h=>absurd h (Nat.not_lt_zero _)
 | k+1,i,h=>by
  unfold gS
  by_cases hi:i<p.length
  ·rw [decide_eq_true oo_,cond_true,vP p hi,List.all_cons]
   show (∃ j,(bif gdI (p.getD i I0) then _ else _)=_∧_)∨((bif gdI (p.getD i I0) then _ else _)=_∧_)
   cases gdI (p.getD i I0)
   ·exact .inr ⟨rfl,rfl⟩
   simp only [cond_true,Bool.true_and];exact H8 p k (i+1) oo_
  rw [decide_eq_false oo_,cond_false,List.drop_of_length_le oo_];exact .inl ⟨i,rfl,rfl⟩
theorem sO (p:List I):bA p = !p.all gdI:=by
 unfold bA;rcases H8 p (p.length+1) 0 oo_ with ⟨j,h1,h2⟩|⟨h1,h2⟩
 ·rw [h1];rw [List.drop_zero] at h2;rw [h2];rfl
 rw [h1];rw [List.drop_zero] at h2;rw [h2];rfl
theorem N3 (p:List I) (k:Int):cL p k=kF p k:=rfl
theorem wW {l:List I} {k:Nat} (h:l.length≤k):l.getD k I0=I0:=by simp [List.getD,List.getElem?_eq_none h]
theorem E7 (p:List I) (k:Nat):kF p (k:Int)=p.getD k I0:=by
 unfold kF;rw [decide_eq_false oo_,Bool.false_or,Int.toNat_natCast]
 by_cases h:p.length≤k
 ·rw [decide_eq_true oo_,cond_true,wW h]
 rw [decide_eq_false oo_,cond_false]
theorem IU (n:Nat):List.range n=List.range' 0 n:=List.range_eq_range'
theorem CS {p q:List I} (f:I→I→I) (hp:p.length≤1000) (hq:q.length≤1000):jG p q f=bif (p.all gdI&&q.all gdI) then mkP ((List.range (max p.length q.length)).map fun k=>f (p.getD k I0) (q.getD k I0)) else badp:=by
 unfold jG;rw [v7 hp,v7 hq,wK,Int.toNat_natCast]
 have e:((List.range (max p.length q.length)).map fun j=>k9 (rT j f p q))=(List.range (max p.length q.length)).map fun k=>f (p.getD k I0) (q.getD k I0):=List.map_congr_left fun k _=>by
  show f (kF p (k:Int)) (kF q (k:Int))=_
  rw [E7,E7]
 rw [e]
 cases p.all gdI<;>cases q.all gdI<;>rfl
theorem D0 {p q:List I} (hp:p.length≤1000) (hq:q.length≤1000):bC p q=aG p q:=by
 unfold bC aG;rw [CS _ hp hq,sO,sO];have e:=z5 (L:=iO p q) (n:=max p.length q.length) (g:=fun k=>E (Z.add (p.getD k I0).dec (q.getD k I0).dec))
  (fun k out i h=>by (conv=>lhs;unfold iO);rw [decide_eq_true oo_,N3,N3,E7,E7];rfl) (fun k out i h=>by unfold iO;rw [decide_eq_false oo_];rfl) (max p.length q.length+1) [] 0 oo_
 rw [List.nil_append,Nat.sub_zero,← IU] at e;simp only [ap,e,xP]
 cases p.all gdI<;>cases q.all gdI<;>rfl
theorem LZ {p q:List I} (hp:p.length≤1000) (hq:q.length≤1000):jM p q=dJ p q:=by
 unfold jM dJ;rw [CS _ hp hq,sO,sO];have e:=z5 (L:=iR p q) (n:=max p.length q.length) (g:=fun k=>E (Z.sub (p.getD k I0).dec (q.getD k I0).dec))
  (fun k out i h=>by (conv=>lhs;unfold iR);rw [decide_eq_true oo_,N3,N3,E7,E7];rfl) (fun k out i h=>by unfold iR;rw [decide_eq_false oo_];rfl) (max p.length q.length+1) [] 0 oo_
 rw [List.nil_append,Nat.sub_zero,← IU] at e;simp only [ap,e,xP]
 cases p.all gdI<;>cases q.all gdI<;>rfl
theorem zC {p:List I} (n:I) (hp:p.length≤1000):bK p n=aK p n:=by
 unfold bK aK;rw [CS _ hp dd_,sO];have e:=z5 (L:=gT p n) (n:=p.length) (g:=fun k=>E (Z.mul (p.getD k I0).dec n.dec))
  (fun k out i h=>by (conv=>lhs;unfold gT);rw [decide_eq_true oo_];rfl) (fun k out i h=>by unfold gT;rw [decide_eq_false oo_];rfl) (p.length+1) [] 0 oo_
 rw [List.nil_append,Nat.sub_zero,← IU] at e;simp only [ap,e,xP,List.length_nil,Nat.max_zero,List.all_nil,Bool.and_true]
 show (bif gdI n then _ else _)=(bif (_ || !gdI n) then _ else _)
 cases p.all gdI<;>cases gdI n<;>rfl
theorem D6 (l0:List I):∀ (k i:Nat) (m:I),l0.length - i<k→(hZ l0 k i m).2=mL l0 (l0.drop i) m
 | 0,i,m,h=>absurd h (Nat.not_lt_zero _)
 | k+1,i,m,h=>by
  unfold hZ
  by_cases hi:i<l0.length
  ·rw [decide_eq_true oo_,cond_true,vP l0 hi,D6 l0 k _ _ oo_];rfl
  rw [decide_eq_false oo_,cond_false,List.drop_of_length_le oo_];rfl
theorem DP (l:List I):bM l=dH l:=by
 unfold bM dH;simp only [ap];rw [D6 _ _ _ _ oo_,List.drop_zero]
theorem NY {p:List I} (hp:p.length≤1000):iJ p=dY p:=by
 unfold iJ dY;rw [CS _ hp dd_,sO];have e:=z5 (L:=fI p) (n:=p.length) (g:=fun k=>E (Z.quo (p.getD k I0).dec (dH p).dec))
  (fun k out i h=>by (conv=>lhs;unfold fI);rw [decide_eq_true oo_,DP];rfl) (fun k out i h=>by unfold fI;rw [decide_eq_false oo_];rfl) (p.length+1) [] 0 oo_
 rw [List.nil_append,Nat.sub_zero,← IU] at e;simp only [ap,e,xP,List.length_nil,Nat.max_zero,List.all_nil,Bool.and_true]
 cases p.all gdI<;>rfl
theorem LE (p q out:List I) (k t i:Nat) (m:I) (hi:i≤k) (h:q.length≤k - i∨p.length≤i):cQ p q out k (t+1) i m=cQ p q out k t (i+1) m:=by
 conv=>lhs;unfold cQ
 rw [decide_eq_true oo_,cond_true]
 have e:(decide ((i:Int)<(p.length:Int))&&decide ((k:Int) - (i:Int)<(q.length:Int)))=false:=by
  rcases h with h|h
  ·rw [decide_eq_false (p:=(k:Int) - (i:Int)<(q.length:Int)) oo_,Bool.and_false]
  rw [decide_eq_false oo_,Bool.false_and]
 rw [e,cond_false]
theorem LF (p q out:List I) (k:Nat):∀ (t i:Nat) (m:I),p.length≤i→(cQ p q out k t i m).2=m
 | 0,i,m,h=>rfl
 | t+1,i,m,h=>by
  by_cases hi:i≤k
  ·rw [LE p q out k t i m hi (.inr h),LF p q out k t _ _ oo_]
  unfold cQ;rw [decide_eq_false oo_,cond_false]
theorem LA (p q out:List I) (k:Nat):∀ (t t' i:Nat) (m:I),k+1 - i<t→k+1 - i<t'→k+1≤i+q.length→(iM k q p t i m).2=(cQ p q out k t' i m).2
 | 0,_,i,m,h,_,_=>absurd h (Nat.not_lt_zero _)
 | t+1,0,i,m,_,h,_=>absurd h (Nat.not_lt_zero _)
 | t+1,t'+1,i,m,h,h',hq=>by
  by_cases hp:i<p.length
  ·by_cases hi:i≤k
   ·unfold iM cQ
    rw [decide_eq_true (p:=(i:Int)≤min (k:Int) ((p.length:Nat) - 1)) oo_,decide_eq_true (p:=(i:Int)≤(k:Int)) oo_,decide_eq_true (p:=(i:Int)<(p.length:Int)) oo_,decide_eq_true (p:=(k:Int) - (i:Int)<(q.length:Int)) oo_];exact LA p q out k t t' _ _ oo_ oo_ oo_
   unfold iM cQ;rw [decide_eq_false (p:=(i:Int)≤min (k:Int) ((p.length:Nat) - 1)) oo_,decide_eq_false (p:=(i:Int)≤(k:Int)) oo_];rfl
  rw [LF p q out k _ _ _ oo_];unfold iM;rw [decide_eq_false oo_];rfl
theorem LD (p q out:List I) (k:Nat) (m:I):∀ (n t i:Nat),i+n=k+1 - q.length→k+1 - i<t→cQ p q out k t i m=cQ p q out k (t - n) (i+n) m
 | 0,t,i,_,_=>rfl
 | n+1,t,i,h,ht=>by
  obtain ⟨t,rfl⟩:∃ t',t=t'+1:=⟨t - 1,by omega⟩;rw [LE p q out k t i m oo_ (.inl oo_),LD p q out k m n t (i+1) oo_ oo_];rw [show t+1 - (n+1)=t - n by omega,show i+1+n=i+(n+1) by omega]
theorem Y7 (p q out:List I) (k:Nat):nA k q p=(cQ p q out k (k+2) 0 I0).2:=by
 unfold nA;simp only [ap];rw [LD p q out k I0 (k+1 - q.length) (k+2) 0 oo_ oo_,Nat.zero_add];rw [show ((k:Int) - (q.length:Int)+1).toNat=k+1 - q.length by omega];exact LA p q out k _ _ _ _ oo_ oo_ oo_
theorem CO {p q:List I} (hp:p.length≤1000) (hq:q.length≤1000):aV p q=aU p q:=by
 unfold aV aU;rw [v7 hp,v7 hq,sO,sO,wK]
 cases h0:((p.length:Int)==0)||((q.length:Int)==0)
 ·have h1:p.length≠0∧q.length≠0:=by
   have:=Bool.or_eq_false_iff.1 h0;exact ⟨fun h=>by rw [h] at this;exact absurd this.1 dd_,fun h=>by rw [h] at this;exact absurd this.2 dd_⟩
  have e:=z5 (L:=iQ p q) (n:=p.length+q.length - 1) (g:=fun k=>nA k q p)
   (fun k out i h=>by (conv=>lhs;unfold iQ);rw [decide_eq_true oo_];simp only [cond_true,ap];rw [← Y7]) (fun k out i h=>by unfold iQ;rw [decide_eq_false oo_];rfl) (p.length+q.length) [] 0 oo_
  rw [List.nil_append,Nat.sub_zero,← IU] at e;simp only [ap,e,xP];rw [show (((p.length+q.length:Nat):Int) - 1).toNat=p.length+q.length - 1 by omega];rfl
 rfl
theorem zr0:zrI I0=true:=by decide +kernel
def cP_ (n:Nat) (r:List I):Prop:=∀ j:Nat,n≤j→zrI (r.getD j I0)=true
theorem GG {n:Nat}:∀ (m:Nat) (r:List I),r.length≤m→cP_ n r→(nU r).length≤n
 | 0,r,h,_=>by
  have:r=[]:=List.eq_nil_of_length_eq_zero oo_;rw [this];exact Nat.zero_le _
 | m+1,r,h,hz=>by
  by_cases hn:r.length≤n
  ·exact Nat.le_trans (EX r) hn
  rcases xU r with rfl|⟨s,x,rfl⟩
  ·exact Nat.zero_le _
  simp only [List.length_append,List.length_cons,List.length_nil] at hn h;have hx:=hz s.length oo_;rw [show (s++[x]).getD s.length I0=x by simp] at hx;rw [vX,hx,cond_true];refine GG m s oo_ (fun j hj=>?_)
  by_cases hjs:j<s.length
  ·have:=hz j hj
   rwa [show (s++[x]).getD j I0=s.getD j I0 by simp [List.getD,List.getElem?_append_left hjs]] at this
  rw [wW oo_];exact zr0
theorem MU (l:List I):gR l=mkP l:=by
 unfold gR;rw [wK,Int.toNat_natCast]
 congr 1
 refine List.ext_getElem? fun k=>?_
 by_cases h:k<l.length
 ·simp [h,k9,rS]
 simp [h]
theorem CI (p:List I) (a b:Rt):∀ (k:Nat) (r:List I) (i:Int),r.length≤25→(fT p a b k r i).1.length≤25
 | 0,r,i,h=>h
 | k+1,r,i,h=>by
  unfold fT
  cases decide (0≤i)
  ·exact h
  exact CI p a b k _ _ (fB _ _)
theorem C7 (p:List I) (a b:Rt):(jR p a b).length≤25:=pW tF (CI p a b _ _ _ (Nat.zero_le _))
theorem zU (p:List I) (a b:Rt):(gM p a b).length≤25:=o7 _
abbrev kM (v:Int):Prop:=v.natAbs<4294967296 ^ 16
theorem TU {x:I} (h:x.1.good=true):E x.dec=x:=Subtype.ext (MM x.2 h)
theorem QZ {x:I} (h:x.1.good=true):∃ v:Int,kM v∧x=E (Z.of v):=by
 have h1:=cK x.2 h;refine ⟨_,x.dec.h _ h1,?_⟩;rw [← Z.eq_of h1];exact (TU h).symm
theorem B4 {v:Int} (h:kM v):(E (Z.of v)).1.good=true:=by
 show (Z.of v).enc.good=true
 rw [Z.enc_good,Z.of_some h];rfl
theorem VS {v:Int} (h:kM v):(E (Z.of v)).1.bad=false:=by
 have:=B4 h;unfold R.good at this;simp only [Bool.and_eq_true,Bool.not_eq_true'] at this;exact this.1
theorem bp_:(E Z.bad).1.bad=true:=rfl
theorem OT:(E Z.bad).1.good=false:=rfl
theorem ai_ {v:Int} (h:kM v):(Z.of v).sign=v.sign:=by unfold Z.sign;rw [Z.of_some h]
theorem xS {v:Int} (h:kM v):(Z.signW (Z.of v)).1=v.sign:=ai_ h
theorem MR {u v:Int} (hu:kM u) (hv:kM v):Z.gcd (Z.of u) (Z.of v)=Z.of (Int.gcd u v):=by rw [Z.gcd,dM (Z.of_some hu) (Z.of_some hv)]
theorem NC {u v:Int} (hu:kM u) (hv:kM v) (h:v≠0):Z.quo (Z.of u) (Z.of v)=Z.of (u.fdiv v):=by rw [Z.quo,dM (Z.of_some hu) (Z.of_some hv),if_neg h]
theorem MX {u v:Int} (hu:kM u) (hv:kM v):Z.mul (Z.of u) (Z.of v)=Z.of (u*v):=by rw [Z.mul,dM (Z.of_some hu) (Z.of_some hv)]
theorem QM {u v:Int} (hu:kM u) (hv:kM v):Z.add (Z.of u) (Z.of v)=Z.of (u+v):=by rw [Z.add,dM (Z.of_some hu) (Z.of_some hv)]
theorem bV_ {u:Int} (hu:kM u):Z.neg (Z.of u)=Z.of (-u):=by rw [Z.neg,nF (Z.of_some hu)]
theorem XC {v:Int} (h:¬ kM v):Z.of v=Z.bad:=by unfold Z.of;rw [dif_neg h]
theorem B1:kM 1:=by decide
theorem B0:kM 0:=by decide
theorem aD_ {u v:Int} (hv:kM v) (h:v≠0):kM (Int.gcd u v:Nat):=by
 have:Int.gcd u v≤v.natAbs:=Nat.le_of_dvd oo_ (Int.gcd_dvd_natAbs_right u v)
 show ((Int.gcd u v:Nat):Int).natAbs<_
 rw [Int.natAbs_natCast];exact Nat.lt_of_le_of_lt this hv
theorem bY_ {u v:Int} (hu:kM u) (hv:kM v) (h:Z.of u=Z.of v):u=v:=by
 have:=congrArg Z.o h;rw [Z.of_some hu,Z.of_some hv] at this;exact Option.some.inj this
structure Rt.Is (a:Rt) (n d:Int):Prop where
 en:a.n=E (Z.of n)
 ed:a.d=E (Z.of d)
 hn:kM n
 hd:kM d
 pos:0<d
 cop:Int.gcd n d=1
theorem Rt.ext {a b:Rt} (h:a.n=b.n) (k:a.d=b.d):a=b:=by cases a;cases b;simp_all
theorem dl_:F_skewbackref04_one=E (Z.of 1):=rfl
theorem dm_:F_ratio_one=E (Z.of 1):=rfl
theorem QE:tQ=lS:=rfl
theorem WM (a:I):mG a=a.1.good:=rfl
theorem wT (a:Rt):aS a=aP a:=by
 unfold aS aP;rw [WM,WM,dl_,dm_]
 cases a.n.1.good<;>cases a.d.1.good<;>rfl
theorem RW (a b:I):cT a b=bF a b:=rfl
theorem RX (a:W):bQ a=aI a:=rfl
theorem bd_ (a:Rt):rC a=j6 a:=by unfold rC j6;rw [wT,QE]
theorem U8 (a b:Rt):jH a b=iU a b:=by unfold jH iU;rw [wT,wT,QE];rfl
theorem VG (a b:Rt):fH a b=gE a b:=by unfold fH gE;rw [bd_,U8]
theorem cK_ {a:Rt}:aP a=true ↔ ∃ n d,Rt.Is a n d:=by
 unfold aP
 constructor
 ·intro h
  cases gn:a.n.1.good<;>cases gd:a.d.1.good<;>simp only [gn,gd,Bool.not_true,Bool.not_false,Bool.or_true,Bool.true_or,Bool.or_false,cond_true,cond_false,Bool.false_eq_true] at h
  obtain ⟨n,hn,en⟩:=QZ gn;obtain ⟨d,hd,ed⟩:=QZ gd;rw [en,ed] at h;simp only [eQ,Bool.and_eq_true,decide_eq_true_eq,xS hd] at h;obtain ⟨h1,h2⟩:=h;have hp:0<d:=Int.sign_pos_iff.1 h1;rw [MR hn hd,dl_] at h2;have h3:=bY_ (aD_ hd oo_) B1 (cJ_ h2);exact ⟨n,d,en,ed,hn,hd,hp,by exact_mod_cast h3⟩
 rintro ⟨n,d,h⟩;rw [h.en,h.ed,B4 h.hn,B4 h.hd];simp only [Bool.not_true,Bool.or_false,cond_false,eQ,Bool.and_eq_true,decide_eq_true_eq,xS h.hd];refine ⟨Int.sign_pos_iff.2 h.pos,?_⟩;rw [MR h.hn h.hd,h.cop];rfl
theorem KP (v:Int):v.fdiv 1=v:=by rw [Int.fdiv_eq_ediv_of_nonneg _ dd_];exact Int.ediv_one v
theorem ZS {n d:Int} (hn:kM n) (hd:kM d) (hp:0<d) (hc:Int.gcd n d=1):bF (E (Z.of n)) (E (Z.of d))=⟨E (Z.of n),E (Z.of d)⟩:=by
 unfold bF
 have h1:((Z.signW (E (Z.of d)).dec).1==0)=false:=by rw [eQ,xS hd,Int.sign_eq_one_of_pos hp];rfl
 have h2:decide ((Z.signW (E (Z.of d)).dec).1<0)=false:=by rw [eQ,xS hd,Int.sign_eq_one_of_pos hp];rfl
 rw [B4 hn,B4 hd,h1,h2,eQ,eQ,MR hn hd,hc];simp only [Bool.not_true,Bool.or_false,cond_false];rw [show ((1:Nat):Int)=1 from rfl,NC hn B1 dd_,NC hd B1 dd_,KP,KP]
theorem UD (b:I):bF (E Z.bad) b=lS:=by unfold bF;rw [OT];rfl
theorem UE (a:I):bF a (E Z.bad)=lS:=by
 unfold bF;rw [OT]
 cases a.1.good<;>rfl
theorem ON {u g:Int} (hg:0<g):u.fdiv g=u / g:=Int.fdiv_eq_ediv_of_nonneg _ (Int.le_of_lt hg)
theorem az_ {u g:Int} (hu:kM u) (hg:0<g) (hd:g ∣ u):kM (u / g):=by
 obtain ⟨k,rfl⟩:=hd;rw [Int.mul_ediv_cancel_left _ oo_];refine Nat.lt_of_le_of_lt ?_ hu;rw [Int.natAbs_mul];exact Nat.le_mul_of_pos_left _ oo_
theorem WZ {n d:Int} (hn:kM n) (hd:kM d) (hp:0<d) :
  bF (E (Z.of n)) (E (Z.of d))=⟨E (Z.of (n / (Int.gcd n d:Nat))),E (Z.of (d / (Int.gcd n d:Nat)))⟩:=by
 unfold bF
 have h1:((Z.signW (E (Z.of d)).dec).1==0)=false:=by rw [eQ,xS hd,Int.sign_eq_one_of_pos hp];rfl
 have h2:decide ((Z.signW (E (Z.of d)).dec).1<0)=false:=by rw [eQ,xS hd,Int.sign_eq_one_of_pos hp];rfl
 have hg:0<((Int.gcd n d:Nat):Int):=by
  have:=Int.gcd_pos_of_ne_zero_right n (show d≠0 by omega);omega
 have hb:=aD_ (u:=n) hd oo_;rw [B4 hn,B4 hd,h1,h2,eQ,eQ,MR hn hd];simp only [Bool.not_true,Bool.or_false,cond_false];rw [NC hn hb oo_,NC hd hb oo_,ON hg,ON hg]
theorem F8 {n d:Int} (hn:kM n) (hd:kM d) (hp:0<d):Rt.Is (bF (E (Z.of n)) (E (Z.of d))) (n / (Int.gcd n d:Nat)) (d / (Int.gcd n d:Nat)):=by
 have hg:0<((Int.gcd n d:Nat):Int):=by
  have:=Int.gcd_pos_of_ne_zero_right n (show d≠0 by omega);omega
 have d1:((Int.gcd n d:Nat):Int) ∣ n:=Int.gcd_dvd_left ..;have d2:((Int.gcd n d:Nat):Int) ∣ d:=Int.gcd_dvd_right ..;rw [WZ hn hd hp];refine ⟨rfl,rfl,az_ hn hg d1,az_ hd hg d2,Int.ediv_pos_of_pos_of_dvd hp oo_ d2,?_⟩;rw [Int.gcd_ediv d1 d2,Int.natAbs_natCast,Nat.div_self oo_]
theorem VA {a b:Rt} {n d m e:Int} (ha:a.Is n d) (hb:b.Is m e) :
  ∃ p q r s:Int,bF a.n b.d=⟨E (Z.of p),E (Z.of q)⟩∧bF b.n a.d=⟨E (Z.of r),E (Z.of s)⟩∧kM p∧kM q∧kM r∧kM s∧0<q∧0<s∧Int.gcd (p*r) (q*s)=1∧n*m*(q*s)=p*r*(d*e):=by
 have h1:=F8 ha.hn hb.hd hb.pos;have h2:=F8 hb.hn ha.hd ha.pos;have g1:((Int.gcd n e:Nat):Int) ∣ n:=Int.gcd_dvd_left ..;have g2:((Int.gcd n e:Nat):Int) ∣ e:=Int.gcd_dvd_right ..;have g3:((Int.gcd m d:Nat):Int) ∣ m:=Int.gcd_dvd_left ..;have g4:((Int.gcd m d:Nat):Int) ∣ d:=Int.gcd_dvd_right ..;refine ⟨n / (Int.gcd n e:Nat),e / (Int.gcd n e:Nat),m / (Int.gcd m d:Nat),d / (Int.gcd m d:Nat),?_,?_,h1.hn,h1.hd,h2.hn,h2.hd,h1.pos,h2.pos,?_,?_⟩
 ·rw [ha.en,hb.ed];exact Rt.ext h1.en h1.ed
 ·rw [hb.en,ha.ed];exact Rt.ext h2.en h2.ed
 ·generalize hG:((Int.gcd n e:Nat):Int)=G at *
  generalize hH:((Int.gcd m d:Nat):Int)=H at *;have c1:Nat.Coprime (n / G).natAbs (e / G).natAbs:=h1.cop;have c2:Nat.Coprime (m / H).natAbs (d / H).natAbs:=h2.cop;have k1:Nat.Coprime n.natAbs d.natAbs:=ha.cop;have k2:Nat.Coprime m.natAbs e.natAbs:=hb.cop;have d1:(n / G).natAbs ∣ n.natAbs:=Int.natAbs_dvd_natAbs.2 (Int.ediv_dvd_of_dvd g1);have d2:(e / G).natAbs ∣ e.natAbs:=Int.natAbs_dvd_natAbs.2 (Int.ediv_dvd_of_dvd g2);have d3:(m / H).natAbs ∣ m.natAbs:=Int.natAbs_dvd_natAbs.2 (Int.ediv_dvd_of_dvd g3);have d4:(d / H).natAbs ∣ d.natAbs:=Int.natAbs_dvd_natAbs.2 (Int.ediv_dvd_of_dvd g4)
  show Nat.gcd (n / G*(m / H)).natAbs (e / G*(d / H)).natAbs=1
  rw [Int.natAbs_mul,Int.natAbs_mul];have x1:Nat.Coprime (n / G).natAbs (d / H).natAbs:=(k1.coprime_dvd_left d1).coprime_dvd_right d4;have x2:Nat.Coprime (m / H).natAbs (e / G).natAbs:=(k2.coprime_dvd_left d3).coprime_dvd_right d2;exact (Nat.Coprime.mul_right c1 x1).mul_left (Nat.Coprime.mul_right x2 c2)
 obtain ⟨x,hx⟩:=g1;obtain ⟨y,hy⟩:=g2;obtain ⟨z,hz⟩:=g3;obtain ⟨t,ht⟩:=g4
 have p1:0<((Int.gcd n e:Nat):Int):=by have:=Int.gcd_pos_of_ne_zero_right n (show e≠0 by have:=hb.pos;omega);omega
 have p2:0<((Int.gcd m d:Nat):Int):=by have:=Int.gcd_pos_of_ne_zero_right m (show d≠0 by have:=ha.pos;omega);omega
 generalize ((Int.gcd n e:Nat):Int)=G at *;generalize ((Int.gcd m d:Nat):Int)=H at *
 have q1:n / G=x:=by rw [hx];exact Int.mul_ediv_cancel_left _ oo_
 have q2:e / G=y:=by rw [hy];exact Int.mul_ediv_cancel_left _ oo_
 have q3:m / H=z:=by rw [hz];exact Int.mul_ediv_cancel_left _ oo_
 have q4:d / H=t:=by rw [ht];exact Int.mul_ediv_cancel_left _ oo_
 rw [q1,q2,q3,q4,hx,hy,hz,ht];grind
theorem bc_ (a b:Rt):cP a b=kT a b:=by
 unfold cP kT;rw [wT,wT,QE,RW,RW]
 cases hga:aP a<;>cases hgb:aP b<;>simp only [Bool.not_true,Bool.not_false,Bool.or_true,Bool.true_or,Bool.or_false,cond_true,cond_false]
 obtain ⟨n,d,ha⟩:=cK_.1 hga;obtain ⟨m,e,hb⟩:=cK_.1 hgb;obtain ⟨p,q,r,s,e1,e2,hp,hq,hr,hs,q0,s0,hc,_⟩:=VA ha hb;rw [e1,e2];simp only [eQ,MX hp hr,MX hq hs]
 by_cases b1:kM (p*r)
 ·by_cases b2:kM (q*s)
  ·rw [ZS b1 b2 (Int.mul_pos q0 s0) hc,VS b1,VS b2];rfl
  rw [XC b2,UE,bp_,Bool.or_true];rfl
 rw [XC b1,UD];rfl
theorem ex_ {x:I} (h:gdI x=true):∃ v:Int,kM v∧x=E (Z.of v):=QZ (by unfold R.good;exact h)
theorem bD_ {v:Int} (h:kM v):gdI (E (Z.of v))=true:=by have:=B4 h;unfold R.good at this;exact this
def vI (x:I):Int:=x.dec.o.getD 0
theorem cG_ {v:Int} (h:kM v):vI (E (Z.of v))=v:=by unfold vI;rw [eQ,Z.of_some h];rfl
theorem aE_ {x:I} (h:gdI x=true):x=E (Z.of (vI x))∧kM (vI x):=by
 obtain ⟨v,hv,rfl⟩:=ex_ h;rw [cG_ hv];exact ⟨rfl,hv⟩
theorem ei_ {v:Int} (h:kM v):zrI (E (Z.of v))=decide (v=0):=by
 unfold zrI;rw [eQ,xS h]
 by_cases h0:v=0
 ·subst h0;rfl
 rw [decide_eq_false h0];exact beq_eq_false_iff_ne.2 (fun hs=>h0 (Int.sign_eq_zero_iff_zero.1 hs))
def Rgt (p:List I):Prop:=p=badp∨(p.all gdI=true∧nU p=p∧p.length≤25)
theorem I4 (l:List I):nU (nU l)=nU l:=by
 suffices ∀ n (l:List I),l.length≤n→nU (nU l)=nU l from this _ l (Nat.le_refl _)
 intro n
 induction n with
 | zero=>intro l h;rw [List.eq_nil_of_length_eq_zero (show l.length=0 by omega)];rfl
 | succ n ih =>
  intro l h;rcases xU l with rfl|⟨m,x,rfl⟩
  ·rfl
  have hs:=vX m x
  cases hx:zrI x
  ·rw [hx,cond_false] at hs;rw [hs,hs]
  rw [hx,cond_true] at hs;rw [hs];exact ih m (by simp only [List.length_append,List.length_cons,List.length_nil] at h;omega)
theorem LM {l:List I} (h:l.all gdI=true):(nU l).all gdI=true:=by
 rw [w6];rw [List.all_eq_true] at h ⊢;exact fun x hx=>h x (List.mem_of_mem_take hx)
theorem SK (l:List I):Rgt (mkP l):=by
 unfold mkP
 cases h:l.all gdI
 ·exact .inl O
 simp only [cond_true]
 split
 ·rename_i h2;exact .inr ⟨LM h,I4 l,h2⟩
 exact .inl O
theorem RR {m:List I} {x:I} (h:nU (m++[x])=m++[x]):zrI x=false:=by
 cases hx:zrI x
 ·rfl
 rw [vX,hx,cond_true] at h;have:=EX m;rw [h] at this;simp only [List.length_append,List.length_cons,List.length_nil] at this;omega
theorem oI (l:List W):Rgt (cX l):=by unfold cX;rw [FC];exact SK _
theorem j7 (p q:List I):Rgt (aV p q):=by
 unfold aV
 cases (dC p||dC q)
 ·simp only [cond_false]
  cases (((p.length:Int)==0)||((q.length:Int)==0))
  ·rw [cond_false,wK];exact SK _
  exact .inr ⟨rfl,rfl,Nat.zero_le _⟩
 exact .inl O
end Go.Num
