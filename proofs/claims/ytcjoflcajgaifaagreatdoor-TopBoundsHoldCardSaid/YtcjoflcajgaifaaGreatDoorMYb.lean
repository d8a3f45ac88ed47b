/- Lemmas: what they ask stands in their statements. -/
import Derived.Test.YtcjoflcajgaifaaGreatDoorMAr
set_option linter.unusedSimpArgs false
set_option linter.unusedVariables false
set_option maxHeartbeats 8000000
set_option maxRecDepth 20000
namespace Go.Proofs.YtcjoflcajgaifaaGreatDoor
open Go.Kn Go.Num Tryz
attribute [local irreducible] Go.Kn.W WL PL OpQ OpR OpS
theorem D8 (k:Nat) (c0 T0:Nat) (p_l:Option Addr) (c_l:Nat) (l:(List I)) (w:World) (hc0:w.heap[c0]? = some (.cells (aW [csl p_l l.length c_l]).toArray T0 (0,0))) (hl:Slr w elI (.slice p_l l.length c_l) l) (hpre:k<l.length) :
  Calls prog 47 [.int .i64 (k:Int),.pointer (some ⟨c0,0,none⟩)].toArray w (fun e w'=>e = .returned (AV [pI (m8 k l)])∧Ext w w'):=by
 refine cY (N:=8) func47 O O zz_ ?_;obtain ⟨w0,rfl⟩:=nm w;have Hl:=hl.old;have hm_l:=hl.max;refine giI ?_;refine go2 ?_;intro b1 hb1;refine go2 ?_;refine sQ (qQ (v:=.slice p_l l.length c_l) tyT O hc0 zz_ O) O ?_;refine go_ ?_;refine sQ (aE (v':=.pointer (some (slb (.slice p_l l.length c_l) (k*18+0)))) (aM (e:=elI) (l:=l) (k:=k) o7 O O (SLe.sub Hl sn) o2_) O) O ?_;refine sQ (bM (e:=elI) (l:=l) (k:=k) (o:=0) tyT O (SLe.sub Hl sn) (aF I0 o2_) O) O ?_;refine go3 ?_;refine rtX O (iN O m0 tyT O) ?_;exact (by rfl)
theorem rR (vl:Value) (l:(List I)) (w:World) (hl:Slr w elI vl l) (hpre:l.length≤200) :
  Calls prog 9 [vl].toArray w (fun e w'=>∃ v,e = .returned (v)∧Ext w w'∧Slo w.heap.size w' 31 elI v (bG l)):=by
 obtain ⟨p_l,c_l,rfl⟩:=hl.form;refine eV (n:=7) (fun v=>v) func9 O O zz_ ?_;obtain ⟨w0,rfl⟩:=nm w;have Hl:=hl.old;have hm_l:=hl.max;refine giI ?_;refine go2 ?_;intro b1 hb1;refine go4 ?_;refine sQ (bT o7 O (SLe.sub Hl sn)) O (sQ (nY O O) O (aQ O (dK (E:=31) (e:=elI) (l:=(fK (l.length:Int) (fun (y:Nat)=>(m8 y l)) (fun (y:I)=>(fL y)))) (fun v=>v) aK O (fun w hw=>qP (l.length:Int) _ (fun (y:Nat)=>(m8 y l)) _ (fun (y:I)=>(fL y)) w (FnV.mk hw aK (fun w hw x hx=>D8 x _ _ _ _ l w (hw.mem _ m0) (aR hw Hl sn) (Int.ofNat_lt.1 hx))) (FnV.mk hw aK (fun w hw x hx=>(rS x) w)) oo_) (fun p2 c3 L4 hF5=>go3 ?_))));refine rt1 ?_
 have hE:((fK (l.length:Int) (fun (y:Nat)=>(m8 y l)) (fun (y:I)=>(fL y))):(List I))=(bG l):=by exact rfl
 rw [← hE];exact ⟨_,rfl,⟨L4,lZ,hF5⟩⟩
theorem uW (vp:Value) (p:(List I)) (k:Int) (w:World) (hp:Slr w elI vp p) :
    Calls prog 88 [vp,.int .i64 k].toArray w (fun e w'=>e = .returned (AV [pI (dR p k)])∧Ext w w'):=by
 obtain ⟨p_p,c_p,rfl⟩:=hp.form;refine cY (N:=18) func88 O O zz_ ?_;obtain ⟨w0,rfl⟩:=nm w;have Hp:=hp.old;have hm_p:=hp.max;refine giI ?_;refine go2 ?_;intro b1 hb1;refine go2 ?_;refine gJv (rg [] 5 8) [(12,.bool (decide (k<0)||decide ((p.length:Int)≤k)))] (fun K2 J2=>?_) ?_
 ·refine go3 ?_;refine sBB O (fun h3=>?_) (fun h3=>?_)
  ·have ph3:=of_decide_eq_true h3;refine go6 ?_;refine J2 _ _ pp_ s0 (cH (qO h3))
  have ph3:=of_decide_eq_false h3;refine go2 ?_;refine sQ (bT eR O (SLe.sub Hp sn)) O (go3 ?_);refine J2 _ _ pp_ s0 (cH (mD h3 O))
 intro g4;refine aS _ O (fun h5=>?_) (fun h5=>?_)
 ·refine go5 ?_;refine rtX O (iN O m0 tyT O) ?_;exact congrArg vS2 (show _=(dR p k) from bL h5 O)
 have ph6:=of_decide_eq_false (Bool.or_eq_false_iff.1 h5).1;have ph7:=of_decide_eq_false (Bool.or_eq_false_iff.1 h5).2;refine go4 ?_;refine sQ (aE (v':=.pointer (some (slb (.slice p_p p.length c_p) ((k.toNat)*18+0)))) (lG (e:=elI) (l:=p) (k:=(k).toNat) eR O O oo_ (SLe.sub Hp sn) o2_) O) O ?_;refine sQ (bM (e:=elI) (l:=p) (k:=(k).toNat) (o:=0) tyT O (SLe.sub Hp sn) (aF I0 o2_) O) O ?_;refine go3 ?_;refine rtX O (iN O m0 tyT O) ?_;exact congrArg vS2 (show _=(dR p k) from aX h5 O)
theorem D9 (k:Nat) (c0 T0:Nat) (g_f:Nat) (c_f:List Value) (f:I→I→I) (c1 T1:Nat) (p_p:Option Addr) (c_p:Nat) (p:(List I)) (c2 T2:Nat) (p_q:Option Addr) (c_q:Nat) (q:(List I)) (w:World) (hc0:w.heap[c0]? = some (.cells (aW [cfn g_f c_f]).toArray T0 (0,0))) (hc1:w.heap[c1]? = some (.cells (aW [csl p_p p.length c_p]).toArray T1 (0,0))) (hc2:w.heap[c2]? = some (.cells (aW [csl p_q q.length c_q]).toArray T2 (0,0))) (hf:FnV prog w (.func (.func g_f) #[] c_f.toArray) eII (fun _=>True) (cc_ (fun x:I×I=>f x.1 x.2))) (hp:Slr w elI (.slice p_p p.length c_p) p) (hq:Slr w elI (.slice p_q q.length c_q) q) :
  Calls prog 164 [.int .i64 (k:Int),.pointer (some ⟨c0,0,none⟩),.pointer (some ⟨c1,0,none⟩),.pointer (some ⟨c2,0,none⟩)].toArray w (fun e w'=>e = .returned (AV [pI (m9 k f p q)])∧Ext w w'):=by
 refine cY (N:=14) func164 O O zz_ ?_;obtain ⟨w0,rfl⟩:=nm w;have Hf:=hf.get;have Hp:=hp.old;have hm_p:=hp.max;have Hq:=hq.old;have hm_q:=hq.max;refine giI ?_;refine go2 ?_;intro b1 hb1;refine go_ ?_;refine jN sn 9 [8] [8] (pQ O (qQ (v:=.func (.func g_f) #[] c_f.toArray) tyT O hc0 zz_ O) ?_);refine pQ O (qQ (v:=.slice p_p p.length c_p) tyT O hc1 zz_ O) ?_;refine go_ ?_;refine pQ O (aE (v':=AV [pI (dR p (k:Int))]) (dZ aK O (c1_ (uW _ p (k:Int)) Hp sn)) O) (pQ O (qQ (v:=.slice p_q q.length c_q) tyT O hc2 zz_ O) ?_);refine go_ ?_;refine pQ O (aE (v':=AV [pI (dR q (k:Int))]) (dZ aK O (c1_ (uW _ q (k:Int)) Hq sn)) O) (pQ O (aE (v':=AV [pI (f (dR p (k:Int)) (dR q (k:Int)))]) (Z6 (x:=((dR p (k:Int)),(dR q (k:Int)))) O O (FnE.sub Hf sn) trivial) O) (go3 ?_));refine rtX O (iN O m0 tyT O) ?_;exact (by rfl)
theorem o3 (vp:Value) (p:(List I)) (vq:Value) (q:(List I)) (vf:Value) (f:I→I→I) (w:World) (hp:Slr w elI vp p) (hq:Slr w elI vq q) (hf:FnV prog w vf eII (fun _=>True) (cc_ (fun x:I×I=>f x.1 x.2))) (hpre:p.length≤100∧q.length≤100) :
    Calls prog 112 [vp,vq,vf].toArray w (fun e w'=>∃ v,e = .returned (v)∧Ext w w'∧Slo w.heap.size w' 31 elI v (eB p q f)):=by
 obtain ⟨p_p,c_p,rfl⟩:=hp.form;obtain ⟨p_q,c_q,rfl⟩:=hq.form;obtain ⟨g_f,c_f,rfl,Hf⟩:=hf.open;refine eV (n:=21) (fun v=>v) func112 O O zz_ ?_;obtain ⟨w0,rfl⟩:=nm w;have Hp:=hp.old;have hm_p:=hp.max;have Hq:=hq.old;have hm_q:=hq.max;refine giI ?_;refine go2 ?_;intro b1 hb1;refine go_ ?_;intro b2 hb2;refine sX [cfn g_f c_f] O O O fun b3 hb3=>go3 ?_;refine gJv [7,8,9,10,11,12] [(12,.bool ((aP p)||(aP q)))] (fun K2 J2=>?_) ?_
 ·refine go2 ?_;refine sFc (.bool (aP p)) O (c1_ (eO _ p) Hp sn) O O ?_;refine sBB O (fun h5=>?_) (fun h5=>?_)
  ·refine go4 ?_;refine J2 _ _ pp_ s0 (cH (qO h5))
  refine go_ ?_;refine sFc (.bool (aP q)) O (c1_ (eO _ q) Hq sn) O O (go2 ?_);refine J2 _ _ pp_ s0 (cH (mD h5 O))
 intro g6;refine aS _ O (fun h7=>?_) (fun h7=>?_)
 ·refine go_ ?_;refine aQ O (dK (E:=31) (e:=elI) (l:=F_poly_bad) (fun v=>v) aK O (fun w hw=>i8  w) (fun p8 c9 L10 hF11=>go3 ?_));refine rt1 ?_
  have hE:(F_poly_bad:(List I))=(eB p q f):=by exact bL h7 O
  rw [← hE];exact ⟨_,rfl,⟨L10,lZ,hF11⟩⟩
 refine go3 ?_;refine sQ (bT eR O (SLe.sub Hp sn)) O (go_ ?_);refine sQ (bT eR O (SLe.sub Hq sn)) O (sQ (aE (v':=.int .i64 (((max (p.length) (q.length)):Nat):Int)) (CW O O) (congrArg (Value.int .i64) oo_)) O (sQ (nY O O) O (aQ O (dK (E:=31) (e:=elI) (l:=(fK (((max (p.length) (q.length)):Nat):Int) (fun (y:Nat)=>(m9 y f p q)) (fun (y:I)=>(fL y)))) (fun v=>v) aK O (fun w hw=>qP (((max (p.length) (q.length)):Nat):Int) _ (fun (y:Nat)=>(m9 y f p q)) _ (fun (y:I)=>(fL y)) w (FnV.mk hw aK (fun w hw x hx=>D9 x _ _ _ _ f _ _ _ _ p _ _ _ _ q w (hw.mem _ m0) (hw.mem _ m2) (hw.mem _ m1) (FnE.ap hw (FnE.sub Hf sn)) (aR hw Hp sn) (aR hw Hq sn))) (FnV.mk hw aK (fun w hw x hx=>(rS x) w)) oo_) (fun p12 c13 L14 hF15=>go3 ?_)))));refine rt1 ?_
 have hE:((fK (((max (p.length) (q.length)):Nat):Int) (fun (y:Nat)=>(m9 y f p q)) (fun (y:I)=>(fL y))):(List I))=(eB p q f):=by exact aX h7 O
 rw [← hE];exact ⟨_,rfl,⟨L14,lZ,hF15⟩⟩
theorem LP (vp:Value) (p:(List I)) (vq:Value) (q:(List I)) (w:World) (hp:Slr w elI vp p) (hq:Slr w elI vq q) (hpre:p.length≤100∧q.length≤100) :
  Calls prog 173 [vp,vq].toArray w (fun e w'=>∃ v,e = .returned (v)∧Ext w w'∧Slo w.heap.size w' 31 elI v (kF p q)):=by
 obtain ⟨p_p,c_p,rfl⟩:=hp.form;obtain ⟨p_q,c_q,rfl⟩:=hq.form;refine eV (n:=8) (fun v=>v) func173 O O zz_ ?_;obtain ⟨w0,rfl⟩:=nm w;have Hp:=hp.old;have hm_p:=hp.max;have Hq:=hq.old;have hm_q:=hq.max;refine giI ?_;refine go6 ?_;refine aQ O (dK (E:=31) (e:=elI) (l:=(eB p q (fun (y:I) (z:I)=>(E (Z.add y.dec z.dec))))) (fun v=>v) aK O (fun w hw=>o3 _ p _ q _ (fun (y:I) (z:I)=>(E (Z.add y.dec z.dec))) w (aR hw Hp sn) (aR hw Hq sn) (FnV.mk hw aK (fun w hw x hx=>(gQ x.1.1 x.2.1 x.1.2 x.2.2) w)) oo_) (fun p1 c2 L3 hF4=>go3 ?_));refine rt1 ?_
 have hE:((eB p q (fun (y:I) (z:I)=>(E (Z.add y.dec z.dec)))):(List I))=(kF p q):=by exact rfl
 rw [← hE];exact ⟨_,rfl,⟨L3,lZ,hF4⟩⟩
theorem GE (k:Nat) (c0 T0:Nat) (p_q:Option Addr) (c_q:Nat) (q:(List I)) (c1 T1:Nat) (p_p:Option Addr) (c_p:Nat) (p:(List I)) (w:World) (hc0:w.heap[c0]? = some (.cells (aW [csl p_q q.length c_q]).toArray T0 (0,0))) (hc1:w.heap[c1]? = some (.cells (aW [csl p_p p.length c_p]).toArray T1 (0,0))) (hq:Slr w elI (.slice p_q q.length c_q) q) (hp:Slr w elI (.slice p_p p.length c_p) p) (hpre:k<300∧p.length≤100∧q.length≤100) :
    Calls prog 43 [.int .i64 (k:Int),.pointer (some ⟨c0,0,none⟩),.pointer (some ⟨c1,0,none⟩)].toArray w (fun e w'=>e = .returned (AV [pI (kO k q p)])∧Ext w w'):=by
 refine cY (N:=36) func43 O O zz_ ?_;obtain ⟨w0,rfl⟩:=nm w;have Hq:=hq.old;have hm_q:=hq.max;have Hp:=hp.old;have hm_p:=hp.max;refine giI ?_;refine go2 ?_;intro b1 hb1;refine go3 ?_;intro b2 hb2;refine go4 ?_;refine sQ (qQ (v:=.slice p_q q.length c_q) tyT O hc0 zz_ O) O ?_;refine sQ (bT eR O (SLe.sub Hq sn)) O (sWi ((k:Int) - (q.length:Int)) O (sWi (((k:Int) - (q.length:Int))+1) O (sQ (aE (v':=.int .i64 ((((k:Int) - (q.length:Int))+1).toNat:Int)) (CW O O) (congrArg (Value.int .i64) oo_)) O (go2 ?_))));refine gJ3 (rg [6] 13 22) (fun g M=>∃ (i:Nat) (mb2:I),(fN k q p (k+2) ((((k:Int) - (q.length:Int))+1).toNat) I0)=(i,mb2)∧(g 6 = .int .i64 (i:Int))∧M=[⟨b2,31,aW [pI mb2]⟩,⟨b1,31,aW [pI I0]⟩]) (fun K_u3 hK_u3=>?_) ?_
 ·refine go_ ?_;refine cF (rg [6] 13 22) (fun g nn M=>∃ (i:Nat) (mb2:I),(fN k q p nn i mb2)=(fN k q p (k+2) ((((k:Int) - (q.length:Int))+1).toNat) I0)∧k+1 - i<nn∧(k+1≤i+q.length)∧(g 6 = .int .i64 (i:Int))∧M=[⟨b2,31,aW [pI mb2]⟩,⟨b1,31,aW [pI I0]⟩]) (k+2) ?start ?round
  case start=>exact ⟨_,s0,(((k:Int) - (q.length:Int))+1).toNat,I0,rfl,o1_,o1_,rfl,rfl⟩
  case round =>
   rintro nn g M ⟨i,mb2,hT0,hq0,hinv0,hg6,rfl⟩;obtain ⟨k0,rfl⟩:∃ m,nn=m+1:=⟨nn - 1,by omega⟩;refine gS1 hg6 ?_;clear hg6;refine go4 ?_;refine sQ (qQ (v:=.slice p_p p.length c_p) tyT O hc1 zz_ O) O ?_;refine sQ (bT eR O (SLe.sub Hp sn)) O (sWi ((p.length:Int) - 1) O (sQ (aE (v':=.int .i64 (min (k:Int) ((p.length:Int) - 1))) (eL_ O O) (congrArg (Value.int .i64) oo_)) O (go2 ?_)));refine aS _ O (fun h6=>?_) (fun h6=>?_)
   ·have ph6:=of_decide_eq_true h6;refine go3 ?_;refine kV (sd s0) 14 [13] [13] (go_ ?_);refine pQ O (qQ (v:=.slice p_p p.length c_p) tyT O hc1 zz_ O) ?_;refine go_ ?_;refine pQ O (aE (v':=.pointer (some (slb (.slice p_p p.length c_p) (i*18+0)))) (aM (e:=elI) (l:=p) (k:=i) eR O O (SLe.sub Hp sn) o2_) O) ?_;refine pQ O (bM (e:=elI) (l:=p) (k:=i) (o:=0) tyT O (SLe.sub Hp sn) (aF I0 o2_) O) ?_;refine pQ O (qQ (v:=.slice p_q q.length c_q) tyT O hc0 zz_ O) ?_;refine go2 ?_;refine pV (.int .i64 ((k:Int) - (i:Int))) O wxo (pQ O (aE (v':=.pointer (some (slb (.slice p_q q.length c_q) ((k - i)*18+0)))) (lG (e:=elI) (l:=q) (k:=(k - i)) eR O O oo_ (SLe.sub Hq sn) o2_) O) ?_);refine pQ O (bM (e:=elI) (l:=q) (k:=(k - i)) (o:=0) tyT O (SLe.sub Hq sn) (aF I0 o2_) O) ?_;refine pC (AV [pI (E (Z.mul (p.getD i I0).dec (q.getD (k - i) I0).dec))]) aK (cV (p.getD i I0).1 (q.getD (k - i) I0).1 (p.getD i I0).2 (q.getD (k - i) I0).2) O O O (pC (AV [pI (E (Z.add mb2.dec (Z.mul (p.getD i I0).dec (q.getD (k - i) I0).dec)))]) aK (gQ mb2.1 (E (Z.mul (p.getD i I0).dec (q.getD (k - i) I0).dec)).1 mb2.2 (E (Z.mul (p.getD i I0).dec (q.getD (k - i) I0).dec)).2) O O (cg2 (fun p q=>AV [pI (E (Z.add p q))]) O (bR _)) (go4 ?_));refine sWi (((i+1):Nat):Int) O (go2 ?_);refine ⟨pp_,_,_,s0,(Nat.lt_succ_self _),(i+1),(E (Z.add mb2.dec (Z.mul (p.getD i I0).dec (q.getD (k - i) I0).dec))),(by exact (hT0.symm.trans (Eq.symm (bL h6 O))).symm),(Nat.lt_of_lt_of_le o1_ (Nat.le_of_lt_succ hq0)),o1_,rfl,rfl⟩
   have ph6:=of_decide_eq_false h6;refine go_ ?_;refine hK_u3 _ _ pp_ ⟨_,s0,i,mb2,(by exact hT0.symm.trans (Eq.symm (aX h6 O))),rfl,rfl⟩
 rintro g M ⟨i,mb2,hCu3,hg6,rfl⟩;refine gS1 hg6 ?_;clear hg6;refine go5 ?_;refine rtX O (iN O m1 tyT O) ?_;exact congrArg vS2 (show _=(kO k q p) from (by unfold kO;exact trs (Eq.symm (apS hCu3)) O))
theorem LR (vp:Value) (p:(List I)) (vq:Value) (q:(List I)) (w:World) (hp:Slr w elI vp p) (hq:Slr w elI vq q) (hpre:p.length≤100∧q.length≤100) :
    Calls prog 8 [vp,vq].toArray w (fun e w'=>∃ v,e = .returned (v)∧Ext w w'∧Slo w.heap.size w' 31 elI v (fV p q)):=by
 obtain ⟨p_p,c_p,rfl⟩:=hp.form;obtain ⟨p_q,c_q,rfl⟩:=hq.form;refine eV (n:=28) (fun v=>v) func8 O O zz_ ?_;obtain ⟨w0,rfl⟩:=nm w;have Hp:=hp.old;have hm_p:=hp.max;have Hq:=hq.old;have hm_q:=hq.max;refine giI ?_;refine go2 ?_;intro b1 hb1;refine go_ ?_;intro b2 hb2;refine go3 ?_;refine gJv [5,6,7,8,9,10] [(10,.bool ((aP p)||(aP q)))] (fun K2 J2=>?_) ?_
 ·refine go2 ?_;refine sFc (.bool (aP p)) O (c1_ (eO _ p) Hp sn) O O ?_;refine sBB O (fun h4=>?_) (fun h4=>?_)
  ·refine go4 ?_;refine J2 _ _ pp_ s0 (cH (qO h4))
  refine go_ ?_;refine sFc (.bool (aP q)) O (c1_ (eO _ q) Hq sn) O O (go2 ?_);refine J2 _ _ pp_ s0 (cH (mD h4 O))
 intro g5;refine aS _ O (fun h6=>?_) (fun h6=>?_)
 ·refine go_ ?_;refine aQ O (dK (E:=31) (e:=elI) (l:=F_poly_bad) (fun v=>v) aK O (fun w hw=>i8  w) (fun p7 c8 L9 hF10=>go3 ?_));refine rt1 ?_
  have hE:(F_poly_bad:(List I))=(fV p q):=by exact bL h6 O
  rw [← hE];exact ⟨_,rfl,⟨L9,lZ,hF10⟩⟩
 refine go2 ?_;refine gJv (rg [] 12 8) [(19,.bool (((p.length:Int)==0)||((q.length:Int)==0)))] (fun K4 J4=>?_) ?_
 ·refine go2 ?_;refine sQ (bT eR O (SLe.sub Hp sn)) O (go_ ?_);refine sBB O (fun h12=>?_) (fun h12=>?_)
  ·have ph12:=wG h12;refine go5 ?_;refine J4 _ _ pp_ s0 (cH (qO h12))
  have ph12:=oO h12;refine go_ ?_;refine sQ (bT eR O (SLe.sub Hq sn)) O (go3 ?_);refine J4 _ _ pp_ s0 (cH (mD h12 O))
 intro g13;refine aS _ O (fun h14=>?_) (fun h14=>?_)
 ·refine go4 ?_;refine rt1 ?_
  have hE:(([]:List I):(List I))=(fV p q):=by exact aX h6 (bL h14 O)
  rw [← hE];exact ⟨_,rfl,⟨[],sn,OwnG.nil⟩⟩
 have ph15:=oO (Bool.or_eq_false_iff.1 h14).1;have ph16:=oO (Bool.or_eq_false_iff.1 h14).2;refine go3 ?_;refine sQ (bT eR O (SLe.sub Hp sn)) O (go_ ?_);refine sQ (bT eR O (SLe.sub Hq sn)) O (sWi (((p.length+(q).length):Nat):Int) O (sWi ((((p.length+(q).length):Nat):Int) - 1) O (sQ (nY O O) O (aQ O (dK (E:=31) (e:=elI) (l:=(fK ((((p.length+(q).length):Nat):Int) - 1) (fun (y:Nat)=>(kO y q p)) (fun (y:I)=>(fL y)))) (fun v=>v) aK O (fun w hw=>qP ((((p.length+(q).length):Nat):Int) - 1) _ (fun (y:Nat)=>(kO y q p)) _ (fun (y:I)=>(fL y)) w (FnV.mk hw aK (fun w hw x hx=>GE x _ _ _ _ q _ _ _ _ p w (hw.mem _ m0) (hw.mem _ m1) (aR hw Hq sn) (aR hw Hp sn) (by have hx':(x:Int)<_:=hx;omega))) (FnV.mk hw aK (fun w hw x hx=>(rS x) w)) oo_) (fun p17 c18 L19 hF20=>go3 ?_))))));refine rt1 ?_
 have hE:((fK ((((p.length+(q).length):Nat):Int) - 1) (fun (y:Nat)=>(kO y q p)) (fun (y:I)=>(fL y))):(List I))=(fV p q):=by exact aX h6 (aX h14 O)
 rw [← hE];exact ⟨_,rfl,⟨L19,lZ,hF20⟩⟩
theorem CT (a:I) (b:I) (c0 T0:Nat) (n:I) (w:World) (hc0:w.heap[c0]? = some (.cells (aW [pI n]).toArray T0 (0,0))) :
  Calls prog 161 [AV [pI a],AV [pI b],.pointer (some ⟨c0,0,none⟩)].toArray w (fun e w'=>e = .returned (AV [pI (l6 a b n)])∧Ext w w'):=by
 refine cY (N:=9) func161 O O zz_ ?_;obtain ⟨w0,rfl⟩:=nm w;refine giI ?_;refine go2 ?_;intro b1 hb1;refine go_ ?_;intro b2 hb2;refine go_ ?_;intro b3 hb3;refine go3 ?_;refine sQ (O7 tyT O hc0 zz_ O) O ?_;refine sC (AV [pI (E (Z.mul a.dec n.dec))]) aK (cV a.1 n.1 a.2 n.2) O O O (go3 ?_);refine rtX O (iN O m0 tyT O) ?_;exact (by rfl)
theorem GF (vp:Value) (p:(List I)) (n:I) (w:World) (hp:Slr w elI vp p) (hpre:p.length≤100) :
   Calls prog 108 [vp,AV [pI n]].toArray w (fun e w'=>∃ v,e = .returned (v)∧Ext w w'∧Slo w.heap.size w' 31 elI v (bP p n)):=by
 obtain ⟨p_p,c_p,rfl⟩:=hp.form;refine eV (n:=12) (fun v=>v) func108 O O zz_ ?_;obtain ⟨w0,rfl⟩:=nm w;have Hp:=hp.old;have hm_p:=hp.max;refine giI ?_;refine go2 ?_;intro b1 hb1;refine go5 ?_;refine sQ (aY aK (u7 n) O) O (go2 ?_);rcases bt (mF n) with h2|h2
 ·refine W_f (i3 h2) O (go3 ?_);refine sQ (nY O O) O (aQ O (dK (E:=31) (e:=elI) (l:=(eB p ([]:List I) (fun (y:I) (z:I)=>(l6 y z n)))) (fun v=>v) aK O (fun w hw=>o3 _ p _ ([]:List I) _ (fun (y:I) (z:I)=>(l6 y z n)) w (aR hw Hp sn) (SLe.ap hw (SLfe.sle SLfe.nil)) (FnV.mk hw aK (fun w hw x hx=>CT x.1 x.2 _ _ n w (hw.mem _ m0))) o3_) (fun p3 c4 L5 hF6=>?_)));refine go3 ?_;refine rt1 ?_
  have hE:((eB p ([]:List I) (fun (y:I) (z:I)=>(l6 y z n))):(List I))=(bP p n):=by exact bL h2 O
  rw [← hE];exact ⟨_,rfl,⟨L5,lZ,hF6⟩⟩
 refine W_t (i4 h2) O (go_ ?_);refine aQ O (dK (E:=31) (e:=elI) (l:=F_poly_bad) (fun v=>v) aK O (fun w hw=>i8  w) (fun p7 c8 L9 hF10=>go3 ?_));refine rt1 ?_
 have hE:(F_poly_bad:(List I))=(bP p n):=by exact aX h2 O
 rw [← hE];exact ⟨_,rfl,⟨L9,lZ,hF10⟩⟩
theorem BN (k:Nat) (c0 T0:Nat) (p_p:Option Addr) (c_p:Nat) (p:(List I)) (w:World) (hc0:w.heap[c0]? = some (.cells (aW [csl p_p p.length c_p]).toArray T0 (0,0))) (hp:Slr w elI (.slice p_p p.length c_p) p) (hpre:k+1<p.length∧p.length≤100) :
  Calls prog 111 [.int .i64 (k:Int),.pointer (some ⟨c0,0,none⟩)].toArray w (fun e w'=>e = .returned (AV [pI (jS k p)])∧Ext w w'):=by
 refine cY (N:=13) func111 O O zz_ ?_;obtain ⟨w0,rfl⟩:=nm w;have Hp:=hp.old;have hm_p:=hp.max;refine giI ?_;refine go2 ?_;intro b1 hb1;refine go_ ?_;refine jN sn 10 [9] [9] (go_ ?_);refine pV (.int .i64 (((k+1):Nat):Int)) O wxo (pC (AV [pI (E (Z.of (((k+1):Nat):Int)))]) aK (dV (((k+1):Nat):Int) (by unfold I64;omega)) O O O (pQ O (qQ (v:=.slice p_p p.length c_p) tyT O hc0 zz_ O) ?_));refine go_ ?_;refine pV (.int .i64 (((k+1):Nat):Int)) O wxo (pQ O (aE (v':=.pointer (some (slb (.slice p_p p.length c_p) ((k+1)*18+0)))) (aM (e:=elI) (l:=p) (k:=(k+1)) eR O O (SLe.sub Hp sn) o2_) O) ?_);refine pQ O (bM (e:=elI) (l:=p) (k:=(k+1)) (o:=0) tyT O (SLe.sub Hp sn) (aF I0 o2_) O) ?_;refine pC (AV [pI (E (Z.mul (Z.of (((k+1):Nat):Int)) (p.getD (k+1) I0).dec))]) aK (cV (E (Z.of (((k+1):Nat):Int))).1 (p.getD (k+1) I0).1 (E (Z.of (((k+1):Nat):Int))).2 (p.getD (k+1) I0).2) O O (cg2 (fun p q=>AV [pI (E (Z.mul p q))]) (bR _) O) (go3 ?_);refine rtX O (iN O m0 tyT O) ?_;exact (by rfl)
theorem xG (vp:Value) (p:(List I)) (w:World) (hp:Slr w elI vp p) (hpre:p.length≤100) :
   Calls prog 57 [vp].toArray w (fun e w'=>∃ v,e = .returned (v)∧Ext w w'∧Slo w.heap.size w' 31 elI v (aD p)):=by
 obtain ⟨p_p,c_p,rfl⟩:=hp.form;refine eV (n:=11) (fun v=>v) func57 O O zz_ ?_;obtain ⟨w0,rfl⟩:=nm w;have Hp:=hp.old;have hm_p:=hp.max;refine giI ?_;refine go2 ?_;intro b1 hb1;refine go5 ?_;refine sFc (.bool (aP p)) O (c1_ (eO _ p) Hp sn) O O (go_ ?_);refine aS _ O (fun h2=>?_) (fun h2=>?_)
 ·refine go_ ?_;refine aQ O (dK (E:=31) (e:=elI) (l:=F_poly_bad) (fun v=>v) aK O (fun w hw=>i8  w) (fun p3 c4 L5 hF6=>go3 ?_));refine rt1 ?_
  have hE:(F_poly_bad:(List I))=(aD p):=by exact bL h2 O
  rw [← hE];exact ⟨_,rfl,⟨L5,lZ,hF6⟩⟩
 refine go3 ?_;refine sQ (bT eR O (SLe.sub Hp sn)) O (sWi ((p.length:Int) - 1) O (sQ (nY O O) O (aQ O (dK (E:=31) (e:=elI) (l:=(fK ((p.length:Int) - 1) (fun (y:Nat)=>(jS y p)) (fun (y:I)=>(fL y)))) (fun v=>v) aK O (fun w hw=>qP ((p.length:Int) - 1) _ (fun (y:Nat)=>(jS y p)) _ (fun (y:I)=>(fL y)) w (FnV.mk hw aK (fun w hw x hx=>BN x _ _ _ _ p w (hw.mem _ m0) (aR hw Hp sn) (by have hx':(x:Int)<_:=hx;omega))) (FnV.mk hw aK (fun w hw x hx=>(rS x) w)) oo_) (fun p7 c8 L9 hF10=>go3 ?_)))));refine rt1 ?_
 have hE:((fK ((p.length:Int) - 1) (fun (y:Nat)=>(jS y p)) (fun (y:I)=>(fL y))):(List I))=(aD p):=by exact aX h2 O
 rw [← hE];exact ⟨_,rfl,⟨L9,lZ,hF10⟩⟩
theorem vV (vl:Value) (l:(List I)) (w:World) (hl:Slr w elI vl l) :
    Calls prog 89 [vl].toArray w (fun e w'=>e = .returned (AV [pI (dB l)])∧Ext w w'):=by
 obtain ⟨p_l,c_l,rfl⟩:=hl.form;refine cY (N:=17) func89 O O zz_ ?_;obtain ⟨w0,rfl⟩:=nm w;have Hl:=hl.old;have hm_l:=hl.max;refine giI ?_;refine go2 ?_;intro b1 hb1;refine go3 ?_;intro b2 hb2;refine go4 ?_;refine sQ (bT o7 O (SLe.sub Hl sn)) O (go2 ?_);refine gJ3 (rg [5] 8 8) (fun g M=>∃ (mb2:I),(iC l l I0)=mb2∧(True)∧M=[⟨b2,31,aW [pI mb2]⟩,⟨b1,31,aW [pI I0]⟩]) (fun K_u3 hK_u3=>?_) ?_
 ·refine go_ ?_;have hmx0:(l).length≤9223372036854775807:=hm_l;refine cF (rg [5] 8 8) (fun g nn M=>∃ (i0:Nat) (l0:List I) (mb2:I),(iC l l0 mb2)=(iC l l I0)∧(l).drop i0=l0∧l0.length=nn∧g 8 = .int .i64 (i0:Int)∧(True)∧M=[⟨b2,31,aW [pI mb2]⟩,⟨b1,31,aW [pI I0]⟩]) l.length ?start ?round
  case start=>exact ⟨_,s0,0,l,I0,rfl,rfl,rfl,rfl,trivial,rfl⟩
  case round =>
   rintro nn g M ⟨i0,l0,mb2,hT0,hr0,rfl,hgi,-,rfl⟩;refine gS1 hgi ?_;clear hgi;refine go4 ?_;rcases l0 with _|⟨x0,l0⟩
   ·have h12:=zC hr0;refine W_f h12 O (go_ ?_);refine hK_u3 _ _ pp_ ⟨_,s0,mb2,(by exact hT0.symm.trans (Eq.symm rfl)),trivial,rfl⟩
   have h13:=vH hr0;have g14:=rG hr0;refine W_t h13 O (go4 ?_);refine sQ (aE (v':=.pointer (some (slb (.slice p_l l.length c_l) (i0*18+0)))) (aM (e:=elI) (l:=l) (k:=i0) o7 O O (SLe.sub Hl sn) g14.2.1) O) O (sQ (bM (e:=elI) (l:=l) (k:=i0) (o:=0) tyT O (SLe.sub Hl sn) g14.1 O) O (go_ ?_));intro b15 hb15;refine go5 ?_;refine sC (AV [pI (E (Z.gcd mb2.dec x0.dec))]) aK (rY mb2.1 x0.1 mb2.2 x0.2) O O O (go3 ?_);refine sV (.int .i64 ((i0+1:Nat):Int)) O (congrArg (Value.int .i64) (nxt g14.2.1 hmx0)) (go2 ?_);refine ⟨pp_,_,_,(sd s0),(Nat.lt_succ_self _),i0+1,l0,(E (Z.gcd mb2.dec x0.dec)),(by exact (hT0.symm.trans (Eq.symm rfl)).symm),g14.2.2,rfl,rfl,trivial,rfl⟩
 rintro g M ⟨mb2,hCu3,-,rfl⟩;refine gS0 ?_;refine go5 ?_;refine rtX O (iN O m1 tyT O) ?_;exact congrArg vS2 (show _=(dB l) from (by unfold dB;exact trs (Eq.symm (apS hCu3)) O))
theorem yN (a:I) (b:I) (c0 T0:Nat) (n:I) (w:World) (hc0:w.heap[c0]? = some (.cells (aW [pI n]).toArray T0 (0,0))) :
  Calls prog 113 [AV [pI a],AV [pI b],.pointer (some ⟨c0,0,none⟩)].toArray w (fun e w'=>e = .returned (AV [pI (j6 a b n)])∧Ext w w'):=by
 refine cY (N:=9) func113 O O zz_ ?_;obtain ⟨w0,rfl⟩:=nm w;refine giI ?_;refine go2 ?_;intro b1 hb1;refine go_ ?_;intro b2 hb2;refine go_ ?_;intro b3 hb3;refine go3 ?_;refine sQ (O7 tyT O hc0 zz_ O) O ?_;refine sC (AV [pI (E (Z.quo a.dec n.dec))]) aK (iM a.1 n.1 a.2 n.2) O O O (go3 ?_);refine rtX O (iN O m0 tyT O) ?_;exact (by rfl)
theorem jE (vp:Value) (p:(List I)) (w:World) (hp:Slr w elI vp p) (hpre:p.length≤100) :
  Calls prog 58 [vp].toArray w (fun e w'=>∃ v,e = .returned (v)∧Ext w w'∧Slo w.heap.size w' 31 elI v (aC p)):=by
 obtain ⟨p_p,c_p,rfl⟩:=hp.form;refine eV (n:=9) (fun v=>v) func58 O O zz_ ?_;obtain ⟨w0,rfl⟩:=nm w;have Hp:=hp.old;have hm_p:=hp.max;refine giI ?_;refine go5 ?_;refine sFc (AV [pI (dB p)]) O (c1_ (vV _ p) Hp sn) O O (go_ ?_);intro b1 hb1;refine go4 ?_;refine sQ (nY O O) O (aQ O (dK (E:=31) (e:=elI) (l:=(eB p ([]:List I) (fun (y:I) (z:I)=>(j6 y z (dB p))))) (fun v=>v) aK O (fun w hw=>o3 _ p _ ([]:List I) _ (fun (y:I) (z:I)=>(j6 y z (dB p))) w (aR hw Hp sn) (SLe.ap hw (SLfe.sle SLfe.nil)) (FnV.mk hw aK (fun w hw x hx=>yN x.1 x.2 _ _ (dB p) w (hw.mem _ m0))) o3_) (fun p2 c3 L4 hF5=>?_)));refine go3 ?_;refine rt1 ?_
 have hE:((eB p ([]:List I) (fun (y:I) (z:I)=>(j6 y z (dB p)))):(List I))=(aC p):=by exact rfl
 rw [← hE];exact ⟨_,rfl,⟨L4,lZ,hF5⟩⟩
end Go.Proofs.YtcjoflcajgaifaaGreatDoor
