/- Lemmas: what they ask stands in their statements. -/
import Derived.Test.YtkjjponijamaoaaGreatDoorTYa
set_option linter.unusedSimpArgs false
set_option linter.unusedVariables false
set_option maxHeartbeats 8000000
set_option maxRecDepth 20000
namespace Go.Proofs.YtkjjponijamaoaaGreatDoor
open Go.Kn Go.Num Tryz
attribute [local irreducible] Go.Kn.W WL PL OpQ OpR OpS
theorem JP (k:Nat) (c0 T0:Nat) (p_l:Option Addr) (c_l:Nat) (l:(List I)) (w:World) (hc0:w.heap[c0]? = some (.cells (cV [csl p_l l.length c_l]).toArray T0 (0,0))) (hl:Slr w elI (.slice p_l l.length c_l) l) (hpre:k<l.length) :
    Calls prog 283 [.int .i64 ((k:Nat):Int),.pointer (some ⟨c0,0,none⟩)].toArray w (fun e w'=>e = .returned (AV [pI (uC k l)])∧Ext w w'):=by
 refine cS (N:=8) func283 rfl rfl (by simp) ?_;obtain ⟨w0,rfl⟩:∃ w0,w0=w:=⟨_,rfl⟩;have Hl:=hl.old;have hm_l:=hl.max;simp only [bO,Nat.reduceAdd];refine go2 ?_;intro b1 hb1;refine go2 ?_;refine sQ (nQ (v:=.slice p_l l.length c_l) tyT rfl hc0 (by simp) rfl) rfl ?_;refine go_ ?_;refine sQ (aL (v':=.pointer (some (slb (.slice p_l l.length c_l) (k * 18+0)))) (lI (e:=elI) (l:=l) (k:=k) pF rfl rfl (SLe.sub Hl sn) o2_) rfl) rfl ?_;refine sQ (mE (e:=elI) (l:=l) (k:=k) (o:=0) tyT rfl (SLe.sub Hl sn) (eH I0 o2_) rfl) rfl ?_;refine go3 ?_;refine bA rfl (.inr rfl) (eF rfl m0 tyT rfl) ?_;exact (by rfl)
theorem F9 (vl:Value) (l:(List I)) (w:World) (hl:Slr w elI vl l) (hpre:l.length≤200) :
    Calls prog 282 [vl].toArray w (fun e w'=>∃ v,e = .returned (v)∧Ext w w'∧Slo w.heap.size w' 31 elI v (gO l)):=by
 obtain ⟨p_l,c_l,rfl⟩:=hl.form;refine dW (n:=7) (fun v=>v) func282 rfl rfl (by simp) ?_;obtain ⟨w0,rfl⟩:∃ w0,w0=w:=⟨_,rfl⟩;have Hl:=hl.old;have hm_l:=hl.max;simp only [bO,Nat.reduceAdd];refine go2 ?_;intro b1 hb1;refine go4 ?_;refine sQ (aL (v':=.int .i64 (((l).length:Nat):Int)) (eR (e:=elI) pF rfl (SLe.sub Hl sn)) rfl) rfl (sQ (BJ rfl rfl) rfl (bD rfl (aN (E:=31) (e:=elI) (l:=(kO (((l).length:Nat):Int) (fun (y:Nat)=>(uC y l)) (fun (y:I)=>(mN y)))) (fun v=>v) aB rfl (fun w hw=>zZ (((l).length:Nat):Int) _ (fun (y:Nat)=>(uC y l)) _ (fun (y:I)=>(mN y)) w (FnV.mk hw aB (fun w hw x hx=>JP x _ _ _ _ l w (hw.mem _ m0) (aR hw Hl sn) (Int.ofNat_lt.1 hx))) (FnV.mk hw aB (fun w hw x hx=>(BH x) w)) oo_) (fun p2 c3 L4 hF5=>go3 ?_))));refine bA rfl (.inr rfl) rfl ?_
 have hE:((kO (((l).length:Nat):Int) (fun (y:Nat)=>(uC y l)) (fun (y:I)=>(mN y))):(List I))=(gO l):=by exact rfl
 rw [← hE];exact ⟨_,rfl,⟨L4,lZ,hF5⟩⟩
theorem N3 (k:Nat) (c0 T0:Nat) (p_l:Option Addr) (c_l:Nat) (l:(List W)) (w:World) (hc0:w.heap[c0]? = some (.cells (cV [csl p_l l.length c_l]).toArray T0 (0,0))) (hl:Slr w elW (.slice p_l l.length c_l) l) (hpre:k<l.length) :
    Calls prog 239 [.int .i64 ((k:Nat):Int),.pointer (some ⟨c0,0,none⟩)].toArray w (fun e w'=>e = .returned (.int .i64 ((yX k l).1))∧Ext w w'):=by
 refine cS (N:=8) func239 rfl rfl (by simp) ?_;obtain ⟨w0,rfl⟩:∃ w0,w0=w:=⟨_,rfl⟩;have Hl:=hl.old;have hm_l:=hl.max;simp only [bO,Nat.reduceAdd];refine go4 ?_;refine sQ (nQ (v:=.slice p_l l.length c_l) tyT rfl hc0 (by simp) rfl) rfl ?_;refine go_ ?_;refine sQ (aL (v':=.pointer (some (slb (.slice p_l l.length c_l) (k * 1+0)))) (lI (e:=elW) (l:=l) (k:=k) jK rfl rfl (SLe.sub Hl sn) o2_) rfl) rfl ?_;refine sQ (MU (u:=.int .i64 ((l.getD k W.z).1)) (e:=elW) (l:=l) (k:=k) (o:=0) tyT rfl (SLe.sub Hl sn) (eH W.z o2_) rfl) rfl ?_;refine go3 ?_;refine bA rfl (.inr rfl) rfl ?_;exact (by rfl)
theorem pW (vl:Value) (l:(List W)) (w:World) (hl:Slr w elW vl l) (hpre:l.length≤200) :
    Calls prog 178 [vl].toArray w (fun e w'=>∃ v,e = .returned (v)∧Ext w w'∧Slo w.heap.size w' 31 elI v (dS l)):=by
 obtain ⟨p_l,c_l,rfl⟩:=hl.form;refine dW (n:=7) (fun v=>v) func178 rfl rfl (by simp) ?_;obtain ⟨w0,rfl⟩:∃ w0,w0=w:=⟨_,rfl⟩;have Hl:=hl.old;have hm_l:=hl.max;simp only [bO,Nat.reduceAdd];refine go2 ?_;intro b1 hb1;refine go4 ?_;refine sQ (aL (v':=.int .i64 (((l).length:Nat):Int)) (eR (e:=elW) jK rfl (SLe.sub Hl sn)) rfl) rfl (sQ (BJ rfl rfl) rfl (bD rfl (aN (E:=31) (e:=elI) (l:=(pG (((l).length:Nat):Int) (fun (y:Nat)=>(yX y l)) (fun (y:Go.Num.W)=>(E (Z.of y.1))))) (fun v=>v) aB rfl (fun w hw=>JQ (((l).length:Nat):Int) _ (fun (y:Nat)=>(yX y l)) _ (fun (y:Go.Num.W)=>(E (Z.of y.1))) w (FnV.mk hw aB (fun w hw x hx=>N3 x _ _ _ _ l w (hw.mem _ m0) (aR hw Hl sn) (Int.ofNat_lt.1 hx))) (FnV.mk hw aB (fun w hw x hx=>(dO x.1 x.2) w)) oo_) (fun p2 c3 L4 hF5=>go3 ?_))));refine bA rfl (.inr rfl) rfl ?_
 have hE:((pG (((l).length:Nat):Int) (fun (y:Nat)=>(yX y l)) (fun (y:Go.Num.W)=>(E (Z.of y.1)))):(List I))=(dS l):=by exact rfl
 rw [← hE];exact ⟨_,rfl,⟨L4,lZ,hF5⟩⟩
theorem E0 (vp:Value) (p:(List I)) (k:Int) (w:World) (hp:Slr w elI vp p) :
    Calls prog 241 [vp,.int .i64 k].toArray w (fun e w'=>e = .returned (AV [pI (lL p k)])∧Ext w w'):=by
 obtain ⟨p_p,c_p,rfl⟩:=hp.form;refine cS (N:=18) func241 rfl rfl (by simp) ?_;obtain ⟨w0,rfl⟩:∃ w0,w0=w:=⟨_,rfl⟩;have Hp:=hp.old;have hm_p:=hp.max;simp only [bO,Nat.reduceAdd];refine go2 ?_;intro b1 hb1;refine go2 ?_;refine gJv [5,6,7,8,9,10,11,12] [(12,.bool (decide (k<0)||decide ((((p).length:Nat):Int)≤k)))] (fun K2 J2=>?_) ?_
 ·refine go3 ?_;refine sBB rfl (fun h3=>?_) (fun h3=>?_)
  ·have ph3:=of_decide_eq_true h3;refine go6 ?_;refine J2 _ _ pp_ s0 (bK (mF h3))
  have ph3:=of_decide_eq_false h3;refine go2 ?_;refine sQ (aL (v':=.int .i64 (((p).length:Nat):Int)) (eR (e:=elI) jV rfl (SLe.sub Hp sn)) rfl) rfl (go3 ?_);refine J2 _ _ pp_ s0 (bK (j9 h3 rfl))
 intro g4;refine aH _ rfl (fun h5=>?_) (fun h5=>?_)
 ·refine go5 ?_;refine bA rfl (.inr rfl) (eF rfl m0 tyT rfl) ?_;exact congrArg vS4 (show _=(lL p k) from aY h5 rfl)
 have ph6:=of_decide_eq_false (Bool.or_eq_false_iff.1 h5).1;have ph7:=of_decide_eq_false (Bool.or_eq_false_iff.1 h5).2;refine go4 ?_;refine sQ (aL (v':=.pointer (some (slb (.slice p_p p.length c_p) (((k).toNat) * 18+0)))) (u6 (e:=elI) (l:=p) (k:=(k).toNat) jV rfl rfl oo_ (SLe.sub Hp sn) o2_) rfl) rfl ?_;refine sQ (mE (e:=elI) (l:=p) (k:=(k).toNat) (o:=0) tyT rfl (SLe.sub Hp sn) (eH I0 o2_) rfl) rfl ?_;refine go3 ?_;refine bA rfl (.inr rfl) (eF rfl m0 tyT rfl) ?_;exact congrArg vS4 (show _=(lL p k) from aI h5 rfl)
theorem JR (k:Nat) (c0 T0:Nat) (g_f:Nat) (c_f:List Value) (f:I→I→I) (c1 T1:Nat) (p_p:Option Addr) (c_p:Nat) (p:(List I)) (c2 T2:Nat) (p_q:Option Addr) (c_q:Nat) (q:(List I)) (w:World) (hc0:w.heap[c0]? = some (.cells (cV [cfn g_f c_f]).toArray T0 (0,0))) (hc1:w.heap[c1]? = some (.cells (cV [csl p_p p.length c_p]).toArray T1 (0,0))) (hc2:w.heap[c2]? = some (.cells (cV [csl p_q q.length c_q]).toArray T2 (0,0))) (hf:FnV prog w (.func (.func g_f) #[] c_f.toArray) eII (fun _=>True) (bW_ (fun x:I×I=>f x.1 x.2))) (hp:Slr w elI (.slice p_p p.length c_p) p) (hq:Slr w elI (.slice p_q q.length c_q) q) :
    Calls prog 240 [.int .i64 ((k:Nat):Int),.pointer (some ⟨c0,0,none⟩),.pointer (some ⟨c1,0,none⟩),.pointer (some ⟨c2,0,none⟩)].toArray w (fun e w'=>e = .returned (AV [pI (uD k f p q)])∧Ext w w'):=by
 refine cS (N:=14) func240 rfl rfl (by simp) ?_;obtain ⟨w0,rfl⟩:∃ w0,w0=w:=⟨_,rfl⟩;have Hf:=hf.get;have Hp:=hp.old;have hm_p:=hp.max;have Hq:=hq.old;have hm_q:=hq.max;simp only [bO,Nat.reduceAdd];refine go2 ?_;intro b1 hb1;refine go_ ?_;refine oX sn 9 [8] [8] (pQ rfl (nQ (v:=.func (.func g_f) #[] c_f.toArray) tyT rfl hc0 (by simp) rfl) ?_);refine pQ rfl (nQ (v:=.slice p_p p.length c_p) tyT rfl hc1 (by simp) rfl) ?_;refine go_ ?_;refine pQ rfl (aL (v':=AV [pI (lL p ((k:Nat):Int))]) (bT aB rfl (fun w hw=>E0 _ p ((k:Nat):Int) w (aR hw Hp sn))) rfl) (pQ rfl (nQ (v:=.slice p_q q.length c_q) tyT rfl hc2 (by simp) rfl) ?_);refine go_ ?_;refine pQ rfl (aL (v':=AV [pI (lL q ((k:Nat):Int))]) (bT aB rfl (fun w hw=>E0 _ q ((k:Nat):Int) w (aR hw Hq sn))) rfl) (pQ rfl (aL (v':=AV [pI (f (lL p ((k:Nat):Int)) (lL q ((k:Nat):Int)))]) (TR (x:=((lL p ((k:Nat):Int)),(lL q ((k:Nat):Int)))) rfl rfl (FnE.sub Hf sn) trivial) rfl) (go3 ?_));refine bA rfl (.inr rfl) (eF rfl m0 tyT rfl) ?_;exact (by rfl)
theorem yS (vp:Value) (p:(List I)) (vq:Value) (q:(List I)) (vf:Value) (f:I→I→I) (w:World) (hp:Slr w elI vp p) (hq:Slr w elI vq q) (hf:FnV prog w vf eII (fun _=>True) (bW_ (fun x:I×I=>f x.1 x.2))) (hpre:p.length≤100∧q.length≤100) :
    Calls prog 179 [vp,vq,vf].toArray w (fun e w'=>∃ v,e = .returned (v)∧Ext w w'∧Slo w.heap.size w' 31 elI v (kE p q f)):=by
 obtain ⟨p_p,c_p,rfl⟩:=hp.form;obtain ⟨p_q,c_q,rfl⟩:=hq.form;obtain ⟨g_f,c_f,rfl,Hf⟩:=hf.open;refine dW (n:=21) (fun v=>v) func179 rfl rfl (by simp) ?_;obtain ⟨w0,rfl⟩:∃ w0,w0=w:=⟨_,rfl⟩;have Hp:=hp.old;have hm_p:=hp.max;have Hq:=hq.old;have hm_q:=hq.max;simp only [bO,Nat.reduceAdd];refine go2 ?_;intro b1 hb1;refine go_ ?_;intro b2 hb2;refine sX [cfn g_f c_f] rfl rfl rfl fun b3 hb3=>go3 ?_;refine gJv [7,8,9,10,11,12] [(12,.bool ((dR p)||(dR q)))] (fun K2 J2=>?_) ?_
 ·refine go2 ?_;refine sQ (aL (v':=.bool (dR p)) (bT aB rfl (fun w hw=>oM _ p w (aR hw Hp sn))) rfl) rfl ?_;refine sBB rfl (fun h5=>?_) (fun h5=>?_)
  ·refine go4 ?_;refine J2 _ _ pp_ s0 (bK (mF h5))
  refine go_ ?_;refine sQ (aL (v':=.bool (dR q)) (bT aB rfl (fun w hw=>oM _ q w (aR hw Hq sn))) rfl) rfl (go2 ?_);refine J2 _ _ pp_ s0 (bK (j9 h5 rfl))
 intro g6;refine aH _ rfl (fun h7=>?_) (fun h7=>?_)
 ·refine go_ ?_;refine bD rfl (aN (E:=31) (e:=elI) (l:=F_poly_bad) (fun v=>v) aB rfl (fun w hw=>sJ  w) (fun p8 c9 L10 hF11=>go3 ?_));refine bA rfl (.inr rfl) rfl ?_
  have hE:(F_poly_bad:(List I))=(kE p q f):=by exact aY h7 rfl
  rw [← hE];exact ⟨_,rfl,⟨L10,lZ,hF11⟩⟩
 refine go3 ?_;refine sQ (aL (v':=.int .i64 (((p).length:Nat):Int)) (eR (e:=elI) jV rfl (SLe.sub Hp sn)) rfl) rfl (go_ ?_);refine sQ (aL (v':=.int .i64 (((q).length:Nat):Int)) (eR (e:=elI) jV rfl (SLe.sub Hq sn)) rfl) rfl (sQ (aL (v':=.int .i64 (((max ((p).length) ((q).length)):Nat):Int)) (uK rfl rfl) (congrArg (Value.int .i64) oo_)) rfl (sQ (BJ rfl rfl) rfl (bD rfl (aN (E:=31) (e:=elI) (l:=(kO (((max ((p).length) ((q).length)):Nat):Int) (fun (y:Nat)=>(uD y f p q)) (fun (y:I)=>(mN y)))) (fun v=>v) aB rfl (fun w hw=>zZ (((max ((p).length) ((q).length)):Nat):Int) _ (fun (y:Nat)=>(uD y f p q)) _ (fun (y:I)=>(mN y)) w (FnV.mk hw aB (fun w hw x hx=>JR x _ _ _ _ f _ _ _ _ p _ _ _ _ q w (hw.mem _ m0) (hw.mem _ m2) (hw.mem _ m1) (FnE.ap hw (FnE.sub Hf sn)) (aR hw Hp sn) (aR hw Hq sn))) (FnV.mk hw aB (fun w hw x hx=>(BH x) w)) oo_) (fun p12 c13 L14 hF15=>go3 ?_)))));refine bA rfl (.inr rfl) rfl ?_
 have hE:((kO (((max ((p).length) ((q).length)):Nat):Int) (fun (y:Nat)=>(uD y f p q)) (fun (y:I)=>(mN y))):(List I))=(kE p q f):=by exact aI h7 rfl
 rw [← hE];exact ⟨_,rfl,⟨L14,lZ,hF15⟩⟩
theorem j0 (vp:Value) (p:(List I)) (vq:Value) (q:(List I)) (w:World) (hp:Slr w elI vp p) (hq:Slr w elI vq q) (hpre:p.length≤100∧q.length≤100) :
    Calls prog 104 [vp,vq].toArray w (fun e w'=>∃ v,e = .returned (v)∧Ext w w'∧Slo w.heap.size w' 31 elI v (bJ p q)):=by
 obtain ⟨p_p,c_p,rfl⟩:=hp.form;obtain ⟨p_q,c_q,rfl⟩:=hq.form;refine dW (n:=8) (fun v=>v) func104 rfl rfl (by simp) ?_;obtain ⟨w0,rfl⟩:∃ w0,w0=w:=⟨_,rfl⟩;have Hp:=hp.old;have hm_p:=hp.max;have Hq:=hq.old;have hm_q:=hq.max;simp only [bO,Nat.reduceAdd];refine go6 ?_;refine bD rfl (aN (E:=31) (e:=elI) (l:=(kE p q (fun (y:I) (z:I)=>(E (Z.add y.dec z.dec))))) (fun v=>v) aB rfl (fun w hw=>yS _ p _ q _ (fun (y:I) (z:I)=>(E (Z.add y.dec z.dec))) w (aR hw Hp sn) (aR hw Hq sn) (FnV.mk hw aB (fun w hw x hx=>(oH x.1.1 x.2.1 x.1.2 x.2.2) w)) oo_) (fun p1 c2 L3 hF4=>go3 ?_));refine bA rfl (.inr rfl) rfl ?_
 have hE:((kE p q (fun (y:I) (z:I)=>(E (Z.add y.dec z.dec)))):(List I))=(bJ p q):=by exact rfl
 rw [← hE];exact ⟨_,rfl,⟨L3,lZ,hF4⟩⟩
theorem w7 (vp:Value) (p:(List I)) (vq:Value) (q:(List I)) (w:World) (hp:Slr w elI vp p) (hq:Slr w elI vq q) (hpre:p.length≤100∧q.length≤100) :
    Calls prog 101 [vp,vq].toArray w (fun e w'=>∃ v,e = .returned (v)∧Ext w w'∧Slo w.heap.size w' 31 elI v (kJ p q)):=by
 obtain ⟨p_p,c_p,rfl⟩:=hp.form;obtain ⟨p_q,c_q,rfl⟩:=hq.form;refine dW (n:=8) (fun v=>v) func101 rfl rfl (by simp) ?_;obtain ⟨w0,rfl⟩:∃ w0,w0=w:=⟨_,rfl⟩;have Hp:=hp.old;have hm_p:=hp.max;have Hq:=hq.old;have hm_q:=hq.max;simp only [bO,Nat.reduceAdd];refine go6 ?_;refine bD rfl (aN (E:=31) (e:=elI) (l:=(kE p q (fun (y:I) (z:I)=>(E (Z.sub y.dec z.dec))))) (fun v=>v) aB rfl (fun w hw=>yS _ p _ q _ (fun (y:I) (z:I)=>(E (Z.sub y.dec z.dec))) w (aR hw Hp sn) (aR hw Hq sn) (FnV.mk hw aB (fun w hw x hx=>(GG x.1.1 x.2.1 x.1.2 x.2.2) w)) oo_) (fun p1 c2 L3 hF4=>go3 ?_));refine bA rfl (.inr rfl) rfl ?_
 have hE:((kE p q (fun (y:I) (z:I)=>(E (Z.sub y.dec z.dec)))):(List I))=(kJ p q):=by exact rfl
 rw [← hE];exact ⟨_,rfl,⟨L3,lZ,hF4⟩⟩
theorem MP (k:Nat) (c0 T0:Nat) (p_q:Option Addr) (c_q:Nat) (q:(List I)) (c1 T1:Nat) (p_p:Option Addr) (c_p:Nat) (p:(List I)) (w:World) (hc0:w.heap[c0]? = some (.cells (cV [csl p_q q.length c_q]).toArray T0 (0,0))) (hc1:w.heap[c1]? = some (.cells (cV [csl p_p p.length c_p]).toArray T1 (0,0))) (hq:Slr w elI (.slice p_q q.length c_q) q) (hp:Slr w elI (.slice p_p p.length c_p) p) (hpre:k<300∧p.length≤100∧q.length≤100) :
    Calls prog 185 [.int .i64 ((k:Nat):Int),.pointer (some ⟨c0,0,none⟩),.pointer (some ⟨c1,0,none⟩)].toArray w (fun e w'=>e = .returned (AV [pI (nR k q p)])∧Ext w w'):=by
 refine cS (N:=36) func185 rfl rfl (by simp) ?_;obtain ⟨w0,rfl⟩:∃ w0,w0=w:=⟨_,rfl⟩;have Hq:=hq.old;have hm_q:=hq.max;have Hp:=hp.old;have hm_p:=hp.max;simp only [bO,Nat.reduceAdd];refine go2 ?_;intro b1 hb1;refine go3 ?_;intro b2 hb2;refine go4 ?_;refine sQ (nQ (v:=.slice p_q q.length c_q) tyT rfl hc0 (by simp) rfl) rfl ?_;refine sQ (aL (v':=.int .i64 (((q).length:Nat):Int)) (eR (e:=elI) jV rfl (SLe.sub Hq sn)) rfl) rfl (sV (.int .i64 (((k:Nat):Int) - (((q).length:Nat):Int))) rfl (congrArg (Value.int .i64) (wx oo_ oo_ oo_)) (sV (.int .i64 ((((k:Nat):Int) - (((q).length:Nat):Int))+1)) rfl (congrArg (Value.int .i64) (wx oo_ oo_ oo_)) (sQ (aL (v':=.int .i64 (((((((k:Nat):Int) - (((q).length:Nat):Int))+1)).toNat:Nat):Int)) (uK rfl rfl) (congrArg (Value.int .i64) oo_)) rfl (go2 ?_))));refine gJ3 [6,13,14,15,16,17,18,19,20,21,22,23,24,25,26,27,28,29,30,31,32,33,34] (fun g M=>∃ (i:Nat) (mb2:I),(gT k q p ((k+2)) ((((((k:Nat):Int) - (((q).length:Nat):Int))+1)).toNat) I0)=(i,mb2)∧(g 6 = .int .i64 ((i:Nat):Int))∧M=[⟨b2,31,cV [pI mb2]⟩,⟨b1,31,cV [pI I0]⟩]) (fun K_u3 hK_u3=>?_) ?_
 ·refine go_ ?_;refine cK [6,13,14,15,16,17,18,19,20,21,22,23,24,25,26,27,28,29,30,31,32,33,34] (fun g nn M=>∃ (i:Nat) (mb2:I),(gT k q p nn i mb2)=(gT k q p ((k+2)) ((((((k:Nat):Int) - (((q).length:Nat):Int))+1)).toNat) I0)∧k+1 - i<nn∧(k+1≤i+q.length)∧(g 6 = .int .i64 ((i:Nat):Int))∧M=[⟨b2,31,cV [pI mb2]⟩,⟨b1,31,cV [pI I0]⟩]) ((k+2)) ?start ?round
  case start=>exact ⟨_,s0,(((((k:Nat):Int) - (((q).length:Nat):Int))+1)).toNat,I0,rfl,o1_,o1_,rfl,rfl⟩
  case round =>
   rintro nn g M ⟨i,mb2,hT0,hq0,hinv0,hg6,rfl⟩;obtain ⟨k0,rfl⟩:∃ m,nn=m+1:=⟨nn - 1,by omega⟩;simp only [fF,hg6];clear hg6;refine go4 ?_;refine sQ (nQ (v:=.slice p_p p.length c_p) tyT rfl hc1 (by simp) rfl) rfl ?_;refine sQ (aL (v':=.int .i64 (((p).length:Nat):Int)) (eR (e:=elI) jV rfl (SLe.sub Hp sn)) rfl) rfl (sV (.int .i64 ((((p).length:Nat):Int) - 1)) rfl (congrArg (Value.int .i64) (wx oo_ oo_ oo_)) (sQ (aL (v':=.int .i64 (min ((k:Nat):Int) ((((p).length:Nat):Int) - 1))) (b5_ rfl rfl) (congrArg (Value.int .i64) oo_)) rfl (go2 ?_)));refine aH _ rfl (fun h6=>?_) (fun h6=>?_)
   ·have ph6:=of_decide_eq_true h6;refine go3 ?_;refine jQ (sd s0) 14 [13] [13] (go_ ?_);refine pQ rfl (nQ (v:=.slice p_p p.length c_p) tyT rfl hc1 (by simp) rfl) ?_;refine go_ ?_;refine pQ rfl (aL (v':=.pointer (some (slb (.slice p_p p.length c_p) (i * 18+0)))) (lI (e:=elI) (l:=p) (k:=i) jV rfl rfl (SLe.sub Hp sn) o2_) rfl) ?_;refine pQ rfl (mE (e:=elI) (l:=p) (k:=i) (o:=0) tyT rfl (SLe.sub Hp sn) (eH I0 o2_) rfl) ?_;refine pQ rfl (nQ (v:=.slice p_q q.length c_q) tyT rfl hc0 (by simp) rfl) ?_;refine go2 ?_;refine pV (.int .i64 (((k:Nat):Int) - ((i:Nat):Int))) rfl (congrArg (Value.int .i64) (wx oo_ oo_ oo_)) (pQ rfl (aL (v':=.pointer (some (slb (.slice p_q q.length c_q) ((k - i) * 18+0)))) (u6 (e:=elI) (l:=q) (k:=(k - i)) jV rfl rfl oo_ (SLe.sub Hq sn) o2_) rfl) ?_);refine pQ rfl (mE (e:=elI) (l:=q) (k:=(k - i)) (o:=0) tyT rfl (SLe.sub Hq sn) (eH I0 o2_) rfl) ?_;refine pC (AV [pI (E (Z.mul (p.getD i I0).dec (q.getD (k - i) I0).dec))]) aB (fL (p.getD i I0).1 (q.getD (k - i) I0).1 (p.getD i I0).2 (q.getD (k - i) I0).2) rfl rfl rfl (pC (AV [pI (E (Z.add mb2.dec (Z.mul (p.getD i I0).dec (q.getD (k - i) I0).dec)))]) aB (oH mb2.1 (E (Z.mul (p.getD i I0).dec (q.getD (k - i) I0).dec)).1 mb2.2 (E (Z.mul (p.getD i I0).dec (q.getD (k - i) I0).dec)).2) rfl rfl (cg2 (fun p q=>AV [pI (E (Z.add p q))]) rfl (dB _)) (go4 ?_));refine sV (.int .i64 (((i+1):Nat):Int)) rfl (congrArg (Value.int .i64) (wx oo_ oo_ oo_)) (go2 ?_);refine ⟨pp_,_,_,s0,(Nat.lt_succ_self _),(i+1),(E (Z.add mb2.dec (Z.mul (p.getD i I0).dec (q.getD (k - i) I0).dec))),(by exact (hT0.symm.trans (Eq.symm (aY h6 rfl))).symm),(Nat.lt_of_lt_of_le o1_ (Nat.le_of_lt_succ hq0)),o1_,rfl,rfl⟩
   have ph6:=of_decide_eq_false h6;refine go_ ?_;refine hK_u3 _ _ pp_ ⟨_,s0,i,mb2,(by exact hT0.symm.trans (Eq.symm (aI h6 rfl))),rfl,rfl⟩
 rintro g M ⟨i,mb2,hCu3,hg6,rfl⟩;simp only [fF,hg6];clear hg6;refine go5 ?_;refine bA rfl (.inr rfl) (eF rfl m1 tyT rfl) ?_;exact congrArg vS4 (show _=(nR k q p) from (by unfold nR;exact trs (Eq.symm (apS hCu3)) rfl))
theorem lP (vp:Value) (p:(List I)) (vq:Value) (q:(List I)) (w:World) (hp:Slr w elI vp p) (hq:Slr w elI vq q) (hpre:p.length≤100∧q.length≤100) :
    Calls prog 105 [vp,vq].toArray w (fun e w'=>∃ v,e = .returned (v)∧Ext w w'∧Slo w.heap.size w' 31 elI v (aW p q)):=by
 obtain ⟨p_p,c_p,rfl⟩:=hp.form;obtain ⟨p_q,c_q,rfl⟩:=hq.form;refine dW (n:=28) (fun v=>v) func105 rfl rfl (by simp) ?_;obtain ⟨w0,rfl⟩:∃ w0,w0=w:=⟨_,rfl⟩;have Hp:=hp.old;have hm_p:=hp.max;have Hq:=hq.old;have hm_q:=hq.max;simp only [bO,Nat.reduceAdd];refine go2 ?_;intro b1 hb1;refine go_ ?_;intro b2 hb2;refine go3 ?_;refine gJv [5,6,7,8,9,10] [(10,.bool ((dR p)||(dR q)))] (fun K2 J2=>?_) ?_
 ·refine go2 ?_;refine sQ (aL (v':=.bool (dR p)) (bT aB rfl (fun w hw=>oM _ p w (aR hw Hp sn))) rfl) rfl ?_;refine sBB rfl (fun h4=>?_) (fun h4=>?_)
  ·refine go4 ?_;refine J2 _ _ pp_ s0 (bK (mF h4))
  refine go_ ?_;refine sQ (aL (v':=.bool (dR q)) (bT aB rfl (fun w hw=>oM _ q w (aR hw Hq sn))) rfl) rfl (go2 ?_);refine J2 _ _ pp_ s0 (bK (j9 h4 rfl))
 intro g5;refine aH _ rfl (fun h6=>?_) (fun h6=>?_)
 ·refine go_ ?_;refine bD rfl (aN (E:=31) (e:=elI) (l:=F_poly_bad) (fun v=>v) aB rfl (fun w hw=>sJ  w) (fun p7 c8 L9 hF10=>go3 ?_));refine bA rfl (.inr rfl) rfl ?_
  have hE:(F_poly_bad:(List I))=(aW p q):=by exact aY h6 rfl
  rw [← hE];exact ⟨_,rfl,⟨L9,lZ,hF10⟩⟩
 refine go2 ?_;refine gJv [12,13,14,15,16,17,18,19] [(19,.bool (((((p).length:Nat):Int)==0)||((((q).length:Nat):Int)==0)))] (fun K4 J4=>?_) ?_
 ·refine go2 ?_;refine sQ (aL (v':=.int .i64 (((p).length:Nat):Int)) (eR (e:=elI) jV rfl (SLe.sub Hp sn)) rfl) rfl (go_ ?_);refine sBB rfl (fun h12=>?_) (fun h12=>?_)
  ·have ph12:=IB h12;refine go5 ?_;refine J4 _ _ pp_ s0 (bK (mF h12))
  have ph12:=y7 h12;refine go_ ?_;refine sQ (aL (v':=.int .i64 (((q).length:Nat):Int)) (eR (e:=elI) jV rfl (SLe.sub Hq sn)) rfl) rfl (go3 ?_);refine J4 _ _ pp_ s0 (bK (j9 h12 rfl))
 intro g13;refine aH _ rfl (fun h14=>?_) (fun h14=>?_)
 ·refine go4 ?_;refine bA rfl (.inr rfl) rfl ?_
  have hE:(([]:List I):(List I))=(aW p q):=by exact aI h6 (aY h14 rfl)
  rw [← hE];exact ⟨_,rfl,⟨[],sn,OwnG.nil⟩⟩
 have ph15:=y7 (Bool.or_eq_false_iff.1 h14).1;have ph16:=y7 (Bool.or_eq_false_iff.1 h14).2;refine go3 ?_;refine sQ (aL (v':=.int .i64 (((p).length:Nat):Int)) (eR (e:=elI) jV rfl (SLe.sub Hp sn)) rfl) rfl (go_ ?_);refine sQ (aL (v':=.int .i64 (((q).length:Nat):Int)) (eR (e:=elI) jV rfl (SLe.sub Hq sn)) rfl) rfl (sV (.int .i64 ((((p).length+(q).length):Nat):Int)) rfl (congrArg (Value.int .i64) (wx oo_ oo_ oo_)) (sV (.int .i64 (((((p).length+(q).length):Nat):Int) - 1)) rfl (congrArg (Value.int .i64) (wx oo_ oo_ oo_)) (sQ (BJ rfl rfl) rfl (bD rfl (aN (E:=31) (e:=elI) (l:=(kO (((((p).length+(q).length):Nat):Int) - 1) (fun (y:Nat)=>(nR y q p)) (fun (y:I)=>(mN y)))) (fun v=>v) aB rfl (fun w hw=>zZ (((((p).length+(q).length):Nat):Int) - 1) _ (fun (y:Nat)=>(nR y q p)) _ (fun (y:I)=>(mN y)) w (FnV.mk hw aB (fun w hw x hx=>MP x _ _ _ _ q _ _ _ _ p w (hw.mem _ m0) (hw.mem _ m1) (aR hw Hq sn) (aR hw Hp sn) (by have hx':((x:Nat):Int)<_:=hx;omega))) (FnV.mk hw aB (fun w hw x hx=>(BH x) w)) oo_) (fun p17 c18 L19 hF20=>go3 ?_))))));refine bA rfl (.inr rfl) rfl ?_
 have hE:((kO (((((p).length+(q).length):Nat):Int) - 1) (fun (y:Nat)=>(nR y q p)) (fun (y:I)=>(mN y))):(List I))=(aW p q):=by exact aI h6 (aI h14 rfl)
 rw [← hE];exact ⟨_,rfl,⟨L19,lZ,hF20⟩⟩
theorem IQ (a:I) (b:I) (c0 T0:Nat) (n:I) (w:World) (hc0:w.heap[c0]? = some (.cells (cV [pI n]).toArray T0 (0,0))) :
    Calls prog 182 [AV [pI a],AV [pI b],.pointer (some ⟨c0,0,none⟩)].toArray w (fun e w'=>e = .returned (AV [pI (tC a b n)])∧Ext w w'):=by
 refine cS (N:=9) func182 rfl rfl (by simp) ?_;obtain ⟨w0,rfl⟩:∃ w0,w0=w:=⟨_,rfl⟩;simp only [bO,Nat.reduceAdd];refine go2 ?_;intro b1 hb1;refine go_ ?_;intro b2 hb2;refine go_ ?_;intro b3 hb3;refine go3 ?_;refine sQ (TT tyT rfl hc0 (by simp) rfl) rfl ?_;refine sC (AV [pI (E (Z.mul a.dec n.dec))]) aB (fL a.1 n.1 a.2 n.2) rfl rfl rfl (go3 ?_);refine bA rfl (.inr rfl) (eF rfl m0 tyT rfl) ?_;exact (by rfl)
theorem gN (vp:Value) (p:(List I)) (n:I) (w:World) (hp:Slr w elI vp p) (hpre:p.length≤100) :
    Calls prog 102 [vp,AV [pI n]].toArray w (fun e w'=>∃ v,e = .returned (v)∧Ext w w'∧Slo w.heap.size w' 31 elI v (bZ p n)):=by
 obtain ⟨p_p,c_p,rfl⟩:=hp.form;refine dW (n:=12) (fun v=>v) func102 rfl rfl (by simp) ?_;obtain ⟨w0,rfl⟩:∃ w0,w0=w:=⟨_,rfl⟩;have Hp:=hp.old;have hm_p:=hp.max;simp only [bO,Nat.reduceAdd];refine go2 ?_;intro b1 hb1;refine go5 ?_;refine sQ (bI aB (yU n) rfl) rfl (go2 ?_);rcases bt (rZ n) with h2 | h2
 ·refine W_f (gE h2) rfl (go3 ?_);refine sQ (BJ rfl rfl) rfl (bD rfl (aN (E:=31) (e:=elI) (l:=(kE p ([]:List I) (fun (y:I) (z:I)=>(tC y z n)))) (fun v=>v) aB rfl (fun w hw=>yS _ p _ ([]:List I) _ (fun (y:I) (z:I)=>(tC y z n)) w (aR hw Hp sn) (SLe.ap hw (SLfe.sle SLfe.nil)) (FnV.mk hw aB (fun w hw x hx=>IQ x.1 x.2 _ _ n w (hw.mem _ m0))) o3_) (fun p3 c4 L5 hF6=>?_)));refine go3 ?_;refine bA rfl (.inr rfl) rfl ?_
  have hE:((kE p ([]:List I) (fun (y:I) (z:I)=>(tC y z n))):(List I))=(bZ p n):=by exact aY h2 rfl
  rw [← hE];exact ⟨_,rfl,⟨L5,lZ,hF6⟩⟩
 refine W_t (iK h2) rfl (go_ ?_);refine bD rfl (aN (E:=31) (e:=elI) (l:=F_poly_bad) (fun v=>v) aB rfl (fun w hw=>sJ  w) (fun p7 c8 L9 hF10=>go3 ?_));refine bA rfl (.inr rfl) rfl ?_
 have hE:(F_poly_bad:(List I))=(bZ p n):=by exact aI h2 rfl
 rw [← hE];exact ⟨_,rfl,⟨L9,lZ,hF10⟩⟩
theorem CF (vl:Value) (l:(List I)) (w:World) (hl:Slr w elI vl l) :
    Calls prog 187 [vl].toArray w (fun e w'=>e = .returned (AV [pI (dN l)])∧Ext w w'):=by
 obtain ⟨p_l,c_l,rfl⟩:=hl.form;refine cS (N:=17) func187 rfl rfl (by simp) ?_;obtain ⟨w0,rfl⟩:∃ w0,w0=w:=⟨_,rfl⟩;have Hl:=hl.old;have hm_l:=hl.max;simp only [bO,Nat.reduceAdd];refine go2 ?_;intro b1 hb1;refine go3 ?_;intro b2 hb2;refine go4 ?_;refine sQ (aL (v':=.int .i64 (((l).length:Nat):Int)) (eR (e:=elI) pF rfl (SLe.sub Hl sn)) rfl) rfl (go2 ?_);refine gJ3 [5,8,9,10,11,12,13,14,15] (fun g M=>∃ (mb2:I),(lJ l l I0)=mb2∧(True)∧M=[⟨b2,31,cV [pI mb2]⟩,⟨b1,31,cV [pI I0]⟩]) (fun K_u3 hK_u3=>?_) ?_
 ·refine go_ ?_;have hmx0:(l).length≤9223372036854775807:=hm_l;refine cK [5,8,9,10,11,12,13,14,15] (fun g nn M=>∃ (i0:Nat) (l0:List I) (mb2:I),(lJ l l0 mb2)=(lJ l l I0)∧(l).drop i0=l0∧l0.length=nn∧g 8 = .int .i64 ((i0:Nat):Int)∧(True)∧M=[⟨b2,31,cV [pI mb2]⟩,⟨b1,31,cV [pI I0]⟩]) (l).length ?start ?round
  case start=>exact ⟨_,s0,0,l,I0,rfl,rfl,rfl,rfl,trivial,rfl⟩
  case round =>
   rintro nn g M ⟨i0,l0,mb2,hT0,hr0,rfl,hgi,-,rfl⟩;simp only [fF,hgi];clear hgi;refine go4 ?_;rcases l0 with _ | ⟨x0,l0⟩
   ·have h12:=FL hr0;refine W_f h12 rfl (go_ ?_);refine hK_u3 _ _ pp_ ⟨_,s0,mb2,(by exact hT0.symm.trans (Eq.symm (rfl))),trivial,rfl⟩
   have h13:=BZ hr0;have g14:=x9 hr0;refine W_t h13 rfl (go4 ?_);refine sQ (aL (v':=.pointer (some (slb (.slice p_l l.length c_l) (i0 * 18+0)))) (lI (e:=elI) (l:=l) (k:=i0) pF rfl rfl (SLe.sub Hl sn) g14.2.1) rfl) rfl (sQ (mE (e:=elI) (l:=l) (k:=i0) (o:=0) tyT rfl (SLe.sub Hl sn) g14.1 rfl) rfl (go_ ?_));intro b15 hb15;refine go5 ?_;refine sC (AV [pI (E (Z.gcd mb2.dec x0.dec))]) aB (sW mb2.1 x0.1 mb2.2 x0.2) rfl rfl rfl (go3 ?_);refine sV (.int .i64 ((i0+1:Nat):Int)) rfl (congrArg (Value.int .i64) (nxt g14.2.1 hmx0)) (go2 ?_);refine ⟨pp_,_,_,(sd (s0)),(Nat.lt_succ_self _),i0+1,l0,(E (Z.gcd mb2.dec x0.dec)),(by exact (hT0.symm.trans (Eq.symm (rfl))).symm),g14.2.2,rfl,rfl,trivial,rfl⟩
 rintro g M ⟨mb2,hCu3,-,rfl⟩;simp only [fF];refine go5 ?_;refine bA rfl (.inr rfl) (eF rfl m1 tyT rfl) ?_;exact congrArg vS4 (show _=(dN l) from (by unfold dN;exact trs (Eq.symm (apS hCu3)) rfl))
theorem EZ (a:I) (b:I) (c0 T0:Nat) (n:I) (w:World) (hc0:w.heap[c0]? = some (.cells (cV [pI n]).toArray T0 (0,0))) :
    Calls prog 188 [AV [pI a],AV [pI b],.pointer (some ⟨c0,0,none⟩)].toArray w (fun e w'=>e = .returned (AV [pI (pA a b n)])∧Ext w w'):=by
 refine cS (N:=9) func188 rfl rfl (by simp) ?_;obtain ⟨w0,rfl⟩:∃ w0,w0=w:=⟨_,rfl⟩;simp only [bO,Nat.reduceAdd];refine go2 ?_;intro b1 hb1;refine go_ ?_;intro b2 hb2;refine go_ ?_;intro b3 hb3;refine go3 ?_;refine sQ (TT tyT rfl hc0 (by simp) rfl) rfl ?_;refine sC (AV [pI (E (Z.quo a.dec n.dec))]) aB (i8 a.1 n.1 a.2 n.2) rfl rfl rfl (go3 ?_);refine bA rfl (.inr rfl) (eF rfl m0 tyT rfl) ?_;exact (by rfl)
theorem zY (vp:Value) (p:(List I)) (w:World) (hp:Slr w elI vp p) (hpre:p.length≤100) :
    Calls prog 106 [vp].toArray w (fun e w'=>∃ v,e = .returned (v)∧Ext w w'∧Slo w.heap.size w' 31 elI v (d7 p)):=by
 obtain ⟨p_p,c_p,rfl⟩:=hp.form;refine dW (n:=9) (fun v=>v) func106 rfl rfl (by simp) ?_;obtain ⟨w0,rfl⟩:∃ w0,w0=w:=⟨_,rfl⟩;have Hp:=hp.old;have hm_p:=hp.max;simp only [bO,Nat.reduceAdd];refine go5 ?_;refine sQ (aL (v':=AV [pI (dN p)]) (bT aB rfl (fun w hw=>CF _ p w (aR hw Hp sn))) rfl) rfl (go_ ?_);intro b1 hb1;refine go4 ?_;refine sQ (BJ rfl rfl) rfl (bD rfl (aN (E:=31) (e:=elI) (l:=(kE p ([]:List I) (fun (y:I) (z:I)=>(pA y z (dN p))))) (fun v=>v) aB rfl (fun w hw=>yS _ p _ ([]:List I) _ (fun (y:I) (z:I)=>(pA y z (dN p))) w (aR hw Hp sn) (SLe.ap hw (SLfe.sle SLfe.nil)) (FnV.mk hw aB (fun w hw x hx=>EZ x.1 x.2 _ _ (dN p) w (hw.mem _ m0))) o3_) (fun p2 c3 L4 hF5=>?_)));refine go3 ?_;refine bA rfl (.inr rfl) rfl ?_
 have hE:((kE p ([]:List I) (fun (y:I) (z:I)=>(pA y z (dN p)))):(List I))=(d7 p):=by exact rfl
 rw [← hE];exact ⟨_,rfl,⟨L4,lZ,hF5⟩⟩
end Go.Proofs.YtkjjponijamaoaaGreatDoor
namespace Go.Num
open Go Go.Kn
theorem Z.cases (z:Z):z=Z.bad ∨ ∃ v:Int,v.natAbs<4294967296 ^ 16∧z=Z.of v∧z.o=some v:=by
  cases h:z.o with
  | none=>exact .inl (Z.eq_bad h)
  | some v=>exact .inr ⟨v,z.h v h,Z.eq_of h,rfl⟩
theorem Z.zero_add (z:Z):Z.add (Z.of 0) z=z:=by
  rcases Z.cases z with rfl | ⟨v,_,rfl,hv⟩
  · rfl
  rw [Z.add,eB (Z.of_some dd_) hv,Int.zero_add]
theorem W.ext {a b:W} (h:a.1=b.1):a=b:=Subtype.ext h
structure PrimOk (a:A3 I) (p:A3 W) (x y z g:Int):Prop where
  ax:a.x.dec.o=some x
  ay:a.y.dec.o=some y
  az:a.z.dec.o=some z
  gd:g=((Int.gcd (Int.gcd (Int.gcd 0 x:Nat) y:Nat) z:Nat):Int)
  g0:0<g
  px:g * p.x.1=x
  py:g * p.y.1=y
  pz:g * p.z.1=z
  bx:-2305843009213693952<p.x.1∧p.x.1<2305843009213693952
  bY:-2305843009213693952<p.y.1∧p.y.1<2305843009213693952
  bz:-2305843009213693952<p.z.1∧p.z.1<2305843009213693952
def Z.Is (z:Z) (v:Int):Prop:=z.o=none∨z.o=some v
theorem Z.Is.sign {z:Z} {v:Int} (h:z.Is v):z.o=none∨z.sign=v.sign:=by
  rcases h with h | h
  · exact .inl h
  right;unfold Z.sign;rw [h]
structure Fit (z:Z) (v:Int) (k:Nat):Prop where
  eq:z=Z.of v
  lt:v.natAbs<2 ^ k
theorem iq_ {k:Nat} (hk:k≤511) {n:Nat} (h:n<2 ^ k):n<4294967296 ^ 16:=by
  have e:(2:Nat) ^ (32 * 16)=(2 ^ 32) ^ 16:=Nat.pow_mul 2 32 16;exact Nat.lt_of_lt_of_le h (Nat.le_trans (Nat.pow_le_pow_right dd_ (show k≤32 * 16 by omega)) (Nat.le_of_eq e))
theorem Fit.o {z:Z} {v:Int} {k:Nat} (h:Fit z v k) (hk:k≤511):z.o=some v:=by rw [h.eq];exact Z.of_some (iq_ hk h.lt)
theorem Fit.mono {z:Z} {v:Int} {k k':Nat} (h:Fit z v k) (hk:k≤k'):Fit z v k':=⟨h.eq,Nat.lt_of_lt_of_le h.lt (Nat.pow_le_pow_right dd_ hk)⟩
theorem Fit.mul {a b:Z} {x y:Int} {k l:Nat} (ha:Fit a x k) (hb:Fit b y l) (hk:k≤511∧l≤511):Fit (Z.mul a b) (x * y) (k+l) :=
  ⟨by rw [Z.mul,eB (ha.o hk.1) (hb.o hk.2)],by rw [Int.natAbs_mul,Nat.pow_add];exact Nat.mul_lt_mul_of_lt_of_lt ha.lt hb.lt⟩
theorem Fit.add {a b:Z} {x y:Int} {k l:Nat} (ha:Fit a x k) (hb:Fit b y l) (hk:k≤511∧l≤511):Fit (Z.add a b) (x+y) (max k l+1):=by
  refine ⟨by rw [Z.add,eB (ha.o hk.1) (hb.o hk.2)],?_⟩;have h1:=(ha.mono (Nat.le_max_left k l)).lt;have h2:=(hb.mono (Nat.le_max_right k l)).lt;rw [Nat.pow_succ];omega
theorem Fit.neg {a:Z} {x:Int} {k:Nat} (ha:Fit a x k) (hk:k≤511):Fit (Z.neg a) (-x) k:=⟨by rw [Z.neg,oL (ha.o hk)],by rw [Int.natAbs_neg];exact ha.lt⟩
theorem Fit.sub {a b:Z} {x y:Int} {k l:Nat} (ha:Fit a x k) (hb:Fit b y l) (hk:k≤511∧l≤511):Fit (Z.sub a b) (x - y) (max k l+1):=by
  rw [Int.sub_eq_add_neg];exact ha.add (hb.neg hk.2) hk
theorem Fit.sign {z:Z} {v:Int} {k:Nat} (h:Fit z v k) (hk:k≤511):z.sign=v.sign:=by unfold Z.sign;rw [h.o hk]
theorem CS {L:Nat→List I→Nat→List I×Nat} {n:Nat} {g:Nat→I} (h1:∀ k out i,i<n→L (k+1) out i=L k (out ++ [g i]) (i+1)) (h2:∀ k out i,¬ i<n→L (k+1) out i=(out,i)) :
    ∀ (k:Nat) (out:List I) (i:Nat),n - i<k→(L k out i).1=out ++ (List.range' i (n - i)).map g
  | 0,out,i,h=>absurd h (Nat.not_lt_zero _)
  | k+1,out,i,h=>by
    by_cases hi:i<n
    · obtain ⟨m,hm⟩:∃ m,n - i=m+1:=⟨n - i - 1,by omega⟩
      rw [h1 _ _ _ hi,CS h1 h2 k _ _ oo_,hm,JE,show n - (i+1)=m by omega]
      simp
    rw [h2 _ _ _ hi,show n - i=0 by omega];simp
theorem ME (l:List I) (f:I→Bool):∀ (k i:Nat),l.length - i<k→(∃ j:Nat,j<l.length∧nJ l f k i = .inr (W.cv (j:Int))∧(l.drop i).any f=true)∨(∃ j,nJ l f k i = .inl j∧(l.drop i).any f=false)
  | 0,i,h=>absurd h (Nat.not_lt_zero _)
  | k+1,i,h=>by
    unfold nJ
    by_cases hi:i<l.length
    · rw [decide_eq_true oo_,cond_true,yA l hi,List.any_cons]
      cases hf:f (l.getD i I0)
      · simp only [cond_false,Bool.false_or]
        exact ME l f k (i+1) oo_
      exact .inl ⟨i,hi,rfl,rfl⟩
    rw [decide_eq_false oo_,cond_false,List.drop_of_length_le oo_];exact .inr ⟨i,rfl,rfl⟩
theorem SD (l:List I) (f:I→Bool) (hl:l.length≤1000):uX l f=l.any f:=by
  unfold uX vZ;rcases ME l f (l.length+1) 0 oo_ with ⟨j,hj,h1,h2⟩ | ⟨j,h1,h2⟩
  · rw [h1]
    show decide (0≤(W.cv (j:Int)).1)=_
    rw [cvE oo_,decide_eq_true oo_];rw [List.drop_zero] at h2;exact h2.symm
  rw [h1];rw [List.drop_zero] at h2;rw [h2];rfl
theorem c6_ (l:List I):(l.any fun y=>!gdI y) = !l.all gdI:=by
  induction l with
  | nil=>rfl
  | cons x l ih =>
    rw [List.any_cons,List.all_cons,ih]
    cases gdI x <;> rfl
theorem vA {p:List I} (h:p.length≤1000):dR p = !p.all gdI:=by
  unfold dR;rw [SD _ _ h];exact c6_ p
theorem MF (p:List I):∀ (k i:Nat),p.length - i<k→(∃ j,i2 p k i = .inl j∧(p.drop i).all gdI=true)∨(i2 p k i = .inr true∧(p.drop i).all gdI=false)
  | 0,i,h=>absurd h (Nat.not_lt_zero _)
  | k+1,i,h=>by
    unfold i2
    by_cases hi:i<p.length
    · rw [decide_eq_true oo_,cond_true,yA p hi,List.all_cons]
      show (∃ j,(bif gdI (p.getD i I0) then _ else _)=_∧_)∨((bif gdI (p.getD i I0) then _ else _)=_∧_)
      cases gdI (p.getD i I0)
      · exact .inr ⟨rfl,rfl⟩
      simp only [cond_true,Bool.true_and];exact MF p k (i+1) oo_
    rw [decide_eq_false oo_,cond_false,List.drop_of_length_le oo_];exact .inl ⟨i,rfl,rfl⟩
theorem vB (p:List I):bG p = !p.all gdI:=by
  unfold bG;rcases MF p (p.length+1) 0 oo_ with ⟨j,h1,h2⟩ | ⟨h1,h2⟩
  · rw [h1];rw [List.drop_zero] at h2;rw [h2];rfl
  rw [h1];rw [List.drop_zero] at h2;rw [h2];rfl
theorem R2 (p:List I) (k:Int):dH p k=lL p k:=rfl
theorem wZ {l:List I} {k:Nat} (h:l.length≤k):l.getD k I0=I0:=by simp [List.getD,List.getElem?_eq_none h]
theorem EQ (p:List I) (k:Nat):lL p (k:Int)=p.getD k I0:=by
  unfold lL;rw [decide_eq_false oo_,Bool.false_or,Int.toNat_natCast]
  by_cases h:p.length≤k
  · rw [decide_eq_true oo_,cond_true,wZ h]
  rw [decide_eq_false oo_,cond_false]
theorem M6 (n:Nat):List.range n=List.range' 0 n:=List.range_eq_range'
theorem wV {p q:List I} (f:I→I→I) (hp:p.length≤1000) (hq:q.length≤1000):kE p q f=bif (p.all gdI&&q.all gdI) then mkP ((List.range (max p.length q.length)).map fun k=>f (p.getD k I0) (q.getD k I0)) else badp:=by
  unfold kE;rw [vA hp,vA hq,wR,Int.toNat_natCast]
  have e:((List.range (max p.length q.length)).map fun j=>mN (uD j f p q))=(List.range (max p.length q.length)).map fun k=>f (p.getD k I0) (q.getD k I0):=List.map_congr_left fun k _=>by
    show f (lL p (k:Int)) (lL q (k:Int))=_
    rw [EQ,EQ]
  rw [e]
  cases p.all gdI <;> cases q.all gdI <;> rfl
theorem G2 {p q:List I} (hp:p.length≤1000) (hq:q.length≤1000):bJ p q=aK p q:=by
  unfold bJ aK;rw [wV _ hp hq,vB,vB];have e:=CS (L:=jN p q) (n:=max p.length q.length) (g:=fun k=>E (Z.add (p.getD k I0).dec (q.getD k I0).dec))
    (fun k out i h=>by (conv=>lhs;unfold jN);rw [decide_eq_true oo_,R2,R2,EQ,EQ];rfl) (fun k out i h=>by unfold jN;rw [decide_eq_false oo_];rfl) (max p.length q.length+1) [] 0 oo_
  rw [List.nil_append,Nat.sub_zero,← M6] at e;simp only [ap,e,z7]
  cases p.all gdI <;> cases q.all gdI <;> rfl
theorem PX {p q:List I} (hp:p.length≤1000) (hq:q.length≤1000):kJ p q=eD p q:=by
  unfold kJ eD;rw [wV _ hp hq,vB,vB];have e:=CS (L:=jP p q) (n:=max p.length q.length) (g:=fun k=>E (Z.sub (p.getD k I0).dec (q.getD k I0).dec))
    (fun k out i h=>by (conv=>lhs;unfold jP);rw [decide_eq_true oo_,R2,R2,EQ,EQ];rfl) (fun k out i h=>by unfold jP;rw [decide_eq_false oo_];rfl) (max p.length q.length+1) [] 0 oo_
  rw [List.nil_append,Nat.sub_zero,← M6] at e;simp only [ap,e,z7]
  cases p.all gdI <;> cases q.all gdI <;> rfl
theorem BW {p:List I} (n:I) (hp:p.length≤1000):bZ p n=aM p n:=by
  unfold bZ aM;rw [wV _ hp dd_,vB];have e:=CS (L:=i3 p n) (n:=p.length) (g:=fun k=>E (Z.mul (p.getD k I0).dec n.dec))
    (fun k out i h=>by (conv=>lhs;unfold i3);rw [decide_eq_true oo_];rfl) (fun k out i h=>by unfold i3;rw [decide_eq_false oo_];rfl) (p.length+1) [] 0 oo_
  rw [List.nil_append,Nat.sub_zero,← M6] at e;simp only [ap,e,z7,List.length_nil,Nat.max_zero,List.all_nil,Bool.and_true]
  show (bif gdI n then _ else _)=(bif (_ || !gdI n) then _ else _)
  cases p.all gdI <;> cases gdI n <;> rfl
theorem O7 (p q out:List I) (k t i:Nat) (m:I) (hi:i≤k) (h:q.length≤k - i∨p.length≤i):dK p q out k (t+1) i m=dK p q out k t (i+1) m:=by
  conv=>lhs;unfold dK
  rw [decide_eq_true oo_,cond_true]
  have e:(decide ((i:Int)<((p.length:Nat):Int))&&decide ((k:Int) - (i:Int)<((q.length:Nat):Int)))=false:=by
    rcases h with h | h
    · rw [decide_eq_false (p:=(k:Int) - (i:Int)<((q.length:Nat):Int)) oo_,Bool.and_false]
    rw [decide_eq_false oo_,Bool.false_and]
  rw [e,cond_false]
theorem O8 (p q out:List I) (k:Nat):∀ (t i:Nat) (m:I),p.length≤i→(dK p q out k t i m).2=m
  | 0,i,m,h=>rfl
  | t+1,i,m,h=>by
    by_cases hi:i≤k
    · rw [O7 p q out k t i m hi (.inr h),O8 p q out k t _ _ oo_]
    unfold dK;rw [decide_eq_false oo_,cond_false]
theorem O2 (p q out:List I) (k:Nat):∀ (t t' i:Nat) (m:I),k+1 - i<t→k+1 - i<t'→k+1≤i+q.length→(gT k q p t i m).2=(dK p q out k t' i m).2
  | 0,_,i,m,h,_,_=>absurd h (Nat.not_lt_zero _)
  | t+1,0,i,m,_,h,_=>absurd h (Nat.not_lt_zero _)
  | t+1,t'+1,i,m,h,h',hq=>by
    by_cases hp:i<p.length
    · by_cases hi:i≤k
      · unfold gT dK
        rw [decide_eq_true (p:=(i:Int)≤min (k:Int) ((p.length:Nat) - 1)) oo_,decide_eq_true (p:=(i:Int)≤(k:Int)) oo_,decide_eq_true (p:=(i:Int)<((p.length:Nat):Int)) oo_,decide_eq_true (p:=(k:Int) - (i:Int)<((q.length:Nat):Int)) oo_];exact O2 p q out k t t' _ _ oo_ oo_ oo_
      unfold gT dK;rw [decide_eq_false (p:=(i:Int)≤min (k:Int) ((p.length:Nat) - 1)) oo_,decide_eq_false (p:=(i:Int)≤(k:Int)) oo_];rfl
    rw [O8 p q out k _ _ _ oo_];unfold gT;rw [decide_eq_false oo_];rfl
theorem O6 (p q out:List I) (k:Nat) (m:I):∀ (n t i:Nat),i+n=k+1 - q.length→k+1 - i<t→dK p q out k t i m=dK p q out k (t - n) (i+n) m
  | 0,t,i,_,_=>rfl
  | n+1,t,i,h,ht=>by
    obtain ⟨t,rfl⟩:∃ t',t=t'+1:=⟨t - 1,by omega⟩;rw [O7 p q out k t i m oo_ (.inl oo_),O6 p q out k m n t (i+1) oo_ oo_];rw [show t+1 - (n+1)=t - n by omega,show i+1+n=i+(n+1) by omega]
theorem dj_ (p q out:List I) (k:Nat):nR k q p=(dK p q out k (k+2) 0 I0).2:=by
  unfold nR;simp only [ap];rw [O6 p q out k I0 (k+1 - q.length) (k+2) 0 oo_ oo_,Nat.zero_add];rw [show ((k:Int) - ((q.length:Nat):Int)+1).toNat=k+1 - q.length by omega];exact O2 p q out k _ _ _ _ oo_ oo_ oo_
theorem FI {p q:List I} (hp:p.length≤1000) (hq:q.length≤1000):aW p q=aX p q:=by
  unfold aW aX;rw [vA hp,vA hq,vB,vB,wR]
  cases h0:(((p.length:Nat):Int)==0)||(((q.length:Nat):Int)==0)
  · have h1:p.length≠0∧q.length≠0:=by
      have:=Bool.or_eq_false_iff.1 h0;exact ⟨fun h=>by rw [h] at this;exact absurd this.1 dd_,fun h=>by rw [h] at this;exact absurd this.2 dd_⟩
    have e:=CS (L:=jO p q) (n:=p.length+q.length - 1) (g:=fun k=>nR k q p)
      (fun k out i h=>by (conv=>lhs;unfold jO);rw [decide_eq_true oo_];simp only [cond_true,ap];rw [← dj_]) (fun k out i h=>by unfold jO;rw [decide_eq_false oo_];rfl) (p.length+q.length) [] 0 oo_
    rw [List.nil_append,Nat.sub_zero,← M6] at e;simp only [ap,e,z7];rw [show (((p.length+q.length:Nat):Int) - 1).toNat=p.length+q.length - 1 by omega];rfl
  rfl
theorem zr0:zrI I0=true:=by decide +kernel
def gT_ (n:Nat) (r:List I):Prop:=∀ j:Nat,n≤j→zrI (r.getD j I0)=true
theorem JJ {n:Nat}:∀ (m:Nat) (r:List I),r.length≤m→gT_ n r→(nV r).length≤n
  | 0,r,h,_=>by
    have:r=[]:=List.eq_nil_of_length_eq_zero oo_;rw [this];exact Nat.zero_le _
  | m+1,r,h,hz=>by
    by_cases hn:r.length≤n
    · exact Nat.le_trans (FA r) hn
    rcases vU r with rfl | ⟨s,x,rfl⟩
    · exact Nat.zero_le _
    simp only [List.length_append,List.length_cons,List.length_nil] at hn h;have hx:=hz s.length oo_;rw [show (s ++ [x]).getD s.length I0=x by simp] at hx;rw [vV,hx,cond_true];refine JJ m s oo_ (fun j hj=>?_)
    by_cases hjs:j<s.length
    · have:=hz j hj
      rwa [show (s ++ [x]).getD j I0=s.getD j I0 by simp [List.getD,List.getElem?_append_left hjs]] at this
    rw [wZ oo_];exact zr0
theorem AZ (l:List I):gO l=mkP l:=by
  unfold gO;rw [wR,Int.toNat_natCast]
  congr 1
  refine List.ext_getElem? fun k=>?_
  by_cases h:k<l.length
  · simp [h,mN,uC]
  simp [h]
theorem FB (p:List I) (a b:Rt):∀ (k:Nat) (r:List I) (i:Int),r.length≤25→(eO p a b k r i).1.length≤25
  | 0,r,i,h=>h
  | k+1,r,i,h=>by
    unfold eO
    cases decide (0≤i)
    · exact h
    exact FB p a b k _ _ (fX _ _)
theorem F3 (p:List I) (a b:Rt):(gU p a b).length≤25:=sG vN (FB p a b _ _ _ (Nat.zero_le _))
theorem yE (p:List I) (a b:Rt):(dY p a b).length≤25:=rD _
end Go.Num
