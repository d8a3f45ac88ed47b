/- Lemmas: what they ask stands in their statements. -/
import Derived.Test.YtkjjponijamaoaaGreatDoorYYa
import Derived.Test.YtkjjponijamaoaaGreatDoorYFo3
set_option linter.unusedSimpArgs false
set_option linter.unusedVariables false
set_option maxHeartbeats 8000000
set_option maxRecDepth 20000
namespace Go.Proofs.YtkjjponijamaoaaGreatDoor
open Go.Kn Go.Num
theorem TL (k:Nat) (c0 T0:Nat) (p_l:Option Addr) (c_l:Nat) (l:(List I)) (w:World) (hc0:w.heap[c0]? = some (.cells (aW [csl p_l l.length c_l]).toArray T0 (0,0))) (hl:Slr w elI (.slice p_l l.length c_l) l) (hpre:k<l.length) :
    Calls Tryz.prog 283 [.int .i64 ((k:Nat):Int),.pointer (some ⟨c0,0,none⟩)].toArray w (fun e w'=>e = .returned (AV [pI (zT k l)])∧Ext w w'):=by
 refine d6 (N:=8) Tryz.func283 rfl rfl (by simp) ?_;obtain ⟨w0,rfl⟩:∃ w0,w0=w:=⟨_,rfl⟩;have Hl:=hl.old;have hm_l:=hl.max;simp only [cS,Nat.reduceAdd];refine Rs fun K J=>sN gT rfl fun b1 hb1=>nl J (Rs fun K J=>sQ (tI (v:=.slice p_l l.length c_l) XL rfl hc0 (by simp) rfl) rfl ?_);refine sE rfl (sQ (aZ (v':=.pointer (some (slb (.slice p_l l.length c_l) (k * 18+0)))) (lY (e:=elI) (l:=l) (k:=k) vG rfl rfl (SLe.sub Hl sn) o2_) rfl) rfl ?_);refine sQ (oK (e:=elI) (l:=l) (k:=k) (o:=0) aD rfl (SLe.sub Hl sn) (eV I0 o2_) rfl) rfl ?_;refine sS [pI (l.getD k I0)] aD rfl rfl rfl rfl rfl uH rfl hb1 (nl J (aL (cC rfl (.inr rfl) (eP rfl m0 aD rfl) ?_)));exact (by rfl)

theorem O3 (vl:Value) (l:(List I)) (w:World) (hl:Slr w elI vl l) (hpre:l.length≤200) :
    Calls Tryz.prog 282 [vl].toArray w (fun e w'=>∃ v,e = .returned (v)∧Ext w w'∧Slo w.heap.size w' 31 elI v (kE l)):=by
 obtain ⟨p_l,c_l,rfl⟩:=hl.form;refine gM (n:=7) (fun v=>v) Tryz.func282 rfl rfl (by simp) ?_;obtain ⟨w0,rfl⟩:∃ w0,w0=w:=⟨_,rfl⟩;have Hl:=hl.old;have hm_l:=hl.max;simp only [cS,Nat.reduceAdd];refine Rs fun K J=>sX [csl p_l l.length c_l] rfl rfl rfl fun b1 hb1=>sE rfl (nl J (Rs fun K J=>sQ (qC XL rfl m0 rfl) rfl (sQ (aZ (v':=.int .i64 (((l).length:Nat):Int)) (gD (e:=elI) vG rfl (SLe.sub Hl sn)) rfl) rfl (sQ (HU rfl rfl) rfl (bA rfl (bO (E:=31) (e:=elI) (l:=(oX (((l).length:Nat):Int) (fun (y:Nat)=>(zT y l)) (fun (y:I)=>(rN y)))) (fun v=>v) dZ_ rfl (fun w hw=>GA (((l).length:Nat):Int) _ (fun (y:Nat)=>(zT y l)) _ (fun (y:I)=>(rN y)) w (FnV.mk hw pH_ (fun w hw x hx=>TL x _ _ _ _ l w (hw.mem _ m0) (aR hw Hl sn) (Int.ofNat_lt.1 hx))) (FnV.mk hw d0_ (fun w hw x hx=>(HQ x) w)) oo_) (fun p2 c3 L4 hF5=>sE rfl (nl J (aL (cC rfl (.inr rfl) rfl ?_))))))))))
 have hE:((oX (((l).length:Nat):Int) (fun (y:Nat)=>(zT y l)) (fun (y:I)=>(rN y))):(List I))=(kE l):=by exact rfl
 rw [← hE];exact ⟨_,rfl,⟨L4,lZ,hF5⟩⟩

theorem X3 (k:Nat) (c0 T0:Nat) (p_l:Option Addr) (c_l:Nat) (l:(List W)) (w:World) (hc0:w.heap[c0]? = some (.cells (aW [csl p_l l.length c_l]).toArray T0 (0,0))) (hl:Slr w elW (.slice p_l l.length c_l) l) (hpre:k<l.length) :
    Calls Tryz.prog 239 [.int .i64 ((k:Nat):Int),.pointer (some ⟨c0,0,none⟩)].toArray w (fun e w'=>e = .returned (.int .i64 ((EY k l).1))∧Ext w w'):=by
 refine d6 (N:=8) Tryz.func239 rfl rfl (by simp) ?_;obtain ⟨w0,rfl⟩:∃ w0,w0=w:=⟨_,rfl⟩;have Hl:=hl.old;have hm_l:=hl.max;simp only [cS,Nat.reduceAdd];refine Rs fun K J=>sE rfl (nl J (Rs fun K J=>sQ (tI (v:=.slice p_l l.length c_l) k3_ rfl hc0 (by simp) rfl) rfl ?_));refine sE rfl (sQ (aZ (v':=.pointer (some (slb (.slice p_l l.length c_l) (k * 1+0)))) (lY (e:=elW) (l:=l) (k:=k) mT rfl rfl (SLe.sub Hl sn) o2_) rfl) rfl ?_);refine sQ (BY (u:=.int .i64 ((l.getD k W.z).1)) (e:=elW) (l:=l) (k:=k) (o:=0) dP rfl (SLe.sub Hl sn) (eV W.z o2_) rfl) rfl ?_;refine sE rfl (nl J (aL (cC rfl (.inr rfl) rfl ?_)));exact (by rfl)

theorem vR (vl:Value) (l:(List W)) (w:World) (hl:Slr w elW vl l) (hpre:l.length≤200) :
    Calls Tryz.prog 178 [vl].toArray w (fun e w'=>∃ v,e = .returned (v)∧Ext w w'∧Slo w.heap.size w' 31 elI v (eU l)):=by
 obtain ⟨p_l,c_l,rfl⟩:=hl.form;refine gM (n:=7) (fun v=>v) Tryz.func178 rfl rfl (by simp) ?_;obtain ⟨w0,rfl⟩:∃ w0,w0=w:=⟨_,rfl⟩;have Hl:=hl.old;have hm_l:=hl.max;simp only [cS,Nat.reduceAdd];refine Rs fun K J=>sX [csl p_l l.length c_l] rfl rfl rfl fun b1 hb1=>sE rfl (nl J (Rs fun K J=>sQ (qC k3_ rfl m0 rfl) rfl (sQ (aZ (v':=.int .i64 (((l).length:Nat):Int)) (gD (e:=elW) mT rfl (SLe.sub Hl sn)) rfl) rfl (sQ (HU rfl rfl) rfl (bA rfl (bO (E:=31) (e:=elI) (l:=(vH (((l).length:Nat):Int) (fun (y:Nat)=>(EY y l)) (fun (y:Go.Num.W)=>(E (Z.of y.1))))) (fun v=>v) ph_ rfl (fun w hw=>TM (((l).length:Nat):Int) _ (fun (y:Nat)=>(EY y l)) _ (fun (y:Go.Num.W)=>(E (Z.of y.1))) w (FnV.mk hw pi_ (fun w hw x hx=>X3 x _ _ _ _ l w (hw.mem _ m0) (aR hw Hl sn) (Int.ofNat_lt.1 hx))) (FnV.mk hw sY (fun w hw x hx=>(fK x.1 x.2) w)) oo_) (fun p2 c3 L4 hF5=>sE rfl (nl J (aL (cC rfl (.inr rfl) rfl ?_))))))))))
 have hE:((vH (((l).length:Nat):Int) (fun (y:Nat)=>(EY y l)) (fun (y:Go.Num.W)=>(E (Z.of y.1)))):(List I))=(eU l):=by exact rfl
 rw [← hE];exact ⟨_,rfl,⟨L4,lZ,hF5⟩⟩

theorem NM (vp:Value) (p:(List I)) (k:Int) (w:World) (hp:Slr w elI vp p) :
    Calls Tryz.prog 241 [vp,.int .i64 k].toArray w (fun e w'=>e = .returned (AV [pI (o9 p k)])∧Ext w w'):=by
 obtain ⟨p_p,c_p,rfl⟩:=hp.form;refine d6 (N:=18) Tryz.func241 rfl rfl (by simp) ?_;obtain ⟨w0,rfl⟩:∃ w0,w0=w:=⟨_,rfl⟩;have Hp:=hp.old;have hm_p:=hp.max;simp only [cS,Nat.reduceAdd];refine Rs fun K J=>sN gT rfl fun b1 hb1=>nl J (Sq fun K1 J1=>?_);refine dH [5,6,7,8,9,10,11,12] (fun g M=>(g 12 = .bool (decide (k<0)||decide ((((p).length:Nat):Int)≤k)))∧M=[⟨b1,31,aW [pI I0]⟩]) (fun K2 J2=>?_) ?_
 ·refine Rk fun K J=>sE rfl (sE rfl ?_);rcases bt (decide (k<0)) with h3 | h3
  ·have ph3:=of_decide_eq_true h3;refine sB h3 rfl (aI rfl (aI rfl (aI rfl (aI rfl (sE rfl (nl J ?_))))));refine J2 _ _ pp_ ⟨_,s0,?s12,rfl⟩
   case s12=>exact congrArg Value.bool (lT h3)
  have ph3:=of_decide_eq_false h3;refine sB h3 rfl (sE rfl (sE rfl (sQ (aZ (v':=.int .i64 (((p).length:Nat):Int)) (gD (e:=elI) nQ rfl (SLe.sub Hp sn)) rfl) rfl (sE rfl (sE rfl (nl J ?_))))));refine J2 _ _ pp_ ⟨_,s0,?s12,rfl⟩
  case s12=>exact congrArg Value.bool (iK h3 rfl)
 rintro g4 M ⟨hg12,rfl⟩;simp only [dQ,hg12];clear hg12;rcases bt (decide (k<0)||decide ((((p).length:Nat):Int)≤k)) with h5 | h5
 ·refine W_t h5 rfl (Rs fun K J=>sQ (dR gT IW rfl (.nil _)) rfl (sS [pI I0] aD rfl rfl rfl rfl rfl uH rfl hb1 (nl J (aL (aB (cC rfl (.inr rfl) (eP rfl m0 aD rfl) ?_))))));exact (by exact congrArg vS4 (show _=(o9 p k) from bI h5 rfl))
 have ph6:=of_decide_eq_false (Bool.or_eq_false_iff.1 h5).1;have ph7:=of_decide_eq_false (Bool.or_eq_false_iff.1 h5).2;refine W_f h5 rfl (aG (J1 _ _ (Rs fun K J=>sE rfl (sE rfl (sQ (aZ (v':=.pointer (some (slb (.slice p_p p.length c_p) (((k).toNat) * 18+0)))) (wE (e:=elI) (l:=p) (k:=(k).toNat) nQ rfl rfl oo_ (SLe.sub Hp sn) o2_) rfl) rfl ?_)))));refine sQ (oK (e:=elI) (l:=p) (k:=(k).toNat) (o:=0) aD rfl (SLe.sub Hp sn) (eV I0 o2_) rfl) rfl ?_;refine sS [pI (p.getD ((k).toNat) I0)] aD rfl rfl rfl rfl rfl uH rfl hb1 (nl J (aL (cC rfl (.inr rfl) (eP rfl m0 aD rfl) ?_)));exact (by exact congrArg vS4 (show _=(o9 p k) from aM h5 rfl))

theorem TN (k:Nat) (c0 T0:Nat) (g_f:Nat) (c_f:List Value) (f:I→I→I) (c1 T1:Nat) (p_p:Option Addr) (c_p:Nat) (p:(List I)) (c2 T2:Nat) (p_q:Option Addr) (c_q:Nat) (q:(List I)) (w:World) (hc0:w.heap[c0]? = some (.cells (aW [cfn g_f c_f]).toArray T0 (0,0))) (hc1:w.heap[c1]? = some (.cells (aW [csl p_p p.length c_p]).toArray T1 (0,0))) (hc2:w.heap[c2]? = some (.cells (aW [csl p_q q.length c_q]).toArray T2 (0,0))) (hf:FnV Tryz.prog w (.func (.func g_f) #[] c_f.toArray) eII (fun _=>True) (j6_ (fun x:I×I=>f x.1 x.2))) (hp:Slr w elI (.slice p_p p.length c_p) p) (hq:Slr w elI (.slice p_q q.length c_q) q) :
    Calls Tryz.prog 240 [.int .i64 ((k:Nat):Int),.pointer (some ⟨c0,0,none⟩),.pointer (some ⟨c1,0,none⟩),.pointer (some ⟨c2,0,none⟩)].toArray w (fun e w'=>e = .returned (AV [pI (zU k f p q)])∧Ext w w'):=by
 refine d6 (N:=14) Tryz.func240 rfl rfl (by simp) ?_;obtain ⟨w0,rfl⟩:∃ w0,w0=w:=⟨_,rfl⟩;have Hf:=hf.get;have Hp:=hp.old;have hm_p:=hp.max;have Hq:=hq.old;have hm_q:=hq.max;simp only [cS,Nat.reduceAdd];refine Rs fun K J=>sN gT rfl fun b1 hb1=>nl J (ds sn [0,4,8,12,16,20,24,28,33] [8] mix (by kernel_rfl) (fun K J=>pQ rfl (tI (v:=.func (.func g_f) #[] c_f.toArray) sa_ rfl hc0 (by simp) rfl) ?_));refine pQ rfl (tI (v:=.slice p_p p.length c_p) eR rfl hc1 (by simp) rfl) ?_;refine pE rfl (pQ rfl (aZ (v':=AV [pI (o9 p ((k:Nat):Int))]) (dA d4_ rfl (fun w hw=>NM _ p ((k:Nat):Int) w (aR hw Hp sn))) rfl) (pQ rfl (tI (v:=.slice p_q q.length c_q) eR rfl hc2 (by simp) rfl) ?_));refine pE rfl (pQ rfl (aZ (v':=AV [pI (o9 q ((k:Nat):Int))]) (dA d4_ rfl (fun w hw=>NM _ q ((k:Nat):Int) w (aR hw Hq sn))) rfl) (pQ rfl (aZ (v':=AV [pI (f (o9 p ((k:Nat):Int)) (o9 q ((k:Nat):Int)))]) (cU_ (x:=((o9 p ((k:Nat):Int)),(o9 q ((k:Nat):Int)))) rfl rfl (FnE.sub Hf sn) trivial) rfl) (oS [pI (f (o9 p ((k:Nat):Int)) (o9 q ((k:Nat):Int)))] aD rfl rfl rfl rfl rfl rfl uH rfl hb1 rfl sn (fl J (aL (cC rfl (.inr rfl) (eP rfl m0 aD rfl) ?_))))));exact (by rfl)

theorem ET (vp:Value) (p:(List I)) (vq:Value) (q:(List I)) (vf:Value) (f:I→I→I) (w:World) (hp:Slr w elI vp p) (hq:Slr w elI vq q) (hf:FnV Tryz.prog w vf eII (fun _=>True) (j6_ (fun x:I×I=>f x.1 x.2))) (hpre:p.length≤100∧q.length≤100) :
    Calls Tryz.prog 179 [vp,vq,vf].toArray w (fun e w'=>∃ v,e = .returned (v)∧Ext w w'∧Slo w.heap.size w' 31 elI v (oI p q f)):=by
 obtain ⟨p_p,c_p,rfl⟩:=hp.form;obtain ⟨p_q,c_q,rfl⟩:=hq.form;obtain ⟨g_f,c_f,rfl,Hf⟩:=hf.open;refine gM (n:=21) (fun v=>v) Tryz.func179 rfl rfl (by simp) ?_;obtain ⟨w0,rfl⟩:∃ w0,w0=w:=⟨_,rfl⟩;have Hp:=hp.old;have hm_p:=hp.max;have Hq:=hq.old;have hm_q:=hq.max;simp only [cS,Nat.reduceAdd];refine Rs fun K J=>sX [csl p_p p.length c_p] rfl rfl rfl fun b1 hb1=>sX [csl p_q q.length c_q] rfl rfl rfl fun b2 hb2=>sX [cfn g_f c_f] rfl rfl rfl fun b3 hb3=>sE rfl (nl J (Sq fun K1 J1=>?_));refine dH [7,8,9,10,11,12] (fun g M=>(g 12 = .bool ((eJ p)||(eJ q)))∧M=[⟨b3,89,aW [cfn g_f c_f]⟩,⟨b2,73,aW [csl p_q q.length c_q]⟩,⟨b1,73,aW [csl p_p p.length c_p]⟩]) (fun K2 J2=>?_) ?_
 ·refine Rk fun K J=>sQ (qC eR rfl m2 rfl) rfl (sQ (aZ (v':=.bool (eJ p)) (dA KE rfl (fun w hw=>uJ _ p w (aR hw Hp sn))) rfl) rfl ?_);rcases bt (eJ p) with h5 | h5
  ·refine sB h5 rfl (aI rfl (aI rfl (sE rfl (nl J ?_))));refine J2 _ _ pp_ ⟨_,s0,?s12,rfl⟩
   case s12=>exact congrArg Value.bool (lT h5)
  refine sB h5 rfl (sQ (qC eR rfl m1 rfl) rfl (sQ (aZ (v':=.bool (eJ q)) (dA KE rfl (fun w hw=>uJ _ q w (aR hw Hq sn))) rfl) rfl (sE rfl (nl J ?_))));refine J2 _ _ pp_ ⟨_,s0,?s12,rfl⟩
  case s12=>exact congrArg Value.bool (iK h5 rfl)
 rintro g6 M ⟨hg12,rfl⟩;simp only [dQ,hg12];clear hg12;rcases bt ((eJ p)||(eJ q)) with h7 | h7
 ·refine W_t h7 rfl (Rs fun K J=>bA rfl (bO (E:=31) (e:=elI) (l:=F_poly_bad) (fun v=>v) NA rfl (fun w hw=>xZ  w) (fun p8 c9 L10 hF11=>sE rfl (nl J (aL (aB (cC rfl (.inr rfl) rfl ?_)))))))
  have hE:(F_poly_bad:(List I))=(oI p q f):=by exact bI h7 rfl
  rw [← hE];exact ⟨_,rfl,⟨L10,lZ,hF11⟩⟩
 refine W_f h7 rfl (aG (J1 _ _ (Rs fun K J=>sQ (qC eR rfl m2 rfl) rfl (sQ (aZ (v':=.int .i64 (((p).length:Nat):Int)) (gD (e:=elI) nQ rfl (SLe.sub Hp sn)) rfl) rfl (sQ (qC eR rfl m1 rfl) rfl (sQ (aZ (v':=.int .i64 (((q).length:Nat):Int)) (gD (e:=elI) nQ rfl (SLe.sub Hq sn)) rfl) rfl (sQ (aZ (v':=.int .i64 (((max ((p).length) ((q).length)):Nat):Int)) (xN rfl rfl) (congrArg (Value.int .i64) oo_)) rfl (sQ (HU rfl rfl) rfl (bA rfl (bO (E:=31) (e:=elI) (l:=(oX (((max ((p).length) ((q).length)):Nat):Int) (fun (y:Nat)=>(zU y f p q)) (fun (y:I)=>(rN y)))) (fun v=>v) dZ_ rfl (fun w hw=>GA (((max ((p).length) ((q).length)):Nat):Int) _ (fun (y:Nat)=>(zU y f p q)) _ (fun (y:I)=>(rN y)) w (FnV.mk hw pj_ (fun w hw x hx=>TN x _ _ _ _ f _ _ _ _ p _ _ _ _ q w (hw.mem _ m0) (hw.mem _ m2) (hw.mem _ m1) (FnE.ap hw (FnE.sub Hf sn)) (aR hw Hp sn) (aR hw Hq sn))) (FnV.mk hw d0_ (fun w hw x hx=>(HQ x) w)) oo_) (fun p12 c13 L14 hF15=>sE rfl (nl J (aL (cC rfl (.inr rfl) rfl ?_))))))))))))))
 have hE:((oX (((max ((p).length) ((q).length)):Nat):Int) (fun (y:Nat)=>(zU y f p q)) (fun (y:I)=>(rN y))):(List I))=(oI p q f):=by exact aM h7 rfl
 rw [← hE];exact ⟨_,rfl,⟨L14,lZ,hF15⟩⟩

theorem nV (vp:Value) (p:(List I)) (vq:Value) (q:(List I)) (w:World) (hp:Slr w elI vp p) (hq:Slr w elI vq q) (hpre:p.length≤100∧q.length≤100) :
    Calls Tryz.prog 104 [vp,vq].toArray w (fun e w'=>∃ v,e = .returned (v)∧Ext w w'∧Slo w.heap.size w' 31 elI v (cY p q)):=by
 obtain ⟨p_p,c_p,rfl⟩:=hp.form;obtain ⟨p_q,c_q,rfl⟩:=hq.form;refine gM (n:=8) (fun v=>v) Tryz.func104 rfl rfl (by simp) ?_;obtain ⟨w0,rfl⟩:∃ w0,w0=w:=⟨_,rfl⟩;have Hp:=hp.old;have hm_p:=hp.max;have Hq:=hq.old;have hm_q:=hq.max;simp only [cS,Nat.reduceAdd];refine Rs fun K J=>sE rfl (nl J (Rs fun K J=>sE rfl (sE rfl (bA rfl (bO (E:=31) (e:=elI) (l:=(oI p q (fun (y:I) (z:I)=>(E (Z.add y.dec z.dec))))) (fun v=>v) at_ rfl (fun w hw=>ET _ p _ q _ (fun (y:I) (z:I)=>(E (Z.add y.dec z.dec))) w (aR hw Hp sn) (aR hw Hq sn) (FnV.mk hw LQ (fun w hw x hx=>(rW x.1.1 x.2.1 x.1.2 x.2.2) w)) oo_) (fun p1 c2 L3 hF4=>sE rfl (nl J (aL (cC rfl (.inr rfl) rfl ?_)))))))))
 have hE:((oI p q (fun (y:I) (z:I)=>(E (Z.add y.dec z.dec)))):(List I))=(cY p q):=by exact rfl
 rw [← hE];exact ⟨_,rfl,⟨L3,lZ,hF4⟩⟩

theorem C7 (vp:Value) (p:(List I)) (vq:Value) (q:(List I)) (w:World) (hp:Slr w elI vp p) (hq:Slr w elI vq q) (hpre:p.length≤100∧q.length≤100) :
    Calls Tryz.prog 101 [vp,vq].toArray w (fun e w'=>∃ v,e = .returned (v)∧Ext w w'∧Slo w.heap.size w' 31 elI v (oT p q)):=by
 obtain ⟨p_p,c_p,rfl⟩:=hp.form;obtain ⟨p_q,c_q,rfl⟩:=hq.form;refine gM (n:=8) (fun v=>v) Tryz.func101 rfl rfl (by simp) ?_;obtain ⟨w0,rfl⟩:∃ w0,w0=w:=⟨_,rfl⟩;have Hp:=hp.old;have hm_p:=hp.max;have Hq:=hq.old;have hm_q:=hq.max;simp only [cS,Nat.reduceAdd];refine Rs fun K J=>sE rfl (nl J (Rs fun K J=>sE rfl (sE rfl (bA rfl (bO (E:=31) (e:=elI) (l:=(oI p q (fun (y:I) (z:I)=>(E (Z.sub y.dec z.dec))))) (fun v=>v) at_ rfl (fun w hw=>ET _ p _ q _ (fun (y:I) (z:I)=>(E (Z.sub y.dec z.dec))) w (aR hw Hp sn) (aR hw Hq sn) (FnV.mk hw fj_ (fun w hw x hx=>(EX x.1.1 x.2.1 x.1.2 x.2.2) w)) oo_) (fun p1 c2 L3 hF4=>sE rfl (nl J (aL (cC rfl (.inr rfl) rfl ?_)))))))))
 have hE:((oI p q (fun (y:I) (z:I)=>(E (Z.sub y.dec z.dec)))):(List I))=(oT p q):=by exact rfl
 rw [← hE];exact ⟨_,rfl,⟨L3,lZ,hF4⟩⟩

theorem WO (k:Nat) (c0 T0:Nat) (p_q:Option Addr) (c_q:Nat) (q:(List I)) (c1 T1:Nat) (p_p:Option Addr) (c_p:Nat) (p:(List I)) (w:World) (hc0:w.heap[c0]? = some (.cells (aW [csl p_q q.length c_q]).toArray T0 (0,0))) (hc1:w.heap[c1]? = some (.cells (aW [csl p_p p.length c_p]).toArray T1 (0,0))) (hq:Slr w elI (.slice p_q q.length c_q) q) (hp:Slr w elI (.slice p_p p.length c_p) p) (hpre:k<300∧p.length≤100∧q.length≤100) :
    Calls Tryz.prog 185 [.int .i64 ((k:Nat):Int),.pointer (some ⟨c0,0,none⟩),.pointer (some ⟨c1,0,none⟩)].toArray w (fun e w'=>e = .returned (AV [pI (tK k q p)])∧Ext w w'):=by
 refine d6 (N:=36) Tryz.func185 rfl rfl (by simp) ?_;obtain ⟨w0,rfl⟩:∃ w0,w0=w:=⟨_,rfl⟩;have Hq:=hq.old;have hm_q:=hq.max;have Hp:=hp.old;have hm_p:=hp.max;simp only [cS,Nat.reduceAdd];refine Rs fun K J=>sN gT rfl fun b1 hb1=>nl J (Rs fun K J=>sN gT rfl fun b2 hb2=>nl J (Sq fun K1 J1=>Rs fun K J=>sE rfl (sQ (tI (v:=.slice p_q q.length c_q) eR rfl hc0 (by simp) rfl) rfl ?_)));refine sQ (aZ (v':=.int .i64 (((q).length:Nat):Int)) (gD (e:=elI) nQ rfl (SLe.sub Hq sn)) rfl) rfl (sV (.int .i64 (((k:Nat):Int) - (((q).length:Nat):Int))) rfl (congrArg (Value.int .i64) (wx oo_ oo_ oo_)) (sV (.int .i64 ((((k:Nat):Int) - (((q).length:Nat):Int))+1)) rfl (congrArg (Value.int .i64) (wx oo_ oo_ oo_)) (sQ (aZ (v':=.int .i64 (((((((k:Nat):Int) - (((q).length:Nat):Int))+1)).toNat:Nat):Int)) (xN rfl rfl) (congrArg (Value.int .i64) oo_)) rfl (sE rfl (nl J ?_)))));refine kI (fun S M h=>J1 S M h) [6,13,14,15,16,17,18,19,20,21,22,23,24,25,26,27,28,29,30,31,32,33,34] (fun g M=>∃ (i:Nat) (mb2:I),(kK k q p ((k+2)) ((((((k:Nat):Int) - (((q).length:Nat):Int))+1)).toNat) I0)=(i,mb2)∧(g 6 = .int .i64 ((i:Nat):Int))∧M=[⟨b2,31,aW [pI mb2]⟩,⟨b1,31,aW [pI I0]⟩]) (fun K_u3 hK_u3=>?_) ?_
 ·refine aJ ?_;refine eA [6,13,14,15,16,17,18,19,20,21,22,23,24,25,26,27,28,29,30,31,32,33,34] (fun g nn M=>∃ (i:Nat) (mb2:I),(kK k q p nn i mb2)=(kK k q p ((k+2)) ((((((k:Nat):Int) - (((q).length:Nat):Int))+1)).toNat) I0)∧k+1 - i<nn∧(k+1≤i+q.length)∧(g 6 = .int .i64 ((i:Nat):Int))∧M=[⟨b2,31,aW [pI mb2]⟩,⟨b1,31,aW [pI I0]⟩]) ((k+2)) ?start ?round
  case start=>exact ⟨_,s0,(((((k:Nat):Int) - (((q).length:Nat):Int))+1)).toNat,I0,rfl,o1_,o1_,rfl,rfl⟩
  case round =>
   rintro nn g M ⟨i,mb2,hT0,hq0,hinv0,hg6,rfl⟩;obtain ⟨k0,rfl⟩:∃ m,nn=m+1:=⟨nn - 1,by omega⟩;simp only [dQ,hg6];clear hg6;refine Sq fun K6 J6=>Rs fun K J=>sE rfl (sE rfl (sQ (tI (v:=.slice p_p p.length c_p) eR rfl hc1 (by simp) rfl) rfl ?_));refine sQ (aZ (v':=.int .i64 (((p).length:Nat):Int)) (gD (e:=elI) nQ rfl (SLe.sub Hp sn)) rfl) rfl (sV (.int .i64 ((((p).length:Nat):Int) - 1)) rfl (congrArg (Value.int .i64) (wx oo_ oo_ oo_)) (sQ (aZ (v':=.int .i64 (min ((k:Nat):Int) ((((p).length:Nat):Int) - 1))) (km_ rfl rfl) (congrArg (Value.int .i64) oo_)) rfl (sE rfl (nl J ?_))));rcases bt (decide (((i:Nat):Int)≤(min ((k:Nat):Int) ((((p).length:Nat):Int) - 1)))) with h6 | h6
   ·have ph6:=of_decide_eq_true h6;refine W_t h6 rfl (aG (J6 _ _ (Sq fun K7 J7=>aJ (dr (sd s0) [0,4,8,12,16,20,24,28,32,36,40,44,48,53] [13] mix (by kernel_rfl) (fun K J=>pQ rfl (qL aD rfl m0 rfl) (pQ rfl (tI (v:=.slice p_p p.length c_p) eR rfl hc1 (by simp) rfl) ?_))))));refine pE rfl (pQ rfl (aZ (v':=.pointer (some (slb (.slice p_p p.length c_p) (i * 18+0)))) (lY (e:=elI) (l:=p) (k:=i) nQ rfl rfl (SLe.sub Hp sn) o2_) rfl) ?_);refine pQ rfl (oK (e:=elI) (l:=p) (k:=i) (o:=0) aD rfl (SLe.sub Hp sn) (eV I0 o2_) rfl) ?_;refine pQ rfl (tI (v:=.slice p_q q.length c_q) eR rfl hc0 (by simp) rfl) ?_;refine pE rfl (pE rfl (pV (.int .i64 (((k:Nat):Int) - ((i:Nat):Int))) rfl (congrArg (Value.int .i64) (wx oo_ oo_ oo_)) (pQ rfl (aZ (v':=.pointer (some (slb (.slice p_q q.length c_q) ((k - i) * 18+0)))) (wE (e:=elI) (l:=q) (k:=(k - i)) nQ rfl rfl oo_ (SLe.sub Hq sn) o2_) rfl) ?_)));refine pQ rfl (oK (e:=elI) (l:=q) (k:=(k - i)) (o:=0) aD rfl (SLe.sub Hq sn) (eV I0 o2_) rfl) ?_;refine pC (AV [pI (E (Z.mul (p.getD i I0).dec (q.getD (k - i) I0).dec))]) wX (iF (p.getD i I0).1 (q.getD (k - i) I0).1 (p.getD i I0).2 (q.getD (k - i) I0).2) rfl rfl rfl (pC (AV [pI (E (Z.add mb2.dec (Z.mul (p.getD i I0).dec (q.getD (k - i) I0).dec)))]) LQ (rW mb2.1 (E (Z.mul (p.getD i I0).dec (q.getD (k - i) I0).dec)).1 mb2.2 (E (Z.mul (p.getD i I0).dec (q.getD (k - i) I0).dec)).2) rfl rfl (cg2 (fun p q=>AV [pI (E (Z.add p q))]) rfl (eD _)) (oS [pI (E (Z.add mb2.dec (Z.mul (p.getD i I0).dec (q.getD (k - i) I0).dec)))] aD rfl rfl rfl rfl rfl rfl uH rfl hb2 rfl (sd s0) (fl J (J7 _ _ (Rk fun K J=>sE rfl (sV (.int .i64 (((i+1):Nat):Int)) rfl (congrArg (Value.int .i64) (wx oo_ oo_ oo_)) (sE rfl (nl J (⟨pp_,_,_,s0,(Nat.lt_succ_self _),(i+1),(E (Z.add mb2.dec (Z.mul (p.getD i I0).dec (q.getD (k - i) I0).dec))),(by exact (hT0.symm.trans (Eq.symm (bI h6 rfl))).symm),(Nat.lt_of_lt_of_le o1_ (Nat.le_of_lt_succ hq0)),o1_,rfl,rfl⟩)))))))))
   have ph6:=of_decide_eq_false h6;refine W_f h6 rfl (dW (aU (aU (bJ (hK_u3 _ _ pp_ ⟨_,s0,i,mb2,(by exact hT0.symm.trans (Eq.symm (aM h6 rfl))),rfl,rfl⟩)))))
 rintro g M ⟨i,mb2,hCu3,hg6,rfl⟩;simp only [dQ,hg6];clear hg6;refine Rs fun K J=>sQ (qL aD rfl m0 rfl) rfl (sS [pI mb2] aD rfl rfl rfl rfl rfl (uT uH) rfl hb1 (nl J (aL (cC rfl (.inr rfl) (eP rfl m1 aD rfl) ?_))));exact (by exact congrArg vS4 (show _=(tK k q p) from (by unfold tK;exact trs (Eq.symm (apS hCu3)) rfl)))

theorem qM (vp:Value) (p:(List I)) (vq:Value) (q:(List I)) (w:World) (hp:Slr w elI vp p) (hq:Slr w elI vq q) (hpre:p.length≤100∧q.length≤100) :
    Calls Tryz.prog 105 [vp,vq].toArray w (fun e w'=>∃ v,e = .returned (v)∧Ext w w'∧Slo w.heap.size w' 31 elI v (cI p q)):=by
 obtain ⟨p_p,c_p,rfl⟩:=hp.form;obtain ⟨p_q,c_q,rfl⟩:=hq.form;refine gM (n:=28) (fun v=>v) Tryz.func105 rfl rfl (by simp) ?_;obtain ⟨w0,rfl⟩:∃ w0,w0=w:=⟨_,rfl⟩;have Hp:=hp.old;have hm_p:=hp.max;have Hq:=hq.old;have hm_q:=hq.max;simp only [cS,Nat.reduceAdd];refine Rs fun K J=>sX [csl p_p p.length c_p] rfl rfl rfl fun b1 hb1=>sX [csl p_q q.length c_q] rfl rfl rfl fun b2 hb2=>sE rfl (nl J (Sq fun K1 J1=>?_));refine dH [5,6,7,8,9,10] (fun g M=>(g 10 = .bool ((eJ p)||(eJ q)))∧M=[⟨b2,73,aW [csl p_q q.length c_q]⟩,⟨b1,73,aW [csl p_p p.length c_p]⟩]) (fun K2 J2=>?_) ?_
 ·refine Rk fun K J=>sQ (qC eR rfl m1 rfl) rfl (sQ (aZ (v':=.bool (eJ p)) (dA KE rfl (fun w hw=>uJ _ p w (aR hw Hp sn))) rfl) rfl ?_);rcases bt (eJ p) with h4 | h4
  ·refine sB h4 rfl (aI rfl (aI rfl (sE rfl (nl J ?_))));refine J2 _ _ pp_ ⟨_,s0,?s10,rfl⟩
   case s10=>exact congrArg Value.bool (lT h4)
  refine sB h4 rfl (sQ (qC eR rfl m0 rfl) rfl (sQ (aZ (v':=.bool (eJ q)) (dA KE rfl (fun w hw=>uJ _ q w (aR hw Hq sn))) rfl) rfl (sE rfl (nl J ?_))));refine J2 _ _ pp_ ⟨_,s0,?s10,rfl⟩
  case s10=>exact congrArg Value.bool (iK h4 rfl)
 rintro g5 M ⟨hg10,rfl⟩;simp only [dQ,hg10];clear hg10;rcases bt ((eJ p)||(eJ q)) with h6 | h6
 ·refine W_t h6 rfl (Rs fun K J=>bA rfl (bO (E:=31) (e:=elI) (l:=F_poly_bad) (fun v=>v) NA rfl (fun w hw=>xZ  w) (fun p7 c8 L9 hF10=>sE rfl (nl J (aL (aB (cC rfl (.inr rfl) rfl ?_)))))))
  have hE:(F_poly_bad:(List I))=(cI p q):=by exact bI h6 rfl
  rw [← hE];exact ⟨_,rfl,⟨L9,lZ,hF10⟩⟩
 refine W_f h6 rfl (aG (J1 _ _ (Sq fun K3 J3=>?_)));refine dH [12,13,14,15,16,17,18,19] (fun g M=>(g 19 = .bool (((((p).length:Nat):Int)==0)||((((q).length:Nat):Int)==0)))∧M=[⟨b2,73,aW [csl p_q q.length c_q]⟩,⟨b1,73,aW [csl p_p p.length c_p]⟩]) (fun K4 J4=>?_) ?_
 ·refine Rk fun K J=>sQ (qC eR rfl m1 rfl) rfl (sQ (aZ (v':=.int .i64 (((p).length:Nat):Int)) (gD (e:=elI) nQ rfl (SLe.sub Hp sn)) rfl) rfl (sE rfl ?_));rcases bt ((((p).length:Nat):Int)==0) with h12 | h12
  ·have ph12:=J0 h12;refine sB h12 rfl (aI rfl (aI rfl (aI rfl (sE rfl (nl J ?_)))));refine J4 _ _ pp_ ⟨_,s0,?s19,rfl⟩
   case s19=>exact congrArg Value.bool (lT h12)
  have ph12:=AJ h12;refine sB h12 rfl (sQ (qC eR rfl m0 rfl) rfl (sQ (aZ (v':=.int .i64 (((q).length:Nat):Int)) (gD (e:=elI) nQ rfl (SLe.sub Hq sn)) rfl) rfl (sE rfl (sE rfl (nl J ?_)))));refine J4 _ _ pp_ ⟨_,s0,?s19,rfl⟩
  case s19=>exact congrArg Value.bool (iK h12 rfl)
 rintro g13 M ⟨hg19,rfl⟩;simp only [dQ,hg19];clear hg19;rcases bt (((((p).length:Nat):Int)==0)||((((q).length:Nat):Int)==0)) with h14 | h14
 ·refine W_t h14 rfl (Rs fun K J=>sE rfl (nl J (aL (aB (cC rfl (.inr rfl) rfl ?_)))))
  have hE:(([]:List I):(List I))=(cI p q):=by exact aM h6 (bI h14 rfl)
  rw [← hE];exact ⟨_,rfl,⟨[],sn,OwnG.nil⟩⟩
 have ph15:=AJ (Bool.or_eq_false_iff.1 h14).1;have ph16:=AJ (Bool.or_eq_false_iff.1 h14).2;refine W_f h14 rfl (aG (J3 _ _ (Rs fun K J=>sQ (qC eR rfl m1 rfl) rfl (sQ (aZ (v':=.int .i64 (((p).length:Nat):Int)) (gD (e:=elI) nQ rfl (SLe.sub Hp sn)) rfl) rfl (sQ (qC eR rfl m0 rfl) rfl (sQ (aZ (v':=.int .i64 (((q).length:Nat):Int)) (gD (e:=elI) nQ rfl (SLe.sub Hq sn)) rfl) rfl (sV (.int .i64 ((((p).length+(q).length):Nat):Int)) rfl (congrArg (Value.int .i64) (wx oo_ oo_ oo_)) (sV (.int .i64 (((((p).length+(q).length):Nat):Int) - 1)) rfl (congrArg (Value.int .i64) (wx oo_ oo_ oo_)) (sQ (HU rfl rfl) rfl (bA rfl (bO (E:=31) (e:=elI) (l:=(oX (((((p).length+(q).length):Nat):Int) - 1) (fun (y:Nat)=>(tK y q p)) (fun (y:I)=>(rN y)))) (fun v=>v) dZ_ rfl (fun w hw=>GA (((((p).length+(q).length):Nat):Int) - 1) _ (fun (y:Nat)=>(tK y q p)) _ (fun (y:I)=>(rN y)) w (FnV.mk hw oO_ (fun w hw x hx=>WO x _ _ _ _ q _ _ _ _ p w (hw.mem _ m0) (hw.mem _ m1) (aR hw Hq sn) (aR hw Hp sn) (by have hx':((x:Nat):Int)<_:=hx;omega))) (FnV.mk hw d0_ (fun w hw x hx=>(HQ x) w)) oo_) (fun p17 c18 L19 hF20=>sE rfl (nl J (aL (cC rfl (.inr rfl) rfl ?_)))))))))))))))
 have hE:((oX (((((p).length+(q).length):Nat):Int) - 1) (fun (y:Nat)=>(tK y q p)) (fun (y:I)=>(rN y))):(List I))=(cI p q):=by exact aM h6 (aM h14 rfl)
 rw [← hE];exact ⟨_,rfl,⟨L19,lZ,hF20⟩⟩

theorem R7 (a:I) (b:I) (c0 T0:Nat) (n:I) (w:World) (hc0:w.heap[c0]? = some (.cells (aW [pI n]).toArray T0 (0,0))) :
    Calls Tryz.prog 182 [AV [pI a],AV [pI b],.pointer (some ⟨c0,0,none⟩)].toArray w (fun e w'=>e = .returned (AV [pI (yN a b n)])∧Ext w w'):=by
 refine d6 (N:=9) Tryz.func182 rfl rfl (by simp) ?_;obtain ⟨w0,rfl⟩:∃ w0,w0=w:=⟨_,rfl⟩;simp only [cS,Nat.reduceAdd];refine Rs fun K J=>bA rfl (cH rfl rfl (fun b1 hb1=>bA rfl (cH rfl rfl (fun b2 hb2=>sN gT rfl fun b3 hb3=>nl J (Rs fun K J=>sQ (qL aD rfl m2 rfl) rfl (sQ (cW_ aD rfl hc0 (by simp) rfl) rfl ?_))))));refine sC (AV [pI (E (Z.mul a.dec n.dec))]) wX (iF a.1 n.1 a.2 n.2) rfl rfl rfl (sS [pI (E (Z.mul a.dec n.dec))] aD rfl rfl rfl rfl rfl uH rfl hb3 (nl J (aL (cC rfl (.inr rfl) (eP rfl m0 aD rfl) ?_))));exact (by rfl)

theorem kC (vp:Value) (p:(List I)) (n:I) (w:World) (hp:Slr w elI vp p) (hpre:p.length≤100) :
    Calls Tryz.prog 102 [vp,AV [pI n]].toArray w (fun e w'=>∃ v,e = .returned (v)∧Ext w w'∧Slo w.heap.size w' 31 elI v (dS p n)):=by
 obtain ⟨p_p,c_p,rfl⟩:=hp.form;refine gM (n:=12) (fun v=>v) Tryz.func102 rfl rfl (by simp) ?_;obtain ⟨w0,rfl⟩:∃ w0,w0=w:=⟨_,rfl⟩;have Hp:=hp.old;have hm_p:=hp.max;simp only [cS,Nat.reduceAdd];refine Rs fun K J=>bA rfl (cH rfl rfl (fun b1 hb1=>sE rfl (nl J (Sq fun K1 J1=>Rs fun K J=>sQ (qL aD rfl m0 rfl) rfl (sQ (bZ au_ (EU n) rfl) rfl (sE rfl (nl J ?_)))))));rcases bt (xU n) with h2 | h2
 ·refine W_f (iS h2) rfl (aG (J1 _ _ (Rs fun K J=>sE rfl (sQ (HU rfl rfl) rfl (bA rfl (bO (E:=31) (e:=elI) (l:=(oI p ([]:List I) (fun (y:I) (z:I)=>(yN y z n)))) (fun v=>v) at_ rfl (fun w hw=>ET _ p _ ([]:List I) _ (fun (y:I) (z:I)=>(yN y z n)) w (aR hw Hp sn) (SLe.ap hw (SLfe.sle SLfe.nil)) (FnV.mk hw oN_ (fun w hw x hx=>R7 x.1 x.2 _ _ n w (hw.mem _ m0))) o3_) (fun p3 c4 L5 hF6=>?_)))))));refine sE rfl (nl J (aL (cC rfl (.inr rfl) rfl ?_)))
  have hE:((oI p ([]:List I) (fun (y:I) (z:I)=>(yN y z n))):(List I))=(dS p n):=by exact bI h2 rfl
  rw [← hE];exact ⟨_,rfl,⟨L5,lZ,hF6⟩⟩
 refine W_t (iT h2) rfl (Rs fun K J=>bA rfl (bO (E:=31) (e:=elI) (l:=F_poly_bad) (fun v=>v) NA rfl (fun w hw=>xZ  w) (fun p7 c8 L9 hF10=>sE rfl (nl J (aL (aB (cC rfl (.inr rfl) rfl ?_)))))))
 have hE:(F_poly_bad:(List I))=(dS p n):=by exact aM h2 rfl
 rw [← hE];exact ⟨_,rfl,⟨L9,lZ,hF10⟩⟩

theorem IX (vl:Value) (l:(List I)) (w:World) (hl:Slr w elI vl l) :
    Calls Tryz.prog 187 [vl].toArray w (fun e w'=>e = .returned (AV [pI (fO l)])∧Ext w w'):=by
 obtain ⟨p_l,c_l,rfl⟩:=hl.form;refine d6 (N:=17) Tryz.func187 rfl rfl (by simp) ?_;obtain ⟨w0,rfl⟩:∃ w0,w0=w:=⟨_,rfl⟩;have Hl:=hl.old;have hm_l:=hl.max;simp only [cS,Nat.reduceAdd];refine Rs fun K J=>sN gT rfl fun b1 hb1=>nl J (Rs fun K J=>sN gT rfl fun b2 hb2=>nl J (Sq fun K1 J1=>Rs fun K J=>sE rfl (sQ (aZ (v':=.int .i64 (((l).length:Nat):Int)) (gD (e:=elI) vG rfl (SLe.sub Hl sn)) rfl) rfl (sE rfl (nl J ?_)))));refine kI (fun S M h=>J1 S M h) [5,8,9,10,11,12,13,14,15] (fun g M=>∃ (mb2:I),(qD l l I0)=mb2∧(True)∧M=[⟨b2,31,aW [pI mb2]⟩,⟨b1,31,aW [pI I0]⟩]) (fun K_u3 hK_u3=>?_) ?_
 ·refine aJ ?_;have hmx0:(l).length≤9223372036854775807:=hm_l;refine eA [5,8,9,10,11,12,13,14,15] (fun g nn M=>∃ (i0:Nat) (l0:List I) (mb2:I),(qD l l0 mb2)=(qD l l I0)∧(l).drop i0=l0∧l0.length=nn∧g 8 = .int .i64 ((i0:Nat):Int)∧(True)∧M=[⟨b2,31,aW [pI mb2]⟩,⟨b1,31,aW [pI I0]⟩]) (l).length ?start ?round
  case start=>exact ⟨_,s0,0,l,I0,rfl,rfl,rfl,rfl,trivial,rfl⟩
  case round =>
   rintro nn g M ⟨i0,l0,mb2,hT0,hr0,rfl,hgi,-,rfl⟩;simp only [dQ,hgi];clear hgi;refine Rs fun K J=>sE rfl (nl J (Sq fun K6 J6=>?_));rcases l0 with _ | ⟨x0,l0⟩
   ·have h12:=KB hr0;refine W_f h12 rfl (dW (aU (aU (bJ (hK_u3 _ _ pp_ ⟨_,s0,mb2,(by exact hT0.symm.trans (Eq.symm (rfl))),trivial,rfl⟩)))))
   have h13:=F0 hr0;have g14:=B7 hr0;refine W_t h13 rfl (aG (J6 _ _ (Sq fun K7 J7=>aJ (Rs fun K J=>sQ (aZ (v':=.pointer (some (slb (.slice p_l l.length c_l) (i0 * 18+0)))) (lY (e:=elI) (l:=l) (k:=i0) vG rfl rfl (SLe.sub Hl sn) g14.2.1) rfl) rfl (sQ (oK (e:=elI) (l:=l) (k:=i0) (o:=0) aD rfl (SLe.sub Hl sn) g14.1 rfl) rfl (sN gT rfl fun b15 hb15=>sS [pI x0] aD rfl rfl rfl rfl rfl uH rfl hb15 (nl J (Rk fun K J=>sQ (qL aD rfl m1 rfl) rfl (sQ (qL aD rfl m0 rfl) rfl (sC (AV [pI (E (Z.gcd mb2.dec x0.dec))]) KG (yI mb2.1 x0.1 mb2.2 x0.2) rfl rfl rfl (sS [pI (E (Z.gcd mb2.dec x0.dec))] aD rfl rfl rfl rfl rfl (uT uH) rfl hb2 (nl J (J7 _ _ (Rk fun K J=>sV (.int .i64 ((i0+1:Nat):Int)) rfl (congrArg (Value.int .i64) (nxt g14.2.1 hmx0)) ?_))))))))))))));refine sE rfl (nl J (⟨pp_,_,_,(sd (s0)),(Nat.lt_succ_self _),i0+1,l0,(E (Z.gcd mb2.dec x0.dec)),(by exact (hT0.symm.trans (Eq.symm (rfl))).symm),g14.2.2,rfl,rfl,trivial,rfl⟩))
 rintro g M ⟨mb2,hCu3,-,rfl⟩;simp only [dQ];refine Rs fun K J=>sQ (qL aD rfl m0 rfl) rfl (sS [pI mb2] aD rfl rfl rfl rfl rfl (uT uH) rfl hb1 (nl J (aL (cC rfl (.inr rfl) (eP rfl m1 aD rfl) ?_))));exact (by exact congrArg vS4 (show _=(fO l) from (by unfold fO;exact trs (Eq.symm (apS hCu3)) rfl)))

theorem NL (a:I) (b:I) (c0 T0:Nat) (n:I) (w:World) (hc0:w.heap[c0]? = some (.cells (aW [pI n]).toArray T0 (0,0))) :
    Calls Tryz.prog 188 [AV [pI a],AV [pI b],.pointer (some ⟨c0,0,none⟩)].toArray w (fun e w'=>e = .returned (AV [pI (vC a b n)])∧Ext w w'):=by
 refine d6 (N:=9) Tryz.func188 rfl rfl (by simp) ?_;obtain ⟨w0,rfl⟩:∃ w0,w0=w:=⟨_,rfl⟩;simp only [cS,Nat.reduceAdd];refine Rs fun K J=>bA rfl (cH rfl rfl (fun b1 hb1=>bA rfl (cH rfl rfl (fun b2 hb2=>sN gT rfl fun b3 hb3=>nl J (Rs fun K J=>sQ (qL aD rfl m2 rfl) rfl (sQ (cW_ aD rfl hc0 (by simp) rfl) rfl ?_))))));refine sC (AV [pI (E (Z.quo a.dec n.dec))]) zC (mH a.1 n.1 a.2 n.2) rfl rfl rfl (sS [pI (E (Z.quo a.dec n.dec))] aD rfl rfl rfl rfl rfl uH rfl hb3 (nl J (aL (cC rfl (.inr rfl) (eP rfl m0 aD rfl) ?_))));exact (by rfl)

theorem F9 (vp:Value) (p:(List I)) (w:World) (hp:Slr w elI vp p) (hpre:p.length≤100) :
    Calls Tryz.prog 106 [vp].toArray w (fun e w'=>∃ v,e = .returned (v)∧Ext w w'∧Slo w.heap.size w' 31 elI v (gW p)):=by
 obtain ⟨p_p,c_p,rfl⟩:=hp.form;refine gM (n:=9) (fun v=>v) Tryz.func106 rfl rfl (by simp) ?_;obtain ⟨w0,rfl⟩:∃ w0,w0=w:=⟨_,rfl⟩;have Hp:=hp.old;have hm_p:=hp.max;simp only [cS,Nat.reduceAdd];refine Rs fun K J=>sE rfl (nl J (Rs fun K J=>sE rfl (sQ (aZ (v':=AV [pI (fO p)]) (dA iF_ rfl (fun w hw=>IX _ p w (aR hw Hp sn))) rfl) rfl (sN gT rfl fun b1 hb1=>sS [pI (fO p)] aD rfl rfl rfl rfl rfl uH rfl hb1 (nl J (Rs fun K J=>sE rfl (sQ (HU rfl rfl) rfl (bA rfl (bO (E:=31) (e:=elI) (l:=(oI p ([]:List I) (fun (y:I) (z:I)=>(vC y z (fO p))))) (fun v=>v) at_ rfl (fun w hw=>ET _ p _ ([]:List I) _ (fun (y:I) (z:I)=>(vC y z (fO p))) w (aR hw Hp sn) (SLe.ap hw (SLfe.sle SLfe.nil)) (FnV.mk hw oP_ (fun w hw x hx=>NL x.1 x.2 _ _ (fO p) w (hw.mem _ m0))) o3_) (fun p2 c3 L4 hF5=>?_))))))))));refine sE rfl (nl J (aL (cC rfl (.inr rfl) rfl ?_)))
 have hE:((oI p ([]:List I) (fun (y:I) (z:I)=>(vC y z (fO p)))):(List I))=(gW p):=by exact rfl
 rw [← hE];exact ⟨_,rfl,⟨L4,lZ,hF5⟩⟩
end Go.Proofs.YtkjjponijamaoaaGreatDoor


namespace Go.Num
open Go Go.Kn
theorem Z.cases (z:Z):z=Z.bad ∨ ∃ v:Int,v.natAbs<4294967296 ^ 16∧z=Z.of v∧z.o=some v:=by
  cases h:z.o with
  | none=>exact .inl (Z.eq_bad h)
  | some v=>exact .inr ⟨v,z.h v h,Z.eq_of h,rfl⟩
theorem Z.zero_add (z:Z):Z.add (Z.of 0) z=z:=by
  rcases Z.cases z with rfl | ⟨v,_,rfl,hv⟩
  · rfl
  rw [Z.add,gZ (Z.of_some dd_) hv,Int.zero_add]
theorem W.ext {a b:W} (h:a.1=b.1):a=b:=Subtype.ext h
structure PrimOk (a:A3 I) (p:A3 W) (x y z g:Int):Prop where
  ax:a.x.dec.o=some x
  ay:a.y.dec.o=some y
  az:a.z.dec.o=some z
  gd:g=((Int.gcd (Int.gcd (Int.gcd 0 x:Nat) y:Nat) z:Nat):Int)
  g0:0<g
  px:g * p.x.1=x
  py:g * p.y.1=y
  pz:g * p.z.1=z
  bx:-2305843009213693952<p.x.1∧p.x.1<2305843009213693952
  bY:-2305843009213693952<p.y.1∧p.y.1<2305843009213693952
  bz:-2305843009213693952<p.z.1∧p.z.1<2305843009213693952
def Z.Is (z:Z) (v:Int):Prop:=z.o=none∨z.o=some v
theorem Z.Is.sign {z:Z} {v:Int} (h:z.Is v):z.o=none∨z.sign=v.sign:=by
  rcases h with h | h
  · exact .inl h
  right;unfold Z.sign;rw [h]
structure Fit (z:Z) (v:Int) (k:Nat):Prop where
  eq:z=Z.of v
  lt:v.natAbs<2 ^ k
theorem sG_ {k:Nat} (hk:k≤511) {n:Nat} (h:n<2 ^ k):n<4294967296 ^ 16:=by
  have e:(2:Nat) ^ (32 * 16)=(2 ^ 32) ^ 16:=Nat.pow_mul 2 32 16;exact Nat.lt_of_lt_of_le h (Nat.le_trans (Nat.pow_le_pow_right dd_ (show k≤32 * 16 by omega)) (Nat.le_of_eq e))
theorem Fit.o {z:Z} {v:Int} {k:Nat} (h:Fit z v k) (hk:k≤511):z.o=some v:=by rw [h.eq];exact Z.of_some (sG_ hk h.lt)
theorem Fit.mono {z:Z} {v:Int} {k k':Nat} (h:Fit z v k) (hk:k≤k'):Fit z v k':=⟨h.eq,Nat.lt_of_lt_of_le h.lt (Nat.pow_le_pow_right dd_ hk)⟩
theorem Fit.mul {a b:Z} {x y:Int} {k l:Nat} (ha:Fit a x k) (hb:Fit b y l) (hk:k≤511∧l≤511):Fit (Z.mul a b) (x * y) (k+l) :=
  ⟨by rw [Z.mul,gZ (ha.o hk.1) (hb.o hk.2)],by rw [Int.natAbs_mul,Nat.pow_add];exact Nat.mul_lt_mul_of_lt_of_lt ha.lt hb.lt⟩
theorem Fit.add {a b:Z} {x y:Int} {k l:Nat} (ha:Fit a x k) (hb:Fit b y l) (hk:k≤511∧l≤511):Fit (Z.add a b) (x+y) (max k l+1):=by
  refine ⟨by rw [Z.add,gZ (ha.o hk.1) (hb.o hk.2)],?_⟩;have h1:=(ha.mono (Nat.le_max_left k l)).lt;have h2:=(hb.mono (Nat.le_max_right k l)).lt;rw [Nat.pow_succ];omega
theorem Fit.neg {a:Z} {x:Int} {k:Nat} (ha:Fit a x k) (hk:k≤511):Fit (Z.neg a) (-x) k:=⟨by rw [Z.neg,rB (ha.o hk)],by rw [Int.natAbs_neg];exact ha.lt⟩
theorem Fit.sub {a b:Z} {x y:Int} {k l:Nat} (ha:Fit a x k) (hb:Fit b y l) (hk:k≤511∧l≤511):Fit (Z.sub a b) (x - y) (max k l+1):=by
  rw [Int.sub_eq_add_neg];exact ha.add (hb.neg hk.2) hk
theorem Fit.sign {z:Z} {v:Int} {k:Nat} (h:Fit z v k) (hk:k≤511):z.sign=v.sign:=by unfold Z.sign;rw [h.o hk]
theorem NZ (p:List I) (a b:Rt):∀ (k:Nat) (r:List I) (i:Int),r.length≤25→(iP p a b k r i).1.length≤25
  | 0,r,i,h=>h
  | k+1,r,i,h=>by
    unfold iP
    cases decide (0≤i)
    · exact h
    exact NZ p a b k _ _ (jL _ _)
theorem OX (p:List I) (a b:Rt):(kL p a b).length≤25:=xW BI (NZ p a b _ _ _ (Nat.zero_le _))
theorem EC (p:List I) (a b:Rt):(gN p a b).length≤25:=wZ _
abbrev gR (v:Int):Prop:=v.natAbs<4294967296 ^ 16
theorem aT_ {v:Int} (h:¬ gR v):Z.of v=Z.bad:=by unfold Z.of;rw [dif_neg h]
structure Rt.Is (a:Rt) (n d:Int):Prop where
  en:a.n=E (Z.of n)
  ed:a.d=E (Z.of d)
  hn:gR n
  hd:gR d
  pos:0<d
  cop:Int.gcd n d=1
theorem Rt.ext {a b:Rt} (h:a.n=b.n) (k:a.d=b.d):a=b:=by cases a;cases b;simp_all
def Rgt (p:List I):Prop:=p=badp∨(p.all gdI=true∧tM p=p∧p.length≤25)
theorem W8 (l:List I):tM (tM l)=tM l:=by
  suffices ∀ n (l:List I),l.length≤n→tM (tM l)=tM l from this _ l (Nat.le_refl _)
  intro n
  induction n with
  | zero=>intro l h;rw [List.eq_nil_of_length_eq_zero (show l.length=0 by omega)];rfl
  | succ n ih =>
    intro l h;rcases BZ l with rfl | ⟨m,x,rfl⟩
    · rfl
    have hs:=B2 m x
    cases hx:zrI x
    · rw [hx,cond_false] at hs;rw [hs,hs]
    rw [hx,cond_true] at hs;rw [hs];exact ih m (by simp only [List.length_append,List.length_cons,List.length_nil] at h;omega)
theorem ZJ {l:List I} (h:l.all gdI=true):(tM l).all gdI=true:=by
  rw [FQ];rw [List.all_eq_true] at h ⊢;exact fun x hx=>h x (List.mem_of_mem_take hx)
theorem aS_ (l:List I):Rgt (mkP l):=by
  unfold mkP
  cases h:l.all gdI
  · exact .inl rfl
  simp only [cond_true]
  split
  · rename_i h2;exact .inr ⟨ZJ h,W8 l,h2⟩
  exact .inl rfl
theorem vT (l:List W):Rgt (eU l):=by unfold eU;rw [RO];exact aS_ _
theorem pT (p q:List I):Rgt (cI p q):=by
  unfold cI
  cases (eJ p||eJ q)
  · simp only [cond_false]
    cases ((((p.length:Nat):Int)==0)||(((q.length:Nat):Int)==0))
    · rw [cond_false,CS];exact aS_ _
    exact .inr ⟨rfl,rfl,Nat.zero_le _⟩
  exact .inl rfl
end Go.Num

