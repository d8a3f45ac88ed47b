/- Lemmas: what they ask stands in their statements. -/
import Derived.Test.YtkjjponijamaoaaGreatDoorTH3xOf
import Derived.Test.YtkjjponijamaoaaGreatDoorTUa
set_option linter.unusedSimpArgs false
set_option linter.unusedVariables false
set_option maxHeartbeats 8000000
set_option maxRecDepth 20000
namespace Go.Proofs.YtkjjponijamaoaaGreatDoor
open Go.Kn Go.Num Tryz
attribute [local irreducible] Go.Kn.W WL PL OpQ OpR OpS
theorem BR (a:(A3 W)) (b:W) :
    Ret prog 109 [AV [cw a.x.1,cw a.y.1,cw a.z.1],.int .i64 b.1] (.bool (eA a b)):=by
 refine bL (N:=23) func109 rfl rfl (by simp) (fun w0=>?_);simp only [bO,Nat.reduceAdd];refine go2 ?_;intro b1 hb1;refine go7 ?_;refine sO 5 (go4 ?_);refine sV (.bool true) rfl rfl (go5 ?_);refine gJv [10,11,12,13,14,15,16,17,18,19,20,21,22] [(22,.bool (decide (b.1<a.x.1)||decide (a.x.1<(W.neg b).1)))] (fun K5 J5=>?_) ?_
 ·refine go6 ?_;refine sBB rfl (fun h3=>?_) (fun h3=>?_)
  ·have ph3:=of_decide_eq_true h3;refine go8 ?_;refine J5 _ _ pp_ s0 (bK (mF h3))
  have ph3:=of_decide_eq_false h3;refine go4 ?_;refine sV (.int .i64 ((W.neg b).1)) rfl rfl (go3 ?_);refine J5 _ _ pp_ s0 (bK (j9 h3 rfl))
 intro g4;refine aH _ rfl (fun h5=>?_) (fun h5=>?_)
 ·refine go4 ?_;refine bA rfl (.inr rfl) rfl ?_;exact congrArg vS2 (show _=(eA a b) from aY h5 rfl)
 refine go3 ?_;refine sV (.int .i64 1) rfl rfl (go6 ?_);refine sV (.bool true) rfl rfl (go5 ?_);refine gJv [10,11,12,13,14,15,16,17,18,19,20,21,22] [(22,.bool (decide (b.1<a.y.1)||decide (a.y.1<(W.neg b).1)))] (fun K9 J9=>?_) ?_
 ·refine go6 ?_;refine sBB rfl (fun h7=>?_) (fun h7=>?_)
  ·have ph7:=of_decide_eq_true h7;refine go8 ?_;refine J9 _ _ pp_ s0 (bK (mF h7))
  have ph7:=of_decide_eq_false h7;refine go4 ?_;refine sV (.int .i64 ((W.neg b).1)) rfl rfl (go3 ?_);refine J9 _ _ pp_ s0 (bK (j9 h7 rfl))
 intro g8;refine aH _ rfl (fun h9=>?_) (fun h9=>?_)
 ·refine go4 ?_;refine bA rfl (.inr rfl) rfl ?_;exact congrArg vS2 (show _=(eA a b) from aI h5 (aY h9 rfl))
 refine go3 ?_;refine sV (.int .i64 2) rfl rfl (go6 ?_);refine sV (.bool true) rfl rfl (go5 ?_);refine gJv [10,11,12,13,14,15,16,17,18,19,20,21,22] [(22,.bool (decide (b.1<a.z.1)||decide (a.z.1<(W.neg b).1)))] (fun K13 J13=>?_) ?_
 ·refine go6 ?_;refine sBB rfl (fun h11=>?_) (fun h11=>?_)
  ·have ph11:=of_decide_eq_true h11;refine go8 ?_;refine J13 _ _ pp_ s0 (bK (mF h11))
  have ph11:=of_decide_eq_false h11;refine go4 ?_;refine sV (.int .i64 ((W.neg b).1)) rfl rfl (go3 ?_);refine J13 _ _ pp_ s0 (bK (j9 h11 rfl))
 intro g12;refine aH _ rfl (fun h13=>?_) (fun h13=>?_)
 ·refine go4 ?_;refine bA rfl (.inr rfl) rfl ?_;exact congrArg vS2 (show _=(eA a b) from aI h5 (aI h9 (aY h13 rfl)))
 refine go3 ?_;refine sV (.int .i64 3) rfl rfl (go6 ?_);refine sV (.bool false) rfl rfl (go7 ?_);refine bA rfl (.inr rfl) rfl ?_;exact congrArg vS2 (show _=(eA a b) from aI h5 (aI h9 (aI h13 rfl)))
theorem xR (a:I) (b:I) (c:I) :
    Ret prog 84 [AV [pI a],AV [pI b],AV [pI c]] (AV [pI (j3 a b c)]):=by
 refine bL (N:=12) func84 rfl rfl (by simp) (fun w0=>?_);simp only [bO,Nat.reduceAdd];refine go2 ?_;intro b1 hb1;refine go_ ?_;intro b2 hb2;refine go_ ?_;intro b3 hb3;refine go_ ?_;intro b4 hb4;refine go_ ?_;refine oX (sd s0) 6 [5] [5] (go2 ?_);refine pC (AV [pI (E (Z.mul a.dec b.dec))]) aB (cZ a.1 b.1 a.2 b.2) rfl rfl rfl (go_ ?_);refine pC (AV [pI (E (Z.mul (Z.mul a.dec b.dec) c.dec))]) aB (cZ (E (Z.mul a.dec b.dec)).1 c.1 (E (Z.mul a.dec b.dec)).2 c.2) rfl rfl (cg2 (fun p q=>AV [pI (E (Z.mul p q))]) (dB _) rfl) (go3 ?_);refine bA rfl (.inr rfl) (eF rfl m0 tyT rfl) ?_;exact (by rfl)
theorem tH (h:Path) (u:(A3 W)) (b:(A3 Rt)) (m:Rt) (w:World)  :
    Calls prog 31 [AV [cw h.from_.x.x.1,cw h.from_.x.y.1,cw h.from_.x.z.1,cw h.from_.q.x.1,cw h.from_.q.y.1,cw h.from_.q.z.1,cw h.from_.q.t.1,cw h.to_.x.x.1,cw h.to_.x.y.1,cw h.to_.x.z.1,cw h.to_.q.x.1,cw h.to_.q.y.1,cw h.to_.q.z.1,cw h.to_.q.t.1],AV [cw u.x.1,cw u.y.1,cw u.z.1],AV [pI b.x.n,pI b.x.d,pI b.y.n,pI b.y.d,pI b.z.n,pI b.z.d],AV [pI m.n,pI m.d]].toArray w (fun e w'=>∃ v,e = .returned (.agg #[v,.int .i64 (((aS h u b m).e).1)])∧Ext w w'∧Slo w.heap.size w' 31 elI v (aS h u b m).p):=by
 refine dW (n:=109) (fun v=>.agg #[v,.int .i64 (((aS h u b m).e).1)]) func31 rfl rfl (by simp) ?_;obtain ⟨w0,rfl⟩:∃ w0,w0=w:=⟨_,rfl⟩;simp only [bO,Nat.reduceAdd];obtain ⟨q0,hq0⟩:=nm ((cM h):W);obtain ⟨q1,hq1⟩:=nm ((eA u (wl 262144)):Bool);obtain ⟨q2,hq2⟩:=nm ((aG m):Bool);obtain ⟨q3,hq3⟩:=nm ((aG b.x):Bool);obtain ⟨q4,hq4⟩:=nm ((aG b.y):Bool);obtain ⟨q5,hq5⟩:=nm ((aG b.z):Bool);obtain ⟨q6,hq6⟩:=nm ((cY h u):Moving);obtain ⟨q7,hq7⟩:=nm ((j3 b.x.d b.y.d b.z.d):I);obtain ⟨q8,hq8⟩:=nm ((aX q6.s q6.s):(List I));obtain ⟨q9,hq9⟩:=nm ((j3 m.n q7 q7):I);obtain ⟨q10,hq10⟩:=nm ((aM q8 q9):(List I));obtain ⟨q11,hq11⟩:=nm ((E (Z.mul b.x.n.dec q7.dec)):I);obtain ⟨q12,hq12⟩:=nm ((E (Z.quo q11.dec b.x.d.dec)):I);obtain ⟨q13,hq13⟩:=nm ((aM q6.n.x q7):(List I));obtain ⟨q14,hq14⟩:=nm ((aM q6.s q12):(List I));obtain ⟨q15,hq15⟩:=nm ((eD q13 q14):(List I));obtain ⟨q16,hq16⟩:=nm ((aX q15 q15):(List I));obtain ⟨q17,hq17⟩:=nm ((aK ([]:List I) q16):(List I));obtain ⟨q18,hq18⟩:=nm ((E (Z.mul b.y.n.dec q7.dec)):I);obtain ⟨q19,hq19⟩:=nm ((E (Z.quo q18.dec b.y.d.dec)):I);obtain ⟨q20,hq20⟩:=nm ((aM q6.n.y q7):(List I));obtain ⟨q21,hq21⟩:=nm ((aM q6.s q19):(List I));obtain ⟨q22,hq22⟩:=nm ((eD q20 q21):(List I));obtain ⟨q23,hq23⟩:=nm ((aX q22 q22):(List I));obtain ⟨q24,hq24⟩:=nm ((aK q17 q23):(List I));obtain ⟨q25,hq25⟩:=nm ((E (Z.mul b.z.n.dec q7.dec)):I);obtain ⟨q26,hq26⟩:=nm ((E (Z.quo q25.dec b.z.d.dec)):I);obtain ⟨q27,hq27⟩:=nm ((aM q6.n.z q7):(List I));obtain ⟨q28,hq28⟩:=nm ((aM q6.s q26):(List I));obtain ⟨q29,hq29⟩:=nm ((eD q27 q28):(List I));obtain ⟨q30,hq30⟩:=nm ((aX q29 q29):(List I));obtain ⟨q31,hq31⟩:=nm ((aK q24 q30):(List I));obtain ⟨q32,hq32⟩:=nm ((aM q31 m.d):(List I));obtain ⟨q33,hq33⟩:=nm ((eD q10 q32):(List I));obtain ⟨q34,hq34⟩:=nm ((eY q33):(List I));obtain ⟨q35,hq35⟩:=nm ((bG q34):Bool);refine go2 ?_;intro b1 hb1;refine go_ ?_;intro b2 hb2;refine go_ ?_;intro b3 hb3;refine go_ ?_;intro b4 hb4;refine go_ ?_;intro b5 hb5;refine go2 ?_;refine gJv [18,19,20,21,22,23,24,25,26,27,28,29,30] [(30,.bool ((q0.1 != 0)||(!q1||(!q2))))] (fun K2 J2=>?_) ?_
 ·refine go2 ?_;refine sC (.int .i64 q0.1) aB (uV h) rfl rfl (by rw [hq0];first|done|rfl) (go_ ?_);refine sBB rfl (fun h8=>?_) (fun h8=>?_)
  ·refine jT ?_;refine J2 _ _ pp_ s0 (bK (mF h8))
  refine go_ ?_;refine sC (.bool q1) aB (BR u (wl 262144)) rfl rfl (by rw [hq1];first|done|rfl) ?_;refine go2 ?_;rcases bt q1 with h9|h9
  ·refine sB (gE h9) rfl (go_ ?_);refine sC (.bool q2) aB (gG m) rfl rfl (by rw [hq2];first|done|rfl) (go3 ?_);refine J2 _ _ pp_ s0 (bK (j9 h8 (jU h9 rfl)))
  refine sB (iK h9) rfl (go5 ?_);refine J2 _ _ pp_ s0 (bK (j9 h8 (n7 h9)))
 intro g10;refine aH _ rfl (fun h11=>?_) (fun h11=>?_)
 ·refine go5 ?_;refine bA rfl (.inr rfl) (eF rfl m0 tyT rfl) ?_
  have hE:((⟨([]:List I),(wl 1)⟩:Curve):Curve)=(aS h u b m):=by subst_vars;exact aY h11 rfl
  rw [← hE];exact ⟨_,rfl,⟨[],sn,OwnG.nil⟩⟩
 refine go6 ?_;refine sO 5 (go4 ?_);refine sV (.bool true) rfl rfl (go9 ?_);refine sC (.bool q3) aB (gG b.x) rfl rfl (by rw [hq3];first|done|rfl) (go2 ?_);rcases bt q3 with h12|h12
 ·refine W_f (gE h12) rfl (go3 ?_);refine sV (.int .i64 1) rfl rfl (go6 ?_);refine sV (.bool true) rfl rfl (go9 ?_);refine sC (.bool q4) aB (gG b.y) rfl rfl (by rw [hq4];first|done|rfl) (go2 ?_);rcases bt q4 with h13|h13
  ·refine W_f (gE h13) rfl (go3 ?_);refine sV (.int .i64 2) rfl rfl (go6 ?_);refine sV (.bool true) rfl rfl (go9 ?_);refine sC (.bool q5) aB (gG b.z) rfl rfl (by rw [hq5];first|done|rfl) (go2 ?_);rcases bt q5 with h14|h14
   ·refine W_f (gE h14) rfl (go3 ?_);refine sV (.int .i64 3) rfl rfl (go6 ?_);refine sV (.bool false) rfl rfl (go6 ?_);refine bD rfl (A5 (E:=31) (e:=elI) (l1:=q6.n.x) (l2:=q6.n.y) (l3:=q6.n.z) (l4:=q6.s) (fun v1 v2 v3 v4=>.agg #[v1,v2,v3,v4]) aB rfl (fun w hw=>(by rw [hq6];exact BQ h u w)) (fun p15 c16 L17 p19 c20 L21 p23 c24 L25 p27 c28 L29 hF18 hF22 hF26 hF30=>?_));have hb31:(q6.n.x).length≤25:=(by simp only [hq6];exact (AL h u));have hb32:(q6.n.y).length≤25:=(by simp only [hq6];exact (AM h u));have hb33:(q6.n.z).length≤25:=(by simp only [hq6];exact (AN h u));have hb34:(q6.s).length≤25:=(by simp only [hq6];exact (AK h u));refine go_ ?_;intro b35 hb35;refine go2 ?_;refine i9 (sk (sA (sA (sA (sA (sk (sk (sk (sd (sd (s0))))))))))) ?_;refine jT ?_;refine sC (AV [pI q7]) aB (xR b.x.d b.y.d b.z.d) rfl rfl (by subst hq7;rfl) (go_ ?_);intro b36 hb36;refine go2 ?_;refine gds s0 [0,4,8,12,20,24,28,32,17,36,41,44] [] mix (by kernel_rfl) (go8 ?_);refine cF rfl rfl (aN (E:=31) (e:=elI) (l:=q8) (fun v=>v) aB rfl (fun w hw=>(by rw [hq8];exact iX _ q6.s _ q6.s w (aO hw hF30 (sd (sd (sR (sR (sR lZ)))))) (aO hw hF30 (sd (sd (sR (sR (sR lZ)))))) oo_)) (fun p37 c38 L39 hF40=>⟨(fun _=>sR s0),(sR s0),?_⟩));have hb41:=(by rw [hq8];exact (iB q6.s q6.s):(q8).length≤25);refine pC (AV [pI q9]) aB (xR m.n q7 q7) rfl rfl (by subst hq9;rfl) (cF rfl rfl (aN (E:=31) (e:=elI) (l:=q10) (fun v=>v) aB rfl (fun w hw=>(by rw [hq10];exact dJ _ q8 q9 w (aO hw hF40 lZ) oo_)) (fun p42 c43 L44 hF45=>⟨(fun _=>sR s0),(sR (sR s0)),?_⟩)));have hb46:=(by rw [hq10];exact (dD q8 q9):(q10).length≤25);refine jT ?_;refine sO 5 (go4 ?_);refine sV (.bool true) rfl rfl (go5 ?_);refine oX s0 13 [11,12] [12] (go5 ?_);refine pC (AV [pI q11]) aB (cZ b.x.n.1 q7.1 b.x.n.2 q7.2) rfl rfl (by subst hq11;rfl) (go4 ?_);refine pC (AV [pI q12]) aB (gK q11.1 b.x.d.1 q11.2 b.x.d.2) rfl rfl (by subst hq12;rfl) (cF rfl rfl (kA zpT (fun b47 hb47=>⟨(fun _=>sd s0),(sd s0),?_⟩)));refine go2 ?_;refine gds s0 [0,4,8,12,16,24,28,32,21,37,41,44] [] mix (by kernel_rfl) (go8 ?_);refine cF rfl rfl (aN (E:=31) (e:=elI) (l:=q13) (fun v=>v) aB rfl (fun w hw=>(by rw [hq13];exact dJ _ q6.n.x q7 w (aO hw hF18 (sd (sR (sR (sd (sd lZ)))))) oo_)) (fun p48 c49 L50 hF51=>⟨(fun _=>sR s0),(sR s0),?_⟩));have hb52:=(by rw [hq13];exact (dD q6.n.x q7):(q13).length≤25);refine cF rfl rfl (aN (E:=31) (e:=elI) (l:=q14) (fun v=>v) aB rfl (fun w hw=>(by rw [hq14];exact dJ _ q6.s q12 w (aO hw hF30 (sR (sd (sR (sR (sd (sd (sR (sR (sR lZ)))))))))) oo_)) (fun p53 c54 L55 hF56=>⟨(fun _=>sR s0),(sR (sR s0)),?_⟩));have hb57:=(by rw [hq14];exact (dD q6.s q12):(q14).length≤25);refine cF rfl rfl (aN (E:=31) (e:=elI) (l:=q15) (fun v=>v) aB rfl (fun w hw=>(by rw [hq15];exact o9 _ q13 _ q14 w (aO hw hF51 (sR lZ)) (aO hw hF56 lZ) oo_)) (fun p58 c59 L60 hF61=>⟨(fun _=>sR s0),(sR (sR (sR s0))),?_⟩));have hb62:=(by rw [hq15];exact (nL q13 q14):(q15).length≤25);refine go6 ?_;refine bD rfl (aN (E:=31) (e:=elI) (l:=q16) (fun v=>v) aB rfl (fun w hw=>(by rw [hq16];exact iX _ q15 _ q15 w (aO hw hF61 lZ) (aO hw hF61 lZ) oo_)) (fun p63 c64 L65 hF66=>?_));have hb67:=(by rw [hq16];exact (iB q15 q15):(q16).length≤25);refine bD rfl (aN (E:=31) (e:=elI) (l:=q17) (fun v=>v) aB rfl (fun w hw=>(by rw [hq17];exact dV _ ([]:List I) _ q16 w (SLe.ap hw (SLfe.sle SLfe.nil)) (aO hw hF66 lZ) o3_)) (fun p68 c69 L70 hF71=>?_));have hb72:=(by rw [hq17];exact (dA ([]:List I) q16):(q17).length≤25);refine go4 ?_;refine sV (.int .i64 1) rfl rfl (go6 ?_);refine sV (.bool true) rfl rfl (go5 ?_);refine oX s0 13 [11,12] [12] (go5 ?_);refine pC (AV [pI q18]) aB (cZ b.y.n.1 q7.1 b.y.n.2 q7.2) rfl rfl (by subst hq18;rfl) (go4 ?_);refine pC (AV [pI q19]) aB (gK q18.1 b.y.d.1 q18.2 b.y.d.2) rfl rfl (by subst hq19;rfl) (cF rfl rfl (kA zpT (fun b73 hb73=>⟨(fun _=>sd s0),(sd s0),?_⟩)));refine go2 ?_;refine i9 (sk (sA (sA (sA (sA (sA (sd (sA (sR (s0)))))))))) ?_;refine gds s0 [0,4,8,12,16,24,28,32,21,37,41,44] [] mix (by kernel_rfl) (go8 ?_);refine cF rfl rfl (aN (E:=31) (e:=elI) (l:=q20) (fun v=>v) aB rfl (fun w hw=>(by rw [hq20];exact dJ _ q6.n.y q7 w (aO hw hF22 (sd (sR (sR (sR (sR (sR (sR (sd (sd (sR lZ))))))))))) oo_)) (fun p74 c75 L76 hF77=>⟨(fun _=>sR s0),(sR s0),?_⟩));have hb78:=(by rw [hq20];exact (dD q6.n.y q7):(q20).length≤25);refine cF rfl rfl (aN (E:=31) (e:=elI) (l:=q21) (fun v=>v) aB rfl (fun w hw=>(by rw [hq21];exact dJ _ q6.s q19 w (aO hw hF30 (sR (sd (sR (sR (sR (sR (sR (sR (sd (sd (sR (sR (sR lZ)))))))))))))) oo_)) (fun p79 c80 L81 hF82=>⟨(fun _=>sR s0),(sR (sR s0)),?_⟩));have hb83:=(by rw [hq21];exact (dD q6.s q19):(q21).length≤25);refine cF rfl rfl (aN (E:=31) (e:=elI) (l:=q22) (fun v=>v) aB rfl (fun w hw=>(by rw [hq22];exact o9 _ q20 _ q21 w (aO hw hF77 (sR lZ)) (aO hw hF82 lZ) oo_)) (fun p84 c85 L86 hF87=>⟨(fun _=>sR s0),(sR (sR (sR s0))),?_⟩));have hb88:=(by rw [hq22];exact (nL q20 q21):(q22).length≤25);refine go6 ?_;refine bD rfl (aN (E:=31) (e:=elI) (l:=q23) (fun v=>v) aB rfl (fun w hw=>(by rw [hq23];exact iX _ q22 _ q22 w (aO hw hF87 lZ) (aO hw hF87 lZ) oo_)) (fun p89 c90 L91 hF92=>?_));have hb93:=(by rw [hq23];exact (iB q22 q22):(q23).length≤25);refine bD rfl (aN (E:=31) (e:=elI) (l:=q24) (fun v=>v) aB rfl (fun w hw=>(by rw [hq24];exact dV _ q17 _ q23 w (aO hw hF71 (sR (sR (sR (sR (sd lZ)))))) (aO hw hF92 lZ) oo_)) (fun p94 c95 L96 hF97=>?_));have hb98:=(by rw [hq24];exact (dA q17 q23):(q24).length≤25);refine go4 ?_;refine sV (.int .i64 2) rfl rfl (go3 ?_);refine i9 (sA (sA (sA (sA (sA (sk (sA (sR (sR (sR (sR (s0)))))))))))) ?_;refine go3 ?_;refine sV (.bool true) rfl rfl (go5 ?_);refine oX s0 13 [11,12] [12] (go5 ?_);refine pC (AV [pI q25]) aB (cZ b.z.n.1 q7.1 b.z.n.2 q7.2) rfl rfl (by subst hq25;rfl) (go4 ?_);refine pC (AV [pI q26]) aB (gK q25.1 b.z.d.1 q25.2 b.z.d.2) rfl rfl (by subst hq26;rfl) (cF rfl rfl (kA zpT (fun b99 hb99=>⟨(fun _=>sd s0),(sd s0),?_⟩)));refine go2 ?_;refine gds s0 [0,4,8,12,16,24,28,32,21,37,41,44] [] mix (by kernel_rfl) (go8 ?_);refine cF rfl rfl (aN (E:=31) (e:=elI) (l:=q27) (fun v=>v) aB rfl (fun w hw=>(by rw [hq27];exact dJ _ q6.n.z q7 w (aO hw hF26 (sd (sR (sR (sR (sR (sR (sd (sR (sR (sd (sd (sR (sR lZ)))))))))))))) oo_)) (fun p100 c101 L102 hF103=>⟨(fun _=>sR s0),(sR s0),?_⟩));have hb104:=(by rw [hq27];exact (dD q6.n.z q7):(q27).length≤25);refine cF rfl rfl (aN (E:=31) (e:=elI) (l:=q28) (fun v=>v) aB rfl (fun w hw=>(by rw [hq28];exact dJ _ q6.s q26 w (aO hw hF30 (sR (sd (sR (sR (sR (sR (sR (sd (sR (sR (sd (sd (sR (sR (sR lZ)))))))))))))))) oo_)) (fun p105 c106 L107 hF108=>⟨(fun _=>sR s0),(sR (sR s0)),?_⟩));have hb109:=(by rw [hq28];exact (dD q6.s q26):(q28).length≤25);refine cF rfl rfl (aN (E:=31) (e:=elI) (l:=q29) (fun v=>v) aB rfl (fun w hw=>(by rw [hq29];exact o9 _ q27 _ q28 w (aO hw hF103 (sR lZ)) (aO hw hF108 lZ) oo_)) (fun p110 c111 L112 hF113=>⟨(fun _=>sR s0),(sR (sR (sR s0))),?_⟩));have hb114:=(by rw [hq29];exact (nL q27 q28):(q29).length≤25);refine go6 ?_;refine bD rfl (aN (E:=31) (e:=elI) (l:=q30) (fun v=>v) aB rfl (fun w hw=>(by rw [hq30];exact iX _ q29 _ q29 w (aO hw hF113 lZ) (aO hw hF113 lZ) oo_)) (fun p115 c116 L117 hF118=>?_));have hb119:=(by rw [hq30];exact (iB q29 q29):(q30).length≤25);refine bD rfl (aN (E:=31) (e:=elI) (l:=q31) (fun v=>v) aB rfl (fun w hw=>(by rw [hq31];exact dV _ q24 _ q30 w (aO hw hF97 (sR (sR (sR (sR (sd lZ)))))) (aO hw hF118 lZ) oo_)) (fun p120 c121 L122 hF123=>?_));have hb124:=(by rw [hq31];exact (dA q24 q30):(q31).length≤25);refine go4 ?_;refine sV (.int .i64 3) rfl rfl (go3 ?_);refine i9 (sA (sA (sA (sA (sA (sk (sA (sR (sR (sR (sR (sd (sR (s0)))))))))))))) ?_;refine go3 ?_;refine sV (.bool false) rfl rfl (go3 ?_);refine i9 (sA (sR (sR (sR (sR (sd (sR (sA (sd (sd (sR (sR (sR (sR (sk (sk (sd (s0)))))))))))))))))) ?_;refine go5 ?_;refine bD rfl (aN (E:=31) (e:=elI) (l:=q32) (fun v=>v) aB rfl (fun w hw=>(by rw [hq32];exact dJ _ q31 m.d w (aO hw hF123 lZ) oo_)) (fun p125 c126 L127 hF128=>?_));have hb129:=(by rw [hq32];exact (dD q31 m.d):(q32).length≤25);refine bD rfl (aN (E:=31) (e:=elI) (l:=q33) (fun v=>v) aB rfl (fun w hw=>(by rw [hq33];exact o9 _ q10 _ q32 w (aO hw hF45 (sR (sR lZ))) (aO hw hF128 lZ) oo_)) (fun p130 c131 L132 hF133=>?_));have hb134:=(by rw [hq33];exact (nL q10 q32):(q33).length≤25);refine bD rfl (aN (E:=31) (e:=elI) (l:=q34) (fun v=>v) aB rfl (fun w hw=>(by rw [hq34];exact uS _ q33 w (aO hw hF133 lZ) oo_)) (fun p135 c136 L137 hF138=>?_));have hb139:=(by rw [hq34];exact (oC q33):(q34).length≤25);refine go2 ?_;refine i9 (sA (sR (sR (sR (sR (sk (sd (s0)))))))) ?_;refine go3 ?_;refine sQ (aL (v':=.bool q35) (bT aB rfl (fun w hw=>(by rw [hq35];exact fV _ q34 w (aO hw hF138 lZ)))) rfl) rfl (go_ ?_);refine aH _ rfl (fun h140=>?_) (fun h140=>?_)
    ·refine go5 ?_;refine bA rfl (.inr rfl) (eF rfl (mA mZ) tyT rfl) ?_
     have hE:((⟨([]:List I),(wl 30)⟩:Curve):Curve)=(aS h u b m):=by obtain rfl:=hq35.symm;obtain rfl:=hq34.symm;obtain rfl:=hq33.symm;obtain rfl:=hq32.symm;obtain rfl:=hq31.symm;obtain rfl:=hq30.symm;obtain rfl:=hq29.symm;obtain rfl:=hq28.symm;obtain rfl:=hq27.symm;obtain rfl:=hq26.symm;obtain rfl:=hq25.symm;obtain rfl:=hq24.symm;obtain rfl:=hq23.symm;obtain rfl:=hq22.symm;obtain rfl:=hq21.symm;obtain rfl:=hq20.symm;obtain rfl:=hq19.symm;obtain rfl:=hq18.symm;obtain rfl:=hq17.symm;obtain rfl:=hq16.symm;obtain rfl:=hq15.symm;obtain rfl:=hq14.symm;obtain rfl:=hq13.symm;obtain rfl:=hq12.symm;obtain rfl:=hq11.symm;obtain rfl:=hq10.symm;obtain rfl:=hq9.symm;obtain rfl:=hq8.symm;obtain rfl:=hq7.symm;obtain rfl:=hq6.symm;obtain rfl:=hq5.symm;obtain rfl:=hq4.symm;obtain rfl:=hq3.symm;obtain rfl:=hq2.symm;obtain rfl:=hq1.symm;obtain rfl:=hq0.symm;exact aI h11 (aY h12 (aY h13 (aY h14 (aY h140 rfl))))
     rw [← hE];exact ⟨_,rfl,⟨[],sn,OwnG.nil⟩⟩
    refine go7 ?_;refine bA rfl (.inr rfl) (eF rfl (mA mZ) tyT rfl) ?_
    have hE:((⟨q34,(wl 0)⟩:Curve):Curve)=(aS h u b m):=by obtain rfl:=hq35.symm;obtain rfl:=hq34.symm;obtain rfl:=hq33.symm;obtain rfl:=hq32.symm;obtain rfl:=hq31.symm;obtain rfl:=hq30.symm;obtain rfl:=hq29.symm;obtain rfl:=hq28.symm;obtain rfl:=hq27.symm;obtain rfl:=hq26.symm;obtain rfl:=hq25.symm;obtain rfl:=hq24.symm;obtain rfl:=hq23.symm;obtain rfl:=hq22.symm;obtain rfl:=hq21.symm;obtain rfl:=hq20.symm;obtain rfl:=hq19.symm;obtain rfl:=hq18.symm;obtain rfl:=hq17.symm;obtain rfl:=hq16.symm;obtain rfl:=hq15.symm;obtain rfl:=hq14.symm;obtain rfl:=hq13.symm;obtain rfl:=hq12.symm;obtain rfl:=hq11.symm;obtain rfl:=hq10.symm;obtain rfl:=hq9.symm;obtain rfl:=hq8.symm;obtain rfl:=hq7.symm;obtain rfl:=hq6.symm;obtain rfl:=hq5.symm;obtain rfl:=hq4.symm;obtain rfl:=hq3.symm;obtain rfl:=hq2.symm;obtain rfl:=hq1.symm;obtain rfl:=hq0.symm;exact aI h11 (aY h12 (aY h13 (aY h14 (aI h140 rfl))))
    rw [← hE];exact ⟨_,rfl,⟨L137,lZ,hF138⟩⟩
   refine W_t (iK h14) rfl (go5 ?_);refine bA rfl (.inr rfl) (eF rfl m0 tyT rfl) ?_
   have hE:((⟨([]:List I),(wl 1)⟩:Curve):Curve)=(aS h u b m):=by obtain rfl:=hq35.symm;obtain rfl:=hq34.symm;obtain rfl:=hq33.symm;obtain rfl:=hq32.symm;obtain rfl:=hq31.symm;obtain rfl:=hq30.symm;obtain rfl:=hq29.symm;obtain rfl:=hq28.symm;obtain rfl:=hq27.symm;obtain rfl:=hq26.symm;obtain rfl:=hq25.symm;obtain rfl:=hq24.symm;obtain rfl:=hq23.symm;obtain rfl:=hq22.symm;obtain rfl:=hq21.symm;obtain rfl:=hq20.symm;obtain rfl:=hq19.symm;obtain rfl:=hq18.symm;obtain rfl:=hq17.symm;obtain rfl:=hq16.symm;obtain rfl:=hq15.symm;obtain rfl:=hq14.symm;obtain rfl:=hq13.symm;obtain rfl:=hq12.symm;obtain rfl:=hq11.symm;obtain rfl:=hq10.symm;obtain rfl:=hq9.symm;obtain rfl:=hq8.symm;obtain rfl:=hq7.symm;obtain rfl:=hq6.symm;obtain rfl:=hq5.symm;obtain rfl:=hq4.symm;obtain rfl:=hq3.symm;obtain rfl:=hq2.symm;obtain rfl:=hq1.symm;obtain rfl:=hq0.symm;exact aI h11 (aY h12 (aY h13 (aI h14 rfl)))
   rw [← hE];exact ⟨_,rfl,⟨[],sn,OwnG.nil⟩⟩
  refine W_t (iK h13) rfl (go5 ?_);refine bA rfl (.inr rfl) (eF rfl m0 tyT rfl) ?_
  have hE:((⟨([]:List I),(wl 1)⟩:Curve):Curve)=(aS h u b m):=by obtain rfl:=hq35.symm;obtain rfl:=hq34.symm;obtain rfl:=hq33.symm;obtain rfl:=hq32.symm;obtain rfl:=hq31.symm;obtain rfl:=hq30.symm;obtain rfl:=hq29.symm;obtain rfl:=hq28.symm;obtain rfl:=hq27.symm;obtain rfl:=hq26.symm;obtain rfl:=hq25.symm;obtain rfl:=hq24.symm;obtain rfl:=hq23.symm;obtain rfl:=hq22.symm;obtain rfl:=hq21.symm;obtain rfl:=hq20.symm;obtain rfl:=hq19.symm;obtain rfl:=hq18.symm;obtain rfl:=hq17.symm;obtain rfl:=hq16.symm;obtain rfl:=hq15.symm;obtain rfl:=hq14.symm;obtain rfl:=hq13.symm;obtain rfl:=hq12.symm;obtain rfl:=hq11.symm;obtain rfl:=hq10.symm;obtain rfl:=hq9.symm;obtain rfl:=hq8.symm;obtain rfl:=hq7.symm;obtain rfl:=hq6.symm;obtain rfl:=hq5.symm;obtain rfl:=hq4.symm;obtain rfl:=hq3.symm;obtain rfl:=hq2.symm;obtain rfl:=hq1.symm;obtain rfl:=hq0.symm;exact aI h11 (aY h12 (aI h13 rfl))
  rw [← hE];exact ⟨_,rfl,⟨[],sn,OwnG.nil⟩⟩
 refine W_t (iK h12) rfl (go5 ?_);refine bA rfl (.inr rfl) (eF rfl m0 tyT rfl) ?_
 have hE:((⟨([]:List I),(wl 1)⟩:Curve):Curve)=(aS h u b m):=by obtain rfl:=hq35.symm;obtain rfl:=hq34.symm;obtain rfl:=hq33.symm;obtain rfl:=hq32.symm;obtain rfl:=hq31.symm;obtain rfl:=hq30.symm;obtain rfl:=hq29.symm;obtain rfl:=hq28.symm;obtain rfl:=hq27.symm;obtain rfl:=hq26.symm;obtain rfl:=hq25.symm;obtain rfl:=hq24.symm;obtain rfl:=hq23.symm;obtain rfl:=hq22.symm;obtain rfl:=hq21.symm;obtain rfl:=hq20.symm;obtain rfl:=hq19.symm;obtain rfl:=hq18.symm;obtain rfl:=hq17.symm;obtain rfl:=hq16.symm;obtain rfl:=hq15.symm;obtain rfl:=hq14.symm;obtain rfl:=hq13.symm;obtain rfl:=hq12.symm;obtain rfl:=hq11.symm;obtain rfl:=hq10.symm;obtain rfl:=hq9.symm;obtain rfl:=hq8.symm;obtain rfl:=hq7.symm;obtain rfl:=hq6.symm;obtain rfl:=hq5.symm;obtain rfl:=hq4.symm;obtain rfl:=hq3.symm;obtain rfl:=hq2.symm;obtain rfl:=hq1.symm;obtain rfl:=hq0.symm;exact aI h11 (aI h12 rfl)
 rw [← hE];exact ⟨_,rfl,⟨[],sn,OwnG.nil⟩⟩
end Go.Proofs.YtkjjponijamaoaaGreatDoor
namespace Go.Num
open Go Go.Kn
theorem dn_ {c:Bool} {x y:Curve}:(bif c then x else y).p=bif c then x.p else y.p:=by cases c<;>rfl
theorem tG (h:Path) (v:A3 W) (b:A3 Rt) (m:Rt):(aS h v b m).p.length≤25:=by
  unfold aS
  dsimp only
  simp only [dn_];exact sG (Nat.zero_le _) (sG (sG (sG (sG (Nat.zero_le _) (oC _)) (Nat.zero_le _)) (Nat.zero_le _)) (Nat.zero_le _))
end Go.Num
namespace Go.Proofs.YtkjjponijamaoaaGreatDoor
open Go.Kn Go.Num Tryz
attribute [local irreducible] Go.Kn.W WL PL OpQ OpR OpS
theorem xL (vp:Value) (p:(List I)) (w:World) (hp:Slr w elI vp p) (hpre:p.length≤100) :
    Calls prog 33 [vp].toArray w (fun e w'=>∃ v,e = .returned (v)∧Ext w w'∧Slo w.heap.size w' 33 elRt v (gY p)):=by
 obtain ⟨p_p,c_p,rfl⟩:=hp.form;refine dW (n:=21) (fun v=>v) func33 rfl rfl (by simp) ?_;obtain ⟨w0,rfl⟩:∃ w0,w0=w:=⟨_,rfl⟩;have Hp:=hp.old;have hm_p:=hp.max;simp only [bO,Nat.reduceAdd];refine jT ?_;refine gJ3 [3,4,5,6,7,8,9,10,11,12,13,14,15,16,17,18,19] (fun g M=>∃ (out:List Rt) (i:Nat) (p_out:Option Addr) (c_out:Nat) (L_out:List Blk),(mO p ((p.length+1)) ([]:List Rt) 0)=(out,i)∧(g 3 = .slice p_out out.length c_out∧g 4 = .int .i64 ((i:Nat):Int)∧OwnG w0 33 elRt (.slice p_out out.length c_out) out L_out)∧M=(L_out++[])) (fun K_u1 hK_u1=>?_) ?_
 ·refine go_ ?_;refine cK [3,4,5,6,7,8,9,10,11,12,13,14,15,16,17,18,19] (fun g nn M=>∃ (out:List Rt) (i:Nat) (p_out:Option Addr) (c_out:Nat) (L_out:List Blk),(mO p nn out i)=(mO p ((p.length+1)) ([]:List Rt) 0)∧p.length - i<nn∧(i≤p.length∧out.length=i)∧(g 3 = .slice p_out out.length c_out∧g 4 = .int .i64 ((i:Nat):Int)∧OwnG w0 33 elRt (.slice p_out out.length c_out) out L_out)∧M=(L_out++[])) ((p.length+1)) ?start ?round
  case start=>exact ⟨_,s0,([]:List Rt),0,none,0,[],rfl,oo_,⟨Nat.zero_le _,rfl⟩,⟨rfl,rfl,OwnG.nil⟩,rfl⟩
  case round =>
   rintro nn g M ⟨out,i,p_out,c_out,L_out,hT0,hq0,hinv0,⟨hg3,hg4,hO_out⟩,rfl⟩;obtain ⟨k0,rfl⟩:∃ m,nn=m+1:=⟨nn - 1,by omega⟩;simp only [fF,hg3,hg4];clear hg3 hg4;have hm_out:=OwnG.max hO_out;refine go4 ?_;refine sQ (aL (v':=.int .i64 (((p).length:Nat):Int)) (eR (e:=elI) jV rfl (SLe.sub Hp sn)) rfl) rfl (go2 ?_);refine aH _ rfl (fun h8=>?_) (fun h8=>?_)
   ·have ph8:=of_decide_eq_true h8;refine go3 ?_;refine jQ sn 10 [7,8] [8] (go3 ?_);refine pQ rfl (aL (v':=.pointer (some (slb (.slice p_p p.length c_p) (i*18+0)))) (lI (e:=elI) (l:=p) (k:=i) jV rfl rfl (SLe.sub Hp sn) o2_) rfl) ?_;refine pQ rfl (mE (e:=elI) (l:=p) (k:=i) (o:=0) tyT rfl (SLe.sub Hp sn) (eH I0 o2_) rfl) ?_;refine pC (AV [pI (E (Z.of 1))]) aB (cI (wl 1).1 (wl 1).2) rfl rfl rfl ?_;refine pQ rfl (oW zpT plT rfl (.cons [pI (p.getD i I0)] [pI (p.getD i I0),pI I0] rfl rfl rfl rfl (.cons [pI (E (Z.of 1))] [pI (p.getD i I0),pI (E (Z.of 1))] rfl rfl rfl rfl (.nil _)))) (cF rfl rfl (bU [[pI (p.getD i I0),pI (E (Z.of 1))]] [pI (p.getD i I0),pI (E (Z.of 1))] y4 RM H2 rfl dd_ rfl rfl ⟨rfl,rfl,rfl,trivial⟩ rfl (fun b9 hb9=>⟨(fun _=>sd s0),sn,cF rfl rfl (lM (e:=elRt) (l:=out) (m:=[(⟨(p.getD i I0),(E (Z.of 1))⟩:Rt)]) 136 y4 (by kernel_rfl) dd_ rfl rfl hO_out (SLe.lit (e:=elRt) (l:=[(⟨(p.getD i I0),(E (Z.of 1))⟩:Rt)]) m0 rfl (Nat.le_of_ble_eq_true rfl) rfl) (kW n6) (by show (out.length+1)*136≤_;omega) dd_ (fun p10 c11 L12 hO13=>⟨nf,sn,go4 ?_⟩))⟩)));refine sV (.int .i64 (((i+1):Nat):Int)) rfl (congrArg (Value.int .i64) (wx oo_ oo_ oo_)) (go2 ?_);refine ⟨pp_,_,_,(sA (sd (s0))),(Nat.lt_succ_self _),(out++[(⟨(p.getD i I0),(E (Z.of 1))⟩:Rt)]),(i+1),p10,c11,L12,(by exact (hT0.symm.trans (Eq.symm (aY h8 rfl))).symm),(Nat.lt_of_lt_of_le oo_ (Nat.le_of_lt_succ hq0)),(by simp only [List.length_append,List.length_cons,List.length_nil];omega),⟨rfl,rfl,hO13⟩,rfl⟩
   have ph8:=of_decide_eq_false h8;refine go_ ?_;refine hK_u1 _ _ pp_ ⟨_,s0,out,i,p_out,c_out,L_out,(by exact hT0.symm.trans (Eq.symm (aI h8 rfl))),⟨rfl,rfl,hO_out⟩,rfl⟩
 rintro g M ⟨out,i,p_out,c_out,L_out,hCu1,⟨hg3,hg4,hO_out⟩,rfl⟩;simp only [fF,hg3,hg4];clear hg3 hg4;have hm_out:=OwnG.max hO_out;refine go5 ?_;refine bA rfl (.inr rfl) rfl ?_
 have hE:(out:(List Rt))=(gY p):=by exact (by unfold gY;exact trs (Eq.symm (apS hCu1)) rfl)
 rw [← hE];exact ⟨_,rfl,⟨L_out,lZ,hO_out⟩⟩
end Go.Proofs.YtkjjponijamaoaaGreatDoor
namespace Go.Num
open Go Go.Kn
section
variable {p q:List I} {c d:Nat→Int} {n m b b':Nat}
end
section
variable {a b c d:List I} {A B C D:Nat→Int}
end
theorem cL_ {v:A3 W} (h:eA v (wl 262144)=true):Vin v:=by
  unfold eA at h;have e:(W.neg (wl 262144)).1 = -262144:=rfl;have e2:(wl 262144).1=262144:=rfl;rw [e,e2] at h
  cases h1:(decide (262144<v.x.1)||decide (v.x.1 < -262144))
  · cases h2:(decide (262144<v.y.1)||decide (v.y.1 < -262144))
    · cases h3:(decide (262144<v.z.1)||decide (v.z.1 < -262144))
      · simp only [Bool.or_eq_false_iff,decide_eq_false_iff_not] at h1 h2 h3
        exact ⟨by omega,by omega,by omega⟩
      rw [h1,h2,h3] at h;cases h
    rw [h1,h2] at h;cases h
  rw [h1] at h;cases h
section
variable {a b c d:List I} {A B C D:Nat→Int}
end
open Go Go.Kn
theorem k25 {l:List I} (h:l.length≤25):l.length≤1000:=Nat.le_trans h dd_
def Qr (b:A3 Rt):I:=j3 b.x.d b.y.d b.z.d
def SQ (V S:List I) (r:Rt) (q:I):List I:=eD (aM V q) (aM S (E (Z.quo (E (Z.mul r.n.dec q.dec)).dec r.d.dec)))
def WD (V:A3 (List I)) (S:List I) (b:A3 Rt) (m:Rt):List I :=
  eY (eD (aM (aX S S) (j3 m.n (Qr b) (Qr b))) (aM (aK (aK (aK [] (aX (SQ V.x S b.x (Qr b)) (SQ V.x S b.x (Qr b)))) (aX (SQ V.y S b.y (Qr b)) (SQ V.y S b.y (Qr b)))) (aX (SQ V.z S b.z (Qr b)) (SQ V.z S b.z (Qr b)))) m.d))
theorem FP (V S:List I) (r:Rt) (q:I):(JO V S r q).length≤1000:=k25 (sI _ _)
theorem VC {V S:List I} (hV:V.length≤1000) (hS:S.length≤1000) (r:Rt) (q:I):JO V S r q=SQ V S r q:=by
  unfold JO SQ;rw [PX (k25 (eG _ _)) (k25 (eG _ _)),BW _ hV,BW _ hS]
theorem gx_ {V:A3 (List I)} {S:List I} (h1:V.x.length≤1000) (h2:V.y.length≤1000) (h3:V.z.length≤1000) (hS:S.length≤1000) (b:A3 Rt) (m:Rt):HY V S b m=WD V S b m:=by
  have eq:Qd b=Qr b:=HK _ _ _;unfold HY WD
  rw [eq,RW (k25 (sI _ _)),PX (k25 (eG _ _)) (k25 (eG _ _)),BW _ (k25 (iT _ _)),BW _ (k25 (fX _ _)),
    G2 (k25 (fX _ _)) (k25 (iT _ _)),G2 (k25 (fX _ _)) (k25 (iT _ _)),G2 (p:=[]) dd_ (k25 (iT _ _)),
    FI hS hS,FI (FP V.x S b.x _) (FP V.x S b.x _),FI (FP V.y S b.y _) (FP V.y S b.y _),FI (FP V.z S b.z _) (FP V.z S b.z _),VC h1 hS,VC h2 hS,VC h3 hS,HK]
theorem ec_ (V:A3 (List I)) (S:List I) (b:A3 Rt) (m:Rt):(HY V S b m).length≤1000:=by unfold HY;exact k25 (rD _)
theorem V9 (h:Path) (v:A3 W) (b:A3 Rt) (m:Rt):aS h v b m =
    bif (((cM h).1 != 0)||(!eA v (wl 262144)||(!aG m))) then (⟨[],wl 1⟩:Curve)
    else bif aG b.x then bif aG b.y then bif aG b.z then
      bif bG (WD (cY h v).n (cY h v).s b m) then (⟨[],wl 30⟩:Curve) else (⟨WD (cY h v).n (cY h v).s b m,wl 0⟩:Curve)
      else (⟨[],wl 1⟩:Curve) else (⟨[],wl 1⟩:Curve) else (⟨[],wl 1⟩:Curve):=rfl
theorem ab_ {h:Path} {v:A3 W} (hc:(cM h).1=0) (hi:eA v (wl 262144)=true):cY h v=⟨(bB h v).1,(bB h v).2⟩∧(bB h v).1.x.length≤1000∧(bB h v).1.y.length≤1000∧(bB h v).1.z.length≤1000∧(bB h v).2.length≤1000:=by
  obtain ⟨s,A,B,C,D,_,_,_,_,_,_,hx⟩:=GL (bq_ hc) (cL_ hi);refine ⟨by rw [hx.r,hx.s2],hx.x.po.l3,hx.y.po.l3,hx.z.po.l3,by rw [hx.s2];exact hx.s.po.l3⟩
theorem LC (h:Path) (v:A3 W) (b:A3 Rt) (m:Rt):cE h v b m=((aS h v b m).p,(aS h v b m).e):=by
  rw [IW,V9,gU_,BD,IK,show iU m = !aT m from rfl];simp only [lW]
  cases h1:((cM h).1 != 0)
  · have hc:(cM h).1=0:=by simpa using h1
    cases h2:eA v (wl 262144)
    · simp only [Bool.not_false,Bool.true_or,Bool.or_true,cond_true]
    obtain ⟨e,l1,l2,l3,l4⟩:=ab_ hc h2;rw [e];generalize bB h v=V at *;clear e h1 hc h2;have es:HY V.1 V.2 b m=WD V.1 V.2 b m:=gx_ l1 l2 l3 l4 b m
    have eb:dR (HY V.1 V.2 b m)=bG (WD V.1 V.2 b m):=by
      rw [vB,← es,vA (ec_ _ _ _ _)]
    rw [eb,es];simp only;generalize WD V.1 V.2 b m=L at *;clear es eb
    cases aG m<;>cases aG b.x<;>cases aG b.y<;>cases aG b.z<;>cases bG L<;>rfl
  simp only [Bool.true_or,cond_true]
theorem X5 (l:List Rt):∀ (k i:Nat),∃ j,j8 l l k i = .inl j
  | 0,i=>⟨i,rfl⟩
  | k+1,i=>by
    rw [j8];simp only [decide_true,Bool.and_self,cond_true]
    cases decide (((i:Nat):Int)<((l.length:Nat):Int))
    · exact ⟨i,rfl⟩
    exact X5 l k (i+1)
theorem aw_ (l:List Rt):gI l l=true:=by
  unfold gI;obtain ⟨j,hj⟩:=X5 l (l.length+1) 0;rw [hj,show (((l.length:Nat):Int) != ((l.length:Nat):Int))=false by simp];rfl
theorem at_ (hs:F_skewbacklaw26_sanity=true) (h:Path) (v:A3 W) (b:A3 Rt) (m:Rt):nF h v b m=true:=by
  unfold nF;rw [hs,LC,aw_]
  simp
end Go.Num
namespace Go.Proofs.YtkjjponijamaoaaGreatDoor
open Go.Kn Go.Num Tryz
attribute [local irreducible] Go.Kn.W WL PL OpQ OpR OpS
theorem E7 (h:Path) (u:(A3 W)) (b:(A3 Rt)) (m:Rt) :
    Ret prog 5 [AV [cw h.from_.x.x.1,cw h.from_.x.y.1,cw h.from_.x.z.1,cw h.from_.q.x.1,cw h.from_.q.y.1,cw h.from_.q.z.1,cw h.from_.q.t.1,cw h.to_.x.x.1,cw h.to_.x.y.1,cw h.to_.x.z.1,cw h.to_.q.x.1,cw h.to_.q.y.1,cw h.to_.q.z.1,cw h.to_.q.t.1],AV [cw u.x.1,cw u.y.1,cw u.z.1],AV [pI b.x.n,pI b.x.d,pI b.y.n,pI b.y.d,pI b.z.n,pI b.z.d],AV [pI m.n,pI m.d]] (.bool (nF h u b m)):=by
 refine bL (N:=40) func5 rfl rfl (by simp) (fun w0=>?_);simp only [bO,Nat.reduceAdd];refine go2 ?_;intro b1 hb1;refine go_ ?_;intro b2 hb2;refine go_ ?_;intro b3 hb3;refine go_ ?_;intro b4 hb4;refine go7 ?_;refine bD rfl (aN (E:=31) (e:=elI) (l:=(cE h u b m).1) (fun v=>.tuple #[v,.int .i64 (((cE h u b m).2).1)]) aB rfl (fun w hw=>xG h u b m w) (fun p5 c6 L7 hF8=>?_));have hb9:=(xF h u b m);refine AG ?_;refine bD rfl (aN (E:=31) (e:=elI) (l:=(aS h u b m).p) (fun v=>.agg #[v,.int .i64 (((aS h u b m).e).1)]) aB rfl (fun w hw=>tH h u b m w) (fun p10 c11 L12 hF13=>?_));have hb14:=(tG h u b m);refine go_ ?_;intro b15 hb15;refine go2 ?_;refine gJv [8,25,26,27,28,29,30,31,32,33,34,35,36,37,38,39] [(8,.bool (F_skewbacklaw26_sanity&&((gI (gY ((cE h u b m).1)) (gY ((aS h u b m).p)))&&(((cE h u b m).2).1==((aS h u b m).e).1))))] (fun K1 J1=>?_) ?_
 ·refine gdr s0 [0,4,8,16,20,13,25,28,32,36,40,44,48,52,56,60] [] mix (by kernel_rfl) (pQ rfl (bI aB i6  rfl) ?_);refine pBB rfl (fun h26=>?_) (fun h26=>?_)
  ·refine go3 ?_;refine cF rfl rfl (aN (E:=33) (e:=elRt) (l:=(gY ((cE h u b m).1))) (fun v=>v) aB rfl (fun w hw=>xL _ ((cE h u b m).1) w (aO hw hF8 (sd (sR lZ))) oo_) (fun p27 c28 L29 hF30=>⟨(fun _=>sR s0),(sR s0),cF rfl rfl (aN (E:=33) (e:=elRt) (l:=(gY ((aS h u b m).p))) (fun v=>v) aB rfl (fun w hw=>xL _ ((aS h u b m).p) w (aO hw hF13 (sR (sd lZ))) oo_) (fun p31 c32 L33 hF34=>⟨(fun _=>sR s0),(sR (sR s0)),pQ rfl (aL (v':=.bool (gI (gY ((cE h u b m).1)) (gY ((aS h u b m).p)))) (bT aB rfl (fun w hw=>tZ _ (gY ((cE h u b m).1)) _ (gY ((aS h u b m).p)) w (aO hw hF30 (sR lZ)) (aO hw hF34 lZ))) rfl) (go_ ?_)⟩))⟩));refine pBB rfl (fun h35=>?_) (fun h35=>?_)
   ·refine go7 ?_;refine J1 _ _ pp_ (sR (sR (s0))) (bK (kZ h26 (kZ h35 rfl)))
   refine go7 ?_;refine J1 _ _ pp_ (sR (sR (s0))) (bK (kZ h26 (oZ h35)))
  refine wP ?_;refine J1 _ _ pp_ s0 (bK (oZ h26))
 intro g36;refine go_ ?_;refine bA rfl (.inr rfl) rfl ?_;exact (by rfl)
end Go.Proofs.YtkjjponijamaoaaGreatDoor
