/- Lemmas: what they ask stands in their statements. -/
import Derived.Test.YtkjjponijamaoaaGreatDoorJOf
import Derived.Test.YtkjjponijamaoaaGreatDoorJOg
set_option linter.unusedSimpArgs false
set_option linter.unusedVariables false
set_option maxHeartbeats 8000000
set_option maxRecDepth 20000
namespace Go.Proofs.YtkjjponijamaoaaGreatDoor
open Go.Kn Go.Num Tryz
attribute [local irreducible] Go.Kn.W WL PL OpQ OpR OpS
theorem y6 (a:(A3 W)) (b:W) :
    Ret prog 109 [AV [cw a.x.1,cw a.y.1,cw a.z.1],.int .i64 b.1] (.bool (dZ a b)):=by
 refine bG (N:=23) func109 O O zz_ (fun w0=>?_);refine giI ?_;refine go2 ?_;intro b1 hb1;refine go7 ?_;refine rA 5 (go4 ?_);refine sV (.bool true) O O (go5 ?_);refine gJv (rg [] 10 13) [(22,.bool (decide (b.1<a.x.1)||decide (a.x.1<(W.neg b).1)))] (fun K5 J5=>?_) ?_
 ·refine go6 ?_;refine sBB O (fun h3=>?_) (fun h3=>?_)
  ·have ph3:=of_decide_eq_true h3;refine go8 ?_;refine J5 _ _ pp_ s0 (bH (mJ h3))
  have ph3:=of_decide_eq_false h3;refine go4 ?_;refine sV (.int .i64 ((W.neg b).1)) O O (go3 ?_);refine J5 _ _ pp_ s0 (bH (kC h3 O))
 intro g4;refine aH _ O (fun h5=>?_) (fun h5=>?_)
 ·refine go4 ?_;refine rt1 ?_;exact congrArg vS2 (show _=(dZ a b) from aX h5 O)
 refine go3 ?_;refine sV (.int .i64 1) O O (go6 ?_);refine sV (.bool true) O O (go5 ?_);refine gJv (rg [] 10 13) [(22,.bool (decide (b.1<a.y.1)||decide (a.y.1<(W.neg b).1)))] (fun K9 J9=>?_) ?_
 ·refine go6 ?_;refine sBB O (fun h7=>?_) (fun h7=>?_)
  ·have ph7:=of_decide_eq_true h7;refine go8 ?_;refine J9 _ _ pp_ s0 (bH (mJ h7))
  have ph7:=of_decide_eq_false h7;refine go4 ?_;refine sV (.int .i64 ((W.neg b).1)) O O (go3 ?_);refine J9 _ _ pp_ s0 (bH (kC h7 O))
 intro g8;refine aH _ O (fun h9=>?_) (fun h9=>?_)
 ·refine go4 ?_;refine rt1 ?_;exact congrArg vS2 (show _=(dZ a b) from aJ h5 (aX h9 O))
 refine go3 ?_;refine sV (.int .i64 2) O O (go6 ?_);refine sV (.bool true) O O (go5 ?_);refine gJv (rg [] 10 13) [(22,.bool (decide (b.1<a.z.1)||decide (a.z.1<(W.neg b).1)))] (fun K13 J13=>?_) ?_
 ·refine go6 ?_;refine sBB O (fun h11=>?_) (fun h11=>?_)
  ·have ph11:=of_decide_eq_true h11;refine go8 ?_;refine J13 _ _ pp_ s0 (bH (mJ h11))
  have ph11:=of_decide_eq_false h11;refine go4 ?_;refine sV (.int .i64 ((W.neg b).1)) O O (go3 ?_);refine J13 _ _ pp_ s0 (bH (kC h11 O))
 intro g12;refine aH _ O (fun h13=>?_) (fun h13=>?_)
 ·refine go4 ?_;refine rt1 ?_;exact congrArg vS2 (show _=(dZ a b) from aJ h5 (aJ h9 (aX h13 O)))
 refine go3 ?_;refine sV (.int .i64 3) O O (go6 ?_);refine sV (.bool false) O O (go7 ?_);refine rt1 ?_;exact congrArg vS2 (show _=(dZ a b) from aJ h5 (aJ h9 (aJ h13 O)))
theorem vE (a:I) (b:I) (c:I) :
  Ret prog 84 [AV [pI a],AV [pI b],AV [pI c]] (AV [pI (kE a b c)]):=by
 refine bG (N:=12) func84 O O zz_ (fun w0=>?_);refine giI ?_;refine go2 ?_;intro b1 hb1;refine go_ ?_;intro b2 hb2;refine go_ ?_;intro b3 hb3;refine go_ ?_;intro b4 hb4;refine go_ ?_;refine qM (sd s0) 6 [5] [5] (go2 ?_);refine pC (AV [pI (E (Z.mul a.dec b.dec))]) aB (cG a.1 b.1 a.2 b.2) O O O (go_ ?_);refine pC (AV [pI (E (Z.mul (Z.mul a.dec b.dec) c.dec))]) aB (cG (E (Z.mul a.dec b.dec)).1 c.1 (E (Z.mul a.dec b.dec)).2 c.2) O O (cg2 (fun p q=>AV [pI (E (Z.mul p q))]) (eQ _) O) (go3 ?_);refine rtX O (dP O m0 tyT O) ?_;exact (by rfl)
theorem uI (h:Path) (u:(A3 W)) (b:(A3 Rt)) (m:Rt) (w:World)  :
    Calls prog 31 [AV [cw h.from_.x.x.1,cw h.from_.x.y.1,cw h.from_.x.z.1,cw h.from_.q.x.1,cw h.from_.q.y.1,cw h.from_.q.z.1,cw h.from_.q.t.1,cw h.to_.x.x.1,cw h.to_.x.y.1,cw h.to_.x.z.1,cw h.to_.q.x.1,cw h.to_.q.y.1,cw h.to_.q.z.1,cw h.to_.q.t.1],AV [cw u.x.1,cw u.y.1,cw u.z.1],AV [pI b.x.n,pI b.x.d,pI b.y.n,pI b.y.d,pI b.z.n,pI b.z.d],AV [pI m.n,pI m.d]].toArray w (fun e w'=>∃ v,e = .returned (.agg #[v,.int .i64 (((aW h u b m).e).1)])∧Ext w w'∧Slo w.heap.size w' 31 elI v (aW h u b m).p):=by
 refine dD (n:=109) (fun v=>.agg #[v,.int .i64 (((aW h u b m).e).1)]) func31 O O zz_ ?_;obtain ⟨w0,rfl⟩:=nm w;refine giI ?_;obtain ⟨q0,hq0⟩:=nm ((cW h):W);obtain ⟨q1,hq1⟩:=nm ((dZ u (wl 262144)):Bool);obtain ⟨q2,hq2⟩:=nm ((aP m):Bool);obtain ⟨q3,hq3⟩:=nm ((aP b.x):Bool);obtain ⟨q4,hq4⟩:=nm ((aP b.y):Bool);obtain ⟨q5,hq5⟩:=nm ((aP b.z):Bool);obtain ⟨q6,hq6⟩:=nm ((cE h u):Moving);obtain ⟨q7,hq7⟩:=nm ((kE b.x.d b.y.d b.z.d):I);obtain ⟨q8,hq8⟩:=nm ((aU q6.s q6.s):(List I));obtain ⟨q9,hq9⟩:=nm ((kE m.n q7 q7):I);obtain ⟨q10,hq10⟩:=nm ((aK q8 q9):(List I));obtain ⟨q11,hq11⟩:=nm ((E (Z.mul b.x.n.dec q7.dec)):I);obtain ⟨q12,hq12⟩:=nm ((E (Z.quo q11.dec b.x.d.dec)):I);obtain ⟨q13,hq13⟩:=nm ((aK q6.n.x q7):(List I));obtain ⟨q14,hq14⟩:=nm ((aK q6.s q12):(List I));obtain ⟨q15,hq15⟩:=nm ((dJ q13 q14):(List I));obtain ⟨q16,hq16⟩:=nm ((aU q15 q15):(List I));obtain ⟨q17,hq17⟩:=nm ((aG ([]:List I) q16):(List I));obtain ⟨q18,hq18⟩:=nm ((E (Z.mul b.y.n.dec q7.dec)):I);obtain ⟨q19,hq19⟩:=nm ((E (Z.quo q18.dec b.y.d.dec)):I);obtain ⟨q20,hq20⟩:=nm ((aK q6.n.y q7):(List I));obtain ⟨q21,hq21⟩:=nm ((aK q6.s q19):(List I));obtain ⟨q22,hq22⟩:=nm ((dJ q20 q21):(List I));obtain ⟨q23,hq23⟩:=nm ((aU q22 q22):(List I));obtain ⟨q24,hq24⟩:=nm ((aG q17 q23):(List I));obtain ⟨q25,hq25⟩:=nm ((E (Z.mul b.z.n.dec q7.dec)):I);obtain ⟨q26,hq26⟩:=nm ((E (Z.quo q25.dec b.z.d.dec)):I);obtain ⟨q27,hq27⟩:=nm ((aK q6.n.z q7):(List I));obtain ⟨q28,hq28⟩:=nm ((aK q6.s q26):(List I));obtain ⟨q29,hq29⟩:=nm ((dJ q27 q28):(List I));obtain ⟨q30,hq30⟩:=nm ((aU q29 q29):(List I));obtain ⟨q31,hq31⟩:=nm ((aG q24 q30):(List I));obtain ⟨q32,hq32⟩:=nm ((aK q31 m.d):(List I));obtain ⟨q33,hq33⟩:=nm ((dJ q10 q32):(List I));obtain ⟨q34,hq34⟩:=nm ((dY q33):(List I));obtain ⟨q35,hq35⟩:=nm ((bA q34):Bool);refine go2 ?_;intro b1 hb1;refine go_ ?_;intro b2 hb2;refine go_ ?_;intro b3 hb3;refine go_ ?_;intro b4 hb4;refine go_ ?_;intro b5 hb5;refine go2 ?_;refine gJv (rg [] 18 13) [(30,.bool ((q0.1 != 0)||(!q1||(!q2))))] (fun K2 J2=>?_) ?_
 ·refine go2 ?_;refine sC (.int .i64 q0.1) aB (w5 h) O O (by rw [hq0];first|done|rfl) (go_ ?_);refine sBB O (fun h8=>?_) (fun h8=>?_)
  ·refine j0 ?_;refine J2 _ _ pp_ s0 (bH (mJ h8))
  refine go_ ?_;refine sC (.bool q1) aB (y6 u (wl 262144)) O O (by rw [hq1];first|done|rfl) ?_;refine go2 ?_;rcases bt q1 with h9|h9
  ·refine sB (fZ h9) O (go_ ?_);refine sC (.bool q2) aB (fN m) O O (by rw [hq2];first|done|rfl) (go3 ?_);refine J2 _ _ pp_ s0 (bH (kC h8 (lE h9 O)))
  refine sB (iX h9) O (go5 ?_);refine J2 _ _ pp_ s0 (bH (kC h8 (oG h9)))
 intro g10;refine aH _ O (fun h11=>?_) (fun h11=>?_)
 ·refine go5 ?_;refine rtX O (dP O m0 tyT O) ?_
  have hE:((⟨([]:List I),(wl 1)⟩:Curve):Curve)=(aW h u b m):=by subst_vars;exact aX h11 O
  rw [← hE];exact ⟨_,rfl,⟨[],sn,OwnG.nil⟩⟩
 refine go6 ?_;refine rA 5 (go4 ?_);refine sV (.bool true) O O (go9 ?_);refine sC (.bool q3) aB (fN b.x) O O (by rw [hq3];first|done|rfl) (go2 ?_);rcases bt q3 with h12|h12
 ·refine W_f (fZ h12) O (go3 ?_);refine sV (.int .i64 1) O O (go6 ?_);refine sV (.bool true) O O (go9 ?_);refine sC (.bool q4) aB (fN b.y) O O (by rw [hq4];first|done|rfl) (go2 ?_);rcases bt q4 with h13|h13
  ·refine W_f (fZ h13) O (go3 ?_);refine sV (.int .i64 2) O O (go6 ?_);refine sV (.bool true) O O (go9 ?_);refine sC (.bool q5) aB (fN b.z) O O (by rw [hq5];first|done|rfl) (go2 ?_);rcases bt q5 with h14|h14
   ·refine W_f (fZ h14) O (go3 ?_);refine sV (.int .i64 3) O O (go6 ?_);refine sV (.bool false) O O (go6 ?_);refine aZ O (AQ (E:=31) (e:=elI) (l1:=q6.n.x) (l2:=q6.n.y) (l3:=q6.n.z) (l4:=q6.s) (fun v1 v2 v3 v4=>.agg #[v1,v2,v3,v4]) aB O (fun w hw=>(by rw [hq6];exact y5 h u w)) (fun p15 c16 L17 p19 c20 L21 p23 c24 L25 p27 c28 L29 hF18 hF22 hF26 hF30=>?_));have hb31:(q6.n.x).length≤25:=(by simp only [hq6];exact (yD h u));have hb32:(q6.n.y).length≤25:=(by simp only [hq6];exact (yE h u));have hb33:(q6.n.z).length≤25:=(by simp only [hq6];exact (yF h u));have hb34:(q6.s).length≤25:=(by simp only [hq6];exact (yC h u));refine go_ ?_;intro b35 hb35;refine go2 ?_;refine iS (sk (sA (sA (sA (sA (sk (sk (sk (sd (sd s0)))))))))) ?_;refine j0 ?_;refine sC (AV [pI q7]) aB (vE b.x.d b.y.d b.z.d) O O (by subst hq7;rfl) (go_ ?_);intro b36 hb36;refine go2 ?_;refine gds s0 [0,4,8,12,20,24,28,32,17,36,41,44] [] mix (by kernel_rfl) (go8 ?_);refine bP O O (aN (E:=31) (e:=elI) (l:=q8) (fun v=>v) aB O (fun w hw=>(by rw [hq8];exact gQ _ q6.s _ q6.s w (aO hw hF30 (sd (sd (sR (sR (sR lZ)))))) (aO hw hF30 (sd (sd (sR (sR (sR lZ)))))) oo_)) (fun p37 c38 L39 hF40=>⟨(fun _=>sR s0),(sR s0),?_⟩));have hb41:=(by rw [hq8];exact (fY q6.s q6.s):(q8).length≤25);refine pC (AV [pI q9]) aB (vE m.n q7 q7) O O (by subst hq9;rfl) (bP O O (aN (E:=31) (e:=elI) (l:=q10) (fun v=>v) aB O (fun w hw=>(by rw [hq10];exact cO _ q8 q9 w (aO hw hF40 lZ) oo_)) (fun p42 c43 L44 hF45=>⟨(fun _=>sR s0),(sR (sR s0)),?_⟩)));have hb46:=(by rw [hq10];exact (cI q8 q9):(q10).length≤25);refine j0 ?_;refine rA 5 (go4 ?_);refine sV (.bool true) O O (go5 ?_);refine qM s0 13 [11,12] [12] (go5 ?_);refine pC (AV [pI q11]) aB (cG b.x.n.1 q7.1 b.x.n.2 q7.2) O O (by subst hq11;rfl) (go4 ?_);refine pC (AV [pI q12]) aB (fC q11.1 b.x.d.1 q11.2 b.x.d.2) O O (by subst hq12;rfl) (bP O O (jJ zpT (fun b47 hb47=>⟨(fun _=>sd s0),(sd s0),?_⟩)));refine go2 ?_;refine gds s0 [0,4,8,12,16,24,28,32,21,37,41,44] [] mix (by kernel_rfl) (go8 ?_);refine bP O O (aN (E:=31) (e:=elI) (l:=q13) (fun v=>v) aB O (fun w hw=>(by rw [hq13];exact cO _ q6.n.x q7 w (aO hw hF18 (sd (sR (sR (sd (sd lZ)))))) oo_)) (fun p48 c49 L50 hF51=>⟨(fun _=>sR s0),(sR s0),?_⟩));have hb52:=(by rw [hq13];exact (cI q6.n.x q7):(q13).length≤25);refine bP O O (aN (E:=31) (e:=elI) (l:=q14) (fun v=>v) aB O (fun w hw=>(by rw [hq14];exact cO _ q6.s q12 w (aO hw hF30 (sR (sd (sR (sR (sd (sd (sR (sR (sR lZ)))))))))) oo_)) (fun p53 c54 L55 hF56=>⟨(fun _=>sR s0),(sR (sR s0)),?_⟩));have hb57:=(by rw [hq14];exact (cI q6.s q12):(q14).length≤25);refine bP O O (aN (E:=31) (e:=elI) (l:=q15) (fun v=>v) aB O (fun w hw=>(by rw [hq15];exact nT _ q13 _ q14 w (aO hw hF51 (sR lZ)) (aO hw hF56 lZ) oo_)) (fun p58 c59 L60 hF61=>⟨(fun _=>sR s0),(sR (sR (sR s0))),?_⟩));have hb62:=(by rw [hq15];exact (lX q13 q14):(q15).length≤25);refine go6 ?_;refine aZ O (aN (E:=31) (e:=elI) (l:=q16) (fun v=>v) aB O (fun w hw=>(by rw [hq16];exact gQ _ q15 _ q15 w (aO hw hF61 lZ) (aO hw hF61 lZ) oo_)) (fun p63 c64 L65 hF66=>?_));have hb67:=(by rw [hq16];exact (fY q15 q15):(q16).length≤25);refine aZ O (aN (E:=31) (e:=elI) (l:=q17) (fun v=>v) aB O (fun w hw=>(by rw [hq17];exact dA _ ([]:List I) _ q16 w (SLe.ap hw (SLfe.sle SLfe.nil)) (aO hw hF66 lZ) o3_)) (fun p68 c69 L70 hF71=>?_));have hb72:=(by rw [hq17];exact (cH ([]:List I) q16):(q17).length≤25);refine go4 ?_;refine sV (.int .i64 1) O O (go6 ?_);refine sV (.bool true) O O (go5 ?_);refine qM s0 13 [11,12] [12] (go5 ?_);refine pC (AV [pI q18]) aB (cG b.y.n.1 q7.1 b.y.n.2 q7.2) O O (by subst hq18;rfl) (go4 ?_);refine pC (AV [pI q19]) aB (fC q18.1 b.y.d.1 q18.2 b.y.d.2) O O (by subst hq19;rfl) (bP O O (jJ zpT (fun b73 hb73=>⟨(fun _=>sd s0),(sd s0),?_⟩)));refine go2 ?_;refine iS (sk (sA (sA (sA (sA (sA (sd (sA (sR s0))))))))) ?_;refine gds s0 [0,4,8,12,16,24,28,32,21,37,41,44] [] mix (by kernel_rfl) (go8 ?_);refine bP O O (aN (E:=31) (e:=elI) (l:=q20) (fun v=>v) aB O (fun w hw=>(by rw [hq20];exact cO _ q6.n.y q7 w (aO hw hF22 (sd (sR (sR (sR (sR (sR (sR (sd (sd (sR lZ))))))))))) oo_)) (fun p74 c75 L76 hF77=>⟨(fun _=>sR s0),(sR s0),?_⟩));have hb78:=(by rw [hq20];exact (cI q6.n.y q7):(q20).length≤25);refine bP O O (aN (E:=31) (e:=elI) (l:=q21) (fun v=>v) aB O (fun w hw=>(by rw [hq21];exact cO _ q6.s q19 w (aO hw hF30 (sR (sd (sR (sR (sR (sR (sR (sR (sd (sd (sR (sR (sR lZ)))))))))))))) oo_)) (fun p79 c80 L81 hF82=>⟨(fun _=>sR s0),(sR (sR s0)),?_⟩));have hb83:=(by rw [hq21];exact (cI q6.s q19):(q21).length≤25);refine bP O O (aN (E:=31) (e:=elI) (l:=q22) (fun v=>v) aB O (fun w hw=>(by rw [hq22];exact nT _ q20 _ q21 w (aO hw hF77 (sR lZ)) (aO hw hF82 lZ) oo_)) (fun p84 c85 L86 hF87=>⟨(fun _=>sR s0),(sR (sR (sR s0))),?_⟩));have hb88:=(by rw [hq22];exact (lX q20 q21):(q22).length≤25);refine go6 ?_;refine aZ O (aN (E:=31) (e:=elI) (l:=q23) (fun v=>v) aB O (fun w hw=>(by rw [hq23];exact gQ _ q22 _ q22 w (aO hw hF87 lZ) (aO hw hF87 lZ) oo_)) (fun p89 c90 L91 hF92=>?_));have hb93:=(by rw [hq23];exact (fY q22 q22):(q23).length≤25);refine aZ O (aN (E:=31) (e:=elI) (l:=q24) (fun v=>v) aB O (fun w hw=>(by rw [hq24];exact dA _ q17 _ q23 w (aO hw hF71 (sR (sR (sR (sR (sd lZ)))))) (aO hw hF92 lZ) oo_)) (fun p94 c95 L96 hF97=>?_));have hb98:=(by rw [hq24];exact (cH q17 q23):(q24).length≤25);refine go4 ?_;refine sV (.int .i64 2) O O (go3 ?_);refine iS (sA (sA (sA (sA (sA (sk (sA (sR (sR (sR (sR s0))))))))))) ?_;refine go3 ?_;refine sV (.bool true) O O (go5 ?_);refine qM s0 13 [11,12] [12] (go5 ?_);refine pC (AV [pI q25]) aB (cG b.z.n.1 q7.1 b.z.n.2 q7.2) O O (by subst hq25;rfl) (go4 ?_);refine pC (AV [pI q26]) aB (fC q25.1 b.z.d.1 q25.2 b.z.d.2) O O (by subst hq26;rfl) (bP O O (jJ zpT (fun b99 hb99=>⟨(fun _=>sd s0),(sd s0),?_⟩)));refine go2 ?_;refine gds s0 [0,4,8,12,16,24,28,32,21,37,41,44] [] mix (by kernel_rfl) (go8 ?_);refine bP O O (aN (E:=31) (e:=elI) (l:=q27) (fun v=>v) aB O (fun w hw=>(by rw [hq27];exact cO _ q6.n.z q7 w (aO hw hF26 (sd (sR (sR (sR (sR (sR (sd (sR (sR (sd (sd (sR (sR lZ)))))))))))))) oo_)) (fun p100 c101 L102 hF103=>⟨(fun _=>sR s0),(sR s0),?_⟩));have hb104:=(by rw [hq27];exact (cI q6.n.z q7):(q27).length≤25);refine bP O O (aN (E:=31) (e:=elI) (l:=q28) (fun v=>v) aB O (fun w hw=>(by rw [hq28];exact cO _ q6.s q26 w (aO hw hF30 (sR (sd (sR (sR (sR (sR (sR (sd (sR (sR (sd (sd (sR (sR (sR lZ)))))))))))))))) oo_)) (fun p105 c106 L107 hF108=>⟨(fun _=>sR s0),(sR (sR s0)),?_⟩));have hb109:=(by rw [hq28];exact (cI q6.s q26):(q28).length≤25);refine bP O O (aN (E:=31) (e:=elI) (l:=q29) (fun v=>v) aB O (fun w hw=>(by rw [hq29];exact nT _ q27 _ q28 w (aO hw hF103 (sR lZ)) (aO hw hF108 lZ) oo_)) (fun p110 c111 L112 hF113=>⟨(fun _=>sR s0),(sR (sR (sR s0))),?_⟩));have hb114:=(by rw [hq29];exact (lX q27 q28):(q29).length≤25);refine go6 ?_;refine aZ O (aN (E:=31) (e:=elI) (l:=q30) (fun v=>v) aB O (fun w hw=>(by rw [hq30];exact gQ _ q29 _ q29 w (aO hw hF113 lZ) (aO hw hF113 lZ) oo_)) (fun p115 c116 L117 hF118=>?_));have hb119:=(by rw [hq30];exact (fY q29 q29):(q30).length≤25);refine aZ O (aN (E:=31) (e:=elI) (l:=q31) (fun v=>v) aB O (fun w hw=>(by rw [hq31];exact dA _ q24 _ q30 w (aO hw hF97 (sR (sR (sR (sR (sd lZ)))))) (aO hw hF118 lZ) oo_)) (fun p120 c121 L122 hF123=>?_));have hb124:=(by rw [hq31];exact (cH q24 q30):(q31).length≤25);refine go4 ?_;refine sV (.int .i64 3) O O (go3 ?_);refine iS (sA (sA (sA (sA (sA (sk (sA (sR (sR (sR (sR (sd (sR s0))))))))))))) ?_;refine go3 ?_;refine sV (.bool false) O O (go3 ?_);refine iS (sA (sR (sR (sR (sR (sd (sR (sA (sd (sd (sR (sR (sR (sR (sk (sk (sd s0))))))))))))))))) ?_;refine go5 ?_;refine aZ O (aN (E:=31) (e:=elI) (l:=q32) (fun v=>v) aB O (fun w hw=>(by rw [hq32];exact cO _ q31 m.d w (aO hw hF123 lZ) oo_)) (fun p125 c126 L127 hF128=>?_));have hb129:=(by rw [hq32];exact (cI q31 m.d):(q32).length≤25);refine aZ O (aN (E:=31) (e:=elI) (l:=q33) (fun v=>v) aB O (fun w hw=>(by rw [hq33];exact nT _ q10 _ q32 w (aO hw hF45 (sR (sR lZ))) (aO hw hF128 lZ) oo_)) (fun p130 c131 L132 hF133=>?_));have hb134:=(by rw [hq33];exact (lX q10 q32):(q33).length≤25);refine aZ O (aN (E:=31) (e:=elI) (l:=q34) (fun v=>v) aB O (fun w hw=>(by rw [hq34];exact sD _ q33 w (aO hw hF133 lZ) oo_)) (fun p135 c136 L137 hF138=>?_));have hb139:=(by rw [hq34];exact (mT q33):(q34).length≤25);refine go2 ?_;refine iS (sA (sR (sR (sR (sR (sk (sd s0))))))) ?_;refine go3 ?_;refine sFc (.bool q35) O (fun w hw=>(by rw [hq35];exact eU _ q34 w (aO hw hF138 lZ))) O O (go_ ?_);refine aH _ O (fun h140=>?_) (fun h140=>?_)
    ·refine go5 ?_;refine rtX O (dP O (mA mZ) tyT O) ?_
     have hE:((⟨([]:List I),(wl 30)⟩:Curve):Curve)=(aW h u b m):=by obtain rfl:=hq35.symm;obtain rfl:=hq34.symm;obtain rfl:=hq33.symm;obtain rfl:=hq32.symm;obtain rfl:=hq31.symm;obtain rfl:=hq30.symm;obtain rfl:=hq29.symm;obtain rfl:=hq28.symm;obtain rfl:=hq27.symm;obtain rfl:=hq26.symm;obtain rfl:=hq25.symm;obtain rfl:=hq24.symm;obtain rfl:=hq23.symm;obtain rfl:=hq22.symm;obtain rfl:=hq21.symm;obtain rfl:=hq20.symm;obtain rfl:=hq19.symm;obtain rfl:=hq18.symm;obtain rfl:=hq17.symm;obtain rfl:=hq16.symm;obtain rfl:=hq15.symm;obtain rfl:=hq14.symm;obtain rfl:=hq13.symm;obtain rfl:=hq12.symm;obtain rfl:=hq11.symm;obtain rfl:=hq10.symm;obtain rfl:=hq9.symm;obtain rfl:=hq8.symm;obtain rfl:=hq7.symm;obtain rfl:=hq6.symm;obtain rfl:=hq5.symm;obtain rfl:=hq4.symm;obtain rfl:=hq3.symm;obtain rfl:=hq2.symm;obtain rfl:=hq1.symm;obtain rfl:=hq0.symm;exact aJ h11 (aX h12 (aX h13 (aX h14 (aX h140 O))))
     rw [← hE];exact ⟨_,rfl,⟨[],sn,OwnG.nil⟩⟩
    refine go7 ?_;refine rtX O (dP O (mA mZ) tyT O) ?_
    have hE:((⟨q34,(wl 0)⟩:Curve):Curve)=(aW h u b m):=by obtain rfl:=hq35.symm;obtain rfl:=hq34.symm;obtain rfl:=hq33.symm;obtain rfl:=hq32.symm;obtain rfl:=hq31.symm;obtain rfl:=hq30.symm;obtain rfl:=hq29.symm;obtain rfl:=hq28.symm;obtain rfl:=hq27.symm;obtain rfl:=hq26.symm;obtain rfl:=hq25.symm;obtain rfl:=hq24.symm;obtain rfl:=hq23.symm;obtain rfl:=hq22.symm;obtain rfl:=hq21.symm;obtain rfl:=hq20.symm;obtain rfl:=hq19.symm;obtain rfl:=hq18.symm;obtain rfl:=hq17.symm;obtain rfl:=hq16.symm;obtain rfl:=hq15.symm;obtain rfl:=hq14.symm;obtain rfl:=hq13.symm;obtain rfl:=hq12.symm;obtain rfl:=hq11.symm;obtain rfl:=hq10.symm;obtain rfl:=hq9.symm;obtain rfl:=hq8.symm;obtain rfl:=hq7.symm;obtain rfl:=hq6.symm;obtain rfl:=hq5.symm;obtain rfl:=hq4.symm;obtain rfl:=hq3.symm;obtain rfl:=hq2.symm;obtain rfl:=hq1.symm;obtain rfl:=hq0.symm;exact aJ h11 (aX h12 (aX h13 (aX h14 (aJ h140 O))))
    rw [← hE];exact ⟨_,rfl,⟨L137,lZ,hF138⟩⟩
   refine W_t (iX h14) O (go5 ?_);refine rtX O (dP O m0 tyT O) ?_
   have hE:((⟨([]:List I),(wl 1)⟩:Curve):Curve)=(aW h u b m):=by obtain rfl:=hq35.symm;obtain rfl:=hq34.symm;obtain rfl:=hq33.symm;obtain rfl:=hq32.symm;obtain rfl:=hq31.symm;obtain rfl:=hq30.symm;obtain rfl:=hq29.symm;obtain rfl:=hq28.symm;obtain rfl:=hq27.symm;obtain rfl:=hq26.symm;obtain rfl:=hq25.symm;obtain rfl:=hq24.symm;obtain rfl:=hq23.symm;obtain rfl:=hq22.symm;obtain rfl:=hq21.symm;obtain rfl:=hq20.symm;obtain rfl:=hq19.symm;obtain rfl:=hq18.symm;obtain rfl:=hq17.symm;obtain rfl:=hq16.symm;obtain rfl:=hq15.symm;obtain rfl:=hq14.symm;obtain rfl:=hq13.symm;obtain rfl:=hq12.symm;obtain rfl:=hq11.symm;obtain rfl:=hq10.symm;obtain rfl:=hq9.symm;obtain rfl:=hq8.symm;obtain rfl:=hq7.symm;obtain rfl:=hq6.symm;obtain rfl:=hq5.symm;obtain rfl:=hq4.symm;obtain rfl:=hq3.symm;obtain rfl:=hq2.symm;obtain rfl:=hq1.symm;obtain rfl:=hq0.symm;exact aJ h11 (aX h12 (aX h13 (aJ h14 O)))
   rw [← hE];exact ⟨_,rfl,⟨[],sn,OwnG.nil⟩⟩
  refine W_t (iX h13) O (go5 ?_);refine rtX O (dP O m0 tyT O) ?_
  have hE:((⟨([]:List I),(wl 1)⟩:Curve):Curve)=(aW h u b m):=by obtain rfl:=hq35.symm;obtain rfl:=hq34.symm;obtain rfl:=hq33.symm;obtain rfl:=hq32.symm;obtain rfl:=hq31.symm;obtain rfl:=hq30.symm;obtain rfl:=hq29.symm;obtain rfl:=hq28.symm;obtain rfl:=hq27.symm;obtain rfl:=hq26.symm;obtain rfl:=hq25.symm;obtain rfl:=hq24.symm;obtain rfl:=hq23.symm;obtain rfl:=hq22.symm;obtain rfl:=hq21.symm;obtain rfl:=hq20.symm;obtain rfl:=hq19.symm;obtain rfl:=hq18.symm;obtain rfl:=hq17.symm;obtain rfl:=hq16.symm;obtain rfl:=hq15.symm;obtain rfl:=hq14.symm;obtain rfl:=hq13.symm;obtain rfl:=hq12.symm;obtain rfl:=hq11.symm;obtain rfl:=hq10.symm;obtain rfl:=hq9.symm;obtain rfl:=hq8.symm;obtain rfl:=hq7.symm;obtain rfl:=hq6.symm;obtain rfl:=hq5.symm;obtain rfl:=hq4.symm;obtain rfl:=hq3.symm;obtain rfl:=hq2.symm;obtain rfl:=hq1.symm;obtain rfl:=hq0.symm;exact aJ h11 (aX h12 (aJ h13 O))
  rw [← hE];exact ⟨_,rfl,⟨[],sn,OwnG.nil⟩⟩
 refine W_t (iX h12) O (go5 ?_);refine rtX O (dP O m0 tyT O) ?_
 have hE:((⟨([]:List I),(wl 1)⟩:Curve):Curve)=(aW h u b m):=by obtain rfl:=hq35.symm;obtain rfl:=hq34.symm;obtain rfl:=hq33.symm;obtain rfl:=hq32.symm;obtain rfl:=hq31.symm;obtain rfl:=hq30.symm;obtain rfl:=hq29.symm;obtain rfl:=hq28.symm;obtain rfl:=hq27.symm;obtain rfl:=hq26.symm;obtain rfl:=hq25.symm;obtain rfl:=hq24.symm;obtain rfl:=hq23.symm;obtain rfl:=hq22.symm;obtain rfl:=hq21.symm;obtain rfl:=hq20.symm;obtain rfl:=hq19.symm;obtain rfl:=hq18.symm;obtain rfl:=hq17.symm;obtain rfl:=hq16.symm;obtain rfl:=hq15.symm;obtain rfl:=hq14.symm;obtain rfl:=hq13.symm;obtain rfl:=hq12.symm;obtain rfl:=hq11.symm;obtain rfl:=hq10.symm;obtain rfl:=hq9.symm;obtain rfl:=hq8.symm;obtain rfl:=hq7.symm;obtain rfl:=hq6.symm;obtain rfl:=hq5.symm;obtain rfl:=hq4.symm;obtain rfl:=hq3.symm;obtain rfl:=hq2.symm;obtain rfl:=hq1.symm;obtain rfl:=hq0.symm;exact aJ h11 (aJ h12 O)
 rw [← hE];exact ⟨_,rfl,⟨[],sn,OwnG.nil⟩⟩
theorem vD (vp:Value) (p:(List I)) (a:Rt) (c:Rt) (w:World) (hp:Slr w elI vp p) (hpre:p.length≤100) :
    Calls prog 140 [vp,AV [pI a.n,pI a.d],AV [pI c.n,pI c.d]].toArray w (fun e w'=>e = .returned (.tuple #[.bool ((cR p a c).1),.int .i64 (((cR p a c).2).1)])∧Ext w w'):=by
 obtain ⟨p_p,c_p,rfl⟩:=hp.form;refine cM (N:=31) func140 O O zz_ ?_;obtain ⟨w0,rfl⟩:=nm w;have Hp:=hp.old;have hm_p:=hp.max;refine giI ?_;refine go2 ?_;intro b1 hb1;refine go_ ?_;intro b2 hb2;refine go7 ?_;refine aZ O (aN (E:=31) (e:=elI) (l:=(aT p a c).l) (fun v=>.agg #[v,.bool ((aT p a c).is)]) aB O (fun w hw=>wZ _ p a c w (aR hw Hp sn) (by first|omega|(simp;done)|(simp;omega))) (fun p3 c4 L5 hF6=>?_));refine go_ ?_;intro b7 hb7;refine go2 ?_;refine iS (sk (sA (sd (sd s0)))) ?_;refine go6 ?_;rcases bt ((aT p a c).is) with h8|h8
 ·refine W_f (fZ h8) O (go3 ?_);have hmx:=OwnG.max hF6;refine go2 ?_;refine gJ3 (rg [6,7,9] 17 14) (fun g M=>∃ (i:Nat),(iC p a c (((aT p a c).l).length+1) 0) = .inl i∧(g 9 = .int .i64 (i:Int))∧M=(⟨b7,231,cF [csl p3 ((aT p a c).l).length c4,cb ((aT p a c).is)]⟩::(L5++[]))) (fun K_u9 hK_u9=>?_) ?_
  ·refine go_ ?_;refine bX (rg [6,7,9] 17 14) (fun g nn M=>∃ (i:Nat),(iC p a c nn i)=(iC p a c (((aT p a c).l).length+1) 0)∧((aT p a c).l).length - i<nn∧(i≤((aT p a c).l).length)∧(g 9 = .int .i64 (i:Int))∧M=(⟨b7,231,cF [csl p3 ((aT p a c).l).length c4,cb ((aT p a c).is)]⟩::(L5++[]))) (((aT p a c).l).length+1) ?start ?round
   case start=>exact ⟨_,s0,0,rfl,oo_,oo_,rfl,rfl⟩
   case round =>
    rintro nn g M ⟨i,hT0,hq0,hinv0,hg9,rfl⟩;obtain ⟨k0,rfl⟩:∃ m,nn=m+1:=⟨nn - 1,by omega⟩;refine gS1 hg9 ?_;clear hg9;refine go5 ?_;refine sQ (aY (v':=.int .i64 (((aT p a c).l).length:Int)) (dW (e:=elI) nX O (rO hF6 (sd lZ))) O) O (go2 ?_);refine aH _ O (fun h14=>?_) (fun h14=>?_)
    ·have ph14:=of_decide_eq_true h14;refine go7 ?_;refine sQ (aY (v':=.pointer (some (slb (.slice p3 ((aT p a c).l).length c4) (i*18+0)))) (kJ (e:=elI) (l:=(aT p a c).l) (k:=i) nX O O (rO hF6 (sd lZ)) o2_) O) O ?_;refine sQ (kW (e:=elI) (l:=(aT p a c).l) (k:=i) (o:=0) tyT O (rO hF6 (sd lZ)) (dS I0 o2_) O) O ?_;refine sC (.int .i64 ((Z.signW (((aT p a c).l).getD i I0).dec).1)) aB (fM (((aT p a c).l).getD i I0).1 (((aT p a c).l).getD i I0).2) O O O (go2 ?_);refine aH _ O (fun h15=>?_) (fun h15=>?_)
     ·have ph15:=of_decide_eq_true h15;refine go5 ?_;refine rt2 ?_;exact congrArg vS3 (show _=(cR p a c) from aX h8 (BZ O (hT0.symm.trans (Eq.symm (aX h14 (aX h15 O))))))
     have ph15:=of_decide_eq_false h15;refine go3 ?_;refine sWi (((i+1):Nat):Int) O (go2 ?_);refine ⟨pp_,_,_,s0,(Nat.lt_succ_self _),(i+1),(by exact (hT0.symm.trans (Eq.symm (aX h14 (aJ h15 O)))).symm),(Nat.lt_of_lt_of_le oo_ (Nat.le_of_lt_succ hq0)),oo_,rfl,rfl⟩
    have ph14:=of_decide_eq_false h14;refine go_ ?_;refine hK_u9 _ _ pp_ ⟨_,s0,i,(by exact hT0.symm.trans (Eq.symm (aJ h14 O))),rfl,rfl⟩
  rintro g M ⟨i,hCu9,hg9,rfl⟩;refine gS1 hg9 ?_;clear hg9;refine go5 ?_;refine rt2 ?_;exact congrArg vS3 (show _=(cR p a c) from aX h8 (trs (Eq.symm (smS hCu9)) O))
 refine W_t (iX h8) O (go5 ?_);refine rt2 ?_;exact congrArg vS3 (show _=(cR p a c) from aJ h8 O)
theorem IW (r:Rope) (n:Int) (w:World)  (hpre:(r.a.1==0)=true∧(decide (r.a.1<0))=false∧(decide ((n.toNat:Int)<r.a.1))=false∧(eY r.p (wl 140737488355327))=true∧(r.b.1==0)=false∧(decide (r.b.1<0))=false∧(decide ((n.toNat:Int)<r.b.1))=false∧(eY r.q (wl 262144))=true∧True) :
  Calls prog 16 [AV [cw r.a.1,cw r.b.1,cw r.p.x.1,cw r.p.y.1,cw r.p.z.1,cw r.q.x.1,cw r.q.y.1,cw r.q.z.1],.int .i64 n].toArray w (fun e w'=>e = .returned (.bool (n6 r n))∧Ext w w'):=by
 refine cM (N:=37) func16 O O zz_ ?_;obtain ⟨w0,rfl⟩:=nm w;refine giI ?_;refine go2 ?_;intro b1 hb1;refine go_ ?_;intro b2 hb2;refine go_ ?_;intro b3 hb3;refine go4 ?_;refine aZ O (SV aB func67 O O O (Nat.le_of_ble_eq_true O) ?_);refine go2 ?_;intro b4 hb4;refine go3 ?_;refine sQ (yZ O O) O (go3 ?_);refine rt1 ?_;refine go2 ?_;refine MB O aB func144 O O (Nat.le_of_ble_eq_true O) (Nat.le_of_ble_eq_true O) (fun ly2 qy2 hzy2 hpy2 hay2 hby2 hty2=>?_);refine go7 ?_;refine VI O (EQ (ps:=[10,11]) O O O hpy2 hay2 hby2 hty2 O O hzy2 ?_);refine go2 ?_;intro b6 hb6;refine go2 ?_;refine E0 ?_;refine j0 ?_;have hx1:(r.a.1==0)=true:=hpre.1;refine W_t hx1 O (go7 ?_);have hx2:(decide (r.a.1<0))=false:=hpre.2.1;refine sB hx2 O (go3 ?_);refine sQ (aY (v':=.int .i64 (n.toNat:Int)) (rV O O) (congrArg (Value.int .i64) oo_)) O (go2 ?_);have hx3:(decide ((n.toNat:Int)<r.a.1))=false:=hpre.2.2.1;refine sB hx3 O (go3 ?_);refine sQ (bE aB (u5 r.p (wl 140737488355327)) O) O ?_;refine go3 ?_;have hx4:(eY r.p (wl 140737488355327))=true:=hpre.2.2.2.1;refine W_f (fZ hx4) O (go_ ?_);refine EN ?_;refine go7 ?_;refine VI O (EQ (ps:=[10,11]) O O O hpy2 hay2 hby2 hty2 O O hzy2 ?_);refine go2 ?_;intro b7 hb7;refine go2 ?_;refine E0 ?_;refine j0 ?_;have hx5:(r.b.1==0)=false:=hpre.2.2.2.2.1;refine W_f hx5 O (go5 ?_);have hx6:(decide (r.b.1<0))=false:=hpre.2.2.2.2.2.1;refine sB hx6 O (go3 ?_);refine sQ (aY (v':=.int .i64 (n.toNat:Int)) (rV O O) (congrArg (Value.int .i64) oo_)) O (go2 ?_);have hx7:(decide ((n.toNat:Int)<r.b.1))=false:=hpre.2.2.2.2.2.2.1;refine sB hx7 O (go3 ?_);refine sQ (bE aB (u5 r.q (wl 262144)) O) O ?_;refine go3 ?_;have hx8:(eY r.q (wl 262144))=true:=hpre.2.2.2.2.2.2.2.1;refine W_f (fZ hx8) O (go_ ?_);refine EN ?_;refine go2 ?_;refine (Q1 O (.inl O) O ?_);refine go0 ?_;refine iS (sd (sd (sd (sk (sd s0))))) ?_;refine go9 ?_;refine rtX O (dA_ (v:=.bool (r.a.1 != r.b.1)) O m0 tyT O) ?_;exact congrArg vS2 (show ((r.a.1 != r.b.1):Bool)=(n6 r n) from (by first|exact aX hx1 (aJ hx2 (aJ hx3 (aX hx4 (aJ hx5 (aJ hx6 (aJ hx7 (aX hx8 O)))))))|(simp only [n6,hx1,hx2,hx3,hx4,hx5,hx6,hx7,hx8,cond_true,cond_false,Bool.or_self,Bool.and_self,Bool.true_and,Bool.false_and,Bool.and_true,Bool.and_false,Bool.true_or,Bool.false_or,Bool.or_true,Bool.or_false,Bool.not_true,Bool.not_false])|(simp only [n6,hx1,hx2,hx3,hx4,hx5,hx6,hx7,hx8,cond_true,cond_false,Bool.or_self,Bool.and_self,Bool.true_and,Bool.false_and,Bool.and_true,Bool.and_false,Bool.true_or,Bool.false_or,Bool.or_true,Bool.or_false,Bool.not_true,Bool.not_false];rfl)))
theorem GV (a:Rt) :
   Ret prog 79 [AV [pI a.n,pI a.d]] (AV [pI (gW a)]):=by
 refine bG (N:=12) func79 O O zz_ (fun w0=>?_);refine giI ?_;refine go2 ?_;intro b1 hb1;refine go_ ?_;intro b2 hb2;refine go4 ?_;refine sQ (bE aB (eP a) O) O (go2 ?_);rcases bt (aS a) with h3|h3
 ·refine W_f (fZ h3) O (go6 ?_);refine sC (AV [pI (E (Z.quo a.n.dec a.d.dec))]) aB (gZ a.n.1 a.d.1 a.n.2 a.d.2) O O O (go3 ?_);refine rtX O (dP O m0 tyT O) ?_;exact congrArg vS4 (show _=(gW a) from aX h3 O)
 refine W_t (iX h3) O (go_ ?_);refine sC (AV [pI (E Z.bad)]) aB fS O O O (go3 ?_);refine rtX O (dP O m0 tyT O) ?_;exact congrArg vS4 (show _=(gW a) from aJ h3 O)
end Go.Proofs.YtkjjponijamaoaaGreatDoor
namespace Go.Num
open Go Go.Kn
theorem c9_ {g x:Bool} (h:(bif g then false else x)=true):g=false∧x=true:=by cases g<;>simp_all
theorem gtw {a n:Int} {u:Bool} (h:(decide (a<0)||(decide (n<a)||u))=false):0≤a∧a≤n:=by simp at h;omega
theorem ar_ {r:Rope} {n:Int} (h:n6 r n=true):(0≤r.a.1∧r.a.1≤(n.toNat:Int))∧(0≤r.b.1∧r.b.1≤(n.toNat:Int)):=by
 unfold n6 at h
 cases h1:(r.a.1==0)<;>simp only [h1,cond_true,cond_false] at h<;>obtain ⟨g1,h⟩:=c9_ h<;>cases h2:(r.b.1==0)<;>simp only [h2,cond_true,cond_false] at h<;>obtain ⟨g2,h⟩:=c9_ h<;>exact ⟨gtw g1,gtw g2⟩
end Go.Num
namespace Go.Proofs.YtkjjponijamaoaaGreatDoor
open Go.Kn Go.Num Tryz
attribute [local irreducible] Go.Kn.W WL PL OpQ OpR OpS
theorem mR (a:(A3 I)) :
    Ret prog 80 [AV [pI a.x,pI a.y,pI a.z]] (.tuple #[AV [cw ((((gD a).1).x).1),cw ((((gD a).1).y).1),cw ((((gD a).1).z).1)],.int .i64 (((gD a).2).1)]):=by
 refine bG (N:=58) func80 O O zz_ (fun w0=>?_);refine giI ?_;refine go2 ?_;intro b1 hb1;refine go_ ?_;intro b2 hb2;refine go3 ?_;refine sC (AV [pI (E (Z.of 0))]) aB (cU (wl 0).1 (wl 0).2) O O O ?_;refine go_ ?_;intro b3 hb3;refine go8 ?_;refine rA 5 (go2 ?_);refine sV (.bool true) O O (go9 ?_);intro b4 hb4;refine go5 ?_;refine sC (AV [pI (E (Z.gcd (Z.of 0) a.x.dec))]) aB (qO (E (Z.of 0)).1 a.x.1 (E (Z.of 0)).2 a.x.2) O O (cg2 (fun p q=>AV [pI (E (Z.gcd p q))]) (eQ _) O) (go3 ?_);refine sV (.int .i64 1) O O (go4 ?_);refine sV (.bool true) O O (go9 ?_);intro b5 hb5;refine go5 ?_;refine sC (AV [pI (E (Z.gcd (Z.gcd (Z.of 0) a.x.dec) a.y.dec))]) aB (qO (E (Z.gcd (Z.of 0) a.x.dec)).1 a.y.1 (E (Z.gcd (Z.of 0) a.x.dec)).2 a.y.2) O O (cg2 (fun p q=>AV [pI (E (Z.gcd p q))]) (eQ _) O) (go3 ?_);refine sV (.int .i64 2) O O (go4 ?_);refine sV (.bool true) O O (go9 ?_);intro b6 hb6;refine go5 ?_;refine sC (AV [pI (E (Z.gcd (Z.gcd (Z.gcd (Z.of 0) a.x.dec) a.y.dec) a.z.dec))]) aB (qO (E (Z.gcd (Z.gcd (Z.of 0) a.x.dec) a.y.dec)).1 a.z.1 (E (Z.gcd (Z.gcd (Z.of 0) a.x.dec) a.y.dec)).2 a.z.2) O O (cg2 (fun p q=>AV [pI (E (Z.gcd p q))]) (eQ _) O) (go3 ?_);refine sV (.int .i64 3) O O (go4 ?_);refine sV (.bool false) O O (BG ?_);refine aH _ O (fun h7=>?_) (fun h7=>?_)
 ·refine go6 ?_;refine qE O (.inr O) (dP O m4 tyT O) O ?_;exact congrArg vS0 (show _=(gD a) from aX h7 O)
 refine go2 ?_;refine sC (.int .i64 ((Z.signW (Z.gcd (Z.gcd (Z.gcd (Z.of 0) a.x.dec) a.y.dec) a.z.dec)).1)) aB (iH (E (Z.gcd (Z.gcd (Z.gcd (Z.of 0) a.x.dec) a.y.dec) a.z.dec)).1 (E (Z.gcd (Z.gcd (Z.gcd (Z.of 0) a.x.dec) a.y.dec) a.z.dec)).2) O O (cg1 (fun p=>Value.int .i64 (Z.signW p).1) (eQ _)) (go3 ?_);refine aH _ O (fun h8=>?_) (fun h8=>?_)
 ·refine go6 ?_;refine qE O (.inr O) (dP O m4 tyT O) O ?_;exact congrArg vS0 (show _=(gD a) from aJ h7 (aX h8 O))
 refine go3 ?_;intro b9 hb9;refine go7 ?_;refine rA 5 (go2 ?_);refine sV (.bool true) O O (j0 ?_);intro b10 hb10;refine go6 ?_;obtain ⟨r11,hr11⟩:=nm ((E (Z.quo a.x.dec (Z.gcd (Z.gcd (Z.gcd (Z.of 0) a.x.dec) a.y.dec) a.z.dec))):I);refine sC (AV [pI r11]) aB (gZ a.x.1 (E (Z.gcd (Z.gcd (Z.gcd (Z.of 0) a.x.dec) a.y.dec) a.z.dec)).1 a.x.2 (E (Z.gcd (Z.gcd (Z.gcd (Z.of 0) a.x.dec) a.y.dec) a.z.dec)).2) O O ((cg2 (fun p q=>AV [pI (E (Z.quo p q))]) O (eQ _)).trans (by rw [hr11])) (sC (.tuple #[.int .i64 ((Z.smallW r11.dec).1),.bool r11.dec.small.2]) aB (rR r11.1 r11.2) O O O (go7 ?_));refine gJv (rg [] 42 10) [(51,.bool (!r11.dec.small.2||(decide (2305843009213693952≤(Z.smallW r11.dec).1)||decide ((Z.smallW r11.dec).1≤(-2305843009213693952)))))] (fun K19 J19=>?_) ?_
 ·refine go3 ?_;rcases bt r11.dec.small.2 with h14|h14
  ·refine sB (fZ h14) O (go3 ?_);refine sBB O (fun h15=>?_) (fun h15=>?_)
   ·refine go4 ?_;refine J19 _ _ pp_ s0 (bH (lE h14 (mJ h15)))
   refine go4 ?_;refine J19 _ _ pp_ s0 (bH (lE h14 (kC h15 O)))
  refine sB (iX h14) O (go8 ?_);refine J19 _ _ pp_ s0 (bH (oG h14))
 intro g16;refine aH _ O (fun h17=>?_) (fun h17=>?_)
 ·refine go6 ?_;refine qE O (.inr O) (dP O m6 tyT O) O ?_;exact (by subst hr11;exact congrArg vS0 (show _=(gD a) from aJ h7 (aJ h8 (aX h17 O))))
 refine go8 ?_;refine sV (.int .i64 1) O O (go4 ?_);refine sV (.bool true) O O (j0 ?_);intro b18 hb18;refine go6 ?_;obtain ⟨r19,hr19⟩:=nm ((E (Z.quo a.y.dec (Z.gcd (Z.gcd (Z.gcd (Z.of 0) a.x.dec) a.y.dec) a.z.dec))):I);refine sC (AV [pI r19]) aB (gZ a.y.1 (E (Z.gcd (Z.gcd (Z.gcd (Z.of 0) a.x.dec) a.y.dec) a.z.dec)).1 a.y.2 (E (Z.gcd (Z.gcd (Z.gcd (Z.of 0) a.x.dec) a.y.dec) a.z.dec)).2) O O ((cg2 (fun p q=>AV [pI (E (Z.quo p q))]) O (eQ _)).trans (by rw [hr19])) (sC (.tuple #[.int .i64 ((Z.smallW r19.dec).1),.bool r19.dec.small.2]) aB (rR r19.1 r19.2) O O O (go7 ?_));refine gJv (rg [] 42 10) [(51,.bool (!r19.dec.small.2||(decide (2305843009213693952≤(Z.smallW r19.dec).1)||decide ((Z.smallW r19.dec).1≤(-2305843009213693952)))))] (fun K24 J24=>?_) ?_
 ·refine go3 ?_;rcases bt r19.dec.small.2 with h22|h22
  ·refine sB (fZ h22) O (go3 ?_);refine sBB O (fun h23=>?_) (fun h23=>?_)
   ·refine go4 ?_;refine J24 _ _ pp_ s0 (bH (lE h22 (mJ h23)))
   refine go4 ?_;refine J24 _ _ pp_ s0 (bH (lE h22 (kC h23 O)))
  refine sB (iX h22) O (go8 ?_);refine J24 _ _ pp_ s0 (bH (oG h22))
 intro g24;refine aH _ O (fun h25=>?_) (fun h25=>?_)
 ·refine go6 ?_;refine qE O (.inr O) (dP O m7 tyT O) O ?_
  subst_vars;exact congrArg vS0 (show _=(gD a) from aJ h7 (aJ h8 (aJ h17 (aX h25 O))))
 refine go8 ?_;refine sV (.int .i64 2) O O (go4 ?_);refine sV (.bool true) O O (j0 ?_);intro b26 hb26;refine go6 ?_;obtain ⟨r27,hr27⟩:=nm ((E (Z.quo a.z.dec (Z.gcd (Z.gcd (Z.gcd (Z.of 0) a.x.dec) a.y.dec) a.z.dec))):I);refine sC (AV [pI r27]) aB (gZ a.z.1 (E (Z.gcd (Z.gcd (Z.gcd (Z.of 0) a.x.dec) a.y.dec) a.z.dec)).1 a.z.2 (E (Z.gcd (Z.gcd (Z.gcd (Z.of 0) a.x.dec) a.y.dec) a.z.dec)).2) O O ((cg2 (fun p q=>AV [pI (E (Z.quo p q))]) O (eQ _)).trans (by rw [hr27])) (sC (.tuple #[.int .i64 ((Z.smallW r27.dec).1),.bool r27.dec.small.2]) aB (rR r27.1 r27.2) O O O (go7 ?_));refine gJv (rg [] 42 10) [(51,.bool (!r27.dec.small.2||(decide (2305843009213693952≤(Z.smallW r27.dec).1)||decide ((Z.smallW r27.dec).1≤(-2305843009213693952)))))] (fun K29 J29=>?_) ?_
 ·refine go3 ?_;rcases bt r27.dec.small.2 with h30|h30
  ·refine sB (fZ h30) O (go3 ?_);refine sBB O (fun h31=>?_) (fun h31=>?_)
   ·refine go4 ?_;refine J29 _ _ pp_ s0 (bH (lE h30 (mJ h31)))
   refine go4 ?_;refine J29 _ _ pp_ s0 (bH (lE h30 (kC h31 O)))
  refine sB (iX h30) O (go8 ?_);refine J29 _ _ pp_ s0 (bH (oG h30))
 intro g32;refine aH _ O (fun h33=>?_) (fun h33=>?_)
 ·refine go6 ?_;refine qE O (.inr O) (dP O m8 tyT O) O ?_
  subst_vars;exact congrArg vS0 (show _=(gD a) from aJ h7 (aJ h8 (aJ h17 (aJ h25 (aX h33 O)))))
 refine go8 ?_;refine sV (.int .i64 3) O O (go4 ?_);refine sV (.bool false) O O (j0 ?_);refine qE O (.inr O) (dP O m8 tyT O) O ?_
 subst_vars;exact congrArg vS0 (show _=(gD a) from aJ h7 (aJ h8 (aJ h17 (aJ h25 (aJ h33 O)))))
end Go.Proofs.YtkjjponijamaoaaGreatDoor
namespace Go.Num
open Go Go.Kn
theorem bI_ (a:I):mX [a]=a.1.good:=by
 unfold mX lT lT R.good
 cases a.1.bad<;>cases a.1.valid<;>rfl
def DN (a m:I):Prop:=∃ v r:Nat,a.dec=Z.of (v:Int)∧0<v∧v<4294967296 ^ 16∧m=E (Z.of (r:Int))∧zP v≤r∧0<r∧r≤2 ^ 256
theorem ZM {m k:Nat} (hm:4294967296 ^ 16=2 ^ m) (hk:m=k+k):(4294967296:Nat) ^ 16=2 ^ k*2 ^ k:=by rw [hm,hk,Nat.pow_add]
theorem dJ_:(4294967296:Nat) ^ 16=2 ^ 256*2 ^ 256:=ZM C3 O
theorem PR {v:Nat} (h:0<v) (hv:v<4294967296 ^ 16):0<zP v:=by
 have:=(xJ hv).2;rcases Nat.eq_zero_or_pos (zP v) with h0|h0
 ·rw [h0] at this;omega
 exact h0
theorem XZ {v:Nat} (hv:v<4294967296 ^ 16):zP v<2 ^ 256:=by
 have:=(xJ hv).1;rw [dJ_] at hv;generalize 2 ^ 256=q at *;rcases Nat.lt_or_ge (zP v) q with h|h
 ·exact h
 have:=Nat.mul_le_mul h h;omega
theorem bW_ {v r s:Nat} (h1:s*s≤v) (h2:v<(s+1)*(s+1)) (hs:0<s) (hr:s≤r):s≤(r+v / r) / 2∧v / r≤s+2∧(r≤(r+v / r) / 2→r=s):=by
 have r0:0<r:=by omega
 have q1:r*(v / r)≤v:=Nat.mul_div_le v r
 have q2:v<r*(v / r+1):=by rw [Nat.mul_add,Nat.mul_one];exact Nat.lt_mul_div_succ v r0
 generalize v / r=q at *
 have e1:(s+1)*(s+1)=s*s+2*s+1:=by rw [Nat.add_mul,Nat.mul_add];omega
 refine ⟨?_,?_,?_⟩
 ·rw [Nat.le_div_iff_mul_le dd_]
  rcases Nat.lt_or_ge (r+q) (s*2) with h|h
  ·exfalso
   obtain ⟨d,rfl⟩:∃ d,r=s+d:=⟨r - s,by omega⟩
   have hq:q+1≤s - d:=by omega
   have hd:d≤s:=by omega
   have h3:=Nat.mul_le_mul_left (s+d) hq
   have h4:(s+d)*(s - d)≤s*s:=by
    obtain ⟨t,rfl⟩:∃ t,s=d+t:=⟨s - d,by omega⟩;rw [Nat.add_sub_cancel_left]
    have:(d+t)*(d+t)=(d+t+d)*t+d*d:=by grind
    omega
   omega
  omega
 ·rcases Nat.lt_or_ge (s+2) q with h|h
  ·exfalso
   have h3:=Nat.mul_le_mul hr (show s+3≤q by omega)
   have:s*(s+3)=s*s+3*s:=by grind
   omega
  exact h
 intro h
 have h3:r≤q:=by rw [Nat.le_div_iff_mul_le dd_] at h;omega
 have h4:=Nat.mul_le_mul_left r h3;rcases Nat.lt_or_ge s r with h5|h5
 ·have:=ak_ h5;omega
 omega
theorem nB {n:Nat} (h:n<4294967296 ^ 16):(n:Int).natAbs<4294967296 ^ 16:=by rwa [Int.natAbs_natCast]
theorem PY:(2:Nat) ^ 256+2 ^ 256+2<4294967296 ^ 16:=by decide +kernel
theorem NO {a m:I} (h:DN a m):∃ v r:Nat,a.dec=Z.of (v:Int)∧0<v∧v<4294967296 ^ 16∧m.dec=Z.of (r:Int)∧zP v≤r∧0<r∧r≤2 ^ 256∧r<4294967296 ^ 16∧m=E (Z.of (r:Int)) ∧
  Z.add m.dec (Z.quo a.dec m.dec)=Z.of ((r+v / r:Nat):Int)∧r+v / r<4294967296 ^ 16∧Z.half (Z.add m.dec (Z.quo a.dec m.dec))=Z.of (((r+v / r) / 2:Nat):Int)∧zP v≤(r+v / r) / 2∧(r+v / r) / 2≤2 ^ 256∧(r≤(r+v / r) / 2→r=zP v):=by
 obtain ⟨v,r,ha,hv,hv2,rfl,h1,h2,h3⟩:=h;have s0:=PR hv hv2;have s1:=XZ hv2;obtain ⟨n1,n2,n3⟩:=bW_ (xJ hv2).1 (xJ hv2).2 s0 h1;have hb:=PY
 have r1:r<4294967296 ^ 16:=by omega
 have q1:v / r<4294967296 ^ 16:=by omega
 have t1:r+v / r<4294967296 ^ 16:=by omega
 have e1:Z.quo (Z.of (v:Int)) (Z.of (r:Int))=Z.of ((v / r:Nat):Int):=by
  unfold Z.quo;rw [dM (Z.of_some (nB hv2)) (Z.of_some (nB r1)),if_neg oo_]
  congr 1
  rw [Int.fdiv_eq_ediv_of_nonneg _ oo_];rfl
 have e2:Z.add (Z.of (r:Int)) (Z.of ((v / r:Nat):Int))=Z.of ((r+v / r:Nat):Int):=by
  unfold Z.add;rw [dM (Z.of_some (nB r1)) (Z.of_some (nB q1))]
  congr 1
 have e3:Z.half (Z.of ((r+v / r:Nat):Int))=Z.of (((r+v / r) / 2:Nat):Int):=by
  unfold Z.half;rw [nF (Z.of_some (nB t1))]
  congr 1
 refine ⟨v,r,ha,hv,hv2,by rw [eQ],h1,h2,h3,r1,rfl,?_,t1,?_,n1,?_,n3⟩
 ·rw [ha,eQ,e1,e2]
 ·rw [ha,eQ,e1,e2,e3]
 generalize 2 ^ 256=q at *;omega
theorem Q6 {n:Nat} (h:n<4294967296 ^ 16):(E (Z.of (n:Int))).1.neg=false:=by
 show (Z.of (n:Int)).enc.neg=false
 unfold Z.enc;rw [Z.of_some (nB h)];exact decide_eq_false (show ¬ ((n:Int)<0) by omega)
theorem ac_ {a m:I} (h:DN a m):(E (Z.add m.dec (Z.quo a.dec m.dec))).1.neg=false:=by
 obtain ⟨v,r,_,_,_,_,_,_,_,_,_,e,t,_⟩:=NO h;rw [e];exact Q6 t
theorem UT {a m:I} (h:DN a m):DN a (E (Z.half (Z.add m.dec (Z.quo a.dec m.dec)))):=by
 obtain ⟨v,r,ha,hv,hv2,_,_,_,_,_,_,_,_,e,n1,n2,_⟩:=NO h;have:=PR hv hv2;exact ⟨v,(r+v / r) / 2,ha,hv,hv2,by rw [e],n1,by omega,n2⟩
theorem XA {n:Nat} (h:n<4294967296 ^ 16):Z.nat (Z.of (n:Int))=n:=by
 unfold Z.nat;rw [Z.of_some (nB h)];exact Int.natAbs_natCast n
theorem VX {m n:Nat} (hm:m<4294967296 ^ 16) (hn:n<4294967296 ^ 16):decide (0≤(Z.cmpW (Z.of (m:Int)) (Z.of (n:Int))).1)=decide (n≤m):=by
 congr 1
 show (0≤Z.cmp (Z.of (m:Int)) (Z.of (n:Int)))=_
 unfold Z.cmp;rw [Z.of_some (nB hm),Z.of_some (nB hn)];simp only;unfold wV
 apply propext
 constructor
 ·intro h
  split at h
  ·omega
  split at h<;>omega
 intro h
 split
 ·omega
 split<;>omega
theorem X0 {a m:I} (h:DN a m) (hc:decide (0≤(Z.cmpW (Z.half (Z.add m.dec (Z.quo a.dec m.dec))) m.dec).1)=false):Z.nat (E (Z.half (Z.add m.dec (Z.quo a.dec m.dec)))).dec<Z.nat m.dec:=by
 obtain ⟨v,r,ha,hv,hv2,hm,_,_,_,r1,_,_,t,e,n1,n2,_⟩:=NO h;have hb:=PY
 have t1:(r+v / r) / 2<4294967296 ^ 16:=by omega
 rw [e,hm,VX t1 r1] at hc;have:=of_decide_eq_false hc;rw [e,hm,eQ,XA t1,XA r1];omega
theorem X1 (a:I):(W.quo (W.add (Z.bitsW a.dec) (wl 1)) (wl 2)).1=(((a.dec.bits+1) / 2:Nat):Int):=by
 have h:=Z.bits_le a.dec
 have e1:(W.add (Z.bitsW a.dec) (wl 1)).1=((a.dec.bits+1:Nat):Int):=by
  show IntKind.i64.wrap (((Z.bits a.dec:Nat):Int)+1)=_
  rw [wi oo_];rfl
 show IntKind.i64.wrap ((W.add (Z.bitsW a.dec) (wl 1)).1.tdiv 2)=_
 rw [e1,Int.tdiv_eq_ediv_of_nonneg oo_];rw [wi oo_];rfl
theorem ad_ (a:I):0≤(W.quo (W.add (Z.bitsW a.dec) (wl 1)) (wl 2)).1:=by rw [X1];omega
theorem RJ {a:I} (h1:(!(mX [a])||a.1.neg)=false) (h2:((Z.signW a.dec).1==0)=false):DN a (E (Z.shl (Z.of 1) (W.quo (W.add (Z.bitsW a.dec) (wl 1)) (wl 2)).1)):=by
 rw [bI_,Bool.or_eq_false_iff,Bool.not_eq_false'] at h1;obtain ⟨ga,hn⟩:=h1;have hv:=a1_ a.2
 have ea:a.dec=Z.of ((val a.1.w:Nat):Int):=by
  show a.1.dec=_
  unfold R.dec;rw [if_pos ga,hn];rfl
 have v0:0<val a.1.w:=by
  rcases Nat.eq_zero_or_pos (val a.1.w) with h|h
  ·exfalso
   rw [ea,h] at h2
   revert h2;decide +kernel
  exact h
 have eb:a.dec.bits=bl (val a.1.w):=E9 a.2 ga;have hbl:=Z.bits_le a.dec
 have hk:(a.dec.bits+1) / 2≤256:=by omega
 have hlt:val a.1.w<2 ^ ((a.dec.bits+1) / 2)*2 ^ ((a.dec.bits+1) / 2):=by
  rw [← Nat.pow_add];refine Nat.lt_of_lt_of_le (HS _) (Nat.pow_le_pow_right dd_ ?_);rw [← eb];omega
 have hle:2 ^ ((a.dec.bits+1) / 2)≤2 ^ 256:=Nat.pow_le_pow_right dd_ hk;have hp:0<2 ^ ((a.dec.bits+1) / 2):=Nat.pow_pos dd_;refine ⟨val a.1.w,2 ^ ((a.dec.bits+1) / 2),ea,v0,hv,?_,?_,hp,hle⟩
 ·rw [X1]
  congr 1
  unfold Z.shl;rw [nF (Z.of_some dd_),Int.toNat_natCast,Int.one_mul]
  congr 1
 have:=(xJ hv).1;generalize 2 ^ ((a.dec.bits+1) / 2)=q at *;rcases Nat.lt_or_ge q (zP (val a.1.w)) with h|h
 ·have:=Nat.mul_le_mul (Nat.le_of_lt h) (Nat.le_of_lt h);omega
 exact h
end Go.Num
namespace Go.Proofs.YtkjjponijamaoaaGreatDoor
open Go.Kn Go.Num Tryz
attribute [local irreducible] Go.Kn.W WL PL OpQ OpR OpS
theorem GZ (a:R) (ha:a.Ok) (m:Nat) (hm:(m:Int)≤9223372036854775807) :
    Ret prog 154 [RV a,.int .i64 (m:Int)] (RV (Z.shl a.dec (m:Int)).enc):=by
 refine bG (N:=75) func154 O O zz_ (fun w0=>?_);refine giI ?_;refine go_ ?_;refine aZ O (kV O O (fun b2 hb2=>aZ O (eM jP (fun b4 hb4=>go4 ?_))));refine sQ (cA tyT O mm_ (cC ha)) O ?_;refine aZ O (kA jO jP kB O dd_ O (xI ha) (fun b9 hb9=>sQ (dF aB O (fun w hw=>jE [a] (ok1 ha) b9 31 w (hw.mem _ m0) zz_)) O ?_));refine go3 ?_;refine aH _ O (fun hg=>?_) (fun hg=>?_)
 ·replace hg:=cB_ hg
  refine go_ ?_;refine sQ (bE aB fS O) O (aZ O (bN tyT O O uu_ (aF _) O (bI _) (.inl fR) ?_));refine go2 ?_;refine rtX O ⟨_,_,_,_,_,_,rfl,mm_,tyT,_,(dI (aF _)),(aF _),rfl⟩ ?_
  (rw [Z.shl,zQ (by unfold R.dec;rw [if_neg (by simpa using hg)];rfl)];rfl)
 replace hg:=cB_ hg
 refine go_ ?_;refine sQ (cA tyT O mm_ (cC ha)) O ?_;refine sQ (bE aB (iH a ha) O) O (go3 ?_);refine aH _ O (fun hs=>?_) (fun hs=>?_)
 ·replace hs:=cB_ hs
  refine go_ ?_;refine sQ (cA tyT O mm_ (cC ha)) O ?_;refine aZ O (bN tyT O O uu_ (cC ha) O (bI _) (.inl fR) ?_);refine go2 ?_;refine rtX O ⟨_,_,_,_,_,_,rfl,mm_,tyT,_,(dI (cC ha)),(cC ha),rfl⟩ ?_;exact congrArg RV (ae_ ha (by simpa using hg) hs m)
 replace hs:=cB_ hs
 refine go4 ?_
 cases h5:decide ((m:Int) ≥ 512)
 ·refine go3 ?_
  cases h6:decide ((m:Int) > 0)
  ·refine vG ?_;refine aH _ O (fun h33=>?_) (fun h33=>?_)
   ·replace h33:=cB_ h33
    exact absurd h33 oo_ --done
   replace h33:=cB_ h33
   refine go2 ?_
   have hm5:m<512:=by have:=of_decide_eq_false h5;omega
   have hfar:m / 32≤15:=by omega
   refine aZ O (eM rB (fun b5 hb5=>go3 ?_));refine sQ (aY (lC O O dd_) (congrArg (Value.int .i64) (shq 32 dd_ hm))) O (go7 ?_);refine aH _ O (fun h42=>?_) (fun h42=>?_)
   ·replace h42:=cB_ h42
    refine go_ ?_;refine kU (sd (sk (sk (sk s0)))) 5 [4] [4] (go_ ?_);refine pQ O (vV arT O O O oo_ oo_ oo_ oo_) (pQ O (cB fdT dd_ O) (pQ O (vV arT O O O dd_ dd_ dd_ dd_) ?_));refine bP O O (ND NM O O mm_ uu_ (fun v hv=>bI a v (List.mem_of_mem_drop (List.mem_of_mem_take hv))) (by rw [cC ha];omega) (by simp [uw];omega) (OF ha hfar) (.inl fR) ⟨nf,ss_,?_⟩);refine go2 ?_;refine sQ (cA tyT O mm_ (by simp [uw,C1 ha.len (show m / 32≤16 by omega)])) O ?_;refine go_ ?_;refine sQ (aY (qU O O dd_) (congrArg (Value.int .i64) (shr 32 m))) O (sQ (bE aB (w8 (shw a.w (m / 32)) (C1 ha.len oo_) (S6 ha.lim) (m % 32) (Nat.mod_lt _ dd_)) O) O (go3 ?_));refine aZ O (bN tyT O O uu_ (by simp [uw,cN]) (by simp [uw,C1 ha.len (show m / 32≤16 by omega)]) (jK _) (.inl fR) ?_);refine go2 ?_;refine sQ (cB fdT dd_ O) O (sQ (dR (v:=.bool a.neg) tyT O mm_ O) O ?_);refine sQ (cA tyT O mm_ (by simp [uw,cN])) O ?_;refine sQ (bE aB (fD a.neg (toL 16 (val (shw a.w (m / 32))*2 ^ (m % 32))) (by simp [cN]) (nK _ _)) O) O ?_;refine aZ O (bN tyT O O uu_ (jX (by simp [cN])) O (bI _) (.inl fR) ?_);refine go2 ?_;refine rtX O ⟨_,_,_,_,_,_,rfl,mm_,tyT,_,(dI (jX (by simp [cN]))),(jX (by simp [cN])),rfl⟩ ?_;exact congrArg RV (X5 ha (by simpa using hg) (by have:=Z.bits_le a.dec;have:=of_decide_eq_false h6;omega) hm5)
   replace h42:=cB_ h42
   exact absurd h42 oo_ --done
  refine sQ (cA tyT O mm_ (cC ha)) O ?_;refine sQ (bE aB (xZ a ha) O) O (go_ ?_);refine sQ (aY (j9 O O) (congrArg (Value.int .i64) (show _=((a.dec.bits+m:Nat):Int) from (wi (by have:=Z.bits_le a.dec;have:=of_decide_eq_false h5;omega)).trans (Int.natCast_add _ _).symm))) O (go5 ?_);refine aH _ O (fun h18=>?_) (fun h18=>?_)
  ·replace h18:=cB_ h18
   refine go_ ?_;refine sQ (bE aB fS O) O (aZ O (bN tyT O O uu_ (aF _) O (bI _) (.inl fR) ?_));refine go2 ?_;refine rtX O ⟨_,_,_,_,_,_,rfl,mm_,tyT,_,(dI (aF _)),(aF _),rfl⟩ ?_;exact congrArg RV (X4 ha (by simpa using hg) hs (.inl oo_))
  replace h18:=cB_ h18
  refine go5 ?_;refine aH _ O (fun h33=>?_) (fun h33=>?_)
  ·replace h33:=cB_ h33
   exact absurd h33 oo_ --done
  replace h33:=cB_ h33
  refine go2 ?_
  have hm5:m<512:=by have:=of_decide_eq_false h5;omega
  have hfar:m / 32≤15:=by omega
  refine aZ O (eM rB (fun b5 hb5=>go3 ?_));refine sQ (aY (lC O O dd_) (congrArg (Value.int .i64) (shq 32 dd_ hm))) O (go7 ?_);refine aH _ O (fun h42=>?_) (fun h42=>?_)
  ·replace h42:=cB_ h42
   refine go_ ?_;refine kU (sd (sk (sk (sk s0)))) 5 [4] [4] (go_ ?_);refine pQ O (vV arT O O O oo_ oo_ oo_ oo_) (pQ O (cB fdT dd_ O) (pQ O (vV arT O O O dd_ dd_ dd_ dd_) ?_));refine bP O O (ND NM O O mm_ uu_ (fun v hv=>bI a v (List.mem_of_mem_drop (List.mem_of_mem_take hv))) (by rw [cC ha];omega) (by simp [uw];omega) (OF ha hfar) (.inl fR) ⟨nf,ss_,?_⟩);refine go2 ?_;refine sQ (cA tyT O mm_ (by simp [uw,C1 ha.len (show m / 32≤16 by omega)])) O ?_;refine go_ ?_;refine sQ (aY (qU O O dd_) (congrArg (Value.int .i64) (shr 32 m))) O (sQ (bE aB (w8 (shw a.w (m / 32)) (C1 ha.len oo_) (S6 ha.lim) (m % 32) (Nat.mod_lt _ dd_)) O) O (go3 ?_));refine aZ O (bN tyT O O uu_ (by simp [uw,cN]) (by simp [uw,C1 ha.len (show m / 32≤16 by omega)]) (jK _) (.inl fR) ?_);refine go2 ?_;refine sQ (cB fdT dd_ O) O (sQ (dR (v:=.bool a.neg) tyT O mm_ O) O ?_);refine sQ (cA tyT O mm_ (by simp [uw,cN])) O ?_;refine sQ (bE aB (fD a.neg (toL 16 (val (shw a.w (m / 32))*2 ^ (m % 32))) (by simp [cN]) (nK _ _)) O) O ?_;refine aZ O (bN tyT O O uu_ (jX (by simp [cN])) O (bI _) (.inl fR) ?_);refine go2 ?_;refine rtX O ⟨_,_,_,_,_,_,rfl,mm_,tyT,_,(dI (jX (by simp [cN]))),(jX (by simp [cN])),rfl⟩ ?_;exact congrArg RV (X5 ha (by simpa using hg) oo_ hm5)
  replace h42:=cB_ h42
  exact absurd h42 oo_ --done
 refine zO ?_;refine sQ (bE aB fS O) O (aZ O (bN tyT O O uu_ (aF _) O (bI _) (.inl fR) ?_));refine go2 ?_;refine rtX O ⟨_,_,_,_,_,_,rfl,mm_,tyT,_,(dI (aF _)),(aF _),rfl⟩ ?_;exact congrArg RV (X4 ha (by simpa using hg) hs (.inr (by have:=of_decide_eq_true h5;omega)))
theorem G0 (a:R) (ha:a.Ok) (n:W) (h0:0≤n.1):Ret prog 154 [RV a,.int .i64 n.1] (RV (Z.shl a.dec n.1).enc):=by
 obtain ⟨n,hn⟩:=n;obtain ⟨m,rfl⟩:∃ m:Nat,n=(m:Int):=⟨n.toNat,by simp only at h0;omega⟩;exact GZ a ha m (by unfold I64 at hn;omega)
theorem JI (a:R) (ha:a.Ok) (hn:a.neg=false) (w:List Nat) (hw:w.length=16) (hlim:Lim w) (vs:Value) :
  Ret prog 229 [RV a,UV w,vs] (RV ⟨false,false,w⟩):=by
 refine bG (N:=32) func229 O O zz_ (fun w0=>?_);refine giI ?_;obtain ⟨bd,ng,l⟩:=a;simp only at hn;subst hn;refine go_ ?_;refine aZ O (kV O O (fun b3 hb3=>aZ O (kV O O (fun b4 hb4=>aZ O (eM jP (fun b6 hb6=>go2 ?_))))));refine sQ (cB fdT dd_ O) O (sQ (dR (v:=.bool false) tyT O mm_ O) O ?_);refine sQ (cA tyT O mm_ (by simp [uw,hw])) O ?_;refine sQ (bE aB (fD false w hw hlim) O) O (aZ O (eM jP (fun b7 hb7=>aZ O (bN tyT O O uu_ (jX hw) O (bI _) (.inl fR) ?_))));refine go3 ?_;refine kU (sk (sk (sk (sk s0)))) 16 [] [] (pQ O (cB fdT dd_ O) (pQ O (dR (v:=.bool false) tyT O mm_ O) ?_));refine ey_ ?_;refine sQ (cA tyT O mm_ (jX hw)) O ?_;refine aZ O (bN tyT O O uu_ (jX hw) O (bI _) (.inl fR) ?_);refine go2 ?_;refine rtX O ⟨_,_,_,_,_,_,rfl,mm_,tyT,_,(dI (jX hw)),(jX hw),rfl⟩ ?_;exact rfl
theorem JF (a:R) (ha:a.Ok) (hn:a.neg=false) :
   Ret prog 154 [RV a,.int .i64 (-1)] (RV (Z.half a.dec).enc):=by
 refine bG (N:=75) func154 O O zz_ (fun w0=>?_);refine giI ?_;refine go_ ?_;refine aZ O (kV O O (fun b2 hb2=>aZ O (eM jP (fun b4 hb4=>go4 ?_))));refine sQ (cA tyT O mm_ (cC ha)) O ?_;refine aZ O (kA jO jP kB O dd_ O (xI ha) (fun b9 hb9=>sQ (dF aB O (fun w hw=>jE [a] (ok1 ha) b9 31 w (hw.mem _ m0) zz_)) O ?_));refine go3 ?_;refine aH _ O (fun hg=>?_) (fun hg=>?_)
 ·replace hg:=cB_ hg
  refine go_ ?_;refine sQ (bE aB fS O) O (aZ O (bN tyT O O uu_ (aF _) O (bI _) (.inl fR) ?_));refine go2 ?_;refine rtX O ⟨_,_,_,_,_,_,rfl,mm_,tyT,_,(dI (aF _)),(aF _),rfl⟩ ?_
  (rw [WO (by simpa using hg)];rfl)
 replace hg:=cB_ hg
 refine go_ ?_;refine sQ (cA tyT O mm_ (cC ha)) O ?_;refine sQ (bE aB (iH a ha) O) O (go3 ?_);refine aH _ O (fun hs=>?_) (fun hs=>?_)
 ·replace hs:=cB_ hs
  refine go_ ?_;refine sQ (cA tyT O mm_ (cC ha)) O ?_;refine aZ O (bN tyT O O uu_ (cC ha) O (bI _) (.inl fR) ?_);refine go2 ?_;refine rtX O ⟨_,_,_,_,_,_,rfl,mm_,tyT,_,(dI (cC ha)),(cC ha),rfl⟩ ?_;exact congrArg RV (T3 ha (by simpa using hg) hn hs)
 replace hs:=cB_ hs
 refine eA_ ?_;refine aZ O (eM rB (fun b5 hb5=>go3 ?_));refine sQ (lC O O dd_) O (j0 ?_);refine kU (sd (sk (sk (sk s0)))) 6 [5] [5] (pQ O (vV arT O O O dd_ dd_ dd_ dd_) (pQ O (cB fdT dd_ O) (go2 ?_)));refine pQ O (vV arT O O O dd_ dd_ dd_ dd_) ?_;refine bP O O (ND NM O O mm_ uu_ (fun v hv=>bI a v (List.mem_of_mem_drop (List.mem_of_mem_take hv))) (by rw [cC ha];decide) (by simp [uw]) (TY ha) (.inl fR) ⟨nf,ss_,?_⟩);refine go2 ?_;refine kU (sk (sk (sd (sk s0)))) 11 [8,10] [10] (pQ O (cA tyT O mm_ (cC ha)) ?_);refine pQ O (cA tyT O mm_ (by simp [uw,ha.len])) ?_;refine go2 ?_;refine pQ O (qU O O dd_) (pQ O (bE aB (CM a.w ha.len ha.lim 1 dd_) O) (go2 ?_));refine bP O O (kA iG z_3 pM O dd_ O (B3 1) (fun b73 hb73=>⟨(fun _=>by first|exact sd s0|exact s0),ss_,?_⟩));refine pQ O (bE aB (JI a ha hn (toL 16 (val a.w / 2 ^ 1)) (cN _ _) (nK _ _) _) O) ?_;refine bP O O (bN tyT O O uu_ (jX (cN _ _)) O (bI _) (.inl fR) ⟨nf,ss_,?_⟩);refine go2 ?_;refine rtX O ⟨_,_,_,_,_,_,rfl,mm_,tyT,_,(dI (jX (cN _ _))),(jX (cN _ _)),rfl⟩ ?_;exact congrArg RV (TZ ha (by simpa using hg) hn)
end Go.Proofs.YtkjjponijamaoaaGreatDoor
