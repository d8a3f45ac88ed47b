/- Lemmas: what they ask stands in their statements. -/
import Derived.Test.YtokjfhfiodopdaaGreatJYr
set_option linter.unusedSimpArgs false
set_option linter.unusedVariables false
set_option maxHeartbeats 8000000
set_option maxRecDepth 20000
namespace Go.Num
open Go Go.Kn
theorem QU (n m:Bool) {x y:Nat} (hy:0<y):(sgn n x).fmod (sgn m y)=if n≠m∧x % y≠0 then sgn m (y - x % y) else sgn m (x % y):=by
 rw [Int.fmod_def,II n m hy];have h1:=Nat.div_add_mod x y;have h2:=Nat.mod_lt x hy
 have e:(x:Int)=(y:Int)*((x / y:Nat):Int)+((x % y:Nat):Int):=by exact_mod_cast h1.symm
 have e2:(y:Int)*(-((x / y:Nat):Int) - 1) = -((y:Int)*((x / y:Nat):Int)) - y:=by grind
 have e3:(y:Int)*(-((x / y:Nat):Int)) = -((y:Int)*((x / y:Nat):Int)):=by grind
 have e4:(-(y:Int))*(-((x / y:Nat):Int) - 1)=((y:Int)*((x / y:Nat):Int))+y:=by grind
 have e5:(-(y:Int))*(-((x / y:Nat):Int))=((y:Int)*((x / y:Nat):Int)):=by grind
 have e6:(-(y:Int))*((x / y:Nat):Int) = -((y:Int)*((x / y:Nat):Int)):=by grind
 cases n<;>cases m<;>by_cases h0:x % y=0<;>simp only [tW,sM,reduceIte,Bool.false_eq_true,Bool.true_eq_false,reduceCtorEq,ne_eq,not_true_eq_false,not_false_eq_true,false_and,true_and,and_self,h0]<;>omega
theorem f6_ {x y:W} (hx:-4611686018427387904<x.1∧x.1<4611686018427387904) (hy:-4611686018427387904<y.1∧y.1<4611686018427387904) (h0:y.1≠0) (hf:x.1.fdiv y.1=(W.fdiv x y).1) :
  (W.sub x (W.mul y (W.fdiv x y))).1=x.1.fmod y.1:=by
 have e:x.1.fmod y.1=x.1 - y.1*x.1.fdiv y.1:=Int.fmod_def ..
 have hb:(x.1.fmod y.1).natAbs<y.1.natAbs:=by
  rcases Int.lt_or_gt_of_ne h0 with h|h
  ·have h1:=Int.fmod_nonneg_of_pos (-x.1) (show 0 < -y.1 by omega)
   have h2:=Int.fmod_lt_of_pos (-x.1) (show 0 < -y.1 by omega);rw [Int.neg_fmod_neg] at h1 h2;omega
  have h1:=Int.fmod_nonneg_of_pos x.1 h;have h2:=Int.fmod_lt_of_pos x.1 h;omega
 show IntKind.i64.wrap (x.1 - IntKind.i64.wrap (y.1*(W.fdiv x y).1))=_
 rw [← hf,cG (n:=y.1*x.1.fdiv y.1) (by unfold I64;omega),← e,cG (by unfold I64;omega)]
theorem YL {a b:R} (ha:a.Ok) (hb:b.Ok) (h:iV a=true) (k:iV b=true) (h0:j9 b≠0):Z.of ((j9 a).fmod (j9 b))=Z.rem a.dec b.dec:=by
 rw [Z.rem,dQ (l5 ha h).1 (l5 hb k).1,if_neg h0]
theorem ep_ {a b:R} (h:a.good=false∨b.good=false):Z.bad=Z.rem a.dec b.dec:=by
 rw [Z.rem,jO (h.imp GZ GZ)]
theorem hv_ {a b:R} (ha:a.Ok) (hb:b.Ok) (ga:a.good=true) (gb:b.good=true) (h:val b.w=0):Z.bad=Z.rem a.dec b.dec:=by
 rw [Z.rem,dQ (dE ha ga) (dE hb gb),if_pos (by rw [h];cases b.neg<;>rfl)]
theorem f4_ {a b:R} (ha:a.Ok) (hb:b.Ok) (ga:a.good=true) (gb:b.good=true) (h0:val b.w≠0) (h:a.neg=b.neg∨val a.w % val b.w=0):Z.of (sgn b.neg (val a.w % val b.w))=Z.rem a.dec b.dec:=by
 have hp:0<val b.w:=Nat.pos_of_ne_zero h0;rw [Z.rem,dQ (dE ha ga) (dE hb gb),if_neg (F6 hp),QU _ _ hp,if_neg];rintro ⟨h1,h2⟩;exact h.elim h1 h2
theorem dB_ {a b:R} (ha:a.Ok) (hb:b.Ok) (ga:a.good=true) (gb:b.good=true) (h0:val b.w≠0) (hn:a.neg≠b.neg) (h:val a.w % val b.w≠0):Z.of (sgn b.neg (val b.w - val a.w % val b.w))=Z.rem a.dec b.dec:=by
 have hp:0<val b.w:=Nat.pos_of_ne_zero h0;rw [Z.rem,dQ (dE ha ga) (dE hb gb),if_neg (F6 hp),QU _ _ hp,if_pos ⟨hn,h⟩]
theorem y5 (a b:I):kS a b=E (Z.rem a.dec b.dec):=by
 unfold kS;rw [fz_]
 show _=E (Z.rem a.1.dec b.1.dec)
 cases hw:(iV a.1&&(iV b.1&&((eG b).1 != 0)))
 ·rw [cond_false]
  cases hg:(!a.1.good||(!b.1.good||(val b.1.w==0)))
  ·rw [cond_false]
   simp only [Bool.or_eq_false_iff,Bool.not_eq_false',beq_eq_false_iff_ne] at hg;obtain ⟨ga,gb,h0⟩:=hg
   cases hc:((a.1.neg != b.1.neg)&&decide ((0:Int)<((dl (val a.1.w % val b.1.w)).length:Int)))
   ·rw [cond_false,f4_ a.2 b.2 ga gb h0]
    rw [Bool.and_eq_false_iff] at hc;rcases hc with hc|hc
    ·exact .inl (by simpa using hc)
    right
    have:=of_decide_eq_false hc;exact NX.1 oo_
   rw [cond_true,dB_ a.2 b.2 ga gb h0]
   ·rw [Bool.and_eq_true] at hc;simpa using hc.1
   rw [Bool.and_eq_true] at hc;have:=of_decide_eq_true hc.2;intro h;rw [h,qE] at this;exact absurd this dd_
  rw [cond_true]
  cases ga:a.1.good
  ·rw [ep_ (.inl ga)]
  ·cases gb:b.1.good
   ·rw [ep_ (.inr gb)]
   rw [ga,gb] at hg;rw [hv_ a.2 b.2 ga gb (by simpa using hg)]
 rw [cond_true];have hf:=OG hw;rw [Bool.and_eq_true,Bool.and_eq_true] at hw
 show E (Z.of (W.sub (eG a) (W.mul (eG b) (W.fdiv (eG a) (eG b)))).1)=_
 rw [f6_ (l5 a.2 hw.1).2.2.2 (l5 b.2 hw.2.1).2.2.2 hf.2.1 hf.2.2];exact congrArg E (YL a.2 b.2 hw.1 hw.2.1 hf.2.1)
end Go.Num
namespace Go.Proofs.YtokjfhfiodopdaaGreat
open Go.Kn Go.Num Tryz
attribute [local irreducible] Go.Kn.W WL PL OpQ OpR OpS
theorem AI (a:I) (b:I) :
    Ret prog 68 [AV [pI a],AV [pI b]] (AV [pI (kS a b)]):=by
 refine cJ (N:=78) func68 O O zz_ (fun w0=>?_);refine giI ?_;refine go2 ?_;intro b1 hb1;refine go_ ?_;intro b2 hb2;refine go_ ?_;intro b3 hb3;refine go3 ?_;refine sC (.tuple #[.int .i64 ((eG a).1),.bool (iV a.1)]) aS (gG a.1 a.2) O O O (go8 ?_);refine sC (.tuple #[.int .i64 ((eG b).1),.bool (iV b.1)]) aS (gG b.1 b.2) O O O (go7 ?_);refine gJv (rg [] 21 8) [(28,.bool ((iV a.1)&&((iV b.1)&&((eG b).1 != 0))))] (fun K2 J2=>?_) ?_
 ·refine go2 ?_;refine sBB O (fun h6=>?_) (fun h6=>?_)
  ·refine go2 ?_;refine sBB O (fun h7=>?_) (fun h7=>?_)
   ·refine go4 ?_;refine J2 _ _ pp_ s0 (bK (cQ h6 (cQ h7 O)))
   refine go4 ?_;refine J2 _ _ pp_ s0 (bK (cQ h6 (iT h7)))
  refine go7 ?_;refine J2 _ _ pp_ s0 (bK (iT h6))
 intro g8;refine aZ _ O (fun h9=>?_) (fun h9=>?_)
 ·refine go3 ?_;have hfl:=OG h9;refine go2 ?_;refine sC (.int .i64 ((W.fdiv (eG a) (eG b)).1)) aS (sP (eG a).1 (eG b).1 (eG a).2 hfl.1 hfl.2.1) O O (congrArg (Value.int .i64) hfl.2.2) (sV (.int .i64 ((W.mul (eG b) (W.fdiv (eG a) (eG b))).1)) O O (sV (.int .i64 ((W.sub (eG a) (W.mul (eG b) (W.fdiv (eG a) (eG b)))).1)) O O ?_));obtain ⟨r10,hr10⟩:=nm ((E (Z.of (W.sub (eG a) (W.mul (eG b) (W.fdiv (eG a) (eG b)))).1)):I);refine sC (AV [pI r10]) aS (dV (W.sub (eG a) (W.mul (eG b) (W.fdiv (eG a) (eG b)))).1 (W.sub (eG a) (W.mul (eG b) (W.fdiv (eG a) (eG b)))).2) O O (by subst hr10;rfl) (go3 ?_);refine rtX O (fV O m0 tyT O) ?_;exact (by subst hr10;exact congrArg vS2 (show _=(kS a b) from bE h9 O))
 refine go2 ?_;refine gJv (rg [] 37 14) [(50,.bool (!a.1.good||(!b.1.good||(((dl (val b.1.w)).length:Int)==0))))] (fun K4 J4=>?_) ?_
 ·refine go2 ?_;refine sC (.bool a.1.good) aS (bX a.1 a.2) O O O (go_ ?_);rcases bt a.1.good with h14|h14
  ·refine sB (gS h14) O (go_ ?_);refine sC (.bool b.1.good) aS (bX b.1 b.2) O O O (go2 ?_);rcases bt b.1.good with h15|h15
   ·refine sB (gS h15) O (go_ ?_);refine bL O (fU aS O (fun w hw=>bV b.1 b.2 w) (fun vl16 Ll16 kl16=>?_))
    try simp only [gM,lS] at kl16
    refine sQ (bJ (v':=.int .i64 ((dl (val b.1.w)).length:Int)) (nC kX O (SL.sub kl16.sl lZ)) O) O (go3 ?_);refine J4 _ _ pp_ (sR s0) (bK (mL h14 (mL h15 O)))
   refine sB (gN h15) O (go6 ?_);refine J4 _ _ pp_ s0 (bK (mL h14 (oM h15)))
  refine sB (gN h14) O (vT ?_);refine J4 _ _ pp_ s0 (bK (oM h14))
 intro g17;refine aZ _ O (fun h18=>?_) (fun h18=>?_)
 ·refine go_ ?_;refine sC (AV [pI (E Z.bad)]) aS eD O O O (go3 ?_);refine rtX O (fV O m0 tyT O) ?_;exact congrArg vS2 (show _=(kS a b) from aQ h9 (bE h18 O))
 refine go_ ?_;refine gds sn [0,8,5,13,17,20,24,28,32,36] [] mix (by kernel_rfl) (go2 ?_);refine gA O O (fU aS O (fun w hw=>bV a.1 a.2 w) (fun vl19 Ll19 kl19=>⟨(fun _=>sR s0),sn,?_⟩))
 try simp only [gM,lS] at kl19
 refine gA O O (fU aS O (fun w hw=>bV b.1 b.2 w) (fun vl20 Ll20 kl20=>⟨(fun _=>sR s0),sn,?_⟩))
 try simp only [gM,lS] at kl20
 have hB:=d8_ h18;refine gA O O (CA aS O (fun w hw=>mQ vl19 vl20 (val a.1.w) (val b.1.w) hB (Nat.le_trans (i4 (k:=32) (pW a.2)) dd_) (Nat.le_trans (i4 (k:=32) (pW b.2)) dd_) w (SL.sl (SL.sub kl19.sl (sR lZ)) hw) (SL.sl (SL.sub kl20.sl lZ) hw)) (fun vl21_0 vl21_1 Ll21 kl21_0 kl21_1=>⟨(fun _=>sR s0),sn,?_⟩))
 try simp only [gM,lS] at kl21_0 kl21_1
 refine go7 ?_;refine gJv (rg [] 60 10) [(69,.bool ((a.1.neg != b.1.neg)&&decide (0<((dl ((val a.1.w) % (val b.1.w))).length:Int))))] (fun K6 J6=>?_) ?_
 ·refine go5 ?_;refine sQ (bJ (v':=.bool (a.1.neg != b.1.neg)) (tR AU O O) O) O ?_;refine sBB O (fun h23=>?_) (fun h23=>?_)
  ·refine go_ ?_;refine sQ (bJ (v':=.int .i64 ((dl ((val a.1.w) % (val b.1.w))).length:Int)) (nC kX O (SL.sub kl21_1 lZ)) O) O (go3 ?_);refine J6 _ _ pp_ s0 (bK (cQ h23 O))
  refine go5 ?_;refine J6 _ _ pp_ s0 (bK (iT h23))
 intro g24;refine aZ _ O (fun h25=>?_) (fun h25=>?_)
 ·refine go2 ?_;refine bL O (fU aS O (fun w hw=>bV b.1 b.2 w) (fun vl26 Ll26 kl26=>?_))
  try simp only [gM,lS] at kl26
  refine go_ ?_;refine bL O (fU aS O (fun w hw=>lN vl26 vl21_1 (dl (val b.1.w)) (dl ((val a.1.w) % (val b.1.w))) (kQ _) (kQ _) (Nat.le_trans (i4 (k:=32) (pW b.2)) dd_) (Nat.le_trans (i4 (k:=32) (gR_ (pW a.2))) dd_) (by simp only [gM,lS];exact (Nat.le_of_lt (Nat.mod_lt _ hB))) w (SL.sl (SL.sub kl26.sl lZ) hw) (SL.sl (SL.sub kl21_1 (sR lZ)) hw)) (fun vl27 Ll27 kl27=>?_))
  try simp only [gM,lS] at kl27
  refine go6 ?_;refine sQ (bJ (v':=AV [pI (E (Z.of (sgn b.1.neg ((val b.1.w) - ((val a.1.w) % (val b.1.w))))))]) (dZ aS O (fun w hw=>dY b.1.neg vl27 (dl ((val b.1.w) - ((val a.1.w) % (val b.1.w)))) (kQ _) (Nat.le_trans (i4 (k:=32) (ff_ (pW b.2))) dd_) w (SL.sl (SL.sub kl27.sl lZ) hw))) (by rw [(gM _)];rfl)) O (go3 ?_);refine rtX O (fV O (mA (mA (mA (mA (mA mZ))))) tyT O) ?_;exact congrArg vS2 (show _=(kS a b) from aQ h9 (aQ h18 (bE h25 O)))
 refine go5 ?_;refine sQ (bJ (v':=AV [pI (E (Z.of (sgn b.1.neg ((val a.1.w) % (val b.1.w)))))]) (dZ aS O (fun w hw=>dY b.1.neg vl21_1 (dl ((val a.1.w) % (val b.1.w))) (kQ _) (Nat.le_trans (i4 (k:=32) (gR_ (pW a.2))) dd_) w (SL.sl (SL.sub kl21_1 lZ) hw))) (by rw [(gM _)];rfl)) O (go3 ?_);refine rtX O (fV O (mA (mA (mA mZ))) tyT O) ?_;exact congrArg vS2 (show _=(kS a b) from aQ h9 (aQ h18 (aQ h25 O)))
theorem uN (a b:R) (ha:a.Ok) (hb:b.Ok):Ret prog 68 [RV a,RV b] (RV (Z.rem a.dec b.dec).enc):=by
 have h:=AI ⟨a,ha⟩ ⟨b,hb⟩;rw [y5] at h;exact h
theorem K0 (a:Rt) (b:Rt) :
    Ret prog 91 [AV [pI a.n,pI a.d],AV [pI b.n,pI b.d]] (.int .i64 ((kB a b).1)):=by
 refine cJ (N:=80) func91 O O zz_ (fun w0=>?_);refine giI ?_;refine go2 ?_;intro b1 hb1;refine go_ ?_;intro b2 hb2;refine go3 ?_;refine tC (sk (sk s0)) 6 [] [] (go_ ?_);refine pQ O (bW aS (mX a) O) (go_ ?_);refine pQ O (bW aS (mX b) O) (go5 ?_);refine gJv [15,16,17,18,19,20,21] [(15,.bool (!(dA a)&&(!(dA b))))] (fun K2 J2=>?_) ?_
 ·refine go3 ?_;rcases bt (dA a) with h4|h4
  ·refine sB (gS h4) O (go5 ?_);refine J2 _ _ pp_ s0 (bK (zE h4))
  refine sB (gN h4) O (go5 ?_);refine J2 _ _ pp_ s0 (bK (qR h4 O))
 intro g5;refine aZ _ O (fun h6=>?_) (fun h6=>?_)
 ·refine go4 ?_;refine rt1 ?_;exact congrArg vS8 (show _=(kB a b) from bE h6 O)
 refine go5 ?_;rcases bt (dA a) with h7|h7
 ·refine W_f (gS h7) O (go5 ?_);rcases bt (dA b) with h8|h8
  ·refine W_f (gS h8) O (go8 ?_);refine cH (rg [7,8,9,10] 28 51) (fun g nn M=>∃ (o:W) (x:Rt) (y:Rt) (k:Nat),(g 7 = .int .i64 o.1)∧M=[⟨b2,29,bH [pI y.n,pI y.d]⟩,⟨b1,29,bH [pI x.n,pI x.d]⟩]∧nn=k∧(cf k o x.n x.d y.n y.d=cf (cfN a.d) (wl 1) a.n a.d b.n b.d∧cfP k x.d)) (cfN a.d) ?start ?round
   case start =>
    refine ⟨_,s0,(wl 1),a,b,(cfN a.d),?a7,rfl,rfl,⟨rfl,YJ h7⟩⟩
    case a7=>rfl
   case round =>
    rintro nn g M ⟨o,x,y,k,hg7,rfl,hmeas,hinv⟩;subst nn;refine gS1 hg7 ?_;clear hg7;obtain ⟨m,rfl⟩:=QC hinv.2;refine go2 ?_;refine tC (sk (sk s0)) 12 [] [] (go4 ?_);refine pC (AV [pI (E (Z.quo x.n.dec x.d.dec))]) aS (kI x.n.1 x.d.1 x.n.2 x.d.2) O O O (go4 ?_);refine pC (AV [pI (E (Z.quo y.n.dec y.d.dec))]) aS (kI y.n.1 y.d.1 y.n.2 y.d.2) O O O (pC (.int .i64 ((Z.cmpW (Z.quo x.n.dec x.d.dec) (Z.quo y.n.dec y.d.dec)).1)) aS (LJ (E (Z.quo x.n.dec x.d.dec)).1 (E (Z.quo y.n.dec y.d.dec)).1 (E (Z.quo x.n.dec x.d.dec)).2 (E (Z.quo y.n.dec y.d.dec)).2) O O (cg2 (fun p q=>Value.int .i64 (Z.cmpW p q).1) (cP _) (cP _)) (go6 ?_));refine aZ _ O (fun h9=>?_) (fun h9=>?_)
    ·refine go3 ?_;refine sV (.int .i64 ((W.mul o (Z.cmpW (Z.quo x.n.dec x.d.dec) (Z.quo y.n.dec y.d.dec))).1)) O O (go8 ?_);refine rt1 ?_;exact congrArg vS8 (show _=(kB a b) from aQ h6 (bE h7 (bE h8 (gK_ hinv.1 h9))))
    refine go_ ?_;refine gDs sn (.quiet 0 [1,7,16,17] (.quiet 1 [7,16,17] (.quiet 2 [3,6,7,14,15,16,17] (.quiet 3 [6,7,14,15,16,17] (.quiet 4 [5,6,7,14,15,16,17] (.quiet 5 [6,7,14,15,16,17] (.quiet 6 [7,14,15,16,17] (.quiet 7 [16,17] (.quiet 10 [11,14,15,16,17] (.quiet 11 [14,15,16,17] (.quiet 12 [13,14,15,16,17] (.quiet 13 [14,15,16,17] (.quiet 14 [15,16,17] (.still 8 [9,15,17] (.both 9 (.still 15 [17] (.only 16 (.only 17 (.fin)))) 16 (.quiet 9 [15,17] (.quiet 15 [17] (.only 17 (.fin))))))))))))))))))) [0,1,2,3,4,5,6,7,8,9,10,11,12,13,14,15] mix (by kernel_rfl) (by kernel_rfl) (go6 ?_);refine pC (AV [pI (E (Z.rem x.n.dec x.d.dec))]) aS (CS x.n.1 x.d.1 x.n.2 x.d.2) O O O (pQ O (oZ zpT plT O (.cons [pI x.d] [pI x.d,pI I0] O O O O (.cons [pI (E (Z.rem x.n.dec x.d.dec))] [pI x.d,pI (E (Z.rem x.n.dec x.d.dec))] O O O O (.nil _)))) (go4 ?_));refine pC (AV [pI (E (Z.rem y.n.dec y.d.dec))]) aS (CS y.n.1 y.d.1 y.n.2 y.d.2) O O O (HW O O (hp_ (off':=18) (cW fdT dd_ O) O) ?_);refine KW ?_ ?_
    ·refine gA O O (HV (WC tyT O m0 O) ⟨fun _=>s0,sn,HW O O (oZ zpT plT O (.cons [pI y.d] [pI y.d,pI I0] O O O O (.cons [pI (E (Z.rem y.n.dec y.d.dec))] [pI y.d,pI (E (Z.rem y.n.dec y.d.dec))] O O O O (.nil _)))) (go3 ?_)⟩);refine tC (sk (sk s0)) 8 [] [] (go2 ?_);refine pC (.int .i64 ((Z.signW (Z.rem x.n.dec x.d.dec)).1)) aS (iM (E (Z.rem x.n.dec x.d.dec)).1 (E (Z.rem x.n.dec x.d.dec)).2) O O (cg1 (fun p=>Value.int .i64 (Z.signW p).1) (cP _)) (go2 ?_);refine pC (.int .i64 ((Z.signW (Z.rem y.n.dec y.d.dec)).1)) aS (iM (E (Z.rem y.n.dec y.d.dec)).1 (E (Z.rem y.n.dec y.d.dec)).2) O O (cg1 (fun p=>Value.int .i64 (Z.signW p).1) (cP _)) (go4 ?_);refine gJv [66,67,68,69,70,71] [(71,.bool (((Z.signW (Z.rem x.n.dec x.d.dec)).1==0)||((Z.signW (Z.rem y.n.dec y.d.dec)).1==0)))] (fun K7 J7=>?_) ?_
     ·refine go3 ?_;refine sBB O (fun h11=>?_) (fun h11=>?_)
      ·refine go4 ?_;refine J7 _ _ pp_ s0 (bK (mW h11))
      refine go4 ?_;refine J7 _ _ pp_ s0 (bK (lF h11 O))
     intro g12;refine aZ _ O (fun h13=>?_) (fun h13=>?_)
     ·refine go4 ?_;refine sV (.int .i64 ((W.sub (Z.signW (Z.rem x.n.dec x.d.dec)) (Z.signW (Z.rem y.n.dec y.d.dec))).1)) O O (sV (.int .i64 ((W.mul o (W.sub (Z.signW (Z.rem x.n.dec x.d.dec)) (Z.signW (Z.rem y.n.dec y.d.dec)))).1)) O O (go8 ?_));refine rt1 ?_;exact congrArg vS8 (show _=(kB a b) from aQ h6 (bE h7 (bE h8 (e7_ hinv.1 h9 h13))))
     refine go3 ?_;refine sV (.int .i64 ((W.neg o).1)) O O (go2 ?_);refine ⟨pp_,_,_,s0,(Nat.lt_succ_self m),(W.neg o),(⟨x.d,(E (Z.rem x.n.dec x.d.dec))⟩:Rt),(⟨y.d,(E (Z.rem y.n.dec y.d.dec))⟩:Rt),m,?s7,rfl,rfl,e6_ hinv h9 h13⟩
     case s7=>rfl
    refine go2 ?_;refine pQ O (oZ zpT plT O (.cons [pI y.d] [pI y.d,pI I0] O O O O (.cons [pI (E (Z.rem y.n.dec y.d.dec))] [pI y.d,pI (E (Z.rem y.n.dec y.d.dec))] O O O O (.nil _)))) (go2 ?_);refine tC (sk (sk s0)) 8 [] [] (go2 ?_);refine pC (.int .i64 ((Z.signW (Z.rem x.n.dec x.d.dec)).1)) aS (iM (E (Z.rem x.n.dec x.d.dec)).1 (E (Z.rem x.n.dec x.d.dec)).2) O O (cg1 (fun p=>Value.int .i64 (Z.signW p).1) (cP _)) (go2 ?_);refine pC (.int .i64 ((Z.signW (Z.rem y.n.dec y.d.dec)).1)) aS (iM (E (Z.rem y.n.dec y.d.dec)).1 (E (Z.rem y.n.dec y.d.dec)).2) O O (cg1 (fun p=>Value.int .i64 (Z.signW p).1) (cP _)) (go4 ?_);refine gJv [66,67,68,69,70,71] [(71,.bool (((Z.signW (Z.rem x.n.dec x.d.dec)).1==0)||((Z.signW (Z.rem y.n.dec y.d.dec)).1==0)))] (fun K9 J9=>?_) ?_
    ·refine go3 ?_;refine sBB O (fun h15=>?_) (fun h15=>?_)
     ·refine go4 ?_;refine J9 _ _ pp_ s0 (bK (mW h15))
     refine go4 ?_;refine J9 _ _ pp_ s0 (bK (lF h15 O))
    intro g16;refine aZ _ O (fun h17=>?_) (fun h17=>?_)
    ·refine go4 ?_;refine sV (.int .i64 ((W.sub (Z.signW (Z.rem x.n.dec x.d.dec)) (Z.signW (Z.rem y.n.dec y.d.dec))).1)) O O (sV (.int .i64 ((W.mul o (W.sub (Z.signW (Z.rem x.n.dec x.d.dec)) (Z.signW (Z.rem y.n.dec y.d.dec)))).1)) O O (go8 ?_));refine rt1 ?_;exact congrArg vS8 (show _=(kB a b) from aQ h6 (bE h7 (bE h8 (e7_ hinv.1 h9 h17))))
    refine go3 ?_;refine sV (.int .i64 ((W.neg o).1)) O O (go2 ?_);refine ⟨pp_,_,_,s0,(Nat.lt_succ_self m),(W.neg o),(⟨x.d,(E (Z.rem x.n.dec x.d.dec))⟩:Rt),(⟨y.d,(E (Z.rem y.n.dec y.d.dec))⟩:Rt),m,?s7,rfl,rfl,e6_ hinv h9 h17⟩
    case s7=>rfl
  refine W_t (gN h8) O (go4 ?_);refine rt1 ?_;exact congrArg vS8 (show _=(kB a b) from aQ h6 (bE h7 (aQ h8 O)))
 refine W_t (gN h7) O (go4 ?_);refine rt1 ?_;exact congrArg vS8 (show _=(kB a b) from aQ h6 (aQ h7 O))
theorem AN (a:Rt) (b:Rt) :
    Ret prog 28 [AV [pI a.n,pI a.d],AV [pI b.n,pI b.d]] (.int .i64 ((jF a b).1)):=by
 refine cJ (N:=95) func28 O O zz_ (fun w0=>?_);refine giI ?_;refine go2 ?_;intro b1 hb1;refine go_ ?_;intro b2 hb2;refine go4 ?_;refine sQ (bW aS (i9 a) O) O (go4 ?_);refine sQ (bW aS (i9 b) O) O (go3 ?_);refine gJv [17,18,19,20,21,22] [(22,.bool (!(bB a)||(!(bB b))))] (fun K2 J2=>?_) ?_
 ·refine go3 ?_;rcases bt (bB a) with h4|h4
  ·refine sB (gS h4) O (go4 ?_);refine J2 _ _ pp_ s0 (bK (mL h4 O))
  refine sB (gN h4) O (go4 ?_);refine J2 _ _ pp_ s0 (bK (oM h4))
 intro g5;refine aZ _ O (fun h6=>?_) (fun h6=>?_)
 ·refine tC (sk (sk s0)) 8 [] [] (go2 ?_);refine pQ O (bW aS (tZ a (bB a)) O) (go2 ?_);refine pQ O (bW aS (tZ b (bB b)) O) ?_;obtain ⟨r7,hr7⟩:=nm ((Z.cmpW (fX a (bB a)).dec (fX b (bB b)).dec):W);refine pC (.int .i64 r7.1) aS (uK (fX a (bB a)).1 (fX b (bB b)).1 (fX a (bB a)).2 (fX b (bB b)).2) O O (by rw [hr7];first|done|rfl) (go3 ?_);refine rt1 ?_;exact (by subst hr7;exact congrArg vS8 (show _=(jF a b) from bE h6 O))
 refine vT ?_;intro b8 hb8;refine go9 ?_;intro b9 hb9;refine go3 ?_;refine cH (rg [4,7,10,11,12] 40 55) (fun g nn M=>∃ (o:W) (x:(A2 I)) (y:(A2 I)) (k:Nat),(g 7 = .int .i64 o.1)∧M=[⟨b9,112,bH [pI y.x,pI y.y]⟩,⟨b8,112,bH [pI x.x,pI x.y]⟩,⟨b2,29,bH [pI b.n,pI b.d]⟩,⟨b1,29,bH [pI a.n,pI a.d]⟩]∧nn=k∧(cf k o x.x x.y y.x y.y=cf (cfN a.d) (wl 1) a.n a.d b.n b.d∧cfP k x.y)) (cfN a.d) ?start ?round
 case start =>
  refine ⟨_,s0,(wl 1),(⟨a.n,a.d⟩:(A2 I)),(⟨b.n,b.d⟩:(A2 I)),(cfN a.d),?a7,rfl,rfl,⟨rfl,YK (dn_ h6)⟩⟩
  case a7=>rfl
 case round =>
  rintro nn g M ⟨o,x,y,k,hg7,rfl,hmeas,hinv⟩;subst nn;refine gS1 hg7 ?_;clear hg7;obtain ⟨m,rfl⟩:=QC hinv.2;refine go6 ?_;refine sC (AV [pI (E (Z.quo x.x.dec x.y.dec))]) aS (gU x.x.1 x.y.1 x.x.2 x.y.2) O O O (go_ ?_);intro b10 hb10;refine go7 ?_;refine sC (AV [pI (E (Z.quo y.x.dec y.y.dec))]) aS (gU y.x.1 y.y.1 y.x.2 y.y.2) O O O (go_ ?_);intro b11 hb11;refine go5 ?_;refine sC (.int .i64 ((Z.cmpW (Z.quo x.x.dec x.y.dec) (Z.quo y.x.dec y.y.dec)).1)) aS (uK (E (Z.quo x.x.dec x.y.dec)).1 (E (Z.quo y.x.dec y.y.dec)).1 (E (Z.quo x.x.dec x.y.dec)).2 (E (Z.quo y.x.dec y.y.dec)).2) O O (cg2 (fun p q=>Value.int .i64 (Z.cmpW p q).1) (cP _) (cP _)) (go7 ?_);refine aZ _ O (fun h12=>?_) (fun h12=>?_)
  ·refine go3 ?_;refine sV (.int .i64 ((W.mul o (Z.cmpW (Z.quo x.x.dec x.y.dec) (Z.quo y.x.dec y.y.dec))).1)) O O (go3 ?_);refine rt1 ?_;exact congrArg vS8 (show _=(jF a b) from aQ h6 (gK_ hinv.1 h12))
  refine go_ ?_;refine gds (sk (sk (sk (sd (sk (sk s0)))))) [0,4,8,12,16,20,24,28,33] [8] mix (by kernel_rfl) (go6 ?_);refine pC (AV [pI (E (Z.rem x.x.dec x.y.dec))]) aS (uN x.x.1 x.y.1 x.x.2 x.y.2) O O O (pQ O (FS zpT arT O (.cons [pI x.y] [pI x.y,pI I0] O O O O (.cons [pI (E (Z.rem x.x.dec x.y.dec))] [pI x.y,pI (E (Z.rem x.x.dec x.y.dec))] O O O O (.nil _)))) (go2 ?_));refine gds (sk (sk (sd (sk (sk (sk s0)))))) [0,4,8,12,16,20,24,28,33] [8] mix (by kernel_rfl) (go6 ?_);refine pC (AV [pI (E (Z.rem y.x.dec y.y.dec))]) aS (uN y.x.1 y.y.1 y.x.2 y.y.2) O O O (pQ O (FS zpT arT O (.cons [pI y.y] [pI y.y,pI I0] O O O O (.cons [pI (E (Z.rem y.x.dec y.y.dec))] [pI y.y,pI (E (Z.rem y.x.dec y.y.dec))] O O O O (.nil _)))) (go3 ?_));refine gJv (rg [] 74 10) [(83,.bool (((Z.signW (Z.rem x.x.dec x.y.dec)).1==0)||((Z.signW (Z.rem y.x.dec y.y.dec)).1==0)))] (fun K5 J5=>?_) ?_
  ·refine go3 ?_;refine sC (.int .i64 ((Z.signW (Z.rem x.x.dec x.y.dec)).1)) aS (eV (E (Z.rem x.x.dec x.y.dec)).1 (E (Z.rem x.x.dec x.y.dec)).2) O O (cg1 (fun p=>Value.int .i64 (Z.signW p).1) (cP _)) (go_ ?_);refine sBB O (fun h14=>?_) (fun h14=>?_)
   ·refine go6 ?_;refine J5 _ _ pp_ s0 (bK (mW h14))
   refine go2 ?_;refine sC (.int .i64 ((Z.signW (Z.rem y.x.dec y.y.dec)).1)) aS (eV (E (Z.rem y.x.dec y.y.dec)).1 (E (Z.rem y.x.dec y.y.dec)).2) O O (cg1 (fun p=>Value.int .i64 (Z.signW p).1) (cP _)) (go3 ?_);refine J5 _ _ pp_ s0 (bK (lF h14 O))
  intro g15;refine aZ _ O (fun h16=>?_) (fun h16=>?_)
  ·refine gds (sk (sk (sk (sk (sk (sk s0)))))) [0,4,8,12,16,20,24,28,32,36] [] mix (by kernel_rfl) (go3 ?_);refine pC (.int .i64 ((Z.signW (Z.rem x.x.dec x.y.dec)).1)) aS (eV (E (Z.rem x.x.dec x.y.dec)).1 (E (Z.rem x.x.dec x.y.dec)).2) O O (cg1 (fun p=>Value.int .i64 (Z.signW p).1) (cP _)) (go2 ?_);refine pC (.int .i64 ((Z.signW (Z.rem y.x.dec y.y.dec)).1)) aS (eV (E (Z.rem y.x.dec y.y.dec)).1 (E (Z.rem y.x.dec y.y.dec)).2) O O (cg1 (fun p=>Value.int .i64 (Z.signW p).1) (cP _)) (pV (.int .i64 ((W.sub (Z.signW (Z.rem x.x.dec x.y.dec)) (Z.signW (Z.rem y.x.dec y.y.dec))).1)) O O (pV (.int .i64 ((W.mul o (W.sub (Z.signW (Z.rem x.x.dec x.y.dec)) (Z.signW (Z.rem y.x.dec y.y.dec)))).1)) O O (go3 ?_)));refine rt1 ?_;exact congrArg vS8 (show _=(jF a b) from aQ h6 (e7_ hinv.1 h12 h16))
  refine go3 ?_;refine sV (.int .i64 ((W.neg o).1)) O O (go2 ?_);refine ⟨pp_,_,_,(sd (sd s0)),(Nat.lt_succ_self m),(W.neg o),(⟨x.y,(E (Z.rem x.x.dec x.y.dec))⟩:(A2 I)),(⟨y.y,(E (Z.rem y.x.dec y.y.dec))⟩:(A2 I)),m,?s7,rfl,rfl,e6_ hinv h12 h16⟩
  case s7=>rfl
theorem JL (a:W) (b:W) :
  Ret prog 107 [.int .i64 a.1,.int .i64 b.1] (AV [pI ((qX a b).n),pI ((qX a b).d)]):=by
 refine cJ (N:=10) func107 O O zz_ (fun w0=>?_);refine giI ?_;refine go2 ?_;intro b1 hb1;refine go3 ?_;refine sC (AV [pI (E (Z.of a.1))]) aS (iE a.1 a.2) O O O (go_ ?_);refine sC (AV [pI (E (Z.of b.1))]) aS (iE b.1 b.2) O O O ?_;obtain ⟨r2,hr2⟩:=nm ((dF (E (Z.of a.1)) (E (Z.of b.1))):Rt);refine sC (AV [pI r2.n,pI r2.d]) aS (qS (E (Z.of a.1)) (E (Z.of b.1))) O O (by rw [hr2]) (go3 ?_);refine rtX O (fV O m0 tyT O) ?_;exact (by subst hr2;rfl)
theorem u5 (a:I) :
  Ret prog 150 [AV [pI a]] (AV [pI (gI a)]):=by
 refine cJ (N:=4) func150 O O zz_ (fun w0=>?_);refine giI ?_;refine go2 ?_;intro b1 hb1;refine go_ ?_;intro b2 hb2;refine go6 ?_;refine rtX O (fV O m0 tyT O) ?_;exact (by rfl)
theorem xS (a:I) :
    Ret prog 90 [AV [pI a]] (.bool (oI a)):=by
 refine cJ (N:=10) func90 O O zz_ (fun w0=>?_);refine giI ?_;refine go2 ?_;intro b1 hb1;refine go2 ?_;refine gJv (rg [] 2 8) [(2,.bool (!a.1.bad&&a.1.valid))] (fun K1 J1=>?_) ?_
 ·refine go4 ?_;rcases bt a.1.bad with h3|h3
  ·refine sB (gS h3) O (go5 ?_);refine J1 _ _ pp_ s0 (bK (zE h3))
  refine sB (gN h3) O (go_ ?_);refine sC (.bool a.1.valid) aS (vO a.1 a.2) O O O (go3 ?_);refine J1 _ _ pp_ s0 (bK (qR h3 O))
 intro g4;refine go_ ?_;refine rt1 ?_;exact (by rfl)
theorem lG  (w:World)  :
  Calls prog 108 [].toArray w (fun e w'=>∃ v,e = .returned (v)∧Ext w w'∧Slo w.heap.size w' 27 elI v F_poly_bad):=by
 refine fA (n:=3) (fun v=>v) func108 O O zz_ ?_;obtain ⟨w0,rfl⟩:=nm w;refine giI ?_;obtain ⟨q0,hq0⟩:=nm ((E Z.bad):I);refine go4 ?_;refine sC (AV [pI q0]) aS jL O O (by subst hq0;rfl) (bL O (fL [[pI q0]] [pI q0] z9 lO nW O dd_ O O ⟨rfl,rfl,rfl,trivial⟩ O (fun b1 hb1=>go3 ?_)));refine rt1 ?_
 have hE:([q0]:(List I))=F_poly_bad:=by obtain rfl:=hq0.symm;exact rfl
 rw [← hE];exact ⟨_,rfl,⟨_,(sk sn),OwnG.lit (e:=elI) (l:=[q0]) (qs:=[pI q0]) hb1 O (Nat.le_of_ble_eq_true O) O⟩⟩
theorem tP (n:Int) (vf:Value) (f:Nat→I) (vo:Value) (o:I→I) (w:World) (hf:FnV prog w vf eN (fun k=>(k:Int)<n) (dp_ f)) (ho:FnV prog w vo eI (fun _=>True) (dp_ o)) (hpre:n≤200) :
    Calls prog 148 [.int .i64 n,vf,vo].toArray w (fun e w'=>∃ v,e = .returned (v)∧Ext w w'∧Slo w.heap.size w' 27 elI v (hZ n f o)):=by
 obtain ⟨g_f,c_f,rfl,Hf⟩:=hf.open;obtain ⟨g_o,c_o,rfl,Ho⟩:=ho.open;refine fA (n:=55) (fun v=>v) func148 O O zz_ ?_;obtain ⟨w0,rfl⟩:=nm w;refine giI ?_;refine go5 ?_;refine sQ (bJ (v':=.int .i64 (n.toNat:Int)) (JH O O) (congrArg (Value.int .i64) oo_)) O (bL O (O0 (E:=27) (e:=elI) (n:=0) (c:=(n).toNat) 68 I0 z9 (by kernel_rfl) dd_ (by kernel_rfl) O O oo_ oo_ oo_ oo_ dd_ dd_ (fun p1 L2 hO3=>go5 ?_)));refine sQ (bJ (v':=.int .i64 (n.toNat:Int)) (JH O O) (congrArg (Value.int .i64) oo_)) O (go2 ?_);refine gJ3 (rg [6,7,8,9] 15 17) (fun g M=>∃ (out:List I) (i:Nat) (p_out:Option Addr) (c_out:Nat) (L_out:List Blk),(lI n f o (n.toNat+1) ([]:List I) 0) = .inl (out,i)∧(g 7 = .slice p_out out.length c_out∧g 15 = .int .i64 (i:Int)∧OwnG w0 27 elI (.slice p_out out.length c_out) out L_out)∧M=(L_out++[])) (fun K_u4 hK_u4=>?_) ?_
 ·refine go_ ?_;refine cH (rg [6,7,8,9] 15 17) (fun g nn M=>∃ (out:List I) (i:Nat) (p_out:Option Addr) (c_out:Nat) (L_out:List Blk),(lI n f o nn out i)=(lI n f o (n.toNat+1) ([]:List I) 0)∧n.toNat - i<nn∧(i≤n.toNat∧out.length=i)∧(g 7 = .slice p_out out.length c_out∧g 15 = .int .i64 (i:Int)∧OwnG w0 27 elI (.slice p_out out.length c_out) out L_out)∧M=(L_out++[])) (n.toNat+1) ?start ?round
  case start=>exact ⟨_,s0,([]:List I),0,p1,(n.toNat),L2,rfl,o1_,⟨by omega,rfl⟩,⟨rfl,rfl,hO3⟩,rfl⟩
  case round =>
   rintro nn g M ⟨out,i,p_out,c_out,L_out,hT0,hq0,hinv0,⟨hg7,hg15,hO_out⟩,rfl⟩;obtain ⟨k0,rfl⟩:∃ m,nn=m+1:=⟨nn - 1,by omega⟩;refine gS2 hg7 hg15 ?_;clear hg7 hg15;have hm_out:=OwnG.max hO_out;refine go4 ?_;refine aZ _ O (fun h29=>?_) (fun h29=>?_)
   ·have ph29:=of_decide_eq_true h29;refine vT ?_;refine sQ (bJ (v':=AV [pI (f i)]) (bt_ (x:=i) O O (FnE.sub Hf sn) (by show (i:Int)<n;omega)) O) O (sQ (bJ (v':=AV [pI (o (f i))]) (bt_ (x:=(f i)) O O (FnE.sub Ho sn) trivial) O) O (go_ ?_));intro b30 hb30;refine go5 ?_;refine sQ (bW aS (xS (o (f i))) O) O (go2 ?_);rcases bt (oI (o (f i))) with h31|h31
    ·refine W_f (gS h31) O (go4 ?_);refine bL O (fL [[pI (o (f i))]] [pI (o (f i))] z9 lO nW O dd_ O O ⟨rfl,rfl,rfl,trivial⟩ O (fun b32 hb32=>bL O (l8 (e:=elI) (l:=out) (m:=[(o (f i))]) 68 z9 (by kernel_rfl) dd_ O O hO_out (SLe.lit (e:=elI) (l:=[(o (f i))]) m0 O (Nat.le_of_ble_eq_true O) O) (cS (cS o3)) (by show (out.length+1)*68≤_;omega) dd_ (fun p33 c34 L35 hO36=>go3 ?_))));refine sWi (((i+1):Nat):Int) O (go2 ?_);refine ⟨pp_,_,_,(sA (sd (sd s0))),(Nat.lt_succ_self _),(out++[(o (f i))]),(i+1),p33,c34,L35,(by exact (hT0.symm.trans (Eq.symm (bE h29 (bE h31 O)))).symm),(Nat.lt_of_lt_of_le o1_ (Nat.le_of_lt_succ hq0)),⟨by omega,(by rw [List.length_append];show _+1=_;omega)⟩,⟨rfl,rfl,hO36⟩,rfl⟩
    refine W_t (gN h31) O (go_ ?_);refine bL O (cO (E:=27) (e:=elI) (l:=F_poly_bad) (fun v=>v) aS O (fun w hw=>lG  w) (fun p37 c38 L39 hF40=>go3 ?_));refine rt1 ?_
    have hE:(F_poly_bad:(List I))=(hZ n f o):=by exact (rH O (hT0.symm.trans (Eq.symm (bE h29 (aQ h31 O)))))
    rw [← hE];exact ⟨_,rfl,⟨L39,lZ,hF40⟩⟩
   have ph29:=of_decide_eq_false h29;refine go_ ?_;refine hK_u4 _ _ pp_ ⟨_,s0,out,i,p_out,c_out,L_out,(by exact hT0.symm.trans (Eq.symm (aQ h29 O))),⟨rfl,rfl,hO_out⟩,rfl⟩
 rintro g M ⟨out,i,p_out,c_out,L_out,hCu4,⟨hg7,hg15,hO_out⟩,rfl⟩;refine gS2 hg7 hg15 ?_;clear hg7 hg15;have hm_out:=OwnG.max hO_out;refine sF (rg [7] 32 18) (fun g M=>∃ (cut:List I) (p_cut:Option Addr) (c_cut:Nat) (L_cut:List Blk),(lJ n f o out i (out.length+1) out)=cut∧(g 7 = .slice p_cut cut.length c_cut∧OwnG w0 27 elI (.slice p_cut cut.length c_cut) cut L_cut)∧M=(L_cut++[])) (fun K_u41 hK_u41=>?_) ?_
 ·refine go_ ?_;refine cH (rg [7] 32 18) (fun g nn M=>∃ (cut:List I) (p_cut:Option Addr) (c_cut:Nat) (L_cut:List Blk),(lJ n f o out i nn cut)=(lJ n f o out i (out.length+1) out)∧cut.length<nn∧(True)∧(g 7 = .slice p_cut cut.length c_cut∧OwnG w0 27 elI (.slice p_cut cut.length c_cut) cut L_cut)∧M=(L_cut++[])) (out.length+1) ?start ?round
  case start=>exact ⟨_,s0,out,p_out,c_out,L_out,rfl,(Nat.lt_succ_self _),trivial,⟨rfl,hO_out⟩,rfl⟩
  case round =>
   rintro nn g M ⟨cut,p_cut,c_cut,L_cut,hT1,hq1,hinv1,⟨hg7,hO_cut⟩,rfl⟩;obtain ⟨k1,rfl⟩:∃ m,nn=m+1:=⟨nn - 1,by omega⟩;refine gS1 hg7 ?_;clear hg7;have hm_cut:=OwnG.max hO_cut;refine go_ ?_;refine gJv (rg [] 32 13) [(44,.bool (decide (0<(cut.length:Int))&&((Z.signW (cut.getD (cut.length - 1) I0).dec).1==0)))] (fun K14 J14=>?_) ?_
   ·refine go2 ?_;refine sQ (dK dW O (rO hO_cut lZ)) O (go_ ?_);refine sBB O (fun h48=>?_) (fun h48=>?_)
    ·have ph48:=of_decide_eq_true h48;refine go2 ?_;refine sQ (dK dW O (rO hO_cut lZ)) O (sWi ((cut.length:Int) - 1) O (sQ (bJ (v':=.pointer (some (slb (.slice p_cut cut.length c_cut) ((cut.length - 1)*18+0)))) (lL (e:=elI) (l:=cut) (k:=(cut.length - 1)) dW O O oo_ (rO hO_cut lZ) o2_) O) O ?_));refine sQ (jK (e:=elI) (l:=cut) (k:=(cut.length - 1)) (o:=0) tyT O (rO hO_cut lZ) (cZ I0 o2_) O) O ?_;refine sC (.int .i64 ((Z.signW (cut.getD (cut.length - 1) I0).dec).1)) aS (iM (cut.getD (cut.length - 1) I0).1 (cut.getD (cut.length - 1) I0).2) O O O (go3 ?_);refine J14 _ _ pp_ s0 (bK (cQ h48 O))
    have ph48:=of_decide_eq_false h48;refine pU ?_;refine J14 _ _ pp_ s0 (bK (iT h48))
   intro g49;refine aZ _ O (fun h50=>?_) (fun h50=>?_)
   ·have ph51:=of_decide_eq_true (Bool.and_eq_true_iff.1 h50).1;refine go5 ?_;refine sQ (dK dW O (rO hO_cut lZ)) O (sWi ((cut.length:Int) - 1) O (sQ (dt_ (e:=elI) (l:=cut) (k:=(cut.length - 1)) dW O O oo_ hO_cut oo_) O (go2 ?_)));refine ⟨pp_,_,_,s0,(Nat.lt_succ_self _),(cut.take (cut.length - 1)),p_cut,c_cut,L_cut,(by exact (hT1.symm.trans (Eq.symm (bE h50 O))).symm),(Nat.lt_of_lt_of_le (by rw [List.length_take];omega) (Nat.le_of_lt_succ hq1)),trivial,⟨rfl,(OwnG.take hO_cut oo_)⟩,rfl⟩
   refine go_ ?_;refine hK_u41 _ _ pp_ ⟨_,s0,cut,p_cut,c_cut,L_cut,(by exact hT1.symm.trans (Eq.symm (aQ h50 O))),⟨rfl,hO_cut⟩,rfl⟩
 rintro g M ⟨cut,p_cut,c_cut,L_cut,hCu41,⟨hg7,hO_cut⟩,rfl⟩;refine gS1 hg7 ?_;clear hg7;have hm_cut:=OwnG.max hO_cut;refine go3 ?_;refine sQ (dK dW O (rO hO_cut lZ)) O (go2 ?_);refine aZ _ O (fun h52=>?_) (fun h52=>?_)
 ·have ph52:=of_decide_eq_true h52;refine go_ ?_;refine bL O (cO (E:=27) (e:=elI) (l:=F_poly_bad) (fun v=>v) aS O (fun w hw=>lG  w) (fun p53 c54 L55 hF56=>go3 ?_));refine rt1 ?_
  have hE:(F_poly_bad:(List I))=(hZ n f o):=by exact trs (Eq.symm (smS hCu4)) (trs (Eq.symm (apS hCu41)) (bE h52 O))
  rw [← hE];exact ⟨_,rfl,⟨L55,lZ,hF56⟩⟩
 have ph52:=of_decide_eq_false h52;refine go6 ?_;refine rt1 ?_
 have hE:(cut:(List I))=(hZ n f o):=by exact trs (Eq.symm (smS hCu4)) (trs (Eq.symm (apS hCu41)) (aQ h52 O))
 rw [← hE];exact ⟨_,rfl,⟨L_cut,lZ,hO_cut⟩⟩
theorem KY (vl:Value) (l:(List I)) (vf:Value) (f:I→Bool) (w:World) (hl:Slr w elI vl l) (hf:FnV prog w vf eI (fun _=>True) (do_ f)) :
    Calls prog 139 [vl,vf].toArray w (fun e w'=>e = .returned (.int .i64 ((sH l f).1))∧Ext w w'):=by
 obtain ⟨p_l,c_l,rfl⟩:=hl.form;obtain ⟨g_f,c_f,rfl,Hf⟩:=hf.open;refine cU (N:=19) func139 O O zz_ ?_;obtain ⟨w0,rfl⟩:=nm w;have Hl:=hl.old;have hm_l:=hl.max;refine giI ?_;refine go6 ?_;refine sQ (dK dW O (SLe.sub Hl sn)) O (go2 ?_);refine gJ3 (rg [4,5] 8 11) (fun g M=>∃ (i:Nat),(kV l f (l.length+1) 0) = .inl i∧(g 8 = .int .i64 (i:Int))∧M=[]) (fun K_u1 hK_u1=>?_) ?_
 ·refine go_ ?_;refine cH (rg [4,5] 8 11) (fun g nn M=>∃ (i:Nat),(kV l f nn i)=(kV l f (l.length+1) 0)∧l.length - i<nn∧(i≤l.length)∧(g 8 = .int .i64 (i:Int))∧M=[]) (l.length+1) ?start ?round
  case start=>exact ⟨_,s0,0,rfl,o1_,o1_,rfl,rfl⟩
  case round =>
   rintro nn g M ⟨i,hT0,hq0,hinv0,hg8,rfl⟩;obtain ⟨k0,rfl⟩:∃ m,nn=m+1:=⟨nn - 1,by omega⟩;refine gS1 hg8 ?_;clear hg8;refine go4 ?_;refine aZ _ O (fun h6=>?_) (fun h6=>?_)
   ·have ph6:=of_decide_eq_true h6;refine vT ?_;refine sQ (bJ (v':=.pointer (some (slb (.slice p_l l.length c_l) (i*18+0)))) (j7 (e:=elI) (l:=l) (k:=i) dW O O (SLe.sub Hl sn) o2_) O) O ?_;refine sQ (jK (e:=elI) (l:=l) (k:=i) (o:=0) tyT O (SLe.sub Hl sn) (cZ I0 o2_) O) O ?_;refine sQ (bJ (v':=.bool (f (l.getD i I0))) (bt_ (x:=(l.getD i I0)) O O (FnE.sub Hf sn) trivial) O) O (go_ ?_);refine aZ _ O (fun h7=>?_) (fun h7=>?_)
    ·refine go5 ?_;refine rt1 ?_;refine (show (.int .i64 (i:Int):Value) = .int .i64 ((W.cv (i:Int)).1) by simp only [cvE (t:=(i:Int)) oo_]).trans ?_;exact congrArg vS8 (show _=(sH l f) from (rH O (hT0.symm.trans (Eq.symm (bE h6 (bE h7 O))))))
    refine go2 ?_;refine sWi (((i+1):Nat):Int) O (go2 ?_);refine ⟨pp_,_,_,s0,(Nat.lt_succ_self _),(i+1),(by exact (hT0.symm.trans (Eq.symm (bE h6 (aQ h7 O)))).symm),(Nat.lt_of_lt_of_le o1_ (Nat.le_of_lt_succ hq0)),o1_,rfl,rfl⟩
   have ph6:=of_decide_eq_false h6;refine go_ ?_;refine hK_u1 _ _ pp_ ⟨_,s0,i,(by exact hT0.symm.trans (Eq.symm (aQ h6 O))),rfl,rfl⟩
 rintro g M ⟨i,hCu1,hg8,rfl⟩;refine gS1 hg8 ?_;clear hg8;refine go4 ?_;refine rt1 ?_;exact congrArg vS8 (show _=(sH l f) from trs (Eq.symm (smS hCu1)) O)
theorem FB (vl:Value) (l:(List I)) (vf:Value) (f:I→Bool) (w:World) (hl:Slr w elI vl l) (hf:FnV prog w vf eI (fun _=>True) (do_ f)) :
  Calls prog 88 [vl,vf].toArray w (fun e w'=>e = .returned (.bool (qK l f))∧Ext w w'):=by
 obtain ⟨p_l,c_l,rfl⟩:=hl.form;obtain ⟨g_f,c_f,rfl,Hf⟩:=hf.open;refine cU (N:=9) func88 O O zz_ ?_;obtain ⟨w0,rfl⟩:=nm w;have Hl:=hl.old;have hm_l:=hl.max;refine giI ?_;refine go6 ?_;refine sFc (.int .i64 ((sH l f).1)) O (fun w hw=>KY _ l _ f w (aR hw Hl sn) (FnE.ap hw (FnE.sub Hf sn))) O O (go4 ?_);refine rt1 ?_;exact (by rfl)
theorem FO (a:I) :
  Ret prog 89 [AV [pI a]] (.bool (tD a)):=by
 refine cJ (N:=6) func89 O O zz_ (fun w0=>?_);refine giI ?_;refine go2 ?_;intro b1 hb1;refine go4 ?_;refine sQ (bW aS (xS a) O) O (go4 ?_);refine rt1 ?_;exact (by rfl)
theorem fI (vp:Value) (p:(List I)) (w:World) (hp:Slr w elI vp p) :
  Calls prog 43 [vp].toArray w (fun e w'=>e = .returned (.bool (aY p))∧Ext w w'):=by
 obtain ⟨p_p,c_p,rfl⟩:=hp.form;refine cU (N:=5) func43 O O zz_ ?_;obtain ⟨w0,rfl⟩:=nm w;have Hp:=hp.old;have hm_p:=hp.max;refine giI ?_;refine go5 ?_;refine sFc (.bool (qK p (fun (y:I)=>(tD y)))) O (fun w hw=>FB _ p _ (fun (y:I)=>(tD y)) w (aR hw Hp sn) (FnV.mk hw aS (fun w hw x hx=>(FO x) w))) O O (go3 ?_);refine rt1 ?_;exact (by rfl)
theorem IS (vl:Value) (l:(List Rt)) (vf:Value) (f:Rt→Bool) (w:World) (hl:Slr w QL vl l) (hf:FnV prog w vf eRt (fun _=>True) (do_ f)) :
    Calls prog 182 [vl,vf].toArray w (fun e w'=>e = .returned (.int .i64 ((o8 l f).1))∧Ext w w'):=by
 obtain ⟨p_l,c_l,rfl⟩:=hl.form;obtain ⟨g_f,c_f,rfl,Hf⟩:=hf.open;refine cU (N:=19) func182 O O zz_ ?_;obtain ⟨w0,rfl⟩:=nm w;have Hl:=hl.old;have hm_l:=hl.max;refine giI ?_;refine go6 ?_;refine sQ (dK bV_ O (SLe.sub Hl sn)) O (go2 ?_);refine gJ3 (rg [4,5] 8 11) (fun g M=>∃ (i:Nat),(lH l f (l.length+1) 0) = .inl i∧(g 8 = .int .i64 (i:Int))∧M=[]) (fun K_u1 hK_u1=>?_) ?_
 ·refine go_ ?_;refine cH (rg [4,5] 8 11) (fun g nn M=>∃ (i:Nat),(lH l f nn i)=(lH l f (l.length+1) 0)∧l.length - i<nn∧(i≤l.length)∧(g 8 = .int .i64 (i:Int))∧M=[]) (l.length+1) ?start ?round
  case start=>exact ⟨_,s0,0,rfl,o1_,o1_,rfl,rfl⟩
  case round =>
   rintro nn g M ⟨i,hT0,hq0,hinv0,hg8,rfl⟩;obtain ⟨k0,rfl⟩:∃ m,nn=m+1:=⟨nn - 1,by omega⟩;refine gS1 hg8 ?_;clear hg8;refine go4 ?_;refine aZ _ O (fun h6=>?_) (fun h6=>?_)
   ·have ph6:=of_decide_eq_true h6;refine vT ?_;refine sQ (bJ (v':=.pointer (some (slb (.slice p_l l.length c_l) (i*36+0)))) (j7 (e:=QL) (l:=l) (k:=i) bV_ O O (SLe.sub Hl sn) o2_) O) O ?_;refine sQ (jK (e:=QL) (l:=l) (k:=i) (o:=0) tyT O (SLe.sub Hl sn) (cZ Rt0 o2_) O) O ?_;refine sQ (bJ (v':=.bool (f (l.getD i Rt0))) (bt_ (x:=(l.getD i Rt0)) O O (FnE.sub Hf sn) trivial) O) O (go_ ?_);refine aZ _ O (fun h7=>?_) (fun h7=>?_)
    ·refine go5 ?_;refine rt1 ?_;refine (show (.int .i64 (i:Int):Value) = .int .i64 ((W.cv (i:Int)).1) by simp only [cvE (t:=(i:Int)) oo_]).trans ?_;exact congrArg vS8 (show _=(o8 l f) from (rH O (hT0.symm.trans (Eq.symm (bE h6 (bE h7 O))))))
    refine go2 ?_;refine sWi (((i+1):Nat):Int) O (go2 ?_);refine ⟨pp_,_,_,s0,(Nat.lt_succ_self _),(i+1),(by exact (hT0.symm.trans (Eq.symm (bE h6 (aQ h7 O)))).symm),(Nat.lt_of_lt_of_le o1_ (Nat.le_of_lt_succ hq0)),o1_,rfl,rfl⟩
   have ph6:=of_decide_eq_false h6;refine go_ ?_;refine hK_u1 _ _ pp_ ⟨_,s0,i,(by exact hT0.symm.trans (Eq.symm (aQ h6 O))),rfl,rfl⟩
 rintro g M ⟨i,hCu1,hg8,rfl⟩;refine gS1 hg8 ?_;clear hg8;refine go4 ?_;refine rt1 ?_;exact congrArg vS8 (show _=(o8 l f) from trs (Eq.symm (smS hCu1)) O)
theorem DW (vl:Value) (l:(List Rt)) (vf:Value) (f:Rt→Bool) (w:World) (hl:Slr w QL vl l) (hf:FnV prog w vf eRt (fun _=>True) (do_ f)) :
  Calls prog 164 [vl,vf].toArray w (fun e w'=>e = .returned (.bool (pH l f))∧Ext w w'):=by
 obtain ⟨p_l,c_l,rfl⟩:=hl.form;obtain ⟨g_f,c_f,rfl,Hf⟩:=hf.open;refine cU (N:=9) func164 O O zz_ ?_;obtain ⟨w0,rfl⟩:=nm w;have Hl:=hl.old;have hm_l:=hl.max;refine giI ?_;refine go6 ?_;refine sFc (.int .i64 ((o8 l f).1)) O (fun w hw=>IS _ l _ f w (aR hw Hl sn) (FnE.ap hw (FnE.sub Hf sn))) O O (go4 ?_);refine rt1 ?_;exact (by rfl)
theorem G3 (a:Rt) :
  Ret prog 165 [AV [pI a.n,pI a.d]] (.bool (lA a)):=by
 refine cJ (N:=6) func165 O O zz_ (fun w0=>?_);refine giI ?_;refine go2 ?_;intro b1 hb1;refine go4 ?_;refine sQ (bW aS (mX a) O) O (go4 ?_);refine rt1 ?_;exact (by rfl)
theorem xR (vl:Value) (l:(List Rt)) (w:World) (hl:Slr w QL vl l) :
  Calls prog 112 [vl].toArray w (fun e w'=>e = .returned (.bool (jZ l))∧Ext w w'):=by
 obtain ⟨p_l,c_l,rfl⟩:=hl.form;refine cU (N:=6) func112 O O zz_ ?_;obtain ⟨w0,rfl⟩:=nm w;have Hl:=hl.old;have hm_l:=hl.max;refine giI ?_;refine go5 ?_;refine sFc (.bool (pH l (fun (y:Rt)=>(lA y)))) O (fun w hw=>DW _ l _ (fun (y:Rt)=>(lA y)) w (aR hw Hl sn) (FnV.mk hw aS (fun w hw x hx=>(G3 x) w))) O O (go4 ?_);refine rt1 ?_;exact (by rfl)
end Go.Proofs.YtokjfhfiodopdaaGreat
