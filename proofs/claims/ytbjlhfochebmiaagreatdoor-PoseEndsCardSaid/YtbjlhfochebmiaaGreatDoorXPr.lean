/- Lemmas: what they ask stands in their statements. -/
import Derived.Test.YtbjlhfochebmiaaGreatDoorXPR
set_option linter.unusedSimpArgs false
set_option linter.unusedVariables false
set_option maxHeartbeats 8000000
set_option maxRecDepth 20000

namespace Go.Num
open Go Go.Kn
theorem IN (n m:Bool) {x y:Nat} (hy:0<y):(sgn n x).fmod (sgn m y)=if n≠m∧x % y≠0 then sgn m (y - x % y) else sgn m (x % y):=by
  rw [Int.fmod_def,C0 n m hy];have h1:=Nat.div_add_mod x y;have h2:=Nat.mod_lt x hy
  have e:((x:Nat):Int)=(y:Int) * ((x / y:Nat):Int)+((x % y:Nat):Int):=by exact_mod_cast h1.symm
  have e2:(y:Int) * (-((x / y:Nat):Int) - 1) = -((y:Int) * ((x / y:Nat):Int)) - y:=by grind
  have e3:(y:Int) * (-((x / y:Nat):Int)) = -((y:Int) * ((x / y:Nat):Int)):=by grind
  have e4:(-(y:Int)) * (-((x / y:Nat):Int) - 1)=((y:Int) * ((x / y:Nat):Int))+y:=by grind
  have e5:(-(y:Int)) * (-((x / y:Nat):Int))=((y:Int) * ((x / y:Nat):Int)):=by grind
  have e6:(-(y:Int)) * ((x / y:Nat):Int) = -((y:Int) * ((x / y:Nat):Int)):=by grind
  cases n <;> cases m <;> by_cases h0:x % y=0 <;> simp only [o9,oI,reduceIte,Bool.false_eq_true,Bool.true_eq_false,reduceCtorEq,ne_eq,not_true_eq_false,not_false_eq_true,false_and,true_and,and_self,h0] <;> omega
theorem aK_ {x y:W} (hx:-4611686018427387904<x.1∧x.1<4611686018427387904) (hy:-4611686018427387904<y.1∧y.1<4611686018427387904) (h0:y.1≠0) (hf:x.1.fdiv y.1=(W.fdiv x y).1) :
    (W.sub x (W.mul y (W.fdiv x y))).1=x.1.fmod y.1:=by
  have e:x.1.fmod y.1=x.1 - y.1 * x.1.fdiv y.1:=Int.fmod_def ..
  have hb:(x.1.fmod y.1).natAbs<y.1.natAbs:=by
    rcases Int.lt_or_gt_of_ne h0 with h | h
    · have h1:=Int.fmod_nonneg_of_pos (-x.1) (show 0 < -y.1 by omega)
      have h2:=Int.fmod_lt_of_pos (-x.1) (show 0 < -y.1 by omega);rw [Int.neg_fmod_neg] at h1 h2;omega
    have h1:=Int.fmod_nonneg_of_pos x.1 h;have h2:=Int.fmod_lt_of_pos x.1 h;omega
  show IntKind.i64.wrap (x.1 - IntKind.i64.wrap (y.1 * (W.fdiv x y).1))=_
  rw [← hf,bD (n:=y.1 * x.1.fdiv y.1) (by unfold I64;omega),← e,bD (by unfold I64;omega)]
theorem PM {a b:R} (ha:a.Ok) (hb:b.Ok) (h:iC a=true) (k:iC b=true) (h0:iU b≠0):Z.of ((iU a).fmod (iU b))=Z.rem a.dec b.dec:=by
  rw [Z.rem,cI (lG ha h).1 (lG hb k).1,if_neg h0]
theorem XK {a b:R} (h:a.good=false∨b.good=false):Z.bad=Z.rem a.dec b.dec:=by
  rw [Z.rem,kE (h.imp EO EO)]
theorem ce_ {a b:R} (ha:a.Ok) (hb:b.Ok) (ga:a.good=true) (gb:b.good=true) (h:val b.w=0):Z.bad=Z.rem a.dec b.dec:=by
  rw [Z.rem,cI (bT ha ga) (bT hb gb),if_pos (by rw [h];cases b.neg <;> rfl)]
theorem aI_ {a b:R} (ha:a.Ok) (hb:b.Ok) (ga:a.good=true) (gb:b.good=true) (h0:val b.w≠0) (h:a.neg=b.neg∨val a.w % val b.w=0):Z.of (sgn b.neg (val a.w % val b.w))=Z.rem a.dec b.dec:=by
  have hp:0<val b.w:=Nat.pos_of_ne_zero h0;rw [Z.rem,cI (bT ha ga) (bT hb gb),if_neg (AR hp),IN _ _ hp,if_neg];rintro ⟨h1,h2⟩;exact h.elim h1 h2
theorem V5 {a b:R} (ha:a.Ok) (hb:b.Ok) (ga:a.good=true) (gb:b.good=true) (h0:val b.w≠0) (hn:a.neg≠b.neg) (h:val a.w % val b.w≠0):Z.of (sgn b.neg (val b.w - val a.w % val b.w))=Z.rem a.dec b.dec:=by
  have hp:0<val b.w:=Nat.pos_of_ne_zero h0;rw [Z.rem,cI (bT ha ga) (bT hb gb),if_neg (AR hp),IN _ _ hp,if_pos ⟨hn,h⟩]
theorem uW (a b:I):gL a b=E (Z.rem a.dec b.dec):=by
  unfold gL;rw [al_]
  show _=E (Z.rem a.1.dec b.1.dec)
  cases hw:(iC a.1&&(iC b.1&&((eG b).1 != 0)))
  · rw [cond_false]
    cases hg:(!a.1.good||(!b.1.good||(val b.1.w==0)))
    · rw [cond_false]
      simp only [Bool.or_eq_false_iff,Bool.not_eq_false',beq_eq_false_iff_ne] at hg;obtain ⟨ga,gb,h0⟩:=hg
      cases hc:((a.1.neg != b.1.neg)&&decide ((0:Int)<(((dl (val a.1.w % val b.1.w)).length:Nat):Int)))
      · rw [cond_false,aI_ a.2 b.2 ga gb h0]
        rw [Bool.and_eq_false_iff] at hc;rcases hc with hc | hc
        · exact .inl (by simpa using hc)
        right
        have:=of_decide_eq_false hc;exact GL.1 oo_
      rw [cond_true,V5 a.2 b.2 ga gb h0]
      · rw [Bool.and_eq_true] at hc;simpa using hc.1
      rw [Bool.and_eq_true] at hc;have:=of_decide_eq_true hc.2;intro h;rw [h,mH] at this;exact absurd this dd_
    rw [cond_true]
    cases ga:a.1.good
    · rw [XK (.inl ga)]
    · cases gb:b.1.good
      · rw [XK (.inr gb)]
      rw [ga,gb] at hg;rw [ce_ a.2 b.2 ga gb (by simpa using hg)]
  rw [cond_true];have hf:=G4 hw;rw [Bool.and_eq_true,Bool.and_eq_true] at hw
  show E (Z.of (W.sub (eG a) (W.mul (eG b) (W.fdiv (eG a) (eG b)))).1)=_
  rw [aK_ (lG a.2 hw.1).2.2.2 (lG b.2 hw.2.1).2.2.2 hf.2.1 hf.2.2];exact congrArg E (PM a.2 b.2 hw.1 hw.2.1 hf.2.1)
end Go.Num

namespace Go.Proofs.YtbjlhfochebmiaaGreatDoor
open Go.Kn Go.Num
attribute [local irreducible] Go.Kn.W WL PL OpQ OpR OpS
theorem wJ (a:I) (b:I) :
    Ret Tryz.prog 112 [AV [pI a],AV [pI b]] (AV [pI (gL a b)]):=by
 refine aW (N:=78) Tryz.func112 rfl rfl (by simp) (fun w0=>?_);simp only [bA,Nat.reduceAdd];refine go2 ?_;intro b1 hb1;refine go_ ?_;intro b2 hb2;refine go_ ?_;intro b3 hb3;refine go3 ?_;refine sC (.tuple #[.int .i64 ((eG a).1),.bool (iC a.1)]) AH (gG a.1 a.2) rfl rfl rfl (go8 ?_);refine sC (.tuple #[.int .i64 ((eG b).1),.bool (iC b.1)]) AH (gG b.1 b.2) rfl rfl rfl (go7 ?_);refine gJv [21,22,23,24,25,26,27,28] [(28,.bool ((iC a.1)&&((iC b.1)&&((eG b).1 != 0))))] (fun K2 J2=>?_) ?_
 ·refine go2 ?_;refine sBB rfl (fun h6=>?_) (fun h6=>?_)
  ·refine go2 ?_;refine sBB rfl (fun h7=>?_) (fun h7=>?_)
   ·refine go4 ?_;refine J2 _ _ pp_ s0 (bQ (iI h6 (iI h7 rfl)))
   refine go4 ?_;refine J2 _ _ pp_ s0 (bQ (iI h6 (lV h7)))
  refine go7 ?_;refine J2 _ _ pp_ s0 (bQ (lV h6))
 intro g8;refine aK _ rfl (fun h9=>?_) (fun h9=>?_)
 ·refine go3 ?_;have hfl:=G4 h9;refine go2 ?_;refine sC (.int .i64 ((W.fdiv (eG a) (eG b)).1)) RF (oK (eG a).1 (eG b).1 (eG a).2 hfl.1 hfl.2.1) rfl rfl (congrArg (Value.int .i64) hfl.2.2) (sV (.int .i64 ((W.mul (eG b) (W.fdiv (eG a) (eG b))).1)) rfl rfl (sV (.int .i64 ((W.sub (eG a) (W.mul (eG b) (W.fdiv (eG a) (eG b)))).1)) rfl rfl ?_));obtain ⟨r10,hr10⟩:=nm ((E (Z.of (W.sub (eG a) (W.mul (eG b) (W.fdiv (eG a) (eG b)))).1)):I);refine sC (AV [pI r10]) CW (f9 (W.sub (eG a) (W.mul (eG b) (W.fdiv (eG a) (eG b)))).1 (W.sub (eG a) (W.mul (eG b) (W.fdiv (eG a) (eG b)))).2) rfl rfl (by subst hr10;rfl) (go3 ?_);refine aS rfl (.inr rfl) (fB rfl m0 tyT rfl) ?_;exact (by subst hr10;exact congrArg vS2 (show _=(gL a b) from aE h9 rfl))
 refine go2 ?_;refine gJv [37,38,39,40,41,42,43,44,45,46,47,48,49,50] [(50,.bool (!a.1.good||(!b.1.good||((((dl (val b.1.w)).length:Nat):Int)==0))))] (fun K4 J4=>?_) ?_
 ·refine go2 ?_;refine sC (.bool a.1.good) kS (bL a.1 a.2) rfl rfl rfl (go_ ?_);rcases bt a.1.good with h14 | h14
  ·refine sB (iX h14) rfl (go_ ?_);refine sC (.bool b.1.good) kS (bL b.1 b.2) rfl rfl rfl (go2 ?_);rcases bt b.1.good with h15 | h15
   ·refine sB (iX h15) rfl (go_ ?_);refine aU rfl (eM lP rfl (fun w hw=>bM b.1 b.2 w) (fun vl16 Ll16 kl16=>?_))
    try simp only [fC,lO] at kl16
    refine sQ (aI (v':=.int .i64 (((dl (val b.1.w)).length:Nat):Int)) (jI fL rfl (SL.sub kl16.sl lZ)) rfl) rfl (go3 ?_);refine J4 _ _ pp_ (sR (s0)) (bQ (oX h14 (oX h15 rfl)))
   refine sB (iY h15) rfl (go6 ?_);refine J4 _ _ pp_ s0 (bQ (oX h14 (r8 h15)))
  refine sB (iY h14) rfl (AI ?_);refine J4 _ _ pp_ s0 (bQ (r8 h14))
 intro g17;refine aK _ rfl (fun h18=>?_) (fun h18=>?_)
 ·refine go_ ?_;refine sC (AV [pI (E Z.bad)]) qR dE rfl rfl rfl (go3 ?_);refine aS rfl (.inr rfl) (fB rfl m0 tyT rfl) ?_;exact congrArg vS2 (show _=(gL a b) from aM h9 (aE h18 rfl))
 refine go_ ?_;refine gds sn [0,8,5,13,17,20,24,28,32,36] [] mix (by kernel_rfl) (go2 ?_);refine cS rfl rfl (eM lP rfl (fun w hw=>bM a.1 a.2 w) (fun vl19 Ll19 kl19=>⟨(fun _=>sR s0),sn,?_⟩))
 try simp only [fC,lO] at kl19
 refine cS rfl rfl (eM lP rfl (fun w hw=>bM b.1 b.2 w) (fun vl20 Ll20 kl20=>⟨(fun _=>sR s0),sn,?_⟩))
 try simp only [fC,lO] at kl20
 have hB:=XA h18;refine cS rfl rfl (xQ GT rfl (fun w hw=>i8 vl19 vl20 (val a.1.w) (val b.1.w) hB (Nat.le_trans (gY (k:=32) (tG a.2)) dd_) (Nat.le_trans (gY (k:=32) (tG b.2)) dd_) w (SL.sl (SL.sub kl19.sl (sR lZ)) hw) (SL.sl (SL.sub kl20.sl lZ) hw)) (fun vl21_0 vl21_1 Ll21 kl21_0 kl21_1=>⟨(fun _=>sR s0),sn,?_⟩))
 try simp only [fC,lO] at kl21_0 kl21_1
 refine go7 ?_;refine gJv [60,61,62,63,64,65,66,67,68,69] [(69,.bool ((a.1.neg != b.1.neg)&&decide (0<(((dl ((val a.1.w) % (val b.1.w))).length:Nat):Int))))] (fun K6 J6=>?_) ?_
 ·refine go5 ?_;refine sQ (aI (v':=.bool (a.1.neg != b.1.neg)) (qT AB rfl rfl) rfl) rfl ?_;refine sBB rfl (fun h23=>?_) (fun h23=>?_)
  ·refine go_ ?_;refine sQ (aI (v':=.int .i64 (((dl ((val a.1.w) % (val b.1.w))).length:Nat):Int)) (jI fL rfl (SL.sub kl21_1 lZ)) rfl) rfl (go3 ?_);refine J6 _ _ pp_ s0 (bQ (iI h23 rfl))
  refine go5 ?_;refine J6 _ _ pp_ s0 (bQ (lV h23))
 intro g24;refine aK _ rfl (fun h25=>?_) (fun h25=>?_)
 ·refine go2 ?_;refine aU rfl (eM lP rfl (fun w hw=>bM b.1 b.2 w) (fun vl26 Ll26 kl26=>?_))
  try simp only [fC,lO] at kl26
  refine go_ ?_;refine aU rfl (eM LH rfl (fun w hw=>lC vl26 vl21_1 (dl (val b.1.w)) (dl ((val a.1.w) % (val b.1.w))) (j0 _) (j0 _) (Nat.le_trans (gY (k:=32) (tG b.2)) dd_) (Nat.le_trans (gY (k:=32) (bm_ (tG a.2))) dd_) (by simp only [fC,lO];exact (Nat.le_of_lt (Nat.mod_lt _ hB))) w (SL.sl (SL.sub kl26.sl lZ) hw) (SL.sl (SL.sub kl21_1 (sR lZ)) hw)) (fun vl27 Ll27 kl27=>?_))
  try simp only [fC,lO] at kl27
  refine go6 ?_;refine sQ (aI (v':=AV [pI (E (Z.of (sgn b.1.neg ((val b.1.w) - ((val a.1.w) % (val b.1.w))))))]) (bR tD rfl (fun w hw=>dG b.1.neg vl27 (dl ((val b.1.w) - ((val a.1.w) % (val b.1.w)))) (j0 _) (Nat.le_trans (gY (k:=32) (c3_ (tG b.2))) dd_) w (SL.sl (SL.sub kl27.sl lZ) hw))) (by rw [(fC _)];rfl)) rfl (go3 ?_);refine aS rfl (.inr rfl) (fB rfl (mA (mA (mA (mA (mA mZ))))) tyT rfl) ?_;exact congrArg vS2 (show _=(gL a b) from aM h9 (aM h18 (aE h25 rfl)))
 refine go5 ?_;refine sQ (aI (v':=AV [pI (E (Z.of (sgn b.1.neg ((val a.1.w) % (val b.1.w)))))]) (bR tD rfl (fun w hw=>dG b.1.neg vl21_1 (dl ((val a.1.w) % (val b.1.w))) (j0 _) (Nat.le_trans (gY (k:=32) (bm_ (tG a.2))) dd_) w (SL.sl (SL.sub kl21_1 lZ) hw))) (by rw [(fC _)];rfl)) rfl (go3 ?_);refine aS rfl (.inr rfl) (fB rfl (mA (mA (mA mZ))) tyT rfl) ?_;exact congrArg vS2 (show _=(gL a b) from aM h9 (aM h18 (aM h25 rfl)))
theorem pK (a b:R) (ha:a.Ok) (hb:b.Ok):Ret Tryz.prog 112 [RV a,RV b] (RV (Z.rem a.dec b.dec).enc):=by
  have h:=wJ ⟨a,ha⟩ ⟨b,hb⟩;rw [uW] at h;exact h
theorem wM (a:Rt) (b:Rt) :
    Ret Tryz.prog 46 [AV [pI a.n,pI a.d],AV [pI b.n,pI b.d]] (.int .i64 ((fP a b).1)):=by
 refine aW (N:=95) Tryz.func46 rfl rfl (by simp) (fun w0=>?_);simp only [bA,Nat.reduceAdd];refine go2 ?_;intro b1 hb1;refine go_ ?_;intro b2 hb2;refine go4 ?_;refine sQ (aZ NA (jT a) rfl) rfl (go4 ?_);refine sQ (aZ NA (jT b) rfl) rfl (go3 ?_);refine gJv [17,18,19,20,21,22] [(22,.bool (!(aP a)||(!(aP b))))] (fun K2 J2=>?_) ?_
 ·refine go3 ?_;rcases bt (aP a) with h4 | h4
  ·refine sB (iX h4) rfl (go4 ?_);refine J2 _ _ pp_ s0 (bQ (oX h4 rfl))
  refine sB (iY h4) rfl (go4 ?_);refine J2 _ _ pp_ s0 (bQ (r8 h4))
 intro g5;refine aK _ rfl (fun h6=>?_) (fun h6=>?_)
 ·refine gds (sk (sk (s0))) [0,4,8,12,16,20,24,28] [] mix (by kernel_rfl) (go2 ?_);refine pQ rfl (aZ Q5 (pB a (aP a)) rfl) (go2 ?_);refine pQ rfl (aZ Q5 (pB b (aP b)) rfl) ?_;obtain ⟨r7,hr7⟩:=nm ((Z.cmpW (dI a (aP a)).dec (dI b (aP b)).dec):W);refine pC (.int .i64 r7.1) Q4 (pH (dI a (aP a)).1 (dI b (aP b)).1 (dI a (aP a)).2 (dI b (aP b)).2) rfl rfl (by rw [hr7];first | done | rfl) (go3 ?_);refine aS rfl (.inr rfl) rfl ?_;exact (by subst hr7;exact congrArg vS5 (show _=(fP a b) from aE h6 rfl))
 refine AI ?_;intro b8 hb8;refine go9 ?_;intro b9 hb9;refine go3 ?_;refine cC [4,7,10,11,12,40,41,42,43,44,45,46,47,48,49,50,51,52,53,54,55,56,57,58,59,60,61,62,63,64,65,66,67,68,69,70,71,72,73,74,75,76,77,78,79,80,81,82,83,84,85,86,87,88,89,90,91,92,93,94] (fun g nn M=>∃ (o:W) (x:(A2 I)) (y:(A2 I)) (k:Nat),(g 7 = .int .i64 o.1)∧M=[⟨b9,124,dC [pI y.x,pI y.y]⟩,⟨b8,124,dC [pI x.x,pI x.y]⟩,⟨b2,35,dC [pI b.n,pI b.d]⟩,⟨b1,35,dC [pI a.n,pI a.d]⟩]∧nn=k∧(cf k o x.x x.y y.x y.y=cf (cfN a.d) (wl 1) a.n a.d b.n b.d∧cfP k x.y)) ((cfN a.d)) ?start ?round
 case start =>
  refine ⟨_,s0,(wl 1),(⟨a.n,a.d⟩:(A2 I)),(⟨b.n,b.d⟩:(A2 I)),(cfN a.d),?a7,rfl,rfl,⟨rfl,PK (VU h6)⟩⟩
  case a7=>rfl
 case round =>
  rintro nn g M ⟨o,x,y,k,hg7,rfl,hmeas,hinv⟩;subst nn;simp only [eJ,hg7];clear hg7;obtain ⟨m,rfl⟩:=QL hinv.2;refine go6 ?_;refine sC (AV [pI (E (Z.quo x.x.dec x.y.dec))]) AF (gR x.x.1 x.y.1 x.x.2 x.y.2) rfl rfl rfl (go_ ?_);intro b10 hb10;refine go7 ?_;refine sC (AV [pI (E (Z.quo y.x.dec y.y.dec))]) AF (gR y.x.1 y.y.1 y.x.2 y.y.2) rfl rfl rfl (go_ ?_);intro b11 hb11;refine go5 ?_;refine sC (.int .i64 ((Z.cmpW (Z.quo x.x.dec x.y.dec) (Z.quo y.x.dec y.y.dec)).1)) Q4 (pH (E (Z.quo x.x.dec x.y.dec)).1 (E (Z.quo y.x.dec y.y.dec)).1 (E (Z.quo x.x.dec x.y.dec)).2 (E (Z.quo y.x.dec y.y.dec)).2) rfl rfl (cg2 (fun p q=>Value.int .i64 (Z.cmpW p q).1) (dB _) (dB _)) (go7 ?_);refine aK _ rfl (fun h12=>?_) (fun h12=>?_)
  ·refine go3 ?_;refine sV (.int .i64 ((W.mul o (Z.cmpW (Z.quo x.x.dec x.y.dec) (Z.quo y.x.dec y.y.dec))).1)) rfl rfl (go3 ?_);refine aS rfl (.inr rfl) rfl ?_;exact congrArg vS5 (show _=(fP a b) from aM h6 ((cZ_ hinv.1 h12)))
  refine go_ ?_;refine gds (sk (sk (sk (sd (sk (sk (s0))))))) [0,4,8,12,16,20,24,28,33] [8] mix (by kernel_rfl) (go6 ?_);refine pC (AV [pI (E (Z.rem x.x.dec x.y.dec))]) Q6 (pK x.x.1 x.y.1 x.x.2 x.y.2) rfl rfl rfl (pQ rfl (cE zpT arT rfl (.cons [pI x.y] [pI x.y,pI I0] rfl rfl rfl rfl (.cons [pI (E (Z.rem x.x.dec x.y.dec))] [pI x.y,pI (E (Z.rem x.x.dec x.y.dec))] rfl rfl rfl rfl (.nil _)))) (go2 ?_));refine gds (sk (sk (sd (sk (sk (sk (s0))))))) [0,4,8,12,16,20,24,28,33] [8] mix (by kernel_rfl) (go6 ?_);refine pC (AV [pI (E (Z.rem y.x.dec y.y.dec))]) Q6 (pK y.x.1 y.y.1 y.x.2 y.y.2) rfl rfl rfl (pQ rfl (cE zpT arT rfl (.cons [pI y.y] [pI y.y,pI I0] rfl rfl rfl rfl (.cons [pI (E (Z.rem y.x.dec y.y.dec))] [pI y.y,pI (E (Z.rem y.x.dec y.y.dec))] rfl rfl rfl rfl (.nil _)))) (go3 ?_));refine gJv [74,75,76,77,78,79,80,81,82,83] [(83,.bool (((Z.signW (Z.rem x.x.dec x.y.dec)).1==0)||((Z.signW (Z.rem y.x.dec y.y.dec)).1==0)))] (fun K5 J5=>?_) ?_
  ·refine go3 ?_;refine sC (.int .i64 ((Z.signW (Z.rem x.x.dec x.y.dec)).1)) u5 (d7 (E (Z.rem x.x.dec x.y.dec)).1 (E (Z.rem x.x.dec x.y.dec)).2) rfl rfl (cg1 (fun p=>Value.int .i64 (Z.signW p).1) (dB _)) (go_ ?_);refine sBB rfl (fun h14=>?_) (fun h14=>?_)
   ·refine go6 ?_;refine J5 _ _ pp_ s0 (bQ (oM h14))
   refine go2 ?_;refine sC (.int .i64 ((Z.signW (Z.rem y.x.dec y.y.dec)).1)) u5 (d7 (E (Z.rem y.x.dec y.y.dec)).1 (E (Z.rem y.x.dec y.y.dec)).2) rfl rfl (cg1 (fun p=>Value.int .i64 (Z.signW p).1) (dB _)) (go3 ?_);refine J5 _ _ pp_ s0 (bQ (mY h14 rfl))
  intro g15;refine aK _ rfl (fun h16=>?_) (fun h16=>?_)
  ·refine gds (sk (sk (sk (sk (sk (sk (s0))))))) [0,4,8,12,16,20,24,28,32,36] [] mix (by kernel_rfl) (go3 ?_);refine pC (.int .i64 ((Z.signW (Z.rem x.x.dec x.y.dec)).1)) u5 (d7 (E (Z.rem x.x.dec x.y.dec)).1 (E (Z.rem x.x.dec x.y.dec)).2) rfl rfl (cg1 (fun p=>Value.int .i64 (Z.signW p).1) (dB _)) (go2 ?_);refine pC (.int .i64 ((Z.signW (Z.rem y.x.dec y.y.dec)).1)) u5 (d7 (E (Z.rem y.x.dec y.y.dec)).1 (E (Z.rem y.x.dec y.y.dec)).2) rfl rfl (cg1 (fun p=>Value.int .i64 (Z.signW p).1) (dB _)) (pV (.int .i64 ((W.sub (Z.signW (Z.rem x.x.dec x.y.dec)) (Z.signW (Z.rem y.x.dec y.y.dec))).1)) rfl rfl (pV (.int .i64 ((W.mul o (W.sub (Z.signW (Z.rem x.x.dec x.y.dec)) (Z.signW (Z.rem y.x.dec y.y.dec)))).1)) rfl rfl (go3 ?_)));refine aS rfl (.inr rfl) rfl ?_;exact congrArg vS5 (show _=(fP a b) from aM h6 ((c1_ hinv.1 h12 h16)))
  refine go3 ?_;refine sV (.int .i64 ((W.neg o).1)) rfl rfl (go2 ?_);refine ⟨pp_,_,_,(sd (sd (s0))),(Nat.lt_succ_self m),(W.neg o),(⟨x.y,(E (Z.rem x.x.dec x.y.dec))⟩:(A2 I)),(⟨y.y,(E (Z.rem y.x.dec y.y.dec))⟩:(A2 I)),m,?s7,rfl,rfl,c0_ hinv h12 h16⟩
  case s7=>rfl
theorem wK (va:Value) (n k:Nat) (hk:k≤1000000) (w:World) (hva:Sl w va (dl n)) :
    Calls Tryz.prog 115 [va,.int .i64 (k:Int)].toArray w (fun e w'=>e = .returned (.int .i64 ((n / 2 ^ k % 2:Nat):Int))∧Ext w w'):=by
 refine cX (N:=13) Tryz.func115 rfl rfl (by simp) ?_;obtain ⟨w0,rfl⟩:∃ w0,w0=w:=⟨_,rfl⟩;simp only [bA,Nat.reduceAdd];refine go6 ?_;refine sQ (aI (f8 rfl rfl dd_) (congrArg (Value.int .i64) (shq 16 dd_ oo_))) rfl (sQ (aI (bR u7 rfl (fun w hw=>dW va (dl n) (k / 16) w (SL.sl (M:=_) hva.old hw))) (congrArg (fun z:Nat=>Value.int .i64 (z:Int)) (xH n (k / 16)))) rfl (go_ ?_));refine sQ (aI (nD rfl rfl dd_) (congrArg (Value.int .i64) (shr 16 k))) rfl (sQ (qO rfl rfl (Int.natCast_nonneg _)) rfl (sQ (aI (nD rfl rfl dd_) (congrArg (Value.int .i64) (US n k))) rfl (go3 ?_)));refine aS rfl (.inr rfl) rfl ?_;exact rfl

theorem vD (a:R) (ha:a.Ok) :
    Ret Tryz.prog 48 [RV a] (.int .i64 ((a.dec.bits:Nat):Int)):=by
 refine aW (N:=25) Tryz.func48 rfl rfl (by simp) (fun w0=>?_);simp only [bA,Nat.reduceAdd];refine go_ ?_;refine aU rfl (fV rfl rfl (fun b1 hb1=>go4 ?_));refine sQ (bE tyT rfl mm_ (bG ha)) rfl ?_;refine sQ (aZ kS (bL a ha) rfl) rfl (go2 ?_);refine aK _ rfl (fun hg=>?_) (fun hg=>?_)
 ·replace hg:=cB_ hg
  refine go4 ?_;refine aS rfl (.inr rfl) rfl ?_;exact congrArg (fun z:Nat=>Value.int .i64 (z:Int)) (QJ (by simpa using hg)).symm
 replace hg:=cB_ hg
 refine go2 ?_;refine sQ (bE tyT rfl mm_ (bG ha)) rfl ?_;refine aU rfl (eM lP rfl (fun w hw=>bM a ha w) (fun v L hv=>go3 ?_));have hl32:(dl (val a.w)).length≤32:=gY (by rw [← DM];have:=sH a.w ha.lim;rwa [ha.len] at this);refine go_ ?_;refine sQ (jI fL rfl (SL.sub hv.sl lZ)) rfl (sQ (aI (NW rfl rfl) (congrArg (Value.int .i64) (bS_ (Nat.le_trans hl32 dd_)))) rfl (go4 ?_));refine cC [4,13,14,15,16,17,18,19,20,21,22,23] (fun g nn M=>∃ (k:Nat),(g 4 = .int .i64 (k:Int))∧M=L ++ [⟨b1,33,a.cells⟩]∧nn=k+0∧(k≤16 * (dl (val a.w)).length∧val a.w<2 ^ k)) (16 * (dl (val a.w)).length) ?start ?round
 case start =>
  refine ⟨_,(List.Sublist.refl _),16 * (dl (val a.w)).length,?a4,?mem0,rfl,⟨Nat.le_refl _,KU _⟩⟩
  case mem0=>rfl
  case a4=>rfl
 case round =>
  rintro nn g M ⟨k,hg4,rfl,hmeas,⟨hk,hlt⟩⟩;subst nn;simp only [eJ,hg4];clear hg4;refine go5 ?_
  cases hz:decide ((0:Int)<(k:Int))
  ·refine yU ?_;refine aS rfl (.inr rfl) rfl ?_;exact congrArg (fun z:Nat=>Value.int .i64 (z:Int)) (UU ha (by simpa using hg) hlt (by have:=of_decide_eq_false hz;omega)).symm
  have hz':=of_decide_eq_true hz;obtain ⟨m,rfl⟩:∃ m,k=m+1:=⟨k - 1,by omega⟩;refine go2 ?_;refine sQ (aI (kM rfl rfl) (congrArg (Value.int .i64) (uK oo_))) rfl (sQ (bR Y0 rfl (fun w hw=>wK v (val a.w) m oo_ w (SL.sl (SL.sub hv.sl lZ) hw))) rfl (go3 ?_));refine aK _ rfl (fun h0=>?_) (fun h0=>?_)
  ·replace h0:=cB_ h0
   refine go4 ?_;refine sQ (aI (kM rfl rfl) (congrArg (Value.int .i64) (uK oo_))) rfl (go2 ?_);refine ⟨pp_,_,_,(List.Sublist.refl _),oo_,m,?s4,?mem,rfl,⟨by omega,OM hlt oo_⟩⟩
   case mem=>rfl
   case s4=>rfl
  replace h0:=cB_ h0
  refine go6 ?_;refine aS rfl (.inr rfl) rfl ?_;exact congrArg (fun z:Nat=>Value.int .i64 (z:Int)) ((tU ha (by simpa using hg)).trans (UW hlt oo_)).symm
theorem uP (b:(A3 W)) :
    Ret Tryz.prog 8 [AV [cw b.x.1,cw b.y.1,cw b.z.1]] (.bool (dX b)):=by
 refine aW (N:=18) Tryz.func8 rfl rfl (by simp) (fun w0=>?_);simp only [bA,Nat.reduceAdd];refine go2 ?_;intro b1 hb1;refine go7 ?_;refine qQ 5 (go4 ?_);refine sV (.bool true) rfl rfl (go5 ?_);refine gJv [8,9,10,11,12,13,14,15,16,17] [(17,.bool (decide (262144<b.x.1)||decide (b.x.1<(-262144))))] (fun K5 J5=>?_) ?_
 ·refine go5 ?_;refine sBB rfl (fun h3=>?_) (fun h3=>?_)
  ·have ph3:=of_decide_eq_true h3;refine go6 ?_;refine J5 _ _ pp_ s0 (bQ (oM h3))
  have ph3:=of_decide_eq_false h3;refine go6 ?_;refine J5 _ _ pp_ s0 (bQ (mY h3 rfl))
 intro g4;refine aK _ rfl (fun h5=>?_) (fun h5=>?_)
 ·refine go4 ?_;refine aS rfl (.inr rfl) rfl ?_;exact congrArg vS1 (show _=(dX b) from aE h5 rfl)
 refine go3 ?_;refine sV (.int .i64 1) rfl rfl (go6 ?_);refine sV (.bool true) rfl rfl (go5 ?_);refine gJv [8,9,10,11,12,13,14,15,16,17] [(17,.bool (decide (262144<b.y.1)||decide (b.y.1<(-262144))))] (fun K9 J9=>?_) ?_
 ·refine go5 ?_;refine sBB rfl (fun h7=>?_) (fun h7=>?_)
  ·have ph7:=of_decide_eq_true h7;refine go6 ?_;refine J9 _ _ pp_ s0 (bQ (oM h7))
  have ph7:=of_decide_eq_false h7;refine go6 ?_;refine J9 _ _ pp_ s0 (bQ (mY h7 rfl))
 intro g8;refine aK _ rfl (fun h9=>?_) (fun h9=>?_)
 ·refine go4 ?_;refine aS rfl (.inr rfl) rfl ?_;exact congrArg vS1 (show _=(dX b) from aM h5 (aE h9 rfl))
 refine go3 ?_;refine sV (.int .i64 2) rfl rfl (go6 ?_);refine sV (.bool true) rfl rfl (go5 ?_);refine gJv [8,9,10,11,12,13,14,15,16,17] [(17,.bool (decide (262144<b.z.1)||decide (b.z.1<(-262144))))] (fun K13 J13=>?_) ?_
 ·refine go5 ?_;refine sBB rfl (fun h11=>?_) (fun h11=>?_)
  ·have ph11:=of_decide_eq_true h11;refine go6 ?_;refine J13 _ _ pp_ s0 (bQ (oM h11))
  have ph11:=of_decide_eq_false h11;refine go6 ?_;refine J13 _ _ pp_ s0 (bQ (mY h11 rfl))
 intro g12;refine aK _ rfl (fun h13=>?_) (fun h13=>?_)
 ·refine go4 ?_;refine aS rfl (.inr rfl) rfl ?_;exact congrArg vS1 (show _=(dX b) from aM h5 (aM h9 (aE h13 rfl)))
 refine go3 ?_;refine sV (.int .i64 3) rfl rfl (go6 ?_);refine sV (.bool false) rfl rfl (go7 ?_);refine aS rfl (.inr rfl) rfl ?_;exact congrArg vS1 (show _=(dX b) from aM h5 (aM h9 (aM h13 rfl)))

theorem tO (x:Rt) :
    Ret Tryz.prog 9 [AV [pI x.n,pI x.d]] (.bool (gD x)):=by
 refine aW (N:=24) Tryz.func9 rfl rfl (by simp) (fun w0=>?_);simp only [bA,Nat.reduceAdd];refine go2 ?_;intro b1 hb1;refine go4 ?_;refine sQ (aZ NA (jT x) rfl) rfl (go2 ?_);refine gJv [2,6,7,8,9,10,11,12,13,14,15,16,17,18,19,20,21,22,23] [(2,.bool ((aP x)&&(decide (0≤(f5 x).1)&&(decide ((fP x (dZ (wl 1))).1≤0)&&decide ((Z.bitsW x.d.dec).1≤12)))))] (fun K1 J1=>?_) ?_
 ·refine gdr s0 [0,4,8,12,16,20,24,28,32,36,40,44,48,52,56,60,64,68,72] [] mix (by kernel_rfl) (go_ ?_);refine pBB rfl (fun h5=>?_) (fun h5=>?_)
  ·refine go_ ?_;refine pQ rfl (aZ bt_ (vG x) rfl) (go2 ?_);refine pBB rfl (fun h6=>?_) (fun h6=>?_)
   ·have ph6:=of_decide_eq_true h6;refine go_ ?_;refine pQ rfl (aZ bv_ (xA (wl 1)) rfl) ?_;refine pQ rfl (aZ bu_ (wM x (dZ (wl 1))) rfl) ?_;refine go2 ?_;refine pBB rfl (fun h7=>?_) (fun h7=>?_)
    ·have ph7:=of_decide_eq_true h7;refine go2 ?_;refine pC (.int .i64 ((Z.bitsW x.d.dec).1)) bw_ (vD x.d.1 x.d.2) rfl rfl rfl (go4 ?_);refine J1 _ _ pp_ s0 (bQ (iI h5 (iI h6 (iI h7 rfl))))
    have ph7:=of_decide_eq_false h7;refine go7 ?_;refine J1 _ _ pp_ s0 (bQ (iI h5 (iI h6 (lV h7))))
   have ph6:=of_decide_eq_false h6;refine G3 ?_;refine J1 _ _ pp_ s0 (bQ (iI h5 (lV h6)))
  refine VD ?_;refine J1 _ _ pp_ s0 (bQ (lV h5))
 intro g8;refine go_ ?_;refine aS rfl (.inr rfl) rfl ?_;exact (by rfl)
theorem vL (a:I) :
    Ret Tryz.prog 148 [AV [pI a]] (.bool (jA a)):=by
 refine aW (N:=10) Tryz.func148 rfl rfl (by simp) (fun w0=>?_);simp only [bA,Nat.reduceAdd];refine go2 ?_;intro b1 hb1;refine go2 ?_;refine gJv [2,3,4,5,6,7,8,9] [(2,.bool (!a.1.bad&&a.1.valid))] (fun K1 J1=>?_) ?_
 ·refine go4 ?_;rcases bt a.1.bad with h3 | h3
  ·refine sB (iX h3) rfl (go5 ?_);refine J1 _ _ pp_ s0 (bQ (G9 h3))
  refine sB (iY h3) rfl (go_ ?_);refine sC (.bool a.1.valid) RE (oJ a.1 a.2) rfl rfl rfl (go3 ?_);refine J1 _ _ pp_ s0 (bQ (G7 h3 rfl))
 intro g4;refine go_ ?_;refine aS rfl (.inr rfl) rfl ?_;exact (by rfl)

theorem pL  (w:World)  :
    Calls Tryz.prog 144 [].toArray w (fun e w'=>∃ v,e = .returned (v)∧Ext w w'∧Slo w.heap.size w' 33 elI v F_skewbackref08_bad):=by
 refine fD (n:=3) (fun v=>v) Tryz.func144 rfl rfl (by simp) ?_;obtain ⟨w0,rfl⟩:∃ w0,w0=w:=⟨_,rfl⟩;simp only [bA,Nat.reduceAdd];obtain ⟨q0,hq0⟩:=nm ((E Z.bad):I);refine go4 ?_;refine sC (AV [pI q0]) qR dE rfl rfl (by subst hq0;rfl) (aU rfl (bW [[pI q0]] [pI q0] yF i2 mM rfl dd_ rfl rfl ⟨rfl,rfl,rfl,trivial⟩ rfl (fun b1 hb1=>go3 ?_)));refine aS rfl (.inr rfl) rfl ?_
 have hE:([q0]:(List I))=F_skewbackref08_bad:=by obtain rfl:=hq0.symm;exact rfl
 rw [← hE];exact ⟨_,rfl,⟨_,(sk sn),OwnG.lit (e:=elI) (l:=[q0]) (qs:=[pI q0]) hb1 rfl (Nat.le_of_ble_eq_true rfl) rfl⟩⟩

theorem vJ (vl:Value) (l:(List I)) (w:World) (hl:Slr w elI vl l) (hpre:l.length≤200) :
    Calls Tryz.prog 117 [vl].toArray w (fun e w'=>∃ v,e = .returned (v)∧Ext w w'∧Slo w.heap.size w' 33 elI v (cO l)):=by
 obtain ⟨p_l,c_l,rfl⟩:=hl.form;refine fD (n:=45) (fun v=>v) Tryz.func117 rfl rfl (by simp) ?_;obtain ⟨w0,rfl⟩:∃ w0,w0=w:=⟨_,rfl⟩;have Hl:=hl.old;have hm_l:=hl.max;simp only [bA,Nat.reduceAdd];refine iE ?_;refine gJ3 [2,3,4,5,8,9,10,11,12,13,14,15,16,17,18,19,20,21,22,23,24,25,26,27,28] (fun g M=>∃ (last:Int) (i:Nat),(dU l ((l.length+1)) (-1) 0) = .inl (last,i)∧(last<(l.length:Int)∧-1≤last)∧(g 3 = .int .i64 last∧g 4 = .int .i64 ((i:Nat):Int))∧M=[]) (fun K_u1 hK_u1=>?_) ?_
 ·refine go_ ?_;refine cC [2,3,4,5,8,9,10,11,12,13,14,15,16,17,18,19,20,21,22,23,24,25,26,27,28] (fun g nn M=>∃ (last:Int) (i:Nat),(dU l nn last i)=(dU l ((l.length+1)) (-1) 0)∧l.length - i<nn∧(i≤l.length∧last<(i:Int)∧-1≤last)∧(g 3 = .int .i64 last∧g 4 = .int .i64 ((i:Nat):Int))∧M=[]) ((l.length+1)) ?start ?round
  case start=>exact ⟨_,s0,(-1),0,rfl,o1_,o1_,⟨rfl,rfl⟩,rfl⟩
  case round =>
   rintro nn g M ⟨last,i,hT0,hq0,hinv0,⟨hg3,hg4⟩,rfl⟩;obtain ⟨k0,rfl⟩:∃ m,nn=m+1:=⟨nn - 1,by omega⟩;simp only [eJ,hg3,hg4];clear hg3 hg4;refine go4 ?_;refine sQ (aI (v':=.int .i64 (((l).length:Nat):Int)) (fR (e:=elI) pM rfl (SLe.sub Hl sn)) rfl) rfl (go2 ?_);refine aK _ rfl (fun h16=>?_) (fun h16=>?_)
   ·have ph16:=of_decide_eq_true h16;refine go6 ?_;refine sQ (aI (v':=.pointer (some (slb (.slice p_l l.length c_l) (i * 18+0)))) (nC (e:=elI) (l:=l) (k:=i) pM rfl rfl (SLe.sub Hl sn) o2_) rfl) rfl ?_;refine sQ (pG (e:=elI) (l:=l) (k:=i) (o:=0) tyT rfl (SLe.sub Hl sn) (fU I0 o2_) rfl) rfl ?_;refine sQ (aZ Y8 (vL (l.getD i I0)) rfl) rfl (go7 ?_);rcases bt (jA (l.getD i I0)) with h17 | h17
    ·refine W_f (iX h17) rfl (go4 ?_);refine sQ (aI (v':=.pointer (some (slb (.slice p_l l.length c_l) (i * 18+0)))) (nC (e:=elI) (l:=l) (k:=i) pM rfl rfl (SLe.sub Hl sn) o2_) rfl) rfl ?_;refine sQ (pG (e:=elI) (l:=l) (k:=i) (o:=0) tyT rfl (SLe.sub Hl sn) (fU I0 o2_) rfl) rfl ?_;refine sC (.int .i64 ((Z.signW (l.getD i I0).dec).1)) u5 (d7 (l.getD i I0).1 (l.getD i I0).2) rfl rfl rfl (go2 ?_);refine aK _ rfl (fun h18=>?_) (fun h18=>?_)
     ·refine go6 ?_;refine sV (.int .i64 (((i+1):Nat):Int)) rfl (congrArg (Value.int .i64) (wx oo_ oo_ oo_)) (go2 ?_);refine ⟨pp_,_,_,s0,(Nat.lt_succ_self _),((i:Nat):Int),(i+1),(by exact (hT0.symm.trans (Eq.symm (aE h16 (aE h17 (aE h18 rfl))))).symm),(Nat.lt_of_lt_of_le o1_ (Nat.le_of_lt_succ hq0)),o1_,⟨rfl,rfl⟩,rfl⟩
     refine go3 ?_;refine sV (.int .i64 (((i+1):Nat):Int)) rfl (congrArg (Value.int .i64) (wx oo_ oo_ oo_)) (go2 ?_);refine ⟨pp_,_,_,s0,(Nat.lt_succ_self _),last,(i+1),(by exact (hT0.symm.trans (Eq.symm (aE h16 (aE h17 (aM h18 rfl))))).symm),(Nat.lt_of_lt_of_le o1_ (Nat.le_of_lt_succ hq0)),o1_,⟨rfl,rfl⟩,rfl⟩
    refine W_t (iY h17) rfl (go_ ?_);refine aU rfl (bK (E:=33) (e:=elI) (l:=F_skewbackref08_bad) (fun v=>v) RA rfl (fun w hw=>pL  w) (fun p19 c20 L21 hF22=>go3 ?_));refine aS rfl (.inr rfl) rfl ?_
    have hE:(F_skewbackref08_bad:(List I))=(cO l):=by exact (JZ rfl (hT0.symm.trans (Eq.symm (aE h16 (aM h17 rfl)))))
    rw [← hE];exact ⟨_,rfl,⟨L21,lZ,hF22⟩⟩
   have ph16:=of_decide_eq_false h16;refine go_ ?_;refine hK_u1 _ _ pp_ ⟨_,s0,last,i,(by exact hT0.symm.trans (Eq.symm (aM h16 rfl))),o1_,⟨rfl,rfl⟩,rfl⟩
 rintro g M ⟨last,i,hCu1,hPu1,⟨hg3,hg4⟩,rfl⟩;simp only [eJ,hg3,hg4];clear hg3 hg4;refine go5 ?_;refine aK _ rfl (fun h23=>?_) (fun h23=>?_)
 ·have ph23:=of_decide_eq_true h23;refine go_ ?_;refine aU rfl (bK (E:=33) (e:=elI) (l:=F_skewbackref08_bad) (fun v=>v) RA rfl (fun w hw=>pL  w) (fun p24 c25 L26 hF27=>go3 ?_));refine aS rfl (.inr rfl) rfl ?_
  have hE:(F_skewbackref08_bad:(List I))=(cO l):=by exact trs (Eq.symm (smS hCu1)) (aE h23 rfl)
  rw [← hE];exact ⟨_,rfl,⟨L26,lZ,hF27⟩⟩
 have ph23:=of_decide_eq_false h23;refine go8 ?_;refine gJ3 [6,7,32,33,34,35,36,37,38,39,40,41,42,43] (fun g M=>∃ (out:List I) (j:Nat) (p_out:Option Addr) (c_out:Nat) (L_out:List Blk),(eA l last i (((last+1).toNat+1)) ([]:List I) 0)=(out,j)∧(g 6 = .slice p_out out.length c_out∧g 7 = .int .i64 ((j:Nat):Int)∧OwnG w0 33 elI (.slice p_out out.length c_out) out L_out)∧M=(L_out ++ [])) (fun K_u28 hK_u28=>?_) ?_
 ·refine go_ ?_;refine cC [6,7,32,33,34,35,36,37,38,39,40,41,42,43] (fun g nn M=>∃ (out:List I) (j:Nat) (p_out:Option Addr) (c_out:Nat) (L_out:List Blk),(eA l last i nn out j)=(eA l last i (((last+1).toNat+1)) ([]:List I) 0)∧(last+1).toNat - j<nn∧((j:Int)≤last+1∧out.length=j)∧(g 6 = .slice p_out out.length c_out∧g 7 = .int .i64 ((j:Nat):Int)∧OwnG w0 33 elI (.slice p_out out.length c_out) out L_out)∧M=(L_out ++ [])) (((last+1).toNat+1)) ?start ?round
  case start=>exact ⟨_,s0,([]:List I),0,none,0,[],rfl,o1_,o1_,⟨rfl,rfl,OwnG.nil⟩,rfl⟩
  case round =>
   rintro nn g M ⟨out,j,p_out,c_out,L_out,hT1,hq1,hinv1,⟨hg6,hg7,hO_out⟩,rfl⟩;obtain ⟨k1,rfl⟩:∃ m,nn=m+1:=⟨nn - 1,by omega⟩;simp only [eJ,hg6,hg7];clear hg6 hg7;have hm_out:=OwnG.max hO_out;refine go6 ?_;refine aK _ rfl (fun h35=>?_) (fun h35=>?_)
   ·have ph35:=of_decide_eq_true h35;refine go7 ?_;refine sQ (aI (v':=.pointer (some (slb (.slice p_l l.length c_l) (j * 18+0)))) (nC (e:=elI) (l:=l) (k:=j) pM rfl rfl (SLe.sub Hl sn) o2_) rfl) rfl ?_;refine sQ (pG (e:=elI) (l:=l) (k:=j) (o:=0) tyT rfl (SLe.sub Hl sn) (fU I0 o2_) rfl) rfl ?_;refine aU rfl (bW [[pI (l.getD j I0)]] [pI (l.getD j I0)] yF i2 mM rfl dd_ rfl rfl ⟨rfl,rfl,rfl,trivial⟩ rfl (fun b36 hb36=>aU rfl (uM (e:=elI) (l:=out) (m:=[(l.getD j I0)]) 68 yF (by kernel_rfl) dd_ rfl rfl hO_out (SLe.lit (e:=elI) (l:=[(l.getD j I0)]) m0 rfl (Nat.le_of_ble_eq_true rfl) rfl) (IO wT) (by simp only [List.length_append,List.length_cons,List.length_nil];omega) dd_ (fun p37 c38 L39 hO40=>?_))));refine go4 ?_;refine sV (.int .i64 (((j+1):Nat):Int)) rfl (congrArg (Value.int .i64) (wx oo_ oo_ oo_)) (go2 ?_);refine ⟨pp_,_,_,(sA (sd (s0))),(Nat.lt_succ_self _),(out ++ [(l.getD j I0)]),(j+1),p37,c38,L39,(by exact (hT1.symm.trans (Eq.symm (aE h35 rfl))).symm),(Nat.lt_of_lt_of_le o1_ (Nat.le_of_lt_succ hq1)),o1_,⟨rfl,rfl,hO40⟩,rfl⟩
   have ph35:=of_decide_eq_false h35;refine go_ ?_;refine hK_u28 _ _ pp_ ⟨_,s0,out,j,p_out,c_out,L_out,(by exact hT1.symm.trans (Eq.symm (aM h35 rfl))),⟨rfl,rfl,hO_out⟩,rfl⟩
 rintro g M ⟨out,j,p_out,c_out,L_out,hCu28,⟨hg6,hg7,hO_out⟩,rfl⟩;simp only [eJ,hg6,hg7];clear hg6 hg7;have hm_out:=OwnG.max hO_out;refine go5 ?_;refine aS rfl (.inr rfl) rfl ?_
 have hE:(out:(List I))=(cO l):=by exact trs (Eq.symm (smS hCu1)) (aM h23 (trs (Eq.symm (apS hCu28)) rfl))
 rw [← hE];exact ⟨_,rfl,⟨L_out,lZ,hO_out⟩⟩

theorem iB (vl:Value) (l:(List W)) (w:World) (hl:Slr w elW vl l) (hpre:l.length≤200) :
    Calls Tryz.prog 50 [vl].toArray w (fun e w'=>∃ v,e = .returned (v)∧Ext w w'∧Slo w.heap.size w' 33 elI v (bZ l)):=by
 obtain ⟨p_l,c_l,rfl⟩:=hl.form;refine fD (n:=21) (fun v=>v) Tryz.func50 rfl rfl (by simp) ?_;obtain ⟨w0,rfl⟩:∃ w0,w0=w:=⟨_,rfl⟩;have Hl:=hl.old;have hm_l:=hl.max;simp only [bA,Nat.reduceAdd];refine iE ?_;refine gJ3 [3,4,5,6,7,8,9,10,11,12,13,14,15,16,17,18] (fun g M=>∃ (out:List I) (i:Nat) (p_out:Option Addr) (c_out:Nat) (L_out:List Blk),(gU l ((l.length+1)) ([]:List I) 0)=(out,i)∧(out.length≤200)∧(g 3 = .slice p_out out.length c_out∧g 4 = .int .i64 ((i:Nat):Int)∧OwnG w0 33 elI (.slice p_out out.length c_out) out L_out)∧M=(L_out ++ [])) (fun K_u1 hK_u1=>?_) ?_
 ·refine go_ ?_;refine cC [3,4,5,6,7,8,9,10,11,12,13,14,15,16,17,18] (fun g nn M=>∃ (out:List I) (i:Nat) (p_out:Option Addr) (c_out:Nat) (L_out:List Blk),(gU l nn out i)=(gU l ((l.length+1)) ([]:List I) 0)∧l.length - i<nn∧(i≤l.length∧out.length=i)∧(g 3 = .slice p_out out.length c_out∧g 4 = .int .i64 ((i:Nat):Int)∧OwnG w0 33 elI (.slice p_out out.length c_out) out L_out)∧M=(L_out ++ [])) ((l.length+1)) ?start ?round
  case start=>exact ⟨_,s0,([]:List I),0,none,0,[],rfl,o1_,o1_,⟨rfl,rfl,OwnG.nil⟩,rfl⟩
  case round =>
   rintro nn g M ⟨out,i,p_out,c_out,L_out,hT0,hq0,hinv0,⟨hg3,hg4,hO_out⟩,rfl⟩;obtain ⟨k0,rfl⟩:∃ m,nn=m+1:=⟨nn - 1,by omega⟩;simp only [eJ,hg3,hg4];clear hg3 hg4;have hm_out:=OwnG.max hO_out;refine go4 ?_;refine sQ (aI (v':=.int .i64 (((l).length:Nat):Int)) (fR (e:=elW) fL rfl (SLe.sub Hl sn)) rfl) rfl (go2 ?_);refine aK _ rfl (fun h8=>?_) (fun h8=>?_)
   ·have ph8:=of_decide_eq_true h8;refine go7 ?_;refine sQ (aI (v':=.pointer (some (slb (.slice p_l l.length c_l) (i * 1+0)))) (nC (e:=elW) (l:=l) (k:=i) fL rfl rfl (SLe.sub Hl sn) o2_) rfl) rfl ?_;refine sQ (DO (u:=.int .i64 ((l.getD i W.z).1)) (e:=elW) (l:=l) (k:=i) (o:=0) tyT rfl (SLe.sub Hl sn) (fU W.z o2_) rfl) rfl ?_;refine sC (AV [pI (E (Z.of (l.getD i W.z).1))]) CW (f9 (l.getD i W.z).1 (l.getD i W.z).2) rfl rfl rfl (aU rfl (bW [[pI (E (Z.of (l.getD i W.z).1))]] [pI (E (Z.of (l.getD i W.z).1))] nX i2 mM rfl dd_ rfl rfl ⟨rfl,rfl,rfl,trivial⟩ rfl (fun b9 hb9=>aU rfl (uM (e:=elI) (l:=out) (m:=[(E (Z.of (l.getD i W.z).1))]) 68 nX (by kernel_rfl) dd_ rfl rfl hO_out (SLe.lit (e:=elI) (l:=[(E (Z.of (l.getD i W.z).1))]) m0 rfl (Nat.le_of_ble_eq_true rfl) rfl) (IO wT) (by simp only [List.length_append,List.length_cons,List.length_nil];omega) dd_ (fun p10 c11 L12 hO13=>?_)))));refine go4 ?_;refine sV (.int .i64 (((i+1):Nat):Int)) rfl (congrArg (Value.int .i64) (wx oo_ oo_ oo_)) (go2 ?_);refine ⟨pp_,_,_,(sA (sd (s0))),(Nat.lt_succ_self _),(out ++ [(E (Z.of (l.getD i W.z).1))]),(i+1),p10,c11,L12,(by exact (hT0.symm.trans (Eq.symm (aE h8 rfl))).symm),(Nat.lt_of_lt_of_le o1_ (Nat.le_of_lt_succ hq0)),o1_,⟨rfl,rfl,hO13⟩,rfl⟩
   have ph8:=of_decide_eq_false h8;refine go_ ?_;refine hK_u1 _ _ pp_ ⟨_,s0,out,i,p_out,c_out,L_out,(by exact hT0.symm.trans (Eq.symm (aM h8 rfl))),o1_,⟨rfl,rfl,hO_out⟩,rfl⟩
 rintro g M ⟨out,i,p_out,c_out,L_out,hCu1,hPu1,⟨hg3,hg4,hO_out⟩,rfl⟩;simp only [eJ,hg3,hg4];clear hg3 hg4;have hm_out:=OwnG.max hO_out;refine go2 ?_;refine aU rfl (bK (E:=33) (e:=elI) (l:=(cO out)) (fun v=>v) Y1 rfl (fun w hw=>vJ _ out w (aO hw hO_out lZ) oo_) (fun p14 c15 L16 hF17=>?_));have hb18:=(vH out);refine go3 ?_;refine aS rfl (.inr rfl) rfl ?_
 have hE:((cO out):(List I))=(bZ l):=by exact (by unfold bZ;exact trs (Eq.symm (apS hCu1)) rfl)
 rw [← hE];exact ⟨_,rfl,⟨L16,lZ,hF17⟩⟩

theorem vK (va:Value) (a:(List I)) (vb:Value) (b:(List I)) (w:World) (ha:Slr w elI va a) (hb:Slr w elI vb b) :
    Calls Tryz.prog 78 [va,vb].toArray w (fun e w'=>e = .returned (.bool (hS a b))∧Ext w w'):=by
 obtain ⟨p_a,c_a,rfl⟩:=ha.form;obtain ⟨p_b,c_b,rfl⟩:=hb.form;refine cX (N:=26) Tryz.func78 rfl rfl (by simp) ?_;obtain ⟨w0,rfl⟩:∃ w0,w0=w:=⟨_,rfl⟩;have Ha:=ha.old;have hm_a:=ha.max;have Hb:=hb.old;have hm_b:=hb.max;simp only [bA,Nat.reduceAdd];refine go6 ?_;refine sQ (aI (v':=.int .i64 (((a).length:Nat):Int)) (fR (e:=elI) pM rfl (SLe.sub Ha sn)) rfl) rfl (go_ ?_);refine sQ (aI (v':=.int .i64 (((b).length:Nat):Int)) (fR (e:=elI) pM rfl (SLe.sub Hb sn)) rfl) rfl (go2 ?_);refine aK _ rfl (fun h1=>?_) (fun h1=>?_)
 ·have ph2:=bW_ h1;refine go4 ?_;refine aS rfl (.inr rfl) rfl ?_;exact congrArg vS1 (show _=(hS a b) from aE h1 rfl)
 have ph3:=bV_ h1;refine go5 ?_;refine gJ3 [4,5,11,12,13,14,15,16,17,18,19,20,21,22,23,24,25] (fun g M=>∃ (i:Nat),(f6 a b ((a.length+1)) 0) = .inl i∧(g 5 = .int .i64 ((i:Nat):Int))∧M=[]) (fun K_u4 hK_u4=>?_) ?_
 ·refine go_ ?_;refine cC [4,5,11,12,13,14,15,16,17,18,19,20,21,22,23,24,25] (fun g nn M=>∃ (i:Nat),(f6 a b nn i)=(f6 a b ((a.length+1)) 0)∧a.length - i<nn∧(i≤a.length)∧(g 5 = .int .i64 ((i:Nat):Int))∧M=[]) ((a.length+1)) ?start ?round
  case start=>exact ⟨_,s0,0,rfl,o1_,o1_,rfl,rfl⟩
  case round =>
   rintro nn g M ⟨i,hT0,hq0,hinv0,hg5,rfl⟩;obtain ⟨k0,rfl⟩:∃ m,nn=m+1:=⟨nn - 1,by omega⟩;simp only [eJ,hg5];clear hg5;refine go4 ?_;refine sQ (aI (v':=.int .i64 (((a).length:Nat):Int)) (fR (e:=elI) pM rfl (SLe.sub Ha sn)) rfl) rfl (go2 ?_);refine aK _ rfl (fun h9=>?_) (fun h9=>?_)
   ·have ph9:=of_decide_eq_true h9;refine go3 ?_;refine gds sn [0,4,8,12,16,20,24,28,32] [] mix (by kernel_rfl) (go2 ?_);refine pQ rfl (aI (v':=.pointer (some (slb (.slice p_a a.length c_a) (i * 18+0)))) (nC (e:=elI) (l:=a) (k:=i) pM rfl rfl (SLe.sub Ha sn) o2_) rfl) ?_;refine pQ rfl (pG (e:=elI) (l:=a) (k:=i) (o:=0) tyT rfl (SLe.sub Ha sn) (fU I0 o2_) rfl) ?_;refine go2 ?_;refine pQ rfl (aI (v':=.pointer (some (slb (.slice p_b b.length c_b) (i * 18+0)))) (nC (e:=elI) (l:=b) (k:=i) pM rfl rfl (SLe.sub Hb sn) o2_) rfl) ?_;refine pQ rfl (pG (e:=elI) (l:=b) (k:=i) (o:=0) tyT rfl (SLe.sub Hb sn) (fU I0 o2_) rfl) ?_;refine pQ rfl (AP (r:=decide ((a.getD i I0)=(b.getD i I0))) rfl rfl (cL 8 dd_ Q2 SC (bP aH) (bP aH) (dA bJ))) (go_ ?_);rcases bt (decide ((a.getD i I0)=(b.getD i I0))) with h10 | h10
    ·have ph10:=of_decide_eq_true h10;refine W_f (iX h10) rfl (go3 ?_);refine sV (.int .i64 (((i+1):Nat):Int)) rfl (congrArg (Value.int .i64) (wx oo_ oo_ oo_)) (go2 ?_);refine ⟨pp_,_,_,s0,(Nat.lt_succ_self _),(i+1),(by exact (hT0.symm.trans (Eq.symm (aE h9 (aE h10 rfl)))).symm),(Nat.lt_of_lt_of_le o1_ (Nat.le_of_lt_succ hq0)),o1_,rfl,rfl⟩
    have ph10:=of_decide_eq_false h10;refine W_t (iY h10) rfl (go4 ?_);refine aS rfl (.inr rfl) rfl ?_;exact congrArg vS1 (show _=(hS a b) from aM h1 ((JZ rfl (hT0.symm.trans (Eq.symm (aE h9 (aM h10 rfl)))))))
   have ph9:=of_decide_eq_false h9;refine go_ ?_;refine hK_u4 _ _ pp_ ⟨_,s0,i,(by exact hT0.symm.trans (Eq.symm (aM h9 rfl))),rfl,rfl⟩
 rintro g M ⟨i,hCu4,hg5,rfl⟩;simp only [eJ,hg5];clear hg5;refine go4 ?_;refine aS rfl (.inr rfl) rfl ?_;exact congrArg vS1 (show _=(hS a b) from aM h1 (trs (Eq.symm (smS hCu4)) rfl))
end Go.Proofs.YtbjlhfochebmiaaGreatDoor

