/- Lemmas: what they ask stands in their statements. -/
import Derived.Test.YtcjoflcajgaifaaGreatDoorMAr
import Derived.Test.YtcjoflcajgaifaaGreatDoorMU9
set_option linter.unusedSimpArgs false
set_option linter.unusedVariables false
set_option maxHeartbeats 8000000
set_option maxRecDepth 20000
namespace Go.Proofs.YtcjoflcajgaifaaGreatDoor
open Go.Kn Go.Num Tryz
attribute [local irreducible] Go.Kn.W WL PL OpQ OpR OpS
theorem H4 (a:Rt) (b:Rt) :
    Ret prog 170 [AV [pI a.n,pI a.d],AV [pI b.n,pI b.d]] (AV [pI ((lL a b).n),pI ((lL a b).d)]):=by
 refine bI (N:=22) func170 O O zz_ (fun w0=>?_);refine giI ?_;refine go2 ?_;intro b1 hb1;refine go_ ?_;intro b2 hb2;refine go_ ?_;intro b3 hb3;refine go3 ?_;refine gJv (rg [] 5 9) [(5,.bool (!(bD a)||(!(bD b))))] (fun K2 J2=>?_) ?_
 ·refine go2 ?_;refine sQ (aY aK (fC a) O) O (go_ ?_);rcases bt (bD a) with h5|h5
  ·refine sB (i3 h5) O (go_ ?_);refine sQ (aY aK (fC b) O) O (go4 ?_);refine J2 _ _ pp_ s0 (cH (lU h5 O))
  refine sB (i4 h5) O (go6 ?_);refine J2 _ _ pp_ s0 (cH (q9 h5))
 intro g6;refine aS _ O (fun h7=>?_) (fun h7=>?_)
 ·refine go_ ?_;refine sQ (aY aK iK  rfl) O (go3 ?_);refine rtX O (iN O m0 tyT O) ?_;exact congrArg vS5 (show _=(lL a b) from bL h7 O)
 refine go3 ?_;refine sQ (aY aK (nA a b) O) O (go3 ?_);refine aS _ O (fun h8=>?_) (fun h8=>?_)
 ·refine go5 ?_;refine rtX O (iN O m0 tyT O) ?_;exact congrArg vS5 (show _=(lL a b) from aX h7 (bL h8 O))
 refine go6 ?_;refine rtX O (iN O m0 tyT O) ?_;exact congrArg vS5 (show _=(lL a b) from aX h7 (aX h8 O))
theorem H2 (a:Rt) (b:Rt) :
    Ret prog 171 [AV [pI a.n,pI a.d],AV [pI b.n,pI b.d]] (AV [pI ((lK a b).n),pI ((lK a b).d)]):=by
 refine bI (N:=22) func171 O O zz_ (fun w0=>?_);refine giI ?_;refine go2 ?_;intro b1 hb1;refine go_ ?_;intro b2 hb2;refine go_ ?_;intro b3 hb3;refine go3 ?_;refine gJv (rg [] 5 9) [(5,.bool (!(bD a)||(!(bD b))))] (fun K2 J2=>?_) ?_
 ·refine go2 ?_;refine sQ (aY aK (fC a) O) O (go_ ?_);rcases bt (bD a) with h5|h5
  ·refine sB (i3 h5) O (go_ ?_);refine sQ (aY aK (fC b) O) O (go4 ?_);refine J2 _ _ pp_ s0 (cH (lU h5 O))
  refine sB (i4 h5) O (go6 ?_);refine J2 _ _ pp_ s0 (cH (q9 h5))
 intro g6;refine aS _ O (fun h7=>?_) (fun h7=>?_)
 ·refine go_ ?_;refine sQ (aY aK iK  rfl) O (go3 ?_);refine rtX O (iN O m0 tyT O) ?_;exact congrArg vS5 (show _=(lK a b) from bL h7 O)
 refine go3 ?_;refine sQ (aY aK (nA a b) O) O (go3 ?_);refine aS _ O (fun h8=>?_) (fun h8=>?_)
 ·refine go5 ?_;refine rtX O (iN O m0 tyT O) ?_;exact congrArg vS5 (show _=(lK a b) from aX h7 (bL h8 O))
 refine go6 ?_;refine rtX O (iN O m0 tyT O) ?_;exact congrArg vS5 (show _=(lK a b) from aX h7 (aX h8 O))
theorem l8  :
  Ret prog 79 [] (AV [pI pS.lo.n,pI pS.lo.d,pI pS.hi.n,pI pS.hi.d]):=by
 refine bI (N:=4) func79 O O zz_ (fun w0=>?_);refine giI ?_;obtain ⟨q0,hq0⟩:=nm (F_ratio_Bad:Rt);refine go2 ?_;intro b1 hb1;refine go2 ?_;refine sC (AV [pI q0.n,pI q0.d]) aK iK O O (by rw [hq0]) (sC (AV [pI q0.n,pI q0.d]) aK iK O O (by rw [hq0]) (go4 ?_));refine rtX O (iN O m0 tyT O) ?_;exact (by obtain rfl:=hq0.symm;rfl)
theorem pF (a:Iv) :
    Ret prog 21 [AV [pI a.lo.n,pI a.lo.d,pI a.hi.n,pI a.hi.d]] (.bool (gO a)):=by
 refine bI (N:=26) func21 O O zz_ (fun w0=>?_);refine giI ?_;refine go2 ?_;intro b1 hb1;refine go2 ?_;refine gJv (rg [] 2 24) [(2,.bool ((decide (a.lo.n=pS.lo.n)&&(decide (a.lo.d=pS.lo.d)&&(decide (a.hi.n=pS.hi.n)&&decide (a.hi.d=pS.hi.d))))||(!(bD a.lo)||(!(bD a.hi)||decide (0<(e9 a.lo a.hi).1)))))] (fun K1 J1=>?_) ?_
 ·refine gdr (sk s0) [0,4,8,12,16,20,24,28,32,36,40,44,48,52,56,60,64,68,72,76,80,84,88,92] [] mix (by kernel_rfl) (go_ ?_);refine pQ O (aY aK l8  rfl) ?_;refine pQ O (nX (r:=(decide (a.lo.n=pS.lo.n)&&(decide (a.lo.d=pS.lo.d)&&(decide (a.hi.n=pS.hi.n)&&decide (a.hi.d=pS.hi.d))))) O O (jY 8 dd_ fQ_ f2_ (fT oN (fT oN (fT oN (jX oN)))) (fT oN (fT oN (fT oN (jX oN)))) (j4 O yC (j4 O yC (j4 O yC (nF yC)))))) ?_;refine pBB O (fun h5=>?_) (fun h5=>?_)
  ·refine eg_ ?_;refine J1 _ _ pp_ s0 (cH (qO h5))
  refine go2 ?_;refine pQ O (aY aK (fC a.lo) O) (go2 ?_);rcases bt (bD a.lo) with h6|h6
  ·refine pB (i3 h6) O (go2 ?_);refine pQ O (aY aK (fC a.hi) O) (go2 ?_);rcases bt (bD a.hi) with h7|h7
   ·refine pB (i3 h7) O (go4 ?_);refine pQ O (aY aK (nA a.lo a.hi) O) (go4 ?_);refine J1 _ _ pp_ s0 (cH (mD h5 (lU h6 (lU h7 O))))
   refine pB (i4 h7) O (go9 ?_);refine J1 _ _ pp_ s0 (cH (mD h5 (lU h6 (q9 h7))))
  refine pB (i4 h6) O (yE ?_);refine J1 _ _ pp_ s0 (cH (mD h5 (q9 h6)))
 intro g8;refine go_ ?_;refine rt1 ?_;exact (by rfl)
theorem uT (a:Rt) (b:Rt) :
   Ret prog 81 [AV [pI a.n,pI a.d],AV [pI b.n,pI b.d]] (AV [pI (((gL a b).lo).n),pI (((gL a b).lo).d),pI (((gL a b).hi).n),pI (((gL a b).hi).d)]):=by
 refine bI (N:=13) func81 O O zz_ (fun w0=>?_);refine giI ?_;refine go2 ?_;intro b1 hb1;refine go_ ?_;intro b2 hb2;refine go_ ?_;intro b3 hb3;refine go6 ?_;intro b4 hb4;refine go5 ?_;refine sQ (aY aK (pF (⟨a,b⟩:Iv)) O) O (go_ ?_);refine aS _ O (fun h5=>?_) (fun h5=>?_)
 ·refine go_ ?_;refine sQ (aY aK l8  rfl) O (go3 ?_);refine rtX O (iN O m1 tyT O) ?_;exact congrArg vS4 (show _=(gL a b) from bL h5 O)
 refine go6 ?_;refine rtX O (iN O m1 tyT O) ?_;exact congrArg vS4 (show _=(gL a b) from aX h5 O)
theorem kH (a:Rt) :
  Ret prog 23 [AV [pI a.n,pI a.d]] (AV [pI (((eA a).lo).n),pI (((eA a).lo).d),pI (((eA a).hi).n),pI (((eA a).hi).d)]):=by
 refine bI (N:=6) func23 O O zz_ (fun w0=>?_);refine giI ?_;refine go2 ?_;intro b1 hb1;refine go_ ?_;intro b2 hb2;refine go4 ?_;obtain ⟨r3,hr3⟩:=nm ((gL a a):Iv);refine sC (AV [pI r3.lo.n,pI r3.lo.d,pI r3.hi.n,pI r3.hi.d]) aK (uT a a) O O (by rw [hr3]) (go3 ?_);refine rtX O (iN O m0 tyT O) ?_;exact (by subst hr3;rfl)
theorem mQ (vl:Value) (l:(List Iv)) (w:World) (hl:Slr w vN vl l) :
    Calls prog 80 [vl].toArray w (fun e w'=>e = .returned (.bool (dO l))∧Ext w w'):=by
 refine cY (N:=14) func80 O O zz_ ?_;obtain ⟨w0,rfl⟩:=nm w;have Hl:=hl.old;have hm_l:=hl.max;refine giI ?_;refine go6 ?_;refine sQ (bT GZ O (SLe.sub Hl sn)) O (go2 ?_);refine gJ3 (rg [2,4] 7 7) (fun g M=>(fY l l) = .inl ()∧(True)∧M=[]) (fun K_u1 hK_u1=>?_) ?_
 ·refine go_ ?_;have hmx0:(l).length≤9223372036854775807:=hm_l;refine cF (rg [2,4] 7 7) (fun g nn M=>∃ (i0:Nat) (l0:List Iv),(fY l l0)=(fY l l)∧(l).drop i0=l0∧l0.length=nn∧g 7 = .int .i64 (i0:Int)∧(True)∧M=[]) l.length ?start ?round
  case start=>exact ⟨_,s0,0,l,rfl,rfl,rfl,rfl,trivial,rfl⟩
  case round =>
   rintro nn g M ⟨i0,l0,hT0,hr0,rfl,hgi,-,rfl⟩;refine gS1 hgi ?_;clear hgi;refine go4 ?_;rcases l0 with _|⟨x0,l0⟩
   ·have h12:=zC hr0;refine W_f h12 O (go_ ?_);refine hK_u1 _ _ pp_ ⟨_,s0,(by exact hT0.symm.trans (Eq.symm rfl)),trivial,rfl⟩
   have h13:=vH hr0;have g14:=rG hr0;refine W_t h13 O (go4 ?_);refine sQ (aE (v':=.pointer (some (slb vl (i0*72+0)))) (aM (e:=vN) (l:=l) (k:=i0) GZ O O (SLe.sub Hl sn) g14.2.1) O) O (sQ (bM (e:=vN) (l:=l) (k:=i0) (o:=0) tyT O (SLe.sub Hl sn) g14.1 O) O (go_ ?_));intro b15 hb15;refine go4 ?_;refine sQ (aY aK (pF x0) O) O (go_ ?_);refine aS _ O (fun h16=>?_) (fun h16=>?_)
   ·refine go4 ?_;refine rt1 ?_;exact congrArg vS0 (show _=(dO l) from (xX O (hT0.symm.trans (Eq.symm (bL h16 O)))))
   refine go2 ?_;refine sV (.int .i64 ((i0+1:Nat):Int)) O (congrArg (Value.int .i64) (nxt g14.2.1 hmx0)) (go2 ?_);refine ⟨pp_,_,_,(sd s0),(Nat.lt_succ_self _),i0+1,l0,(by exact (hT0.symm.trans (Eq.symm (aX h16 O))).symm),g14.2.2,rfl,rfl,trivial,rfl⟩
 rintro g M ⟨hCu1,-,rfl⟩;refine gS0 ?_;refine go4 ?_;refine rt1 ?_;exact congrArg vS0 (show _=(dO l) from trs (Eq.symm (smS hCu1)) O)
theorem CM (a:Iv) (b:Iv) :
   Ret prog 24 [AV [pI a.lo.n,pI a.lo.d,pI a.hi.n,pI a.hi.d],AV [pI b.lo.n,pI b.lo.d,pI b.hi.n,pI b.hi.d]] (AV [pI (((iX a b).lo).n),pI (((iX a b).lo).d),pI (((iX a b).hi).n),pI (((iX a b).hi).d)]):=by
 refine bI (N:=22) func24 O O zz_ (fun w0=>?_);refine giI ?_;refine go2 ?_;intro b1 hb1;refine go_ ?_;intro b2 hb2;refine go_ ?_;intro b3 hb3;refine go5 ?_;refine aQ O (bQ [[pI a.lo.n,pI a.lo.d,pI a.hi.n,pI a.hi.d],[pI b.lo.n,pI b.lo.d,pI b.hi.n,pI b.hi.d]] [pI a.lo.n,pI a.lo.d,pI a.hi.n,pI a.hi.d,pI b.lo.n,pI b.lo.d,pI b.hi.n,pI b.hi.d] HK SC HE O dd_ O O ⟨rfl,rfl,rfl,rfl,rfl,rfl,trivial⟩ O (fun b4 hb4=>sFc (.bool (dO [a,b])) O (fun w hw=>mQ _ ([a,b]) w (SLe.ap hw (SLe.lit (e:=vN) (l:=[a,b]) m0 O (Nat.le_of_ble_eq_true O) O))) O O (go2 ?_)));rcases bt (dO [a,b]) with h5|h5
 ·refine W_f (i3 h5) O (go_ ?_);refine jN (sk (sd (sk (sk s0)))) 12 [11] [11] (go4 ?_);refine pQ O (aY aK (rT a.lo b.lo) O) (go4 ?_);refine pQ O (aY aK (rT a.hi b.hi) O) ?_;obtain ⟨r6,hr6⟩:=nm ((gL (gU a.lo b.lo) (gU a.hi b.hi)):Iv);refine pC (AV [pI r6.lo.n,pI r6.lo.d,pI r6.hi.n,pI r6.hi.d]) aK (uT (gU a.lo b.lo) (gU a.hi b.hi)) O O (by rw [hr6]) (go3 ?_);refine rtX O (iN O m1 tyT O) ?_;exact (by subst hr6;exact congrArg vS4 (show _=(iX a b) from bL h5 O))
 refine W_t (i4 h5) O (go_ ?_);refine sQ (aY aK l8  rfl) O (go3 ?_);refine rtX O (iN O m1 tyT O) ?_;exact congrArg vS4 (show _=(iX a b) from aX h5 O)
theorem nH (vl:Value) (l:(List Iv)) (w:World) (hl:Slr w vN vl l) :
    Calls prog 125 [vl].toArray w (fun e w'=>e = .returned (AV [pI (((eZ l).lo).n),pI (((eZ l).lo).d),pI (((eZ l).hi).n),pI (((eZ l).hi).d)])∧Ext w w'):=by
 refine cY (N:=39) func125 O O zz_ ?_;obtain ⟨w0,rfl⟩:=nm w;have Hl:=hl.old;have hm_l:=hl.max;refine giI ?_;refine go2 ?_;intro b1 hb1;refine go2 ?_;refine gJv (rg [] 6 8) [(13,.bool (((l.length:Int)==0)||(!(dO l))))] (fun K2 J2=>?_) ?_
 ·refine go2 ?_;refine sQ (bT GZ O (SLe.sub Hl sn)) O (go_ ?_);refine sBB O (fun h3=>?_) (fun h3=>?_)
  ·have ph3:=wG h3;refine go5 ?_;refine J2 _ _ pp_ s0 (cH (qO h3))
  have ph3:=oO h3;refine go_ ?_;refine sFc (.bool (dO l)) O (c1_ (mQ _ l) Hl sn) O O (go3 ?_);refine J2 _ _ pp_ s0 (cH (mD h3 O))
 intro g4;refine aS _ O (fun h5=>?_) (fun h5=>?_)
 ·refine go_ ?_;refine sQ (aY aK l8  rfl) O (go3 ?_);refine rtX O (iN O m0 tyT O) ?_;exact congrArg vS4 (show _=(eZ l) from bL h5 O)
 have ph6:=oO (Bool.or_eq_false_iff.1 h5).1;refine go3 ?_;have pl:=oO (Bool.or_eq_false_iff.1 h5).1;refine sQ (aE (v':=.pointer (some (slb vl (0*72+0)))) (aM (e:=vN) (l:=l) (k:=0) GZ O O (SLe.sub Hl sn) oo_) O) O (sQ (bM (e:=vN) (l:=l) (k:=0) (o:=0) tyT O (SLe.sub Hl sn) (aF Iv0 oo_) O) O (go_ ?_));intro b7 hb7;refine go5 ?_;refine sQ (eP_ (e:=vN) (k:=1) GZ O O (SLe.sub Hl sn) oo_) O (sQ (aE (v':=.int .i64 ((l.drop 1).length:Int)) (bT (e:=vN) GZ O (SLe.sub (SLe.drop (e:=vN) Hl oo_) sn)) O) O (go2 ?_));refine gJ3 (rg [5] 21 17) (fun g M=>∃ (mb7:Iv),(jZ l (l.drop 1) (l.getD 0 Iv0))=mb7∧(True)∧M=[⟨b7,47,aW [pI mb7.lo.n,pI mb7.lo.d,pI mb7.hi.n,pI mb7.hi.d]⟩,⟨b1,47,aW [pI I0,pI I0,pI I0,pI I0]⟩]) (fun K_u8 hK_u8=>?_) ?_
 ·refine go_ ?_;have hmx0:(l.drop 1).length≤9223372036854775807:=(by simp;omega);refine cF (rg [5] 21 17) (fun g nn M=>∃ (i0:Nat) (l0:List Iv) (mb7:Iv),(jZ l l0 mb7)=(jZ l (l.drop 1) (l.getD 0 Iv0))∧(l.drop 1).drop i0=l0∧l0.length=nn∧g 21 = .int .i64 (i0:Int)∧(True)∧M=[⟨b7,47,aW [pI mb7.lo.n,pI mb7.lo.d,pI mb7.hi.n,pI mb7.hi.d]⟩,⟨b1,47,aW [pI I0,pI I0,pI I0,pI I0]⟩]) (l.drop 1).length ?start ?round
  case start=>exact ⟨_,s0,0,(l.drop 1),(l.getD 0 Iv0),rfl,rfl,rfl,rfl,trivial,rfl⟩
  case round =>
   rintro nn g M ⟨i0,l0,mb7,hT0,hr0,rfl,hgi,-,rfl⟩;refine gS1 hgi ?_;clear hgi;refine go4 ?_;rcases l0 with _|⟨x0,l0⟩
   ·have h19:=zC hr0;refine W_f h19 O (go_ ?_);refine hK_u8 _ _ pp_ ⟨_,s0,mb7,(by exact hT0.symm.trans (Eq.symm rfl)),trivial,rfl⟩
   have h20:=vH hr0;have g21:=rG hr0;refine W_t h20 O (go4 ?_);refine sQ (aE (v':=.pointer (some (slb (slk 1 72 vl) (i0*72+0)))) (aM (e:=vN) (l:=(l.drop 1)) (k:=i0) GZ O O (SLe.sub (SLe.drop (e:=vN) Hl oo_) sn) g21.2.1) O) O (sQ (bM (e:=vN) (l:=(l.drop 1)) (k:=i0) (o:=0) tyT O (SLe.sub (SLe.drop (e:=vN) Hl oo_) sn) g21.1 O) O (go_ ?_));intro b22 hb22;refine go2 ?_;refine kV (sk (sd (sk s0))) 14 [11,13] [11,13] (go4 ?_);refine pQ O (aY aK (H4 mb7.lo x0.lo) O) (go4 ?_);refine pQ O (aY aK (H2 mb7.hi x0.hi) O) (go6 ?_);refine sV (.int .i64 ((i0+1:Nat):Int)) O (congrArg (Value.int .i64) (nxt g21.2.1 hmx0)) (go2 ?_);refine ⟨pp_,_,_,(sd s0),(Nat.lt_succ_self _),i0+1,l0,(⟨(lL mb7.lo x0.lo),(lK mb7.hi x0.hi)⟩:Iv),(by exact (hT0.symm.trans (Eq.symm rfl)).symm),g21.2.2,rfl,rfl,trivial,rfl⟩
 rintro g M ⟨mb7,hCu8,-,rfl⟩;refine gS0 ?_;refine go5 ?_;refine rtX O (iN O m1 tyT O) ?_;exact congrArg vS4 (show _=(eZ l) from aX h5 (trs (Eq.symm (apS hCu8)) O))
theorem vQ (a:Iv) (b:Rt) :
    Ret prog 22 [AV [pI a.lo.n,pI a.lo.d,pI a.hi.n,pI a.hi.d],AV [pI b.n,pI b.d]] (.bool (gW a b)):=by
 refine bI (N:=26) func22 O O zz_ (fun w0=>?_);refine giI ?_;refine go2 ?_;intro b1 hb1;refine go_ ?_;intro b2 hb2;refine go2 ?_;refine gJv (rg [] 4 22) [(4,.bool ((dO [a])&&((bD b)&&(decide ((e9 a.lo b).1≤0)&&decide ((e9 b a.hi).1≤0)))))] (fun K1 J1=>?_) ?_
 ·refine go2 ?_;refine aQ O (bQ [[pI a.lo.n,pI a.lo.d,pI a.hi.n,pI a.hi.d]] [pI a.lo.n,pI a.lo.d,pI a.hi.n,pI a.hi.d] HK SC HE O dd_ O O ⟨rfl,rfl,rfl,trivial⟩ O (fun b8 hb8=>sFc (.bool (dO [a])) O (fun w hw=>mQ _ ([a]) w (SLe.ap hw (SLe.lit (e:=vN) (l:=[a]) m0 O (Nat.le_of_ble_eq_true O) O))) O O ?_));refine sBB O (fun h9=>?_) (fun h9=>?_)
  ·refine go_ ?_;refine sQ (aY aK (fC b) O) O (go_ ?_);refine sBB O (fun h10=>?_) (fun h10=>?_)
   ·refine go3 ?_;refine sQ (aY aK (nA a.lo b) O) O (go2 ?_);refine sBB O (fun h11=>?_) (fun h11=>?_)
    ·refine go3 ?_;refine sQ (aY aK (nA b a.hi) O) O (go4 ?_);refine J1 _ _ pp_ (sd s0) (cH (j8 h9 (j8 h10 (j8 h11 O))))
    refine go8 ?_;refine J1 _ _ pp_ (sd s0) (cH (j8 h9 (j8 h10 (nT h11))))
   refine yE ?_;refine J1 _ _ pp_ (sd s0) (cH (j8 h9 (nT h10)))
  refine hb_ ?_;refine J1 _ _ pp_ (sd s0) (cH (nT h9))
 intro g12;refine go_ ?_;refine rt1 ?_;exact (by rfl)
theorem CN (a:Iv) (b:Iv) :
   Ret prog 25 [AV [pI a.lo.n,pI a.lo.d,pI a.hi.n,pI a.hi.d],AV [pI b.lo.n,pI b.lo.d,pI b.hi.n,pI b.hi.d]] (AV [pI (((iY a b).lo).n),pI (((iY a b).lo).d),pI (((iY a b).hi).n),pI (((iY a b).hi).d)]):=by
 refine bI (N:=8) func25 O O zz_ (fun w0=>?_);refine giI ?_;refine go2 ?_;intro b1 hb1;refine go_ ?_;intro b2 hb2;refine go_ ?_;intro b3 hb3;refine go4 ?_;refine aQ O (rB aK func82 O O O (Nat.le_of_ble_eq_true O) ?_);refine go2 ?_;intro b4 hb4;refine go_ ?_;intro b5 hb5;refine go_ ?_;intro b6 hb6;refine go5 ?_;refine aQ O (bQ [[pI a.lo.n,pI a.lo.d,pI a.hi.n,pI a.hi.d],[pI b.lo.n,pI b.lo.d,pI b.hi.n,pI b.hi.d]] [pI a.lo.n,pI a.lo.d,pI a.hi.n,pI a.hi.d,pI b.lo.n,pI b.lo.d,pI b.hi.n,pI b.hi.d] HK SC HE O dd_ O O ⟨rfl,rfl,rfl,rfl,rfl,rfl,trivial⟩ O (fun b7 hb7=>sFc (.bool (dO [a,b])) O (fun w hw=>mQ _ ([a,b]) w (SLe.ap hw (SLe.lit (e:=vN) (l:=[a,b]) m0 O (Nat.le_of_ble_eq_true O) O))) O O (go2 ?_)));rcases bt (dO [a,b]) with h8|h8
 ·refine W_f (i3 h8) O (go3 ?_);intro b9 hb9;refine go3 ?_;intro b10 hb10;refine go7 ?_;refine aQ O (rB aK func124 O O O (Nat.le_of_ble_eq_true O) ?_);refine go2 ?_;intro b11 hb11;refine go_ ?_;intro b12 hb12;refine sX [cfn 83 []] O O O fun b13 hb13=>go3 ?_;refine sQ (nY O O) O (go3 ?_);refine rt1 ?_;refine go2 ?_;refine EG O aK func169 O O (Nat.le_of_ble_eq_true O) (Nat.le_of_ble_eq_true O) (fun ly3 qy3 hzy3 hpy3 hay3 hby3 hty3=>?_);refine go7 ?_;refine sQ (CY aK O (o5 a.lo b.lo) O) O (sK O (qT (ps:=[20]) O O O hpy3 hay3 hby3 hty3 O O hzy3 ?_));refine go2 ?_;intro b15 hb15;refine go2 ?_;refine qZ ?_;refine go8 ?_;obtain ⟨r16,hr16⟩:=nm ((eA (dQ a.lo b.lo)):Iv);refine sC (AV [pI r16.lo.n,pI r16.lo.d,pI r16.hi.n,pI r16.hi.d]) aK (kH (dQ a.lo b.lo)) O O (by rw [hr16]) (go3 ?_);refine gdr (sk (sk (sk (sk (sk (sd (sk (sk (sk (sk (sk (sk (sk s0))))))))))))) [0,4,8,13,16,21] [5] mix (by kernel_rfl) (go2 ?_);obtain ⟨r17,hr17⟩:=nm ((eA (dQ a.lo b.lo)):Iv);refine pC (AV [pI r17.lo.n,pI r17.lo.d,pI r17.hi.n,pI r17.hi.d]) aK (kH (dQ a.lo b.lo)) O O (by rw [hr17]) (dA O O (bQ [[pI r16.lo.n,pI r16.lo.d,pI r16.hi.n,pI r16.hi.d],[pI r17.lo.n,pI r17.lo.d,pI r17.hi.n,pI r17.hi.d]] [pI r16.lo.n,pI r16.lo.d,pI r16.hi.n,pI r16.hi.d,pI r17.lo.n,pI r17.lo.d,pI r17.hi.n,pI r17.hi.d] HK SC HE O dd_ O O ⟨rfl,rfl,rfl,rfl,rfl,rfl,trivial⟩ O (fun b18 hb18=>⟨(fun _=>sd s0),(sd (sk (sk (sk (sk (sk (sd s0))))))),?_⟩)));obtain ⟨r19,hr19⟩:=nm ((eZ [r16,r17]):Iv);refine pQ O (aE (v':=AV [pI r19.lo.n,pI r19.lo.d,pI r19.hi.n,pI r19.hi.d]) (dZ aK O (fun w hw=>nH _ ([r16,r17]) w (SLe.ap hw (SLe.lit (e:=vN) (l:=[r16,r17]) m0 O (Nat.le_of_ble_eq_true O) O)))) (by rw [hr19])) (go2 ?_);refine qS ?_;refine go7 ?_;refine sQ (CY aK O (o5 a.lo b.hi) O) O (sK O (qT (ps:=[20]) O O O hpy3 hay3 hby3 hty3 O O hzy3 ?_));refine go2 ?_;intro b20 hb20;refine go2 ?_;refine qZ ?_;refine go7 ?_;refine gdr (sk (sk (sk (sk (sk (sk (sk (sd (sk (sk (sk (sk (sk (sk (sk s0))))))))))))))) [0,4,8,13,16,21] [5] mix (by kernel_rfl) (go2 ?_);obtain ⟨r21,hr21⟩:=nm ((eA (dQ a.lo b.hi)):Iv);refine pC (AV [pI r21.lo.n,pI r21.lo.d,pI r21.hi.n,pI r21.hi.d]) aK (kH (dQ a.lo b.hi)) O O (by rw [hr21]) (dA O O (bQ [[pI r19.lo.n,pI r19.lo.d,pI r19.hi.n,pI r19.hi.d],[pI r21.lo.n,pI r21.lo.d,pI r21.hi.n,pI r21.hi.d]] [pI r19.lo.n,pI r19.lo.d,pI r19.hi.n,pI r19.hi.d,pI r21.lo.n,pI r21.lo.d,pI r21.hi.n,pI r21.hi.d] HK SC HE O dd_ O O ⟨rfl,rfl,rfl,rfl,rfl,rfl,trivial⟩ O (fun b22 hb22=>⟨(fun _=>sd s0),(sd (sk (sk (sk (sk (sk (sk (sk (sd s0))))))))),?_⟩)));obtain ⟨r23,hr23⟩:=nm ((eZ [r19,r21]):Iv);refine pQ O (aE (v':=AV [pI r23.lo.n,pI r23.lo.d,pI r23.hi.n,pI r23.hi.d]) (dZ aK O (fun w hw=>nH _ ([r19,r21]) w (SLe.ap hw (SLe.lit (e:=vN) (l:=[r19,r21]) m0 O (Nat.le_of_ble_eq_true O) O)))) (by rw [hr23])) (go2 ?_);refine qS ?_;refine go8 ?_;refine sQ (CY aK O (o5 a.hi b.lo) O) O (sK O (qT (ps:=[20]) O O O hpy3 hay3 hby3 hty3 O O hzy3 ?_));refine go2 ?_;intro b24 hb24;refine go2 ?_;refine qZ ?_;refine go7 ?_;refine gdr (sk (sk (sk (sk (sk (sk (sk (sk (sk (sd (sk (sk (sk (sk (sk (sk (sk s0))))))))))))))))) [0,4,8,13,16,21] [5] mix (by kernel_rfl) (go2 ?_);obtain ⟨r25,hr25⟩:=nm ((eA (dQ a.hi b.lo)):Iv);refine pC (AV [pI r25.lo.n,pI r25.lo.d,pI r25.hi.n,pI r25.hi.d]) aK (kH (dQ a.hi b.lo)) O O (by rw [hr25]) (dA O O (bQ [[pI r23.lo.n,pI r23.lo.d,pI r23.hi.n,pI r23.hi.d],[pI r25.lo.n,pI r25.lo.d,pI r25.hi.n,pI r25.hi.d]] [pI r23.lo.n,pI r23.lo.d,pI r23.hi.n,pI r23.hi.d,pI r25.lo.n,pI r25.lo.d,pI r25.hi.n,pI r25.hi.d] HK SC HE O dd_ O O ⟨rfl,rfl,rfl,rfl,rfl,rfl,trivial⟩ O (fun b26 hb26=>⟨(fun _=>sd s0),(sd (sk (sk (sk (sk (sk (sk (sk (sk (sk (sd s0))))))))))),?_⟩)));obtain ⟨r27,hr27⟩:=nm ((eZ [r23,r25]):Iv);refine pQ O (aE (v':=AV [pI r27.lo.n,pI r27.lo.d,pI r27.hi.n,pI r27.hi.d]) (dZ aK O (fun w hw=>nH _ ([r23,r25]) w (SLe.ap hw (SLe.lit (e:=vN) (l:=[r23,r25]) m0 O (Nat.le_of_ble_eq_true O) O)))) (by rw [hr27])) (go2 ?_);refine qS ?_;refine go8 ?_;refine sQ (CY aK O (o5 a.hi b.hi) O) O (sK O (qT (ps:=[20]) O O O hpy3 hay3 hby3 hty3 O O hzy3 ?_));refine go2 ?_;intro b28 hb28;refine go2 ?_;refine qZ ?_;refine go7 ?_;refine gdr (sk (sk (sk (sk (sk (sk (sk (sk (sk (sk (sk (sd (sk (sk (sk (sk (sk (sk (sk s0))))))))))))))))))) [0,4,8,13,16,21] [5] mix (by kernel_rfl) (go2 ?_);obtain ⟨r29,hr29⟩:=nm ((eA (dQ a.hi b.hi)):Iv);refine pC (AV [pI r29.lo.n,pI r29.lo.d,pI r29.hi.n,pI r29.hi.d]) aK (kH (dQ a.hi b.hi)) O O (by rw [hr29]) (dA O O (bQ [[pI r27.lo.n,pI r27.lo.d,pI r27.hi.n,pI r27.hi.d],[pI r29.lo.n,pI r29.lo.d,pI r29.hi.n,pI r29.hi.d]] [pI r27.lo.n,pI r27.lo.d,pI r27.hi.n,pI r27.hi.d,pI r29.lo.n,pI r29.lo.d,pI r29.hi.n,pI r29.hi.d] HK SC HE O dd_ O O ⟨rfl,rfl,rfl,rfl,rfl,rfl,trivial⟩ O (fun b30 hb30=>⟨(fun _=>sd s0),(sd (sk (sk (sk (sk (sk (sk (sk (sk (sk (sk (sk (sd s0))))))))))))),?_⟩)));obtain ⟨r31,hr31⟩:=nm ((eZ [r27,r29]):Iv);refine pQ O (aE (v':=AV [pI r31.lo.n,pI r31.lo.d,pI r31.hi.n,pI r31.hi.d]) (dZ aK O (fun w hw=>nH _ ([r27,r29]) w (SLe.ap hw (SLe.lit (e:=vN) (l:=[r27,r29]) m0 O (Nat.le_of_ble_eq_true O) O)))) (by rw [hr31])) (go2 ?_);refine qS ?_;refine go2 ?_;refine (LG O (.inl O) O ?_);refine go0 ?_;refine go5 ?_;refine rtX O (iN O (mC (mC (mC (mC (mC (mC (mC (mC (mC (mC (mC (mC (mC (mC mZ)))))))))))))) tyT O) ?_;refine go3 ?_;refine rtX O (iN O (mC (mC (mC (mC (mC (mC (mC (mC (mC (mC (mC (mC (mC (mC (mC (mC (mC mZ))))))))))))))))) tyT O) ?_
  subst_vars;exact congrArg vS4 (show _=(iY a b) from bL h8 O)
 refine W_t (i4 h8) O (go_ ?_);refine sQ (aY aK l8  rfl) O (go3 ?_);refine rtX O (iN O m1 tyT O) ?_;refine go3 ?_;refine rtX O (iN O m4 tyT O) ?_;exact congrArg vS4 (show _=(iY a b) from aX h8 O)
theorem o6 (va vb:Value) (A B:Nat) (hB:0<B) (hna:(dl A).length≤190) (hnb:(dl B).length≤190) (w:World) (hva:Sl w va (dl A)) (hvb:Sl w vb (dl B)) :
    Calls prog 156 [va,vb].toArray w (fun e w'=>∃ v1 v2,e = .returned (.tuple #[v1,v2])∧Ext w w'∧Slf w.heap.size w' v1 (dl (A / B))∧Slf w.heap.size w' v2 (dl (A % B))):=by
 refine HX (N:=84) func156 O O zz_ ?_;obtain ⟨w0,rfl⟩:=nm w;refine giI ?_;have hn0:1≤(dl B).length:=Nat.pos_of_ne_zero (fun hc=>by rw [KR] at hc;omega);obtain ⟨tp,htp⟩:∃ tp,tp=(dg B ((dl B).length - 1)*65536+atD (dl B) (((dl B).length:Int) - 2)):=⟨_,rfl⟩;refine go6 ?_;refine sQ (lT cC O hva.old) O (aQ O (ai_ fQ RT z_3 O O oo_ (fun b15 hb15=>go4 ?_)));refine sQ (lT cC O hvb.old) O (go3 ?_);refine kV sn 12 [] [] (go2 ?_);refine pQ O (aE (lV O O) (congrArg (Value.int .i64) (qX (b:=1) O oo_ oo_))) (pQ O (wP cC O O hvb.old oo_) (pQ O (aE (tB tyT O hvb.old oo_) (congrArg IV (zD B _))) (go3 ?_)));refine pQ O (aE (lV O O) (congrArg (Value.int .i64) (UG oo_ dd_ dd_))) (pQ O (dZ aK O (fun w hw=>lQ vb (dl B) _ w (SL.sl (M:=_) hvb.old hw))) (pQ O (aE (gP O O) (show _=Value.int .i64 (tp:Int) from congrArg (Value.int .i64) (by rw [htp];exact cE_ (lE _ _) (AA _ _)))) (go8 ?_)));refine sQ (lT cC O hva.old) O (go4 ?_);refine cF (rg [9,10,11,12] 32 49) (fun g nn M=>∃ (k R:Nat) (qs:List Nat) (vr:Value) (L:List Blk),(g 9=vr∧g 10 = .int .i64 ((k:Int) - 1))∧M=L++[⟨b15,3,iw qs⟩]∧nn=k+0∧(k≤(dl A).length∧DivIn A B (dl A).length k R qs∧SLf w0 L vr (dl R))) ((dl A).length) ?start ?round
 case start =>
  refine ⟨_,(List.Sublist.refl _),(dl A).length,0,_,_,[],⟨?a9,?a10⟩,?mem0,rfl,⟨Nat.le_refl _,DivIn.start (IS A),by rw [pZ];exact SLf.none⟩⟩
  case mem0=>rfl
  case a9=>rfl
  case a10=>exact congrArg (Value.int .i64) (UG oo_ dd_ dd_)
 case round =>
  rintro nn g M ⟨k,R,qs,vr,L,⟨hg9,hg10⟩,rfl,hmeas,⟨hk,hI,hr⟩⟩;subst nn;refine gS2 hg9 hg10 ?_;clear hg9 hg10;refine go5 ?_;refine aS _ O (fun hc=>?_) (fun hc=>?_)
  ·replace hc:=cB_ hc
   obtain ⟨m,rfl⟩:∃ m,k=m+1:=⟨k - 1,by omega⟩
   have hRB:R<B:=by rw [hI.rest];exact Nat.mod_lt _ hB
   have hRl:(dl R).length≤190:=Nat.le_trans (fO_ (Nat.le_of_lt hRB)) hnb;refine go5 ?_;refine sQ (aE (iF O) (congrArg (Value.int .i64) (show (((m+1:Nat):Int) - 1)=(m:Int) by omega))) O (sQ (wP cC O O hva.old oo_) O (sQ (aE (tB tyT O hva.old oo_) (congrArg IV (zD A m))) O (aQ O (hZ fQ z_3 n5 O dd_ O (CJ _) (fun b40 hb40=>go_ ?_)))));have hC8:=ST (R:=R) (lE A m);refine aQ O (yQ fQ RT O O (OwnL.of_mine (l:=[dg A m]) hb40 (show 1≤maxLen by decide)) (hr.sl.sub (.cons _ lZ)) (List.Sublist.refl _) (by simp only [List.length_singleton];omega) (fun v8 L8 hO8=>?_));refine sQ (dZ aK O (fun w hw=>gV v8 ([dg A m]++dl R) hC8.1 (by simp only [List.length_append,List.length_singleton];omega) w (SL.sl (hO8.sl lZ) hw))) O ?_;refine go2 ?_;have hC8:=ST (R:=R) (lE A m);have hr8:=tI hC8.1 hC8.2 (hO8.slf (List.Sublist.refl _));generalize sls v8 (dl (dv ([dg A m]++dl R))).length=vr8 at hr8 ⊢
   have hR8:(R*65536+dg A m)<65536*B:=by have:=lE A m;omega
   obtain ⟨nm,hnm⟩:∃ nm,nm=(atD (dl (R*65536+dg A m)) ((dl B).length:Int)*4294967296+atD (dl (R*65536+dg A m)) (((dl B).length:Int) - 1)*65536+atD (dl (R*65536+dg A m)) (((dl B).length:Int) - 2)):=⟨_,rfl⟩;obtain ⟨d0,hd0⟩:∃ d0,d0=min 65535 (nm / tp):=⟨_,rfl⟩
   have G8:0<tp∧(R*65536+dg A m) / B≤d0∧d0≤65535:=by rw [hd0,hnm,htp];have hg:=YV hB hR8 O hn0;exact ⟨hg.1,hg.2,Nat.min_le_left _ _⟩
   have hl8:(dl (R*65536+dg A m)).length≤192:=Nat.le_trans (tN (k:=(dl B).length+1) (by have:=IS B;rw [Nat.pow_succ];omega)) oo_;refine go3 ?_;refine sQ (dZ aK O (fun w hw=>lQ _ (dl (R*65536+dg A m)) _ w (SL.sl (M:=_) (hr8.sl.sub lZ) hw))) O (go3 ?_);refine sQ (aE (lV O O) (congrArg (Value.int .i64) (UG oo_ dd_ dd_))) O (sQ (dZ aK O (fun w hw=>lQ _ (dl (R*65536+dg A m)) _ w (SL.sl (M:=_) (hr8.sl.sub lZ) hw))) O (go4 ?_));refine sQ (aE (lV O O) (congrArg (Value.int .i64) (UG oo_ dd_ dd_))) O (sQ (dZ aK O (fun w hw=>lQ _ (dl (R*65536+dg A m)) _ w (SL.sl (M:=_) (hr8.sl.sub lZ) hw))) O (sQ (aE (gP O O) (show _=Value.int .i64 (nm:Int) from congrArg (Value.int .i64) (by rw [hnm];exact b8_ (AA _ _) (AA _ _) (AA _ _)))) O (go_ ?_)));refine sQ (aE (o4 O O (fun hc=>Nat.lt_irrefl 0 (Nat.lt_of_lt_of_eq G8.1 (Int.natCast_eq_zero.1 hc)))) (congrArg (Value.int .i64) (O8 (by rw [hnm];exact eA_ _ _ _ _)))) O (sQ (aE (eM_ (a:=65535) O O) (congrArg (fun n:Nat=>Value.int .i64 (n:Int)) hd0.symm)) O (go5 ?_));refine aQ O (hZ fQ z_3 n5 O dd_ O (CJ _) (fun b64 hb64=>aQ O (l9 aK O (fun w hw=>vZ vb _ (dl B) [d0] (tM B) (DL.one oo_) oo_ zz_ w (SL.sl (M:=_) hvb.old hw) (SL.sl (SL.mine (l:=[d0]) (.head _) (Nat.le_refl _)) hw)) (fun vp0 Lp0 hp0=>?_))));refine go4 ?_;refine cF (rg [11,12] 66 8) (fun g nn M=>∃ (d:Nat) (vp:Value) (Lp:List Blk),(g 11 = .int .i64 (d:Int)∧g 12=vp)∧M=Lp++(L8++(L++[⟨b15,3,iw qs⟩]))∧nn=d∧(((R*65536+dg A m) / B≤d∧d≤65535)∧SLf w0 Lp vp (dl (B*d)))) d0 ?start ?round
   case start =>
    refine ⟨_,(List.Sublist.append (List.Sublist.refl _) (List.Sublist.cons _ (List.Sublist.refl _))),d0,vp0,Lp0,⟨?a11,?a12⟩,?mem0,rfl,⟨⟨G8.2.1,G8.2.2⟩,by have:=hp0;rw [nE] at this;simpa [dv] using this⟩⟩
    case mem0=>rfl
    case a11=>rfl
    case a12=>rfl
   case round =>
    rintro nn g M ⟨d,vp,Lp,⟨hg11,hg12⟩,rfl,hmeas,⟨hd,hp⟩⟩;subst nn;refine gS2 hg11 hg12 ?_;clear hg11 hg12;have hpl:(dl (B*d)).length≤195:=Nat.le_trans (tN (k:=(dl B).length+1) (by have:=IS B;have h1:=Nat.mul_le_mul_left B hd.2;rw [Nat.pow_succ];omega)) oo_;refine go4 ?_;refine sQ (dZ aK O (fun w hw=>wU _ vp (dl (R*65536+dg A m)) (dl (B*d)) (tM _) (tM _) oo_ oo_ w (SL.sl (hr8.sl.sub (.trans lZ (List.sublist_append_right _ _))) hw) (SL.sl (hp.sl.sub lZ) hw))) O (go_ ?_);refine aS _ O (fun h68=>?_) (fun h68=>?_)
    ·replace h68:=cB_ h68
     rw [nE,nE] at h68;have hless:=X6 hB hd.1 h68;refine go4 ?_;refine sQ (aE (lV O O) (congrArg (Value.int .i64) (qX (b:=1) O hless.1 oo_))) O (go5 ?_);refine aQ O (l9 aK O (fun w hw=>pO vp vb (dl (B*d)) (dl B) (tM _) (tM _) oo_ oo_ (by rw [nE,nE];exact hless.2.2.1) w (SL.sl (hp.sl.sub lZ) hw) (SL.sl (M:=_) hvb.old hw)) (fun vp2 Lp2 hp2=>go2 ?_));refine ⟨pp_,_,_,(List.Sublist.append (List.Sublist.refl _) (List.sublist_append_right _ _)),(by have:=hless.1;omega),d - 1,vp2,Lp2,⟨?s11,?s12⟩,?mem,rfl,⟨⟨hless.2.1,by omega⟩,by rw [nE,nE,hless.2.2.2] at hp2;exact hp2⟩⟩
     case mem=>rfl
     case s11=>rfl
     case s12=>rfl
    replace h68:=cB_ h68
    rw [nE,nE] at h68;have hdone:=X4 hB hd.1 h68;refine go3 ?_;refine sQ (aE (iF O) (congrArg (Value.int .i64) (show (((m+1:Nat):Int) - 1)=(m:Int) by omega))) O (go_ ?_);refine sQ (AN cC O O oo_ oo_) O (aQ O (GO tyT O O (uL (uL (uL uH))) (by rw [hI.len];omega) (.inl eX) (go4 ?_)));refine aQ O (l9 aK O (fun w hw=>pO _ vp (dl (R*65536+dg A m)) (dl (B*d)) (tM _) (tM _) oo_ oo_ (by rw [nE,nE];exact hdone.2.2) w (SL.sl (hr8.sl.sub (.trans lZ (List.sublist_append_right _ _))) hw) (SL.sl (hp.sl.sub lZ) hw)) (fun vr2 Lr2 hr2=>go3 ?_));refine sQ (aE (iF O) (congrArg (Value.int .i64) (show (((m+1:Nat):Int) - 1)=(m:Int) by omega))) O (go3 ?_);refine ⟨pp_,_,_,(List.Sublist.append (List.Sublist.refl _) (.trans (List.sublist_append_right _ _) (.trans (List.sublist_append_right _ _) (List.sublist_append_right _ _)))),oo_,m,((R*65536+dg A m) % B),qs.set m d,vr2,Lr2,⟨?s9,?s10⟩,?mem,rfl,⟨by omega,by rw [hdone.1];exact hI.step hB oo_,by rw [nE,nE,hdone.2.1] at hr2;exact hr2⟩⟩
    case mem=>rfl
    case s9=>rfl
    case s10=>exact congrArg (Value.int .i64) (bV (n:=(m:Int) - 1) (by unfold I64;omega))
  replace hc:=cB_ hc
  obtain rfl:k=0:=by omega
  refine go3 ?_;refine sQ (dZ aK O (fun w hw=>gV _ qs hI.ok (by rw [hI.len];omega) w (SL.sl (SL.mine' (mA (.head _)) hI.len (Nat.le_refl _)) hw))) O (go5 ?_);refine rt2 ?_;exact ⟨_,_,rfl,tI hI.ok hI.fin.1 (SLf.mine hb15 (mA (.head _)) hI.len (Nat.le_refl _)),by rw [hI.fin.2] at hr;exact hr.sub lZ⟩
theorem xS (a b:R) (ha:a.Ok) (hb:b.Ok) :
    Ret prog 99 [RV a,RV b] (RV (Z.gcd a.dec b.dec).enc):=by
 refine bI (N:=64) func99 O O zz_ (fun w0=>?_);refine giI ?_;have hla:=c9_ ha;have hlb:=c9_ hb;refine go_ ?_;refine aQ O (iG O O (fun b2 hb2=>aQ O (iG O O (fun b3 hb3=>aQ O (dP kA (fun b4 hb4=>go2 ?_))))));refine sQ (bZ tyT O mm_ (cO ha)) O ?_;refine sQ (aY aK (qV a ha) O) O (go7 ?_);refine sQ (bZ tyT O mm_ (cO hb)) O ?_;refine sQ (aY aK (qV b hb) O) O (oF ?_)
 cases w1:sH a
 ·refine go7 ?_;refine sQ (bZ tyT O mm_ (cO ha)) O ?_;refine sQ (aY aK (e8 a ha) O) O (go2 ?_)
  cases ga:a.good
  ·refine go7 ?_;refine sQ (aY aK gY O) O (aQ O (bK tyT O O uu_ (aI _) O (bJ _) (.inl eX) ?_));refine go2 ?_;refine rtX O ⟨_,_,_,_,_,_,rfl,mm_,tyT,_,(dH (aI _)),(aI _),rfl⟩ ?_
   (rw [Z.gcd,jQ (.inl (XC ga))];rfl)
  refine sQ (bZ tyT O mm_ (cO hb)) O ?_;refine sQ (aY aK (e8 b hb) O) O (go3 ?_);refine aS _ O (fun gb=>?_) (fun gb=>?_)
  ·replace gb:=cB_ gb
   refine go_ ?_;refine sQ (aY aK gY O) O (aQ O (bK tyT O O uu_ (aI _) O (bJ _) (.inl eX) ?_));refine go2 ?_;refine rtX O ⟨_,_,_,_,_,_,rfl,mm_,tyT,_,(dH (aI _)),(aI _),rfl⟩ ?_
   (rw [Z.gcd,jQ (.inr (XC gb))];rfl)
  replace gb:=cB_ gb
  refine go2 ?_;refine sQ (bZ tyT O mm_ (cO ha)) O ?_;refine aQ O (l9 aK O (fun w hw=>gF a ha w) (fun v5 L5 h5=>go3 ?_));refine sQ (bZ tyT O mm_ (cO hb)) O ?_;refine aQ O (l9 aK O (fun w hw=>gF b hb w) (fun v6 L6 h6=>go4 ?_));refine cF (rg [10,11,12,13] 51 11) (fun g nn M=>∃ (X Y:Nat) (vx vy:Value) (Lx Ly:List Blk),(g 10=vx∧g 11=vy)∧M=Ly++(Lx++[⟨b4,31,zR⟩,⟨b3,31,b.cells⟩,⟨b2,31,a.cells⟩])∧nn=Y∧((X<65536 ^ 32∧Y<65536 ^ 32)∧Nat.gcd X Y=Nat.gcd (val a.w) (val b.w)∧SL w0 [] Lx vx (dl X)∧SL w0 [] Ly vy (dl Y))) (val b.w) ?start ?round
  case start =>
   refine ⟨_,(List.Sublist.refl _),val a.w,val b.w,v5,v6,L5,L6,⟨?a10,?a11⟩,?mem0,rfl,⟨⟨TO ha,TO hb⟩,rfl,h5.sl,h6.sl⟩⟩
   case mem0=>rfl
   case a10=>rfl
   case a11=>rfl
  case round =>
   rintro nn g M ⟨X,Y,vx,vy,Lx,Ly,⟨hg10,hg11⟩,rfl,hmeas,⟨hb3,hgc,hX,hY⟩⟩;subst nn;refine gS2 hg10 hg11 ?_;clear hg10 hg11;refine go3 ?_;refine sQ (lT cC O (hY.sub lZ)) O (go2 ?_);refine aS _ O (fun h53=>?_) (fun h53=>?_)
   ·replace h53:=cB_ h53
    have hYp:0<Y:=TN h53;refine go5 ?_;refine aQ O (JB aK O (fun w hw=>o6 vx vy X Y hYp (CO hb3.1) (CO hb3.2) w (SL.sl (hX.sub (.trans lZ (List.sublist_append_right _ _))) hw) (SL.sl (hY.sub lZ) hw)) (fun vq vr Lr hq hr=>D5 ?_));refine ⟨pp_,_,_,(List.Sublist.append (List.Sublist.refl _) (List.Sublist.append (List.Sublist.refl _) (List.sublist_append_right _ _))),(Nat.mod_lt _ hYp),Y,X % Y,vy,vr,Ly,Lr,⟨?s10,?s11⟩,?mem,rfl,⟨⟨hb3.2,Nat.lt_of_le_of_lt (Nat.mod_le _ _) hb3.1⟩,by rw [← hgc];exact LA X Y,hY,hr⟩⟩
    case mem=>rfl
    case s10=>rfl
    case s11=>rfl
   replace h53:=cB_ h53
   have hY0:Y=0:=ON h53;refine go3 ?_;refine sQ (dZ aK O (fun w hw=>i5 false _ _ (tM _) (Nat.le_trans (CO hb3.1) dd_) w (SL.sl (hX.sub (.trans lZ (List.sublist_append_right _ _))) hw))) O (aQ O (bK tyT O O uu_ (aI _) O (bJ _) (.inl eX) ?_));refine go2 ?_;refine rtX O ⟨_,_,_,_,_,_,rfl,mm_,tyT,_,(dH (aI _)),(aI _),rfl⟩ ?_
   (rw [YP ha hb ga gb (by rw [← hgc,hY0,Nat.gcd_zero_right]),nE];rfl)
 refine go3 ?_;refine aS _ O (fun w2=>?_) (fun w2=>?_)
 ·replace w2:=cB_ w2
  refine go2 ?_;refine cF (rg [5,7,9] 28 7) (fun g nn M=>∃ (x y:Int),(g 5 = .int .i64 x∧g 7 = .int .i64 y)∧M=[⟨b4,31,zR⟩,⟨b3,31,b.cells⟩,⟨b2,31,a.cells⟩]∧nn=y.natAbs∧((-4611686018427387904<x∧x<4611686018427387904)∧(-4611686018427387904<y∧y<4611686018427387904)∧Int.gcd x y=Int.gcd (mI a) (mI b))) ((mI b).natAbs) ?start ?round
  case start =>
   refine ⟨_,(List.Sublist.refl _),mI a,mI b,⟨?a5,?a7⟩,?mem0,rfl,⟨(wC ha w1).2.2.2,(wC hb w2).2.2.2,rfl⟩⟩
   case mem0=>rfl
   case a5=>rfl
   case a7=>rfl
  case round =>
   rintro nn g M ⟨x,y,⟨hg5,hg7⟩,rfl,hmeas,⟨hx,hy,hgc⟩⟩;subst nn;refine gS2 hg5 hg7 ?_;clear hg5 hg7;refine go5 ?_;refine aS _ O (fun h29=>?_) (fun h29=>?_)
   ·replace h29:=cB_ h29
    refine go5 ?_;refine sQ (rA O O h29) O (oF ?_);refine ⟨pp_,_,_,(List.Sublist.refl _),(uA (by simpa using h29)).1,y,x.tmod y,⟨?s5,?s7⟩,?mem,rfl,⟨hy,ei_ hx,by rw [← hgc];exact Y0 x y⟩⟩
    case mem=>rfl
    case s5=>rfl
    case s7=>rfl
   replace h29:=cB_ h29
   have hy0:y=0:=by simpa using h29
   refine go3 ?_;refine sQ (aY aK (sG x (eh_ hx)) O) O (sQ (aY aK (xR (Z.of x).enc (Z.enc_ok _)) O) O (aQ O (bK tyT O O uu_ (aI _) O (bJ _) (.inl eX) ?_)));refine go2 ?_;refine rtX O ⟨_,_,_,_,_,_,rfl,mm_,tyT,_,(dH (aI _)),(aI _),rfl⟩ ?_
   (rw [wK,VE ha hb w1 w2 hgc hy0];rfl)
 replace w2:=cB_ w2
 refine go3 ?_;refine sQ (bZ tyT O mm_ (cO ha)) O ?_;refine sQ (aY aK (e8 a ha) O) O (go2 ?_)
 cases ga:a.good
 ·refine go7 ?_;refine sQ (aY aK gY O) O (aQ O (bK tyT O O uu_ (aI _) O (bJ _) (.inl eX) ?_));refine go2 ?_;refine rtX O ⟨_,_,_,_,_,_,rfl,mm_,tyT,_,(dH (aI _)),(aI _),rfl⟩ ?_
  (rw [Z.gcd,jQ (.inl (XC ga))];rfl)
 refine sQ (bZ tyT O mm_ (cO hb)) O ?_;refine sQ (aY aK (e8 b hb) O) O (go3 ?_);refine aS _ O (fun gb=>?_) (fun gb=>?_)
 ·replace gb:=cB_ gb
  refine go_ ?_;refine sQ (aY aK gY O) O (aQ O (bK tyT O O uu_ (aI _) O (bJ _) (.inl eX) ?_));refine go2 ?_;refine rtX O ⟨_,_,_,_,_,_,rfl,mm_,tyT,_,(dH (aI _)),(aI _),rfl⟩ ?_
  (rw [Z.gcd,jQ (.inr (XC gb))];rfl)
 replace gb:=cB_ gb
 refine go2 ?_;refine sQ (bZ tyT O mm_ (cO ha)) O ?_;refine aQ O (l9 aK O (fun w hw=>gF a ha w) (fun v5 L5 h5=>go3 ?_));refine sQ (bZ tyT O mm_ (cO hb)) O ?_;refine aQ O (l9 aK O (fun w hw=>gF b hb w) (fun v6 L6 h6=>go4 ?_));refine cF (rg [10,11,12,13] 51 11) (fun g nn M=>∃ (X Y:Nat) (vx vy:Value) (Lx Ly:List Blk),(g 10=vx∧g 11=vy)∧M=Ly++(Lx++[⟨b4,31,zR⟩,⟨b3,31,b.cells⟩,⟨b2,31,a.cells⟩])∧nn=Y∧((X<65536 ^ 32∧Y<65536 ^ 32)∧Nat.gcd X Y=Nat.gcd (val a.w) (val b.w)∧SL w0 [] Lx vx (dl X)∧SL w0 [] Ly vy (dl Y))) (val b.w) ?start ?round
 case start =>
  refine ⟨_,(List.Sublist.refl _),val a.w,val b.w,v5,v6,L5,L6,⟨?a10,?a11⟩,?mem0,rfl,⟨⟨TO ha,TO hb⟩,rfl,h5.sl,h6.sl⟩⟩
  case mem0=>rfl
  case a10=>rfl
  case a11=>rfl
 case round =>
  rintro nn g M ⟨X,Y,vx,vy,Lx,Ly,⟨hg10,hg11⟩,rfl,hmeas,⟨hb3,hgc,hX,hY⟩⟩;subst nn;refine gS2 hg10 hg11 ?_;clear hg10 hg11;refine go3 ?_;refine sQ (lT cC O (hY.sub lZ)) O (go2 ?_);refine aS _ O (fun h53=>?_) (fun h53=>?_)
  ·replace h53:=cB_ h53
   have hYp:0<Y:=TN h53;refine go5 ?_;refine aQ O (JB aK O (fun w hw=>o6 vx vy X Y hYp (CO hb3.1) (CO hb3.2) w (SL.sl (hX.sub (.trans lZ (List.sublist_append_right _ _))) hw) (SL.sl (hY.sub lZ) hw)) (fun vq vr Lr hq hr=>D5 ?_));refine ⟨pp_,_,_,(List.Sublist.append (List.Sublist.refl _) (List.Sublist.append (List.Sublist.refl _) (List.sublist_append_right _ _))),(Nat.mod_lt _ hYp),Y,X % Y,vy,vr,Ly,Lr,⟨?s10,?s11⟩,?mem,rfl,⟨⟨hb3.2,Nat.lt_of_le_of_lt (Nat.mod_le _ _) hb3.1⟩,by rw [← hgc];exact LA X Y,hY,hr⟩⟩
   case mem=>rfl
   case s10=>rfl
   case s11=>rfl
  replace h53:=cB_ h53
  have hY0:Y=0:=ON h53;refine go3 ?_;refine sQ (dZ aK O (fun w hw=>i5 false _ _ (tM _) (Nat.le_trans (CO hb3.1) dd_) w (SL.sl (hX.sub (.trans lZ (List.sublist_append_right _ _))) hw))) O (aQ O (bK tyT O O uu_ (aI _) O (bJ _) (.inl eX) ?_));refine go2 ?_;refine rtX O ⟨_,_,_,_,_,_,rfl,mm_,tyT,_,(dH (aI _)),(aI _),rfl⟩ ?_
  (rw [YP ha hb ga gb (by rw [← hgc,hY0,Nat.gcd_zero_right]),nE];rfl)
theorem wW (a:Rt) :
    Ret prog 39 [AV [pI a.n,pI a.d]] (.bool (bH a)):=by
 refine bI (N:=26) func39 O O zz_ (fun w0=>?_);refine giI ?_;refine go2 ?_;intro b1 hb1;refine go3 ?_;refine gJv (rg [] 3 10) [(12,.bool (!a.n.1.good||(!a.d.1.good)))] (fun K2 J2=>?_) ?_
 ·refine go3 ?_;refine sC (.bool a.n.1.good) aK (e8 a.n.1 a.n.2) O O O (go_ ?_);rcases bt a.n.1.good with h3|h3
  ·refine sB (i3 h3) O (go2 ?_);refine sC (.bool a.d.1.good) aK (e8 a.d.1 a.d.2) O O O (go3 ?_);refine J2 _ _ pp_ s0 (cH (lU h3 O))
  refine sB (i4 h3) O (go6 ?_);refine J2 _ _ pp_ s0 (cH (q9 h3))
 intro g4;refine aS _ O (fun h5=>?_) (fun h5=>?_)
 ·refine go4 ?_;refine rt1 ?_;exact congrArg vS0 (show _=(bH a) from bL h5 O)
 refine go_ ?_;refine gJv (rg [2] 13 13) [(2,.bool (decide (0<(Z.signW a.d.dec).1)&&decide ((E (Z.gcd a.n.dec a.d.dec))=iS)))] (fun K3 J3=>?_) ?_
 ·refine go3 ?_;refine sC (.int .i64 ((Z.signW a.d.dec).1)) aK (qU a.d.1 a.d.2) O O O (go_ ?_);refine sBB O (fun h7=>?_) (fun h7=>?_)
  ·refine go4 ?_;refine sC (AV [pI (E (Z.gcd a.n.dec a.d.dec))]) aK (xS a.n.1 a.d.1 a.n.2 a.d.2) O O O (sQ (aY aK xV  rfl) O ?_);refine sQ (nX (r:=decide ((E (Z.gcd a.n.dec a.d.dec))=iS)) O O (jY 8 dd_ NX OP (jX oN) (jX oN) (nF yC))) O (go3 ?_);refine J3 _ _ pp_ s0 (cH (j8 h7 O))
  refine oF ?_;refine J3 _ _ pp_ s0 (cH (nT h7))
 intro g8;refine go_ ?_;refine rt1 ?_;exact congrArg vS0 (show _=(bH a) from aX h5 O)
theorem mB (x:Rt) (n:W) :
    Ret prog 7 [AV [pI x.n,pI x.d],.int .i64 n.1] (.bool (dN x n)):=by
 refine bI (N:=21) func7 O O zz_ (fun w0=>?_);refine giI ?_;refine go2 ?_;intro b1 hb1;refine go2 ?_;refine gJv (rg [] 4 17) [(4,.bool ((bH x)&&(decide ((Z.bitsW x.n.dec).1≤n.1)&&decide ((Z.bitsW x.d.dec).1≤n.1))))] (fun K1 J1=>?_) ?_
 ·refine go2 ?_;refine sQ (aY aK (wW x) O) O ?_;refine sBB O (fun h4=>?_) (fun h4=>?_)
  ·refine go2 ?_;refine sC (.int .i64 ((Z.bitsW x.n.dec).1)) aK (mR x.n.1 x.n.2) O O O (go3 ?_);refine sBB O (fun h5=>?_) (fun h5=>?_)
   ·have ph5:=of_decide_eq_true h5;refine go2 ?_;refine sC (.int .i64 ((Z.bitsW x.d.dec).1)) aK (mR x.d.1 x.d.2) O O O (go5 ?_);refine J1 _ _ pp_ s0 (cH (j8 h4 (j8 h5 O)))
   have ph5:=of_decide_eq_false h5;refine go8 ?_;refine J1 _ _ pp_ s0 (cH (j8 h4 (nT h5)))
  refine yE ?_;refine J1 _ _ pp_ s0 (cH (nT h4))
 intro g6;refine go_ ?_;refine rt1 ?_;exact (by rfl)
end Go.Proofs.YtcjoflcajgaifaaGreatDoor
