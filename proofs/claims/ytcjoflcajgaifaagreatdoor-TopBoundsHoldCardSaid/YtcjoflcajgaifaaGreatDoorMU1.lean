/- Lemmas: what they ask stands in their statements. -/
import Derived.Test.YtcjoflcajgaifaaGreatDoorMKj
set_option linter.unusedSimpArgs false
set_option linter.unusedVariables false
set_option maxHeartbeats 8000000
set_option maxRecDepth 20000
namespace Go.Proofs.YtcjoflcajgaifaaGreatDoor
open Go.Kn Go.Num Tryz
attribute [local irreducible] Go.Kn.W WL PL OpQ OpR OpS
theorem fP (a:(A3 W)) (b:(A3 W)) :
  Ret prog 140 [AV [cw a.x.1,cw a.y.1,cw a.z.1],AV [cw b.x.1,cw b.y.1,cw b.z.1]] (.int .i64 ((pA a b).1)):=by
 refine bI (N:=22) func140 O O zz_ (fun w0=>?_);refine giI ?_;refine go2 ?_;intro b1 hb1;refine go_ ?_;intro b2 hb2;refine go7 ?_;refine sV (.int .i64 ((W.mul a.x b.x).1)) O O (go4 ?_);refine sV (.int .i64 ((W.mul a.y b.y).1)) O O (sV (.int .i64 ((W.add (W.mul a.x b.x) (W.mul a.y b.y)).1)) O O (go4 ?_));refine sV (.int .i64 ((W.mul a.z b.z).1)) O O (sV (.int .i64 ((W.add (W.add (W.mul a.x b.x) (W.mul a.y b.y)) (W.mul a.z b.z)).1)) O O (go3 ?_));refine rt1 ?_;exact (by rfl)
theorem l7 (a:(A3 W)) (b:(A3 W)) :
  Ret prog 146 [AV [cw a.x.1,cw a.y.1,cw a.z.1],AV [cw b.x.1,cw b.y.1,cw b.z.1]] (AV [cw (((gZ a b).x).1),cw (((gZ a b).y).1),cw (((gZ a b).z).1)]):=by
 refine bI (N:=39) func146 O O zz_ (fun w0=>?_);refine giI ?_;refine go2 ?_;intro b1 hb1;refine go_ ?_;intro b2 hb2;refine go_ ?_;intro b3 hb3;refine go6 ?_;refine sV (.int .i64 ((W.mul a.y b.z).1)) O O (go4 ?_);refine sV (.int .i64 ((W.mul a.z b.y).1)) O O (sV (.int .i64 ((W.sub (W.mul a.y b.z) (W.mul a.z b.y)).1)) O O (go4 ?_));refine sV (.int .i64 ((W.mul a.z b.x).1)) O O (go4 ?_);refine sV (.int .i64 ((W.mul a.x b.z).1)) O O (sV (.int .i64 ((W.sub (W.mul a.z b.x) (W.mul a.x b.z)).1)) O O (go4 ?_));refine sV (.int .i64 ((W.mul a.x b.y).1)) O O (go4 ?_);refine sV (.int .i64 ((W.mul a.y b.x).1)) O O (sV (.int .i64 ((W.sub (W.mul a.x b.y) (W.mul a.y b.x)).1)) O O (go4 ?_));refine rtX O (iN O m0 tyT O) ?_;exact (by rfl)
theorem z6 (x:W) :
  Ret prog 177 [.int .i64 x.1] (.bool (uK x)):=by
 refine bI (N:=6) func177 O O zz_ (fun w0=>?_);refine giI ?_;refine oF ?_;refine rt1 ?_;exact (by rfl)
theorem gN (x:W) (y:W) :
    Ret prog 133 [.int .i64 x.1,.int .i64 y.1] (.int .i64 ((bA x y).1)):=by
 refine bI (N:=20) func133 O O zz_ (fun w0=>?_);refine giI ?_;refine go5 ?_;refine sQ (aY aK (z6 x) O) O (go4 ?_);refine sQ (aY aK (z6 y) O) O (go6 ?_);refine aS _ O (fun h1=>?_) (fun h1=>?_)
 ·refine go4 ?_;refine aS _ O (fun h2=>?_) (fun h2=>?_)
  ·refine go4 ?_;refine rt1 ?_;exact congrArg vS6 (show _=(bA x y) from bL h1 (bL h2 O))
  refine go5 ?_;refine rt1 ?_;exact congrArg vS6 (show _=(bA x y) from bL h1 (aX h2 O))
 refine go5 ?_;refine aS _ O (fun h3=>?_) (fun h3=>?_)
 ·refine go4 ?_;refine rt1 ?_;exact congrArg vS6 (show _=(bA x y) from aX h1 (bL h3 O))
 refine go7 ?_;refine aS _ O (fun h4=>?_) (fun h4=>?_)
 ·have ph4:=of_decide_eq_true h4;refine go4 ?_;refine rt1 ?_;exact congrArg vS6 (show _=(bA x y) from aX h1 (aX h3 (bL h4 O)))
 have ph4:=of_decide_eq_false h4;refine go7 ?_;refine aS _ O (fun h5=>?_) (fun h5=>?_)
 ·have ph5:=of_decide_eq_true h5;refine go4 ?_;refine rt1 ?_;exact congrArg vS6 (show _=(bA x y) from aX h1 (aX h3 (aX h4 (bL h5 O))))
 have ph5:=of_decide_eq_false h5;refine go5 ?_;refine rt1 ?_;exact congrArg vS6 (show _=(bA x y) from aX h1 (aX h3 (aX h4 (aX h5 O))))
theorem GD (vl:Value) (l:(List W)) (w:World) (hl:Slr w elW vl l) :
    Calls prog 132 [vl].toArray w (fun e w'=>e = .returned (.int .i64 ((tJ l).1))∧Ext w w'):=by
 obtain ⟨p_l,c_l,rfl⟩:=hl.form;refine cY (N:=18) func132 O O zz_ ?_;obtain ⟨w0,rfl⟩:=nm w;have Hl:=hl.old;have hm_l:=hl.max;refine giI ?_;refine go9 ?_;refine sQ (bT cC O (SLe.sub Hl sn)) O (go2 ?_);refine gJ3 (rg [2,5] 8 9) (fun g M=>∃ (k:Nat),(nP l (l.length+1) 0) = .inl k∧(g 8 = .int .i64 (k:Int))∧M=[]) (fun K_u1 hK_u1=>?_) ?_
 ·refine go_ ?_;refine cF (rg [2,5] 8 9) (fun g nn M=>∃ (k:Nat),(nP l nn k)=(nP l (l.length+1) 0)∧l.length - k<nn∧(k≤l.length)∧(g 8 = .int .i64 (k:Int))∧M=[]) (l.length+1) ?start ?round
  case start=>exact ⟨_,s0,0,rfl,oo_,oo_,rfl,rfl⟩
  case round =>
   rintro nn g M ⟨k,hT0,hq0,hinv0,hg8,rfl⟩;obtain ⟨k0,rfl⟩:∃ m,nn=m+1:=⟨nn - 1,by omega⟩;refine gS1 hg8 ?_;clear hg8;refine go4 ?_;refine aS _ O (fun h6=>?_) (fun h6=>?_)
   ·have ph6:=of_decide_eq_true h6;refine go4 ?_;refine sQ (aE (v':=.pointer (some (slb (.slice p_l l.length c_l) (k*1+0)))) (aM (e:=elW) (l:=l) (k:=k) cC O O (SLe.sub Hl sn) o2_) O) O ?_;refine sQ (cL (u:=.int .i64 ((l.getD k W.z).1)) (e:=elW) (l:=l) (k:=k) (o:=0) tyT O (SLe.sub Hl sn) (aF W.z o2_) O) O ?_;refine go7 ?_;refine aS _ O (fun h7=>?_) (fun h7=>?_)
    ·refine go5 ?_;refine rt1 ?_;exact congrArg vS6 (show _=(tJ l) from (xX O (hT0.symm.trans (Eq.symm (bL h6 (bL h7 O))))))
    refine go2 ?_;refine sWi (((k+1):Nat):Int) O (go2 ?_);refine ⟨pp_,_,_,s0,(Nat.lt_succ_self _),(k+1),(by exact (hT0.symm.trans (Eq.symm (bL h6 (aX h7 O)))).symm),(Nat.lt_of_lt_of_le oo_ (Nat.le_of_lt_succ hq0)),oo_,rfl,rfl⟩
   have ph6:=of_decide_eq_false h6;refine go_ ?_;refine hK_u1 _ _ pp_ ⟨_,s0,k,(by exact hT0.symm.trans (Eq.symm (aX h6 O))),rfl,rfl⟩
 rintro g M ⟨k,hCu1,hg8,rfl⟩;refine gS1 hg8 ?_;clear hg8;refine go5 ?_;refine rt1 ?_;exact congrArg vS6 (show _=(tJ l) from trs (Eq.symm (smS hCu1)) O)
theorem BG (a:W) (b:W) :
    Ret prog 178 [.int .i64 a.1,.int .i64 b.1] (.int .i64 ((bO a b).1)):=by
 refine bI (N:=15) func178 O O zz_ (fun w0=>?_);refine giI ?_;refine go3 ?_;refine kG (rg [0,1] 5 6) (fun g M=>∃ (p:W) (q:W),(l5 a b (b.1.natAbs+1) a b)=(p,q)∧(g 0 = .int .i64 p.1∧g 1 = .int .i64 q.1)∧M=[]) (fun K_u1 hK_u1=>?_) ?_
 ·refine go_ ?_;refine cF (rg [0,1] 5 6) (fun g nn M=>∃ (p:W) (q:W),(l5 a b nn p q)=(l5 a b (b.1.natAbs+1) a b)∧q.1.natAbs<nn∧(True)∧(g 0 = .int .i64 p.1∧g 1 = .int .i64 q.1)∧M=[]) (b.1.natAbs+1) ?start ?round
  case start=>exact ⟨_,s0,a,b,rfl,Nat.lt_succ_self _,trivial,⟨rfl,rfl⟩,rfl⟩
  case round =>
   rintro nn g M ⟨p,q,hT0,hq0,hinv0,⟨hg0,hg1⟩,rfl⟩;obtain ⟨k0,rfl⟩:∃ m,nn=m+1:=⟨nn - 1,by omega⟩;refine gS2 hg0 hg1 ?_;clear hg0 hg1;refine go5 ?_;refine aS _ O (fun h3=>?_) (fun h3=>?_)
   ·refine go2 ?_;refine kV sn 6 [] [] (go3 ?_);refine pQ O (aE (v':=.int .i64 ((W.rem p q).1)) (rA O O (hl_ h3)) O) (go3 ?_);refine ⟨pp_,_,_,s0,(Nat.lt_succ_self _),q,(W.rem p q),(by exact (hT0.symm.trans (Eq.symm (bL h3 O))).symm),(Nat.lt_of_lt_of_le (W.rem_lt p h3) (Nat.le_of_lt_succ hq0)),trivial,⟨rfl,rfl⟩,rfl⟩
   refine go_ ?_;refine hK_u1 _ _ pp_ ⟨_,s0,p,q,(by exact hT0.symm.trans (Eq.symm (aX h3 O))),⟨rfl,rfl⟩,rfl⟩
 rintro g M ⟨p,q,hCu1,⟨hg0,hg1⟩,rfl⟩;refine gS2 hg0 hg1 ?_;clear hg0 hg1;refine go3 ?_;refine sV (.int .i64 ((W.neg p).1)) O O (sQ (aE (v':=.int .i64 ((W.max p (W.neg p)).1)) (CW O O) (congrArg (Value.int .i64) (W.max_1 p (W.neg p)))) O (go3 ?_));refine rt1 ?_;exact congrArg vS6 (show _=(bO a b) from (by unfold bO;exact trs (Eq.symm (apS hCu1)) O))
theorem oG (a:(A3 W)) (b:(A3 W)) (c:(A3 W)) :
    Ret prog 135 [AV [cw a.x.1,cw a.y.1,cw a.z.1],AV [cw b.x.1,cw b.y.1,cw b.z.1],AV [cw c.x.1,cw c.y.1,cw c.z.1]] (AV [cw ((((pR a b c).n).x).1),cw ((((pR a b c).n).y).1),cw ((((pR a b c).n).z).1),cw (((pR a b c).d).1)]):=by
 refine bI (N:=44) func135 O O zz_ (fun w0=>?_);refine giI ?_;refine go2 ?_;intro b1 hb1;refine go_ ?_;intro b2 hb2;refine go_ ?_;intro b3 hb3;refine go_ ?_;intro b4 hb4;refine go_ ?_;refine jN s0 9 [7,8] [8] (go2 ?_);refine pQ O (aY aK (dC b a) O) (go2 ?_);refine pQ O (aY aK (dC c a) O) ?_;obtain ⟨r5,hr5⟩:=nm ((gZ (kP b a) (kP c a)):(A3 W));refine pC (AV [cw r5.x.1,cw r5.y.1,cw r5.z.1]) aK (l7 (kP b a) (kP c a)) O O (by rw [hr5]) (dA O O (bN zpT (fun b6 hb6=>⟨(fun _=>sd s0),(sd s0),?_⟩)));refine go2 ?_;refine fX (sk (sk (sd (sd s0)))) ?_;obtain ⟨r8,hr8⟩:=nm ((⟨(bif decide (1<(bO (bO r5.x r5.y) r5.z).1) then (W.quo r5.x (bO (bO r5.x r5.y) r5.z)) else r5.x),(bif decide (1<(bO (bO r5.x r5.y) r5.z).1) then (W.quo r5.y (bO (bO r5.x r5.y) r5.z)) else r5.y),(bif decide (1<(bO (bO r5.x r5.y) r5.z).1) then (W.quo r5.z (bO (bO r5.x r5.y) r5.z)) else r5.z)⟩:(A3 W)):(A3 W));refine kG (rg [8] 16 23) (fun g M=>(True)∧M=[⟨b6,75,aW [cw r8.x.1,cw r8.y.1,cw r8.z.1]⟩,⟨b4,125,aW [cw 0,cw 0,cw 0,cw 0]⟩,⟨b1,75,aW [cw a.x.1,cw a.y.1,cw a.z.1]⟩]) (fun K1 J1=>?_) ?_
 ·refine jN s0 9 [] [] (go4 ?_);refine pQ O (aY aK (BG r5.x r5.y) O) (go2 ?_);refine pQ O (aY aK (BG (bO r5.x r5.y) r5.z) O) (go6 ?_);refine aS _ O (fun h9=>?_) (fun h9=>?_)
  ·have ph9:=of_decide_eq_true h9;refine kV (sd s0) 14 [13] [13] (go3 ?_);refine pQ O (aE (v':=.int .i64 ((W.quo r5.x (bO (bO r5.x r5.y) r5.z)).1)) (o4 O O oo_) O) (go3 ?_);refine pQ O (aE (v':=.int .i64 ((W.quo r5.y (bO (bO r5.x r5.y) r5.z)).1)) (o4 O O oo_) O) (go3 ?_);refine pQ O (aE (v':=.int .i64 ((W.quo r5.z (bO (bO r5.x r5.y) r5.z)).1)) (o4 O O oo_) O) (pQ O (tH zpT arT O (.cons [cw ((W.quo r5.x (bO (bO r5.x r5.y) r5.z)).1)] [cw ((W.quo r5.x (bO (bO r5.x r5.y) r5.z)).1),cw 0,cw 0] O O O O (.cons [cw ((W.quo r5.y (bO (bO r5.x r5.y) r5.z)).1)] [cw ((W.quo r5.x (bO (bO r5.x r5.y) r5.z)).1),cw ((W.quo r5.y (bO (bO r5.x r5.y) r5.z)).1),cw 0] O O O O (.cons [cw ((W.quo r5.z (bO (bO r5.x r5.y) r5.z)).1)] [cw ((W.quo r5.x (bO (bO r5.x r5.y) r5.z)).1),cw ((W.quo r5.y (bO (bO r5.x r5.y) r5.z)).1),cw ((W.quo r5.z (bO (bO r5.x r5.y) r5.z)).1)] O O O O (.nil _))))) (go2 ?_));refine J1 _ _ pp_ ⟨_,s0,trivial,(show ([⟨b6,75,aW [cw ((W.quo r5.x (bO (bO r5.x r5.y) r5.z)).1),cw ((W.quo r5.y (bO (bO r5.x r5.y) r5.z)).1),cw ((W.quo r5.z (bO (bO r5.x r5.y) r5.z)).1)]⟩,⟨b4,125,aW [cw 0,cw 0,cw 0,cw 0]⟩,⟨b1,75,aW [cw a.x.1,cw a.y.1,cw a.z.1]⟩]:List Blk)=[⟨b6,75,aW [cw r8.x.1,cw r8.y.1,cw r8.z.1]⟩,⟨b4,125,aW [cw 0,cw 0,cw 0,cw 0]⟩,⟨b1,75,aW [cw a.x.1,cw a.y.1,cw a.z.1]⟩] by rw [hr8];first|done|rfl|simp only [h9,cond_true,cond_false,Bool.true_and,Bool.false_and,Bool.and_true,Bool.and_false,Bool.true_or,Bool.false_or,Bool.or_true,Bool.or_false,Bool.not_true,Bool.not_false]|(simp only [h9,cond_true,cond_false,Bool.true_and,Bool.false_and,Bool.and_true,Bool.and_false,Bool.true_or,Bool.false_or,Bool.or_true,Bool.or_false,Bool.not_true,Bool.not_false];rfl))⟩
  have ph9:=of_decide_eq_false h9;refine go_ ?_;refine J1 _ _ pp_ ⟨_,s0,trivial,(show ([⟨b6,75,aW [cw r5.x.1,cw r5.y.1,cw r5.z.1]⟩,⟨b4,125,aW [cw 0,cw 0,cw 0,cw 0]⟩,⟨b1,75,aW [cw a.x.1,cw a.y.1,cw a.z.1]⟩]:List Blk)=[⟨b6,75,aW [cw r8.x.1,cw r8.y.1,cw r8.z.1]⟩,⟨b4,125,aW [cw 0,cw 0,cw 0,cw 0]⟩,⟨b1,75,aW [cw a.x.1,cw a.y.1,cw a.z.1]⟩] by rw [hr8];first|done|rfl|simp only [h9,cond_true,cond_false,Bool.true_and,Bool.false_and,Bool.and_true,Bool.and_false,Bool.true_or,Bool.false_or,Bool.or_true,Bool.or_false,Bool.not_true,Bool.not_false]|(simp only [h9,cond_true,cond_false,Bool.true_and,Bool.false_and,Bool.and_true,Bool.and_false,Bool.true_or,Bool.false_or,Bool.or_true,Bool.or_false,Bool.not_true,Bool.not_false];rfl))⟩
 rintro g10 M ⟨-,rfl⟩;refine gS0 ?_;refine jN (sk (sd s0)) 6 [5] [5] (go3 ?_);refine pQ O (aY aK (fP r8 a) O) (pQ O (jR zpT plT O (.cons [cw r8.x.1,cw r8.y.1,cw r8.z.1] [cw r8.x.1,cw r8.y.1,cw r8.z.1,cw 0] O O O O (.cons [cw ((pA r8 a).1)] [cw r8.x.1,cw r8.y.1,cw r8.z.1,cw ((pA r8 a).1)] O O O O (.nil _)))) (go3 ?_));refine rtX O (iN O m1 tyT O) ?_;exact (by subst_vars;rfl)
theorem jJ (vl:Value) (l:(List (A3 W))) (p:HPl) (w:World) (hl:Slr w elV vl l) :
    Calls prog 137 [vl,AV [cw p.n.x.1,cw p.n.y.1,cw p.n.z.1,cw p.d.1]].toArray w (fun e w'=>e = .returned (.bool (iB l p))∧Ext w w'):=by
 obtain ⟨p_l,c_l,rfl⟩:=hl.form;refine cY (N:=33) func137 O O zz_ ?_;obtain ⟨w0,rfl⟩:=nm w;have Hl:=hl.old;have hm_l:=hl.max;refine giI ?_;refine go2 ?_;intro b1 hb1;refine go8 ?_;refine sQ (bT cK O (SLe.sub Hl sn)) O (go2 ?_);refine gJ3 (rg [4,5,7,8] 11 20) (fun g M=>∃ (all:Bool) (k:Nat),(jG l p (l.length+1) true 0) = .inl (all,k)∧(g 5 = .bool all∧g 11 = .int .i64 (k:Int))∧M=[⟨b1,125,aW [cw p.n.x.1,cw p.n.y.1,cw p.n.z.1,cw p.d.1]⟩]) (fun K_u2 hK_u2=>?_) ?_
 ·refine go_ ?_;refine cF (rg [4,5,7,8] 11 20) (fun g nn M=>∃ (all:Bool) (k:Nat),(jG l p nn all k)=(jG l p (l.length+1) true 0)∧l.length - k<nn∧(k≤l.length)∧(g 5 = .bool all∧g 11 = .int .i64 (k:Int))∧M=[⟨b1,125,aW [cw p.n.x.1,cw p.n.y.1,cw p.n.z.1,cw p.d.1]⟩]) (l.length+1) ?start ?round
  case start=>exact ⟨_,s0,true,0,rfl,oo_,oo_,⟨rfl,rfl⟩,rfl⟩
  case round =>
   rintro nn g M ⟨all,k,hT0,hq0,hinv0,⟨hg5,hg11⟩,rfl⟩;obtain ⟨k0,rfl⟩:∃ m,nn=m+1:=⟨nn - 1,by omega⟩;refine gS2 hg5 hg11 ?_;clear hg5 hg11;refine go4 ?_;refine aS _ O (fun h11=>?_) (fun h11=>?_)
   ·have ph11:=of_decide_eq_true h11;refine go4 ?_;refine sQ (aE (v':=.pointer (some (slb (.slice p_l l.length c_l) (k*3+0)))) (aM (e:=elV) (l:=l) (k:=k) cK O O (SLe.sub Hl sn) o2_) O) O ?_;refine sQ (bM (e:=elV) (l:=l) (k:=k) (o:=0) tyT O (SLe.sub Hl sn) (aF A30 o2_) O) O ?_;refine go_ ?_;intro b12 hb12;refine go6 ?_;refine sQ (aY aK (fP p.n (l.getD k A30)) O) O (go9 ?_);refine aS _ O (fun h13=>?_) (fun h13=>?_)
    ·have ph13:=of_decide_eq_true h13;refine go4 ?_;refine rt1 ?_;exact congrArg vS0 (show _=(iB l p) from (xX O (hT0.symm.trans (Eq.symm (bL h11 (bL h13 O))))))
    have ph13:=of_decide_eq_false h13;refine go3 ?_;refine sBB O (fun h14=>?_) (fun h14=>?_)
    ·refine go8 ?_;refine sWi (((k+1):Nat):Int) O (go2 ?_);refine ⟨pp_,_,_,(sd s0),(Nat.lt_succ_self _),((pA p.n (l.getD k A30)).1==p.d.1),(k+1),(by exact (hT0.symm.trans (Eq.symm (bL h11 (aX h13 (bL h14 O))))).symm),(Nat.lt_of_lt_of_le oo_ (Nat.le_of_lt_succ hq0)),oo_,⟨rfl,rfl⟩,rfl⟩
    refine go8 ?_;refine sWi (((k+1):Nat):Int) O (go2 ?_);refine ⟨pp_,_,_,(sd s0),(Nat.lt_succ_self _),false,(k+1),(by exact (hT0.symm.trans (Eq.symm (bL h11 (aX h13 (aX h14 O))))).symm),(Nat.lt_of_lt_of_le oo_ (Nat.le_of_lt_succ hq0)),oo_,⟨rfl,rfl⟩,rfl⟩
   have ph11:=of_decide_eq_false h11;refine go_ ?_;refine hK_u2 _ _ pp_ ⟨_,s0,all,k,(by exact hT0.symm.trans (Eq.symm (aX h11 O))),⟨rfl,rfl⟩,rfl⟩
 rintro g M ⟨all,k,hCu2,⟨hg5,hg11⟩,rfl⟩;refine gS2 hg5 hg11 ?_;clear hg5 hg11;refine go6 ?_;refine rt1 ?_;exact congrArg vS0 (show _=(iB l p) from trs (Eq.symm (smS hCu2)) O)
theorem iJ (n:(A3 W)) (a:(A3 W)) (b:(A3 W)) :
   Ret prog 143 [AV [cw n.x.1,cw n.y.1,cw n.z.1],AV [cw a.x.1,cw a.y.1,cw a.z.1],AV [cw b.x.1,cw b.y.1,cw b.z.1]] (.int .i64 ((rZ n a b).1)):=by
 refine bI (N:=28) func143 O O zz_ (fun w0=>?_);refine giI ?_;refine go2 ?_;intro b1 hb1;refine go_ ?_;intro b2 hb2;refine go_ ?_;intro b3 hb3;refine go5 ?_;refine sQ (aY aK (l7 a b) O) O (go_ ?_);intro b4 hb4;refine go2 ?_;refine fX (sk (sd (sd s0))) ?_;refine go6 ?_;refine jI 5 (go2 ?_);refine sV (.bool true) O O (Q6 ?_);refine aS _ O (fun h5=>?_) (fun h5=>?_)
 ·refine go4 ?_;refine sQ (aY aK (gN ((gZ a b).x) (wl 0)) O) O ?_;refine go_ ?_;refine sQ (aY aK (gN n.x (wl 0)) O) O ?_;refine sV (.int .i64 ((W.mul (bA ((gZ a b).x) (wl 0)) (bA n.x (wl 0))).1)) O O ?_;refine go3 ?_;refine rt1 ?_;exact congrArg vS6 (show _=(rZ n a b) from bL h5 O)
 refine go2 ?_;refine sV (.int .i64 1) O O (go4 ?_);refine sV (.bool true) O O (Q6 ?_);refine aS _ O (fun h6=>?_) (fun h6=>?_)
 ·refine go4 ?_;refine sQ (aY aK (gN ((gZ a b).y) (wl 0)) O) O ?_;refine go_ ?_;refine sQ (aY aK (gN n.y (wl 0)) O) O ?_;refine sV (.int .i64 ((W.mul (bA ((gZ a b).y) (wl 0)) (bA n.y (wl 0))).1)) O O ?_;refine go3 ?_;refine rt1 ?_;exact congrArg vS6 (show _=(rZ n a b) from aX h5 (bL h6 O))
 refine go2 ?_;refine sV (.int .i64 2) O O (go4 ?_);refine sV (.bool true) O O (Q6 ?_);refine aS _ O (fun h7=>?_) (fun h7=>?_)
 ·refine go4 ?_;refine sQ (aY aK (gN ((gZ a b).z) (wl 0)) O) O ?_;refine go_ ?_;refine sQ (aY aK (gN n.z (wl 0)) O) O ?_;refine sV (.int .i64 ((W.mul (bA ((gZ a b).z) (wl 0)) (bA n.z (wl 0))).1)) O O ?_;refine go3 ?_;refine rt1 ?_;exact congrArg vS6 (show _=(rZ n a b) from aX h5 (aX h6 (bL h7 O)))
 refine go2 ?_;refine sV (.int .i64 3) O O (go4 ?_);refine sV (.bool false) O O (go8 ?_);refine rt1 ?_;exact congrArg vS6 (show _=(rZ n a b) from aX h5 (aX h6 (aX h7 O)))
theorem BH (a:HPl) (b:HPl) :
  Ret prog 139 [AV [cw a.n.x.1,cw a.n.y.1,cw a.n.z.1,cw a.d.1],AV [cw b.n.x.1,cw b.n.y.1,cw b.n.z.1,cw b.d.1]] (.int .i64 ((xA a b).1)):=by
 refine bI (N:=28) func139 O O zz_ (fun w0=>?_);refine giI ?_;refine go2 ?_;intro b1 hb1;refine go_ ?_;intro b2 hb2;refine go2 ?_;refine gds s0 [0,4,8,12,16,20,24,28,32,36,40,44,48,52,56,60,64,68,72,76,80,85,88,92] [] mix (by kernel_rfl) (go6 ?_);refine pQ O (aY aK (gN a.n.x b.n.x) O) (go6 ?_);refine pQ O (aY aK (gN a.n.y b.n.y) O) (go6 ?_);refine pQ O (aY aK (gN a.n.z b.n.z) O) (dA O O (bQ [[cw ((bA a.n.x b.n.x).1)],[cw ((bA a.n.y b.n.y).1)],[cw ((bA a.n.z b.n.z).1)]] [cw ((bA a.n.x b.n.x).1),cw ((bA a.n.y b.n.y).1),cw ((bA a.n.z b.n.z).1)] fQ z_3 n5 O dd_ O O ⟨rfl,rfl,rfl,rfl,rfl,rfl,rfl,rfl,rfl,trivial⟩ O (fun b3 hb3=>⟨(fun _=>sd s0),(sd s0),?_⟩)));obtain ⟨r4,hr4⟩:=nm ((tJ [(bA a.n.x b.n.x),(bA a.n.y b.n.y),(bA a.n.z b.n.z)]):W);refine pQ O (aE (v':=.int .i64 r4.1) (dZ aK O (fun w hw=>GD _ [(bA a.n.x b.n.x),(bA a.n.y b.n.y),(bA a.n.z b.n.z)] w (SLe.ap hw (SLe.lit (e:=elW) (l:=[(bA a.n.x b.n.x),(bA a.n.y b.n.y),(bA a.n.z b.n.z)]) m0 O (Nat.le_of_ble_eq_true O) O)))) (by rw [hr4];first|done|rfl)) (go3 ?_);refine rt1 ?_;exact (by obtain rfl:=hr4.symm;rfl)
theorem BI (a:(A3 W)) (b:(A3 W)) :
  Ret prog 131 [AV [cw a.x.1,cw a.y.1,cw a.z.1],AV [cw b.x.1,cw b.y.1,cw b.z.1]] (.int .i64 ((xB a b).1)):=by
 refine bI (N:=22) func131 O O zz_ (fun w0=>?_);refine giI ?_;refine go2 ?_;intro b1 hb1;refine go_ ?_;intro b2 hb2;refine go2 ?_;refine gds s0 [0,4,8,12,16,20,24,28,32,36,40,44,48,52,56,61,64,68] [] mix (by kernel_rfl) (go4 ?_);refine pQ O (aY aK (gN a.x b.x) O) (go4 ?_);refine pQ O (aY aK (gN a.y b.y) O) (go4 ?_);refine pQ O (aY aK (gN a.z b.z) O) (dA O O (bQ [[cw ((bA a.x b.x).1)],[cw ((bA a.y b.y).1)],[cw ((bA a.z b.z).1)]] [cw ((bA a.x b.x).1),cw ((bA a.y b.y).1),cw ((bA a.z b.z).1)] fQ z_3 n5 O dd_ O O ⟨rfl,rfl,rfl,rfl,rfl,rfl,rfl,rfl,rfl,trivial⟩ O (fun b3 hb3=>⟨(fun _=>sd s0),(sd s0),?_⟩)));obtain ⟨r4,hr4⟩:=nm ((tJ [(bA a.x b.x),(bA a.y b.y),(bA a.z b.z)]):W);refine pQ O (aE (v':=.int .i64 r4.1) (dZ aK O (fun w hw=>GD _ [(bA a.x b.x),(bA a.y b.y),(bA a.z b.z)] w (SLe.ap hw (SLe.lit (e:=elW) (l:=[(bA a.x b.x),(bA a.y b.y),(bA a.z b.z)]) m0 O (Nat.le_of_ble_eq_true O) O)))) (by rw [hr4];first|done|rfl)) (go3 ?_);refine rt1 ?_;exact (by obtain rfl:=hr4.symm;rfl)
theorem RC {w0:World} {X:List Nat} {M1:List Blk} {w:World} {p_d:Option Addr} {c_d:Nat} {d:List HPl} {L_d:List Blk} {n:Int} (hw:Sat w0 X (L_d++M1) w) (hO_d:OwnG w0 125 elHP (.slice p_d d.length c_d) d L_d) (hn:n=(d.length:Int)) (hpre:d.length≤12) :
    Calls prog 207 [.slice p_d d.length c_d,.int .i64 0,.int .i64 n,.func (.func 139) #[] #[]].toArray w fun e w'=>∃ v M',e = .returned v∧Sat w0 X M' w'∧KeepsOthers w w'∧(v = .tuple #[]∧∃ L',OwnG w0 125 elHP (.slice p_d d.length c_d) (nK d) L'∧M'=L'++M1):=by
 have hw:Sat w0 X (L_d++(M1++[])) w:=by rw [List.append_nil];exact hw
 subst hn;refine iE (N:=53) func207 O O zz_ hw ?_;have hm_d:=hO_d.max;refine giI ?_;refine go2 ?_;refine sV (.int .i64 1) O O (go3 ?_);refine cF (rg [8,9] 12 41) (fun g nn M=>∃ (i:Nat) (o:List HPl) (L_o:List Blk),(nL d nn i o)=(nL d (d.length+1) 1 d)∧d.length - i<nn∧(1≤i∧o.length=d.length)∧(g 8 = .int .i64 (i:Int)∧OwnG w0 125 elHP (.slice p_d d.length c_d) o L_o)∧M=(L_o++(M1++[]))) (d.length+1) ?start ?round
 case start=>exact ⟨_,s0,1,d,L_d,rfl,oo_,oo_,⟨rfl,hO_d⟩,rfl⟩
 case round =>
  rintro nn g M ⟨i,o,L_o,hT0,hq0,hinv0,⟨hg8,hO_o⟩,rfl⟩;obtain ⟨k0,rfl⟩:∃ m,nn=m+1:=⟨nn - 1,by omega⟩;refine gS1 hg8 ?_;clear hg8;have hm_o:=OwnG.max hO_o;refine go6 ?_;refine aS _ O (fun h42=>?_) (fun h42=>?_)
  ·have ph42:=of_decide_eq_true h42;refine go7 ?_;refine gJ3 (rg [9] 18 35) (fun g M=>∃ (j:Nat) (u:List HPl) (L_u:List Blk),(nM d i o (i+1) i o)=(j,u)∧(u.length=o.length)∧(g 9 = .int .i64 (j:Int)∧OwnG w0 125 elHP (.slice p_d d.length c_d) u L_u)∧M=(L_u++(M1++[]))) (fun K_u43 hK_u43=>?_) ?_
   ·refine go_ ?_;refine cF (rg [9] 18 35) (fun g nn M=>∃ (j:Nat) (u:List HPl) (L_u:List Blk),(nM d i o nn j u)=(nM d i o (i+1) i o)∧j<nn∧(j≤i∧u.length=o.length)∧(g 9 = .int .i64 (j:Int)∧OwnG w0 125 elHP (.slice p_d d.length c_d) u L_u)∧M=(L_u++(M1++[]))) (i+1) ?start ?round
    case start=>exact ⟨_,s0,i,o,L_o,rfl,oo_,oo_,⟨rfl,hO_o⟩,rfl⟩
    case round =>
     rintro nn g M ⟨j,u,L_u,hT1,hq1,hinv1,⟨hg9,hO_u⟩,rfl⟩;obtain ⟨k1,rfl⟩:∃ m,nn=m+1:=⟨nn - 1,by omega⟩;refine gS1 hg9 ?_;clear hg9;have hm_u:=OwnG.max hO_u;refine go_ ?_;refine gds s0 [0,4,8,12,16,20,24,28,32,36,40,44,48,52,56,60,64] [] mix (by kernel_rfl) (go3 ?_);refine pBB O (fun h56=>?_) (fun h56=>?_)
     ·have ph56:=of_decide_eq_true h56;refine go3 ?_;refine pQ O (aE (v':=.pointer (some (slb (.slice p_d d.length c_d) (j*4+0)))) (aM (e:=elHP) (l:=u) (k:=j) jF O O (rO hO_u lZ) o2_) O) ?_;refine pQ O (bM (e:=elHP) (l:=u) (k:=j) (o:=0) tyT O (rO hO_u lZ) (aF sJ o2_) O) ?_;refine go2 ?_;refine pV (.int .i64 (((j - 1):Nat):Int)) O wxo (pQ O (aE (v':=.pointer (some (slb (.slice p_d d.length c_d) ((j - 1)*4+0)))) (aM (e:=elHP) (l:=u) (k:=(j - 1)) jF O O (rO hO_u lZ) o2_) O) ?_);refine pQ O (bM (e:=elHP) (l:=u) (k:=(j - 1)) (o:=0) tyT O (rO hO_u lZ) (aF sJ o2_) O) ?_;refine pQ O (CY aK O (BH (u.getD j sJ) (u.getD (j - 1) sJ)) O) (go3 ?_);refine aS _ O (fun h57=>?_) (fun h57=>?_)
      ·have ph57:=of_decide_eq_true h57;refine go3 ?_;refine gdr (sR s0) [0,4,20,24,28,32,36,40,44,48,52,56,10,14,18,61,64,69] [15,17] mix (by kernel_rfl) (go4 ?_);refine pV (.int .i64 (((j - 1):Nat):Int)) O wxo (pQ O (aE (v':=.pointer (some (slb (.slice p_d d.length c_d) ((j - 1)*4+0)))) (aM (e:=elHP) (l:=u) (k:=(j - 1)) jF O O (rO hO_u lZ) o2_) O) ?_);refine pQ O (bM (e:=elHP) (l:=u) (k:=(j - 1)) (o:=0) tyT O (rO hO_u lZ) (aF sJ o2_) O) ?_;refine go2 ?_;refine pQ O (aE (v':=.pointer (some (slb (.slice p_d d.length c_d) (j*4+0)))) (aM (e:=elHP) (l:=u) (k:=j) jF O O (rO hO_u lZ) o2_) O) ?_;refine pQ O (bM (e:=elHP) (l:=u) (k:=j) (o:=0) tyT O (rO hO_u lZ) (aF sJ o2_) O) ?_;refine pQ O (aE (v':=.pointer (some (slb (.slice p_d d.length c_d) (j*4+0)))) (aM (e:=elHP) (l:=u) (k:=j) jF O O (rO hO_u lZ) o2_) O) ?_;refine go2 ?_;refine tV (.int .i64 (((j - 1):Nat):Int)) O wxo (dA O O (jK (e:=elHP) (l:=u) (k:=j) (z:=(u.getD (j - 1) sJ)) tyT O O hO_u o2_ vX O O (fun L58 hO59=>⟨nf,(sR s0),?_⟩)));refine pQ O (aE (v':=.pointer (some (slb (.slice p_d d.length c_d) ((j - 1)*4+0)))) (aM (e:=elHP) (l:=(u.set j (u.getD (j - 1) sJ))) (k:=(j - 1)) jF O O (rO hO59 lZ) o2_) O) ?_;refine dA O O (jK (e:=elHP) (l:=(u.set j (u.getD (j - 1) sJ))) (k:=(j - 1)) (z:=(u.getD j sJ)) tyT O O hO59 o2_ vX O O (fun L60 hO61=>⟨nf,(sR s0),?_⟩));refine go3 ?_;refine sWi (((j - 1):Nat):Int) O (go2 ?_);refine ⟨pp_,_,_,s0,(Nat.lt_succ_self _),(j - 1),((u.set j (u.getD (j - 1) sJ)).set (j - 1) (u.getD j sJ)),L60,(by exact (hT1.symm.trans (Eq.symm (bL h56 (bL h57 O)))).symm),(Nat.lt_of_lt_of_le oo_ (Nat.le_of_lt_succ hq1)),(by first|omega|(simp only [List.length_set]<;>omega)),⟨rfl,hO61⟩,rfl⟩
      have ph57:=of_decide_eq_false h57;refine go_ ?_;refine hK_u43 _ _ pp_ ⟨_,s0,j,u,L_u,(by exact hT1.symm.trans (Eq.symm (bL h56 (aX h57 O)))),oo_,⟨rfl,hO_u⟩,rfl⟩
     have ph56:=of_decide_eq_false h56;refine Q6 ?_;refine hK_u43 _ _ pp_ ⟨_,s0,j,u,L_u,(by exact hT1.symm.trans (Eq.symm (aX h56 O))),oo_,⟨rfl,hO_u⟩,rfl⟩
   rintro g M ⟨j,u,L_u,hCu43,hPu43,⟨hg9,hO_u⟩,rfl⟩;refine gS1 hg9 ?_;clear hg9;have hm_u:=OwnG.max hO_u;refine go2 ?_;refine sWi (((i+1):Nat):Int) O (go2 ?_);refine ⟨pp_,_,_,s0,(Nat.lt_succ_self _),(i+1),u,L_u,(by exact (hT0.symm.trans (Eq.symm (bL h42 (trs (Eq.symm (apS hCu43)) O)))).symm),(Nat.lt_of_lt_of_le oo_ (Nat.le_of_lt_succ hq0)),(by first|omega|(simp only [List.length_set]<;>omega)),⟨rfl,hO_u⟩,rfl⟩
  have ph42:=of_decide_eq_false h42;refine go_ ?_
  have hCu1:(nL d (d.length+1) 1 d)=(i,o):=by exact hT0.symm.trans (Eq.symm (aX h42 O))
  refine u9 O (.inl O) ?_
  have hE:(o:List HPl)=(nK d):=by exact (by unfold nK;exact trs (Eq.symm (apS hCu1)) O)
  exact ⟨rfl,_,hE ▸ hO_o,by rw [List.append_nil]⟩
theorem RD {w0:World} {X:List Nat} {M1:List Blk} {w:World} {p_d:Option Addr} {c_d:Nat} {d:List (A3 W)} {L_d:List Blk} {n:Int} (hw:Sat w0 X (L_d++M1) w) (hO_d:OwnG w0 75 elV (.slice p_d d.length c_d) d L_d) (hn:n=(d.length:Int)) (hpre:d.length≤12) :
    Calls prog 223 [.slice p_d d.length c_d,.int .i64 0,.int .i64 n,.func (.func 131) #[] #[]].toArray w fun e w'=>∃ v M',e = .returned v∧Sat w0 X M' w'∧KeepsOthers w w'∧(v = .tuple #[]∧∃ L',OwnG w0 75 elV (.slice p_d d.length c_d) (oS d) L'∧M'=L'++M1):=by
 have hw:Sat w0 X (L_d++(M1++[])) w:=by rw [List.append_nil];exact hw
 subst hn;refine iE (N:=53) func223 O O zz_ hw ?_;have hm_d:=hO_d.max;refine giI ?_;refine go2 ?_;refine sV (.int .i64 1) O O (go3 ?_);refine cF (rg [8,9] 12 41) (fun g nn M=>∃ (i:Nat) (o:List (A3 W)) (L_o:List Blk),(nN d nn i o)=(nN d (d.length+1) 1 d)∧d.length - i<nn∧(1≤i∧o.length=d.length)∧(g 8 = .int .i64 (i:Int)∧OwnG w0 75 elV (.slice p_d d.length c_d) o L_o)∧M=(L_o++(M1++[]))) (d.length+1) ?start ?round
 case start=>exact ⟨_,s0,1,d,L_d,rfl,oo_,oo_,⟨rfl,hO_d⟩,rfl⟩
 case round =>
  rintro nn g M ⟨i,o,L_o,hT0,hq0,hinv0,⟨hg8,hO_o⟩,rfl⟩;obtain ⟨k0,rfl⟩:∃ m,nn=m+1:=⟨nn - 1,by omega⟩;refine gS1 hg8 ?_;clear hg8;have hm_o:=OwnG.max hO_o;refine go6 ?_;refine aS _ O (fun h42=>?_) (fun h42=>?_)
  ·have ph42:=of_decide_eq_true h42;refine go7 ?_;refine gJ3 (rg [9] 18 35) (fun g M=>∃ (j:Nat) (u:List (A3 W)) (L_u:List Blk),(nO d i o (i+1) i o)=(j,u)∧(u.length=o.length)∧(g 9 = .int .i64 (j:Int)∧OwnG w0 75 elV (.slice p_d d.length c_d) u L_u)∧M=(L_u++(M1++[]))) (fun K_u43 hK_u43=>?_) ?_
   ·refine go_ ?_;refine cF (rg [9] 18 35) (fun g nn M=>∃ (j:Nat) (u:List (A3 W)) (L_u:List Blk),(nO d i o nn j u)=(nO d i o (i+1) i o)∧j<nn∧(j≤i∧u.length=o.length)∧(g 9 = .int .i64 (j:Int)∧OwnG w0 75 elV (.slice p_d d.length c_d) u L_u)∧M=(L_u++(M1++[]))) (i+1) ?start ?round
    case start=>exact ⟨_,s0,i,o,L_o,rfl,oo_,oo_,⟨rfl,hO_o⟩,rfl⟩
    case round =>
     rintro nn g M ⟨j,u,L_u,hT1,hq1,hinv1,⟨hg9,hO_u⟩,rfl⟩;obtain ⟨k1,rfl⟩:∃ m,nn=m+1:=⟨nn - 1,by omega⟩;refine gS1 hg9 ?_;clear hg9;have hm_u:=OwnG.max hO_u;refine go_ ?_;refine gds s0 [0,4,8,12,16,20,24,28,32,36,40,44,48,52,56,60,64] [] mix (by kernel_rfl) (go3 ?_);refine pBB O (fun h56=>?_) (fun h56=>?_)
     ·have ph56:=of_decide_eq_true h56;refine go3 ?_;refine pQ O (aE (v':=.pointer (some (slb (.slice p_d d.length c_d) (j*3+0)))) (aM (e:=elV) (l:=u) (k:=j) cK O O (rO hO_u lZ) o2_) O) ?_;refine pQ O (bM (e:=elV) (l:=u) (k:=j) (o:=0) tyT O (rO hO_u lZ) (aF A30 o2_) O) ?_;refine go2 ?_;refine pV (.int .i64 (((j - 1):Nat):Int)) O wxo (pQ O (aE (v':=.pointer (some (slb (.slice p_d d.length c_d) ((j - 1)*3+0)))) (aM (e:=elV) (l:=u) (k:=(j - 1)) cK O O (rO hO_u lZ) o2_) O) ?_);refine pQ O (bM (e:=elV) (l:=u) (k:=(j - 1)) (o:=0) tyT O (rO hO_u lZ) (aF A30 o2_) O) ?_;refine pQ O (CY aK O (BI (u.getD j A30) (u.getD (j - 1) A30)) O) (go3 ?_);refine aS _ O (fun h57=>?_) (fun h57=>?_)
      ·have ph57:=of_decide_eq_true h57;refine go3 ?_;refine gdr (sR s0) [0,4,20,24,28,32,36,40,44,48,52,56,10,14,18,61,64,69] [15,17] mix (by kernel_rfl) (go4 ?_);refine pV (.int .i64 (((j - 1):Nat):Int)) O wxo (pQ O (aE (v':=.pointer (some (slb (.slice p_d d.length c_d) ((j - 1)*3+0)))) (aM (e:=elV) (l:=u) (k:=(j - 1)) cK O O (rO hO_u lZ) o2_) O) ?_);refine pQ O (bM (e:=elV) (l:=u) (k:=(j - 1)) (o:=0) tyT O (rO hO_u lZ) (aF A30 o2_) O) ?_;refine go2 ?_;refine pQ O (aE (v':=.pointer (some (slb (.slice p_d d.length c_d) (j*3+0)))) (aM (e:=elV) (l:=u) (k:=j) cK O O (rO hO_u lZ) o2_) O) ?_;refine pQ O (bM (e:=elV) (l:=u) (k:=j) (o:=0) tyT O (rO hO_u lZ) (aF A30 o2_) O) ?_;refine pQ O (aE (v':=.pointer (some (slb (.slice p_d d.length c_d) (j*3+0)))) (aM (e:=elV) (l:=u) (k:=j) cK O O (rO hO_u lZ) o2_) O) ?_;refine go2 ?_;refine tV (.int .i64 (((j - 1):Nat):Int)) O wxo (dA O O (jK (e:=elV) (l:=u) (k:=j) (z:=(u.getD (j - 1) A30)) tyT O O hO_u o2_ vX O O (fun L58 hO59=>⟨nf,(sR s0),?_⟩)));refine pQ O (aE (v':=.pointer (some (slb (.slice p_d d.length c_d) ((j - 1)*3+0)))) (aM (e:=elV) (l:=(u.set j (u.getD (j - 1) A30))) (k:=(j - 1)) cK O O (rO hO59 lZ) o2_) O) ?_;refine dA O O (jK (e:=elV) (l:=(u.set j (u.getD (j - 1) A30))) (k:=(j - 1)) (z:=(u.getD j A30)) tyT O O hO59 o2_ vX O O (fun L60 hO61=>⟨nf,(sR s0),?_⟩));refine go3 ?_;refine sWi (((j - 1):Nat):Int) O (go2 ?_);refine ⟨pp_,_,_,s0,(Nat.lt_succ_self _),(j - 1),((u.set j (u.getD (j - 1) A30)).set (j - 1) (u.getD j A30)),L60,(by exact (hT1.symm.trans (Eq.symm (bL h56 (bL h57 O)))).symm),(Nat.lt_of_lt_of_le oo_ (Nat.le_of_lt_succ hq1)),(by first|omega|(simp only [List.length_set]<;>omega)),⟨rfl,hO61⟩,rfl⟩
      have ph57:=of_decide_eq_false h57;refine go_ ?_;refine hK_u43 _ _ pp_ ⟨_,s0,j,u,L_u,(by exact hT1.symm.trans (Eq.symm (bL h56 (aX h57 O)))),oo_,⟨rfl,hO_u⟩,rfl⟩
     have ph56:=of_decide_eq_false h56;refine Q6 ?_;refine hK_u43 _ _ pp_ ⟨_,s0,j,u,L_u,(by exact hT1.symm.trans (Eq.symm (aX h56 O))),oo_,⟨rfl,hO_u⟩,rfl⟩
   rintro g M ⟨j,u,L_u,hCu43,hPu43,⟨hg9,hO_u⟩,rfl⟩;refine gS1 hg9 ?_;clear hg9;have hm_u:=OwnG.max hO_u;refine go2 ?_;refine sWi (((i+1):Nat):Int) O (go2 ?_);refine ⟨pp_,_,_,s0,(Nat.lt_succ_self _),(i+1),u,L_u,(by exact (hT0.symm.trans (Eq.symm (bL h42 (trs (Eq.symm (apS hCu43)) O)))).symm),(Nat.lt_of_lt_of_le oo_ (Nat.le_of_lt_succ hq0)),(by first|omega|(simp only [List.length_set]<;>omega)),⟨rfl,hO_u⟩,rfl⟩
  have ph42:=of_decide_eq_false h42;refine go_ ?_
  have hCu1:(nN d (d.length+1) 1 d)=(i,o):=by exact hT0.symm.trans (Eq.symm (aX h42 O))
  refine u9 O (.inl O) ?_
  have hE:(o:List (A3 W))=(oS d):=by exact (by unfold oS;exact trs (Eq.symm (apS hCu1)) O)
  exact ⟨rfl,_,hE ▸ hO_o,by rw [List.append_nil]⟩
theorem sM:Go.Maps.Keyed prog 125:=Go.Maps.Keyed.of_law (Go.deep_law_laid (by kernel_rfl) (m:=prog.types.size+1) (Nat.le_of_ble_eq_true (by kernel_rfl)) (Nat.le_of_ble_eq_true (by kernel_rfl)) (by kernel_rfl) (by kernel_rfl))
theorem rJ:prog.underlying 164=some (.map 125 4):=by kernel_rfl
theorem P1:prog.underlying 4=some .bool:=by kernel_rfl
theorem D0:(prog.info? 4).bind (·.zero)=some (.bool false):=by kernel_rfl
theorem bP_:xL prog 130=some .u64:=by kernel_rfl
theorem c6_:xL prog 5=some .u8:=by kernel_rfl
theorem fW_:xL prog 3=some .i64:=by kernel_rfl
theorem gs_:prog.underlying 9=some .string:=by kernel_rfl
theorem bQ_:Ret prog 216 [.int .u64 4] (.int .i64 3):=by
 refine bI (N:=25) func216 O O zz_ (fun w0=>?_);refine giI ?_
 repeat refine go_ ?_
 refine sQ (aE (v':=.int .u8 ((4:Nat):Int)) (dJ bP_ c6_ O) O) O ?_;refine sQ (aE (v':=.int .u8 3) (GJ (n:=256) bl gs_ O O dd_ (by decide +kernel)) O) O ?_;refine sQ (aE (v':=.int .i64 3) (dJ c6_ fW_ O) O) O ?_
 repeat refine go_ ?_
 exact am_ O (.inr O) O O
theorem db_:Ret prog 180 [.int .u64 4] (.int .i64 3):=by
 refine bI (N:=8) func180 O O zz_ (fun w0=>?_);refine giI ?_
 repeat refine go_ ?_
 refine sQ (aY (by rfl) bQ_ O) O ?_
 repeat refine go_ ?_
 exact am_ O (.inr O) O O
theorem Z1 {w0:World} {X:List Nat} {M1:List Blk} {w:World} {p_d:Option Addr} {c_d:Nat} {d:List HPl} {L_d:List Blk} {n:Int} {x:W} (hw:Sat w0 X (L_d++M1) w) (hO_d:OwnG w0 125 elHP (.slice p_d d.length c_d) d L_d) (hn:n=(d.length:Int)) (hpre:d.length≤12) :
  Calls prog 179 [.slice p_d d.length c_d,.int .i64 0,.int .i64 n,.int .i64 x.1,.func (.func 139) #[] #[]].toArray w fun e w'=>∃ v M',e = .returned v∧Sat w0 X M' w'∧KeepsOthers w w'∧(v = .tuple #[]∧∃ L',OwnG w0 125 elHP (.slice p_d d.length c_d) (nK d) L'∧M'=L'++M1):=by
 have hw:Sat w0 X (L_d++(M1++[])) w:=by rw [List.append_nil];exact hw
 subst hn;refine iE (N:=148) func179 O O zz_ hw ?_;have hm_d:=hO_d.max;refine giI ?_;refine go7 ?_;refine jI 2 (go5 ?_);refine sWi ((d.length:Int) - 0) O (go7 ?_);refine W_t (decide_eq_true oo_) O (go5 ?_);refine aQ O (zN aK O (fun w hw=>RC hw hO_d (by first|rfl|(rw [hpre];rfl)) oo_) (fun L1 hO2=>?_));refine go2 ?_;refine u9 O (.inr O) ?_
 have hE:((nK d):List HPl)=(nK d):=by exact rfl
 exact ⟨rfl,_,hE ▸ hO2,by rw [List.append_nil]⟩
theorem WE {w0:World} {X:List Nat} {M1:List Blk} {w:World} {p_d:Option Addr} {c_d:Nat} {d:List HPl} {L_d:List Blk} (hw:Sat w0 X (L_d++M1) w) (hO_d:OwnG w0 125 elHP (.slice p_d d.length c_d) d L_d) (hpre:d.length=4) :
  Calls prog 138 [.slice p_d d.length c_d,.func (.func 139) #[] #[]].toArray w fun e w'=>∃ v M',e = .returned v∧Sat w0 X M' w'∧KeepsOthers w w'∧(v = .tuple #[]∧∃ L',OwnG w0 125 elHP (.slice p_d d.length c_d) (nK d) L'∧M'=L'++M1):=by
 have hw:Sat w0 X (L_d++(M1++[])) w:=by rw [List.append_nil];exact hw
 refine iE (N:=14) func138 O O zz_ hw ?_;have hm_d:=hO_d.max;refine giI ?_;refine go2 ?_;refine sQ (aE (v':=.int .i64 4) (bT jF O (rO hO_d lZ)) (by rw [hpre];rfl)) O (go6 ?_);refine sQ (aE (v':=.int .u64 4) (dJ zW Y1 O) O) O (sQ (aY aK db_ O) O (go_ ?_));refine aQ O (zN aK O (fun w hw=>Z1 (x:=(wl 3)) hw hO_d (by first|rfl|(rw [hpre];rfl)) oo_) (fun L1 hO2=>?_));refine go_ ?_;refine u9 O (.inl O) ?_
 have hE:((nK d):List HPl)=(nK d):=by exact rfl
 exact ⟨rfl,_,hE ▸ hO2,by rw [List.append_nil]⟩
theorem Z2 {w0:World} {X:List Nat} {M1:List Blk} {w:World} {p_d:Option Addr} {c_d:Nat} {d:List (A3 W)} {L_d:List Blk} {n:Int} {x:W} (hw:Sat w0 X (L_d++M1) w) (hO_d:OwnG w0 75 elV (.slice p_d d.length c_d) d L_d) (hn:n=(d.length:Int)) (hpre:d.length≤12) :
  Calls prog 206 [.slice p_d d.length c_d,.int .i64 0,.int .i64 n,.int .i64 x.1,.func (.func 131) #[] #[]].toArray w fun e w'=>∃ v M',e = .returned v∧Sat w0 X M' w'∧KeepsOthers w w'∧(v = .tuple #[]∧∃ L',OwnG w0 75 elV (.slice p_d d.length c_d) (oS d) L'∧M'=L'++M1):=by
 have hw:Sat w0 X (L_d++(M1++[])) w:=by rw [List.append_nil];exact hw
 subst hn;refine iE (N:=148) func206 O O zz_ hw ?_;have hm_d:=hO_d.max;refine giI ?_;refine go7 ?_;refine jI 2 (go5 ?_);refine sWi ((d.length:Int) - 0) O (go7 ?_);refine W_t (decide_eq_true oo_) O (go5 ?_);refine aQ O (zN aK O (fun w hw=>RD hw hO_d (by first|rfl|(rw [hpre];rfl)) oo_) (fun L1 hO2=>?_));refine go2 ?_;refine u9 O (.inr O) ?_
 have hE:((oS d):List (A3 W))=(oS d):=by exact rfl
 exact ⟨rfl,_,hE ▸ hO2,by rw [List.append_nil]⟩
theorem WF {w0:World} {X:List Nat} {M1:List Blk} {w:World} {p_d:Option Addr} {c_d:Nat} {d:List (A3 W)} {L_d:List Blk} (hw:Sat w0 X (L_d++M1) w) (hO_d:OwnG w0 75 elV (.slice p_d d.length c_d) d L_d) (hpre:d.length=4) :
  Calls prog 175 [.slice p_d d.length c_d,.func (.func 131) #[] #[]].toArray w fun e w'=>∃ v M',e = .returned v∧Sat w0 X M' w'∧KeepsOthers w w'∧(v = .tuple #[]∧∃ L',OwnG w0 75 elV (.slice p_d d.length c_d) (oS d) L'∧M'=L'++M1):=by
 have hw:Sat w0 X (L_d++(M1++[])) w:=by rw [List.append_nil];exact hw
 refine iE (N:=14) func175 O O zz_ hw ?_;have hm_d:=hO_d.max;refine giI ?_;refine go2 ?_;refine sQ (aE (v':=.int .i64 4) (bT cK O (rO hO_d lZ)) (by rw [hpre];rfl)) O (go6 ?_);refine sQ (aE (v':=.int .u64 4) (dJ zW Y1 O) O) O (sQ (aY aK db_ O) O (go_ ?_));refine aQ O (zN aK O (fun w hw=>Z2 (x:=(wl 3)) hw hO_d (by first|rfl|(rw [hpre];rfl)) oo_) (fun L1 hO2=>?_));refine go_ ?_;refine u9 O (.inl O) ?_
 have hE:((oS d):List (A3 W))=(oS d):=by exact rfl
 exact ⟨rfl,_,hE ▸ hO2,by rw [List.append_nil]⟩
end Go.Proofs.YtcjoflcajgaifaaGreatDoor
