/- Lemmas: what they ask stands in their statements. -/
import Derived.Test.YtbjlhfochebmiaaGreatDoorMJe
set_option linter.unusedSimpArgs false
set_option linter.unusedVariables false
set_option maxHeartbeats 8000000
set_option maxRecDepth 20000
namespace Go.Proofs.YtbjlhfochebmiaaGreatDoor
open Go.Kn Go.Num Tryz
attribute [local irreducible] Go.Kn.W WL PL OpQ OpR OpS
theorem OV (vl:Value) (l:(List W)) (w:World) (hl:Slr w elW vl l) :
    Calls prog 211 [vl].toArray w (fun e w'=>e = .returned (.int .i64 ((eC l).1))∧Ext w w'):=by
 refine dL (N:=25) func211 O O zz_ ?_;obtain ⟨w0,rfl⟩:=nm w;have Hl:=hl.old;have hm_l:=hl.max;refine giI ?_;refine go9 ?_;refine sQ (dV j7 O (SLe.sub Hl sn)) O (go2 ?_);refine gJ3 (rg [3,5,6] 9 15) (fun g M=>∃ (o:W),(rU l l (wl 0))=o∧(g 3 = .int .i64 o.1)∧M=[]) (fun K_u1 hK_u1=>?_) ?_
 ·refine go_ ?_;have hmx0:(l).length≤9223372036854775807:=hm_l;refine cE (rg [3,5,6] 9 15) (fun g nn M=>∃ (i0:Nat) (l0:List W) (o:W),(rU l l0 o)=(rU l l (wl 0))∧(l).drop i0=l0∧l0.length=nn∧g 9 = .int .i64 (i0:Int)∧(g 3 = .int .i64 o.1)∧M=[]) l.length ?start ?round
  case start=>exact ⟨_,s0,0,l,(wl 0),rfl,rfl,rfl,rfl,rfl,rfl⟩
  case round =>
   rintro nn g M ⟨i0,l0,o,hT0,hr0,rfl,hgi,hg3,rfl⟩;refine gS2 hgi hg3 ?_;clear hgi hg3;refine go4 ?_;rcases l0 with _|⟨x0,l0⟩
   ·have h8:=FM hr0;refine W_f h8 O (go_ ?_);refine hK_u1 _ _ pp_ ⟨_,s0,o,(by exact hT0.symm.trans (Eq.symm rfl)),rfl,rfl⟩
   have h9:=DB hr0;have g10:=yX hr0;refine W_t h9 O (go4 ?_);refine sQ (aM (v':=.pointer (some (slb vl (i0*1+0)))) (eD (e:=elW) (l:=l) (k:=i0) j7 O O (SLe.sub Hl sn) g10.2.1) O) O (sQ (wO (u:=.int .i64 x0.1) (e:=elW) (l:=l) (k:=i0) (o:=0) tyT O (SLe.sub Hl sn) g10.1 O) O (go5 ?_));refine sV (.int .i64 ((W.neg x0).1)) O O (sQ (aM (v':=.int .i64 ((W.max x0 (W.neg x0)).1)) (mW O O) (congrArg (Value.int .i64) (W.max_1 x0 (W.neg x0)))) O (go2 ?_));refine gJ3 (rg [3,6] 17 6) (fun g M=>∃ (p:W) (q:W),(rV l x0 l0 o ((W.max x0 (W.neg x0)).1.natAbs+1) o (W.max x0 (W.neg x0)))=(p,q)∧(g 3 = .int .i64 p.1∧g 6 = .int .i64 q.1)∧M=[]) (fun K_u11 hK_u11=>?_) ?_
   ·refine go_ ?_;refine cE (rg [3,6] 17 6) (fun g nn M=>∃ (p:W) (q:W),(rV l x0 l0 o nn p q)=(rV l x0 l0 o ((W.max x0 (W.neg x0)).1.natAbs+1) o (W.max x0 (W.neg x0)))∧q.1.natAbs<nn∧(True)∧(g 3 = .int .i64 p.1∧g 6 = .int .i64 q.1)∧M=[]) ((W.max x0 (W.neg x0)).1.natAbs+1) ?start ?round
    case start=>exact ⟨_,s0,o,(W.max x0 (W.neg x0)),rfl,Nat.lt_succ_self _,trivial,⟨rfl,rfl⟩,rfl⟩
    case round =>
     rintro nn g M ⟨p,q,hT1,hq1,hinv1,⟨hg3,hg6⟩,rfl⟩;obtain ⟨k1,rfl⟩:∃ m,nn=m+1:=⟨nn - 1,by omega⟩;refine gS2 hg3 hg6 ?_;clear hg3 hg6;refine go5 ?_;refine aL _ O (fun h13=>?_) (fun h13=>?_)
     ·refine go2 ?_;refine kY sn 6 [] [] (go3 ?_);refine pQ O (aM (v':=.int .i64 ((W.rem p q).1)) (tQ O O (CQ h13)) O) (go3 ?_);refine ⟨pp_,_,_,s0,(Nat.lt_succ_self _),q,(W.rem p q),(by exact (hT1.symm.trans (Eq.symm (aQ h13 O))).symm),(Nat.lt_of_lt_of_le (W.rem_lt p h13) (Nat.le_of_lt_succ hq1)),trivial,⟨rfl,rfl⟩,rfl⟩
     refine go_ ?_;refine hK_u11 _ _ pp_ ⟨_,s0,p,q,(by exact hT1.symm.trans (Eq.symm (aN h13 O))),⟨rfl,rfl⟩,rfl⟩
   rintro g M ⟨p,q,hCu11,⟨hg3,hg6⟩,rfl⟩;refine gS2 hg3 hg6 ?_;clear hg3 hg6;refine go_ ?_;refine sV (.int .i64 ((i0+1:Nat):Int)) O (congrArg (Value.int .i64) (nxt g10.2.1 hmx0)) (go2 ?_);refine ⟨pp_,_,_,s0,(Nat.lt_succ_self _),i0+1,l0,p,(by exact (hT0.symm.trans (Eq.symm (trs (Eq.symm (apS hCu11)) O))).symm),g10.2.2,rfl,rfl,rfl,rfl⟩
 rintro g M ⟨o,hCu1,hg3,rfl⟩;refine gS1 hg3 ?_;clear hg3;refine go5 ?_;refine rt1 ?_;exact congrArg vS7 (show _=(eC l) from (by unfold eC;exact trs (Eq.symm (apS hCu1)) O))
theorem OW (a:(A4 W)) :
    Ret prog 183 [AV [cw a.x.1,cw a.y.1,cw a.z.1,cw a.t.1]] (.bool (tS a)):=by
 refine bA (N:=25) func183 O O zz_ (fun w0=>?_);refine giI ?_;refine go2 ?_;intro b1 hb1;refine go8 ?_;refine qS 6 (go2 ?_);refine sV (.bool true) O O (jE ?_);refine gJv (rg [] 9 15) [(23,.bool (decide (64<(W.max a.x (W.neg a.x)).1)||((a.x.1==(W.neg a.x).1)&&(a.x.1 != 0))))] (fun K5 J5=>?_) ?_
 ·refine go3 ?_;refine sV (.int .i64 ((W.neg a.x).1)) O O (sQ (aM (v':=.int .i64 ((W.max a.x (W.neg a.x)).1)) (mW O O) (congrArg (Value.int .i64) (W.max_1 a.x (W.neg a.x)))) O (go_ ?_));refine sBB O (fun h4=>?_) (fun h4=>?_)
  ·refine jE ?_;refine J5 _ _ pp_ s0 (bQ (o9 h4))
  refine go2 ?_;refine sV (.int .i64 ((W.neg a.x).1)) O O (go_ ?_);refine sBB O (fun h5=>?_) (fun h5=>?_)
  ·refine go5 ?_;refine J5 _ _ pp_ s0 (bQ (nA h4 (lS h5 O)))
  refine go5 ?_;refine J5 _ _ pp_ s0 (bQ (nA h4 (oY h5)))
 intro g6;refine aL _ O (fun h7=>?_) (fun h7=>?_)
 ·refine go4 ?_;refine rt1 ?_;exact congrArg vS2 (show _=(tS a) from aQ h7 O)
 refine go2 ?_;refine sV (.int .i64 1) O O (go4 ?_);refine sV (.bool true) O O (jE ?_);refine gJv (rg [] 9 15) [(23,.bool (decide (64<(W.max a.y (W.neg a.y)).1)||((a.y.1==(W.neg a.y).1)&&(a.y.1 != 0))))] (fun K9 J9=>?_) ?_
 ·refine go3 ?_;refine sV (.int .i64 ((W.neg a.y).1)) O O (sQ (aM (v':=.int .i64 ((W.max a.y (W.neg a.y)).1)) (mW O O) (congrArg (Value.int .i64) (W.max_1 a.y (W.neg a.y)))) O (go_ ?_));refine sBB O (fun h10=>?_) (fun h10=>?_)
  ·refine jE ?_;refine J9 _ _ pp_ s0 (bQ (o9 h10))
  refine go2 ?_;refine sV (.int .i64 ((W.neg a.y).1)) O O (go_ ?_);refine sBB O (fun h11=>?_) (fun h11=>?_)
  ·refine go5 ?_;refine J9 _ _ pp_ s0 (bQ (nA h10 (lS h11 O)))
  refine go5 ?_;refine J9 _ _ pp_ s0 (bQ (nA h10 (oY h11)))
 intro g12;refine aL _ O (fun h13=>?_) (fun h13=>?_)
 ·refine go4 ?_;refine rt1 ?_;exact congrArg vS2 (show _=(tS a) from aN h7 (aQ h13 O))
 refine go2 ?_;refine sV (.int .i64 2) O O (go4 ?_);refine sV (.bool true) O O (jE ?_);refine gJv (rg [] 9 15) [(23,.bool (decide (64<(W.max a.z (W.neg a.z)).1)||((a.z.1==(W.neg a.z).1)&&(a.z.1 != 0))))] (fun K13 J13=>?_) ?_
 ·refine go3 ?_;refine sV (.int .i64 ((W.neg a.z).1)) O O (sQ (aM (v':=.int .i64 ((W.max a.z (W.neg a.z)).1)) (mW O O) (congrArg (Value.int .i64) (W.max_1 a.z (W.neg a.z)))) O (go_ ?_));refine sBB O (fun h16=>?_) (fun h16=>?_)
  ·refine jE ?_;refine J13 _ _ pp_ s0 (bQ (o9 h16))
  refine go2 ?_;refine sV (.int .i64 ((W.neg a.z).1)) O O (go_ ?_);refine sBB O (fun h17=>?_) (fun h17=>?_)
  ·refine go5 ?_;refine J13 _ _ pp_ s0 (bQ (nA h16 (lS h17 O)))
  refine go5 ?_;refine J13 _ _ pp_ s0 (bQ (nA h16 (oY h17)))
 intro g18;refine aL _ O (fun h19=>?_) (fun h19=>?_)
 ·refine go4 ?_;refine rt1 ?_;exact congrArg vS2 (show _=(tS a) from aN h7 (aN h13 (aQ h19 O)))
 refine go2 ?_;refine sV (.int .i64 3) O O (go4 ?_);refine sV (.bool true) O O (jE ?_);refine gJv (rg [] 9 15) [(23,.bool (decide (64<(W.max a.t (W.neg a.t)).1)||((a.t.1==(W.neg a.t).1)&&(a.t.1 != 0))))] (fun K17 J17=>?_) ?_
 ·refine go3 ?_;refine sV (.int .i64 ((W.neg a.t).1)) O O (sQ (aM (v':=.int .i64 ((W.max a.t (W.neg a.t)).1)) (mW O O) (congrArg (Value.int .i64) (W.max_1 a.t (W.neg a.t)))) O (go_ ?_));refine sBB O (fun h22=>?_) (fun h22=>?_)
  ·refine jE ?_;refine J17 _ _ pp_ s0 (bQ (o9 h22))
  refine go2 ?_;refine sV (.int .i64 ((W.neg a.t).1)) O O (go_ ?_);refine sBB O (fun h23=>?_) (fun h23=>?_)
  ·refine go5 ?_;refine J17 _ _ pp_ s0 (bQ (nA h22 (lS h23 O)))
  refine go5 ?_;refine J17 _ _ pp_ s0 (bQ (nA h22 (oY h23)))
 intro g24;refine aL _ O (fun h25=>?_) (fun h25=>?_)
 ·refine go4 ?_;refine rt1 ?_;exact congrArg vS2 (show _=(tS a) from aN h7 (aN h13 (aN h19 (aQ h25 O))))
 refine go2 ?_;refine sV (.int .i64 4) O O (go4 ?_);refine sV (.bool false) O O (go8 ?_);refine rt1 ?_;exact congrArg vS2 (show _=(tS a) from aN h7 (aN h13 (aN h19 (aN h25 O))))
theorem FB (a:(A4 W)) :
    Ret prog 184 [AV [cw a.x.1,cw a.y.1,cw a.z.1,cw a.t.1]] (.tuple #[AV [cw ((((gI a).1).x).1),cw ((((gI a).1).y).1),cw ((((gI a).1).z).1),cw ((((gI a).1).t).1)],.bool ((gI a).2)]):=by
 refine bA (N:=35) func184 O O zz_ (fun w0=>?_);refine giI ?_;refine go2 ?_;intro b1 hb1;refine go_ ?_;intro b2 hb2;refine go3 ?_;refine sQ (aM (v':=.slice (some ⟨b1,0,none⟩) 4 4) (yE (lo:=none) (hi:=none) (l:=0) (h:=4) arT O O O dd_ dd_ dd_ dd_) O) O (sFc (.int .i64 ((eC [a.x,a.y,a.z,a.t]).1)) O (fun w hw=>OV _ ([a.x,a.y,a.z,a.t]) w (SLe.ap hw (SLe.lit (e:=elW) (l:=[a.x,a.y,a.z,a.t]) m1 O (Nat.le_of_ble_eq_true O) O))) O O (go7 ?_));refine aL _ O (fun h3=>?_) (fun h3=>?_)
 ·refine go6 ?_;refine wX O (.inr O) (eR O m0 tyT O) O ?_;exact congrArg vS1 (show _=(gI a) from aQ h3 O)
 refine go7 ?_;refine qS 6 (go2 ?_);refine sV (.bool true) O O (GO ?_);refine aL _ O (fun h4=>?_) (fun h4=>?_)
 ·obtain ⟨r6,hr6⟩:=nm ((bif decide (a.x.1<0) then (W.neg (eC [a.x,a.y,a.z,a.t])) else (eC [a.x,a.y,a.z,a.t])):W);refine gJv [4,19,20,21,22] [(4,.int .i64 r6.1)] (fun K6 J6=>?_) ?_
  ·refine go4 ?_;refine aL _ O (fun h7=>?_) (fun h7=>?_)
   ·refine go2 ?_;refine sV (.int .i64 ((W.neg (eC [a.x,a.y,a.z,a.t])).1)) O O (go2 ?_);refine J6 _ _ pp_ s0 (show (.int .i64 ((W.neg (eC [a.x,a.y,a.z,a.t])).1):Value) = .int .i64 r6.1 by rw [hr6];first|done|rfl|simp only [h7,cond_true,cond_false,Bool.true_and,Bool.false_and,Bool.and_true,Bool.and_false,Bool.true_or,Bool.false_or,Bool.or_true,Bool.or_false,Bool.not_true,Bool.not_false]|(simp only [h7,cond_true,cond_false,Bool.true_and,Bool.false_and,Bool.and_true,Bool.and_false,Bool.true_or,Bool.false_or,Bool.or_true,Bool.or_false,Bool.not_true,Bool.not_false];rfl))
   refine go_ ?_;refine J6 _ _ pp_ s0 (show (.int .i64 ((eC [a.x,a.y,a.z,a.t]).1):Value) = .int .i64 r6.1 by rw [hr6];first|done|rfl|simp only [h7,cond_true,cond_false,Bool.true_and,Bool.false_and,Bool.and_true,Bool.and_false,Bool.true_or,Bool.false_or,Bool.or_true,Bool.or_false,Bool.not_true,Bool.not_false]|(simp only [h7,cond_true,cond_false,Bool.true_and,Bool.false_and,Bool.and_true,Bool.and_false,Bool.true_or,Bool.false_or,Bool.or_true,Bool.or_false,Bool.not_true,Bool.not_false];rfl))
  intro g8;refine go6 ?_;refine qS 6 (go2 ?_);refine sV (.bool true) O O (xY ?_);refine sQ (aM (v':=.int .i64 ((W.quo a.x r6).1)) (lI O O (by repeat' (first|exact yN h3|exact CQ h4|apply uZ|apply W.neg_ne|rw [hr6]))) O) O ?_;refine go4 ?_;refine sV (.int .i64 1) O O (go4 ?_);refine sV (.bool true) O O (xY ?_);refine sQ (aM (v':=.int .i64 ((W.quo a.y r6).1)) (lI O O (by repeat' (first|exact yN h3|exact CQ h4|apply uZ|apply W.neg_ne|rw [hr6]))) O) O ?_;refine go4 ?_;refine sV (.int .i64 2) O O (go4 ?_);refine sV (.bool true) O O (xY ?_);refine sQ (aM (v':=.int .i64 ((W.quo a.z r6).1)) (lI O O (by repeat' (first|exact yN h3|exact CQ h4|apply uZ|apply W.neg_ne|rw [hr6]))) O) O ?_;refine go4 ?_;refine sV (.int .i64 3) O O (go4 ?_);refine sV (.bool true) O O (xY ?_);refine sQ (aM (v':=.int .i64 ((W.quo a.t r6).1)) (lI O O (by repeat' (first|exact yN h3|exact CQ h4|apply uZ|apply W.neg_ne|rw [hr6]))) O) O ?_;refine go4 ?_;refine sV (.int .i64 4) O O (go4 ?_);refine sV (.bool false) O O (jE ?_);refine wX O (.inr O) (eR O m0 tyT O) O ?_;exact (by subst hr6;exact congrArg vS1 (show _=(gI a) from aN h3 (aQ h4 O)))
 refine go2 ?_;refine sV (.int .i64 1) O O (go4 ?_);refine sV (.bool true) O O (GO ?_);refine aL _ O (fun h9=>?_) (fun h9=>?_)
 ·obtain ⟨r11,hr11⟩:=nm ((bif decide (a.y.1<0) then (W.neg (eC [a.x,a.y,a.z,a.t])) else (eC [a.x,a.y,a.z,a.t])):W);refine gJv [4,19,20,21,22] [(4,.int .i64 r11.1)] (fun K25 J25=>?_) ?_
  ·refine go4 ?_;refine aL _ O (fun h12=>?_) (fun h12=>?_)
   ·refine go2 ?_;refine sV (.int .i64 ((W.neg (eC [a.x,a.y,a.z,a.t])).1)) O O (go2 ?_);refine J25 _ _ pp_ s0 (show (.int .i64 ((W.neg (eC [a.x,a.y,a.z,a.t])).1):Value) = .int .i64 r11.1 by rw [hr11];first|done|rfl|simp only [h12,cond_true,cond_false,Bool.true_and,Bool.false_and,Bool.and_true,Bool.and_false,Bool.true_or,Bool.false_or,Bool.or_true,Bool.or_false,Bool.not_true,Bool.not_false]|(simp only [h12,cond_true,cond_false,Bool.true_and,Bool.false_and,Bool.and_true,Bool.and_false,Bool.true_or,Bool.false_or,Bool.or_true,Bool.or_false,Bool.not_true,Bool.not_false];rfl))
   refine go_ ?_;refine J25 _ _ pp_ s0 (show (.int .i64 ((eC [a.x,a.y,a.z,a.t]).1):Value) = .int .i64 r11.1 by rw [hr11];first|done|rfl|simp only [h12,cond_true,cond_false,Bool.true_and,Bool.false_and,Bool.and_true,Bool.and_false,Bool.true_or,Bool.false_or,Bool.or_true,Bool.or_false,Bool.not_true,Bool.not_false]|(simp only [h12,cond_true,cond_false,Bool.true_and,Bool.false_and,Bool.and_true,Bool.and_false,Bool.true_or,Bool.false_or,Bool.or_true,Bool.or_false,Bool.not_true,Bool.not_false];rfl))
  intro g13;refine go6 ?_;refine qS 6 (go2 ?_);refine sV (.bool true) O O (xY ?_);refine sQ (aM (v':=.int .i64 ((W.quo a.x r11).1)) (lI O O (by repeat' (first|exact yN h3|exact CQ h9|apply uZ|apply W.neg_ne|rw [hr11]))) O) O ?_;refine go4 ?_;refine sV (.int .i64 1) O O (go4 ?_);refine sV (.bool true) O O (xY ?_);refine sQ (aM (v':=.int .i64 ((W.quo a.y r11).1)) (lI O O (by repeat' (first|exact yN h3|exact CQ h9|apply uZ|apply W.neg_ne|rw [hr11]))) O) O ?_;refine go4 ?_;refine sV (.int .i64 2) O O (go4 ?_);refine sV (.bool true) O O (xY ?_);refine sQ (aM (v':=.int .i64 ((W.quo a.z r11).1)) (lI O O (by repeat' (first|exact yN h3|exact CQ h9|apply uZ|apply W.neg_ne|rw [hr11]))) O) O ?_;refine go4 ?_;refine sV (.int .i64 3) O O (go4 ?_);refine sV (.bool true) O O (xY ?_);refine sQ (aM (v':=.int .i64 ((W.quo a.t r11).1)) (lI O O (by repeat' (first|exact yN h3|exact CQ h9|apply uZ|apply W.neg_ne|rw [hr11]))) O) O ?_;refine go4 ?_;refine sV (.int .i64 4) O O (go4 ?_);refine sV (.bool false) O O (jE ?_);refine wX O (.inr O) (eR O m0 tyT O) O ?_;exact (by subst hr11;exact congrArg vS1 (show _=(gI a) from aN h3 (aN h4 (aQ h9 O))))
 refine go2 ?_;refine sV (.int .i64 2) O O (go4 ?_);refine sV (.bool true) O O (GO ?_);refine aL _ O (fun h14=>?_) (fun h14=>?_)
 ·obtain ⟨r16,hr16⟩:=nm ((bif decide (a.z.1<0) then (W.neg (eC [a.x,a.y,a.z,a.t])) else (eC [a.x,a.y,a.z,a.t])):W);refine gJv [4,19,20,21,22] [(4,.int .i64 r16.1)] (fun K44 J44=>?_) ?_
  ·refine go4 ?_;refine aL _ O (fun h17=>?_) (fun h17=>?_)
   ·refine go2 ?_;refine sV (.int .i64 ((W.neg (eC [a.x,a.y,a.z,a.t])).1)) O O (go2 ?_);refine J44 _ _ pp_ s0 (show (.int .i64 ((W.neg (eC [a.x,a.y,a.z,a.t])).1):Value) = .int .i64 r16.1 by rw [hr16];first|done|rfl|simp only [h17,cond_true,cond_false,Bool.true_and,Bool.false_and,Bool.and_true,Bool.and_false,Bool.true_or,Bool.false_or,Bool.or_true,Bool.or_false,Bool.not_true,Bool.not_false]|(simp only [h17,cond_true,cond_false,Bool.true_and,Bool.false_and,Bool.and_true,Bool.and_false,Bool.true_or,Bool.false_or,Bool.or_true,Bool.or_false,Bool.not_true,Bool.not_false];rfl))
   refine go_ ?_;refine J44 _ _ pp_ s0 (show (.int .i64 ((eC [a.x,a.y,a.z,a.t]).1):Value) = .int .i64 r16.1 by rw [hr16];first|done|rfl|simp only [h17,cond_true,cond_false,Bool.true_and,Bool.false_and,Bool.and_true,Bool.and_false,Bool.true_or,Bool.false_or,Bool.or_true,Bool.or_false,Bool.not_true,Bool.not_false]|(simp only [h17,cond_true,cond_false,Bool.true_and,Bool.false_and,Bool.and_true,Bool.and_false,Bool.true_or,Bool.false_or,Bool.or_true,Bool.or_false,Bool.not_true,Bool.not_false];rfl))
  intro g18;refine go6 ?_;refine qS 6 (go2 ?_);refine sV (.bool true) O O (xY ?_);refine sQ (aM (v':=.int .i64 ((W.quo a.x r16).1)) (lI O O (by repeat' (first|exact yN h3|exact CQ h14|apply uZ|apply W.neg_ne|rw [hr16]))) O) O ?_;refine go4 ?_;refine sV (.int .i64 1) O O (go4 ?_);refine sV (.bool true) O O (xY ?_);refine sQ (aM (v':=.int .i64 ((W.quo a.y r16).1)) (lI O O (by repeat' (first|exact yN h3|exact CQ h14|apply uZ|apply W.neg_ne|rw [hr16]))) O) O ?_;refine go4 ?_;refine sV (.int .i64 2) O O (go4 ?_);refine sV (.bool true) O O (xY ?_);refine sQ (aM (v':=.int .i64 ((W.quo a.z r16).1)) (lI O O (by repeat' (first|exact yN h3|exact CQ h14|apply uZ|apply W.neg_ne|rw [hr16]))) O) O ?_;refine go4 ?_;refine sV (.int .i64 3) O O (go4 ?_);refine sV (.bool true) O O (xY ?_);refine sQ (aM (v':=.int .i64 ((W.quo a.t r16).1)) (lI O O (by repeat' (first|exact yN h3|exact CQ h14|apply uZ|apply W.neg_ne|rw [hr16]))) O) O ?_;refine go4 ?_;refine sV (.int .i64 4) O O (go4 ?_);refine sV (.bool false) O O (jE ?_);refine wX O (.inr O) (eR O m0 tyT O) O ?_;exact (by subst hr16;exact congrArg vS1 (show _=(gI a) from aN h3 (aN h4 (aN h9 (aQ h14 O)))))
 refine go2 ?_;refine sV (.int .i64 3) O O (go4 ?_);refine sV (.bool true) O O (GO ?_);refine aL _ O (fun h19=>?_) (fun h19=>?_)
 ·obtain ⟨r21,hr21⟩:=nm ((bif decide (a.t.1<0) then (W.neg (eC [a.x,a.y,a.z,a.t])) else (eC [a.x,a.y,a.z,a.t])):W);refine gJv [4,19,20,21,22] [(4,.int .i64 r21.1)] (fun K63 J63=>?_) ?_
  ·refine go4 ?_;refine aL _ O (fun h22=>?_) (fun h22=>?_)
   ·refine go2 ?_;refine sV (.int .i64 ((W.neg (eC [a.x,a.y,a.z,a.t])).1)) O O (go2 ?_);refine J63 _ _ pp_ s0 (show (.int .i64 ((W.neg (eC [a.x,a.y,a.z,a.t])).1):Value) = .int .i64 r21.1 by rw [hr21];first|done|rfl|simp only [h22,cond_true,cond_false,Bool.true_and,Bool.false_and,Bool.and_true,Bool.and_false,Bool.true_or,Bool.false_or,Bool.or_true,Bool.or_false,Bool.not_true,Bool.not_false]|(simp only [h22,cond_true,cond_false,Bool.true_and,Bool.false_and,Bool.and_true,Bool.and_false,Bool.true_or,Bool.false_or,Bool.or_true,Bool.or_false,Bool.not_true,Bool.not_false];rfl))
   refine go_ ?_;refine J63 _ _ pp_ s0 (show (.int .i64 ((eC [a.x,a.y,a.z,a.t]).1):Value) = .int .i64 r21.1 by rw [hr21];first|done|rfl|simp only [h22,cond_true,cond_false,Bool.true_and,Bool.false_and,Bool.and_true,Bool.and_false,Bool.true_or,Bool.false_or,Bool.or_true,Bool.or_false,Bool.not_true,Bool.not_false]|(simp only [h22,cond_true,cond_false,Bool.true_and,Bool.false_and,Bool.and_true,Bool.and_false,Bool.true_or,Bool.false_or,Bool.or_true,Bool.or_false,Bool.not_true,Bool.not_false];rfl))
  intro g23;refine go6 ?_;refine qS 6 (go2 ?_);refine sV (.bool true) O O (xY ?_);refine sQ (aM (v':=.int .i64 ((W.quo a.x r21).1)) (lI O O (by repeat' (first|exact yN h3|exact CQ h19|apply uZ|apply W.neg_ne|rw [hr21]))) O) O ?_;refine go4 ?_;refine sV (.int .i64 1) O O (go4 ?_);refine sV (.bool true) O O (xY ?_);refine sQ (aM (v':=.int .i64 ((W.quo a.y r21).1)) (lI O O (by repeat' (first|exact yN h3|exact CQ h19|apply uZ|apply W.neg_ne|rw [hr21]))) O) O ?_;refine go4 ?_;refine sV (.int .i64 2) O O (go4 ?_);refine sV (.bool true) O O (xY ?_);refine sQ (aM (v':=.int .i64 ((W.quo a.z r21).1)) (lI O O (by repeat' (first|exact yN h3|exact CQ h19|apply uZ|apply W.neg_ne|rw [hr21]))) O) O ?_;refine go4 ?_;refine sV (.int .i64 3) O O (go4 ?_);refine sV (.bool true) O O (xY ?_);refine sQ (aM (v':=.int .i64 ((W.quo a.t r21).1)) (lI O O (by repeat' (first|exact yN h3|exact CQ h19|apply uZ|apply W.neg_ne|rw [hr21]))) O) O ?_;refine go4 ?_;refine sV (.int .i64 4) O O (go4 ?_);refine sV (.bool false) O O (jE ?_);refine wX O (.inr O) (eR O m0 tyT O) O ?_;exact (by subst hr21;exact congrArg vS1 (show _=(gI a) from aN h3 (aN h4 (aN h9 (aN h14 (aQ h19 O))))))
 refine go2 ?_;refine sV (.int .i64 4) O O (go4 ?_);refine sV (.bool false) O O (go9 ?_);refine qS 6 (go2 ?_);refine sV (.bool true) O O (xY ?_);refine sQ (aM (v':=.int .i64 ((W.quo a.x (eC [a.x,a.y,a.z,a.t])).1)) (lI O O (yN h3)) O) O (go4 ?_);refine sV (.int .i64 1) O O (go4 ?_);refine sV (.bool true) O O (xY ?_);refine sQ (aM (v':=.int .i64 ((W.quo a.y (eC [a.x,a.y,a.z,a.t])).1)) (lI O O (yN h3)) O) O (go4 ?_);refine sV (.int .i64 2) O O (go4 ?_);refine sV (.bool true) O O (xY ?_);refine sQ (aM (v':=.int .i64 ((W.quo a.z (eC [a.x,a.y,a.z,a.t])).1)) (lI O O (yN h3)) O) O (go4 ?_);refine sV (.int .i64 3) O O (go4 ?_);refine sV (.bool true) O O (xY ?_);refine sQ (aM (v':=.int .i64 ((W.quo a.t (eC [a.x,a.y,a.z,a.t])).1)) (lI O O (yN h3)) O) O (go4 ?_);refine sV (.int .i64 4) O O (go4 ?_);refine sV (.bool false) O O (jE ?_);refine wX O (.inr O) (eR O m0 tyT O) O ?_;exact congrArg vS1 (show _=(gI a) from aN h3 (aN h4 (aN h9 (aN h14 (aN h19 O)))))
theorem J0 (a:(A4 W)) :
    Ret prog 118 [AV [cw a.x.1,cw a.y.1,cw a.z.1,cw a.t.1]] (.bool (wB a)):=by
 refine bA (N:=19) func118 O O zz_ (fun w0=>?_);refine giI ?_;refine go2 ?_;intro b1 hb1;refine go5 ?_;refine sQ (aX aE (OW a) O) O (go2 ?_);rcases bt (tS a) with h2|h2
 ·refine W_f (gG h2) O (go3 ?_);obtain ⟨r3,hr3⟩:=nm ((gI a).1:(A4 W));refine sC (.tuple #[AV [cw r3.x.1,cw r3.y.1,cw r3.z.1,cw r3.t.1],.bool ((gI a).2)]) aE (FB a) O O (by rw [hr3]) (go4 ?_);intro b4 hb4;refine go3 ?_;refine gJv [2,13,14,15,16,17,18] [(2,.bool ((gI a).2&&(decide (r3.x.1=a.x.1)&&(decide (r3.y.1=a.y.1)&&(decide (r3.z.1=a.z.1)&&decide (r3.t.1=a.t.1))))))] (fun K2 J2=>?_) ?_
  ·refine go2 ?_;refine sBB O (fun h6=>?_) (fun h6=>?_)
   ·refine go2 ?_;refine sQ (tB (r:=(decide (r3.x.1=a.x.1)&&(decide (r3.y.1=a.y.1)&&(decide (r3.z.1=a.z.1)&&decide (r3.t.1=a.t.1))))) O O (kC 8 dd_ ch_ co_ (bJ dR (bJ dR (bJ dR (iD dR)))) (bJ dR (bJ dR (bJ dR (iD dR)))) (dA O jR (dA O jR (dA O jR (mG jR)))))) O (go3 ?_);refine J2 _ _ pp_ s0 (bQ (lS h6 O))
   refine go6 ?_;refine J2 _ _ pp_ s0 (bQ (oY h6))
  intro g7;refine go_ ?_;refine rt1 ?_;exact (by subst hr3;exact congrArg vS2 (show _=(wB a) from aQ h2 O))
 refine W_t (gD h2) O (go4 ?_);refine rt1 ?_;exact congrArg vS2 (show _=(wB a) from aN h2 O)
theorem lW (va:Value) (a:(List W)) (w:World) (ha:Slr w elW va a) (hpre:a.length≤100) :
    Calls prog 151 [va].toArray w (fun e w'=>e = .returned (.int .i64 ((dU a).1))∧Ext w w'):=by
 refine dL (N:=25) func151 O O zz_ ?_;obtain ⟨w0,rfl⟩:=nm w;have Ha:=ha.old;have hm_a:=ha.max;refine giI ?_;refine jE ?_;refine gJ3 (rg [] 3 21) (fun g M=>∃ (o:W) (i:Nat),(rW a (a.length+1) (wl 0) 0)=(o,i)∧(g 3 = .int .i64 o.1∧g 4 = .int .i64 (i:Int))∧M=[]) (fun K_u1 hK_u1=>?_) ?_
 ·refine go_ ?_;refine cE (rg [] 3 21) (fun g nn M=>∃ (o:W) (i:Nat),(rW a nn o i)=(rW a (a.length+1) (wl 0) 0)∧a.length - i<nn∧(i≤a.length)∧(g 3 = .int .i64 o.1∧g 4 = .int .i64 (i:Int))∧M=[]) (a.length+1) ?start ?round
  case start=>exact ⟨_,s0,(wl 0),0,rfl,oo_,oo_,⟨rfl,rfl⟩,rfl⟩
  case round =>
   rintro nn g M ⟨o,i,hT0,hq0,hinv0,⟨hg3,hg4⟩,rfl⟩;obtain ⟨k0,rfl⟩:∃ m,nn=m+1:=⟨nn - 1,by omega⟩;refine gS2 hg3 hg4 ?_;clear hg3 hg4;refine go3 ?_;refine sWi ((i+1:Nat):Int) O (go_ ?_);refine sQ (dV j7 O (SLe.sub Ha sn)) O (go2 ?_);refine aL _ O (fun h3=>?_) (fun h3=>?_)
   ·have ph3:=of_decide_eq_true h3;refine go3 ?_;refine kY sn 13 [] [] (go3 ?_);refine pQ O (aM (v':=.pointer (some (slb va (i*1+0)))) (eD (e:=elW) (l:=a) (k:=i) j7 O O (SLe.sub Ha sn) oo_) O) (pQ O (wO (u:=.int .i64 ((a.getD i W.z).1)) (e:=elW) (l:=a) (k:=i) (o:=0) tyT O (SLe.sub Ha sn) (bS W.z oo_) O) (go2 ?_));refine pV (.int .i64 ((i+1:Nat):Int)) O wxo (pQ O (aM (v':=.pointer (some (slb va ((i+1)*1+0)))) (eD (e:=elW) (l:=a) (k:=i+1) j7 O O (SLe.sub Ha sn) oo_) O) (pQ O (wO (u:=.int .i64 ((a.getD (i+1) W.z).1)) (e:=elW) (l:=a) (k:=i+1) (o:=0) tyT O (SLe.sub Ha sn) (bS W.z oo_) O) (pV (.int .i64 ((W.mul (a.getD i W.z) (a.getD (i+1) W.z)).1)) O O (pV (.int .i64 ((W.add o (W.mul (a.getD i W.z) (a.getD (i+1) W.z))).1)) O O (go4 ?_)))));refine sWi ((i+2:Nat):Int) O (go2 ?_);refine ⟨pp_,_,_,s0,(Nat.lt_succ_self _),(W.add o (W.mul (a.getD i W.z) (a.getD (i+1) W.z))),i+2,(by exact (hT0.symm.trans (Eq.symm (aQ h3 O))).symm),(Nat.lt_of_lt_of_le oo_ (Nat.le_of_lt_succ hq0)),oo_,⟨rfl,rfl⟩,rfl⟩
   have ph3:=of_decide_eq_false h3;refine go_ ?_;refine hK_u1 _ _ pp_ ⟨_,s0,o,i,(by exact hT0.symm.trans (Eq.symm (aN h3 O))),⟨rfl,rfl⟩,rfl⟩
 rintro g M ⟨o,i,hCu1,⟨hg3,hg4⟩,rfl⟩;refine gS2 hg3 hg4 ?_;clear hg3 hg4;refine go5 ?_;refine rt1 ?_;exact congrArg vS7 (show _=(dU a) from (by unfold dU;exact trs (Eq.symm (apS hCu1)) O))
theorem H2 (a:(A4 W)) :
  Ret prog 166 [AV [cw a.x.1,cw a.y.1,cw a.z.1,cw a.t.1]] (AV [cw (((fS a).x0).1),cw (((fS a).x1).1),cw (((fS a).x2).1),cw (((fS a).x3).1),cw (((fS a).x4).1),cw (((fS a).x5).1),cw (((fS a).x6).1),cw (((fS a).x7).1),cw (((fS a).x8).1)]):=by
 refine bA (N:=97) func166 O O zz_ (fun w0=>?_);refine giI ?_;refine go2 ?_;intro b1 hb1;refine go_ ?_;intro b2 hb2;refine go_ ?_;refine mS (sk (sk s0)) 12 [] [] (bj_ ?_);refine sV (.int .i64 ((W.neg a.z).1)) O O (go2 ?_);refine sV (.int .i64 ((W.neg a.t).1)) O O (go_ ?_);refine aY O (cA [[cw a.x.1],[cw a.x.1],[cw a.y.1],[cw a.y.1],[cw ((W.neg a.z).1)],[cw a.z.1],[cw ((W.neg a.t).1)],[cw a.t.1]] [cw a.x.1,cw a.x.1,cw a.y.1,cw a.y.1,cw ((W.neg a.z).1),cw a.z.1,cw ((W.neg a.t).1),cw a.t.1] jN z_3 oX O dd_ O O ⟨rfl,rfl,rfl,rfl,rfl,rfl,rfl,rfl,rfl,rfl,rfl,rfl,rfl,rfl,rfl,rfl,rfl,rfl,rfl,rfl,rfl,rfl,rfl,rfl,trivial⟩ O (fun b3 hb3=>sFc (.int .i64 ((dU [a.x,a.x,a.y,a.y,(W.neg a.z),a.z,(W.neg a.t),a.t]).1)) O (fun w hw=>lW _ ([a.x,a.x,a.y,a.y,(W.neg a.z),a.z,(W.neg a.t),a.t]) w (SLe.ap hw (SLe.lit (e:=elW) (l:=[a.x,a.x,a.y,a.y,(W.neg a.z),a.z,(W.neg a.t),a.t]) m0 O (Nat.le_of_ble_eq_true O) O)) zz_) O O ?_));refine go3 ?_;refine sV (.int .i64 ((W.neg a.x).1)) O O (go_ ?_);refine aY O (cA [[cw a.y.1],[cw a.z.1],[cw ((W.neg a.x).1)],[cw a.t.1]] [cw a.y.1,cw a.z.1,cw ((W.neg a.x).1),cw a.t.1] jN z_3 oX O dd_ O O ⟨rfl,rfl,rfl,rfl,rfl,rfl,rfl,rfl,rfl,rfl,rfl,rfl,trivial⟩ O (fun b4 hb4=>sFc (.int .i64 ((dU [a.y,a.z,(W.neg a.x),a.t]).1)) O (fun w hw=>lW _ ([a.y,a.z,(W.neg a.x),a.t]) w (SLe.ap hw (SLe.lit (e:=elW) (l:=[a.y,a.z,(W.neg a.x),a.t]) m0 O (Nat.le_of_ble_eq_true O) O)) zz_) O O ?_));refine sV (.int .i64 ((W.mul (wl 2) (dU [a.y,a.z,(W.neg a.x),a.t])).1)) O O ?_;refine go4 ?_;refine aY O (cA [[cw a.y.1],[cw a.t.1],[cw a.x.1],[cw a.z.1]] [cw a.y.1,cw a.t.1,cw a.x.1,cw a.z.1] jN z_3 oX O dd_ O O ⟨rfl,rfl,rfl,rfl,rfl,rfl,rfl,rfl,rfl,rfl,rfl,rfl,trivial⟩ O (fun b5 hb5=>sFc (.int .i64 ((dU [a.y,a.t,a.x,a.z]).1)) O (fun w hw=>lW _ ([a.y,a.t,a.x,a.z]) w (SLe.ap hw (SLe.lit (e:=elW) (l:=[a.y,a.t,a.x,a.z]) m0 O (Nat.le_of_ble_eq_true O) O)) zz_) O O ?_));refine sV (.int .i64 ((W.mul (wl 2) (dU [a.y,a.t,a.x,a.z])).1)) O O ?_;refine go4 ?_;refine aY O (cA [[cw a.y.1],[cw a.z.1],[cw a.x.1],[cw a.t.1]] [cw a.y.1,cw a.z.1,cw a.x.1,cw a.t.1] jN z_3 oX O dd_ O O ⟨rfl,rfl,rfl,rfl,rfl,rfl,rfl,rfl,rfl,rfl,rfl,rfl,trivial⟩ O (fun b6 hb6=>sFc (.int .i64 ((dU [a.y,a.z,a.x,a.t]).1)) O (fun w hw=>lW _ ([a.y,a.z,a.x,a.t]) w (SLe.ap hw (SLe.lit (e:=elW) (l:=[a.y,a.z,a.x,a.t]) m0 O (Nat.le_of_ble_eq_true O) O)) zz_) O O ?_));refine sV (.int .i64 ((W.mul (wl 2) (dU [a.y,a.z,a.x,a.t])).1)) O O ?_;refine go3 ?_;refine sV (.int .i64 ((W.neg a.y).1)) O O (go4 ?_);refine sV (.int .i64 ((W.neg a.t).1)) O O (go_ ?_);refine aY O (cA [[cw a.x.1],[cw a.x.1],[cw ((W.neg a.y).1)],[cw a.y.1],[cw a.z.1],[cw a.z.1],[cw ((W.neg a.t).1)],[cw a.t.1]] [cw a.x.1,cw a.x.1,cw ((W.neg a.y).1),cw a.y.1,cw a.z.1,cw a.z.1,cw ((W.neg a.t).1),cw a.t.1] jN z_3 oX O dd_ O O ⟨rfl,rfl,rfl,rfl,rfl,rfl,rfl,rfl,rfl,rfl,rfl,rfl,rfl,rfl,rfl,rfl,rfl,rfl,rfl,rfl,rfl,rfl,rfl,rfl,trivial⟩ O (fun b7 hb7=>sFc (.int .i64 ((dU [a.x,a.x,(W.neg a.y),a.y,a.z,a.z,(W.neg a.t),a.t]).1)) O (fun w hw=>lW _ ([a.x,a.x,(W.neg a.y),a.y,a.z,a.z,(W.neg a.t),a.t]) w (SLe.ap hw (SLe.lit (e:=elW) (l:=[a.x,a.x,(W.neg a.y),a.y,a.z,a.z,(W.neg a.t),a.t]) m0 O (Nat.le_of_ble_eq_true O) O)) zz_) O O ?_));refine go3 ?_;refine sV (.int .i64 ((W.neg a.x).1)) O O (go_ ?_);refine aY O (cA [[cw a.z.1],[cw a.t.1],[cw ((W.neg a.x).1)],[cw a.y.1]] [cw a.z.1,cw a.t.1,cw ((W.neg a.x).1),cw a.y.1] jN z_3 oX O dd_ O O ⟨rfl,rfl,rfl,rfl,rfl,rfl,rfl,rfl,rfl,rfl,rfl,rfl,trivial⟩ O (fun b8 hb8=>sFc (.int .i64 ((dU [a.z,a.t,(W.neg a.x),a.y]).1)) O (fun w hw=>lW _ ([a.z,a.t,(W.neg a.x),a.y]) w (SLe.ap hw (SLe.lit (e:=elW) (l:=[a.z,a.t,(W.neg a.x),a.y]) m0 O (Nat.le_of_ble_eq_true O) O)) zz_) O O ?_));refine sV (.int .i64 ((W.mul (wl 2) (dU [a.z,a.t,(W.neg a.x),a.y])).1)) O O ?_;refine go3 ?_;refine sV (.int .i64 ((W.neg a.x).1)) O O (go_ ?_);refine aY O (cA [[cw a.y.1],[cw a.t.1],[cw ((W.neg a.x).1)],[cw a.z.1]] [cw a.y.1,cw a.t.1,cw ((W.neg a.x).1),cw a.z.1] jN z_3 oX O dd_ O O ⟨rfl,rfl,rfl,rfl,rfl,rfl,rfl,rfl,rfl,rfl,rfl,rfl,trivial⟩ O (fun b9 hb9=>sFc (.int .i64 ((dU [a.y,a.t,(W.neg a.x),a.z]).1)) O (fun w hw=>lW _ ([a.y,a.t,(W.neg a.x),a.z]) w (SLe.ap hw (SLe.lit (e:=elW) (l:=[a.y,a.t,(W.neg a.x),a.z]) m0 O (Nat.le_of_ble_eq_true O) O)) zz_) O O ?_));refine sV (.int .i64 ((W.mul (wl 2) (dU [a.y,a.t,(W.neg a.x),a.z])).1)) O O ?_;refine go4 ?_;refine aY O (cA [[cw a.z.1],[cw a.t.1],[cw a.x.1],[cw a.y.1]] [cw a.z.1,cw a.t.1,cw a.x.1,cw a.y.1] jN z_3 oX O dd_ O O ⟨rfl,rfl,rfl,rfl,rfl,rfl,rfl,rfl,rfl,rfl,rfl,rfl,trivial⟩ O (fun b10 hb10=>sFc (.int .i64 ((dU [a.z,a.t,a.x,a.y]).1)) O (fun w hw=>lW _ ([a.z,a.t,a.x,a.y]) w (SLe.ap hw (SLe.lit (e:=elW) (l:=[a.z,a.t,a.x,a.y]) m0 O (Nat.le_of_ble_eq_true O) O)) zz_) O O ?_));refine sV (.int .i64 ((W.mul (wl 2) (dU [a.z,a.t,a.x,a.y])).1)) O O ?_;refine go3 ?_;refine sV (.int .i64 ((W.neg a.y).1)) O O (go2 ?_);refine sV (.int .i64 ((W.neg a.z).1)) O O (go3 ?_);refine aY O (cA [[cw a.x.1],[cw a.x.1],[cw ((W.neg a.y).1)],[cw a.y.1],[cw ((W.neg a.z).1)],[cw a.z.1],[cw a.t.1],[cw a.t.1]] [cw a.x.1,cw a.x.1,cw ((W.neg a.y).1),cw a.y.1,cw ((W.neg a.z).1),cw a.z.1,cw a.t.1,cw a.t.1] jN z_3 oX O dd_ O O ⟨rfl,rfl,rfl,rfl,rfl,rfl,rfl,rfl,rfl,rfl,rfl,rfl,rfl,rfl,rfl,rfl,rfl,rfl,rfl,rfl,rfl,rfl,rfl,rfl,trivial⟩ O (fun b11 hb11=>sFc (.int .i64 ((dU [a.x,a.x,(W.neg a.y),a.y,(W.neg a.z),a.z,a.t,a.t]).1)) O (fun w hw=>lW _ ([a.x,a.x,(W.neg a.y),a.y,(W.neg a.z),a.z,a.t,a.t]) w (SLe.ap hw (SLe.lit (e:=elW) (l:=[a.x,a.x,(W.neg a.y),a.y,(W.neg a.z),a.z,a.t,a.t]) m0 O (Nat.le_of_ble_eq_true O) O)) zz_) O O ?_));refine go4 ?_;refine rtX O (eR O m9 tyT O) ?_;exact (by rfl)
theorem ES (a:(A4 W)) (b:(A3 W)) :
  Ret prog 89 [AV [cw a.x.1,cw a.y.1,cw a.z.1,cw a.t.1],AV [cw b.x.1,cw b.y.1,cw b.z.1]] (AV [cw (((dD a b).x).1),cw (((dD a b).y).1),cw (((dD a b).z).1)]):=by
 refine bA (N:=39) func89 O O zz_ (fun w0=>?_);refine giI ?_;refine go2 ?_;intro b1 hb1;refine go_ ?_;intro b2 hb2;refine go_ ?_;intro b3 hb3;refine go3 ?_;obtain ⟨r4,hr4⟩:=nm ((fS a):(A9 W));refine sC (AV [cw r4.x0.1,cw r4.x1.1,cw r4.x2.1,cw r4.x3.1,cw r4.x4.1,cw r4.x5.1,cw r4.x6.1,cw r4.x7.1,cw r4.x8.1]) aE (H2 a) O O (by rw [hr4]) (go_ ?_);intro b5 hb5;refine go4 ?_;intro b6 hb6;refine go6 ?_;refine qS 5 (go2 ?_);refine sV (.bool true) O O (jE ?_);refine gdr (sd (sk (sk (sk (sk s0))))) [0,4,8,12,16,20,24,28,32,36,40,44,48,52,56,60,64,68,72,76,80,85,88,92,97] [24] mix (by kernel_rfl) (go2 ?_);refine pV (.int .i64 0) O O (go5 ?_);refine pV (.int .i64 0) O O (pV (.int .i64 1) O O (go5 ?_));refine pV (.int .i64 0) O O (pV (.int .i64 2) O O (go4 ?_));refine cJ O O (cA [[cw r4.x0.1],[cw b.x.1],[cw r4.x1.1],[cw b.y.1],[cw r4.x2.1],[cw b.z.1]] [cw r4.x0.1,cw b.x.1,cw r4.x1.1,cw b.y.1,cw r4.x2.1,cw b.z.1] jN z_3 oX O dd_ O O ⟨rfl,rfl,rfl,rfl,rfl,rfl,rfl,rfl,rfl,rfl,rfl,rfl,rfl,rfl,rfl,rfl,rfl,rfl,trivial⟩ O (fun b7 hb7=>⟨(fun _=>sd s0),(sd (sd s0)),pQ O (aM (v':=.int .i64 ((dU [r4.x0,b.x,r4.x1,b.y,r4.x2,b.z]).1)) (dF aE O (fun w hw=>lW _ ([r4.x0,b.x,r4.x1,b.y,r4.x2,b.z]) w (SLe.ap hw (SLe.lit (e:=elW) (l:=[r4.x0,b.x,r4.x1,b.y,r4.x2,b.z]) m0 O (Nat.le_of_ble_eq_true O) O)) zz_)) O) ?_⟩));refine go4 ?_;refine sV (.int .i64 1) O O (go4 ?_);refine sV (.bool true) O O (jE ?_);refine gdr (sk (sd (sk (sk (sk (sk s0)))))) [0,4,8,12,16,20,24,28,32,36,40,44,48,52,56,60,64,68,72,76,80,85,88,92,97] [24] mix (by kernel_rfl) (go2 ?_);refine pV (.int .i64 3) O O (go5 ?_);refine pV (.int .i64 3) O O (pV (.int .i64 4) O O (go5 ?_));refine pV (.int .i64 3) O O (pV (.int .i64 5) O O (go4 ?_));refine cJ O O (cA [[cw r4.x3.1],[cw b.x.1],[cw r4.x4.1],[cw b.y.1],[cw r4.x5.1],[cw b.z.1]] [cw r4.x3.1,cw b.x.1,cw r4.x4.1,cw b.y.1,cw r4.x5.1,cw b.z.1] jN z_3 oX O dd_ O O ⟨rfl,rfl,rfl,rfl,rfl,rfl,rfl,rfl,rfl,rfl,rfl,rfl,rfl,rfl,rfl,rfl,rfl,rfl,trivial⟩ O (fun b8 hb8=>⟨(fun _=>sd s0),(sd (sk (sd s0))),pQ O (aM (v':=.int .i64 ((dU [r4.x3,b.x,r4.x4,b.y,r4.x5,b.z]).1)) (dF aE O (fun w hw=>lW _ ([r4.x3,b.x,r4.x4,b.y,r4.x5,b.z]) w (SLe.ap hw (SLe.lit (e:=elW) (l:=[r4.x3,b.x,r4.x4,b.y,r4.x5,b.z]) m0 O (Nat.le_of_ble_eq_true O) O)) zz_)) O) ?_⟩));refine go4 ?_;refine sV (.int .i64 2) O O (go4 ?_);refine sV (.bool true) O O (jE ?_);refine gdr (sk (sk (sd (sk (sk (sk (sk s0))))))) [0,4,8,12,16,20,24,28,32,36,40,44,48,52,56,60,64,68,72,76,80,85,88,92,97] [24] mix (by kernel_rfl) (go2 ?_);refine pV (.int .i64 6) O O (go5 ?_);refine pV (.int .i64 6) O O (pV (.int .i64 7) O O (go5 ?_));refine pV (.int .i64 6) O O (pV (.int .i64 8) O O (go4 ?_));refine cJ O O (cA [[cw r4.x6.1],[cw b.x.1],[cw r4.x7.1],[cw b.y.1],[cw r4.x8.1],[cw b.z.1]] [cw r4.x6.1,cw b.x.1,cw r4.x7.1,cw b.y.1,cw r4.x8.1,cw b.z.1] jN z_3 oX O dd_ O O ⟨rfl,rfl,rfl,rfl,rfl,rfl,rfl,rfl,rfl,rfl,rfl,rfl,rfl,rfl,rfl,rfl,rfl,rfl,trivial⟩ O (fun b9 hb9=>⟨(fun _=>sd s0),(sd (sk (sk (sd s0)))),pQ O (aM (v':=.int .i64 ((dU [r4.x6,b.x,r4.x7,b.y,r4.x8,b.z]).1)) (dF aE O (fun w hw=>lW _ ([r4.x6,b.x,r4.x7,b.y,r4.x8,b.z]) w (SLe.ap hw (SLe.lit (e:=elW) (l:=[r4.x6,b.x,r4.x7,b.y,r4.x8,b.z]) m0 O (Nat.le_of_ble_eq_true O) O)) zz_)) O) ?_⟩));refine go4 ?_;refine sV (.int .i64 3) O O (go4 ?_);refine sV (.bool false) O O (go9 ?_);refine rtX O (eR O m5 tyT O) ?_;exact (by subst hr4;rfl)
theorem DR (a:(A4 W)) (b:(A4 W)) :
  Ret prog 76 [AV [cw a.x.1,cw a.y.1,cw a.z.1,cw a.t.1],AV [cw b.x.1,cw b.y.1,cw b.z.1,cw b.t.1]] (.int .i64 ((nK a b).1)):=by
 refine bA (N:=23) func76 O O zz_ (fun w0=>?_);refine giI ?_;refine go2 ?_;intro b1 hb1;refine go_ ?_;intro b2 hb2;refine bj_ ?_;refine aY O (cA [[cw a.x.1],[cw b.x.1],[cw a.y.1],[cw b.y.1],[cw a.z.1],[cw b.z.1],[cw a.t.1],[cw b.t.1]] [cw a.x.1,cw b.x.1,cw a.y.1,cw b.y.1,cw a.z.1,cw b.z.1,cw a.t.1,cw b.t.1] jN z_3 oX O dd_ O O ⟨rfl,rfl,rfl,rfl,rfl,rfl,rfl,rfl,rfl,rfl,rfl,rfl,rfl,rfl,rfl,rfl,rfl,rfl,rfl,rfl,rfl,rfl,rfl,rfl,trivial⟩ O (fun b3 hb3=>sFc (.int .i64 ((dU [a.x,b.x,a.y,b.y,a.z,b.z,a.t,b.t]).1)) O (fun w hw=>lW _ ([a.x,b.x,a.y,b.y,a.z,b.z,a.t,b.t]) w (SLe.ap hw (SLe.lit (e:=elW) (l:=[a.x,b.x,a.y,b.y,a.z,b.z,a.t,b.t]) m0 O (Nat.le_of_ble_eq_true O) O)) zz_) O O ?_));refine go3 ?_;refine rt1 ?_;exact (by rfl)
theorem DS (a:(A4 W)) :
  Ret prog 88 [AV [cw a.x.1,cw a.y.1,cw a.z.1,cw a.t.1]] (.int .i64 ((cS a).1)):=by
 refine bA (N:=6) func88 O O zz_ (fun w0=>?_);refine giI ?_;refine go2 ?_;intro b1 hb1;refine go5 ?_;refine sQ (aX aE (DR a a) O) O (go3 ?_);refine rt1 ?_;exact (by rfl)
theorem H3 (a:(A4 W)) (b:(A3 W)) :
  Ret prog 61 [AV [cw a.x.1,cw a.y.1,cw a.z.1,cw a.t.1],AV [cw b.x.1,cw b.y.1,cw b.z.1]] (AV [pI (((k6 a b).x).n),pI (((k6 a b).x).d),pI (((k6 a b).y).n),pI (((k6 a b).y).d),pI (((k6 a b).z).n),pI (((k6 a b).z).d)]):=by
 refine bA (N:=25) func61 O O zz_ (fun w0=>?_);refine giI ?_;refine go2 ?_;intro b1 hb1;refine go_ ?_;intro b2 hb2;refine go_ ?_;intro b3 hb3;refine go3 ?_;refine sQ (aX aE (DS a) O) O (go4 ?_);intro b4 hb4;refine go5 ?_;refine sQ (aX aE (ES a b) O) O (go3 ?_);refine qS 5 (go2 ?_);refine sV (.bool true) O O (V4 ?_);obtain ⟨r5,hr5⟩:=nm ((jS ((dD a b).x) (cS a)):Rt);refine sC (AV [pI r5.n,pI r5.d]) aE (sG ((dD a b).x) (cS a)) O O (by rw [hr5]) (go4 ?_);refine sV (.int .i64 1) O O (go4 ?_);refine sV (.bool true) O O (V4 ?_);obtain ⟨r6,hr6⟩:=nm ((jS ((dD a b).y) (cS a)):Rt);refine sC (AV [pI r6.n,pI r6.d]) aE (sG ((dD a b).y) (cS a)) O O (by rw [hr6]) (go4 ?_);refine sV (.int .i64 2) O O (go4 ?_);refine sV (.bool true) O O (V4 ?_);obtain ⟨r7,hr7⟩:=nm ((jS ((dD a b).z) (cS a)):Rt);refine sC (AV [pI r7.n,pI r7.d]) aE (sG ((dD a b).z) (cS a)) O O (by rw [hr7]) (go4 ?_);refine sV (.int .i64 3) O O (go4 ?_);refine sV (.bool false) O O (go9 ?_);refine rtX O (eR O m1 tyT O) ?_;exact (by subst_vars;rfl)
theorem EU (a:(A3 W)) :
  Ret prog 33 [AV [cw a.x.1,cw a.y.1,cw a.z.1]] (AV [pI (((n6 a).x).n),pI (((n6 a).x).d),pI (((n6 a).y).n),pI (((n6 a).y).d),pI (((n6 a).z).n),pI (((n6 a).z).d)]):=by
 refine bA (N:=13) func33 O O zz_ (fun w0=>?_);refine giI ?_;refine go2 ?_;intro b1 hb1;refine go_ ?_;intro b2 hb2;refine go_ ?_;refine mS (sd (sk s0)) 11 [10] [10] (go2 ?_);refine pQ O (aX aE (rE a.x) O) (go2 ?_);refine pQ O (aX aE (rE a.y) O) (go2 ?_);refine pQ O (aX aE (rE a.z) O) (pQ O (o4 zpT arT O (.cons [pI ((fI a.x).n),pI ((fI a.x).d)] [pI ((fI a.x).n),pI ((fI a.x).d),pI I0,pI I0,pI I0,pI I0] O O O O (.cons [pI ((fI a.y).n),pI ((fI a.y).d)] [pI ((fI a.x).n),pI ((fI a.x).d),pI ((fI a.y).n),pI ((fI a.y).d),pI I0,pI I0] O O O O (.cons [pI ((fI a.z).n),pI ((fI a.z).d)] [pI ((fI a.x).n),pI ((fI a.x).d),pI ((fI a.y).n),pI ((fI a.y).d),pI ((fI a.z).n),pI ((fI a.z).d)] O O O O (.nil _))))) (go3 ?_));refine rtX O (eR O m0 tyT O) ?_;exact (by rfl)
theorem H6 (a:(A3 Rt)) (b:(A3 Rt)) :
  Ret prog 60 [AV [pI a.x.n,pI a.x.d,pI a.y.n,pI a.y.d,pI a.z.n,pI a.z.d],AV [pI b.x.n,pI b.x.d,pI b.y.n,pI b.y.d,pI b.z.n,pI b.z.d]] (AV [pI (((nI a b).x).n),pI (((nI a b).x).d),pI (((nI a b).y).n),pI (((nI a b).y).d),pI (((nI a b).z).n),pI (((nI a b).z).d)]):=by
 refine bA (N:=20) func60 O O zz_ (fun w0=>?_);refine giI ?_;refine go2 ?_;intro b1 hb1;refine go_ ?_;intro b2 hb2;refine go_ ?_;intro b3 hb3;refine go6 ?_;refine qS 5 (go2 ?_);refine sV (.bool true) O O (jE ?_);refine kY (sk (sk (sd s0))) 10 [9] [9] (go7 ?_);refine pQ O (aX aE (AC a.x b.x) O) (go4 ?_);refine sV (.int .i64 1) O O (go4 ?_);refine sV (.bool true) O O (jE ?_);refine kY (sk (sk (sd s0))) 10 [9] [9] (go7 ?_);refine pQ O (aX aE (AC a.y b.y) O) (go4 ?_);refine sV (.int .i64 2) O O (go4 ?_);refine sV (.bool true) O O (jE ?_);refine kY (sk (sk (sd s0))) 10 [9] [9] (go7 ?_);refine pQ O (aX aE (AC a.z b.z) O) (go4 ?_);refine sV (.int .i64 3) O O (go4 ?_);refine sV (.bool false) O O (go9 ?_);refine rtX O (eR O m0 tyT O) ?_;exact (by rfl)
theorem G2 (a:Rt) (b:(A3 Rt)) :
  Ret prog 32 [AV [pI a.n,pI a.d],AV [pI b.x.n,pI b.x.d,pI b.y.n,pI b.y.d,pI b.z.n,pI b.z.d]] (AV [pI (((lR a b).x).n),pI (((lR a b).x).d),pI (((lR a b).y).n),pI (((lR a b).y).d),pI (((lR a b).z).n),pI (((lR a b).z).d)]):=by
 refine bA (N:=18) func32 O O zz_ (fun w0=>?_);refine giI ?_;refine go2 ?_;intro b1 hb1;refine go_ ?_;intro b2 hb2;refine go_ ?_;intro b3 hb3;refine go6 ?_;refine qS 5 (go2 ?_);refine sV (.bool true) O O (jE ?_);refine kY (sk (sd (sk s0))) 8 [7] [7] (go5 ?_);refine pQ O (aX aE (xQ a b.x) O) (go4 ?_);refine sV (.int .i64 1) O O (go4 ?_);refine sV (.bool true) O O (jE ?_);refine kY (sk (sd (sk s0))) 8 [7] [7] (go5 ?_);refine pQ O (aX aE (xQ a b.y) O) (go4 ?_);refine sV (.int .i64 2) O O (go4 ?_);refine sV (.bool true) O O (jE ?_);refine kY (sk (sd (sk s0))) 8 [7] [7] (go5 ?_);refine pQ O (aX aE (xQ a b.z) O) (go4 ?_);refine sV (.int .i64 3) O O (go4 ?_);refine sV (.bool false) O O (go9 ?_);refine rtX O (eR O m0 tyT O) ?_;exact (by rfl)
theorem zD (a:Pose) :
    Ret prog 52 [AV [cw a.x.x.1,cw a.x.y.1,cw a.x.z.1,cw a.q.x.1,cw a.q.y.1,cw a.q.z.1,cw a.q.t.1]] (.int .i64 ((mO a).1)):=by
 refine bA (N:=21) func52 O O zz_ (fun w0=>?_);refine giI ?_;refine go2 ?_;intro b1 hb1;refine go9 ?_;refine qS 5 (go2 ?_);refine sV (.bool true) O O (jE ?_);refine gJv [10,11,12,13,14,15] [(15,.bool (decide (140737488355328≤a.x.x.1)||decide (a.x.x.1≤(-140737488355328))))] (fun K5 J5=>?_) ?_
 ·refine go3 ?_;refine sBB O (fun h3=>?_) (fun h3=>?_)
  ·have ph3:=of_decide_eq_true h3;refine go4 ?_;refine J5 _ _ pp_ s0 (bQ (o9 h3))
  have ph3:=of_decide_eq_false h3;refine go4 ?_;refine J5 _ _ pp_ s0 (bQ (nA h3 O))
 intro g4;refine aL _ O (fun h5=>?_) (fun h5=>?_)
 ·refine go4 ?_;refine rt1 ?_;exact congrArg vS7 (show _=(mO a) from aQ h5 O)
 refine go2 ?_;refine sV (.int .i64 1) O O (go4 ?_);refine sV (.bool true) O O (jE ?_);refine gJv [10,11,12,13,14,15] [(15,.bool (decide (140737488355328≤a.x.y.1)||decide (a.x.y.1≤(-140737488355328))))] (fun K9 J9=>?_) ?_
 ·refine go3 ?_;refine sBB O (fun h7=>?_) (fun h7=>?_)
  ·have ph7:=of_decide_eq_true h7;refine go4 ?_;refine J9 _ _ pp_ s0 (bQ (o9 h7))
  have ph7:=of_decide_eq_false h7;refine go4 ?_;refine J9 _ _ pp_ s0 (bQ (nA h7 O))
 intro g8;refine aL _ O (fun h9=>?_) (fun h9=>?_)
 ·refine go4 ?_;refine rt1 ?_;exact congrArg vS7 (show _=(mO a) from aN h5 (aQ h9 O))
 refine go2 ?_;refine sV (.int .i64 2) O O (go4 ?_);refine sV (.bool true) O O (jE ?_);refine gJv [10,11,12,13,14,15] [(15,.bool (decide (140737488355328≤a.x.z.1)||decide (a.x.z.1≤(-140737488355328))))] (fun K13 J13=>?_) ?_
 ·refine go3 ?_;refine sBB O (fun h11=>?_) (fun h11=>?_)
  ·have ph11:=of_decide_eq_true h11;refine go4 ?_;refine J13 _ _ pp_ s0 (bQ (o9 h11))
  have ph11:=of_decide_eq_false h11;refine go4 ?_;refine J13 _ _ pp_ s0 (bQ (nA h11 O))
 intro g12;refine aL _ O (fun h13=>?_) (fun h13=>?_)
 ·refine go4 ?_;refine rt1 ?_;exact congrArg vS7 (show _=(mO a) from aN h5 (aN h9 (aQ h13 O)))
 refine go2 ?_;refine sV (.int .i64 3) O O (go4 ?_);refine sV (.bool false) O O (go8 ?_);refine sQ (aX aE (J0 a.q) O) O (go2 ?_);rcases bt (wB a.q) with h14|h14
 ·refine W_f (gG h14) O (go5 ?_);refine rt1 ?_;exact congrArg vS7 (show _=(mO a) from aN h5 (aN h9 (aN h13 (aQ h14 O))))
 refine W_t (gD h14) O (go4 ?_);refine rt1 ?_;exact congrArg vS7 (show _=(mO a) from aN h5 (aN h9 (aN h13 (aN h14 O))))
theorem FA (a:Path) :
    Ret prog 51 [AV [cw a.from_.x.x.1,cw a.from_.x.y.1,cw a.from_.x.z.1,cw a.from_.q.x.1,cw a.from_.q.y.1,cw a.from_.q.z.1,cw a.from_.q.t.1,cw a.to_.x.x.1,cw a.to_.x.y.1,cw a.to_.x.z.1,cw a.to_.q.x.1,cw a.to_.q.y.1,cw a.to_.q.z.1,cw a.to_.q.t.1]] (.int .i64 ((rT a).1)):=by
 refine bA (N:=13) func51 O O zz_ (fun w0=>?_);refine giI ?_;refine go2 ?_;intro b1 hb1;refine go3 ?_;refine gJv (rg [] 3 10) [(12,.bool (((mO a.from_).1 != 0)||((mO a.to_).1 != 0)))] (fun K2 J2=>?_) ?_
 ·refine go3 ?_;refine sQ (aX aE (zD a.from_) O) O (go_ ?_);refine sBB O (fun h3=>?_) (fun h3=>?_)
  ·refine go6 ?_;refine J2 _ _ pp_ s0 (bQ (o9 h3))
  refine go2 ?_;refine sQ (aX aE (zD a.to_) O) O (go3 ?_);refine J2 _ _ pp_ s0 (bQ (nA h3 O))
 intro g4;refine aL _ O (fun h5=>?_) (fun h5=>?_)
 ·refine go4 ?_;refine rt1 ?_;exact congrArg vS7 (show _=(rT a) from aQ h5 O)
 refine go5 ?_;refine rt1 ?_;exact congrArg vS7 (show _=(rT a) from aN h5 O)
theorem zC (a:Pose) (b:(A3 W)) :
  Ret prog 15 [AV [cw a.x.x.1,cw a.x.y.1,cw a.x.z.1,cw a.q.x.1,cw a.q.y.1,cw a.q.z.1,cw a.q.t.1],AV [cw b.x.1,cw b.y.1,cw b.z.1]] (AV [pI (((cQ a b).x).n),pI (((cQ a b).x).d),pI (((cQ a b).y).n),pI (((cQ a b).y).d),pI (((cQ a b).z).n),pI (((cQ a b).z).d)]):=by
 refine bA (N:=13) func15 O O zz_ (fun w0=>?_);refine giI ?_;refine go2 ?_;intro b1 hb1;refine go_ ?_;intro b2 hb2;refine go_ ?_;intro b3 hb3;refine go_ ?_;refine mS (sd s0) 9 [8] [8] (go2 ?_);obtain ⟨r4,hr4⟩:=nm ((n6 a.x):(A3 Rt));refine pC (AV [pI r4.x.n,pI r4.x.d,pI r4.y.n,pI r4.y.d,pI r4.z.n,pI r4.z.d]) aE (EU a.x) O O (by rw [hr4]) (go3 ?_);obtain ⟨r5,hr5⟩:=nm ((k6 a.q b):(A3 Rt));refine pC (AV [pI r5.x.n,pI r5.x.d,pI r5.y.n,pI r5.y.d,pI r5.z.n,pI r5.z.d]) aE (H3 a.q b) O O (by rw [hr5]) ?_;obtain ⟨r6,hr6⟩:=nm ((nI r4 r5):(A3 Rt));refine pC (AV [pI r6.x.n,pI r6.x.d,pI r6.y.n,pI r6.y.d,pI r6.z.n,pI r6.z.d]) aE (H6 r4 r5) O O (by rw [hr6]) (go3 ?_);refine rtX O (eR O m0 tyT O) ?_;exact (by subst_vars;rfl)
end Go.Proofs.YtbjlhfochebmiaaGreatDoor
namespace Go.Num
open Go Go.Kn
def tJ (a:Rt) (b:(A3 Rt)):(A3 Rt) :=
 (⟨(fJ a b.x),(fJ a b.y),(fJ a b.z)⟩:(A3 Rt))
def EN (k:Nat) (l:(List I)):I :=
 (l.getD k I0)
def xV (l:(List I)):(List I) :=
 (kM (l.length:Int) (fun (y:Nat)=>(EN y l)) (fun (y:I)=>(nZ y)))
def zrI (x:I):Bool:=(Z.signW x.dec).1==0
def oA (l:List I):List I:=(l.reverse.dropWhile zrI).reverse
def badp:List I:=[E Z.bad]
def mkP (l:List I):List I:=bif l.all gdI then (if (oA l).length≤25 then oA l else badp) else badp
theorem xI (l:List I) (x:I):oA (l++[x])=bif zrI x then oA l else l++[x]:=by
 unfold oA;rw [List.reverse_append]
 show (List.dropWhile zrI (x::l.reverse)).reverse=_
 rw [List.dropWhile_cons]
 cases zrI x
 ·show (x::l.reverse).reverse=_
  simp
 rfl
theorem yU (l:List I):oA l=l.take (oA l).length:=by
 have h:oA l <+: l:=by
  unfold oA;have:=List.dropWhile_suffix zrI (l:=l.reverse);have h2:=List.reverse_prefix.2 this
  rwa [List.reverse_reverse] at h2
 obtain ⟨r,hr⟩:=h;have h3:(oA l++r).take (oA l).length=oA l:=List.take_left;rw [hr] at h3;exact h3.symm
theorem KR (l:List I):(oA l).length≤l.length:=by
 rw [yU,List.length_take];omega
theorem OL (l:List I):(mkP l).length≤25:=by
 unfold mkP
 cases l.all gdI
 ·exact Nat.le_of_ble_eq_true O
 simp only [cond_true]
 split
 ·assumption
 exact Nat.le_of_ble_eq_true O
theorem zK {α:Type} (l:List α):l=[] ∨ ∃ m x,l=m++[x]:=by
 rcases List.eq_nil_or_concat l with h|⟨m,x,h⟩
 ·exact .inl h
 exact .inr ⟨m,x,by rw [h];simp⟩
theorem FL (n:Int) (f:Nat→I) (o:I→I) (out:List I) (i:Nat):∀ (k:Nat) (cut:List I),cut.length<k→kO n f o out i k cut=oA cut
 | 0,cut,h=>absurd h (Nat.not_lt_zero _)
 | k+1,cut,h=>by
  unfold kO;rcases zK cut with rfl|⟨m,x,rfl⟩
  ·rfl
  rw [xI];have e1:decide (0<((m++[x]).length:Int))=true:=decide_eq_true (by simp only [List.length_append,List.length_cons,List.length_nil];omega)
  have e2:(m++[x]).length - 1=m.length:=by simp
  rw [e1,e2]
  have e3:(m++[x]).getD m.length I0=x:=by simp
  have e4:(m++[x]).take m.length=m:=by simp
  rw [e3,e4,Bool.true_and]
  show (bif zrI x then _ else _)=_
  rw [FL n f o out i k m (by simp only [List.length_append,List.length_cons,List.length_nil] at h;omega)]
theorem HH (i m:Nat):List.range' i (m+1)=i::List.range' (i+1) m:=rfl
theorem G5 (n:Int) (f:Nat→I) (o:I→I):∀ (k:Nat) (out:List I) (i:Nat),n.toNat - i<k →
  kN n f o k out i=bif ((List.range' i (n.toNat - i)).map fun j=>o (f j)).all gdI then .inl (out++(List.range' i (n.toNat - i)).map fun j=>o (f j),i+(n.toNat - i)) else .inr badp
 | 0,out,i,h=>absurd h (Nat.not_lt_zero _)
 | k+1,out,i,h=>by
  unfold kN
  by_cases hi:i<n.toNat
  ·rw [decide_eq_true oo_,cond_true]
   obtain ⟨m,hm⟩:∃ m,n.toNat - i=m+1:=⟨n.toNat - i - 1,by omega⟩
   have hm':n.toNat - (i+1)=m:=by omega
   rw [hm,HH,List.map_cons,List.all_cons,G5 n f o k _ _ oo_,hm']
   show (bif gdI (o (f i)) then _ else _)=_
   cases gdI (o (f i))
   ·rfl
   simp only [cond_true,Bool.true_and,List.append_assoc,List.cons_append,List.nil_append];rw [show i+1+m=i+(m+1) by omega]
  rw [decide_eq_false oo_,cond_false,show n.toNat - i=0 by omega]
  simp
theorem zA (n:Int) (f:Nat→I) (o:I→I):kM n f o=mkP ((List.range n.toNat).map fun j=>o (f j)):=by
 unfold kM mkP;rw [G5 n f o _ _ _ oo_,Nat.sub_zero,← List.range_eq_range']
 cases ((List.range n.toNat).map fun j=>o (f j)).all gdI
 ·rfl
 simp only [cond_true,sm,ap,List.nil_append];rw [FL _ _ _ _ _ _ _ (Nat.lt_succ_self _)]
 by_cases h:(oA ((List.range n.toNat).map fun j=>o (f j))).length≤25
 ·rw [if_pos h,decide_eq_false oo_,cond_false]
 rw [if_neg h,decide_eq_true oo_,cond_true];rfl
theorem MF (n:Int) (f:Nat→Go.Num.W) (o:Go.Num.W→I) (out:List I) (i:Nat):∀ (k:Nat) (cut:List I),l9 n f o out i k cut=kO n (fun _=>I0) (fun x=>x) out i k cut
 | 0,cut=>rfl
 | k+1,cut=>by unfold l9 kO;rw [MF n f o out i k]
theorem FH (n:Int) (f:Nat→Go.Num.W) (o:Go.Num.W→I):∀ (k:Nat) (out:List I) (i:Nat),l8 n f o k out i=kN n (fun j=>o (f j)) (fun x=>x) k out i
 | 0,out,i=>rfl
 | k+1,out,i=>by unfold l8 kN;rw [FH n f o k]
theorem GM (n:Int) (f:Nat→Go.Num.W) (o:Go.Num.W→I):oF n f o=mkP ((List.range n.toNat).map fun j=>o (f j)):=by
 rw [← zA n (fun j=>o (f j)) (fun x=>x)];unfold oF kM;rw [FH]
 congr 1
 funext s
 simp only [ap];rw [MF,FL _ _ _ _ _ _ _ (Nat.lt_succ_self _),FL _ _ _ _ _ _ _ (Nat.lt_succ_self _)]
theorem d0_ (x:I):((Z.signW x.dec).1 != 0) = !zrI x:=rfl
theorem KU (l:List I) {i:Nat} (h:i<l.length):l.take (i+1)=l.take i++[l.getD i I0]:=by
 rw [List.take_add_one,List.getElem?_eq_getElem h]
 simp [List.getD,List.getElem?_eq_getElem h]
theorem E3 (l:List I) {i:Nat} (h:i<l.length):l.drop i=l.getD i I0::l.drop (i+1):=by
 rw [List.drop_eq_getElem_cons h]
 simp [List.getD,List.getElem?_eq_getElem h]
theorem DU (l:List I):∀ (k:Nat) (last:Int) (i:Nat),l.length - i<k→i≤l.length→last+1=((oA (l.take i)).length:Nat) →
  hS l k last i=bif (l.drop i).all gdI then .inl (((oA l).length:Int) - 1,l.length) else .inr badp
 | 0,last,i,h,_,_=>absurd h (Nat.not_lt_zero _)
 | k+1,last,i,h,hi,hl=>by
  unfold hS
  by_cases hlt:i<l.length
  ·rw [decide_eq_true oo_,cond_true,E3 l hlt,List.all_cons]
   show (bif gdI (l.getD i I0) then _ else _)=_
   cases gdI (l.getD i I0)
   ·rfl
   simp only [cond_true,Bool.true_and,d0_];have hs:=xI (l.take i) (l.getD i I0);rw [← KU l hlt] at hs
   cases hz:zrI (l.getD i I0)
   ·rw [hz] at hs
    simp only [Bool.not_false,cond_true];refine DU l k _ _ oo_ oo_ ?_;rw [hs,cond_false,List.length_take,Nat.min_eq_left oo_];omega
   rw [hz] at hs;simp only [Bool.not_true,cond_false];refine DU l k _ _ oo_ oo_ ?_;rw [hs];exact hl
  have e:i=l.length:=by omega
  subst e;rw [decide_eq_false oo_,cond_false,List.drop_length];rw [List.take_length] at hl
  show _=Sum.inl _
  rw [show last=((oA l).length:Int) - 1 by omega]
theorem HJ (l:List I) (last:Int) (i:Nat):∀ (k:Nat) (out:List I) (j:Nat),(last+1).toNat - j<k→out=l.take j→(last+1).toNat≤l.length→j≤(last+1).toNat →
  (jF l last i k out j).1=l.take (last+1).toNat
 | 0,out,j,h,_,_,_=>absurd h (Nat.not_lt_zero _)
 | k+1,out,j,h,ho,hl,hj=>by
  unfold jF
  by_cases hc:(j:Int)≤last
  ·rw [decide_eq_true hc,cond_true]
   refine HJ l last i k _ _ oo_ ?_ hl oo_;rw [ho,KU l oo_]
  rw [decide_eq_false hc,cond_false]
  show out=_
  rw [ho];congr 1;omega
theorem A0 (l:List I):cY l=mkP l:=by
 unfold cY mkP;rw [DU l _ _ _ oo_ (Nat.zero_le _) (by rw [List.take_zero];rfl),List.drop_zero]
 cases l.all gdI
 ·rfl
 simp only [cond_true,sm,ap];have hle:=KR l
 by_cases h:(oA l).length≤25
 ·rw [if_pos h,decide_eq_false oo_,cond_false]
  rw [HJ l _ _ _ _ _ oo_ (by rw [List.take_zero]) oo_ oo_];rw [show (((oA l).length:Int) - 1+1).toNat=(oA l).length by omega];exact (yU l).symm
 rw [if_neg h,decide_eq_true oo_,cond_true];rfl
theorem yJ {c:Bool} {x y:List I} (h:x.length≤25) (k:y.length≤25):(bif c then x else y).length≤25:=by cases c<;>assumption
theorem y8:badp.length≤25:=Nat.le_of_ble_eq_true O
theorem MA (n:Int) (f:Nat→I) (o:I→I):(kM n f o).length≤25:=by rw [zA];exact OL _
theorem lT (l:List W):(dN l).length≤25:=by unfold dN;rw [GM];exact OL _
theorem AA (p q:List I) (f:I→I→I):(k8 p q f).length≤25:=yJ y8 (MA _ _ _)
theorem jJ (p q:List I):(bL p q).length≤25:=AA _ _ _
theorem FX (p q:List I):(pX p q).length≤25:=AA _ _ _
theorem pG (p q:List I):(bF p q).length≤25:=yJ y8 (yJ (Nat.zero_le _) (MA _ _ _))
theorem jV (p:List I) (n:I):(cX p n).length≤25:=yJ (AA _ _ _) y8
theorem xH (l:List I):(cY l).length≤25:=by rw [A0];exact OL _
theorem nQ (l:List I):(cY l).length≤25:=xH l
theorem dP (l:List W):(bI l).length≤25:=xH _
theorem dO (p q:List I):(aP p q).length≤25:=yJ y8 (xH _)
theorem w5 (p q:List I):(jO p q).length≤25:=yJ y8 (xH _)
theorem lG (p q:List I):(bO p q).length≤25:=yJ y8 (yJ (Nat.zero_le _) (xH _))
theorem fH (p:List I) (n:I):(bG p n).length≤25:=yJ y8 (xH _)
theorem HG (d:I) (n:Int):∀ (k:Nat) (out:List I),n.toNat - out.length<k→1≤out.length→(j8 d n k out).length=max n.toNat out.length
 | 0,out,h,_=>absurd h (Nat.not_lt_zero _)
 | k+1,out,h,h1=>by
  unfold j8
  by_cases hc:(out.length:Int)<n
  ·rw [decide_eq_true hc,cond_true,HG d n k _ (by simp only [List.length_append,List.length_cons,List.length_nil];omega) (by simp)]
   simp only [List.length_append,List.length_cons,List.length_nil];omega
  rw [decide_eq_false hc,cond_false];omega
theorem HY (d:I) (n:Int):(gO d n).length=max n.toNat 1:=HG d n _ _ (by simp only [List.length_cons,List.length_nil];omega) (by simp)
end Go.Num
