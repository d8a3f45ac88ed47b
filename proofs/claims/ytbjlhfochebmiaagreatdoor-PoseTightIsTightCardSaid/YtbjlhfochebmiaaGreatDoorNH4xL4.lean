/- Lemmas: what they ask stands in their statements. -/
import Derived.Test.YtbjlhfochebmiaaGreatDoorNJe
import Derived.Test.YtbjlhfochebmiaaGreatDoorNH4xJh
import Derived.Test.YtbjlhfochebmiaaGreatDoorNTd
set_option linter.unusedSimpArgs false
set_option linter.unusedVariables false
set_option maxHeartbeats 8000000
set_option maxRecDepth 20000
namespace Go.Proofs.YtbjlhfochebmiaaGreatDoor
open Go.Kn Go.Num Tryz
attribute [local irreducible] Go.Kn.W WL PL OpQ OpR OpS
theorem D6 (p:Pose) (p_c:Option Addr) (c_c:Nat) (c:(List (A3 W))) (w:World) (hc:Slr w elV (.slice p_c c.length c_c) c) :
    Calls prog 6 [AV [cw p.x.x.1,cw p.x.y.1,cw p.x.z.1,cw p.q.x.1,cw p.q.y.1,cw p.q.z.1,cw p.q.t.1],AV [csl p_c c.length c_c]].toArray w (fun e w'=>e = .returned (.bool (bK p c))∧Ext w w'):=by
 refine dB (N:=116) func6 O O zz_ ?_;obtain ⟨w0,rfl⟩:=nm w;have Hc:=hc.old;have hm_c:=hc.max;refine giI ?_;refine go2 ?_;intro b1 hb1;refine go_ ?_;intro b2 hb2;refine go3 ?_;refine gJv (rg [] 17 8) [(24,.bool (((cZ p).1 != 0)||(!(e8 c))))] (fun K2 J2=>?_) ?_
 ·refine go2 ?_;refine sQ (aX aE (qN p) O) O (go_ ?_);refine sBB O (fun h4=>?_) (fun h4=>?_)
  ·refine go5 ?_;refine J2 _ _ pp_ s0 (bS (oH h4))
  refine go_ ?_;refine sFc (.bool (e8 c)) O (c1_ (vJ _ _ c) Hc sn) O O (go3 ?_);refine J2 _ _ pp_ s0 (bS (mO h4 O))
 intro g5;refine aN _ O (fun h6=>?_) (fun h6=>?_)
 ·refine go_ ?_;refine sQ (aX aE nE  rfl) O (go3 ?_);refine rt1 ?_;exact congrArg vS1 (show _=(bK p c) from aC h6 O)
 refine go4 ?_;refine sFc (.tuple #[AV [cw ((((aG p c).1).x).1),cw ((((aG p c).1).y).1),cw ((((aG p c).1).z).1)],AV [cw ((((aG p c).2).x).1),cw ((((aG p c).2).y).1),cw ((((aG p c).2).z).1)]]) O (fun w hw=>IK p _ _ c w (aR hw Hc sn) (by first|omega|(have hfw:=KP eL;omega)|(have hfw:=OP eL;omega))) O O ?_;refine go4 ?_;intro b7 hb7;refine go_ ?_;intro b8 hb8;refine go3 ?_;refine pH (rg [7,8] 32 7) (fun g M=>∃ (b13:Nat) (b14:Nat),(g 7 = .pointer (some ⟨b14,0,none⟩)∧g 8 = .pointer (some ⟨b13,0,none⟩))∧(w0.heap.size≤b13∧w0.heap.size≤b14)∧M.Perm [⟨b13,23,aU [cw ((((aP (aW p) c).2).x).1),cw ((((aP (aW p) c).2).y).1),cw ((((aP (aW p) c).2).z).1)]⟩,⟨b14,23,aU [cw ((((aP (aW p) c).1).x).1),cw ((((aP (aW p) c).1).y).1),cw ((((aP (aW p) c).1).z).1)]⟩,⟨b8,23,aU [cw ((((aG p c).2).x).1),cw ((((aG p c).2).y).1),cw ((((aG p c).2).z).1)]⟩,⟨b7,23,aU [cw ((((aG p c).1).x).1),cw ((((aG p c).1).y).1),cw ((((aG p c).1).z).1)]⟩,⟨b2,52,aU [csl p_c c.length c_c]⟩,⟨b1,27,aU [cw p.x.x.1,cw p.x.y.1,cw p.x.z.1,cw p.q.x.1,cw p.q.y.1,cw p.q.z.1,cw p.q.t.1]⟩]) (fun K3 J3=>?_) ?_
 ·refine gDk s0 (.quiet 0 [1,3,4,5,6,9,10] (.quiet 1 [3,4,5,6,9,10] (.quiet 2 [3,4,5,6,9,10] (.quiet 3 [4,5,6,9,10] (.quiet 4 [5,6,9,10] (.quiet 5 [9,10] (.still 6 [10] (.both 7 (.only 8 (.only 9 (.only 10 (.fin)))) 8 (.only 7 (.only 9 (.only 10 (.fin)))))))))))) [0,1,2,3,4,5,6,7,8] mix (by kernel_rfl) (by kernel_rfl) (go_ ?_);refine pQ O (aX aE (yU p) O) (go_ ?_);refine pQ O (aS (v':=.tuple #[AV [cw ((((aP (aW p) c).1).x).1),cw ((((aP (aW p) c).1).y).1),cw ((((aP (aW p) c).1).z).1)],AV [cw ((((aP (aW p) c).2).x).1),cw ((((aP (aW p) c).2).y).1),cw ((((aP (aW p) c).2).z).1)]]) (dJ aE O (c1_ (AJ (aW p) _ _ c) Hc sn)) O) (go3 ?_);refine AF ?_ ?_
  ·refine dF O O (eQ zpT (fun b15 hb15=>⟨(fun _=>sd s0),(sd s0),?_⟩));refine dF O O (eQ zpT (fun b16 hb16=>⟨(fun _=>sd s0),(sd (sd s0)),?_⟩));refine go3 ?_;refine J3 _ _ pp_ ⟨_,List.Sublist.refl _,b16,b15,⟨rfl,rfl⟩,⟨hb16,hb15⟩,(List.Perm.refl _)⟩
  refine dF O O (eQ zpT (fun b17 hb17=>⟨(fun _=>sd s0),(sd s0),?_⟩));refine dF O O (eQ zpT (fun b18 hb18=>⟨(fun _=>sd s0),(sd (sd s0)),?_⟩));refine go3 ?_;refine J3 _ _ pp_ ⟨_,List.Sublist.refl _,b17,b18,⟨rfl,rfl⟩,⟨hb17,hb18⟩,(Frq.pc (vD UT) (List.Perm.refl _))⟩
 rintro g3 M ⟨b13,b14,⟨hg7,hg8⟩,⟨hb13,hb14⟩,hpm19⟩;refine HL hpm19 ?_;clear hpm19;refine gS2 hg7 hg8 ?_;clear hg7 hg8;refine go_ ?_;refine sQ (aX aE (bV (wl 1)) O) O ?_;refine go_ ?_;intro b20 hb20;refine go7 ?_;refine rM 5 (go2 ?_);refine sV (.bool true) O O (Q4 ?_);refine bI O (cG (E:=42) (e:=yO) (l:=(aA p c)) (fun v=>v) aE O (fun w hw=>tL p _ _ c w (aR hw Hc sn) (by first|omega|(have hfw:=KP eL;omega)|(have hfw:=OP eL;omega))) (fun p21 c22 L23 hF24=>?_));have hb25:=(lH p c);refine sQ (aS (v':=.int .i64 ((aA p c).length:Int)) (eK (e:=yO) F8 O (rO hF24 lZ)) O) O (go2 ?_);refine gJ3 (rg [4,11,12,14,15,16] 47 43) (fun g M=>∃ (low_0:Bool) (high_0:Bool),(cU p c (aA p c) false false) = .inl (low_0,high_0)∧(g 11 = .bool low_0∧g 12 = .bool high_0)∧M=(L23++(⟨b20,35,aU [pI ((aJ (wl 1)).n),pI ((aJ (wl 1)).d)]⟩::(⟨b13,23,aU [cw ((((aP (aW p) c).2).x).1),cw ((((aP (aW p) c).2).y).1),cw ((((aP (aW p) c).2).z).1)]⟩::(⟨b14,23,aU [cw ((((aP (aW p) c).1).x).1),cw ((((aP (aW p) c).1).y).1),cw ((((aP (aW p) c).1).z).1)]⟩::(⟨b8,23,aU [cw ((((aG p c).2).x).1),cw ((((aG p c).2).y).1),cw ((((aG p c).2).z).1)]⟩::(⟨b7,23,aU [cw ((((aG p c).1).x).1),cw ((((aG p c).1).y).1),cw ((((aG p c).1).z).1)]⟩::(⟨b2,52,aU [csl p_c c.length c_c]⟩::(⟨b1,27,aU [cw p.x.x.1,cw p.x.y.1,cw p.x.z.1,cw p.q.x.1,cw p.q.y.1,cw p.q.z.1,cw p.q.t.1]⟩::[]))))))))) (fun K_u26 hK_u26=>?_) ?_
 ·refine go_ ?_;have hmx0:(aA p c).length≤9223372036854775807:=(OwnG.max hF24);refine cI (rg [4,11,12,14,15,16] 47 43) (fun g nn M=>∃ (i0:Nat) (l0:List (A3 Rt)) (low_0:Bool) (high_0:Bool),(cU p c l0 low_0 high_0)=(cU p c (aA p c) false false)∧(aA p c).drop i0=l0∧l0.length=nn∧g 47 = .int .i64 (i0:Int)∧(g 11 = .bool low_0∧g 12 = .bool high_0)∧M=(L23++(⟨b20,35,aU [pI ((aJ (wl 1)).n),pI ((aJ (wl 1)).d)]⟩::(⟨b13,23,aU [cw ((((aP (aW p) c).2).x).1),cw ((((aP (aW p) c).2).y).1),cw ((((aP (aW p) c).2).z).1)]⟩::(⟨b14,23,aU [cw ((((aP (aW p) c).1).x).1),cw ((((aP (aW p) c).1).y).1),cw ((((aP (aW p) c).1).z).1)]⟩::(⟨b8,23,aU [cw ((((aG p c).2).x).1),cw ((((aG p c).2).y).1),cw ((((aG p c).2).z).1)]⟩::(⟨b7,23,aU [cw ((((aG p c).1).x).1),cw ((((aG p c).1).y).1),cw ((((aG p c).1).z).1)]⟩::(⟨b2,52,aU [csl p_c c.length c_c]⟩::(⟨b1,27,aU [cw p.x.x.1,cw p.x.y.1,cw p.x.z.1,cw p.q.x.1,cw p.q.y.1,cw p.q.z.1,cw p.q.t.1]⟩::[]))))))))) (aA p c).length ?start ?round
  case start=>exact ⟨_,s0,0,(aA p c),false,false,rfl,rfl,rfl,rfl,⟨rfl,rfl⟩,rfl⟩
  case round =>
   rintro nn g M ⟨i0,l0,low_0,high_0,hT0,hr0,rfl,hgi,⟨hg11,hg12⟩,rfl⟩;refine gS3 hgi hg11 hg12 ?_;clear hgi hg11 hg12;refine go4 ?_;rcases l0 with _|⟨x0,l0⟩
   ·have h77:=yD hr0;refine W_f h77 O (go_ ?_);refine hK_u26 _ _ pp_ ⟨_,s0,low_0,high_0,(by exact hT0.symm.trans (Eq.symm rfl)),⟨rfl,rfl⟩,rfl⟩
   have h78:=wH hr0;have g79:=sK hr0;refine W_t h78 O (go4 ?_);refine sQ (aS (v':=.pointer (some (slb (.slice p21 (aA p c).length c22) (i0*108+0)))) (eY (e:=yO) (l:=(aA p c)) (k:=i0) F8 O O (rO hF24 lZ) g79.2.1) O) O (sQ (iS (e:=yO) (l:=(aA p c)) (k:=i0) (o:=0) tyT O (rO hF24 lZ) g79.1 O) O (go_ ?_));intro b80 hb80;refine go2 ?_;refine pH (rg [15,16] 51 16) (fun g M=>∃ (b85:Nat) (b86:Nat),(g 15 = .pointer (some ⟨b86,0,none⟩)∧g 16 = .pointer (some ⟨b85,0,none⟩))∧(w0.heap.size≤b85∧w0.heap.size≤b86)∧M.Perm (⟨b85,35,aU [pI ((bQ (aJ (((aG p c).2).x)) x0.x).n),pI ((bQ (aJ (((aG p c).2).x)) x0.x).d)]⟩::(⟨b86,35,aU [pI ((bQ x0.x (aJ (((aG p c).1).x))).n),pI ((bQ x0.x (aJ (((aG p c).1).x))).d)]⟩::(⟨b80,42,aU [pI x0.x.n,pI x0.x.d,pI x0.y.n,pI x0.y.d,pI x0.z.n,pI x0.z.d]⟩::(L23++(⟨b20,35,aU [pI ((aJ (wl 1)).n),pI ((aJ (wl 1)).d)]⟩::(⟨b13,23,aU [cw ((((aP (aW p) c).2).x).1),cw ((((aP (aW p) c).2).y).1),cw ((((aP (aW p) c).2).z).1)]⟩::(⟨b14,23,aU [cw ((((aP (aW p) c).1).x).1),cw ((((aP (aW p) c).1).y).1),cw ((((aP (aW p) c).1).z).1)]⟩::(⟨b8,23,aU [cw ((((aG p c).2).x).1),cw ((((aG p c).2).y).1),cw ((((aG p c).2).z).1)]⟩::(⟨b7,23,aU [cw ((((aG p c).1).x).1),cw ((((aG p c).1).y).1),cw ((((aG p c).1).z).1)]⟩::(⟨b2,52,aU [csl p_c c.length c_c]⟩::(⟨b1,27,aU [cw p.x.x.1,cw p.x.y.1,cw p.x.z.1,cw p.q.x.1,cw p.q.y.1,cw p.q.z.1,cw p.q.t.1]⟩::[])))))))))))) (fun K19 J19=>?_) ?_
   ·refine gDk s0 (.quiet 0 [1,2,7,11,15,18,19] (.quiet 1 [2,7,11,15,18,19] (.quiet 2 [7,11,15,18,19] (.quiet 3 [4,5,6,7,11,15,18,19] (.quiet 4 [5,6,7,11,15,18,19] (.quiet 5 [6,7,11,15,18,19] (.quiet 6 [7,11,15,18,19] (.quiet 7 [11,15,18,19] (.quiet 8 [9,10,11,15,18,19] (.quiet 9 [10,11,15,18,19] (.quiet 10 [11,15,18,19] (.quiet 11 [15,18,19] (.quiet 12 [13,14,15,18,19] (.quiet 13 [14,15,18,19] (.quiet 14 [15,18,19] (.quiet 15 [18,19] (.both 16 (.only 17 (.only 18 (.only 19 (.fin)))) 17 (.only 16 (.only 18 (.only 19 (.fin))))))))))))))))))))) [0,1,2,3,4,5,6,7,8,9,10,11,12,13,14,15,16,17] mix (by kernel_rfl) (by kernel_rfl) (go6 ?_);refine pQ O (aX aE (bV (((aG p c).1).x)) O) (pQ O (aX aE (nD x0.x (aJ (((aG p c).1).x))) O) (go3 ?_));refine pQ O (aX aE (bV (((aG p c).2).x)) O) (go3 ?_);refine pQ O (aX aE (nD (aJ (((aG p c).2).x)) x0.x) O) ?_;refine AF ?_ ?_
    ·refine dF O O (eQ zpT (fun b87 hb87=>⟨(fun _=>sd s0),(sd s0),?_⟩));refine dF O O (eQ zpT (fun b88 hb88=>⟨(fun _=>sd s0),(sd (sd s0)),?_⟩));refine go3 ?_;refine J19 _ _ pp_ ⟨_,List.Sublist.refl _,b88,b87,⟨rfl,rfl⟩,⟨hb88,hb87⟩,(List.Perm.refl _)⟩
    refine dF O O (eQ zpT (fun b89 hb89=>⟨(fun _=>sd s0),(sd s0),?_⟩));refine dF O O (eQ zpT (fun b90 hb90=>⟨(fun _=>sd s0),(sd (sd s0)),?_⟩));refine go3 ?_;refine J19 _ _ pp_ ⟨_,List.Sublist.refl _,b89,b90,⟨rfl,rfl⟩,⟨hb89,hb90⟩,(Frq.pc (vD UT) (List.Perm.refl _))⟩
   rintro g19 M ⟨b85,b86,⟨hg15,hg16⟩,⟨hb85,hb86⟩,hpm91⟩;refine HL hpm91 ?_;clear hpm91;refine gS2 hg15 hg16 ?_;clear hg15 hg16;refine go3 ?_;obtain ⟨r92,hr92⟩:=nm ((gK (bQ x0.x (aJ (((aG p c).1).x)))):W);refine sC (.int .i64 r92.1) aE (qH (bQ x0.x (aJ (((aG p c).1).x)))) O O (by rw [hr92];first|done|rfl) (go_ ?_);refine sBB O (fun h93=>?_) (fun h93=>?_)
   ·have ph93:=of_decide_eq_true h93;refine iK ?_;refine rt1 ?_;exact (by obtain rfl:=hr92.symm;exact congrArg vS1 (show _=(bK p c) from aH h6 (wQ O (hT0.symm.trans (Eq.symm (aC h93 O))))))
   have ph93:=of_decide_eq_false h93;refine go_ ?_;obtain ⟨r94,hr94⟩:=nm ((gK (bQ (aJ (((aG p c).2).x)) x0.x)):W);refine sC (.int .i64 r94.1) aE (qH (bQ (aJ (((aG p c).2).x)) x0.x)) O O (by rw [hr94];first|done|rfl) (go3 ?_);refine aN _ O (fun h95=>?_) (fun h95=>?_)
   ·have ph95:=of_decide_eq_true h95;refine go4 ?_;refine rt1 ?_
    subst_vars;exact congrArg vS1 (show _=(bK p c) from aH h6 (wQ O (hT0.symm.trans (Eq.symm (aH h93 (aC h95 O))))))
   have ph95:=of_decide_eq_false h95;refine go3 ?_;refine sBB O (fun h96=>?_) (fun h96=>?_)
   ·refine go6 ?_;refine sBB O (fun h97=>?_) (fun h97=>?_)
    ·refine go9 ?_;refine sV (.int .i64 ((i0+1:Nat):Int)) O (congrArg (Value.int .i64) (nxt g79.2.1 hmx0)) (go2 ?_);refine ⟨pp_,_,_,(sd (sd (sd s0))),(Nat.lt_succ_self _),i0+1,l0,true,true,(by obtain rfl:=hr94.symm;obtain rfl:=hr92.symm;exact (hT0.symm.trans (Eq.symm (aH h93 (aH h95 (aC h96 (aC h97 O)))))).symm),g79.2.2,rfl,rfl,⟨rfl,rfl⟩,rfl⟩
    refine go2 ?_;obtain ⟨r98,hr98⟩:=nm ((cH (bQ (aJ (((aG p c).2).x)) x0.x) (aJ (wl 1))):W);refine sC (.int .i64 r98.1) aE (iV (bQ (aJ (((aG p c).2).x)) x0.x) (aJ (wl 1))) O O (by rw [hr98];first|done|rfl) ?_;refine go6 ?_;refine sV (.int .i64 ((i0+1:Nat):Int)) O (congrArg (Value.int .i64) (nxt g79.2.1 hmx0)) (go2 ?_);refine ⟨pp_,_,_,(sd (sd (sd s0))),(Nat.lt_succ_self _),i0+1,l0,true,(decide (r98.1<0)),(by obtain rfl:=hr98.symm;obtain rfl:=hr94.symm;obtain rfl:=hr92.symm;exact (hT0.symm.trans (Eq.symm (aH h93 (aH h95 (aC h96 (aH h97 O)))))).symm),g79.2.2,rfl,rfl,⟨rfl,rfl⟩,rfl⟩
   refine go2 ?_;obtain ⟨r99,hr99⟩:=nm ((cH (bQ x0.x (aJ (((aG p c).1).x))) (aJ (wl 1))):W);refine sC (.int .i64 r99.1) aE (iV (bQ x0.x (aJ (((aG p c).1).x))) (aJ (wl 1))) O O (by rw [hr99];first|done|rfl) ?_;refine go3 ?_;refine sBB O (fun h100=>?_) (fun h100=>?_)
   ·refine go9 ?_;refine sV (.int .i64 ((i0+1:Nat):Int)) O (congrArg (Value.int .i64) (nxt g79.2.1 hmx0)) (go2 ?_);refine ⟨pp_,_,_,(sd (sd (sd s0))),(Nat.lt_succ_self _),i0+1,l0,(decide (r99.1<0)),true,(by obtain rfl:=hr99.symm;obtain rfl:=hr94.symm;obtain rfl:=hr92.symm;exact (hT0.symm.trans (Eq.symm (aH h93 (aH h95 (aH h96 (aC h100 O)))))).symm),g79.2.2,rfl,rfl,⟨rfl,rfl⟩,rfl⟩
   refine go2 ?_;obtain ⟨r101,hr101⟩:=nm ((cH (bQ (aJ (((aG p c).2).x)) x0.x) (aJ (wl 1))):W);refine sC (.int .i64 r101.1) aE (iV (bQ (aJ (((aG p c).2).x)) x0.x) (aJ (wl 1))) O O (by rw [hr101];first|done|rfl) ?_;refine go6 ?_;refine sV (.int .i64 ((i0+1:Nat):Int)) O (congrArg (Value.int .i64) (nxt g79.2.1 hmx0)) (go2 ?_);refine ⟨pp_,_,_,(sd (sd (sd s0))),(Nat.lt_succ_self _),i0+1,l0,(decide (r99.1<0)),(decide (r101.1<0)),(by obtain rfl:=hr101.symm;obtain rfl:=hr99.symm;obtain rfl:=hr94.symm;obtain rfl:=hr92.symm;exact (hT0.symm.trans (Eq.symm (aH h93 (aH h95 (aH h96 (aH h100 O)))))).symm),g79.2.2,rfl,rfl,⟨rfl,rfl⟩,rfl⟩
 rintro g M ⟨low_0,high_0,hCu26,⟨hg11,hg12⟩,rfl⟩;refine gS2 hg11 hg12 ?_;clear hg11 hg12;refine gds s0 [0,4,8,12,16,20,24,28,32,36,40,44,48,52,56,60,64,68,72,76,80,84,88,92] [] mix (by kernel_rfl) (go2 ?_);rcases bt low_0 with h102|h102
 ·refine pB (fZ h102) O (go3 ?_);rcases bt high_0 with h103|h103
  ·refine pB (fZ h103) O (go8 ?_);refine pBB O (fun h104=>?_) (fun h104=>?_)
   ·have ph104:=of_decide_eq_true h104;refine BN ?_;refine rt1 ?_;exact congrArg vS1 (show _=(bK p c) from aH h6 (trs (Eq.symm (smS hCu26)) (aC h102 (aC h103 (aC h104 O)))))
   have ph104:=of_decide_eq_false h104;refine go9 ?_;refine aN _ O (fun h105=>?_) (fun h105=>?_)
   ·have ph105:=of_decide_eq_true h105;refine go4 ?_;refine rt1 ?_;exact congrArg vS1 (show _=(bK p c) from aH h6 (trs (Eq.symm (smS hCu26)) (aC h102 (aC h103 (aH h104 (aC h105 O))))))
   have ph105:=of_decide_eq_false h105;refine go2 ?_;refine sV (.int .i64 1) O O (go4 ?_);refine sV (.bool true) O O (Q4 ?_);refine bI O (cG (E:=42) (e:=yO) (l:=(aA p c)) (fun v=>v) aE O (fun w hw=>tL p _ _ c w (aR hw Hc sn) (by first|omega|(have hfw:=KP eL;omega)|(have hfw:=OP eL;omega))) (fun p106 c107 L108 hF109=>?_));have hb110:=(lH p c);refine sQ (aS (v':=.int .i64 ((aA p c).length:Int)) (eK (e:=yO) F8 O (rO hF109 lZ)) O) O (go2 ?_);refine gJ3 (rg [4,11,12,14,15,16] 47 43) (fun g M=>∃ (low_1:Bool) (high_1:Bool),(cV p c low_0 high_0 (aA p c) false false) = .inl (low_1,high_1)∧(g 11 = .bool low_1∧g 12 = .bool high_1)∧M=(L108++(L23++(⟨b20,35,aU [pI ((aJ (wl 1)).n),pI ((aJ (wl 1)).d)]⟩::(⟨b13,23,aU [cw ((((aP (aW p) c).2).x).1),cw ((((aP (aW p) c).2).y).1),cw ((((aP (aW p) c).2).z).1)]⟩::(⟨b14,23,aU [cw ((((aP (aW p) c).1).x).1),cw ((((aP (aW p) c).1).y).1),cw ((((aP (aW p) c).1).z).1)]⟩::(⟨b8,23,aU [cw ((((aG p c).2).x).1),cw ((((aG p c).2).y).1),cw ((((aG p c).2).z).1)]⟩::(⟨b7,23,aU [cw ((((aG p c).1).x).1),cw ((((aG p c).1).y).1),cw ((((aG p c).1).z).1)]⟩::(⟨b2,52,aU [csl p_c c.length c_c]⟩::(⟨b1,27,aU [cw p.x.x.1,cw p.x.y.1,cw p.x.z.1,cw p.q.x.1,cw p.q.y.1,cw p.q.z.1,cw p.q.t.1]⟩::[])))))))))) (fun K_u111 hK_u111=>?_) ?_
   ·refine go_ ?_;have hmx1:(aA p c).length≤9223372036854775807:=(OwnG.max hF109);refine cI (rg [4,11,12,14,15,16] 47 43) (fun g nn M=>∃ (i1:Nat) (l1:List (A3 Rt)) (low_1:Bool) (high_1:Bool),(cV p c low_0 high_0 l1 low_1 high_1)=(cV p c low_0 high_0 (aA p c) false false)∧(aA p c).drop i1=l1∧l1.length=nn∧g 47 = .int .i64 (i1:Int)∧(g 11 = .bool low_1∧g 12 = .bool high_1)∧M=(L108++(L23++(⟨b20,35,aU [pI ((aJ (wl 1)).n),pI ((aJ (wl 1)).d)]⟩::(⟨b13,23,aU [cw ((((aP (aW p) c).2).x).1),cw ((((aP (aW p) c).2).y).1),cw ((((aP (aW p) c).2).z).1)]⟩::(⟨b14,23,aU [cw ((((aP (aW p) c).1).x).1),cw ((((aP (aW p) c).1).y).1),cw ((((aP (aW p) c).1).z).1)]⟩::(⟨b8,23,aU [cw ((((aG p c).2).x).1),cw ((((aG p c).2).y).1),cw ((((aG p c).2).z).1)]⟩::(⟨b7,23,aU [cw ((((aG p c).1).x).1),cw ((((aG p c).1).y).1),cw ((((aG p c).1).z).1)]⟩::(⟨b2,52,aU [csl p_c c.length c_c]⟩::(⟨b1,27,aU [cw p.x.x.1,cw p.x.y.1,cw p.x.z.1,cw p.q.x.1,cw p.q.y.1,cw p.q.z.1,cw p.q.t.1]⟩::[])))))))))) (aA p c).length ?start ?round
    case start=>exact ⟨_,s0,0,(aA p c),false,false,rfl,rfl,rfl,rfl,⟨rfl,rfl⟩,rfl⟩
    case round =>
     rintro nn g M ⟨i1,l1,low_1,high_1,hT1,hr1,rfl,hgi,⟨hg11,hg12⟩,rfl⟩;refine gS3 hgi hg11 hg12 ?_;clear hgi hg11 hg12;refine go4 ?_;rcases l1 with _|⟨x1,l1⟩
     ·have h137:=yD hr1;refine W_f h137 O (go_ ?_);refine hK_u111 _ _ pp_ ⟨_,s0,low_1,high_1,(by exact hT1.symm.trans (Eq.symm rfl)),⟨rfl,rfl⟩,rfl⟩
     have h138:=wH hr1;have g139:=sK hr1;refine W_t h138 O (go4 ?_);refine sQ (aS (v':=.pointer (some (slb (.slice p106 (aA p c).length c107) (i1*108+0)))) (eY (e:=yO) (l:=(aA p c)) (k:=i1) F8 O O (rO hF109 lZ) g139.2.1) O) O (sQ (iS (e:=yO) (l:=(aA p c)) (k:=i1) (o:=0) tyT O (rO hF109 lZ) g139.1 O) O (go_ ?_));intro b140 hb140;refine go2 ?_;refine pH (rg [15,16] 51 16) (fun g M=>∃ (b145:Nat) (b146:Nat),(g 15 = .pointer (some ⟨b146,0,none⟩)∧g 16 = .pointer (some ⟨b145,0,none⟩))∧(w0.heap.size≤b145∧w0.heap.size≤b146)∧M.Perm (⟨b145,35,aU [pI ((bQ (aJ (((aG p c).2).y)) x1.y).n),pI ((bQ (aJ (((aG p c).2).y)) x1.y).d)]⟩::(⟨b146,35,aU [pI ((bQ x1.y (aJ (((aG p c).1).y))).n),pI ((bQ x1.y (aJ (((aG p c).1).y))).d)]⟩::(⟨b140,42,aU [pI x1.x.n,pI x1.x.d,pI x1.y.n,pI x1.y.d,pI x1.z.n,pI x1.z.d]⟩::(L108++(L23++(⟨b20,35,aU [pI ((aJ (wl 1)).n),pI ((aJ (wl 1)).d)]⟩::(⟨b13,23,aU [cw ((((aP (aW p) c).2).x).1),cw ((((aP (aW p) c).2).y).1),cw ((((aP (aW p) c).2).z).1)]⟩::(⟨b14,23,aU [cw ((((aP (aW p) c).1).x).1),cw ((((aP (aW p) c).1).y).1),cw ((((aP (aW p) c).1).z).1)]⟩::(⟨b8,23,aU [cw ((((aG p c).2).x).1),cw ((((aG p c).2).y).1),cw ((((aG p c).2).z).1)]⟩::(⟨b7,23,aU [cw ((((aG p c).1).x).1),cw ((((aG p c).1).y).1),cw ((((aG p c).1).z).1)]⟩::(⟨b2,52,aU [csl p_c c.length c_c]⟩::(⟨b1,27,aU [cw p.x.x.1,cw p.x.y.1,cw p.x.z.1,cw p.q.x.1,cw p.q.y.1,cw p.q.z.1,cw p.q.t.1]⟩::[]))))))))))))) (fun K31 J31=>?_) ?_
     ·refine gDk s0 (.quiet 0 [1,2,7,11,15,18,19] (.quiet 1 [2,7,11,15,18,19] (.quiet 2 [7,11,15,18,19] (.quiet 3 [4,5,6,7,11,15,18,19] (.quiet 4 [5,6,7,11,15,18,19] (.quiet 5 [6,7,11,15,18,19] (.quiet 6 [7,11,15,18,19] (.quiet 7 [11,15,18,19] (.quiet 8 [9,10,11,15,18,19] (.quiet 9 [10,11,15,18,19] (.quiet 10 [11,15,18,19] (.quiet 11 [15,18,19] (.quiet 12 [13,14,15,18,19] (.quiet 13 [14,15,18,19] (.quiet 14 [15,18,19] (.quiet 15 [18,19] (.both 16 (.only 17 (.only 18 (.only 19 (.fin)))) 17 (.only 16 (.only 18 (.only 19 (.fin))))))))))))))))))))) [0,1,2,3,4,5,6,7,8,9,10,11,12,13,14,15,16,17] mix (by kernel_rfl) (by kernel_rfl) (go6 ?_);refine pQ O (aX aE (bV (((aG p c).1).y)) O) (pQ O (aX aE (nD x1.y (aJ (((aG p c).1).y))) O) (go3 ?_));refine pQ O (aX aE (bV (((aG p c).2).y)) O) (go3 ?_);refine pQ O (aX aE (nD (aJ (((aG p c).2).y)) x1.y) O) ?_;refine AF ?_ ?_
      ·refine dF O O (eQ zpT (fun b147 hb147=>⟨(fun _=>sd s0),(sd s0),?_⟩));refine dF O O (eQ zpT (fun b148 hb148=>⟨(fun _=>sd s0),(sd (sd s0)),?_⟩));refine go3 ?_;refine J31 _ _ pp_ ⟨_,List.Sublist.refl _,b148,b147,⟨rfl,rfl⟩,⟨hb148,hb147⟩,(List.Perm.refl _)⟩
      refine dF O O (eQ zpT (fun b149 hb149=>⟨(fun _=>sd s0),(sd s0),?_⟩));refine dF O O (eQ zpT (fun b150 hb150=>⟨(fun _=>sd s0),(sd (sd s0)),?_⟩));refine go3 ?_;refine J31 _ _ pp_ ⟨_,List.Sublist.refl _,b149,b150,⟨rfl,rfl⟩,⟨hb149,hb150⟩,(Frq.pc (vD UT) (List.Perm.refl _))⟩
     rintro g31 M ⟨b145,b146,⟨hg15,hg16⟩,⟨hb145,hb146⟩,hpm151⟩;refine HL hpm151 ?_;clear hpm151;refine gS2 hg15 hg16 ?_;clear hg15 hg16;refine go3 ?_;obtain ⟨r152,hr152⟩:=nm ((gK (bQ x1.y (aJ (((aG p c).1).y)))):W);refine sC (.int .i64 r152.1) aE (qH (bQ x1.y (aJ (((aG p c).1).y)))) O O (by rw [hr152];first|done|rfl) (go_ ?_);refine sBB O (fun h153=>?_) (fun h153=>?_)
     ·have ph153:=of_decide_eq_true h153;refine iK ?_;refine rt1 ?_;exact (by obtain rfl:=hr152.symm;exact congrArg vS1 (show _=(bK p c) from aH h6 (trs (Eq.symm (smS hCu26)) (aC h102 (aC h103 (aH h104 (aH h105 (wQ O (hT1.symm.trans (Eq.symm (aC h153 O)))))))))))
     have ph153:=of_decide_eq_false h153;refine go_ ?_;obtain ⟨r154,hr154⟩:=nm ((gK (bQ (aJ (((aG p c).2).y)) x1.y)):W);refine sC (.int .i64 r154.1) aE (qH (bQ (aJ (((aG p c).2).y)) x1.y)) O O (by rw [hr154];first|done|rfl) (go3 ?_);refine aN _ O (fun h155=>?_) (fun h155=>?_)
     ·have ph155:=of_decide_eq_true h155;refine go4 ?_;refine rt1 ?_;exact (by obtain rfl:=hr154.symm;obtain rfl:=hr152.symm;exact congrArg vS1 (show _=(bK p c) from aH h6 (trs (Eq.symm (smS hCu26)) (aC h102 (aC h103 (aH h104 (aH h105 (wQ O (hT1.symm.trans (Eq.symm (aH h153 (aC h155 O))))))))))))
     have ph155:=of_decide_eq_false h155;refine go3 ?_;refine sBB O (fun h156=>?_) (fun h156=>?_)
     ·refine go6 ?_;refine sBB O (fun h157=>?_) (fun h157=>?_)
      ·refine go9 ?_;refine sV (.int .i64 ((i1+1:Nat):Int)) O (congrArg (Value.int .i64) (nxt g139.2.1 hmx1)) (go2 ?_);refine ⟨pp_,_,_,(sd (sd (sd s0))),(Nat.lt_succ_self _),i1+1,l1,true,true,(by obtain rfl:=hr154.symm;obtain rfl:=hr152.symm;exact (hT1.symm.trans (Eq.symm (aH h153 (aH h155 (aC h156 (aC h157 O)))))).symm),g139.2.2,rfl,rfl,⟨rfl,rfl⟩,rfl⟩
      refine go2 ?_;obtain ⟨r158,hr158⟩:=nm ((cH (bQ (aJ (((aG p c).2).y)) x1.y) (aJ (wl 1))):W);refine sC (.int .i64 r158.1) aE (iV (bQ (aJ (((aG p c).2).y)) x1.y) (aJ (wl 1))) O O (by rw [hr158];first|done|rfl) ?_;refine go6 ?_;refine sV (.int .i64 ((i1+1:Nat):Int)) O (congrArg (Value.int .i64) (nxt g139.2.1 hmx1)) (go2 ?_);refine ⟨pp_,_,_,(sd (sd (sd s0))),(Nat.lt_succ_self _),i1+1,l1,true,(decide (r158.1<0)),(by obtain rfl:=hr158.symm;obtain rfl:=hr154.symm;obtain rfl:=hr152.symm;exact (hT1.symm.trans (Eq.symm (aH h153 (aH h155 (aC h156 (aH h157 O)))))).symm),g139.2.2,rfl,rfl,⟨rfl,rfl⟩,rfl⟩
     refine go2 ?_;obtain ⟨r159,hr159⟩:=nm ((cH (bQ x1.y (aJ (((aG p c).1).y))) (aJ (wl 1))):W);refine sC (.int .i64 r159.1) aE (iV (bQ x1.y (aJ (((aG p c).1).y))) (aJ (wl 1))) O O (by rw [hr159];first|done|rfl) ?_;refine go3 ?_;refine sBB O (fun h160=>?_) (fun h160=>?_)
     ·refine go9 ?_;refine sV (.int .i64 ((i1+1:Nat):Int)) O (congrArg (Value.int .i64) (nxt g139.2.1 hmx1)) (go2 ?_);refine ⟨pp_,_,_,(sd (sd (sd s0))),(Nat.lt_succ_self _),i1+1,l1,(decide (r159.1<0)),true,(by obtain rfl:=hr159.symm;obtain rfl:=hr154.symm;obtain rfl:=hr152.symm;exact (hT1.symm.trans (Eq.symm (aH h153 (aH h155 (aH h156 (aC h160 O)))))).symm),g139.2.2,rfl,rfl,⟨rfl,rfl⟩,rfl⟩
     refine go2 ?_;obtain ⟨r161,hr161⟩:=nm ((cH (bQ (aJ (((aG p c).2).y)) x1.y) (aJ (wl 1))):W);refine sC (.int .i64 r161.1) aE (iV (bQ (aJ (((aG p c).2).y)) x1.y) (aJ (wl 1))) O O (by rw [hr161];first|done|rfl) ?_;refine go6 ?_;refine sV (.int .i64 ((i1+1:Nat):Int)) O (congrArg (Value.int .i64) (nxt g139.2.1 hmx1)) (go2 ?_);refine ⟨pp_,_,_,(sd (sd (sd s0))),(Nat.lt_succ_self _),i1+1,l1,(decide (r159.1<0)),(decide (r161.1<0)),(by obtain rfl:=hr161.symm;obtain rfl:=hr159.symm;obtain rfl:=hr154.symm;obtain rfl:=hr152.symm;exact (hT1.symm.trans (Eq.symm (aH h153 (aH h155 (aH h156 (aH h160 O)))))).symm),g139.2.2,rfl,rfl,⟨rfl,rfl⟩,rfl⟩
   rintro g M ⟨low_1,high_1,hCu111,⟨hg11,hg12⟩,rfl⟩;refine gS2 hg11 hg12 ?_;clear hg11 hg12;refine gds s0 [0,4,8,12,16,20,24,28,32,36,40,44,48,52,56,60,64,68,72,76,80,84,88,92] [] mix (by kernel_rfl) (go2 ?_);rcases bt low_1 with h162|h162
   ·refine pB (fZ h162) O (go3 ?_);rcases bt high_1 with h163|h163
    ·refine pB (fZ h163) O (go8 ?_);refine pBB O (fun h164=>?_) (fun h164=>?_)
     ·have ph164:=of_decide_eq_true h164;refine BN ?_;refine rt1 ?_;exact congrArg vS1 (show _=(bK p c) from aH h6 (trs (Eq.symm (smS hCu26)) (aC h102 (aC h103 (aH h104 (aH h105 (trs (Eq.symm (smS hCu111)) (aC h162 (aC h163 (aC h164 O))))))))))
     have ph164:=of_decide_eq_false h164;refine go9 ?_;refine aN _ O (fun h165=>?_) (fun h165=>?_)
     ·have ph165:=of_decide_eq_true h165;refine go4 ?_;refine rt1 ?_;exact congrArg vS1 (show _=(bK p c) from aH h6 (trs (Eq.symm (smS hCu26)) (aC h102 (aC h103 (aH h104 (aH h105 (trs (Eq.symm (smS hCu111)) (aC h162 (aC h163 (aH h164 (aC h165 O)))))))))))
     have ph165:=of_decide_eq_false h165;refine go2 ?_;refine sV (.int .i64 2) O O (go4 ?_);refine sV (.bool true) O O (Q4 ?_);refine bI O (cG (E:=42) (e:=yO) (l:=(aA p c)) (fun v=>v) aE O (fun w hw=>tL p _ _ c w (aR hw Hc sn) (by first|omega|(have hfw:=KP eL;omega)|(have hfw:=OP eL;omega))) (fun p166 c167 L168 hF169=>?_));have hb170:=(lH p c);refine sQ (aS (v':=.int .i64 ((aA p c).length:Int)) (eK (e:=yO) F8 O (rO hF169 lZ)) O) O (go2 ?_);refine gJ3 (rg [4,11,12,14,15,16] 47 43) (fun g M=>∃ (low_2:Bool) (high_2:Bool),(cW p c low_0 high_0 low_1 high_1 (aA p c) false false) = .inl (low_2,high_2)∧(g 11 = .bool low_2∧g 12 = .bool high_2)∧M=(L168++(L108++(L23++(⟨b20,35,aU [pI ((aJ (wl 1)).n),pI ((aJ (wl 1)).d)]⟩::(⟨b13,23,aU [cw ((((aP (aW p) c).2).x).1),cw ((((aP (aW p) c).2).y).1),cw ((((aP (aW p) c).2).z).1)]⟩::(⟨b14,23,aU [cw ((((aP (aW p) c).1).x).1),cw ((((aP (aW p) c).1).y).1),cw ((((aP (aW p) c).1).z).1)]⟩::(⟨b8,23,aU [cw ((((aG p c).2).x).1),cw ((((aG p c).2).y).1),cw ((((aG p c).2).z).1)]⟩::(⟨b7,23,aU [cw ((((aG p c).1).x).1),cw ((((aG p c).1).y).1),cw ((((aG p c).1).z).1)]⟩::(⟨b2,52,aU [csl p_c c.length c_c]⟩::(⟨b1,27,aU [cw p.x.x.1,cw p.x.y.1,cw p.x.z.1,cw p.q.x.1,cw p.q.y.1,cw p.q.z.1,cw p.q.t.1]⟩::[]))))))))))) (fun K_u171 hK_u171=>?_) ?_
     ·refine go_ ?_;have hmx2:(aA p c).length≤9223372036854775807:=(OwnG.max hF169);refine cI (rg [4,11,12,14,15,16] 47 43) (fun g nn M=>∃ (i2:Nat) (l2:List (A3 Rt)) (low_2:Bool) (high_2:Bool),(cW p c low_0 high_0 low_1 high_1 l2 low_2 high_2)=(cW p c low_0 high_0 low_1 high_1 (aA p c) false false)∧(aA p c).drop i2=l2∧l2.length=nn∧g 47 = .int .i64 (i2:Int)∧(g 11 = .bool low_2∧g 12 = .bool high_2)∧M=(L168++(L108++(L23++(⟨b20,35,aU [pI ((aJ (wl 1)).n),pI ((aJ (wl 1)).d)]⟩::(⟨b13,23,aU [cw ((((aP (aW p) c).2).x).1),cw ((((aP (aW p) c).2).y).1),cw ((((aP (aW p) c).2).z).1)]⟩::(⟨b14,23,aU [cw ((((aP (aW p) c).1).x).1),cw ((((aP (aW p) c).1).y).1),cw ((((aP (aW p) c).1).z).1)]⟩::(⟨b8,23,aU [cw ((((aG p c).2).x).1),cw ((((aG p c).2).y).1),cw ((((aG p c).2).z).1)]⟩::(⟨b7,23,aU [cw ((((aG p c).1).x).1),cw ((((aG p c).1).y).1),cw ((((aG p c).1).z).1)]⟩::(⟨b2,52,aU [csl p_c c.length c_c]⟩::(⟨b1,27,aU [cw p.x.x.1,cw p.x.y.1,cw p.x.z.1,cw p.q.x.1,cw p.q.y.1,cw p.q.z.1,cw p.q.t.1]⟩::[]))))))))))) (aA p c).length ?start ?round
      case start=>exact ⟨_,s0,0,(aA p c),false,false,rfl,rfl,rfl,rfl,⟨rfl,rfl⟩,rfl⟩
      case round =>
       rintro nn g M ⟨i2,l2,low_2,high_2,hT2,hr2,rfl,hgi,⟨hg11,hg12⟩,rfl⟩;refine gS3 hgi hg11 hg12 ?_;clear hgi hg11 hg12;refine go4 ?_;rcases l2 with _|⟨x2,l2⟩
       ·have h197:=yD hr2;refine W_f h197 O (go_ ?_);refine hK_u171 _ _ pp_ ⟨_,s0,low_2,high_2,(by exact hT2.symm.trans (Eq.symm rfl)),⟨rfl,rfl⟩,rfl⟩
       have h198:=wH hr2;have g199:=sK hr2;refine W_t h198 O (go4 ?_);refine sQ (aS (v':=.pointer (some (slb (.slice p166 (aA p c).length c167) (i2*108+0)))) (eY (e:=yO) (l:=(aA p c)) (k:=i2) F8 O O (rO hF169 lZ) g199.2.1) O) O (sQ (iS (e:=yO) (l:=(aA p c)) (k:=i2) (o:=0) tyT O (rO hF169 lZ) g199.1 O) O (go_ ?_));intro b200 hb200;refine go2 ?_;refine pH (rg [15,16] 51 16) (fun g M=>∃ (b205:Nat) (b206:Nat),(g 15 = .pointer (some ⟨b206,0,none⟩)∧g 16 = .pointer (some ⟨b205,0,none⟩))∧(w0.heap.size≤b205∧w0.heap.size≤b206)∧M.Perm (⟨b205,35,aU [pI ((bQ (aJ (((aG p c).2).z)) x2.z).n),pI ((bQ (aJ (((aG p c).2).z)) x2.z).d)]⟩::(⟨b206,35,aU [pI ((bQ x2.z (aJ (((aG p c).1).z))).n),pI ((bQ x2.z (aJ (((aG p c).1).z))).d)]⟩::(⟨b200,42,aU [pI x2.x.n,pI x2.x.d,pI x2.y.n,pI x2.y.d,pI x2.z.n,pI x2.z.d]⟩::(L168++(L108++(L23++(⟨b20,35,aU [pI ((aJ (wl 1)).n),pI ((aJ (wl 1)).d)]⟩::(⟨b13,23,aU [cw ((((aP (aW p) c).2).x).1),cw ((((aP (aW p) c).2).y).1),cw ((((aP (aW p) c).2).z).1)]⟩::(⟨b14,23,aU [cw ((((aP (aW p) c).1).x).1),cw ((((aP (aW p) c).1).y).1),cw ((((aP (aW p) c).1).z).1)]⟩::(⟨b8,23,aU [cw ((((aG p c).2).x).1),cw ((((aG p c).2).y).1),cw ((((aG p c).2).z).1)]⟩::(⟨b7,23,aU [cw ((((aG p c).1).x).1),cw ((((aG p c).1).y).1),cw ((((aG p c).1).z).1)]⟩::(⟨b2,52,aU [csl p_c c.length c_c]⟩::(⟨b1,27,aU [cw p.x.x.1,cw p.x.y.1,cw p.x.z.1,cw p.q.x.1,cw p.q.y.1,cw p.q.z.1,cw p.q.t.1]⟩::[])))))))))))))) (fun K43 J43=>?_) ?_
       ·refine gDk s0 (.quiet 0 [1,2,7,11,15,18,19] (.quiet 1 [2,7,11,15,18,19] (.quiet 2 [7,11,15,18,19] (.quiet 3 [4,5,6,7,11,15,18,19] (.quiet 4 [5,6,7,11,15,18,19] (.quiet 5 [6,7,11,15,18,19] (.quiet 6 [7,11,15,18,19] (.quiet 7 [11,15,18,19] (.quiet 8 [9,10,11,15,18,19] (.quiet 9 [10,11,15,18,19] (.quiet 10 [11,15,18,19] (.quiet 11 [15,18,19] (.quiet 12 [13,14,15,18,19] (.quiet 13 [14,15,18,19] (.quiet 14 [15,18,19] (.quiet 15 [18,19] (.both 16 (.only 17 (.only 18 (.only 19 (.fin)))) 17 (.only 16 (.only 18 (.only 19 (.fin))))))))))))))))))))) [0,1,2,3,4,5,6,7,8,9,10,11,12,13,14,15,16,17] mix (by kernel_rfl) (by kernel_rfl) (go6 ?_);refine pQ O (aX aE (bV (((aG p c).1).z)) O) (pQ O (aX aE (nD x2.z (aJ (((aG p c).1).z))) O) (go3 ?_));refine pQ O (aX aE (bV (((aG p c).2).z)) O) (go3 ?_);refine pQ O (aX aE (nD (aJ (((aG p c).2).z)) x2.z) O) ?_;refine AF ?_ ?_
        ·refine dF O O (eQ zpT (fun b207 hb207=>⟨(fun _=>sd s0),(sd s0),?_⟩));refine dF O O (eQ zpT (fun b208 hb208=>⟨(fun _=>sd s0),(sd (sd s0)),?_⟩));refine go3 ?_;refine J43 _ _ pp_ ⟨_,List.Sublist.refl _,b208,b207,⟨rfl,rfl⟩,⟨hb208,hb207⟩,(List.Perm.refl _)⟩
        refine dF O O (eQ zpT (fun b209 hb209=>⟨(fun _=>sd s0),(sd s0),?_⟩));refine dF O O (eQ zpT (fun b210 hb210=>⟨(fun _=>sd s0),(sd (sd s0)),?_⟩));refine go3 ?_;refine J43 _ _ pp_ ⟨_,List.Sublist.refl _,b209,b210,⟨rfl,rfl⟩,⟨hb209,hb210⟩,(Frq.pc (vD UT) (List.Perm.refl _))⟩
       rintro g43 M ⟨b205,b206,⟨hg15,hg16⟩,⟨hb205,hb206⟩,hpm211⟩;refine HL hpm211 ?_;clear hpm211;refine gS2 hg15 hg16 ?_;clear hg15 hg16;refine go3 ?_;obtain ⟨r212,hr212⟩:=nm ((gK (bQ x2.z (aJ (((aG p c).1).z)))):W);refine sC (.int .i64 r212.1) aE (qH (bQ x2.z (aJ (((aG p c).1).z)))) O O (by rw [hr212];first|done|rfl) (go_ ?_);refine sBB O (fun h213=>?_) (fun h213=>?_)
       ·have ph213:=of_decide_eq_true h213;refine iK ?_;refine rt1 ?_;exact (by obtain rfl:=hr212.symm;exact congrArg vS1 (show _=(bK p c) from aH h6 (trs (Eq.symm (smS hCu26)) (aC h102 (aC h103 (aH h104 (aH h105 (trs (Eq.symm (smS hCu111)) (aC h162 (aC h163 (aH h164 (aH h165 (wQ O (hT2.symm.trans (Eq.symm (aC h213 O))))))))))))))))
       have ph213:=of_decide_eq_false h213;refine go_ ?_;obtain ⟨r214,hr214⟩:=nm ((gK (bQ (aJ (((aG p c).2).z)) x2.z)):W);refine sC (.int .i64 r214.1) aE (qH (bQ (aJ (((aG p c).2).z)) x2.z)) O O (by rw [hr214];first|done|rfl) (go3 ?_);refine aN _ O (fun h215=>?_) (fun h215=>?_)
       ·have ph215:=of_decide_eq_true h215;refine go4 ?_;refine rt1 ?_;exact (by obtain rfl:=hr214.symm;obtain rfl:=hr212.symm;exact congrArg vS1 (show _=(bK p c) from aH h6 (trs (Eq.symm (smS hCu26)) (aC h102 (aC h103 (aH h104 (aH h105 (trs (Eq.symm (smS hCu111)) (aC h162 (aC h163 (aH h164 (aH h165 (wQ O (hT2.symm.trans (Eq.symm (aH h213 (aC h215 O)))))))))))))))))
       have ph215:=of_decide_eq_false h215;refine go3 ?_;refine sBB O (fun h216=>?_) (fun h216=>?_)
       ·refine go6 ?_;refine sBB O (fun h217=>?_) (fun h217=>?_)
        ·refine go9 ?_;refine sV (.int .i64 ((i2+1:Nat):Int)) O (congrArg (Value.int .i64) (nxt g199.2.1 hmx2)) (go2 ?_);refine ⟨pp_,_,_,(sd (sd (sd s0))),(Nat.lt_succ_self _),i2+1,l2,true,true,(by obtain rfl:=hr214.symm;obtain rfl:=hr212.symm;exact (hT2.symm.trans (Eq.symm (aH h213 (aH h215 (aC h216 (aC h217 O)))))).symm),g199.2.2,rfl,rfl,⟨rfl,rfl⟩,rfl⟩
        refine go2 ?_;obtain ⟨r218,hr218⟩:=nm ((cH (bQ (aJ (((aG p c).2).z)) x2.z) (aJ (wl 1))):W);refine sC (.int .i64 r218.1) aE (iV (bQ (aJ (((aG p c).2).z)) x2.z) (aJ (wl 1))) O O (by rw [hr218];first|done|rfl) ?_;refine go6 ?_;refine sV (.int .i64 ((i2+1:Nat):Int)) O (congrArg (Value.int .i64) (nxt g199.2.1 hmx2)) (go2 ?_);refine ⟨pp_,_,_,(sd (sd (sd s0))),(Nat.lt_succ_self _),i2+1,l2,true,(decide (r218.1<0)),(by obtain rfl:=hr218.symm;obtain rfl:=hr214.symm;obtain rfl:=hr212.symm;exact (hT2.symm.trans (Eq.symm (aH h213 (aH h215 (aC h216 (aH h217 O)))))).symm),g199.2.2,rfl,rfl,⟨rfl,rfl⟩,rfl⟩
       refine go2 ?_;obtain ⟨r219,hr219⟩:=nm ((cH (bQ x2.z (aJ (((aG p c).1).z))) (aJ (wl 1))):W);refine sC (.int .i64 r219.1) aE (iV (bQ x2.z (aJ (((aG p c).1).z))) (aJ (wl 1))) O O (by rw [hr219];first|done|rfl) ?_;refine go3 ?_;refine sBB O (fun h220=>?_) (fun h220=>?_)
       ·refine go9 ?_;refine sV (.int .i64 ((i2+1:Nat):Int)) O (congrArg (Value.int .i64) (nxt g199.2.1 hmx2)) (go2 ?_);refine ⟨pp_,_,_,(sd (sd (sd s0))),(Nat.lt_succ_self _),i2+1,l2,(decide (r219.1<0)),true,(by obtain rfl:=hr219.symm;obtain rfl:=hr214.symm;obtain rfl:=hr212.symm;exact (hT2.symm.trans (Eq.symm (aH h213 (aH h215 (aH h216 (aC h220 O)))))).symm),g199.2.2,rfl,rfl,⟨rfl,rfl⟩,rfl⟩
       refine go2 ?_;obtain ⟨r221,hr221⟩:=nm ((cH (bQ (aJ (((aG p c).2).z)) x2.z) (aJ (wl 1))):W);refine sC (.int .i64 r221.1) aE (iV (bQ (aJ (((aG p c).2).z)) x2.z) (aJ (wl 1))) O O (by rw [hr221];first|done|rfl) ?_;refine go6 ?_;refine sV (.int .i64 ((i2+1:Nat):Int)) O (congrArg (Value.int .i64) (nxt g199.2.1 hmx2)) (go2 ?_);refine ⟨pp_,_,_,(sd (sd (sd s0))),(Nat.lt_succ_self _),i2+1,l2,(decide (r219.1<0)),(decide (r221.1<0)),(by obtain rfl:=hr221.symm;obtain rfl:=hr219.symm;obtain rfl:=hr214.symm;obtain rfl:=hr212.symm;exact (hT2.symm.trans (Eq.symm (aH h213 (aH h215 (aH h216 (aH h220 O)))))).symm),g199.2.2,rfl,rfl,⟨rfl,rfl⟩,rfl⟩
     rintro g M ⟨low_2,high_2,hCu171,⟨hg11,hg12⟩,rfl⟩;refine gS2 hg11 hg12 ?_;clear hg11 hg12;refine oA (sA (sR (sR s0))) ?_;refine gds s0 [0,4,8,12,16,20,24,28,32,36,40,44,48,52,56,60,64,68,72,76,80,84,88,92] [] mix (by kernel_rfl) (go2 ?_);rcases bt low_2 with h222|h222
     ·refine pB (fZ h222) O (go3 ?_);rcases bt high_2 with h223|h223
      ·refine pB (fZ h223) O (go8 ?_);refine pBB O (fun h224=>?_) (fun h224=>?_)
       ·have ph224:=of_decide_eq_true h224;refine BN ?_;refine rt1 ?_;exact congrArg vS1 (show _=(bK p c) from aH h6 (trs (Eq.symm (smS hCu26)) (aC h102 (aC h103 (aH h104 (aH h105 (trs (Eq.symm (smS hCu111)) (aC h162 (aC h163 (aH h164 (aH h165 (trs (Eq.symm (smS hCu171)) (aC h222 (aC h223 (aC h224 O)))))))))))))))
       have ph224:=of_decide_eq_false h224;refine go9 ?_;refine aN _ O (fun h225=>?_) (fun h225=>?_)
       ·have ph225:=of_decide_eq_true h225;refine go4 ?_;refine rt1 ?_;exact congrArg vS1 (show _=(bK p c) from aH h6 (trs (Eq.symm (smS hCu26)) (aC h102 (aC h103 (aH h104 (aH h105 (trs (Eq.symm (smS hCu111)) (aC h162 (aC h163 (aH h164 (aH h165 (trs (Eq.symm (smS hCu171)) (aC h222 (aC h223 (aH h224 (aC h225 O))))))))))))))))
       have ph225:=of_decide_eq_false h225;refine go2 ?_;refine sV (.int .i64 3) O O (go4 ?_);refine sV (.bool false) O O (go4 ?_);refine oA (sR (sd (sd (sd (sd (sd (sd (sd s0)))))))) ?_;refine go_ ?_;refine sQ (aX aE nE  rfl) O (go3 ?_);refine rt1 ?_;exact congrArg vS1 (show _=(bK p c) from aH h6 (trs (Eq.symm (smS hCu26)) (aC h102 (aC h103 (aH h104 (aH h105 (trs (Eq.symm (smS hCu111)) (aC h162 (aC h163 (aH h164 (aH h165 (trs (Eq.symm (smS hCu171)) (aC h222 (aC h223 (aH h224 (aH h225 O))))))))))))))))
      refine pB (gA h223) O (XV ?_);refine rt1 ?_;exact congrArg vS1 (show _=(bK p c) from aH h6 (trs (Eq.symm (smS hCu26)) (aC h102 (aC h103 (aH h104 (aH h105 (trs (Eq.symm (smS hCu111)) (aC h162 (aC h163 (aH h164 (aH h165 (trs (Eq.symm (smS hCu171)) (aC h222 (aH h223 O))))))))))))))
     refine pB (gA h222) O (UX ?_);refine rt1 ?_;exact congrArg vS1 (show _=(bK p c) from aH h6 (trs (Eq.symm (smS hCu26)) (aC h102 (aC h103 (aH h104 (aH h105 (trs (Eq.symm (smS hCu111)) (aC h162 (aC h163 (aH h164 (aH h165 (trs (Eq.symm (smS hCu171)) (aH h222 O)))))))))))))
    refine pB (gA h163) O (XV ?_);refine rt1 ?_;exact congrArg vS1 (show _=(bK p c) from aH h6 (trs (Eq.symm (smS hCu26)) (aC h102 (aC h103 (aH h104 (aH h105 (trs (Eq.symm (smS hCu111)) (aC h162 (aH h163 O)))))))))
   refine pB (gA h162) O (UX ?_);refine rt1 ?_;exact congrArg vS1 (show _=(bK p c) from aH h6 (trs (Eq.symm (smS hCu26)) (aC h102 (aC h103 (aH h104 (aH h105 (trs (Eq.symm (smS hCu111)) (aH h162 O))))))))
  refine pB (gA h103) O (XV ?_);refine rt1 ?_;exact congrArg vS1 (show _=(bK p c) from aH h6 (trs (Eq.symm (smS hCu26)) (aC h102 (aH h103 O))))
 refine pB (gA h102) O (UX ?_);refine rt1 ?_;exact congrArg vS1 (show _=(bK p c) from aH h6 (trs (Eq.symm (smS hCu26)) (aH h102 O)))
end Go.Proofs.YtbjlhfochebmiaaGreatDoor
namespace Go.Num
open Go Go.Kn
theorem UR (q:Rat):q.floor=q.num / (q.den:Int):=by
 unfold Rat.floor
 split
 ·rename_i h;rw [h];exact (Int.ediv_one _).symm
 rfl
theorem XS {a:Rt} {q:Rat} (h:a.At q):bD a=E (Z.of q.floor):=by
 have i:=At.is h;unfold bD;rw [sH,wT h,cond_true,i.en,i.ed,dQ,dQ,AO i.hn i.hd (@uT q),UR]
theorem HX {a:Rt} {q:Rat} (h:a.At q) (b:-4611686018427387904≤q.floor∧q.floor≤4611686018427387904):(Z.smallW (bD a).dec).1=q.floor:=by
 rw [XS h,dQ,CO oo_ oo_]
theorem MF {a:Rt} {q:Rat} (h:a.At q) (b:-4611686018427387904≤(-q).floor∧(-q).floor≤4611686018427387904):(Z.smallW (aZ a).dec).1 = -(-q).floor:=by
 have hn:(k5 a).At (-q):=by rw [WF];exact QL h
 unfold aZ;rw [XS hn,dQ,dQ]
 have e:Z.neg (Z.of (-q).floor)=Z.of (-(-q).floor):=by rw [Z.neg,jL (Z.of_some (sB oo_))]
 rw [e,CO oo_ oo_]
theorem SV (q:Rat):((q.floor:Int):Rat)≤q:=Rat.floor_le q
theorem XR (q:Rat):q<((q.floor:Int):Rat)+1:=by
 have:=Rat.lt_floor_add_one q;rw [Rat.intCast_add] at this;exact this
theorem bV_ {n:Int} {q:Rat} (h:(n:Rat)≤q):n≤q.floor:=by
 have h1:=XR q
 have h2:(n:Rat)<((q.floor+1:Int):Rat):=by
  rw [Rat.intCast_add];have:((1:Int):Rat)=1:=rfl
  grind
 have:=Rat.intCast_lt_intCast.1 h2;omega
structure TI (lo hi:W) (x:Nat→Rat) (k:Nat):Prop where
 l:∀ j,j<k→lo.1≤(x j).floor
 le:0<k→∃ j,j<k∧lo.1=(x j).floor
 h:∀ j,j<k→-(-(x j)).floor≤hi.1
 he:0<k→∃ j,j<k∧hi.1 = -(-(x j)).floor
theorem TI.step {lo hi F C:W} {x:Nat→Rat} {k:Nat} (t:TI lo hi x k) (hF:F.1=(x k).floor) (hC:C.1 = -(-(x k)).floor):TI (W.min (bif ((k:Int)==0) then F else lo) F) (W.max (bif ((k:Int)==0) then C else hi) C) x (k+1):=by
 by_cases h0:k=0
 ·subst h0
  rw [show (((0:Nat):Int)==0)=true from rfl,cond_true,cond_true]
  have e1:(W.min F F).1=(x 0).floor:=by rw [ac_,hF];omega
  have e2:(W.max C C).1 = -(-(x 0)).floor:=by rw [UC,hC];omega
  have z:∀ j,j<0+1→j=0:=fun j hj=>by omega
  exact ⟨fun j hj=>by rw [z j hj,e1];omega,fun _=>⟨0,by omega,e1⟩,fun j hj=>by rw [z j hj,e2];omega,fun _=>⟨0,by omega,e2⟩⟩
 rw [show ((k:Int)==0)=false by simp;omega,cond_false,cond_false];have e1:=ac_ lo F;have e2:=UC hi C;refine ⟨fun j hj=>?_,fun _=>?_,fun j hj=>?_,fun _=>?_⟩
 ·by_cases e:j=k
  ·subst e;omega
  have:=t.l j oo_;omega
 ·by_cases hl:lo.1≤F.1
  ·obtain ⟨j,j1,j2⟩:=t.le oo_
   exact ⟨j,by omega,by omega⟩
  exact ⟨k,by omega,by omega⟩
 ·by_cases e:j=k
  ·subst e;omega
  have:=t.h j oo_;omega
 by_cases hl:C.1≤hi.1
 ·obtain ⟨j,j1,j2⟩:=t.he oo_
  exact ⟨j,by omega,by omega⟩
 exact ⟨k,by omega,by omega⟩
def axX (p:Pose) (v:A3 W):Rat:=(p.x.x.1:Rat)+rqx p.q.x.1 p.q.y.1 p.q.z.1 p.q.t.1 v.x.1 v.y.1 v.z.1 / rqn p.q.x.1 p.q.y.1 p.q.z.1 p.q.t.1
def axY (p:Pose) (v:A3 W):Rat:=(p.x.y.1:Rat)+rqy p.q.x.1 p.q.y.1 p.q.z.1 p.q.t.1 v.x.1 v.y.1 v.z.1 / rqn p.q.x.1 p.q.y.1 p.q.z.1 p.q.t.1
def axZ (p:Pose) (v:A3 W):Rat:=(p.x.z.1:Rat)+rqz p.q.x.1 p.q.y.1 p.q.z.1 p.q.t.1 v.x.1 v.y.1 v.z.1 / rqn p.q.x.1 p.q.y.1 p.q.z.1 p.q.t.1
structure Ax (a:Rt) (q:Rat) (o r:Int):Prop where
 a:a.At q
 s:Sz q 70
 lo:((o - r:Int):Rat)≤q
 hi:q≤((o+r:Int):Rat)
theorem Ax.fl {a:Rt} {q:Rat} {o r:Int} (h:Ax a q o r):o - r≤q.floor∧q.floor≤o+r:=by
 refine ⟨bV_ h.lo,?_⟩;exact Rat.intCast_le_intCast.1 (Rat.le_trans (SV q) h.hi)
theorem Ax.cl {a:Rt} {q:Rat} {o r:Int} (h:Ax a q o r):o - r ≤ -(-q).floor∧-(-q).floor≤o+r:=by
 have h1:((-(o+r):Int):Rat) ≤ -q:=by rw [Rat.intCast_neg];have:=h.hi;grind
 have h2:=bV_ h1;have h3:=Rat.le_trans (SV (-q)) (show -q≤((-(o - r):Int):Rat) by rw [Rat.intCast_neg];have:=h.lo;grind);have:=Rat.intCast_le_intCast.1 h3;omega
section
variable {p:Pose} {c:List (A3 W)}
theorem RR {k:Nat} (hk:k<c.length):(aA p c).getD k V0=fA p (c.getD k A30):=by
 rw [xL,List.getD_eq_getElem?_getD,List.getD_eq_getElem?_getD,List.getElem?_map,List.getElem?_eq_getElem hk];rfl
def Pok (p:Pose):Prop:=(p.q.i.Lw 65∧¬ p.q.i.zero)∧(p.x.x.1.natAbs<2 ^ 47∧p.x.y.1.natAbs<2 ^ 47∧p.x.z.1.natAbs<2 ^ 47)
theorem b5_ (hp:Pok p) {v:A3 W} (hv:Vin v) {r:Int} (r0:0≤r) (hr:JY v≤r*r):Ax (fA p v).x (axX p v) p.x.x.1 r∧Ax (fA p v).y (axY p v) p.x.y.1 r∧Ax (fA p v).z (axZ p v) p.x.z.1 r:=by
 have V:=N6 hp.1 hp.2 hv;obtain ⟨⟨x,x1,x2,x3⟩,⟨y,y1,y2,y3⟩,z,z1,z2,z3⟩:=cL_ hp.1 hp.2 hv r0 hr;obtain rfl:=HH x1 V.hx;obtain rfl:=HH y1 V.hy;obtain rfl:=HH z1 V.hz;exact ⟨⟨V.hx,V.sx.sz dd_ dd_,x2,x3⟩,⟨V.hy,V.sy.sz dd_ dd_,y2,y3⟩,⟨V.hz,V.sz.sz dd_ dd_,z2,z3⟩⟩
variable {r:Int}
theorem JE (hp:Pok p) (r0:0≤r∧r≤524288) (hc:∀ k,k<c.length→Vin (c.getD k A30)∧JY (c.getD k A30)≤r*r):∀ (f k:Nat) (hi lo:A3 W),c.length - k<f→k≤c.length →
  TI lo.x hi.x (fun j=>axX p (c.getD j A30)) k→TI lo.y hi.y (fun j=>axY p (c.getD j A30)) k→TI lo.z hi.z (fun j=>axZ p (c.getD j A30)) k →
  ∃ k' hi' lo',lJ p c f k hi lo=(k',hi',lo')∧TI lo'.x hi'.x (fun j=>axX p (c.getD j A30)) c.length∧TI lo'.y hi'.y (fun j=>axY p (c.getD j A30)) c.length∧TI lo'.z hi'.z (fun j=>axZ p (c.getD j A30)) c.length
 | 0,k,hi,lo,hf,_,_,_,_=>absurd hf (Nat.not_lt_zero _)
 | f+1,k,hi,lo,hf,hk,tx,ty,tz=>by
  unfold lJ;rw [lH]
  by_cases h:k<c.length
  ·rw [decide_eq_true oo_,cond_true,RR h]
   obtain ⟨hv,hr⟩:=hc k h;obtain ⟨ax,ay,az⟩:=b5_ hp hv r0.1 hr;obtain ⟨b1,b2,b3⟩:=hp.2
   have bx:=ax.fl;have by':=ay.fl;have bz:=az.fl
   have cx:=ax.cl;have cy:=ay.cl;have cz:=az.cl;have fx:=HX ax.a oo_;have fy:=HX ay.a oo_;have fz:=HX az.a oo_;have gx:=MF ax.a oo_;have gy:=MF ay.a oo_;have gz:=MF az.a oo_
   dsimp only
   exact JE hp r0 hc f (k+1) _ _ oo_ h (tx.step fx gx) (ty.step fy gy) (tz.step fz gz)
  rw [decide_eq_false oo_,cond_false]
  have:k=c.length:=by omega
  subst this;exact ⟨_,_,_,rfl,tx,ty,tz⟩
theorem V1 (hp:Pok p) (r0:0≤r∧r≤524288) (hc:∀ k,k<c.length→Vin (c.getD k A30)∧JY (c.getD k A30)≤r*r) :
  TI (aG p c).1.x (aG p c).2.x (fun j=>axX p (c.getD j A30)) c.length∧TI (aG p c).1.y (aG p c).2.y (fun j=>axY p (c.getD j A30)) c.length∧TI (aG p c).1.z (aG p c).2.z (fun j=>axZ p (c.getD j A30)) c.length:=by
 have z:∀ x:Nat→Rat,TI (wl 0) (wl 0) x 0:=fun x=>⟨fun j hj=>by omega,fun h=>by omega,fun j hj=>by omega,fun h=>by omega⟩;obtain ⟨k',hi,lo,e,tx,ty,tz⟩:=JE hp r0 hc (c.length+1) 0 ⟨wl 0,wl 0,wl 0⟩ ⟨wl 0,wl 0,wl 0⟩ oo_ (Nat.zero_le _) (z _) (z _) (z _);unfold aG;rw [lH,e];exact ⟨tx,ty,tz⟩
end
def tl (lo hi:W):List Rt→Bool→Bool→(Bool×Bool) ⊕ Bool
 | [],a,b=>.inl (a,b)
 | x::l,a,b=>bif decide ((gK (bQ x (aJ lo))).1<0) then .inr false else bif decide ((gK (bQ (aJ hi) x)).1<0) then .inr false else
  tl lo hi l (a||decide ((cH (bQ x (aJ lo)) (aJ (wl 1))).1<0)) (b||decide ((cH (bQ (aJ hi) x) (aJ (wl 1))).1<0))
theorem e2_ (p:Pose) (c:List (A3 W)):∀ (l:List (A3 Rt)) (a b:Bool),cU p c l a b=tl (aG p c).1.x (aG p c).2.x (l.map A3.x) a b
 | [],a,b=>rfl
 | x::l,a,b=>by
  unfold cU;rw [List.map_cons,tl]
  dsimp only
  cases a<;>cases b<;>simp only [cond_true,cond_false,Bool.true_or,Bool.false_or,e2_ p c l]
theorem e3_ (p:Pose) (c:List (A3 W)) (a0 b0:Bool):∀ (l:List (A3 Rt)) (a b:Bool),cV p c a0 b0 l a b=tl (aG p c).1.y (aG p c).2.y (l.map A3.y) a b
 | [],a,b=>rfl
 | x::l,a,b=>by
  unfold cV;rw [List.map_cons,tl]
  dsimp only
  cases a<;>cases b<;>simp only [cond_true,cond_false,Bool.true_or,Bool.false_or,e3_ p c a0 b0 l]
theorem e4_ (p:Pose) (c:List (A3 W)) (a0 b0 a1 b1:Bool):∀ (l:List (A3 Rt)) (a b:Bool),cW p c a0 b0 a1 b1 l a b=tl (aG p c).1.z (aG p c).2.z (l.map A3.z) a b
 | [],a,b=>rfl
 | x::l,a,b=>by
  unfold cW;rw [List.map_cons,tl]
  dsimp only
  cases a<;>cases b<;>simp only [cond_true,cond_false,Bool.true_or,Bool.false_or,e4_ p c a0 b0 a1 b1 l]
theorem cc_ {x:Rt} {q:Rat} {w:W} (hx:x.At q) (s:Sz q 70) (hw:w.1.natAbs<2 ^ 50):(bQ x (aJ w)).At (q - (w.1:Rat))∧(bQ (aJ w) x).At ((w.1:Rat) - q):=by
 have h1:=FQ w;have h2:Sz (w.1:Rat) 50:=Sz.int hw dd_;rw [HJ,HJ,N1];exact ⟨WK hx h1 s h2 dd_,WK h1 hx h2 s dd_⟩
theorem ZH {x:Rt} {q:Rat} (h:x.At q) (h0:0≤q):decide ((gK x).1<0)=false:=by
 rw [ak_,L0 h];have:=Int.sign_nonneg_iff.2 (Rat.num_nonneg.2 h0);exact decide_eq_false oo_
theorem ZY {lo hi:W} (bl:lo.1.natAbs<2 ^ 50) (bh:hi.1.natAbs<2 ^ 50):∀ (l:List Rt) (a b:Bool),(∀ x∈l,∃ q,x.At q∧Sz q 70∧(lo.1:Rat)≤q∧q≤(hi.1:Rat)) →
  ∃ a' b',tl lo hi l a b = .inl (a',b')∧((a=true ∨ ∃ x∈l,∃ q,x.At q∧q - (lo.1:Rat)<1)→a'=true)∧((b=true ∨ ∃ x∈l,∃ q,x.At q∧(hi.1:Rat) - q<1)→b'=true)
 | [],a,b,_=>⟨a,b,rfl,fun h=>h.elim id fun ⟨x,hx,_⟩=>(by cases hx),fun h=>h.elim id fun ⟨x,hx,_⟩=>(by cases hx)⟩
 | x::l,a,b,hl=>by
  obtain ⟨q,hq,sq,q1,q2⟩:=hl x List.mem_cons_self;have s1:=(cc_ hq sq bl).1;have s2:=(cc_ hq sq bh).2
  have o1:(aJ (wl 1)).At 1:=by rw [N1];exact FQ (wl 1)
  rw [tl,ZH s1 (by grind),ZH s2 (by grind),cond_false,cond_false];obtain ⟨a',b',e,ha,hb⟩:=ZY bl bh l (a||decide ((cH (bQ x (aJ lo)) (aJ (wl 1))).1<0)) (b||decide ((cH (bQ (aJ hi) x) (aJ (wl 1))).1<0)) fun y hy=>hl y (List.mem_cons_of_mem _ hy);refine ⟨a',b',e,fun h=>ha ?_,fun h=>hb ?_⟩
  ·rcases h with h|⟨y,hy,t,ht,h1⟩
   ·left;rw [h];rfl
   rcases List.mem_cons.1 hy with rfl|hy
   ·left
    obtain rfl:=HH hq ht;rw [decide_eq_true ((WB s1 o1).2 h1),Bool.or_true]
   exact .inr ⟨y,hy,t,ht,h1⟩
  rcases h with h|⟨y,hy,t,ht,h1⟩
  ·left;rw [h];rfl
  rcases List.mem_cons.1 hy with rfl|hy
  ·left
   obtain rfl:=HH hq ht;rw [decide_eq_true ((WB s2 o1).2 h1),Bool.or_true]
  exact .inr ⟨y,hy,t,ht,h1⟩
theorem ZX {lo hi:W} {x:Nat→Rat} {n:Nat} (t:TI lo hi x n) (n0:0<n) {o r:Int} (ho:o.natAbs<2 ^ 47) (r0:0≤r∧r≤524288) {l:List Rt} (hl:l.length=n) (h:∀ k,(hk:k<n)→Ax (l.getD k Rt0) (x k) o r) :
  tl lo hi l false false = .inl (true,true)∧o - r≤lo.1∧hi.1≤o+r:=by
 obtain ⟨i,i1,i2⟩:=t.le n0;obtain ⟨j,j1,j2⟩:=t.he n0;have fi:=(h i i1).fl;have cj:=(h j j1).cl
 have mem:∀ y∈l,∃ k,k<n∧y=l.getD k Rt0:=fun y hy=>by
  obtain ⟨k,hk,e⟩:=List.getElem_of_mem hy;exact ⟨k,by omega,by rw [List.getD_eq_getElem?_getD,List.getElem?_eq_getElem hk,e];rfl⟩
 have inl:∀ k,k<n→l.getD k Rt0∈l:=fun k hk=>HZ oo_
 obtain ⟨a',b',e,ha,hb⟩:=ZY (lo:=lo) (hi:=hi) oo_ oo_ l false false fun y hy=>by
  obtain ⟨k,hk,rfl⟩:=mem y hy;have A:=h k hk;have l1:=Rat.intCast_le_intCast.2 (t.l k hk);have l2:=Rat.intCast_le_intCast.2 (t.h k hk);have f1:=SV (x k);have f2:=SV (-(x k));rw [Rat.intCast_neg] at l2;exact ⟨_,A.a,A.s,by grind,by grind⟩
 have a1:=ha (.inr ⟨_,inl i i1,_,(h i i1).a,by rw [i2];have:=XR (x i);grind⟩);have b1:=hb (.inr ⟨_,inl j j1,_,(h j j1).a,by rw [j2,Rat.intCast_neg];have:=XR (-(x j));grind⟩);rw [e,a1,b1];exact ⟨rfl,by omega,by omega⟩
attribute [local irreducible] fH
theorem WH (hs:fH=true) (p:Pose) (c:List (A3 W)):bK p c=true:=by
 unfold bK
 cases hc:(((cZ p).1 != 0)||(!(e8 c)))
 case true=>rw [cond_true];exact hs
 simp only [Bool.or_eq_false_iff,Bool.not_eq_false'] at hc;obtain ⟨c1,c2⟩:=hc
 have c0:(cZ p).1=0:=by simpa using c1
 obtain ⟨v1,x1⟩:=M7 c0;have hp:Pok p:=⟨FO v1,x1⟩;have hh:Hv ⟨p,p⟩:=⟨hp.1,hp.1,hp.2,hp.2⟩;obtain ⟨hne,_,hin⟩:=XL c2;have hm:=SU c2;obtain ⟨r0,hr⟩:=FJ hm;obtain ⟨⟨⟨bx1,bx2⟩,by1,by2⟩,bz1,bz2⟩:=SN hh hm;have n0:0<c.length:=List.length_pos_iff.2 hne;have hk:∀ k,k<c.length→Vin (c.getD k A30)∧JY (c.getD k A30)≤(dC c).1*(dC c).1:=fun k hk=>⟨cf_ (hin k hk),hr _ (HZ hk)⟩;obtain ⟨tx,ty,tz⟩:=V1 hp r0 hk;have pa:=fun k (h:k<c.length)=>b5_ hp (hk k h).1 r0.1 (hk k h).2
 have gx:∀ k,k<c.length→((aA p c).map A3.x).getD k Rt0=(fA p (c.getD k A30)).x:=fun k h=>by
  rw [xL,List.map_map,List.getD_eq_getElem?_getD,List.getD_eq_getElem?_getD,List.getElem?_map,List.getElem?_eq_getElem h];rfl
 have gy:∀ k,k<c.length→((aA p c).map A3.y).getD k Rt0=(fA p (c.getD k A30)).y:=fun k h=>by
  rw [xL,List.map_map,List.getD_eq_getElem?_getD,List.getD_eq_getElem?_getD,List.getElem?_map,List.getElem?_eq_getElem h];rfl
 have gz:∀ k,k<c.length→((aA p c).map A3.z).getD k Rt0=(fA p (c.getD k A30)).z:=fun k h=>by
  rw [xL,List.map_map,List.getD_eq_getElem?_getD,List.getD_eq_getElem?_getD,List.getElem?_map,List.getElem?_eq_getElem h];rfl
 obtain ⟨e1,a1,a2⟩:=ZX tx n0 hp.2.1 r0 (l:=(aA p c).map A3.x) (by rw [List.length_map,lH]) fun k h=>by rw [gx k h];exact (pa k h).1
 obtain ⟨e2,a3,a4⟩:=ZX ty n0 hp.2.2.1 r0 (l:=(aA p c).map A3.y) (by rw [List.length_map,lH]) fun k h=>by rw [gy k h];exact (pa k h).2.1
 obtain ⟨e3,a5,a6⟩:=ZX tz n0 hp.2.2.2 r0 (l:=(aA p c).map A3.z) (by rw [List.length_map,lH]) fun k h=>by rw [gz k h];exact (pa k h).2.2
 have eR:aW p=⟨p,p⟩:=rfl;rw [cond_false,e2_,e1,eR];simp only [sm,cond_true];rw [decide_eq_false (by simp only at bx1;omega),decide_eq_false (by simp only at bx2;omega),e3_,e2];simp only [sm,cond_true,cond_false];rw [decide_eq_false (by simp only at by1;omega),decide_eq_false (by simp only at by2;omega),e4_,e3];simp only [sm,cond_true,cond_false];rw [decide_eq_false (by simp only at bz1;omega),decide_eq_false (by simp only at bz2;omega)];simp only [cond_false];exact hs
end Go.Num
