/- Lemmas: what they ask stands in their statements. -/
import Derived.Test.YtbjlhfochebmiaaGreatDoorMJc
set_option linter.unusedSimpArgs false
set_option linter.unusedVariables false
set_option maxHeartbeats 8000000
set_option maxRecDepth 20000
namespace Go.Proofs.YtbjlhfochebmiaaGreatDoor
open Go.Kn Go.Num Tryz
attribute [local irreducible] Go.Kn.W WL PL OpQ OpR OpS
theorem CB (vl:Value) (l:(List (A3 W))) (w:World) (hl:Slr w elV vl l) (hpre:l.length≤10) :
    Calls prog 127 [vl].toArray w (fun e w'=>∃ v,e = .returned (.agg #[v,.int .i64 (((cZ l).e).1)])∧Ext w w'∧Slo w.heap.size w' 23 elV v ((cZ l).c).v):=by
 obtain ⟨p_l,c_l,rfl⟩:=hl.form;refine eQ (n:=104) (fun v=>.agg #[v,.int .i64 (((cZ l).e).1)]) func127 O O zz_ ?_;obtain ⟨w0,rfl⟩:=nm w;have Hl:=hl.old;have hm_l:=hl.max;refine giI ?_;refine go2 ?_;intro b1 hb1;refine go4 ?_;refine sQ (dV iV O (SLe.sub Hl sn)) O (go2 ?_);refine aL _ O (fun h2=>?_) (fun h2=>?_)
 ·have ph2:=of_decide_eq_true h2;refine go5 ?_;refine rtX O (eR O m0 tyT O) ?_
  have hE:((⟨(⟨([]:List (A3 W))⟩:Convex),(wl 2)⟩:HShape):HShape)=(cZ l):=by exact aQ h2 O
  rw [← hE];exact ⟨_,rfl,⟨[],sn,OwnG.nil⟩⟩
 have ph2:=of_decide_eq_false h2;refine go5 ?_;refine gJ3 (rg [3,4] 16 27) (fun g M=>∃ (j0:Nat),(hZ l (l.length+1) 0) = .inl j0∧(g 3 = .int .i64 (j0:Int))∧M=[⟨b1,136,bB [csl none 0 0,cw 0]⟩]) (fun K_u3 hK_u3=>?_) ?_
 ·refine go_ ?_;refine cE (rg [3,4] 16 27) (fun g nn M=>∃ (j0:Nat),(hZ l nn j0)=(hZ l (l.length+1) 0)∧l.length - j0<nn∧(j0≤l.length)∧(g 3 = .int .i64 (j0:Int))∧M=[⟨b1,136,bB [csl none 0 0,cw 0]⟩]) (l.length+1) ?start ?round
  case start=>exact ⟨_,s0,0,rfl,oo_,oo_,rfl,rfl⟩
  case round =>
   rintro nn g M ⟨j0,hT0,hq0,hinv0,hg3,rfl⟩;obtain ⟨k0,rfl⟩:∃ m,nn=m+1:=⟨nn - 1,by omega⟩;refine gS1 hg3 ?_;clear hg3;refine go4 ?_;refine sQ (dV iV O (SLe.sub Hl sn)) O (go2 ?_);refine aL _ O (fun h23=>?_) (fun h23=>?_)
   ·have ph23:=of_decide_eq_true h23;refine go7 ?_;refine qS 5 (go4 ?_);refine sV (.bool true) O O (go5 ?_);refine gJv (rg [] 26 16) [(41,.bool (decide (262144<((l.getD j0 A30).x).1)||decide (((l.getD j0 A30).x).1<(-262144))))] (fun K24 J24=>?_) ?_
    ·refine go4 ?_;refine sQ (aM (v':=.pointer (some (slb (.slice p_l l.length c_l) (j0*3+0)))) (eD (e:=elV) (l:=l) (k:=j0) iV O O (SLe.sub Hl sn) o2_) O) O ?_;refine sQ (aM (v':=.pointer (some (slb (.slice p_l l.length c_l) (j0*3+0)))) (GW (i:=0) arT O O O) O) O (sQ (wO (u:=.int .i64 (((l.getD j0 A30).x).1)) (e:=elV) (l:=l) (k:=j0) (o:=0) tyT O (SLe.sub Hl sn) (bS A30 o2_) O) O ?_);refine go_ ?_;refine sBB O (fun h25=>?_) (fun h25=>?_)
     ·have ph25:=of_decide_eq_true h25;refine go9 ?_;refine J24 _ _ pp_ s0 (bQ (o9 h25))
     have ph25:=of_decide_eq_false h25;refine go3 ?_;refine sQ (aM (v':=.pointer (some (slb (.slice p_l l.length c_l) (j0*3+0)))) (eD (e:=elV) (l:=l) (k:=j0) iV O O (SLe.sub Hl sn) o2_) O) O ?_;refine sQ (aM (v':=.pointer (some (slb (.slice p_l l.length c_l) (j0*3+0)))) (GW (i:=0) arT O O O) O) O (sQ (wO (u:=.int .i64 (((l.getD j0 A30).x).1)) (e:=elV) (l:=l) (k:=j0) (o:=0) tyT O (SLe.sub Hl sn) (bS A30 o2_) O) O ?_);refine go3 ?_;refine J24 _ _ pp_ s0 (bQ (nA h25 O))
    intro g26;refine aL _ O (fun h27=>?_) (fun h27=>?_)
    ·refine go5 ?_;refine rtX O (eR O m0 tyT O) ?_
     have hE:((⟨(⟨([]:List (A3 W))⟩:Convex),(wl 1)⟩:HShape):HShape)=(cZ l):=by exact aN h2 (CF O (hT0.symm.trans (Eq.symm (aQ h23 (aQ h27 O)))))
     rw [← hE];exact ⟨_,rfl,⟨[],sn,OwnG.nil⟩⟩
    have ph28:=of_decide_eq_false (Bool.or_eq_false_iff.1 h27).1;have ph29:=of_decide_eq_false (Bool.or_eq_false_iff.1 h27).2;refine go3 ?_;refine sV (.int .i64 1) O O (go6 ?_);refine sV (.bool true) O O (go5 ?_);refine gJv (rg [] 26 16) [(41,.bool (decide (262144<((l.getD j0 A30).y).1)||decide (((l.getD j0 A30).y).1<(-262144))))] (fun K28 J28=>?_) ?_
    ·refine go4 ?_;refine sQ (aM (v':=.pointer (some (slb (.slice p_l l.length c_l) (j0*3+0)))) (eD (e:=elV) (l:=l) (k:=j0) iV O O (SLe.sub Hl sn) o2_) O) O ?_;refine sQ (aM (v':=.pointer (some (slb (.slice p_l l.length c_l) (j0*3+1)))) (GW (i:=1) arT O O O) O) O (sQ (wO (u:=.int .i64 (((l.getD j0 A30).y).1)) (e:=elV) (l:=l) (k:=j0) (o:=1) tyT O (SLe.sub Hl sn) (bS A30 o2_) O) O ?_);refine go_ ?_;refine sBB O (fun h31=>?_) (fun h31=>?_)
     ·have ph31:=of_decide_eq_true h31;refine go9 ?_;refine J28 _ _ pp_ s0 (bQ (o9 h31))
     have ph31:=of_decide_eq_false h31;refine go3 ?_;refine sQ (aM (v':=.pointer (some (slb (.slice p_l l.length c_l) (j0*3+0)))) (eD (e:=elV) (l:=l) (k:=j0) iV O O (SLe.sub Hl sn) o2_) O) O ?_;refine sQ (aM (v':=.pointer (some (slb (.slice p_l l.length c_l) (j0*3+1)))) (GW (i:=1) arT O O O) O) O (sQ (wO (u:=.int .i64 (((l.getD j0 A30).y).1)) (e:=elV) (l:=l) (k:=j0) (o:=1) tyT O (SLe.sub Hl sn) (bS A30 o2_) O) O ?_);refine go3 ?_;refine J28 _ _ pp_ s0 (bQ (nA h31 O))
    intro g32;refine aL _ O (fun h33=>?_) (fun h33=>?_)
    ·refine go5 ?_;refine rtX O (eR O m0 tyT O) ?_
     have hE:((⟨(⟨([]:List (A3 W))⟩:Convex),(wl 1)⟩:HShape):HShape)=(cZ l):=by exact aN h2 (CF O (hT0.symm.trans (Eq.symm (aQ h23 (aN h27 (aQ h33 O))))))
     rw [← hE];exact ⟨_,rfl,⟨[],sn,OwnG.nil⟩⟩
    have ph34:=of_decide_eq_false (Bool.or_eq_false_iff.1 h33).1;have ph35:=of_decide_eq_false (Bool.or_eq_false_iff.1 h33).2;refine go3 ?_;refine sV (.int .i64 2) O O (go6 ?_);refine sV (.bool true) O O (go5 ?_);refine gJv (rg [] 26 16) [(41,.bool (decide (262144<((l.getD j0 A30).z).1)||decide (((l.getD j0 A30).z).1<(-262144))))] (fun K32 J32=>?_) ?_
    ·refine go4 ?_;refine sQ (aM (v':=.pointer (some (slb (.slice p_l l.length c_l) (j0*3+0)))) (eD (e:=elV) (l:=l) (k:=j0) iV O O (SLe.sub Hl sn) o2_) O) O ?_;refine sQ (aM (v':=.pointer (some (slb (.slice p_l l.length c_l) (j0*3+2)))) (GW (i:=2) arT O O O) O) O (sQ (wO (u:=.int .i64 (((l.getD j0 A30).z).1)) (e:=elV) (l:=l) (k:=j0) (o:=2) tyT O (SLe.sub Hl sn) (bS A30 o2_) O) O ?_);refine go_ ?_;refine sBB O (fun h37=>?_) (fun h37=>?_)
     ·have ph37:=of_decide_eq_true h37;refine go9 ?_;refine J32 _ _ pp_ s0 (bQ (o9 h37))
     have ph37:=of_decide_eq_false h37;refine go3 ?_;refine sQ (aM (v':=.pointer (some (slb (.slice p_l l.length c_l) (j0*3+0)))) (eD (e:=elV) (l:=l) (k:=j0) iV O O (SLe.sub Hl sn) o2_) O) O ?_;refine sQ (aM (v':=.pointer (some (slb (.slice p_l l.length c_l) (j0*3+2)))) (GW (i:=2) arT O O O) O) O (sQ (wO (u:=.int .i64 (((l.getD j0 A30).z).1)) (e:=elV) (l:=l) (k:=j0) (o:=2) tyT O (SLe.sub Hl sn) (bS A30 o2_) O) O ?_);refine go3 ?_;refine J32 _ _ pp_ s0 (bQ (nA h37 O))
    intro g38;refine aL _ O (fun h39=>?_) (fun h39=>?_)
    ·refine go5 ?_;refine rtX O (eR O m0 tyT O) ?_
     have hE:((⟨(⟨([]:List (A3 W))⟩:Convex),(wl 1)⟩:HShape):HShape)=(cZ l):=by exact aN h2 (CF O (hT0.symm.trans (Eq.symm (aQ h23 (aN h27 (aN h33 (aQ h39 O)))))))
     rw [← hE];exact ⟨_,rfl,⟨[],sn,OwnG.nil⟩⟩
    have ph40:=of_decide_eq_false (Bool.or_eq_false_iff.1 h39).1;have ph41:=of_decide_eq_false (Bool.or_eq_false_iff.1 h39).2;refine go3 ?_;refine sV (.int .i64 3) O O (go6 ?_);refine sV (.bool false) O O (go5 ?_);refine sWi (((j0+1):Nat):Int) O (go2 ?_);refine ⟨pp_,_,_,s0,(Nat.lt_succ_self _),(j0+1),(by exact (hT0.symm.trans (Eq.symm (aQ h23 (aN h27 (aN h33 (aN h39 O)))))).symm),(Nat.lt_of_lt_of_le oo_ (Nat.le_of_lt_succ hq0)),oo_,rfl,rfl⟩
   have ph23:=of_decide_eq_false h23;refine go_ ?_;refine hK_u3 _ _ pp_ ⟨_,s0,j0,(by exact hT0.symm.trans (Eq.symm (aN h23 O))),rfl,rfl⟩
 rintro g M ⟨j0,hCu3,hg3,rfl⟩;refine gS1 hg3 ?_;clear hg3;refine go2 ?_;refine aY O (aV (E:=23) (e:=elV) (l:=(aK l)) (fun v=>v) aE O (fun w hw=>AJ _ l w (aR hw Hl sn) oo_) (fun p42 c43 L44 hF45=>?_));have hb46:=(TO l);refine go4 ?_;refine aY O (bK_ (D:=pF) (l:=(aU (aK l))) (fun v=>v) aE O (fun w hw=>AH _ (aK l) w (aO hw hF45 lZ) oo_) (fun p47 c48 L49 hF50=>?_));have hb51:=SLf2.max hF50;refine go5 ?_;refine sQ (aM (v':=.int .i64 ((aU (aK l)).length:Int)) (S9 (D:=pF) zJ O (SLf2.sle (SLf2.sub hF50 lZ))) O) O (go2 ?_);refine aL _ O (fun h52=>?_) (fun h52=>?_)
 ·have ph52:=R9 h52;refine go5 ?_;refine rtX O (eR O (mA (mA mZ)) tyT O) ?_
  have hE:((⟨(⟨([]:List (A3 W))⟩:Convex),(wl 120)⟩:HShape):HShape)=(cZ l):=by exact aN h2 (trs (Eq.symm (smS hCu3)) (aQ h52 O))
  rw [← hE];exact ⟨_,rfl,⟨[],sn,OwnG.nil⟩⟩
 have ph52:=EZ h52;refine go4 ?_;refine sQ (aM (v':=.int .i64 ((aU (aK l)).length:Int)) (S9 (D:=pF) zJ O (SLf2.sle (SLf2.sub hF50 lZ))) O) O (go2 ?_);refine aL _ O (fun h53=>?_) (fun h53=>?_)
 ·have ph53:=of_decide_eq_true h53;refine go5 ?_;refine rtX O (eR O (mA (mA mZ)) tyT O) ?_
  have hE:((⟨(⟨([]:List (A3 W))⟩:Convex),(wl 2)⟩:HShape):HShape)=(cZ l):=by exact aN h2 (trs (Eq.symm (smS hCu3)) (aN h52 (aQ h53 O)))
  rw [← hE];exact ⟨_,rfl,⟨[],sn,OwnG.nil⟩⟩
 have ph53:=of_decide_eq_false h53;refine go4 ?_;intro b54 hb54;refine go6 ?_;refine gJ3 (rg [8,9,10,11] 56 47) (fun g M=>∃ (i:Nat) (vs:List (A3 W)) (p_vs:Option Addr) (c_vs:Nat) (L_vs:List Blk),(kE l j0 ((aK l).length+1) 0 ([]:List (A3 W)))=(i,vs)∧(g 8 = .int .i64 (i:Int)∧OwnG w0 23 elV (.slice p_vs vs.length c_vs) vs L_vs)∧M=(L_vs++(⟨b54,136,bB [csl p_vs vs.length c_vs,cw 0]⟩::(L49++(L44++(⟨b1,136,bB [csl none 0 0,cw 0]⟩::[])))))) (fun K_u55 hK_u55=>?_) ?_
 ·refine go_ ?_;refine cE (rg [8,9,10,11] 56 47) (fun g nn M=>∃ (i:Nat) (vs:List (A3 W)) (p_vs:Option Addr) (c_vs:Nat) (L_vs:List Blk),(kE l j0 nn i vs)=(kE l j0 ((aK l).length+1) 0 ([]:List (A3 W)))∧(aK l).length - i<nn∧(i≤(aK l).length∧vs.length≤i)∧(g 8 = .int .i64 (i:Int)∧OwnG w0 23 elV (.slice p_vs vs.length c_vs) vs L_vs)∧M=(L_vs++(⟨b54,136,bB [csl p_vs vs.length c_vs,cw 0]⟩::(L49++(L44++(⟨b1,136,bB [csl none 0 0,cw 0]⟩::[])))))) ((aK l).length+1) ?start ?round
  case start=>exact ⟨_,s0,0,([]:List (A3 W)),none,0,[],rfl,oo_,⟨by omega,Nat.zero_le _⟩,⟨rfl,OwnG.nil⟩,rfl⟩
  case round =>
   rintro nn g M ⟨i,vs,p_vs,c_vs,L_vs,hT1,hq1,hinv1,⟨hg8,hO_vs⟩,rfl⟩;obtain ⟨k1,rfl⟩:∃ m,nn=m+1:=⟨nn - 1,by omega⟩;refine gS1 hg8 ?_;clear hg8;have hm_vs:=OwnG.max hO_vs;refine go4 ?_;refine sQ (aM (v':=.int .i64 ((aK l).length:Int)) (dV (e:=elV) iV O (rO hF45 (sR (sd (sR lZ))))) O) O (go2 ?_);refine aL _ O (fun h168=>?_) (fun h168=>?_)
   ·have ph168:=of_decide_eq_true h168;refine jE ?_;refine gJ3 (rg [9,10,11] 62 29) (fun g M=>∃ (is:Bool) (k:Nat),(lO l j0 i vs ((aU (aK l)).length+1) false 0)=(is,k)∧(g 9 = .bool is∧g 10 = .int .i64 (k:Int))∧M=(L_vs++(⟨b54,136,bB [csl p_vs vs.length c_vs,cw 0]⟩::(L49++(L44++(⟨b1,136,bB [csl none 0 0,cw 0]⟩::[])))))) (fun K_u169 hK_u169=>?_) ?_
    ·refine go_ ?_;refine cE (rg [9,10,11] 62 29) (fun g nn M=>∃ (is:Bool) (k:Nat),(lO l j0 i vs nn is k)=(lO l j0 i vs ((aU (aK l)).length+1) false 0)∧(aU (aK l)).length - k<nn∧(k≤(aU (aK l)).length)∧(g 9 = .bool is∧g 10 = .int .i64 (k:Int))∧M=(L_vs++(⟨b54,136,bB [csl p_vs vs.length c_vs,cw 0]⟩::(L49++(L44++(⟨b1,136,bB [csl none 0 0,cw 0]⟩::[])))))) ((aU (aK l)).length+1) ?start ?round
     case start=>exact ⟨_,s0,false,0,rfl,oo_,oo_,⟨rfl,rfl⟩,rfl⟩
     case round =>
      rintro nn g M ⟨is,k,hT2,hq2,hinv2,⟨hg9,hg10⟩,rfl⟩;obtain ⟨k2,rfl⟩:∃ m,nn=m+1:=⟨nn - 1,by omega⟩;refine gS2 hg9 hg10 ?_;clear hg9 hg10;refine go4 ?_;refine sQ (aM (v':=.int .i64 ((aU (aK l)).length:Int)) (S9 (D:=pF) zJ O (SLf2.sle (SLf2.sub hF50 (sR (sd lZ))))) O) O (go2 ?_);refine aL _ O (fun h222=>?_) (fun h222=>?_)
      ·have ph222:=of_decide_eq_true h222;refine go6 ?_;refine gJ3 (rg [9,11] 68 23) (fun g M=>∃ (is1:Bool) (j:Nat),(lP l j0 i vs is k (((aU (aK l)).getD k o6).ats.length+1) is 0)=(is1,j)∧(g 9 = .bool is1∧g 11 = .int .i64 (j:Int))∧M=(L_vs++(⟨b54,136,bB [csl p_vs vs.length c_vs,cw 0]⟩::(L49++(L44++(⟨b1,136,bB [csl none 0 0,cw 0]⟩::[])))))) (fun K_u223 hK_u223=>?_) ?_
       ·refine go_ ?_;refine cE (rg [9,11] 68 23) (fun g nn M=>∃ (is1:Bool) (j:Nat),(lP l j0 i vs is k nn is1 j)=(lP l j0 i vs is k (((aU (aK l)).getD k o6).ats.length+1) is 0)∧((aU (aK l)).getD k o6).ats.length - j<nn∧(j≤((aU (aK l)).getD k o6).ats.length)∧(g 9 = .bool is1∧g 11 = .int .i64 (j:Int))∧M=(L_vs++(⟨b54,136,bB [csl p_vs vs.length c_vs,cw 0]⟩::(L49++(L44++(⟨b1,136,bB [csl none 0 0,cw 0]⟩::[])))))) (((aU (aK l)).getD k o6).ats.length+1) ?start ?round
        case start=>exact ⟨_,s0,is,0,rfl,oo_,oo_,⟨rfl,rfl⟩,rfl⟩
        case round =>
         rintro nn g M ⟨is1,j,hT3,hq3,hinv3,⟨hg9,hg11⟩,rfl⟩;obtain ⟨k3,rfl⟩:∃ m,nn=m+1:=⟨nn - 1,by omega⟩;refine gS2 hg9 hg11 ?_;clear hg9 hg11;refine go5 ?_;refine sQ (aM (v':=.pointer (some (slb (.slice p47 (aU (aK l)).length c48) (k*5+0)))) (ZX (D:=pF) (l:=(aU (aK l))) (k:=k) zJ O O O (SLf2.sle (SLf2.sub hF50 (sR (sd lZ)))) o2_) O) O ?_;refine sQ (aM (v':=.pointer (some (slb (.slice p47 (aU (aK l)).length c48) (k*5+4)))) (OQ fdT O O) O) O ?_;obtain ⟨p249,c250,H251,h252,h253,h254⟩:=SLf2.at (k:=k) (x:=((aU (aK l)).getD k o6)) hF50 (bS o6 o2_);have hm255:((aU (aK l)).getD k o6).ats.length≤9223372036854775807:=SLfe.max h254;refine sQ (wO (u:=.slice p249 ((aU (aK l)).getD k o6).ats.length c250) (e:=pF.el) (l:=H251) (k:=k) (o:=4) tyT O (SLfe.sle (SLfe.sub h252 (sR (sd lZ)))) h253 O) O (sQ (aM (v':=.int .i64 ((((aU (aK l)).getD k o6).ats).length:Int)) (dV (e:=elW) j7 O (SLe.sub (SLfe.sle h254) (sR (sd lZ)))) O) O (go2 ?_));refine aL _ O (fun h256=>?_) (fun h256=>?_)
         ·have ph256:=of_decide_eq_true h256;refine go_ ?_;refine gJv (rg [9] 78 13) [(9,.bool (is1||(((((aU (aK l)).getD k o6).ats).getD j W.z).1==(i:Int))))] (fun K75 J75=>?_) ?_
          ·refine go3 ?_;refine sBB O (fun h265=>?_) (fun h265=>?_)
           ·refine SM ?_;refine J75 _ _ pp_ s0 (bQ (o9 h265))
           refine go2 ?_;refine sQ (aM (v':=.pointer (some (slb (.slice p47 (aU (aK l)).length c48) (k*5+0)))) (ZX (D:=pF) (l:=(aU (aK l))) (k:=k) zJ O O O (SLf2.sle (SLf2.sub hF50 (sR (sd lZ)))) o2_) O) O ?_;refine sQ (aM (v':=.pointer (some (slb (.slice p47 (aU (aK l)).length c48) (k*5+4)))) (OQ fdT O O) O) O ?_;obtain ⟨p266,c267,H268,h269,h270,h271⟩:=SLf2.at (k:=k) (x:=((aU (aK l)).getD k o6)) hF50 (bS o6 o2_);have hm272:((aU (aK l)).getD k o6).ats.length≤9223372036854775807:=SLfe.max h271;refine sQ (wO (u:=.slice p266 ((aU (aK l)).getD k o6).ats.length c267) (e:=pF.el) (l:=H268) (k:=k) (o:=4) tyT O (SLfe.sle (SLfe.sub h269 (sR (sd lZ)))) h270 O) O (go_ ?_);refine sQ (aM (v':=.pointer (some (slb (.slice p266 ((aU (aK l)).getD k o6).ats.length c267) (j*1+0)))) (eD (e:=elW) (l:=((aU (aK l)).getD k o6).ats) (k:=j) j7 O O (SLe.sub (SLfe.sle h271) (sR (sd lZ))) o2_) O) O ?_;refine sQ (wO (u:=.int .i64 (((((aU (aK l)).getD k o6).ats).getD j W.z).1)) (e:=elW) (l:=((aU (aK l)).getD k o6).ats) (k:=j) (o:=0) tyT O (SLe.sub (SLfe.sle h271) (sR (sd lZ))) (bS W.z o2_) O) O ?_;refine go5 ?_;refine J75 _ _ pp_ s0 (bQ (nA h265 O))
          intro g273;refine go2 ?_;refine sWi (((j+1):Nat):Int) O (go2 ?_);refine ⟨pp_,_,_,s0,(Nat.lt_succ_self _),(is1||(((((aU (aK l)).getD k o6).ats).getD j W.z).1==(i:Int))),(j+1),(by exact (hT3.symm.trans (Eq.symm (aQ h256 O))).symm),(Nat.lt_of_lt_of_le oo_ (Nat.le_of_lt_succ hq3)),oo_,⟨rfl,rfl⟩,rfl⟩
         have ph256:=of_decide_eq_false h256;refine go_ ?_;refine hK_u223 _ _ pp_ ⟨_,s0,is1,j,(by exact hT3.symm.trans (Eq.symm (aN h256 O))),⟨rfl,rfl⟩,rfl⟩
       rintro g M ⟨is1,j,hCu223,⟨hg9,hg11⟩,rfl⟩;refine gS2 hg9 hg11 ?_;clear hg9 hg11;refine go2 ?_;refine sWi (((k+1):Nat):Int) O (go2 ?_);refine ⟨pp_,_,_,s0,(Nat.lt_succ_self _),is1,(k+1),(by exact (hT2.symm.trans (Eq.symm (aQ h222 (trs (Eq.symm (apS hCu223)) O)))).symm),(Nat.lt_of_lt_of_le oo_ (Nat.le_of_lt_succ hq2)),oo_,⟨rfl,rfl⟩,rfl⟩
      have ph222:=of_decide_eq_false h222;refine go_ ?_;refine hK_u169 _ _ pp_ ⟨_,s0,is,k,(by exact hT2.symm.trans (Eq.symm (aN h222 O))),⟨rfl,rfl⟩,rfl⟩
    rintro g M ⟨is,k,hCu169,⟨hg9,hg10⟩,rfl⟩;refine gS2 hg9 hg10 ?_;clear hg9 hg10;refine go3 ?_;refine aL _ O (fun h274=>?_) (fun h274=>?_)
    ·refine kY sn 12 [7,8,11] [8,11] (go5 ?_);refine pQ O (aM (v':=.pointer (some (slb (.slice p42 (aK l).length c43) (i*3+0)))) (eD (e:=elV) (l:=(aK l)) (k:=i) iV O O (rO hF45 (sR (sd (sR lZ)))) o2_) O) ?_;refine pQ O (gE (e:=elV) (l:=(aK l)) (k:=i) (o:=0) tyT O (rO hF45 (sR (sd (sR lZ)))) (bS A30 o2_) O) ?_;refine cJ O O (cA [[cw ((((aK l).getD i A30).x).1),cw ((((aK l).getD i A30).y).1),cw ((((aK l).getD i A30).z).1)]] [cw ((((aK l).getD i A30).x).1),cw ((((aK l).getD i A30).y).1),cw ((((aK l).getD i A30).z).1)] zM RY HQ O dd_ O O ⟨rfl,rfl,rfl,trivial⟩ O (fun b275 hb275=>⟨(fun _=>sd s0),sn,cJ O O (kG (e:=elV) (l:=vs) (m:=[((aK l).getD i A30)]) 24 zM (by kernel_rfl) dd_ O O hO_vs (SLe.lit (e:=elV) (l:=[((aK l).getD i A30)]) m0 O (Nat.le_of_ble_eq_true O) O) (rY nH) (by show (vs.length+1)*24≤_;(try simp only [List.length_append,List.length_cons,List.length_nil]);omega) dd_ (fun p276 c277 L278 hO279=>⟨nf,sn,go6 ?_⟩))⟩));refine sWi (((i+1):Nat):Int) O (go2 ?_);refine ⟨pp_,_,_,(sA (sd s0)),(Nat.lt_succ_self _),(i+1),(vs++[((aK l).getD i A30)]),p276,c277,L278,(by exact (hT1.symm.trans (Eq.symm (aQ h168 (trs (Eq.symm (apS hCu169)) (aQ h274 O))))).symm),(Nat.lt_of_lt_of_le oo_ (Nat.le_of_lt_succ hq1)),⟨by omega,by (try simp only [List.length_append,List.length_cons,List.length_nil]);omega⟩,⟨rfl,hO279⟩,rfl⟩
    refine go3 ?_;refine sWi (((i+1):Nat):Int) O (go2 ?_);refine ⟨pp_,_,_,s0,(Nat.lt_succ_self _),(i+1),vs,p_vs,c_vs,L_vs,(by exact (hT1.symm.trans (Eq.symm (aQ h168 (trs (Eq.symm (apS hCu169)) (aN h274 O))))).symm),(Nat.lt_of_lt_of_le oo_ (Nat.le_of_lt_succ hq1)),⟨by omega,by (try simp only [List.length_append,List.length_cons,List.length_nil]);omega⟩,⟨rfl,hO_vs⟩,rfl⟩
   have ph168:=of_decide_eq_false h168;refine go_ ?_;refine hK_u55 _ _ pp_ ⟨_,s0,i,vs,p_vs,c_vs,L_vs,(by exact hT1.symm.trans (Eq.symm (aN h168 O))),⟨rfl,hO_vs⟩,rfl⟩
 rintro g M ⟨i,vs,p_vs,c_vs,L_vs,hCu55,⟨hg8,hO_vs⟩,rfl⟩;refine gS1 hg8 ?_;clear hg8;have hm_vs:=OwnG.max hO_vs;refine j6 (sA (sk (sR (sR s0)))) ?_;refine go5 ?_;refine rtX O (eR O (mA (mC mZ)) tyT O) ?_
 have hE:((⟨(⟨vs⟩:Convex),(wl 0)⟩:HShape):HShape)=(cZ l):=by exact aN h2 (trs (Eq.symm (smS hCu3)) (aN h52 (aN h53 (trs (Eq.symm (apS hCu55)) O))))
 rw [← hE];exact ⟨_,rfl,⟨L_vs,lZ,hO_vs⟩⟩
theorem BB (p_c:Option Addr) (c_c:Nat) (c:(List (A3 W))) (w:World) (hc:Slr w elV (.slice p_c c.length c_c) c) (hpre:c.length≤10) :
    Calls prog 62 [AV [csl p_c c.length c_c]].toArray w (fun e w'=>e = .returned (.int .i64 ((j5 c).1))∧Ext w w'):=by
 refine dL (N:=21) func62 O O zz_ ?_;obtain ⟨w0,rfl⟩:=nm w;have Hc:=hc.old;have hm_c:=hc.max;refine giI ?_;refine go2 ?_;intro b1 hb1;refine go5 ?_;refine aY O (aV (E:=23) (e:=elV) (l:=((cZ c).c).v) (fun v=>.agg #[v,.int .i64 (((cZ c).e).1)]) aE O (fun w hw=>CB _ c w (aR hw Hc sn) oo_) (fun p2 c3 L4 hF5=>go_ ?_));intro b6 hb6;refine go3 ?_;refine gJv (rg [] 7 12) [(18,.bool ((((cZ c).e).1==0)&&(!(kK (((cZ c).c).v) c))))] (fun K2 J2=>?_) ?_
 ·refine go4 ?_;refine sBB O (fun h8=>?_) (fun h8=>?_)
  ·refine go5 ?_;refine sFc (.bool (kK (((cZ c).c).v) c)) O (fun w hw=>CC _ (((cZ c).c).v) _ c w (aO hw hF5 (sd lZ)) (aR hw Hc sn)) O O (go3 ?_);refine J2 _ _ pp_ s0 (bQ (lS h8 O))
  refine go9 ?_;refine J2 _ _ pp_ s0 (bQ (oY h8))
 intro g9;refine aL _ O (fun h10=>?_) (fun h10=>?_)
 ·refine go4 ?_;refine rt1 ?_;exact congrArg vS7 (show _=(j5 c) from aQ h10 O)
 refine go7 ?_;refine rt1 ?_;exact congrArg vS7 (show _=(j5 c) from aN h10 O)
theorem C6 (p_c:Option Addr) (c_c:Nat) (c:(List (A3 W))) (w:World) (hc:Slr w elV (.slice p_c c.length c_c) c) :
    Calls prog 17 [AV [csl p_c c.length c_c]].toArray w (fun e w'=>e = .returned (.bool (i3 c))∧Ext w w'):=by
 refine dL (N:=12) func17 O O zz_ ?_;obtain ⟨w0,rfl⟩:=nm w;have Hc:=hc.old;have hm_c:=hc.max;refine giI ?_;refine go2 ?_;intro b1 hb1;refine go2 ?_;refine gJv (rg [] 2 10) [(2,.bool (decide ((c.length:Int)≤10)&&((j5 c).1==0)))] (fun K1 J1=>?_) ?_
 ·refine go3 ?_;refine sQ (dV iV O (SLe.sub Hc sn)) O (go_ ?_);refine sBB O (fun h3=>?_) (fun h3=>?_)
  ·have ph3:=of_decide_eq_true h3;refine go_ ?_;refine sFc (.int .i64 ((j5 c).1)) O (fun w hw=>BB _ _ c w (aR hw Hc sn) oo_) O O (go4 ?_);refine J1 _ _ pp_ s0 (bQ (lS h3 O))
  have ph3:=of_decide_eq_false h3;refine go6 ?_;refine J1 _ _ pp_ s0 (bQ (oY h3))
 intro g4;refine go_ ?_;refine rt1 ?_;exact (by rfl)
theorem sG (a:W) (b:W) :
  Ret prog 49 [.int .i64 a.1,.int .i64 b.1] (AV [pI ((jS a b).n),pI ((jS a b).d)]):=by
 refine bA (N:=10) func49 O O zz_ (fun w0=>?_);refine giI ?_;refine go2 ?_;intro b1 hb1;refine go3 ?_;refine sC (AV [pI (E (Z.of a.1))]) aE (fB a.1 a.2) O O O (go_ ?_);refine sC (AV [pI (E (Z.of b.1))]) aE (fB b.1 b.2) O O O ?_;obtain ⟨r2,hr2⟩:=nm ((cV (E (Z.of a.1)) (E (Z.of b.1))):Rt);refine sC (AV [pI r2.n,pI r2.d]) aE (oV (E (Z.of a.1)) (E (Z.of b.1))) O O (by rw [hr2]) (go3 ?_);refine rtX O (eR O m0 tyT O) ?_;exact (by subst hr2;rfl)
theorem AD (a:Rt) (b:Rt) :
   Ret prog 54 [AV [pI a.n,pI a.d],AV [pI b.n,pI b.d]] (AV [pI ((n4 a b).n),pI ((n4 a b).d)]):=by
 refine bA (N:=16) func54 O O zz_ (fun w0=>?_);refine giI ?_;refine go2 ?_;intro b1 hb1;refine go_ ?_;intro b2 hb2;refine go_ ?_;intro b3 hb3;refine go4 ?_;refine sQ (aX aE (oU b) O) O (go2 ?_);rcases bt (eE b) with h4|h4
 ·refine W_f (gG h4) O (go_ ?_);refine mS (sd (sk (sk s0))) 8 [7] [7] (go5 ?_);refine pQ O (aX aE (oV b.d b.n) O) ?_;obtain ⟨r5,hr5⟩:=nm ((j4 a (cV b.d b.n)):Rt);refine pC (AV [pI r5.n,pI r5.d]) aE (xQ a (cV b.d b.n)) O O (by rw [hr5]) (go3 ?_);refine rtX O (eR O m0 tyT O) ?_;exact (by subst hr5;exact congrArg vS6 (show _=(n4 a b) from aQ h4 O))
 refine W_t (gD h4) O (go_ ?_);refine sQ (aX aE oI  rfl) O (go3 ?_);refine rtX O (eR O m0 tyT O) ?_;exact congrArg vS6 (show _=(n4 a b) from aN h4 O)
theorem B6 (a:Rt) :
   Ret prog 45 [AV [pI a.n,pI a.d]] (.int .i64 ((oK a).1)):=by
 refine bA (N:=9) func45 O O zz_ (fun w0=>?_);refine giI ?_;refine go2 ?_;intro b1 hb1;refine go5 ?_;refine sQ (aX aE (fD a) O) O (go2 ?_);rcases bt (aT a) with h2|h2
 ·refine W_f (gG h2) O (go4 ?_);refine sC (.int .i64 ((Z.signW a.n.dec).1)) aE (gH a.n.1 a.n.2) O O O (go3 ?_);refine rt1 ?_;exact congrArg vS7 (show _=(oK a) from aQ h2 O)
 refine W_t (gD h2) O (go4 ?_);refine rt1 ?_;exact congrArg vS7 (show _=(oK a) from aN h2 O)
theorem tM (a:Rt) (b:Rt) :
   Ret prog 83 [AV [pI a.n,pI a.d],AV [pI b.n,pI b.d]] (AV [pI ((kB a b).n),pI ((kB a b).d)]):=by
 refine bA (N:=16) func83 O O zz_ (fun w0=>?_);refine giI ?_;refine go2 ?_;intro b1 hb1;refine go_ ?_;intro b2 hb2;refine go_ ?_;intro b3 hb3;refine go4 ?_;refine sQ (aX aE (fD b) O) O (go2 ?_);rcases bt (aT b) with h4|h4
 ·refine W_f (gG h4) O (go_ ?_);refine mS (sd (sk (sk s0))) 8 [7] [7] (go5 ?_);refine pQ O (aX aE (jX b.d b.n) O) ?_;obtain ⟨r5,hr5⟩:=nm ((fJ a (aW b.d b.n)):Rt);refine pC (AV [pI r5.n,pI r5.d]) aE (C2 a (aW b.d b.n)) O O (by rw [hr5]) (go3 ?_);refine rtX O (eR O m0 tyT O) ?_;exact (by subst hr5;exact congrArg vS6 (show _=(kB a b) from aQ h4 O))
 refine W_t (gD h4) O (go_ ?_);refine sQ (aX aE mJ  rfl) O (go3 ?_);refine rtX O (eR O m0 tyT O) ?_;exact congrArg vS6 (show _=(kB a b) from aN h4 O)
end Go.Proofs.YtbjlhfochebmiaaGreatDoor
