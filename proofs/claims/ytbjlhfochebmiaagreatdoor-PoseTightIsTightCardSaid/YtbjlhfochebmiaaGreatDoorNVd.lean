/- Lemmas: what they ask stands in their statements. -/
import Derived.Test.YtbjlhfochebmiaaGreatDoorNQa
import Derived.Test.YtbjlhfochebmiaaGreatDoorNYa
set_option linter.unusedSimpArgs false
set_option linter.unusedVariables false
set_option maxHeartbeats 8000000
set_option maxRecDepth 20000
namespace Go.Proofs.YtbjlhfochebmiaaGreatDoor
open Go.Kn Go.Num Tryz
attribute [local irreducible] Go.Kn.W WL PL OpQ OpR OpS
theorem DM (a:(A3 W)) :
  Ret prog 33 [AV [cw a.x.1,cw a.y.1,cw a.z.1]] (AV [pI (((kG a).x).n),pI (((kG a).x).d),pI (((kG a).y).n),pI (((kG a).y).d),pI (((kG a).z).n),pI (((kG a).z).d)]):=by
 refine bJ (N:=13) func33 O O zz_ (fun w0=>?_);refine giI ?_;refine go2 ?_;intro b1 hb1;refine go_ ?_;intro b2 hb2;refine go_ ?_;refine nK (sd (sk s0)) 11 [10] [10] (go2 ?_);refine pQ O (aX aE (bV a.x) O) (go2 ?_);refine pQ O (aX aE (bV a.y) O) (go2 ?_);refine pQ O (aX aE (bV a.z) O) (pQ O (dN zpT arT O (.cons [pI ((aJ a.x).n),pI ((aJ a.x).d)] [pI ((aJ a.x).n),pI ((aJ a.x).d),pI I0,pI I0,pI I0,pI I0] O O O O (.cons [pI ((aJ a.y).n),pI ((aJ a.y).d)] [pI ((aJ a.x).n),pI ((aJ a.x).d),pI ((aJ a.y).n),pI ((aJ a.y).d),pI I0,pI I0] O O O O (.cons [pI ((aJ a.z).n),pI ((aJ a.z).d)] [pI ((aJ a.x).n),pI ((aJ a.x).d),pI ((aJ a.y).n),pI ((aJ a.y).d),pI ((aJ a.z).n),pI ((aJ a.z).d)] O O O O (.nil _))))) (go3 ?_));refine rtX O (fF O m0 tyT O) ?_;exact (by rfl)
theorem GQ (a:(A3 Rt)) (b:(A3 Rt)) :
  Ret prog 60 [AV [pI a.x.n,pI a.x.d,pI a.y.n,pI a.y.d,pI a.z.n,pI a.z.d],AV [pI b.x.n,pI b.x.d,pI b.y.n,pI b.y.d,pI b.z.n,pI b.z.d]] (AV [pI (((lV a b).x).n),pI (((lV a b).x).d),pI (((lV a b).y).n),pI (((lV a b).y).d),pI (((lV a b).z).n),pI (((lV a b).z).d)]):=by
 refine bJ (N:=20) func60 O O zz_ (fun w0=>?_);refine giI ?_;refine go2 ?_;intro b1 hb1;refine go_ ?_;intro b2 hb2;refine go_ ?_;intro b3 hb3;refine go6 ?_;refine rM 5 (go2 ?_);refine sV (.bool true) O O (iK ?_);refine mB (sk (sk (sd s0))) 10 [9] [9] (go7 ?_);refine pQ O (aX aE (pK a.x b.x) O) (go4 ?_);refine sV (.int .i64 1) O O (go4 ?_);refine sV (.bool true) O O (iK ?_);refine mB (sk (sk (sd s0))) 10 [9] [9] (go7 ?_);refine pQ O (aX aE (pK a.y b.y) O) (go4 ?_);refine sV (.int .i64 2) O O (go4 ?_);refine sV (.bool true) O O (iK ?_);refine mB (sk (sk (sd s0))) 10 [9] [9] (go7 ?_);refine pQ O (aX aE (pK a.z b.z) O) (go4 ?_);refine sV (.int .i64 3) O O (go4 ?_);refine sV (.bool false) O O (go9 ?_);refine rtX O (fF O m0 tyT O) ?_;exact (by rfl)
theorem uU (a:Pose) :
    Ret prog 52 [AV [cw a.x.x.1,cw a.x.y.1,cw a.x.z.1,cw a.q.x.1,cw a.q.y.1,cw a.q.z.1,cw a.q.t.1]] (.int .i64 ((lE a).1)):=by
 refine bJ (N:=21) func52 O O zz_ (fun w0=>?_);refine giI ?_;refine go2 ?_;intro b1 hb1;refine go9 ?_;refine rM 5 (go2 ?_);refine sV (.bool true) O O (iK ?_);refine gJv [10,11,12,13,14,15] [(15,.bool (decide (140737488355328≤a.x.x.1)||decide (a.x.x.1≤(-140737488355328))))] (fun K5 J5=>?_) ?_
 ·refine go3 ?_;refine sBB O (fun h3=>?_) (fun h3=>?_)
  ·have ph3:=of_decide_eq_true h3;refine go4 ?_;refine J5 _ _ pp_ s0 (bS (oH h3))
  have ph3:=of_decide_eq_false h3;refine go4 ?_;refine J5 _ _ pp_ s0 (bS (mO h3 O))
 intro g4;refine aN _ O (fun h5=>?_) (fun h5=>?_)
 ·refine go4 ?_;refine rt1 ?_;exact congrArg vS6 (show _=(lE a) from aC h5 O)
 refine go2 ?_;refine sV (.int .i64 1) O O (go4 ?_);refine sV (.bool true) O O (iK ?_);refine gJv [10,11,12,13,14,15] [(15,.bool (decide (140737488355328≤a.x.y.1)||decide (a.x.y.1≤(-140737488355328))))] (fun K9 J9=>?_) ?_
 ·refine go3 ?_;refine sBB O (fun h7=>?_) (fun h7=>?_)
  ·have ph7:=of_decide_eq_true h7;refine go4 ?_;refine J9 _ _ pp_ s0 (bS (oH h7))
  have ph7:=of_decide_eq_false h7;refine go4 ?_;refine J9 _ _ pp_ s0 (bS (mO h7 O))
 intro g8;refine aN _ O (fun h9=>?_) (fun h9=>?_)
 ·refine go4 ?_;refine rt1 ?_;exact congrArg vS6 (show _=(lE a) from aH h5 (aC h9 O))
 refine go2 ?_;refine sV (.int .i64 2) O O (go4 ?_);refine sV (.bool true) O O (iK ?_);refine gJv [10,11,12,13,14,15] [(15,.bool (decide (140737488355328≤a.x.z.1)||decide (a.x.z.1≤(-140737488355328))))] (fun K13 J13=>?_) ?_
 ·refine go3 ?_;refine sBB O (fun h11=>?_) (fun h11=>?_)
  ·have ph11:=of_decide_eq_true h11;refine go4 ?_;refine J13 _ _ pp_ s0 (bS (oH h11))
  have ph11:=of_decide_eq_false h11;refine go4 ?_;refine J13 _ _ pp_ s0 (bS (mO h11 O))
 intro g12;refine aN _ O (fun h13=>?_) (fun h13=>?_)
 ·refine go4 ?_;refine rt1 ?_;exact congrArg vS6 (show _=(lE a) from aH h5 (aH h9 (aC h13 O)))
 refine go2 ?_;refine sV (.int .i64 3) O O (go4 ?_);refine sV (.bool false) O O (go8 ?_);refine sQ (aX aE (IQ a.q) O) O (go2 ?_);rcases bt (uM a.q) with h14|h14
 ·refine W_f (fZ h14) O (go5 ?_);refine rt1 ?_;exact congrArg vS6 (show _=(lE a) from aH h5 (aH h9 (aH h13 (aC h14 O))))
 refine W_t (gA h14) O (go4 ?_);refine rt1 ?_;exact congrArg vS6 (show _=(lE a) from aH h5 (aH h9 (aH h13 (aH h14 O))))
theorem xM (a:Path) :
    Ret prog 51 [AV [cw a.from_.x.x.1,cw a.from_.x.y.1,cw a.from_.x.z.1,cw a.from_.q.x.1,cw a.from_.q.y.1,cw a.from_.q.z.1,cw a.from_.q.t.1,cw a.to_.x.x.1,cw a.to_.x.y.1,cw a.to_.x.z.1,cw a.to_.q.x.1,cw a.to_.q.y.1,cw a.to_.q.z.1,cw a.to_.q.t.1]] (.int .i64 ((pX a).1)):=by
 refine bJ (N:=13) func51 O O zz_ (fun w0=>?_);refine giI ?_;refine go2 ?_;intro b1 hb1;refine go3 ?_;refine gJv (rg [] 3 10) [(12,.bool (((lE a.from_).1 != 0)||((lE a.to_).1 != 0)))] (fun K2 J2=>?_) ?_
 ·refine go3 ?_;refine sQ (aX aE (uU a.from_) O) O (go_ ?_);refine sBB O (fun h3=>?_) (fun h3=>?_)
  ·refine go6 ?_;refine J2 _ _ pp_ s0 (bS (oH h3))
  refine go2 ?_;refine sQ (aX aE (uU a.to_) O) O (go3 ?_);refine J2 _ _ pp_ s0 (bS (mO h3 O))
 intro g4;refine aN _ O (fun h5=>?_) (fun h5=>?_)
 ·refine go4 ?_;refine rt1 ?_;exact congrArg vS6 (show _=(pX a) from aC h5 O)
 refine go5 ?_;refine rt1 ?_;exact congrArg vS6 (show _=(pX a) from aH h5 O)
theorem kI (a:Pose) (b:(A3 W)) :
  Ret prog 15 [AV [cw a.x.x.1,cw a.x.y.1,cw a.x.z.1,cw a.q.x.1,cw a.q.y.1,cw a.q.z.1,cw a.q.t.1],AV [cw b.x.1,cw b.y.1,cw b.z.1]] (AV [pI (((fA a b).x).n),pI (((fA a b).x).d),pI (((fA a b).y).n),pI (((fA a b).y).d),pI (((fA a b).z).n),pI (((fA a b).z).d)]):=by
 refine bJ (N:=13) func15 O O zz_ (fun w0=>?_);refine giI ?_;refine go2 ?_;intro b1 hb1;refine go_ ?_;intro b2 hb2;refine go_ ?_;intro b3 hb3;refine go_ ?_;refine nK (sd s0) 9 [8] [8] (go2 ?_);obtain ⟨r4,hr4⟩:=nm ((kG a.x):(A3 Rt));refine pC (AV [pI r4.x.n,pI r4.x.d,pI r4.y.n,pI r4.y.d,pI r4.z.n,pI r4.z.d]) aE (DM a.x) O O (by rw [hr4]) (go3 ?_);obtain ⟨r5,hr5⟩:=nm ((lA a.q b):(A3 Rt));refine pC (AV [pI r5.x.n,pI r5.x.d,pI r5.y.n,pI r5.y.d,pI r5.z.n,pI r5.z.d]) aE (GM a.q b) O O (by rw [hr5]) ?_;obtain ⟨r6,hr6⟩:=nm ((lV r4 r5):(A3 Rt));refine pC (AV [pI r6.x.n,pI r6.x.d,pI r6.y.n,pI r6.y.d,pI r6.z.n,pI r6.z.d]) aE (GQ r4 r5) O O (by rw [hr6]) (go3 ?_);refine rtX O (fF O m0 tyT O) ?_;exact (by subst_vars;rfl)
theorem n8 (a:I) :
    Ret prog 148 [AV [pI a]] (.bool (fO a)):=by
 refine bJ (N:=10) func148 O O zz_ (fun w0=>?_);refine giI ?_;refine go2 ?_;intro b1 hb1;refine go2 ?_;refine gJv (rg [] 2 8) [(2,.bool (!a.1.bad&&a.1.valid))] (fun K1 J1=>?_) ?_
 ·refine go4 ?_;rcases bt a.1.bad with h3|h3
  ·refine sB (fZ h3) O (go5 ?_);refine J1 _ _ pp_ s0 (bS (vO h3))
  refine sB (gA h3) O (go_ ?_);refine sC (.bool a.1.valid) aE (uB a.1 a.2) O O O (go3 ?_);refine J1 _ _ pp_ s0 (bS (rY h3 O))
 intro g4;refine go_ ?_;refine rt1 ?_;exact (by rfl)
theorem vH  (w:World)  :
  Calls prog 144 [].toArray w (fun e w'=>∃ v,e = .returned (v)∧Ext w w'∧Slo w.heap.size w' 33 elI v F_skewbackref08_bad):=by
 refine gQ (n:=3) (fun v=>v) func144 O O zz_ ?_;obtain ⟨w0,rfl⟩:=nm w;refine giI ?_;obtain ⟨q0,hq0⟩:=nm ((E Z.bad):I);refine go4 ?_;refine sC (AV [pI q0]) aE eA O O (by subst hq0;rfl) (bI O (cO [[pI q0]] [pI q0] DK lU rL O dd_ O O ⟨rfl,rfl,rfl,trivial⟩ O (fun b1 hb1=>go3 ?_)));refine rt1 ?_
 have hE:([q0]:(List I))=F_skewbackref08_bad:=by obtain rfl:=hq0.symm;exact rfl
 rw [← hE];exact ⟨_,rfl,⟨_,(sk sn),OwnG.lit (e:=elI) (l:=[q0]) (qs:=[pI q0]) hb1 O (Nat.le_of_ble_eq_true O) O⟩⟩
theorem AX (vl:Value) (l:(List I)) (w:World) (hl:Slr w elI vl l) (hpre:l.length≤200) :
    Calls prog 117 [vl].toArray w (fun e w'=>∃ v,e = .returned (v)∧Ext w w'∧Slo w.heap.size w' 33 elI v (eH l)):=by
 obtain ⟨p_l,c_l,rfl⟩:=hl.form;refine gQ (n:=45) (fun v=>v) func117 O O zz_ ?_;obtain ⟨w0,rfl⟩:=nm w;have Hl:=hl.old;have hm_l:=hl.max;refine giI ?_;refine iK ?_;refine gJ3 (rg [2,3,4,5] 8 21) (fun g M=>∃ (last:Int) (i:Nat),(gE l (l.length+1) (-1) 0) = .inl (last,i)∧(last<(l.length:Int)∧-1≤last)∧(g 3 = .int .i64 last∧g 4 = .int .i64 (i:Int))∧M=[]) (fun K_u1 hK_u1=>?_) ?_
 ·refine go_ ?_;refine cI (rg [2,3,4,5] 8 21) (fun g nn M=>∃ (last:Int) (i:Nat),(gE l nn last i)=(gE l (l.length+1) (-1) 0)∧l.length - i<nn∧(i≤l.length∧last<(i:Int)∧-1≤last)∧(g 3 = .int .i64 last∧g 4 = .int .i64 (i:Int))∧M=[]) (l.length+1) ?start ?round
  case start=>exact ⟨_,s0,(-1),0,rfl,o1_,o1_,⟨rfl,rfl⟩,rfl⟩
  case round =>
   rintro nn g M ⟨last,i,hT0,hq0,hinv0,⟨hg3,hg4⟩,rfl⟩;obtain ⟨k0,rfl⟩:∃ m,nn=m+1:=⟨nn - 1,by omega⟩;refine gS2 hg3 hg4 ?_;clear hg3 hg4;refine go4 ?_;refine sQ (eK vK O (SLe.sub Hl sn)) O (go2 ?_);refine aN _ O (fun h16=>?_) (fun h16=>?_)
   ·have ph16:=of_decide_eq_true h16;refine go6 ?_;refine sQ (aS (v':=.pointer (some (slb (.slice p_l l.length c_l) (i*18+0)))) (eY (e:=elI) (l:=l) (k:=i) vK O O (SLe.sub Hl sn) o2_) O) O ?_;refine sQ (iS (e:=elI) (l:=l) (k:=i) (o:=0) tyT O (SLe.sub Hl sn) (cL I0 o2_) O) O ?_;refine sQ (aX aE (n8 (l.getD i I0)) O) O (go7 ?_);rcases bt (fO (l.getD i I0)) with h17|h17
    ·refine W_f (fZ h17) O (go4 ?_);refine sQ (aS (v':=.pointer (some (slb (.slice p_l l.length c_l) (i*18+0)))) (eY (e:=elI) (l:=l) (k:=i) vK O O (SLe.sub Hl sn) o2_) O) O ?_;refine sQ (iS (e:=elI) (l:=l) (k:=i) (o:=0) tyT O (SLe.sub Hl sn) (cL I0 o2_) O) O ?_;refine sC (.int .i64 ((Z.signW (l.getD i I0).dec).1)) aE (fK (l.getD i I0).1 (l.getD i I0).2) O O O (go2 ?_);refine aN _ O (fun h18=>?_) (fun h18=>?_)
     ·refine go6 ?_;refine sWi (((i+1):Nat):Int) O (go2 ?_);refine ⟨pp_,_,_,s0,(Nat.lt_succ_self _),(i:Int),(i+1),(by exact (hT0.symm.trans (Eq.symm (aC h16 (aC h17 (aC h18 O))))).symm),(Nat.lt_of_lt_of_le o1_ (Nat.le_of_lt_succ hq0)),o1_,⟨rfl,rfl⟩,rfl⟩
     refine go3 ?_;refine sWi (((i+1):Nat):Int) O (go2 ?_);refine ⟨pp_,_,_,s0,(Nat.lt_succ_self _),last,(i+1),(by exact (hT0.symm.trans (Eq.symm (aC h16 (aC h17 (aH h18 O))))).symm),(Nat.lt_of_lt_of_le o1_ (Nat.le_of_lt_succ hq0)),o1_,⟨rfl,rfl⟩,rfl⟩
    refine W_t (gA h17) O (go_ ?_);refine bI O (cG (E:=33) (e:=elI) (l:=F_skewbackref08_bad) (fun v=>v) aE O (fun w hw=>vH  w) (fun p19 c20 L21 hF22=>go3 ?_));refine rt1 ?_
    have hE:(F_skewbackref08_bad:(List I))=(eH l):=by exact (wQ O (hT0.symm.trans (Eq.symm (aC h16 (aH h17 O)))))
    rw [← hE];exact ⟨_,rfl,⟨L21,lZ,hF22⟩⟩
   have ph16:=of_decide_eq_false h16;refine go_ ?_;refine hK_u1 _ _ pp_ ⟨_,s0,last,i,(by exact hT0.symm.trans (Eq.symm (aH h16 O))),o1_,⟨rfl,rfl⟩,rfl⟩
 rintro g M ⟨last,i,hCu1,hPu1,⟨hg3,hg4⟩,rfl⟩;refine gS2 hg3 hg4 ?_;clear hg3 hg4;refine go5 ?_;refine aN _ O (fun h23=>?_) (fun h23=>?_)
 ·have ph23:=of_decide_eq_true h23;refine go_ ?_;refine bI O (cG (E:=33) (e:=elI) (l:=F_skewbackref08_bad) (fun v=>v) aE O (fun w hw=>vH  w) (fun p24 c25 L26 hF27=>go3 ?_));refine rt1 ?_
  have hE:(F_skewbackref08_bad:(List I))=(eH l):=by exact trs (Eq.symm (smS hCu1)) (aC h23 O)
  rw [← hE];exact ⟨_,rfl,⟨L26,lZ,hF27⟩⟩
 have ph23:=of_decide_eq_false h23;refine go8 ?_;refine gJ3 (rg [6,7] 32 12) (fun g M=>∃ (out:List I) (j:Nat) (p_out:Option Addr) (c_out:Nat) (L_out:List Blk),(gY l last i ((last+1).toNat+1) ([]:List I) 0)=(out,j)∧(g 6 = .slice p_out out.length c_out∧g 7 = .int .i64 (j:Int)∧OwnG w0 33 elI (.slice p_out out.length c_out) out L_out)∧M=(L_out++[])) (fun K_u28 hK_u28=>?_) ?_
 ·refine go_ ?_;refine cI (rg [6,7] 32 12) (fun g nn M=>∃ (out:List I) (j:Nat) (p_out:Option Addr) (c_out:Nat) (L_out:List Blk),(gY l last i nn out j)=(gY l last i ((last+1).toNat+1) ([]:List I) 0)∧(last+1).toNat - j<nn∧((j:Int)≤last+1∧out.length=j)∧(g 6 = .slice p_out out.length c_out∧g 7 = .int .i64 (j:Int)∧OwnG w0 33 elI (.slice p_out out.length c_out) out L_out)∧M=(L_out++[])) ((last+1).toNat+1) ?start ?round
  case start=>exact ⟨_,s0,([]:List I),0,none,0,[],rfl,o1_,o1_,⟨rfl,rfl,OwnG.nil⟩,rfl⟩
  case round =>
   rintro nn g M ⟨out,j,p_out,c_out,L_out,hT1,hq1,hinv1,⟨hg6,hg7,hO_out⟩,rfl⟩;obtain ⟨k1,rfl⟩:∃ m,nn=m+1:=⟨nn - 1,by omega⟩;refine gS2 hg6 hg7 ?_;clear hg6 hg7;have hm_out:=OwnG.max hO_out;refine go6 ?_;refine aN _ O (fun h35=>?_) (fun h35=>?_)
   ·have ph35:=of_decide_eq_true h35;refine go7 ?_;refine sQ (aS (v':=.pointer (some (slb (.slice p_l l.length c_l) (j*18+0)))) (eY (e:=elI) (l:=l) (k:=j) vK O O (SLe.sub Hl sn) o2_) O) O ?_;refine sQ (iS (e:=elI) (l:=l) (k:=j) (o:=0) tyT O (SLe.sub Hl sn) (cL I0 o2_) O) O ?_;refine bI O (cO [[pI (l.getD j I0)]] [pI (l.getD j I0)] DK lU rL O dd_ O O ⟨rfl,rfl,rfl,trivial⟩ O (fun b36 hb36=>bI O (mL (e:=elI) (l:=out) (m:=[(l.getD j I0)]) 68 DK (by kernel_rfl) dd_ O O hO_out (SLe.lit (e:=elI) (l:=[(l.getD j I0)]) m0 O (Nat.le_of_ble_eq_true O) O) (vD rE) (by simp only [List.length_append,List.length_cons,List.length_nil];omega) dd_ (fun p37 c38 L39 hO40=>?_))));refine go4 ?_;refine sWi (((j+1):Nat):Int) O (go2 ?_);refine ⟨pp_,_,_,(sA (sd s0)),(Nat.lt_succ_self _),(out++[(l.getD j I0)]),(j+1),p37,c38,L39,(by exact (hT1.symm.trans (Eq.symm (aC h35 O))).symm),(Nat.lt_of_lt_of_le o1_ (Nat.le_of_lt_succ hq1)),o1_,⟨rfl,rfl,hO40⟩,rfl⟩
   have ph35:=of_decide_eq_false h35;refine go_ ?_;refine hK_u28 _ _ pp_ ⟨_,s0,out,j,p_out,c_out,L_out,(by exact hT1.symm.trans (Eq.symm (aH h35 O))),⟨rfl,rfl,hO_out⟩,rfl⟩
 rintro g M ⟨out,j,p_out,c_out,L_out,hCu28,⟨hg6,hg7,hO_out⟩,rfl⟩;refine gS2 hg6 hg7 ?_;clear hg6 hg7;have hm_out:=OwnG.max hO_out;refine go5 ?_;refine rt1 ?_
 have hE:(out:(List I))=(eH l):=by exact trs (Eq.symm (smS hCu1)) (aH h23 (trs (Eq.symm (apS hCu28)) O))
 rw [← hE];exact ⟨_,rfl,⟨L_out,lZ,hO_out⟩⟩
theorem lQ (vl:Value) (l:(List W)) (w:World) (hl:Slr w elW vl l) (hpre:l.length≤200) :
    Calls prog 50 [vl].toArray w (fun e w'=>∃ v,e = .returned (v)∧Ext w w'∧Slo w.heap.size w' 33 elI v (dG l)):=by
 obtain ⟨p_l,c_l,rfl⟩:=hl.form;refine gQ (n:=21) (fun v=>v) func50 O O zz_ ?_;obtain ⟨w0,rfl⟩:=nm w;have Hl:=hl.old;have hm_l:=hl.max;refine giI ?_;refine iK ?_;refine gJ3 (rg [] 3 16) (fun g M=>∃ (out:List I) (i:Nat) (p_out:Option Addr) (c_out:Nat) (L_out:List Blk),(lB l (l.length+1) ([]:List I) 0)=(out,i)∧(out.length≤200)∧(g 3 = .slice p_out out.length c_out∧g 4 = .int .i64 (i:Int)∧OwnG w0 33 elI (.slice p_out out.length c_out) out L_out)∧M=(L_out++[])) (fun K_u1 hK_u1=>?_) ?_
 ·refine go_ ?_;refine cI (rg [] 3 16) (fun g nn M=>∃ (out:List I) (i:Nat) (p_out:Option Addr) (c_out:Nat) (L_out:List Blk),(lB l nn out i)=(lB l (l.length+1) ([]:List I) 0)∧l.length - i<nn∧(i≤l.length∧out.length=i)∧(g 3 = .slice p_out out.length c_out∧g 4 = .int .i64 (i:Int)∧OwnG w0 33 elI (.slice p_out out.length c_out) out L_out)∧M=(L_out++[])) (l.length+1) ?start ?round
  case start=>exact ⟨_,s0,([]:List I),0,none,0,[],rfl,o1_,o1_,⟨rfl,rfl,OwnG.nil⟩,rfl⟩
  case round =>
   rintro nn g M ⟨out,i,p_out,c_out,L_out,hT0,hq0,hinv0,⟨hg3,hg4,hO_out⟩,rfl⟩;obtain ⟨k0,rfl⟩:∃ m,nn=m+1:=⟨nn - 1,by omega⟩;refine gS2 hg3 hg4 ?_;clear hg3 hg4;have hm_out:=OwnG.max hO_out;refine go4 ?_;refine sQ (eK jC O (SLe.sub Hl sn)) O (go2 ?_);refine aN _ O (fun h8=>?_) (fun h8=>?_)
   ·have ph8:=of_decide_eq_true h8;refine go7 ?_;refine sQ (aS (v':=.pointer (some (slb (.slice p_l l.length c_l) (i*1+0)))) (eY (e:=elW) (l:=l) (k:=i) jC O O (SLe.sub Hl sn) o2_) O) O ?_;refine sQ (u4 (u:=.int .i64 ((l.getD i W.z).1)) (e:=elW) (l:=l) (k:=i) (o:=0) tyT O (SLe.sub Hl sn) (cL W.z o2_) O) O ?_;refine sC (AV [pI (E (Z.of (l.getD i W.z).1))]) aE (dO (l.getD i W.z).1 (l.getD i W.z).2) O O O (bI O (cO [[pI (E (Z.of (l.getD i W.z).1))]] [pI (E (Z.of (l.getD i W.z).1))] tJ lU rL O dd_ O O ⟨rfl,rfl,rfl,trivial⟩ O (fun b9 hb9=>bI O (mL (e:=elI) (l:=out) (m:=[(E (Z.of (l.getD i W.z).1))]) 68 tJ (by kernel_rfl) dd_ O O hO_out (SLe.lit (e:=elI) (l:=[(E (Z.of (l.getD i W.z).1))]) m0 O (Nat.le_of_ble_eq_true O) O) (vD rE) (by simp only [List.length_append,List.length_cons,List.length_nil];omega) dd_ (fun p10 c11 L12 hO13=>?_)))));refine go4 ?_;refine sWi (((i+1):Nat):Int) O (go2 ?_);refine ⟨pp_,_,_,(sA (sd s0)),(Nat.lt_succ_self _),(out++[(E (Z.of (l.getD i W.z).1))]),(i+1),p10,c11,L12,(by exact (hT0.symm.trans (Eq.symm (aC h8 O))).symm),(Nat.lt_of_lt_of_le o1_ (Nat.le_of_lt_succ hq0)),o1_,⟨rfl,rfl,hO13⟩,rfl⟩
   have ph8:=of_decide_eq_false h8;refine go_ ?_;refine hK_u1 _ _ pp_ ⟨_,s0,out,i,p_out,c_out,L_out,(by exact hT0.symm.trans (Eq.symm (aH h8 O))),o1_,⟨rfl,rfl,hO_out⟩,rfl⟩
 rintro g M ⟨out,i,p_out,c_out,L_out,hCu1,hPu1,⟨hg3,hg4,hO_out⟩,rfl⟩;refine gS2 hg3 hg4 ?_;clear hg3 hg4;have hm_out:=OwnG.max hO_out;refine go2 ?_;refine bI O (cG (E:=33) (e:=elI) (l:=(eH out)) (fun v=>v) aE O (fun w hw=>AX _ out w (aO hw hO_out lZ) oo_) (fun p14 c15 L16 hF17=>?_));have hb18:=(AW out);refine go3 ?_;refine rt1 ?_
 have hE:((eH out):(List I))=(dG l):=by exact (by unfold dG;exact trs (Eq.symm (apS hCu1)) O)
 rw [← hE];exact ⟨_,rfl,⟨L16,lZ,hF17⟩⟩
theorem AY (va:Value) (a:(List I)) (vb:Value) (b:(List I)) (w:World) (ha:Slr w elI va a) (hb:Slr w elI vb b) :
    Calls prog 78 [va,vb].toArray w (fun e w'=>e = .returned (.bool (lM a b))∧Ext w w'):=by
 obtain ⟨p_a,c_a,rfl⟩:=ha.form;obtain ⟨p_b,c_b,rfl⟩:=hb.form;refine dB (N:=26) func78 O O zz_ ?_;obtain ⟨w0,rfl⟩:=nm w;have Ha:=ha.old;have hm_a:=ha.max;have Hb:=hb.old;have hm_b:=hb.max;refine giI ?_;refine go6 ?_;refine sQ (eK vK O (SLe.sub Ha sn)) O (go_ ?_);refine sQ (eK vK O (SLe.sub Hb sn)) O (go2 ?_);refine aN _ O (fun h1=>?_) (fun h1=>?_)
 ·have ph2:=b3_ h1;refine go4 ?_;refine rt1 ?_;exact congrArg vS1 (show _=(lM a b) from aC h1 O)
 have ph3:=b2_ h1;refine go5 ?_;refine gJ3 (rg [4,5] 11 15) (fun g M=>∃ (i:Nat),(kA a b (a.length+1) 0) = .inl i∧(g 5 = .int .i64 (i:Int))∧M=[]) (fun K_u4 hK_u4=>?_) ?_
 ·refine go_ ?_;refine cI (rg [4,5] 11 15) (fun g nn M=>∃ (i:Nat),(kA a b nn i)=(kA a b (a.length+1) 0)∧a.length - i<nn∧(i≤a.length)∧(g 5 = .int .i64 (i:Int))∧M=[]) (a.length+1) ?start ?round
  case start=>exact ⟨_,s0,0,rfl,o1_,o1_,rfl,rfl⟩
  case round =>
   rintro nn g M ⟨i,hT0,hq0,hinv0,hg5,rfl⟩;obtain ⟨k0,rfl⟩:∃ m,nn=m+1:=⟨nn - 1,by omega⟩;refine gS1 hg5 ?_;clear hg5;refine go4 ?_;refine sQ (eK vK O (SLe.sub Ha sn)) O (go2 ?_);refine aN _ O (fun h9=>?_) (fun h9=>?_)
   ·have ph9:=of_decide_eq_true h9;refine go3 ?_;refine nK sn 9 [] [] (go2 ?_);refine pQ O (aS (v':=.pointer (some (slb (.slice p_a a.length c_a) (i*18+0)))) (eY (e:=elI) (l:=a) (k:=i) vK O O (SLe.sub Ha sn) o2_) O) ?_;refine pQ O (iS (e:=elI) (l:=a) (k:=i) (o:=0) tyT O (SLe.sub Ha sn) (cL I0 o2_) O) ?_;refine go2 ?_;refine pQ O (aS (v':=.pointer (some (slb (.slice p_b b.length c_b) (i*18+0)))) (eY (e:=elI) (l:=b) (k:=i) vK O O (SLe.sub Hb sn) o2_) O) ?_;refine pQ O (iS (e:=elI) (l:=b) (k:=i) (o:=0) tyT O (SLe.sub Hb sn) (cL I0 o2_) O) ?_;refine pQ O (yW (r:=decide ((a.getD i I0)=(b.getD i I0))) O O (dR 8 dd_ SS S6 (cM bG) (cM bG) (eJ cY))) (go_ ?_);rcases bt (decide ((a.getD i I0)=(b.getD i I0))) with h10|h10
    ·have ph10:=of_decide_eq_true h10;refine W_f (fZ h10) O (go3 ?_);refine sWi (((i+1):Nat):Int) O (go2 ?_);refine ⟨pp_,_,_,s0,(Nat.lt_succ_self _),(i+1),(by exact (hT0.symm.trans (Eq.symm (aC h9 (aC h10 O)))).symm),(Nat.lt_of_lt_of_le o1_ (Nat.le_of_lt_succ hq0)),o1_,rfl,rfl⟩
    have ph10:=of_decide_eq_false h10;refine W_t (gA h10) O (go4 ?_);refine rt1 ?_;exact congrArg vS1 (show _=(lM a b) from aH h1 (wQ O (hT0.symm.trans (Eq.symm (aC h9 (aH h10 O))))))
   have ph9:=of_decide_eq_false h9;refine go_ ?_;refine hK_u4 _ _ pp_ ⟨_,s0,i,(by exact hT0.symm.trans (Eq.symm (aH h9 O))),rfl,rfl⟩
 rintro g M ⟨i,hCu4,hg5,rfl⟩;refine gS1 hg5 ?_;clear hg5;refine go4 ?_;refine rt1 ?_;exact congrArg vS1 (show _=(lM a b) from aH h1 (trs (Eq.symm (smS hCu4)) O))
end Go.Proofs.YtbjlhfochebmiaaGreatDoor
