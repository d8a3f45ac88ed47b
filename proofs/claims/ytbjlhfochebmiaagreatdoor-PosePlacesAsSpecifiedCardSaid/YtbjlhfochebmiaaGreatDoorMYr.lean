/- Lemmas: what they ask stands in their statements. -/
import Derived.Test.YtbjlhfochebmiaaGreatDoorMQa
set_option linter.unusedSimpArgs false
set_option linter.unusedVariables false
set_option maxHeartbeats 8000000
set_option maxRecDepth 20000
namespace Go.Proofs.YtbjlhfochebmiaaGreatDoor
open Go.Kn Go.Num Tryz
attribute [local irreducible] Go.Kn.W WL PL OpQ OpR OpS
theorem nS (a:I) :
    Ret prog 148 [AV [pI a]] (.bool (fT a)):=by
 refine bA (N:=10) func148 O O zz_ (fun w0=>?_);refine giI ?_;refine go2 ?_;intro b1 hb1;refine go2 ?_;refine gJv (rg [] 2 8) [(2,.bool (!a.1.bad&&a.1.valid))] (fun K1 J1=>?_) ?_
 ·refine go4 ?_;rcases bt a.1.bad with h3|h3
  ·refine sB (gG h3) O (go5 ?_);refine J1 _ _ pp_ s0 (bQ (yA h3))
  refine sB (gD h3) O (go_ ?_);refine sC (.bool a.1.valid) aE (vP a.1 a.2) O O O (go3 ?_);refine J1 _ _ pp_ s0 (bQ (u3 h3 O))
 intro g4;refine go_ ?_;refine rt1 ?_;exact (by rfl)
theorem mL  (w:World)  :
  Calls prog 144 [].toArray w (fun e w'=>∃ v,e = .returned (v)∧Ext w w'∧Slo w.heap.size w' 33 elI v F_skewbackref08_bad):=by
 refine eQ (n:=3) (fun v=>v) func144 O O zz_ ?_;obtain ⟨w0,rfl⟩:=nm w;refine giI ?_;obtain ⟨q0,hq0⟩:=nm ((E Z.bad):I);refine go4 ?_;refine sC (AV [pI q0]) aE dS O O (by subst hq0;rfl) (aY O (cA [[pI q0]] [pI q0] ET mX rN O dd_ O O ⟨rfl,rfl,rfl,trivial⟩ O (fun b1 hb1=>go3 ?_)));refine rt1 ?_
 have hE:([q0]:(List I))=F_skewbackref08_bad:=by obtain rfl:=hq0.symm;exact rfl
 rw [← hE];exact ⟨_,rfl,⟨_,(sk sn),OwnG.lit (e:=elI) (l:=[q0]) (qs:=[pI q0]) hb1 O (Nat.le_of_ble_eq_true O) O⟩⟩
theorem nR (vl:Value) (l:(List I)) (w:World) (hl:Slr w elI vl l) (hpre:l.length≤200) :
    Calls prog 117 [vl].toArray w (fun e w'=>∃ v,e = .returned (v)∧Ext w w'∧Slo w.heap.size w' 33 elI v (cY l)):=by
 obtain ⟨p_l,c_l,rfl⟩:=hl.form;refine eQ (n:=45) (fun v=>v) func117 O O zz_ ?_;obtain ⟨w0,rfl⟩:=nm w;have Hl:=hl.old;have hm_l:=hl.max;refine giI ?_;refine jE ?_;refine gJ3 (rg [2,3,4,5] 8 21) (fun g M=>∃ (last:Int) (i:Nat),(hS l (l.length+1) (-1) 0) = .inl (last,i)∧(last<(l.length:Int)∧-1≤last)∧(g 3 = .int .i64 last∧g 4 = .int .i64 (i:Int))∧M=[]) (fun K_u1 hK_u1=>?_) ?_
 ·refine go_ ?_;refine cE (rg [2,3,4,5] 8 21) (fun g nn M=>∃ (last:Int) (i:Nat),(hS l nn last i)=(hS l (l.length+1) (-1) 0)∧l.length - i<nn∧(i≤l.length∧last<(i:Int)∧-1≤last)∧(g 3 = .int .i64 last∧g 4 = .int .i64 (i:Int))∧M=[]) (l.length+1) ?start ?round
  case start=>exact ⟨_,s0,(-1),0,rfl,o1_,o1_,⟨rfl,rfl⟩,rfl⟩
  case round =>
   rintro nn g M ⟨last,i,hT0,hq0,hinv0,⟨hg3,hg4⟩,rfl⟩;obtain ⟨k0,rfl⟩:∃ m,nn=m+1:=⟨nn - 1,by omega⟩;refine gS2 hg3 hg4 ?_;clear hg3 hg4;refine go4 ?_;refine sQ (dV w6 O (SLe.sub Hl sn)) O (go2 ?_);refine aL _ O (fun h16=>?_) (fun h16=>?_)
   ·have ph16:=of_decide_eq_true h16;refine go6 ?_;refine sQ (aM (v':=.pointer (some (slb (.slice p_l l.length c_l) (i*18+0)))) (eD (e:=elI) (l:=l) (k:=i) w6 O O (SLe.sub Hl sn) o2_) O) O ?_;refine sQ (gE (e:=elI) (l:=l) (k:=i) (o:=0) tyT O (SLe.sub Hl sn) (bS I0 o2_) O) O ?_;refine sQ (aX aE (nS (l.getD i I0)) O) O (go7 ?_);rcases bt (fT (l.getD i I0)) with h17|h17
    ·refine W_f (gG h17) O (go4 ?_);refine sQ (aM (v':=.pointer (some (slb (.slice p_l l.length c_l) (i*18+0)))) (eD (e:=elI) (l:=l) (k:=i) w6 O O (SLe.sub Hl sn) o2_) O) O ?_;refine sQ (gE (e:=elI) (l:=l) (k:=i) (o:=0) tyT O (SLe.sub Hl sn) (bS I0 o2_) O) O ?_;refine sC (.int .i64 ((Z.signW (l.getD i I0).dec).1)) aE (gH (l.getD i I0).1 (l.getD i I0).2) O O O (go2 ?_);refine aL _ O (fun h18=>?_) (fun h18=>?_)
     ·refine go6 ?_;refine sWi (((i+1):Nat):Int) O (go2 ?_);refine ⟨pp_,_,_,s0,(Nat.lt_succ_self _),(i:Int),(i+1),(by exact (hT0.symm.trans (Eq.symm (aQ h16 (aQ h17 (aQ h18 O))))).symm),(Nat.lt_of_lt_of_le o1_ (Nat.le_of_lt_succ hq0)),o1_,⟨rfl,rfl⟩,rfl⟩
     refine go3 ?_;refine sWi (((i+1):Nat):Int) O (go2 ?_);refine ⟨pp_,_,_,s0,(Nat.lt_succ_self _),last,(i+1),(by exact (hT0.symm.trans (Eq.symm (aQ h16 (aQ h17 (aN h18 O))))).symm),(Nat.lt_of_lt_of_le o1_ (Nat.le_of_lt_succ hq0)),o1_,⟨rfl,rfl⟩,rfl⟩
    refine W_t (gD h17) O (go_ ?_);refine aY O (aV (E:=33) (e:=elI) (l:=F_skewbackref08_bad) (fun v=>v) aE O (fun w hw=>mL  w) (fun p19 c20 L21 hF22=>go3 ?_));refine rt1 ?_
    have hE:(F_skewbackref08_bad:(List I))=(cY l):=by exact (CF O (hT0.symm.trans (Eq.symm (aQ h16 (aN h17 O)))))
    rw [← hE];exact ⟨_,rfl,⟨L21,lZ,hF22⟩⟩
   have ph16:=of_decide_eq_false h16;refine go_ ?_;refine hK_u1 _ _ pp_ ⟨_,s0,last,i,(by exact hT0.symm.trans (Eq.symm (aN h16 O))),o1_,⟨rfl,rfl⟩,rfl⟩
 rintro g M ⟨last,i,hCu1,hPu1,⟨hg3,hg4⟩,rfl⟩;refine gS2 hg3 hg4 ?_;clear hg3 hg4;refine go5 ?_;refine aL _ O (fun h23=>?_) (fun h23=>?_)
 ·have ph23:=of_decide_eq_true h23;refine go_ ?_;refine aY O (aV (E:=33) (e:=elI) (l:=F_skewbackref08_bad) (fun v=>v) aE O (fun w hw=>mL  w) (fun p24 c25 L26 hF27=>go3 ?_));refine rt1 ?_
  have hE:(F_skewbackref08_bad:(List I))=(cY l):=by exact trs (Eq.symm (smS hCu1)) (aQ h23 O)
  rw [← hE];exact ⟨_,rfl,⟨L26,lZ,hF27⟩⟩
 have ph23:=of_decide_eq_false h23;refine go8 ?_;refine gJ3 (rg [6,7] 32 12) (fun g M=>∃ (out:List I) (j:Nat) (p_out:Option Addr) (c_out:Nat) (L_out:List Blk),(jF l last i ((last+1).toNat+1) ([]:List I) 0)=(out,j)∧(g 6 = .slice p_out out.length c_out∧g 7 = .int .i64 (j:Int)∧OwnG w0 33 elI (.slice p_out out.length c_out) out L_out)∧M=(L_out++[])) (fun K_u28 hK_u28=>?_) ?_
 ·refine go_ ?_;refine cE (rg [6,7] 32 12) (fun g nn M=>∃ (out:List I) (j:Nat) (p_out:Option Addr) (c_out:Nat) (L_out:List Blk),(jF l last i nn out j)=(jF l last i ((last+1).toNat+1) ([]:List I) 0)∧(last+1).toNat - j<nn∧((j:Int)≤last+1∧out.length=j)∧(g 6 = .slice p_out out.length c_out∧g 7 = .int .i64 (j:Int)∧OwnG w0 33 elI (.slice p_out out.length c_out) out L_out)∧M=(L_out++[])) ((last+1).toNat+1) ?start ?round
  case start=>exact ⟨_,s0,([]:List I),0,none,0,[],rfl,o1_,o1_,⟨rfl,rfl,OwnG.nil⟩,rfl⟩
  case round =>
   rintro nn g M ⟨out,j,p_out,c_out,L_out,hT1,hq1,hinv1,⟨hg6,hg7,hO_out⟩,rfl⟩;obtain ⟨k1,rfl⟩:∃ m,nn=m+1:=⟨nn - 1,by omega⟩;refine gS2 hg6 hg7 ?_;clear hg6 hg7;have hm_out:=OwnG.max hO_out;refine go6 ?_;refine aL _ O (fun h35=>?_) (fun h35=>?_)
   ·have ph35:=of_decide_eq_true h35;refine go7 ?_;refine sQ (aM (v':=.pointer (some (slb (.slice p_l l.length c_l) (j*18+0)))) (eD (e:=elI) (l:=l) (k:=j) w6 O O (SLe.sub Hl sn) o2_) O) O ?_;refine sQ (gE (e:=elI) (l:=l) (k:=j) (o:=0) tyT O (SLe.sub Hl sn) (bS I0 o2_) O) O ?_;refine aY O (cA [[pI (l.getD j I0)]] [pI (l.getD j I0)] ET mX rN O dd_ O O ⟨rfl,rfl,rfl,trivial⟩ O (fun b36 hb36=>aY O (kG (e:=elI) (l:=out) (m:=[(l.getD j I0)]) 68 ET (by kernel_rfl) dd_ O O hO_out (SLe.lit (e:=elI) (l:=[(l.getD j I0)]) m0 O (Nat.le_of_ble_eq_true O) O) (rY nH) (by simp only [List.length_append,List.length_cons,List.length_nil];omega) dd_ (fun p37 c38 L39 hO40=>?_))));refine go4 ?_;refine sWi (((j+1):Nat):Int) O (go2 ?_);refine ⟨pp_,_,_,(sA (sd s0)),(Nat.lt_succ_self _),(out++[(l.getD j I0)]),(j+1),p37,c38,L39,(by exact (hT1.symm.trans (Eq.symm (aQ h35 O))).symm),(Nat.lt_of_lt_of_le o1_ (Nat.le_of_lt_succ hq1)),o1_,⟨rfl,rfl,hO40⟩,rfl⟩
   have ph35:=of_decide_eq_false h35;refine go_ ?_;refine hK_u28 _ _ pp_ ⟨_,s0,out,j,p_out,c_out,L_out,(by exact hT1.symm.trans (Eq.symm (aN h35 O))),⟨rfl,rfl,hO_out⟩,rfl⟩
 rintro g M ⟨out,j,p_out,c_out,L_out,hCu28,⟨hg6,hg7,hO_out⟩,rfl⟩;refine gS2 hg6 hg7 ?_;clear hg6 hg7;have hm_out:=OwnG.max hO_out;refine go5 ?_;refine rt1 ?_
 have hE:(out:(List I))=(cY l):=by exact trs (Eq.symm (smS hCu1)) (aN h23 (trs (Eq.symm (apS hCu28)) O))
 rw [← hE];exact ⟨_,rfl,⟨L_out,lZ,hO_out⟩⟩
theorem eG (vl:Value) (l:(List W)) (w:World) (hl:Slr w elW vl l) (hpre:l.length≤200) :
    Calls prog 50 [vl].toArray w (fun e w'=>∃ v,e = .returned (v)∧Ext w w'∧Slo w.heap.size w' 33 elI v (bI l)):=by
 obtain ⟨p_l,c_l,rfl⟩:=hl.form;refine eQ (n:=21) (fun v=>v) func50 O O zz_ ?_;obtain ⟨w0,rfl⟩:=nm w;have Hl:=hl.old;have hm_l:=hl.max;refine giI ?_;refine jE ?_;refine gJ3 (rg [] 3 16) (fun g M=>∃ (out:List I) (i:Nat) (p_out:Option Addr) (c_out:Nat) (L_out:List Blk),(mM l (l.length+1) ([]:List I) 0)=(out,i)∧(out.length≤200)∧(g 3 = .slice p_out out.length c_out∧g 4 = .int .i64 (i:Int)∧OwnG w0 33 elI (.slice p_out out.length c_out) out L_out)∧M=(L_out++[])) (fun K_u1 hK_u1=>?_) ?_
 ·refine go_ ?_;refine cE (rg [] 3 16) (fun g nn M=>∃ (out:List I) (i:Nat) (p_out:Option Addr) (c_out:Nat) (L_out:List Blk),(mM l nn out i)=(mM l (l.length+1) ([]:List I) 0)∧l.length - i<nn∧(i≤l.length∧out.length=i)∧(g 3 = .slice p_out out.length c_out∧g 4 = .int .i64 (i:Int)∧OwnG w0 33 elI (.slice p_out out.length c_out) out L_out)∧M=(L_out++[])) (l.length+1) ?start ?round
  case start=>exact ⟨_,s0,([]:List I),0,none,0,[],rfl,o1_,o1_,⟨rfl,rfl,OwnG.nil⟩,rfl⟩
  case round =>
   rintro nn g M ⟨out,i,p_out,c_out,L_out,hT0,hq0,hinv0,⟨hg3,hg4,hO_out⟩,rfl⟩;obtain ⟨k0,rfl⟩:∃ m,nn=m+1:=⟨nn - 1,by omega⟩;refine gS2 hg3 hg4 ?_;clear hg3 hg4;have hm_out:=OwnG.max hO_out;refine go4 ?_;refine sQ (dV j7 O (SLe.sub Hl sn)) O (go2 ?_);refine aL _ O (fun h8=>?_) (fun h8=>?_)
   ·have ph8:=of_decide_eq_true h8;refine go7 ?_;refine sQ (aM (v':=.pointer (some (slb (.slice p_l l.length c_l) (i*1+0)))) (eD (e:=elW) (l:=l) (k:=i) j7 O O (SLe.sub Hl sn) o2_) O) O ?_;refine sQ (wO (u:=.int .i64 ((l.getD i W.z).1)) (e:=elW) (l:=l) (k:=i) (o:=0) tyT O (SLe.sub Hl sn) (bS W.z o2_) O) O ?_;refine sC (AV [pI (E (Z.of (l.getD i W.z).1))]) aE (bW (l.getD i W.z).1 (l.getD i W.z).2) O O O (aY O (cA [[pI (E (Z.of (l.getD i W.z).1))]] [pI (E (Z.of (l.getD i W.z).1))] rI mX rN O dd_ O O ⟨rfl,rfl,rfl,trivial⟩ O (fun b9 hb9=>aY O (kG (e:=elI) (l:=out) (m:=[(E (Z.of (l.getD i W.z).1))]) 68 rI (by kernel_rfl) dd_ O O hO_out (SLe.lit (e:=elI) (l:=[(E (Z.of (l.getD i W.z).1))]) m0 O (Nat.le_of_ble_eq_true O) O) (rY nH) (by simp only [List.length_append,List.length_cons,List.length_nil];omega) dd_ (fun p10 c11 L12 hO13=>?_)))));refine go4 ?_;refine sWi (((i+1):Nat):Int) O (go2 ?_);refine ⟨pp_,_,_,(sA (sd s0)),(Nat.lt_succ_self _),(out++[(E (Z.of (l.getD i W.z).1))]),(i+1),p10,c11,L12,(by exact (hT0.symm.trans (Eq.symm (aQ h8 O))).symm),(Nat.lt_of_lt_of_le o1_ (Nat.le_of_lt_succ hq0)),o1_,⟨rfl,rfl,hO13⟩,rfl⟩
   have ph8:=of_decide_eq_false h8;refine go_ ?_;refine hK_u1 _ _ pp_ ⟨_,s0,out,i,p_out,c_out,L_out,(by exact hT0.symm.trans (Eq.symm (aN h8 O))),o1_,⟨rfl,rfl,hO_out⟩,rfl⟩
 rintro g M ⟨out,i,p_out,c_out,L_out,hCu1,hPu1,⟨hg3,hg4,hO_out⟩,rfl⟩;refine gS2 hg3 hg4 ?_;clear hg3 hg4;have hm_out:=OwnG.max hO_out;refine go2 ?_;refine aY O (aV (E:=33) (e:=elI) (l:=(cY out)) (fun v=>v) aE O (fun w hw=>nR _ out w (aO hw hO_out lZ) oo_) (fun p14 c15 L16 hF17=>?_));have hb18:=(nQ out);refine go3 ?_;refine rt1 ?_
 have hE:((cY out):(List I))=(bI l):=by exact (by unfold bI;exact trs (Eq.symm (apS hCu1)) O)
 rw [← hE];exact ⟨_,rfl,⟨L16,lZ,hF17⟩⟩
theorem jM (vp:Value) (p:(List I)) (w:World) (hp:Slr w elI vp p) :
    Calls prog 143 [vp].toArray w (fun e w'=>e = .returned (.bool (bX p))∧Ext w w'):=by
 obtain ⟨p_p,c_p,rfl⟩:=hp.form;refine dL (N:=18) func143 O O zz_ ?_;obtain ⟨w0,rfl⟩:=nm w;have Hp:=hp.old;have hm_p:=hp.max;refine giI ?_;refine go7 ?_;refine gJ3 (rg [] 2 16) (fun g M=>∃ (i:Nat),(gU p (p.length+1) 0) = .inl i∧(g 3 = .int .i64 (i:Int))∧M=[]) (fun K_u1 hK_u1=>?_) ?_
 ·refine go_ ?_;refine cE (rg [] 2 16) (fun g nn M=>∃ (i:Nat),(gU p nn i)=(gU p (p.length+1) 0)∧p.length - i<nn∧(i≤p.length)∧(g 3 = .int .i64 (i:Int))∧M=[]) (p.length+1) ?start ?round
  case start=>exact ⟨_,s0,0,rfl,o1_,o1_,rfl,rfl⟩
  case round =>
   rintro nn g M ⟨i,hT0,hq0,hinv0,hg3,rfl⟩;obtain ⟨k0,rfl⟩:∃ m,nn=m+1:=⟨nn - 1,by omega⟩;refine gS1 hg3 ?_;clear hg3;refine go4 ?_;refine sQ (dV kI O (SLe.sub Hp sn)) O (go2 ?_);refine aL _ O (fun h6=>?_) (fun h6=>?_)
   ·have ph6:=of_decide_eq_true h6;refine go6 ?_;refine sQ (aM (v':=.pointer (some (slb (.slice p_p p.length c_p) (i*18+0)))) (eD (e:=elI) (l:=p) (k:=i) kI O O (SLe.sub Hp sn) o2_) O) O ?_;refine sQ (gE (e:=elI) (l:=p) (k:=i) (o:=0) tyT O (SLe.sub Hp sn) (bS I0 o2_) O) O ?_;refine sQ (aX aE (nS (p.getD i I0)) O) O (go6 ?_);rcases bt (fT (p.getD i I0)) with h7|h7
    ·refine W_f (gG h7) O (go3 ?_);refine sWi (((i+1):Nat):Int) O (go2 ?_);refine ⟨pp_,_,_,s0,(Nat.lt_succ_self _),(i+1),(by exact (hT0.symm.trans (Eq.symm (aQ h6 (aQ h7 O)))).symm),(Nat.lt_of_lt_of_le o1_ (Nat.le_of_lt_succ hq0)),o1_,rfl,rfl⟩
    refine W_t (gD h7) O (go4 ?_);refine rt1 ?_;exact congrArg vS2 (show _=(bX p) from (CF O (hT0.symm.trans (Eq.symm (aQ h6 (aN h7 O))))))
   have ph6:=of_decide_eq_false h6;refine go_ ?_;refine hK_u1 _ _ pp_ ⟨_,s0,i,(by exact hT0.symm.trans (Eq.symm (aN h6 O))),rfl,rfl⟩
 rintro g M ⟨i,hCu1,hg3,rfl⟩;refine gS1 hg3 ?_;clear hg3;refine go4 ?_;refine rt1 ?_;exact congrArg vS2 (show _=(bX p) from trs (Eq.symm (smS hCu1)) O)
theorem rH (vp:Value) (p:(List I)) (k:Int) (w:World) (hp:Slr w elI vp p) :
    Calls prog 147 [vp,.int .i64 k].toArray w (fun e w'=>e = .returned (AV [pI (dK p k)])∧Ext w w'):=by
 obtain ⟨p_p,c_p,rfl⟩:=hp.form;refine dL (N:=18) func147 O O zz_ ?_;obtain ⟨w0,rfl⟩:=nm w;have Hp:=hp.old;have hm_p:=hp.max;refine giI ?_;refine go2 ?_;intro b1 hb1;refine go2 ?_;refine gJv (rg [] 5 8) [(12,.bool (decide (k<0)||decide ((p.length:Int)≤k)))] (fun K2 J2=>?_) ?_
 ·refine go3 ?_;refine sBB O (fun h3=>?_) (fun h3=>?_)
  ·have ph3:=of_decide_eq_true h3;refine go6 ?_;refine J2 _ _ pp_ s0 (bQ (o9 h3))
  have ph3:=of_decide_eq_false h3;refine go2 ?_;refine sQ (dV kI O (SLe.sub Hp sn)) O (go3 ?_);refine J2 _ _ pp_ s0 (bQ (nA h3 O))
 intro g4;refine aL _ O (fun h5=>?_) (fun h5=>?_)
 ·refine go5 ?_;refine rtX O (eR O m0 tyT O) ?_;exact congrArg vS4 (show _=(dK p k) from aQ h5 O)
 have ph6:=of_decide_eq_false (Bool.or_eq_false_iff.1 h5).1;have ph7:=of_decide_eq_false (Bool.or_eq_false_iff.1 h5).2;refine go4 ?_;refine sQ (aM (v':=.pointer (some (slb (.slice p_p p.length c_p) ((k.toNat)*18+0)))) (zF (e:=elI) (l:=p) (k:=(k).toNat) kI O O oo_ (SLe.sub Hp sn) o2_) O) O ?_;refine sQ (gE (e:=elI) (l:=p) (k:=(k).toNat) (o:=0) tyT O (SLe.sub Hp sn) (bS I0 o2_) O) O ?_;refine go3 ?_;refine rtX O (eR O m0 tyT O) ?_;exact congrArg vS4 (show _=(dK p k) from aN h5 O)
theorem eV (vp:Value) (p:(List I)) (vq:Value) (q:(List I)) (w:World) (hp:Slr w elI vp p) (hq:Slr w elI vq q) (hpre:p.length≤100∧q.length≤100) :
    Calls prog 73 [vp,vq].toArray w (fun e w'=>∃ v,e = .returned (v)∧Ext w w'∧Slo w.heap.size w' 33 elI v (aP p q)):=by
 obtain ⟨p_p,c_p,rfl⟩:=hp.form;obtain ⟨p_q,c_q,rfl⟩:=hq.form;refine eQ (n:=35) (fun v=>v) func73 O O zz_ ?_;obtain ⟨w0,rfl⟩:=nm w;have Hp:=hp.old;have hm_p:=hp.max;have Hq:=hq.old;have hm_q:=hq.max;refine giI ?_;refine go4 ?_;refine gJv [7,8,9,10,11,12] [(12,.bool ((bX p)||(bX q)))] (fun K2 J2=>?_) ?_
 ·refine go2 ?_;refine sFc (.bool (bX p)) O (c1_ (jM _ p) Hp sn) O O ?_;refine sBB O (fun h2=>?_) (fun h2=>?_)
  ·refine go4 ?_;refine J2 _ _ pp_ s0 (bQ (o9 h2))
  refine go_ ?_;refine sFc (.bool (bX q)) O (c1_ (jM _ q) Hq sn) O O (go2 ?_);refine J2 _ _ pp_ s0 (bQ (nA h2 O))
 intro g3;refine aL _ O (fun h4=>?_) (fun h4=>?_)
 ·refine go_ ?_;refine aY O (aV (E:=33) (e:=elI) (l:=F_skewbackref08_bad) (fun v=>v) aE O (fun w hw=>mL  w) (fun p5 c6 L7 hF8=>go3 ?_));refine rt1 ?_
  have hE:(F_skewbackref08_bad:(List I))=(aP p q):=by exact aQ h4 O
  rw [← hE];exact ⟨_,rfl,⟨L7,lZ,hF8⟩⟩
 refine go8 ?_;refine gJ3 (rg [5,6] 14 19) (fun g M=>∃ (out:List I) (i:Nat) (p_out:Option Addr) (c_out:Nat) (L_out:List Blk),(iS p q ((max p.length q.length)+1) ([]:List I) 0)=(out,i)∧(out.length≤200)∧(g 5 = .slice p_out out.length c_out∧g 6 = .int .i64 (i:Int)∧OwnG w0 33 elI (.slice p_out out.length c_out) out L_out)∧M=(L_out++[])) (fun K_u9 hK_u9=>?_) ?_
 ·refine go_ ?_;refine cE (rg [5,6] 14 19) (fun g nn M=>∃ (out:List I) (i:Nat) (p_out:Option Addr) (c_out:Nat) (L_out:List Blk),(iS p q nn out i)=(iS p q ((max p.length q.length)+1) ([]:List I) 0)∧(max p.length q.length) - i<nn∧(i≤(max p.length q.length)∧out.length=i)∧(g 5 = .slice p_out out.length c_out∧g 6 = .int .i64 (i:Int)∧OwnG w0 33 elI (.slice p_out out.length c_out) out L_out)∧M=(L_out++[])) ((max p.length q.length)+1) ?start ?round
  case start=>exact ⟨_,s0,([]:List I),0,none,0,[],rfl,o1_,o1_,⟨rfl,rfl,OwnG.nil⟩,rfl⟩
  case round =>
   rintro nn g M ⟨out,i,p_out,c_out,L_out,hT0,hq0,hinv0,⟨hg5,hg6,hO_out⟩,rfl⟩;obtain ⟨k0,rfl⟩:∃ m,nn=m+1:=⟨nn - 1,by omega⟩;refine gS2 hg5 hg6 ?_;clear hg5 hg6;have hm_out:=OwnG.max hO_out;refine go4 ?_;refine sQ (dV kI O (SLe.sub Hp sn)) O (go_ ?_);refine sQ (dV kI O (SLe.sub Hq sn)) O (sQ (aM (v':=.int .i64 (((max (p.length) (q.length)):Nat):Int)) (mW O O) (congrArg (Value.int .i64) oo_)) O (go2 ?_));refine aL _ O (fun h17=>?_) (fun h17=>?_)
   ·have ph17:=of_decide_eq_true h17;refine go7 ?_;refine sFc (AV [pI (dK p (i:Int))]) O (c1_ (rH _ p (i:Int)) Hp sn) O O (go2 ?_);refine sFc (AV [pI (dK q (i:Int))]) O (c1_ (rH _ q (i:Int)) Hq sn) O O ?_;obtain ⟨r18,hr18⟩:=nm ((E (Z.add (dK p (i:Int)).dec (dK q (i:Int)).dec)):I);refine sC (AV [pI r18]) aE (n9 (dK p (i:Int)).1 (dK q (i:Int)).1 (dK p (i:Int)).2 (dK q (i:Int)).2) O O (by subst hr18;rfl) (aY O (cA [[pI r18]] [pI r18] rI mX rN O dd_ O O ⟨rfl,rfl,rfl,trivial⟩ O (fun b19 hb19=>aY O (kG (e:=elI) (l:=out) (m:=[r18]) 68 rI (by kernel_rfl) dd_ O O hO_out (SLe.lit (e:=elI) (l:=[r18]) m0 O (Nat.le_of_ble_eq_true O) O) (rY nH) (by simp only [List.length_append,List.length_cons,List.length_nil];omega) dd_ (fun p20 c21 L22 hO23=>?_)))));refine go4 ?_;refine sWi (((i+1):Nat):Int) O (go2 ?_);refine ⟨pp_,_,_,(sA (sd s0)),(Nat.lt_succ_self _),(out++[r18]),(i+1),p20,c21,L22,(by subst hr18;exact (hT0.symm.trans (Eq.symm (aQ h17 O))).symm),(Nat.lt_of_lt_of_le o1_ (Nat.le_of_lt_succ hq0)),o1_,⟨rfl,rfl,hO23⟩,rfl⟩
   have ph17:=of_decide_eq_false h17;refine go_ ?_;refine hK_u9 _ _ pp_ ⟨_,s0,out,i,p_out,c_out,L_out,(by exact hT0.symm.trans (Eq.symm (aN h17 O))),o1_,⟨rfl,rfl,hO_out⟩,rfl⟩
 rintro g M ⟨out,i,p_out,c_out,L_out,hCu9,hPu9,⟨hg5,hg6,hO_out⟩,rfl⟩;refine gS2 hg5 hg6 ?_;clear hg5 hg6;have hm_out:=OwnG.max hO_out;refine go2 ?_;refine aY O (aV (E:=33) (e:=elI) (l:=(cY out)) (fun v=>v) aE O (fun w hw=>nR _ out w (aO hw hO_out lZ) oo_) (fun p24 c25 L26 hF27=>?_));have hb28:=(nQ out);refine go3 ?_;refine rt1 ?_
 have hE:((cY out):(List I))=(aP p q):=by exact aN h4 (trs (Eq.symm (apS hCu9)) O)
 rw [← hE];exact ⟨_,rfl,⟨L26,lZ,hF27⟩⟩
theorem C3 (vp:Value) (p:(List I)) (vq:Value) (q:(List I)) (w:World) (hp:Slr w elI vp p) (hq:Slr w elI vq q) (hpre:p.length≤100∧q.length≤100) :
    Calls prog 200 [vp,vq].toArray w (fun e w'=>∃ v,e = .returned (v)∧Ext w w'∧Slo w.heap.size w' 33 elI v (jO p q)):=by
 obtain ⟨p_p,c_p,rfl⟩:=hp.form;obtain ⟨p_q,c_q,rfl⟩:=hq.form;refine eQ (n:=35) (fun v=>v) func200 O O zz_ ?_;obtain ⟨w0,rfl⟩:=nm w;have Hp:=hp.old;have hm_p:=hp.max;have Hq:=hq.old;have hm_q:=hq.max;refine giI ?_;refine go4 ?_;refine gJv [7,8,9,10,11,12] [(12,.bool ((bX p)||(bX q)))] (fun K2 J2=>?_) ?_
 ·refine go2 ?_;refine sFc (.bool (bX p)) O (c1_ (jM _ p) Hp sn) O O ?_;refine sBB O (fun h2=>?_) (fun h2=>?_)
  ·refine go4 ?_;refine J2 _ _ pp_ s0 (bQ (o9 h2))
  refine go_ ?_;refine sFc (.bool (bX q)) O (c1_ (jM _ q) Hq sn) O O (go2 ?_);refine J2 _ _ pp_ s0 (bQ (nA h2 O))
 intro g3;refine aL _ O (fun h4=>?_) (fun h4=>?_)
 ·refine go_ ?_;refine aY O (aV (E:=33) (e:=elI) (l:=F_skewbackref08_bad) (fun v=>v) aE O (fun w hw=>mL  w) (fun p5 c6 L7 hF8=>go3 ?_));refine rt1 ?_
  have hE:(F_skewbackref08_bad:(List I))=(jO p q):=by exact aQ h4 O
  rw [← hE];exact ⟨_,rfl,⟨L7,lZ,hF8⟩⟩
 refine go8 ?_;refine gJ3 (rg [5,6] 14 19) (fun g M=>∃ (out:List I) (i:Nat) (p_out:Option Addr) (c_out:Nat) (L_out:List Blk),(iU p q ((max p.length q.length)+1) ([]:List I) 0)=(out,i)∧(out.length≤200)∧(g 5 = .slice p_out out.length c_out∧g 6 = .int .i64 (i:Int)∧OwnG w0 33 elI (.slice p_out out.length c_out) out L_out)∧M=(L_out++[])) (fun K_u9 hK_u9=>?_) ?_
 ·refine go_ ?_;refine cE (rg [5,6] 14 19) (fun g nn M=>∃ (out:List I) (i:Nat) (p_out:Option Addr) (c_out:Nat) (L_out:List Blk),(iU p q nn out i)=(iU p q ((max p.length q.length)+1) ([]:List I) 0)∧(max p.length q.length) - i<nn∧(i≤(max p.length q.length)∧out.length=i)∧(g 5 = .slice p_out out.length c_out∧g 6 = .int .i64 (i:Int)∧OwnG w0 33 elI (.slice p_out out.length c_out) out L_out)∧M=(L_out++[])) ((max p.length q.length)+1) ?start ?round
  case start=>exact ⟨_,s0,([]:List I),0,none,0,[],rfl,o1_,o1_,⟨rfl,rfl,OwnG.nil⟩,rfl⟩
  case round =>
   rintro nn g M ⟨out,i,p_out,c_out,L_out,hT0,hq0,hinv0,⟨hg5,hg6,hO_out⟩,rfl⟩;obtain ⟨k0,rfl⟩:∃ m,nn=m+1:=⟨nn - 1,by omega⟩;refine gS2 hg5 hg6 ?_;clear hg5 hg6;have hm_out:=OwnG.max hO_out;refine go4 ?_;refine sQ (dV kI O (SLe.sub Hp sn)) O (go_ ?_);refine sQ (dV kI O (SLe.sub Hq sn)) O (sQ (aM (v':=.int .i64 (((max (p.length) (q.length)):Nat):Int)) (mW O O) (congrArg (Value.int .i64) oo_)) O (go2 ?_));refine aL _ O (fun h17=>?_) (fun h17=>?_)
   ·have ph17:=of_decide_eq_true h17;refine go7 ?_;refine sFc (AV [pI (dK p (i:Int))]) O (c1_ (rH _ p (i:Int)) Hp sn) O O (go2 ?_);refine sFc (AV [pI (dK q (i:Int))]) O (c1_ (rH _ q (i:Int)) Hq sn) O O ?_;obtain ⟨r18,hr18⟩:=nm ((E (Z.sub (dK p (i:Int)).dec (dK q (i:Int)).dec)):I);refine sC (AV [pI r18]) aE (C0 (dK p (i:Int)).1 (dK q (i:Int)).1 (dK p (i:Int)).2 (dK q (i:Int)).2) O O (by subst hr18;rfl) (aY O (cA [[pI r18]] [pI r18] rI mX rN O dd_ O O ⟨rfl,rfl,rfl,trivial⟩ O (fun b19 hb19=>aY O (kG (e:=elI) (l:=out) (m:=[r18]) 68 rI (by kernel_rfl) dd_ O O hO_out (SLe.lit (e:=elI) (l:=[r18]) m0 O (Nat.le_of_ble_eq_true O) O) (rY nH) (by simp only [List.length_append,List.length_cons,List.length_nil];omega) dd_ (fun p20 c21 L22 hO23=>?_)))));refine go4 ?_;refine sWi (((i+1):Nat):Int) O (go2 ?_);refine ⟨pp_,_,_,(sA (sd s0)),(Nat.lt_succ_self _),(out++[r18]),(i+1),p20,c21,L22,(by subst hr18;exact (hT0.symm.trans (Eq.symm (aQ h17 O))).symm),(Nat.lt_of_lt_of_le o1_ (Nat.le_of_lt_succ hq0)),o1_,⟨rfl,rfl,hO23⟩,rfl⟩
   have ph17:=of_decide_eq_false h17;refine go_ ?_;refine hK_u9 _ _ pp_ ⟨_,s0,out,i,p_out,c_out,L_out,(by exact hT0.symm.trans (Eq.symm (aN h17 O))),o1_,⟨rfl,rfl,hO_out⟩,rfl⟩
 rintro g M ⟨out,i,p_out,c_out,L_out,hCu9,hPu9,⟨hg5,hg6,hO_out⟩,rfl⟩;refine gS2 hg5 hg6 ?_;clear hg5 hg6;have hm_out:=OwnG.max hO_out;refine go2 ?_;refine aY O (aV (E:=33) (e:=elI) (l:=(cY out)) (fun v=>v) aE O (fun w hw=>nR _ out w (aO hw hO_out lZ) oo_) (fun p24 c25 L26 hF27=>?_));have hb28:=(nQ out);refine go3 ?_;refine rt1 ?_
 have hE:((cY out):(List I))=(jO p q):=by exact aN h4 (trs (Eq.symm (apS hCu9)) O)
 rw [← hE];exact ⟨_,rfl,⟨L26,lZ,hF27⟩⟩
theorem mK (vp:Value) (p:(List I)) (vq:Value) (q:(List I)) (w:World) (hp:Slr w elI vp p) (hq:Slr w elI vq q) (hpre:p.length≤100∧q.length≤100) :
    Calls prog 72 [vp,vq].toArray w (fun e w'=>∃ v,e = .returned (v)∧Ext w w'∧Slo w.heap.size w' 33 elI v (bO p q)):=by
 obtain ⟨p_p,c_p,rfl⟩:=hp.form;obtain ⟨p_q,c_q,rfl⟩:=hq.form;refine eQ (n:=71) (fun v=>v) func72 O O zz_ ?_;obtain ⟨w0,rfl⟩:=nm w;have Hp:=hp.old;have hm_p:=hp.max;have Hq:=hq.old;have hm_q:=hq.max;refine giI ?_;refine go4 ?_;refine gJv [9,10,11,12,13,14] [(14,.bool ((bX p)||(bX q)))] (fun K2 J2=>?_) ?_
 ·refine go2 ?_;refine sFc (.bool (bX p)) O (c1_ (jM _ p) Hp sn) O O ?_;refine sBB O (fun h2=>?_) (fun h2=>?_)
  ·refine go4 ?_;refine J2 _ _ pp_ s0 (bQ (o9 h2))
  refine go_ ?_;refine sFc (.bool (bX q)) O (c1_ (jM _ q) Hq sn) O O (go2 ?_);refine J2 _ _ pp_ s0 (bQ (nA h2 O))
 intro g3;refine aL _ O (fun h4=>?_) (fun h4=>?_)
 ·refine go_ ?_;refine aY O (aV (E:=33) (e:=elI) (l:=F_skewbackref08_bad) (fun v=>v) aE O (fun w hw=>mL  w) (fun p5 c6 L7 hF8=>go3 ?_));refine rt1 ?_
  have hE:(F_skewbackref08_bad:(List I))=(bO p q):=by exact aQ h4 O
  rw [← hE];exact ⟨_,rfl,⟨L7,lZ,hF8⟩⟩
 refine go2 ?_;refine gJv (rg [] 16 8) [(23,.bool (((p.length:Int)==0)||((q.length:Int)==0)))] (fun K4 J4=>?_) ?_
 ·refine go2 ?_;refine sQ (dV kI O (SLe.sub Hp sn)) O (go_ ?_);refine sBB O (fun h10=>?_) (fun h10=>?_)
  ·have ph10:=R9 h10;refine go5 ?_;refine J4 _ _ pp_ s0 (bQ (o9 h10))
  have ph10:=EZ h10;refine go_ ?_;refine sQ (dV kI O (SLe.sub Hq sn)) O (go3 ?_);refine J4 _ _ pp_ s0 (bQ (nA h10 O))
 intro g11;refine aL _ O (fun h12=>?_) (fun h12=>?_)
 ·refine go4 ?_;refine rt1 ?_
  have hE:(([]:List I):(List I))=(bO p q):=by exact aN h4 (aQ h12 O)
  rw [← hE];exact ⟨_,rfl,⟨[],sn,OwnG.nil⟩⟩
 have ph13:=EZ (Bool.or_eq_false_iff.1 h12).1;have ph14:=EZ (Bool.or_eq_false_iff.1 h12).2;refine go8 ?_;refine gJ3 (rg [5,6,7,8] 24 45) (fun g M=>∃ (out:List I) (k:Nat) (p_out:Option Addr) (c_out:Nat) (L_out:List Blk),(iT p q (p.length+q.length) ([]:List I) 0)=(out,k)∧(out.length≤200)∧(g 5 = .slice p_out out.length c_out∧g 6 = .int .i64 (k:Int)∧OwnG w0 33 elI (.slice p_out out.length c_out) out L_out)∧M=(L_out++[])) (fun K_u15 hK_u15=>?_) ?_
 ·refine go_ ?_;refine cE (rg [5,6,7,8] 24 45) (fun g nn M=>∃ (out:List I) (k:Nat) (p_out:Option Addr) (c_out:Nat) (L_out:List Blk),(iT p q nn out k)=(iT p q (p.length+q.length) ([]:List I) 0)∧p.length+q.length - 1 - k<nn∧(k≤p.length+q.length - 1∧out.length=k)∧(g 5 = .slice p_out out.length c_out∧g 6 = .int .i64 (k:Int)∧OwnG w0 33 elI (.slice p_out out.length c_out) out L_out)∧M=(L_out++[])) (p.length+q.length) ?start ?round
  case start=>exact ⟨_,s0,([]:List I),0,none,0,[],rfl,o1_,o1_,⟨rfl,rfl,OwnG.nil⟩,rfl⟩
  case round =>
   rintro nn g M ⟨out,k,p_out,c_out,L_out,hT0,hq0,hinv0,⟨hg5,hg6,hO_out⟩,rfl⟩;obtain ⟨k0,rfl⟩:∃ m,nn=m+1:=⟨nn - 1,by omega⟩;refine gS2 hg5 hg6 ?_;clear hg5 hg6;have hm_out:=OwnG.max hO_out;refine go4 ?_;refine sQ (dV kI O (SLe.sub Hp sn)) O (go_ ?_);refine sQ (dV kI O (SLe.sub Hq sn)) O (sWi (((p.length+(q).length):Nat):Int) O (sWi ((((p.length+(q).length):Nat):Int) - 1) O (go2 ?_)));refine aL _ O (fun h45=>?_) (fun h45=>?_)
   ·have ph45:=of_decide_eq_true h45;refine go6 ?_;intro b46 hb46;refine go6 ?_;refine gJ3 (rg [8] 35 30) (fun g M=>∃ (i:Nat) (mb46:I),(dE p q out k (k+2) 0 I0)=(i,mb46)∧(g 8 = .int .i64 (i:Int))∧M=(⟨b46,33,bB [pI mb46]⟩::(L_out++[]))) (fun K_u47 hK_u47=>?_) ?_
    ·refine go_ ?_;refine cE (rg [8] 35 30) (fun g nn M=>∃ (i:Nat) (mb46:I),(dE p q out k nn i mb46)=(dE p q out k (k+2) 0 I0)∧k+1 - i<nn∧(i≤k+1)∧(g 8 = .int .i64 (i:Int))∧M=(⟨b46,33,bB [pI mb46]⟩::(L_out++[]))) (k+2) ?start ?round
     case start=>exact ⟨_,s0,0,I0,rfl,o1_,o1_,rfl,rfl⟩
     case round =>
      rintro nn g M ⟨i,mb46,hT1,hq1,hinv1,hg8,rfl⟩;obtain ⟨k1,rfl⟩:∃ m,nn=m+1:=⟨nn - 1,by omega⟩;refine gS1 hg8 ?_;clear hg8;refine go6 ?_;refine aL _ O (fun h62=>?_) (fun h62=>?_)
      ·have ph62:=of_decide_eq_true h62;refine go3 ?_;refine gJv (rg [] 40 12) [(51,.bool (decide ((i:Int)<(p.length:Int))&&decide (((k:Int) - (i:Int))<(q.length:Int))))] (fun K29 J29=>?_) ?_
       ·refine go3 ?_;refine sQ (dV kI O (SLe.sub Hp sn)) O (go_ ?_);refine sBB O (fun h64=>?_) (fun h64=>?_)
        ·have ph64:=of_decide_eq_true h64;refine go2 ?_;refine sWi ((k:Int) - (i:Int)) O (go_ ?_);refine sQ (dV kI O (SLe.sub Hq sn)) O (go3 ?_);refine J29 _ _ pp_ s0 (bQ (lS h64 O))
        have ph64:=of_decide_eq_false h64;refine go8 ?_;refine J29 _ _ pp_ s0 (bQ (oY h64))
       intro g65;refine aL _ O (fun h66=>?_) (fun h66=>?_)
       ·have ph67:=of_decide_eq_true (Bool.and_eq_true_iff.1 h66).1;have ph68:=of_decide_eq_true (Bool.and_eq_true_iff.1 h66).2;refine kY (sd s0) 14 [13] [13] (go3 ?_);refine pQ O (aM (v':=.pointer (some (slb (.slice p_p p.length c_p) (i*18+0)))) (eD (e:=elI) (l:=p) (k:=i) kI O O (SLe.sub Hp sn) o2_) O) ?_;refine pQ O (gE (e:=elI) (l:=p) (k:=i) (o:=0) tyT O (SLe.sub Hp sn) (bS I0 o2_) O) ?_;refine go3 ?_;refine pV (.int .i64 ((k:Int) - (i:Int))) O wxo (pQ O (aM (v':=.pointer (some (slb (.slice p_q q.length c_q) ((k - i)*18+0)))) (zF (e:=elI) (l:=q) (k:=(k - i)) kI O O oo_ (SLe.sub Hq sn) o2_) O) ?_);refine pQ O (gE (e:=elI) (l:=q) (k:=(k - i)) (o:=0) tyT O (SLe.sub Hq sn) (bS I0 o2_) O) ?_;refine pC (AV [pI (E (Z.mul (p.getD i I0).dec (q.getD (k - i) I0).dec))]) aE (iH (p.getD i I0).1 (q.getD (k - i) I0).1 (p.getD i I0).2 (q.getD (k - i) I0).2) O O O (pC (AV [pI (E (Z.add mb46.dec (Z.mul (p.getD i I0).dec (q.getD (k - i) I0).dec)))]) aE (n9 mb46.1 (E (Z.mul (p.getD i I0).dec (q.getD (k - i) I0).dec)).1 mb46.2 (E (Z.mul (p.getD i I0).dec (q.getD (k - i) I0).dec)).2) O O (cg2 (fun p q=>AV [pI (E (Z.add p q))]) O (fA _)) (go4 ?_));refine sWi (((i+1):Nat):Int) O (go2 ?_);refine ⟨pp_,_,_,s0,(Nat.lt_succ_self _),(i+1),(E (Z.add mb46.dec (Z.mul (p.getD i I0).dec (q.getD (k - i) I0).dec))),(by exact (hT1.symm.trans (Eq.symm (aQ h62 (aQ h66 O)))).symm),(Nat.lt_of_lt_of_le o1_ (Nat.le_of_lt_succ hq1)),o1_,rfl,rfl⟩
       refine go3 ?_;refine sWi (((i+1):Nat):Int) O (go2 ?_);refine ⟨pp_,_,_,s0,(Nat.lt_succ_self _),(i+1),mb46,(by exact (hT1.symm.trans (Eq.symm (aQ h62 (aN h66 O)))).symm),(Nat.lt_of_lt_of_le o1_ (Nat.le_of_lt_succ hq1)),o1_,rfl,rfl⟩
      have ph62:=of_decide_eq_false h62;refine go_ ?_;refine hK_u47 _ _ pp_ ⟨_,s0,i,mb46,(by exact hT1.symm.trans (Eq.symm (aN h62 O))),rfl,rfl⟩
    rintro g M ⟨i,mb46,hCu47,hg8,rfl⟩;refine gS1 hg8 ?_;clear hg8;refine go3 ?_;refine aY O (cA [[pI mb46]] [pI mb46] rI mX rN O dd_ O O ⟨rfl,rfl,rfl,trivial⟩ O (fun b69 hb69=>aY O (kG (e:=elI) (l:=out) (m:=[mb46]) 68 rI (by kernel_rfl) dd_ O O hO_out (SLe.lit (e:=elI) (l:=[mb46]) m0 O (Nat.le_of_ble_eq_true O) O) (rY (rY nH)) (by simp only [List.length_append,List.length_cons,List.length_nil];omega) dd_ (fun p70 c71 L72 hO73=>?_))));refine go4 ?_;refine sWi (((k+1):Nat):Int) O (go2 ?_);refine ⟨pp_,_,_,(sA (sd (sd s0))),(Nat.lt_succ_self _),(out++[mb46]),(k+1),p70,c71,L72,(by exact (hT0.symm.trans (Eq.symm (aQ h45 (trs (Eq.symm (apS hCu47)) O)))).symm),(Nat.lt_of_lt_of_le o1_ (Nat.le_of_lt_succ hq0)),o1_,⟨rfl,rfl,hO73⟩,rfl⟩
   have ph45:=of_decide_eq_false h45;refine go_ ?_;refine hK_u15 _ _ pp_ ⟨_,s0,out,k,p_out,c_out,L_out,(by exact hT0.symm.trans (Eq.symm (aN h45 O))),o1_,⟨rfl,rfl,hO_out⟩,rfl⟩
 rintro g M ⟨out,k,p_out,c_out,L_out,hCu15,hPu15,⟨hg5,hg6,hO_out⟩,rfl⟩;refine gS2 hg5 hg6 ?_;clear hg5 hg6;have hm_out:=OwnG.max hO_out;refine go2 ?_;refine aY O (aV (E:=33) (e:=elI) (l:=(cY out)) (fun v=>v) aE O (fun w hw=>nR _ out w (aO hw hO_out lZ) oo_) (fun p74 c75 L76 hF77=>?_));have hb78:=(nQ out);refine go3 ?_;refine rt1 ?_
 have hE:((cY out):(List I))=(bO p q):=by exact aN h4 (aN h12 (trs (Eq.symm (apS hCu15)) O))
 rw [← hE];exact ⟨_,rfl,⟨L76,lZ,hF77⟩⟩
theorem fU (vp:Value) (p:(List I)) (n:I) (w:World) (hp:Slr w elI vp p) (hpre:p.length≤100) :
    Calls prog 74 [vp,AV [pI n]].toArray w (fun e w'=>∃ v,e = .returned (v)∧Ext w w'∧Slo w.heap.size w' 33 elI v (bG p n)):=by
 obtain ⟨p_p,c_p,rfl⟩:=hp.form;refine eQ (n:=32) (fun v=>v) func74 O O zz_ ?_;obtain ⟨w0,rfl⟩:=nm w;have Hp:=hp.old;have hm_p:=hp.max;refine giI ?_;refine go2 ?_;intro b1 hb1;refine go3 ?_;refine gJv [7,8,9,10,11,12,13] [(13,.bool ((bX p)||(!(fT n))))] (fun K2 J2=>?_) ?_
 ·refine go2 ?_;refine sFc (.bool (bX p)) O (c1_ (jM _ p) Hp sn) O O ?_;refine sBB O (fun h3=>?_) (fun h3=>?_)
  ·refine go5 ?_;refine J2 _ _ pp_ s0 (bQ (o9 h3))
  refine go_ ?_;refine sQ (aX aE (nS n) O) O (go3 ?_);refine J2 _ _ pp_ s0 (bQ (nA h3 O))
 intro g4;refine aL _ O (fun h5=>?_) (fun h5=>?_)
 ·refine go_ ?_;refine aY O (aV (E:=33) (e:=elI) (l:=F_skewbackref08_bad) (fun v=>v) aE O (fun w hw=>mL  w) (fun p6 c7 L8 hF9=>go3 ?_));refine rt1 ?_
  have hE:(F_skewbackref08_bad:(List I))=(bG p n):=by exact aQ h5 O
  rw [← hE];exact ⟨_,rfl,⟨L8,lZ,hF9⟩⟩
 refine go8 ?_;refine gJ3 (rg [5,6] 15 15) (fun g M=>∃ (out:List I) (i:Nat) (p_out:Option Addr) (c_out:Nat) (L_out:List Blk),(gV p n (p.length+1) ([]:List I) 0)=(out,i)∧(out.length≤200)∧(g 5 = .slice p_out out.length c_out∧g 6 = .int .i64 (i:Int)∧OwnG w0 33 elI (.slice p_out out.length c_out) out L_out)∧M=(L_out++(⟨b1,33,bB [pI n]⟩::[]))) (fun K_u10 hK_u10=>?_) ?_
 ·refine go_ ?_;refine cE (rg [5,6] 15 15) (fun g nn M=>∃ (out:List I) (i:Nat) (p_out:Option Addr) (c_out:Nat) (L_out:List Blk),(gV p n nn out i)=(gV p n (p.length+1) ([]:List I) 0)∧p.length - i<nn∧(i≤p.length∧out.length=i)∧(g 5 = .slice p_out out.length c_out∧g 6 = .int .i64 (i:Int)∧OwnG w0 33 elI (.slice p_out out.length c_out) out L_out)∧M=(L_out++(⟨b1,33,bB [pI n]⟩::[]))) (p.length+1) ?start ?round
  case start=>exact ⟨_,s0,([]:List I),0,none,0,[],rfl,o1_,o1_,⟨rfl,rfl,OwnG.nil⟩,rfl⟩
  case round =>
   rintro nn g M ⟨out,i,p_out,c_out,L_out,hT0,hq0,hinv0,⟨hg5,hg6,hO_out⟩,rfl⟩;obtain ⟨k0,rfl⟩:∃ m,nn=m+1:=⟨nn - 1,by omega⟩;refine gS2 hg5 hg6 ?_;clear hg5 hg6;have hm_out:=OwnG.max hO_out;refine go4 ?_;refine sQ (dV kI O (SLe.sub Hp sn)) O (go2 ?_);refine aL _ O (fun h17=>?_) (fun h17=>?_)
   ·have ph17:=of_decide_eq_true h17;refine go3 ?_;refine kY sn 10 [7,8] [8] (go3 ?_);refine pQ O (aM (v':=.pointer (some (slb (.slice p_p p.length c_p) (i*18+0)))) (eD (e:=elI) (l:=p) (k:=i) kI O O (SLe.sub Hp sn) o2_) O) ?_;refine pQ O (gE (e:=elI) (l:=p) (k:=i) (o:=0) tyT O (SLe.sub Hp sn) (bS I0 o2_) O) ?_;refine go_ ?_;refine pC (AV [pI (E (Z.mul (p.getD i I0).dec n.dec))]) aE (iH (p.getD i I0).1 n.1 (p.getD i I0).2 n.2) O O O (cJ O O (cA [[pI (E (Z.mul (p.getD i I0).dec n.dec))]] [pI (E (Z.mul (p.getD i I0).dec n.dec))] rI mX rN O dd_ O O ⟨rfl,rfl,rfl,trivial⟩ O (fun b18 hb18=>⟨(fun _=>sd s0),sn,cJ O O (kG (e:=elI) (l:=out) (m:=[(E (Z.mul (p.getD i I0).dec n.dec))]) 68 rI (by kernel_rfl) dd_ O O hO_out (SLe.lit (e:=elI) (l:=[(E (Z.mul (p.getD i I0).dec n.dec))]) m0 O (Nat.le_of_ble_eq_true O) O) (rY nH) (by simp only [List.length_append,List.length_cons,List.length_nil];omega) dd_ (fun p19 c20 L21 hO22=>⟨nf,sn,?_⟩))⟩)));refine go4 ?_;refine sWi (((i+1):Nat):Int) O (go2 ?_);refine ⟨pp_,_,_,(sA (sd s0)),(Nat.lt_succ_self _),(out++[(E (Z.mul (p.getD i I0).dec n.dec))]),(i+1),p19,c20,L21,(by exact (hT0.symm.trans (Eq.symm (aQ h17 O))).symm),(Nat.lt_of_lt_of_le o1_ (Nat.le_of_lt_succ hq0)),o1_,⟨rfl,rfl,hO22⟩,rfl⟩
   have ph17:=of_decide_eq_false h17;refine go_ ?_;refine hK_u10 _ _ pp_ ⟨_,s0,out,i,p_out,c_out,L_out,(by exact hT0.symm.trans (Eq.symm (aN h17 O))),o1_,⟨rfl,rfl,hO_out⟩,rfl⟩
 rintro g M ⟨out,i,p_out,c_out,L_out,hCu10,hPu10,⟨hg5,hg6,hO_out⟩,rfl⟩;refine gS2 hg5 hg6 ?_;clear hg5 hg6;have hm_out:=OwnG.max hO_out;refine go2 ?_;refine aY O (aV (E:=33) (e:=elI) (l:=(cY out)) (fun v=>v) aE O (fun w hw=>nR _ out w (aO hw hO_out lZ) oo_) (fun p23 c24 L25 hF26=>?_));have hb27:=(nQ out);refine go3 ?_;refine rt1 ?_
 have hE:((cY out):(List I))=(bG p n):=by exact aN h5 (trs (Eq.symm (apS hCu10)) O)
 rw [← hE];exact ⟨_,rfl,⟨L25,lZ,hF26⟩⟩
theorem vR (n:I) (k:Int) (w:World)  (hpre:k≤200) :
    Calls prog 155 [AV [pI n],.int .i64 k].toArray w (fun e w'=>e = .returned (AV [pI (gS n k)])∧Ext w w'):=by
 refine dL (N:=17) func155 O O zz_ ?_;obtain ⟨w0,rfl⟩:=nm w;refine giI ?_;refine go2 ?_;intro b1 hb1;refine go_ ?_;intro b2 hb2;refine go2 ?_;refine sC (AV [pI (E (Z.of 1))]) aE (bW (wl 1).1 (wl 1).2) O O O ?_;refine go_ ?_;intro b3 hb3;refine go6 ?_;refine gJ3 (rg [6] 8 8) (fun g M=>∃ (i:Nat) (mb3:I),(i5 n k (k.toNat+1) 0 (E (Z.of 1)))=(i,mb3)∧(g 6 = .int .i64 (i:Int))∧M=[⟨b3,33,bB [pI mb3]⟩,⟨b2,33,bB [pI I0]⟩,⟨b1,33,bB [pI n]⟩]) (fun K_u4 hK_u4=>?_) ?_
 ·refine go_ ?_;refine cE (rg [6] 8 8) (fun g nn M=>∃ (i:Nat) (mb3:I),(i5 n k nn i mb3)=(i5 n k (k.toNat+1) 0 (E (Z.of 1)))∧k.toNat - i<nn∧(i≤k.toNat)∧(g 6 = .int .i64 (i:Int))∧M=[⟨b3,33,bB [pI mb3]⟩,⟨b2,33,bB [pI I0]⟩,⟨b1,33,bB [pI n]⟩]) (k.toNat+1) ?start ?round
  case start=>exact ⟨_,s0,0,(E (Z.of 1)),rfl,o1_,o1_,rfl,rfl⟩
  case round =>
   rintro nn g M ⟨i,mb3,hT0,hq0,hinv0,hg6,rfl⟩;obtain ⟨k0,rfl⟩:∃ m,nn=m+1:=⟨nn - 1,by omega⟩;refine gS1 hg6 ?_;clear hg6;refine go6 ?_;refine aL _ O (fun h7=>?_) (fun h7=>?_)
   ·have ph7:=of_decide_eq_true h7;refine go6 ?_;refine sC (AV [pI (E (Z.mul mb3.dec n.dec))]) aE (iH mb3.1 n.1 mb3.2 n.2) O O O (go4 ?_);refine sWi (((i+1):Nat):Int) O (go2 ?_);refine ⟨pp_,_,_,s0,(Nat.lt_succ_self _),(i+1),(E (Z.mul mb3.dec n.dec)),(by exact (hT0.symm.trans (Eq.symm (aQ h7 O))).symm),(Nat.lt_of_lt_of_le o1_ (Nat.le_of_lt_succ hq0)),o1_,rfl,rfl⟩
   have ph7:=of_decide_eq_false h7;refine go_ ?_;refine hK_u4 _ _ pp_ ⟨_,s0,i,mb3,(by exact hT0.symm.trans (Eq.symm (aN h7 O))),rfl,rfl⟩
 rintro g M ⟨i,mb3,hCu4,hg6,rfl⟩;refine gS1 hg6 ?_;clear hg6;refine go5 ?_;refine rtX O (eR O m1 tyT O) ?_;exact congrArg vS4 (show _=(gS n k) from (by unfold gS;exact trs (Eq.symm (apS hCu4)) O))
theorem CA (a:Rt) :
    Ret prog 202 [AV [pI a.n,pI a.d]] (.bool (lN a)):=by
 refine bA (N:=26) func202 O O zz_ (fun w0=>?_);refine giI ?_;refine go2 ?_;intro b1 hb1;refine go3 ?_;refine gJv (rg [] 3 16) [(18,.bool (!(fT a.n)||(!(fT a.d)||decide ((Z.signW a.d.dec).1≤0))))] (fun K2 J2=>?_) ?_
 ·refine go3 ?_;refine sQ (aX aE (nS a.n) O) O (go_ ?_);rcases bt (fT a.n) with h4|h4
  ·refine sB (gG h4) O (go2 ?_);refine sQ (aX aE (nS a.d) O) O (go2 ?_);rcases bt (fT a.d) with h5|h5
   ·refine sB (gG h5) O (go2 ?_);refine sC (.int .i64 ((Z.signW a.d.dec).1)) aE (gH a.d.1 a.d.2) O O O (go3 ?_);refine J2 _ _ pp_ s0 (bQ (nO h4 (nO h5 O)))
   refine sB (gD h5) O (go6 ?_);refine J2 _ _ pp_ s0 (bQ (nO h4 (rZ h5)))
  refine sB (gD h4) O (uP ?_);refine J2 _ _ pp_ s0 (bQ (rZ h4))
 intro g6;refine aL _ O (fun h7=>?_) (fun h7=>?_)
 ·refine go4 ?_;refine rt1 ?_;exact congrArg vS2 (show _=(lN a) from aQ h7 O)
 refine go6 ?_;refine sC (AV [pI (E (Z.gcd a.n.dec a.d.dec))]) aE (lF a.n.1 a.d.1 a.n.2 a.d.2) O O O (sC (AV [pI (E (Z.of 1))]) aE (bW (wl 1).1 (wl 1).2) O O O ?_);refine sQ (tB (r:=decide ((E (Z.gcd a.n.dec a.d.dec))=(E (Z.of 1)))) O O (kC 8 dd_ T8 UI (iD gC) (iD gC) (mG nG))) O (go3 ?_);refine rt1 ?_;exact congrArg vS2 (show _=(lN a) from aN h7 O)
theorem A8 (vp:Value) (p:(List I)) (x:Rt) (w:World) (hp:Slr w elI vp p) (hpre:p.length≤100) :
    Calls prog 154 [vp,AV [pI x.n,pI x.d]].toArray w (fun e w'=>e = .returned (AV [pI (iG p x)])∧Ext w w'):=by
 obtain ⟨p_p,c_p,rfl⟩:=hp.form;refine dL (N:=42) func154 O O zz_ ?_;obtain ⟨w0,rfl⟩:=nm w;have Hp:=hp.old;have hm_p:=hp.max;refine giI ?_;refine go2 ?_;intro b1 hb1;refine go_ ?_;intro b2 hb2;refine go2 ?_;refine gJv [7,8,9,10,11,12,13] [(13,.bool ((bX p)||(!(lN x))))] (fun K2 J2=>?_) ?_
 ·refine go2 ?_;refine sFc (.bool (bX p)) O (c1_ (jM _ p) Hp sn) O O ?_;refine sBB O (fun h4=>?_) (fun h4=>?_)
  ·refine go5 ?_;refine J2 _ _ pp_ s0 (bQ (o9 h4))
  refine go_ ?_;refine sQ (aX aE (CA x) O) O (go3 ?_);refine J2 _ _ pp_ s0 (bQ (nA h4 O))
 intro g5;refine aL _ O (fun h6=>?_) (fun h6=>?_)
 ·refine go_ ?_;refine sC (AV [pI (E Z.bad)]) aE dS O O O (go3 ?_);refine rtX O (eR O m0 tyT O) ?_;exact congrArg vS4 (show _=(iG p x) from aQ h6 O)
 refine go4 ?_;intro b7 hb7;refine go5 ?_;refine sQ (dV kI O (SLe.sub Hp sn)) O (sWi ((p.length:Int) - 1) O (go2 ?_));refine gJ3 (rg [6] 19 22) (fun g M=>∃ (i:Int) (mb7:I),(i6 p x (p.length+1) ((p.length:Int) - 1) I0)=(i,mb7)∧(g 6 = .int .i64 i)∧M=[⟨b7,33,bB [pI mb7]⟩,⟨b2,33,bB [pI I0]⟩,⟨b1,35,bB [pI x.n,pI x.d]⟩]) (fun K_u8 hK_u8=>?_) ?_
 ·refine go_ ?_;refine cE (rg [6] 19 22) (fun g nn M=>∃ (i:Int) (mb7:I),(i6 p x nn i mb7)=(i6 p x (p.length+1) ((p.length:Int) - 1) I0)∧(i+1).toNat<nn∧(i<(p.length:Int)∧-1≤i)∧(g 6 = .int .i64 i)∧M=[⟨b7,33,bB [pI mb7]⟩,⟨b2,33,bB [pI I0]⟩,⟨b1,35,bB [pI x.n,pI x.d]⟩]) (p.length+1) ?start ?round
  case start=>exact ⟨_,s0,((p.length:Int) - 1),I0,rfl,o1_,o1_,rfl,rfl⟩
  case round =>
   rintro nn g M ⟨i,mb7,hT0,hq0,hinv0,hg6,rfl⟩;obtain ⟨k0,rfl⟩:∃ m,nn=m+1:=⟨nn - 1,by omega⟩;refine gS1 hg6 ?_;clear hg6;refine go5 ?_;refine aL _ O (fun h13=>?_) (fun h13=>?_)
   ·have ph13:=of_decide_eq_true h13;refine go3 ?_;refine gdr (sd s0) [0,4,8,12,16,20,24,28,32,36,40,44,48,52,56,60,64,68,73] [18] mix (by kernel_rfl) (go3 ?_);refine pC (AV [pI (E (Z.mul mb7.dec x.n.dec))]) aE (iH mb7.1 x.n.1 mb7.2 x.n.2) O O O (go2 ?_);refine pQ O (aM (v':=.pointer (some (slb (.slice p_p p.length c_p) ((i.toNat)*18+0)))) (zF (e:=elI) (l:=p) (k:=(i).toNat) kI O O oo_ (SLe.sub Hp sn) o2_) O) ?_;refine pQ O (gE (e:=elI) (l:=p) (k:=(i).toNat) (o:=0) tyT O (SLe.sub Hp sn) (bS I0 o2_) O) ?_;refine go3 ?_;refine pQ O (dV kI O (SLe.sub Hp sn)) (pV (.int .i64 ((p.length:Int) - 1)) O wxo (go_ ?_));refine pV (.int .i64 (((p.length:Int) - 1) - i)) O wxo (pQ O (aM (v':=AV [pI (gS x.d (((p.length:Int) - 1) - i))]) (dF aE O (fun w hw=>vR x.d (((p.length:Int) - 1) - i) w oo_)) O) ?_);obtain ⟨r14,hr14⟩:=nm ((E (Z.mul (p.getD (i.toNat) I0).dec (gS x.d (((p.length:Int) - 1) - i)).dec)):I);refine pC (AV [pI r14]) aE (iH (p.getD (i.toNat) I0).1 (gS x.d (((p.length:Int) - 1) - i)).1 (p.getD (i.toNat) I0).2 (gS x.d (((p.length:Int) - 1) - i)).2) O O (by subst hr14;rfl) (pC (AV [pI (E (Z.add (Z.mul mb7.dec x.n.dec) r14.dec))]) aE (n9 (E (Z.mul mb7.dec x.n.dec)).1 r14.1 (E (Z.mul mb7.dec x.n.dec)).2 r14.2) O O (cg2 (fun p q=>AV [pI (E (Z.add p q))]) (fA _) O) (go4 ?_));refine sWi (i - 1) O (go2 ?_);refine ⟨pp_,_,_,s0,(Nat.lt_succ_self _),(i - 1),(E (Z.add (Z.mul mb7.dec x.n.dec) r14.dec)),(by subst hr14;exact (hT0.symm.trans (Eq.symm (aQ h13 O))).symm),(Nat.lt_of_lt_of_le o1_ (Nat.le_of_lt_succ hq0)),o1_,rfl,rfl⟩
   have ph13:=of_decide_eq_false h13;refine go_ ?_;refine hK_u8 _ _ pp_ ⟨_,s0,i,mb7,(by exact hT0.symm.trans (Eq.symm (aN h13 O))),rfl,rfl⟩
 rintro g M ⟨i,mb7,hCu8,hg6,rfl⟩;refine gS1 hg6 ?_;clear hg6;refine go5 ?_;refine rtX O (eR O m1 tyT O) ?_;exact congrArg vS4 (show _=(iG p x) from aN h6 (trs (Eq.symm (apS hCu8)) O))
theorem pL (vp:Value) (p:(List I)) (x:Rt) (w:World) (hp:Slr w elI vp p) (hpre:p.length≤100) :
  Calls prog 82 [vp,AV [pI x.n,pI x.d]].toArray w (fun e w'=>e = .returned (AV [pI ((gL p x).n),pI ((gL p x).d)])∧Ext w w'):=by
 obtain ⟨p_p,c_p,rfl⟩:=hp.form;refine dL (N:=16) func82 O O zz_ ?_;obtain ⟨w0,rfl⟩:=nm w;have Hp:=hp.old;have hm_p:=hp.max;refine giI ?_;refine go2 ?_;intro b1 hb1;refine go_ ?_;intro b2 hb2;refine go_ ?_;refine mS (sd s0) 12 [11] [11] (go2 ?_);refine pQ O (aM (v':=AV [pI (iG p x)]) (dF aE O (fun w hw=>A8 _ p x w (aR hw Hp sn) oo_)) O) (go3 ?_);refine pQ O (dV kI O (SLe.sub Hp sn)) (pV (.int .i64 ((p.length:Int) - 1)) O wxo (pQ O (aM (v':=.int .i64 (((p.length:Int) - 1).toNat:Int)) (mW O O) (congrArg (Value.int .i64) oo_)) ?_));obtain ⟨r3,hr3⟩:=nm ((gS x.d (((p.length:Int) - 1).toNat:Int)):I);refine pQ O (aM (v':=AV [pI r3]) (dF aE O (fun w hw=>vR x.d (((p.length:Int) - 1).toNat:Int) w oo_)) (by subst hr3;rfl)) ?_;obtain ⟨r4,hr4⟩:=nm ((aW (iG p x) r3):Rt);refine pC (AV [pI r4.n,pI r4.d]) aE (jX (iG p x) r3) O O (by rw [hr4]) (go3 ?_);refine rtX O (eR O m0 tyT O) ?_;exact (by subst_vars;rfl)
theorem B9 (va:Value) (a:(List I)) (vb:Value) (b:(List I)) (w:World) (ha:Slr w elI va a) (hb:Slr w elI vb b) :
    Calls prog 78 [va,vb].toArray w (fun e w'=>e = .returned (.bool (kJ a b))∧Ext w w'):=by
 obtain ⟨p_a,c_a,rfl⟩:=ha.form;obtain ⟨p_b,c_b,rfl⟩:=hb.form;refine dL (N:=26) func78 O O zz_ ?_;obtain ⟨w0,rfl⟩:=nm w;have Ha:=ha.old;have hm_a:=ha.max;have Hb:=hb.old;have hm_b:=hb.max;refine giI ?_;refine go6 ?_;refine sQ (dV w6 O (SLe.sub Ha sn)) O (go_ ?_);refine sQ (dV w6 O (SLe.sub Hb sn)) O (go2 ?_);refine aL _ O (fun h1=>?_) (fun h1=>?_)
 ·have ph2:=UN h1;refine go4 ?_;refine rt1 ?_;exact congrArg vS2 (show _=(kJ a b) from aQ h1 O)
 have ph3:=MR h1;refine go5 ?_;refine gJ3 (rg [4,5] 11 15) (fun g M=>∃ (i:Nat),(jG a b (a.length+1) 0) = .inl i∧(g 5 = .int .i64 (i:Int))∧M=[]) (fun K_u4 hK_u4=>?_) ?_
 ·refine go_ ?_;refine cE (rg [4,5] 11 15) (fun g nn M=>∃ (i:Nat),(jG a b nn i)=(jG a b (a.length+1) 0)∧a.length - i<nn∧(i≤a.length)∧(g 5 = .int .i64 (i:Int))∧M=[]) (a.length+1) ?start ?round
  case start=>exact ⟨_,s0,0,rfl,o1_,o1_,rfl,rfl⟩
  case round =>
   rintro nn g M ⟨i,hT0,hq0,hinv0,hg5,rfl⟩;obtain ⟨k0,rfl⟩:∃ m,nn=m+1:=⟨nn - 1,by omega⟩;refine gS1 hg5 ?_;clear hg5;refine go4 ?_;refine sQ (dV w6 O (SLe.sub Ha sn)) O (go2 ?_);refine aL _ O (fun h9=>?_) (fun h9=>?_)
   ·have ph9:=of_decide_eq_true h9;refine go3 ?_;refine mS sn 9 [] [] (go2 ?_);refine pQ O (aM (v':=.pointer (some (slb (.slice p_a a.length c_a) (i*18+0)))) (eD (e:=elI) (l:=a) (k:=i) w6 O O (SLe.sub Ha sn) o2_) O) ?_;refine pQ O (gE (e:=elI) (l:=a) (k:=i) (o:=0) tyT O (SLe.sub Ha sn) (bS I0 o2_) O) ?_;refine go2 ?_;refine pQ O (aM (v':=.pointer (some (slb (.slice p_b b.length c_b) (i*18+0)))) (eD (e:=elI) (l:=b) (k:=i) w6 O O (SLe.sub Hb sn) o2_) O) ?_;refine pQ O (gE (e:=elI) (l:=b) (k:=i) (o:=0) tyT O (SLe.sub Hb sn) (bS I0 o2_) O) ?_;refine pQ O (wP (r:=decide ((a.getD i I0)=(b.getD i I0))) O O (kC 8 dd_ T8 UI (iD gC) (iD gC) (mG nG))) (go_ ?_);rcases bt (decide ((a.getD i I0)=(b.getD i I0))) with h10|h10
    ·have ph10:=of_decide_eq_true h10;refine W_f (gG h10) O (go3 ?_);refine sWi (((i+1):Nat):Int) O (go2 ?_);refine ⟨pp_,_,_,s0,(Nat.lt_succ_self _),(i+1),(by exact (hT0.symm.trans (Eq.symm (aQ h9 (aQ h10 O)))).symm),(Nat.lt_of_lt_of_le o1_ (Nat.le_of_lt_succ hq0)),o1_,rfl,rfl⟩
    have ph10:=of_decide_eq_false h10;refine W_t (gD h10) O (go4 ?_);refine rt1 ?_;exact congrArg vS2 (show _=(kJ a b) from aN h1 (CF O (hT0.symm.trans (Eq.symm (aQ h9 (aN h10 O))))))
   have ph9:=of_decide_eq_false h9;refine go_ ?_;refine hK_u4 _ _ pp_ ⟨_,s0,i,(by exact hT0.symm.trans (Eq.symm (aN h9 O))),rfl,rfl⟩
 rintro g M ⟨i,hCu4,hg5,rfl⟩;refine gS1 hg5 ?_;clear hg5;refine go4 ?_;refine rt1 ?_;exact congrArg vS2 (show _=(kJ a b) from aN h1 (trs (Eq.symm (smS hCu4)) O))
end Go.Proofs.YtbjlhfochebmiaaGreatDoor
