/- Lemmas: what they ask stands in their statements. -/
import Derived.Test.YtokjfhfiodopdaaGreatJAr
import Derived.Test.YtokjfhfiodopdaaGreatJWi
set_option linter.unusedSimpArgs false
set_option linter.unusedVariables false
set_option maxHeartbeats 8000000
set_option maxRecDepth 20000
namespace Go.Proofs.YtokjfhfiodopdaaGreat
open Go.Kn Go.Num Tryz
attribute [local irreducible] Go.Kn.W WL PL OpQ OpR OpS
theorem lY (a:I) :
    Ret prog 63 [AV [pI a]] (.bool (fR a)):=by
 refine cJ (N:=10) func63 O O zz_ (fun w0=>?_);refine giI ?_;refine go2 ?_;intro b1 hb1;refine go2 ?_;refine gJv (rg [] 2 8) [(2,.bool (!a.1.bad&&a.1.valid))] (fun K1 J1=>?_) ?_
 ·refine go4 ?_;rcases bt a.1.bad with h3|h3
  ·refine sB (gS h3) O (go5 ?_);refine J1 _ _ pp_ s0 (bK (zE h3))
  refine sB (gN h3) O (go_ ?_);refine sC (.bool a.1.valid) aS (sO a.1 a.2) O O O (go3 ?_);refine J1 _ _ pp_ s0 (bK (qR h3 O))
 intro g4;refine go_ ?_;refine rt1 ?_;exact (by rfl)
theorem gV  (w:World)  :
  Calls prog 75 [].toArray w (fun e w'=>∃ v,e = .returned (v)∧Ext w w'∧Slo w.heap.size w' 27 elI v F_skewbackref08_bad):=by
 refine fA (n:=3) (fun v=>v) func75 O O zz_ ?_;obtain ⟨w0,rfl⟩:=nm w;refine giI ?_;obtain ⟨q0,hq0⟩:=nm ((E Z.bad):I);refine go4 ?_;refine sC (AV [pI q0]) aS eD O O (by subst hq0;rfl) (bL O (fL [[pI q0]] [pI q0] z9 lO nW O dd_ O O ⟨rfl,rfl,rfl,trivial⟩ O (fun b1 hb1=>go3 ?_)));refine rt1 ?_
 have hE:([q0]:(List I))=F_skewbackref08_bad:=by obtain rfl:=hq0.symm;exact rfl
 rw [← hE];exact ⟨_,rfl,⟨_,(sk sn),OwnG.lit (e:=elI) (l:=[q0]) (qs:=[pI q0]) hb1 O (Nat.le_of_ble_eq_true O) O⟩⟩
theorem kP (vl:Value) (l:(List I)) (w:World) (hl:Slr w elI vl l) (hpre:l.length≤200) :
    Calls prog 78 [vl].toArray w (fun e w'=>∃ v,e = .returned (v)∧Ext w w'∧Slo w.heap.size w' 27 elI v (bC l)):=by
 obtain ⟨p_l,c_l,rfl⟩:=hl.form;refine fA (n:=45) (fun v=>v) func78 O O zz_ ?_;obtain ⟨w0,rfl⟩:=nm w;have Hl:=hl.old;have hm_l:=hl.max;refine giI ?_;refine pU ?_;refine gJ3 (rg [2,3,4,5] 8 21) (fun g M=>∃ (last:Int) (i:Nat),(gJ l (l.length+1) (-1) 0) = .inl (last,i)∧(last<(l.length:Int)∧-1≤last)∧(g 3 = .int .i64 last∧g 4 = .int .i64 (i:Int))∧M=[]) (fun K_u1 hK_u1=>?_) ?_
 ·refine go_ ?_;refine cH (rg [2,3,4,5] 8 21) (fun g nn M=>∃ (last:Int) (i:Nat),(gJ l nn last i)=(gJ l (l.length+1) (-1) 0)∧l.length - i<nn∧(i≤l.length∧last<(i:Int)∧-1≤last)∧(g 3 = .int .i64 last∧g 4 = .int .i64 (i:Int))∧M=[]) (l.length+1) ?start ?round
  case start=>exact ⟨_,s0,(-1),0,rfl,o1_,o1_,⟨rfl,rfl⟩,rfl⟩
  case round =>
   rintro nn g M ⟨last,i,hT0,hq0,hinv0,⟨hg3,hg4⟩,rfl⟩;obtain ⟨k0,rfl⟩:∃ m,nn=m+1:=⟨nn - 1,by omega⟩;refine gS2 hg3 hg4 ?_;clear hg3 hg4;refine go4 ?_;refine sQ (dK m9 O (SLe.sub Hl sn)) O (go2 ?_);refine aZ _ O (fun h16=>?_) (fun h16=>?_)
   ·have ph16:=of_decide_eq_true h16;refine go6 ?_;refine sQ (bJ (v':=.pointer (some (slb (.slice p_l l.length c_l) (i*18+0)))) (j7 (e:=elI) (l:=l) (k:=i) m9 O O (SLe.sub Hl sn) o2_) O) O ?_;refine sQ (jK (e:=elI) (l:=l) (k:=i) (o:=0) tyT O (SLe.sub Hl sn) (cZ I0 o2_) O) O ?_;refine sQ (bW aS (lY (l.getD i I0)) O) O (go7 ?_);rcases bt (fR (l.getD i I0)) with h17|h17
    ·refine W_f (gS h17) O (go4 ?_);refine sQ (bJ (v':=.pointer (some (slb (.slice p_l l.length c_l) (i*18+0)))) (j7 (e:=elI) (l:=l) (k:=i) m9 O O (SLe.sub Hl sn) o2_) O) O ?_;refine sQ (jK (e:=elI) (l:=l) (k:=i) (o:=0) tyT O (SLe.sub Hl sn) (cZ I0 o2_) O) O ?_;refine sC (.int .i64 ((Z.signW (l.getD i I0).dec).1)) aS (eV (l.getD i I0).1 (l.getD i I0).2) O O O (go2 ?_);refine aZ _ O (fun h18=>?_) (fun h18=>?_)
     ·refine go6 ?_;refine sWi (((i+1):Nat):Int) O (go2 ?_);refine ⟨pp_,_,_,s0,(Nat.lt_succ_self _),(i:Int),(i+1),(by exact (hT0.symm.trans (Eq.symm (bE h16 (bE h17 (bE h18 O))))).symm),(Nat.lt_of_lt_of_le o1_ (Nat.le_of_lt_succ hq0)),o1_,⟨rfl,rfl⟩,rfl⟩
     refine go3 ?_;refine sWi (((i+1):Nat):Int) O (go2 ?_);refine ⟨pp_,_,_,s0,(Nat.lt_succ_self _),last,(i+1),(by exact (hT0.symm.trans (Eq.symm (bE h16 (bE h17 (aQ h18 O))))).symm),(Nat.lt_of_lt_of_le o1_ (Nat.le_of_lt_succ hq0)),o1_,⟨rfl,rfl⟩,rfl⟩
    refine W_t (gN h17) O (go_ ?_);refine bL O (cO (E:=27) (e:=elI) (l:=F_skewbackref08_bad) (fun v=>v) aS O (fun w hw=>gV  w) (fun p19 c20 L21 hF22=>go3 ?_));refine rt1 ?_
    have hE:(F_skewbackref08_bad:(List I))=(bC l):=by exact (rH O (hT0.symm.trans (Eq.symm (bE h16 (aQ h17 O)))))
    rw [← hE];exact ⟨_,rfl,⟨L21,lZ,hF22⟩⟩
   have ph16:=of_decide_eq_false h16;refine go_ ?_;refine hK_u1 _ _ pp_ ⟨_,s0,last,i,(by exact hT0.symm.trans (Eq.symm (aQ h16 O))),o1_,⟨rfl,rfl⟩,rfl⟩
 rintro g M ⟨last,i,hCu1,hPu1,⟨hg3,hg4⟩,rfl⟩;refine gS2 hg3 hg4 ?_;clear hg3 hg4;refine go5 ?_;refine aZ _ O (fun h23=>?_) (fun h23=>?_)
 ·have ph23:=of_decide_eq_true h23;refine go_ ?_;refine bL O (cO (E:=27) (e:=elI) (l:=F_skewbackref08_bad) (fun v=>v) aS O (fun w hw=>gV  w) (fun p24 c25 L26 hF27=>go3 ?_));refine rt1 ?_
  have hE:(F_skewbackref08_bad:(List I))=(bC l):=by exact trs (Eq.symm (smS hCu1)) (bE h23 O)
  rw [← hE];exact ⟨_,rfl,⟨L26,lZ,hF27⟩⟩
 have ph23:=of_decide_eq_false h23;refine go8 ?_;refine gJ3 (rg [6,7] 32 12) (fun g M=>∃ (out:List I) (j:Nat) (p_out:Option Addr) (c_out:Nat) (L_out:List Blk),(iI l last i ((last+1).toNat+1) ([]:List I) 0)=(out,j)∧(g 6 = .slice p_out out.length c_out∧g 7 = .int .i64 (j:Int)∧OwnG w0 27 elI (.slice p_out out.length c_out) out L_out)∧M=(L_out++[])) (fun K_u28 hK_u28=>?_) ?_
 ·refine go_ ?_;refine cH (rg [6,7] 32 12) (fun g nn M=>∃ (out:List I) (j:Nat) (p_out:Option Addr) (c_out:Nat) (L_out:List Blk),(iI l last i nn out j)=(iI l last i ((last+1).toNat+1) ([]:List I) 0)∧(last+1).toNat - j<nn∧((j:Int)≤last+1∧out.length=j)∧(g 6 = .slice p_out out.length c_out∧g 7 = .int .i64 (j:Int)∧OwnG w0 27 elI (.slice p_out out.length c_out) out L_out)∧M=(L_out++[])) ((last+1).toNat+1) ?start ?round
  case start=>exact ⟨_,s0,([]:List I),0,none,0,[],rfl,o1_,o1_,⟨rfl,rfl,OwnG.nil⟩,rfl⟩
  case round =>
   rintro nn g M ⟨out,j,p_out,c_out,L_out,hT1,hq1,hinv1,⟨hg6,hg7,hO_out⟩,rfl⟩;obtain ⟨k1,rfl⟩:∃ m,nn=m+1:=⟨nn - 1,by omega⟩;refine gS2 hg6 hg7 ?_;clear hg6 hg7;have hm_out:=OwnG.max hO_out;refine go6 ?_;refine aZ _ O (fun h35=>?_) (fun h35=>?_)
   ·have ph35:=of_decide_eq_true h35;refine go7 ?_;refine sQ (bJ (v':=.pointer (some (slb (.slice p_l l.length c_l) (j*18+0)))) (j7 (e:=elI) (l:=l) (k:=j) m9 O O (SLe.sub Hl sn) o2_) O) O ?_;refine sQ (jK (e:=elI) (l:=l) (k:=j) (o:=0) tyT O (SLe.sub Hl sn) (cZ I0 o2_) O) O ?_;refine bL O (fL [[pI (l.getD j I0)]] [pI (l.getD j I0)] z9 lO nW O dd_ O O ⟨rfl,rfl,rfl,trivial⟩ O (fun b36 hb36=>bL O (l8 (e:=elI) (l:=out) (m:=[(l.getD j I0)]) 68 z9 (by kernel_rfl) dd_ O O hO_out (SLe.lit (e:=elI) (l:=[(l.getD j I0)]) m0 O (Nat.le_of_ble_eq_true O) O) (cS o3) (by simp only [List.length_append,List.length_cons,List.length_nil];omega) dd_ (fun p37 c38 L39 hO40=>?_))));refine go4 ?_;refine sWi (((j+1):Nat):Int) O (go2 ?_);refine ⟨pp_,_,_,(sA (sd s0)),(Nat.lt_succ_self _),(out++[(l.getD j I0)]),(j+1),p37,c38,L39,(by exact (hT1.symm.trans (Eq.symm (bE h35 O))).symm),(Nat.lt_of_lt_of_le o1_ (Nat.le_of_lt_succ hq1)),o1_,⟨rfl,rfl,hO40⟩,rfl⟩
   have ph35:=of_decide_eq_false h35;refine go_ ?_;refine hK_u28 _ _ pp_ ⟨_,s0,out,j,p_out,c_out,L_out,(by exact hT1.symm.trans (Eq.symm (aQ h35 O))),⟨rfl,rfl,hO_out⟩,rfl⟩
 rintro g M ⟨out,j,p_out,c_out,L_out,hCu28,⟨hg6,hg7,hO_out⟩,rfl⟩;refine gS2 hg6 hg7 ?_;clear hg6 hg7;have hm_out:=OwnG.max hO_out;refine go5 ?_;refine rt1 ?_
 have hE:(out:(List I))=(bC l):=by exact trs (Eq.symm (smS hCu1)) (aQ h23 (trs (Eq.symm (apS hCu28)) O))
 rw [← hE];exact ⟨_,rfl,⟨L_out,lZ,hO_out⟩⟩
theorem BL (vl:Value) (l:(List W)) (w:World) (hl:Slr w elW vl l) (hpre:l.length≤200) :
    Calls prog 86 [vl].toArray w (fun e w'=>∃ v,e = .returned (v)∧Ext w w'∧Slo w.heap.size w' 27 elI v (jR l)):=by
 obtain ⟨p_l,c_l,rfl⟩:=hl.form;refine fA (n:=21) (fun v=>v) func86 O O zz_ ?_;obtain ⟨w0,rfl⟩:=nm w;have Hl:=hl.old;have hm_l:=hl.max;refine giI ?_;refine pU ?_;refine gJ3 (rg [] 3 16) (fun g M=>∃ (out:List I) (i:Nat) (p_out:Option Addr) (c_out:Nat) (L_out:List Blk),(lB l (l.length+1) ([]:List I) 0)=(out,i)∧(out.length≤200)∧(g 3 = .slice p_out out.length c_out∧g 4 = .int .i64 (i:Int)∧OwnG w0 27 elI (.slice p_out out.length c_out) out L_out)∧M=(L_out++[])) (fun K_u1 hK_u1=>?_) ?_
 ·refine go_ ?_;refine cH (rg [] 3 16) (fun g nn M=>∃ (out:List I) (i:Nat) (p_out:Option Addr) (c_out:Nat) (L_out:List Blk),(lB l nn out i)=(lB l (l.length+1) ([]:List I) 0)∧l.length - i<nn∧(i≤l.length∧out.length=i)∧(g 3 = .slice p_out out.length c_out∧g 4 = .int .i64 (i:Int)∧OwnG w0 27 elI (.slice p_out out.length c_out) out L_out)∧M=(L_out++[])) (l.length+1) ?start ?round
  case start=>exact ⟨_,s0,([]:List I),0,none,0,[],rfl,o1_,o1_,⟨rfl,rfl,OwnG.nil⟩,rfl⟩
  case round =>
   rintro nn g M ⟨out,i,p_out,c_out,L_out,hT0,hq0,hinv0,⟨hg3,hg4,hO_out⟩,rfl⟩;obtain ⟨k0,rfl⟩:∃ m,nn=m+1:=⟨nn - 1,by omega⟩;refine gS2 hg3 hg4 ?_;clear hg3 hg4;have hm_out:=OwnG.max hO_out;refine go4 ?_;refine sQ (dK kX O (SLe.sub Hl sn)) O (go2 ?_);refine aZ _ O (fun h8=>?_) (fun h8=>?_)
   ·have ph8:=of_decide_eq_true h8;refine go7 ?_;refine sQ (bJ (v':=.pointer (some (slb (.slice p_l l.length c_l) (i*1+0)))) (j7 (e:=elW) (l:=l) (k:=i) kX O O (SLe.sub Hl sn) o2_) O) O ?_;refine sQ (wQ (u:=.int .i64 ((l.getD i W.z).1)) (e:=elW) (l:=l) (k:=i) (o:=0) tyT O (SLe.sub Hl sn) (cZ W.z o2_) O) O ?_;refine sC (AV [pI (E (Z.of (l.getD i W.z).1))]) aS (dV (l.getD i W.z).1 (l.getD i W.z).2) O O O (bL O (fL [[pI (E (Z.of (l.getD i W.z).1))]] [pI (E (Z.of (l.getD i W.z).1))] l4 lO nW O dd_ O O ⟨rfl,rfl,rfl,trivial⟩ O (fun b9 hb9=>bL O (l8 (e:=elI) (l:=out) (m:=[(E (Z.of (l.getD i W.z).1))]) 68 l4 (by kernel_rfl) dd_ O O hO_out (SLe.lit (e:=elI) (l:=[(E (Z.of (l.getD i W.z).1))]) m0 O (Nat.le_of_ble_eq_true O) O) (cS o3) (by simp only [List.length_append,List.length_cons,List.length_nil];omega) dd_ (fun p10 c11 L12 hO13=>?_)))));refine go4 ?_;refine sWi (((i+1):Nat):Int) O (go2 ?_);refine ⟨pp_,_,_,(sA (sd s0)),(Nat.lt_succ_self _),(out++[(E (Z.of (l.getD i W.z).1))]),(i+1),p10,c11,L12,(by exact (hT0.symm.trans (Eq.symm (bE h8 O))).symm),(Nat.lt_of_lt_of_le o1_ (Nat.le_of_lt_succ hq0)),o1_,⟨rfl,rfl,hO13⟩,rfl⟩
   have ph8:=of_decide_eq_false h8;refine go_ ?_;refine hK_u1 _ _ pp_ ⟨_,s0,out,i,p_out,c_out,L_out,(by exact hT0.symm.trans (Eq.symm (aQ h8 O))),o1_,⟨rfl,rfl,hO_out⟩,rfl⟩
 rintro g M ⟨out,i,p_out,c_out,L_out,hCu1,hPu1,⟨hg3,hg4,hO_out⟩,rfl⟩;refine gS2 hg3 hg4 ?_;clear hg3 hg4;have hm_out:=OwnG.max hO_out;refine go2 ?_;refine bL O (cO (E:=27) (e:=elI) (l:=(bC out)) (fun v=>v) aS O (fun w hw=>kP _ out w (aO hw hO_out lZ) oo_) (fun p14 c15 L16 hF17=>?_));have hb18:=(kO out);refine go3 ?_;refine rt1 ?_
 have hE:((bC out):(List I))=(jR l):=by exact (by unfold jR;exact trs (Eq.symm (apS hCu1)) O)
 rw [← hE];exact ⟨_,rfl,⟨L16,lZ,hF17⟩⟩
theorem dP (vp:Value) (p:(List I)) (w:World) (hp:Slr w elI vp p) :
    Calls prog 27 [vp].toArray w (fun e w'=>e = .returned (.bool (aW p))∧Ext w w'):=by
 obtain ⟨p_p,c_p,rfl⟩:=hp.form;refine cU (N:=18) func27 O O zz_ ?_;obtain ⟨w0,rfl⟩:=nm w;have Hp:=hp.old;have hm_p:=hp.max;refine giI ?_;refine go7 ?_;refine gJ3 (rg [] 2 16) (fun g M=>∃ (i:Nat),(gD p (p.length+1) 0) = .inl i∧(g 3 = .int .i64 (i:Int))∧M=[]) (fun K_u1 hK_u1=>?_) ?_
 ·refine go_ ?_;refine cH (rg [] 2 16) (fun g nn M=>∃ (i:Nat),(gD p nn i)=(gD p (p.length+1) 0)∧p.length - i<nn∧(i≤p.length)∧(g 3 = .int .i64 (i:Int))∧M=[]) (p.length+1) ?start ?round
  case start=>exact ⟨_,s0,0,rfl,o1_,o1_,rfl,rfl⟩
  case round =>
   rintro nn g M ⟨i,hT0,hq0,hinv0,hg3,rfl⟩;obtain ⟨k0,rfl⟩:∃ m,nn=m+1:=⟨nn - 1,by omega⟩;refine gS1 hg3 ?_;clear hg3;refine go4 ?_;refine sQ (dK dW O (SLe.sub Hp sn)) O (go2 ?_);refine aZ _ O (fun h6=>?_) (fun h6=>?_)
   ·have ph6:=of_decide_eq_true h6;refine go6 ?_;refine sQ (bJ (v':=.pointer (some (slb (.slice p_p p.length c_p) (i*18+0)))) (j7 (e:=elI) (l:=p) (k:=i) dW O O (SLe.sub Hp sn) o2_) O) O ?_;refine sQ (jK (e:=elI) (l:=p) (k:=i) (o:=0) tyT O (SLe.sub Hp sn) (cZ I0 o2_) O) O ?_;refine sQ (bW aS (lY (p.getD i I0)) O) O (go6 ?_);rcases bt (fR (p.getD i I0)) with h7|h7
    ·refine W_f (gS h7) O (go3 ?_);refine sWi (((i+1):Nat):Int) O (go2 ?_);refine ⟨pp_,_,_,s0,(Nat.lt_succ_self _),(i+1),(by exact (hT0.symm.trans (Eq.symm (bE h6 (bE h7 O)))).symm),(Nat.lt_of_lt_of_le o1_ (Nat.le_of_lt_succ hq0)),o1_,rfl,rfl⟩
    refine W_t (gN h7) O (go4 ?_);refine rt1 ?_;exact congrArg vS0 (show _=(aW p) from (rH O (hT0.symm.trans (Eq.symm (bE h6 (aQ h7 O))))))
   have ph6:=of_decide_eq_false h6;refine go_ ?_;refine hK_u1 _ _ pp_ ⟨_,s0,i,(by exact hT0.symm.trans (Eq.symm (aQ h6 O))),rfl,rfl⟩
 rintro g M ⟨i,hCu1,hg3,rfl⟩;refine gS1 hg3 ?_;clear hg3;refine go4 ?_;refine rt1 ?_;exact congrArg vS0 (show _=(aW p) from trs (Eq.symm (smS hCu1)) O)
theorem qT (vp:Value) (p:(List I)) (k:Int) (w:World) (hp:Slr w elI vp p) :
    Calls prog 77 [vp,.int .i64 k].toArray w (fun e w'=>e = .returned (AV [pI (eS p k)])∧Ext w w'):=by
 obtain ⟨p_p,c_p,rfl⟩:=hp.form;refine cU (N:=18) func77 O O zz_ ?_;obtain ⟨w0,rfl⟩:=nm w;have Hp:=hp.old;have hm_p:=hp.max;refine giI ?_;refine go2 ?_;intro b1 hb1;refine go2 ?_;refine gJv (rg [] 5 8) [(12,.bool (decide (k<0)||decide ((p.length:Int)≤k)))] (fun K2 J2=>?_) ?_
 ·refine go3 ?_;refine sBB O (fun h3=>?_) (fun h3=>?_)
  ·have ph3:=of_decide_eq_true h3;refine go6 ?_;refine J2 _ _ pp_ s0 (bK (mW h3))
  have ph3:=of_decide_eq_false h3;refine go2 ?_;refine sQ (dK dW O (SLe.sub Hp sn)) O (go3 ?_);refine J2 _ _ pp_ s0 (bK (lF h3 O))
 intro g4;refine aZ _ O (fun h5=>?_) (fun h5=>?_)
 ·refine go5 ?_;refine rtX O (fV O m0 tyT O) ?_;exact congrArg vS2 (show _=(eS p k) from bE h5 O)
 have ph6:=of_decide_eq_false (Bool.or_eq_false_iff.1 h5).1;have ph7:=of_decide_eq_false (Bool.or_eq_false_iff.1 h5).2;refine go4 ?_;refine sQ (bJ (v':=.pointer (some (slb (.slice p_p p.length c_p) ((k.toNat)*18+0)))) (lL (e:=elI) (l:=p) (k:=(k).toNat) dW O O oo_ (SLe.sub Hp sn) o2_) O) O ?_;refine sQ (jK (e:=elI) (l:=p) (k:=(k).toNat) (o:=0) tyT O (SLe.sub Hp sn) (cZ I0 o2_) O) O ?_;refine go3 ?_;refine rtX O (fV O m0 tyT O) ?_;exact congrArg vS2 (show _=(eS p k) from aQ h5 O)
theorem o0 (vp:Value) (p:(List I)) (n:I) (w:World) (hp:Slr w elI vp p) (hpre:p.length≤100) :
    Calls prog 103 [vp,AV [pI n]].toArray w (fun e w'=>∃ v,e = .returned (v)∧Ext w w'∧Slo w.heap.size w' 27 elI v (cT p n)):=by
 obtain ⟨p_p,c_p,rfl⟩:=hp.form;refine fA (n:=32) (fun v=>v) func103 O O zz_ ?_;obtain ⟨w0,rfl⟩:=nm w;have Hp:=hp.old;have hm_p:=hp.max;refine giI ?_;refine go2 ?_;intro b1 hb1;refine go3 ?_;refine gJv [7,8,9,10,11,12,13] [(13,.bool ((aW p)||(!(fR n))))] (fun K2 J2=>?_) ?_
 ·refine go2 ?_;refine sFc (.bool (aW p)) O (c1_ (dP _ p) Hp sn) O O ?_;refine sBB O (fun h3=>?_) (fun h3=>?_)
  ·refine go5 ?_;refine J2 _ _ pp_ s0 (bK (mW h3))
  refine go_ ?_;refine sQ (bW aS (lY n) O) O (go3 ?_);refine J2 _ _ pp_ s0 (bK (lF h3 O))
 intro g4;refine aZ _ O (fun h5=>?_) (fun h5=>?_)
 ·refine go_ ?_;refine bL O (cO (E:=27) (e:=elI) (l:=F_skewbackref08_bad) (fun v=>v) aS O (fun w hw=>gV  w) (fun p6 c7 L8 hF9=>go3 ?_));refine rt1 ?_
  have hE:(F_skewbackref08_bad:(List I))=(cT p n):=by exact bE h5 O
  rw [← hE];exact ⟨_,rfl,⟨L8,lZ,hF9⟩⟩
 refine go8 ?_;refine gJ3 (rg [5,6] 15 15) (fun g M=>∃ (out:List I) (i:Nat) (p_out:Option Addr) (c_out:Nat) (L_out:List Blk),(gE p n (p.length+1) ([]:List I) 0)=(out,i)∧(out.length≤200)∧(g 5 = .slice p_out out.length c_out∧g 6 = .int .i64 (i:Int)∧OwnG w0 27 elI (.slice p_out out.length c_out) out L_out)∧M=(L_out++(⟨b1,27,bH [pI n]⟩::[]))) (fun K_u10 hK_u10=>?_) ?_
 ·refine go_ ?_;refine cH (rg [5,6] 15 15) (fun g nn M=>∃ (out:List I) (i:Nat) (p_out:Option Addr) (c_out:Nat) (L_out:List Blk),(gE p n nn out i)=(gE p n (p.length+1) ([]:List I) 0)∧p.length - i<nn∧(i≤p.length∧out.length=i)∧(g 5 = .slice p_out out.length c_out∧g 6 = .int .i64 (i:Int)∧OwnG w0 27 elI (.slice p_out out.length c_out) out L_out)∧M=(L_out++(⟨b1,27,bH [pI n]⟩::[]))) (p.length+1) ?start ?round
  case start=>exact ⟨_,s0,([]:List I),0,none,0,[],rfl,o1_,o1_,⟨rfl,rfl,OwnG.nil⟩,rfl⟩
  case round =>
   rintro nn g M ⟨out,i,p_out,c_out,L_out,hT0,hq0,hinv0,⟨hg5,hg6,hO_out⟩,rfl⟩;obtain ⟨k0,rfl⟩:∃ m,nn=m+1:=⟨nn - 1,by omega⟩;refine gS2 hg5 hg6 ?_;clear hg5 hg6;have hm_out:=OwnG.max hO_out;refine go4 ?_;refine sQ (dK dW O (SLe.sub Hp sn)) O (go2 ?_);refine aZ _ O (fun h17=>?_) (fun h17=>?_)
   ·have ph17:=of_decide_eq_true h17;refine go3 ?_;refine rP sn 10 [7,8] [8] (go3 ?_);refine pQ O (bJ (v':=.pointer (some (slb (.slice p_p p.length c_p) (i*18+0)))) (j7 (e:=elI) (l:=p) (k:=i) dW O O (SLe.sub Hp sn) o2_) O) ?_;refine pQ O (jK (e:=elI) (l:=p) (k:=i) (o:=0) tyT O (SLe.sub Hp sn) (cZ I0 o2_) O) ?_;refine go_ ?_;refine pC (AV [pI (E (Z.mul (p.getD i I0).dec n.dec))]) aS (e7 (p.getD i I0).1 n.1 (p.getD i I0).2 n.2) O O O (gA O O (fL [[pI (E (Z.mul (p.getD i I0).dec n.dec))]] [pI (E (Z.mul (p.getD i I0).dec n.dec))] l4 lO nW O dd_ O O ⟨rfl,rfl,rfl,trivial⟩ O (fun b18 hb18=>⟨(fun _=>sd s0),sn,gA O O (l8 (e:=elI) (l:=out) (m:=[(E (Z.mul (p.getD i I0).dec n.dec))]) 68 l4 (by kernel_rfl) dd_ O O hO_out (SLe.lit (e:=elI) (l:=[(E (Z.mul (p.getD i I0).dec n.dec))]) m0 O (Nat.le_of_ble_eq_true O) O) (cS o3) (by simp only [List.length_append,List.length_cons,List.length_nil];omega) dd_ (fun p19 c20 L21 hO22=>⟨nf,sn,?_⟩))⟩)));refine go4 ?_;refine sWi (((i+1):Nat):Int) O (go2 ?_);refine ⟨pp_,_,_,(sA (sd s0)),(Nat.lt_succ_self _),(out++[(E (Z.mul (p.getD i I0).dec n.dec))]),(i+1),p19,c20,L21,(by exact (hT0.symm.trans (Eq.symm (bE h17 O))).symm),(Nat.lt_of_lt_of_le o1_ (Nat.le_of_lt_succ hq0)),o1_,⟨rfl,rfl,hO22⟩,rfl⟩
   have ph17:=of_decide_eq_false h17;refine go_ ?_;refine hK_u10 _ _ pp_ ⟨_,s0,out,i,p_out,c_out,L_out,(by exact hT0.symm.trans (Eq.symm (aQ h17 O))),o1_,⟨rfl,rfl,hO_out⟩,rfl⟩
 rintro g M ⟨out,i,p_out,c_out,L_out,hCu10,hPu10,⟨hg5,hg6,hO_out⟩,rfl⟩;refine gS2 hg5 hg6 ?_;clear hg5 hg6;have hm_out:=OwnG.max hO_out;refine go2 ?_;refine bL O (cO (E:=27) (e:=elI) (l:=(bC out)) (fun v=>v) aS O (fun w hw=>kP _ out w (aO hw hO_out lZ) oo_) (fun p23 c24 L25 hF26=>?_));have hb27:=(kO out);refine go3 ?_;refine rt1 ?_
 have hE:((bC out):(List I))=(cT p n):=by exact aQ h5 (trs (Eq.symm (apS hCu10)) O)
 rw [← hE];exact ⟨_,rfl,⟨L25,lZ,hF26⟩⟩
theorem r6 (vp:Value) (p:(List I)) (w:World) (hp:Slr w elI vp p) (hpre:p.length≤100) :
    Calls prog 101 [vp].toArray w (fun e w'=>∃ v,e = .returned (v)∧Ext w w'∧Slo w.heap.size w' 27 elI v (aK p)):=by
 obtain ⟨p_p,c_p,rfl⟩:=hp.form;refine fA (n:=26) (fun v=>v) func101 O O zz_ ?_;obtain ⟨w0,rfl⟩:=nm w;have Hp:=hp.old;have hm_p:=hp.max;refine giI ?_;refine go6 ?_;refine sFc (.bool (aW p)) O (c1_ (dP _ p) Hp sn) O O (go_ ?_);refine aZ _ O (fun h1=>?_) (fun h1=>?_)
 ·refine go_ ?_;refine bL O (cO (E:=27) (e:=elI) (l:=F_skewbackref08_bad) (fun v=>v) aS O (fun w hw=>gV  w) (fun p2 c3 L4 hF5=>go3 ?_));refine rt1 ?_
  have hE:(F_skewbackref08_bad:(List I))=(aK p):=by exact bE h1 O
  rw [← hE];exact ⟨_,rfl,⟨L4,lZ,hF5⟩⟩
 refine go8 ?_;refine gJ3 (rg [3,4] 8 16) (fun g M=>∃ (out:List I) (i:Nat) (p_out:Option Addr) (c_out:Nat) (L_out:List Blk),(fY p (p.length+1) ([]:List I) 1)=(out,i)∧(out.length≤200)∧(g 3 = .slice p_out out.length c_out∧g 4 = .int .i64 (i:Int)∧OwnG w0 27 elI (.slice p_out out.length c_out) out L_out)∧M=(L_out++[])) (fun K_u6 hK_u6=>?_) ?_
 ·refine go_ ?_;refine cH (rg [3,4] 8 16) (fun g nn M=>∃ (out:List I) (i:Nat) (p_out:Option Addr) (c_out:Nat) (L_out:List Blk),(fY p nn out i)=(fY p (p.length+1) ([]:List I) 1)∧p.length - i<nn∧(out.length+1=i∧(i≤p.length∨i=1))∧(g 3 = .slice p_out out.length c_out∧g 4 = .int .i64 (i:Int)∧OwnG w0 27 elI (.slice p_out out.length c_out) out L_out)∧M=(L_out++[])) (p.length+1) ?start ?round
  case start=>exact ⟨_,s0,([]:List I),1,none,0,[],rfl,o1_,o1_,⟨rfl,rfl,OwnG.nil⟩,rfl⟩
  case round =>
   rintro nn g M ⟨out,i,p_out,c_out,L_out,hT0,hq0,hinv0,⟨hg3,hg4,hO_out⟩,rfl⟩;obtain ⟨k0,rfl⟩:∃ m,nn=m+1:=⟨nn - 1,by omega⟩;refine gS2 hg3 hg4 ?_;clear hg3 hg4;have hm_out:=OwnG.max hO_out;refine go4 ?_;refine sQ (dK dW O (SLe.sub Hp sn)) O (go2 ?_);refine aZ _ O (fun h13=>?_) (fun h13=>?_)
   ·have ph13:=of_decide_eq_true h13;refine go3 ?_;refine rP sn 11 [8,9] [9] (go2 ?_);refine pC (AV [pI (E (Z.of (i:Int)))]) aS (dV (i:Int) (by unfold I64;omega)) O O O (go2 ?_);refine pQ O (bJ (v':=.pointer (some (slb (.slice p_p p.length c_p) (i*18+0)))) (j7 (e:=elI) (l:=p) (k:=i) dW O O (SLe.sub Hp sn) o2_) O) ?_;refine pQ O (jK (e:=elI) (l:=p) (k:=i) (o:=0) tyT O (SLe.sub Hp sn) (cZ I0 o2_) O) ?_;refine pC (AV [pI (E (Z.mul (Z.of (i:Int)) (p.getD i I0).dec))]) aS (e7 (E (Z.of (i:Int))).1 (p.getD i I0).1 (E (Z.of (i:Int))).2 (p.getD i I0).2) O O (cg2 (fun p q=>AV [pI (E (Z.mul p q))]) (cP _) O) (gA O O (fL [[pI (E (Z.mul (Z.of (i:Int)) (p.getD i I0).dec))]] [pI (E (Z.mul (Z.of (i:Int)) (p.getD i I0).dec))] l4 lO nW O dd_ O O ⟨rfl,rfl,rfl,trivial⟩ O (fun b14 hb14=>⟨(fun _=>sd s0),sn,gA O O (l8 (e:=elI) (l:=out) (m:=[(E (Z.mul (Z.of (i:Int)) (p.getD i I0).dec))]) 68 l4 (by kernel_rfl) dd_ O O hO_out (SLe.lit (e:=elI) (l:=[(E (Z.mul (Z.of (i:Int)) (p.getD i I0).dec))]) m0 O (Nat.le_of_ble_eq_true O) O) (cS o3) (by simp only [List.length_append,List.length_cons,List.length_nil];omega) dd_ (fun p15 c16 L17 hO18=>⟨nf,sn,?_⟩))⟩)));refine go4 ?_;refine sWi (((i+1):Nat):Int) O (go2 ?_);refine ⟨pp_,_,_,(sA (sd s0)),(Nat.lt_succ_self _),(out++[(E (Z.mul (Z.of (i:Int)) (p.getD i I0).dec))]),(i+1),p15,c16,L17,(by exact (hT0.symm.trans (Eq.symm (bE h13 O))).symm),(Nat.lt_of_lt_of_le o1_ (Nat.le_of_lt_succ hq0)),o1_,⟨rfl,rfl,hO18⟩,rfl⟩
   have ph13:=of_decide_eq_false h13;refine go_ ?_;refine hK_u6 _ _ pp_ ⟨_,s0,out,i,p_out,c_out,L_out,(by exact hT0.symm.trans (Eq.symm (aQ h13 O))),o1_,⟨rfl,rfl,hO_out⟩,rfl⟩
 rintro g M ⟨out,i,p_out,c_out,L_out,hCu6,hPu6,⟨hg3,hg4,hO_out⟩,rfl⟩;refine gS2 hg3 hg4 ?_;clear hg3 hg4;have hm_out:=OwnG.max hO_out;refine go2 ?_;refine bL O (cO (E:=27) (e:=elI) (l:=(bC out)) (fun v=>v) aS O (fun w hw=>kP _ out w (aO hw hO_out lZ) oo_) (fun p19 c20 L21 hF22=>?_));have hb23:=(kO out);refine go3 ?_;refine rt1 ?_
 have hE:((bC out):(List I))=(aK p):=by exact aQ h1 (trs (Eq.symm (apS hCu6)) O)
 rw [← hE];exact ⟨_,rfl,⟨L21,lZ,hF22⟩⟩
theorem yO (n:I) (k:Int) (w:World)  (hpre:k≤200) :
    Calls prog 134 [AV [pI n],.int .i64 k].toArray w (fun e w'=>e = .returned (AV [pI (iR n k)])∧Ext w w'):=by
 refine cU (N:=17) func134 O O zz_ ?_;obtain ⟨w0,rfl⟩:=nm w;refine giI ?_;refine go2 ?_;intro b1 hb1;refine go_ ?_;intro b2 hb2;refine go2 ?_;refine sC (AV [pI (E (Z.of 1))]) aS (dV (wl 1).1 (wl 1).2) O O O ?_;refine go_ ?_;intro b3 hb3;refine go6 ?_;refine gJ3 (rg [6] 8 8) (fun g M=>∃ (i:Nat) (mb3:I),(iC n k (k.toNat+1) 0 (E (Z.of 1)))=(i,mb3)∧(g 6 = .int .i64 (i:Int))∧M=[⟨b3,27,bH [pI mb3]⟩,⟨b2,27,bH [pI I0]⟩,⟨b1,27,bH [pI n]⟩]) (fun K_u4 hK_u4=>?_) ?_
 ·refine go_ ?_;refine cH (rg [6] 8 8) (fun g nn M=>∃ (i:Nat) (mb3:I),(iC n k nn i mb3)=(iC n k (k.toNat+1) 0 (E (Z.of 1)))∧k.toNat - i<nn∧(i≤k.toNat)∧(g 6 = .int .i64 (i:Int))∧M=[⟨b3,27,bH [pI mb3]⟩,⟨b2,27,bH [pI I0]⟩,⟨b1,27,bH [pI n]⟩]) (k.toNat+1) ?start ?round
  case start=>exact ⟨_,s0,0,(E (Z.of 1)),rfl,o1_,o1_,rfl,rfl⟩
  case round =>
   rintro nn g M ⟨i,mb3,hT0,hq0,hinv0,hg6,rfl⟩;obtain ⟨k0,rfl⟩:∃ m,nn=m+1:=⟨nn - 1,by omega⟩;refine gS1 hg6 ?_;clear hg6;refine go6 ?_;refine aZ _ O (fun h7=>?_) (fun h7=>?_)
   ·have ph7:=of_decide_eq_true h7;refine go6 ?_;refine sC (AV [pI (E (Z.mul mb3.dec n.dec))]) aS (e7 mb3.1 n.1 mb3.2 n.2) O O O (go4 ?_);refine sWi (((i+1):Nat):Int) O (go2 ?_);refine ⟨pp_,_,_,s0,(Nat.lt_succ_self _),(i+1),(E (Z.mul mb3.dec n.dec)),(by exact (hT0.symm.trans (Eq.symm (bE h7 O))).symm),(Nat.lt_of_lt_of_le o1_ (Nat.le_of_lt_succ hq0)),o1_,rfl,rfl⟩
   have ph7:=of_decide_eq_false h7;refine go_ ?_;refine hK_u4 _ _ pp_ ⟨_,s0,i,mb3,(by exact hT0.symm.trans (Eq.symm (aQ h7 O))),rfl,rfl⟩
 rintro g M ⟨i,mb3,hCu4,hg6,rfl⟩;refine gS1 hg6 ?_;clear hg6;refine go5 ?_;refine rtX O (fV O m1 tyT O) ?_;exact congrArg vS2 (show _=(iR n k) from (by unfold iR;exact trs (Eq.symm (apS hCu4)) O))
theorem zO (a:Rt) :
    Ret prog 133 [AV [pI a.n,pI a.d]] (.bool (kF a)):=by
 refine cJ (N:=26) func133 O O zz_ (fun w0=>?_);refine giI ?_;refine go2 ?_;intro b1 hb1;refine go3 ?_;refine gJv (rg [] 3 16) [(18,.bool (!(fR a.n)||(!(fR a.d)||decide ((Z.signW a.d.dec).1≤0))))] (fun K2 J2=>?_) ?_
 ·refine go3 ?_;refine sQ (bW aS (lY a.n) O) O (go_ ?_);rcases bt (fR a.n) with h4|h4
  ·refine sB (gS h4) O (go2 ?_);refine sQ (bW aS (lY a.d) O) O (go2 ?_);rcases bt (fR a.d) with h5|h5
   ·refine sB (gS h5) O (go2 ?_);refine sC (.int .i64 ((Z.signW a.d.dec).1)) aS (eV a.d.1 a.d.2) O O O (go3 ?_);refine J2 _ _ pp_ s0 (bK (mL h4 (mL h5 O)))
   refine sB (gN h5) O (go6 ?_);refine J2 _ _ pp_ s0 (bK (mL h4 (oM h5)))
  refine sB (gN h4) O (Q2 ?_);refine J2 _ _ pp_ s0 (bK (oM h4))
 intro g6;refine aZ _ O (fun h7=>?_) (fun h7=>?_)
 ·refine go4 ?_;refine rt1 ?_;exact congrArg vS0 (show _=(kF a) from bE h7 O)
 refine go6 ?_;refine sC (AV [pI (E (Z.gcd a.n.dec a.d.dec))]) aS (mH a.n.1 a.d.1 a.n.2 a.d.2) O O O (sC (AV [pI (E (Z.of 1))]) aS (dV (wl 1).1 (wl 1).2) O O O ?_);refine sQ (vM (r:=decide ((E (Z.gcd a.n.dec a.d.dec))=(E (Z.of 1)))) O O (n5 8 dd_ VC VY (oB jU) (oB jU) (tJ o6))) O (go3 ?_);refine rt1 ?_;exact congrArg vS0 (show _=(kF a) from aQ h7 O)
theorem yQ (vp:Value) (p:(List I)) (x:Rt) (w:World) (hp:Slr w elI vp p) (hpre:p.length≤100) :
    Calls prog 73 [vp,AV [pI x.n,pI x.d]].toArray w (fun e w'=>e = .returned (AV [pI (eT p x)])∧Ext w w'):=by
 obtain ⟨p_p,c_p,rfl⟩:=hp.form;refine cU (N:=42) func73 O O zz_ ?_;obtain ⟨w0,rfl⟩:=nm w;have Hp:=hp.old;have hm_p:=hp.max;refine giI ?_;refine go2 ?_;intro b1 hb1;refine go_ ?_;intro b2 hb2;refine go2 ?_;refine gJv [7,8,9,10,11,12,13] [(13,.bool ((aW p)||(!(kF x))))] (fun K2 J2=>?_) ?_
 ·refine go2 ?_;refine sFc (.bool (aW p)) O (c1_ (dP _ p) Hp sn) O O ?_;refine sBB O (fun h4=>?_) (fun h4=>?_)
  ·refine go5 ?_;refine J2 _ _ pp_ s0 (bK (mW h4))
  refine go_ ?_;refine sQ (bW aS (zO x) O) O (go3 ?_);refine J2 _ _ pp_ s0 (bK (lF h4 O))
 intro g5;refine aZ _ O (fun h6=>?_) (fun h6=>?_)
 ·refine go_ ?_;refine sC (AV [pI (E Z.bad)]) aS eD O O O (go3 ?_);refine rtX O (fV O m0 tyT O) ?_;exact congrArg vS2 (show _=(eT p x) from bE h6 O)
 refine go4 ?_;intro b7 hb7;refine go5 ?_;refine sQ (dK dW O (SLe.sub Hp sn)) O (sWi ((p.length:Int) - 1) O (go2 ?_));refine gJ3 (rg [6] 19 22) (fun g M=>∃ (i:Int) (mb7:I),(iD p x (p.length+1) ((p.length:Int) - 1) I0)=(i,mb7)∧(g 6 = .int .i64 i)∧M=[⟨b7,27,bH [pI mb7]⟩,⟨b2,27,bH [pI I0]⟩,⟨b1,29,bH [pI x.n,pI x.d]⟩]) (fun K_u8 hK_u8=>?_) ?_
 ·refine go_ ?_;refine cH (rg [6] 19 22) (fun g nn M=>∃ (i:Int) (mb7:I),(iD p x nn i mb7)=(iD p x (p.length+1) ((p.length:Int) - 1) I0)∧(i+1).toNat<nn∧(i<(p.length:Int)∧-1≤i)∧(g 6 = .int .i64 i)∧M=[⟨b7,27,bH [pI mb7]⟩,⟨b2,27,bH [pI I0]⟩,⟨b1,29,bH [pI x.n,pI x.d]⟩]) (p.length+1) ?start ?round
  case start=>exact ⟨_,s0,((p.length:Int) - 1),I0,rfl,o1_,o1_,rfl,rfl⟩
  case round =>
   rintro nn g M ⟨i,mb7,hT0,hq0,hinv0,hg6,rfl⟩;obtain ⟨k0,rfl⟩:∃ m,nn=m+1:=⟨nn - 1,by omega⟩;refine gS1 hg6 ?_;clear hg6;refine go5 ?_;refine aZ _ O (fun h13=>?_) (fun h13=>?_)
   ·have ph13:=of_decide_eq_true h13;refine go3 ?_;refine gdr (sd s0) [0,4,8,12,16,20,24,28,32,36,40,44,48,52,56,60,64,68,73] [18] mix (by kernel_rfl) (go3 ?_);refine pC (AV [pI (E (Z.mul mb7.dec x.n.dec))]) aS (e7 mb7.1 x.n.1 mb7.2 x.n.2) O O O (go2 ?_);refine pQ O (bJ (v':=.pointer (some (slb (.slice p_p p.length c_p) ((i.toNat)*18+0)))) (lL (e:=elI) (l:=p) (k:=(i).toNat) dW O O oo_ (SLe.sub Hp sn) o2_) O) ?_;refine pQ O (jK (e:=elI) (l:=p) (k:=(i).toNat) (o:=0) tyT O (SLe.sub Hp sn) (cZ I0 o2_) O) ?_;refine go3 ?_;refine pQ O (dK dW O (SLe.sub Hp sn)) (pV (.int .i64 ((p.length:Int) - 1)) O wxo (go_ ?_));refine pV (.int .i64 (((p.length:Int) - 1) - i)) O wxo (pQ O (bJ (v':=AV [pI (iR x.d (((p.length:Int) - 1) - i))]) (dZ aS O (fun w hw=>yO x.d (((p.length:Int) - 1) - i) w oo_)) O) ?_);obtain ⟨r14,hr14⟩:=nm ((E (Z.mul (p.getD (i.toNat) I0).dec (iR x.d (((p.length:Int) - 1) - i)).dec)):I);refine pC (AV [pI r14]) aS (e7 (p.getD (i.toNat) I0).1 (iR x.d (((p.length:Int) - 1) - i)).1 (p.getD (i.toNat) I0).2 (iR x.d (((p.length:Int) - 1) - i)).2) O O (by subst hr14;rfl) (pC (AV [pI (E (Z.add (Z.mul mb7.dec x.n.dec) r14.dec))]) aS (pX (E (Z.mul mb7.dec x.n.dec)).1 r14.1 (E (Z.mul mb7.dec x.n.dec)).2 r14.2) O O (cg2 (fun p q=>AV [pI (E (Z.add p q))]) (cP _) O) (go4 ?_));refine sWi (i - 1) O (go2 ?_);refine ⟨pp_,_,_,s0,(Nat.lt_succ_self _),(i - 1),(E (Z.add (Z.mul mb7.dec x.n.dec) r14.dec)),(by subst hr14;exact (hT0.symm.trans (Eq.symm (bE h13 O))).symm),(Nat.lt_of_lt_of_le o1_ (Nat.le_of_lt_succ hq0)),o1_,rfl,rfl⟩
   have ph13:=of_decide_eq_false h13;refine go_ ?_;refine hK_u8 _ _ pp_ ⟨_,s0,i,mb7,(by exact hT0.symm.trans (Eq.symm (aQ h13 O))),rfl,rfl⟩
 rintro g M ⟨i,mb7,hCu8,hg6,rfl⟩;refine gS1 hg6 ?_;clear hg6;refine go5 ?_;refine rtX O (fV O m1 tyT O) ?_;exact congrArg vS2 (show _=(eT p x) from aQ h6 (trs (Eq.symm (apS hCu8)) O))
theorem lX (vp:Value) (p:(List I)) (x:Rt) (w:World) (hp:Slr w elI vp p) (hpre:p.length≤100) :
   Calls prog 31 [vp,AV [pI x.n,pI x.d]].toArray w (fun e w'=>e = .returned (AV [cw (((aF p x).s).1),cb ((aF p x).ok)])∧Ext w w'):=by
 obtain ⟨p_p,c_p,rfl⟩:=hp.form;refine cU (N:=15) func31 O O zz_ ?_;obtain ⟨w0,rfl⟩:=nm w;have Hp:=hp.old;have hm_p:=hp.max;refine giI ?_;refine go2 ?_;intro b1 hb1;refine go_ ?_;intro b2 hb2;refine go4 ?_;refine sFc (AV [pI (eT p x)]) O (fun w hw=>yQ _ p x w (aR hw Hp sn) oo_) O O (go_ ?_);intro b3 hb3;refine go7 ?_;refine aZ _ O (fun h4=>?_) (fun h4=>?_)
 ·refine go5 ?_;refine rtX O (fV O m1 tyT O) ?_;exact congrArg vS7 (show _=(aF p x) from bE h4 O)
 refine go3 ?_;refine sC (.int .i64 ((Z.signW (eT p x).dec).1)) aS (eV (eT p x).1 (eT p x).2) O O O (go4 ?_);refine rtX O (fV O m1 tyT O) ?_;exact congrArg vS7 (show _=(aF p x) from aQ h4 O)
theorem w9 (vl:Value) (l:(List I)) (w:World) (hl:Slr w elI vl l) :
    Calls prog 156 [vl].toArray w (fun e w'=>e = .returned (AV [pI (dJ l)])∧Ext w w'):=by
 obtain ⟨p_l,c_l,rfl⟩:=hl.form;refine cU (N:=19) func156 O O zz_ ?_;obtain ⟨w0,rfl⟩:=nm w;have Hl:=hl.old;have hm_l:=hl.max;refine giI ?_;refine go2 ?_;intro b1 hb1;refine go4 ?_;intro b2 hb2;refine go6 ?_;refine gJ3 (rg [4] 6 12) (fun g M=>∃ (i:Nat) (mb2:I),(gK l (l.length+1) 0 I0)=(i,mb2)∧(g 4 = .int .i64 (i:Int))∧M=[⟨b2,27,bH [pI mb2]⟩,⟨b1,27,bH [pI I0]⟩]) (fun K_u3 hK_u3=>?_) ?_
 ·refine go_ ?_;refine cH (rg [4] 6 12) (fun g nn M=>∃ (i:Nat) (mb2:I),(gK l nn i mb2)=(gK l (l.length+1) 0 I0)∧l.length - i<nn∧(i≤l.length)∧(g 4 = .int .i64 (i:Int))∧M=[⟨b2,27,bH [pI mb2]⟩,⟨b1,27,bH [pI I0]⟩]) (l.length+1) ?start ?round
  case start=>exact ⟨_,s0,0,I0,rfl,o1_,o1_,rfl,rfl⟩
  case round =>
   rintro nn g M ⟨i,mb2,hT0,hq0,hinv0,hg4,rfl⟩;obtain ⟨k0,rfl⟩:∃ m,nn=m+1:=⟨nn - 1,by omega⟩;refine gS1 hg4 ?_;clear hg4;refine go4 ?_;refine sQ (dK m9 O (SLe.sub Hl sn)) O (go2 ?_);refine aZ _ O (fun h6=>?_) (fun h6=>?_)
   ·have ph6:=of_decide_eq_true h6;refine go3 ?_;refine rP (sd s0) 7 [6] [6] (go3 ?_);refine pQ O (bJ (v':=.pointer (some (slb (.slice p_l l.length c_l) (i*18+0)))) (j7 (e:=elI) (l:=l) (k:=i) m9 O O (SLe.sub Hl sn) o2_) O) ?_;refine pQ O (jK (e:=elI) (l:=l) (k:=i) (o:=0) tyT O (SLe.sub Hl sn) (cZ I0 o2_) O) ?_;refine pC (AV [pI (E (Z.gcd mb2.dec (l.getD i I0).dec))]) aS (mH mb2.1 (l.getD i I0).1 mb2.2 (l.getD i I0).2) O O O (go4 ?_);refine sWi (((i+1):Nat):Int) O (go2 ?_);refine ⟨pp_,_,_,s0,(Nat.lt_succ_self _),(i+1),(E (Z.gcd mb2.dec (l.getD i I0).dec)),(by exact (hT0.symm.trans (Eq.symm (bE h6 O))).symm),(Nat.lt_of_lt_of_le o1_ (Nat.le_of_lt_succ hq0)),o1_,rfl,rfl⟩
   have ph6:=of_decide_eq_false h6;refine go_ ?_;refine hK_u3 _ _ pp_ ⟨_,s0,i,mb2,(by exact hT0.symm.trans (Eq.symm (aQ h6 O))),rfl,rfl⟩
 rintro g M ⟨i,mb2,hCu3,hg4,rfl⟩;refine gS1 hg4 ?_;clear hg4;refine go5 ?_;refine rtX O (fV O m1 tyT O) ?_;exact congrArg vS2 (show _=(dJ l) from (by unfold dJ;exact trs (Eq.symm (apS hCu3)) O))
theorem jB (vp:Value) (p:(List I)) (w:World) (hp:Slr w elI vp p) (hpre:p.length≤100) :
    Calls prog 100 [vp].toArray w (fun e w'=>∃ v,e = .returned (v)∧Ext w w'∧Slo w.heap.size w' 27 elI v (aD p)):=by
 obtain ⟨p_p,c_p,rfl⟩:=hp.form;refine fA (n:=28) (fun v=>v) func100 O O zz_ ?_;obtain ⟨w0,rfl⟩:=nm w;have Hp:=hp.old;have hm_p:=hp.max;refine giI ?_;refine go6 ?_;refine sFc (.bool (aW p)) O (c1_ (dP _ p) Hp sn) O O (go_ ?_);refine aZ _ O (fun h1=>?_) (fun h1=>?_)
 ·refine go_ ?_;refine bL O (cO (E:=27) (e:=elI) (l:=F_skewbackref08_bad) (fun v=>v) aS O (fun w hw=>gV  w) (fun p2 c3 L4 hF5=>go3 ?_));refine rt1 ?_
  have hE:(F_skewbackref08_bad:(List I))=(aD p):=by exact bE h1 O
  rw [← hE];exact ⟨_,rfl,⟨L4,lZ,hF5⟩⟩
 refine go3 ?_;refine sFc (AV [pI (dJ p)]) O (c1_ (w9 _ p) Hp sn) O O (go_ ?_);intro b6 hb6;refine go9 ?_;refine gJ3 (rg [4,5] 11 15) (fun g M=>∃ (out:List I) (i:Nat) (p_out:Option Addr) (c_out:Nat) (L_out:List Blk),(fJ p (p.length+1) ([]:List I) 0)=(out,i)∧(out.length≤200)∧(g 4 = .slice p_out out.length c_out∧g 5 = .int .i64 (i:Int)∧OwnG w0 27 elI (.slice p_out out.length c_out) out L_out)∧M=(L_out++(⟨b6,27,bH [pI (dJ p)]⟩::[]))) (fun K_u7 hK_u7=>?_) ?_
 ·refine go_ ?_;refine cH (rg [4,5] 11 15) (fun g nn M=>∃ (out:List I) (i:Nat) (p_out:Option Addr) (c_out:Nat) (L_out:List Blk),(fJ p nn out i)=(fJ p (p.length+1) ([]:List I) 0)∧p.length - i<nn∧(i≤p.length∧out.length=i)∧(g 4 = .slice p_out out.length c_out∧g 5 = .int .i64 (i:Int)∧OwnG w0 27 elI (.slice p_out out.length c_out) out L_out)∧M=(L_out++(⟨b6,27,bH [pI (dJ p)]⟩::[]))) (p.length+1) ?start ?round
  case start=>exact ⟨_,s0,([]:List I),0,none,0,[],rfl,o1_,o1_,⟨rfl,rfl,OwnG.nil⟩,rfl⟩
  case round =>
   rintro nn g M ⟨out,i,p_out,c_out,L_out,hT0,hq0,hinv0,⟨hg4,hg5,hO_out⟩,rfl⟩;obtain ⟨k0,rfl⟩:∃ m,nn=m+1:=⟨nn - 1,by omega⟩;refine gS2 hg4 hg5 ?_;clear hg4 hg5;have hm_out:=OwnG.max hO_out;refine go4 ?_;refine sQ (dK dW O (SLe.sub Hp sn)) O (go2 ?_);refine aZ _ O (fun h14=>?_) (fun h14=>?_)
   ·have ph14:=of_decide_eq_true h14;refine go3 ?_;refine rP sn 10 [7,8] [8] (go3 ?_);refine pQ O (bJ (v':=.pointer (some (slb (.slice p_p p.length c_p) (i*18+0)))) (j7 (e:=elI) (l:=p) (k:=i) dW O O (SLe.sub Hp sn) o2_) O) ?_;refine pQ O (jK (e:=elI) (l:=p) (k:=i) (o:=0) tyT O (SLe.sub Hp sn) (cZ I0 o2_) O) ?_;refine go_ ?_;refine pC (AV [pI (E (Z.quo (p.getD i I0).dec (dJ p).dec))]) aS (gU (p.getD i I0).1 (dJ p).1 (p.getD i I0).2 (dJ p).2) O O O (gA O O (fL [[pI (E (Z.quo (p.getD i I0).dec (dJ p).dec))]] [pI (E (Z.quo (p.getD i I0).dec (dJ p).dec))] l4 lO nW O dd_ O O ⟨rfl,rfl,rfl,trivial⟩ O (fun b15 hb15=>⟨(fun _=>sd s0),sn,gA O O (l8 (e:=elI) (l:=out) (m:=[(E (Z.quo (p.getD i I0).dec (dJ p).dec))]) 68 l4 (by kernel_rfl) dd_ O O hO_out (SLe.lit (e:=elI) (l:=[(E (Z.quo (p.getD i I0).dec (dJ p).dec))]) m0 O (Nat.le_of_ble_eq_true O) O) (cS o3) (by simp only [List.length_append,List.length_cons,List.length_nil];omega) dd_ (fun p16 c17 L18 hO19=>⟨nf,sn,?_⟩))⟩)));refine go4 ?_;refine sWi (((i+1):Nat):Int) O (go2 ?_);refine ⟨pp_,_,_,(sA (sd s0)),(Nat.lt_succ_self _),(out++[(E (Z.quo (p.getD i I0).dec (dJ p).dec))]),(i+1),p16,c17,L18,(by exact (hT0.symm.trans (Eq.symm (bE h14 O))).symm),(Nat.lt_of_lt_of_le o1_ (Nat.le_of_lt_succ hq0)),o1_,⟨rfl,rfl,hO19⟩,rfl⟩
   have ph14:=of_decide_eq_false h14;refine go_ ?_;refine hK_u7 _ _ pp_ ⟨_,s0,out,i,p_out,c_out,L_out,(by exact hT0.symm.trans (Eq.symm (aQ h14 O))),o1_,⟨rfl,rfl,hO_out⟩,rfl⟩
 rintro g M ⟨out,i,p_out,c_out,L_out,hCu7,hPu7,⟨hg4,hg5,hO_out⟩,rfl⟩;refine gS2 hg4 hg5 ?_;clear hg4 hg5;have hm_out:=OwnG.max hO_out;refine go2 ?_;refine bL O (cO (E:=27) (e:=elI) (l:=(bC out)) (fun v=>v) aS O (fun w hw=>kP _ out w (aO hw hO_out lZ) oo_) (fun p20 c21 L22 hF23=>?_));have hb24:=(kO out);refine go3 ?_;refine rt1 ?_
 have hE:((bC out):(List I))=(aD p):=by exact aQ h1 (trs (Eq.symm (apS hCu7)) O)
 rw [← hE];exact ⟨_,rfl,⟨L22,lZ,hF23⟩⟩
theorem yP (vp:Value) (p:(List I)) (w:World) (hp:Slr w elI vp p) :
    Calls prog 74 [vp].toArray w (fun e w'=>e = .returned (.bool (fS p))∧Ext w w'):=by
 obtain ⟨p_p,c_p,rfl⟩:=hp.form;refine cU (N:=33) func74 O O zz_ ?_;obtain ⟨w0,rfl⟩:=nm w;have Hp:=hp.old;have hm_p:=hp.max;refine giI ?_;refine go4 ?_;refine gJv (rg [] 3 10) [(12,.bool (((p.length:Int)==1)&&decide ((p.getD 0 I0)=(E Z.bad))))] (fun K2 J2=>?_) ?_
 ·refine rP sn 10 [] [] (go_ ?_);refine pQ O (dK dW O (SLe.sub Hp sn)) (go_ ?_);refine pBB O (fun h2=>?_) (fun h2=>?_)
  ·have ph2:=qM h2;refine go_ ?_;refine pQ O (bJ (v':=.pointer (some (slb (.slice p_p p.length c_p) (0*18+0)))) (j7 (e:=elI) (l:=p) (k:=0) dW O O (SLe.sub Hp sn) o2_) O) ?_;refine pQ O (jK (e:=elI) (l:=p) (k:=0) (o:=0) tyT O (SLe.sub Hp sn) (cZ I0 o2_) O) ?_;refine pC (AV [pI (E Z.bad)]) aS eD O O O ?_;refine pQ O (vM (r:=decide ((p.getD 0 I0)=(E Z.bad))) O O (n5 8 dd_ VC VY (oB jU) (oB jU) (tJ o6))) (go2 ?_);refine J2 _ _ pp_ s0 (bK (cQ h2 O))
  have ph2:=mD h2;refine go7 ?_;refine J2 _ _ pp_ s0 (bK (iT h2))
 intro g3;refine aZ _ O (fun h4=>?_) (fun h4=>?_)
 ·have ph5:=qM (Bool.and_eq_true_iff.1 h4).1;have ph6:=of_decide_eq_true (Bool.and_eq_true_iff.1 h4).2;refine go4 ?_;refine rt1 ?_;exact congrArg vS0 (show _=(fS p) from bE h4 O)
 refine go2 ?_;refine gJv [13,14,15,16,17,18,19] [(19,.bool ((aW p)||decide (25<(p.length:Int))))] (fun K4 J4=>?_) ?_
 ·refine go2 ?_;refine sFc (.bool (aW p)) O (c1_ (dP _ p) Hp sn) O O ?_;refine sBB O (fun h8=>?_) (fun h8=>?_)
  ·refine go5 ?_;refine J4 _ _ pp_ s0 (bK (mW h8))
  refine go_ ?_;refine sQ (dK dW O (SLe.sub Hp sn)) O (go3 ?_);refine J4 _ _ pp_ s0 (bK (lF h8 O))
 intro g9;refine aZ _ O (fun h10=>?_) (fun h10=>?_)
 ·refine go4 ?_;refine rt1 ?_;exact congrArg vS0 (show _=(fS p) from aQ h4 (bE h10 O))
 have ph11:=of_decide_eq_false (Bool.or_eq_false_iff.1 h10).2;refine go_ ?_;refine gJv (rg [2] 20 13) [(2,.bool (((p.length:Int)==0)||((Z.signW (p.getD (p.length - 1) I0).dec).1 != 0)))] (fun K5 J5=>?_) ?_
 ·refine go2 ?_;refine sQ (dK dW O (SLe.sub Hp sn)) O (go_ ?_);refine sBB O (fun h13=>?_) (fun h13=>?_)
  ·have ph13:=qM h13;refine vT ?_;refine J5 _ _ pp_ s0 (bK (mW h13))
  have ph13:=mD h13;refine go2 ?_;refine sQ (dK dW O (SLe.sub Hp sn)) O (sWi ((p.length:Int) - 1) O (sQ (bJ (v':=.pointer (some (slb (.slice p_p p.length c_p) ((p.length - 1)*18+0)))) (lL (e:=elI) (l:=p) (k:=(p.length - 1)) dW O O oo_ (SLe.sub Hp sn) o2_) O) O ?_));refine sQ (jK (e:=elI) (l:=p) (k:=(p.length - 1)) (o:=0) tyT O (SLe.sub Hp sn) (cZ I0 o2_) O) O ?_;refine sC (.int .i64 ((Z.signW (p.getD (p.length - 1) I0).dec).1)) aS (eV (p.getD (p.length - 1) I0).1 (p.getD (p.length - 1) I0).2) O O O (go4 ?_);refine J5 _ _ pp_ s0 (bK (lF h13 O))
 intro g14;refine go_ ?_;refine rt1 ?_;exact congrArg vS0 (show _=(fS p) from aQ h4 (aQ h10 O))
theorem uP (vp:Value) (p:(List I)) (d:Int) (b:Int) (w:World) (hp:Slr w elI vp p) (hpre:0≤d∧d≤1000) :
    Calls prog 32 [vp,.int .i64 d,.int .i64 b].toArray w (fun e w'=>e = .returned (.bool (eC p d b))∧Ext w w'):=by
 obtain ⟨p_p,c_p,rfl⟩:=hp.form;refine cU (N:=31) func32 O O zz_ ?_;obtain ⟨w0,rfl⟩:=nm w;have Hp:=hp.old;have hm_p:=hp.max;refine giI ?_;refine go4 ?_;refine gJv (rg [] 8 10) [(17,.bool (!(fS p)||decide ((d+1)<(p.length:Int))))] (fun K2 J2=>?_) ?_
 ·refine go2 ?_;refine sFc (.bool (fS p)) O (c1_ (yP _ p) Hp sn) O O (go_ ?_);rcases bt (fS p) with h2|h2
  ·refine sB (gS h2) O (go_ ?_);refine sQ (dK dW O (SLe.sub Hp sn)) O (go_ ?_);refine sWi (d+1) O (go3 ?_);refine J2 _ _ pp_ s0 (bK (mL h2 O))
  refine sB (gN h2) O (go7 ?_);refine J2 _ _ pp_ s0 (bK (oM h2))
 intro g3;refine aZ _ O (fun h4=>?_) (fun h4=>?_)
 ·refine go4 ?_;refine rt1 ?_;exact congrArg vS0 (show _=(eC p d b) from bE h4 O)
 have ph5:=of_decide_eq_false (Bool.or_eq_false_iff.1 h4).2;refine go5 ?_;refine gJ3 (rg [6,7] 18 13) (fun g M=>∃ (i:Nat),(iY p d b (p.length+1) 0) = .inl i∧(g 7 = .int .i64 (i:Int))∧M=[]) (fun K_u6 hK_u6=>?_) ?_
 ·refine go_ ?_;refine cH (rg [6,7] 18 13) (fun g nn M=>∃ (i:Nat),(iY p d b nn i)=(iY p d b (p.length+1) 0)∧p.length - i<nn∧(i≤p.length)∧(g 7 = .int .i64 (i:Int))∧M=[]) (p.length+1) ?start ?round
  case start=>exact ⟨_,s0,0,rfl,o1_,o1_,rfl,rfl⟩
  case round =>
   rintro nn g M ⟨i,hT0,hq0,hinv0,hg7,rfl⟩;obtain ⟨k0,rfl⟩:∃ m,nn=m+1:=⟨nn - 1,by omega⟩;refine gS1 hg7 ?_;clear hg7;refine go4 ?_;refine sQ (dK dW O (SLe.sub Hp sn)) O (go2 ?_);refine aZ _ O (fun h11=>?_) (fun h11=>?_)
   ·have ph11:=of_decide_eq_true h11;refine go6 ?_;refine sQ (bJ (v':=.pointer (some (slb (.slice p_p p.length c_p) (i*18+0)))) (j7 (e:=elI) (l:=p) (k:=i) dW O O (SLe.sub Hp sn) o2_) O) O ?_;refine sQ (jK (e:=elI) (l:=p) (k:=i) (o:=0) tyT O (SLe.sub Hp sn) (cZ I0 o2_) O) O ?_;refine sC (.int .i64 ((Z.bitsW (p.getD i I0).dec).1)) aS (jS (p.getD i I0).1 (p.getD i I0).2) O O O (go3 ?_);refine aZ _ O (fun h12=>?_) (fun h12=>?_)
    ·have ph12:=of_decide_eq_true h12;refine go4 ?_;refine rt1 ?_;exact congrArg vS0 (show _=(eC p d b) from aQ h4 (rH O (hT0.symm.trans (Eq.symm (bE h11 (bE h12 O))))))
    have ph12:=of_decide_eq_false h12;refine go3 ?_;refine sWi (((i+1):Nat):Int) O (go2 ?_);refine ⟨pp_,_,_,s0,(Nat.lt_succ_self _),(i+1),(by exact (hT0.symm.trans (Eq.symm (bE h11 (aQ h12 O)))).symm),(Nat.lt_of_lt_of_le o1_ (Nat.le_of_lt_succ hq0)),o1_,rfl,rfl⟩
   have ph11:=of_decide_eq_false h11;refine go_ ?_;refine hK_u6 _ _ pp_ ⟨_,s0,i,(by exact hT0.symm.trans (Eq.symm (aQ h11 O))),rfl,rfl⟩
 rintro g M ⟨i,hCu6,hg7,rfl⟩;refine gS1 hg7 ?_;clear hg7;refine go4 ?_;refine rt1 ?_;exact congrArg vS0 (show _=(eC p d b) from aQ h4 (trs (Eq.symm (smS hCu6)) O))
theorem uR (vp:Value) (p:(List I)) (vq:Value) (q:(List I)) (w:World) (hp:Slr w elI vp p) (hq:Slr w elI vq q) (hpre:p.length≤100∧q.length≤100) :
    Calls prog 102 [vp,vq].toArray w (fun e w'=>∃ v,e = .returned (v)∧Ext w w'∧Slo w.heap.size w' 27 elI v (cM p q)):=by
 obtain ⟨p_p,c_p,rfl⟩:=hp.form;obtain ⟨p_q,c_q,rfl⟩:=hq.form;refine fA (n:=94) (fun v=>v) func102 O O zz_ ?_;obtain ⟨w0,rfl⟩:=nm w;have Hp:=hp.old;have hm_p:=hp.max;have Hq:=hq.old;have hm_q:=hq.max;refine giI ?_;refine go4 ?_;refine gJv (rg [] 13 11) [(23,.bool ((aW p)||((aW q)||((q.length:Int)==0))))] (fun K2 J2=>?_) ?_
 ·refine go2 ?_;refine sFc (.bool (aW p)) O (c1_ (dP _ p) Hp sn) O O ?_;refine sBB O (fun h3=>?_) (fun h3=>?_)
  ·refine go9 ?_;refine J2 _ _ pp_ s0 (bK (mW h3))
  refine go_ ?_;refine sFc (.bool (aW q)) O (c1_ (dP _ q) Hq sn) O O (go_ ?_);refine sBB O (fun h4=>?_) (fun h4=>?_)
  ·refine go5 ?_;refine J2 _ _ pp_ s0 (bK (lF h3 (mW h4)))
  refine go_ ?_;refine sQ (dK dW O (SLe.sub Hq sn)) O (go3 ?_);refine J2 _ _ pp_ s0 (bK (lF h3 (lF h4 O)))
 intro g5;refine aZ _ O (fun h6=>?_) (fun h6=>?_)
 ·refine go_ ?_;refine bL O (cO (E:=27) (e:=elI) (l:=F_skewbackref08_bad) (fun v=>v) aS O (fun w hw=>gV  w) (fun p7 c8 L9 hF10=>go3 ?_));refine rt1 ?_
  have hE:(F_skewbackref08_bad:(List I))=(cM p q):=by exact bE h6 O
  rw [← hE];exact ⟨_,rfl,⟨L9,lZ,hF10⟩⟩
 have ph11:=mD (Bool.or_eq_false_iff.1 (Bool.or_eq_false_iff.1 h6).2).2;refine go3 ?_;refine sQ (dK dW O (SLe.sub Hq sn)) O (sWi ((q.length:Int) - 1) O (go5 ?_));refine sQ (bJ (v':=.pointer (some (slb (.slice p_q q.length c_q) ((q.length - 1)*18+0)))) (lL (e:=elI) (l:=q) (k:=(q.length - 1)) dW O O oo_ (SLe.sub Hq sn) o2_) O) O ?_;refine sQ (jK (e:=elI) (l:=q) (k:=(q.length - 1)) (o:=0) tyT O (SLe.sub Hq sn) (cZ I0 o2_) O) O ?_;refine sC (AV [pI (E (Z.abs (q.getD (q.length - 1) I0).dec))]) aS (uJ (q.getD (q.length - 1) I0).1 (q.getD (q.length - 1) I0).2) O O O (go_ ?_);intro b12 hb12;refine go5 ?_;refine sQ (bJ (v':=.pointer (some (slb (.slice p_q q.length c_q) ((q.length - 1)*18+0)))) (lL (e:=elI) (l:=q) (k:=(q.length - 1)) dW O O oo_ (SLe.sub Hq sn) o2_) O) O ?_;refine sQ (jK (e:=elI) (l:=q) (k:=(q.length - 1)) (o:=0) tyT O (SLe.sub Hq sn) (cZ I0 o2_) O) O ?_;refine sC (.int .i64 ((Z.signW (q.getD (q.length - 1) I0).dec).1)) aS (eV (q.getD (q.length - 1) I0).1 (q.getD (q.length - 1) I0).2) O O O (sC (AV [pI (E (Z.of (Z.signW (q.getD (q.length - 1) I0).dec).1))]) aS (dV (Z.signW (q.getD (q.length - 1) I0).dec).1 (Z.signW (q.getD (q.length - 1) I0).dec).2) O O O (go_ ?_));intro b13 hb13;refine go3 ?_;refine bL O (fL [] [] l4 lO nW O dd_ O O trivial O (fun b14 hb14=>go_ ?_));refine bL O (bF_ l4 z9 (l8 (e:=elI) (l:=[]) (m:=p) 68 l4 (by kernel_rfl) dd_ O O (OwnG.lit (e:=elI) (l:=[]) (qs:=[]) hb14 O (Nat.le_of_ble_eq_true O) O) (SLe.sub Hp sn) gZ (by simp only [List.length_append,List.length_cons,List.length_nil];omega) dd_ (fun p15 c16 L17 hO18=>?_)));refine go5 ?_;refine sQ (dK dW O (SLe.sub Hp sn)) O (sWi ((p.length:Int) - 1) O (go_ ?_));refine sWi (((p.length:Int) - 1) - ((q.length:Int) - 1)) O (go2 ?_);refine gJ3 (rg [4,8,9,10,11,12] 47 45) (fun g M=>∃ (r:List I) (i:Int) (p_r:Option Addr) (c_r:Nat) (L_r:List Blk),(iZ p q (p.length+1) ([]++p) (((p.length:Int) - 1) - ((q.length:Int) - 1))) = .inl (r,i)∧(r.length=p.length)∧(g 8 = .slice p_r r.length c_r∧g 9 = .int .i64 i∧OwnG w0 27 elI (.slice p_r r.length c_r) r L_r)∧M=(L_r++(⟨b13,27,bH [pI (E (Z.of (Z.signW (q.getD (q.length - 1) I0).dec).1))]⟩::(⟨b12,27,bH [pI (E (Z.abs (q.getD (q.length - 1) I0).dec))]⟩::[])))) (fun K_u19 hK_u19=>?_) ?_
 ·refine go_ ?_;refine cH (rg [4,8,9,10,11,12] 47 45) (fun g nn M=>∃ (r:List I) (i:Int) (p_r:Option Addr) (c_r:Nat) (L_r:List Blk),(iZ p q nn r i)=(iZ p q (p.length+1) ([]++p) (((p.length:Int) - 1) - ((q.length:Int) - 1)))∧(i+1).toNat<nn∧((i+q.length≤p.length∧-1≤i∨i<0)∧r.length=p.length)∧(g 8 = .slice p_r r.length c_r∧g 9 = .int .i64 i∧OwnG w0 27 elI (.slice p_r r.length c_r) r L_r)∧M=(L_r++(⟨b13,27,bH [pI (E (Z.of (Z.signW (q.getD (q.length - 1) I0).dec).1))]⟩::(⟨b12,27,bH [pI (E (Z.abs (q.getD (q.length - 1) I0).dec))]⟩::[])))) (p.length+1) ?start ?round
  case start=>exact ⟨_,s0,([]++p),(((p.length:Int) - 1) - ((q.length:Int) - 1)),p15,c16,L17,rfl,o1_,o1_,⟨rfl,rfl,hO18⟩,rfl⟩
  case round =>
   rintro nn g M ⟨r,i,p_r,c_r,L_r,hT0,hq0,hinv0,⟨hg8,hg9,hO_r⟩,rfl⟩;obtain ⟨k0,rfl⟩:∃ m,nn=m+1:=⟨nn - 1,by omega⟩;refine gS2 hg8 hg9 ?_;clear hg8 hg9;have hm_r:=OwnG.max hO_r;refine go5 ?_;refine aZ _ O (fun h92=>?_) (fun h92=>?_)
   ·have ph92:=of_decide_eq_true h92;refine go3 ?_;refine tC s0 10 [8,9] [9] (go4 ?_);refine pV (.int .i64 (i+((q.length:Int) - 1))) O wxo (pQ O (bJ (v':=.pointer (some (slb (.slice p_r r.length c_r) ((i.toNat+(q.length - 1))*18+0)))) (lL (e:=elI) (l:=r) (k:=(i.toNat+(q.length - 1))) m9 O O oo_ (rO hO_r lZ) o2_) O) ?_);refine pQ O (jK (e:=elI) (l:=r) (k:=(i.toNat+(q.length - 1))) (o:=0) tyT O (rO hO_r lZ) (cZ I0 o2_) O) ?_;obtain ⟨r93,hr93⟩:=nm ((E (Z.mul (Z.of (Z.signW (q.getD (q.length - 1) I0).dec).1) (r.getD (i.toNat+(q.length - 1)) I0).dec)):I);refine pC (AV [pI r93]) aS (e7 (E (Z.of (Z.signW (q.getD (q.length - 1) I0).dec).1)).1 (r.getD (i.toNat+(q.length - 1)) I0).1 (E (Z.of (Z.signW (q.getD (q.length - 1) I0).dec).1)).2 (r.getD (i.toNat+(q.length - 1)) I0).2) O O ((cg2 (fun p q=>AV [pI (E (Z.mul p q))]) (cP _) O).trans (by rw [hr93])) (gA O O (iU zpT (fun b94 hb94=>⟨(fun _=>sd s0),(sd s0),?_⟩)));refine go3 ?_;refine bL O (fL [] [] l4 lO nW O dd_ O O trivial O (fun b95 hb95=>go_ ?_));refine bL O (l8 (e:=elI) (l:=[]) (m:=r) 68 l4 (by kernel_rfl) dd_ O O (OwnG.lit (e:=elI) (l:=[]) (qs:=[]) hb95 O (Nat.le_of_ble_eq_true O) O) (rO hO_r (sd (sd lZ))) gZ (by simp only [List.length_append,List.length_cons,List.length_nil];omega) dd_ (fun p96 c97 L98 hO99=>?_));refine go6 ?_;refine gJ3 (rg [4,12] 62 29) (fun g M=>∃ (k:Nat) (t:List I) (L_t:List Blk),(i3 p q r i r93 (r.length+1) 0 ([]++r)) = .inl (k,t)∧(t.length=r.length)∧(g 12 = .int .i64 (k:Int)∧OwnG w0 27 elI (.slice p96 ([]++r).length c97) t L_t)∧M=(L_t++(⟨b94,27,bH [pI r93]⟩::(L_r++(⟨b13,27,bH [pI (E (Z.of (Z.signW (q.getD (q.length - 1) I0).dec).1))]⟩::(⟨b12,27,bH [pI (E (Z.abs (q.getD (q.length - 1) I0).dec))]⟩::[])))))) (fun K_u100 hK_u100=>?_) ?_
    ·refine go_ ?_;refine cH (rg [4,12] 62 29) (fun g nn M=>∃ (k:Nat) (t:List I) (L_t:List Blk),(i3 p q r i r93 nn k t)=(i3 p q r i r93 (r.length+1) 0 ([]++r))∧r.length - k<nn∧(k≤r.length∧t.length=r.length)∧(g 12 = .int .i64 (k:Int)∧OwnG w0 27 elI (.slice p96 ([]++r).length c97) t L_t)∧M=(L_t++(⟨b94,27,bH [pI r93]⟩::(L_r++(⟨b13,27,bH [pI (E (Z.of (Z.signW (q.getD (q.length - 1) I0).dec).1))]⟩::(⟨b12,27,bH [pI (E (Z.abs (q.getD (q.length - 1) I0).dec))]⟩::[])))))) (r.length+1) ?start ?round
     case start=>exact ⟨_,s0,0,([]++r),L98,rfl,o1_,o1_,⟨rfl,hO99⟩,rfl⟩
     case round =>
      rintro nn g M ⟨k,t,L_t,hT1,hq1,hinv1,⟨hg12,hO_t⟩,rfl⟩;obtain ⟨k1,rfl⟩:∃ m,nn=m+1:=⟨nn - 1,by omega⟩;refine gS1 hg12 ?_;clear hg12;have hm_t:=OwnG.max hO_t;refine go4 ?_;refine sQ (bJ (v':=.int .i64 (r.length:Int)) (dK (e:=elI) m9 O (rO hO_r (sR (sd lZ)))) O) O (go2 ?_);refine aZ _ O (fun h119=>?_) (fun h119=>?_)
      ·have ph119:=of_decide_eq_true h119;refine go3 ?_;refine gds (sR s0) [0,4,8,12,16,20,24,28,32,36,40,44,48,52,56,60,64,69] [17] mix (by kernel_rfl) (go5 ?_);refine pQ O (bJ (v':=.pointer (some (slb (.slice p_r r.length c_r) (k*18+0)))) (j7 (e:=elI) (l:=r) (k:=k) m9 O O (rO hO_r (sR (sd lZ))) o2_) O) ?_;refine pQ O (jK (e:=elI) (l:=r) (k:=k) (o:=0) tyT O (rO hO_r (sR (sd lZ))) (cZ I0 o2_) O) ?_;refine pC (AV [pI (E (Z.mul (Z.abs (q.getD (q.length - 1) I0).dec) (r.getD k I0).dec))]) aS (e7 (E (Z.abs (q.getD (q.length - 1) I0).dec)).1 (r.getD k I0).1 (E (Z.abs (q.getD (q.length - 1) I0).dec)).2 (r.getD k I0).2) O O (cg2 (fun p q=>AV [pI (E (Z.mul p q))]) (cP _) O) (go4 ?_);refine pV (.int .i64 ((k:Int) - i)) O wxo (pQ O (bJ (v':=AV [pI (eS q ((k:Int) - i))]) (dZ aS O (fun w hw=>qT _ q ((k:Int) - i) w (aR hw Hq sn))) O) (pC (AV [pI (E (Z.mul r93.dec (eS q ((k:Int) - i)).dec))]) aS (e7 r93.1 (eS q ((k:Int) - i)).1 r93.2 (eS q ((k:Int) - i)).2) O O O ?_));obtain ⟨r120,hr120⟩:=nm ((E (Z.sub (Z.mul (Z.abs (q.getD (q.length - 1) I0).dec) (r.getD k I0).dec) (Z.mul r93.dec (eS q ((k:Int) - i)).dec))):I);refine pC (AV [pI r120]) aS (uO (E (Z.mul (Z.abs (q.getD (q.length - 1) I0).dec) (r.getD k I0).dec)).1 (E (Z.mul r93.dec (eS q ((k:Int) - i)).dec)).1 (E (Z.mul (Z.abs (q.getD (q.length - 1) I0).dec) (r.getD k I0).dec)).2 (E (Z.mul r93.dec (eS q ((k:Int) - i)).dec)).2) O O ((cg2 (fun p q=>AV [pI (E (Z.sub p q))]) (cP _) (cP _)).trans (by rw [hr120])) (pQ O (bJ (v':=.pointer (some (slb (.slice p96 ([]++r).length c97) (k*18+0)))) (j7 (e:=elI) (l:=t) (k:=k) m9 O O (rO hO_t lZ) o2_) O) ?_);refine gA O O (wS (e:=elI) (l:=t) (k:=k) (z:=r120) tyT O O hO_t o2_ UE O O (fun L121 hO122=>⟨nf,(sR s0),?_⟩));refine go4 ?_;refine sQ (bJ (v':=.pointer (some (slb (.slice p96 ([]++r).length c97) (k*18+0)))) (j7 (e:=elI) (l:=(t.set k r120)) (k:=k) m9 O O (rO hO122 lZ) o2_) O) O ?_;refine sQ (bJ (v':=.pointer (some (slb (.slice p96 ([]++r).length c97) (k*18+0)))) (OW fdT O O) O) O (sQ (wQ (u:=.bool (((t.set k r120).getD k I0).1.bad)) (e:=elI) (l:=(t.set k r120)) (k:=k) (o:=0) tyT O (rO hO122 lZ) (cZ I0 o2_) O) O ?_);refine go_ ?_;refine aZ _ O (fun h123=>?_) (fun h123=>?_)
       ·refine go_ ?_;refine bL O (cO (E:=27) (e:=elI) (l:=F_skewbackref08_bad) (fun v=>v) aS O (fun w hw=>gV  w) (fun p124 c125 L126 hF127=>go3 ?_));refine rt1 ?_
        have hE:(F_skewbackref08_bad:(List I))=(cM p q):=by subst_vars;exact aQ h6 (rH O (hT0.symm.trans (Eq.symm (bE h92 (rH O (hT1.symm.trans (Eq.symm (bE h119 (bE h123 O)))))))))
        rw [← hE];exact ⟨_,rfl,⟨L126,lZ,hF127⟩⟩
       refine go3 ?_;refine sWi (((k+1):Nat):Int) O (go2 ?_);refine ⟨pp_,_,_,s0,(Nat.lt_succ_self _),(k+1),(t.set k r120),L121,(by subst hr120;exact (hT1.symm.trans (Eq.symm (bE h119 (aQ h123 O)))).symm),(Nat.lt_of_lt_of_le o1_ (Nat.le_of_lt_succ hq1)),o1_,⟨rfl,hO122⟩,rfl⟩
      have ph119:=of_decide_eq_false h119;refine go_ ?_;refine hK_u100 _ _ pp_ ⟨_,s0,k,t,L_t,(by exact hT1.symm.trans (Eq.symm (aQ h119 O))),o1_,⟨rfl,hO_t⟩,rfl⟩
    rintro g M ⟨k,t,L_t,hCu100,hPu100,⟨hg12,hO_t⟩,rfl⟩;refine gS1 hg12 ?_;clear hg12;have hm_t:=OwnG.max hO_t;refine go6 ?_;refine sWi (i - 1) O (go2 ?_);refine ⟨pp_,_,_,(sA (sd (sR s0))),(Nat.lt_succ_self _),t,(i - 1),p96,c97,L_t,(by subst hr93;exact (hT0.symm.trans (Eq.symm (bE h92 (trs (Eq.symm (smS hCu100)) O)))).symm),(Nat.lt_of_lt_of_le o1_ (Nat.le_of_lt_succ hq0)),o1_,⟨(hC_ (OwnG.len hO_t)),rfl,(OwnG.fix hO_t)⟩,rfl⟩
   have ph92:=of_decide_eq_false h92;refine go_ ?_;refine hK_u19 _ _ pp_ ⟨_,s0,r,i,p_r,c_r,L_r,(by exact hT0.symm.trans (Eq.symm (aQ h92 O))),o1_,⟨rfl,rfl,hO_r⟩,rfl⟩
 rintro g M ⟨r,i,p_r,c_r,L_r,hCu19,hPu19,⟨hg8,hg9,hO_r⟩,rfl⟩;refine gS2 hg8 hg9 ?_;clear hg8 hg9;have hm_r:=OwnG.max hO_r;refine go2 ?_;refine bL O (cO (E:=27) (e:=elI) (l:=(bC r)) (fun v=>v) aS O (fun w hw=>kP _ r w (aO hw hO_r lZ) oo_) (fun p128 c129 L130 hF131=>?_));have hb132:=(kO r);refine go3 ?_;refine rt1 ?_
 have hE:((bC r):(List I))=(cM p q):=by exact aQ h6 (trs (Eq.symm (smS hCu19)) O)
 rw [← hE];exact ⟨_,rfl,⟨L130,lZ,hF131⟩⟩
theorem i8 (vl:Value) (l:(List W)) (w:World) (hl:Slr w elW vl l) (hpre:l.length≤200) :
  Calls prog 39 [vl].toArray w (fun e w'=>∃ v,e = .returned (v)∧Ext w w'∧Slo w.heap.size w' 27 elI v (fC l)):=by
 obtain ⟨p_l,c_l,rfl⟩:=hl.form;refine fA (n:=5) (fun v=>v) func39 O O zz_ ?_;obtain ⟨w0,rfl⟩:=nm w;have Hl:=hl.old;have hm_l:=hl.max;refine giI ?_;refine go5 ?_;refine bL O (cO (E:=27) (e:=elI) (l:=(jR l)) (fun v=>v) aS O (fun w hw=>BL _ l w (aR hw Hl sn) oo_) (fun p1 c2 L3 hF4=>?_));have hb5:=(vH l);have hr6:=(vJ l);refine go3 ?_;refine rt1 ?_
 have hE:((jR l):(List I))=(fC l):=by exact rfl
 rw [← hE];exact ⟨_,rfl,⟨L3,lZ,hF4⟩⟩
theorem mY (a:W) (b:W) :
  Ret prog 41 [.int .i64 a.1,.int .i64 b.1] (AV [pI (((kE a b).lo).n),pI (((kE a b).lo).d),pI (((kE a b).hi).n),pI (((kE a b).hi).d)]):=by
 refine cJ (N:=10) func41 O O zz_ (fun w0=>?_);refine giI ?_;refine go2 ?_;intro b1 hb1;refine go3 ?_;refine sQ (bW aS (kG a) O) O (go_ ?_);refine sQ (bW aS (kG b) O) O (go4 ?_);refine rtX O (fV O m0 tyT O) ?_;exact (by rfl)
theorem AB (vp:Value) (p:(List I)) (a:Rt) (b:Rt) (w:World) (hp:Slr w elI vp p) :
    Calls prog 10 [vp,AV [pI a.n,pI a.d],AV [pI b.n,pI b.d]].toArray w (fun e w'=>e = .returned (.bool (fO p a b))∧Ext w w'):=by
 obtain ⟨p_p,c_p,rfl⟩:=hp.form;refine cU (N:=37) func10 O O zz_ ?_;obtain ⟨w0,rfl⟩:=nm w;have Hp:=hp.old;have hm_p:=hp.max;refine giI ?_;refine go2 ?_;intro b1 hb1;refine go_ ?_;intro b2 hb2;refine go4 ?_;refine sFc (.bool (eC p 6 64)) O (fun w hw=>uP _ p 6 64 w (aR hw Hp sn) oo_) O O (go2 ?_);refine gJv (rg [6] 10 27) [(6,.bool ((eC p 6 64)&&((j5 a)&&((j5 b)&&decide ((W.add (W.add (W.add (Z.bitsW a.n.dec) (Z.bitsW a.d.dec)) (Z.bitsW b.n.dec)) (Z.bitsW b.d.dec)).1≤120)))))] (fun K1 J1=>?_) ?_
 ·refine gdr s0 [0,4,8,12,16,20,24,28,32,36,40,44,48,52,56,60,64,68,72,76,80,84,88,92,96,100,104,108] [] mix (by kernel_rfl) (go_ ?_);refine pBB O (fun h6=>?_) (fun h6=>?_)
  ·refine go_ ?_;refine pQ O (bW aS (sW a) O) (go_ ?_);refine pBB O (fun h7=>?_) (fun h7=>?_)
   ·refine go_ ?_;refine pQ O (bW aS (sW b) O) (go_ ?_);refine pBB O (fun h8=>?_) (fun h8=>?_)
    ·refine go2 ?_;refine pC (.int .i64 ((Z.bitsW a.n.dec).1)) aS (jS a.n.1 a.n.2) O O O (go2 ?_);refine pC (.int .i64 ((Z.bitsW a.d.dec).1)) aS (jS a.d.1 a.d.2) O O O (pV (.int .i64 ((W.add (Z.bitsW a.n.dec) (Z.bitsW a.d.dec)).1)) O O (go2 ?_));refine pC (.int .i64 ((Z.bitsW b.n.dec).1)) aS (jS b.n.1 b.n.2) O O O (pV (.int .i64 ((W.add (W.add (Z.bitsW a.n.dec) (Z.bitsW a.d.dec)) (Z.bitsW b.n.dec)).1)) O O (go2 ?_));refine pC (.int .i64 ((Z.bitsW b.d.dec).1)) aS (jS b.d.1 b.d.2) O O O (pV (.int .i64 ((W.add (W.add (W.add (Z.bitsW a.n.dec) (Z.bitsW a.d.dec)) (Z.bitsW b.n.dec)) (Z.bitsW b.d.dec)).1)) O O (go4 ?_));refine J1 _ _ pp_ s0 (bK (cQ h6 (cQ h7 (cQ h8 O))))
    refine g0_ ?_;refine J1 _ _ pp_ s0 (bK (cQ h6 (cQ h7 (iT h8))))
   refine g1_ ?_;refine J1 _ _ pp_ s0 (bK (cQ h6 (iT h7)))
  refine fs_ ?_;refine J1 _ _ pp_ s0 (bK (iT h6))
 intro g9;refine go_ ?_;refine rt1 ?_;exact (by rfl)
theorem tX (e:W) (f:W) (small:Bool) :
    Ret prog 15 [.int .i64 e.1,.int .i64 f.1,.bool small] (.tuple #[.bool ((dM e f small).1),.bool ((dM e f small).2)]):=by
 refine cJ (N:=22) func15 O O zz_ (fun w0=>?_);refine giI ?_;refine go4 ?_;refine gJv [8,9,10,11,12,13,14] [(8,.bool ((e.1==30)||(f.1==30)))] (fun K1 J1=>?_) ?_
 ·refine go3 ?_;refine sBB O (fun h2=>?_) (fun h2=>?_)
  ·refine go5 ?_;refine J1 _ _ pp_ s0 (bK (mW h2))
  refine go5 ?_;refine J1 _ _ pp_ s0 (bK (lF h2 O))
 intro g3;refine gJv (rg [6,7] 15 7) [(6,.bool ((e.1==30)||(f.1==30))),(7,.bool (!((e.1==30)||(f.1==30))||(!small)))] (fun K2 J2=>?_) ?_
 ·refine go4 ?_;rcases bt ((e.1==30)||(f.1==30)) with h5|h5
  ·refine sB (gS h5) O (go6 ?_);refine J2 _ _ pp_ s0 ⟨rfl,(bK (mL h5 O))⟩
  refine sB (gN h5) O (go6 ?_);refine J2 _ _ pp_ s0 ⟨rfl,(bK (oM h5))⟩
 intro g6;refine go_ ?_;refine rt2 ?_;exact (by rfl)
end Go.Proofs.YtokjfhfiodopdaaGreat
namespace Go.Num
open Go Go.Kn
theorem YJ {a:Rt} (h:dA a=true):cfP (cfN a.d) a.d:=by
 unfold dA at h;simp only [Bool.and_eq_true,decide_eq_true_eq] at h;exact LV h.2.2.1
theorem YK {a:Rt} (h:bB a=true):cfP (cfN a.d) a.d:=by
 unfold bB at h
 cases h1:(!a.n.1.good||(!a.d.1.good))
 ·rw [h1,cond_false] at h
  simp only [Bool.and_eq_true,decide_eq_true_eq] at h;exact LV h.1
 rw [h1,cond_true] at h;cases h
theorem dn_ {a b:Bool} (h:(!a || !b)=false):a=true:=by cases a with|true=>rfl|false=>cases h
end Go.Num
