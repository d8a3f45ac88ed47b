/- Lemmas: what they ask stands in their statements. -/
import Derived.Test.YtkjjponijamaoaaGreatDoorJYa
set_option linter.unusedSimpArgs false
set_option linter.unusedVariables false
set_option maxHeartbeats 8000000
set_option maxRecDepth 20000
namespace Go.Proofs.YtkjjponijamaoaaGreatDoor
open Go.Kn Go.Num Tryz
attribute [local irreducible] Go.Kn.W WL PL OpQ OpR OpS
theorem nJ (a:I) :
    Ret prog 194 [AV [pI a]] (.bool (fU a)):=by
 refine bG (N:=10) func194 O O zz_ (fun w0=>?_);refine giI ?_;refine go2 ?_;intro b1 hb1;refine go2 ?_;refine gJv (rg [] 2 8) [(2,.bool (!a.1.bad&&a.1.valid))] (fun K1 J1=>?_) ?_
 ·refine go4 ?_;rcases bt a.1.bad with h3|h3
  ·refine sB (fZ h3) O (go5 ?_);refine J1 _ _ pp_ s0 (bH (IG h3))
  refine sB (iX h3) O (go_ ?_);refine sC (.bool a.1.valid) aB (tW a.1 a.2) O O O (go3 ?_);refine J1 _ _ pp_ s0 (bH (IF h3 O))
 intro g4;refine go_ ?_;refine rt1 ?_;exact (by rfl)
theorem j2  (w:World)  :
  Calls prog 195 [].toArray w (fun e w'=>∃ v,e = .returned (v)∧Ext w w'∧Slo w.heap.size w' 31 elI v F_skewbackref08_bad):=by
 refine dD (n:=3) (fun v=>v) func195 O O zz_ ?_;obtain ⟨w0,rfl⟩:=nm w;refine giI ?_;obtain ⟨q0,hq0⟩:=nm ((E Z.bad):I);refine go4 ?_;refine sC (AV [pI q0]) aB eO O O (by subst hq0;rfl) (aZ O (bJ [[pI q0]] [pI q0] DE jP kB O dd_ O O ⟨rfl,rfl,rfl,trivial⟩ O (fun b1 hb1=>go3 ?_)));refine rt1 ?_
 have hE:([q0]:(List I))=F_skewbackref08_bad:=by obtain rfl:=hq0.symm;exact rfl
 rw [← hE];exact ⟨_,rfl,⟨_,(sk sn),OwnG.lit (e:=elI) (l:=[q0]) (qs:=[pI q0]) hb1 O (Nat.le_of_ble_eq_true O) O⟩⟩
theorem jW (vl:Value) (l:(List I)) (w:World) (hl:Slr w elI vl l) (hpre:l.length≤200) :
    Calls prog 196 [vl].toArray w (fun e w'=>∃ v,e = .returned (v)∧Ext w w'∧Slo w.heap.size w' 31 elI v (bD l)):=by
 obtain ⟨p_l,c_l,rfl⟩:=hl.form;refine dD (n:=45) (fun v=>v) func196 O O zz_ ?_;obtain ⟨w0,rfl⟩:=nm w;have Hl:=hl.old;have hm_l:=hl.max;refine giI ?_;refine j0 ?_;refine gJ3 (rg [2,3,4,5] 8 21) (fun g M=>∃ (last:Int) (i:Nat),(hP l (l.length+1) (-1) 0) = .inl (last,i)∧(last<(l.length:Int)∧-1≤last)∧(g 3 = .int .i64 last∧g 4 = .int .i64 (i:Int))∧M=[]) (fun K_u1 hK_u1=>?_) ?_
 ·refine go_ ?_;refine bX (rg [2,3,4,5] 8 21) (fun g nn M=>∃ (last:Int) (i:Nat),(hP l nn last i)=(hP l (l.length+1) (-1) 0)∧l.length - i<nn∧(i≤l.length∧last<(i:Int)∧-1≤last)∧(g 3 = .int .i64 last∧g 4 = .int .i64 (i:Int))∧M=[]) (l.length+1) ?start ?round
  case start=>exact ⟨_,s0,(-1),0,rfl,o1_,o1_,⟨rfl,rfl⟩,rfl⟩
  case round =>
   rintro nn g M ⟨last,i,hT0,hq0,hinv0,⟨hg3,hg4⟩,rfl⟩;obtain ⟨k0,rfl⟩:∃ m,nn=m+1:=⟨nn - 1,by omega⟩;refine gS2 hg3 hg4 ?_;clear hg3 hg4;refine go4 ?_;refine sQ (dW nX O (SLe.sub Hl sn)) O (go2 ?_);refine aH _ O (fun h16=>?_) (fun h16=>?_)
   ·have ph16:=of_decide_eq_true h16;refine go6 ?_;refine sQ (aY (v':=.pointer (some (slb (.slice p_l l.length c_l) (i*18+0)))) (kJ (e:=elI) (l:=l) (k:=i) nX O O (SLe.sub Hl sn) o2_) O) O ?_;refine sQ (kW (e:=elI) (l:=l) (k:=i) (o:=0) tyT O (SLe.sub Hl sn) (dS I0 o2_) O) O ?_;refine sQ (bE aB (nJ (l.getD i I0)) O) O (go7 ?_);rcases bt (fU (l.getD i I0)) with h17|h17
    ·refine W_f (fZ h17) O (go4 ?_);refine sQ (aY (v':=.pointer (some (slb (.slice p_l l.length c_l) (i*18+0)))) (kJ (e:=elI) (l:=l) (k:=i) nX O O (SLe.sub Hl sn) o2_) O) O ?_;refine sQ (kW (e:=elI) (l:=l) (k:=i) (o:=0) tyT O (SLe.sub Hl sn) (dS I0 o2_) O) O ?_;refine sC (.int .i64 ((Z.signW (l.getD i I0).dec).1)) aB (fM (l.getD i I0).1 (l.getD i I0).2) O O O (go2 ?_);refine aH _ O (fun h18=>?_) (fun h18=>?_)
     ·refine go6 ?_;refine sWi (((i+1):Nat):Int) O (go2 ?_);refine ⟨pp_,_,_,s0,(Nat.lt_succ_self _),(i:Int),(i+1),(by exact (hT0.symm.trans (Eq.symm (aX h16 (aX h17 (aX h18 O))))).symm),(Nat.lt_of_lt_of_le o1_ (Nat.le_of_lt_succ hq0)),o1_,⟨rfl,rfl⟩,rfl⟩
     refine go3 ?_;refine sWi (((i+1):Nat):Int) O (go2 ?_);refine ⟨pp_,_,_,s0,(Nat.lt_succ_self _),last,(i+1),(by exact (hT0.symm.trans (Eq.symm (aX h16 (aX h17 (aJ h18 O))))).symm),(Nat.lt_of_lt_of_le o1_ (Nat.le_of_lt_succ hq0)),o1_,⟨rfl,rfl⟩,rfl⟩
    refine W_t (iX h17) O (go_ ?_);refine aZ O (aN (E:=31) (e:=elI) (l:=F_skewbackref08_bad) (fun v=>v) aB O (fun w hw=>j2  w) (fun p19 c20 L21 hF22=>go3 ?_));refine rt1 ?_
    have hE:(F_skewbackref08_bad:(List I))=(bD l):=by exact (BZ O (hT0.symm.trans (Eq.symm (aX h16 (aJ h17 O)))))
    rw [← hE];exact ⟨_,rfl,⟨L21,lZ,hF22⟩⟩
   have ph16:=of_decide_eq_false h16;refine go_ ?_;refine hK_u1 _ _ pp_ ⟨_,s0,last,i,(by exact hT0.symm.trans (Eq.symm (aJ h16 O))),o1_,⟨rfl,rfl⟩,rfl⟩
 rintro g M ⟨last,i,hCu1,hPu1,⟨hg3,hg4⟩,rfl⟩;refine gS2 hg3 hg4 ?_;clear hg3 hg4;refine go5 ?_;refine aH _ O (fun h23=>?_) (fun h23=>?_)
 ·have ph23:=of_decide_eq_true h23;refine go_ ?_;refine aZ O (aN (E:=31) (e:=elI) (l:=F_skewbackref08_bad) (fun v=>v) aB O (fun w hw=>j2  w) (fun p24 c25 L26 hF27=>go3 ?_));refine rt1 ?_
  have hE:(F_skewbackref08_bad:(List I))=(bD l):=by exact trs (Eq.symm (smS hCu1)) (aX h23 O)
  rw [← hE];exact ⟨_,rfl,⟨L26,lZ,hF27⟩⟩
 have ph23:=of_decide_eq_false h23;refine go8 ?_;refine gJ3 (rg [6,7] 32 12) (fun g M=>∃ (out:List I) (j:Nat) (p_out:Option Addr) (c_out:Nat) (L_out:List Blk),(jC l last i ((last+1).toNat+1) ([]:List I) 0)=(out,j)∧(g 6 = .slice p_out out.length c_out∧g 7 = .int .i64 (j:Int)∧OwnG w0 31 elI (.slice p_out out.length c_out) out L_out)∧M=(L_out++[])) (fun K_u28 hK_u28=>?_) ?_
 ·refine go_ ?_;refine bX (rg [6,7] 32 12) (fun g nn M=>∃ (out:List I) (j:Nat) (p_out:Option Addr) (c_out:Nat) (L_out:List Blk),(jC l last i nn out j)=(jC l last i ((last+1).toNat+1) ([]:List I) 0)∧(last+1).toNat - j<nn∧((j:Int)≤last+1∧out.length=j)∧(g 6 = .slice p_out out.length c_out∧g 7 = .int .i64 (j:Int)∧OwnG w0 31 elI (.slice p_out out.length c_out) out L_out)∧M=(L_out++[])) ((last+1).toNat+1) ?start ?round
  case start=>exact ⟨_,s0,([]:List I),0,none,0,[],rfl,o1_,o1_,⟨rfl,rfl,OwnG.nil⟩,rfl⟩
  case round =>
   rintro nn g M ⟨out,j,p_out,c_out,L_out,hT1,hq1,hinv1,⟨hg6,hg7,hO_out⟩,rfl⟩;obtain ⟨k1,rfl⟩:∃ m,nn=m+1:=⟨nn - 1,by omega⟩;refine gS2 hg6 hg7 ?_;clear hg6 hg7;have hm_out:=OwnG.max hO_out;refine go6 ?_;refine aH _ O (fun h35=>?_) (fun h35=>?_)
   ·have ph35:=of_decide_eq_true h35;refine go7 ?_;refine sQ (aY (v':=.pointer (some (slb (.slice p_l l.length c_l) (j*18+0)))) (kJ (e:=elI) (l:=l) (k:=j) nX O O (SLe.sub Hl sn) o2_) O) O ?_;refine sQ (kW (e:=elI) (l:=l) (k:=j) (o:=0) tyT O (SLe.sub Hl sn) (dS I0 o2_) O) O ?_;refine aZ O (bJ [[pI (l.getD j I0)]] [pI (l.getD j I0)] DE jP kB O dd_ O O ⟨rfl,rfl,rfl,trivial⟩ O (fun b36 hb36=>aZ O (kQ (e:=elI) (l:=out) (m:=[(l.getD j I0)]) 68 DE (by kernel_rfl) dd_ O O hO_out (SLe.lit (e:=elI) (l:=[(l.getD j I0)]) m0 O (Nat.le_of_ble_eq_true O) O) (jY mV) (by simp only [List.length_append,List.length_cons,List.length_nil];omega) dd_ (fun p37 c38 L39 hO40=>?_))));refine go4 ?_;refine sWi (((j+1):Nat):Int) O (go2 ?_);refine ⟨pp_,_,_,(sA (sd s0)),(Nat.lt_succ_self _),(out++[(l.getD j I0)]),(j+1),p37,c38,L39,(by exact (hT1.symm.trans (Eq.symm (aX h35 O))).symm),(Nat.lt_of_lt_of_le o1_ (Nat.le_of_lt_succ hq1)),o1_,⟨rfl,rfl,hO40⟩,rfl⟩
   have ph35:=of_decide_eq_false h35;refine go_ ?_;refine hK_u28 _ _ pp_ ⟨_,s0,out,j,p_out,c_out,L_out,(by exact hT1.symm.trans (Eq.symm (aJ h35 O))),⟨rfl,rfl,hO_out⟩,rfl⟩
 rintro g M ⟨out,j,p_out,c_out,L_out,hCu28,⟨hg6,hg7,hO_out⟩,rfl⟩;refine gS2 hg6 hg7 ?_;clear hg6 hg7;have hm_out:=OwnG.max hO_out;refine go5 ?_;refine rt1 ?_
 have hE:(out:(List I))=(bD l):=by exact trs (Eq.symm (smS hCu1)) (aJ h23 (trs (Eq.symm (apS hCu28)) O))
 rw [← hE];exact ⟨_,rfl,⟨L_out,lZ,hO_out⟩⟩
theorem iF (vl:Value) (l:(List W)) (w:World) (hl:Slr w elW vl l) (hpre:l.length≤200) :
    Calls prog 193 [vl].toArray w (fun e w'=>∃ v,e = .returned (v)∧Ext w w'∧Slo w.heap.size w' 31 elI v (bL l)):=by
 obtain ⟨p_l,c_l,rfl⟩:=hl.form;refine dD (n:=21) (fun v=>v) func193 O O zz_ ?_;obtain ⟨w0,rfl⟩:=nm w;have Hl:=hl.old;have hm_l:=hl.max;refine giI ?_;refine j0 ?_;refine gJ3 (rg [] 3 16) (fun g M=>∃ (out:List I) (i:Nat) (p_out:Option Addr) (c_out:Nat) (L_out:List Blk),(mB l (l.length+1) ([]:List I) 0)=(out,i)∧(out.length≤200)∧(g 3 = .slice p_out out.length c_out∧g 4 = .int .i64 (i:Int)∧OwnG w0 31 elI (.slice p_out out.length c_out) out L_out)∧M=(L_out++[])) (fun K_u1 hK_u1=>?_) ?_
 ·refine go_ ?_;refine bX (rg [] 3 16) (fun g nn M=>∃ (out:List I) (i:Nat) (p_out:Option Addr) (c_out:Nat) (L_out:List Blk),(mB l nn out i)=(mB l (l.length+1) ([]:List I) 0)∧l.length - i<nn∧(i≤l.length∧out.length=i)∧(g 3 = .slice p_out out.length c_out∧g 4 = .int .i64 (i:Int)∧OwnG w0 31 elI (.slice p_out out.length c_out) out L_out)∧M=(L_out++[])) (l.length+1) ?start ?round
  case start=>exact ⟨_,s0,([]:List I),0,none,0,[],rfl,o1_,o1_,⟨rfl,rfl,OwnG.nil⟩,rfl⟩
  case round =>
   rintro nn g M ⟨out,i,p_out,c_out,L_out,hT0,hq0,hinv0,⟨hg3,hg4,hO_out⟩,rfl⟩;obtain ⟨k0,rfl⟩:∃ m,nn=m+1:=⟨nn - 1,by omega⟩;refine gS2 hg3 hg4 ?_;clear hg3 hg4;have hm_out:=OwnG.max hO_out;refine go4 ?_;refine sQ (dW iV O (SLe.sub Hl sn)) O (go2 ?_);refine aH _ O (fun h8=>?_) (fun h8=>?_)
   ·have ph8:=of_decide_eq_true h8;refine go7 ?_;refine sQ (aY (v':=.pointer (some (slb (.slice p_l l.length c_l) (i*1+0)))) (kJ (e:=elW) (l:=l) (k:=i) iV O O (SLe.sub Hl sn) o2_) O) O ?_;refine sQ (IO (u:=.int .i64 ((l.getD i W.z).1)) (e:=elW) (l:=l) (k:=i) (o:=0) tyT O (SLe.sub Hl sn) (dS W.z o2_) O) O ?_;refine sC (AV [pI (E (Z.of (l.getD i W.z).1))]) aB (bU (l.getD i W.z).1 (l.getD i W.z).2) O O O (aZ O (bJ [[pI (E (Z.of (l.getD i W.z).1))]] [pI (E (Z.of (l.getD i W.z).1))] jO jP kB O dd_ O O ⟨rfl,rfl,rfl,trivial⟩ O (fun b9 hb9=>aZ O (kQ (e:=elI) (l:=out) (m:=[(E (Z.of (l.getD i W.z).1))]) 68 jO (by kernel_rfl) dd_ O O hO_out (SLe.lit (e:=elI) (l:=[(E (Z.of (l.getD i W.z).1))]) m0 O (Nat.le_of_ble_eq_true O) O) (jY mV) (by simp only [List.length_append,List.length_cons,List.length_nil];omega) dd_ (fun p10 c11 L12 hO13=>?_)))));refine go4 ?_;refine sWi (((i+1):Nat):Int) O (go2 ?_);refine ⟨pp_,_,_,(sA (sd s0)),(Nat.lt_succ_self _),(out++[(E (Z.of (l.getD i W.z).1))]),(i+1),p10,c11,L12,(by exact (hT0.symm.trans (Eq.symm (aX h8 O))).symm),(Nat.lt_of_lt_of_le o1_ (Nat.le_of_lt_succ hq0)),o1_,⟨rfl,rfl,hO13⟩,rfl⟩
   have ph8:=of_decide_eq_false h8;refine go_ ?_;refine hK_u1 _ _ pp_ ⟨_,s0,out,i,p_out,c_out,L_out,(by exact hT0.symm.trans (Eq.symm (aJ h8 O))),o1_,⟨rfl,rfl,hO_out⟩,rfl⟩
 rintro g M ⟨out,i,p_out,c_out,L_out,hCu1,hPu1,⟨hg3,hg4,hO_out⟩,rfl⟩;refine gS2 hg3 hg4 ?_;clear hg3 hg4;have hm_out:=OwnG.max hO_out;refine go2 ?_;refine aZ O (aN (E:=31) (e:=elI) (l:=(bD out)) (fun v=>v) aB O (fun w hw=>jW _ out w (aO hw hO_out lZ) oo_) (fun p14 c15 L16 hF17=>?_));have hb18:=(jV out);refine go3 ?_;refine rt1 ?_
 have hE:((bD out):(List I))=(bL l):=by exact (by unfold bL;exact trs (Eq.symm (apS hCu1)) O)
 rw [← hE];exact ⟨_,rfl,⟨L16,lZ,hF17⟩⟩
theorem eU (vp:Value) (p:(List I)) (w:World) (hp:Slr w elI vp p) :
    Calls prog 117 [vp].toArray w (fun e w'=>e = .returned (.bool (bA p))∧Ext w w'):=by
 obtain ⟨p_p,c_p,rfl⟩:=hp.form;refine cM (N:=18) func117 O O zz_ ?_;obtain ⟨w0,rfl⟩:=nm w;have Hp:=hp.old;have hm_p:=hp.max;refine giI ?_;refine go7 ?_;refine gJ3 (rg [] 2 16) (fun g M=>∃ (i:Nat),(gS p (p.length+1) 0) = .inl i∧(g 3 = .int .i64 (i:Int))∧M=[]) (fun K_u1 hK_u1=>?_) ?_
 ·refine go_ ?_;refine bX (rg [] 2 16) (fun g nn M=>∃ (i:Nat),(gS p nn i)=(gS p (p.length+1) 0)∧p.length - i<nn∧(i≤p.length)∧(g 3 = .int .i64 (i:Int))∧M=[]) (p.length+1) ?start ?round
  case start=>exact ⟨_,s0,0,rfl,o1_,o1_,rfl,rfl⟩
  case round =>
   rintro nn g M ⟨i,hT0,hq0,hinv0,hg3,rfl⟩;obtain ⟨k0,rfl⟩:∃ m,nn=m+1:=⟨nn - 1,by omega⟩;refine gS1 hg3 ?_;clear hg3;refine go4 ?_;refine sQ (dW jB O (SLe.sub Hp sn)) O (go2 ?_);refine aH _ O (fun h6=>?_) (fun h6=>?_)
   ·have ph6:=of_decide_eq_true h6;refine go6 ?_;refine sQ (aY (v':=.pointer (some (slb (.slice p_p p.length c_p) (i*18+0)))) (kJ (e:=elI) (l:=p) (k:=i) jB O O (SLe.sub Hp sn) o2_) O) O ?_;refine sQ (kW (e:=elI) (l:=p) (k:=i) (o:=0) tyT O (SLe.sub Hp sn) (dS I0 o2_) O) O ?_;refine sQ (bE aB (nJ (p.getD i I0)) O) O (go6 ?_);rcases bt (fU (p.getD i I0)) with h7|h7
    ·refine W_f (fZ h7) O (go3 ?_);refine sWi (((i+1):Nat):Int) O (go2 ?_);refine ⟨pp_,_,_,s0,(Nat.lt_succ_self _),(i+1),(by exact (hT0.symm.trans (Eq.symm (aX h6 (aX h7 O)))).symm),(Nat.lt_of_lt_of_le o1_ (Nat.le_of_lt_succ hq0)),o1_,rfl,rfl⟩
    refine W_t (iX h7) O (go4 ?_);refine rt1 ?_;exact congrArg vS2 (show _=(bA p) from (BZ O (hT0.symm.trans (Eq.symm (aX h6 (aJ h7 O))))))
   have ph6:=of_decide_eq_false h6;refine go_ ?_;refine hK_u1 _ _ pp_ ⟨_,s0,i,(by exact hT0.symm.trans (Eq.symm (aJ h6 O))),rfl,rfl⟩
 rintro g M ⟨i,hCu1,hg3,rfl⟩;refine gS1 hg3 ?_;clear hg3;refine go4 ?_;refine rt1 ?_;exact congrArg vS2 (show _=(bA p) from trs (Eq.symm (smS hCu1)) O)
theorem oK (vp:Value) (p:(List I)) (k:Int) (w:World) (hp:Slr w elI vp p) :
    Calls prog 200 [vp,.int .i64 k].toArray w (fun e w'=>e = .returned (AV [pI (cL p k)])∧Ext w w'):=by
 obtain ⟨p_p,c_p,rfl⟩:=hp.form;refine cM (N:=18) func200 O O zz_ ?_;obtain ⟨w0,rfl⟩:=nm w;have Hp:=hp.old;have hm_p:=hp.max;refine giI ?_;refine go2 ?_;intro b1 hb1;refine go2 ?_;refine gJv (rg [] 5 8) [(12,.bool (decide (k<0)||decide ((p.length:Int)≤k)))] (fun K2 J2=>?_) ?_
 ·refine go3 ?_;refine sBB O (fun h3=>?_) (fun h3=>?_)
  ·have ph3:=of_decide_eq_true h3;refine go6 ?_;refine J2 _ _ pp_ s0 (bH (mJ h3))
  have ph3:=of_decide_eq_false h3;refine go2 ?_;refine sQ (dW jB O (SLe.sub Hp sn)) O (go3 ?_);refine J2 _ _ pp_ s0 (bH (kC h3 O))
 intro g4;refine aH _ O (fun h5=>?_) (fun h5=>?_)
 ·refine go5 ?_;refine rtX O (dP O m0 tyT O) ?_;exact congrArg vS4 (show _=(cL p k) from aX h5 O)
 have ph6:=of_decide_eq_false (Bool.or_eq_false_iff.1 h5).1;have ph7:=of_decide_eq_false (Bool.or_eq_false_iff.1 h5).2;refine go4 ?_;refine sQ (aY (v':=.pointer (some (slb (.slice p_p p.length c_p) ((k.toNat)*18+0)))) (sK (e:=elI) (l:=p) (k:=(k).toNat) jB O O oo_ (SLe.sub Hp sn) o2_) O) O ?_;refine sQ (kW (e:=elI) (l:=p) (k:=(k).toNat) (o:=0) tyT O (SLe.sub Hp sn) (dS I0 o2_) O) O ?_;refine go3 ?_;refine rtX O (dP O m0 tyT O) ?_;exact congrArg vS4 (show _=(cL p k) from aJ h5 O)
theorem dA (vp:Value) (p:(List I)) (vq:Value) (q:(List I)) (w:World) (hp:Slr w elI vp p) (hq:Slr w elI vq q) (hpre:p.length≤100∧q.length≤100) :
    Calls prog 115 [vp,vq].toArray w (fun e w'=>∃ v,e = .returned (v)∧Ext w w'∧Slo w.heap.size w' 31 elI v (aG p q)):=by
 obtain ⟨p_p,c_p,rfl⟩:=hp.form;obtain ⟨p_q,c_q,rfl⟩:=hq.form;refine dD (n:=35) (fun v=>v) func115 O O zz_ ?_;obtain ⟨w0,rfl⟩:=nm w;have Hp:=hp.old;have hm_p:=hp.max;have Hq:=hq.old;have hm_q:=hq.max;refine giI ?_;refine go4 ?_;refine gJv [7,8,9,10,11,12] [(12,.bool ((bA p)||(bA q)))] (fun K2 J2=>?_) ?_
 ·refine go2 ?_;refine sFc (.bool (bA p)) O (c1_ (eU _ p) Hp sn) O O ?_;refine sBB O (fun h2=>?_) (fun h2=>?_)
  ·refine go4 ?_;refine J2 _ _ pp_ s0 (bH (mJ h2))
  refine go_ ?_;refine sFc (.bool (bA q)) O (c1_ (eU _ q) Hq sn) O O (go2 ?_);refine J2 _ _ pp_ s0 (bH (kC h2 O))
 intro g3;refine aH _ O (fun h4=>?_) (fun h4=>?_)
 ·refine go_ ?_;refine aZ O (aN (E:=31) (e:=elI) (l:=F_skewbackref08_bad) (fun v=>v) aB O (fun w hw=>j2  w) (fun p5 c6 L7 hF8=>go3 ?_));refine rt1 ?_
  have hE:(F_skewbackref08_bad:(List I))=(aG p q):=by exact aX h4 O
  rw [← hE];exact ⟨_,rfl,⟨L7,lZ,hF8⟩⟩
 refine go8 ?_;refine gJ3 (rg [5,6] 14 19) (fun g M=>∃ (out:List I) (i:Nat) (p_out:Option Addr) (c_out:Nat) (L_out:List Blk),(iO p q ((max p.length q.length)+1) ([]:List I) 0)=(out,i)∧(out.length≤200)∧(g 5 = .slice p_out out.length c_out∧g 6 = .int .i64 (i:Int)∧OwnG w0 31 elI (.slice p_out out.length c_out) out L_out)∧M=(L_out++[])) (fun K_u9 hK_u9=>?_) ?_
 ·refine go_ ?_;refine bX (rg [5,6] 14 19) (fun g nn M=>∃ (out:List I) (i:Nat) (p_out:Option Addr) (c_out:Nat) (L_out:List Blk),(iO p q nn out i)=(iO p q ((max p.length q.length)+1) ([]:List I) 0)∧(max p.length q.length) - i<nn∧(i≤(max p.length q.length)∧out.length=i)∧(g 5 = .slice p_out out.length c_out∧g 6 = .int .i64 (i:Int)∧OwnG w0 31 elI (.slice p_out out.length c_out) out L_out)∧M=(L_out++[])) ((max p.length q.length)+1) ?start ?round
  case start=>exact ⟨_,s0,([]:List I),0,none,0,[],rfl,o1_,o1_,⟨rfl,rfl,OwnG.nil⟩,rfl⟩
  case round =>
   rintro nn g M ⟨out,i,p_out,c_out,L_out,hT0,hq0,hinv0,⟨hg5,hg6,hO_out⟩,rfl⟩;obtain ⟨k0,rfl⟩:∃ m,nn=m+1:=⟨nn - 1,by omega⟩;refine gS2 hg5 hg6 ?_;clear hg5 hg6;have hm_out:=OwnG.max hO_out;refine go4 ?_;refine sQ (dW jB O (SLe.sub Hp sn)) O (go_ ?_);refine sQ (dW jB O (SLe.sub Hq sn)) O (sQ (aY (v':=.int .i64 (((max (p.length) (q.length)):Nat):Int)) (rV O O) (congrArg (Value.int .i64) oo_)) O (go2 ?_));refine aH _ O (fun h17=>?_) (fun h17=>?_)
   ·have ph17:=of_decide_eq_true h17;refine go7 ?_;refine sFc (AV [pI (cL p (i:Int))]) O (c1_ (oK _ p (i:Int)) Hp sn) O O (go2 ?_);refine sFc (AV [pI (cL q (i:Int))]) O (c1_ (oK _ q (i:Int)) Hq sn) O O ?_;obtain ⟨r18,hr18⟩:=nm ((E (Z.add (cL p (i:Int)).dec (cL q (i:Int)).dec)):I);refine sC (AV [pI r18]) aB (lW (cL p (i:Int)).1 (cL q (i:Int)).1 (cL p (i:Int)).2 (cL q (i:Int)).2) O O (by subst hr18;rfl) (aZ O (bJ [[pI r18]] [pI r18] jO jP kB O dd_ O O ⟨rfl,rfl,rfl,trivial⟩ O (fun b19 hb19=>aZ O (kQ (e:=elI) (l:=out) (m:=[r18]) 68 jO (by kernel_rfl) dd_ O O hO_out (SLe.lit (e:=elI) (l:=[r18]) m0 O (Nat.le_of_ble_eq_true O) O) (jY mV) (by simp only [List.length_append,List.length_cons,List.length_nil];omega) dd_ (fun p20 c21 L22 hO23=>?_)))));refine go4 ?_;refine sWi (((i+1):Nat):Int) O (go2 ?_);refine ⟨pp_,_,_,(sA (sd s0)),(Nat.lt_succ_self _),(out++[r18]),(i+1),p20,c21,L22,(by subst hr18;exact (hT0.symm.trans (Eq.symm (aX h17 O))).symm),(Nat.lt_of_lt_of_le o1_ (Nat.le_of_lt_succ hq0)),o1_,⟨rfl,rfl,hO23⟩,rfl⟩
   have ph17:=of_decide_eq_false h17;refine go_ ?_;refine hK_u9 _ _ pp_ ⟨_,s0,out,i,p_out,c_out,L_out,(by exact hT0.symm.trans (Eq.symm (aJ h17 O))),o1_,⟨rfl,rfl,hO_out⟩,rfl⟩
 rintro g M ⟨out,i,p_out,c_out,L_out,hCu9,hPu9,⟨hg5,hg6,hO_out⟩,rfl⟩;refine gS2 hg5 hg6 ?_;clear hg5 hg6;have hm_out:=OwnG.max hO_out;refine go2 ?_;refine aZ O (aN (E:=31) (e:=elI) (l:=(bD out)) (fun v=>v) aB O (fun w hw=>jW _ out w (aO hw hO_out lZ) oo_) (fun p24 c25 L26 hF27=>?_));have hb28:=(jV out);refine go3 ?_;refine rt1 ?_
 have hE:((bD out):(List I))=(aG p q):=by exact aJ h4 (trs (Eq.symm (apS hCu9)) O)
 rw [← hE];exact ⟨_,rfl,⟨L26,lZ,hF27⟩⟩
theorem nT (vp:Value) (p:(List I)) (vq:Value) (q:(List I)) (w:World) (hp:Slr w elI vp p) (hq:Slr w elI vq q) (hpre:p.length≤100∧q.length≤100) :
    Calls prog 114 [vp,vq].toArray w (fun e w'=>∃ v,e = .returned (v)∧Ext w w'∧Slo w.heap.size w' 31 elI v (dJ p q)):=by
 obtain ⟨p_p,c_p,rfl⟩:=hp.form;obtain ⟨p_q,c_q,rfl⟩:=hq.form;refine dD (n:=35) (fun v=>v) func114 O O zz_ ?_;obtain ⟨w0,rfl⟩:=nm w;have Hp:=hp.old;have hm_p:=hp.max;have Hq:=hq.old;have hm_q:=hq.max;refine giI ?_;refine go4 ?_;refine gJv [7,8,9,10,11,12] [(12,.bool ((bA p)||(bA q)))] (fun K2 J2=>?_) ?_
 ·refine go2 ?_;refine sFc (.bool (bA p)) O (c1_ (eU _ p) Hp sn) O O ?_;refine sBB O (fun h2=>?_) (fun h2=>?_)
  ·refine go4 ?_;refine J2 _ _ pp_ s0 (bH (mJ h2))
  refine go_ ?_;refine sFc (.bool (bA q)) O (c1_ (eU _ q) Hq sn) O O (go2 ?_);refine J2 _ _ pp_ s0 (bH (kC h2 O))
 intro g3;refine aH _ O (fun h4=>?_) (fun h4=>?_)
 ·refine go_ ?_;refine aZ O (aN (E:=31) (e:=elI) (l:=F_skewbackref08_bad) (fun v=>v) aB O (fun w hw=>j2  w) (fun p5 c6 L7 hF8=>go3 ?_));refine rt1 ?_
  have hE:(F_skewbackref08_bad:(List I))=(dJ p q):=by exact aX h4 O
  rw [← hE];exact ⟨_,rfl,⟨L7,lZ,hF8⟩⟩
 refine go8 ?_;refine gJ3 (rg [5,6] 14 19) (fun g M=>∃ (out:List I) (i:Nat) (p_out:Option Addr) (c_out:Nat) (L_out:List Blk),(iR p q ((max p.length q.length)+1) ([]:List I) 0)=(out,i)∧(out.length≤200)∧(g 5 = .slice p_out out.length c_out∧g 6 = .int .i64 (i:Int)∧OwnG w0 31 elI (.slice p_out out.length c_out) out L_out)∧M=(L_out++[])) (fun K_u9 hK_u9=>?_) ?_
 ·refine go_ ?_;refine bX (rg [5,6] 14 19) (fun g nn M=>∃ (out:List I) (i:Nat) (p_out:Option Addr) (c_out:Nat) (L_out:List Blk),(iR p q nn out i)=(iR p q ((max p.length q.length)+1) ([]:List I) 0)∧(max p.length q.length) - i<nn∧(i≤(max p.length q.length)∧out.length=i)∧(g 5 = .slice p_out out.length c_out∧g 6 = .int .i64 (i:Int)∧OwnG w0 31 elI (.slice p_out out.length c_out) out L_out)∧M=(L_out++[])) ((max p.length q.length)+1) ?start ?round
  case start=>exact ⟨_,s0,([]:List I),0,none,0,[],rfl,o1_,o1_,⟨rfl,rfl,OwnG.nil⟩,rfl⟩
  case round =>
   rintro nn g M ⟨out,i,p_out,c_out,L_out,hT0,hq0,hinv0,⟨hg5,hg6,hO_out⟩,rfl⟩;obtain ⟨k0,rfl⟩:∃ m,nn=m+1:=⟨nn - 1,by omega⟩;refine gS2 hg5 hg6 ?_;clear hg5 hg6;have hm_out:=OwnG.max hO_out;refine go4 ?_;refine sQ (dW jB O (SLe.sub Hp sn)) O (go_ ?_);refine sQ (dW jB O (SLe.sub Hq sn)) O (sQ (aY (v':=.int .i64 (((max (p.length) (q.length)):Nat):Int)) (rV O O) (congrArg (Value.int .i64) oo_)) O (go2 ?_));refine aH _ O (fun h17=>?_) (fun h17=>?_)
   ·have ph17:=of_decide_eq_true h17;refine go7 ?_;refine sFc (AV [pI (cL p (i:Int))]) O (c1_ (oK _ p (i:Int)) Hp sn) O O (go2 ?_);refine sFc (AV [pI (cL q (i:Int))]) O (c1_ (oK _ q (i:Int)) Hq sn) O O ?_;obtain ⟨r18,hr18⟩:=nm ((E (Z.sub (cL p (i:Int)).dec (cL q (i:Int)).dec)):I);refine sC (AV [pI r18]) aB (BR (cL p (i:Int)).1 (cL q (i:Int)).1 (cL p (i:Int)).2 (cL q (i:Int)).2) O O (by subst hr18;rfl) (aZ O (bJ [[pI r18]] [pI r18] jO jP kB O dd_ O O ⟨rfl,rfl,rfl,trivial⟩ O (fun b19 hb19=>aZ O (kQ (e:=elI) (l:=out) (m:=[r18]) 68 jO (by kernel_rfl) dd_ O O hO_out (SLe.lit (e:=elI) (l:=[r18]) m0 O (Nat.le_of_ble_eq_true O) O) (jY mV) (by simp only [List.length_append,List.length_cons,List.length_nil];omega) dd_ (fun p20 c21 L22 hO23=>?_)))));refine go4 ?_;refine sWi (((i+1):Nat):Int) O (go2 ?_);refine ⟨pp_,_,_,(sA (sd s0)),(Nat.lt_succ_self _),(out++[r18]),(i+1),p20,c21,L22,(by subst hr18;exact (hT0.symm.trans (Eq.symm (aX h17 O))).symm),(Nat.lt_of_lt_of_le o1_ (Nat.le_of_lt_succ hq0)),o1_,⟨rfl,rfl,hO23⟩,rfl⟩
   have ph17:=of_decide_eq_false h17;refine go_ ?_;refine hK_u9 _ _ pp_ ⟨_,s0,out,i,p_out,c_out,L_out,(by exact hT0.symm.trans (Eq.symm (aJ h17 O))),o1_,⟨rfl,rfl,hO_out⟩,rfl⟩
 rintro g M ⟨out,i,p_out,c_out,L_out,hCu9,hPu9,⟨hg5,hg6,hO_out⟩,rfl⟩;refine gS2 hg5 hg6 ?_;clear hg5 hg6;have hm_out:=OwnG.max hO_out;refine go2 ?_;refine aZ O (aN (E:=31) (e:=elI) (l:=(bD out)) (fun v=>v) aB O (fun w hw=>jW _ out w (aO hw hO_out lZ) oo_) (fun p24 c25 L26 hF27=>?_));have hb28:=(jV out);refine go3 ?_;refine rt1 ?_
 have hE:((bD out):(List I))=(dJ p q):=by exact aJ h4 (trs (Eq.symm (apS hCu9)) O)
 rw [← hE];exact ⟨_,rfl,⟨L26,lZ,hF27⟩⟩
theorem gQ (vp:Value) (p:(List I)) (vq:Value) (q:(List I)) (w:World) (hp:Slr w elI vp p) (hq:Slr w elI vq q) (hpre:p.length≤100∧q.length≤100) :
    Calls prog 112 [vp,vq].toArray w (fun e w'=>∃ v,e = .returned (v)∧Ext w w'∧Slo w.heap.size w' 31 elI v (aU p q)):=by
 obtain ⟨p_p,c_p,rfl⟩:=hp.form;obtain ⟨p_q,c_q,rfl⟩:=hq.form;refine dD (n:=71) (fun v=>v) func112 O O zz_ ?_;obtain ⟨w0,rfl⟩:=nm w;have Hp:=hp.old;have hm_p:=hp.max;have Hq:=hq.old;have hm_q:=hq.max;refine giI ?_;refine go4 ?_;refine gJv [9,10,11,12,13,14] [(14,.bool ((bA p)||(bA q)))] (fun K2 J2=>?_) ?_
 ·refine go2 ?_;refine sFc (.bool (bA p)) O (c1_ (eU _ p) Hp sn) O O ?_;refine sBB O (fun h2=>?_) (fun h2=>?_)
  ·refine go4 ?_;refine J2 _ _ pp_ s0 (bH (mJ h2))
  refine go_ ?_;refine sFc (.bool (bA q)) O (c1_ (eU _ q) Hq sn) O O (go2 ?_);refine J2 _ _ pp_ s0 (bH (kC h2 O))
 intro g3;refine aH _ O (fun h4=>?_) (fun h4=>?_)
 ·refine go_ ?_;refine aZ O (aN (E:=31) (e:=elI) (l:=F_skewbackref08_bad) (fun v=>v) aB O (fun w hw=>j2  w) (fun p5 c6 L7 hF8=>go3 ?_));refine rt1 ?_
  have hE:(F_skewbackref08_bad:(List I))=(aU p q):=by exact aX h4 O
  rw [← hE];exact ⟨_,rfl,⟨L7,lZ,hF8⟩⟩
 refine go2 ?_;refine gJv (rg [] 16 8) [(23,.bool (((p.length:Int)==0)||((q.length:Int)==0)))] (fun K4 J4=>?_) ?_
 ·refine go2 ?_;refine sQ (dW jB O (SLe.sub Hp sn)) O (go_ ?_);refine sBB O (fun h10=>?_) (fun h10=>?_)
  ·have ph10:=E8 h10;refine go5 ?_;refine J4 _ _ pp_ s0 (bH (mJ h10))
  have ph10:=wO h10;refine go_ ?_;refine sQ (dW jB O (SLe.sub Hq sn)) O (go3 ?_);refine J4 _ _ pp_ s0 (bH (kC h10 O))
 intro g11;refine aH _ O (fun h12=>?_) (fun h12=>?_)
 ·refine go4 ?_;refine rt1 ?_
  have hE:(([]:List I):(List I))=(aU p q):=by exact aJ h4 (aX h12 O)
  rw [← hE];exact ⟨_,rfl,⟨[],sn,OwnG.nil⟩⟩
 have ph13:=wO (Bool.or_eq_false_iff.1 h12).1;have ph14:=wO (Bool.or_eq_false_iff.1 h12).2;refine go8 ?_;refine gJ3 (rg [5,6,7,8] 24 45) (fun g M=>∃ (out:List I) (k:Nat) (p_out:Option Addr) (c_out:Nat) (L_out:List Blk),(iQ p q (p.length+q.length) ([]:List I) 0)=(out,k)∧(out.length≤200)∧(g 5 = .slice p_out out.length c_out∧g 6 = .int .i64 (k:Int)∧OwnG w0 31 elI (.slice p_out out.length c_out) out L_out)∧M=(L_out++[])) (fun K_u15 hK_u15=>?_) ?_
 ·refine go_ ?_;refine bX (rg [5,6,7,8] 24 45) (fun g nn M=>∃ (out:List I) (k:Nat) (p_out:Option Addr) (c_out:Nat) (L_out:List Blk),(iQ p q nn out k)=(iQ p q (p.length+q.length) ([]:List I) 0)∧p.length+q.length - 1 - k<nn∧(k≤p.length+q.length - 1∧out.length=k)∧(g 5 = .slice p_out out.length c_out∧g 6 = .int .i64 (k:Int)∧OwnG w0 31 elI (.slice p_out out.length c_out) out L_out)∧M=(L_out++[])) (p.length+q.length) ?start ?round
  case start=>exact ⟨_,s0,([]:List I),0,none,0,[],rfl,o1_,o1_,⟨rfl,rfl,OwnG.nil⟩,rfl⟩
  case round =>
   rintro nn g M ⟨out,k,p_out,c_out,L_out,hT0,hq0,hinv0,⟨hg5,hg6,hO_out⟩,rfl⟩;obtain ⟨k0,rfl⟩:∃ m,nn=m+1:=⟨nn - 1,by omega⟩;refine gS2 hg5 hg6 ?_;clear hg5 hg6;have hm_out:=OwnG.max hO_out;refine go4 ?_;refine sQ (dW jB O (SLe.sub Hp sn)) O (go_ ?_);refine sQ (dW jB O (SLe.sub Hq sn)) O (sWi (((p.length+(q).length):Nat):Int) O (sWi ((((p.length+(q).length):Nat):Int) - 1) O (go2 ?_)));refine aH _ O (fun h45=>?_) (fun h45=>?_)
   ·have ph45:=of_decide_eq_true h45;refine go6 ?_;intro b46 hb46;refine go6 ?_;refine gJ3 (rg [8] 35 30) (fun g M=>∃ (i:Nat) (mb46:I),(cQ p q out k (k+2) 0 I0)=(i,mb46)∧(g 8 = .int .i64 (i:Int))∧M=(⟨b46,31,cF [pI mb46]⟩::(L_out++[]))) (fun K_u47 hK_u47=>?_) ?_
    ·refine go_ ?_;refine bX (rg [8] 35 30) (fun g nn M=>∃ (i:Nat) (mb46:I),(cQ p q out k nn i mb46)=(cQ p q out k (k+2) 0 I0)∧k+1 - i<nn∧(i≤k+1)∧(g 8 = .int .i64 (i:Int))∧M=(⟨b46,31,cF [pI mb46]⟩::(L_out++[]))) (k+2) ?start ?round
     case start=>exact ⟨_,s0,0,I0,rfl,o1_,o1_,rfl,rfl⟩
     case round =>
      rintro nn g M ⟨i,mb46,hT1,hq1,hinv1,hg8,rfl⟩;obtain ⟨k1,rfl⟩:∃ m,nn=m+1:=⟨nn - 1,by omega⟩;refine gS1 hg8 ?_;clear hg8;refine go6 ?_;refine aH _ O (fun h62=>?_) (fun h62=>?_)
      ·have ph62:=of_decide_eq_true h62;refine go3 ?_;refine gJv (rg [] 40 12) [(51,.bool (decide ((i:Int)<(p.length:Int))&&decide (((k:Int) - (i:Int))<(q.length:Int))))] (fun K29 J29=>?_) ?_
       ·refine go3 ?_;refine sQ (dW jB O (SLe.sub Hp sn)) O (go_ ?_);refine sBB O (fun h64=>?_) (fun h64=>?_)
        ·have ph64:=of_decide_eq_true h64;refine go2 ?_;refine sWi ((k:Int) - (i:Int)) O (go_ ?_);refine sQ (dW jB O (SLe.sub Hq sn)) O (go3 ?_);refine J29 _ _ pp_ s0 (bH (mW h64 O))
        have ph64:=of_decide_eq_false h64;refine go8 ?_;refine J29 _ _ pp_ s0 (bH (pU h64))
       intro g65;refine aH _ O (fun h66=>?_) (fun h66=>?_)
       ·have ph67:=of_decide_eq_true (Bool.and_eq_true_iff.1 h66).1;have ph68:=of_decide_eq_true (Bool.and_eq_true_iff.1 h66).2;refine kU (sd s0) 14 [13] [13] (go3 ?_);refine pQ O (aY (v':=.pointer (some (slb (.slice p_p p.length c_p) (i*18+0)))) (kJ (e:=elI) (l:=p) (k:=i) jB O O (SLe.sub Hp sn) o2_) O) ?_;refine pQ O (kW (e:=elI) (l:=p) (k:=i) (o:=0) tyT O (SLe.sub Hp sn) (dS I0 o2_) O) ?_;refine go3 ?_;refine pV (.int .i64 ((k:Int) - (i:Int))) O wxo (pQ O (aY (v':=.pointer (some (slb (.slice p_q q.length c_q) ((k - i)*18+0)))) (sK (e:=elI) (l:=q) (k:=(k - i)) jB O O oo_ (SLe.sub Hq sn) o2_) O) ?_);refine pQ O (kW (e:=elI) (l:=q) (k:=(k - i)) (o:=0) tyT O (SLe.sub Hq sn) (dS I0 o2_) O) ?_;refine pC (AV [pI (E (Z.mul (p.getD i I0).dec (q.getD (k - i) I0).dec))]) aB (cG (p.getD i I0).1 (q.getD (k - i) I0).1 (p.getD i I0).2 (q.getD (k - i) I0).2) O O O (pC (AV [pI (E (Z.add mb46.dec (Z.mul (p.getD i I0).dec (q.getD (k - i) I0).dec)))]) aB (lW mb46.1 (E (Z.mul (p.getD i I0).dec (q.getD (k - i) I0).dec)).1 mb46.2 (E (Z.mul (p.getD i I0).dec (q.getD (k - i) I0).dec)).2) O O (cg2 (fun p q=>AV [pI (E (Z.add p q))]) O (eQ _)) (go4 ?_));refine sWi (((i+1):Nat):Int) O (go2 ?_);refine ⟨pp_,_,_,s0,(Nat.lt_succ_self _),(i+1),(E (Z.add mb46.dec (Z.mul (p.getD i I0).dec (q.getD (k - i) I0).dec))),(by exact (hT1.symm.trans (Eq.symm (aX h62 (aX h66 O)))).symm),(Nat.lt_of_lt_of_le o1_ (Nat.le_of_lt_succ hq1)),o1_,rfl,rfl⟩
       refine go3 ?_;refine sWi (((i+1):Nat):Int) O (go2 ?_);refine ⟨pp_,_,_,s0,(Nat.lt_succ_self _),(i+1),mb46,(by exact (hT1.symm.trans (Eq.symm (aX h62 (aJ h66 O)))).symm),(Nat.lt_of_lt_of_le o1_ (Nat.le_of_lt_succ hq1)),o1_,rfl,rfl⟩
      have ph62:=of_decide_eq_false h62;refine go_ ?_;refine hK_u47 _ _ pp_ ⟨_,s0,i,mb46,(by exact hT1.symm.trans (Eq.symm (aJ h62 O))),rfl,rfl⟩
    rintro g M ⟨i,mb46,hCu47,hg8,rfl⟩;refine gS1 hg8 ?_;clear hg8;refine go3 ?_;refine aZ O (bJ [[pI mb46]] [pI mb46] jO jP kB O dd_ O O ⟨rfl,rfl,rfl,trivial⟩ O (fun b69 hb69=>aZ O (kQ (e:=elI) (l:=out) (m:=[mb46]) 68 jO (by kernel_rfl) dd_ O O hO_out (SLe.lit (e:=elI) (l:=[mb46]) m0 O (Nat.le_of_ble_eq_true O) O) (jY (jY mV)) (by simp only [List.length_append,List.length_cons,List.length_nil];omega) dd_ (fun p70 c71 L72 hO73=>?_))));refine go4 ?_;refine sWi (((k+1):Nat):Int) O (go2 ?_);refine ⟨pp_,_,_,(sA (sd (sd s0))),(Nat.lt_succ_self _),(out++[mb46]),(k+1),p70,c71,L72,(by exact (hT0.symm.trans (Eq.symm (aX h45 (trs (Eq.symm (apS hCu47)) O)))).symm),(Nat.lt_of_lt_of_le o1_ (Nat.le_of_lt_succ hq0)),o1_,⟨rfl,rfl,hO73⟩,rfl⟩
   have ph45:=of_decide_eq_false h45;refine go_ ?_;refine hK_u15 _ _ pp_ ⟨_,s0,out,k,p_out,c_out,L_out,(by exact hT0.symm.trans (Eq.symm (aJ h45 O))),o1_,⟨rfl,rfl,hO_out⟩,rfl⟩
 rintro g M ⟨out,k,p_out,c_out,L_out,hCu15,hPu15,⟨hg5,hg6,hO_out⟩,rfl⟩;refine gS2 hg5 hg6 ?_;clear hg5 hg6;have hm_out:=OwnG.max hO_out;refine go2 ?_;refine aZ O (aN (E:=31) (e:=elI) (l:=(bD out)) (fun v=>v) aB O (fun w hw=>jW _ out w (aO hw hO_out lZ) oo_) (fun p74 c75 L76 hF77=>?_));have hb78:=(jV out);refine go3 ?_;refine rt1 ?_
 have hE:((bD out):(List I))=(aU p q):=by exact aJ h4 (aJ h12 (trs (Eq.symm (apS hCu15)) O))
 rw [← hE];exact ⟨_,rfl,⟨L76,lZ,hF77⟩⟩
theorem cO (vp:Value) (p:(List I)) (n:I) (w:World) (hp:Slr w elI vp p) (hpre:p.length≤100) :
    Calls prog 111 [vp,AV [pI n]].toArray w (fun e w'=>∃ v,e = .returned (v)∧Ext w w'∧Slo w.heap.size w' 31 elI v (aK p n)):=by
 obtain ⟨p_p,c_p,rfl⟩:=hp.form;refine dD (n:=32) (fun v=>v) func111 O O zz_ ?_;obtain ⟨w0,rfl⟩:=nm w;have Hp:=hp.old;have hm_p:=hp.max;refine giI ?_;refine go2 ?_;intro b1 hb1;refine go3 ?_;refine gJv [7,8,9,10,11,12,13] [(13,.bool ((bA p)||(!(fU n))))] (fun K2 J2=>?_) ?_
 ·refine go2 ?_;refine sFc (.bool (bA p)) O (c1_ (eU _ p) Hp sn) O O ?_;refine sBB O (fun h3=>?_) (fun h3=>?_)
  ·refine go5 ?_;refine J2 _ _ pp_ s0 (bH (mJ h3))
  refine go_ ?_;refine sQ (bE aB (nJ n) O) O (go3 ?_);refine J2 _ _ pp_ s0 (bH (kC h3 O))
 intro g4;refine aH _ O (fun h5=>?_) (fun h5=>?_)
 ·refine go_ ?_;refine aZ O (aN (E:=31) (e:=elI) (l:=F_skewbackref08_bad) (fun v=>v) aB O (fun w hw=>j2  w) (fun p6 c7 L8 hF9=>go3 ?_));refine rt1 ?_
  have hE:(F_skewbackref08_bad:(List I))=(aK p n):=by exact aX h5 O
  rw [← hE];exact ⟨_,rfl,⟨L8,lZ,hF9⟩⟩
 refine go8 ?_;refine gJ3 (rg [5,6] 15 15) (fun g M=>∃ (out:List I) (i:Nat) (p_out:Option Addr) (c_out:Nat) (L_out:List Blk),(gT p n (p.length+1) ([]:List I) 0)=(out,i)∧(out.length≤200)∧(g 5 = .slice p_out out.length c_out∧g 6 = .int .i64 (i:Int)∧OwnG w0 31 elI (.slice p_out out.length c_out) out L_out)∧M=(L_out++(⟨b1,31,cF [pI n]⟩::[]))) (fun K_u10 hK_u10=>?_) ?_
 ·refine go_ ?_;refine bX (rg [5,6] 15 15) (fun g nn M=>∃ (out:List I) (i:Nat) (p_out:Option Addr) (c_out:Nat) (L_out:List Blk),(gT p n nn out i)=(gT p n (p.length+1) ([]:List I) 0)∧p.length - i<nn∧(i≤p.length∧out.length=i)∧(g 5 = .slice p_out out.length c_out∧g 6 = .int .i64 (i:Int)∧OwnG w0 31 elI (.slice p_out out.length c_out) out L_out)∧M=(L_out++(⟨b1,31,cF [pI n]⟩::[]))) (p.length+1) ?start ?round
  case start=>exact ⟨_,s0,([]:List I),0,none,0,[],rfl,o1_,o1_,⟨rfl,rfl,OwnG.nil⟩,rfl⟩
  case round =>
   rintro nn g M ⟨out,i,p_out,c_out,L_out,hT0,hq0,hinv0,⟨hg5,hg6,hO_out⟩,rfl⟩;obtain ⟨k0,rfl⟩:∃ m,nn=m+1:=⟨nn - 1,by omega⟩;refine gS2 hg5 hg6 ?_;clear hg5 hg6;have hm_out:=OwnG.max hO_out;refine go4 ?_;refine sQ (dW jB O (SLe.sub Hp sn)) O (go2 ?_);refine aH _ O (fun h17=>?_) (fun h17=>?_)
   ·have ph17:=of_decide_eq_true h17;refine go3 ?_;refine kU sn 10 [7,8] [8] (go3 ?_);refine pQ O (aY (v':=.pointer (some (slb (.slice p_p p.length c_p) (i*18+0)))) (kJ (e:=elI) (l:=p) (k:=i) jB O O (SLe.sub Hp sn) o2_) O) ?_;refine pQ O (kW (e:=elI) (l:=p) (k:=i) (o:=0) tyT O (SLe.sub Hp sn) (dS I0 o2_) O) ?_;refine go_ ?_;refine pC (AV [pI (E (Z.mul (p.getD i I0).dec n.dec))]) aB (cG (p.getD i I0).1 n.1 (p.getD i I0).2 n.2) O O O (bP O O (bJ [[pI (E (Z.mul (p.getD i I0).dec n.dec))]] [pI (E (Z.mul (p.getD i I0).dec n.dec))] jO jP kB O dd_ O O ⟨rfl,rfl,rfl,trivial⟩ O (fun b18 hb18=>⟨(fun _=>sd s0),sn,bP O O (kQ (e:=elI) (l:=out) (m:=[(E (Z.mul (p.getD i I0).dec n.dec))]) 68 jO (by kernel_rfl) dd_ O O hO_out (SLe.lit (e:=elI) (l:=[(E (Z.mul (p.getD i I0).dec n.dec))]) m0 O (Nat.le_of_ble_eq_true O) O) (jY mV) (by simp only [List.length_append,List.length_cons,List.length_nil];omega) dd_ (fun p19 c20 L21 hO22=>⟨nf,sn,?_⟩))⟩)));refine go4 ?_;refine sWi (((i+1):Nat):Int) O (go2 ?_);refine ⟨pp_,_,_,(sA (sd s0)),(Nat.lt_succ_self _),(out++[(E (Z.mul (p.getD i I0).dec n.dec))]),(i+1),p19,c20,L21,(by exact (hT0.symm.trans (Eq.symm (aX h17 O))).symm),(Nat.lt_of_lt_of_le o1_ (Nat.le_of_lt_succ hq0)),o1_,⟨rfl,rfl,hO22⟩,rfl⟩
   have ph17:=of_decide_eq_false h17;refine go_ ?_;refine hK_u10 _ _ pp_ ⟨_,s0,out,i,p_out,c_out,L_out,(by exact hT0.symm.trans (Eq.symm (aJ h17 O))),o1_,⟨rfl,rfl,hO_out⟩,rfl⟩
 rintro g M ⟨out,i,p_out,c_out,L_out,hCu10,hPu10,⟨hg5,hg6,hO_out⟩,rfl⟩;refine gS2 hg5 hg6 ?_;clear hg5 hg6;have hm_out:=OwnG.max hO_out;refine go2 ?_;refine aZ O (aN (E:=31) (e:=elI) (l:=(bD out)) (fun v=>v) aB O (fun w hw=>jW _ out w (aO hw hO_out lZ) oo_) (fun p23 c24 L25 hF26=>?_));have hb27:=(jV out);refine go3 ?_;refine rt1 ?_
 have hE:((bD out):(List I))=(aK p n):=by exact aJ h5 (trs (Eq.symm (apS hCu10)) O)
 rw [← hE];exact ⟨_,rfl,⟨L25,lZ,hF26⟩⟩
theorem tZ (n:I) (k:Int) (w:World)  (hpre:k≤200) :
    Calls prog 267 [AV [pI n],.int .i64 k].toArray w (fun e w'=>e = .returned (AV [pI (gO n k)])∧Ext w w'):=by
 refine cM (N:=17) func267 O O zz_ ?_;obtain ⟨w0,rfl⟩:=nm w;refine giI ?_;refine go2 ?_;intro b1 hb1;refine go_ ?_;intro b2 hb2;refine go2 ?_;refine sC (AV [pI (E (Z.of 1))]) aB (bU (wl 1).1 (wl 1).2) O O O ?_;refine go_ ?_;intro b3 hb3;refine go6 ?_;refine gJ3 (rg [6] 8 8) (fun g M=>∃ (i:Nat) (mb3:I),(i1 n k (k.toNat+1) 0 (E (Z.of 1)))=(i,mb3)∧(g 6 = .int .i64 (i:Int))∧M=[⟨b3,31,cF [pI mb3]⟩,⟨b2,31,cF [pI I0]⟩,⟨b1,31,cF [pI n]⟩]) (fun K_u4 hK_u4=>?_) ?_
 ·refine go_ ?_;refine bX (rg [6] 8 8) (fun g nn M=>∃ (i:Nat) (mb3:I),(i1 n k nn i mb3)=(i1 n k (k.toNat+1) 0 (E (Z.of 1)))∧k.toNat - i<nn∧(i≤k.toNat)∧(g 6 = .int .i64 (i:Int))∧M=[⟨b3,31,cF [pI mb3]⟩,⟨b2,31,cF [pI I0]⟩,⟨b1,31,cF [pI n]⟩]) (k.toNat+1) ?start ?round
  case start=>exact ⟨_,s0,0,(E (Z.of 1)),rfl,o1_,o1_,rfl,rfl⟩
  case round =>
   rintro nn g M ⟨i,mb3,hT0,hq0,hinv0,hg6,rfl⟩;obtain ⟨k0,rfl⟩:∃ m,nn=m+1:=⟨nn - 1,by omega⟩;refine gS1 hg6 ?_;clear hg6;refine go6 ?_;refine aH _ O (fun h7=>?_) (fun h7=>?_)
   ·have ph7:=of_decide_eq_true h7;refine go6 ?_;refine sC (AV [pI (E (Z.mul mb3.dec n.dec))]) aB (cG mb3.1 n.1 mb3.2 n.2) O O O (go4 ?_);refine sWi (((i+1):Nat):Int) O (go2 ?_);refine ⟨pp_,_,_,s0,(Nat.lt_succ_self _),(i+1),(E (Z.mul mb3.dec n.dec)),(by exact (hT0.symm.trans (Eq.symm (aX h7 O))).symm),(Nat.lt_of_lt_of_le o1_ (Nat.le_of_lt_succ hq0)),o1_,rfl,rfl⟩
   have ph7:=of_decide_eq_false h7;refine go_ ?_;refine hK_u4 _ _ pp_ ⟨_,s0,i,mb3,(by exact hT0.symm.trans (Eq.symm (aJ h7 O))),rfl,rfl⟩
 rintro g M ⟨i,mb3,hCu4,hg6,rfl⟩;refine gS1 hg6 ?_;clear hg6;refine go5 ?_;refine rtX O (dP O m1 tyT O) ?_;exact congrArg vS4 (show _=(gO n k) from (by unfold gO;exact trs (Eq.symm (apS hCu4)) O))
theorem nI (a:Rt) :
    Ret prog 263 [AV [pI a.n,pI a.d]] (.bool (dV a)):=by
 refine bG (N:=26) func263 O O zz_ (fun w0=>?_);refine giI ?_;refine go2 ?_;intro b1 hb1;refine go3 ?_;refine gJv (rg [] 3 16) [(18,.bool (!(fU a.n)||(!(fU a.d)||decide ((Z.signW a.d.dec).1≤0))))] (fun K2 J2=>?_) ?_
 ·refine go3 ?_;refine sQ (bE aB (nJ a.n) O) O (go_ ?_);rcases bt (fU a.n) with h4|h4
  ·refine sB (fZ h4) O (go2 ?_);refine sQ (bE aB (nJ a.d) O) O (go2 ?_);rcases bt (fU a.d) with h5|h5
   ·refine sB (fZ h5) O (go2 ?_);refine sC (.int .i64 ((Z.signW a.d.dec).1)) aB (fM a.d.1 a.d.2) O O O (go3 ?_);refine J2 _ _ pp_ s0 (bH (lE h4 (lE h5 O)))
   refine sB (iX h5) O (go6 ?_);refine J2 _ _ pp_ s0 (bH (lE h4 (oG h5)))
  refine sB (iX h4) O (tL ?_);refine J2 _ _ pp_ s0 (bH (oG h4))
 intro g6;refine aH _ O (fun h7=>?_) (fun h7=>?_)
 ·refine go4 ?_;refine rt1 ?_;exact congrArg vS2 (show _=(dV a) from aX h7 O)
 refine go6 ?_;refine sC (AV [pI (E (Z.gcd a.n.dec a.d.dec))]) aB (nS a.n.1 a.d.1 a.n.2 a.d.2) O O O (sC (AV [pI (E (Z.of 1))]) aB (bU (wl 1).1 (wl 1).2) O O O ?_);refine sQ (tM (r:=decide ((E (Z.gcd a.n.dec a.d.dec))=(E (Z.of 1)))) O O (mS 8 dd_ KN KZ (lH eE) (lH eE) (pX kL))) O (go3 ?_);refine rt1 ?_;exact congrArg vS2 (show _=(dV a) from aJ h7 O)
theorem zY (vp:Value) (p:(List I)) (x:Rt) (w:World) (hp:Slr w elI vp p) (hpre:p.length≤100) :
    Calls prog 220 [vp,AV [pI x.n,pI x.d]].toArray w (fun e w'=>e = .returned (AV [pI (dX p x)])∧Ext w w'):=by
 obtain ⟨p_p,c_p,rfl⟩:=hp.form;refine cM (N:=42) func220 O O zz_ ?_;obtain ⟨w0,rfl⟩:=nm w;have Hp:=hp.old;have hm_p:=hp.max;refine giI ?_;refine go2 ?_;intro b1 hb1;refine go_ ?_;intro b2 hb2;refine go2 ?_;refine gJv [7,8,9,10,11,12,13] [(13,.bool ((bA p)||(!(dV x))))] (fun K2 J2=>?_) ?_
 ·refine go2 ?_;refine sFc (.bool (bA p)) O (c1_ (eU _ p) Hp sn) O O ?_;refine sBB O (fun h4=>?_) (fun h4=>?_)
  ·refine go5 ?_;refine J2 _ _ pp_ s0 (bH (mJ h4))
  refine go_ ?_;refine sQ (bE aB (nI x) O) O (go3 ?_);refine J2 _ _ pp_ s0 (bH (kC h4 O))
 intro g5;refine aH _ O (fun h6=>?_) (fun h6=>?_)
 ·refine go_ ?_;refine sC (AV [pI (E Z.bad)]) aB eO O O O (go3 ?_);refine rtX O (dP O m0 tyT O) ?_;exact congrArg vS4 (show _=(dX p x) from aX h6 O)
 refine go4 ?_;intro b7 hb7;refine go5 ?_;refine sQ (dW jB O (SLe.sub Hp sn)) O (sWi ((p.length:Int) - 1) O (go2 ?_));refine gJ3 (rg [6] 19 22) (fun g M=>∃ (i:Int) (mb7:I),(i3 p x (p.length+1) ((p.length:Int) - 1) I0)=(i,mb7)∧(g 6 = .int .i64 i)∧M=[⟨b7,31,cF [pI mb7]⟩,⟨b2,31,cF [pI I0]⟩,⟨b1,33,cF [pI x.n,pI x.d]⟩]) (fun K_u8 hK_u8=>?_) ?_
 ·refine go_ ?_;refine bX (rg [6] 19 22) (fun g nn M=>∃ (i:Int) (mb7:I),(i3 p x nn i mb7)=(i3 p x (p.length+1) ((p.length:Int) - 1) I0)∧(i+1).toNat<nn∧(i<(p.length:Int)∧-1≤i)∧(g 6 = .int .i64 i)∧M=[⟨b7,31,cF [pI mb7]⟩,⟨b2,31,cF [pI I0]⟩,⟨b1,33,cF [pI x.n,pI x.d]⟩]) (p.length+1) ?start ?round
  case start=>exact ⟨_,s0,((p.length:Int) - 1),I0,rfl,o1_,o1_,rfl,rfl⟩
  case round =>
   rintro nn g M ⟨i,mb7,hT0,hq0,hinv0,hg6,rfl⟩;obtain ⟨k0,rfl⟩:∃ m,nn=m+1:=⟨nn - 1,by omega⟩;refine gS1 hg6 ?_;clear hg6;refine go5 ?_;refine aH _ O (fun h13=>?_) (fun h13=>?_)
   ·have ph13:=of_decide_eq_true h13;refine go3 ?_;refine gdr (sd s0) [0,4,8,12,16,20,24,28,32,36,40,44,48,52,56,60,64,68,73] [18] mix (by kernel_rfl) (go3 ?_);refine pC (AV [pI (E (Z.mul mb7.dec x.n.dec))]) aB (cG mb7.1 x.n.1 mb7.2 x.n.2) O O O (go2 ?_);refine pQ O (aY (v':=.pointer (some (slb (.slice p_p p.length c_p) ((i.toNat)*18+0)))) (sK (e:=elI) (l:=p) (k:=(i).toNat) jB O O oo_ (SLe.sub Hp sn) o2_) O) ?_;refine pQ O (kW (e:=elI) (l:=p) (k:=(i).toNat) (o:=0) tyT O (SLe.sub Hp sn) (dS I0 o2_) O) ?_;refine go3 ?_;refine pQ O (dW jB O (SLe.sub Hp sn)) (pV (.int .i64 ((p.length:Int) - 1)) O wxo (go_ ?_));refine pV (.int .i64 (((p.length:Int) - 1) - i)) O wxo (pQ O (aY (v':=AV [pI (gO x.d (((p.length:Int) - 1) - i))]) (dF aB O (fun w hw=>tZ x.d (((p.length:Int) - 1) - i) w oo_)) O) ?_);obtain ⟨r14,hr14⟩:=nm ((E (Z.mul (p.getD (i.toNat) I0).dec (gO x.d (((p.length:Int) - 1) - i)).dec)):I);refine pC (AV [pI r14]) aB (cG (p.getD (i.toNat) I0).1 (gO x.d (((p.length:Int) - 1) - i)).1 (p.getD (i.toNat) I0).2 (gO x.d (((p.length:Int) - 1) - i)).2) O O (by subst hr14;rfl) (pC (AV [pI (E (Z.add (Z.mul mb7.dec x.n.dec) r14.dec))]) aB (lW (E (Z.mul mb7.dec x.n.dec)).1 r14.1 (E (Z.mul mb7.dec x.n.dec)).2 r14.2) O O (cg2 (fun p q=>AV [pI (E (Z.add p q))]) (eQ _) O) (go4 ?_));refine sWi (i - 1) O (go2 ?_);refine ⟨pp_,_,_,s0,(Nat.lt_succ_self _),(i - 1),(E (Z.add (Z.mul mb7.dec x.n.dec) r14.dec)),(by subst hr14;exact (hT0.symm.trans (Eq.symm (aX h13 O))).symm),(Nat.lt_of_lt_of_le o1_ (Nat.le_of_lt_succ hq0)),o1_,rfl,rfl⟩
   have ph13:=of_decide_eq_false h13;refine go_ ?_;refine hK_u8 _ _ pp_ ⟨_,s0,i,mb7,(by exact hT0.symm.trans (Eq.symm (aJ h13 O))),rfl,rfl⟩
 rintro g M ⟨i,mb7,hCu8,hg6,rfl⟩;refine gS1 hg6 ?_;clear hg6;refine go5 ?_;refine rtX O (dP O m1 tyT O) ?_;exact congrArg vS4 (show _=(dX p x) from aJ h6 (trs (Eq.symm (apS hCu8)) O))
theorem vA (vp:Value) (p:(List I)) (x:Rt) (w:World) (hp:Slr w elI vp p) (hpre:p.length≤100) :
   Calls prog 143 [vp,AV [pI x.n,pI x.d]].toArray w (fun e w'=>e = .returned (AV [cw (((bB p x).s).1),cb ((bB p x).ok)])∧Ext w w'):=by
 obtain ⟨p_p,c_p,rfl⟩:=hp.form;refine cM (N:=15) func143 O O zz_ ?_;obtain ⟨w0,rfl⟩:=nm w;have Hp:=hp.old;have hm_p:=hp.max;refine giI ?_;refine go2 ?_;intro b1 hb1;refine go_ ?_;intro b2 hb2;refine go4 ?_;refine sFc (AV [pI (dX p x)]) O (fun w hw=>zY _ p x w (aR hw Hp sn) oo_) O O (go_ ?_);intro b3 hb3;refine go7 ?_;refine aH _ O (fun h4=>?_) (fun h4=>?_)
 ·refine go5 ?_;refine rtX O (dP O m1 tyT O) ?_;exact congrArg vS8 (show _=(bB p x) from aX h4 O)
 refine go3 ?_;refine sC (.int .i64 ((Z.signW (dX p x).dec).1)) aB (fM (dX p x).1 (dX p x).2) O O O (go4 ?_);refine rtX O (dP O m1 tyT O) ?_;exact congrArg vS8 (show _=(bB p x) from aJ h4 O)
theorem tC (vl:Value) (l:(List I)) (w:World) (hl:Slr w elI vl l) :
    Calls prog 201 [vl].toArray w (fun e w'=>e = .returned (AV [pI (bM l)])∧Ext w w'):=by
 obtain ⟨p_l,c_l,rfl⟩:=hl.form;refine cM (N:=19) func201 O O zz_ ?_;obtain ⟨w0,rfl⟩:=nm w;have Hl:=hl.old;have hm_l:=hl.max;refine giI ?_;refine go2 ?_;intro b1 hb1;refine go4 ?_;intro b2 hb2;refine go6 ?_;refine gJ3 (rg [4] 6 12) (fun g M=>∃ (i:Nat) (mb2:I),(hZ l (l.length+1) 0 I0)=(i,mb2)∧(g 4 = .int .i64 (i:Int))∧M=[⟨b2,31,cF [pI mb2]⟩,⟨b1,31,cF [pI I0]⟩]) (fun K_u3 hK_u3=>?_) ?_
 ·refine go_ ?_;refine bX (rg [4] 6 12) (fun g nn M=>∃ (i:Nat) (mb2:I),(hZ l nn i mb2)=(hZ l (l.length+1) 0 I0)∧l.length - i<nn∧(i≤l.length)∧(g 4 = .int .i64 (i:Int))∧M=[⟨b2,31,cF [pI mb2]⟩,⟨b1,31,cF [pI I0]⟩]) (l.length+1) ?start ?round
  case start=>exact ⟨_,s0,0,I0,rfl,o1_,o1_,rfl,rfl⟩
  case round =>
   rintro nn g M ⟨i,mb2,hT0,hq0,hinv0,hg4,rfl⟩;obtain ⟨k0,rfl⟩:∃ m,nn=m+1:=⟨nn - 1,by omega⟩;refine gS1 hg4 ?_;clear hg4;refine go4 ?_;refine sQ (dW nX O (SLe.sub Hl sn)) O (go2 ?_);refine aH _ O (fun h6=>?_) (fun h6=>?_)
   ·have ph6:=of_decide_eq_true h6;refine go3 ?_;refine kU (sd s0) 7 [6] [6] (go3 ?_);refine pQ O (aY (v':=.pointer (some (slb (.slice p_l l.length c_l) (i*18+0)))) (kJ (e:=elI) (l:=l) (k:=i) nX O O (SLe.sub Hl sn) o2_) O) ?_;refine pQ O (kW (e:=elI) (l:=l) (k:=i) (o:=0) tyT O (SLe.sub Hl sn) (dS I0 o2_) O) ?_;refine pC (AV [pI (E (Z.gcd mb2.dec (l.getD i I0).dec))]) aB (nS mb2.1 (l.getD i I0).1 mb2.2 (l.getD i I0).2) O O O (go4 ?_);refine sWi (((i+1):Nat):Int) O (go2 ?_);refine ⟨pp_,_,_,s0,(Nat.lt_succ_self _),(i+1),(E (Z.gcd mb2.dec (l.getD i I0).dec)),(by exact (hT0.symm.trans (Eq.symm (aX h6 O))).symm),(Nat.lt_of_lt_of_le o1_ (Nat.le_of_lt_succ hq0)),o1_,rfl,rfl⟩
   have ph6:=of_decide_eq_false h6;refine go_ ?_;refine hK_u3 _ _ pp_ ⟨_,s0,i,mb2,(by exact hT0.symm.trans (Eq.symm (aJ h6 O))),rfl,rfl⟩
 rintro g M ⟨i,mb2,hCu3,hg4,rfl⟩;refine gS1 hg4 ?_;clear hg4;refine go5 ?_;refine rtX O (dP O m1 tyT O) ?_;exact congrArg vS4 (show _=(bM l) from (by unfold bM;exact trs (Eq.symm (apS hCu3)) O))
theorem sD (vp:Value) (p:(List I)) (w:World) (hp:Slr w elI vp p) (hpre:p.length≤100) :
    Calls prog 116 [vp].toArray w (fun e w'=>∃ v,e = .returned (v)∧Ext w w'∧Slo w.heap.size w' 31 elI v (dY p)):=by
 obtain ⟨p_p,c_p,rfl⟩:=hp.form;refine dD (n:=28) (fun v=>v) func116 O O zz_ ?_;obtain ⟨w0,rfl⟩:=nm w;have Hp:=hp.old;have hm_p:=hp.max;refine giI ?_;refine go6 ?_;refine sFc (.bool (bA p)) O (c1_ (eU _ p) Hp sn) O O (go_ ?_);refine aH _ O (fun h1=>?_) (fun h1=>?_)
 ·refine go_ ?_;refine aZ O (aN (E:=31) (e:=elI) (l:=F_skewbackref08_bad) (fun v=>v) aB O (fun w hw=>j2  w) (fun p2 c3 L4 hF5=>go3 ?_));refine rt1 ?_
  have hE:(F_skewbackref08_bad:(List I))=(dY p):=by exact aX h1 O
  rw [← hE];exact ⟨_,rfl,⟨L4,lZ,hF5⟩⟩
 refine go3 ?_;refine sFc (AV [pI (bM p)]) O (c1_ (tC _ p) Hp sn) O O (go_ ?_);intro b6 hb6;refine go9 ?_;refine gJ3 (rg [4,5] 11 15) (fun g M=>∃ (out:List I) (i:Nat) (p_out:Option Addr) (c_out:Nat) (L_out:List Blk),(fI p (p.length+1) ([]:List I) 0)=(out,i)∧(out.length≤200)∧(g 4 = .slice p_out out.length c_out∧g 5 = .int .i64 (i:Int)∧OwnG w0 31 elI (.slice p_out out.length c_out) out L_out)∧M=(L_out++(⟨b6,31,cF [pI (bM p)]⟩::[]))) (fun K_u7 hK_u7=>?_) ?_
 ·refine go_ ?_;refine bX (rg [4,5] 11 15) (fun g nn M=>∃ (out:List I) (i:Nat) (p_out:Option Addr) (c_out:Nat) (L_out:List Blk),(fI p nn out i)=(fI p (p.length+1) ([]:List I) 0)∧p.length - i<nn∧(i≤p.length∧out.length=i)∧(g 4 = .slice p_out out.length c_out∧g 5 = .int .i64 (i:Int)∧OwnG w0 31 elI (.slice p_out out.length c_out) out L_out)∧M=(L_out++(⟨b6,31,cF [pI (bM p)]⟩::[]))) (p.length+1) ?start ?round
  case start=>exact ⟨_,s0,([]:List I),0,none,0,[],rfl,o1_,o1_,⟨rfl,rfl,OwnG.nil⟩,rfl⟩
  case round =>
   rintro nn g M ⟨out,i,p_out,c_out,L_out,hT0,hq0,hinv0,⟨hg4,hg5,hO_out⟩,rfl⟩;obtain ⟨k0,rfl⟩:∃ m,nn=m+1:=⟨nn - 1,by omega⟩;refine gS2 hg4 hg5 ?_;clear hg4 hg5;have hm_out:=OwnG.max hO_out;refine go4 ?_;refine sQ (dW jB O (SLe.sub Hp sn)) O (go2 ?_);refine aH _ O (fun h14=>?_) (fun h14=>?_)
   ·have ph14:=of_decide_eq_true h14;refine go3 ?_;refine kU sn 10 [7,8] [8] (go3 ?_);refine pQ O (aY (v':=.pointer (some (slb (.slice p_p p.length c_p) (i*18+0)))) (kJ (e:=elI) (l:=p) (k:=i) jB O O (SLe.sub Hp sn) o2_) O) ?_;refine pQ O (kW (e:=elI) (l:=p) (k:=i) (o:=0) tyT O (SLe.sub Hp sn) (dS I0 o2_) O) ?_;refine go_ ?_;refine pC (AV [pI (E (Z.quo (p.getD i I0).dec (bM p).dec))]) aB (fC (p.getD i I0).1 (bM p).1 (p.getD i I0).2 (bM p).2) O O O (bP O O (bJ [[pI (E (Z.quo (p.getD i I0).dec (bM p).dec))]] [pI (E (Z.quo (p.getD i I0).dec (bM p).dec))] jO jP kB O dd_ O O ⟨rfl,rfl,rfl,trivial⟩ O (fun b15 hb15=>⟨(fun _=>sd s0),sn,bP O O (kQ (e:=elI) (l:=out) (m:=[(E (Z.quo (p.getD i I0).dec (bM p).dec))]) 68 jO (by kernel_rfl) dd_ O O hO_out (SLe.lit (e:=elI) (l:=[(E (Z.quo (p.getD i I0).dec (bM p).dec))]) m0 O (Nat.le_of_ble_eq_true O) O) (jY mV) (by simp only [List.length_append,List.length_cons,List.length_nil];omega) dd_ (fun p16 c17 L18 hO19=>⟨nf,sn,?_⟩))⟩)));refine go4 ?_;refine sWi (((i+1):Nat):Int) O (go2 ?_);refine ⟨pp_,_,_,(sA (sd s0)),(Nat.lt_succ_self _),(out++[(E (Z.quo (p.getD i I0).dec (bM p).dec))]),(i+1),p16,c17,L18,(by exact (hT0.symm.trans (Eq.symm (aX h14 O))).symm),(Nat.lt_of_lt_of_le o1_ (Nat.le_of_lt_succ hq0)),o1_,⟨rfl,rfl,hO19⟩,rfl⟩
   have ph14:=of_decide_eq_false h14;refine go_ ?_;refine hK_u7 _ _ pp_ ⟨_,s0,out,i,p_out,c_out,L_out,(by exact hT0.symm.trans (Eq.symm (aJ h14 O))),o1_,⟨rfl,rfl,hO_out⟩,rfl⟩
 rintro g M ⟨out,i,p_out,c_out,L_out,hCu7,hPu7,⟨hg4,hg5,hO_out⟩,rfl⟩;refine gS2 hg4 hg5 ?_;clear hg4 hg5;have hm_out:=OwnG.max hO_out;refine go2 ?_;refine aZ O (aN (E:=31) (e:=elI) (l:=(bD out)) (fun v=>v) aB O (fun w hw=>jW _ out w (aO hw hO_out lZ) oo_) (fun p20 c21 L22 hF23=>?_));have hb24:=(jV out);refine go3 ?_;refine rt1 ?_
 have hE:((bD out):(List I))=(dY p):=by exact aJ h1 (trs (Eq.symm (apS hCu7)) O)
 rw [← hE];exact ⟨_,rfl,⟨L22,lZ,hF23⟩⟩
end Go.Proofs.YtkjjponijamaoaaGreatDoor
