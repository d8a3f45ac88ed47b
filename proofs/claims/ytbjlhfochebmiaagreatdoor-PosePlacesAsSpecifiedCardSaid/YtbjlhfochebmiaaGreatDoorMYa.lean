/- Lemmas: what they ask stands in their statements. -/
import Derived.Test.YtbjlhfochebmiaaGreatDoorMQa
set_option linter.unusedSimpArgs false
set_option linter.unusedVariables false
set_option maxHeartbeats 8000000
set_option maxRecDepth 20000
namespace Go.Proofs.YtbjlhfochebmiaaGreatDoor
open Go.Kn Go.Num Tryz
attribute [local irreducible] Go.Kn.W WL PL OpQ OpR OpS
theorem EP (a:I) :
  Ret prog 137 [AV [pI a]] (AV [pI (nZ a)]):=by
 refine bA (N:=4) func137 O O zz_ (fun w0=>?_);refine giI ?_;refine go2 ?_;intro b1 hb1;refine go_ ?_;intro b2 hb2;refine go6 ?_;refine rtX O (eR O m0 tyT O) ?_;exact (by rfl)
theorem xP (a:I) :
    Ret prog 129 [AV [pI a]] (.bool (rB a)):=by
 refine bA (N:=10) func129 O O zz_ (fun w0=>?_);refine giI ?_;refine go2 ?_;intro b1 hb1;refine go2 ?_;refine gJv (rg [] 2 8) [(2,.bool (!a.1.bad&&a.1.valid))] (fun K1 J1=>?_) ?_
 ·refine go4 ?_;rcases bt a.1.bad with h3|h3
  ·refine sB (gG h3) O (go5 ?_);refine J1 _ _ pp_ s0 (bQ (yA h3))
  refine sB (gD h3) O (go_ ?_);refine sC (.bool a.1.valid) aE (vG a.1 a.2) O O O (go3 ?_);refine J1 _ _ pp_ s0 (bQ (u3 h3 O))
 intro g4;refine go_ ?_;refine rt1 ?_;exact (by rfl)
theorem tA  (w:World)  :
  Calls prog 130 [].toArray w (fun e w'=>∃ v,e = .returned (v)∧Ext w w'∧Slo w.heap.size w' 33 elI v F_poly_bad):=by
 refine eQ (n:=3) (fun v=>v) func130 O O zz_ ?_;obtain ⟨w0,rfl⟩:=nm w;refine giI ?_;obtain ⟨q0,hq0⟩:=nm ((E Z.bad):I);refine go4 ?_;refine sC (AV [pI q0]) aE gQ O O (by subst hq0;rfl) (aY O (cA [[pI q0]] [pI q0] ET mX rN O dd_ O O ⟨rfl,rfl,rfl,trivial⟩ O (fun b1 hb1=>go3 ?_)));refine rt1 ?_
 have hE:([q0]:(List I))=F_poly_bad:=by obtain rfl:=hq0.symm;exact rfl
 rw [← hE];exact ⟨_,rfl,⟨_,(sk sn),OwnG.lit (e:=elI) (l:=[q0]) (qs:=[pI q0]) hb1 O (Nat.le_of_ble_eq_true O) O⟩⟩
theorem DO (n:Int) (vf:Value) (f:Nat→I) (vo:Value) (o:I→I) (w:World) (hf:FnV prog w vf eN (fun k=>(k:Int)<n) (ZT f)) (ho:FnV prog w vo eI (fun _=>True) (ZT o)) (hpre:n≤200) :
    Calls prog 135 [.int .i64 n,vf,vo].toArray w (fun e w'=>∃ v,e = .returned (v)∧Ext w w'∧Slo w.heap.size w' 33 elI v (kM n f o)):=by
 obtain ⟨g_f,c_f,rfl,Hf⟩:=hf.open;obtain ⟨g_o,c_o,rfl,Ho⟩:=ho.open;refine eQ (n:=55) (fun v=>v) func135 O O zz_ ?_;obtain ⟨w0,rfl⟩:=nm w;refine giI ?_;refine go5 ?_;refine sQ (aM (v':=.int .i64 (n.toNat:Int)) (mW O O) (congrArg (Value.int .i64) oo_)) O (aY O (UY (E:=33) (e:=elI) (n:=0) (c:=(n).toNat) 68 I0 ET (by kernel_rfl) dd_ (by kernel_rfl) O O oo_ oo_ oo_ oo_ dd_ dd_ (fun p1 L2 hO3=>go5 ?_)));refine sQ (aM (v':=.int .i64 (n.toNat:Int)) (mW O O) (congrArg (Value.int .i64) oo_)) O (go2 ?_);refine gJ3 (rg [6,7,8,9] 15 17) (fun g M=>∃ (out:List I) (i:Nat) (p_out:Option Addr) (c_out:Nat) (L_out:List Blk),(kN n f o (n.toNat+1) ([]:List I) 0) = .inl (out,i)∧(g 7 = .slice p_out out.length c_out∧g 15 = .int .i64 (i:Int)∧OwnG w0 33 elI (.slice p_out out.length c_out) out L_out)∧M=(L_out++[])) (fun K_u4 hK_u4=>?_) ?_
 ·refine go_ ?_;refine cE (rg [6,7,8,9] 15 17) (fun g nn M=>∃ (out:List I) (i:Nat) (p_out:Option Addr) (c_out:Nat) (L_out:List Blk),(kN n f o nn out i)=(kN n f o (n.toNat+1) ([]:List I) 0)∧n.toNat - i<nn∧(i≤n.toNat∧out.length=i)∧(g 7 = .slice p_out out.length c_out∧g 15 = .int .i64 (i:Int)∧OwnG w0 33 elI (.slice p_out out.length c_out) out L_out)∧M=(L_out++[])) (n.toNat+1) ?start ?round
  case start=>exact ⟨_,s0,([]:List I),0,p1,(n.toNat),L2,rfl,o1_,⟨by omega,rfl⟩,⟨rfl,rfl,hO3⟩,rfl⟩
  case round =>
   rintro nn g M ⟨out,i,p_out,c_out,L_out,hT0,hq0,hinv0,⟨hg7,hg15,hO_out⟩,rfl⟩;obtain ⟨k0,rfl⟩:∃ m,nn=m+1:=⟨nn - 1,by omega⟩;refine gS2 hg7 hg15 ?_;clear hg7 hg15;have hm_out:=OwnG.max hO_out;refine go4 ?_;refine aL _ O (fun h29=>?_) (fun h29=>?_)
   ·have ph29:=of_decide_eq_true h29;refine wH ?_;refine sQ (aM (v':=AV [pI (f i)]) (S8 (x:=i) O O (FnE.sub Hf sn) (by show (i:Int)<n;omega)) O) O (sQ (aM (v':=AV [pI (o (f i))]) (S8 (x:=(f i)) O O (FnE.sub Ho sn) trivial) O) O (go_ ?_));intro b30 hb30;refine go5 ?_;refine sQ (aX aE (xP (o (f i))) O) O (go2 ?_);rcases bt (rB (o (f i))) with h31|h31
    ·refine W_f (gG h31) O (go4 ?_);refine aY O (cA [[pI (o (f i))]] [pI (o (f i))] ET mX rN O dd_ O O ⟨rfl,rfl,rfl,trivial⟩ O (fun b32 hb32=>aY O (kG (e:=elI) (l:=out) (m:=[(o (f i))]) 68 ET (by kernel_rfl) dd_ O O hO_out (SLe.lit (e:=elI) (l:=[(o (f i))]) m0 O (Nat.le_of_ble_eq_true O) O) (rY (rY nH)) (by show (out.length+1)*68≤_;omega) dd_ (fun p33 c34 L35 hO36=>go3 ?_))));refine sWi (((i+1):Nat):Int) O (go2 ?_);refine ⟨pp_,_,_,(sA (sd (sd s0))),(Nat.lt_succ_self _),(out++[(o (f i))]),(i+1),p33,c34,L35,(by exact (hT0.symm.trans (Eq.symm (aQ h29 (aQ h31 O)))).symm),(Nat.lt_of_lt_of_le o1_ (Nat.le_of_lt_succ hq0)),⟨by omega,(by rw [List.length_append];show _+1=_;omega)⟩,⟨rfl,rfl,hO36⟩,rfl⟩
    refine W_t (gD h31) O (go_ ?_);refine aY O (aV (E:=33) (e:=elI) (l:=F_poly_bad) (fun v=>v) aE O (fun w hw=>tA  w) (fun p37 c38 L39 hF40=>go3 ?_));refine rt1 ?_
    have hE:(F_poly_bad:(List I))=(kM n f o):=by exact (CF O (hT0.symm.trans (Eq.symm (aQ h29 (aN h31 O)))))
    rw [← hE];exact ⟨_,rfl,⟨L39,lZ,hF40⟩⟩
   have ph29:=of_decide_eq_false h29;refine go_ ?_;refine hK_u4 _ _ pp_ ⟨_,s0,out,i,p_out,c_out,L_out,(by exact hT0.symm.trans (Eq.symm (aN h29 O))),⟨rfl,rfl,hO_out⟩,rfl⟩
 rintro g M ⟨out,i,p_out,c_out,L_out,hCu4,⟨hg7,hg15,hO_out⟩,rfl⟩;refine gS2 hg7 hg15 ?_;clear hg7 hg15;have hm_out:=OwnG.max hO_out;refine rX (rg [7] 32 18) (fun g M=>∃ (cut:List I) (p_cut:Option Addr) (c_cut:Nat) (L_cut:List Blk),(kO n f o out i (out.length+1) out)=cut∧(g 7 = .slice p_cut cut.length c_cut∧OwnG w0 33 elI (.slice p_cut cut.length c_cut) cut L_cut)∧M=(L_cut++[])) (fun K_u41 hK_u41=>?_) ?_
 ·refine go_ ?_;refine cE (rg [7] 32 18) (fun g nn M=>∃ (cut:List I) (p_cut:Option Addr) (c_cut:Nat) (L_cut:List Blk),(kO n f o out i nn cut)=(kO n f o out i (out.length+1) out)∧cut.length<nn∧(True)∧(g 7 = .slice p_cut cut.length c_cut∧OwnG w0 33 elI (.slice p_cut cut.length c_cut) cut L_cut)∧M=(L_cut++[])) (out.length+1) ?start ?round
  case start=>exact ⟨_,s0,out,p_out,c_out,L_out,rfl,(Nat.lt_succ_self _),trivial,⟨rfl,hO_out⟩,rfl⟩
  case round =>
   rintro nn g M ⟨cut,p_cut,c_cut,L_cut,hT1,hq1,hinv1,⟨hg7,hO_cut⟩,rfl⟩;obtain ⟨k1,rfl⟩:∃ m,nn=m+1:=⟨nn - 1,by omega⟩;refine gS1 hg7 ?_;clear hg7;have hm_cut:=OwnG.max hO_cut;refine go_ ?_;refine gJv (rg [] 32 13) [(44,.bool (decide (0<(cut.length:Int))&&((Z.signW (cut.getD (cut.length - 1) I0).dec).1==0)))] (fun K14 J14=>?_) ?_
   ·refine go2 ?_;refine sQ (dV kI O (rO hO_cut lZ)) O (go_ ?_);refine sBB O (fun h48=>?_) (fun h48=>?_)
    ·have ph48:=of_decide_eq_true h48;refine go2 ?_;refine sQ (dV kI O (rO hO_cut lZ)) O (sWi ((cut.length:Int) - 1) O (sQ (aM (v':=.pointer (some (slb (.slice p_cut cut.length c_cut) ((cut.length - 1)*18+0)))) (zF (e:=elI) (l:=cut) (k:=(cut.length - 1)) kI O O oo_ (rO hO_cut lZ) o2_) O) O ?_));refine sQ (gE (e:=elI) (l:=cut) (k:=(cut.length - 1)) (o:=0) tyT O (rO hO_cut lZ) (bS I0 o2_) O) O ?_;refine sC (.int .i64 ((Z.signW (cut.getD (cut.length - 1) I0).dec).1)) aE (nV (cut.getD (cut.length - 1) I0).1 (cut.getD (cut.length - 1) I0).2) O O O (go3 ?_);refine J14 _ _ pp_ s0 (bQ (lS h48 O))
    have ph48:=of_decide_eq_false h48;refine jE ?_;refine J14 _ _ pp_ s0 (bQ (oY h48))
   intro g49;refine aL _ O (fun h50=>?_) (fun h50=>?_)
   ·have ph51:=of_decide_eq_true (Bool.and_eq_true_iff.1 h50).1;refine go5 ?_;refine sQ (dV kI O (rO hO_cut lZ)) O (sWi ((cut.length:Int) - 1) O (sQ (UU (e:=elI) (l:=cut) (k:=(cut.length - 1)) kI O O oo_ hO_cut oo_) O (go2 ?_)));refine ⟨pp_,_,_,s0,(Nat.lt_succ_self _),(cut.take (cut.length - 1)),p_cut,c_cut,L_cut,(by exact (hT1.symm.trans (Eq.symm (aQ h50 O))).symm),(Nat.lt_of_lt_of_le (by rw [List.length_take];omega) (Nat.le_of_lt_succ hq1)),trivial,⟨rfl,(OwnG.take hO_cut oo_)⟩,rfl⟩
   refine go_ ?_;refine hK_u41 _ _ pp_ ⟨_,s0,cut,p_cut,c_cut,L_cut,(by exact hT1.symm.trans (Eq.symm (aN h50 O))),⟨rfl,hO_cut⟩,rfl⟩
 rintro g M ⟨cut,p_cut,c_cut,L_cut,hCu41,⟨hg7,hO_cut⟩,rfl⟩;refine gS1 hg7 ?_;clear hg7;have hm_cut:=OwnG.max hO_cut;refine go3 ?_;refine sQ (dV kI O (rO hO_cut lZ)) O (go2 ?_);refine aL _ O (fun h52=>?_) (fun h52=>?_)
 ·have ph52:=of_decide_eq_true h52;refine go_ ?_;refine aY O (aV (E:=33) (e:=elI) (l:=F_poly_bad) (fun v=>v) aE O (fun w hw=>tA  w) (fun p53 c54 L55 hF56=>go3 ?_));refine rt1 ?_
  have hE:(F_poly_bad:(List I))=(kM n f o):=by exact trs (Eq.symm (smS hCu4)) (trs (Eq.symm (apS hCu41)) (aQ h52 O))
  rw [← hE];exact ⟨_,rfl,⟨L55,lZ,hF56⟩⟩
 have ph52:=of_decide_eq_false h52;refine go6 ?_;refine rt1 ?_
 have hE:(cut:(List I))=(kM n f o):=by exact trs (Eq.symm (smS hCu4)) (trs (Eq.symm (apS hCu41)) (aN h52 O))
 rw [← hE];exact ⟨_,rfl,⟨L_cut,lZ,hO_cut⟩⟩
theorem HV (n:Int) (vf:Value) (f:Nat→Go.Num.W) (vo:Value) (o:Go.Num.W→I) (w:World) (hf:FnV prog w vf eN (fun k=>(k:Int)<n) (gk_ f)) (ho:FnV prog w vo eW (fun _=>True) (ZT o)) (hpre:n≤200) :
    Calls prog 138 [.int .i64 n,vf,vo].toArray w (fun e w'=>∃ v,e = .returned (v)∧Ext w w'∧Slo w.heap.size w' 33 elI v (oF n f o)):=by
 obtain ⟨g_f,c_f,rfl,Hf⟩:=hf.open;obtain ⟨g_o,c_o,rfl,Ho⟩:=ho.open;refine eQ (n:=55) (fun v=>v) func138 O O zz_ ?_;obtain ⟨w0,rfl⟩:=nm w;refine giI ?_;refine go5 ?_;refine sQ (aM (v':=.int .i64 (n.toNat:Int)) (mW O O) (congrArg (Value.int .i64) oo_)) O (aY O (UY (E:=33) (e:=elI) (n:=0) (c:=(n).toNat) 68 I0 ET (by kernel_rfl) dd_ (by kernel_rfl) O O oo_ oo_ oo_ oo_ dd_ dd_ (fun p1 L2 hO3=>go5 ?_)));refine sQ (aM (v':=.int .i64 (n.toNat:Int)) (mW O O) (congrArg (Value.int .i64) oo_)) O (go2 ?_);refine gJ3 (rg [6,7,8,9] 15 17) (fun g M=>∃ (out:List I) (i:Nat) (p_out:Option Addr) (c_out:Nat) (L_out:List Blk),(l8 n f o (n.toNat+1) ([]:List I) 0) = .inl (out,i)∧(g 7 = .slice p_out out.length c_out∧g 15 = .int .i64 (i:Int)∧OwnG w0 33 elI (.slice p_out out.length c_out) out L_out)∧M=(L_out++[])) (fun K_u4 hK_u4=>?_) ?_
 ·refine go_ ?_;refine cE (rg [6,7,8,9] 15 17) (fun g nn M=>∃ (out:List I) (i:Nat) (p_out:Option Addr) (c_out:Nat) (L_out:List Blk),(l8 n f o nn out i)=(l8 n f o (n.toNat+1) ([]:List I) 0)∧n.toNat - i<nn∧(i≤n.toNat∧out.length=i)∧(g 7 = .slice p_out out.length c_out∧g 15 = .int .i64 (i:Int)∧OwnG w0 33 elI (.slice p_out out.length c_out) out L_out)∧M=(L_out++[])) (n.toNat+1) ?start ?round
  case start=>exact ⟨_,s0,([]:List I),0,p1,(n.toNat),L2,rfl,o1_,⟨by omega,rfl⟩,⟨rfl,rfl,hO3⟩,rfl⟩
  case round =>
   rintro nn g M ⟨out,i,p_out,c_out,L_out,hT0,hq0,hinv0,⟨hg7,hg15,hO_out⟩,rfl⟩;obtain ⟨k0,rfl⟩:∃ m,nn=m+1:=⟨nn - 1,by omega⟩;refine gS2 hg7 hg15 ?_;clear hg7 hg15;have hm_out:=OwnG.max hO_out;refine go4 ?_;refine aL _ O (fun h29=>?_) (fun h29=>?_)
   ·have ph29:=of_decide_eq_true h29;refine wH ?_;refine sQ (aM (v':=.int .i64 ((f i).1)) (S8 (x:=i) O O (FnE.sub Hf sn) (by show (i:Int)<n;omega)) O) O (sQ (aM (v':=AV [pI (o (f i))]) (S8 (x:=(f i)) O O (FnE.sub Ho sn) trivial) O) O (go_ ?_));intro b30 hb30;refine go5 ?_;refine sQ (aX aE (xP (o (f i))) O) O (go2 ?_);rcases bt (rB (o (f i))) with h31|h31
    ·refine W_f (gG h31) O (go4 ?_);refine aY O (cA [[pI (o (f i))]] [pI (o (f i))] ET mX rN O dd_ O O ⟨rfl,rfl,rfl,trivial⟩ O (fun b32 hb32=>aY O (kG (e:=elI) (l:=out) (m:=[(o (f i))]) 68 ET (by kernel_rfl) dd_ O O hO_out (SLe.lit (e:=elI) (l:=[(o (f i))]) m0 O (Nat.le_of_ble_eq_true O) O) (rY (rY nH)) (by show (out.length+1)*68≤_;omega) dd_ (fun p33 c34 L35 hO36=>go3 ?_))));refine sWi (((i+1):Nat):Int) O (go2 ?_);refine ⟨pp_,_,_,(sA (sd (sd s0))),(Nat.lt_succ_self _),(out++[(o (f i))]),(i+1),p33,c34,L35,(by exact (hT0.symm.trans (Eq.symm (aQ h29 (aQ h31 O)))).symm),(Nat.lt_of_lt_of_le o1_ (Nat.le_of_lt_succ hq0)),⟨by omega,(by rw [List.length_append];show _+1=_;omega)⟩,⟨rfl,rfl,hO36⟩,rfl⟩
    refine W_t (gD h31) O (go_ ?_);refine aY O (aV (E:=33) (e:=elI) (l:=F_poly_bad) (fun v=>v) aE O (fun w hw=>tA  w) (fun p37 c38 L39 hF40=>go3 ?_));refine rt1 ?_
    have hE:(F_poly_bad:(List I))=(oF n f o):=by exact (CF O (hT0.symm.trans (Eq.symm (aQ h29 (aN h31 O)))))
    rw [← hE];exact ⟨_,rfl,⟨L39,lZ,hF40⟩⟩
   have ph29:=of_decide_eq_false h29;refine go_ ?_;refine hK_u4 _ _ pp_ ⟨_,s0,out,i,p_out,c_out,L_out,(by exact hT0.symm.trans (Eq.symm (aN h29 O))),⟨rfl,rfl,hO_out⟩,rfl⟩
 rintro g M ⟨out,i,p_out,c_out,L_out,hCu4,⟨hg7,hg15,hO_out⟩,rfl⟩;refine gS2 hg7 hg15 ?_;clear hg7 hg15;have hm_out:=OwnG.max hO_out;refine rX (rg [7] 32 18) (fun g M=>∃ (cut:List I) (p_cut:Option Addr) (c_cut:Nat) (L_cut:List Blk),(l9 n f o out i (out.length+1) out)=cut∧(g 7 = .slice p_cut cut.length c_cut∧OwnG w0 33 elI (.slice p_cut cut.length c_cut) cut L_cut)∧M=(L_cut++[])) (fun K_u41 hK_u41=>?_) ?_
 ·refine go_ ?_;refine cE (rg [7] 32 18) (fun g nn M=>∃ (cut:List I) (p_cut:Option Addr) (c_cut:Nat) (L_cut:List Blk),(l9 n f o out i nn cut)=(l9 n f o out i (out.length+1) out)∧cut.length<nn∧(True)∧(g 7 = .slice p_cut cut.length c_cut∧OwnG w0 33 elI (.slice p_cut cut.length c_cut) cut L_cut)∧M=(L_cut++[])) (out.length+1) ?start ?round
  case start=>exact ⟨_,s0,out,p_out,c_out,L_out,rfl,(Nat.lt_succ_self _),trivial,⟨rfl,hO_out⟩,rfl⟩
  case round =>
   rintro nn g M ⟨cut,p_cut,c_cut,L_cut,hT1,hq1,hinv1,⟨hg7,hO_cut⟩,rfl⟩;obtain ⟨k1,rfl⟩:∃ m,nn=m+1:=⟨nn - 1,by omega⟩;refine gS1 hg7 ?_;clear hg7;have hm_cut:=OwnG.max hO_cut;refine go_ ?_;refine gJv (rg [] 32 13) [(44,.bool (decide (0<(cut.length:Int))&&((Z.signW (cut.getD (cut.length - 1) I0).dec).1==0)))] (fun K14 J14=>?_) ?_
   ·refine go2 ?_;refine sQ (dV kI O (rO hO_cut lZ)) O (go_ ?_);refine sBB O (fun h48=>?_) (fun h48=>?_)
    ·have ph48:=of_decide_eq_true h48;refine go2 ?_;refine sQ (dV kI O (rO hO_cut lZ)) O (sWi ((cut.length:Int) - 1) O (sQ (aM (v':=.pointer (some (slb (.slice p_cut cut.length c_cut) ((cut.length - 1)*18+0)))) (zF (e:=elI) (l:=cut) (k:=(cut.length - 1)) kI O O oo_ (rO hO_cut lZ) o2_) O) O ?_));refine sQ (gE (e:=elI) (l:=cut) (k:=(cut.length - 1)) (o:=0) tyT O (rO hO_cut lZ) (bS I0 o2_) O) O ?_;refine sC (.int .i64 ((Z.signW (cut.getD (cut.length - 1) I0).dec).1)) aE (nV (cut.getD (cut.length - 1) I0).1 (cut.getD (cut.length - 1) I0).2) O O O (go3 ?_);refine J14 _ _ pp_ s0 (bQ (lS h48 O))
    have ph48:=of_decide_eq_false h48;refine jE ?_;refine J14 _ _ pp_ s0 (bQ (oY h48))
   intro g49;refine aL _ O (fun h50=>?_) (fun h50=>?_)
   ·have ph51:=of_decide_eq_true (Bool.and_eq_true_iff.1 h50).1;refine go5 ?_;refine sQ (dV kI O (rO hO_cut lZ)) O (sWi ((cut.length:Int) - 1) O (sQ (UU (e:=elI) (l:=cut) (k:=(cut.length - 1)) kI O O oo_ hO_cut oo_) O (go2 ?_)));refine ⟨pp_,_,_,s0,(Nat.lt_succ_self _),(cut.take (cut.length - 1)),p_cut,c_cut,L_cut,(by exact (hT1.symm.trans (Eq.symm (aQ h50 O))).symm),(Nat.lt_of_lt_of_le (by rw [List.length_take];omega) (Nat.le_of_lt_succ hq1)),trivial,⟨rfl,(OwnG.take hO_cut oo_)⟩,rfl⟩
   refine go_ ?_;refine hK_u41 _ _ pp_ ⟨_,s0,cut,p_cut,c_cut,L_cut,(by exact hT1.symm.trans (Eq.symm (aN h50 O))),⟨rfl,hO_cut⟩,rfl⟩
 rintro g M ⟨cut,p_cut,c_cut,L_cut,hCu41,⟨hg7,hO_cut⟩,rfl⟩;refine gS1 hg7 ?_;clear hg7;have hm_cut:=OwnG.max hO_cut;refine go3 ?_;refine sQ (dV kI O (rO hO_cut lZ)) O (go2 ?_);refine aL _ O (fun h52=>?_) (fun h52=>?_)
 ·have ph52:=of_decide_eq_true h52;refine go_ ?_;refine aY O (aV (E:=33) (e:=elI) (l:=F_poly_bad) (fun v=>v) aE O (fun w hw=>tA  w) (fun p53 c54 L55 hF56=>go3 ?_));refine rt1 ?_
  have hE:(F_poly_bad:(List I))=(oF n f o):=by exact trs (Eq.symm (smS hCu4)) (trs (Eq.symm (apS hCu41)) (aQ h52 O))
  rw [← hE];exact ⟨_,rfl,⟨L55,lZ,hF56⟩⟩
 have ph52:=of_decide_eq_false h52;refine go6 ?_;refine rt1 ?_
 have hE:(cut:(List I))=(oF n f o):=by exact trs (Eq.symm (smS hCu4)) (trs (Eq.symm (apS hCu41)) (aN h52 O))
 rw [← hE];exact ⟨_,rfl,⟨L_cut,lZ,hO_cut⟩⟩
theorem LK (vl:Value) (l:(List I)) (vf:Value) (f:I→Bool) (w:World) (hl:Slr w elI vl l) (hf:FnV prog w vf eI (fun _=>True) (bz_ f)) :
    Calls prog 228 [vl,vf].toArray w (fun e w'=>e = .returned (.int .i64 ((vK l f).1))∧Ext w w'):=by
 obtain ⟨p_l,c_l,rfl⟩:=hl.form;obtain ⟨g_f,c_f,rfl,Hf⟩:=hf.open;refine dL (N:=19) func228 O O zz_ ?_;obtain ⟨w0,rfl⟩:=nm w;have Hl:=hl.old;have hm_l:=hl.max;refine giI ?_;refine go6 ?_;refine sQ (dV kI O (SLe.sub Hl sn)) O (go2 ?_);refine gJ3 (rg [4,5] 8 11) (fun g M=>∃ (i:Nat),(mF l f (l.length+1) 0) = .inl i∧(g 8 = .int .i64 (i:Int))∧M=[]) (fun K_u1 hK_u1=>?_) ?_
 ·refine go_ ?_;refine cE (rg [4,5] 8 11) (fun g nn M=>∃ (i:Nat),(mF l f nn i)=(mF l f (l.length+1) 0)∧l.length - i<nn∧(i≤l.length)∧(g 8 = .int .i64 (i:Int))∧M=[]) (l.length+1) ?start ?round
  case start=>exact ⟨_,s0,0,rfl,o1_,o1_,rfl,rfl⟩
  case round =>
   rintro nn g M ⟨i,hT0,hq0,hinv0,hg8,rfl⟩;obtain ⟨k0,rfl⟩:∃ m,nn=m+1:=⟨nn - 1,by omega⟩;refine gS1 hg8 ?_;clear hg8;refine go4 ?_;refine aL _ O (fun h6=>?_) (fun h6=>?_)
   ·have ph6:=of_decide_eq_true h6;refine wH ?_;refine sQ (aM (v':=.pointer (some (slb (.slice p_l l.length c_l) (i*18+0)))) (eD (e:=elI) (l:=l) (k:=i) kI O O (SLe.sub Hl sn) o2_) O) O ?_;refine sQ (gE (e:=elI) (l:=l) (k:=i) (o:=0) tyT O (SLe.sub Hl sn) (bS I0 o2_) O) O ?_;refine sQ (aM (v':=.bool (f (l.getD i I0))) (S8 (x:=(l.getD i I0)) O O (FnE.sub Hf sn) trivial) O) O (go_ ?_);refine aL _ O (fun h7=>?_) (fun h7=>?_)
    ·refine go5 ?_;refine rt1 ?_;refine (show (.int .i64 (i:Int):Value) = .int .i64 ((W.cv (i:Int)).1) by simp only [cvE (t:=(i:Int)) oo_]).trans ?_;exact congrArg vS7 (show _=(vK l f) from (CF O (hT0.symm.trans (Eq.symm (aQ h6 (aQ h7 O))))))
    refine go2 ?_;refine sWi (((i+1):Nat):Int) O (go2 ?_);refine ⟨pp_,_,_,s0,(Nat.lt_succ_self _),(i+1),(by exact (hT0.symm.trans (Eq.symm (aQ h6 (aN h7 O)))).symm),(Nat.lt_of_lt_of_le o1_ (Nat.le_of_lt_succ hq0)),o1_,rfl,rfl⟩
   have ph6:=of_decide_eq_false h6;refine go_ ?_;refine hK_u1 _ _ pp_ ⟨_,s0,i,(by exact hT0.symm.trans (Eq.symm (aN h6 O))),rfl,rfl⟩
 rintro g M ⟨i,hCu1,hg8,rfl⟩;refine gS1 hg8 ?_;clear hg8;refine go4 ?_;refine rt1 ?_;exact congrArg vS7 (show _=(vK l f) from trs (Eq.symm (smS hCu1)) O)
theorem GN (vl:Value) (l:(List I)) (vf:Value) (f:I→Bool) (w:World) (hl:Slr w elI vl l) (hf:FnV prog w vf eI (fun _=>True) (bz_ f)) :
  Calls prog 198 [vl,vf].toArray w (fun e w'=>e = .returned (.bool (tR l f))∧Ext w w'):=by
 obtain ⟨p_l,c_l,rfl⟩:=hl.form;obtain ⟨g_f,c_f,rfl,Hf⟩:=hf.open;refine dL (N:=9) func198 O O zz_ ?_;obtain ⟨w0,rfl⟩:=nm w;have Hl:=hl.old;have hm_l:=hl.max;refine giI ?_;refine go6 ?_;refine sFc (.int .i64 ((vK l f).1)) O (fun w hw=>LK _ l _ f w (aR hw Hl sn) (FnE.ap hw (FnE.sub Hf sn))) O O (go4 ?_);refine rt1 ?_;exact (by rfl)
theorem GT (a:I) :
  Ret prog 199 [AV [pI a]] (.bool (v7 a)):=by
 refine bA (N:=6) func199 O O zz_ (fun w0=>?_);refine giI ?_;refine go2 ?_;intro b1 hb1;refine go4 ?_;refine sQ (aX aE (xP a) O) O (go4 ?_);refine rt1 ?_;exact (by rfl)
theorem uB (vp:Value) (p:(List I)) (w:World) (hp:Slr w elI vp p) :
  Calls prog 134 [vp].toArray w (fun e w'=>e = .returned (.bool (gY p))∧Ext w w'):=by
 obtain ⟨p_p,c_p,rfl⟩:=hp.form;refine dL (N:=5) func134 O O zz_ ?_;obtain ⟨w0,rfl⟩:=nm w;have Hp:=hp.old;have hm_p:=hp.max;refine giI ?_;refine go5 ?_;refine sFc (.bool (tR p (fun (y:I)=>(v7 y)))) O (fun w hw=>GN _ p _ (fun (y:I)=>(v7 y)) w (aR hw Hp sn) (FnV.mk hw aE (fun w hw x hx=>(GT x) w))) O O (go3 ?_);refine rt1 ?_;exact (by rfl)
theorem JI (vl:Value) (l:(List Rt)) (vf:Value) (f:Rt→Bool) (w:World) (hl:Slr w VX vl l) (hf:FnV prog w vf eRt (fun _=>True) (bz_ f)) :
    Calls prog 232 [vl,vf].toArray w (fun e w'=>e = .returned (.int .i64 ((uK l f).1))∧Ext w w'):=by
 obtain ⟨p_l,c_l,rfl⟩:=hl.form;obtain ⟨g_f,c_f,rfl,Hf⟩:=hf.open;refine dL (N:=19) func232 O O zz_ ?_;obtain ⟨w0,rfl⟩:=nm w;have Hl:=hl.old;have hm_l:=hl.max;refine giI ?_;refine go6 ?_;refine sQ (dV am_ O (SLe.sub Hl sn)) O (go2 ?_);refine gJ3 (rg [4,5] 8 11) (fun g M=>∃ (i:Nat),(oB l f (l.length+1) 0) = .inl i∧(g 8 = .int .i64 (i:Int))∧M=[]) (fun K_u1 hK_u1=>?_) ?_
 ·refine go_ ?_;refine cE (rg [4,5] 8 11) (fun g nn M=>∃ (i:Nat),(oB l f nn i)=(oB l f (l.length+1) 0)∧l.length - i<nn∧(i≤l.length)∧(g 8 = .int .i64 (i:Int))∧M=[]) (l.length+1) ?start ?round
  case start=>exact ⟨_,s0,0,rfl,o1_,o1_,rfl,rfl⟩
  case round =>
   rintro nn g M ⟨i,hT0,hq0,hinv0,hg8,rfl⟩;obtain ⟨k0,rfl⟩:∃ m,nn=m+1:=⟨nn - 1,by omega⟩;refine gS1 hg8 ?_;clear hg8;refine go4 ?_;refine aL _ O (fun h6=>?_) (fun h6=>?_)
   ·have ph6:=of_decide_eq_true h6;refine wH ?_;refine sQ (aM (v':=.pointer (some (slb (.slice p_l l.length c_l) (i*36+0)))) (eD (e:=VX) (l:=l) (k:=i) am_ O O (SLe.sub Hl sn) o2_) O) O ?_;refine sQ (gE (e:=VX) (l:=l) (k:=i) (o:=0) tyT O (SLe.sub Hl sn) (bS Rt0 o2_) O) O ?_;refine sQ (aM (v':=.bool (f (l.getD i Rt0))) (S8 (x:=(l.getD i Rt0)) O O (FnE.sub Hf sn) trivial) O) O (go_ ?_);refine aL _ O (fun h7=>?_) (fun h7=>?_)
    ·refine go5 ?_;refine rt1 ?_;refine (show (.int .i64 (i:Int):Value) = .int .i64 ((W.cv (i:Int)).1) by simp only [cvE (t:=(i:Int)) oo_]).trans ?_;exact congrArg vS7 (show _=(uK l f) from (CF O (hT0.symm.trans (Eq.symm (aQ h6 (aQ h7 O))))))
    refine go2 ?_;refine sWi (((i+1):Nat):Int) O (go2 ?_);refine ⟨pp_,_,_,s0,(Nat.lt_succ_self _),(i+1),(by exact (hT0.symm.trans (Eq.symm (aQ h6 (aN h7 O)))).symm),(Nat.lt_of_lt_of_le o1_ (Nat.le_of_lt_succ hq0)),o1_,rfl,rfl⟩
   have ph6:=of_decide_eq_false h6;refine go_ ?_;refine hK_u1 _ _ pp_ ⟨_,s0,i,(by exact hT0.symm.trans (Eq.symm (aN h6 O))),rfl,rfl⟩
 rintro g M ⟨i,hCu1,hg8,rfl⟩;refine gS1 hg8 ?_;clear hg8;refine go4 ?_;refine rt1 ?_;exact congrArg vS7 (show _=(uK l f) from trs (Eq.symm (smS hCu1)) O)
theorem FJ (vl:Value) (l:(List Rt)) (vf:Value) (f:Rt→Bool) (w:World) (hl:Slr w VX vl l) (hf:FnV prog w vf eRt (fun _=>True) (bz_ f)) :
  Calls prog 212 [vl,vf].toArray w (fun e w'=>e = .returned (.bool (vC l f))∧Ext w w'):=by
 obtain ⟨p_l,c_l,rfl⟩:=hl.form;obtain ⟨g_f,c_f,rfl,Hf⟩:=hf.open;refine dL (N:=9) func212 O O zz_ ?_;obtain ⟨w0,rfl⟩:=nm w;have Hl:=hl.old;have hm_l:=hl.max;refine giI ?_;refine go6 ?_;refine sFc (.int .i64 ((uK l f).1)) O (fun w hw=>JI _ l _ f w (aR hw Hl sn) (FnE.ap hw (FnE.sub Hf sn))) O O (go4 ?_);refine rt1 ?_;exact (by rfl)
theorem HX (a:Rt) :
  Ret prog 213 [AV [pI a.n,pI a.d]] (.bool (rJ a)):=by
 refine bA (N:=6) func213 O O zz_ (fun w0=>?_);refine giI ?_;refine go2 ?_;intro b1 hb1;refine go4 ?_;refine sQ (aX aE (oU a) O) O (go4 ?_);refine rt1 ?_;exact (by rfl)
theorem LN (vl:Value) (l:(List Rt)) (w:World) (hl:Slr w VX vl l) :
  Calls prog 185 [vl].toArray w (fun e w'=>e = .returned (.bool (vL l))∧Ext w w'):=by
 obtain ⟨p_l,c_l,rfl⟩:=hl.form;refine dL (N:=6) func185 O O zz_ ?_;obtain ⟨w0,rfl⟩:=nm w;have Hl:=hl.old;have hm_l:=hl.max;refine giI ?_;refine go5 ?_;refine sFc (.bool (vC l (fun (y:Rt)=>(rJ y)))) O (fun w hw=>FJ _ l _ (fun (y:Rt)=>(rJ y)) w (aR hw Hl sn) (FnV.mk hw aE (fun w hw x hx=>(HX x) w))) O O (go4 ?_);refine rt1 ?_;exact (by rfl)
theorem LM (k:Nat) (c0 T0:Nat) (p_l:Option Addr) (c_l:Nat) (l:(List W)) (w:World) (hc0:w.heap[c0]? = some (.cells (bB [csl p_l l.length c_l]).toArray T0 (0,0))) (hl:Slr w elW (.slice p_l l.length c_l) l) (hpre:k<l.length) :
  Calls prog 139 [.int .i64 (k:Int),.pointer (some ⟨c0,0,none⟩)].toArray w (fun e w'=>e = .returned (.int .i64 ((xW k l).1))∧Ext w w'):=by
 refine dL (N:=8) func139 O O zz_ ?_;obtain ⟨w0,rfl⟩:=nm w;have Hl:=hl.old;have hm_l:=hl.max;refine giI ?_;refine go4 ?_;refine sQ (nC (v:=.slice p_l l.length c_l) tyT O hc0 zz_ O) O ?_;refine go_ ?_;refine sQ (aM (v':=.pointer (some (slb (.slice p_l l.length c_l) (k*1+0)))) (eD (e:=elW) (l:=l) (k:=k) j7 O O (SLe.sub Hl sn) o2_) O) O ?_;refine sQ (wO (u:=.int .i64 ((l.getD k W.z).1)) (e:=elW) (l:=l) (k:=k) (o:=0) tyT O (SLe.sub Hl sn) (bS W.z o2_) O) O ?_;refine go3 ?_;refine rt1 ?_;exact (by rfl)
theorem oP (vl:Value) (l:(List W)) (w:World) (hl:Slr w elW vl l) (hpre:l.length≤200) :
  Calls prog 68 [vl].toArray w (fun e w'=>∃ v,e = .returned (v)∧Ext w w'∧Slo w.heap.size w' 33 elI v (dN l)):=by
 obtain ⟨p_l,c_l,rfl⟩:=hl.form;refine eQ (n:=7) (fun v=>v) func68 O O zz_ ?_;obtain ⟨w0,rfl⟩:=nm w;have Hl:=hl.old;have hm_l:=hl.max;refine giI ?_;refine go2 ?_;intro b1 hb1;refine go4 ?_;refine sQ (dV j7 O (SLe.sub Hl sn)) O (sQ (JZ O O) O (aY O (aV (E:=33) (e:=elI) (l:=(oF (l.length:Int) (fun (y:Nat)=>(xW y l)) (fun (y:Go.Num.W)=>(E (Z.of y.1))))) (fun v=>v) aE O (fun w hw=>HV (l.length:Int) _ (fun (y:Nat)=>(xW y l)) _ (fun (y:Go.Num.W)=>(E (Z.of y.1))) w (FnV.mk hw aE (fun w hw x hx=>LM x _ _ _ _ l w (hw.mem _ m0) (aR hw Hl sn) (Int.ofNat_lt.1 hx))) (FnV.mk hw aE (fun w hw x hx=>(fB x.1 x.2) w)) oo_) (fun p2 c3 L4 hF5=>go3 ?_))));refine rt1 ?_
 have hE:((oF (l.length:Int) (fun (y:Nat)=>(xW y l)) (fun (y:Go.Num.W)=>(E (Z.of y.1)))):(List I))=(dN l):=by exact rfl
 rw [← hE];exact ⟨_,rfl,⟨L4,lZ,hF5⟩⟩
theorem HE (vp:Value) (p:(List I)) (k:Int) (w:World) (hp:Slr w elI vp p) :
    Calls prog 197 [vp,.int .i64 k].toArray w (fun e w'=>e = .returned (AV [pI (nX p k)])∧Ext w w'):=by
 obtain ⟨p_p,c_p,rfl⟩:=hp.form;refine dL (N:=18) func197 O O zz_ ?_;obtain ⟨w0,rfl⟩:=nm w;have Hp:=hp.old;have hm_p:=hp.max;refine giI ?_;refine go2 ?_;intro b1 hb1;refine go2 ?_;refine gJv (rg [] 5 8) [(12,.bool (decide (k<0)||decide ((p.length:Int)≤k)))] (fun K2 J2=>?_) ?_
 ·refine go3 ?_;refine sBB O (fun h3=>?_) (fun h3=>?_)
  ·have ph3:=of_decide_eq_true h3;refine go6 ?_;refine J2 _ _ pp_ s0 (bQ (o9 h3))
  have ph3:=of_decide_eq_false h3;refine go2 ?_;refine sQ (dV kI O (SLe.sub Hp sn)) O (go3 ?_);refine J2 _ _ pp_ s0 (bQ (nA h3 O))
 intro g4;refine aL _ O (fun h5=>?_) (fun h5=>?_)
 ·refine go5 ?_;refine rtX O (eR O m0 tyT O) ?_;exact congrArg vS4 (show _=(nX p k) from aQ h5 O)
 have ph6:=of_decide_eq_false (Bool.or_eq_false_iff.1 h5).1;have ph7:=of_decide_eq_false (Bool.or_eq_false_iff.1 h5).2;refine go4 ?_;refine sQ (aM (v':=.pointer (some (slb (.slice p_p p.length c_p) ((k.toNat)*18+0)))) (zF (e:=elI) (l:=p) (k:=(k).toNat) kI O O oo_ (SLe.sub Hp sn) o2_) O) O ?_;refine sQ (gE (e:=elI) (l:=p) (k:=(k).toNat) (o:=0) tyT O (SLe.sub Hp sn) (bS I0 o2_) O) O ?_;refine go3 ?_;refine rtX O (eR O m0 tyT O) ?_;exact congrArg vS4 (show _=(nX p k) from aN h5 O)
theorem HW (k:Nat) (c0 T0:Nat) (g_f:Nat) (c_f:List Value) (f:I→I→I) (c1 T1:Nat) (p_p:Option Addr) (c_p:Nat) (p:(List I)) (c2 T2:Nat) (p_q:Option Addr) (c_q:Nat) (q:(List I)) (w:World) (hc0:w.heap[c0]? = some (.cells (bB [cfn g_f c_f]).toArray T0 (0,0))) (hc1:w.heap[c1]? = some (.cells (bB [csl p_p p.length c_p]).toArray T1 (0,0))) (hc2:w.heap[c2]? = some (.cells (bB [csl p_q q.length c_q]).toArray T2 (0,0))) (hf:FnV prog w (.func (.func g_f) #[] c_f.toArray) eII (fun _=>True) (ZT (fun x:I×I=>f x.1 x.2))) (hp:Slr w elI (.slice p_p p.length c_p) p) (hq:Slr w elI (.slice p_q q.length c_q) q) :
  Calls prog 196 [.int .i64 (k:Int),.pointer (some ⟨c0,0,none⟩),.pointer (some ⟨c1,0,none⟩),.pointer (some ⟨c2,0,none⟩)].toArray w (fun e w'=>e = .returned (AV [pI (tH k f p q)])∧Ext w w'):=by
 refine dL (N:=14) func196 O O zz_ ?_;obtain ⟨w0,rfl⟩:=nm w;have Hf:=hf.get;have Hp:=hp.old;have hm_p:=hp.max;have Hq:=hq.old;have hm_q:=hq.max;refine giI ?_;refine go2 ?_;intro b1 hb1;refine go_ ?_;refine mS sn 9 [8] [8] (pQ O (nC (v:=.func (.func g_f) #[] c_f.toArray) tyT O hc0 zz_ O) ?_);refine pQ O (nC (v:=.slice p_p p.length c_p) tyT O hc1 zz_ O) ?_;refine go_ ?_;refine pQ O (aM (v':=AV [pI (nX p (k:Int))]) (dF aE O (c1_ (HE _ p (k:Int)) Hp sn)) O) (pQ O (nC (v:=.slice p_q q.length c_q) tyT O hc2 zz_ O) ?_);refine go_ ?_;refine pQ O (aM (v':=AV [pI (nX q (k:Int))]) (dF aE O (c1_ (HE _ q (k:Int)) Hq sn)) O) (pQ O (aM (v':=AV [pI (f (nX p (k:Int)) (nX q (k:Int)))]) (S8 (x:=((nX p (k:Int)),(nX q (k:Int)))) O O (FnE.sub Hf sn) trivial) O) (go3 ?_));refine rtX O (eR O m0 tyT O) ?_;exact (by rfl)
theorem AB (vp:Value) (p:(List I)) (vq:Value) (q:(List I)) (vf:Value) (f:I→I→I) (w:World) (hp:Slr w elI vp p) (hq:Slr w elI vq q) (hf:FnV prog w vf eII (fun _=>True) (ZT (fun x:I×I=>f x.1 x.2))) (hpre:p.length≤100∧q.length≤100) :
    Calls prog 131 [vp,vq,vf].toArray w (fun e w'=>∃ v,e = .returned (v)∧Ext w w'∧Slo w.heap.size w' 33 elI v (k8 p q f)):=by
 obtain ⟨p_p,c_p,rfl⟩:=hp.form;obtain ⟨p_q,c_q,rfl⟩:=hq.form;obtain ⟨g_f,c_f,rfl,Hf⟩:=hf.open;refine eQ (n:=21) (fun v=>v) func131 O O zz_ ?_;obtain ⟨w0,rfl⟩:=nm w;have Hp:=hp.old;have hm_p:=hp.max;have Hq:=hq.old;have hm_q:=hq.max;refine giI ?_;refine go2 ?_;intro b1 hb1;refine go_ ?_;intro b2 hb2;refine sX [cfn g_f c_f] O O O fun b3 hb3=>go3 ?_;refine gJv [7,8,9,10,11,12] [(12,.bool ((gY p)||(gY q)))] (fun K2 J2=>?_) ?_
 ·refine go2 ?_;refine sFc (.bool (gY p)) O (c1_ (uB _ p) Hp sn) O O ?_;refine sBB O (fun h5=>?_) (fun h5=>?_)
  ·refine go4 ?_;refine J2 _ _ pp_ s0 (bQ (o9 h5))
  refine go_ ?_;refine sFc (.bool (gY q)) O (c1_ (uB _ q) Hq sn) O O (go2 ?_);refine J2 _ _ pp_ s0 (bQ (nA h5 O))
 intro g6;refine aL _ O (fun h7=>?_) (fun h7=>?_)
 ·refine go_ ?_;refine aY O (aV (E:=33) (e:=elI) (l:=F_poly_bad) (fun v=>v) aE O (fun w hw=>tA  w) (fun p8 c9 L10 hF11=>go3 ?_));refine rt1 ?_
  have hE:(F_poly_bad:(List I))=(k8 p q f):=by exact aQ h7 O
  rw [← hE];exact ⟨_,rfl,⟨L10,lZ,hF11⟩⟩
 refine go3 ?_;refine sQ (dV kI O (SLe.sub Hp sn)) O (go_ ?_);refine sQ (dV kI O (SLe.sub Hq sn)) O (sQ (aM (v':=.int .i64 (((max (p.length) (q.length)):Nat):Int)) (mW O O) (congrArg (Value.int .i64) oo_)) O (sQ (JZ O O) O (aY O (aV (E:=33) (e:=elI) (l:=(kM (((max (p.length) (q.length)):Nat):Int) (fun (y:Nat)=>(tH y f p q)) (fun (y:I)=>(nZ y)))) (fun v=>v) aE O (fun w hw=>DO (((max (p.length) (q.length)):Nat):Int) _ (fun (y:Nat)=>(tH y f p q)) _ (fun (y:I)=>(nZ y)) w (FnV.mk hw aE (fun w hw x hx=>HW x _ _ _ _ f _ _ _ _ p _ _ _ _ q w (hw.mem _ m0) (hw.mem _ m2) (hw.mem _ m1) (FnE.ap hw (FnE.sub Hf sn)) (aR hw Hp sn) (aR hw Hq sn))) (FnV.mk hw aE (fun w hw x hx=>(EP x) w)) oo_) (fun p12 c13 L14 hF15=>go3 ?_)))));refine rt1 ?_
 have hE:((kM (((max (p.length) (q.length)):Nat):Int) (fun (y:Nat)=>(tH y f p q)) (fun (y:I)=>(nZ y))):(List I))=(k8 p q f):=by exact aN h7 O
 rw [← hE];exact ⟨_,rfl,⟨L14,lZ,hF15⟩⟩
theorem kS (vp:Value) (p:(List I)) (vq:Value) (q:(List I)) (w:World) (hp:Slr w elI vp p) (hq:Slr w elI vq q) (hpre:p.length≤100∧q.length≤100) :
  Calls prog 69 [vp,vq].toArray w (fun e w'=>∃ v,e = .returned (v)∧Ext w w'∧Slo w.heap.size w' 33 elI v (bL p q)):=by
 obtain ⟨p_p,c_p,rfl⟩:=hp.form;obtain ⟨p_q,c_q,rfl⟩:=hq.form;refine eQ (n:=8) (fun v=>v) func69 O O zz_ ?_;obtain ⟨w0,rfl⟩:=nm w;have Hp:=hp.old;have hm_p:=hp.max;have Hq:=hq.old;have hm_q:=hq.max;refine giI ?_;refine go6 ?_;refine aY O (aV (E:=33) (e:=elI) (l:=(k8 p q (fun (y:I) (z:I)=>(E (Z.add y.dec z.dec))))) (fun v=>v) aE O (fun w hw=>AB _ p _ q _ (fun (y:I) (z:I)=>(E (Z.add y.dec z.dec))) w (aR hw Hp sn) (aR hw Hq sn) (FnV.mk hw aE (fun w hw x hx=>(rM x.1.1 x.2.1 x.1.2 x.2.2) w)) oo_) (fun p1 c2 L3 hF4=>go3 ?_));refine rt1 ?_
 have hE:((k8 p q (fun (y:I) (z:I)=>(E (Z.add y.dec z.dec)))):(List I))=(bL p q):=by exact rfl
 rw [← hE];exact ⟨_,rfl,⟨L3,lZ,hF4⟩⟩
theorem OO (vp:Value) (p:(List I)) (vq:Value) (q:(List I)) (w:World) (hp:Slr w elI vp p) (hq:Slr w elI vq q) (hpre:p.length≤100∧q.length≤100) :
  Calls prog 65 [vp,vq].toArray w (fun e w'=>∃ v,e = .returned (v)∧Ext w w'∧Slo w.heap.size w' 33 elI v (pX p q)):=by
 obtain ⟨p_p,c_p,rfl⟩:=hp.form;obtain ⟨p_q,c_q,rfl⟩:=hq.form;refine eQ (n:=8) (fun v=>v) func65 O O zz_ ?_;obtain ⟨w0,rfl⟩:=nm w;have Hp:=hp.old;have hm_p:=hp.max;have Hq:=hq.old;have hm_q:=hq.max;refine giI ?_;refine go6 ?_;refine aY O (aV (E:=33) (e:=elI) (l:=(k8 p q (fun (y:I) (z:I)=>(E (Z.sub y.dec z.dec))))) (fun v=>v) aE O (fun w hw=>AB _ p _ q _ (fun (y:I) (z:I)=>(E (Z.sub y.dec z.dec))) w (aR hw Hp sn) (aR hw Hq sn) (FnV.mk hw aE (fun w hw x hx=>(EW x.1.1 x.2.1 x.1.2 x.2.2) w)) oo_) (fun p1 c2 L3 hF4=>go3 ?_));refine rt1 ?_
 have hE:((k8 p q (fun (y:I) (z:I)=>(E (Z.sub y.dec z.dec)))):(List I))=(pX p q):=by exact rfl
 rw [← hE];exact ⟨_,rfl,⟨L3,lZ,hF4⟩⟩
theorem JU (k:Nat) (c0 T0:Nat) (p_q:Option Addr) (c_q:Nat) (q:(List I)) (c1 T1:Nat) (p_p:Option Addr) (c_p:Nat) (p:(List I)) (w:World) (hc0:w.heap[c0]? = some (.cells (bB [csl p_q q.length c_q]).toArray T0 (0,0))) (hc1:w.heap[c1]? = some (.cells (bB [csl p_p p.length c_p]).toArray T1 (0,0))) (hq:Slr w elI (.slice p_q q.length c_q) q) (hp:Slr w elI (.slice p_p p.length c_p) p) (hpre:k<300∧p.length≤100∧q.length≤100) :
    Calls prog 136 [.int .i64 (k:Int),.pointer (some ⟨c0,0,none⟩),.pointer (some ⟨c1,0,none⟩)].toArray w (fun e w'=>e = .returned (AV [pI (nJ k q p)])∧Ext w w'):=by
 refine dL (N:=36) func136 O O zz_ ?_;obtain ⟨w0,rfl⟩:=nm w;have Hq:=hq.old;have hm_q:=hq.max;have Hp:=hp.old;have hm_p:=hp.max;refine giI ?_;refine go2 ?_;intro b1 hb1;refine go3 ?_;intro b2 hb2;refine go4 ?_;refine sQ (nC (v:=.slice p_q q.length c_q) tyT O hc0 zz_ O) O ?_;refine sQ (dV kI O (SLe.sub Hq sn)) O (sWi ((k:Int) - (q.length:Int)) O (sWi (((k:Int) - (q.length:Int))+1) O (sQ (aM (v':=.int .i64 ((((k:Int) - (q.length:Int))+1).toNat:Int)) (mW O O) (congrArg (Value.int .i64) oo_)) O (go2 ?_))));refine gJ3 (rg [6] 13 22) (fun g M=>∃ (i:Nat) (mb2:I),(iK k q p (k+2) ((((k:Int) - (q.length:Int))+1).toNat) I0)=(i,mb2)∧(g 6 = .int .i64 (i:Int))∧M=[⟨b2,33,bB [pI mb2]⟩,⟨b1,33,bB [pI I0]⟩]) (fun K_u3 hK_u3=>?_) ?_
 ·refine go_ ?_;refine cE (rg [6] 13 22) (fun g nn M=>∃ (i:Nat) (mb2:I),(iK k q p nn i mb2)=(iK k q p (k+2) ((((k:Int) - (q.length:Int))+1).toNat) I0)∧k+1 - i<nn∧(k+1≤i+q.length)∧(g 6 = .int .i64 (i:Int))∧M=[⟨b2,33,bB [pI mb2]⟩,⟨b1,33,bB [pI I0]⟩]) (k+2) ?start ?round
  case start=>exact ⟨_,s0,(((k:Int) - (q.length:Int))+1).toNat,I0,rfl,o1_,o1_,rfl,rfl⟩
  case round =>
   rintro nn g M ⟨i,mb2,hT0,hq0,hinv0,hg6,rfl⟩;obtain ⟨k0,rfl⟩:∃ m,nn=m+1:=⟨nn - 1,by omega⟩;refine gS1 hg6 ?_;clear hg6;refine go4 ?_;refine sQ (nC (v:=.slice p_p p.length c_p) tyT O hc1 zz_ O) O ?_;refine sQ (dV kI O (SLe.sub Hp sn)) O (sWi ((p.length:Int) - 1) O (sQ (aM (v':=.int .i64 (min (k:Int) ((p.length:Int) - 1))) (zG O O) (congrArg (Value.int .i64) oo_)) O (go2 ?_)));refine aL _ O (fun h6=>?_) (fun h6=>?_)
   ·have ph6:=of_decide_eq_true h6;refine go3 ?_;refine kY (sd s0) 14 [13] [13] (go_ ?_);refine pQ O (nC (v:=.slice p_p p.length c_p) tyT O hc1 zz_ O) ?_;refine go_ ?_;refine pQ O (aM (v':=.pointer (some (slb (.slice p_p p.length c_p) (i*18+0)))) (eD (e:=elI) (l:=p) (k:=i) kI O O (SLe.sub Hp sn) o2_) O) ?_;refine pQ O (gE (e:=elI) (l:=p) (k:=i) (o:=0) tyT O (SLe.sub Hp sn) (bS I0 o2_) O) ?_;refine pQ O (nC (v:=.slice p_q q.length c_q) tyT O hc0 zz_ O) ?_;refine go2 ?_;refine pV (.int .i64 ((k:Int) - (i:Int))) O wxo (pQ O (aM (v':=.pointer (some (slb (.slice p_q q.length c_q) ((k - i)*18+0)))) (zF (e:=elI) (l:=q) (k:=(k - i)) kI O O oo_ (SLe.sub Hq sn) o2_) O) ?_);refine pQ O (gE (e:=elI) (l:=q) (k:=(k - i)) (o:=0) tyT O (SLe.sub Hq sn) (bS I0 o2_) O) ?_;refine pC (AV [pI (E (Z.mul (p.getD i I0).dec (q.getD (k - i) I0).dec))]) aE (jZ (p.getD i I0).1 (q.getD (k - i) I0).1 (p.getD i I0).2 (q.getD (k - i) I0).2) O O O (pC (AV [pI (E (Z.add mb2.dec (Z.mul (p.getD i I0).dec (q.getD (k - i) I0).dec)))]) aE (rM mb2.1 (E (Z.mul (p.getD i I0).dec (q.getD (k - i) I0).dec)).1 mb2.2 (E (Z.mul (p.getD i I0).dec (q.getD (k - i) I0).dec)).2) O O (cg2 (fun p q=>AV [pI (E (Z.add p q))]) O (fA _)) (go4 ?_));refine sWi (((i+1):Nat):Int) O (go2 ?_);refine ⟨pp_,_,_,s0,(Nat.lt_succ_self _),(i+1),(E (Z.add mb2.dec (Z.mul (p.getD i I0).dec (q.getD (k - i) I0).dec))),(by exact (hT0.symm.trans (Eq.symm (aQ h6 O))).symm),(Nat.lt_of_lt_of_le o1_ (Nat.le_of_lt_succ hq0)),o1_,rfl,rfl⟩
   have ph6:=of_decide_eq_false h6;refine go_ ?_;refine hK_u3 _ _ pp_ ⟨_,s0,i,mb2,(by exact hT0.symm.trans (Eq.symm (aN h6 O))),rfl,rfl⟩
 rintro g M ⟨i,mb2,hCu3,hg6,rfl⟩;refine gS1 hg6 ?_;clear hg6;refine go5 ?_;refine rtX O (eR O m1 tyT O) ?_;exact congrArg vS4 (show _=(nJ k q p) from (by unfold nJ;exact trs (Eq.symm (apS hCu3)) O))
theorem pH (vp:Value) (p:(List I)) (vq:Value) (q:(List I)) (w:World) (hp:Slr w elI vp p) (hq:Slr w elI vq q) (hpre:p.length≤100∧q.length≤100) :
    Calls prog 67 [vp,vq].toArray w (fun e w'=>∃ v,e = .returned (v)∧Ext w w'∧Slo w.heap.size w' 33 elI v (bF p q)):=by
 obtain ⟨p_p,c_p,rfl⟩:=hp.form;obtain ⟨p_q,c_q,rfl⟩:=hq.form;refine eQ (n:=28) (fun v=>v) func67 O O zz_ ?_;obtain ⟨w0,rfl⟩:=nm w;have Hp:=hp.old;have hm_p:=hp.max;have Hq:=hq.old;have hm_q:=hq.max;refine giI ?_;refine go2 ?_;intro b1 hb1;refine go_ ?_;intro b2 hb2;refine go3 ?_;refine gJv [5,6,7,8,9,10] [(10,.bool ((gY p)||(gY q)))] (fun K2 J2=>?_) ?_
 ·refine go2 ?_;refine sFc (.bool (gY p)) O (c1_ (uB _ p) Hp sn) O O ?_;refine sBB O (fun h4=>?_) (fun h4=>?_)
  ·refine go4 ?_;refine J2 _ _ pp_ s0 (bQ (o9 h4))
  refine go_ ?_;refine sFc (.bool (gY q)) O (c1_ (uB _ q) Hq sn) O O (go2 ?_);refine J2 _ _ pp_ s0 (bQ (nA h4 O))
 intro g5;refine aL _ O (fun h6=>?_) (fun h6=>?_)
 ·refine go_ ?_;refine aY O (aV (E:=33) (e:=elI) (l:=F_poly_bad) (fun v=>v) aE O (fun w hw=>tA  w) (fun p7 c8 L9 hF10=>go3 ?_));refine rt1 ?_
  have hE:(F_poly_bad:(List I))=(bF p q):=by exact aQ h6 O
  rw [← hE];exact ⟨_,rfl,⟨L9,lZ,hF10⟩⟩
 refine go2 ?_;refine gJv (rg [] 12 8) [(19,.bool (((p.length:Int)==0)||((q.length:Int)==0)))] (fun K4 J4=>?_) ?_
 ·refine go2 ?_;refine sQ (dV kI O (SLe.sub Hp sn)) O (go_ ?_);refine sBB O (fun h12=>?_) (fun h12=>?_)
  ·have ph12:=R9 h12;refine go5 ?_;refine J4 _ _ pp_ s0 (bQ (o9 h12))
  have ph12:=EZ h12;refine go_ ?_;refine sQ (dV kI O (SLe.sub Hq sn)) O (go3 ?_);refine J4 _ _ pp_ s0 (bQ (nA h12 O))
 intro g13;refine aL _ O (fun h14=>?_) (fun h14=>?_)
 ·refine go4 ?_;refine rt1 ?_
  have hE:(([]:List I):(List I))=(bF p q):=by exact aN h6 (aQ h14 O)
  rw [← hE];exact ⟨_,rfl,⟨[],sn,OwnG.nil⟩⟩
 have ph15:=EZ (Bool.or_eq_false_iff.1 h14).1;have ph16:=EZ (Bool.or_eq_false_iff.1 h14).2;refine go3 ?_;refine sQ (dV kI O (SLe.sub Hp sn)) O (go_ ?_);refine sQ (dV kI O (SLe.sub Hq sn)) O (sWi (((p.length+(q).length):Nat):Int) O (sWi ((((p.length+(q).length):Nat):Int) - 1) O (sQ (JZ O O) O (aY O (aV (E:=33) (e:=elI) (l:=(kM ((((p.length+(q).length):Nat):Int) - 1) (fun (y:Nat)=>(nJ y q p)) (fun (y:I)=>(nZ y)))) (fun v=>v) aE O (fun w hw=>DO ((((p.length+(q).length):Nat):Int) - 1) _ (fun (y:Nat)=>(nJ y q p)) _ (fun (y:I)=>(nZ y)) w (FnV.mk hw aE (fun w hw x hx=>JU x _ _ _ _ q _ _ _ _ p w (hw.mem _ m0) (hw.mem _ m1) (aR hw Hq sn) (aR hw Hp sn) (by have hx':(x:Int)<_:=hx;omega))) (FnV.mk hw aE (fun w hw x hx=>(EP x) w)) oo_) (fun p17 c18 L19 hF20=>go3 ?_))))));refine rt1 ?_
 have hE:((kM ((((p.length+(q).length):Nat):Int) - 1) (fun (y:Nat)=>(nJ y q p)) (fun (y:I)=>(nZ y))):(List I))=(bF p q):=by exact aN h6 (aN h14 O)
 rw [← hE];exact ⟨_,rfl,⟨L19,lZ,hF20⟩⟩
theorem GU (a:I) (b:I) (c0 T0:Nat) (n:I) (w:World) (hc0:w.heap[c0]? = some (.cells (bB [pI n]).toArray T0 (0,0))) :
  Calls prog 132 [AV [pI a],AV [pI b],.pointer (some ⟨c0,0,none⟩)].toArray w (fun e w'=>e = .returned (AV [pI (rS a b n)])∧Ext w w'):=by
 refine dL (N:=9) func132 O O zz_ ?_;obtain ⟨w0,rfl⟩:=nm w;refine giI ?_;refine go2 ?_;intro b1 hb1;refine go_ ?_;intro b2 hb2;refine go_ ?_;intro b3 hb3;refine go3 ?_;refine sQ (Z0 tyT O hc0 zz_ O) O ?_;refine sC (AV [pI (E (Z.mul a.dec n.dec))]) aE (jZ a.1 n.1 a.2 n.2) O O O (go3 ?_);refine rtX O (eR O m0 tyT O) ?_;exact (by rfl)
theorem kZ (vp:Value) (p:(List I)) (n:I) (w:World) (hp:Slr w elI vp p) (hpre:p.length≤100) :
   Calls prog 63 [vp,AV [pI n]].toArray w (fun e w'=>∃ v,e = .returned (v)∧Ext w w'∧Slo w.heap.size w' 33 elI v (cX p n)):=by
 obtain ⟨p_p,c_p,rfl⟩:=hp.form;refine eQ (n:=12) (fun v=>v) func63 O O zz_ ?_;obtain ⟨w0,rfl⟩:=nm w;have Hp:=hp.old;have hm_p:=hp.max;refine giI ?_;refine go2 ?_;intro b1 hb1;refine go5 ?_;refine sQ (aX aE (xP n) O) O (go2 ?_);rcases bt (rB n) with h2|h2
 ·refine W_f (gG h2) O (go3 ?_);refine sQ (JZ O O) O (aY O (aV (E:=33) (e:=elI) (l:=(k8 p ([]:List I) (fun (y:I) (z:I)=>(rS y z n)))) (fun v=>v) aE O (fun w hw=>AB _ p _ ([]:List I) _ (fun (y:I) (z:I)=>(rS y z n)) w (aR hw Hp sn) (SLe.ap hw (SLfe.sle SLfe.nil)) (FnV.mk hw aE (fun w hw x hx=>GU x.1 x.2 _ _ n w (hw.mem _ m0))) o3_) (fun p3 c4 L5 hF6=>?_)));refine go3 ?_;refine rt1 ?_
  have hE:((k8 p ([]:List I) (fun (y:I) (z:I)=>(rS y z n))):(List I))=(cX p n):=by exact aQ h2 O
  rw [← hE];exact ⟨_,rfl,⟨L5,lZ,hF6⟩⟩
 refine W_t (gD h2) O (go_ ?_);refine aY O (aV (E:=33) (e:=elI) (l:=F_poly_bad) (fun v=>v) aE O (fun w hw=>tA  w) (fun p7 c8 L9 hF10=>go3 ?_));refine rt1 ?_
 have hE:(F_poly_bad:(List I))=(cX p n):=by exact aN h2 O
 rw [← hE];exact ⟨_,rfl,⟨L9,lZ,hF10⟩⟩
end Go.Proofs.YtbjlhfochebmiaaGreatDoor
