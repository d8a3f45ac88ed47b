/- Lemmas: what they ask stands in their statements. -/
import Derived.Test.YtkjjponijamaoaaGreatDoorJGa
set_option linter.unusedSimpArgs false
set_option linter.unusedVariables false
set_option maxHeartbeats 8000000
set_option maxRecDepth 20000
namespace Go.Proofs.YtkjjponijamaoaaGreatDoor
open Go.Kn Go.Num Tryz
attribute [local irreducible] Go.Kn.W WL PL OpQ OpR OpS
theorem yX (a:I) :
  Ret prog 186 [AV [pI a]] (AV [pI (k9 a)]):=by
 refine bG (N:=4) func186 O O zz_ (fun w0=>?_);refine giI ?_;refine go2 ?_;intro b1 hb1;refine go_ ?_;intro b2 hb2;refine go6 ?_;refine rtX O (dP O m0 tyT O) ?_;exact (by rfl)
theorem wF (a:I) :
    Ret prog 180 [AV [pI a]] (.bool (pS a)):=by
 refine bG (N:=10) func180 O O zz_ (fun w0=>?_);refine giI ?_;refine go2 ?_;intro b1 hb1;refine go2 ?_;refine gJv (rg [] 2 8) [(2,.bool (!a.1.bad&&a.1.valid))] (fun K1 J1=>?_) ?_
 ·refine go4 ?_;rcases bt a.1.bad with h3|h3
  ·refine sB (fZ h3) O (go5 ?_);refine J1 _ _ pp_ s0 (bH (IG h3))
  refine sB (iX h3) O (go_ ?_);refine sC (.bool a.1.valid) aB (tK a.1 a.2) O O O (go3 ?_);refine J1 _ _ pp_ s0 (bH (IF h3 O))
 intro g4;refine go_ ?_;refine rt1 ?_;exact (by rfl)
theorem pZ  (w:World)  :
  Calls prog 181 [].toArray w (fun e w'=>∃ v,e = .returned (v)∧Ext w w'∧Slo w.heap.size w' 31 elI v F_poly_bad):=by
 refine dD (n:=3) (fun v=>v) func181 O O zz_ ?_;obtain ⟨w0,rfl⟩:=nm w;refine giI ?_;obtain ⟨q0,hq0⟩:=nm ((E Z.bad):I);refine go4 ?_;refine sC (AV [pI q0]) aB fS O O (by subst hq0;rfl) (aZ O (bJ [[pI q0]] [pI q0] DE jP kB O dd_ O O ⟨rfl,rfl,rfl,trivial⟩ O (fun b1 hb1=>go3 ?_)));refine rt1 ?_
 have hE:([q0]:(List I))=F_poly_bad:=by obtain rfl:=hq0.symm;exact rfl
 rw [← hE];exact ⟨_,rfl,⟨_,(sk sn),OwnG.lit (e:=elI) (l:=[q0]) (qs:=[pI q0]) hb1 O (Nat.le_of_ble_eq_true O) O⟩⟩
theorem xL (n:Int) (vf:Value) (f:Nat→I) (vo:Value) (o:I→I) (w:World) (hf:FnV prog w vf eN (fun k=>(k:Int)<n) (XH f)) (ho:FnV prog w vo eI (fun _=>True) (XH o)) (hpre:n≤200) :
    Calls prog 184 [.int .i64 n,vf,vo].toArray w (fun e w'=>∃ v,e = .returned (v)∧Ext w w'∧Slo w.heap.size w' 31 elI v (jQ n f o)):=by
 obtain ⟨g_f,c_f,rfl,Hf⟩:=hf.open;obtain ⟨g_o,c_o,rfl,Ho⟩:=ho.open;refine dD (n:=55) (fun v=>v) func184 O O zz_ ?_;obtain ⟨w0,rfl⟩:=nm w;refine giI ?_;refine go5 ?_;refine sQ (aY (v':=.int .i64 (n.toNat:Int)) (rV O O) (congrArg (Value.int .i64) oo_)) O (aZ O (SW (E:=31) (e:=elI) (n:=0) (c:=(n).toNat) 68 I0 DE (by kernel_rfl) dd_ (by kernel_rfl) O O oo_ oo_ oo_ oo_ dd_ dd_ (fun p1 L2 hO3=>go5 ?_)));refine sQ (aY (v':=.int .i64 (n.toNat:Int)) (rV O O) (congrArg (Value.int .i64) oo_)) O (go2 ?_);refine gJ3 (rg [6,7,8,9] 15 17) (fun g M=>∃ (out:List I) (i:Nat) (p_out:Option Addr) (c_out:Nat) (L_out:List Blk),(kG n f o (n.toNat+1) ([]:List I) 0) = .inl (out,i)∧(g 7 = .slice p_out out.length c_out∧g 15 = .int .i64 (i:Int)∧OwnG w0 31 elI (.slice p_out out.length c_out) out L_out)∧M=(L_out++[])) (fun K_u4 hK_u4=>?_) ?_
 ·refine go_ ?_;refine bX (rg [6,7,8,9] 15 17) (fun g nn M=>∃ (out:List I) (i:Nat) (p_out:Option Addr) (c_out:Nat) (L_out:List Blk),(kG n f o nn out i)=(kG n f o (n.toNat+1) ([]:List I) 0)∧n.toNat - i<nn∧(i≤n.toNat∧out.length=i)∧(g 7 = .slice p_out out.length c_out∧g 15 = .int .i64 (i:Int)∧OwnG w0 31 elI (.slice p_out out.length c_out) out L_out)∧M=(L_out++[])) (n.toNat+1) ?start ?round
  case start=>exact ⟨_,s0,([]:List I),0,p1,(n.toNat),L2,rfl,o1_,⟨by omega,rfl⟩,⟨rfl,rfl,hO3⟩,rfl⟩
  case round =>
   rintro nn g M ⟨out,i,p_out,c_out,L_out,hT0,hq0,hinv0,⟨hg7,hg15,hO_out⟩,rfl⟩;obtain ⟨k0,rfl⟩:∃ m,nn=m+1:=⟨nn - 1,by omega⟩;refine gS2 hg7 hg15 ?_;clear hg7 hg15;have hm_out:=OwnG.max hO_out;refine go4 ?_;refine aH _ O (fun h29=>?_) (fun h29=>?_)
   ·have ph29:=of_decide_eq_true h29;refine BG ?_;refine sQ (aY (v':=AV [pI (f i)]) (PH (x:=i) O O (FnE.sub Hf sn) (by show (i:Int)<n;omega)) O) O (sQ (aY (v':=AV [pI (o (f i))]) (PH (x:=(f i)) O O (FnE.sub Ho sn) trivial) O) O (go_ ?_));intro b30 hb30;refine go5 ?_;refine sQ (bE aB (wF (o (f i))) O) O (go2 ?_);rcases bt (pS (o (f i))) with h31|h31
    ·refine W_f (fZ h31) O (go4 ?_);refine aZ O (bJ [[pI (o (f i))]] [pI (o (f i))] DE jP kB O dd_ O O ⟨rfl,rfl,rfl,trivial⟩ O (fun b32 hb32=>aZ O (kQ (e:=elI) (l:=out) (m:=[(o (f i))]) 68 DE (by kernel_rfl) dd_ O O hO_out (SLe.lit (e:=elI) (l:=[(o (f i))]) m0 O (Nat.le_of_ble_eq_true O) O) (jY (jY mV)) (by show (out.length+1)*68≤_;omega) dd_ (fun p33 c34 L35 hO36=>go3 ?_))));refine sWi (((i+1):Nat):Int) O (go2 ?_);refine ⟨pp_,_,_,(sA (sd (sd s0))),(Nat.lt_succ_self _),(out++[(o (f i))]),(i+1),p33,c34,L35,(by exact (hT0.symm.trans (Eq.symm (aX h29 (aX h31 O)))).symm),(Nat.lt_of_lt_of_le o1_ (Nat.le_of_lt_succ hq0)),⟨by omega,(by rw [List.length_append];show _+1=_;omega)⟩,⟨rfl,rfl,hO36⟩,rfl⟩
    refine W_t (iX h31) O (go_ ?_);refine aZ O (aN (E:=31) (e:=elI) (l:=F_poly_bad) (fun v=>v) aB O (fun w hw=>pZ  w) (fun p37 c38 L39 hF40=>go3 ?_));refine rt1 ?_
    have hE:(F_poly_bad:(List I))=(jQ n f o):=by exact (BZ O (hT0.symm.trans (Eq.symm (aX h29 (aJ h31 O)))))
    rw [← hE];exact ⟨_,rfl,⟨L39,lZ,hF40⟩⟩
   have ph29:=of_decide_eq_false h29;refine go_ ?_;refine hK_u4 _ _ pp_ ⟨_,s0,out,i,p_out,c_out,L_out,(by exact hT0.symm.trans (Eq.symm (aJ h29 O))),⟨rfl,rfl,hO_out⟩,rfl⟩
 rintro g M ⟨out,i,p_out,c_out,L_out,hCu4,⟨hg7,hg15,hO_out⟩,rfl⟩;refine gS2 hg7 hg15 ?_;clear hg7 hg15;have hm_out:=OwnG.max hO_out;refine wN (rg [7] 32 18) (fun g M=>∃ (cut:List I) (p_cut:Option Addr) (c_cut:Nat) (L_cut:List Blk),(kH n f o out i (out.length+1) out)=cut∧(g 7 = .slice p_cut cut.length c_cut∧OwnG w0 31 elI (.slice p_cut cut.length c_cut) cut L_cut)∧M=(L_cut++[])) (fun K_u41 hK_u41=>?_) ?_
 ·refine go_ ?_;refine bX (rg [7] 32 18) (fun g nn M=>∃ (cut:List I) (p_cut:Option Addr) (c_cut:Nat) (L_cut:List Blk),(kH n f o out i nn cut)=(kH n f o out i (out.length+1) out)∧cut.length<nn∧(True)∧(g 7 = .slice p_cut cut.length c_cut∧OwnG w0 31 elI (.slice p_cut cut.length c_cut) cut L_cut)∧M=(L_cut++[])) (out.length+1) ?start ?round
  case start=>exact ⟨_,s0,out,p_out,c_out,L_out,rfl,(Nat.lt_succ_self _),trivial,⟨rfl,hO_out⟩,rfl⟩
  case round =>
   rintro nn g M ⟨cut,p_cut,c_cut,L_cut,hT1,hq1,hinv1,⟨hg7,hO_cut⟩,rfl⟩;obtain ⟨k1,rfl⟩:∃ m,nn=m+1:=⟨nn - 1,by omega⟩;refine gS1 hg7 ?_;clear hg7;have hm_cut:=OwnG.max hO_cut;refine go_ ?_;refine gJv (rg [] 32 13) [(44,.bool (decide (0<(cut.length:Int))&&((Z.signW (cut.getD (cut.length - 1) I0).dec).1==0)))] (fun K14 J14=>?_) ?_
   ·refine go2 ?_;refine sQ (dW jB O (rO hO_cut lZ)) O (go_ ?_);refine sBB O (fun h48=>?_) (fun h48=>?_)
    ·have ph48:=of_decide_eq_true h48;refine go2 ?_;refine sQ (dW jB O (rO hO_cut lZ)) O (sWi ((cut.length:Int) - 1) O (sQ (aY (v':=.pointer (some (slb (.slice p_cut cut.length c_cut) ((cut.length - 1)*18+0)))) (sK (e:=elI) (l:=cut) (k:=(cut.length - 1)) jB O O oo_ (rO hO_cut lZ) o2_) O) O ?_));refine sQ (kW (e:=elI) (l:=cut) (k:=(cut.length - 1)) (o:=0) tyT O (rO hO_cut lZ) (dS I0 o2_) O) O ?_;refine sC (.int .i64 ((Z.signW (cut.getD (cut.length - 1) I0).dec).1)) aB (iH (cut.getD (cut.length - 1) I0).1 (cut.getD (cut.length - 1) I0).2) O O O (go3 ?_);refine J14 _ _ pp_ s0 (bH (mW h48 O))
    have ph48:=of_decide_eq_false h48;refine j0 ?_;refine J14 _ _ pp_ s0 (bH (pU h48))
   intro g49;refine aH _ O (fun h50=>?_) (fun h50=>?_)
   ·have ph51:=of_decide_eq_true (Bool.and_eq_true_iff.1 h50).1;refine go5 ?_;refine sQ (dW jB O (rO hO_cut lZ)) O (sWi ((cut.length:Int) - 1) O (sQ (SR (e:=elI) (l:=cut) (k:=(cut.length - 1)) jB O O oo_ hO_cut oo_) O (go2 ?_)));refine ⟨pp_,_,_,s0,(Nat.lt_succ_self _),(cut.take (cut.length - 1)),p_cut,c_cut,L_cut,(by exact (hT1.symm.trans (Eq.symm (aX h50 O))).symm),(Nat.lt_of_lt_of_le (by rw [List.length_take];omega) (Nat.le_of_lt_succ hq1)),trivial,⟨rfl,(OwnG.take hO_cut oo_)⟩,rfl⟩
   refine go_ ?_;refine hK_u41 _ _ pp_ ⟨_,s0,cut,p_cut,c_cut,L_cut,(by exact hT1.symm.trans (Eq.symm (aJ h50 O))),⟨rfl,hO_cut⟩,rfl⟩
 rintro g M ⟨cut,p_cut,c_cut,L_cut,hCu41,⟨hg7,hO_cut⟩,rfl⟩;refine gS1 hg7 ?_;clear hg7;have hm_cut:=OwnG.max hO_cut;refine go3 ?_;refine sQ (dW jB O (rO hO_cut lZ)) O (go2 ?_);refine aH _ O (fun h52=>?_) (fun h52=>?_)
 ·have ph52:=of_decide_eq_true h52;refine go_ ?_;refine aZ O (aN (E:=31) (e:=elI) (l:=F_poly_bad) (fun v=>v) aB O (fun w hw=>pZ  w) (fun p53 c54 L55 hF56=>go3 ?_));refine rt1 ?_
  have hE:(F_poly_bad:(List I))=(jQ n f o):=by exact trs (Eq.symm (smS hCu4)) (trs (Eq.symm (apS hCu41)) (aX h52 O))
  rw [← hE];exact ⟨_,rfl,⟨L55,lZ,hF56⟩⟩
 have ph52:=of_decide_eq_false h52;refine go6 ?_;refine rt1 ?_
 have hE:(cut:(List I))=(jQ n f o):=by exact trs (Eq.symm (smS hCu4)) (trs (Eq.symm (apS hCu41)) (aJ h52 O))
 rw [← hE];exact ⟨_,rfl,⟨L_cut,lZ,hO_cut⟩⟩
theorem GP (n:Int) (vf:Value) (f:Nat→Go.Num.W) (vo:Value) (o:Go.Num.W→I) (w:World) (hf:FnV prog w vf eN (fun k=>(k:Int)<n) (eG_ f)) (ho:FnV prog w vo eW (fun _=>True) (XH o)) (hpre:n≤200) :
    Calls prog 238 [.int .i64 n,vf,vo].toArray w (fun e w'=>∃ v,e = .returned (v)∧Ext w w'∧Slo w.heap.size w' 31 elI v (nY n f o)):=by
 obtain ⟨g_f,c_f,rfl,Hf⟩:=hf.open;obtain ⟨g_o,c_o,rfl,Ho⟩:=ho.open;refine dD (n:=55) (fun v=>v) func238 O O zz_ ?_;obtain ⟨w0,rfl⟩:=nm w;refine giI ?_;refine go5 ?_;refine sQ (aY (v':=.int .i64 (n.toNat:Int)) (rV O O) (congrArg (Value.int .i64) oo_)) O (aZ O (SW (E:=31) (e:=elI) (n:=0) (c:=(n).toNat) 68 I0 DE (by kernel_rfl) dd_ (by kernel_rfl) O O oo_ oo_ oo_ oo_ dd_ dd_ (fun p1 L2 hO3=>go5 ?_)));refine sQ (aY (v':=.int .i64 (n.toNat:Int)) (rV O O) (congrArg (Value.int .i64) oo_)) O (go2 ?_);refine gJ3 (rg [6,7,8,9] 15 17) (fun g M=>∃ (out:List I) (i:Nat) (p_out:Option Addr) (c_out:Nat) (L_out:List Blk),(lO n f o (n.toNat+1) ([]:List I) 0) = .inl (out,i)∧(g 7 = .slice p_out out.length c_out∧g 15 = .int .i64 (i:Int)∧OwnG w0 31 elI (.slice p_out out.length c_out) out L_out)∧M=(L_out++[])) (fun K_u4 hK_u4=>?_) ?_
 ·refine go_ ?_;refine bX (rg [6,7,8,9] 15 17) (fun g nn M=>∃ (out:List I) (i:Nat) (p_out:Option Addr) (c_out:Nat) (L_out:List Blk),(lO n f o nn out i)=(lO n f o (n.toNat+1) ([]:List I) 0)∧n.toNat - i<nn∧(i≤n.toNat∧out.length=i)∧(g 7 = .slice p_out out.length c_out∧g 15 = .int .i64 (i:Int)∧OwnG w0 31 elI (.slice p_out out.length c_out) out L_out)∧M=(L_out++[])) (n.toNat+1) ?start ?round
  case start=>exact ⟨_,s0,([]:List I),0,p1,(n.toNat),L2,rfl,o1_,⟨by omega,rfl⟩,⟨rfl,rfl,hO3⟩,rfl⟩
  case round =>
   rintro nn g M ⟨out,i,p_out,c_out,L_out,hT0,hq0,hinv0,⟨hg7,hg15,hO_out⟩,rfl⟩;obtain ⟨k0,rfl⟩:∃ m,nn=m+1:=⟨nn - 1,by omega⟩;refine gS2 hg7 hg15 ?_;clear hg7 hg15;have hm_out:=OwnG.max hO_out;refine go4 ?_;refine aH _ O (fun h29=>?_) (fun h29=>?_)
   ·have ph29:=of_decide_eq_true h29;refine BG ?_;refine sQ (aY (v':=.int .i64 ((f i).1)) (PH (x:=i) O O (FnE.sub Hf sn) (by show (i:Int)<n;omega)) O) O (sQ (aY (v':=AV [pI (o (f i))]) (PH (x:=(f i)) O O (FnE.sub Ho sn) trivial) O) O (go_ ?_));intro b30 hb30;refine go5 ?_;refine sQ (bE aB (wF (o (f i))) O) O (go2 ?_);rcases bt (pS (o (f i))) with h31|h31
    ·refine W_f (fZ h31) O (go4 ?_);refine aZ O (bJ [[pI (o (f i))]] [pI (o (f i))] DE jP kB O dd_ O O ⟨rfl,rfl,rfl,trivial⟩ O (fun b32 hb32=>aZ O (kQ (e:=elI) (l:=out) (m:=[(o (f i))]) 68 DE (by kernel_rfl) dd_ O O hO_out (SLe.lit (e:=elI) (l:=[(o (f i))]) m0 O (Nat.le_of_ble_eq_true O) O) (jY (jY mV)) (by show (out.length+1)*68≤_;omega) dd_ (fun p33 c34 L35 hO36=>go3 ?_))));refine sWi (((i+1):Nat):Int) O (go2 ?_);refine ⟨pp_,_,_,(sA (sd (sd s0))),(Nat.lt_succ_self _),(out++[(o (f i))]),(i+1),p33,c34,L35,(by exact (hT0.symm.trans (Eq.symm (aX h29 (aX h31 O)))).symm),(Nat.lt_of_lt_of_le o1_ (Nat.le_of_lt_succ hq0)),⟨by omega,(by rw [List.length_append];show _+1=_;omega)⟩,⟨rfl,rfl,hO36⟩,rfl⟩
    refine W_t (iX h31) O (go_ ?_);refine aZ O (aN (E:=31) (e:=elI) (l:=F_poly_bad) (fun v=>v) aB O (fun w hw=>pZ  w) (fun p37 c38 L39 hF40=>go3 ?_));refine rt1 ?_
    have hE:(F_poly_bad:(List I))=(nY n f o):=by exact (BZ O (hT0.symm.trans (Eq.symm (aX h29 (aJ h31 O)))))
    rw [← hE];exact ⟨_,rfl,⟨L39,lZ,hF40⟩⟩
   have ph29:=of_decide_eq_false h29;refine go_ ?_;refine hK_u4 _ _ pp_ ⟨_,s0,out,i,p_out,c_out,L_out,(by exact hT0.symm.trans (Eq.symm (aJ h29 O))),⟨rfl,rfl,hO_out⟩,rfl⟩
 rintro g M ⟨out,i,p_out,c_out,L_out,hCu4,⟨hg7,hg15,hO_out⟩,rfl⟩;refine gS2 hg7 hg15 ?_;clear hg7 hg15;have hm_out:=OwnG.max hO_out;refine wN (rg [7] 32 18) (fun g M=>∃ (cut:List I) (p_cut:Option Addr) (c_cut:Nat) (L_cut:List Blk),(lP n f o out i (out.length+1) out)=cut∧(g 7 = .slice p_cut cut.length c_cut∧OwnG w0 31 elI (.slice p_cut cut.length c_cut) cut L_cut)∧M=(L_cut++[])) (fun K_u41 hK_u41=>?_) ?_
 ·refine go_ ?_;refine bX (rg [7] 32 18) (fun g nn M=>∃ (cut:List I) (p_cut:Option Addr) (c_cut:Nat) (L_cut:List Blk),(lP n f o out i nn cut)=(lP n f o out i (out.length+1) out)∧cut.length<nn∧(True)∧(g 7 = .slice p_cut cut.length c_cut∧OwnG w0 31 elI (.slice p_cut cut.length c_cut) cut L_cut)∧M=(L_cut++[])) (out.length+1) ?start ?round
  case start=>exact ⟨_,s0,out,p_out,c_out,L_out,rfl,(Nat.lt_succ_self _),trivial,⟨rfl,hO_out⟩,rfl⟩
  case round =>
   rintro nn g M ⟨cut,p_cut,c_cut,L_cut,hT1,hq1,hinv1,⟨hg7,hO_cut⟩,rfl⟩;obtain ⟨k1,rfl⟩:∃ m,nn=m+1:=⟨nn - 1,by omega⟩;refine gS1 hg7 ?_;clear hg7;have hm_cut:=OwnG.max hO_cut;refine go_ ?_;refine gJv (rg [] 32 13) [(44,.bool (decide (0<(cut.length:Int))&&((Z.signW (cut.getD (cut.length - 1) I0).dec).1==0)))] (fun K14 J14=>?_) ?_
   ·refine go2 ?_;refine sQ (dW jB O (rO hO_cut lZ)) O (go_ ?_);refine sBB O (fun h48=>?_) (fun h48=>?_)
    ·have ph48:=of_decide_eq_true h48;refine go2 ?_;refine sQ (dW jB O (rO hO_cut lZ)) O (sWi ((cut.length:Int) - 1) O (sQ (aY (v':=.pointer (some (slb (.slice p_cut cut.length c_cut) ((cut.length - 1)*18+0)))) (sK (e:=elI) (l:=cut) (k:=(cut.length - 1)) jB O O oo_ (rO hO_cut lZ) o2_) O) O ?_));refine sQ (kW (e:=elI) (l:=cut) (k:=(cut.length - 1)) (o:=0) tyT O (rO hO_cut lZ) (dS I0 o2_) O) O ?_;refine sC (.int .i64 ((Z.signW (cut.getD (cut.length - 1) I0).dec).1)) aB (iH (cut.getD (cut.length - 1) I0).1 (cut.getD (cut.length - 1) I0).2) O O O (go3 ?_);refine J14 _ _ pp_ s0 (bH (mW h48 O))
    have ph48:=of_decide_eq_false h48;refine j0 ?_;refine J14 _ _ pp_ s0 (bH (pU h48))
   intro g49;refine aH _ O (fun h50=>?_) (fun h50=>?_)
   ·have ph51:=of_decide_eq_true (Bool.and_eq_true_iff.1 h50).1;refine go5 ?_;refine sQ (dW jB O (rO hO_cut lZ)) O (sWi ((cut.length:Int) - 1) O (sQ (SR (e:=elI) (l:=cut) (k:=(cut.length - 1)) jB O O oo_ hO_cut oo_) O (go2 ?_)));refine ⟨pp_,_,_,s0,(Nat.lt_succ_self _),(cut.take (cut.length - 1)),p_cut,c_cut,L_cut,(by exact (hT1.symm.trans (Eq.symm (aX h50 O))).symm),(Nat.lt_of_lt_of_le (by rw [List.length_take];omega) (Nat.le_of_lt_succ hq1)),trivial,⟨rfl,(OwnG.take hO_cut oo_)⟩,rfl⟩
   refine go_ ?_;refine hK_u41 _ _ pp_ ⟨_,s0,cut,p_cut,c_cut,L_cut,(by exact hT1.symm.trans (Eq.symm (aJ h50 O))),⟨rfl,hO_cut⟩,rfl⟩
 rintro g M ⟨cut,p_cut,c_cut,L_cut,hCu41,⟨hg7,hO_cut⟩,rfl⟩;refine gS1 hg7 ?_;clear hg7;have hm_cut:=OwnG.max hO_cut;refine go3 ?_;refine sQ (dW jB O (rO hO_cut lZ)) O (go2 ?_);refine aH _ O (fun h52=>?_) (fun h52=>?_)
 ·have ph52:=of_decide_eq_true h52;refine go_ ?_;refine aZ O (aN (E:=31) (e:=elI) (l:=F_poly_bad) (fun v=>v) aB O (fun w hw=>pZ  w) (fun p53 c54 L55 hF56=>go3 ?_));refine rt1 ?_
  have hE:(F_poly_bad:(List I))=(nY n f o):=by exact trs (Eq.symm (smS hCu4)) (trs (Eq.symm (apS hCu41)) (aX h52 O))
  rw [← hE];exact ⟨_,rfl,⟨L55,lZ,hF56⟩⟩
 have ph52:=of_decide_eq_false h52;refine go6 ?_;refine rt1 ?_
 have hE:(cut:(List I))=(nY n f o):=by exact trs (Eq.symm (smS hCu4)) (trs (Eq.symm (apS hCu41)) (aJ h52 O))
 rw [← hE];exact ⟨_,rfl,⟨L_cut,lZ,hO_cut⟩⟩
theorem JO (vl:Value) (l:(List I)) (vf:Value) (f:I→Bool) (w:World) (hl:Slr w elI vl l) (hf:FnV prog w vf eI (fun _=>True) (UI f)) :
    Calls prog 242 [vl,vf].toArray w (fun e w'=>e = .returned (.int .i64 ((tP l f).1))∧Ext w w'):=by
 obtain ⟨p_l,c_l,rfl⟩:=hl.form;obtain ⟨g_f,c_f,rfl,Hf⟩:=hf.open;refine cM (N:=19) func242 O O zz_ ?_;obtain ⟨w0,rfl⟩:=nm w;have Hl:=hl.old;have hm_l:=hl.max;refine giI ?_;refine go6 ?_;refine sQ (dW jB O (SLe.sub Hl sn)) O (go2 ?_);refine gJ3 (rg [4,5] 8 11) (fun g M=>∃ (i:Nat),(lU l f (l.length+1) 0) = .inl i∧(g 8 = .int .i64 (i:Int))∧M=[]) (fun K_u1 hK_u1=>?_) ?_
 ·refine go_ ?_;refine bX (rg [4,5] 8 11) (fun g nn M=>∃ (i:Nat),(lU l f nn i)=(lU l f (l.length+1) 0)∧l.length - i<nn∧(i≤l.length)∧(g 8 = .int .i64 (i:Int))∧M=[]) (l.length+1) ?start ?round
  case start=>exact ⟨_,s0,0,rfl,o1_,o1_,rfl,rfl⟩
  case round =>
   rintro nn g M ⟨i,hT0,hq0,hinv0,hg8,rfl⟩;obtain ⟨k0,rfl⟩:∃ m,nn=m+1:=⟨nn - 1,by omega⟩;refine gS1 hg8 ?_;clear hg8;refine go4 ?_;refine aH _ O (fun h6=>?_) (fun h6=>?_)
   ·have ph6:=of_decide_eq_true h6;refine BG ?_;refine sQ (aY (v':=.pointer (some (slb (.slice p_l l.length c_l) (i*18+0)))) (kJ (e:=elI) (l:=l) (k:=i) jB O O (SLe.sub Hl sn) o2_) O) O ?_;refine sQ (kW (e:=elI) (l:=l) (k:=i) (o:=0) tyT O (SLe.sub Hl sn) (dS I0 o2_) O) O ?_;refine sQ (aY (v':=.bool (f (l.getD i I0))) (PH (x:=(l.getD i I0)) O O (FnE.sub Hf sn) trivial) O) O (go_ ?_);refine aH _ O (fun h7=>?_) (fun h7=>?_)
    ·refine go5 ?_;refine rt1 ?_;refine (show (.int .i64 (i:Int):Value) = .int .i64 ((W.cv (i:Int)).1) by simp only [cvE (t:=(i:Int)) oo_]).trans ?_;exact congrArg vS9 (show _=(tP l f) from (BZ O (hT0.symm.trans (Eq.symm (aX h6 (aX h7 O))))))
    refine go2 ?_;refine sWi (((i+1):Nat):Int) O (go2 ?_);refine ⟨pp_,_,_,s0,(Nat.lt_succ_self _),(i+1),(by exact (hT0.symm.trans (Eq.symm (aX h6 (aJ h7 O)))).symm),(Nat.lt_of_lt_of_le o1_ (Nat.le_of_lt_succ hq0)),o1_,rfl,rfl⟩
   have ph6:=of_decide_eq_false h6;refine go_ ?_;refine hK_u1 _ _ pp_ ⟨_,s0,i,(by exact hT0.symm.trans (Eq.symm (aJ h6 O))),rfl,rfl⟩
 rintro g M ⟨i,hCu1,hg8,rfl⟩;refine gS1 hg8 ?_;clear hg8;refine go4 ?_;refine rt1 ?_;exact congrArg vS9 (show _=(tP l f) from trs (Eq.symm (smS hCu1)) O)
theorem FE (vl:Value) (l:(List I)) (vf:Value) (f:I→Bool) (w:World) (hl:Slr w elI vl l) (hf:FnV prog w vf eI (fun _=>True) (UI f)) :
  Calls prog 189 [vl,vf].toArray w (fun e w'=>e = .returned (.bool (sG l f))∧Ext w w'):=by
 obtain ⟨p_l,c_l,rfl⟩:=hl.form;obtain ⟨g_f,c_f,rfl,Hf⟩:=hf.open;refine cM (N:=9) func189 O O zz_ ?_;obtain ⟨w0,rfl⟩:=nm w;have Hl:=hl.old;have hm_l:=hl.max;refine giI ?_;refine go6 ?_;refine sFc (.int .i64 ((tP l f).1)) O (fun w hw=>JO _ l _ f w (aR hw Hl sn) (FnE.ap hw (FnE.sub Hf sn))) O O (go4 ?_);refine rt1 ?_;exact (by rfl)
theorem FJ (a:I) :
  Ret prog 190 [AV [pI a]] (.bool (uK a)):=by
 refine bG (N:=6) func190 O O zz_ (fun w0=>?_);refine giI ?_;refine go2 ?_;intro b1 hb1;refine go4 ?_;refine sQ (bE aB (wF a) O) O (go4 ?_);refine rt1 ?_;exact (by rfl)
theorem nG (vp:Value) (p:(List I)) (w:World) (hp:Slr w elI vp p) :
  Calls prog 107 [vp].toArray w (fun e w'=>e = .returned (.bool (dC p))∧Ext w w'):=by
 obtain ⟨p_p,c_p,rfl⟩:=hp.form;refine cM (N:=5) func107 O O zz_ ?_;obtain ⟨w0,rfl⟩:=nm w;have Hp:=hp.old;have hm_p:=hp.max;refine giI ?_;refine go5 ?_;refine sFc (.bool (sG p (fun (y:I)=>(uK y)))) O (fun w hw=>FE _ p _ (fun (y:I)=>(uK y)) w (aR hw Hp sn) (FnV.mk hw aB (fun w hw x hx=>(FJ x) w))) O O (go3 ?_);refine rt1 ?_;exact (by rfl)
theorem H6 (vl:Value) (l:(List Rt)) (vf:Value) (f:Rt→Bool) (w:World) (hl:Slr w elRt vl l) (hf:FnV prog w vf eRt (fun _=>True) (UI f)) :
    Calls prog 173 [vl,vf].toArray w (fun e w'=>e = .returned (.int .i64 ((pR l f).1))∧Ext w w'):=by
 obtain ⟨p_l,c_l,rfl⟩:=hl.form;obtain ⟨g_f,c_f,rfl,Hf⟩:=hf.open;refine cM (N:=19) func173 O O zz_ ?_;obtain ⟨w0,rfl⟩:=nm w;have Hl:=hl.old;have hm_l:=hl.max;refine giI ?_;refine go6 ?_;refine sQ (dW sL O (SLe.sub Hl sn)) O (go2 ?_);refine gJ3 (rg [4,5] 8 11) (fun g M=>∃ (i:Nat),(k7 l f (l.length+1) 0) = .inl i∧(g 8 = .int .i64 (i:Int))∧M=[]) (fun K_u1 hK_u1=>?_) ?_
 ·refine go_ ?_;refine bX (rg [4,5] 8 11) (fun g nn M=>∃ (i:Nat),(k7 l f nn i)=(k7 l f (l.length+1) 0)∧l.length - i<nn∧(i≤l.length)∧(g 8 = .int .i64 (i:Int))∧M=[]) (l.length+1) ?start ?round
  case start=>exact ⟨_,s0,0,rfl,o1_,o1_,rfl,rfl⟩
  case round =>
   rintro nn g M ⟨i,hT0,hq0,hinv0,hg8,rfl⟩;obtain ⟨k0,rfl⟩:∃ m,nn=m+1:=⟨nn - 1,by omega⟩;refine gS1 hg8 ?_;clear hg8;refine go4 ?_;refine aH _ O (fun h6=>?_) (fun h6=>?_)
   ·have ph6:=of_decide_eq_true h6;refine BG ?_;refine sQ (aY (v':=.pointer (some (slb (.slice p_l l.length c_l) (i*36+0)))) (kJ (e:=elRt) (l:=l) (k:=i) sL O O (SLe.sub Hl sn) o2_) O) O ?_;refine sQ (kW (e:=elRt) (l:=l) (k:=i) (o:=0) tyT O (SLe.sub Hl sn) (dS Rt0 o2_) O) O ?_;refine sQ (aY (v':=.bool (f (l.getD i Rt0))) (PH (x:=(l.getD i Rt0)) O O (FnE.sub Hf sn) trivial) O) O (go_ ?_);refine aH _ O (fun h7=>?_) (fun h7=>?_)
    ·refine go5 ?_;refine rt1 ?_;refine (show (.int .i64 (i:Int):Value) = .int .i64 ((W.cv (i:Int)).1) by simp only [cvE (t:=(i:Int)) oo_]).trans ?_;exact congrArg vS9 (show _=(pR l f) from (BZ O (hT0.symm.trans (Eq.symm (aX h6 (aX h7 O))))))
    refine go2 ?_;refine sWi (((i+1):Nat):Int) O (go2 ?_);refine ⟨pp_,_,_,s0,(Nat.lt_succ_self _),(i+1),(by exact (hT0.symm.trans (Eq.symm (aX h6 (aJ h7 O)))).symm),(Nat.lt_of_lt_of_le o1_ (Nat.le_of_lt_succ hq0)),o1_,rfl,rfl⟩
   have ph6:=of_decide_eq_false h6;refine go_ ?_;refine hK_u1 _ _ pp_ ⟨_,s0,i,(by exact hT0.symm.trans (Eq.symm (aJ h6 O))),rfl,rfl⟩
 rintro g M ⟨i,hCu1,hg8,rfl⟩;refine gS1 hg8 ?_;clear hg8;refine go4 ?_;refine rt1 ?_;exact congrArg vS9 (show _=(pR l f) from trs (Eq.symm (smS hCu1)) O)
theorem yM (vl:Value) (l:(List Rt)) (vf:Value) (f:Rt→Bool) (w:World) (hl:Slr w elRt vl l) (hf:FnV prog w vf eRt (fun _=>True) (UI f)) :
  Calls prog 99 [vl,vf].toArray w (fun e w'=>e = .returned (.bool (kN l f))∧Ext w w'):=by
 obtain ⟨p_l,c_l,rfl⟩:=hl.form;obtain ⟨g_f,c_f,rfl,Hf⟩:=hf.open;refine cM (N:=9) func99 O O zz_ ?_;obtain ⟨w0,rfl⟩:=nm w;have Hl:=hl.old;have hm_l:=hl.max;refine giI ?_;refine go6 ?_;refine sFc (.int .i64 ((pR l f).1)) O (fun w hw=>H6 _ l _ f w (aR hw Hl sn) (FnE.ap hw (FnE.sub Hf sn))) O O (go4 ?_);refine rt1 ?_;exact (by rfl)
theorem GR (a:Rt) :
  Ret prog 277 [AV [pI a.n,pI a.d]] (.bool (lY a)):=by
 refine bG (N:=6) func277 O O zz_ (fun w0=>?_);refine giI ?_;refine go2 ?_;intro b1 hb1;refine go4 ?_;refine sQ (bE aB (eP a) O) O (go4 ?_);refine rt1 ?_;exact (by rfl)
theorem yW (vl:Value) (l:(List Rt)) (w:World) (hl:Slr w elRt vl l) :
  Calls prog 256 [vl].toArray w (fun e w'=>e = .returned (.bool (k8 l))∧Ext w w'):=by
 obtain ⟨p_l,c_l,rfl⟩:=hl.form;refine cM (N:=6) func256 O O zz_ ?_;obtain ⟨w0,rfl⟩:=nm w;have Hl:=hl.old;have hm_l:=hl.max;refine giI ?_;refine go5 ?_;refine sFc (.bool (kN l (fun (y:Rt)=>(lY y)))) O (fun w hw=>yM _ l _ (fun (y:Rt)=>(lY y)) w (aR hw Hl sn) (FnV.mk hw aB (fun w hw x hx=>(GR x) w))) O O (go4 ?_);refine rt1 ?_;exact (by rfl)
end Go.Proofs.YtkjjponijamaoaaGreatDoor
namespace Go.Num
open Go Go.Kn
def zrI (x:I):Bool:=(Z.signW x.dec).1==0
def nU (l:List I):List I:=(l.reverse.dropWhile zrI).reverse
def badp:List I:=[E Z.bad]
def mkP (l:List I):List I:=bif l.all gdI then (if (nU l).length≤25 then nU l else badp) else badp
theorem vX (l:List I) (x:I):nU (l++[x])=bif zrI x then nU l else l++[x]:=by
 unfold nU;rw [List.reverse_append]
 show (List.dropWhile zrI (x::l.reverse)).reverse=_
 rw [List.dropWhile_cons]
 cases zrI x
 ·show (x::l.reverse).reverse=_
  simp
 rfl
theorem w6 (l:List I):nU l=l.take (nU l).length:=by
 have h:nU l <+: l:=by
  unfold nU;have:=List.dropWhile_suffix zrI (l:=l.reverse);have h2:=List.reverse_prefix.2 this
  rwa [List.reverse_reverse] at h2
 obtain ⟨r,hr⟩:=h;have h3:(nU l++r).take (nU l).length=nU l:=List.take_left;rw [hr] at h3;exact h3.symm
theorem EX (l:List I):(nU l).length≤l.length:=by
 rw [w6,List.length_take];omega
theorem MW (l:List I):(mkP l).length≤25:=by
 unfold mkP
 cases l.all gdI
 ·exact Nat.le_of_ble_eq_true O
 simp only [cond_true]
 split
 ·assumption
 exact Nat.le_of_ble_eq_true O
theorem xU {α:Type} (l:List α):l=[] ∨ ∃ m x,l=m++[x]:=by
 rcases List.eq_nil_or_concat l with h|⟨m,x,h⟩
 ·exact .inl h
 exact .inr ⟨m,x,by rw [h];simp⟩
theorem D8 (n:Int) (f:Nat→I) (o:I→I) (out:List I) (i:Nat):∀ (k:Nat) (cut:List I),cut.length<k→kH n f o out i k cut=nU cut
 | 0,cut,h=>absurd h (Nat.not_lt_zero _)
 | k+1,cut,h=>by
  unfold kH;rcases xU cut with rfl|⟨m,x,rfl⟩
  ·rfl
  rw [vX];have e1:decide (0<((m++[x]).length:Int))=true:=decide_eq_true (by simp only [List.length_append,List.length_cons,List.length_nil];omega)
  have e2:(m++[x]).length - 1=m.length:=by simp
  rw [e1,e2]
  have e3:(m++[x]).getD m.length I0=x:=by simp
  have e4:(m++[x]).take m.length=m:=by simp
  rw [e3,e4,Bool.true_and]
  show (bif zrI x then _ else _)=_
  rw [D8 n f o out i k m (by simp only [List.length_append,List.length_cons,List.length_nil] at h;omega)]
theorem GB (i m:Nat):List.range' i (m+1)=i::List.range' (i+1) m:=rfl
theorem F1 (n:Int) (f:Nat→I) (o:I→I):∀ (k:Nat) (out:List I) (i:Nat),n.toNat - i<k →
  kG n f o k out i=bif ((List.range' i (n.toNat - i)).map fun j=>o (f j)).all gdI then .inl (out++(List.range' i (n.toNat - i)).map fun j=>o (f j),i+(n.toNat - i)) else .inr badp
 | 0,out,i,h=>absurd h (Nat.not_lt_zero _)
 | k+1,out,i,h=>by
  unfold kG
  by_cases hi:i<n.toNat
  ·rw [decide_eq_true oo_,cond_true]
   obtain ⟨m,hm⟩:∃ m,n.toNat - i=m+1:=⟨n.toNat - i - 1,by omega⟩
   have hm':n.toNat - (i+1)=m:=by omega
   rw [hm,GB,List.map_cons,List.all_cons,F1 n f o k _ _ oo_,hm']
   show (bif gdI (o (f i)) then _ else _)=_
   cases gdI (o (f i))
   ·rfl
   simp only [cond_true,Bool.true_and,List.append_assoc,List.cons_append,List.nil_append];rw [show i+1+m=i+(m+1) by omega]
  rw [decide_eq_false oo_,cond_false,show n.toNat - i=0 by omega]
  simp
theorem wK (n:Int) (f:Nat→I) (o:I→I):jQ n f o=mkP ((List.range n.toNat).map fun j=>o (f j)):=by
 unfold jQ mkP;rw [F1 n f o _ _ _ oo_,Nat.sub_zero,← List.range_eq_range']
 cases ((List.range n.toNat).map fun j=>o (f j)).all gdI
 ·rfl
 simp only [cond_true,sm,ap,List.nil_append];rw [D8 _ _ _ _ _ _ _ (Nat.lt_succ_self _)]
 by_cases h:(nU ((List.range n.toNat).map fun j=>o (f j))).length≤25
 ·rw [if_pos h,decide_eq_false oo_,cond_false]
 rw [if_neg h,decide_eq_true oo_,cond_true];rfl
theorem KK (n:Int) (f:Nat→Go.Num.W) (o:Go.Num.W→I) (out:List I) (i:Nat):∀ (k:Nat) (cut:List I),lP n f o out i k cut=kH n (fun _=>I0) (fun x=>x) out i k cut
 | 0,cut=>rfl
 | k+1,cut=>by unfold lP kH;rw [KK n f o out i k]
theorem D4 (n:Int) (f:Nat→Go.Num.W) (o:Go.Num.W→I):∀ (k:Nat) (out:List I) (i:Nat),lO n f o k out i=kG n (fun j=>o (f j)) (fun x=>x) k out i
 | 0,out,i=>rfl
 | k+1,out,i=>by unfold lO kG;rw [D4 n f o k]
theorem FC (n:Int) (f:Nat→Go.Num.W) (o:Go.Num.W→I):nY n f o=mkP ((List.range n.toNat).map fun j=>o (f j)):=by
 rw [← wK n (fun j=>o (f j)) (fun x=>x)];unfold nY jQ;rw [D4]
 congr 1
 funext s
 simp only [ap];rw [KK,D8 _ _ _ _ _ _ _ (Nat.lt_succ_self _),D8 _ _ _ _ _ _ _ (Nat.lt_succ_self _)]
theorem cg_ (x:I):((Z.signW x.dec).1 != 0) = !zrI x:=rfl
theorem I7 (l:List I) {i:Nat} (h:i<l.length):l.take (i+1)=l.take i++[l.getD i I0]:=by
 rw [List.take_add_one,List.getElem?_eq_getElem h]
 simp [List.getD,List.getElem?_eq_getElem h]
theorem vP (l:List I) {i:Nat} (h:i<l.length):l.drop i=l.getD i I0::l.drop (i+1):=by
 rw [List.drop_eq_getElem_cons h]
 simp [List.getD,List.getElem?_eq_getElem h]
theorem CC (l:List I):∀ (k:Nat) (last:Int) (i:Nat),l.length - i<k→i≤l.length→last+1=((nU (l.take i)).length:Nat) →
  hP l k last i=bif (l.drop i).all gdI then .inl (((nU l).length:Int) - 1,l.length) else .inr badp
 | 0,last,i,h,_,_=>absurd h (Nat.not_lt_zero _)
 | k+1,last,i,h,hi,hl=>by
  unfold hP
  by_cases hlt:i<l.length
  ·rw [decide_eq_true oo_,cond_true,vP l hlt,List.all_cons]
   show (bif gdI (l.getD i I0) then _ else _)=_
   cases gdI (l.getD i I0)
   ·rfl
   simp only [cond_true,Bool.true_and,cg_];have hs:=vX (l.take i) (l.getD i I0);rw [← I7 l hlt] at hs
   cases hz:zrI (l.getD i I0)
   ·rw [hz] at hs
    simp only [Bool.not_false,cond_true];refine CC l k _ _ oo_ oo_ ?_;rw [hs,cond_false,List.length_take,Nat.min_eq_left oo_];omega
   rw [hz] at hs;simp only [Bool.not_true,cond_false];refine CC l k _ _ oo_ oo_ ?_;rw [hs];exact hl
  have e:i=l.length:=by omega
  subst e;rw [decide_eq_false oo_,cond_false,List.drop_length];rw [List.take_length] at hl
  show _=Sum.inl _
  rw [show last=((nU l).length:Int) - 1 by omega]
theorem GD (l:List I) (last:Int) (i:Nat):∀ (k:Nat) (out:List I) (j:Nat),(last+1).toNat - j<k→out=l.take j→(last+1).toNat≤l.length→j≤(last+1).toNat →
  (jC l last i k out j).1=l.take (last+1).toNat
 | 0,out,j,h,_,_,_=>absurd h (Nat.not_lt_zero _)
 | k+1,out,j,h,ho,hl,hj=>by
  unfold jC
  by_cases hc:(j:Int)≤last
  ·rw [decide_eq_true hc,cond_true]
   refine GD l last i k _ _ oo_ ?_ hl oo_;rw [ho,I7 l oo_]
  rw [decide_eq_false hc,cond_false]
  show out=_
  rw [ho];congr 1;omega
theorem xP (l:List I):bD l=mkP l:=by
 unfold bD mkP;rw [CC l _ _ _ oo_ (Nat.zero_le _) (by rw [List.take_zero];rfl),List.drop_zero]
 cases l.all gdI
 ·rfl
 simp only [cond_true,sm,ap];have hle:=EX l
 by_cases h:(nU l).length≤25
 ·rw [if_pos h,decide_eq_false oo_,cond_false]
  rw [GD l _ _ _ _ _ oo_ (by rw [List.take_zero]) oo_ oo_];rw [show (((nU l).length:Int) - 1+1).toNat=(nU l).length by omega];exact (w6 l).symm
 rw [if_neg h,decide_eq_true oo_,cond_true];rfl
theorem pW {c:Bool} {x y:List I} (h:x.length≤25) (k:y.length≤25):(bif c then x else y).length≤25:=by cases c<;>assumption
theorem tF:badp.length≤25:=Nat.le_of_ble_eq_true O
theorem FD (n:Int) (f:Nat→I) (o:I→I):(jQ n f o).length≤25:=by rw [wK];exact MW _
theorem BX:F_skewbackref08_bad.length≤25:=tF
theorem wB (l:List I):(gR l).length≤25:=FD _ _ _
theorem lB (l:List W):(cX l).length≤25:=by unfold cX;rw [FC];exact MW _
theorem wC (p q:List I) (f:I→I→I):(jG p q f).length≤25:=pW tF (FD _ _ _)
theorem fB (p q:List I):(bC p q).length≤25:=wC _ _ _
theorem pY (p q:List I):(jM p q).length≤25:=wC _ _ _
theorem gX (p q:List I):(aV p q).length≤25:=pW tF (pW (Nat.zero_le _) (FD _ _ _))
theorem dL (p:List I) (n:I):(bK p n).length≤25:=pW (wC _ _ _) tF
theorem o7 (p:List I):(iJ p).length≤25:=wC _ _ _
theorem tT (l:List I):(bD l).length≤25:=by rw [xP];exact MW _
theorem jV (l:List I):(bD l).length≤25:=tT l
theorem iE (l:List W):(bL l).length≤25:=tT _
theorem cH (p q:List I):(aG p q).length≤25:=pW tF (tT _)
theorem lX (p q:List I):(dJ p q).length≤25:=pW tF (tT _)
theorem fY (p q:List I):(aU p q).length≤25:=pW tF (pW (Nat.zero_le _) (tT _))
theorem cI (p:List I) (n:I):(aK p n).length≤25:=pW tF (tT _)
theorem mT (p:List I):(dY p).length≤25:=pW tF (tT _)
theorem GA (d:I) (n:Int):∀ (k:Nat) (out:List I),n.toNat - out.length<k→1≤out.length→(j3 d n k out).length=max n.toNat out.length
 | 0,out,h,_=>absurd h (Nat.not_lt_zero _)
 | k+1,out,h,h1=>by
  unfold j3
  by_cases hc:(out.length:Int)<n
  ·rw [decide_eq_true hc,cond_true,GA d n k _ (by simp only [List.length_append,List.length_cons,List.length_nil];omega) (by simp)]
   simp only [List.length_append,List.length_cons,List.length_nil];omega
  rw [decide_eq_false hc,cond_false];omega
theorem A5 (d:I) (n:Int):(eA d n).length=max n.toNat 1:=GA d n _ _ (by simp only [List.length_cons,List.length_nil];omega) (by simp)
theorem AY (n i j:Int) (m:I):∀ (t:Nat) (out:List I) (k:Nat) (w:I),(i+1).toNat - k<t→out.length=k→k≤(i+1).toNat→(kD n i j m t out k w).1.length=(i+1).toNat
 | 0,out,k,w,h,_,_=>absurd h (Nat.not_lt_zero _)
 | t+1,out,k,w,h,h1,h2=>by
  unfold kD
  by_cases hc:(k:Int)<i+1
  ·rw [decide_eq_true hc,cond_true]
   have hl:(out++[w]).length=k+1:=by simp [h1]
   cases decide ((k:Int)<n)
   ·exact AY n i j m t _ _ _ oo_ hl oo_
   exact AY n i j m t _ _ _ oo_ hl oo_
  rw [decide_eq_false hc,cond_false]
  show out.length=_
  omega
theorem FL (n i:Int):(eG n i).length=(i+1).toNat:=AY n i _ _ _ _ _ _ oo_ O (Nat.zero_le _)
end Go.Num
