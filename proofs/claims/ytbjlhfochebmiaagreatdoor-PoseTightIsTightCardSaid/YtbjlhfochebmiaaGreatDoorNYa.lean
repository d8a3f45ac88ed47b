/- Lemmas: what they ask stands in their statements. -/
import Derived.Test.YtbjlhfochebmiaaGreatDoorNGc
set_option linter.unusedSimpArgs false
set_option linter.unusedVariables false
set_option maxHeartbeats 8000000
set_option maxRecDepth 20000
namespace Go.Proofs.YtbjlhfochebmiaaGreatDoor
open Go.Kn Go.Num Tryz
attribute [local irreducible] Go.Kn.W WL PL OpQ OpR OpS
theorem DH (a:I) :
  Ret prog 137 [AV [pI a]] (AV [pI (mM a)]):=by
 refine bJ (N:=4) func137 O O zz_ (fun w0=>?_);refine giI ?_;refine go2 ?_;intro b1 hb1;refine go_ ?_;intro b2 hb2;refine go6 ?_;refine rtX O (fF O m0 tyT O) ?_;exact (by rfl)
theorem v7 (a:I) :
    Ret prog 129 [AV [pI a]] (.bool (o4 a)):=by
 refine bJ (N:=10) func129 O O zz_ (fun w0=>?_);refine giI ?_;refine go2 ?_;intro b1 hb1;refine go2 ?_;refine gJv (rg [] 2 8) [(2,.bool (!a.1.bad&&a.1.valid))] (fun K1 J1=>?_) ?_
 ·refine go4 ?_;rcases bt a.1.bad with h3|h3
  ·refine sB (fZ h3) O (go5 ?_);refine J1 _ _ pp_ s0 (bS (vO h3))
  refine sB (gA h3) O (go_ ?_);refine sC (.bool a.1.valid) aE (tO a.1 a.2) O O O (go3 ?_);refine J1 _ _ pp_ s0 (bS (rY h3 O))
 intro g4;refine go_ ?_;refine rt1 ?_;exact (by rfl)
theorem qV  (w:World)  :
  Calls prog 130 [].toArray w (fun e w'=>∃ v,e = .returned (v)∧Ext w w'∧Slo w.heap.size w' 33 elI v F_poly_bad):=by
 refine gQ (n:=3) (fun v=>v) func130 O O zz_ ?_;obtain ⟨w0,rfl⟩:=nm w;refine giI ?_;obtain ⟨q0,hq0⟩:=nm ((E Z.bad):I);refine go4 ?_;refine sC (AV [pI q0]) aE fS O O (by subst hq0;rfl) (bI O (cO [[pI q0]] [pI q0] DK lU rL O dd_ O O ⟨rfl,rfl,rfl,trivial⟩ O (fun b1 hb1=>go3 ?_)));refine rt1 ?_
 have hE:([q0]:(List I))=F_poly_bad:=by obtain rfl:=hq0.symm;exact rfl
 rw [← hE];exact ⟨_,rfl,⟨_,(sk sn),OwnG.lit (e:=elI) (l:=[q0]) (qs:=[pI q0]) hb1 O (Nat.le_of_ble_eq_true O) O⟩⟩
theorem CG (n:Int) (vf:Value) (f:Nat→I) (vo:Value) (o:I→I) (w:World) (hf:FnV prog w vf eN (fun k=>(k:Int)<n) (YS f)) (ho:FnV prog w vo eI (fun _=>True) (YS o)) (hpre:n≤200) :
    Calls prog 135 [.int .i64 n,vf,vo].toArray w (fun e w'=>∃ v,e = .returned (v)∧Ext w w'∧Slo w.heap.size w' 33 elI v (jH n f o)):=by
 obtain ⟨g_f,c_f,rfl,Hf⟩:=hf.open;obtain ⟨g_o,c_o,rfl,Ho⟩:=ho.open;refine gQ (n:=55) (fun v=>v) func135 O O zz_ ?_;obtain ⟨w0,rfl⟩:=nm w;refine giI ?_;refine go5 ?_;refine sQ (aS (v':=.int .i64 (n.toNat:Int)) (nV O O) (congrArg (Value.int .i64) oo_)) O (bI O (TN (E:=33) (e:=elI) (n:=0) (c:=(n).toNat) 68 I0 DK (by kernel_rfl) dd_ (by kernel_rfl) O O oo_ oo_ oo_ oo_ dd_ dd_ (fun p1 L2 hO3=>go5 ?_)));refine sQ (aS (v':=.int .i64 (n.toNat:Int)) (nV O O) (congrArg (Value.int .i64) oo_)) O (go2 ?_);refine gJ3 (rg [6,7,8,9] 15 17) (fun g M=>∃ (out:List I) (i:Nat) (p_out:Option Addr) (c_out:Nat) (L_out:List Blk),(jI n f o (n.toNat+1) ([]:List I) 0) = .inl (out,i)∧(g 7 = .slice p_out out.length c_out∧g 15 = .int .i64 (i:Int)∧OwnG w0 33 elI (.slice p_out out.length c_out) out L_out)∧M=(L_out++[])) (fun K_u4 hK_u4=>?_) ?_
 ·refine go_ ?_;refine cI (rg [6,7,8,9] 15 17) (fun g nn M=>∃ (out:List I) (i:Nat) (p_out:Option Addr) (c_out:Nat) (L_out:List Blk),(jI n f o nn out i)=(jI n f o (n.toNat+1) ([]:List I) 0)∧n.toNat - i<nn∧(i≤n.toNat∧out.length=i)∧(g 7 = .slice p_out out.length c_out∧g 15 = .int .i64 (i:Int)∧OwnG w0 33 elI (.slice p_out out.length c_out) out L_out)∧M=(L_out++[])) (n.toNat+1) ?start ?round
  case start=>exact ⟨_,s0,([]:List I),0,p1,(n.toNat),L2,rfl,o1_,⟨by omega,rfl⟩,⟨rfl,rfl,hO3⟩,rfl⟩
  case round =>
   rintro nn g M ⟨out,i,p_out,c_out,L_out,hT0,hq0,hinv0,⟨hg7,hg15,hO_out⟩,rfl⟩;obtain ⟨k0,rfl⟩:∃ m,nn=m+1:=⟨nn - 1,by omega⟩;refine gS2 hg7 hg15 ?_;clear hg7 hg15;have hm_out:=OwnG.max hO_out;refine go4 ?_;refine aN _ O (fun h29=>?_) (fun h29=>?_)
   ·have ph29:=of_decide_eq_true h29;refine wN ?_;refine sQ (aS (v':=AV [pI (f i)]) (RU (x:=i) O O (FnE.sub Hf sn) (by show (i:Int)<n;omega)) O) O (sQ (aS (v':=AV [pI (o (f i))]) (RU (x:=(f i)) O O (FnE.sub Ho sn) trivial) O) O (go_ ?_));intro b30 hb30;refine go5 ?_;refine sQ (aX aE (v7 (o (f i))) O) O (go2 ?_);rcases bt (o4 (o (f i))) with h31|h31
    ·refine W_f (fZ h31) O (go4 ?_);refine bI O (cO [[pI (o (f i))]] [pI (o (f i))] DK lU rL O dd_ O O ⟨rfl,rfl,rfl,trivial⟩ O (fun b32 hb32=>bI O (mL (e:=elI) (l:=out) (m:=[(o (f i))]) 68 DK (by kernel_rfl) dd_ O O hO_out (SLe.lit (e:=elI) (l:=[(o (f i))]) m0 O (Nat.le_of_ble_eq_true O) O) (vD (vD rE)) (by show (out.length+1)*68≤_;omega) dd_ (fun p33 c34 L35 hO36=>go3 ?_))));refine sWi (((i+1):Nat):Int) O (go2 ?_);refine ⟨pp_,_,_,(sA (sd (sd s0))),(Nat.lt_succ_self _),(out++[(o (f i))]),(i+1),p33,c34,L35,(by exact (hT0.symm.trans (Eq.symm (aC h29 (aC h31 O)))).symm),(Nat.lt_of_lt_of_le o1_ (Nat.le_of_lt_succ hq0)),⟨by omega,(by rw [List.length_append];show _+1=_;omega)⟩,⟨rfl,rfl,hO36⟩,rfl⟩
    refine W_t (gA h31) O (go_ ?_);refine bI O (cG (E:=33) (e:=elI) (l:=F_poly_bad) (fun v=>v) aE O (fun w hw=>qV  w) (fun p37 c38 L39 hF40=>go3 ?_));refine rt1 ?_
    have hE:(F_poly_bad:(List I))=(jH n f o):=by exact (wQ O (hT0.symm.trans (Eq.symm (aC h29 (aH h31 O)))))
    rw [← hE];exact ⟨_,rfl,⟨L39,lZ,hF40⟩⟩
   have ph29:=of_decide_eq_false h29;refine go_ ?_;refine hK_u4 _ _ pp_ ⟨_,s0,out,i,p_out,c_out,L_out,(by exact hT0.symm.trans (Eq.symm (aH h29 O))),⟨rfl,rfl,hO_out⟩,rfl⟩
 rintro g M ⟨out,i,p_out,c_out,L_out,hCu4,⟨hg7,hg15,hO_out⟩,rfl⟩;refine gS2 hg7 hg15 ?_;clear hg7 hg15;have hm_out:=OwnG.max hO_out;refine pH (rg [7] 32 18) (fun g M=>∃ (cut:List I) (p_cut:Option Addr) (c_cut:Nat) (L_cut:List Blk),(jJ n f o out i (out.length+1) out)=cut∧(g 7 = .slice p_cut cut.length c_cut∧OwnG w0 33 elI (.slice p_cut cut.length c_cut) cut L_cut)∧M=(L_cut++[])) (fun K_u41 hK_u41=>?_) ?_
 ·refine go_ ?_;refine cI (rg [7] 32 18) (fun g nn M=>∃ (cut:List I) (p_cut:Option Addr) (c_cut:Nat) (L_cut:List Blk),(jJ n f o out i nn cut)=(jJ n f o out i (out.length+1) out)∧cut.length<nn∧(True)∧(g 7 = .slice p_cut cut.length c_cut∧OwnG w0 33 elI (.slice p_cut cut.length c_cut) cut L_cut)∧M=(L_cut++[])) (out.length+1) ?start ?round
  case start=>exact ⟨_,s0,out,p_out,c_out,L_out,rfl,(Nat.lt_succ_self _),trivial,⟨rfl,hO_out⟩,rfl⟩
  case round =>
   rintro nn g M ⟨cut,p_cut,c_cut,L_cut,hT1,hq1,hinv1,⟨hg7,hO_cut⟩,rfl⟩;obtain ⟨k1,rfl⟩:∃ m,nn=m+1:=⟨nn - 1,by omega⟩;refine gS1 hg7 ?_;clear hg7;have hm_cut:=OwnG.max hO_cut;refine go_ ?_;refine gJv (rg [] 32 13) [(44,.bool (decide (0<(cut.length:Int))&&((Z.signW (cut.getD (cut.length - 1) I0).dec).1==0)))] (fun K14 J14=>?_) ?_
   ·refine go2 ?_;refine sQ (eK mF O (rO hO_cut lZ)) O (go_ ?_);refine sBB O (fun h48=>?_) (fun h48=>?_)
    ·have ph48:=of_decide_eq_true h48;refine go2 ?_;refine sQ (eK mF O (rO hO_cut lZ)) O (sWi ((cut.length:Int) - 1) O (sQ (aS (v':=.pointer (some (slb (.slice p_cut cut.length c_cut) ((cut.length - 1)*18+0)))) (AL (e:=elI) (l:=cut) (k:=(cut.length - 1)) mF O O oo_ (rO hO_cut lZ) o2_) O) O ?_));refine sQ (iS (e:=elI) (l:=cut) (k:=(cut.length - 1)) (o:=0) tyT O (rO hO_cut lZ) (cL I0 o2_) O) O ?_;refine sC (.int .i64 ((Z.signW (cut.getD (cut.length - 1) I0).dec).1)) aE (iR (cut.getD (cut.length - 1) I0).1 (cut.getD (cut.length - 1) I0).2) O O O (go3 ?_);refine J14 _ _ pp_ s0 (bS (k6 h48 O))
    have ph48:=of_decide_eq_false h48;refine iK ?_;refine J14 _ _ pp_ s0 (bS (oB h48))
   intro g49;refine aN _ O (fun h50=>?_) (fun h50=>?_)
   ·have ph51:=of_decide_eq_true (Bool.and_eq_true_iff.1 h50).1;refine go5 ?_;refine sQ (eK mF O (rO hO_cut lZ)) O (sWi ((cut.length:Int) - 1) O (sQ (TK (e:=elI) (l:=cut) (k:=(cut.length - 1)) mF O O oo_ hO_cut oo_) O (go2 ?_)));refine ⟨pp_,_,_,s0,(Nat.lt_succ_self _),(cut.take (cut.length - 1)),p_cut,c_cut,L_cut,(by exact (hT1.symm.trans (Eq.symm (aC h50 O))).symm),(Nat.lt_of_lt_of_le (by rw [List.length_take];omega) (Nat.le_of_lt_succ hq1)),trivial,⟨rfl,(OwnG.take hO_cut oo_)⟩,rfl⟩
   refine go_ ?_;refine hK_u41 _ _ pp_ ⟨_,s0,cut,p_cut,c_cut,L_cut,(by exact hT1.symm.trans (Eq.symm (aH h50 O))),⟨rfl,hO_cut⟩,rfl⟩
 rintro g M ⟨cut,p_cut,c_cut,L_cut,hCu41,⟨hg7,hO_cut⟩,rfl⟩;refine gS1 hg7 ?_;clear hg7;have hm_cut:=OwnG.max hO_cut;refine go3 ?_;refine sQ (eK mF O (rO hO_cut lZ)) O (go2 ?_);refine aN _ O (fun h52=>?_) (fun h52=>?_)
 ·have ph52:=of_decide_eq_true h52;refine go_ ?_;refine bI O (cG (E:=33) (e:=elI) (l:=F_poly_bad) (fun v=>v) aE O (fun w hw=>qV  w) (fun p53 c54 L55 hF56=>go3 ?_));refine rt1 ?_
  have hE:(F_poly_bad:(List I))=(jH n f o):=by exact trs (Eq.symm (smS hCu4)) (trs (Eq.symm (apS hCu41)) (aC h52 O))
  rw [← hE];exact ⟨_,rfl,⟨L55,lZ,hF56⟩⟩
 have ph52:=of_decide_eq_false h52;refine go6 ?_;refine rt1 ?_
 have hE:(cut:(List I))=(jH n f o):=by exact trs (Eq.symm (smS hCu4)) (trs (Eq.symm (apS hCu41)) (aH h52 O))
 rw [← hE];exact ⟨_,rfl,⟨L_cut,lZ,hO_cut⟩⟩
theorem GE (n:Int) (vf:Value) (f:Nat→Go.Num.W) (vo:Value) (o:Go.Num.W→I) (w:World) (hf:FnV prog w vf eN (fun k=>(k:Int)<n) (fL_ f)) (ho:FnV prog w vo eW (fun _=>True) (YS o)) (hpre:n≤200) :
    Calls prog 138 [.int .i64 n,vf,vo].toArray w (fun e w'=>∃ v,e = .returned (v)∧Ext w w'∧Slo w.heap.size w' 33 elI v (mX n f o)):=by
 obtain ⟨g_f,c_f,rfl,Hf⟩:=hf.open;obtain ⟨g_o,c_o,rfl,Ho⟩:=ho.open;refine gQ (n:=55) (fun v=>v) func138 O O zz_ ?_;obtain ⟨w0,rfl⟩:=nm w;refine giI ?_;refine go5 ?_;refine sQ (aS (v':=.int .i64 (n.toNat:Int)) (nV O O) (congrArg (Value.int .i64) oo_)) O (bI O (TN (E:=33) (e:=elI) (n:=0) (c:=(n).toNat) 68 I0 DK (by kernel_rfl) dd_ (by kernel_rfl) O O oo_ oo_ oo_ oo_ dd_ dd_ (fun p1 L2 hO3=>go5 ?_)));refine sQ (aS (v':=.int .i64 (n.toNat:Int)) (nV O O) (congrArg (Value.int .i64) oo_)) O (go2 ?_);refine gJ3 (rg [6,7,8,9] 15 17) (fun g M=>∃ (out:List I) (i:Nat) (p_out:Option Addr) (c_out:Nat) (L_out:List Blk),(kT n f o (n.toNat+1) ([]:List I) 0) = .inl (out,i)∧(g 7 = .slice p_out out.length c_out∧g 15 = .int .i64 (i:Int)∧OwnG w0 33 elI (.slice p_out out.length c_out) out L_out)∧M=(L_out++[])) (fun K_u4 hK_u4=>?_) ?_
 ·refine go_ ?_;refine cI (rg [6,7,8,9] 15 17) (fun g nn M=>∃ (out:List I) (i:Nat) (p_out:Option Addr) (c_out:Nat) (L_out:List Blk),(kT n f o nn out i)=(kT n f o (n.toNat+1) ([]:List I) 0)∧n.toNat - i<nn∧(i≤n.toNat∧out.length=i)∧(g 7 = .slice p_out out.length c_out∧g 15 = .int .i64 (i:Int)∧OwnG w0 33 elI (.slice p_out out.length c_out) out L_out)∧M=(L_out++[])) (n.toNat+1) ?start ?round
  case start=>exact ⟨_,s0,([]:List I),0,p1,(n.toNat),L2,rfl,o1_,⟨by omega,rfl⟩,⟨rfl,rfl,hO3⟩,rfl⟩
  case round =>
   rintro nn g M ⟨out,i,p_out,c_out,L_out,hT0,hq0,hinv0,⟨hg7,hg15,hO_out⟩,rfl⟩;obtain ⟨k0,rfl⟩:∃ m,nn=m+1:=⟨nn - 1,by omega⟩;refine gS2 hg7 hg15 ?_;clear hg7 hg15;have hm_out:=OwnG.max hO_out;refine go4 ?_;refine aN _ O (fun h29=>?_) (fun h29=>?_)
   ·have ph29:=of_decide_eq_true h29;refine wN ?_;refine sQ (aS (v':=.int .i64 ((f i).1)) (RU (x:=i) O O (FnE.sub Hf sn) (by show (i:Int)<n;omega)) O) O (sQ (aS (v':=AV [pI (o (f i))]) (RU (x:=(f i)) O O (FnE.sub Ho sn) trivial) O) O (go_ ?_));intro b30 hb30;refine go5 ?_;refine sQ (aX aE (v7 (o (f i))) O) O (go2 ?_);rcases bt (o4 (o (f i))) with h31|h31
    ·refine W_f (fZ h31) O (go4 ?_);refine bI O (cO [[pI (o (f i))]] [pI (o (f i))] DK lU rL O dd_ O O ⟨rfl,rfl,rfl,trivial⟩ O (fun b32 hb32=>bI O (mL (e:=elI) (l:=out) (m:=[(o (f i))]) 68 DK (by kernel_rfl) dd_ O O hO_out (SLe.lit (e:=elI) (l:=[(o (f i))]) m0 O (Nat.le_of_ble_eq_true O) O) (vD (vD rE)) (by show (out.length+1)*68≤_;omega) dd_ (fun p33 c34 L35 hO36=>go3 ?_))));refine sWi (((i+1):Nat):Int) O (go2 ?_);refine ⟨pp_,_,_,(sA (sd (sd s0))),(Nat.lt_succ_self _),(out++[(o (f i))]),(i+1),p33,c34,L35,(by exact (hT0.symm.trans (Eq.symm (aC h29 (aC h31 O)))).symm),(Nat.lt_of_lt_of_le o1_ (Nat.le_of_lt_succ hq0)),⟨by omega,(by rw [List.length_append];show _+1=_;omega)⟩,⟨rfl,rfl,hO36⟩,rfl⟩
    refine W_t (gA h31) O (go_ ?_);refine bI O (cG (E:=33) (e:=elI) (l:=F_poly_bad) (fun v=>v) aE O (fun w hw=>qV  w) (fun p37 c38 L39 hF40=>go3 ?_));refine rt1 ?_
    have hE:(F_poly_bad:(List I))=(mX n f o):=by exact (wQ O (hT0.symm.trans (Eq.symm (aC h29 (aH h31 O)))))
    rw [← hE];exact ⟨_,rfl,⟨L39,lZ,hF40⟩⟩
   have ph29:=of_decide_eq_false h29;refine go_ ?_;refine hK_u4 _ _ pp_ ⟨_,s0,out,i,p_out,c_out,L_out,(by exact hT0.symm.trans (Eq.symm (aH h29 O))),⟨rfl,rfl,hO_out⟩,rfl⟩
 rintro g M ⟨out,i,p_out,c_out,L_out,hCu4,⟨hg7,hg15,hO_out⟩,rfl⟩;refine gS2 hg7 hg15 ?_;clear hg7 hg15;have hm_out:=OwnG.max hO_out;refine pH (rg [7] 32 18) (fun g M=>∃ (cut:List I) (p_cut:Option Addr) (c_cut:Nat) (L_cut:List Blk),(kU n f o out i (out.length+1) out)=cut∧(g 7 = .slice p_cut cut.length c_cut∧OwnG w0 33 elI (.slice p_cut cut.length c_cut) cut L_cut)∧M=(L_cut++[])) (fun K_u41 hK_u41=>?_) ?_
 ·refine go_ ?_;refine cI (rg [7] 32 18) (fun g nn M=>∃ (cut:List I) (p_cut:Option Addr) (c_cut:Nat) (L_cut:List Blk),(kU n f o out i nn cut)=(kU n f o out i (out.length+1) out)∧cut.length<nn∧(True)∧(g 7 = .slice p_cut cut.length c_cut∧OwnG w0 33 elI (.slice p_cut cut.length c_cut) cut L_cut)∧M=(L_cut++[])) (out.length+1) ?start ?round
  case start=>exact ⟨_,s0,out,p_out,c_out,L_out,rfl,(Nat.lt_succ_self _),trivial,⟨rfl,hO_out⟩,rfl⟩
  case round =>
   rintro nn g M ⟨cut,p_cut,c_cut,L_cut,hT1,hq1,hinv1,⟨hg7,hO_cut⟩,rfl⟩;obtain ⟨k1,rfl⟩:∃ m,nn=m+1:=⟨nn - 1,by omega⟩;refine gS1 hg7 ?_;clear hg7;have hm_cut:=OwnG.max hO_cut;refine go_ ?_;refine gJv (rg [] 32 13) [(44,.bool (decide (0<(cut.length:Int))&&((Z.signW (cut.getD (cut.length - 1) I0).dec).1==0)))] (fun K14 J14=>?_) ?_
   ·refine go2 ?_;refine sQ (eK mF O (rO hO_cut lZ)) O (go_ ?_);refine sBB O (fun h48=>?_) (fun h48=>?_)
    ·have ph48:=of_decide_eq_true h48;refine go2 ?_;refine sQ (eK mF O (rO hO_cut lZ)) O (sWi ((cut.length:Int) - 1) O (sQ (aS (v':=.pointer (some (slb (.slice p_cut cut.length c_cut) ((cut.length - 1)*18+0)))) (AL (e:=elI) (l:=cut) (k:=(cut.length - 1)) mF O O oo_ (rO hO_cut lZ) o2_) O) O ?_));refine sQ (iS (e:=elI) (l:=cut) (k:=(cut.length - 1)) (o:=0) tyT O (rO hO_cut lZ) (cL I0 o2_) O) O ?_;refine sC (.int .i64 ((Z.signW (cut.getD (cut.length - 1) I0).dec).1)) aE (iR (cut.getD (cut.length - 1) I0).1 (cut.getD (cut.length - 1) I0).2) O O O (go3 ?_);refine J14 _ _ pp_ s0 (bS (k6 h48 O))
    have ph48:=of_decide_eq_false h48;refine iK ?_;refine J14 _ _ pp_ s0 (bS (oB h48))
   intro g49;refine aN _ O (fun h50=>?_) (fun h50=>?_)
   ·have ph51:=of_decide_eq_true (Bool.and_eq_true_iff.1 h50).1;refine go5 ?_;refine sQ (eK mF O (rO hO_cut lZ)) O (sWi ((cut.length:Int) - 1) O (sQ (TK (e:=elI) (l:=cut) (k:=(cut.length - 1)) mF O O oo_ hO_cut oo_) O (go2 ?_)));refine ⟨pp_,_,_,s0,(Nat.lt_succ_self _),(cut.take (cut.length - 1)),p_cut,c_cut,L_cut,(by exact (hT1.symm.trans (Eq.symm (aC h50 O))).symm),(Nat.lt_of_lt_of_le (by rw [List.length_take];omega) (Nat.le_of_lt_succ hq1)),trivial,⟨rfl,(OwnG.take hO_cut oo_)⟩,rfl⟩
   refine go_ ?_;refine hK_u41 _ _ pp_ ⟨_,s0,cut,p_cut,c_cut,L_cut,(by exact hT1.symm.trans (Eq.symm (aH h50 O))),⟨rfl,hO_cut⟩,rfl⟩
 rintro g M ⟨cut,p_cut,c_cut,L_cut,hCu41,⟨hg7,hO_cut⟩,rfl⟩;refine gS1 hg7 ?_;clear hg7;have hm_cut:=OwnG.max hO_cut;refine go3 ?_;refine sQ (eK mF O (rO hO_cut lZ)) O (go2 ?_);refine aN _ O (fun h52=>?_) (fun h52=>?_)
 ·have ph52:=of_decide_eq_true h52;refine go_ ?_;refine bI O (cG (E:=33) (e:=elI) (l:=F_poly_bad) (fun v=>v) aE O (fun w hw=>qV  w) (fun p53 c54 L55 hF56=>go3 ?_));refine rt1 ?_
  have hE:(F_poly_bad:(List I))=(mX n f o):=by exact trs (Eq.symm (smS hCu4)) (trs (Eq.symm (apS hCu41)) (aC h52 O))
  rw [← hE];exact ⟨_,rfl,⟨L55,lZ,hF56⟩⟩
 have ph52:=of_decide_eq_false h52;refine go6 ?_;refine rt1 ?_
 have hE:(cut:(List I))=(mX n f o):=by exact trs (Eq.symm (smS hCu4)) (trs (Eq.symm (apS hCu41)) (aH h52 O))
 rw [← hE];exact ⟨_,rfl,⟨L_cut,lZ,hO_cut⟩⟩
theorem JT (vl:Value) (l:(List I)) (vf:Value) (f:I→Bool) (w:World) (hl:Slr w elI vl l) (hf:FnV prog w vf eI (fun _=>True) (bb_ f)) :
    Calls prog 228 [vl,vf].toArray w (fun e w'=>e = .returned (.int .i64 ((tT l f).1))∧Ext w w'):=by
 obtain ⟨p_l,c_l,rfl⟩:=hl.form;obtain ⟨g_f,c_f,rfl,Hf⟩:=hf.open;refine dB (N:=19) func228 O O zz_ ?_;obtain ⟨w0,rfl⟩:=nm w;have Hl:=hl.old;have hm_l:=hl.max;refine giI ?_;refine go6 ?_;refine sQ (eK mF O (SLe.sub Hl sn)) O (go2 ?_);refine gJ3 (rg [4,5] 8 11) (fun g M=>∃ (i:Nat),(kZ l f (l.length+1) 0) = .inl i∧(g 8 = .int .i64 (i:Int))∧M=[]) (fun K_u1 hK_u1=>?_) ?_
 ·refine go_ ?_;refine cI (rg [4,5] 8 11) (fun g nn M=>∃ (i:Nat),(kZ l f nn i)=(kZ l f (l.length+1) 0)∧l.length - i<nn∧(i≤l.length)∧(g 8 = .int .i64 (i:Int))∧M=[]) (l.length+1) ?start ?round
  case start=>exact ⟨_,s0,0,rfl,o1_,o1_,rfl,rfl⟩
  case round =>
   rintro nn g M ⟨i,hT0,hq0,hinv0,hg8,rfl⟩;obtain ⟨k0,rfl⟩:∃ m,nn=m+1:=⟨nn - 1,by omega⟩;refine gS1 hg8 ?_;clear hg8;refine go4 ?_;refine aN _ O (fun h6=>?_) (fun h6=>?_)
   ·have ph6:=of_decide_eq_true h6;refine wN ?_;refine sQ (aS (v':=.pointer (some (slb (.slice p_l l.length c_l) (i*18+0)))) (eY (e:=elI) (l:=l) (k:=i) mF O O (SLe.sub Hl sn) o2_) O) O ?_;refine sQ (iS (e:=elI) (l:=l) (k:=i) (o:=0) tyT O (SLe.sub Hl sn) (cL I0 o2_) O) O ?_;refine sQ (aS (v':=.bool (f (l.getD i I0))) (RU (x:=(l.getD i I0)) O O (FnE.sub Hf sn) trivial) O) O (go_ ?_);refine aN _ O (fun h7=>?_) (fun h7=>?_)
    ·refine go5 ?_;refine rt1 ?_;refine (show (.int .i64 (i:Int):Value) = .int .i64 ((W.cv (i:Int)).1) by simp only [cvE (t:=(i:Int)) oo_]).trans ?_;exact congrArg vS6 (show _=(tT l f) from (wQ O (hT0.symm.trans (Eq.symm (aC h6 (aC h7 O))))))
    refine go2 ?_;refine sWi (((i+1):Nat):Int) O (go2 ?_);refine ⟨pp_,_,_,s0,(Nat.lt_succ_self _),(i+1),(by exact (hT0.symm.trans (Eq.symm (aC h6 (aH h7 O)))).symm),(Nat.lt_of_lt_of_le o1_ (Nat.le_of_lt_succ hq0)),o1_,rfl,rfl⟩
   have ph6:=of_decide_eq_false h6;refine go_ ?_;refine hK_u1 _ _ pp_ ⟨_,s0,i,(by exact hT0.symm.trans (Eq.symm (aH h6 O))),rfl,rfl⟩
 rintro g M ⟨i,hCu1,hg8,rfl⟩;refine gS1 hg8 ?_;clear hg8;refine go4 ?_;refine rt1 ?_;exact congrArg vS6 (show _=(tT l f) from trs (Eq.symm (smS hCu1)) O)
theorem FC (vl:Value) (l:(List I)) (vf:Value) (f:I→Bool) (w:World) (hl:Slr w elI vl l) (hf:FnV prog w vf eI (fun _=>True) (bb_ f)) :
  Calls prog 198 [vl,vf].toArray w (fun e w'=>e = .returned (.bool (rN l f))∧Ext w w'):=by
 obtain ⟨p_l,c_l,rfl⟩:=hl.form;obtain ⟨g_f,c_f,rfl,Hf⟩:=hf.open;refine dB (N:=9) func198 O O zz_ ?_;obtain ⟨w0,rfl⟩:=nm w;have Hl:=hl.old;have hm_l:=hl.max;refine giI ?_;refine go6 ?_;refine sFc (.int .i64 ((tT l f).1)) O (fun w hw=>JT _ l _ f w (aR hw Hl sn) (FnE.ap hw (FnE.sub Hf sn))) O O (go4 ?_);refine rt1 ?_;exact (by rfl)
theorem FG (a:I) :
  Ret prog 199 [AV [pI a]] (.bool (uJ a)):=by
 refine bJ (N:=6) func199 O O zz_ (fun w0=>?_);refine giI ?_;refine go2 ?_;intro b1 hb1;refine go4 ?_;refine sQ (aX aE (v7 a) O) O (go4 ?_);refine rt1 ?_;exact (by rfl)
theorem rZ (vp:Value) (p:(List I)) (w:World) (hp:Slr w elI vp p) :
  Calls prog 134 [vp].toArray w (fun e w'=>e = .returned (.bool (gB p))∧Ext w w'):=by
 obtain ⟨p_p,c_p,rfl⟩:=hp.form;refine dB (N:=5) func134 O O zz_ ?_;obtain ⟨w0,rfl⟩:=nm w;have Hp:=hp.old;have hm_p:=hp.max;refine giI ?_;refine go5 ?_;refine sFc (.bool (rN p (fun (y:I)=>(uJ y)))) O (fun w hw=>FC _ p _ (fun (y:I)=>(uJ y)) w (aR hw Hp sn) (FnV.mk hw aE (fun w hw x hx=>(FG x) w))) O O (go3 ?_);refine rt1 ?_;exact (by rfl)
theorem H3 (vl:Value) (l:(List Rt)) (vf:Value) (f:Rt→Bool) (w:World) (hl:Slr w UP vl l) (hf:FnV prog w vf eRt (fun _=>True) (bb_ f)) :
    Calls prog 232 [vl,vf].toArray w (fun e w'=>e = .returned (.int .i64 ((sG l f).1))∧Ext w w'):=by
 obtain ⟨p_l,c_l,rfl⟩:=hl.form;obtain ⟨g_f,c_f,rfl,Hf⟩:=hf.open;refine dB (N:=19) func232 O O zz_ ?_;obtain ⟨w0,rfl⟩:=nm w;have Hl:=hl.old;have hm_l:=hl.max;refine giI ?_;refine go6 ?_;refine sQ (eK ZP O (SLe.sub Hl sn)) O (go2 ?_);refine gJ3 (rg [4,5] 8 11) (fun g M=>∃ (i:Nat),(mT l f (l.length+1) 0) = .inl i∧(g 8 = .int .i64 (i:Int))∧M=[]) (fun K_u1 hK_u1=>?_) ?_
 ·refine go_ ?_;refine cI (rg [4,5] 8 11) (fun g nn M=>∃ (i:Nat),(mT l f nn i)=(mT l f (l.length+1) 0)∧l.length - i<nn∧(i≤l.length)∧(g 8 = .int .i64 (i:Int))∧M=[]) (l.length+1) ?start ?round
  case start=>exact ⟨_,s0,0,rfl,o1_,o1_,rfl,rfl⟩
  case round =>
   rintro nn g M ⟨i,hT0,hq0,hinv0,hg8,rfl⟩;obtain ⟨k0,rfl⟩:∃ m,nn=m+1:=⟨nn - 1,by omega⟩;refine gS1 hg8 ?_;clear hg8;refine go4 ?_;refine aN _ O (fun h6=>?_) (fun h6=>?_)
   ·have ph6:=of_decide_eq_true h6;refine wN ?_;refine sQ (aS (v':=.pointer (some (slb (.slice p_l l.length c_l) (i*36+0)))) (eY (e:=UP) (l:=l) (k:=i) ZP O O (SLe.sub Hl sn) o2_) O) O ?_;refine sQ (iS (e:=UP) (l:=l) (k:=i) (o:=0) tyT O (SLe.sub Hl sn) (cL Rt0 o2_) O) O ?_;refine sQ (aS (v':=.bool (f (l.getD i Rt0))) (RU (x:=(l.getD i Rt0)) O O (FnE.sub Hf sn) trivial) O) O (go_ ?_);refine aN _ O (fun h7=>?_) (fun h7=>?_)
    ·refine go5 ?_;refine rt1 ?_;refine (show (.int .i64 (i:Int):Value) = .int .i64 ((W.cv (i:Int)).1) by simp only [cvE (t:=(i:Int)) oo_]).trans ?_;exact congrArg vS6 (show _=(sG l f) from (wQ O (hT0.symm.trans (Eq.symm (aC h6 (aC h7 O))))))
    refine go2 ?_;refine sWi (((i+1):Nat):Int) O (go2 ?_);refine ⟨pp_,_,_,s0,(Nat.lt_succ_self _),(i+1),(by exact (hT0.symm.trans (Eq.symm (aC h6 (aH h7 O)))).symm),(Nat.lt_of_lt_of_le o1_ (Nat.le_of_lt_succ hq0)),o1_,rfl,rfl⟩
   have ph6:=of_decide_eq_false h6;refine go_ ?_;refine hK_u1 _ _ pp_ ⟨_,s0,i,(by exact hT0.symm.trans (Eq.symm (aH h6 O))),rfl,rfl⟩
 rintro g M ⟨i,hCu1,hg8,rfl⟩;refine gS1 hg8 ?_;clear hg8;refine go4 ?_;refine rt1 ?_;exact congrArg vS6 (show _=(sG l f) from trs (Eq.symm (smS hCu1)) O)
theorem EF (vl:Value) (l:(List Rt)) (vf:Value) (f:Rt→Bool) (w:World) (hl:Slr w UP vl l) (hf:FnV prog w vf eRt (fun _=>True) (bb_ f)) :
  Calls prog 212 [vl,vf].toArray w (fun e w'=>e = .returned (.bool (tK l f))∧Ext w w'):=by
 obtain ⟨p_l,c_l,rfl⟩:=hl.form;obtain ⟨g_f,c_f,rfl,Hf⟩:=hf.open;refine dB (N:=9) func212 O O zz_ ?_;obtain ⟨w0,rfl⟩:=nm w;have Hl:=hl.old;have hm_l:=hl.max;refine giI ?_;refine go6 ?_;refine sFc (.int .i64 ((sG l f).1)) O (fun w hw=>H3 _ l _ f w (aR hw Hl sn) (FnE.ap hw (FnE.sub Hf sn))) O O (go4 ?_);refine rt1 ?_;exact (by rfl)
theorem GG (a:Rt) :
  Ret prog 213 [AV [pI a.n,pI a.d]] (.bool (pF a)):=by
 refine bJ (N:=6) func213 O O zz_ (fun w0=>?_);refine giI ?_;refine go2 ?_;intro b1 hb1;refine go4 ?_;refine sQ (aX aE (kK a) O) O (go4 ?_);refine rt1 ?_;exact (by rfl)
theorem JV (vl:Value) (l:(List Rt)) (w:World) (hl:Slr w UP vl l) :
  Calls prog 185 [vl].toArray w (fun e w'=>e = .returned (.bool (tU l))∧Ext w w'):=by
 obtain ⟨p_l,c_l,rfl⟩:=hl.form;refine dB (N:=6) func185 O O zz_ ?_;obtain ⟨w0,rfl⟩:=nm w;have Hl:=hl.old;have hm_l:=hl.max;refine giI ?_;refine go5 ?_;refine sFc (.bool (tK l (fun (y:Rt)=>(pF y)))) O (fun w hw=>EF _ l _ (fun (y:Rt)=>(pF y)) w (aR hw Hl sn) (FnV.mk hw aE (fun w hw x hx=>(GG x) w))) O O (go4 ?_);refine rt1 ?_;exact (by rfl)
end Go.Proofs.YtbjlhfochebmiaaGreatDoor
namespace Go.Num
open Go Go.Kn
def i7 (a:Rt) (b:Rt):Rt :=
 let r4:Rt:=(e7 a (kX b))
 r4
def zrI (x:I):Bool:=(Z.signW x.dec).1==0
def mR (l:List I):List I:=(l.reverse.dropWhile zrI).reverse
def badp:List I:=[E Z.bad]
def mkP (l:List I):List I:=bif l.all gdI then (if (mR l).length≤25 then mR l else badp) else badp
theorem vR (l:List I) (x:I):mR (l++[x])=bif zrI x then mR l else l++[x]:=by
 unfold mR;rw [List.reverse_append]
 show (List.dropWhile zrI (x::l.reverse)).reverse=_
 rw [List.dropWhile_cons]
 cases zrI x
 ·show (x::l.reverse).reverse=_
  simp
 rfl
theorem w8 (l:List I):mR l=l.take (mR l).length:=by
 have h:mR l <+: l:=by
  unfold mR;have:=List.dropWhile_suffix zrI (l:=l.reverse);have h2:=List.reverse_prefix.2 this
  rwa [List.reverse_reverse] at h2
 obtain ⟨r,hr⟩:=h;have h3:(mR l++r).take (mR l).length=mR l:=List.take_left;rw [hr] at h3;exact h3.symm
theorem I9 (l:List I):(mR l).length≤l.length:=by
 rw [w8,List.length_take];omega
theorem MX (l:List I):(mkP l).length≤25:=by
 unfold mkP
 cases l.all gdI
 ·exact Nat.le_of_ble_eq_true O
 simp only [cond_true]
 split
 ·assumption
 exact Nat.le_of_ble_eq_true O
theorem xR {α:Type} (l:List α):l=[] ∨ ∃ m x,l=m++[x]:=by
 rcases List.eq_nil_or_concat l with h|⟨m,x,h⟩
 ·exact .inl h
 exact .inr ⟨m,x,by rw [h];simp⟩
theorem EH (n:Int) (f:Nat→I) (o:I→I) (out:List I) (i:Nat):∀ (k:Nat) (cut:List I),cut.length<k→jJ n f o out i k cut=mR cut
 | 0,cut,h=>absurd h (Nat.not_lt_zero _)
 | k+1,cut,h=>by
  unfold jJ;rcases xR cut with rfl|⟨m,x,rfl⟩
  ·rfl
  rw [vR];have e1:decide (0<((m++[x]).length:Int))=true:=decide_eq_true (by simp only [List.length_append,List.length_cons,List.length_nil];omega)
  have e2:(m++[x]).length - 1=m.length:=by simp
  rw [e1,e2]
  have e3:(m++[x]).getD m.length I0=x:=by simp
  have e4:(m++[x]).take m.length=m:=by simp
  rw [e3,e4,Bool.true_and]
  show (bif zrI x then _ else _)=_
  rw [EH n f o out i k m (by simp only [List.length_append,List.length_cons,List.length_nil] at h;omega)]
theorem PR (i m:Nat):List.range' i (m+1)=i::List.range' (i+1) m:=rfl
theorem FU (n:Int) (f:Nat→I) (o:I→I):∀ (k:Nat) (out:List I) (i:Nat),n.toNat - i<k →
  jI n f o k out i=bif ((List.range' i (n.toNat - i)).map fun j=>o (f j)).all gdI then .inl (out++(List.range' i (n.toNat - i)).map fun j=>o (f j),i+(n.toNat - i)) else .inr badp
 | 0,out,i,h=>absurd h (Nat.not_lt_zero _)
 | k+1,out,i,h=>by
  unfold jI
  by_cases hi:i<n.toNat
  ·rw [decide_eq_true oo_,cond_true]
   obtain ⟨m,hm⟩:∃ m,n.toNat - i=m+1:=⟨n.toNat - i - 1,by omega⟩
   have hm':n.toNat - (i+1)=m:=by omega
   rw [hm,PR,List.map_cons,List.all_cons,FU n f o k _ _ oo_,hm']
   show (bif gdI (o (f i)) then _ else _)=_
   cases gdI (o (f i))
   ·rfl
   simp only [cond_true,Bool.true_and,List.append_assoc,List.cons_append,List.nil_append];rw [show i+1+m=i+(m+1) by omega]
  rw [decide_eq_false oo_,cond_false,show n.toNat - i=0 by omega]
  simp
theorem zB (n:Int) (f:Nat→I) (o:I→I):jH n f o=mkP ((List.range n.toNat).map fun j=>o (f j)):=by
 unfold jH mkP;rw [FU n f o _ _ _ oo_,Nat.sub_zero,← List.range_eq_range']
 cases ((List.range n.toNat).map fun j=>o (f j)).all gdI
 ·rfl
 simp only [cond_true,sm,ap,List.nil_append];rw [EH _ _ _ _ _ _ _ (Nat.lt_succ_self _)]
 by_cases h:(mR ((List.range n.toNat).map fun j=>o (f j))).length≤25
 ·rw [if_pos h,decide_eq_false oo_,cond_false]
 rw [if_neg h,decide_eq_true oo_,cond_true];rfl
theorem KK (n:Int) (f:Nat→Go.Num.W) (o:Go.Num.W→I) (out:List I) (i:Nat):∀ (k:Nat) (cut:List I),kU n f o out i k cut=jJ n (fun _=>I0) (fun x=>x) out i k cut
 | 0,cut=>rfl
 | k+1,cut=>by unfold kU jJ;rw [KK n f o out i k]
theorem ED (n:Int) (f:Nat→Go.Num.W) (o:Go.Num.W→I):∀ (k:Nat) (out:List I) (i:Nat),kT n f o k out i=jI n (fun j=>o (f j)) (fun x=>x) k out i
 | 0,out,i=>rfl
 | k+1,out,i=>by unfold kT jI;rw [ED n f o k]
theorem FB (n:Int) (f:Nat→Go.Num.W) (o:Go.Num.W→I):mX n f o=mkP ((List.range n.toNat).map fun j=>o (f j)):=by
 rw [← zB n (fun j=>o (f j)) (fun x=>x)];unfold mX jH;rw [ED]
 congr 1
 funext s
 simp only [ap];rw [KK,EH _ _ _ _ _ _ _ (Nat.lt_succ_self _),EH _ _ _ _ _ _ _ (Nat.lt_succ_self _)]
theorem dE_ (x:I):((Z.signW x.dec).1 != 0) = !zrI x:=rfl
theorem JD (l:List I) {i:Nat} (h:i<l.length):l.take (i+1)=l.take i++[l.getD i I0]:=by
 rw [List.take_add_one,List.getElem?_eq_getElem h]
 simp [List.getD,List.getElem?_eq_getElem h]
theorem DY (l:List I) {i:Nat} (h:i<l.length):l.drop i=l.getD i I0::l.drop (i+1):=by
 rw [List.drop_eq_getElem_cons h]
 simp [List.getD,List.getElem?_eq_getElem h]
theorem CL (l:List I):∀ (k:Nat) (last:Int) (i:Nat),l.length - i<k→i≤l.length→last+1=((mR (l.take i)).length:Nat) →
  gE l k last i=bif (l.drop i).all gdI then .inl (((mR l).length:Int) - 1,l.length) else .inr badp
 | 0,last,i,h,_,_=>absurd h (Nat.not_lt_zero _)
 | k+1,last,i,h,hi,hl=>by
  unfold gE
  by_cases hlt:i<l.length
  ·rw [decide_eq_true oo_,cond_true,DY l hlt,List.all_cons]
   show (bif gdI (l.getD i I0) then _ else _)=_
   cases gdI (l.getD i I0)
   ·rfl
   simp only [cond_true,Bool.true_and,dE_];have hs:=vR (l.take i) (l.getD i I0);rw [← JD l hlt] at hs
   cases hz:zrI (l.getD i I0)
   ·rw [hz] at hs
    simp only [Bool.not_false,cond_true];refine CL l k _ _ oo_ oo_ ?_;rw [hs,cond_false,List.length_take,Nat.min_eq_left oo_];omega
   rw [hz] at hs;simp only [Bool.not_true,cond_false];refine CL l k _ _ oo_ oo_ ?_;rw [hs];exact hl
  have e:i=l.length:=by omega
  subst e;rw [decide_eq_false oo_,cond_false,List.drop_length];rw [List.take_length] at hl
  show _=Sum.inl _
  rw [show last=((mR l).length:Int) - 1 by omega]
theorem F5 (l:List I) (last:Int) (i:Nat):∀ (k:Nat) (out:List I) (j:Nat),(last+1).toNat - j<k→out=l.take j→(last+1).toNat≤l.length→j≤(last+1).toNat →
  (gY l last i k out j).1=l.take (last+1).toNat
 | 0,out,j,h,_,_,_=>absurd h (Nat.not_lt_zero _)
 | k+1,out,j,h,ho,hl,hj=>by
  unfold gY
  by_cases hc:(j:Int)≤last
  ·rw [decide_eq_true hc,cond_true]
   refine F5 l last i k _ _ oo_ ?_ hl oo_;rw [ho,JD l oo_]
  rw [decide_eq_false hc,cond_false]
  show out=_
  rw [ho];congr 1;omega
theorem ZB (l:List I):eH l=mkP l:=by
 unfold eH mkP;rw [CL l _ _ _ oo_ (Nat.zero_le _) (by rw [List.take_zero];rfl),List.drop_zero]
 cases l.all gdI
 ·rfl
 simp only [cond_true,sm,ap];have hle:=I9 l
 by_cases h:(mR l).length≤25
 ·rw [if_pos h,decide_eq_false oo_,cond_false]
  rw [F5 l _ _ _ _ _ oo_ (by rw [List.take_zero]) oo_ oo_];rw [show (((mR l).length:Int) - 1+1).toNat=(mR l).length by omega];exact (w8 l).symm
 rw [if_neg h,decide_eq_true oo_,cond_true];rfl
theorem GX {c:Bool} {x y:List I} (h:x.length≤25) (k:y.length≤25):(bif c then x else y).length≤25:=by cases c<;>assumption
theorem HN:badp.length≤25:=Nat.le_of_ble_eq_true O
theorem KF (n:Int) (f:Nat→I) (o:I→I):(jH n f o).length≤25:=by rw [zB];exact MX _
theorem kH (l:List W):(dA l).length≤25:=by unfold dA;rw [FB];exact MX _
theorem yR (p q:List I) (f:I→I→I):(jU p q f).length≤25:=GX HN (KF _ _ _)
theorem hS (p q:List I):(bP p q).length≤25:=yR _ _ _
theorem ET (p q:List I):(rP p q).length≤25:=yR _ _ _
theorem n4 (p q:List I):(bE p q).length≤25:=GX HN (GX (Nat.zero_le _) (KF _ _ _))
theorem iM (p:List I) (n:I):(cS p n).length≤25:=GX (yR _ _ _) HN
theorem K0 (l:List I):(eH l).length≤25:=by rw [ZB];exact MX _
theorem AW (l:List I):(eH l).length≤25:=K0 l
theorem lP (l:List W):(dG l).length≤25:=K0 _
theorem F3 (d:I) (n:Int):∀ (k:Nat) (out:List I),n.toNat - out.length<k→1≤out.length→(i5 d n k out).length=max n.toNat out.length
 | 0,out,h,_=>absurd h (Nat.not_lt_zero _)
 | k+1,out,h,h1=>by
  unfold i5
  by_cases hc:(out.length:Int)<n
  ·rw [decide_eq_true hc,cond_true,F3 d n k _ (by simp only [List.length_append,List.length_cons,List.length_nil];omega) (by simp)]
   simp only [List.length_append,List.length_cons,List.length_nil];omega
  rw [decide_eq_false hc,cond_false];omega
theorem GJ (d:I) (n:Int):(fQ d n).length=max n.toNat 1:=F3 d n _ _ (by simp only [List.length_cons,List.length_nil];omega) (by simp)
end Go.Num
namespace Go.Proofs.YtbjlhfochebmiaaGreatDoor
open Go.Kn Go.Num Tryz
attribute [local irreducible] Go.Kn.W WL PL OpQ OpR OpS
theorem JU (k:Nat) (c0 T0:Nat) (p_l:Option Addr) (c_l:Nat) (l:(List W)) (w:World) (hc0:w.heap[c0]? = some (.cells (aU [csl p_l l.length c_l]).toArray T0 (0,0))) (hl:Slr w elW (.slice p_l l.length c_l) l) (hpre:k<l.length) :
  Calls prog 139 [.int .i64 (k:Int),.pointer (some ⟨c0,0,none⟩)].toArray w (fun e w'=>e = .returned (.int .i64 ((wF k l).1))∧Ext w w'):=by
 refine dB (N:=8) func139 O O zz_ ?_;obtain ⟨w0,rfl⟩:=nm w;have Hl:=hl.old;have hm_l:=hl.max;refine giI ?_;refine go4 ?_;refine sQ (lN (v:=.slice p_l l.length c_l) tyT O hc0 zz_ O) O ?_;refine go_ ?_;refine sQ (aS (v':=.pointer (some (slb (.slice p_l l.length c_l) (k*1+0)))) (eY (e:=elW) (l:=l) (k:=k) jC O O (SLe.sub Hl sn) o2_) O) O ?_;refine sQ (u4 (u:=.int .i64 ((l.getD k W.z).1)) (e:=elW) (l:=l) (k:=k) (o:=0) tyT O (SLe.sub Hl sn) (cL W.z o2_) O) O ?_;refine go3 ?_;refine rt1 ?_;exact (by rfl)
theorem nL (vl:Value) (l:(List W)) (w:World) (hl:Slr w elW vl l) (hpre:l.length≤200) :
  Calls prog 68 [vl].toArray w (fun e w'=>∃ v,e = .returned (v)∧Ext w w'∧Slo w.heap.size w' 33 elI v (dA l)):=by
 obtain ⟨p_l,c_l,rfl⟩:=hl.form;refine gQ (n:=7) (fun v=>v) func68 O O zz_ ?_;obtain ⟨w0,rfl⟩:=nm w;have Hl:=hl.old;have hm_l:=hl.max;refine giI ?_;refine go2 ?_;intro b1 hb1;refine go4 ?_;refine sQ (eK jC O (SLe.sub Hl sn)) O (sQ (IN O O) O (bI O (cG (E:=33) (e:=elI) (l:=(mX (l.length:Int) (fun (y:Nat)=>(wF y l)) (fun (y:Go.Num.W)=>(E (Z.of y.1))))) (fun v=>v) aE O (fun w hw=>GE (l.length:Int) _ (fun (y:Nat)=>(wF y l)) _ (fun (y:Go.Num.W)=>(E (Z.of y.1))) w (FnV.mk hw aE (fun w hw x hx=>JU x _ _ _ _ l w (hw.mem _ m0) (aR hw Hl sn) (Int.ofNat_lt.1 hx))) (FnV.mk hw aE (fun w hw x hx=>(eG x.1 x.2) w)) oo_) (fun p2 c3 L4 hF5=>go3 ?_))));refine rt1 ?_
 have hE:((mX (l.length:Int) (fun (y:Nat)=>(wF y l)) (fun (y:Go.Num.W)=>(E (Z.of y.1)))):(List I))=(dA l):=by exact rfl
 rw [← hE];exact ⟨_,rfl,⟨L4,lZ,hF5⟩⟩
theorem F2 (vp:Value) (p:(List I)) (k:Int) (w:World) (hp:Slr w elI vp p) :
    Calls prog 197 [vp,.int .i64 k].toArray w (fun e w'=>e = .returned (AV [pI (mU p k)])∧Ext w w'):=by
 obtain ⟨p_p,c_p,rfl⟩:=hp.form;refine dB (N:=18) func197 O O zz_ ?_;obtain ⟨w0,rfl⟩:=nm w;have Hp:=hp.old;have hm_p:=hp.max;refine giI ?_;refine go2 ?_;intro b1 hb1;refine go2 ?_;refine gJv (rg [] 5 8) [(12,.bool (decide (k<0)||decide ((p.length:Int)≤k)))] (fun K2 J2=>?_) ?_
 ·refine go3 ?_;refine sBB O (fun h3=>?_) (fun h3=>?_)
  ·have ph3:=of_decide_eq_true h3;refine go6 ?_;refine J2 _ _ pp_ s0 (bS (oH h3))
  have ph3:=of_decide_eq_false h3;refine go2 ?_;refine sQ (eK mF O (SLe.sub Hp sn)) O (go3 ?_);refine J2 _ _ pp_ s0 (bS (mO h3 O))
 intro g4;refine aN _ O (fun h5=>?_) (fun h5=>?_)
 ·refine go5 ?_;refine rtX O (fF O m0 tyT O) ?_;exact congrArg vS3 (show _=(mU p k) from aC h5 O)
 have ph6:=of_decide_eq_false (Bool.or_eq_false_iff.1 h5).1;have ph7:=of_decide_eq_false (Bool.or_eq_false_iff.1 h5).2;refine go4 ?_;refine sQ (aS (v':=.pointer (some (slb (.slice p_p p.length c_p) ((k.toNat)*18+0)))) (AL (e:=elI) (l:=p) (k:=(k).toNat) mF O O oo_ (SLe.sub Hp sn) o2_) O) O ?_;refine sQ (iS (e:=elI) (l:=p) (k:=(k).toNat) (o:=0) tyT O (SLe.sub Hp sn) (cL I0 o2_) O) O ?_;refine go3 ?_;refine rtX O (fF O m0 tyT O) ?_;exact congrArg vS3 (show _=(mU p k) from aH h5 O)
theorem GF (k:Nat) (c0 T0:Nat) (g_f:Nat) (c_f:List Value) (f:I→I→I) (c1 T1:Nat) (p_p:Option Addr) (c_p:Nat) (p:(List I)) (c2 T2:Nat) (p_q:Option Addr) (c_q:Nat) (q:(List I)) (w:World) (hc0:w.heap[c0]? = some (.cells (aU [cfn g_f c_f]).toArray T0 (0,0))) (hc1:w.heap[c1]? = some (.cells (aU [csl p_p p.length c_p]).toArray T1 (0,0))) (hc2:w.heap[c2]? = some (.cells (aU [csl p_q q.length c_q]).toArray T2 (0,0))) (hf:FnV prog w (.func (.func g_f) #[] c_f.toArray) eII (fun _=>True) (YS (fun x:I×I=>f x.1 x.2))) (hp:Slr w elI (.slice p_p p.length c_p) p) (hq:Slr w elI (.slice p_q q.length c_q) q) :
  Calls prog 196 [.int .i64 (k:Int),.pointer (some ⟨c0,0,none⟩),.pointer (some ⟨c1,0,none⟩),.pointer (some ⟨c2,0,none⟩)].toArray w (fun e w'=>e = .returned (AV [pI (rB k f p q)])∧Ext w w'):=by
 refine dB (N:=14) func196 O O zz_ ?_;obtain ⟨w0,rfl⟩:=nm w;have Hf:=hf.get;have Hp:=hp.old;have hm_p:=hp.max;have Hq:=hq.old;have hm_q:=hq.max;refine giI ?_;refine go2 ?_;intro b1 hb1;refine go_ ?_;refine nK sn 9 [8] [8] (pQ O (lN (v:=.func (.func g_f) #[] c_f.toArray) tyT O hc0 zz_ O) ?_);refine pQ O (lN (v:=.slice p_p p.length c_p) tyT O hc1 zz_ O) ?_;refine go_ ?_;refine pQ O (aS (v':=AV [pI (mU p (k:Int))]) (dJ aE O (c1_ (F2 _ p (k:Int)) Hp sn)) O) (pQ O (lN (v:=.slice p_q q.length c_q) tyT O hc2 zz_ O) ?_);refine go_ ?_;refine pQ O (aS (v':=AV [pI (mU q (k:Int))]) (dJ aE O (c1_ (F2 _ q (k:Int)) Hq sn)) O) (pQ O (aS (v':=AV [pI (f (mU p (k:Int)) (mU q (k:Int)))]) (RU (x:=((mU p (k:Int)),(mU q (k:Int)))) O O (FnE.sub Hf sn) trivial) O) (go3 ?_));refine rtX O (fF O m0 tyT O) ?_;exact (by rfl)
theorem yS (vp:Value) (p:(List I)) (vq:Value) (q:(List I)) (vf:Value) (f:I→I→I) (w:World) (hp:Slr w elI vp p) (hq:Slr w elI vq q) (hf:FnV prog w vf eII (fun _=>True) (YS (fun x:I×I=>f x.1 x.2))) (hpre:p.length≤100∧q.length≤100) :
    Calls prog 131 [vp,vq,vf].toArray w (fun e w'=>∃ v,e = .returned (v)∧Ext w w'∧Slo w.heap.size w' 33 elI v (jU p q f)):=by
 obtain ⟨p_p,c_p,rfl⟩:=hp.form;obtain ⟨p_q,c_q,rfl⟩:=hq.form;obtain ⟨g_f,c_f,rfl,Hf⟩:=hf.open;refine gQ (n:=21) (fun v=>v) func131 O O zz_ ?_;obtain ⟨w0,rfl⟩:=nm w;have Hp:=hp.old;have hm_p:=hp.max;have Hq:=hq.old;have hm_q:=hq.max;refine giI ?_;refine go2 ?_;intro b1 hb1;refine go_ ?_;intro b2 hb2;refine sX [cfn g_f c_f] O O O fun b3 hb3=>go3 ?_;refine gJv [7,8,9,10,11,12] [(12,.bool ((gB p)||(gB q)))] (fun K2 J2=>?_) ?_
 ·refine go2 ?_;refine sFc (.bool (gB p)) O (c1_ (rZ _ p) Hp sn) O O ?_;refine sBB O (fun h5=>?_) (fun h5=>?_)
  ·refine go4 ?_;refine J2 _ _ pp_ s0 (bS (oH h5))
  refine go_ ?_;refine sFc (.bool (gB q)) O (c1_ (rZ _ q) Hq sn) O O (go2 ?_);refine J2 _ _ pp_ s0 (bS (mO h5 O))
 intro g6;refine aN _ O (fun h7=>?_) (fun h7=>?_)
 ·refine go_ ?_;refine bI O (cG (E:=33) (e:=elI) (l:=F_poly_bad) (fun v=>v) aE O (fun w hw=>qV  w) (fun p8 c9 L10 hF11=>go3 ?_));refine rt1 ?_
  have hE:(F_poly_bad:(List I))=(jU p q f):=by exact aC h7 O
  rw [← hE];exact ⟨_,rfl,⟨L10,lZ,hF11⟩⟩
 refine go3 ?_;refine sQ (eK mF O (SLe.sub Hp sn)) O (go_ ?_);refine sQ (eK mF O (SLe.sub Hq sn)) O (sQ (aS (v':=.int .i64 (((max (p.length) (q.length)):Nat):Int)) (nV O O) (congrArg (Value.int .i64) oo_)) O (sQ (IN O O) O (bI O (cG (E:=33) (e:=elI) (l:=(jH (((max (p.length) (q.length)):Nat):Int) (fun (y:Nat)=>(rB y f p q)) (fun (y:I)=>(mM y)))) (fun v=>v) aE O (fun w hw=>CG (((max (p.length) (q.length)):Nat):Int) _ (fun (y:Nat)=>(rB y f p q)) _ (fun (y:I)=>(mM y)) w (FnV.mk hw aE (fun w hw x hx=>GF x _ _ _ _ f _ _ _ _ p _ _ _ _ q w (hw.mem _ m0) (hw.mem _ m2) (hw.mem _ m1) (FnE.ap hw (FnE.sub Hf sn)) (aR hw Hp sn) (aR hw Hq sn))) (FnV.mk hw aE (fun w hw x hx=>(DH x) w)) oo_) (fun p12 c13 L14 hF15=>go3 ?_)))));refine rt1 ?_
 have hE:((jH (((max (p.length) (q.length)):Nat):Int) (fun (y:Nat)=>(rB y f p q)) (fun (y:I)=>(mM y))):(List I))=(jU p q f):=by exact aH h7 O
 rw [← hE];exact ⟨_,rfl,⟨L14,lZ,hF15⟩⟩
theorem jM (vp:Value) (p:(List I)) (vq:Value) (q:(List I)) (w:World) (hp:Slr w elI vp p) (hq:Slr w elI vq q) (hpre:p.length≤100∧q.length≤100) :
  Calls prog 69 [vp,vq].toArray w (fun e w'=>∃ v,e = .returned (v)∧Ext w w'∧Slo w.heap.size w' 33 elI v (bP p q)):=by
 obtain ⟨p_p,c_p,rfl⟩:=hp.form;obtain ⟨p_q,c_q,rfl⟩:=hq.form;refine gQ (n:=8) (fun v=>v) func69 O O zz_ ?_;obtain ⟨w0,rfl⟩:=nm w;have Hp:=hp.old;have hm_p:=hp.max;have Hq:=hq.old;have hm_q:=hq.max;refine giI ?_;refine go6 ?_;refine bI O (cG (E:=33) (e:=elI) (l:=(jU p q (fun (y:I) (z:I)=>(E (Z.add y.dec z.dec))))) (fun v=>v) aE O (fun w hw=>yS _ p _ q _ (fun (y:I) (z:I)=>(E (Z.add y.dec z.dec))) w (aR hw Hp sn) (aR hw Hq sn) (FnV.mk hw aE (fun w hw x hx=>(pM x.1.1 x.2.1 x.1.2 x.2.2) w)) oo_) (fun p1 c2 L3 hF4=>go3 ?_));refine rt1 ?_
 have hE:((jU p q (fun (y:I) (z:I)=>(E (Z.add y.dec z.dec)))):(List I))=(bP p q):=by exact rfl
 rw [← hE];exact ⟨_,rfl,⟨L3,lZ,hF4⟩⟩
theorem M6 (vp:Value) (p:(List I)) (vq:Value) (q:(List I)) (w:World) (hp:Slr w elI vp p) (hq:Slr w elI vq q) (hpre:p.length≤100∧q.length≤100) :
  Calls prog 65 [vp,vq].toArray w (fun e w'=>∃ v,e = .returned (v)∧Ext w w'∧Slo w.heap.size w' 33 elI v (rP p q)):=by
 obtain ⟨p_p,c_p,rfl⟩:=hp.form;obtain ⟨p_q,c_q,rfl⟩:=hq.form;refine gQ (n:=8) (fun v=>v) func65 O O zz_ ?_;obtain ⟨w0,rfl⟩:=nm w;have Hp:=hp.old;have hm_p:=hp.max;have Hq:=hq.old;have hm_q:=hq.max;refine giI ?_;refine go6 ?_;refine bI O (cG (E:=33) (e:=elI) (l:=(jU p q (fun (y:I) (z:I)=>(E (Z.sub y.dec z.dec))))) (fun v=>v) aE O (fun w hw=>yS _ p _ q _ (fun (y:I) (z:I)=>(E (Z.sub y.dec z.dec))) w (aR hw Hp sn) (aR hw Hq sn) (FnV.mk hw aE (fun w hw x hx=>(DQ x.1.1 x.2.1 x.1.2 x.2.2) w)) oo_) (fun p1 c2 L3 hF4=>go3 ?_));refine rt1 ?_
 have hE:((jU p q (fun (y:I) (z:I)=>(E (Z.sub y.dec z.dec)))):(List I))=(rP p q):=by exact rfl
 rw [← hE];exact ⟨_,rfl,⟨L3,lZ,hF4⟩⟩
theorem IG (k:Nat) (c0 T0:Nat) (p_q:Option Addr) (c_q:Nat) (q:(List I)) (c1 T1:Nat) (p_p:Option Addr) (c_p:Nat) (p:(List I)) (w:World) (hc0:w.heap[c0]? = some (.cells (aU [csl p_q q.length c_q]).toArray T0 (0,0))) (hc1:w.heap[c1]? = some (.cells (aU [csl p_p p.length c_p]).toArray T1 (0,0))) (hq:Slr w elI (.slice p_q q.length c_q) q) (hp:Slr w elI (.slice p_p p.length c_p) p) (hpre:k<300∧p.length≤100∧q.length≤100) :
    Calls prog 136 [.int .i64 (k:Int),.pointer (some ⟨c0,0,none⟩),.pointer (some ⟨c1,0,none⟩)].toArray w (fun e w'=>e = .returned (AV [pI (o0 k q p)])∧Ext w w'):=by
 refine dB (N:=36) func136 O O zz_ ?_;obtain ⟨w0,rfl⟩:=nm w;have Hq:=hq.old;have hm_q:=hq.max;have Hp:=hp.old;have hm_p:=hp.max;refine giI ?_;refine go2 ?_;intro b1 hb1;refine go3 ?_;intro b2 hb2;refine go4 ?_;refine sQ (lN (v:=.slice p_q q.length c_q) tyT O hc0 zz_ O) O ?_;refine sQ (eK mF O (SLe.sub Hq sn)) O (sWi ((k:Int) - (q.length:Int)) O (sWi (((k:Int) - (q.length:Int))+1) O (sQ (aS (v':=.int .i64 ((((k:Int) - (q.length:Int))+1).toNat:Int)) (nV O O) (congrArg (Value.int .i64) oo_)) O (go2 ?_))));refine gJ3 (rg [6] 13 22) (fun g M=>∃ (i:Nat) (mb2:I),(j9 k q p (k+2) ((((k:Int) - (q.length:Int))+1).toNat) I0)=(i,mb2)∧(g 6 = .int .i64 (i:Int))∧M=[⟨b2,33,aU [pI mb2]⟩,⟨b1,33,aU [pI I0]⟩]) (fun K_u3 hK_u3=>?_) ?_
 ·refine go_ ?_;refine cI (rg [6] 13 22) (fun g nn M=>∃ (i:Nat) (mb2:I),(j9 k q p nn i mb2)=(j9 k q p (k+2) ((((k:Int) - (q.length:Int))+1).toNat) I0)∧k+1 - i<nn∧(k+1≤i+q.length)∧(g 6 = .int .i64 (i:Int))∧M=[⟨b2,33,aU [pI mb2]⟩,⟨b1,33,aU [pI I0]⟩]) (k+2) ?start ?round
  case start=>exact ⟨_,s0,(((k:Int) - (q.length:Int))+1).toNat,I0,rfl,o1_,o1_,rfl,rfl⟩
  case round =>
   rintro nn g M ⟨i,mb2,hT0,hq0,hinv0,hg6,rfl⟩;obtain ⟨k0,rfl⟩:∃ m,nn=m+1:=⟨nn - 1,by omega⟩;refine gS1 hg6 ?_;clear hg6;refine go4 ?_;refine sQ (lN (v:=.slice p_p p.length c_p) tyT O hc1 zz_ O) O ?_;refine sQ (eK mF O (SLe.sub Hp sn)) O (sWi ((p.length:Int) - 1) O (sQ (aS (v':=.int .i64 (min (k:Int) ((p.length:Int) - 1))) (CH O O) (congrArg (Value.int .i64) oo_)) O (go2 ?_)));refine aN _ O (fun h6=>?_) (fun h6=>?_)
   ·have ph6:=of_decide_eq_true h6;refine go3 ?_;refine mB (sd s0) 14 [13] [13] (go_ ?_);refine pQ O (lN (v:=.slice p_p p.length c_p) tyT O hc1 zz_ O) ?_;refine go_ ?_;refine pQ O (aS (v':=.pointer (some (slb (.slice p_p p.length c_p) (i*18+0)))) (eY (e:=elI) (l:=p) (k:=i) mF O O (SLe.sub Hp sn) o2_) O) ?_;refine pQ O (iS (e:=elI) (l:=p) (k:=i) (o:=0) tyT O (SLe.sub Hp sn) (cL I0 o2_) O) ?_;refine pQ O (lN (v:=.slice p_q q.length c_q) tyT O hc0 zz_ O) ?_;refine go2 ?_;refine pV (.int .i64 ((k:Int) - (i:Int))) O wxo (pQ O (aS (v':=.pointer (some (slb (.slice p_q q.length c_q) ((k - i)*18+0)))) (AL (e:=elI) (l:=q) (k:=(k - i)) mF O O oo_ (SLe.sub Hq sn) o2_) O) ?_);refine pQ O (iS (e:=elI) (l:=q) (k:=(k - i)) (o:=0) tyT O (SLe.sub Hq sn) (cL I0 o2_) O) ?_;refine pC (AV [pI (E (Z.mul (p.getD i I0).dec (q.getD (k - i) I0).dec))]) aE (iX (p.getD i I0).1 (q.getD (k - i) I0).1 (p.getD i I0).2 (q.getD (k - i) I0).2) O O O (pC (AV [pI (E (Z.add mb2.dec (Z.mul (p.getD i I0).dec (q.getD (k - i) I0).dec)))]) aE (pM mb2.1 (E (Z.mul (p.getD i I0).dec (q.getD (k - i) I0).dec)).1 mb2.2 (E (Z.mul (p.getD i I0).dec (q.getD (k - i) I0).dec)).2) O O (cg2 (fun p q=>AV [pI (E (Z.add p q))]) O (dQ _)) (go4 ?_));refine sWi (((i+1):Nat):Int) O (go2 ?_);refine ⟨pp_,_,_,s0,(Nat.lt_succ_self _),(i+1),(E (Z.add mb2.dec (Z.mul (p.getD i I0).dec (q.getD (k - i) I0).dec))),(by exact (hT0.symm.trans (Eq.symm (aC h6 O))).symm),(Nat.lt_of_lt_of_le o1_ (Nat.le_of_lt_succ hq0)),o1_,rfl,rfl⟩
   have ph6:=of_decide_eq_false h6;refine go_ ?_;refine hK_u3 _ _ pp_ ⟨_,s0,i,mb2,(by exact hT0.symm.trans (Eq.symm (aH h6 O))),rfl,rfl⟩
 rintro g M ⟨i,mb2,hCu3,hg6,rfl⟩;refine gS1 hg6 ?_;clear hg6;refine go5 ?_;refine rtX O (fF O m1 tyT O) ?_;exact congrArg vS3 (show _=(o0 k q p) from (by unfold o0;exact trs (Eq.symm (apS hCu3)) O))
theorem n5 (vp:Value) (p:(List I)) (vq:Value) (q:(List I)) (w:World) (hp:Slr w elI vp p) (hq:Slr w elI vq q) (hpre:p.length≤100∧q.length≤100) :
    Calls prog 67 [vp,vq].toArray w (fun e w'=>∃ v,e = .returned (v)∧Ext w w'∧Slo w.heap.size w' 33 elI v (bE p q)):=by
 obtain ⟨p_p,c_p,rfl⟩:=hp.form;obtain ⟨p_q,c_q,rfl⟩:=hq.form;refine gQ (n:=28) (fun v=>v) func67 O O zz_ ?_;obtain ⟨w0,rfl⟩:=nm w;have Hp:=hp.old;have hm_p:=hp.max;have Hq:=hq.old;have hm_q:=hq.max;refine giI ?_;refine go2 ?_;intro b1 hb1;refine go_ ?_;intro b2 hb2;refine go3 ?_;refine gJv [5,6,7,8,9,10] [(10,.bool ((gB p)||(gB q)))] (fun K2 J2=>?_) ?_
 ·refine go2 ?_;refine sFc (.bool (gB p)) O (c1_ (rZ _ p) Hp sn) O O ?_;refine sBB O (fun h4=>?_) (fun h4=>?_)
  ·refine go4 ?_;refine J2 _ _ pp_ s0 (bS (oH h4))
  refine go_ ?_;refine sFc (.bool (gB q)) O (c1_ (rZ _ q) Hq sn) O O (go2 ?_);refine J2 _ _ pp_ s0 (bS (mO h4 O))
 intro g5;refine aN _ O (fun h6=>?_) (fun h6=>?_)
 ·refine go_ ?_;refine bI O (cG (E:=33) (e:=elI) (l:=F_poly_bad) (fun v=>v) aE O (fun w hw=>qV  w) (fun p7 c8 L9 hF10=>go3 ?_));refine rt1 ?_
  have hE:(F_poly_bad:(List I))=(bE p q):=by exact aC h6 O
  rw [← hE];exact ⟨_,rfl,⟨L9,lZ,hF10⟩⟩
 refine go2 ?_;refine gJv (rg [] 12 8) [(19,.bool (((p.length:Int)==0)||((q.length:Int)==0)))] (fun K4 J4=>?_) ?_
 ·refine go2 ?_;refine sQ (eK mF O (SLe.sub Hp sn)) O (go_ ?_);refine sBB O (fun h12=>?_) (fun h12=>?_)
  ·have ph12:=yN h12;refine go5 ?_;refine J4 _ _ pp_ s0 (bS (oH h12))
  have ph12:=wM h12;refine go_ ?_;refine sQ (eK mF O (SLe.sub Hq sn)) O (go3 ?_);refine J4 _ _ pp_ s0 (bS (mO h12 O))
 intro g13;refine aN _ O (fun h14=>?_) (fun h14=>?_)
 ·refine go4 ?_;refine rt1 ?_
  have hE:(([]:List I):(List I))=(bE p q):=by exact aH h6 (aC h14 O)
  rw [← hE];exact ⟨_,rfl,⟨[],sn,OwnG.nil⟩⟩
 have ph15:=wM (Bool.or_eq_false_iff.1 h14).1;have ph16:=wM (Bool.or_eq_false_iff.1 h14).2;refine go3 ?_;refine sQ (eK mF O (SLe.sub Hp sn)) O (go_ ?_);refine sQ (eK mF O (SLe.sub Hq sn)) O (sWi (((p.length+(q).length):Nat):Int) O (sWi ((((p.length+(q).length):Nat):Int) - 1) O (sQ (IN O O) O (bI O (cG (E:=33) (e:=elI) (l:=(jH ((((p.length+(q).length):Nat):Int) - 1) (fun (y:Nat)=>(o0 y q p)) (fun (y:I)=>(mM y)))) (fun v=>v) aE O (fun w hw=>CG ((((p.length+(q).length):Nat):Int) - 1) _ (fun (y:Nat)=>(o0 y q p)) _ (fun (y:I)=>(mM y)) w (FnV.mk hw aE (fun w hw x hx=>IG x _ _ _ _ q _ _ _ _ p w (hw.mem _ m0) (hw.mem _ m1) (aR hw Hq sn) (aR hw Hp sn) (by have hx':(x:Int)<_:=hx;omega))) (FnV.mk hw aE (fun w hw x hx=>(DH x) w)) oo_) (fun p17 c18 L19 hF20=>go3 ?_))))));refine rt1 ?_
 have hE:((jH ((((p.length+(q).length):Nat):Int) - 1) (fun (y:Nat)=>(o0 y q p)) (fun (y:I)=>(mM y))):(List I))=(bE p q):=by exact aH h6 (aH h14 O)
 rw [← hE];exact ⟨_,rfl,⟨L19,lZ,hF20⟩⟩
theorem FH (a:I) (b:I) (c0 T0:Nat) (n:I) (w:World) (hc0:w.heap[c0]? = some (.cells (aU [pI n]).toArray T0 (0,0))) :
  Calls prog 132 [AV [pI a],AV [pI b],.pointer (some ⟨c0,0,none⟩)].toArray w (fun e w'=>e = .returned (AV [pI (pW a b n)])∧Ext w w'):=by
 refine dB (N:=9) func132 O O zz_ ?_;obtain ⟨w0,rfl⟩:=nm w;refine giI ?_;refine go2 ?_;intro b1 hb1;refine go_ ?_;intro b2 hb2;refine go_ ?_;intro b3 hb3;refine go3 ?_;refine sQ (YY tyT O hc0 zz_ O) O ?_;refine sC (AV [pI (E (Z.mul a.dec n.dec))]) aE (iX a.1 n.1 a.2 n.2) O O O (go3 ?_);refine rtX O (fF O m0 tyT O) ?_;exact (by rfl)
theorem jR (vp:Value) (p:(List I)) (n:I) (w:World) (hp:Slr w elI vp p) (hpre:p.length≤100) :
   Calls prog 63 [vp,AV [pI n]].toArray w (fun e w'=>∃ v,e = .returned (v)∧Ext w w'∧Slo w.heap.size w' 33 elI v (cS p n)):=by
 obtain ⟨p_p,c_p,rfl⟩:=hp.form;refine gQ (n:=12) (fun v=>v) func63 O O zz_ ?_;obtain ⟨w0,rfl⟩:=nm w;have Hp:=hp.old;have hm_p:=hp.max;refine giI ?_;refine go2 ?_;intro b1 hb1;refine go5 ?_;refine sQ (aX aE (v7 n) O) O (go2 ?_);rcases bt (o4 n) with h2|h2
 ·refine W_f (fZ h2) O (go3 ?_);refine sQ (IN O O) O (bI O (cG (E:=33) (e:=elI) (l:=(jU p ([]:List I) (fun (y:I) (z:I)=>(pW y z n)))) (fun v=>v) aE O (fun w hw=>yS _ p _ ([]:List I) _ (fun (y:I) (z:I)=>(pW y z n)) w (aR hw Hp sn) (SLe.ap hw (SLfe.sle SLfe.nil)) (FnV.mk hw aE (fun w hw x hx=>FH x.1 x.2 _ _ n w (hw.mem _ m0))) o3_) (fun p3 c4 L5 hF6=>?_)));refine go3 ?_;refine rt1 ?_
  have hE:((jU p ([]:List I) (fun (y:I) (z:I)=>(pW y z n))):(List I))=(cS p n):=by exact aC h2 O
  rw [← hE];exact ⟨_,rfl,⟨L5,lZ,hF6⟩⟩
 refine W_t (gA h2) O (go_ ?_);refine bI O (cG (E:=33) (e:=elI) (l:=F_poly_bad) (fun v=>v) aE O (fun w hw=>qV  w) (fun p7 c8 L9 hF10=>go3 ?_));refine rt1 ?_
 have hE:(F_poly_bad:(List I))=(cS p n):=by exact aH h2 O
 rw [← hE];exact ⟨_,rfl,⟨L9,lZ,hF10⟩⟩
end Go.Proofs.YtbjlhfochebmiaaGreatDoor
