/- Lemmas: what they ask stands in their statements. -/
import Derived.Test.YtkjjponijamaoaaGreatDoorYGa
set_option linter.unusedSimpArgs false
set_option linter.unusedVariables false
set_option maxHeartbeats 8000000
set_option maxRecDepth 20000
namespace Go.Proofs.YtkjjponijamaoaaGreatDoor
open Go.Kn Go.Num
theorem HQ (a:I) :
    Ret Tryz.prog 186 [AV [pI a]] (AV [pI (rN a)]):=by
 refine cM (N:=4) Tryz.func186 rfl rfl (by simp) (fun w0=>?_);simp only [cS,Nat.reduceAdd];refine Rs fun K J=>bA rfl (cH rfl rfl (fun b1 hb1=>sN gT rfl fun b2 hb2=>nl J (Rs fun K J=>sQ (qL aD rfl m1 rfl) rfl (sS [pI a] aD rfl rfl rfl rfl rfl uH rfl hb2 (nl J (aL (cC rfl (.inr rfl) (eP rfl m0 aD rfl) ?_)))))));exact (by rfl)

theorem EU (a:I) :
    Ret Tryz.prog 180 [AV [pI a]] (.bool (xU a)):=by
 refine cM (N:=10) Tryz.func180 rfl rfl (by simp) (fun w0=>?_);simp only [cS,Nat.reduceAdd];refine Rs fun K J=>bA rfl (cH rfl rfl (fun b1 hb1=>sE rfl (nl J ?_)));refine dH [2,3,4,5,6,7,8,9] (fun g M=>(g 2 = .bool (!a.1.bad&&a.1.valid))∧M=[⟨b1,31,aW [pI a]⟩]) (fun K1 J1=>?_) ?_
 ·refine Rk fun K J=>sQ (qF uX rfl rfl) rfl (sQ (qC mF rfl m0 rfl) rfl (sE rfl ?_));rcases bt a.1.bad with h3 | h3
  ·refine sB (iS h3) rfl (aI rfl (aI rfl (sE rfl (sE rfl (nl J ?_)))));refine J1 _ _ pp_ ⟨_,s0,?s2,rfl⟩
   case s2=>exact congrArg Value.bool (WJ h3)
  refine sB (iT h3) rfl (sQ (qL aD rfl m0 rfl) rfl (sC (.bool a.1.valid) aw_ (BV a.1 a.2) rfl rfl rfl (sE rfl (sE rfl (nl J ?_)))));refine J1 _ _ pp_ ⟨_,s0,?s2,rfl⟩
  case s2=>exact congrArg Value.bool (WI h3 rfl)
 rintro g4 M ⟨hg2,rfl⟩;simp only [dQ,hg2];clear hg2;refine aL (cC rfl (.inr rfl) rfl ?_);exact (by rfl)

theorem xZ  (w:World)  :
    Calls Tryz.prog 181 [].toArray w (fun e w'=>∃ v,e = .returned (v)∧Ext w w'∧Slo w.heap.size w' 31 elI v F_poly_bad):=by
 refine gM (n:=3) (fun v=>v) Tryz.func181 rfl rfl (by simp) ?_;obtain ⟨w0,rfl⟩:∃ w0,w0=w:=⟨_,rfl⟩;simp only [cS,Nat.reduceAdd];obtain ⟨q0,hq0⟩:=nm ((E Z.bad):I);refine Rs fun K J=>sE rfl (nl J (Rs fun K J=>sC (AV [pI q0]) BB kO rfl rfl (by rw [hq0];first | done | rfl) (bA rfl (dN [[pI q0]] [pI q0] PA oM pX rfl dd_ rfl rfl ⟨rfl,rfl,rfl,trivial⟩ rfl (fun b1 hb1=>sE rfl (nl J (aL (cC rfl (.inr rfl) rfl ?_))))))))
 have hE:([q0]:(List I))=F_poly_bad:=by obtain rfl:=hq0.symm;exact rfl
 rw [← hE];exact ⟨_,rfl,⟨_,(sk sn),OwnG.lit (e:=elI) (l:=[q0]) (qs:=[pI q0]) hb1 rfl (Nat.le_of_ble_eq_true rfl) rfl⟩⟩

theorem GA (n:Int) (vf:Value) (f:Nat→I) (vo:Value) (o:I→I) (w:World) (hf:FnV Tryz.prog w vf eN (fun k=>(k:Int)<n) (j6_ f)) (ho:FnV Tryz.prog w vo eI (fun _=>True) (j6_ o)) (hpre:n≤200) :
    Calls Tryz.prog 184 [.int .i64 n,vf,vo].toArray w (fun e w'=>∃ v,e = .returned (v)∧Ext w w'∧Slo w.heap.size w' 31 elI v (oX n f o)):=by
 obtain ⟨g_f,c_f,rfl,Hf⟩:=hf.open;obtain ⟨g_o,c_o,rfl,Ho⟩:=ho.open;refine gM (n:=55) (fun v=>v) Tryz.func184 rfl rfl (by simp) ?_;obtain ⟨w0,rfl⟩:∃ w0,w0=w:=⟨_,rfl⟩;simp only [cS,Nat.reduceAdd];refine Rs fun K J=>sE rfl (nl J (Rs fun K J=>sE rfl (sQ (aZ (v':=.int .i64 (((n).toNat:Nat):Int)) (xN rfl rfl) (congrArg (Value.int .i64) oo_)) rfl (bA rfl (fY_ (E:=31) (e:=elI) (n:=0) (c:=(n).toNat) 68 I0 PA (by kernel_rfl) dd_ (by kernel_rfl) rfl rfl oo_ oo_ oo_ oo_ dd_ dd_ (fun p1 L2 hO3=>sE rfl (nl J (Sq fun K1 J1=>Rs fun K J=>sE rfl (sQ (aZ (v':=.int .i64 (((n).toNat:Nat):Int)) (xN rfl rfl) (congrArg (Value.int .i64) oo_)) rfl (sE rfl (nl J ?_)))))))))));refine kI (fun S M h=>J1 S M h) [6,7,8,9,15,16,17,18,19,20,21,22,23,24,25,26,27,28,29,30,31] (fun g M=>∃ (out:List I) (i:Nat) (p_out:Option Addr) (c_out:Nat) (L_out:List Blk),(qH n f o ((n.toNat+1)) ([]:List I) 0) = .inl (out,i)∧(g 7 = .slice p_out out.length c_out∧g 15 = .int .i64 ((i:Nat):Int)∧OwnG w0 31 elI (.slice p_out out.length c_out) out L_out)∧M=(L_out ++ [])) (fun K_u4 hK_u4=>?_) ?_
 ·refine aJ ?_;refine eA [6,7,8,9,15,16,17,18,19,20,21,22,23,24,25,26,27,28,29,30,31] (fun g nn M=>∃ (out:List I) (i:Nat) (p_out:Option Addr) (c_out:Nat) (L_out:List Blk),(qH n f o nn out i)=(qH n f o ((n.toNat+1)) ([]:List I) 0)∧n.toNat - i<nn∧(i≤n.toNat∧out.length=i)∧(g 7 = .slice p_out out.length c_out∧g 15 = .int .i64 ((i:Nat):Int)∧OwnG w0 31 elI (.slice p_out out.length c_out) out L_out)∧M=(L_out ++ [])) ((n.toNat+1)) ?start ?round
  case start=>exact ⟨_,s0,([]:List I),0,p1,((n).toNat),L2,rfl,o1_,⟨by omega,rfl⟩,⟨rfl,rfl,hO3⟩,rfl⟩
  case round =>
   rintro nn g M ⟨out,i,p_out,c_out,L_out,hT0,hq0,hinv0,⟨hg7,hg15,hO_out⟩,rfl⟩;obtain ⟨k0,rfl⟩:∃ m,nn=m+1:=⟨nn - 1,by omega⟩;simp only [dQ,hg7,hg15];clear hg7 hg15;have hm_out:=OwnG.max hO_out;refine Rs fun K J=>sE rfl (nl J (Sq fun K8 J8=>?_));rcases bt (decide (((i:Nat):Int)<(((n).toNat:Nat):Int))) with h29 | h29
   ·have ph29:=of_decide_eq_true h29;refine W_t h29 rfl (aG (J8 _ _ (Sq fun K9 J9=>aJ (Rs fun K J=>sE rfl (sE rfl (nl J (Rs fun K J=>sE rfl (sE rfl (sE rfl (sQ (aZ (v':=AV [pI (f i)]) (cU_ (x:=i) rfl rfl (FnE.sub Hf sn) (by show ((i:Nat):Int)<n;omega)) rfl) rfl (sQ (aZ (v':=AV [pI (o (f i))]) (cU_ (x:=(f i)) rfl rfl (FnE.sub Ho sn) trivial) rfl) rfl (sN gT rfl fun b30 hb30=>sS [pI (o (f i))] aD rfl rfl rfl rfl rfl uH rfl hb30 (nl J (Sq fun K10 J10=>Rs fun K J=>?_))))))))))))));refine sQ (qL aD rfl m0 rfl) rfl (sQ (bZ au_ (EU (o (f i))) rfl) rfl (sE rfl (nl J ?_)));rcases bt (xU (o (f i))) with h31 | h31
    ·refine W_f (iS h31) rfl (aG (J10 _ _ (Rk fun K J=>sE rfl (sQ (qL aD rfl m0 rfl) rfl (bA rfl (dN [[pI (o (f i))]] [pI (o (f i))] PA oM pX rfl dd_ rfl rfl ⟨rfl,rfl,rfl,trivial⟩ rfl (fun b32 hb32=>bA rfl (oL (e:=elI) (l:=out) (m:=[(o (f i))]) 68 PA (by kernel_rfl) dd_ rfl rfl hO_out (SLe.lit (e:=elI) (l:=[(o (f i))]) m0 rfl (Nat.le_of_ble_eq_true rfl) rfl) (oU (oU tG)) (by show (out.length+1) * 68≤_;omega) dd_ (fun p33 c34 L35 hO36=>sE rfl (nl J (J9 _ _ (Rk fun K J=>sV (.int .i64 (((i+1):Nat):Int)) rfl (congrArg (Value.int .i64) (wx oo_ oo_ oo_)) (sE rfl (nl J (⟨pp_,_,_,(sA (sd (sd (s0)))),(Nat.lt_succ_self _),(out ++ [(o (f i))]),(i+1),p33,c34,L35,(by exact (hT0.symm.trans (Eq.symm (bI h29 (bI h31 rfl)))).symm),(Nat.lt_of_lt_of_le o1_ (Nat.le_of_lt_succ hq0)),⟨by omega,(by rw [List.length_append];show _+1=_;omega)⟩,⟨rfl,rfl,hO36⟩,rfl⟩)))))))))))))))
    refine W_t (iT h31) rfl (Rs fun K J=>bA rfl (bO (E:=31) (e:=elI) (l:=F_poly_bad) (fun v=>v) NA rfl (fun w hw=>xZ  w) (fun p37 c38 L39 hF40=>sE rfl (nl J (aL (aB (aT (aB (aB (aT (aB (aB (cC rfl (.inr rfl) rfl ?_)))))))))))))
    have hE:(F_poly_bad:(List I))=(oX n f o):=by exact (EL rfl (hT0.symm.trans (Eq.symm (bI h29 (aM h31 rfl)))))
    rw [← hE];exact ⟨_,rfl,⟨L39,lZ,hF40⟩⟩
   have ph29:=of_decide_eq_false h29;refine W_f h29 rfl (dW (aU (aU (bJ (hK_u4 _ _ pp_ ⟨_,s0,out,i,p_out,c_out,L_out,(by exact hT0.symm.trans (Eq.symm (aM h29 rfl))),⟨rfl,rfl,hO_out⟩,rfl⟩)))))
 rintro g M ⟨out,i,p_out,c_out,L_out,hCu4,⟨hg7,hg15,hO_out⟩,rfl⟩;simp only [dQ,hg7,hg15];clear hg7 hg15;have hm_out:=OwnG.max hO_out;refine dH [7,32,33,34,35,36,37,38,39,40,41,42,43,44,45,46,47,48,49] (fun g M=>∃ (cut:List I) (p_cut:Option Addr) (c_cut:Nat) (L_cut:List Blk),(qK n f o out i ((out.length+1)) out)=cut∧(g 7 = .slice p_cut cut.length c_cut∧OwnG w0 31 elI (.slice p_cut cut.length c_cut) cut L_cut)∧M=(L_cut ++ [])) (fun K_u41 hK_u41=>?_) ?_
 ·refine aJ ?_;refine eA [7,32,33,34,35,36,37,38,39,40,41,42,43,44,45,46,47,48,49] (fun g nn M=>∃ (cut:List I) (p_cut:Option Addr) (c_cut:Nat) (L_cut:List Blk),(qK n f o out i nn cut)=(qK n f o out i ((out.length+1)) out)∧cut.length<nn∧(True)∧(g 7 = .slice p_cut cut.length c_cut∧OwnG w0 31 elI (.slice p_cut cut.length c_cut) cut L_cut)∧M=(L_cut ++ [])) ((out.length+1)) ?start ?round
  case start=>exact ⟨_,s0,out,p_out,c_out,L_out,rfl,(Nat.lt_succ_self _),trivial,⟨rfl,hO_out⟩,rfl⟩
  case round =>
   rintro nn g M ⟨cut,p_cut,c_cut,L_cut,hT1,hq1,hinv1,⟨hg7,hO_cut⟩,rfl⟩;obtain ⟨k1,rfl⟩:∃ m,nn=m+1:=⟨nn - 1,by omega⟩;simp only [dQ,hg7];clear hg7;have hm_cut:=OwnG.max hO_cut;refine Sq fun K13 J13=>?_;refine dH [32,33,34,35,36,37,38,39,40,41,42,43,44] (fun g M=>(g 44 = .bool (decide (0<(((cut).length:Nat):Int))&&((Z.signW (cut.getD ((cut).length - 1) I0).dec).1==0)))∧M=(L_cut ++ [])) (fun K14 J14=>?_) ?_
   ·refine Rk fun K J=>sE rfl (sQ (aZ (v':=.int .i64 (((cut).length:Nat):Int)) (gD (e:=elI) nQ rfl (rO hO_cut lZ)) rfl) rfl (sE rfl ?_));rcases bt (decide (0<(((cut).length:Nat):Int))) with h48 | h48
    ·have ph48:=of_decide_eq_true h48;refine sB h48 rfl (sE rfl (sE rfl (sQ (aZ (v':=.int .i64 (((cut).length:Nat):Int)) (gD (e:=elI) nQ rfl (rO hO_cut lZ)) rfl) rfl (sV (.int .i64 ((((cut).length:Nat):Int) - 1)) rfl (congrArg (Value.int .i64) (wx oo_ oo_ oo_)) (sQ (aZ (v':=.pointer (some (slb (.slice p_cut cut.length c_cut) (((cut).length - 1) * 18+0)))) (wE (e:=elI) (l:=cut) (k:=((cut).length - 1)) nQ rfl rfl oo_ (rO hO_cut lZ) o2_) rfl) rfl ?_)))));refine sQ (oK (e:=elI) (l:=cut) (k:=((cut).length - 1)) (o:=0) aD rfl (rO hO_cut lZ) (eV I0 o2_) rfl) rfl ?_;refine sC (.int .i64 ((Z.signW (cut.getD ((cut).length - 1) I0).dec).1)) C0 (k9 (cut.getD ((cut).length - 1) I0).1 (cut.getD ((cut).length - 1) I0).2) rfl rfl rfl (sE rfl (sE rfl (nl J ?_)));refine J14 _ _ pp_ ⟨_,s0,?s44,rfl⟩
     case s44=>exact congrArg Value.bool (eB h48 rfl)
    have ph48:=of_decide_eq_false h48;refine sB h48 rfl (aI rfl (aI rfl (aI rfl (aI rfl (aI rfl (aI rfl (aI rfl (aI rfl (sE rfl (nl J ?_))))))))));refine J14 _ _ pp_ ⟨_,s0,?s44,rfl⟩
    case s44=>exact congrArg Value.bool (kU h48)
   rintro g49 M ⟨hg44,rfl⟩;simp only [dQ,hg44];clear hg44;rcases bt (decide (0<(((cut).length:Nat):Int))&&((Z.signW (cut.getD ((cut).length - 1) I0).dec).1==0)) with h50 | h50
   ·have ph51:=of_decide_eq_true (Bool.and_eq_true_iff.1 h50).1;refine W_t h50 rfl (aG (J13 _ _ (aJ (Rk fun K J=>sE rfl (sE rfl (sQ (aZ (v':=.int .i64 (((cut).length:Nat):Int)) (gD (e:=elI) nQ rfl (rO hO_cut lZ)) rfl) rfl (sV (.int .i64 ((((cut).length:Nat):Int) - 1)) rfl (congrArg (Value.int .i64) (wx oo_ oo_ oo_)) (sQ (fT_ (e:=elI) (l:=cut) (k:=((cut).length - 1)) nQ rfl rfl oo_ hO_cut oo_) rfl (sE rfl (nl J (⟨pp_,_,_,s0,(Nat.lt_succ_self _),(cut.take ((cut).length - 1)),p_cut,c_cut,L_cut,(by exact (hT1.symm.trans (Eq.symm (bI h50 rfl))).symm),(Nat.lt_of_lt_of_le (by rw [List.length_take];omega) (Nat.le_of_lt_succ hq1)),trivial,⟨rfl,(OwnG.take hO_cut oo_)⟩,rfl⟩)))))))))))
   refine W_f h50 rfl (dW (aU (aU (bJ (hK_u41 _ _ pp_ ⟨_,s0,cut,p_cut,c_cut,L_cut,(by exact hT1.symm.trans (Eq.symm (aM h50 rfl))),⟨rfl,hO_cut⟩,rfl⟩)))))
 rintro g M ⟨cut,p_cut,c_cut,L_cut,hCu41,⟨hg7,hO_cut⟩,rfl⟩;simp only [dQ,hg7];clear hg7;have hm_cut:=OwnG.max hO_cut;refine Sq fun K15 J15=>Rs fun K J=>sE rfl (sQ (aZ (v':=.int .i64 (((cut).length:Nat):Int)) (gD (e:=elI) nQ rfl (rO hO_cut lZ)) rfl) rfl (sE rfl (nl J ?_)));rcases bt (decide (25<(((cut).length:Nat):Int))) with h52 | h52
 ·have ph52:=of_decide_eq_true h52;refine W_t h52 rfl (Rs fun K J=>bA rfl (bO (E:=31) (e:=elI) (l:=F_poly_bad) (fun v=>v) NA rfl (fun w hw=>xZ  w) (fun p53 c54 L55 hF56=>sE rfl (nl J (aL (aB (cC rfl (.inr rfl) rfl ?_)))))))
  have hE:(F_poly_bad:(List I))=(oX n f o):=by exact trs (Eq.symm (smS hCu4)) (trs (Eq.symm (apS hCu41)) (bI h52 rfl))
  rw [← hE];exact ⟨_,rfl,⟨L55,lZ,hF56⟩⟩
 have ph52:=of_decide_eq_false h52;refine W_f h52 rfl (aG (J15 _ _ (Rs fun K J=>sE rfl (sE rfl (nl J (aL (cC rfl (.inr rfl) rfl ?_)))))))
 have hE:(cut:(List I))=(oX n f o):=by exact trs (Eq.symm (smS hCu4)) (trs (Eq.symm (apS hCu41)) (aM h52 rfl))
 rw [← hE];exact ⟨_,rfl,⟨L_cut,lZ,hO_cut⟩⟩

theorem TM (n:Int) (vf:Value) (f:Nat→Go.Num.W) (vo:Value) (o:Go.Num.W→I) (w:World) (hf:FnV Tryz.prog w vf eN (fun k=>(k:Int)<n) (sF_ f)) (ho:FnV Tryz.prog w vo eW (fun _=>True) (j6_ o)) (hpre:n≤200) :
    Calls Tryz.prog 238 [.int .i64 n,vf,vo].toArray w (fun e w'=>∃ v,e = .returned (v)∧Ext w w'∧Slo w.heap.size w' 31 elI v (vH n f o)):=by
 obtain ⟨g_f,c_f,rfl,Hf⟩:=hf.open;obtain ⟨g_o,c_o,rfl,Ho⟩:=ho.open;refine gM (n:=55) (fun v=>v) Tryz.func238 rfl rfl (by simp) ?_;obtain ⟨w0,rfl⟩:∃ w0,w0=w:=⟨_,rfl⟩;simp only [cS,Nat.reduceAdd];refine Rs fun K J=>sE rfl (nl J (Rs fun K J=>sE rfl (sQ (aZ (v':=.int .i64 (((n).toNat:Nat):Int)) (xN rfl rfl) (congrArg (Value.int .i64) oo_)) rfl (bA rfl (fY_ (E:=31) (e:=elI) (n:=0) (c:=(n).toNat) 68 I0 PA (by kernel_rfl) dd_ (by kernel_rfl) rfl rfl oo_ oo_ oo_ oo_ dd_ dd_ (fun p1 L2 hO3=>sE rfl (nl J (Sq fun K1 J1=>Rs fun K J=>sE rfl (sQ (aZ (v':=.int .i64 (((n).toNat:Nat):Int)) (xN rfl rfl) (congrArg (Value.int .i64) oo_)) rfl (sE rfl (nl J ?_)))))))))));refine kI (fun S M h=>J1 S M h) [6,7,8,9,15,16,17,18,19,20,21,22,23,24,25,26,27,28,29,30,31] (fun g M=>∃ (out:List I) (i:Nat) (p_out:Option Addr) (c_out:Nat) (L_out:List Blk),(sG n f o ((n.toNat+1)) ([]:List I) 0) = .inl (out,i)∧(g 7 = .slice p_out out.length c_out∧g 15 = .int .i64 ((i:Nat):Int)∧OwnG w0 31 elI (.slice p_out out.length c_out) out L_out)∧M=(L_out ++ [])) (fun K_u4 hK_u4=>?_) ?_
 ·refine aJ ?_;refine eA [6,7,8,9,15,16,17,18,19,20,21,22,23,24,25,26,27,28,29,30,31] (fun g nn M=>∃ (out:List I) (i:Nat) (p_out:Option Addr) (c_out:Nat) (L_out:List Blk),(sG n f o nn out i)=(sG n f o ((n.toNat+1)) ([]:List I) 0)∧n.toNat - i<nn∧(i≤n.toNat∧out.length=i)∧(g 7 = .slice p_out out.length c_out∧g 15 = .int .i64 ((i:Nat):Int)∧OwnG w0 31 elI (.slice p_out out.length c_out) out L_out)∧M=(L_out ++ [])) ((n.toNat+1)) ?start ?round
  case start=>exact ⟨_,s0,([]:List I),0,p1,((n).toNat),L2,rfl,o1_,⟨by omega,rfl⟩,⟨rfl,rfl,hO3⟩,rfl⟩
  case round =>
   rintro nn g M ⟨out,i,p_out,c_out,L_out,hT0,hq0,hinv0,⟨hg7,hg15,hO_out⟩,rfl⟩;obtain ⟨k0,rfl⟩:∃ m,nn=m+1:=⟨nn - 1,by omega⟩;simp only [dQ,hg7,hg15];clear hg7 hg15;have hm_out:=OwnG.max hO_out;refine Rs fun K J=>sE rfl (nl J (Sq fun K8 J8=>?_));rcases bt (decide (((i:Nat):Int)<(((n).toNat:Nat):Int))) with h29 | h29
   ·have ph29:=of_decide_eq_true h29;refine W_t h29 rfl (aG (J8 _ _ (Sq fun K9 J9=>aJ (Rs fun K J=>sE rfl (sE rfl (nl J (Rs fun K J=>sE rfl (sE rfl (sE rfl (sQ (aZ (v':=.int .i64 ((f i).1)) (cU_ (x:=i) rfl rfl (FnE.sub Hf sn) (by show ((i:Nat):Int)<n;omega)) rfl) rfl (sQ (aZ (v':=AV [pI (o (f i))]) (cU_ (x:=(f i)) rfl rfl (FnE.sub Ho sn) trivial) rfl) rfl (sN gT rfl fun b30 hb30=>sS [pI (o (f i))] aD rfl rfl rfl rfl rfl uH rfl hb30 (nl J (Sq fun K10 J10=>Rs fun K J=>?_))))))))))))));refine sQ (qL aD rfl m0 rfl) rfl (sQ (bZ au_ (EU (o (f i))) rfl) rfl (sE rfl (nl J ?_)));rcases bt (xU (o (f i))) with h31 | h31
    ·refine W_f (iS h31) rfl (aG (J10 _ _ (Rk fun K J=>sE rfl (sQ (qL aD rfl m0 rfl) rfl (bA rfl (dN [[pI (o (f i))]] [pI (o (f i))] PA oM pX rfl dd_ rfl rfl ⟨rfl,rfl,rfl,trivial⟩ rfl (fun b32 hb32=>bA rfl (oL (e:=elI) (l:=out) (m:=[(o (f i))]) 68 PA (by kernel_rfl) dd_ rfl rfl hO_out (SLe.lit (e:=elI) (l:=[(o (f i))]) m0 rfl (Nat.le_of_ble_eq_true rfl) rfl) (oU (oU tG)) (by show (out.length+1) * 68≤_;omega) dd_ (fun p33 c34 L35 hO36=>sE rfl (nl J (J9 _ _ (Rk fun K J=>sV (.int .i64 (((i+1):Nat):Int)) rfl (congrArg (Value.int .i64) (wx oo_ oo_ oo_)) (sE rfl (nl J (⟨pp_,_,_,(sA (sd (sd (s0)))),(Nat.lt_succ_self _),(out ++ [(o (f i))]),(i+1),p33,c34,L35,(by exact (hT0.symm.trans (Eq.symm (bI h29 (bI h31 rfl)))).symm),(Nat.lt_of_lt_of_le o1_ (Nat.le_of_lt_succ hq0)),⟨by omega,(by rw [List.length_append];show _+1=_;omega)⟩,⟨rfl,rfl,hO36⟩,rfl⟩)))))))))))))))
    refine W_t (iT h31) rfl (Rs fun K J=>bA rfl (bO (E:=31) (e:=elI) (l:=F_poly_bad) (fun v=>v) NA rfl (fun w hw=>xZ  w) (fun p37 c38 L39 hF40=>sE rfl (nl J (aL (aB (aT (aB (aB (aT (aB (aB (cC rfl (.inr rfl) rfl ?_)))))))))))))
    have hE:(F_poly_bad:(List I))=(vH n f o):=by exact (EL rfl (hT0.symm.trans (Eq.symm (bI h29 (aM h31 rfl)))))
    rw [← hE];exact ⟨_,rfl,⟨L39,lZ,hF40⟩⟩
   have ph29:=of_decide_eq_false h29;refine W_f h29 rfl (dW (aU (aU (bJ (hK_u4 _ _ pp_ ⟨_,s0,out,i,p_out,c_out,L_out,(by exact hT0.symm.trans (Eq.symm (aM h29 rfl))),⟨rfl,rfl,hO_out⟩,rfl⟩)))))
 rintro g M ⟨out,i,p_out,c_out,L_out,hCu4,⟨hg7,hg15,hO_out⟩,rfl⟩;simp only [dQ,hg7,hg15];clear hg7 hg15;have hm_out:=OwnG.max hO_out;refine dH [7,32,33,34,35,36,37,38,39,40,41,42,43,44,45,46,47,48,49] (fun g M=>∃ (cut:List I) (p_cut:Option Addr) (c_cut:Nat) (L_cut:List Blk),(sH n f o out i ((out.length+1)) out)=cut∧(g 7 = .slice p_cut cut.length c_cut∧OwnG w0 31 elI (.slice p_cut cut.length c_cut) cut L_cut)∧M=(L_cut ++ [])) (fun K_u41 hK_u41=>?_) ?_
 ·refine aJ ?_;refine eA [7,32,33,34,35,36,37,38,39,40,41,42,43,44,45,46,47,48,49] (fun g nn M=>∃ (cut:List I) (p_cut:Option Addr) (c_cut:Nat) (L_cut:List Blk),(sH n f o out i nn cut)=(sH n f o out i ((out.length+1)) out)∧cut.length<nn∧(True)∧(g 7 = .slice p_cut cut.length c_cut∧OwnG w0 31 elI (.slice p_cut cut.length c_cut) cut L_cut)∧M=(L_cut ++ [])) ((out.length+1)) ?start ?round
  case start=>exact ⟨_,s0,out,p_out,c_out,L_out,rfl,(Nat.lt_succ_self _),trivial,⟨rfl,hO_out⟩,rfl⟩
  case round =>
   rintro nn g M ⟨cut,p_cut,c_cut,L_cut,hT1,hq1,hinv1,⟨hg7,hO_cut⟩,rfl⟩;obtain ⟨k1,rfl⟩:∃ m,nn=m+1:=⟨nn - 1,by omega⟩;simp only [dQ,hg7];clear hg7;have hm_cut:=OwnG.max hO_cut;refine Sq fun K13 J13=>?_;refine dH [32,33,34,35,36,37,38,39,40,41,42,43,44] (fun g M=>(g 44 = .bool (decide (0<(((cut).length:Nat):Int))&&((Z.signW (cut.getD ((cut).length - 1) I0).dec).1==0)))∧M=(L_cut ++ [])) (fun K14 J14=>?_) ?_
   ·refine Rk fun K J=>sE rfl (sQ (aZ (v':=.int .i64 (((cut).length:Nat):Int)) (gD (e:=elI) nQ rfl (rO hO_cut lZ)) rfl) rfl (sE rfl ?_));rcases bt (decide (0<(((cut).length:Nat):Int))) with h48 | h48
    ·have ph48:=of_decide_eq_true h48;refine sB h48 rfl (sE rfl (sE rfl (sQ (aZ (v':=.int .i64 (((cut).length:Nat):Int)) (gD (e:=elI) nQ rfl (rO hO_cut lZ)) rfl) rfl (sV (.int .i64 ((((cut).length:Nat):Int) - 1)) rfl (congrArg (Value.int .i64) (wx oo_ oo_ oo_)) (sQ (aZ (v':=.pointer (some (slb (.slice p_cut cut.length c_cut) (((cut).length - 1) * 18+0)))) (wE (e:=elI) (l:=cut) (k:=((cut).length - 1)) nQ rfl rfl oo_ (rO hO_cut lZ) o2_) rfl) rfl ?_)))));refine sQ (oK (e:=elI) (l:=cut) (k:=((cut).length - 1)) (o:=0) aD rfl (rO hO_cut lZ) (eV I0 o2_) rfl) rfl ?_;refine sC (.int .i64 ((Z.signW (cut.getD ((cut).length - 1) I0).dec).1)) C0 (k9 (cut.getD ((cut).length - 1) I0).1 (cut.getD ((cut).length - 1) I0).2) rfl rfl rfl (sE rfl (sE rfl (nl J ?_)));refine J14 _ _ pp_ ⟨_,s0,?s44,rfl⟩
     case s44=>exact congrArg Value.bool (eB h48 rfl)
    have ph48:=of_decide_eq_false h48;refine sB h48 rfl (aI rfl (aI rfl (aI rfl (aI rfl (aI rfl (aI rfl (aI rfl (aI rfl (sE rfl (nl J ?_))))))))));refine J14 _ _ pp_ ⟨_,s0,?s44,rfl⟩
    case s44=>exact congrArg Value.bool (kU h48)
   rintro g49 M ⟨hg44,rfl⟩;simp only [dQ,hg44];clear hg44;rcases bt (decide (0<(((cut).length:Nat):Int))&&((Z.signW (cut.getD ((cut).length - 1) I0).dec).1==0)) with h50 | h50
   ·have ph51:=of_decide_eq_true (Bool.and_eq_true_iff.1 h50).1;refine W_t h50 rfl (aG (J13 _ _ (aJ (Rk fun K J=>sE rfl (sE rfl (sQ (aZ (v':=.int .i64 (((cut).length:Nat):Int)) (gD (e:=elI) nQ rfl (rO hO_cut lZ)) rfl) rfl (sV (.int .i64 ((((cut).length:Nat):Int) - 1)) rfl (congrArg (Value.int .i64) (wx oo_ oo_ oo_)) (sQ (fT_ (e:=elI) (l:=cut) (k:=((cut).length - 1)) nQ rfl rfl oo_ hO_cut oo_) rfl (sE rfl (nl J (⟨pp_,_,_,s0,(Nat.lt_succ_self _),(cut.take ((cut).length - 1)),p_cut,c_cut,L_cut,(by exact (hT1.symm.trans (Eq.symm (bI h50 rfl))).symm),(Nat.lt_of_lt_of_le (by rw [List.length_take];omega) (Nat.le_of_lt_succ hq1)),trivial,⟨rfl,(OwnG.take hO_cut oo_)⟩,rfl⟩)))))))))))
   refine W_f h50 rfl (dW (aU (aU (bJ (hK_u41 _ _ pp_ ⟨_,s0,cut,p_cut,c_cut,L_cut,(by exact hT1.symm.trans (Eq.symm (aM h50 rfl))),⟨rfl,hO_cut⟩,rfl⟩)))))
 rintro g M ⟨cut,p_cut,c_cut,L_cut,hCu41,⟨hg7,hO_cut⟩,rfl⟩;simp only [dQ,hg7];clear hg7;have hm_cut:=OwnG.max hO_cut;refine Sq fun K15 J15=>Rs fun K J=>sE rfl (sQ (aZ (v':=.int .i64 (((cut).length:Nat):Int)) (gD (e:=elI) nQ rfl (rO hO_cut lZ)) rfl) rfl (sE rfl (nl J ?_)));rcases bt (decide (25<(((cut).length:Nat):Int))) with h52 | h52
 ·have ph52:=of_decide_eq_true h52;refine W_t h52 rfl (Rs fun K J=>bA rfl (bO (E:=31) (e:=elI) (l:=F_poly_bad) (fun v=>v) NA rfl (fun w hw=>xZ  w) (fun p53 c54 L55 hF56=>sE rfl (nl J (aL (aB (cC rfl (.inr rfl) rfl ?_)))))))
  have hE:(F_poly_bad:(List I))=(vH n f o):=by exact trs (Eq.symm (smS hCu4)) (trs (Eq.symm (apS hCu41)) (bI h52 rfl))
  rw [← hE];exact ⟨_,rfl,⟨L55,lZ,hF56⟩⟩
 have ph52:=of_decide_eq_false h52;refine W_f h52 rfl (aG (J15 _ _ (Rs fun K J=>sE rfl (sE rfl (nl J (aL (cC rfl (.inr rfl) rfl ?_)))))))
 have hE:(cut:(List I))=(vH n f o):=by exact trs (Eq.symm (smS hCu4)) (trs (Eq.symm (apS hCu41)) (aM h52 rfl))
 rw [← hE];exact ⟨_,rfl,⟨L_cut,lZ,hO_cut⟩⟩

theorem X2 (vl:Value) (l:(List I)) (vf:Value) (f:I→Bool) (w:World) (hl:Slr w elI vl l) (hf:FnV Tryz.prog w vf eI (fun _=>True) (gX_ f)) :
    Calls Tryz.prog 242 [vl,vf].toArray w (fun e w'=>e = .returned (.int .i64 ((B5 l f).1))∧Ext w w'):=by
 obtain ⟨p_l,c_l,rfl⟩:=hl.form;obtain ⟨g_f,c_f,rfl,Hf⟩:=hf.open;refine d6 (N:=19) Tryz.func242 rfl rfl (by simp) ?_;obtain ⟨w0,rfl⟩:∃ w0,w0=w:=⟨_,rfl⟩;have Hl:=hl.old;have hm_l:=hl.max;simp only [cS,Nat.reduceAdd];refine Rs fun K J=>sE rfl (nl J (Sq fun K1 J1=>Rs fun K J=>sE rfl (sQ (aZ (v':=.int .i64 (((l).length:Nat):Int)) (gD (e:=elI) nQ rfl (SLe.sub Hl sn)) rfl) rfl (sE rfl (nl J ?_)))));refine kI (fun S M h=>J1 S M h) [4,5,8,9,10,11,12,13,14,15,16,17,18] (fun g M=>∃ (i:Nat),(sU l f ((l.length+1)) 0) = .inl i∧(g 8 = .int .i64 ((i:Nat):Int))∧M=[]) (fun K_u1 hK_u1=>?_) ?_
 ·refine aJ ?_;refine eA [4,5,8,9,10,11,12,13,14,15,16,17,18] (fun g nn M=>∃ (i:Nat),(sU l f nn i)=(sU l f ((l.length+1)) 0)∧l.length - i<nn∧(i≤l.length)∧(g 8 = .int .i64 ((i:Nat):Int))∧M=[]) ((l.length+1)) ?start ?round
  case start=>exact ⟨_,s0,0,rfl,o1_,o1_,rfl,rfl⟩
  case round =>
   rintro nn g M ⟨i,hT0,hq0,hinv0,hg8,rfl⟩;obtain ⟨k0,rfl⟩:∃ m,nn=m+1:=⟨nn - 1,by omega⟩;simp only [dQ,hg8];clear hg8;refine Rs fun K J=>sE rfl (nl J (Sq fun K6 J6=>?_));rcases bt (decide (((i:Nat):Int)<(((l).length:Nat):Int))) with h6 | h6
   ·have ph6:=of_decide_eq_true h6;refine W_t h6 rfl (aG (J6 _ _ (Sq fun K7 J7=>aJ (Rs fun K J=>sE rfl (sE rfl (nl J (Rs fun K J=>sE rfl (sE rfl (sE rfl (sQ (aZ (v':=.pointer (some (slb (.slice p_l l.length c_l) (i * 18+0)))) (lY (e:=elI) (l:=l) (k:=i) nQ rfl rfl (SLe.sub Hl sn) o2_) rfl) rfl ?_))))))))));refine sQ (oK (e:=elI) (l:=l) (k:=i) (o:=0) aD rfl (SLe.sub Hl sn) (eV I0 o2_) rfl) rfl ?_;refine sQ (aZ (v':=.bool (f (l.getD i I0))) (cU_ (x:=(l.getD i I0)) rfl rfl (FnE.sub Hf sn) trivial) rfl) rfl (nl J ?_);rcases bt (f (l.getD i I0)) with h7 | h7
    ·refine W_t h7 rfl (Rs fun K J=>sE rfl (sE rfl (nl J (aL (aT (aB (aB (aT (aB (aB (cC rfl (.inr rfl) rfl ?_)))))))))));refine (show (.int .i64 ((i:Nat):Int):Value) = .int .i64 ((W.cv ((i:Nat):Int)).1) by simp only [cvE (t:=((i:Nat):Int)) oo_]).trans ?_;exact (by exact congrArg vS8 (show _=(B5 l f) from (EL rfl (hT0.symm.trans (Eq.symm (bI h6 (bI h7 rfl)))))))
    refine W_f h7 rfl (aG (J7 _ _ (Rk fun K J=>sV (.int .i64 (((i+1):Nat):Int)) rfl (congrArg (Value.int .i64) (wx oo_ oo_ oo_)) (sE rfl (nl J (⟨pp_,_,_,s0,(Nat.lt_succ_self _),(i+1),(by exact (hT0.symm.trans (Eq.symm (bI h6 (aM h7 rfl)))).symm),(Nat.lt_of_lt_of_le o1_ (Nat.le_of_lt_succ hq0)),o1_,rfl,rfl⟩))))))
   have ph6:=of_decide_eq_false h6;refine W_f h6 rfl (dW (aU (aU (bJ (hK_u1 _ _ pp_ ⟨_,s0,i,(by exact hT0.symm.trans (Eq.symm (aM h6 rfl))),rfl,rfl⟩)))))
 rintro g M ⟨i,hCu1,hg8,rfl⟩;simp only [dQ,hg8];clear hg8;refine Rs fun K J=>sE rfl (nl J (aL (cC rfl (.inr rfl) rfl ?_)));exact (by exact congrArg vS8 (show _=(B5 l f) from trs (Eq.symm (smS hCu1)) rfl))

theorem RR (vl:Value) (l:(List I)) (vf:Value) (f:I→Bool) (w:World) (hl:Slr w elI vl l) (hf:FnV Tryz.prog w vf eI (fun _=>True) (gX_ f)) :
    Calls Tryz.prog 189 [vl,vf].toArray w (fun e w'=>e = .returned (.bool (AH l f))∧Ext w w'):=by
 obtain ⟨p_l,c_l,rfl⟩:=hl.form;obtain ⟨g_f,c_f,rfl,Hf⟩:=hf.open;refine d6 (N:=9) Tryz.func189 rfl rfl (by simp) ?_;obtain ⟨w0,rfl⟩:∃ w0,w0=w:=⟨_,rfl⟩;have Hl:=hl.old;have hm_l:=hl.max;simp only [cS,Nat.reduceAdd];refine Rs fun K J=>sE rfl (nl J (Rs fun K J=>sE rfl (sE rfl (sQ (aZ (v':=.int .i64 ((B5 l f).1)) (dA pk_ rfl (fun w hw=>X2 _ l _ f w (aR hw Hl sn) (FnE.ap hw (FnE.sub Hf sn)))) rfl) rfl (sE rfl (sE rfl (nl J (aL (cC rfl (.inr rfl) rfl ?_)))))))));exact (by rfl)

theorem R6 (a:I) :
    Ret Tryz.prog 190 [AV [pI a]] (.bool (CO a)):=by
 refine cM (N:=6) Tryz.func190 rfl rfl (by simp) (fun w0=>?_);simp only [cS,Nat.reduceAdd];refine Rs fun K J=>bA rfl (cH rfl rfl (fun b1 hb1=>sE rfl (nl J (Rs fun K J=>sQ (qL aD rfl m0 rfl) rfl (sQ (bZ au_ (EU a) rfl) rfl (sE rfl (sE rfl (nl J (aL (cC rfl (.inr rfl) rfl ?_))))))))));exact (by rfl)

theorem uJ (vp:Value) (p:(List I)) (w:World) (hp:Slr w elI vp p) :
    Calls Tryz.prog 107 [vp].toArray w (fun e w'=>e = .returned (.bool (eJ p))∧Ext w w'):=by
 obtain ⟨p_p,c_p,rfl⟩:=hp.form;refine d6 (N:=5) Tryz.func107 rfl rfl (by simp) ?_;obtain ⟨w0,rfl⟩:∃ w0,w0=w:=⟨_,rfl⟩;have Hp:=hp.old;have hm_p:=hp.max;simp only [cS,Nat.reduceAdd];refine Rs fun K J=>sE rfl (nl J (Rs fun K J=>sE rfl (sQ (aZ (v':=.bool (AH p (fun (y:I)=>(CO y)))) (dA oQ_ rfl (fun w hw=>RR _ p _ (fun (y:I)=>(CO y)) w (aR hw Hp sn) (FnV.mk hw oR_ (fun w hw x hx=>(R6 x) w)))) rfl) rfl (sE rfl (nl J (aL (cC rfl (.inr rfl) rfl ?_)))))));exact (by rfl)

theorem V4 (vl:Value) (l:(List Rt)) (vf:Value) (f:Rt→Bool) (w:World) (hl:Slr w elRt vl l) (hf:FnV Tryz.prog w vf eRt (fun _=>True) (gX_ f)) :
    Calls Tryz.prog 173 [vl,vf].toArray w (fun e w'=>e = .returned (.int .i64 ((xS l f).1))∧Ext w w'):=by
 obtain ⟨p_l,c_l,rfl⟩:=hl.form;obtain ⟨g_f,c_f,rfl,Hf⟩:=hf.open;refine d6 (N:=19) Tryz.func173 rfl rfl (by simp) ?_;obtain ⟨w0,rfl⟩:∃ w0,w0=w:=⟨_,rfl⟩;have Hl:=hl.old;have hm_l:=hl.max;simp only [cS,Nat.reduceAdd];refine Rs fun K J=>sE rfl (nl J (Sq fun K1 J1=>Rs fun K J=>sE rfl (sQ (aZ (v':=.int .i64 (((l).length:Nat):Int)) (gD (e:=elRt) AD rfl (SLe.sub Hl sn)) rfl) rfl (sE rfl (nl J ?_)))));refine kI (fun S M h=>J1 S M h) [4,5,8,9,10,11,12,13,14,15,16,17,18] (fun g M=>∃ (i:Nat),(rM l f ((l.length+1)) 0) = .inl i∧(g 8 = .int .i64 ((i:Nat):Int))∧M=[]) (fun K_u1 hK_u1=>?_) ?_
 ·refine aJ ?_;refine eA [4,5,8,9,10,11,12,13,14,15,16,17,18] (fun g nn M=>∃ (i:Nat),(rM l f nn i)=(rM l f ((l.length+1)) 0)∧l.length - i<nn∧(i≤l.length)∧(g 8 = .int .i64 ((i:Nat):Int))∧M=[]) ((l.length+1)) ?start ?round
  case start=>exact ⟨_,s0,0,rfl,o1_,o1_,rfl,rfl⟩
  case round =>
   rintro nn g M ⟨i,hT0,hq0,hinv0,hg8,rfl⟩;obtain ⟨k0,rfl⟩:∃ m,nn=m+1:=⟨nn - 1,by omega⟩;simp only [dQ,hg8];clear hg8;refine Rs fun K J=>sE rfl (nl J (Sq fun K6 J6=>?_));rcases bt (decide (((i:Nat):Int)<(((l).length:Nat):Int))) with h6 | h6
   ·have ph6:=of_decide_eq_true h6;refine W_t h6 rfl (aG (J6 _ _ (Sq fun K7 J7=>aJ (Rs fun K J=>sE rfl (sE rfl (nl J (Rs fun K J=>sE rfl (sE rfl (sE rfl (sQ (aZ (v':=.pointer (some (slb (.slice p_l l.length c_l) (i * 36+0)))) (lY (e:=elRt) (l:=l) (k:=i) AD rfl rfl (SLe.sub Hl sn) o2_) rfl) rfl ?_))))))))));refine sQ (oK (e:=elRt) (l:=l) (k:=i) (o:=0) bD rfl (SLe.sub Hl sn) (eV Rt0 o2_) rfl) rfl ?_;refine sQ (aZ (v':=.bool (f (l.getD i Rt0))) (cU_ (x:=(l.getD i Rt0)) rfl rfl (FnE.sub Hf sn) trivial) rfl) rfl (nl J ?_);rcases bt (f (l.getD i Rt0)) with h7 | h7
    ·refine W_t h7 rfl (Rs fun K J=>sE rfl (sE rfl (nl J (aL (aT (aB (aB (aT (aB (aB (cC rfl (.inr rfl) rfl ?_)))))))))));refine (show (.int .i64 ((i:Nat):Int):Value) = .int .i64 ((W.cv ((i:Nat):Int)).1) by simp only [cvE (t:=((i:Nat):Int)) oo_]).trans ?_;exact (by exact congrArg vS8 (show _=(xS l f) from (EL rfl (hT0.symm.trans (Eq.symm (bI h6 (bI h7 rfl)))))))
    refine W_f h7 rfl (aG (J7 _ _ (Rk fun K J=>sV (.int .i64 (((i+1):Nat):Int)) rfl (congrArg (Value.int .i64) (wx oo_ oo_ oo_)) (sE rfl (nl J (⟨pp_,_,_,s0,(Nat.lt_succ_self _),(i+1),(by exact (hT0.symm.trans (Eq.symm (bI h6 (aM h7 rfl)))).symm),(Nat.lt_of_lt_of_le o1_ (Nat.le_of_lt_succ hq0)),o1_,rfl,rfl⟩))))))
   have ph6:=of_decide_eq_false h6;refine W_f h6 rfl (dW (aU (aU (bJ (hK_u1 _ _ pp_ ⟨_,s0,i,(by exact hT0.symm.trans (Eq.symm (aM h6 rfl))),rfl,rfl⟩)))))
 rintro g M ⟨i,hCu1,hg8,rfl⟩;simp only [dQ,hg8];clear hg8;refine Rs fun K J=>sE rfl (nl J (aL (cC rfl (.inr rfl) rfl ?_)));exact (by exact congrArg vS8 (show _=(xS l f) from trs (Eq.symm (smS hCu1)) rfl))

theorem G7 (vl:Value) (l:(List Rt)) (vf:Value) (f:Rt→Bool) (w:World) (hl:Slr w elRt vl l) (hf:FnV Tryz.prog w vf eRt (fun _=>True) (gX_ f)) :
    Calls Tryz.prog 99 [vl,vf].toArray w (fun e w'=>e = .returned (.bool (qS l f))∧Ext w w'):=by
 obtain ⟨p_l,c_l,rfl⟩:=hl.form;obtain ⟨g_f,c_f,rfl,Hf⟩:=hf.open;refine d6 (N:=9) Tryz.func99 rfl rfl (by simp) ?_;obtain ⟨w0,rfl⟩:∃ w0,w0=w:=⟨_,rfl⟩;have Hl:=hl.old;have hm_l:=hl.max;simp only [cS,Nat.reduceAdd];refine Rs fun K J=>sE rfl (nl J (Rs fun K J=>sE rfl (sE rfl (sQ (aZ (v':=.int .i64 ((xS l f).1)) (dA oM_ rfl (fun w hw=>V4 _ l _ f w (aR hw Hl sn) (FnE.ap hw (FnE.sub Hf sn)))) rfl) rfl (sE rfl (sE rfl (nl J (aL (cC rfl (.inr rfl) rfl ?_)))))))));exact (by rfl)

theorem TO (a:Rt) :
    Ret Tryz.prog 277 [AV [pI a.n,pI a.d]] (.bool (tC a)):=by
 refine cM (N:=6) Tryz.func277 rfl rfl (by simp) (fun w0=>?_);simp only [cS,Nat.reduceAdd];refine Rs fun K J=>bA rfl (cH rfl rfl (fun b1 hb1=>sE rfl (nl J (Rs fun K J=>sQ (qL bD rfl m0 rfl) rfl (sQ (bZ y7 (iV a) rfl) rfl (sE rfl (sE rfl (nl J (aL (cC rfl (.inr rfl) rfl ?_))))))))));exact (by rfl)

theorem HP (vl:Value) (l:(List Rt)) (w:World) (hl:Slr w elRt vl l) :
    Calls Tryz.prog 256 [vl].toArray w (fun e w'=>e = .returned (.bool (nH l))∧Ext w w'):=by
 obtain ⟨p_l,c_l,rfl⟩:=hl.form;refine d6 (N:=6) Tryz.func256 rfl rfl (by simp) ?_;obtain ⟨w0,rfl⟩:∃ w0,w0=w:=⟨_,rfl⟩;have Hl:=hl.old;have hm_l:=hl.max;simp only [cS,Nat.reduceAdd];refine Rs fun K J=>sE rfl (nl J (Rs fun K J=>sE rfl (sQ (aZ (v':=.bool (qS l (fun (y:Rt)=>(tC y)))) (dA nt_ rfl (fun w hw=>G7 _ l _ (fun (y:Rt)=>(tC y)) w (aR hw Hl sn) (FnV.mk hw pD_ (fun w hw x hx=>(TO x) w)))) rfl) rfl (sE rfl (sE rfl (nl J (aL (cC rfl (.inr rfl) rfl ?_))))))));exact (by rfl)
end Go.Proofs.YtkjjponijamaoaaGreatDoor


namespace Go.Num
open Go Go.Kn
def zrI (x:I):Bool:=(Z.signW x.dec).1==0
def tM (l:List I):List I:=(l.reverse.dropWhile zrI).reverse
def badp:List I:=[E Z.bad]
def mkP (l:List I):List I:=bif l.all gdI then (if (tM l).length≤25 then tM l else badp) else badp
theorem B2 (l:List I) (x:I):tM (l ++ [x])=bif zrI x then tM l else l ++ [x]:=by
  unfold tM;rw [List.reverse_append]
  show (List.dropWhile zrI (x :: l.reverse)).reverse=_
  rw [List.dropWhile_cons]
  cases zrI x
  · show (x :: l.reverse).reverse=_
    simp
  rfl
theorem FQ (l:List I):tM l=l.take (tM l).length:=by
  have h:tM l <+: l:=by
    unfold tM;have:=List.dropWhile_suffix zrI (l:=l.reverse);have h2:=List.reverse_prefix.2 this
    rwa [List.reverse_reverse] at h2
  obtain ⟨r,hr⟩:=h;have h3:(tM l ++ r).take (tM l).length=tM l:=List.take_left;rw [hr] at h3;exact h3.symm
theorem aR_ (l:List I):(mkP l).length≤25:=by
  unfold mkP
  cases l.all gdI
  · exact Nat.le_of_ble_eq_true rfl
  simp only [cond_true]
  split
  · assumption
  exact Nat.le_of_ble_eq_true rfl
theorem BZ {α:Type} (l:List α):l=[] ∨ ∃ m x,l=m ++ [x]:=by
  rcases List.eq_nil_or_concat l with h | ⟨m,x,h⟩
  · exact .inl h
  exact .inr ⟨m,x,by rw [h];simp⟩
theorem QO (n:Int) (f:Nat→I) (o:I→I) (out:List I) (i:Nat):∀ (k:Nat) (cut:List I),cut.length<k→qK n f o out i k cut=tM cut
  | 0,cut,h=>absurd h (Nat.not_lt_zero _)
  | k+1,cut,h=>by
    unfold qK;rcases BZ cut with rfl | ⟨m,x,rfl⟩
    · rfl
    rw [B2];have e1:decide (0<(((m ++ [x]).length:Nat):Int))=true:=decide_eq_true (by simp only [List.length_append,List.length_cons,List.length_nil];omega)
    have e2:(m ++ [x]).length - 1=m.length:=by simp
    rw [e1,e2]
    have e3:(m ++ [x]).getD m.length I0=x:=by simp
    have e4:(m ++ [x]).take m.length=m:=by simp
    rw [e3,e4,Bool.true_and]
    show (bif zrI x then _ else _)=_
    rw [QO n f o out i k m (by simp only [List.length_append,List.length_cons,List.length_nil] at h;omega)]
theorem S7 (i m:Nat):List.range' i (m+1)=i :: List.range' (i+1) m:=rfl
theorem SR (n:Int) (f:Nat→I) (o:I→I):∀ (k:Nat) (out:List I) (i:Nat),n.toNat - i<k →
    qH n f o k out i=bif ((List.range' i (n.toNat - i)).map fun j=>o (f j)).all gdI then .inl (out ++ (List.range' i (n.toNat - i)).map fun j=>o (f j),i+(n.toNat - i)) else .inr badp
  | 0,out,i,h=>absurd h (Nat.not_lt_zero _)
  | k+1,out,i,h=>by
    unfold qH
    by_cases hi:i<n.toNat
    · rw [decide_eq_true oo_,cond_true]
      obtain ⟨m,hm⟩:∃ m,n.toNat - i=m+1:=⟨n.toNat - i - 1,by omega⟩
      have hm':n.toNat - (i+1)=m:=by omega
      rw [hm,S7,List.map_cons,List.all_cons,SR n f o k _ _ oo_,hm']
      show (bif gdI (o (f i)) then _ else _)=_
      cases gdI (o (f i))
      · rfl
      simp only [cond_true,Bool.true_and,List.append_assoc,List.cons_append,List.nil_append];rw [show i+1+m=i+(m+1) by omega]
    rw [decide_eq_false oo_,cond_false,show n.toNat - i=0 by omega]
    simp
theorem CS (n:Int) (f:Nat→I) (o:I→I):oX n f o=mkP ((List.range n.toNat).map fun j=>o (f j)):=by
  unfold oX mkP;rw [SR n f o _ _ _ oo_,Nat.sub_zero,← List.range_eq_range']
  cases ((List.range n.toNat).map fun j=>o (f j)).all gdI
  · rfl
  simp only [cond_true,sm,ap,List.nil_append];rw [QO _ _ _ _ _ _ _ (Nat.lt_succ_self _)]
  by_cases h:(tM ((List.range n.toNat).map fun j=>o (f j))).length≤25
  · rw [if_pos h,decide_eq_false oo_,cond_false]
  rw [if_neg h,decide_eq_true oo_,cond_true];rfl
theorem YN (n:Int) (f:Nat→Go.Num.W) (o:Go.Num.W→I) (out:List I) (i:Nat):∀ (k:Nat) (cut:List I),sH n f o out i k cut=qK n (fun _=>I0) (fun x=>x) out i k cut
  | 0,cut=>rfl
  | k+1,cut=>by unfold sH qK;rw [YN n f o out i k]
theorem QJ (n:Int) (f:Nat→Go.Num.W) (o:Go.Num.W→I):∀ (k:Nat) (out:List I) (i:Nat),sG n f o k out i=qH n (fun j=>o (f j)) (fun x=>x) k out i
  | 0,out,i=>rfl
  | k+1,out,i=>by unfold sG qH;rw [QJ n f o k]
theorem RO (n:Int) (f:Nat→Go.Num.W) (o:Go.Num.W→I):vH n f o=mkP ((List.range n.toNat).map fun j=>o (f j)):=by
  rw [← CS n (fun j=>o (f j)) (fun x=>x)];unfold vH oX;rw [QJ]
  congr 1
  funext s
  simp only [ap];rw [YN,QO _ _ _ _ _ _ _ (Nat.lt_succ_self _),QO _ _ _ _ _ _ _ (Nat.lt_succ_self _)]
theorem xW {c:Bool} {x y:List I} (h:x.length≤25) (k:y.length≤25):(bif c then x else y).length≤25:=by cases c <;> assumption
theorem BI:badp.length≤25:=Nat.le_of_ble_eq_true rfl
theorem RP (n:Int) (f:Nat→I) (o:I→I):(oX n f o).length≤25:=by rw [CS];exact aR_ _
theorem zW (l:List I):(kE l).length≤25:=RP _ _ _
theorem rR (l:List W):(eU l).length≤25:=by unfold eU;rw [RO];exact aR_ _
theorem ES (p q:List I) (f:I→I→I):(oI p q f).length≤25:=xW BI (RP _ _ _)
theorem jL (p q:List I):(cY p q).length≤25:=ES _ _ _
theorem xY (p q:List I):(oT p q).length≤25:=ES _ _ _
theorem lL (p q:List I):(cI p q).length≤25:=xW BI (xW (Nat.zero_le _) (RP _ _ _))
theorem iI (p:List I) (n:I):(dS p n).length≤25:=xW (ES _ _ _) BI
theorem wZ (p:List I):(gW p).length≤25:=ES _ _ _
theorem S6 (d:I) (n:Int):∀ (k:Nat) (out:List I),n.toNat - out.length<k→1≤out.length→(pM d n k out).length=max n.toNat out.length
  | 0,out,h,_=>absurd h (Nat.not_lt_zero _)
  | k+1,out,h,h1=>by
    unfold pM
    by_cases hc:(out.length:Int)<n
    · rw [decide_eq_true hc,cond_true,S6 d n k _ (by simp only [List.length_append,List.length_cons,List.length_nil];omega) (by simp)]
      simp only [List.length_append,List.length_cons,List.length_nil];omega
    rw [decide_eq_false hc,cond_false];omega
theorem LT (d:I) (n:Int):(iM d n).length=max n.toNat 1:=S6 d n _ _ (by simp only [List.length_cons,List.length_nil];omega) (by simp)
theorem LL (n i j:Int) (m:I):∀ (t:Nat) (out:List I) (k:Nat) (w:I),(i+1).toNat - k<t→out.length=k→k≤(i+1).toNat→(qE n i j m t out k w).1.length=(i+1).toNat
  | 0,out,k,w,h,_,_=>absurd h (Nat.not_lt_zero _)
  | t+1,out,k,w,h,h1,h2=>by
    unfold qE
    by_cases hc:(k:Int)<i+1
    · rw [decide_eq_true hc,cond_true]
      have hl:(out ++ [w]).length=k+1:=by simp [h1]
      cases decide ((k:Int)<n)
      · exact LL n i j m t _ _ _ oo_ hl oo_
      exact LL n i j m t _ _ _ oo_ hl oo_
    rw [decide_eq_false hc,cond_false]
    show out.length=_
    omega
theorem R8 (n i:Int):(iH n i).length=(i+1).toNat:=LL n i _ _ _ _ _ _ oo_ rfl (Nat.zero_le _)
end Go.Num

