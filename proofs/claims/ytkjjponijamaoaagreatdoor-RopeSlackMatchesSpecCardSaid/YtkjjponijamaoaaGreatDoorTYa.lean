/- Lemmas: what they ask stands in their statements. -/
import Derived.Test.YtkjjponijamaoaaGreatDoorTGa
set_option linter.unusedSimpArgs false
set_option linter.unusedVariables false
set_option maxHeartbeats 8000000
set_option maxRecDepth 20000
namespace Go.Proofs.YtkjjponijamaoaaGreatDoor
open Go.Kn Go.Num Tryz
attribute [local irreducible] Go.Kn.W WL PL OpQ OpR OpS
theorem BH (a:I) :
    Ret prog 186 [AV [pI a]] (AV [pI (mN a)]):=by
 refine bL (N:=4) func186 rfl rfl (by simp) (fun w0=>?_);simp only [bO,Nat.reduceAdd];refine go2 ?_;intro b1 hb1;refine go_ ?_;intro b2 hb2;refine go6 ?_;refine bA rfl (.inr rfl) (eF rfl m0 tyT rfl) ?_;exact (by rfl)
theorem yU (a:I) :
    Ret prog 180 [AV [pI a]] (.bool (rZ a)):=by
 refine bL (N:=10) func180 rfl rfl (by simp) (fun w0=>?_);simp only [bO,Nat.reduceAdd];refine go2 ?_;intro b1 hb1;refine go2 ?_;refine gJv [2,3,4,5,6,7,8,9] [(2,.bool (!a.1.bad&&a.1.valid))] (fun K1 J1=>?_) ?_
 ·refine go4 ?_;rcases bt a.1.bad with h3 | h3
  ·refine sB (gE h3) rfl (go5 ?_);refine J1 _ _ pp_ s0 (bK (MO h3))
  refine sB (iK h3) rfl (go_ ?_);refine sC (.bool a.1.valid) aB (vR a.1 a.2) rfl rfl rfl (go3 ?_);refine J1 _ _ pp_ s0 (bK (MN h3 rfl))
 intro g4;refine go_ ?_;refine bA rfl (.inr rfl) rfl ?_;exact (by rfl)
theorem sJ  (w:World)  :
    Calls prog 181 [].toArray w (fun e w'=>∃ v,e = .returned (v)∧Ext w w'∧Slo w.heap.size w' 31 elI v F_poly_bad):=by
 refine dW (n:=3) (fun v=>v) func181 rfl rfl (by simp) ?_;obtain ⟨w0,rfl⟩:∃ w0,w0=w:=⟨_,rfl⟩;simp only [bO,Nat.reduceAdd];obtain ⟨q0,hq0⟩:=nm ((E Z.bad):I);refine go4 ?_;refine sC (AV [pI q0]) aB gX rfl rfl (by subst hq0;rfl) (bD rfl (bU [[pI q0]] [pI q0] GC kN lG rfl dd_ rfl rfl ⟨rfl,rfl,rfl,trivial⟩ rfl (fun b1 hb1=>go3 ?_)));refine bA rfl (.inr rfl) rfl ?_
 have hE:([q0]:(List I))=F_poly_bad:=by obtain rfl:=hq0.symm;exact rfl
 rw [← hE];exact ⟨_,rfl,⟨_,(sk sn),OwnG.lit (e:=elI) (l:=[q0]) (qs:=[pI q0]) hb1 rfl (Nat.le_of_ble_eq_true rfl) rfl⟩⟩
theorem zZ (n:Int) (vf:Value) (f:Nat→I) (vo:Value) (o:I→I) (w:World) (hf:FnV prog w vf eN (fun k=>(k:Int)<n) (bW_ f)) (ho:FnV prog w vo eI (fun _=>True) (bW_ o)) (hpre:n≤200) :
    Calls prog 184 [.int .i64 n,vf,vo].toArray w (fun e w'=>∃ v,e = .returned (v)∧Ext w w'∧Slo w.heap.size w' 31 elI v (kO n f o)):=by
 obtain ⟨g_f,c_f,rfl,Hf⟩:=hf.open;obtain ⟨g_o,c_o,rfl,Ho⟩:=ho.open;refine dW (n:=55) (fun v=>v) func184 rfl rfl (by simp) ?_;obtain ⟨w0,rfl⟩:∃ w0,w0=w:=⟨_,rfl⟩;simp only [bO,Nat.reduceAdd];refine go5 ?_;refine sQ (aL (v':=.int .i64 (((n).toNat:Nat):Int)) (uK rfl rfl) (congrArg (Value.int .i64) oo_)) rfl (bD rfl (X0 (E:=31) (e:=elI) (n:=0) (c:=(n).toNat) 68 I0 GC (by kernel_rfl) dd_ (by kernel_rfl) rfl rfl oo_ oo_ oo_ oo_ dd_ dd_ (fun p1 L2 hO3=>go5 ?_)));refine sQ (aL (v':=.int .i64 (((n).toNat:Nat):Int)) (uK rfl rfl) (congrArg (Value.int .i64) oo_)) rfl (go2 ?_);refine gJ3 [6,7,8,9,15,16,17,18,19,20,21,22,23,24,25,26,27,28,29,30,31] (fun g M=>∃ (out:List I) (i:Nat) (p_out:Option Addr) (c_out:Nat) (L_out:List Blk),(lN n f o ((n.toNat+1)) ([]:List I) 0) = .inl (out,i)∧(g 7 = .slice p_out out.length c_out∧g 15 = .int .i64 ((i:Nat):Int)∧OwnG w0 31 elI (.slice p_out out.length c_out) out L_out)∧M=(L_out ++ [])) (fun K_u4 hK_u4=>?_) ?_
 ·refine go_ ?_;refine cK [6,7,8,9,15,16,17,18,19,20,21,22,23,24,25,26,27,28,29,30,31] (fun g nn M=>∃ (out:List I) (i:Nat) (p_out:Option Addr) (c_out:Nat) (L_out:List Blk),(lN n f o nn out i)=(lN n f o ((n.toNat+1)) ([]:List I) 0)∧n.toNat - i<nn∧(i≤n.toNat∧out.length=i)∧(g 7 = .slice p_out out.length c_out∧g 15 = .int .i64 ((i:Nat):Int)∧OwnG w0 31 elI (.slice p_out out.length c_out) out L_out)∧M=(L_out ++ [])) ((n.toNat+1)) ?start ?round
  case start=>exact ⟨_,s0,([]:List I),0,p1,((n).toNat),L2,rfl,o1_,⟨by omega,rfl⟩,⟨rfl,rfl,hO3⟩,rfl⟩
  case round =>
   rintro nn g M ⟨out,i,p_out,c_out,L_out,hT0,hq0,hinv0,⟨hg7,hg15,hO_out⟩,rfl⟩;obtain ⟨k0,rfl⟩:∃ m,nn=m+1:=⟨nn - 1,by omega⟩;simp only [fF,hg7,hg15];clear hg7 hg15;have hm_out:=OwnG.max hO_out;refine go4 ?_;refine aH _ rfl (fun h29=>?_) (fun h29=>?_)
   ·have ph29:=of_decide_eq_true h29;refine AG ?_;refine sQ (aL (v':=AV [pI (f i)]) (TR (x:=i) rfl rfl (FnE.sub Hf sn) (by show ((i:Nat):Int)<n;omega)) rfl) rfl (sQ (aL (v':=AV [pI (o (f i))]) (TR (x:=(f i)) rfl rfl (FnE.sub Ho sn) trivial) rfl) rfl (go_ ?_));intro b30 hb30;refine go5 ?_;refine sQ (bI aB (yU (o (f i))) rfl) rfl (go2 ?_);rcases bt (rZ (o (f i))) with h31 | h31
    ·refine W_f (gE h31) rfl (go4 ?_);refine bD rfl (bU [[pI (o (f i))]] [pI (o (f i))] GC kN lG rfl dd_ rfl rfl ⟨rfl,rfl,rfl,trivial⟩ rfl (fun b32 hb32=>bD rfl (lM (e:=elI) (l:=out) (m:=[(o (f i))]) 68 GC (by kernel_rfl) dd_ rfl rfl hO_out (SLe.lit (e:=elI) (l:=[(o (f i))]) m0 rfl (Nat.le_of_ble_eq_true rfl) rfl) (kW (kW n6)) (by show (out.length+1) * 68≤_;omega) dd_ (fun p33 c34 L35 hO36=>go3 ?_))));refine sV (.int .i64 (((i+1):Nat):Int)) rfl (congrArg (Value.int .i64) (wx oo_ oo_ oo_)) (go2 ?_);refine ⟨pp_,_,_,(sA (sd (sd (s0)))),(Nat.lt_succ_self _),(out ++ [(o (f i))]),(i+1),p33,c34,L35,(by exact (hT0.symm.trans (Eq.symm (aY h29 (aY h31 rfl)))).symm),(Nat.lt_of_lt_of_le o1_ (Nat.le_of_lt_succ hq0)),⟨by omega,(by rw [List.length_append];show _+1=_;omega)⟩,⟨rfl,rfl,hO36⟩,rfl⟩
    refine W_t (iK h31) rfl (go_ ?_);refine bD rfl (aN (E:=31) (e:=elI) (l:=F_poly_bad) (fun v=>v) aB rfl (fun w hw=>sJ  w) (fun p37 c38 L39 hF40=>go3 ?_));refine bA rfl (.inr rfl) rfl ?_
    have hE:(F_poly_bad:(List I))=(kO n f o):=by exact (DI rfl (hT0.symm.trans (Eq.symm (aY h29 (aI h31 rfl)))))
    rw [← hE];exact ⟨_,rfl,⟨L39,lZ,hF40⟩⟩
   have ph29:=of_decide_eq_false h29;refine go_ ?_;refine hK_u4 _ _ pp_ ⟨_,s0,out,i,p_out,c_out,L_out,(by exact hT0.symm.trans (Eq.symm (aI h29 rfl))),⟨rfl,rfl,hO_out⟩,rfl⟩
 rintro g M ⟨out,i,p_out,c_out,L_out,hCu4,⟨hg7,hg15,hO_out⟩,rfl⟩;simp only [fF,hg7,hg15];clear hg7 hg15;have hm_out:=OwnG.max hO_out;refine y6 [7,32,33,34,35,36,37,38,39,40,41,42,43,44,45,46,47,48,49] (fun g M=>∃ (cut:List I) (p_cut:Option Addr) (c_cut:Nat) (L_cut:List Blk),(lO n f o out i ((out.length+1)) out)=cut∧(g 7 = .slice p_cut cut.length c_cut∧OwnG w0 31 elI (.slice p_cut cut.length c_cut) cut L_cut)∧M=(L_cut ++ [])) (fun K_u41 hK_u41=>?_) ?_
 ·refine go_ ?_;refine cK [7,32,33,34,35,36,37,38,39,40,41,42,43,44,45,46,47,48,49] (fun g nn M=>∃ (cut:List I) (p_cut:Option Addr) (c_cut:Nat) (L_cut:List Blk),(lO n f o out i nn cut)=(lO n f o out i ((out.length+1)) out)∧cut.length<nn∧(True)∧(g 7 = .slice p_cut cut.length c_cut∧OwnG w0 31 elI (.slice p_cut cut.length c_cut) cut L_cut)∧M=(L_cut ++ [])) ((out.length+1)) ?start ?round
  case start=>exact ⟨_,s0,out,p_out,c_out,L_out,rfl,(Nat.lt_succ_self _),trivial,⟨rfl,hO_out⟩,rfl⟩
  case round =>
   rintro nn g M ⟨cut,p_cut,c_cut,L_cut,hT1,hq1,hinv1,⟨hg7,hO_cut⟩,rfl⟩;obtain ⟨k1,rfl⟩:∃ m,nn=m+1:=⟨nn - 1,by omega⟩;simp only [fF,hg7];clear hg7;have hm_cut:=OwnG.max hO_cut;refine go_ ?_;refine gJv [32,33,34,35,36,37,38,39,40,41,42,43,44] [(44,.bool (decide (0<(((cut).length:Nat):Int))&&((Z.signW (cut.getD ((cut).length - 1) I0).dec).1==0)))] (fun K14 J14=>?_) ?_
   ·refine go2 ?_;refine sQ (aL (v':=.int .i64 (((cut).length:Nat):Int)) (eR (e:=elI) jV rfl (rO hO_cut lZ)) rfl) rfl (go_ ?_);refine sBB rfl (fun h48=>?_) (fun h48=>?_)
    ·have ph48:=of_decide_eq_true h48;refine go2 ?_;refine sQ (aL (v':=.int .i64 (((cut).length:Nat):Int)) (eR (e:=elI) jV rfl (rO hO_cut lZ)) rfl) rfl (sV (.int .i64 ((((cut).length:Nat):Int) - 1)) rfl (congrArg (Value.int .i64) (wx oo_ oo_ oo_)) (sQ (aL (v':=.pointer (some (slb (.slice p_cut cut.length c_cut) (((cut).length - 1) * 18+0)))) (u6 (e:=elI) (l:=cut) (k:=((cut).length - 1)) jV rfl rfl oo_ (rO hO_cut lZ) o2_) rfl) rfl ?_));refine sQ (mE (e:=elI) (l:=cut) (k:=((cut).length - 1)) (o:=0) tyT rfl (rO hO_cut lZ) (eH I0 o2_) rfl) rfl ?_;refine sC (.int .i64 ((Z.signW (cut.getD ((cut).length - 1) I0).dec).1)) aB (iY (cut.getD ((cut).length - 1) I0).1 (cut.getD ((cut).length - 1) I0).2) rfl rfl rfl (go3 ?_);refine J14 _ _ pp_ s0 (bK (kZ h48 rfl))
    have ph48:=of_decide_eq_false h48;refine jT ?_;refine J14 _ _ pp_ s0 (bK (oZ h48))
   intro g49;refine aH _ rfl (fun h50=>?_) (fun h50=>?_)
   ·have ph51:=of_decide_eq_true (Bool.and_eq_true_iff.1 h50).1;refine go5 ?_;refine sQ (aL (v':=.int .i64 (((cut).length:Nat):Int)) (eR (e:=elI) jV rfl (rO hO_cut lZ)) rfl) rfl (sV (.int .i64 ((((cut).length:Nat):Int) - 1)) rfl (congrArg (Value.int .i64) (wx oo_ oo_ oo_)) (sQ (XV (e:=elI) (l:=cut) (k:=((cut).length - 1)) jV rfl rfl oo_ hO_cut oo_) rfl (go2 ?_)));refine ⟨pp_,_,_,s0,(Nat.lt_succ_self _),(cut.take ((cut).length - 1)),p_cut,c_cut,L_cut,(by exact (hT1.symm.trans (Eq.symm (aY h50 rfl))).symm),(Nat.lt_of_lt_of_le (by rw [List.length_take];omega) (Nat.le_of_lt_succ hq1)),trivial,⟨rfl,(OwnG.take hO_cut oo_)⟩,rfl⟩
   refine go_ ?_;refine hK_u41 _ _ pp_ ⟨_,s0,cut,p_cut,c_cut,L_cut,(by exact hT1.symm.trans (Eq.symm (aI h50 rfl))),⟨rfl,hO_cut⟩,rfl⟩
 rintro g M ⟨cut,p_cut,c_cut,L_cut,hCu41,⟨hg7,hO_cut⟩,rfl⟩;simp only [fF,hg7];clear hg7;have hm_cut:=OwnG.max hO_cut;refine go3 ?_;refine sQ (aL (v':=.int .i64 (((cut).length:Nat):Int)) (eR (e:=elI) jV rfl (rO hO_cut lZ)) rfl) rfl (go2 ?_);refine aH _ rfl (fun h52=>?_) (fun h52=>?_)
 ·have ph52:=of_decide_eq_true h52;refine go_ ?_;refine bD rfl (aN (E:=31) (e:=elI) (l:=F_poly_bad) (fun v=>v) aB rfl (fun w hw=>sJ  w) (fun p53 c54 L55 hF56=>go3 ?_));refine bA rfl (.inr rfl) rfl ?_
  have hE:(F_poly_bad:(List I))=(kO n f o):=by exact trs (Eq.symm (smS hCu4)) (trs (Eq.symm (apS hCu41)) (aY h52 rfl))
  rw [← hE];exact ⟨_,rfl,⟨L55,lZ,hF56⟩⟩
 have ph52:=of_decide_eq_false h52;refine go6 ?_;refine bA rfl (.inr rfl) rfl ?_
 have hE:(cut:(List I))=(kO n f o):=by exact trs (Eq.symm (smS hCu4)) (trs (Eq.symm (apS hCu41)) (aI h52 rfl))
 rw [← hE];exact ⟨_,rfl,⟨L_cut,lZ,hO_cut⟩⟩
theorem JQ (n:Int) (vf:Value) (f:Nat→Go.Num.W) (vo:Value) (o:Go.Num.W→I) (w:World) (hf:FnV prog w vf eN (fun k=>(k:Int)<n) (ip_ f)) (ho:FnV prog w vo eW (fun _=>True) (bW_ o)) (hpre:n≤200) :
    Calls prog 238 [.int .i64 n,vf,vo].toArray w (fun e w'=>∃ v,e = .returned (v)∧Ext w w'∧Slo w.heap.size w' 31 elI v (pG n f o)):=by
 obtain ⟨g_f,c_f,rfl,Hf⟩:=hf.open;obtain ⟨g_o,c_o,rfl,Ho⟩:=ho.open;refine dW (n:=55) (fun v=>v) func238 rfl rfl (by simp) ?_;obtain ⟨w0,rfl⟩:∃ w0,w0=w:=⟨_,rfl⟩;simp only [bO,Nat.reduceAdd];refine go5 ?_;refine sQ (aL (v':=.int .i64 (((n).toNat:Nat):Int)) (uK rfl rfl) (congrArg (Value.int .i64) oo_)) rfl (bD rfl (X0 (E:=31) (e:=elI) (n:=0) (c:=(n).toNat) 68 I0 GC (by kernel_rfl) dd_ (by kernel_rfl) rfl rfl oo_ oo_ oo_ oo_ dd_ dd_ (fun p1 L2 hO3=>go5 ?_)));refine sQ (aL (v':=.int .i64 (((n).toNat:Nat):Int)) (uK rfl rfl) (congrArg (Value.int .i64) oo_)) rfl (go2 ?_);refine gJ3 [6,7,8,9,15,16,17,18,19,20,21,22,23,24,25,26,27,28,29,30,31] (fun g M=>∃ (out:List I) (i:Nat) (p_out:Option Addr) (c_out:Nat) (L_out:List Blk),(nD n f o ((n.toNat+1)) ([]:List I) 0) = .inl (out,i)∧(g 7 = .slice p_out out.length c_out∧g 15 = .int .i64 ((i:Nat):Int)∧OwnG w0 31 elI (.slice p_out out.length c_out) out L_out)∧M=(L_out ++ [])) (fun K_u4 hK_u4=>?_) ?_
 ·refine go_ ?_;refine cK [6,7,8,9,15,16,17,18,19,20,21,22,23,24,25,26,27,28,29,30,31] (fun g nn M=>∃ (out:List I) (i:Nat) (p_out:Option Addr) (c_out:Nat) (L_out:List Blk),(nD n f o nn out i)=(nD n f o ((n.toNat+1)) ([]:List I) 0)∧n.toNat - i<nn∧(i≤n.toNat∧out.length=i)∧(g 7 = .slice p_out out.length c_out∧g 15 = .int .i64 ((i:Nat):Int)∧OwnG w0 31 elI (.slice p_out out.length c_out) out L_out)∧M=(L_out ++ [])) ((n.toNat+1)) ?start ?round
  case start=>exact ⟨_,s0,([]:List I),0,p1,((n).toNat),L2,rfl,o1_,⟨by omega,rfl⟩,⟨rfl,rfl,hO3⟩,rfl⟩
  case round =>
   rintro nn g M ⟨out,i,p_out,c_out,L_out,hT0,hq0,hinv0,⟨hg7,hg15,hO_out⟩,rfl⟩;obtain ⟨k0,rfl⟩:∃ m,nn=m+1:=⟨nn - 1,by omega⟩;simp only [fF,hg7,hg15];clear hg7 hg15;have hm_out:=OwnG.max hO_out;refine go4 ?_;refine aH _ rfl (fun h29=>?_) (fun h29=>?_)
   ·have ph29:=of_decide_eq_true h29;refine AG ?_;refine sQ (aL (v':=.int .i64 ((f i).1)) (TR (x:=i) rfl rfl (FnE.sub Hf sn) (by show ((i:Nat):Int)<n;omega)) rfl) rfl (sQ (aL (v':=AV [pI (o (f i))]) (TR (x:=(f i)) rfl rfl (FnE.sub Ho sn) trivial) rfl) rfl (go_ ?_));intro b30 hb30;refine go5 ?_;refine sQ (bI aB (yU (o (f i))) rfl) rfl (go2 ?_);rcases bt (rZ (o (f i))) with h31 | h31
    ·refine W_f (gE h31) rfl (go4 ?_);refine bD rfl (bU [[pI (o (f i))]] [pI (o (f i))] GC kN lG rfl dd_ rfl rfl ⟨rfl,rfl,rfl,trivial⟩ rfl (fun b32 hb32=>bD rfl (lM (e:=elI) (l:=out) (m:=[(o (f i))]) 68 GC (by kernel_rfl) dd_ rfl rfl hO_out (SLe.lit (e:=elI) (l:=[(o (f i))]) m0 rfl (Nat.le_of_ble_eq_true rfl) rfl) (kW (kW n6)) (by show (out.length+1) * 68≤_;omega) dd_ (fun p33 c34 L35 hO36=>go3 ?_))));refine sV (.int .i64 (((i+1):Nat):Int)) rfl (congrArg (Value.int .i64) (wx oo_ oo_ oo_)) (go2 ?_);refine ⟨pp_,_,_,(sA (sd (sd (s0)))),(Nat.lt_succ_self _),(out ++ [(o (f i))]),(i+1),p33,c34,L35,(by exact (hT0.symm.trans (Eq.symm (aY h29 (aY h31 rfl)))).symm),(Nat.lt_of_lt_of_le o1_ (Nat.le_of_lt_succ hq0)),⟨by omega,(by rw [List.length_append];show _+1=_;omega)⟩,⟨rfl,rfl,hO36⟩,rfl⟩
    refine W_t (iK h31) rfl (go_ ?_);refine bD rfl (aN (E:=31) (e:=elI) (l:=F_poly_bad) (fun v=>v) aB rfl (fun w hw=>sJ  w) (fun p37 c38 L39 hF40=>go3 ?_));refine bA rfl (.inr rfl) rfl ?_
    have hE:(F_poly_bad:(List I))=(pG n f o):=by exact (DI rfl (hT0.symm.trans (Eq.symm (aY h29 (aI h31 rfl)))))
    rw [← hE];exact ⟨_,rfl,⟨L39,lZ,hF40⟩⟩
   have ph29:=of_decide_eq_false h29;refine go_ ?_;refine hK_u4 _ _ pp_ ⟨_,s0,out,i,p_out,c_out,L_out,(by exact hT0.symm.trans (Eq.symm (aI h29 rfl))),⟨rfl,rfl,hO_out⟩,rfl⟩
 rintro g M ⟨out,i,p_out,c_out,L_out,hCu4,⟨hg7,hg15,hO_out⟩,rfl⟩;simp only [fF,hg7,hg15];clear hg7 hg15;have hm_out:=OwnG.max hO_out;refine y6 [7,32,33,34,35,36,37,38,39,40,41,42,43,44,45,46,47,48,49] (fun g M=>∃ (cut:List I) (p_cut:Option Addr) (c_cut:Nat) (L_cut:List Blk),(nE n f o out i ((out.length+1)) out)=cut∧(g 7 = .slice p_cut cut.length c_cut∧OwnG w0 31 elI (.slice p_cut cut.length c_cut) cut L_cut)∧M=(L_cut ++ [])) (fun K_u41 hK_u41=>?_) ?_
 ·refine go_ ?_;refine cK [7,32,33,34,35,36,37,38,39,40,41,42,43,44,45,46,47,48,49] (fun g nn M=>∃ (cut:List I) (p_cut:Option Addr) (c_cut:Nat) (L_cut:List Blk),(nE n f o out i nn cut)=(nE n f o out i ((out.length+1)) out)∧cut.length<nn∧(True)∧(g 7 = .slice p_cut cut.length c_cut∧OwnG w0 31 elI (.slice p_cut cut.length c_cut) cut L_cut)∧M=(L_cut ++ [])) ((out.length+1)) ?start ?round
  case start=>exact ⟨_,s0,out,p_out,c_out,L_out,rfl,(Nat.lt_succ_self _),trivial,⟨rfl,hO_out⟩,rfl⟩
  case round =>
   rintro nn g M ⟨cut,p_cut,c_cut,L_cut,hT1,hq1,hinv1,⟨hg7,hO_cut⟩,rfl⟩;obtain ⟨k1,rfl⟩:∃ m,nn=m+1:=⟨nn - 1,by omega⟩;simp only [fF,hg7];clear hg7;have hm_cut:=OwnG.max hO_cut;refine go_ ?_;refine gJv [32,33,34,35,36,37,38,39,40,41,42,43,44] [(44,.bool (decide (0<(((cut).length:Nat):Int))&&((Z.signW (cut.getD ((cut).length - 1) I0).dec).1==0)))] (fun K14 J14=>?_) ?_
   ·refine go2 ?_;refine sQ (aL (v':=.int .i64 (((cut).length:Nat):Int)) (eR (e:=elI) jV rfl (rO hO_cut lZ)) rfl) rfl (go_ ?_);refine sBB rfl (fun h48=>?_) (fun h48=>?_)
    ·have ph48:=of_decide_eq_true h48;refine go2 ?_;refine sQ (aL (v':=.int .i64 (((cut).length:Nat):Int)) (eR (e:=elI) jV rfl (rO hO_cut lZ)) rfl) rfl (sV (.int .i64 ((((cut).length:Nat):Int) - 1)) rfl (congrArg (Value.int .i64) (wx oo_ oo_ oo_)) (sQ (aL (v':=.pointer (some (slb (.slice p_cut cut.length c_cut) (((cut).length - 1) * 18+0)))) (u6 (e:=elI) (l:=cut) (k:=((cut).length - 1)) jV rfl rfl oo_ (rO hO_cut lZ) o2_) rfl) rfl ?_));refine sQ (mE (e:=elI) (l:=cut) (k:=((cut).length - 1)) (o:=0) tyT rfl (rO hO_cut lZ) (eH I0 o2_) rfl) rfl ?_;refine sC (.int .i64 ((Z.signW (cut.getD ((cut).length - 1) I0).dec).1)) aB (iY (cut.getD ((cut).length - 1) I0).1 (cut.getD ((cut).length - 1) I0).2) rfl rfl rfl (go3 ?_);refine J14 _ _ pp_ s0 (bK (kZ h48 rfl))
    have ph48:=of_decide_eq_false h48;refine jT ?_;refine J14 _ _ pp_ s0 (bK (oZ h48))
   intro g49;refine aH _ rfl (fun h50=>?_) (fun h50=>?_)
   ·have ph51:=of_decide_eq_true (Bool.and_eq_true_iff.1 h50).1;refine go5 ?_;refine sQ (aL (v':=.int .i64 (((cut).length:Nat):Int)) (eR (e:=elI) jV rfl (rO hO_cut lZ)) rfl) rfl (sV (.int .i64 ((((cut).length:Nat):Int) - 1)) rfl (congrArg (Value.int .i64) (wx oo_ oo_ oo_)) (sQ (XV (e:=elI) (l:=cut) (k:=((cut).length - 1)) jV rfl rfl oo_ hO_cut oo_) rfl (go2 ?_)));refine ⟨pp_,_,_,s0,(Nat.lt_succ_self _),(cut.take ((cut).length - 1)),p_cut,c_cut,L_cut,(by exact (hT1.symm.trans (Eq.symm (aY h50 rfl))).symm),(Nat.lt_of_lt_of_le (by rw [List.length_take];omega) (Nat.le_of_lt_succ hq1)),trivial,⟨rfl,(OwnG.take hO_cut oo_)⟩,rfl⟩
   refine go_ ?_;refine hK_u41 _ _ pp_ ⟨_,s0,cut,p_cut,c_cut,L_cut,(by exact hT1.symm.trans (Eq.symm (aI h50 rfl))),⟨rfl,hO_cut⟩,rfl⟩
 rintro g M ⟨cut,p_cut,c_cut,L_cut,hCu41,⟨hg7,hO_cut⟩,rfl⟩;simp only [fF,hg7];clear hg7;have hm_cut:=OwnG.max hO_cut;refine go3 ?_;refine sQ (aL (v':=.int .i64 (((cut).length:Nat):Int)) (eR (e:=elI) jV rfl (rO hO_cut lZ)) rfl) rfl (go2 ?_);refine aH _ rfl (fun h52=>?_) (fun h52=>?_)
 ·have ph52:=of_decide_eq_true h52;refine go_ ?_;refine bD rfl (aN (E:=31) (e:=elI) (l:=F_poly_bad) (fun v=>v) aB rfl (fun w hw=>sJ  w) (fun p53 c54 L55 hF56=>go3 ?_));refine bA rfl (.inr rfl) rfl ?_
  have hE:(F_poly_bad:(List I))=(pG n f o):=by exact trs (Eq.symm (smS hCu4)) (trs (Eq.symm (apS hCu41)) (aY h52 rfl))
  rw [← hE];exact ⟨_,rfl,⟨L55,lZ,hF56⟩⟩
 have ph52:=of_decide_eq_false h52;refine go6 ?_;refine bA rfl (.inr rfl) rfl ?_
 have hE:(cut:(List I))=(pG n f o):=by exact trs (Eq.symm (smS hCu4)) (trs (Eq.symm (apS hCu41)) (aI h52 rfl))
 rw [← hE];exact ⟨_,rfl,⟨L_cut,lZ,hO_cut⟩⟩
theorem N2 (vl:Value) (l:(List I)) (vf:Value) (f:I→Bool) (w:World) (hl:Slr w elI vl l) (hf:FnV prog w vf eI (fun _=>True) (ZN f)) :
    Calls prog 242 [vl,vf].toArray w (fun e w'=>e = .returned (.int .i64 ((vZ l f).1))∧Ext w w'):=by
 obtain ⟨p_l,c_l,rfl⟩:=hl.form;obtain ⟨g_f,c_f,rfl,Hf⟩:=hf.open;refine cS (N:=19) func242 rfl rfl (by simp) ?_;obtain ⟨w0,rfl⟩:∃ w0,w0=w:=⟨_,rfl⟩;have Hl:=hl.old;have hm_l:=hl.max;simp only [bO,Nat.reduceAdd];refine go6 ?_;refine sQ (aL (v':=.int .i64 (((l).length:Nat):Int)) (eR (e:=elI) jV rfl (SLe.sub Hl sn)) rfl) rfl (go2 ?_);refine gJ3 [4,5,8,9,10,11,12,13,14,15,16,17,18] (fun g M=>∃ (i:Nat),(nJ l f ((l.length+1)) 0) = .inl i∧(g 8 = .int .i64 ((i:Nat):Int))∧M=[]) (fun K_u1 hK_u1=>?_) ?_
 ·refine go_ ?_;refine cK [4,5,8,9,10,11,12,13,14,15,16,17,18] (fun g nn M=>∃ (i:Nat),(nJ l f nn i)=(nJ l f ((l.length+1)) 0)∧l.length - i<nn∧(i≤l.length)∧(g 8 = .int .i64 ((i:Nat):Int))∧M=[]) ((l.length+1)) ?start ?round
  case start=>exact ⟨_,s0,0,rfl,o1_,o1_,rfl,rfl⟩
  case round =>
   rintro nn g M ⟨i,hT0,hq0,hinv0,hg8,rfl⟩;obtain ⟨k0,rfl⟩:∃ m,nn=m+1:=⟨nn - 1,by omega⟩;simp only [fF,hg8];clear hg8;refine go4 ?_;refine aH _ rfl (fun h6=>?_) (fun h6=>?_)
   ·have ph6:=of_decide_eq_true h6;refine AG ?_;refine sQ (aL (v':=.pointer (some (slb (.slice p_l l.length c_l) (i * 18+0)))) (lI (e:=elI) (l:=l) (k:=i) jV rfl rfl (SLe.sub Hl sn) o2_) rfl) rfl ?_;refine sQ (mE (e:=elI) (l:=l) (k:=i) (o:=0) tyT rfl (SLe.sub Hl sn) (eH I0 o2_) rfl) rfl ?_;refine sQ (aL (v':=.bool (f (l.getD i I0))) (TR (x:=(l.getD i I0)) rfl rfl (FnE.sub Hf sn) trivial) rfl) rfl (go_ ?_);refine aH _ rfl (fun h7=>?_) (fun h7=>?_)
    ·refine go5 ?_;refine bA rfl (.inr rfl) rfl ?_;refine (show (.int .i64 ((i:Nat):Int):Value) = .int .i64 ((W.cv ((i:Nat):Int)).1) by simp only [cvE (t:=((i:Nat):Int)) oo_]).trans ?_;exact congrArg vS8 (show _=(vZ l f) from (DI rfl (hT0.symm.trans (Eq.symm (aY h6 (aY h7 rfl))))))
    refine go2 ?_;refine sV (.int .i64 (((i+1):Nat):Int)) rfl (congrArg (Value.int .i64) (wx oo_ oo_ oo_)) (go2 ?_);refine ⟨pp_,_,_,s0,(Nat.lt_succ_self _),(i+1),(by exact (hT0.symm.trans (Eq.symm (aY h6 (aI h7 rfl)))).symm),(Nat.lt_of_lt_of_le o1_ (Nat.le_of_lt_succ hq0)),o1_,rfl,rfl⟩
   have ph6:=of_decide_eq_false h6;refine go_ ?_;refine hK_u1 _ _ pp_ ⟨_,s0,i,(by exact hT0.symm.trans (Eq.symm (aI h6 rfl))),rfl,rfl⟩
 rintro g M ⟨i,hCu1,hg8,rfl⟩;simp only [fF,hg8];clear hg8;refine go4 ?_;refine bA rfl (.inr rfl) rfl ?_;exact congrArg vS8 (show _=(vZ l f) from trs (Eq.symm (smS hCu1)) rfl)
theorem II (vl:Value) (l:(List I)) (vf:Value) (f:I→Bool) (w:World) (hl:Slr w elI vl l) (hf:FnV prog w vf eI (fun _=>True) (ZN f)) :
    Calls prog 189 [vl,vf].toArray w (fun e w'=>e = .returned (.bool (uX l f))∧Ext w w'):=by
 obtain ⟨p_l,c_l,rfl⟩:=hl.form;obtain ⟨g_f,c_f,rfl,Hf⟩:=hf.open;refine cS (N:=9) func189 rfl rfl (by simp) ?_;obtain ⟨w0,rfl⟩:∃ w0,w0=w:=⟨_,rfl⟩;have Hl:=hl.old;have hm_l:=hl.max;simp only [bO,Nat.reduceAdd];refine go6 ?_;refine sQ (aL (v':=.int .i64 ((vZ l f).1)) (bT aB rfl (fun w hw=>N2 _ l _ f w (aR hw Hl sn) (FnE.ap hw (FnE.sub Hf sn)))) rfl) rfl (go4 ?_);refine bA rfl (.inr rfl) rfl ?_;exact (by rfl)
theorem IP (a:I) :
    Ret prog 190 [AV [pI a]] (.bool (wQ a)):=by
 refine bL (N:=6) func190 rfl rfl (by simp) (fun w0=>?_);simp only [bO,Nat.reduceAdd];refine go2 ?_;intro b1 hb1;refine go4 ?_;refine sQ (bI aB (yU a) rfl) rfl (go4 ?_);refine bA rfl (.inr rfl) rfl ?_;exact (by rfl)
theorem oM (vp:Value) (p:(List I)) (w:World) (hp:Slr w elI vp p) :
    Calls prog 107 [vp].toArray w (fun e w'=>e = .returned (.bool (dR p))∧Ext w w'):=by
 obtain ⟨p_p,c_p,rfl⟩:=hp.form;refine cS (N:=5) func107 rfl rfl (by simp) ?_;obtain ⟨w0,rfl⟩:∃ w0,w0=w:=⟨_,rfl⟩;have Hp:=hp.old;have hm_p:=hp.max;simp only [bO,Nat.reduceAdd];refine go5 ?_;refine sQ (aL (v':=.bool (uX p (fun (y:I)=>(wQ y)))) (bT aB rfl (fun w hw=>II _ p _ (fun (y:I)=>(wQ y)) w (aR hw Hp sn) (FnV.mk hw aB (fun w hw x hx=>(IP x) w)))) rfl) rfl (go3 ?_);refine bA rfl (.inr rfl) rfl ?_;exact (by rfl)
theorem MC (vl:Value) (l:(List Rt)) (vf:Value) (f:Rt→Bool) (w:World) (hl:Slr w elRt vl l) (hf:FnV prog w vf eRt (fun _=>True) (ZN f)) :
    Calls prog 173 [vl,vf].toArray w (fun e w'=>e = .returned (.int .i64 ((rY l f).1))∧Ext w w'):=by
 obtain ⟨p_l,c_l,rfl⟩:=hl.form;obtain ⟨g_f,c_f,rfl,Hf⟩:=hf.open;refine cS (N:=19) func173 rfl rfl (by simp) ?_;obtain ⟨w0,rfl⟩:∃ w0,w0=w:=⟨_,rfl⟩;have Hl:=hl.old;have hm_l:=hl.max;simp only [bO,Nat.reduceAdd];refine go6 ?_;refine sQ (aL (v':=.int .i64 (((l).length:Nat):Int)) (eR (e:=elRt) uW rfl (SLe.sub Hl sn)) rfl) rfl (go2 ?_);refine gJ3 [4,5,8,9,10,11,12,13,14,15,16,17,18] (fun g M=>∃ (i:Nat),(mM l f ((l.length+1)) 0) = .inl i∧(g 8 = .int .i64 ((i:Nat):Int))∧M=[]) (fun K_u1 hK_u1=>?_) ?_
 ·refine go_ ?_;refine cK [4,5,8,9,10,11,12,13,14,15,16,17,18] (fun g nn M=>∃ (i:Nat),(mM l f nn i)=(mM l f ((l.length+1)) 0)∧l.length - i<nn∧(i≤l.length)∧(g 8 = .int .i64 ((i:Nat):Int))∧M=[]) ((l.length+1)) ?start ?round
  case start=>exact ⟨_,s0,0,rfl,o1_,o1_,rfl,rfl⟩
  case round =>
   rintro nn g M ⟨i,hT0,hq0,hinv0,hg8,rfl⟩;obtain ⟨k0,rfl⟩:∃ m,nn=m+1:=⟨nn - 1,by omega⟩;simp only [fF,hg8];clear hg8;refine go4 ?_;refine aH _ rfl (fun h6=>?_) (fun h6=>?_)
   ·have ph6:=of_decide_eq_true h6;refine AG ?_;refine sQ (aL (v':=.pointer (some (slb (.slice p_l l.length c_l) (i * 36+0)))) (lI (e:=elRt) (l:=l) (k:=i) uW rfl rfl (SLe.sub Hl sn) o2_) rfl) rfl ?_;refine sQ (mE (e:=elRt) (l:=l) (k:=i) (o:=0) tyT rfl (SLe.sub Hl sn) (eH Rt0 o2_) rfl) rfl ?_;refine sQ (aL (v':=.bool (f (l.getD i Rt0))) (TR (x:=(l.getD i Rt0)) rfl rfl (FnE.sub Hf sn) trivial) rfl) rfl (go_ ?_);refine aH _ rfl (fun h7=>?_) (fun h7=>?_)
    ·refine go5 ?_;refine bA rfl (.inr rfl) rfl ?_;refine (show (.int .i64 ((i:Nat):Int):Value) = .int .i64 ((W.cv ((i:Nat):Int)).1) by simp only [cvE (t:=((i:Nat):Int)) oo_]).trans ?_;exact congrArg vS8 (show _=(rY l f) from (DI rfl (hT0.symm.trans (Eq.symm (aY h6 (aY h7 rfl))))))
    refine go2 ?_;refine sV (.int .i64 (((i+1):Nat):Int)) rfl (congrArg (Value.int .i64) (wx oo_ oo_ oo_)) (go2 ?_);refine ⟨pp_,_,_,s0,(Nat.lt_succ_self _),(i+1),(by exact (hT0.symm.trans (Eq.symm (aY h6 (aI h7 rfl)))).symm),(Nat.lt_of_lt_of_le o1_ (Nat.le_of_lt_succ hq0)),o1_,rfl,rfl⟩
   have ph6:=of_decide_eq_false h6;refine go_ ?_;refine hK_u1 _ _ pp_ ⟨_,s0,i,(by exact hT0.symm.trans (Eq.symm (aI h6 rfl))),rfl,rfl⟩
 rintro g M ⟨i,hCu1,hg8,rfl⟩;simp only [fF,hg8];clear hg8;refine go4 ?_;refine bA rfl (.inr rfl) rfl ?_;exact congrArg vS8 (show _=(rY l f) from trs (Eq.symm (smS hCu1)) rfl)
theorem AW (vl:Value) (l:(List Rt)) (vf:Value) (f:Rt→Bool) (w:World) (hl:Slr w elRt vl l) (hf:FnV prog w vf eRt (fun _=>True) (ZN f)) :
    Calls prog 99 [vl,vf].toArray w (fun e w'=>e = .returned (.bool (lU l f))∧Ext w w'):=by
 obtain ⟨p_l,c_l,rfl⟩:=hl.form;obtain ⟨g_f,c_f,rfl,Hf⟩:=hf.open;refine cS (N:=9) func99 rfl rfl (by simp) ?_;obtain ⟨w0,rfl⟩:∃ w0,w0=w:=⟨_,rfl⟩;have Hl:=hl.old;have hm_l:=hl.max;simp only [bO,Nat.reduceAdd];refine go6 ?_;refine sQ (aL (v':=.int .i64 ((rY l f).1)) (bT aB rfl (fun w hw=>MC _ l _ f w (aR hw Hl sn) (FnE.ap hw (FnE.sub Hf sn)))) rfl) rfl (go4 ?_);refine bA rfl (.inr rfl) rfl ?_;exact (by rfl)
theorem JS (a:Rt) :
    Ret prog 277 [AV [pI a.n,pI a.d]] (.bool (nM a)):=by
 refine bL (N:=6) func277 rfl rfl (by simp) (fun w0=>?_);simp only [bO,Nat.reduceAdd];refine go2 ?_;intro b1 hb1;refine go4 ?_;refine sQ (bI aB (eV a) rfl) rfl (go4 ?_);refine bA rfl (.inr rfl) rfl ?_;exact (by rfl)
theorem BG (vl:Value) (l:(List Rt)) (w:World) (hl:Slr w elRt vl l) :
    Calls prog 256 [vl].toArray w (fun e w'=>e = .returned (.bool (kP l))∧Ext w w'):=by
 obtain ⟨p_l,c_l,rfl⟩:=hl.form;refine cS (N:=6) func256 rfl rfl (by simp) ?_;obtain ⟨w0,rfl⟩:∃ w0,w0=w:=⟨_,rfl⟩;have Hl:=hl.old;have hm_l:=hl.max;simp only [bO,Nat.reduceAdd];refine go5 ?_;refine sQ (aL (v':=.bool (lU l (fun (y:Rt)=>(nM y)))) (bT aB rfl (fun w hw=>AW _ l _ (fun (y:Rt)=>(nM y)) w (aR hw Hl sn) (FnV.mk hw aB (fun w hw x hx=>(JS x) w)))) rfl) rfl (go4 ?_);refine bA rfl (.inr rfl) rfl ?_;exact (by rfl)
end Go.Proofs.YtkjjponijamaoaaGreatDoor
namespace Go.Num
open Go Go.Kn
def zrI (x:I):Bool:=(Z.signW x.dec).1==0
def nV (l:List I):List I:=(l.reverse.dropWhile zrI).reverse
def badp:List I:=[E Z.bad]
def mkP (l:List I):List I:=bif l.all gdI then (if (nV l).length≤25 then nV l else badp) else badp
theorem vV (l:List I) (x:I):nV (l ++ [x])=bif zrI x then nV l else l ++ [x]:=by
  unfold nV;rw [List.reverse_append]
  show (List.dropWhile zrI (x :: l.reverse)).reverse=_
  rw [List.dropWhile_cons]
  cases zrI x
  · show (x :: l.reverse).reverse=_
    simp
  rfl
theorem zJ (l:List I):nV l=l.take (nV l).length:=by
  have h:nV l <+: l:=by
    unfold nV;have:=List.dropWhile_suffix zrI (l:=l.reverse);have h2:=List.reverse_prefix.2 this
    rwa [List.reverse_reverse] at h2
  obtain ⟨r,hr⟩:=h;have h3:(nV l ++ r).take (nV l).length=nV l:=List.take_left;rw [hr] at h3;exact h3.symm
theorem FA (l:List I):(nV l).length≤l.length:=by
  rw [zJ,List.length_take];omega
theorem QQ (l:List I):(mkP l).length≤25:=by
  unfold mkP
  cases l.all gdI
  · exact Nat.le_of_ble_eq_true rfl
  simp only [cond_true]
  split
  · assumption
  exact Nat.le_of_ble_eq_true rfl
theorem vU {α:Type} (l:List α):l=[] ∨ ∃ m x,l=m ++ [x]:=by
  rcases List.eq_nil_or_concat l with h | ⟨m,x,h⟩
  · exact .inl h
  exact .inr ⟨m,x,by rw [h];simp⟩
theorem HB (n:Int) (f:Nat→I) (o:I→I) (out:List I) (i:Nat):∀ (k:Nat) (cut:List I),cut.length<k→lO n f o out i k cut=nV cut
  | 0,cut,h=>absurd h (Nat.not_lt_zero _)
  | k+1,cut,h=>by
    unfold lO;rcases vU cut with rfl | ⟨m,x,rfl⟩
    · rfl
    rw [vV];have e1:decide (0<(((m ++ [x]).length:Nat):Int))=true:=decide_eq_true (by simp only [List.length_append,List.length_cons,List.length_nil];omega)
    have e2:(m ++ [x]).length - 1=m.length:=by simp
    rw [e1,e2]
    have e3:(m ++ [x]).getD m.length I0=x:=by simp
    have e4:(m ++ [x]).take m.length=m:=by simp
    rw [e3,e4,Bool.true_and]
    show (bif zrI x then _ else _)=_
    rw [HB n f o out i k m (by simp only [List.length_append,List.length_cons,List.length_nil] at h;omega)]
theorem JE (i m:Nat):List.range' i (m+1)=i :: List.range' (i+1) m:=rfl
theorem I5 (n:Int) (f:Nat→I) (o:I→I):∀ (k:Nat) (out:List I) (i:Nat),n.toNat - i<k →
    lN n f o k out i=bif ((List.range' i (n.toNat - i)).map fun j=>o (f j)).all gdI then .inl (out ++ (List.range' i (n.toNat - i)).map fun j=>o (f j),i+(n.toNat - i)) else .inr badp
  | 0,out,i,h=>absurd h (Nat.not_lt_zero _)
  | k+1,out,i,h=>by
    unfold lN
    by_cases hi:i<n.toNat
    · rw [decide_eq_true oo_,cond_true]
      obtain ⟨m,hm⟩:∃ m,n.toNat - i=m+1:=⟨n.toNat - i - 1,by omega⟩
      have hm':n.toNat - (i+1)=m:=by omega
      rw [hm,JE,List.map_cons,List.all_cons,I5 n f o k _ _ oo_,hm']
      show (bif gdI (o (f i)) then _ else _)=_
      cases gdI (o (f i))
      · rfl
      simp only [cond_true,Bool.true_and,List.append_assoc,List.cons_append,List.nil_append];rw [show i+1+m=i+(m+1) by omega]
    rw [decide_eq_false oo_,cond_false,show n.toNat - i=0 by omega]
    simp
theorem wR (n:Int) (f:Nat→I) (o:I→I):kO n f o=mkP ((List.range n.toNat).map fun j=>o (f j)):=by
  unfold kO mkP;rw [I5 n f o _ _ _ oo_,Nat.sub_zero,← List.range_eq_range']
  cases ((List.range n.toNat).map fun j=>o (f j)).all gdI
  · rfl
  simp only [cond_true,sm,ap,List.nil_append];rw [HB _ _ _ _ _ _ _ (Nat.lt_succ_self _)]
  by_cases h:(nV ((List.range n.toNat).map fun j=>o (f j))).length≤25
  · rw [if_pos h,decide_eq_false oo_,cond_false]
  rw [if_neg h,decide_eq_true oo_,cond_true];rfl
theorem ON (n:Int) (f:Nat→Go.Num.W) (o:Go.Num.W→I) (out:List I) (i:Nat):∀ (k:Nat) (cut:List I),nE n f o out i k cut=lO n (fun _=>I0) (fun x=>x) out i k cut
  | 0,cut=>rfl
  | k+1,cut=>by unfold nE lO;rw [ON n f o out i k]
theorem G4 (n:Int) (f:Nat→Go.Num.W) (o:Go.Num.W→I):∀ (k:Nat) (out:List I) (i:Nat),nD n f o k out i=lN n (fun j=>o (f j)) (fun x=>x) k out i
  | 0,out,i=>rfl
  | k+1,out,i=>by unfold nD lN;rw [G4 n f o k]
theorem IE (n:Int) (f:Nat→Go.Num.W) (o:Go.Num.W→I):pG n f o=mkP ((List.range n.toNat).map fun j=>o (f j)):=by
  rw [← wR n (fun j=>o (f j)) (fun x=>x)];unfold pG kO;rw [G4]
  congr 1
  funext s
  simp only [ap];rw [ON,HB _ _ _ _ _ _ _ (Nat.lt_succ_self _),HB _ _ _ _ _ _ _ (Nat.lt_succ_self _)]
theorem gv_ (x:I):((Z.signW x.dec).1 != 0) = !zrI x:=rfl
theorem NL (l:List I) {i:Nat} (h:i<l.length):l.take (i+1)=l.take i ++ [l.getD i I0]:=by
  rw [List.take_add_one,List.getElem?_eq_getElem h]
  simp [List.getD,List.getElem?_eq_getElem h]
theorem yA (l:List I) {i:Nat} (h:i<l.length):l.drop i=l.getD i I0 :: l.drop (i+1):=by
  rw [List.drop_eq_getElem_cons h]
  simp [List.getD,List.getElem?_eq_getElem h]
theorem E5 (l:List I):∀ (k:Nat) (last:Int) (i:Nat),l.length - i<k→i≤l.length→last+1=((nV (l.take i)).length:Nat) →
    jA l k last i=bif (l.drop i).all gdI then .inl (((nV l).length:Int) - 1,l.length) else .inr badp
  | 0,last,i,h,_,_=>absurd h (Nat.not_lt_zero _)
  | k+1,last,i,h,hi,hl=>by
    unfold jA
    by_cases hlt:i<l.length
    · rw [decide_eq_true oo_,cond_true,yA l hlt,List.all_cons]
      show (bif gdI (l.getD i I0) then _ else _)=_
      cases gdI (l.getD i I0)
      · rfl
      simp only [cond_true,Bool.true_and,gv_];have hs:=vV (l.take i) (l.getD i I0);rw [← NL l hlt] at hs
      cases hz:zrI (l.getD i I0)
      · rw [hz] at hs
        simp only [Bool.not_false,cond_true];refine E5 l k _ _ oo_ oo_ ?_;rw [hs,cond_false,List.length_take,Nat.min_eq_left oo_];omega
      rw [hz] at hs;simp only [Bool.not_true,cond_false];refine E5 l k _ _ oo_ oo_ ?_;rw [hs];exact hl
    have e:i=l.length:=by omega
    subst e;rw [decide_eq_false oo_,cond_false,List.drop_length];rw [List.take_length] at hl
    show _=Sum.inl _
    rw [show last=((nV l).length:Int) - 1 by omega]
theorem JG (l:List I) (last:Int) (i:Nat):∀ (k:Nat) (out:List I) (j:Nat),(last+1).toNat - j<k→out=l.take j→(last+1).toNat≤l.length→j≤(last+1).toNat →
    (j7 l last i k out j).1=l.take (last+1).toNat
  | 0,out,j,h,_,_,_=>absurd h (Nat.not_lt_zero _)
  | k+1,out,j,h,ho,hl,hj=>by
    unfold j7
    by_cases hc:(j:Int)≤last
    · rw [decide_eq_true hc,cond_true]
      refine JG l last i k _ _ oo_ ?_ hl oo_;rw [ho,NL l oo_]
    rw [decide_eq_false hc,cond_false]
    show out=_
    rw [ho];congr 1;omega
theorem z7 (l:List I):bM l=mkP l:=by
  unfold bM mkP;rw [E5 l _ _ _ oo_ (Nat.zero_le _) (by rw [List.take_zero];rfl),List.drop_zero]
  cases l.all gdI
  · rfl
  simp only [cond_true,sm,ap];have hle:=FA l
  by_cases h:(nV l).length≤25
  · rw [if_pos h,decide_eq_false oo_,cond_false]
    rw [JG l _ _ _ _ _ oo_ (by rw [List.take_zero]) oo_ oo_];rw [show (((nV l).length:Int) - 1+1).toNat=(nV l).length by omega];exact (zJ l).symm
  rw [if_neg h,decide_eq_true oo_,cond_true];rfl
theorem sG {c:Bool} {x y:List I} (h:x.length≤25) (k:y.length≤25):(bif c then x else y).length≤25:=by cases c <;> assumption
theorem vN:badp.length≤25:=Nat.le_of_ble_eq_true rfl
theorem IF (n:Int) (f:Nat→I) (o:I→I):(kO n f o).length≤25:=by rw [wR];exact QQ _
theorem uF (l:List I):(gO l).length≤25:=IF _ _ _
theorem mR (l:List W):(dS l).length≤25:=by unfold dS;rw [IE];exact QQ _
theorem yR (p q:List I) (f:I→I→I):(kE p q f).length≤25:=sG vN (IF _ _ _)
theorem fX (p q:List I):(bJ p q).length≤25:=yR _ _ _
theorem sI (p q:List I):(kJ p q).length≤25:=yR _ _ _
theorem iT (p q:List I):(aW p q).length≤25:=sG vN (sG (Nat.zero_le _) (IF _ _ _))
theorem eG (p:List I) (n:I):(bZ p n).length≤25:=sG (yR _ _ _) vN
theorem rD (p:List I):(d7 p).length≤25:=yR _ _ _
theorem JD (d:I) (n:Int):∀ (k:Nat) (out:List I),n.toNat - out.length<k→1≤out.length→(k8 d n k out).length=max n.toNat out.length
  | 0,out,h,_=>absurd h (Nat.not_lt_zero _)
  | k+1,out,h,h1=>by
    unfold k8
    by_cases hc:(out.length:Int)<n
    · rw [decide_eq_true hc,cond_true,JD d n k _ (by simp only [List.length_append,List.length_cons,List.length_nil];omega) (by simp)]
      simp only [List.length_append,List.length_cons,List.length_nil];omega
    rw [decide_eq_false hc,cond_false];omega
theorem DS (d:I) (n:Int):(fA d n).length=max n.toNat 1:=JD d n _ _ (by simp only [List.length_cons,List.length_nil];omega) (by simp)
theorem DO (n i j:Int) (m:I):∀ (t:Nat) (out:List I) (k:Nat) (w:I),(i+1).toNat - k<t→out.length=k→k≤(i+1).toNat→(lK n i j m t out k w).1.length=(i+1).toNat
  | 0,out,k,w,h,_,_=>absurd h (Nat.not_lt_zero _)
  | t+1,out,k,w,h,h1,h2=>by
    unfold lK
    by_cases hc:(k:Int)<i+1
    · rw [decide_eq_true hc,cond_true]
      have hl:(out ++ [w]).length=k+1:=by simp [h1]
      cases decide ((k:Int)<n)
      · exact DO n i j m t _ _ _ oo_ hl oo_
      exact DO n i j m t _ _ _ oo_ hl oo_
    rw [decide_eq_false hc,cond_false]
    show out.length=_
    omega
theorem IR (n i:Int):(eT n i).length=(i+1).toNat:=DO n i _ _ _ _ _ _ oo_ rfl (Nat.zero_le _)
end Go.Num
