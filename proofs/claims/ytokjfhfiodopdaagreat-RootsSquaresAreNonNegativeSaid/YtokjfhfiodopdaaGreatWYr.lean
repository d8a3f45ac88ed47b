/- Lemmas: what they ask stands in their statements. -/
import Derived.Test.YtokjfhfiodopdaaGreatWGc
import Derived.Test.YtokjfhfiodopdaaGreatWAr
set_option linter.unusedSimpArgs false
set_option linter.unusedVariables false
set_option maxHeartbeats 8000000
set_option maxRecDepth 20000
namespace Go.Proofs.YtokjfhfiodopdaaGreat
open Go.Kn Go.Num Tryz
attribute [local irreducible] Go.Kn.W WL PL OpQ OpR OpS
theorem l8 (a:I) :
    Ret prog 63 [AV [pI a]] (.bool (fK a)):=by
 refine bT (N:=10) func63 rfl rfl (by simp) (fun w0=>?_);simp only [bK,Nat.reduceAdd];refine go2 ?_;intro b1 hb1;refine go2 ?_;refine gJv [2,3,4,5,6,7,8,9] [(2,.bool (!a.1.bad&&a.1.valid))] (fun K1 J1=>?_) ?_
 ·refine go4 ?_;rcases bt a.1.bad with h3 | h3
  ·refine sB (fY h3) rfl (go5 ?_);refine J1 _ _ pp_ s0 (aZ (w6 h3))
  refine sB (fP h3) rfl (go_ ?_);refine sC (.bool a.1.valid) aJ (qZ a.1 a.2) rfl rfl rfl (go3 ?_);refine J1 _ _ pp_ s0 (aZ (pX h3 rfl))
 intro g4;refine go_ ?_;refine bG rfl (.inr rfl) rfl ?_;exact (by rfl)
theorem mV  (w:World)  :
    Calls prog 75 [].toArray w (fun e w'=>∃ v,e = .returned (v)∧Ext w w'∧Slo w.heap.size w' 27 elI v F_skewbackref08_bad):=by
 refine fF (n:=3) (fun v=>v) func75 rfl rfl (by simp) ?_;obtain ⟨w0,rfl⟩:∃ w0,w0=w:=⟨_,rfl⟩;simp only [bK,Nat.reduceAdd];obtain ⟨q0,hq0⟩:=nm ((E Z.bad):I);refine go4 ?_;refine sC (AV [pI q0]) aJ dL rfl rfl (by subst hq0;rfl) (bC rfl (fQ [[pI q0]] [pI q0] AG kR nU rfl dd_ rfl rfl ⟨rfl,rfl,rfl,trivial⟩ rfl (fun b1 hb1=>go3 ?_)));refine bG rfl (.inr rfl) rfl ?_
 have hE:([q0]:(List I))=F_skewbackref08_bad:=by obtain rfl:=hq0.symm;exact rfl
 rw [← hE];exact ⟨_,rfl,⟨_,(sk sn),OwnG.lit (e:=elI) (l:=[q0]) (qs:=[pI q0]) hb1 rfl (Nat.le_of_ble_eq_true rfl) rfl⟩⟩
theorem oC (vl:Value) (l:(List I)) (w:World) (hl:Slr w elI vl l) (hpre:l.length≤200) :
    Calls prog 78 [vl].toArray w (fun e w'=>∃ v,e = .returned (v)∧Ext w w'∧Slo w.heap.size w' 27 elI v (dC l)):=by
 obtain ⟨p_l,c_l,rfl⟩:=hl.form;refine fF (n:=45) (fun v=>v) func78 rfl rfl (by simp) ?_;obtain ⟨w0,rfl⟩:∃ w0,w0=w:=⟨_,rfl⟩;have Hl:=hl.old;have hm_l:=hl.max;simp only [bK,Nat.reduceAdd];refine pO ?_;refine gJ3 [2,3,4,5,8,9,10,11,12,13,14,15,16,17,18,19,20,21,22,23,24,25,26,27,28] (fun g M=>∃ (last:Int) (i:Nat),(fJ l ((l.length+1)) (-1) 0) = .inl (last,i)∧(last<(l.length:Int)∧-1≤last)∧(g 3 = .int .i64 last∧g 4 = .int .i64 ((i:Nat):Int))∧M=[]) (fun K_u1 hK_u1=>?_) ?_
 ·refine go_ ?_;refine cF [2,3,4,5,8,9,10,11,12,13,14,15,16,17,18,19,20,21,22,23,24,25,26,27,28] (fun g nn M=>∃ (last:Int) (i:Nat),(fJ l nn last i)=(fJ l ((l.length+1)) (-1) 0)∧l.length - i<nn∧(i≤l.length∧last<(i:Int)∧-1≤last)∧(g 3 = .int .i64 last∧g 4 = .int .i64 ((i:Nat):Int))∧M=[]) ((l.length+1)) ?start ?round
  case start=>exact ⟨_,s0,(-1),0,rfl,o1_,o1_,⟨rfl,rfl⟩,rfl⟩
  case round =>
   rintro nn g M ⟨last,i,hT0,hq0,hinv0,⟨hg3,hg4⟩,rfl⟩;obtain ⟨k0,rfl⟩:∃ m,nn=m+1:=⟨nn - 1,by omega⟩;simp only [eH,hg3,hg4];clear hg3 hg4;refine go4 ?_;refine sQ (aS (v':=.int .i64 (((l).length:Nat):Int)) (dW (e:=elI) pF rfl (SLe.sub Hl sn)) rfl) rfl (go2 ?_);refine aQ _ rfl (fun h16=>?_) (fun h16=>?_)
   ·have ph16:=of_decide_eq_true h16;refine go6 ?_;refine sQ (aS (v':=.pointer (some (slb (.slice p_l l.length c_l) (i * 18+0)))) (kZ (e:=elI) (l:=l) (k:=i) pF rfl rfl (SLe.sub Hl sn) o2_) rfl) rfl ?_;refine sQ (j7 (e:=elI) (l:=l) (k:=i) (o:=0) tyT rfl (SLe.sub Hl sn) (dN I0 o2_) rfl) rfl ?_;refine sQ (bM aJ (l8 (l.getD i I0)) rfl) rfl (go7 ?_);rcases bt (fK (l.getD i I0)) with h17 | h17
    ·refine W_f (fY h17) rfl (go4 ?_);refine sQ (aS (v':=.pointer (some (slb (.slice p_l l.length c_l) (i * 18+0)))) (kZ (e:=elI) (l:=l) (k:=i) pF rfl rfl (SLe.sub Hl sn) o2_) rfl) rfl ?_;refine sQ (j7 (e:=elI) (l:=l) (k:=i) (o:=0) tyT rfl (SLe.sub Hl sn) (dN I0 o2_) rfl) rfl ?_;refine sC (.int .i64 ((Z.signW (l.getD i I0).dec).1)) aJ (e9 (l.getD i I0).1 (l.getD i I0).2) rfl rfl rfl (go2 ?_);refine aQ _ rfl (fun h18=>?_) (fun h18=>?_)
     ·refine go6 ?_;refine sV (.int .i64 (((i+1):Nat):Int)) rfl (congrArg (Value.int .i64) (wx oo_ oo_ oo_)) (go2 ?_);refine ⟨pp_,_,_,s0,(Nat.lt_succ_self _),((i:Nat):Int),(i+1),(by exact (hT0.symm.trans (Eq.symm (aW h16 (aW h17 (aW h18 rfl))))).symm),(Nat.lt_of_lt_of_le o1_ (Nat.le_of_lt_succ hq0)),o1_,⟨rfl,rfl⟩,rfl⟩
     refine go3 ?_;refine sV (.int .i64 (((i+1):Nat):Int)) rfl (congrArg (Value.int .i64) (wx oo_ oo_ oo_)) (go2 ?_);refine ⟨pp_,_,_,s0,(Nat.lt_succ_self _),last,(i+1),(by exact (hT0.symm.trans (Eq.symm (aW h16 (aW h17 (aM h18 rfl))))).symm),(Nat.lt_of_lt_of_le o1_ (Nat.le_of_lt_succ hq0)),o1_,⟨rfl,rfl⟩,rfl⟩
    refine W_t (fP h17) rfl (go_ ?_);refine bC rfl (cU (E:=27) (e:=elI) (l:=F_skewbackref08_bad) (fun v=>v) aJ rfl (fun w hw=>mV  w) (fun p19 c20 L21 hF22=>go3 ?_));refine bG rfl (.inr rfl) rfl ?_
    have hE:(F_skewbackref08_bad:(List I))=(dC l):=by exact (vO rfl (hT0.symm.trans (Eq.symm (aW h16 (aM h17 rfl)))))
    rw [← hE];exact ⟨_,rfl,⟨L21,lZ,hF22⟩⟩
   have ph16:=of_decide_eq_false h16;refine go_ ?_;refine hK_u1 _ _ pp_ ⟨_,s0,last,i,(by exact hT0.symm.trans (Eq.symm (aM h16 rfl))),o1_,⟨rfl,rfl⟩,rfl⟩
 rintro g M ⟨last,i,hCu1,hPu1,⟨hg3,hg4⟩,rfl⟩;simp only [eH,hg3,hg4];clear hg3 hg4;refine go5 ?_;refine aQ _ rfl (fun h23=>?_) (fun h23=>?_)
 ·have ph23:=of_decide_eq_true h23;refine go_ ?_;refine bC rfl (cU (E:=27) (e:=elI) (l:=F_skewbackref08_bad) (fun v=>v) aJ rfl (fun w hw=>mV  w) (fun p24 c25 L26 hF27=>go3 ?_));refine bG rfl (.inr rfl) rfl ?_
  have hE:(F_skewbackref08_bad:(List I))=(dC l):=by exact trs (Eq.symm (smS hCu1)) (aW h23 rfl)
  rw [← hE];exact ⟨_,rfl,⟨L26,lZ,hF27⟩⟩
 have ph23:=of_decide_eq_false h23;refine go8 ?_;refine gJ3 [6,7,32,33,34,35,36,37,38,39,40,41,42,43] (fun g M=>∃ (out:List I) (j:Nat) (p_out:Option Addr) (c_out:Nat) (L_out:List Blk),(gL l last i (((last+1).toNat+1)) ([]:List I) 0)=(out,j)∧(g 6 = .slice p_out out.length c_out∧g 7 = .int .i64 ((j:Nat):Int)∧OwnG w0 27 elI (.slice p_out out.length c_out) out L_out)∧M=(L_out ++ [])) (fun K_u28 hK_u28=>?_) ?_
 ·refine go_ ?_;refine cF [6,7,32,33,34,35,36,37,38,39,40,41,42,43] (fun g nn M=>∃ (out:List I) (j:Nat) (p_out:Option Addr) (c_out:Nat) (L_out:List Blk),(gL l last i nn out j)=(gL l last i (((last+1).toNat+1)) ([]:List I) 0)∧(last+1).toNat - j<nn∧((j:Int)≤last+1∧out.length=j)∧(g 6 = .slice p_out out.length c_out∧g 7 = .int .i64 ((j:Nat):Int)∧OwnG w0 27 elI (.slice p_out out.length c_out) out L_out)∧M=(L_out ++ [])) (((last+1).toNat+1)) ?start ?round
  case start=>exact ⟨_,s0,([]:List I),0,none,0,[],rfl,o1_,o1_,⟨rfl,rfl,OwnG.nil⟩,rfl⟩
  case round =>
   rintro nn g M ⟨out,j,p_out,c_out,L_out,hT1,hq1,hinv1,⟨hg6,hg7,hO_out⟩,rfl⟩;obtain ⟨k1,rfl⟩:∃ m,nn=m+1:=⟨nn - 1,by omega⟩;simp only [eH,hg6,hg7];clear hg6 hg7;have hm_out:=OwnG.max hO_out;refine go6 ?_;refine aQ _ rfl (fun h35=>?_) (fun h35=>?_)
   ·have ph35:=of_decide_eq_true h35;refine go7 ?_;refine sQ (aS (v':=.pointer (some (slb (.slice p_l l.length c_l) (j * 18+0)))) (kZ (e:=elI) (l:=l) (k:=j) pF rfl rfl (SLe.sub Hl sn) o2_) rfl) rfl ?_;refine sQ (j7 (e:=elI) (l:=l) (k:=j) (o:=0) tyT rfl (SLe.sub Hl sn) (dN I0 o2_) rfl) rfl ?_;refine bC rfl (fQ [[pI (l.getD j I0)]] [pI (l.getD j I0)] AG kR nU rfl dd_ rfl rfl ⟨rfl,rfl,rfl,trivial⟩ rfl (fun b36 hb36=>bC rfl (nS (e:=elI) (l:=out) (m:=[(l.getD j I0)]) 68 AG (by kernel_rfl) dd_ rfl rfl hO_out (SLe.lit (e:=elI) (l:=[(l.getD j I0)]) m0 rfl (Nat.le_of_ble_eq_true rfl) rfl) (bX o8) (by simp only [List.length_append,List.length_cons,List.length_nil];omega) dd_ (fun p37 c38 L39 hO40=>?_))));refine go4 ?_;refine sV (.int .i64 (((j+1):Nat):Int)) rfl (congrArg (Value.int .i64) (wx oo_ oo_ oo_)) (go2 ?_);refine ⟨pp_,_,_,(sA (sd (s0))),(Nat.lt_succ_self _),(out ++ [(l.getD j I0)]),(j+1),p37,c38,L39,(by exact (hT1.symm.trans (Eq.symm (aW h35 rfl))).symm),(Nat.lt_of_lt_of_le o1_ (Nat.le_of_lt_succ hq1)),o1_,⟨rfl,rfl,hO40⟩,rfl⟩
   have ph35:=of_decide_eq_false h35;refine go_ ?_;refine hK_u28 _ _ pp_ ⟨_,s0,out,j,p_out,c_out,L_out,(by exact hT1.symm.trans (Eq.symm (aM h35 rfl))),⟨rfl,rfl,hO_out⟩,rfl⟩
 rintro g M ⟨out,j,p_out,c_out,L_out,hCu28,⟨hg6,hg7,hO_out⟩,rfl⟩;simp only [eH,hg6,hg7];clear hg6 hg7;have hm_out:=OwnG.max hO_out;refine go5 ?_;refine bG rfl (.inr rfl) rfl ?_
 have hE:(out:(List I))=(dC l):=by exact trs (Eq.symm (smS hCu1)) (aM h23 (trs (Eq.symm (apS hCu28)) rfl))
 rw [← hE];exact ⟨_,rfl,⟨L_out,lZ,hO_out⟩⟩
theorem y4 (vl:Value) (l:(List W)) (w:World) (hl:Slr w elW vl l) (hpre:l.length≤200) :
    Calls prog 86 [vl].toArray w (fun e w'=>∃ v,e = .returned (v)∧Ext w w'∧Slo w.heap.size w' 27 elI v (iT l)):=by
 obtain ⟨p_l,c_l,rfl⟩:=hl.form;refine fF (n:=21) (fun v=>v) func86 rfl rfl (by simp) ?_;obtain ⟨w0,rfl⟩:∃ w0,w0=w:=⟨_,rfl⟩;have Hl:=hl.old;have hm_l:=hl.max;simp only [bK,Nat.reduceAdd];refine pO ?_;refine gJ3 [3,4,5,6,7,8,9,10,11,12,13,14,15,16,17,18] (fun g M=>∃ (out:List I) (i:Nat) (p_out:Option Addr) (c_out:Nat) (L_out:List Blk),(jY l ((l.length+1)) ([]:List I) 0)=(out,i)∧(out.length≤200)∧(g 3 = .slice p_out out.length c_out∧g 4 = .int .i64 ((i:Nat):Int)∧OwnG w0 27 elI (.slice p_out out.length c_out) out L_out)∧M=(L_out ++ [])) (fun K_u1 hK_u1=>?_) ?_
 ·refine go_ ?_;refine cF [3,4,5,6,7,8,9,10,11,12,13,14,15,16,17,18] (fun g nn M=>∃ (out:List I) (i:Nat) (p_out:Option Addr) (c_out:Nat) (L_out:List Blk),(jY l nn out i)=(jY l ((l.length+1)) ([]:List I) 0)∧l.length - i<nn∧(i≤l.length∧out.length=i)∧(g 3 = .slice p_out out.length c_out∧g 4 = .int .i64 ((i:Nat):Int)∧OwnG w0 27 elI (.slice p_out out.length c_out) out L_out)∧M=(L_out ++ [])) ((l.length+1)) ?start ?round
  case start=>exact ⟨_,s0,([]:List I),0,none,0,[],rfl,o1_,o1_,⟨rfl,rfl,OwnG.nil⟩,rfl⟩
  case round =>
   rintro nn g M ⟨out,i,p_out,c_out,L_out,hT0,hq0,hinv0,⟨hg3,hg4,hO_out⟩,rfl⟩;obtain ⟨k0,rfl⟩:∃ m,nn=m+1:=⟨nn - 1,by omega⟩;simp only [eH,hg3,hg4];clear hg3 hg4;have hm_out:=OwnG.max hO_out;refine go4 ?_;refine sQ (aS (v':=.int .i64 (((l).length:Nat):Int)) (dW (e:=elW) jV rfl (SLe.sub Hl sn)) rfl) rfl (go2 ?_);refine aQ _ rfl (fun h8=>?_) (fun h8=>?_)
   ·have ph8:=of_decide_eq_true h8;refine go7 ?_;refine sQ (aS (v':=.pointer (some (slb (.slice p_l l.length c_l) (i * 1+0)))) (kZ (e:=elW) (l:=l) (k:=i) jV rfl rfl (SLe.sub Hl sn) o2_) rfl) rfl ?_;refine sQ (AZ (u:=.int .i64 ((l.getD i W.z).1)) (e:=elW) (l:=l) (k:=i) (o:=0) tyT rfl (SLe.sub Hl sn) (dN W.z o2_) rfl) rfl ?_;refine sC (AV [pI (E (Z.of (l.getD i W.z).1))]) aJ (eV (l.getD i W.z).1 (l.getD i W.z).2) rfl rfl rfl (bC rfl (fQ [[pI (E (Z.of (l.getD i W.z).1))]] [pI (E (Z.of (l.getD i W.z).1))] nM kR nU rfl dd_ rfl rfl ⟨rfl,rfl,rfl,trivial⟩ rfl (fun b9 hb9=>bC rfl (nS (e:=elI) (l:=out) (m:=[(E (Z.of (l.getD i W.z).1))]) 68 nM (by kernel_rfl) dd_ rfl rfl hO_out (SLe.lit (e:=elI) (l:=[(E (Z.of (l.getD i W.z).1))]) m0 rfl (Nat.le_of_ble_eq_true rfl) rfl) (bX o8) (by simp only [List.length_append,List.length_cons,List.length_nil];omega) dd_ (fun p10 c11 L12 hO13=>?_)))));refine go4 ?_;refine sV (.int .i64 (((i+1):Nat):Int)) rfl (congrArg (Value.int .i64) (wx oo_ oo_ oo_)) (go2 ?_);refine ⟨pp_,_,_,(sA (sd (s0))),(Nat.lt_succ_self _),(out ++ [(E (Z.of (l.getD i W.z).1))]),(i+1),p10,c11,L12,(by exact (hT0.symm.trans (Eq.symm (aW h8 rfl))).symm),(Nat.lt_of_lt_of_le o1_ (Nat.le_of_lt_succ hq0)),o1_,⟨rfl,rfl,hO13⟩,rfl⟩
   have ph8:=of_decide_eq_false h8;refine go_ ?_;refine hK_u1 _ _ pp_ ⟨_,s0,out,i,p_out,c_out,L_out,(by exact hT0.symm.trans (Eq.symm (aM h8 rfl))),o1_,⟨rfl,rfl,hO_out⟩,rfl⟩
 rintro g M ⟨out,i,p_out,c_out,L_out,hCu1,hPu1,⟨hg3,hg4,hO_out⟩,rfl⟩;simp only [eH,hg3,hg4];clear hg3 hg4;have hm_out:=OwnG.max hO_out;refine go2 ?_;refine bC rfl (cU (E:=27) (e:=elI) (l:=(dC out)) (fun v=>v) aJ rfl (fun w hw=>oC _ out w (aO hw hO_out lZ) oo_) (fun p14 c15 L16 hF17=>?_));have hb18:=(oB out);refine go3 ?_;refine bG rfl (.inr rfl) rfl ?_
 have hE:((dC out):(List I))=(iT l):=by exact (by unfold iT;exact trs (Eq.symm (apS hCu1)) rfl)
 rw [← hE];exact ⟨_,rfl,⟨L16,lZ,hF17⟩⟩
theorem fS (vp:Value) (p:(List I)) (w:World) (hp:Slr w elI vp p) :
    Calls prog 27 [vp].toArray w (fun e w'=>e = .returned (.bool (aX p))∧Ext w w'):=by
 obtain ⟨p_p,c_p,rfl⟩:=hp.form;refine cQ (N:=18) func27 rfl rfl (by simp) ?_;obtain ⟨w0,rfl⟩:∃ w0,w0=w:=⟨_,rfl⟩;have Hp:=hp.old;have hm_p:=hp.max;simp only [bK,Nat.reduceAdd];refine go7 ?_;refine gJ3 [2,3,4,5,6,7,8,9,10,11,12,13,14,15,16,17] (fun g M=>∃ (i:Nat),(fE p ((p.length+1)) 0) = .inl i∧(g 3 = .int .i64 ((i:Nat):Int))∧M=[]) (fun K_u1 hK_u1=>?_) ?_
 ·refine go_ ?_;refine cF [2,3,4,5,6,7,8,9,10,11,12,13,14,15,16,17] (fun g nn M=>∃ (i:Nat),(fE p nn i)=(fE p ((p.length+1)) 0)∧p.length - i<nn∧(i≤p.length)∧(g 3 = .int .i64 ((i:Nat):Int))∧M=[]) ((p.length+1)) ?start ?round
  case start=>exact ⟨_,s0,0,rfl,o1_,o1_,rfl,rfl⟩
  case round =>
   rintro nn g M ⟨i,hT0,hq0,hinv0,hg3,rfl⟩;obtain ⟨k0,rfl⟩:∃ m,nn=m+1:=⟨nn - 1,by omega⟩;simp only [eH,hg3];clear hg3;refine go4 ?_;refine sQ (aS (v':=.int .i64 (((p).length:Nat):Int)) (dW (e:=elI) d9 rfl (SLe.sub Hp sn)) rfl) rfl (go2 ?_);refine aQ _ rfl (fun h6=>?_) (fun h6=>?_)
   ·have ph6:=of_decide_eq_true h6;refine go6 ?_;refine sQ (aS (v':=.pointer (some (slb (.slice p_p p.length c_p) (i * 18+0)))) (kZ (e:=elI) (l:=p) (k:=i) d9 rfl rfl (SLe.sub Hp sn) o2_) rfl) rfl ?_;refine sQ (j7 (e:=elI) (l:=p) (k:=i) (o:=0) tyT rfl (SLe.sub Hp sn) (dN I0 o2_) rfl) rfl ?_;refine sQ (bM aJ (l8 (p.getD i I0)) rfl) rfl (go6 ?_);rcases bt (fK (p.getD i I0)) with h7 | h7
    ·refine W_f (fY h7) rfl (go3 ?_);refine sV (.int .i64 (((i+1):Nat):Int)) rfl (congrArg (Value.int .i64) (wx oo_ oo_ oo_)) (go2 ?_);refine ⟨pp_,_,_,s0,(Nat.lt_succ_self _),(i+1),(by exact (hT0.symm.trans (Eq.symm (aW h6 (aW h7 rfl)))).symm),(Nat.lt_of_lt_of_le o1_ (Nat.le_of_lt_succ hq0)),o1_,rfl,rfl⟩
    refine W_t (fP h7) rfl (go4 ?_);refine bG rfl (.inr rfl) rfl ?_;exact congrArg vS0 (show _=(aX p) from (vO rfl (hT0.symm.trans (Eq.symm (aW h6 (aM h7 rfl))))))
   have ph6:=of_decide_eq_false h6;refine go_ ?_;refine hK_u1 _ _ pp_ ⟨_,s0,i,(by exact hT0.symm.trans (Eq.symm (aM h6 rfl))),rfl,rfl⟩
 rintro g M ⟨i,hCu1,hg3,rfl⟩;simp only [eH,hg3];clear hg3;refine go4 ?_;refine bG rfl (.inr rfl) rfl ?_;exact congrArg vS0 (show _=(aX p) from trs (Eq.symm (smS hCu1)) rfl)
theorem wH (vp:Value) (p:(List I)) (w:World) (hp:Slr w elI vp p) :
    Calls prog 74 [vp].toArray w (fun e w'=>e = .returned (.bool (eX p))∧Ext w w'):=by
 obtain ⟨p_p,c_p,rfl⟩:=hp.form;refine cQ (N:=33) func74 rfl rfl (by simp) ?_;obtain ⟨w0,rfl⟩:∃ w0,w0=w:=⟨_,rfl⟩;have Hp:=hp.old;have hm_p:=hp.max;simp only [bK,Nat.reduceAdd];refine go4 ?_;refine gJv [3,4,5,6,7,8,9,10,11,12] [(12,.bool (((((p).length:Nat):Int)==1)&&decide ((p.getD 0 I0)=(E Z.bad))))] (fun K2 J2=>?_) ?_
 ·refine rK sn 10 [] [] (go_ ?_);refine pQ rfl (aS (v':=.int .i64 (((p).length:Nat):Int)) (dW (e:=elI) d9 rfl (SLe.sub Hp sn)) rfl) (go_ ?_);refine pBB rfl (fun h2=>?_) (fun h2=>?_)
  ·have ph2:=tR h2;refine go_ ?_;refine pQ rfl (aS (v':=.pointer (some (slb (.slice p_p p.length c_p) (0 * 18+0)))) (kZ (e:=elI) (l:=p) (k:=0) d9 rfl rfl (SLe.sub Hp sn) o2_) rfl) ?_;refine pQ rfl (j7 (e:=elI) (l:=p) (k:=0) (o:=0) tyT rfl (SLe.sub Hp sn) (dN I0 o2_) rfl) ?_;refine pC (AV [pI (E Z.bad)]) aJ dL rfl rfl rfl ?_;refine pQ rfl (uR (r:=decide ((p.getD 0 I0)=(E Z.bad))) rfl rfl (mQ 8 dd_ R0 SQ (mY iV) (mY iV) (rI nX))) (go2 ?_);refine J2 _ _ pp_ s0 (aZ (bW h2 rfl))
  have ph2:=nJ h2;refine go7 ?_;refine J2 _ _ pp_ s0 (aZ (hJ h2))
 intro g3;refine aQ _ rfl (fun h4=>?_) (fun h4=>?_)
 ·have ph5:=tR (Bool.and_eq_true_iff.1 h4).1;have ph6:=of_decide_eq_true (Bool.and_eq_true_iff.1 h4).2;refine go4 ?_;refine bG rfl (.inr rfl) rfl ?_;exact congrArg vS0 (show _=(eX p) from aW h4 rfl)
 refine go2 ?_;refine gJv [13,14,15,16,17,18,19] [(19,.bool ((aX p)||decide (25<(((p).length:Nat):Int))))] (fun K4 J4=>?_) ?_
 ·refine go2 ?_;refine sQ (aS (v':=.bool (aX p)) (bE aJ rfl (fun w hw=>fS _ p w (aR hw Hp sn))) rfl) rfl ?_;refine sBB rfl (fun h8=>?_) (fun h8=>?_)
  ·refine go5 ?_;refine J4 _ _ pp_ s0 (aZ (lX h8))
  refine go_ ?_;refine sQ (aS (v':=.int .i64 (((p).length:Nat):Int)) (dW (e:=elI) d9 rfl (SLe.sub Hp sn)) rfl) rfl (go3 ?_);refine J4 _ _ pp_ s0 (aZ (kE h8 rfl))
 intro g9;refine aQ _ rfl (fun h10=>?_) (fun h10=>?_)
 ·refine go4 ?_;refine bG rfl (.inr rfl) rfl ?_;exact congrArg vS0 (show _=(eX p) from aM h4 (aW h10 rfl))
 have ph11:=of_decide_eq_false (Bool.or_eq_false_iff.1 h10).2;refine go_ ?_;refine gJv [2,20,21,22,23,24,25,26,27,28,29,30,31,32] [(2,.bool (((((p).length:Nat):Int)==0)||((Z.signW (p.getD ((p).length - 1) I0).dec).1 != 0)))] (fun K5 J5=>?_) ?_
 ·refine go2 ?_;refine sQ (aS (v':=.int .i64 (((p).length:Nat):Int)) (dW (e:=elI) d9 rfl (SLe.sub Hp sn)) rfl) rfl (go_ ?_);refine sBB rfl (fun h13=>?_) (fun h13=>?_)
  ·have ph13:=tR h13;refine vK ?_;refine J5 _ _ pp_ s0 (aZ (lX h13))
  have ph13:=nJ h13;refine go2 ?_;refine sQ (aS (v':=.int .i64 (((p).length:Nat):Int)) (dW (e:=elI) d9 rfl (SLe.sub Hp sn)) rfl) rfl (sV (.int .i64 ((((p).length:Nat):Int) - 1)) rfl (congrArg (Value.int .i64) (wx oo_ oo_ oo_)) (sQ (aS (v':=.pointer (some (slb (.slice p_p p.length c_p) (((p).length - 1) * 18+0)))) (lY (e:=elI) (l:=p) (k:=((p).length - 1)) d9 rfl rfl oo_ (SLe.sub Hp sn) o2_) rfl) rfl ?_));refine sQ (j7 (e:=elI) (l:=p) (k:=((p).length - 1)) (o:=0) tyT rfl (SLe.sub Hp sn) (dN I0 o2_) rfl) rfl ?_;refine sC (.int .i64 ((Z.signW (p.getD ((p).length - 1) I0).dec).1)) aJ (e9 (p.getD ((p).length - 1) I0).1 (p.getD ((p).length - 1) I0).2) rfl rfl rfl (go4 ?_);refine J5 _ _ pp_ s0 (aZ (kE h13 rfl))
 intro g14;refine go_ ?_;refine bG rfl (.inr rfl) rfl ?_;exact congrArg vS0 (show _=(eX p) from aM h4 (aM h10 rfl))
theorem oV (vp:Value) (p:(List I)) (d:Int) (b:Int) (w:World) (hp:Slr w elI vp p) (hpre:0≤d∧d≤1000) :
    Calls prog 32 [vp,.int .i64 d,.int .i64 b].toArray w (fun e w'=>e = .returned (.bool (bU p d b))∧Ext w w'):=by
 obtain ⟨p_p,c_p,rfl⟩:=hp.form;refine cQ (N:=31) func32 rfl rfl (by simp) ?_;obtain ⟨w0,rfl⟩:∃ w0,w0=w:=⟨_,rfl⟩;have Hp:=hp.old;have hm_p:=hp.max;simp only [bK,Nat.reduceAdd];refine go4 ?_;refine gJv [8,9,10,11,12,13,14,15,16,17] [(17,.bool (!(eX p)||decide ((d+1)<(((p).length:Nat):Int))))] (fun K2 J2=>?_) ?_
 ·refine go2 ?_;refine sQ (aS (v':=.bool (eX p)) (bE aJ rfl (fun w hw=>wH _ p w (aR hw Hp sn))) rfl) rfl (go_ ?_);rcases bt (eX p) with h2 | h2
  ·refine sB (fY h2) rfl (go_ ?_);refine sQ (aS (v':=.int .i64 (((p).length:Nat):Int)) (dW (e:=elI) d9 rfl (SLe.sub Hp sn)) rfl) rfl (go_ ?_);refine sV (.int .i64 (d+1)) rfl (congrArg (Value.int .i64) (wx oo_ oo_ oo_)) (go3 ?_);refine J2 _ _ pp_ s0 (aZ (jC h2 rfl))
  refine sB (fP h2) rfl (go7 ?_);refine J2 _ _ pp_ s0 (aZ (mI h2))
 intro g3;refine aQ _ rfl (fun h4=>?_) (fun h4=>?_)
 ·refine go4 ?_;refine bG rfl (.inr rfl) rfl ?_;exact congrArg vS0 (show _=(bU p d b) from aW h4 rfl)
 have ph5:=of_decide_eq_false (Bool.or_eq_false_iff.1 h4).2;refine go5 ?_;refine gJ3 [6,7,18,19,20,21,22,23,24,25,26,27,28,29,30] (fun g M=>∃ (i:Nat),(gV p d b ((p.length+1)) 0) = .inl i∧(g 7 = .int .i64 ((i:Nat):Int))∧M=[]) (fun K_u6 hK_u6=>?_) ?_
 ·refine go_ ?_;refine cF [6,7,18,19,20,21,22,23,24,25,26,27,28,29,30] (fun g nn M=>∃ (i:Nat),(gV p d b nn i)=(gV p d b ((p.length+1)) 0)∧p.length - i<nn∧(i≤p.length)∧(g 7 = .int .i64 ((i:Nat):Int))∧M=[]) ((p.length+1)) ?start ?round
  case start=>exact ⟨_,s0,0,rfl,o1_,o1_,rfl,rfl⟩
  case round =>
   rintro nn g M ⟨i,hT0,hq0,hinv0,hg7,rfl⟩;obtain ⟨k0,rfl⟩:∃ m,nn=m+1:=⟨nn - 1,by omega⟩;simp only [eH,hg7];clear hg7;refine go4 ?_;refine sQ (aS (v':=.int .i64 (((p).length:Nat):Int)) (dW (e:=elI) d9 rfl (SLe.sub Hp sn)) rfl) rfl (go2 ?_);refine aQ _ rfl (fun h11=>?_) (fun h11=>?_)
   ·have ph11:=of_decide_eq_true h11;refine go6 ?_;refine sQ (aS (v':=.pointer (some (slb (.slice p_p p.length c_p) (i * 18+0)))) (kZ (e:=elI) (l:=p) (k:=i) d9 rfl rfl (SLe.sub Hp sn) o2_) rfl) rfl ?_;refine sQ (j7 (e:=elI) (l:=p) (k:=i) (o:=0) tyT rfl (SLe.sub Hp sn) (dN I0 o2_) rfl) rfl ?_;refine sC (.int .i64 ((Z.bitsW (p.getD i I0).dec).1)) aJ (n9 (p.getD i I0).1 (p.getD i I0).2) rfl rfl rfl (go3 ?_);refine aQ _ rfl (fun h12=>?_) (fun h12=>?_)
    ·have ph12:=of_decide_eq_true h12;refine go4 ?_;refine bG rfl (.inr rfl) rfl ?_;exact congrArg vS0 (show _=(bU p d b) from aM h4 ((vO rfl (hT0.symm.trans (Eq.symm (aW h11 (aW h12 rfl)))))))
    have ph12:=of_decide_eq_false h12;refine go3 ?_;refine sV (.int .i64 (((i+1):Nat):Int)) rfl (congrArg (Value.int .i64) (wx oo_ oo_ oo_)) (go2 ?_);refine ⟨pp_,_,_,s0,(Nat.lt_succ_self _),(i+1),(by exact (hT0.symm.trans (Eq.symm (aW h11 (aM h12 rfl)))).symm),(Nat.lt_of_lt_of_le o1_ (Nat.le_of_lt_succ hq0)),o1_,rfl,rfl⟩
   have ph11:=of_decide_eq_false h11;refine go_ ?_;refine hK_u6 _ _ pp_ ⟨_,s0,i,(by exact hT0.symm.trans (Eq.symm (aM h11 rfl))),rfl,rfl⟩
 rintro g M ⟨i,hCu6,hg7,rfl⟩;simp only [eH,hg7];clear hg7;refine go4 ?_;refine bG rfl (.inr rfl) rfl ?_;exact congrArg vS0 (show _=(bU p d b) from aM h4 (trs (Eq.symm (smS hCu6)) rfl))
theorem iC (vl:Value) (l:(List W)) (w:World) (hl:Slr w elW vl l) (hpre:l.length≤200) :
    Calls prog 39 [vl].toArray w (fun e w'=>∃ v,e = .returned (v)∧Ext w w'∧Slo w.heap.size w' 27 elI v (eB l)):=by
 obtain ⟨p_l,c_l,rfl⟩:=hl.form;refine fF (n:=5) (fun v=>v) func39 rfl rfl (by simp) ?_;obtain ⟨w0,rfl⟩:∃ w0,w0=w:=⟨_,rfl⟩;have Hl:=hl.old;have hm_l:=hl.max;simp only [bK,Nat.reduceAdd];refine go5 ?_;refine bC rfl (cU (E:=27) (e:=elI) (l:=(iT l)) (fun v=>v) aJ rfl (fun w hw=>y4 _ l w (aR hw Hl sn) oo_) (fun p1 c2 L3 hF4=>?_));have hb5:=(tL l);have hr6:=(tM l);refine go3 ?_;refine bG rfl (.inr rfl) rfl ?_
 have hE:((iT l):(List I))=(eB l):=by exact rfl
 rw [← hE];exact ⟨_,rfl,⟨L3,lZ,hF4⟩⟩
theorem lL (a:W) (b:W) :
    Ret prog 41 [.int .i64 a.1,.int .i64 b.1] (AV [pI (((jH a b).lo).n),pI (((jH a b).lo).d),pI (((jH a b).hi).n),pI (((jH a b).hi).d)]):=by
 refine bT (N:=10) func41 rfl rfl (by simp) (fun w0=>?_);simp only [bK,Nat.reduceAdd];refine go2 ?_;intro b1 hb1;refine go3 ?_;refine sQ (bM aJ (jJ a) rfl) rfl (go_ ?_);refine sQ (bM aJ (jJ b) rfl) rfl (go4 ?_);refine bG rfl (.inr rfl) (gT rfl m0 tyT rfl) ?_;exact (by rfl)
theorem GP (a:W) (b:W) :
    Ret prog 107 [.int .i64 a.1,.int .i64 b.1] (AV [pI ((pJ a b).n),pI ((pJ a b).d)]):=by
 refine bT (N:=10) func107 rfl rfl (by simp) (fun w0=>?_);simp only [bK,Nat.reduceAdd];refine go2 ?_;intro b1 hb1;refine go3 ?_;refine sC (AV [pI (E (Z.of a.1))]) aJ (gF a.1 a.2) rfl rfl rfl (go_ ?_);refine sC (AV [pI (E (Z.of b.1))]) aJ (gF b.1 b.2) rfl rfl rfl ?_;obtain ⟨r2,hr2⟩:=nm ((cP (E (Z.of a.1)) (E (Z.of b.1))):Rt);refine sC (AV [pI r2.n,pI r2.d]) aJ (pA (E (Z.of a.1)) (E (Z.of b.1))) rfl rfl (by rw [hr2]) (go3 ?_);refine bG rfl (.inr rfl) (gT rfl m0 tyT rfl) ?_;exact (by subst hr2;rfl)
end Go.Proofs.YtokjfhfiodopdaaGreat
