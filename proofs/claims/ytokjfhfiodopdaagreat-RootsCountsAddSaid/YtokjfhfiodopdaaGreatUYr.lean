/- Lemmas: what they ask stands in their statements. -/
import Derived.Test.YtokjfhfiodopdaaGreatUGa
set_option linter.unusedSimpArgs false
set_option linter.unusedVariables false
set_option maxHeartbeats 8000000
set_option maxRecDepth 20000
namespace Go.Proofs.YtokjfhfiodopdaaGreat
open Go.Kn Go.Num Tryz
attribute [local irreducible] Go.Kn.W WL PL OpQ OpR OpS
theorem lS (a:I) :
    Ret prog 63 [AV [pI a]] (.bool (fN a)):=by
 refine cL (N:=10) func63 rfl rfl (by simp) (fun w0=>?_);simp only [bS,Nat.reduceAdd];refine go2 ?_;intro b1 hb1;refine go2 ?_;refine gJv [2,3,4,5,6,7,8,9] [(2,.bool (!a.1.bad&&a.1.valid))] (fun K1 J1=>?_) ?_
 ·refine go4 ?_;rcases bt a.1.bad with h3 | h3
  ·refine sB (gG h3) rfl (go5 ?_);refine J1 _ _ pp_ s0 (bI (xF h3))
  refine sB (gD h3) rfl (go_ ?_);refine sC (.bool a.1.valid) aJ (sI a.1 a.2) rfl rfl rfl (go3 ?_);refine J1 _ _ pp_ s0 (bI (o6 h3 rfl))
 intro g4;refine go_ ?_;refine bP rfl (.inr rfl) rfl ?_;exact (by rfl)
theorem gT  (w:World)  :
    Calls prog 75 [].toArray w (fun e w'=>∃ v,e = .returned (v)∧Ext w w'∧Slo w.heap.size w' 27 elI v F_skewbackref08_bad):=by
 refine e8 (n:=3) (fun v=>v) func75 rfl rfl (by simp) ?_;obtain ⟨w0,rfl⟩:∃ w0,w0=w:=⟨_,rfl⟩;simp only [bS,Nat.reduceAdd];obtain ⟨q0,hq0⟩:=nm ((E Z.bad):I);refine go4 ?_;refine sC (AV [pI q0]) aJ eB rfl rfl (by subst hq0;rfl) (bJ rfl (fJ [[pI q0]] [pI q0] zP lH nN rfl dd_ rfl rfl ⟨rfl,rfl,rfl,trivial⟩ rfl (fun b1 hb1=>go3 ?_)));refine bP rfl (.inr rfl) rfl ?_
 have hE:([q0]:(List I))=F_skewbackref08_bad:=by obtain rfl:=hq0.symm;exact rfl
 rw [← hE];exact ⟨_,rfl,⟨_,(sk sn),OwnG.lit (e:=elI) (l:=[q0]) (qs:=[pI q0]) hb1 rfl (Nat.le_of_ble_eq_true rfl) rfl⟩⟩
theorem kI (vl:Value) (l:(List I)) (w:World) (hl:Slr w elI vl l) (hpre:l.length≤200) :
    Calls prog 78 [vl].toArray w (fun e w'=>∃ v,e = .returned (v)∧Ext w w'∧Slo w.heap.size w' 27 elI v (aX l)):=by
 obtain ⟨p_l,c_l,rfl⟩:=hl.form;refine e8 (n:=45) (fun v=>v) func78 rfl rfl (by simp) ?_;obtain ⟨w0,rfl⟩:∃ w0,w0=w:=⟨_,rfl⟩;have Hl:=hl.old;have hm_l:=hl.max;simp only [bS,Nat.reduceAdd];refine oS ?_;refine gJ3 [2,3,4,5,8,9,10,11,12,13,14,15,16,17,18,19,20,21,22,23,24,25,26,27,28] (fun g M=>∃ (last:Int) (i:Nat),(gL l ((l.length+1)) (-1) 0) = .inl (last,i)∧(last<(l.length:Int)∧-1≤last)∧(g 3 = .int .i64 last∧g 4 = .int .i64 ((i:Nat):Int))∧M=[]) (fun K_u1 hK_u1=>?_) ?_
 ·refine go_ ?_;refine cO [2,3,4,5,8,9,10,11,12,13,14,15,16,17,18,19,20,21,22,23,24,25,26,27,28] (fun g nn M=>∃ (last:Int) (i:Nat),(gL l nn last i)=(gL l ((l.length+1)) (-1) 0)∧l.length - i<nn∧(i≤l.length∧last<(i:Int)∧-1≤last)∧(g 3 = .int .i64 last∧g 4 = .int .i64 ((i:Nat):Int))∧M=[]) ((l.length+1)) ?start ?round
  case start=>exact ⟨_,s0,(-1),0,rfl,o1_,o1_,⟨rfl,rfl⟩,rfl⟩
  case round =>
   rintro nn g M ⟨last,i,hT0,hq0,hinv0,⟨hg3,hg4⟩,rfl⟩;obtain ⟨k0,rfl⟩:∃ m,nn=m+1:=⟨nn - 1,by omega⟩;simp only [eO,hg3,hg4];clear hg3 hg4;refine go4 ?_;refine sQ (aV (v':=.int .i64 (((l).length:Nat):Int)) (dO (e:=elI) m6 rfl (SLe.sub Hl sn)) rfl) rfl (go2 ?_);refine aT _ rfl (fun h16=>?_) (fun h16=>?_)
   ·have ph16:=of_decide_eq_true h16;refine go6 ?_;refine sQ (aV (v':=.pointer (some (slb (.slice p_l l.length c_l) (i * 18+0)))) (jT (e:=elI) (l:=l) (k:=i) m6 rfl rfl (SLe.sub Hl sn) o2_) rfl) rfl ?_;refine sQ (jI (e:=elI) (l:=l) (k:=i) (o:=0) tyT rfl (SLe.sub Hl sn) (dC I0 o2_) rfl) rfl ?_;refine sQ (bZ aJ (lS (l.getD i I0)) rfl) rfl (go7 ?_);rcases bt (fN (l.getD i I0)) with h17 | h17
    ·refine W_f (gG h17) rfl (go4 ?_);refine sQ (aV (v':=.pointer (some (slb (.slice p_l l.length c_l) (i * 18+0)))) (jT (e:=elI) (l:=l) (k:=i) m6 rfl rfl (SLe.sub Hl sn) o2_) rfl) rfl ?_;refine sQ (jI (e:=elI) (l:=l) (k:=i) (o:=0) tyT rfl (SLe.sub Hl sn) (dC I0 o2_) rfl) rfl ?_;refine sC (.int .i64 ((Z.signW (l.getD i I0).dec).1)) aJ (eT (l.getD i I0).1 (l.getD i I0).2) rfl rfl rfl (go2 ?_);refine aT _ rfl (fun h18=>?_) (fun h18=>?_)
     ·refine go6 ?_;refine sV (.int .i64 (((i+1):Nat):Int)) rfl (congrArg (Value.int .i64) (wx oo_ oo_ oo_)) (go2 ?_);refine ⟨pp_,_,_,s0,(Nat.lt_succ_self _),((i:Nat):Int),(i+1),(by exact (hT0.symm.trans (Eq.symm (bE h16 (bE h17 (bE h18 rfl))))).symm),(Nat.lt_of_lt_of_le o1_ (Nat.le_of_lt_succ hq0)),o1_,⟨rfl,rfl⟩,rfl⟩
     refine go3 ?_;refine sV (.int .i64 (((i+1):Nat):Int)) rfl (congrArg (Value.int .i64) (wx oo_ oo_ oo_)) (go2 ?_);refine ⟨pp_,_,_,s0,(Nat.lt_succ_self _),last,(i+1),(by exact (hT0.symm.trans (Eq.symm (bE h16 (bE h17 (aN h18 rfl))))).symm),(Nat.lt_of_lt_of_le o1_ (Nat.le_of_lt_succ hq0)),o1_,⟨rfl,rfl⟩,rfl⟩
    refine W_t (gD h17) rfl (go_ ?_);refine bJ rfl (cP (E:=27) (e:=elI) (l:=F_skewbackref08_bad) (fun v=>v) aJ rfl (fun w hw=>gT  w) (fun p19 c20 L21 hF22=>go3 ?_));refine bP rfl (.inr rfl) rfl ?_
    have hE:(F_skewbackref08_bad:(List I))=(aX l):=by exact (rG rfl (hT0.symm.trans (Eq.symm (bE h16 (aN h17 rfl)))))
    rw [← hE];exact ⟨_,rfl,⟨L21,lZ,hF22⟩⟩
   have ph16:=of_decide_eq_false h16;refine go_ ?_;refine hK_u1 _ _ pp_ ⟨_,s0,last,i,(by exact hT0.symm.trans (Eq.symm (aN h16 rfl))),o1_,⟨rfl,rfl⟩,rfl⟩
 rintro g M ⟨last,i,hCu1,hPu1,⟨hg3,hg4⟩,rfl⟩;simp only [eO,hg3,hg4];clear hg3 hg4;refine go5 ?_;refine aT _ rfl (fun h23=>?_) (fun h23=>?_)
 ·have ph23:=of_decide_eq_true h23;refine go_ ?_;refine bJ rfl (cP (E:=27) (e:=elI) (l:=F_skewbackref08_bad) (fun v=>v) aJ rfl (fun w hw=>gT  w) (fun p24 c25 L26 hF27=>go3 ?_));refine bP rfl (.inr rfl) rfl ?_
  have hE:(F_skewbackref08_bad:(List I))=(aX l):=by exact trs (Eq.symm (smS hCu1)) (bE h23 rfl)
  rw [← hE];exact ⟨_,rfl,⟨L26,lZ,hF27⟩⟩
 have ph23:=of_decide_eq_false h23;refine go8 ?_;refine gJ3 [6,7,32,33,34,35,36,37,38,39,40,41,42,43] (fun g M=>∃ (out:List I) (j:Nat) (p_out:Option Addr) (c_out:Nat) (L_out:List Blk),(iH l last i (((last+1).toNat+1)) ([]:List I) 0)=(out,j)∧(g 6 = .slice p_out out.length c_out∧g 7 = .int .i64 ((j:Nat):Int)∧OwnG w0 27 elI (.slice p_out out.length c_out) out L_out)∧M=(L_out ++ [])) (fun K_u28 hK_u28=>?_) ?_
 ·refine go_ ?_;refine cO [6,7,32,33,34,35,36,37,38,39,40,41,42,43] (fun g nn M=>∃ (out:List I) (j:Nat) (p_out:Option Addr) (c_out:Nat) (L_out:List Blk),(iH l last i nn out j)=(iH l last i (((last+1).toNat+1)) ([]:List I) 0)∧(last+1).toNat - j<nn∧((j:Int)≤last+1∧out.length=j)∧(g 6 = .slice p_out out.length c_out∧g 7 = .int .i64 ((j:Nat):Int)∧OwnG w0 27 elI (.slice p_out out.length c_out) out L_out)∧M=(L_out ++ [])) (((last+1).toNat+1)) ?start ?round
  case start=>exact ⟨_,s0,([]:List I),0,none,0,[],rfl,o1_,o1_,⟨rfl,rfl,OwnG.nil⟩,rfl⟩
  case round =>
   rintro nn g M ⟨out,j,p_out,c_out,L_out,hT1,hq1,hinv1,⟨hg6,hg7,hO_out⟩,rfl⟩;obtain ⟨k1,rfl⟩:∃ m,nn=m+1:=⟨nn - 1,by omega⟩;simp only [eO,hg6,hg7];clear hg6 hg7;have hm_out:=OwnG.max hO_out;refine go6 ?_;refine aT _ rfl (fun h35=>?_) (fun h35=>?_)
   ·have ph35:=of_decide_eq_true h35;refine go7 ?_;refine sQ (aV (v':=.pointer (some (slb (.slice p_l l.length c_l) (j * 18+0)))) (jT (e:=elI) (l:=l) (k:=j) m6 rfl rfl (SLe.sub Hl sn) o2_) rfl) rfl ?_;refine sQ (jI (e:=elI) (l:=l) (k:=j) (o:=0) tyT rfl (SLe.sub Hl sn) (dC I0 o2_) rfl) rfl ?_;refine bJ rfl (fJ [[pI (l.getD j I0)]] [pI (l.getD j I0)] zP lH nN rfl dd_ rfl rfl ⟨rfl,rfl,rfl,trivial⟩ rfl (fun b36 hb36=>bJ rfl (lX (e:=elI) (l:=out) (m:=[(l.getD j I0)]) 68 zP (by kernel_rfl) dd_ rfl rfl hO_out (SLe.lit (e:=elI) (l:=[(l.getD j I0)]) m0 rfl (Nat.le_of_ble_eq_true rfl) rfl) (cV oY) (by simp only [List.length_append,List.length_cons,List.length_nil];omega) dd_ (fun p37 c38 L39 hO40=>?_))));refine go4 ?_;refine sV (.int .i64 (((j+1):Nat):Int)) rfl (congrArg (Value.int .i64) (wx oo_ oo_ oo_)) (go2 ?_);refine ⟨pp_,_,_,(sA (sd (s0))),(Nat.lt_succ_self _),(out ++ [(l.getD j I0)]),(j+1),p37,c38,L39,(by exact (hT1.symm.trans (Eq.symm (bE h35 rfl))).symm),(Nat.lt_of_lt_of_le o1_ (Nat.le_of_lt_succ hq1)),o1_,⟨rfl,rfl,hO40⟩,rfl⟩
   have ph35:=of_decide_eq_false h35;refine go_ ?_;refine hK_u28 _ _ pp_ ⟨_,s0,out,j,p_out,c_out,L_out,(by exact hT1.symm.trans (Eq.symm (aN h35 rfl))),⟨rfl,rfl,hO_out⟩,rfl⟩
 rintro g M ⟨out,j,p_out,c_out,L_out,hCu28,⟨hg6,hg7,hO_out⟩,rfl⟩;simp only [eO,hg6,hg7];clear hg6 hg7;have hm_out:=OwnG.max hO_out;refine go5 ?_;refine bP rfl (.inr rfl) rfl ?_
 have hE:(out:(List I))=(aX l):=by exact trs (Eq.symm (smS hCu1)) (aN h23 (trs (Eq.symm (apS hCu28)) rfl))
 rw [← hE];exact ⟨_,rfl,⟨L_out,lZ,hO_out⟩⟩
theorem AZ (vl:Value) (l:(List W)) (w:World) (hl:Slr w elW vl l) (hpre:l.length≤200) :
    Calls prog 86 [vl].toArray w (fun e w'=>∃ v,e = .returned (v)∧Ext w w'∧Slo w.heap.size w' 27 elI v (jK l)):=by
 obtain ⟨p_l,c_l,rfl⟩:=hl.form;refine e8 (n:=21) (fun v=>v) func86 rfl rfl (by simp) ?_;obtain ⟨w0,rfl⟩:∃ w0,w0=w:=⟨_,rfl⟩;have Hl:=hl.old;have hm_l:=hl.max;simp only [bS,Nat.reduceAdd];refine oS ?_;refine gJ3 [3,4,5,6,7,8,9,10,11,12,13,14,15,16,17,18] (fun g M=>∃ (out:List I) (i:Nat) (p_out:Option Addr) (c_out:Nat) (L_out:List Blk),(kT l ((l.length+1)) ([]:List I) 0)=(out,i)∧(out.length≤200)∧(g 3 = .slice p_out out.length c_out∧g 4 = .int .i64 ((i:Nat):Int)∧OwnG w0 27 elI (.slice p_out out.length c_out) out L_out)∧M=(L_out ++ [])) (fun K_u1 hK_u1=>?_) ?_
 ·refine go_ ?_;refine cO [3,4,5,6,7,8,9,10,11,12,13,14,15,16,17,18] (fun g nn M=>∃ (out:List I) (i:Nat) (p_out:Option Addr) (c_out:Nat) (L_out:List Blk),(kT l nn out i)=(kT l ((l.length+1)) ([]:List I) 0)∧l.length - i<nn∧(i≤l.length∧out.length=i)∧(g 3 = .slice p_out out.length c_out∧g 4 = .int .i64 ((i:Nat):Int)∧OwnG w0 27 elI (.slice p_out out.length c_out) out L_out)∧M=(L_out ++ [])) ((l.length+1)) ?start ?round
  case start=>exact ⟨_,s0,([]:List I),0,none,0,[],rfl,o1_,o1_,⟨rfl,rfl,OwnG.nil⟩,rfl⟩
  case round =>
   rintro nn g M ⟨out,i,p_out,c_out,L_out,hT0,hq0,hinv0,⟨hg3,hg4,hO_out⟩,rfl⟩;obtain ⟨k0,rfl⟩:∃ m,nn=m+1:=⟨nn - 1,by omega⟩;simp only [eO,hg3,hg4];clear hg3 hg4;have hm_out:=OwnG.max hO_out;refine go4 ?_;refine sQ (aV (v':=.int .i64 (((l).length:Nat):Int)) (dO (e:=elW) kR rfl (SLe.sub Hl sn)) rfl) rfl (go2 ?_);refine aT _ rfl (fun h8=>?_) (fun h8=>?_)
   ·have ph8:=of_decide_eq_true h8;refine go7 ?_;refine sQ (aV (v':=.pointer (some (slb (.slice p_l l.length c_l) (i * 1+0)))) (jT (e:=elW) (l:=l) (k:=i) kR rfl rfl (SLe.sub Hl sn) o2_) rfl) rfl ?_;refine sQ (wC (u:=.int .i64 ((l.getD i W.z).1)) (e:=elW) (l:=l) (k:=i) (o:=0) tyT rfl (SLe.sub Hl sn) (dC W.z o2_) rfl) rfl ?_;refine sC (AV [pI (E (Z.of (l.getD i W.z).1))]) aJ (dY (l.getD i W.z).1 (l.getD i W.z).2) rfl rfl rfl (bJ rfl (fJ [[pI (E (Z.of (l.getD i W.z).1))]] [pI (E (Z.of (l.getD i W.z).1))] lT lH nN rfl dd_ rfl rfl ⟨rfl,rfl,rfl,trivial⟩ rfl (fun b9 hb9=>bJ rfl (lX (e:=elI) (l:=out) (m:=[(E (Z.of (l.getD i W.z).1))]) 68 lT (by kernel_rfl) dd_ rfl rfl hO_out (SLe.lit (e:=elI) (l:=[(E (Z.of (l.getD i W.z).1))]) m0 rfl (Nat.le_of_ble_eq_true rfl) rfl) (cV oY) (by simp only [List.length_append,List.length_cons,List.length_nil];omega) dd_ (fun p10 c11 L12 hO13=>?_)))));refine go4 ?_;refine sV (.int .i64 (((i+1):Nat):Int)) rfl (congrArg (Value.int .i64) (wx oo_ oo_ oo_)) (go2 ?_);refine ⟨pp_,_,_,(sA (sd (s0))),(Nat.lt_succ_self _),(out ++ [(E (Z.of (l.getD i W.z).1))]),(i+1),p10,c11,L12,(by exact (hT0.symm.trans (Eq.symm (bE h8 rfl))).symm),(Nat.lt_of_lt_of_le o1_ (Nat.le_of_lt_succ hq0)),o1_,⟨rfl,rfl,hO13⟩,rfl⟩
   have ph8:=of_decide_eq_false h8;refine go_ ?_;refine hK_u1 _ _ pp_ ⟨_,s0,out,i,p_out,c_out,L_out,(by exact hT0.symm.trans (Eq.symm (aN h8 rfl))),o1_,⟨rfl,rfl,hO_out⟩,rfl⟩
 rintro g M ⟨out,i,p_out,c_out,L_out,hCu1,hPu1,⟨hg3,hg4,hO_out⟩,rfl⟩;simp only [eO,hg3,hg4];clear hg3 hg4;have hm_out:=OwnG.max hO_out;refine go2 ?_;refine bJ rfl (cP (E:=27) (e:=elI) (l:=(aX out)) (fun v=>v) aJ rfl (fun w hw=>kI _ out w (aO hw hO_out lZ) oo_) (fun p14 c15 L16 hF17=>?_));have hb18:=(kH out);refine go3 ?_;refine bP rfl (.inr rfl) rfl ?_
 have hE:((aX out):(List I))=(jK l):=by exact (by unfold jK;exact trs (Eq.symm (apS hCu1)) rfl)
 rw [← hE];exact ⟨_,rfl,⟨L16,lZ,hF17⟩⟩
theorem dN (vp:Value) (p:(List I)) (w:World) (hp:Slr w elI vp p) :
    Calls prog 27 [vp].toArray w (fun e w'=>e = .returned (.bool (aP p))∧Ext w w'):=by
 obtain ⟨p_p,c_p,rfl⟩:=hp.form;refine cT (N:=18) func27 rfl rfl (by simp) ?_;obtain ⟨w0,rfl⟩:∃ w0,w0=w:=⟨_,rfl⟩;have Hp:=hp.old;have hm_p:=hp.max;simp only [bS,Nat.reduceAdd];refine go7 ?_;refine gJ3 [2,3,4,5,6,7,8,9,10,11,12,13,14,15,16,17] (fun g M=>∃ (i:Nat),(gE p ((p.length+1)) 0) = .inl i∧(g 3 = .int .i64 ((i:Nat):Int))∧M=[]) (fun K_u1 hK_u1=>?_) ?_
 ·refine go_ ?_;refine cO [2,3,4,5,6,7,8,9,10,11,12,13,14,15,16,17] (fun g nn M=>∃ (i:Nat),(gE p nn i)=(gE p ((p.length+1)) 0)∧p.length - i<nn∧(i≤p.length)∧(g 3 = .int .i64 ((i:Nat):Int))∧M=[]) ((p.length+1)) ?start ?round
  case start=>exact ⟨_,s0,0,rfl,o1_,o1_,rfl,rfl⟩
  case round =>
   rintro nn g M ⟨i,hT0,hq0,hinv0,hg3,rfl⟩;obtain ⟨k0,rfl⟩:∃ m,nn=m+1:=⟨nn - 1,by omega⟩;simp only [eO,hg3];clear hg3;refine go4 ?_;refine sQ (aV (v':=.int .i64 (((p).length:Nat):Int)) (dO (e:=elI) dZ rfl (SLe.sub Hp sn)) rfl) rfl (go2 ?_);refine aT _ rfl (fun h6=>?_) (fun h6=>?_)
   ·have ph6:=of_decide_eq_true h6;refine go6 ?_;refine sQ (aV (v':=.pointer (some (slb (.slice p_p p.length c_p) (i * 18+0)))) (jT (e:=elI) (l:=p) (k:=i) dZ rfl rfl (SLe.sub Hp sn) o2_) rfl) rfl ?_;refine sQ (jI (e:=elI) (l:=p) (k:=i) (o:=0) tyT rfl (SLe.sub Hp sn) (dC I0 o2_) rfl) rfl ?_;refine sQ (bZ aJ (lS (p.getD i I0)) rfl) rfl (go6 ?_);rcases bt (fN (p.getD i I0)) with h7 | h7
    ·refine W_f (gG h7) rfl (go3 ?_);refine sV (.int .i64 (((i+1):Nat):Int)) rfl (congrArg (Value.int .i64) (wx oo_ oo_ oo_)) (go2 ?_);refine ⟨pp_,_,_,s0,(Nat.lt_succ_self _),(i+1),(by exact (hT0.symm.trans (Eq.symm (bE h6 (bE h7 rfl)))).symm),(Nat.lt_of_lt_of_le o1_ (Nat.le_of_lt_succ hq0)),o1_,rfl,rfl⟩
    refine W_t (gD h7) rfl (go4 ?_);refine bP rfl (.inr rfl) rfl ?_;exact congrArg vS0 (show _=(aP p) from (rG rfl (hT0.symm.trans (Eq.symm (bE h6 (aN h7 rfl))))))
   have ph6:=of_decide_eq_false h6;refine go_ ?_;refine hK_u1 _ _ pp_ ⟨_,s0,i,(by exact hT0.symm.trans (Eq.symm (aN h6 rfl))),rfl,rfl⟩
 rintro g M ⟨i,hCu1,hg3,rfl⟩;simp only [eO,hg3];clear hg3;refine go4 ?_;refine bP rfl (.inr rfl) rfl ?_;exact congrArg vS0 (show _=(aP p) from trs (Eq.symm (smS hCu1)) rfl)
theorem yA (vp:Value) (p:(List I)) (w:World) (hp:Slr w elI vp p) :
    Calls prog 74 [vp].toArray w (fun e w'=>e = .returned (.bool (fO p))∧Ext w w'):=by
 obtain ⟨p_p,c_p,rfl⟩:=hp.form;refine cT (N:=33) func74 rfl rfl (by simp) ?_;obtain ⟨w0,rfl⟩:∃ w0,w0=w:=⟨_,rfl⟩;have Hp:=hp.old;have hm_p:=hp.max;simp only [bS,Nat.reduceAdd];refine go4 ?_;refine gJv [3,4,5,6,7,8,9,10,11,12] [(12,.bool (((((p).length:Nat):Int)==1)&&decide ((p.getD 0 I0)=(E Z.bad))))] (fun K2 J2=>?_) ?_
 ·refine rE sn 10 [] [] (go_ ?_);refine pQ rfl (aV (v':=.int .i64 (((p).length:Nat):Int)) (dO (e:=elI) dZ rfl (SLe.sub Hp sn)) rfl) (go_ ?_);refine pBB rfl (fun h2=>?_) (fun h2=>?_)
  ·have ph2:=rW h2;refine go_ ?_;refine pQ rfl (aV (v':=.pointer (some (slb (.slice p_p p.length c_p) (0 * 18+0)))) (jT (e:=elI) (l:=p) (k:=0) dZ rfl rfl (SLe.sub Hp sn) o2_) rfl) ?_;refine pQ rfl (jI (e:=elI) (l:=p) (k:=0) (o:=0) tyT rfl (SLe.sub Hp sn) (dC I0 o2_) rfl) ?_;refine pC (AV [pI (E Z.bad)]) aJ eB rfl rfl rfl ?_;refine pQ rfl (xI (r:=decide ((p.getD 0 I0)=(E Z.bad))) rfl rfl (oA 8 dd_ TS UJ (oT jU) (oT jU) (uR pU))) (go2 ?_);refine J2 _ _ pp_ s0 (bI (cU h2 rfl))
  have ph2:=l6 h2;refine go7 ?_;refine J2 _ _ pp_ s0 (bI (iQ h2))
 intro g3;refine aT _ rfl (fun h4=>?_) (fun h4=>?_)
 ·have ph5:=rW (Bool.and_eq_true_iff.1 h4).1;have ph6:=of_decide_eq_true (Bool.and_eq_true_iff.1 h4).2;refine go4 ?_;refine bP rfl (.inr rfl) rfl ?_;exact congrArg vS0 (show _=(fO p) from bE h4 rfl)
 refine go2 ?_;refine gJv [13,14,15,16,17,18,19] [(19,.bool ((aP p)||decide (25<(((p).length:Nat):Int))))] (fun K4 J4=>?_) ?_
 ·refine go2 ?_;refine sQ (aV (v':=.bool (aP p)) (bN aJ rfl (fun w hw=>dN _ p w (aR hw Hp sn))) rfl) rfl ?_;refine sBB rfl (fun h8=>?_) (fun h8=>?_)
  ·refine go5 ?_;refine J4 _ _ pp_ s0 (bI (mS h8))
  refine go_ ?_;refine sQ (aV (v':=.int .i64 (((p).length:Nat):Int)) (dO (e:=elI) dZ rfl (SLe.sub Hp sn)) rfl) rfl (go3 ?_);refine J4 _ _ pp_ s0 (bI (kX h8 rfl))
 intro g9;refine aT _ rfl (fun h10=>?_) (fun h10=>?_)
 ·refine go4 ?_;refine bP rfl (.inr rfl) rfl ?_;exact congrArg vS0 (show _=(fO p) from aN h4 (bE h10 rfl))
 have ph11:=of_decide_eq_false (Bool.or_eq_false_iff.1 h10).2;refine go_ ?_;refine gJv [2,20,21,22,23,24,25,26,27,28,29,30,31,32] [(2,.bool (((((p).length:Nat):Int)==0)||((Z.signW (p.getD ((p).length - 1) I0).dec).1 != 0)))] (fun K5 J5=>?_) ?_
 ·refine go2 ?_;refine sQ (aV (v':=.int .i64 (((p).length:Nat):Int)) (dO (e:=elI) dZ rfl (SLe.sub Hp sn)) rfl) rfl (go_ ?_);refine sBB rfl (fun h13=>?_) (fun h13=>?_)
  ·have ph13:=rW h13;refine vK ?_;refine J5 _ _ pp_ s0 (bI (mS h13))
  have ph13:=l6 h13;refine go2 ?_;refine sQ (aV (v':=.int .i64 (((p).length:Nat):Int)) (dO (e:=elI) dZ rfl (SLe.sub Hp sn)) rfl) rfl (sV (.int .i64 ((((p).length:Nat):Int) - 1)) rfl (congrArg (Value.int .i64) (wx oo_ oo_ oo_)) (sQ (aV (v':=.pointer (some (slb (.slice p_p p.length c_p) (((p).length - 1) * 18+0)))) (lC (e:=elI) (l:=p) (k:=((p).length - 1)) dZ rfl rfl oo_ (SLe.sub Hp sn) o2_) rfl) rfl ?_));refine sQ (jI (e:=elI) (l:=p) (k:=((p).length - 1)) (o:=0) tyT rfl (SLe.sub Hp sn) (dC I0 o2_) rfl) rfl ?_;refine sC (.int .i64 ((Z.signW (p.getD ((p).length - 1) I0).dec).1)) aJ (eT (p.getD ((p).length - 1) I0).1 (p.getD ((p).length - 1) I0).2) rfl rfl rfl (go4 ?_);refine J5 _ _ pp_ s0 (bI (kX h13 rfl))
 intro g14;refine go_ ?_;refine bP rfl (.inr rfl) rfl ?_;exact congrArg vS0 (show _=(fO p) from aN h4 (aN h10 rfl))
theorem uE (vp:Value) (p:(List I)) (d:Int) (b:Int) (w:World) (hp:Slr w elI vp p) (hpre:0≤d∧d≤1000) :
    Calls prog 32 [vp,.int .i64 d,.int .i64 b].toArray w (fun e w'=>e = .returned (.bool (eA p d b))∧Ext w w'):=by
 obtain ⟨p_p,c_p,rfl⟩:=hp.form;refine cT (N:=31) func32 rfl rfl (by simp) ?_;obtain ⟨w0,rfl⟩:∃ w0,w0=w:=⟨_,rfl⟩;have Hp:=hp.old;have hm_p:=hp.max;simp only [bS,Nat.reduceAdd];refine go4 ?_;refine gJv [8,9,10,11,12,13,14,15,16,17] [(17,.bool (!(fO p)||decide ((d+1)<(((p).length:Nat):Int))))] (fun K2 J2=>?_) ?_
 ·refine go2 ?_;refine sQ (aV (v':=.bool (fO p)) (bN aJ rfl (fun w hw=>yA _ p w (aR hw Hp sn))) rfl) rfl (go_ ?_);rcases bt (fO p) with h2 | h2
  ·refine sB (gG h2) rfl (go_ ?_);refine sQ (aV (v':=.int .i64 (((p).length:Nat):Int)) (dO (e:=elI) dZ rfl (SLe.sub Hp sn)) rfl) rfl (go_ ?_);refine sV (.int .i64 (d+1)) rfl (congrArg (Value.int .i64) (wx oo_ oo_ oo_)) (go3 ?_);refine J2 _ _ pp_ s0 (bI (lE h2 rfl))
  refine sB (gD h2) rfl (go7 ?_);refine J2 _ _ pp_ s0 (bI (nI h2))
 intro g3;refine aT _ rfl (fun h4=>?_) (fun h4=>?_)
 ·refine go4 ?_;refine bP rfl (.inr rfl) rfl ?_;exact congrArg vS0 (show _=(eA p d b) from bE h4 rfl)
 have ph5:=of_decide_eq_false (Bool.or_eq_false_iff.1 h4).2;refine go5 ?_;refine gJ3 [6,7,18,19,20,21,22,23,24,25,26,27,28,29,30] (fun g M=>∃ (i:Nat),(iS p d b ((p.length+1)) 0) = .inl i∧(g 7 = .int .i64 ((i:Nat):Int))∧M=[]) (fun K_u6 hK_u6=>?_) ?_
 ·refine go_ ?_;refine cO [6,7,18,19,20,21,22,23,24,25,26,27,28,29,30] (fun g nn M=>∃ (i:Nat),(iS p d b nn i)=(iS p d b ((p.length+1)) 0)∧p.length - i<nn∧(i≤p.length)∧(g 7 = .int .i64 ((i:Nat):Int))∧M=[]) ((p.length+1)) ?start ?round
  case start=>exact ⟨_,s0,0,rfl,o1_,o1_,rfl,rfl⟩
  case round =>
   rintro nn g M ⟨i,hT0,hq0,hinv0,hg7,rfl⟩;obtain ⟨k0,rfl⟩:∃ m,nn=m+1:=⟨nn - 1,by omega⟩;simp only [eO,hg7];clear hg7;refine go4 ?_;refine sQ (aV (v':=.int .i64 (((p).length:Nat):Int)) (dO (e:=elI) dZ rfl (SLe.sub Hp sn)) rfl) rfl (go2 ?_);refine aT _ rfl (fun h11=>?_) (fun h11=>?_)
   ·have ph11:=of_decide_eq_true h11;refine go6 ?_;refine sQ (aV (v':=.pointer (some (slb (.slice p_p p.length c_p) (i * 18+0)))) (jT (e:=elI) (l:=p) (k:=i) dZ rfl rfl (SLe.sub Hp sn) o2_) rfl) rfl ?_;refine sQ (jI (e:=elI) (l:=p) (k:=i) (o:=0) tyT rfl (SLe.sub Hp sn) (dC I0 o2_) rfl) rfl ?_;refine sC (.int .i64 ((Z.bitsW (p.getD i I0).dec).1)) aJ (jL (p.getD i I0).1 (p.getD i I0).2) rfl rfl rfl (go3 ?_);refine aT _ rfl (fun h12=>?_) (fun h12=>?_)
    ·have ph12:=of_decide_eq_true h12;refine go4 ?_;refine bP rfl (.inr rfl) rfl ?_;exact congrArg vS0 (show _=(eA p d b) from aN h4 ((rG rfl (hT0.symm.trans (Eq.symm (bE h11 (bE h12 rfl)))))))
    have ph12:=of_decide_eq_false h12;refine go3 ?_;refine sV (.int .i64 (((i+1):Nat):Int)) rfl (congrArg (Value.int .i64) (wx oo_ oo_ oo_)) (go2 ?_);refine ⟨pp_,_,_,s0,(Nat.lt_succ_self _),(i+1),(by exact (hT0.symm.trans (Eq.symm (bE h11 (aN h12 rfl)))).symm),(Nat.lt_of_lt_of_le o1_ (Nat.le_of_lt_succ hq0)),o1_,rfl,rfl⟩
   have ph11:=of_decide_eq_false h11;refine go_ ?_;refine hK_u6 _ _ pp_ ⟨_,s0,i,(by exact hT0.symm.trans (Eq.symm (aN h11 rfl))),rfl,rfl⟩
 rintro g M ⟨i,hCu6,hg7,rfl⟩;simp only [eO,hg7];clear hg7;refine go4 ?_;refine bP rfl (.inr rfl) rfl ?_;exact congrArg vS0 (show _=(eA p d b) from aN h4 (trs (Eq.symm (smS hCu6)) rfl))
theorem i3 (vl:Value) (l:(List W)) (w:World) (hl:Slr w elW vl l) (hpre:l.length≤200) :
    Calls prog 39 [vl].toArray w (fun e w'=>∃ v,e = .returned (v)∧Ext w w'∧Slo w.heap.size w' 27 elI v (e9 l)):=by
 obtain ⟨p_l,c_l,rfl⟩:=hl.form;refine e8 (n:=5) (fun v=>v) func39 rfl rfl (by simp) ?_;obtain ⟨w0,rfl⟩:∃ w0,w0=w:=⟨_,rfl⟩;have Hl:=hl.old;have hm_l:=hl.max;simp only [bS,Nat.reduceAdd];refine go5 ?_;refine bJ rfl (cP (E:=27) (e:=elI) (l:=(jK l)) (fun v=>v) aJ rfl (fun w hw=>AZ _ l w (aR hw Hl sn) oo_) (fun p1 c2 L3 hF4=>?_));have hb5:=(u7 l);have hr6:=(u9 l);refine go3 ?_;refine bP rfl (.inr rfl) rfl ?_
 have hE:((jK l):(List I))=(e9 l):=by exact rfl
 rw [← hE];exact ⟨_,rfl,⟨L3,lZ,hF4⟩⟩
theorem mV (a:W) (b:W) :
    Ret prog 41 [.int .i64 a.1,.int .i64 b.1] (AV [pI (((j6 a b).lo).n),pI (((j6 a b).lo).d),pI (((j6 a b).hi).n),pI (((j6 a b).hi).d)]):=by
 refine cL (N:=10) func41 rfl rfl (by simp) (fun w0=>?_);simp only [bS,Nat.reduceAdd];refine go2 ?_;intro b1 hb1;refine go3 ?_;refine sQ (bZ aJ (j8 a) rfl) rfl (go_ ?_);refine sQ (bZ aJ (j8 b) rfl) rfl (go4 ?_);refine bP rfl (.inr rfl) (fQ rfl m0 tyT rfl) ?_;exact (by rfl)
end Go.Proofs.YtokjfhfiodopdaaGreat
namespace Go.Num
open Go Go.Kn
theorem WT {a:Rt} (h:dS a=true):cfP (cfN a.d) a.d:=by
  unfold dS at h;simp only [Bool.and_eq_true,decide_eq_true_eq] at h;exact KM h.2.2.1
theorem WU {a:Rt} (h:aZ a=true):cfP (cfN a.d) a.d:=by
  unfold aZ at h
  cases h1:(!a.n.1.good||(!a.d.1.good))
  · rw [h1,cond_false] at h
    simp only [Bool.and_eq_true,decide_eq_true_eq] at h;exact KM h.1
  rw [h1,cond_true] at h;cases h
theorem b6_ {a b:Bool} (h:(!a || !b)=false):a=true:=by cases a with | true=>rfl | false=>cases h
theorem PK (n m:Bool) {x y:Nat} (hy:0<y):(sgn n x).fmod (sgn m y)=if n≠m∧x % y≠0 then sgn m (y - x % y) else sgn m (x % y):=by
  rw [Int.fmod_def,HP n m hy];have h1:=Nat.div_add_mod x y;have h2:=Nat.mod_lt x hy
  have e:((x:Nat):Int)=(y:Int) * ((x / y:Nat):Int)+((x % y:Nat):Int):=by exact_mod_cast h1.symm
  have e2:(y:Int) * (-((x / y:Nat):Int) - 1) = -((y:Int) * ((x / y:Nat):Int)) - y:=by grind
  have e3:(y:Int) * (-((x / y:Nat):Int)) = -((y:Int) * ((x / y:Nat):Int)):=by grind
  have e4:(-(y:Int)) * (-((x / y:Nat):Int) - 1)=((y:Int) * ((x / y:Nat):Int))+y:=by grind
  have e5:(-(y:Int)) * (-((x / y:Nat):Int))=((y:Int) * ((x / y:Nat):Int)):=by grind
  have e6:(-(y:Int)) * ((x / y:Nat):Int) = -((y:Int) * ((x / y:Nat):Int)):=by grind
  cases n <;> cases m <;> by_cases h0:x % y=0 <;> simp only [tP,sH,reduceIte,Bool.false_eq_true,Bool.true_eq_false,reduceCtorEq,ne_eq,not_true_eq_false,not_false_eq_true,false_and,true_and,and_self,h0] <;> omega
theorem eM_ {x y:W} (hx:-4611686018427387904<x.1∧x.1<4611686018427387904) (hy:-4611686018427387904<y.1∧y.1<4611686018427387904) (h0:y.1≠0) (hf:x.1.fdiv y.1=(W.fdiv x y).1) :
    (W.sub x (W.mul y (W.fdiv x y))).1=x.1.fmod y.1:=by
  have e:x.1.fmod y.1=x.1 - y.1 * x.1.fdiv y.1:=Int.fmod_def ..
  have hb:(x.1.fmod y.1).natAbs<y.1.natAbs:=by
    rcases Int.lt_or_gt_of_ne h0 with h | h
    · have h1:=Int.fmod_nonneg_of_pos (-x.1) (show 0 < -y.1 by omega)
      have h2:=Int.fmod_lt_of_pos (-x.1) (show 0 < -y.1 by omega);rw [Int.neg_fmod_neg] at h1 h2;omega
    have h1:=Int.fmod_nonneg_of_pos x.1 h;have h2:=Int.fmod_lt_of_pos x.1 h;omega
  show IntKind.i64.wrap (x.1 - IntKind.i64.wrap (y.1 * (W.fdiv x y).1))=_
  rw [← hf,cJ (n:=y.1 * x.1.fdiv y.1) (by unfold I64;omega),← e,cJ (by unfold I64;omega)]
theorem WV {a b:R} (ha:a.Ok) (hb:b.Ok) (h:iR a=true) (k:iR b=true) (h0:jV b≠0):Z.of ((jV a).fmod (jV b))=Z.rem a.dec b.dec:=by
  rw [Z.rem,dR (lU ha h).1 (lU hb k).1,if_neg h0]
theorem da_ {a b:R} (h:a.good=false∨b.good=false):Z.bad=Z.rem a.dec b.dec:=by
  rw [Z.rem,jJ (h.imp F6 F6)]
theorem f2_ {a b:R} (ha:a.Ok) (hb:b.Ok) (ga:a.good=true) (gb:b.good=true) (h:val b.w=0):Z.bad=Z.rem a.dec b.dec:=by
  rw [Z.rem,dR (dH ha ga) (dH hb gb),if_pos (by rw [h];cases b.neg <;> rfl)]
theorem eK_ {a b:R} (ha:a.Ok) (hb:b.Ok) (ga:a.good=true) (gb:b.good=true) (h0:val b.w≠0) (h:a.neg=b.neg∨val a.w % val b.w=0):Z.of (sgn b.neg (val a.w % val b.w))=Z.rem a.dec b.dec:=by
  have hp:0<val b.w:=Nat.pos_of_ne_zero h0;rw [Z.rem,dR (dH ha ga) (dH hb gb),if_neg (FF hp),PK _ _ hp,if_neg];rintro ⟨h1,h2⟩;exact h.elim h1 h2
theorem cj_ {a b:R} (ha:a.Ok) (hb:b.Ok) (ga:a.good=true) (gb:b.good=true) (h0:val b.w≠0) (hn:a.neg≠b.neg) (h:val a.w % val b.w≠0):Z.of (sgn b.neg (val b.w - val a.w % val b.w))=Z.rem a.dec b.dec:=by
  have hp:0<val b.w:=Nat.pos_of_ne_zero h0;rw [Z.rem,dR (dH ha ga) (dH hb gb),if_neg (FF hp),PK _ _ hp,if_pos ⟨hn,h⟩]
theorem yM (a b:I):kN a b=E (Z.rem a.dec b.dec):=by
  unfold kN;rw [ei_]
  show _=E (Z.rem a.1.dec b.1.dec)
  cases hw:(iR a.1&&(iR b.1&&((eE b).1 != 0)))
  · rw [cond_false]
    cases hg:(!a.1.good||(!b.1.good||(val b.1.w==0)))
    · rw [cond_false]
      simp only [Bool.or_eq_false_iff,Bool.not_eq_false',beq_eq_false_iff_ne] at hg;obtain ⟨ga,gb,h0⟩:=hg
      cases hc:((a.1.neg != b.1.neg)&&decide ((0:Int)<(((dl (val a.1.w % val b.1.w)).length:Nat):Int)))
      · rw [cond_false,eK_ a.2 b.2 ga gb h0]
        rw [Bool.and_eq_false_iff] at hc;rcases hc with hc | hc
        · exact .inl (by simpa using hc)
        right
        have:=of_decide_eq_false hc;exact MZ.1 oo_
      rw [cond_true,cj_ a.2 b.2 ga gb h0]
      · rw [Bool.and_eq_true] at hc;simpa using hc.1
      rw [Bool.and_eq_true] at hc;have:=of_decide_eq_true hc.2;intro h;rw [h,pT] at this;exact absurd this dd_
    rw [cond_true]
    cases ga:a.1.good
    · rw [da_ (.inl ga)]
    · cases gb:b.1.good
      · rw [da_ (.inr gb)]
      rw [ga,gb] at hg;rw [f2_ a.2 b.2 ga gb (by simpa using hg)]
  rw [cond_true];have hf:=NJ hw;rw [Bool.and_eq_true,Bool.and_eq_true] at hw
  show E (Z.of (W.sub (eE a) (W.mul (eE b) (W.fdiv (eE a) (eE b)))).1)=_
  rw [eM_ (lU a.2 hw.1).2.2.2 (lU b.2 hw.2.1).2.2.2 hf.2.1 hf.2.2];exact congrArg E (WV a.2 b.2 hw.1 hw.2.1 hf.2.1)
end Go.Num
namespace Go.Proofs.YtokjfhfiodopdaaGreat
open Go.Kn Go.Num Tryz
attribute [local irreducible] Go.Kn.W WL PL OpQ OpR OpS
theorem zY (a:I) (b:I) :
    Ret prog 68 [AV [pI a],AV [pI b]] (AV [pI (kN a b)]):=by
 refine cL (N:=78) func68 rfl rfl (by simp) (fun w0=>?_);simp only [bS,Nat.reduceAdd];refine go2 ?_;intro b1 hb1;refine go_ ?_;intro b2 hb2;refine go_ ?_;intro b3 hb3;refine go3 ?_;refine sC (.tuple #[.int .i64 ((eE a).1),.bool (iR a.1)]) aJ (gJ a.1 a.2) rfl rfl rfl (go8 ?_);refine sC (.tuple #[.int .i64 ((eE b).1),.bool (iR b.1)]) aJ (gJ b.1 b.2) rfl rfl rfl (go7 ?_);refine gJv [21,22,23,24,25,26,27,28] [(28,.bool ((iR a.1)&&((iR b.1)&&((eE b).1 != 0))))] (fun K2 J2=>?_) ?_
 ·refine go2 ?_;refine sBB rfl (fun h6=>?_) (fun h6=>?_)
  ·refine go2 ?_;refine sBB rfl (fun h7=>?_) (fun h7=>?_)
   ·refine go4 ?_;refine J2 _ _ pp_ s0 (bI (cU h6 (cU h7 rfl)))
   refine go4 ?_;refine J2 _ _ pp_ s0 (bI (cU h6 (iQ h7)))
  refine go7 ?_;refine J2 _ _ pp_ s0 (bI (iQ h6))
 intro g8;refine aT _ rfl (fun h9=>?_) (fun h9=>?_)
 ·refine go3 ?_;have hfl:=NJ h9;refine go2 ?_;refine sC (.int .i64 ((W.fdiv (eE a) (eE b)).1)) aJ (sJ (eE a).1 (eE b).1 (eE a).2 hfl.1 hfl.2.1) rfl rfl (congrArg (Value.int .i64) hfl.2.2) (sV (.int .i64 ((W.mul (eE b) (W.fdiv (eE a) (eE b))).1)) rfl rfl (sV (.int .i64 ((W.sub (eE a) (W.mul (eE b) (W.fdiv (eE a) (eE b)))).1)) rfl rfl ?_));obtain ⟨r10,hr10⟩:=nm ((E (Z.of (W.sub (eE a) (W.mul (eE b) (W.fdiv (eE a) (eE b)))).1)):I);refine sC (AV [pI r10]) aJ (dY (W.sub (eE a) (W.mul (eE b) (W.fdiv (eE a) (eE b)))).1 (W.sub (eE a) (W.mul (eE b) (W.fdiv (eE a) (eE b)))).2) rfl rfl (by subst hr10;rfl) (go3 ?_);refine bP rfl (.inr rfl) (fQ rfl m0 tyT rfl) ?_;exact (by subst hr10;exact congrArg vS2 (show _=(kN a b) from bE h9 rfl))
 refine go2 ?_;refine gJv [37,38,39,40,41,42,43,44,45,46,47,48,49,50] [(50,.bool (!a.1.good||(!b.1.good||((((dl (val b.1.w)).length:Nat):Int)==0))))] (fun K4 J4=>?_) ?_
 ·refine go2 ?_;refine sC (.bool a.1.good) aJ (cF a.1 a.2) rfl rfl rfl (go_ ?_);rcases bt a.1.good with h14 | h14
  ·refine sB (gG h14) rfl (go_ ?_);refine sC (.bool b.1.good) aJ (cF b.1 b.2) rfl rfl rfl (go2 ?_);rcases bt b.1.good with h15 | h15
   ·refine sB (gG h15) rfl (go_ ?_);refine bJ rfl (fS aJ rfl (fun w hw=>cE b.1 b.2 w) (fun vl16 Ll16 kl16=>?_))
    try simp only [gP,lO] at kl16
    refine sQ (aV (v':=.int .i64 (((dl (val b.1.w)).length:Nat):Int)) (m8 kR rfl (SL.sub kl16.sl lZ)) rfl) rfl (go3 ?_);refine J4 _ _ pp_ (sR (s0)) (bI (lE h14 (lE h15 rfl)))
   refine sB (gD h15) rfl (go6 ?_);refine J4 _ _ pp_ s0 (bI (lE h14 (nI h15)))
  refine sB (gD h14) rfl (vK ?_);refine J4 _ _ pp_ s0 (bI (nI h14))
 intro g17;refine aT _ rfl (fun h18=>?_) (fun h18=>?_)
 ·refine go_ ?_;refine sC (AV [pI (E Z.bad)]) aJ eB rfl rfl rfl (go3 ?_);refine bP rfl (.inr rfl) (fQ rfl m0 tyT rfl) ?_;exact congrArg vS2 (show _=(kN a b) from aN h9 (bE h18 rfl))
 refine go_ ?_;refine gds sn [0,8,5,13,17,20,24,28,32,36] [] mix (by kernel_rfl) (go2 ?_);refine fT rfl rfl (fS aJ rfl (fun w hw=>cE a.1 a.2 w) (fun vl19 Ll19 kl19=>⟨(fun _=>sR s0),sn,?_⟩))
 try simp only [gP,lO] at kl19
 refine fT rfl rfl (fS aJ rfl (fun w hw=>cE b.1 b.2 w) (fun vl20 Ll20 kl20=>⟨(fun _=>sR s0),sn,?_⟩))
 try simp only [gP,lO] at kl20
 have hB:=cS_ h18;refine fT rfl rfl (BQ aJ rfl (fun w hw=>mM vl19 vl20 (val a.1.w) (val b.1.w) hB (Nat.le_trans (iV (k:=32) (pL a.2)) dd_) (Nat.le_trans (iV (k:=32) (pL b.2)) dd_) w (SL.sl (SL.sub kl19.sl (sR lZ)) hw) (SL.sl (SL.sub kl20.sl lZ) hw)) (fun vl21_0 vl21_1 Ll21 kl21_0 kl21_1=>⟨(fun _=>sR s0),sn,?_⟩))
 try simp only [gP,lO] at kl21_0 kl21_1
 refine go7 ?_;refine gJv [60,61,62,63,64,65,66,67,68,69] [(69,.bool ((a.1.neg != b.1.neg)&&decide (0<(((dl ((val a.1.w) % (val b.1.w))).length:Nat):Int))))] (fun K6 J6=>?_) ?_
 ·refine go5 ?_;refine sQ (aV (v':=.bool (a.1.neg != b.1.neg)) (uM CD rfl rfl) rfl) rfl ?_;refine sBB rfl (fun h23=>?_) (fun h23=>?_)
  ·refine go_ ?_;refine sQ (aV (v':=.int .i64 (((dl ((val a.1.w) % (val b.1.w))).length:Nat):Int)) (m8 kR rfl (SL.sub kl21_1 lZ)) rfl) rfl (go3 ?_);refine J6 _ _ pp_ s0 (bI (cU h23 rfl))
  refine go5 ?_;refine J6 _ _ pp_ s0 (bI (iQ h23))
 intro g24;refine aT _ rfl (fun h25=>?_) (fun h25=>?_)
 ·refine go2 ?_;refine bJ rfl (fS aJ rfl (fun w hw=>cE b.1 b.2 w) (fun vl26 Ll26 kl26=>?_))
  try simp only [gP,lO] at kl26
  refine go_ ?_;refine bJ rfl (fS aJ rfl (fun w hw=>lF vl26 vl21_1 (dl (val b.1.w)) (dl ((val a.1.w) % (val b.1.w))) (kL _) (kL _) (Nat.le_trans (iV (k:=32) (pL b.2)) dd_) (Nat.le_trans (iV (k:=32) (fu_ (pL a.2))) dd_) (by simp only [gP,lO];exact (Nat.le_of_lt (Nat.mod_lt _ hB))) w (SL.sl (SL.sub kl26.sl lZ) hw) (SL.sl (SL.sub kl21_1 (sR lZ)) hw)) (fun vl27 Ll27 kl27=>?_))
  try simp only [gP,lO] at kl27
  refine go6 ?_;refine sQ (aV (v':=AV [pI (E (Z.of (sgn b.1.neg ((val b.1.w) - ((val a.1.w) % (val b.1.w))))))]) (bN aJ rfl (fun w hw=>d5 b.1.neg vl27 (dl ((val b.1.w) - ((val a.1.w) % (val b.1.w)))) (kL _) (Nat.le_trans (iV (k:=32) (dZ_ (pL b.2))) dd_) w (SL.sl (SL.sub kl27.sl lZ) hw))) (by rw [(gP _)];rfl)) rfl (go3 ?_);refine bP rfl (.inr rfl) (fQ rfl (mA (mA (mA (mA (mA mZ))))) tyT rfl) ?_;exact congrArg vS2 (show _=(kN a b) from aN h9 (aN h18 (bE h25 rfl)))
 refine go5 ?_;refine sQ (aV (v':=AV [pI (E (Z.of (sgn b.1.neg ((val a.1.w) % (val b.1.w)))))]) (bN aJ rfl (fun w hw=>d5 b.1.neg vl21_1 (dl ((val a.1.w) % (val b.1.w))) (kL _) (Nat.le_trans (iV (k:=32) (fu_ (pL a.2))) dd_) w (SL.sl (SL.sub kl21_1 lZ) hw))) (by rw [(gP _)];rfl)) rfl (go3 ?_);refine bP rfl (.inr rfl) (fQ rfl (mA (mA (mA mZ))) tyT rfl) ?_;exact congrArg vS2 (show _=(kN a b) from aN h9 (aN h18 (aN h25 rfl)))
theorem uB (a b:R) (ha:a.Ok) (hb:b.Ok):Ret prog 68 [RV a,RV b] (RV (Z.rem a.dec b.dec).enc):=by
  have h:=zY ⟨a,ha⟩ ⟨b,hb⟩;rw [yM] at h;exact h
end Go.Proofs.YtokjfhfiodopdaaGreat
