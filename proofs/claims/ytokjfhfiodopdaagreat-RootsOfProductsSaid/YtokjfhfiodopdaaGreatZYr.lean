/- Lemmas: what they ask stands in their statements. -/
import Derived.Test.YtokjfhfiodopdaaGreatZGa
set_option linter.unusedSimpArgs false
set_option linter.unusedVariables false
set_option maxHeartbeats 8000000
set_option maxRecDepth 20000
namespace Go.Proofs.YtokjfhfiodopdaaGreat
open Go.Kn Go.Num Tryz
attribute [local irreducible] Go.Kn.W WL PL OpQ OpR OpS
theorem lM (a:I) :
    Ret prog 63 [AV [pI a]] (.bool (e8 a)):=by
 refine bU (N:=10) func63 O O zz_ (fun w0=>?_);refine giI ?_;refine go2 ?_;intro b1 hb1;refine go2 ?_;refine gJv (rg [] 2 8) [(2,.bool (!a.1.bad&&a.1.valid))] (fun K1 J1=>?_) ?_
 ·refine go4 ?_;rcases bt a.1.bad with h3|h3
  ·refine sB (iI h3) O (go5 ?_);refine J1 _ _ pp_ s0 (bH (z7 h3))
  refine sB (iG h3) O (go_ ?_);refine sC (.bool a.1.valid) aM (pW a.1 a.2) O O O (go3 ?_);refine J1 _ _ pp_ s0 (bH (qO h3 O))
 intro g4;refine go_ ?_;refine rt1 ?_;exact (by rfl)
theorem n9  (w:World)  :
  Calls prog 75 [].toArray w (fun e w'=>∃ v,e = .returned (v)∧Ext w w'∧Slo w.heap.size w' 27 elI v F_skewbackref08_bad):=by
 refine eX (n:=3) (fun v=>v) func75 O O zz_ ?_;obtain ⟨w0,rfl⟩:=nm w;refine giI ?_;obtain ⟨q0,hq0⟩:=nm ((E Z.bad):I);refine go4 ?_;refine sC (AV [pI q0]) aM dV O O (by subst hq0;rfl) (aZ O (eK [[pI q0]] [pI q0] zO kF nB O dd_ O O ⟨rfl,rfl,rfl,trivial⟩ O (fun b1 hb1=>go3 ?_)));refine rt1 ?_
 have hE:([q0]:(List I))=F_skewbackref08_bad:=by obtain rfl:=hq0.symm;exact rfl
 rw [← hE];exact ⟨_,rfl,⟨_,(sk sn),OwnG.lit (e:=elI) (l:=[q0]) (qs:=[pI q0]) hb1 O (Nat.le_of_ble_eq_true O) O⟩⟩
theorem qY (vl:Value) (l:(List I)) (w:World) (hl:Slr w elI vl l) (hpre:l.length≤200) :
    Calls prog 78 [vl].toArray w (fun e w'=>∃ v,e = .returned (v)∧Ext w w'∧Slo w.heap.size w' 27 elI v (dC l)):=by
 obtain ⟨p_l,c_l,rfl⟩:=hl.form;refine eX (n:=45) (fun v=>v) func78 O O zz_ ?_;obtain ⟨w0,rfl⟩:=nm w;have Hl:=hl.old;have hm_l:=hl.max;refine giI ?_;refine o2 ?_;refine gJ3 (rg [2,3,4,5] 8 21) (fun g M=>∃ (last:Int) (i:Nat),(e7 l (l.length+1) (-1) 0) = .inl (last,i)∧(last<(l.length:Int)∧-1≤last)∧(g 3 = .int .i64 last∧g 4 = .int .i64 (i:Int))∧M=[]) (fun K_u1 hK_u1=>?_) ?_
 ·refine go_ ?_;refine bP (rg [2,3,4,5] 8 21) (fun g nn M=>∃ (last:Int) (i:Nat),(e7 l nn last i)=(e7 l (l.length+1) (-1) 0)∧l.length - i<nn∧(i≤l.length∧last<(i:Int)∧-1≤last)∧(g 3 = .int .i64 last∧g 4 = .int .i64 (i:Int))∧M=[]) (l.length+1) ?start ?round
  case start=>exact ⟨_,s0,(-1),0,rfl,o1_,o1_,⟨rfl,rfl⟩,rfl⟩
  case round =>
   rintro nn g M ⟨last,i,hT0,hq0,hinv0,⟨hg3,hg4⟩,rfl⟩;obtain ⟨k0,rfl⟩:∃ m,nn=m+1:=⟨nn - 1,by omega⟩;refine gS2 hg3 hg4 ?_;clear hg3 hg4;refine go4 ?_;refine sQ (dJ oL O (SLe.sub Hl sn)) O (go2 ?_);refine aQ _ O (fun h16=>?_) (fun h16=>?_)
   ·have ph16:=of_decide_eq_true h16;refine go6 ?_;refine sQ (aW (v':=.pointer (some (slb (.slice p_l l.length c_l) (i*18+0)))) (iT (e:=elI) (l:=l) (k:=i) oL O O (SLe.sub Hl sn) o2_) O) O ?_;refine sQ (jC (e:=elI) (l:=l) (k:=i) (o:=0) tyT O (SLe.sub Hl sn) (cP I0 o2_) O) O ?_;refine sQ (bR aM (lM (l.getD i I0)) O) O (go7 ?_);rcases bt (e8 (l.getD i I0)) with h17|h17
    ·refine W_f (iI h17) O (go4 ?_);refine sQ (aW (v':=.pointer (some (slb (.slice p_l l.length c_l) (i*18+0)))) (iT (e:=elI) (l:=l) (k:=i) oL O O (SLe.sub Hl sn) o2_) O) O ?_;refine sQ (jC (e:=elI) (l:=l) (k:=i) (o:=0) tyT O (SLe.sub Hl sn) (cP I0 o2_) O) O ?_;refine sC (.int .i64 ((Z.signW (l.getD i I0).dec).1)) aM (iE (l.getD i I0).1 (l.getD i I0).2) O O O (go2 ?_);refine aQ _ O (fun h18=>?_) (fun h18=>?_)
     ·refine go6 ?_;refine sWi (((i+1):Nat):Int) O (go2 ?_);refine ⟨pp_,_,_,s0,(Nat.lt_succ_self _),(i:Int),(i+1),(by exact (hT0.symm.trans (Eq.symm (aY h16 (aY h17 (aY h18 O))))).symm),(Nat.lt_of_lt_of_le o1_ (Nat.le_of_lt_succ hq0)),o1_,⟨rfl,rfl⟩,rfl⟩
     refine go3 ?_;refine sWi (((i+1):Nat):Int) O (go2 ?_);refine ⟨pp_,_,_,s0,(Nat.lt_succ_self _),last,(i+1),(by exact (hT0.symm.trans (Eq.symm (aY h16 (aY h17 (aT h18 O))))).symm),(Nat.lt_of_lt_of_le o1_ (Nat.le_of_lt_succ hq0)),o1_,⟨rfl,rfl⟩,rfl⟩
    refine W_t (iG h17) O (go_ ?_);refine aZ O (cK (E:=27) (e:=elI) (l:=F_skewbackref08_bad) (fun v=>v) aM O (fun w hw=>n9  w) (fun p19 c20 L21 hF22=>go3 ?_));refine rt1 ?_
    have hE:(F_skewbackref08_bad:(List I))=(dC l):=by exact (u7 O (hT0.symm.trans (Eq.symm (aY h16 (aT h17 O)))))
    rw [← hE];exact ⟨_,rfl,⟨L21,lZ,hF22⟩⟩
   have ph16:=of_decide_eq_false h16;refine go_ ?_;refine hK_u1 _ _ pp_ ⟨_,s0,last,i,(by exact hT0.symm.trans (Eq.symm (aT h16 O))),o1_,⟨rfl,rfl⟩,rfl⟩
 rintro g M ⟨last,i,hCu1,hPu1,⟨hg3,hg4⟩,rfl⟩;refine gS2 hg3 hg4 ?_;clear hg3 hg4;refine go5 ?_;refine aQ _ O (fun h23=>?_) (fun h23=>?_)
 ·have ph23:=of_decide_eq_true h23;refine go_ ?_;refine aZ O (cK (E:=27) (e:=elI) (l:=F_skewbackref08_bad) (fun v=>v) aM O (fun w hw=>n9  w) (fun p24 c25 L26 hF27=>go3 ?_));refine rt1 ?_
  have hE:(F_skewbackref08_bad:(List I))=(dC l):=by exact trs (Eq.symm (smS hCu1)) (aY h23 O)
  rw [← hE];exact ⟨_,rfl,⟨L26,lZ,hF27⟩⟩
 have ph23:=of_decide_eq_false h23;refine go8 ?_;refine gJ3 (rg [6,7] 32 12) (fun g M=>∃ (out:List I) (j:Nat) (p_out:Option Addr) (c_out:Nat) (L_out:List Blk),(fZ l last i ((last+1).toNat+1) ([]:List I) 0)=(out,j)∧(g 6 = .slice p_out out.length c_out∧g 7 = .int .i64 (j:Int)∧OwnG w0 27 elI (.slice p_out out.length c_out) out L_out)∧M=(L_out++[])) (fun K_u28 hK_u28=>?_) ?_
 ·refine go_ ?_;refine bP (rg [6,7] 32 12) (fun g nn M=>∃ (out:List I) (j:Nat) (p_out:Option Addr) (c_out:Nat) (L_out:List Blk),(fZ l last i nn out j)=(fZ l last i ((last+1).toNat+1) ([]:List I) 0)∧(last+1).toNat - j<nn∧((j:Int)≤last+1∧out.length=j)∧(g 6 = .slice p_out out.length c_out∧g 7 = .int .i64 (j:Int)∧OwnG w0 27 elI (.slice p_out out.length c_out) out L_out)∧M=(L_out++[])) ((last+1).toNat+1) ?start ?round
  case start=>exact ⟨_,s0,([]:List I),0,none,0,[],rfl,o1_,o1_,⟨rfl,rfl,OwnG.nil⟩,rfl⟩
  case round =>
   rintro nn g M ⟨out,j,p_out,c_out,L_out,hT1,hq1,hinv1,⟨hg6,hg7,hO_out⟩,rfl⟩;obtain ⟨k1,rfl⟩:∃ m,nn=m+1:=⟨nn - 1,by omega⟩;refine gS2 hg6 hg7 ?_;clear hg6 hg7;have hm_out:=OwnG.max hO_out;refine go6 ?_;refine aQ _ O (fun h35=>?_) (fun h35=>?_)
   ·have ph35:=of_decide_eq_true h35;refine go7 ?_;refine sQ (aW (v':=.pointer (some (slb (.slice p_l l.length c_l) (j*18+0)))) (iT (e:=elI) (l:=l) (k:=j) oL O O (SLe.sub Hl sn) o2_) O) O ?_;refine sQ (jC (e:=elI) (l:=l) (k:=j) (o:=0) tyT O (SLe.sub Hl sn) (cP I0 o2_) O) O ?_;refine aZ O (eK [[pI (l.getD j I0)]] [pI (l.getD j I0)] zO kF nB O dd_ O O ⟨rfl,rfl,rfl,trivial⟩ O (fun b36 hb36=>aZ O (nX (e:=elI) (l:=out) (m:=[(l.getD j I0)]) 68 zO (by kernel_rfl) dd_ O O hO_out (SLe.lit (e:=elI) (l:=[(l.getD j I0)]) m0 O (Nat.le_of_ble_eq_true O) O) (bT oT) (by simp only [List.length_append,List.length_cons,List.length_nil];omega) dd_ (fun p37 c38 L39 hO40=>?_))));refine go4 ?_;refine sWi (((j+1):Nat):Int) O (go2 ?_);refine ⟨pp_,_,_,(sA (sd s0)),(Nat.lt_succ_self _),(out++[(l.getD j I0)]),(j+1),p37,c38,L39,(by exact (hT1.symm.trans (Eq.symm (aY h35 O))).symm),(Nat.lt_of_lt_of_le o1_ (Nat.le_of_lt_succ hq1)),o1_,⟨rfl,rfl,hO40⟩,rfl⟩
   have ph35:=of_decide_eq_false h35;refine go_ ?_;refine hK_u28 _ _ pp_ ⟨_,s0,out,j,p_out,c_out,L_out,(by exact hT1.symm.trans (Eq.symm (aT h35 O))),⟨rfl,rfl,hO_out⟩,rfl⟩
 rintro g M ⟨out,j,p_out,c_out,L_out,hCu28,⟨hg6,hg7,hO_out⟩,rfl⟩;refine gS2 hg6 hg7 ?_;clear hg6 hg7;have hm_out:=OwnG.max hO_out;refine go5 ?_;refine rt1 ?_
 have hE:(out:(List I))=(dC l):=by exact trs (Eq.symm (smS hCu1)) (aT h23 (trs (Eq.symm (apS hCu28)) O))
 rw [← hE];exact ⟨_,rfl,⟨L_out,lZ,hO_out⟩⟩
theorem yH (vl:Value) (l:(List W)) (w:World) (hl:Slr w elW vl l) (hpre:l.length≤200) :
    Calls prog 86 [vl].toArray w (fun e w'=>∃ v,e = .returned (v)∧Ext w w'∧Slo w.heap.size w' 27 elI v (gR l)):=by
 obtain ⟨p_l,c_l,rfl⟩:=hl.form;refine eX (n:=21) (fun v=>v) func86 O O zz_ ?_;obtain ⟨w0,rfl⟩:=nm w;have Hl:=hl.old;have hm_l:=hl.max;refine giI ?_;refine o2 ?_;refine gJ3 (rg [] 3 16) (fun g M=>∃ (out:List I) (i:Nat) (p_out:Option Addr) (c_out:Nat) (L_out:List Blk),(jL l (l.length+1) ([]:List I) 0)=(out,i)∧(out.length≤200)∧(g 3 = .slice p_out out.length c_out∧g 4 = .int .i64 (i:Int)∧OwnG w0 27 elI (.slice p_out out.length c_out) out L_out)∧M=(L_out++[])) (fun K_u1 hK_u1=>?_) ?_
 ·refine go_ ?_;refine bP (rg [] 3 16) (fun g nn M=>∃ (out:List I) (i:Nat) (p_out:Option Addr) (c_out:Nat) (L_out:List Blk),(jL l nn out i)=(jL l (l.length+1) ([]:List I) 0)∧l.length - i<nn∧(i≤l.length∧out.length=i)∧(g 3 = .slice p_out out.length c_out∧g 4 = .int .i64 (i:Int)∧OwnG w0 27 elI (.slice p_out out.length c_out) out L_out)∧M=(L_out++[])) (l.length+1) ?start ?round
  case start=>exact ⟨_,s0,([]:List I),0,none,0,[],rfl,o1_,o1_,⟨rfl,rfl,OwnG.nil⟩,rfl⟩
  case round =>
   rintro nn g M ⟨out,i,p_out,c_out,L_out,hT0,hq0,hinv0,⟨hg3,hg4,hO_out⟩,rfl⟩;obtain ⟨k0,rfl⟩:∃ m,nn=m+1:=⟨nn - 1,by omega⟩;refine gS2 hg3 hg4 ?_;clear hg3 hg4;have hm_out:=OwnG.max hO_out;refine go4 ?_;refine sQ (dJ jQ O (SLe.sub Hl sn)) O (go2 ?_);refine aQ _ O (fun h8=>?_) (fun h8=>?_)
   ·have ph8:=of_decide_eq_true h8;refine go7 ?_;refine sQ (aW (v':=.pointer (some (slb (.slice p_l l.length c_l) (i*1+0)))) (iT (e:=elW) (l:=l) (k:=i) jQ O O (SLe.sub Hl sn) o2_) O) O ?_;refine sQ (sM (u:=.int .i64 ((l.getD i W.z).1)) (e:=elW) (l:=l) (k:=i) (o:=0) tyT O (SLe.sub Hl sn) (cP W.z o2_) O) O ?_;refine sC (AV [pI (E (Z.of (l.getD i W.z).1))]) aM (e9 (l.getD i W.z).1 (l.getD i W.z).2) O O O (aZ O (eK [[pI (E (Z.of (l.getD i W.z).1))]] [pI (E (Z.of (l.getD i W.z).1))] nC kF nB O dd_ O O ⟨rfl,rfl,rfl,trivial⟩ O (fun b9 hb9=>aZ O (nX (e:=elI) (l:=out) (m:=[(E (Z.of (l.getD i W.z).1))]) 68 nC (by kernel_rfl) dd_ O O hO_out (SLe.lit (e:=elI) (l:=[(E (Z.of (l.getD i W.z).1))]) m0 O (Nat.le_of_ble_eq_true O) O) (bT oT) (by simp only [List.length_append,List.length_cons,List.length_nil];omega) dd_ (fun p10 c11 L12 hO13=>?_)))));refine go4 ?_;refine sWi (((i+1):Nat):Int) O (go2 ?_);refine ⟨pp_,_,_,(sA (sd s0)),(Nat.lt_succ_self _),(out++[(E (Z.of (l.getD i W.z).1))]),(i+1),p10,c11,L12,(by exact (hT0.symm.trans (Eq.symm (aY h8 O))).symm),(Nat.lt_of_lt_of_le o1_ (Nat.le_of_lt_succ hq0)),o1_,⟨rfl,rfl,hO13⟩,rfl⟩
   have ph8:=of_decide_eq_false h8;refine go_ ?_;refine hK_u1 _ _ pp_ ⟨_,s0,out,i,p_out,c_out,L_out,(by exact hT0.symm.trans (Eq.symm (aT h8 O))),o1_,⟨rfl,rfl,hO_out⟩,rfl⟩
 rintro g M ⟨out,i,p_out,c_out,L_out,hCu1,hPu1,⟨hg3,hg4,hO_out⟩,rfl⟩;refine gS2 hg3 hg4 ?_;clear hg3 hg4;have hm_out:=OwnG.max hO_out;refine go2 ?_;refine aZ O (cK (E:=27) (e:=elI) (l:=(dC out)) (fun v=>v) aM O (fun w hw=>qY _ out w (aO hw hO_out lZ) oo_) (fun p14 c15 L16 hF17=>?_));have hb18:=(qX out);refine go3 ?_;refine rt1 ?_
 have hE:((dC out):(List I))=(gR l):=by exact (by unfold gR;exact trs (Eq.symm (apS hCu1)) O)
 rw [← hE];exact ⟨_,rfl,⟨L16,lZ,hF17⟩⟩
theorem lD (vp:Value) (p:(List I)) (w:World) (hp:Slr w elI vp p) :
    Calls prog 27 [vp].toArray w (fun e w'=>e = .returned (.bool (cL p))∧Ext w w'):=by
 obtain ⟨p_p,c_p,rfl⟩:=hp.form;refine cQ (N:=18) func27 O O zz_ ?_;obtain ⟨w0,rfl⟩:=nm w;have Hp:=hp.old;have hm_p:=hp.max;refine giI ?_;refine go7 ?_;refine gJ3 (rg [] 2 16) (fun g M=>∃ (i:Nat),(eW p (p.length+1) 0) = .inl i∧(g 3 = .int .i64 (i:Int))∧M=[]) (fun K_u1 hK_u1=>?_) ?_
 ·refine go_ ?_;refine bP (rg [] 2 16) (fun g nn M=>∃ (i:Nat),(eW p nn i)=(eW p (p.length+1) 0)∧p.length - i<nn∧(i≤p.length)∧(g 3 = .int .i64 (i:Int))∧M=[]) (p.length+1) ?start ?round
  case start=>exact ⟨_,s0,0,rfl,o1_,o1_,rfl,rfl⟩
  case round =>
   rintro nn g M ⟨i,hT0,hq0,hinv0,hg3,rfl⟩;obtain ⟨k0,rfl⟩:∃ m,nn=m+1:=⟨nn - 1,by omega⟩;refine gS1 hg3 ?_;clear hg3;refine go4 ?_;refine sQ (dJ dY O (SLe.sub Hp sn)) O (go2 ?_);refine aQ _ O (fun h6=>?_) (fun h6=>?_)
   ·have ph6:=of_decide_eq_true h6;refine go6 ?_;refine sQ (aW (v':=.pointer (some (slb (.slice p_p p.length c_p) (i*18+0)))) (iT (e:=elI) (l:=p) (k:=i) dY O O (SLe.sub Hp sn) o2_) O) O ?_;refine sQ (jC (e:=elI) (l:=p) (k:=i) (o:=0) tyT O (SLe.sub Hp sn) (cP I0 o2_) O) O ?_;refine sQ (bR aM (lM (p.getD i I0)) O) O (go6 ?_);rcases bt (e8 (p.getD i I0)) with h7|h7
    ·refine W_f (iI h7) O (go3 ?_);refine sWi (((i+1):Nat):Int) O (go2 ?_);refine ⟨pp_,_,_,s0,(Nat.lt_succ_self _),(i+1),(by exact (hT0.symm.trans (Eq.symm (aY h6 (aY h7 O)))).symm),(Nat.lt_of_lt_of_le o1_ (Nat.le_of_lt_succ hq0)),o1_,rfl,rfl⟩
    refine W_t (iG h7) O (go4 ?_);refine rt1 ?_;exact congrArg vS0 (show _=(cL p) from (u7 O (hT0.symm.trans (Eq.symm (aY h6 (aT h7 O))))))
   have ph6:=of_decide_eq_false h6;refine go_ ?_;refine hK_u1 _ _ pp_ ⟨_,s0,i,(by exact hT0.symm.trans (Eq.symm (aT h6 O))),rfl,rfl⟩
 rintro g M ⟨i,hCu1,hg3,rfl⟩;refine gS1 hg3 ?_;clear hg3;refine go4 ?_;refine rt1 ?_;exact congrArg vS0 (show _=(cL p) from trs (Eq.symm (smS hCu1)) O)
theorem mB (vp:Value) (p:(List I)) (vq:Value) (q:(List I)) (w:World) (hp:Slr w elI vp p) (hq:Slr w elI vq q) (hpre:p.length≤100∧q.length≤100) :
    Calls prog 34 [vp,vq].toArray w (fun e w'=>∃ v,e = .returned (v)∧Ext w w'∧Slo w.heap.size w' 27 elI v (cZ p q)):=by
 obtain ⟨p_p,c_p,rfl⟩:=hp.form;obtain ⟨p_q,c_q,rfl⟩:=hq.form;refine eX (n:=71) (fun v=>v) func34 O O zz_ ?_;obtain ⟨w0,rfl⟩:=nm w;have Hp:=hp.old;have hm_p:=hp.max;have Hq:=hq.old;have hm_q:=hq.max;refine giI ?_;refine go4 ?_;refine gJv [9,10,11,12,13,14] [(14,.bool ((cL p)||(cL q)))] (fun K2 J2=>?_) ?_
 ·refine go2 ?_;refine sFc (.bool (cL p)) O (c1_ (lD _ p) Hp sn) O O ?_;refine sBB O (fun h2=>?_) (fun h2=>?_)
  ·refine go4 ?_;refine J2 _ _ pp_ s0 (bH (oI h2))
  refine go_ ?_;refine sFc (.bool (cL q)) O (c1_ (lD _ q) Hq sn) O O (go2 ?_);refine J2 _ _ pp_ s0 (bH (nS h2 O))
 intro g3;refine aQ _ O (fun h4=>?_) (fun h4=>?_)
 ·refine go_ ?_;refine aZ O (cK (E:=27) (e:=elI) (l:=F_skewbackref08_bad) (fun v=>v) aM O (fun w hw=>n9  w) (fun p5 c6 L7 hF8=>go3 ?_));refine rt1 ?_
  have hE:(F_skewbackref08_bad:(List I))=(cZ p q):=by exact aY h4 O
  rw [← hE];exact ⟨_,rfl,⟨L7,lZ,hF8⟩⟩
 refine go2 ?_;refine gJv (rg [] 16 8) [(23,.bool (((p.length:Int)==0)||((q.length:Int)==0)))] (fun K4 J4=>?_) ?_
 ·refine go2 ?_;refine sQ (dJ dY O (SLe.sub Hp sn)) O (go_ ?_);refine sBB O (fun h10=>?_) (fun h10=>?_)
  ·have ph10:=sJ h10;refine go5 ?_;refine J4 _ _ pp_ s0 (bH (oI h10))
  have ph10:=mQ h10;refine go_ ?_;refine sQ (dJ dY O (SLe.sub Hq sn)) O (go3 ?_);refine J4 _ _ pp_ s0 (bH (nS h10 O))
 intro g11;refine aQ _ O (fun h12=>?_) (fun h12=>?_)
 ·refine go4 ?_;refine rt1 ?_
  have hE:(([]:List I):(List I))=(cZ p q):=by exact aT h4 (aY h12 O)
  rw [← hE];exact ⟨_,rfl,⟨[],sn,OwnG.nil⟩⟩
 have ph13:=mQ (Bool.or_eq_false_iff.1 h12).1;have ph14:=mQ (Bool.or_eq_false_iff.1 h12).2;refine go8 ?_;refine gJ3 (rg [5,6,7,8] 24 45) (fun g M=>∃ (out:List I) (k:Nat) (p_out:Option Addr) (c_out:Nat) (L_out:List Blk),(fG p q (p.length+q.length) ([]:List I) 0)=(out,k)∧(out.length≤200)∧(g 5 = .slice p_out out.length c_out∧g 6 = .int .i64 (k:Int)∧OwnG w0 27 elI (.slice p_out out.length c_out) out L_out)∧M=(L_out++[])) (fun K_u15 hK_u15=>?_) ?_
 ·refine go_ ?_;refine bP (rg [5,6,7,8] 24 45) (fun g nn M=>∃ (out:List I) (k:Nat) (p_out:Option Addr) (c_out:Nat) (L_out:List Blk),(fG p q nn out k)=(fG p q (p.length+q.length) ([]:List I) 0)∧p.length+q.length - 1 - k<nn∧(k≤p.length+q.length - 1∧out.length=k)∧(g 5 = .slice p_out out.length c_out∧g 6 = .int .i64 (k:Int)∧OwnG w0 27 elI (.slice p_out out.length c_out) out L_out)∧M=(L_out++[])) (p.length+q.length) ?start ?round
  case start=>exact ⟨_,s0,([]:List I),0,none,0,[],rfl,o1_,o1_,⟨rfl,rfl,OwnG.nil⟩,rfl⟩
  case round =>
   rintro nn g M ⟨out,k,p_out,c_out,L_out,hT0,hq0,hinv0,⟨hg5,hg6,hO_out⟩,rfl⟩;obtain ⟨k0,rfl⟩:∃ m,nn=m+1:=⟨nn - 1,by omega⟩;refine gS2 hg5 hg6 ?_;clear hg5 hg6;have hm_out:=OwnG.max hO_out;refine go4 ?_;refine sQ (dJ dY O (SLe.sub Hp sn)) O (go_ ?_);refine sQ (dJ dY O (SLe.sub Hq sn)) O (sWi (((p.length+(q).length):Nat):Int) O (sWi ((((p.length+(q).length):Nat):Int) - 1) O (go2 ?_)));refine aQ _ O (fun h45=>?_) (fun h45=>?_)
   ·have ph45:=of_decide_eq_true h45;refine go6 ?_;intro b46 hb46;refine go6 ?_;refine gJ3 (rg [8] 35 30) (fun g M=>∃ (i:Nat) (mb46:I),(cF p q out k (k+2) 0 I0)=(i,mb46)∧(g 8 = .int .i64 (i:Int))∧M=(⟨b46,27,aX [pI mb46]⟩::(L_out++[]))) (fun K_u47 hK_u47=>?_) ?_
    ·refine go_ ?_;refine bP (rg [8] 35 30) (fun g nn M=>∃ (i:Nat) (mb46:I),(cF p q out k nn i mb46)=(cF p q out k (k+2) 0 I0)∧k+1 - i<nn∧(i≤k+1)∧(g 8 = .int .i64 (i:Int))∧M=(⟨b46,27,aX [pI mb46]⟩::(L_out++[]))) (k+2) ?start ?round
     case start=>exact ⟨_,s0,0,I0,rfl,o1_,o1_,rfl,rfl⟩
     case round =>
      rintro nn g M ⟨i,mb46,hT1,hq1,hinv1,hg8,rfl⟩;obtain ⟨k1,rfl⟩:∃ m,nn=m+1:=⟨nn - 1,by omega⟩;refine gS1 hg8 ?_;clear hg8;refine go6 ?_;refine aQ _ O (fun h62=>?_) (fun h62=>?_)
      ·have ph62:=of_decide_eq_true h62;refine go3 ?_;refine gJv (rg [] 40 12) [(51,.bool (decide ((i:Int)<(p.length:Int))&&decide (((k:Int) - (i:Int))<(q.length:Int))))] (fun K29 J29=>?_) ?_
       ·refine go3 ?_;refine sQ (dJ dY O (SLe.sub Hp sn)) O (go_ ?_);refine sBB O (fun h64=>?_) (fun h64=>?_)
        ·have ph64:=of_decide_eq_true h64;refine go2 ?_;refine sWi ((k:Int) - (i:Int)) O (go_ ?_);refine sQ (dJ dY O (SLe.sub Hq sn)) O (go3 ?_);refine J29 _ _ pp_ s0 (bH (cG h64 O))
        have ph64:=of_decide_eq_false h64;refine go8 ?_;refine J29 _ _ pp_ s0 (bH (hJ h64))
       intro g65;refine aQ _ O (fun h66=>?_) (fun h66=>?_)
       ·have ph67:=of_decide_eq_true (Bool.and_eq_true_iff.1 h66).1;have ph68:=of_decide_eq_true (Bool.and_eq_true_iff.1 h66).2;refine qH (sd s0) 14 [13] [13] (go3 ?_);refine pQ O (aW (v':=.pointer (some (slb (.slice p_p p.length c_p) (i*18+0)))) (iT (e:=elI) (l:=p) (k:=i) dY O O (SLe.sub Hp sn) o2_) O) ?_;refine pQ O (jC (e:=elI) (l:=p) (k:=i) (o:=0) tyT O (SLe.sub Hp sn) (cP I0 o2_) O) ?_;refine go3 ?_;refine pV (.int .i64 ((k:Int) - (i:Int))) O wxo (pQ O (aW (v':=.pointer (some (slb (.slice p_q q.length c_q) ((k - i)*18+0)))) (lV (e:=elI) (l:=q) (k:=(k - i)) dY O O oo_ (SLe.sub Hq sn) o2_) O) ?_);refine pQ O (jC (e:=elI) (l:=q) (k:=(k - i)) (o:=0) tyT O (SLe.sub Hq sn) (cP I0 o2_) O) ?_;refine pC (AV [pI (E (Z.mul (p.getD i I0).dec (q.getD (k - i) I0).dec))]) aM (l8 (p.getD i I0).1 (q.getD (k - i) I0).1 (p.getD i I0).2 (q.getD (k - i) I0).2) O O O (pC (AV [pI (E (Z.add mb46.dec (Z.mul (p.getD i I0).dec (q.getD (k - i) I0).dec)))]) aM (rG mb46.1 (E (Z.mul (p.getD i I0).dec (q.getD (k - i) I0).dec)).1 mb46.2 (E (Z.mul (p.getD i I0).dec (q.getD (k - i) I0).dec)).2) O O (cg2 (fun p q=>AV [pI (E (Z.add p q))]) O (cJ _)) (go4 ?_));refine sWi (((i+1):Nat):Int) O (go2 ?_);refine ⟨pp_,_,_,s0,(Nat.lt_succ_self _),(i+1),(E (Z.add mb46.dec (Z.mul (p.getD i I0).dec (q.getD (k - i) I0).dec))),(by exact (hT1.symm.trans (Eq.symm (aY h62 (aY h66 O)))).symm),(Nat.lt_of_lt_of_le o1_ (Nat.le_of_lt_succ hq1)),o1_,rfl,rfl⟩
       refine go3 ?_;refine sWi (((i+1):Nat):Int) O (go2 ?_);refine ⟨pp_,_,_,s0,(Nat.lt_succ_self _),(i+1),mb46,(by exact (hT1.symm.trans (Eq.symm (aY h62 (aT h66 O)))).symm),(Nat.lt_of_lt_of_le o1_ (Nat.le_of_lt_succ hq1)),o1_,rfl,rfl⟩
      have ph62:=of_decide_eq_false h62;refine go_ ?_;refine hK_u47 _ _ pp_ ⟨_,s0,i,mb46,(by exact hT1.symm.trans (Eq.symm (aT h62 O))),rfl,rfl⟩
    rintro g M ⟨i,mb46,hCu47,hg8,rfl⟩;refine gS1 hg8 ?_;clear hg8;refine go3 ?_;refine aZ O (eK [[pI mb46]] [pI mb46] nC kF nB O dd_ O O ⟨rfl,rfl,rfl,trivial⟩ O (fun b69 hb69=>aZ O (nX (e:=elI) (l:=out) (m:=[mb46]) 68 nC (by kernel_rfl) dd_ O O hO_out (SLe.lit (e:=elI) (l:=[mb46]) m0 O (Nat.le_of_ble_eq_true O) O) (bT (bT oT)) (by simp only [List.length_append,List.length_cons,List.length_nil];omega) dd_ (fun p70 c71 L72 hO73=>?_))));refine go4 ?_;refine sWi (((k+1):Nat):Int) O (go2 ?_);refine ⟨pp_,_,_,(sA (sd (sd s0))),(Nat.lt_succ_self _),(out++[mb46]),(k+1),p70,c71,L72,(by exact (hT0.symm.trans (Eq.symm (aY h45 (trs (Eq.symm (apS hCu47)) O)))).symm),(Nat.lt_of_lt_of_le o1_ (Nat.le_of_lt_succ hq0)),o1_,⟨rfl,rfl,hO73⟩,rfl⟩
   have ph45:=of_decide_eq_false h45;refine go_ ?_;refine hK_u15 _ _ pp_ ⟨_,s0,out,k,p_out,c_out,L_out,(by exact hT0.symm.trans (Eq.symm (aT h45 O))),o1_,⟨rfl,rfl,hO_out⟩,rfl⟩
 rintro g M ⟨out,k,p_out,c_out,L_out,hCu15,hPu15,⟨hg5,hg6,hO_out⟩,rfl⟩;refine gS2 hg5 hg6 ?_;clear hg5 hg6;have hm_out:=OwnG.max hO_out;refine go2 ?_;refine aZ O (cK (E:=27) (e:=elI) (l:=(dC out)) (fun v=>v) aM O (fun w hw=>qY _ out w (aO hw hO_out lZ) oo_) (fun p74 c75 L76 hF77=>?_));have hb78:=(qX out);refine go3 ?_;refine rt1 ?_
 have hE:((dC out):(List I))=(cZ p q):=by exact aT h4 (aT h12 (trs (Eq.symm (apS hCu15)) O))
 rw [← hE];exact ⟨_,rfl,⟨L76,lZ,hF77⟩⟩
theorem vT (n:I) (k:Int) (w:World)  (hpre:k≤200) :
    Calls prog 134 [AV [pI n],.int .i64 k].toArray w (fun e w'=>e = .returned (AV [pI (gI n k)])∧Ext w w'):=by
 refine cQ (N:=17) func134 O O zz_ ?_;obtain ⟨w0,rfl⟩:=nm w;refine giI ?_;refine go2 ?_;intro b1 hb1;refine go_ ?_;intro b2 hb2;refine go2 ?_;refine sC (AV [pI (E (Z.of 1))]) aM (e9 (wl 1).1 (wl 1).2) O O O ?_;refine go_ ?_;intro b3 hb3;refine go6 ?_;refine gJ3 (rg [6] 8 8) (fun g M=>∃ (i:Nat) (mb3:I),(fN n k (k.toNat+1) 0 (E (Z.of 1)))=(i,mb3)∧(g 6 = .int .i64 (i:Int))∧M=[⟨b3,27,aX [pI mb3]⟩,⟨b2,27,aX [pI I0]⟩,⟨b1,27,aX [pI n]⟩]) (fun K_u4 hK_u4=>?_) ?_
 ·refine go_ ?_;refine bP (rg [6] 8 8) (fun g nn M=>∃ (i:Nat) (mb3:I),(fN n k nn i mb3)=(fN n k (k.toNat+1) 0 (E (Z.of 1)))∧k.toNat - i<nn∧(i≤k.toNat)∧(g 6 = .int .i64 (i:Int))∧M=[⟨b3,27,aX [pI mb3]⟩,⟨b2,27,aX [pI I0]⟩,⟨b1,27,aX [pI n]⟩]) (k.toNat+1) ?start ?round
  case start=>exact ⟨_,s0,0,(E (Z.of 1)),rfl,o1_,o1_,rfl,rfl⟩
  case round =>
   rintro nn g M ⟨i,mb3,hT0,hq0,hinv0,hg6,rfl⟩;obtain ⟨k0,rfl⟩:∃ m,nn=m+1:=⟨nn - 1,by omega⟩;refine gS1 hg6 ?_;clear hg6;refine go6 ?_;refine aQ _ O (fun h7=>?_) (fun h7=>?_)
   ·have ph7:=of_decide_eq_true h7;refine go6 ?_;refine sC (AV [pI (E (Z.mul mb3.dec n.dec))]) aM (l8 mb3.1 n.1 mb3.2 n.2) O O O (go4 ?_);refine sWi (((i+1):Nat):Int) O (go2 ?_);refine ⟨pp_,_,_,s0,(Nat.lt_succ_self _),(i+1),(E (Z.mul mb3.dec n.dec)),(by exact (hT0.symm.trans (Eq.symm (aY h7 O))).symm),(Nat.lt_of_lt_of_le o1_ (Nat.le_of_lt_succ hq0)),o1_,rfl,rfl⟩
   have ph7:=of_decide_eq_false h7;refine go_ ?_;refine hK_u4 _ _ pp_ ⟨_,s0,i,mb3,(by exact hT0.symm.trans (Eq.symm (aT h7 O))),rfl,rfl⟩
 rintro g M ⟨i,mb3,hCu4,hg6,rfl⟩;refine gS1 hg6 ?_;clear hg6;refine go5 ?_;refine rtX O (iJ O m1 tyT O) ?_;exact congrArg vS2 (show _=(gI n k) from (by unfold gI;exact trs (Eq.symm (apS hCu4)) O))
theorem wV (a:Rt) :
    Ret prog 133 [AV [pI a.n,pI a.d]] (.bool (iZ a)):=by
 refine bU (N:=26) func133 O O zz_ (fun w0=>?_);refine giI ?_;refine go2 ?_;intro b1 hb1;refine go3 ?_;refine gJv (rg [] 3 16) [(18,.bool (!(e8 a.n)||(!(e8 a.d)||decide ((Z.signW a.d.dec).1≤0))))] (fun K2 J2=>?_) ?_
 ·refine go3 ?_;refine sQ (bR aM (lM a.n) O) O (go_ ?_);rcases bt (e8 a.n) with h4|h4
  ·refine sB (iI h4) O (go2 ?_);refine sQ (bR aM (lM a.d) O) O (go2 ?_);rcases bt (e8 a.d) with h5|h5
   ·refine sB (iI h5) O (go2 ?_);refine sC (.int .i64 ((Z.signW a.d.dec).1)) aM (iE a.d.1 a.d.2) O O O (go3 ?_);refine J2 _ _ pp_ s0 (bH (oB h4 (oB h5 O)))
   refine sB (iG h5) O (go6 ?_);refine J2 _ _ pp_ s0 (bH (oB h4 (pS h5)))
  refine sB (iG h4) O (T5 ?_);refine J2 _ _ pp_ s0 (bH (pS h4))
 intro g6;refine aQ _ O (fun h7=>?_) (fun h7=>?_)
 ·refine go4 ?_;refine rt1 ?_;exact congrArg vS0 (show _=(iZ a) from aY h7 O)
 refine go6 ?_;refine sC (AV [pI (E (Z.gcd a.n.dec a.d.dec))]) aM (n7 a.n.1 a.d.1 a.n.2 a.d.2) O O O (sC (AV [pI (E (Z.of 1))]) aM (e9 (wl 1).1 (wl 1).2) O O O ?_);refine sQ (wP (r:=decide ((E (Z.gcd a.n.dec a.d.dec))=(E (Z.of 1)))) O O (nJ 8 dd_ RI R6 (o3 kN) (o3 kN) (uR rF))) O (go3 ?_);refine rt1 ?_;exact congrArg vS0 (show _=(iZ a) from aT h7 O)
theorem vV (vp:Value) (p:(List I)) (x:Rt) (w:World) (hp:Slr w elI vp p) (hpre:p.length≤100) :
    Calls prog 73 [vp,AV [pI x.n,pI x.d]].toArray w (fun e w'=>e = .returned (AV [pI (dR p x)])∧Ext w w'):=by
 obtain ⟨p_p,c_p,rfl⟩:=hp.form;refine cQ (N:=42) func73 O O zz_ ?_;obtain ⟨w0,rfl⟩:=nm w;have Hp:=hp.old;have hm_p:=hp.max;refine giI ?_;refine go2 ?_;intro b1 hb1;refine go_ ?_;intro b2 hb2;refine go2 ?_;refine gJv [7,8,9,10,11,12,13] [(13,.bool ((cL p)||(!(iZ x))))] (fun K2 J2=>?_) ?_
 ·refine go2 ?_;refine sFc (.bool (cL p)) O (c1_ (lD _ p) Hp sn) O O ?_;refine sBB O (fun h4=>?_) (fun h4=>?_)
  ·refine go5 ?_;refine J2 _ _ pp_ s0 (bH (oI h4))
  refine go_ ?_;refine sQ (bR aM (wV x) O) O (go3 ?_);refine J2 _ _ pp_ s0 (bH (nS h4 O))
 intro g5;refine aQ _ O (fun h6=>?_) (fun h6=>?_)
 ·refine go_ ?_;refine sC (AV [pI (E Z.bad)]) aM dV O O O (go3 ?_);refine rtX O (iJ O m0 tyT O) ?_;exact congrArg vS2 (show _=(dR p x) from aY h6 O)
 refine go4 ?_;intro b7 hb7;refine go5 ?_;refine sQ (dJ dY O (SLe.sub Hp sn)) O (sWi ((p.length:Int) - 1) O (go2 ?_));refine gJ3 (rg [6] 19 22) (fun g M=>∃ (i:Int) (mb7:I),(fO p x (p.length+1) ((p.length:Int) - 1) I0)=(i,mb7)∧(g 6 = .int .i64 i)∧M=[⟨b7,27,aX [pI mb7]⟩,⟨b2,27,aX [pI I0]⟩,⟨b1,29,aX [pI x.n,pI x.d]⟩]) (fun K_u8 hK_u8=>?_) ?_
 ·refine go_ ?_;refine bP (rg [6] 19 22) (fun g nn M=>∃ (i:Int) (mb7:I),(fO p x nn i mb7)=(fO p x (p.length+1) ((p.length:Int) - 1) I0)∧(i+1).toNat<nn∧(i<(p.length:Int)∧-1≤i)∧(g 6 = .int .i64 i)∧M=[⟨b7,27,aX [pI mb7]⟩,⟨b2,27,aX [pI I0]⟩,⟨b1,29,aX [pI x.n,pI x.d]⟩]) (p.length+1) ?start ?round
  case start=>exact ⟨_,s0,((p.length:Int) - 1),I0,rfl,o1_,o1_,rfl,rfl⟩
  case round =>
   rintro nn g M ⟨i,mb7,hT0,hq0,hinv0,hg6,rfl⟩;obtain ⟨k0,rfl⟩:∃ m,nn=m+1:=⟨nn - 1,by omega⟩;refine gS1 hg6 ?_;clear hg6;refine go5 ?_;refine aQ _ O (fun h13=>?_) (fun h13=>?_)
   ·have ph13:=of_decide_eq_true h13;refine go3 ?_;refine gdr (sd s0) [0,4,8,12,16,20,24,28,32,36,40,44,48,52,56,60,64,68,73] [18] mix (by kernel_rfl) (go3 ?_);refine pC (AV [pI (E (Z.mul mb7.dec x.n.dec))]) aM (l8 mb7.1 x.n.1 mb7.2 x.n.2) O O O (go2 ?_);refine pQ O (aW (v':=.pointer (some (slb (.slice p_p p.length c_p) ((i.toNat)*18+0)))) (lV (e:=elI) (l:=p) (k:=(i).toNat) dY O O oo_ (SLe.sub Hp sn) o2_) O) ?_;refine pQ O (jC (e:=elI) (l:=p) (k:=(i).toNat) (o:=0) tyT O (SLe.sub Hp sn) (cP I0 o2_) O) ?_;refine go3 ?_;refine pQ O (dJ dY O (SLe.sub Hp sn)) (pV (.int .i64 ((p.length:Int) - 1)) O wxo (go_ ?_));refine pV (.int .i64 (((p.length:Int) - 1) - i)) O wxo (pQ O (aW (v':=AV [pI (gI x.d (((p.length:Int) - 1) - i))]) (eH aM O (fun w hw=>vT x.d (((p.length:Int) - 1) - i) w oo_)) O) ?_);obtain ⟨r14,hr14⟩:=nm ((E (Z.mul (p.getD (i.toNat) I0).dec (gI x.d (((p.length:Int) - 1) - i)).dec)):I);refine pC (AV [pI r14]) aM (l8 (p.getD (i.toNat) I0).1 (gI x.d (((p.length:Int) - 1) - i)).1 (p.getD (i.toNat) I0).2 (gI x.d (((p.length:Int) - 1) - i)).2) O O (by subst hr14;rfl) (pC (AV [pI (E (Z.add (Z.mul mb7.dec x.n.dec) r14.dec))]) aM (rG (E (Z.mul mb7.dec x.n.dec)).1 r14.1 (E (Z.mul mb7.dec x.n.dec)).2 r14.2) O O (cg2 (fun p q=>AV [pI (E (Z.add p q))]) (cJ _) O) (go4 ?_));refine sWi (i - 1) O (go2 ?_);refine ⟨pp_,_,_,s0,(Nat.lt_succ_self _),(i - 1),(E (Z.add (Z.mul mb7.dec x.n.dec) r14.dec)),(by subst hr14;exact (hT0.symm.trans (Eq.symm (aY h13 O))).symm),(Nat.lt_of_lt_of_le o1_ (Nat.le_of_lt_succ hq0)),o1_,rfl,rfl⟩
   have ph13:=of_decide_eq_false h13;refine go_ ?_;refine hK_u8 _ _ pp_ ⟨_,s0,i,mb7,(by exact hT0.symm.trans (Eq.symm (aT h13 O))),rfl,rfl⟩
 rintro g M ⟨i,mb7,hCu8,hg6,rfl⟩;refine gS1 hg6 ?_;clear hg6;refine go5 ?_;refine rtX O (iJ O m1 tyT O) ?_;exact congrArg vS2 (show _=(dR p x) from aT h6 (trs (Eq.symm (apS hCu8)) O))
theorem wU (vp:Value) (p:(List I)) (x:Rt) (w:World) (hp:Slr w elI vp p) (hpre:p.length≤100) :
   Calls prog 31 [vp,AV [pI x.n,pI x.d]].toArray w (fun e w'=>e = .returned (AV [cw (((eA p x).s).1),cb ((eA p x).ok)])∧Ext w w'):=by
 obtain ⟨p_p,c_p,rfl⟩:=hp.form;refine cQ (N:=15) func31 O O zz_ ?_;obtain ⟨w0,rfl⟩:=nm w;have Hp:=hp.old;have hm_p:=hp.max;refine giI ?_;refine go2 ?_;intro b1 hb1;refine go_ ?_;intro b2 hb2;refine go4 ?_;refine sFc (AV [pI (dR p x)]) O (fun w hw=>vV _ p x w (aR hw Hp sn) oo_) O O (go_ ?_);intro b3 hb3;refine go7 ?_;refine aQ _ O (fun h4=>?_) (fun h4=>?_)
 ·refine go5 ?_;refine rtX O (iJ O m1 tyT O) ?_;exact congrArg vS7 (show _=(eA p x) from aY h4 O)
 refine go3 ?_;refine sC (.int .i64 ((Z.signW (dR p x).dec).1)) aM (iE (dR p x).1 (dR p x).2) O O O (go4 ?_);refine rtX O (iJ O m1 tyT O) ?_;exact congrArg vS7 (show _=(eA p x) from aT h4 O)
theorem vU (vp:Value) (p:(List I)) (w:World) (hp:Slr w elI vp p) :
    Calls prog 74 [vp].toArray w (fun e w'=>e = .returned (.bool (eT p))∧Ext w w'):=by
 obtain ⟨p_p,c_p,rfl⟩:=hp.form;refine cQ (N:=33) func74 O O zz_ ?_;obtain ⟨w0,rfl⟩:=nm w;have Hp:=hp.old;have hm_p:=hp.max;refine giI ?_;refine go4 ?_;refine gJv (rg [] 3 10) [(12,.bool (((p.length:Int)==1)&&decide ((p.getD 0 I0)=(E Z.bad))))] (fun K2 J2=>?_) ?_
 ·refine qH sn 10 [] [] (go_ ?_);refine pQ O (dJ dY O (SLe.sub Hp sn)) (go_ ?_);refine pBB O (fun h2=>?_) (fun h2=>?_)
  ·have ph2:=sJ h2;refine go_ ?_;refine pQ O (aW (v':=.pointer (some (slb (.slice p_p p.length c_p) (0*18+0)))) (iT (e:=elI) (l:=p) (k:=0) dY O O (SLe.sub Hp sn) o2_) O) ?_;refine pQ O (jC (e:=elI) (l:=p) (k:=0) (o:=0) tyT O (SLe.sub Hp sn) (cP I0 o2_) O) ?_;refine pC (AV [pI (E Z.bad)]) aM dV O O O ?_;refine pQ O (wP (r:=decide ((p.getD 0 I0)=(E Z.bad))) O O (nJ 8 dd_ RI R6 (o3 kN) (o3 kN) (uR rF))) (go2 ?_);refine J2 _ _ pp_ s0 (bH (cG h2 O))
  have ph2:=mQ h2;refine go7 ?_;refine J2 _ _ pp_ s0 (bH (hJ h2))
 intro g3;refine aQ _ O (fun h4=>?_) (fun h4=>?_)
 ·have ph5:=sJ (Bool.and_eq_true_iff.1 h4).1;have ph6:=of_decide_eq_true (Bool.and_eq_true_iff.1 h4).2;refine go4 ?_;refine rt1 ?_;exact congrArg vS0 (show _=(eT p) from aY h4 O)
 refine go2 ?_;refine gJv [13,14,15,16,17,18,19] [(19,.bool ((cL p)||decide (25<(p.length:Int))))] (fun K4 J4=>?_) ?_
 ·refine go2 ?_;refine sFc (.bool (cL p)) O (c1_ (lD _ p) Hp sn) O O ?_;refine sBB O (fun h8=>?_) (fun h8=>?_)
  ·refine go5 ?_;refine J4 _ _ pp_ s0 (bH (oI h8))
  refine go_ ?_;refine sQ (dJ dY O (SLe.sub Hp sn)) O (go3 ?_);refine J4 _ _ pp_ s0 (bH (nS h8 O))
 intro g9;refine aQ _ O (fun h10=>?_) (fun h10=>?_)
 ·refine go4 ?_;refine rt1 ?_;exact congrArg vS0 (show _=(eT p) from aT h4 (aY h10 O))
 have ph11:=of_decide_eq_false (Bool.or_eq_false_iff.1 h10).2;refine go_ ?_;refine gJv (rg [2] 20 13) [(2,.bool (((p.length:Int)==0)||((Z.signW (p.getD (p.length - 1) I0).dec).1 != 0)))] (fun K5 J5=>?_) ?_
 ·refine go2 ?_;refine sQ (dJ dY O (SLe.sub Hp sn)) O (go_ ?_);refine sBB O (fun h13=>?_) (fun h13=>?_)
  ·have ph13:=sJ h13;refine vL ?_;refine J5 _ _ pp_ s0 (bH (oI h13))
  have ph13:=mQ h13;refine go2 ?_;refine sQ (dJ dY O (SLe.sub Hp sn)) O (sWi ((p.length:Int) - 1) O (sQ (aW (v':=.pointer (some (slb (.slice p_p p.length c_p) ((p.length - 1)*18+0)))) (lV (e:=elI) (l:=p) (k:=(p.length - 1)) dY O O oo_ (SLe.sub Hp sn) o2_) O) O ?_));refine sQ (jC (e:=elI) (l:=p) (k:=(p.length - 1)) (o:=0) tyT O (SLe.sub Hp sn) (cP I0 o2_) O) O ?_;refine sC (.int .i64 ((Z.signW (p.getD (p.length - 1) I0).dec).1)) aM (iE (p.getD (p.length - 1) I0).1 (p.getD (p.length - 1) I0).2) O O O (go4 ?_);refine J5 _ _ pp_ s0 (bH (nS h13 O))
 intro g14;refine go_ ?_;refine rt1 ?_;exact congrArg vS0 (show _=(eT p) from aT h4 (aT h10 O))
theorem xO (vp:Value) (p:(List I)) (d:Int) (b:Int) (w:World) (hp:Slr w elI vp p) (hpre:0≤d∧d≤1000) :
    Calls prog 32 [vp,.int .i64 d,.int .i64 b].toArray w (fun e w'=>e = .returned (.bool (dZ p d b))∧Ext w w'):=by
 obtain ⟨p_p,c_p,rfl⟩:=hp.form;refine cQ (N:=31) func32 O O zz_ ?_;obtain ⟨w0,rfl⟩:=nm w;have Hp:=hp.old;have hm_p:=hp.max;refine giI ?_;refine go4 ?_;refine gJv (rg [] 8 10) [(17,.bool (!(eT p)||decide ((d+1)<(p.length:Int))))] (fun K2 J2=>?_) ?_
 ·refine go2 ?_;refine sFc (.bool (eT p)) O (c1_ (vU _ p) Hp sn) O O (go_ ?_);rcases bt (eT p) with h2|h2
  ·refine sB (iI h2) O (go_ ?_);refine sQ (dJ dY O (SLe.sub Hp sn)) O (go_ ?_);refine sWi (d+1) O (go3 ?_);refine J2 _ _ pp_ s0 (bH (oB h2 O))
  refine sB (iG h2) O (go7 ?_);refine J2 _ _ pp_ s0 (bH (pS h2))
 intro g3;refine aQ _ O (fun h4=>?_) (fun h4=>?_)
 ·refine go4 ?_;refine rt1 ?_;exact congrArg vS0 (show _=(dZ p d b) from aY h4 O)
 have ph5:=of_decide_eq_false (Bool.or_eq_false_iff.1 h4).2;refine go5 ?_;refine gJ3 (rg [6,7] 18 13) (fun g M=>∃ (i:Nat),(gL p d b (p.length+1) 0) = .inl i∧(g 7 = .int .i64 (i:Int))∧M=[]) (fun K_u6 hK_u6=>?_) ?_
 ·refine go_ ?_;refine bP (rg [6,7] 18 13) (fun g nn M=>∃ (i:Nat),(gL p d b nn i)=(gL p d b (p.length+1) 0)∧p.length - i<nn∧(i≤p.length)∧(g 7 = .int .i64 (i:Int))∧M=[]) (p.length+1) ?start ?round
  case start=>exact ⟨_,s0,0,rfl,o1_,o1_,rfl,rfl⟩
  case round =>
   rintro nn g M ⟨i,hT0,hq0,hinv0,hg7,rfl⟩;obtain ⟨k0,rfl⟩:∃ m,nn=m+1:=⟨nn - 1,by omega⟩;refine gS1 hg7 ?_;clear hg7;refine go4 ?_;refine sQ (dJ dY O (SLe.sub Hp sn)) O (go2 ?_);refine aQ _ O (fun h11=>?_) (fun h11=>?_)
   ·have ph11:=of_decide_eq_true h11;refine go6 ?_;refine sQ (aW (v':=.pointer (some (slb (.slice p_p p.length c_p) (i*18+0)))) (iT (e:=elI) (l:=p) (k:=i) dY O O (SLe.sub Hp sn) o2_) O) O ?_;refine sQ (jC (e:=elI) (l:=p) (k:=i) (o:=0) tyT O (SLe.sub Hp sn) (cP I0 o2_) O) O ?_;refine sC (.int .i64 ((Z.bitsW (p.getD i I0).dec).1)) aM (nM (p.getD i I0).1 (p.getD i I0).2) O O O (go3 ?_);refine aQ _ O (fun h12=>?_) (fun h12=>?_)
    ·have ph12:=of_decide_eq_true h12;refine go4 ?_;refine rt1 ?_;exact congrArg vS0 (show _=(dZ p d b) from aT h4 (u7 O (hT0.symm.trans (Eq.symm (aY h11 (aY h12 O))))))
    have ph12:=of_decide_eq_false h12;refine go3 ?_;refine sWi (((i+1):Nat):Int) O (go2 ?_);refine ⟨pp_,_,_,s0,(Nat.lt_succ_self _),(i+1),(by exact (hT0.symm.trans (Eq.symm (aY h11 (aT h12 O)))).symm),(Nat.lt_of_lt_of_le o1_ (Nat.le_of_lt_succ hq0)),o1_,rfl,rfl⟩
   have ph11:=of_decide_eq_false h11;refine go_ ?_;refine hK_u6 _ _ pp_ ⟨_,s0,i,(by exact hT0.symm.trans (Eq.symm (aT h11 O))),rfl,rfl⟩
 rintro g M ⟨i,hCu6,hg7,rfl⟩;refine gS1 hg7 ?_;clear hg7;refine go4 ?_;refine rt1 ?_;exact congrArg vS0 (show _=(dZ p d b) from aT h4 (trs (Eq.symm (smS hCu6)) O))
theorem dE (vl:Value) (l:(List W)) (w:World) (hl:Slr w elW vl l) (hpre:l.length≤200) :
  Calls prog 39 [vl].toArray w (fun e w'=>∃ v,e = .returned (v)∧Ext w w'∧Slo w.heap.size w' 27 elI v (aK l)):=by
 obtain ⟨p_l,c_l,rfl⟩:=hl.form;refine eX (n:=5) (fun v=>v) func39 O O zz_ ?_;obtain ⟨w0,rfl⟩:=nm w;have Hl:=hl.old;have hm_l:=hl.max;refine giI ?_;refine go5 ?_;refine aZ O (cK (E:=27) (e:=elI) (l:=(gR l)) (fun v=>v) aM O (fun w hw=>yH _ l w (aR hw Hl sn) oo_) (fun p1 c2 L3 hF4=>?_));have hb5:=(r9 l);have hr6:=(sD l);refine go3 ?_;refine rt1 ?_
 have hE:((gR l):(List I))=(aK l):=by exact rfl
 rw [← hE];exact ⟨_,rfl,⟨L3,lZ,hF4⟩⟩
theorem kY (a:W) (b:W) :
  Ret prog 41 [.int .i64 a.1,.int .i64 b.1] (AV [pI (((iY a b).lo).n),pI (((iY a b).lo).d),pI (((iY a b).hi).n),pI (((iY a b).hi).d)]):=by
 refine bU (N:=10) func41 O O zz_ (fun w0=>?_);refine giI ?_;refine go2 ?_;intro b1 hb1;refine go3 ?_;refine sQ (bR aM (i3 a) O) O (go_ ?_);refine sQ (bR aM (i3 b) O) O (go4 ?_);refine rtX O (iJ O m0 tyT O) ?_;exact (by rfl)
theorem lB (z:Zero9) :
  Ret prog 70 [AV [ci .i8 z.n,ci .i8 z.times]] (.int .i64 ((bA z).1)):=by
 refine bU (N:=10) func70 O O zz_ (fun w0=>?_);refine giI ?_;refine go2 ?_;intro b1 hb1;refine go5 ?_;refine sQ (aW (v':=.int .i64 ((W.cv z.times).1)) (dA w9 sL O) O) O (sQ (aW (v':=.int .i64 ((W.rem (W.cv z.times) (wl 3)).1)) (pT O O dd_) O) O ?_);refine sV (.int .i64 ((W.add (W.rem (W.cv z.times) (wl 3)) (wl 3)).1)) O O ?_;refine sQ (aW (v':=.int .i64 ((W.rem (W.add (W.rem (W.cv z.times) (wl 3)) (wl 3)) (wl 3)).1)) (pT O O dd_) O) O ?_;refine sV (.int .i64 ((W.add (wl 1) (W.rem (W.add (W.rem (W.cv z.times) (wl 3)) (wl 3)) (wl 3))).1)) O O ?_;refine go3 ?_;refine rt1 ?_;exact (by rfl)
end Go.Proofs.YtokjfhfiodopdaaGreat
namespace Go.Num
open Go Go.Kn
theorem US {a:Rt} (h:bX a=true):cfP (cfN a.d) a.d:=by
 unfold bX at h;simp only [Bool.and_eq_true,decide_eq_true_eq] at h;exact TV h.2.2.1
end Go.Num
namespace Go.Proofs.YtokjfhfiodopdaaGreat
open Go.Kn Go.Num Tryz
attribute [local irreducible] Go.Kn.W WL PL OpQ OpR OpS
theorem HH (a:Rt) (b:Rt) :
    Ret prog 91 [AV [pI a.n,pI a.d],AV [pI b.n,pI b.d]] (.int .i64 ((jW a b).1)):=by
 refine bU (N:=80) func91 O O zz_ (fun w0=>?_);refine giI ?_;refine go2 ?_;intro b1 hb1;refine go_ ?_;intro b2 hb2;refine go3 ?_;refine sK (sk (sk s0)) 6 [] [] (go_ ?_);refine pQ O (bR aM (kW a) O) (go_ ?_);refine pQ O (bR aM (kW b) O) (go5 ?_);refine gJv [15,16,17,18,19,20,21] [(15,.bool (!(bX a)&&(!(bX b))))] (fun K2 J2=>?_) ?_
 ·refine go3 ?_;rcases bt (bX a) with h4|h4
  ·refine sB (iI h4) O (go5 ?_);refine J2 _ _ pp_ s0 (bH (z7 h4))
  refine sB (iG h4) O (go5 ?_);refine J2 _ _ pp_ s0 (bH (qO h4 O))
 intro g5;refine aQ _ O (fun h6=>?_) (fun h6=>?_)
 ·refine go4 ?_;refine rt1 ?_;exact congrArg vS8 (show _=(jW a b) from aY h6 O)
 refine go5 ?_;rcases bt (bX a) with h7|h7
 ·refine W_f (iI h7) O (go5 ?_);rcases bt (bX b) with h8|h8
  ·refine W_f (iI h8) O (go8 ?_);refine bP (rg [7,8,9,10] 28 51) (fun g nn M=>∃ (o:W) (x:Rt) (y:Rt) (k:Nat),(g 7 = .int .i64 o.1)∧M=[⟨b2,29,aX [pI y.n,pI y.d]⟩,⟨b1,29,aX [pI x.n,pI x.d]⟩]∧nn=k∧(cf k o x.n x.d y.n y.d=cf (cfN a.d) (wl 1) a.n a.d b.n b.d∧cfP k x.d)) (cfN a.d) ?start ?round
   case start =>
    refine ⟨_,s0,(wl 1),a,b,(cfN a.d),?a7,rfl,rfl,⟨rfl,US h7⟩⟩
    case a7=>rfl
   case round =>
    rintro nn g M ⟨o,x,y,k,hg7,rfl,hmeas,hinv⟩;subst nn;refine gS1 hg7 ?_;clear hg7;obtain ⟨m,rfl⟩:=V6 hinv.2;refine go2 ?_;refine sK (sk (sk s0)) 12 [] [] (go4 ?_);refine pC (AV [pI (E (Z.quo x.n.dec x.d.dec))]) aM (i5 x.n.1 x.d.1 x.n.2 x.d.2) O O O (go4 ?_);refine pC (AV [pI (E (Z.quo y.n.dec y.d.dec))]) aM (i5 y.n.1 y.d.1 y.n.2 y.d.2) O O O (pC (.int .i64 ((Z.cmpW (Z.quo x.n.dec x.d.dec) (Z.quo y.n.dec y.d.dec)).1)) aM (HQ (E (Z.quo x.n.dec x.d.dec)).1 (E (Z.quo y.n.dec y.d.dec)).1 (E (Z.quo x.n.dec x.d.dec)).2 (E (Z.quo y.n.dec y.d.dec)).2) O O (cg2 (fun p q=>Value.int .i64 (Z.cmpW p q).1) (cJ _) (cJ _)) (go6 ?_));refine aQ _ O (fun h9=>?_) (fun h9=>?_)
    ·refine go3 ?_;refine sV (.int .i64 ((W.mul o (Z.cmpW (Z.quo x.n.dec x.d.dec) (Z.quo y.n.dec y.d.dec))).1)) O O (go8 ?_);refine rt1 ?_;exact congrArg vS8 (show _=(jW a b) from aT h6 (aY h7 (aY h8 (f5_ hinv.1 h9))))
    refine go_ ?_;refine gDs sn (.quiet 0 [1,7,16,17] (.quiet 1 [7,16,17] (.quiet 2 [3,6,7,14,15,16,17] (.quiet 3 [6,7,14,15,16,17] (.quiet 4 [5,6,7,14,15,16,17] (.quiet 5 [6,7,14,15,16,17] (.quiet 6 [7,14,15,16,17] (.quiet 7 [16,17] (.quiet 10 [11,14,15,16,17] (.quiet 11 [14,15,16,17] (.quiet 12 [13,14,15,16,17] (.quiet 13 [14,15,16,17] (.quiet 14 [15,16,17] (.still 8 [9,15,17] (.both 9 (.still 15 [17] (.only 16 (.only 17 (.fin)))) 16 (.quiet 9 [15,17] (.quiet 15 [17] (.only 17 (.fin))))))))))))))))))) [0,1,2,3,4,5,6,7,8,9,10,11,12,13,14,15] mix (by kernel_rfl) (by kernel_rfl) (go6 ?_);refine pC (AV [pI (E (Z.rem x.n.dec x.d.dec))]) aM (zP x.n.1 x.d.1 x.n.2 x.d.2) O O O (pQ O (m7 zpT plT O (.cons [pI x.d] [pI x.d,pI I0] O O O O (.cons [pI (E (Z.rem x.n.dec x.d.dec))] [pI x.d,pI (E (Z.rem x.n.dec x.d.dec))] O O O O (.nil _)))) (go4 ?_));refine pC (AV [pI (E (Z.rem y.n.dec y.d.dec))]) aM (zP y.n.1 y.d.1 y.n.2 y.d.2) O O O (EQ O O (fk_ (off':=18) (bV fdT dd_ O) O) ?_);refine HB ?_ ?_
    ·refine fP O O (EP (SJ tyT O m0 O) ⟨fun _=>s0,sn,EQ O O (m7 zpT plT O (.cons [pI y.d] [pI y.d,pI I0] O O O O (.cons [pI (E (Z.rem y.n.dec y.d.dec))] [pI y.d,pI (E (Z.rem y.n.dec y.d.dec))] O O O O (.nil _)))) (go3 ?_)⟩);refine sK (sk (sk s0)) 8 [] [] (go2 ?_);refine pC (.int .i64 ((Z.signW (Z.rem x.n.dec x.d.dec)).1)) aM (gD (E (Z.rem x.n.dec x.d.dec)).1 (E (Z.rem x.n.dec x.d.dec)).2) O O (cg1 (fun p=>Value.int .i64 (Z.signW p).1) (cJ _)) (go2 ?_);refine pC (.int .i64 ((Z.signW (Z.rem y.n.dec y.d.dec)).1)) aM (gD (E (Z.rem y.n.dec y.d.dec)).1 (E (Z.rem y.n.dec y.d.dec)).2) O O (cg1 (fun p=>Value.int .i64 (Z.signW p).1) (cJ _)) (go4 ?_);refine gJv [66,67,68,69,70,71] [(71,.bool (((Z.signW (Z.rem x.n.dec x.d.dec)).1==0)||((Z.signW (Z.rem y.n.dec y.d.dec)).1==0)))] (fun K7 J7=>?_) ?_
     ·refine go3 ?_;refine sBB O (fun h11=>?_) (fun h11=>?_)
      ·refine go4 ?_;refine J7 _ _ pp_ s0 (bH (oI h11))
      refine go4 ?_;refine J7 _ _ pp_ s0 (bH (nS h11 O))
     intro g12;refine aQ _ O (fun h13=>?_) (fun h13=>?_)
     ·refine go4 ?_;refine sV (.int .i64 ((W.sub (Z.signW (Z.rem x.n.dec x.d.dec)) (Z.signW (Z.rem y.n.dec y.d.dec))).1)) O O (sV (.int .i64 ((W.mul o (W.sub (Z.signW (Z.rem x.n.dec x.d.dec)) (Z.signW (Z.rem y.n.dec y.d.dec)))).1)) O O (go8 ?_));refine rt1 ?_;exact congrArg vS8 (show _=(jW a b) from aT h6 (aY h7 (aY h8 (eE_ hinv.1 h9 h13))))
     refine go3 ?_;refine sV (.int .i64 ((W.neg o).1)) O O (go2 ?_);refine ⟨pp_,_,_,s0,(Nat.lt_succ_self m),(W.neg o),(⟨x.d,(E (Z.rem x.n.dec x.d.dec))⟩:Rt),(⟨y.d,(E (Z.rem y.n.dec y.d.dec))⟩:Rt),m,?s7,rfl,rfl,eD_ hinv h9 h13⟩
     case s7=>rfl
    refine go2 ?_;refine pQ O (m7 zpT plT O (.cons [pI y.d] [pI y.d,pI I0] O O O O (.cons [pI (E (Z.rem y.n.dec y.d.dec))] [pI y.d,pI (E (Z.rem y.n.dec y.d.dec))] O O O O (.nil _)))) (go2 ?_);refine sK (sk (sk s0)) 8 [] [] (go2 ?_);refine pC (.int .i64 ((Z.signW (Z.rem x.n.dec x.d.dec)).1)) aM (gD (E (Z.rem x.n.dec x.d.dec)).1 (E (Z.rem x.n.dec x.d.dec)).2) O O (cg1 (fun p=>Value.int .i64 (Z.signW p).1) (cJ _)) (go2 ?_);refine pC (.int .i64 ((Z.signW (Z.rem y.n.dec y.d.dec)).1)) aM (gD (E (Z.rem y.n.dec y.d.dec)).1 (E (Z.rem y.n.dec y.d.dec)).2) O O (cg1 (fun p=>Value.int .i64 (Z.signW p).1) (cJ _)) (go4 ?_);refine gJv [66,67,68,69,70,71] [(71,.bool (((Z.signW (Z.rem x.n.dec x.d.dec)).1==0)||((Z.signW (Z.rem y.n.dec y.d.dec)).1==0)))] (fun K9 J9=>?_) ?_
    ·refine go3 ?_;refine sBB O (fun h15=>?_) (fun h15=>?_)
     ·refine go4 ?_;refine J9 _ _ pp_ s0 (bH (oI h15))
     refine go4 ?_;refine J9 _ _ pp_ s0 (bH (nS h15 O))
    intro g16;refine aQ _ O (fun h17=>?_) (fun h17=>?_)
    ·refine go4 ?_;refine sV (.int .i64 ((W.sub (Z.signW (Z.rem x.n.dec x.d.dec)) (Z.signW (Z.rem y.n.dec y.d.dec))).1)) O O (sV (.int .i64 ((W.mul o (W.sub (Z.signW (Z.rem x.n.dec x.d.dec)) (Z.signW (Z.rem y.n.dec y.d.dec)))).1)) O O (go8 ?_));refine rt1 ?_;exact congrArg vS8 (show _=(jW a b) from aT h6 (aY h7 (aY h8 (eE_ hinv.1 h9 h17))))
    refine go3 ?_;refine sV (.int .i64 ((W.neg o).1)) O O (go2 ?_);refine ⟨pp_,_,_,s0,(Nat.lt_succ_self m),(W.neg o),(⟨x.d,(E (Z.rem x.n.dec x.d.dec))⟩:Rt),(⟨y.d,(E (Z.rem y.n.dec y.d.dec))⟩:Rt),m,?s7,rfl,rfl,eD_ hinv h9 h17⟩
    case s7=>rfl
  refine W_t (iG h8) O (go4 ?_);refine rt1 ?_;exact congrArg vS8 (show _=(jW a b) from aT h6 (aY h7 (aT h8 O)))
 refine W_t (iG h7) O (go4 ?_);refine rt1 ?_;exact congrArg vS8 (show _=(jW a b) from aT h6 (aT h7 O))
theorem F9 (a:W) (b:W) :
  Ret prog 107 [.int .i64 a.1,.int .i64 b.1] (AV [pI ((oO a b).n),pI ((oO a b).d)]):=by
 refine bU (N:=10) func107 O O zz_ (fun w0=>?_);refine giI ?_;refine go2 ?_;intro b1 hb1;refine go3 ?_;refine sC (AV [pI (E (Z.of a.1))]) aM (fS a.1 a.2) O O O (go_ ?_);refine sC (AV [pI (E (Z.of b.1))]) aM (fS b.1 b.2) O O O ?_;obtain ⟨r2,hr2⟩:=nm ((cH (E (Z.of a.1)) (E (Z.of b.1))):Rt);refine sC (AV [pI r2.n,pI r2.d]) aM (oJ (E (Z.of a.1)) (E (Z.of b.1))) O O (by rw [hr2]) (go3 ?_);refine rtX O (iJ O m0 tyT O) ?_;exact (by subst hr2;rfl)
theorem rU (a:I) :
  Ret prog 150 [AV [pI a]] (AV [pI (fT a)]):=by
 refine bU (N:=4) func150 O O zz_ (fun w0=>?_);refine giI ?_;refine go2 ?_;intro b1 hb1;refine go_ ?_;intro b2 hb2;refine go6 ?_;refine rtX O (iJ O m0 tyT O) ?_;exact (by rfl)
theorem u6 (a:I) :
    Ret prog 90 [AV [pI a]] (.bool (m8 a)):=by
 refine bU (N:=10) func90 O O zz_ (fun w0=>?_);refine giI ?_;refine go2 ?_;intro b1 hb1;refine go2 ?_;refine gJv (rg [] 2 8) [(2,.bool (!a.1.bad&&a.1.valid))] (fun K1 J1=>?_) ?_
 ·refine go4 ?_;rcases bt a.1.bad with h3|h3
  ·refine sB (iI h3) O (go5 ?_);refine J1 _ _ pp_ s0 (bH (z7 h3))
  refine sB (iG h3) O (go_ ?_);refine sC (.bool a.1.valid) aM (sW a.1 a.2) O O O (go3 ?_);refine J1 _ _ pp_ s0 (bH (qO h3 O))
 intro g4;refine go_ ?_;refine rt1 ?_;exact (by rfl)
theorem jP  (w:World)  :
  Calls prog 108 [].toArray w (fun e w'=>∃ v,e = .returned (v)∧Ext w w'∧Slo w.heap.size w' 27 elI v F_poly_bad):=by
 refine eX (n:=3) (fun v=>v) func108 O O zz_ ?_;obtain ⟨w0,rfl⟩:=nm w;refine giI ?_;obtain ⟨q0,hq0⟩:=nm ((E Z.bad):I);refine go4 ?_;refine sC (AV [pI q0]) aM iB O O (by subst hq0;rfl) (aZ O (eK [[pI q0]] [pI q0] zO kF nB O dd_ O O ⟨rfl,rfl,rfl,trivial⟩ O (fun b1 hb1=>go3 ?_)));refine rt1 ?_
 have hE:([q0]:(List I))=F_poly_bad:=by obtain rfl:=hq0.symm;exact rfl
 rw [← hE];exact ⟨_,rfl,⟨_,(sk sn),OwnG.lit (e:=elI) (l:=[q0]) (qs:=[pI q0]) hb1 O (Nat.le_of_ble_eq_true O) O⟩⟩
theorem qP (n:Int) (vf:Value) (f:Nat→I) (vo:Value) (o:I→I) (w:World) (hf:FnV prog w vf eN (fun k=>(k:Int)<n) (bl_ f)) (ho:FnV prog w vo eI (fun _=>True) (bl_ o)) (hpre:n≤200) :
    Calls prog 148 [.int .i64 n,vf,vo].toArray w (fun e w'=>∃ v,e = .returned (v)∧Ext w w'∧Slo w.heap.size w' 27 elI v (fL n f o)):=by
 obtain ⟨g_f,c_f,rfl,Hf⟩:=hf.open;obtain ⟨g_o,c_o,rfl,Ho⟩:=ho.open;refine eX (n:=55) (fun v=>v) func148 O O zz_ ?_;obtain ⟨w0,rfl⟩:=nm w;refine giI ?_;refine go5 ?_;refine sQ (aW (v':=.int .i64 (n.toNat:Int)) (F4 O O) (congrArg (Value.int .i64) oo_)) O (aZ O (SP (E:=27) (e:=elI) (n:=0) (c:=(n).toNat) 68 I0 zO (by kernel_rfl) dd_ (by kernel_rfl) O O oo_ oo_ oo_ oo_ dd_ dd_ (fun p1 L2 hO3=>go5 ?_)));refine sQ (aW (v':=.int .i64 (n.toNat:Int)) (F4 O O) (congrArg (Value.int .i64) oo_)) O (go2 ?_);refine gJ3 (rg [6,7,8,9] 15 17) (fun g M=>∃ (out:List I) (i:Nat) (p_out:Option Addr) (c_out:Nat) (L_out:List Blk),(jS n f o (n.toNat+1) ([]:List I) 0) = .inl (out,i)∧(g 7 = .slice p_out out.length c_out∧g 15 = .int .i64 (i:Int)∧OwnG w0 27 elI (.slice p_out out.length c_out) out L_out)∧M=(L_out++[])) (fun K_u4 hK_u4=>?_) ?_
 ·refine go_ ?_;refine bP (rg [6,7,8,9] 15 17) (fun g nn M=>∃ (out:List I) (i:Nat) (p_out:Option Addr) (c_out:Nat) (L_out:List Blk),(jS n f o nn out i)=(jS n f o (n.toNat+1) ([]:List I) 0)∧n.toNat - i<nn∧(i≤n.toNat∧out.length=i)∧(g 7 = .slice p_out out.length c_out∧g 15 = .int .i64 (i:Int)∧OwnG w0 27 elI (.slice p_out out.length c_out) out L_out)∧M=(L_out++[])) (n.toNat+1) ?start ?round
  case start=>exact ⟨_,s0,([]:List I),0,p1,(n.toNat),L2,rfl,o1_,⟨by omega,rfl⟩,⟨rfl,rfl,hO3⟩,rfl⟩
  case round =>
   rintro nn g M ⟨out,i,p_out,c_out,L_out,hT0,hq0,hinv0,⟨hg7,hg15,hO_out⟩,rfl⟩;obtain ⟨k0,rfl⟩:∃ m,nn=m+1:=⟨nn - 1,by omega⟩;refine gS2 hg7 hg15 ?_;clear hg7 hg15;have hm_out:=OwnG.max hO_out;refine go4 ?_;refine aQ _ O (fun h29=>?_) (fun h29=>?_)
   ·have ph29:=of_decide_eq_true h29;refine vL ?_;refine sQ (aW (v':=AV [pI (f i)]) (Y0 (x:=i) O O (FnE.sub Hf sn) (by show (i:Int)<n;omega)) O) O (sQ (aW (v':=AV [pI (o (f i))]) (Y0 (x:=(f i)) O O (FnE.sub Ho sn) trivial) O) O (go_ ?_));intro b30 hb30;refine go5 ?_;refine sQ (bR aM (u6 (o (f i))) O) O (go2 ?_);rcases bt (m8 (o (f i))) with h31|h31
    ·refine W_f (iI h31) O (go4 ?_);refine aZ O (eK [[pI (o (f i))]] [pI (o (f i))] zO kF nB O dd_ O O ⟨rfl,rfl,rfl,trivial⟩ O (fun b32 hb32=>aZ O (nX (e:=elI) (l:=out) (m:=[(o (f i))]) 68 zO (by kernel_rfl) dd_ O O hO_out (SLe.lit (e:=elI) (l:=[(o (f i))]) m0 O (Nat.le_of_ble_eq_true O) O) (bT (bT oT)) (by show (out.length+1)*68≤_;omega) dd_ (fun p33 c34 L35 hO36=>go3 ?_))));refine sWi (((i+1):Nat):Int) O (go2 ?_);refine ⟨pp_,_,_,(sA (sd (sd s0))),(Nat.lt_succ_self _),(out++[(o (f i))]),(i+1),p33,c34,L35,(by exact (hT0.symm.trans (Eq.symm (aY h29 (aY h31 O)))).symm),(Nat.lt_of_lt_of_le o1_ (Nat.le_of_lt_succ hq0)),⟨by omega,(by rw [List.length_append];show _+1=_;omega)⟩,⟨rfl,rfl,hO36⟩,rfl⟩
    refine W_t (iG h31) O (go_ ?_);refine aZ O (cK (E:=27) (e:=elI) (l:=F_poly_bad) (fun v=>v) aM O (fun w hw=>jP  w) (fun p37 c38 L39 hF40=>go3 ?_));refine rt1 ?_
    have hE:(F_poly_bad:(List I))=(fL n f o):=by exact (u7 O (hT0.symm.trans (Eq.symm (aY h29 (aT h31 O)))))
    rw [← hE];exact ⟨_,rfl,⟨L39,lZ,hF40⟩⟩
   have ph29:=of_decide_eq_false h29;refine go_ ?_;refine hK_u4 _ _ pp_ ⟨_,s0,out,i,p_out,c_out,L_out,(by exact hT0.symm.trans (Eq.symm (aT h29 O))),⟨rfl,rfl,hO_out⟩,rfl⟩
 rintro g M ⟨out,i,p_out,c_out,L_out,hCu4,⟨hg7,hg15,hO_out⟩,rfl⟩;refine gS2 hg7 hg15 ?_;clear hg7 hg15;have hm_out:=OwnG.max hO_out;refine sI (rg [7] 32 18) (fun g M=>∃ (cut:List I) (p_cut:Option Addr) (c_cut:Nat) (L_cut:List Blk),(jT n f o out i (out.length+1) out)=cut∧(g 7 = .slice p_cut cut.length c_cut∧OwnG w0 27 elI (.slice p_cut cut.length c_cut) cut L_cut)∧M=(L_cut++[])) (fun K_u41 hK_u41=>?_) ?_
 ·refine go_ ?_;refine bP (rg [7] 32 18) (fun g nn M=>∃ (cut:List I) (p_cut:Option Addr) (c_cut:Nat) (L_cut:List Blk),(jT n f o out i nn cut)=(jT n f o out i (out.length+1) out)∧cut.length<nn∧(True)∧(g 7 = .slice p_cut cut.length c_cut∧OwnG w0 27 elI (.slice p_cut cut.length c_cut) cut L_cut)∧M=(L_cut++[])) (out.length+1) ?start ?round
  case start=>exact ⟨_,s0,out,p_out,c_out,L_out,rfl,(Nat.lt_succ_self _),trivial,⟨rfl,hO_out⟩,rfl⟩
  case round =>
   rintro nn g M ⟨cut,p_cut,c_cut,L_cut,hT1,hq1,hinv1,⟨hg7,hO_cut⟩,rfl⟩;obtain ⟨k1,rfl⟩:∃ m,nn=m+1:=⟨nn - 1,by omega⟩;refine gS1 hg7 ?_;clear hg7;have hm_cut:=OwnG.max hO_cut;refine go_ ?_;refine gJv (rg [] 32 13) [(44,.bool (decide (0<(cut.length:Int))&&((Z.signW (cut.getD (cut.length - 1) I0).dec).1==0)))] (fun K14 J14=>?_) ?_
   ·refine go2 ?_;refine sQ (dJ dY O (rO hO_cut lZ)) O (go_ ?_);refine sBB O (fun h48=>?_) (fun h48=>?_)
    ·have ph48:=of_decide_eq_true h48;refine go2 ?_;refine sQ (dJ dY O (rO hO_cut lZ)) O (sWi ((cut.length:Int) - 1) O (sQ (aW (v':=.pointer (some (slb (.slice p_cut cut.length c_cut) ((cut.length - 1)*18+0)))) (lV (e:=elI) (l:=cut) (k:=(cut.length - 1)) dY O O oo_ (rO hO_cut lZ) o2_) O) O ?_));refine sQ (jC (e:=elI) (l:=cut) (k:=(cut.length - 1)) (o:=0) tyT O (rO hO_cut lZ) (cP I0 o2_) O) O ?_;refine sC (.int .i64 ((Z.signW (cut.getD (cut.length - 1) I0).dec).1)) aM (gD (cut.getD (cut.length - 1) I0).1 (cut.getD (cut.length - 1) I0).2) O O O (go3 ?_);refine J14 _ _ pp_ s0 (bH (cG h48 O))
    have ph48:=of_decide_eq_false h48;refine o2 ?_;refine J14 _ _ pp_ s0 (bH (hJ h48))
   intro g49;refine aQ _ O (fun h50=>?_) (fun h50=>?_)
   ·have ph51:=of_decide_eq_true (Bool.and_eq_true_iff.1 h50).1;refine go5 ?_;refine sQ (dJ dY O (rO hO_cut lZ)) O (sWi ((cut.length:Int) - 1) O (sQ (bo_ (e:=elI) (l:=cut) (k:=(cut.length - 1)) dY O O oo_ hO_cut oo_) O (go2 ?_)));refine ⟨pp_,_,_,s0,(Nat.lt_succ_self _),(cut.take (cut.length - 1)),p_cut,c_cut,L_cut,(by exact (hT1.symm.trans (Eq.symm (aY h50 O))).symm),(Nat.lt_of_lt_of_le (by rw [List.length_take];omega) (Nat.le_of_lt_succ hq1)),trivial,⟨rfl,(OwnG.take hO_cut oo_)⟩,rfl⟩
   refine go_ ?_;refine hK_u41 _ _ pp_ ⟨_,s0,cut,p_cut,c_cut,L_cut,(by exact hT1.symm.trans (Eq.symm (aT h50 O))),⟨rfl,hO_cut⟩,rfl⟩
 rintro g M ⟨cut,p_cut,c_cut,L_cut,hCu41,⟨hg7,hO_cut⟩,rfl⟩;refine gS1 hg7 ?_;clear hg7;have hm_cut:=OwnG.max hO_cut;refine go3 ?_;refine sQ (dJ dY O (rO hO_cut lZ)) O (go2 ?_);refine aQ _ O (fun h52=>?_) (fun h52=>?_)
 ·have ph52:=of_decide_eq_true h52;refine go_ ?_;refine aZ O (cK (E:=27) (e:=elI) (l:=F_poly_bad) (fun v=>v) aM O (fun w hw=>jP  w) (fun p53 c54 L55 hF56=>go3 ?_));refine rt1 ?_
  have hE:(F_poly_bad:(List I))=(fL n f o):=by exact trs (Eq.symm (smS hCu4)) (trs (Eq.symm (apS hCu41)) (aY h52 O))
  rw [← hE];exact ⟨_,rfl,⟨L55,lZ,hF56⟩⟩
 have ph52:=of_decide_eq_false h52;refine go6 ?_;refine rt1 ?_
 have hE:(cut:(List I))=(fL n f o):=by exact trs (Eq.symm (smS hCu4)) (trs (Eq.symm (apS hCu41)) (aT h52 O))
 rw [← hE];exact ⟨_,rfl,⟨L_cut,lZ,hO_cut⟩⟩
theorem HF (vl:Value) (l:(List I)) (vf:Value) (f:I→Bool) (w:World) (hl:Slr w elI vl l) (hf:FnV prog w vf eI (fun _=>True) (bk_ f)) :
    Calls prog 139 [vl,vf].toArray w (fun e w'=>e = .returned (.int .i64 ((pM l f).1))∧Ext w w'):=by
 obtain ⟨p_l,c_l,rfl⟩:=hl.form;obtain ⟨g_f,c_f,rfl,Hf⟩:=hf.open;refine cQ (N:=19) func139 O O zz_ ?_;obtain ⟨w0,rfl⟩:=nm w;have Hl:=hl.old;have hm_l:=hl.max;refine giI ?_;refine go6 ?_;refine sQ (dJ dY O (SLe.sub Hl sn)) O (go2 ?_);refine gJ3 (rg [4,5] 8 11) (fun g M=>∃ (i:Nat),(jH l f (l.length+1) 0) = .inl i∧(g 8 = .int .i64 (i:Int))∧M=[]) (fun K_u1 hK_u1=>?_) ?_
 ·refine go_ ?_;refine bP (rg [4,5] 8 11) (fun g nn M=>∃ (i:Nat),(jH l f nn i)=(jH l f (l.length+1) 0)∧l.length - i<nn∧(i≤l.length)∧(g 8 = .int .i64 (i:Int))∧M=[]) (l.length+1) ?start ?round
  case start=>exact ⟨_,s0,0,rfl,o1_,o1_,rfl,rfl⟩
  case round =>
   rintro nn g M ⟨i,hT0,hq0,hinv0,hg8,rfl⟩;obtain ⟨k0,rfl⟩:∃ m,nn=m+1:=⟨nn - 1,by omega⟩;refine gS1 hg8 ?_;clear hg8;refine go4 ?_;refine aQ _ O (fun h6=>?_) (fun h6=>?_)
   ·have ph6:=of_decide_eq_true h6;refine vL ?_;refine sQ (aW (v':=.pointer (some (slb (.slice p_l l.length c_l) (i*18+0)))) (iT (e:=elI) (l:=l) (k:=i) dY O O (SLe.sub Hl sn) o2_) O) O ?_;refine sQ (jC (e:=elI) (l:=l) (k:=i) (o:=0) tyT O (SLe.sub Hl sn) (cP I0 o2_) O) O ?_;refine sQ (aW (v':=.bool (f (l.getD i I0))) (Y0 (x:=(l.getD i I0)) O O (FnE.sub Hf sn) trivial) O) O (go_ ?_);refine aQ _ O (fun h7=>?_) (fun h7=>?_)
    ·refine go5 ?_;refine rt1 ?_;refine (show (.int .i64 (i:Int):Value) = .int .i64 ((W.cv (i:Int)).1) by simp only [cvE (t:=(i:Int)) oo_]).trans ?_;exact congrArg vS8 (show _=(pM l f) from (u7 O (hT0.symm.trans (Eq.symm (aY h6 (aY h7 O))))))
    refine go2 ?_;refine sWi (((i+1):Nat):Int) O (go2 ?_);refine ⟨pp_,_,_,s0,(Nat.lt_succ_self _),(i+1),(by exact (hT0.symm.trans (Eq.symm (aY h6 (aT h7 O)))).symm),(Nat.lt_of_lt_of_le o1_ (Nat.le_of_lt_succ hq0)),o1_,rfl,rfl⟩
   have ph6:=of_decide_eq_false h6;refine go_ ?_;refine hK_u1 _ _ pp_ ⟨_,s0,i,(by exact hT0.symm.trans (Eq.symm (aT h6 O))),rfl,rfl⟩
 rintro g M ⟨i,hCu1,hg8,rfl⟩;refine gS1 hg8 ?_;clear hg8;refine go4 ?_;refine rt1 ?_;exact congrArg vS8 (show _=(pM l f) from trs (Eq.symm (smS hCu1)) O)
theorem B9 (vl:Value) (l:(List I)) (vf:Value) (f:I→Bool) (w:World) (hl:Slr w elI vl l) (hf:FnV prog w vf eI (fun _=>True) (bk_ f)) :
  Calls prog 88 [vl,vf].toArray w (fun e w'=>e = .returned (.bool (oD l f))∧Ext w w'):=by
 obtain ⟨p_l,c_l,rfl⟩:=hl.form;obtain ⟨g_f,c_f,rfl,Hf⟩:=hf.open;refine cQ (N:=9) func88 O O zz_ ?_;obtain ⟨w0,rfl⟩:=nm w;have Hl:=hl.old;have hm_l:=hl.max;refine giI ?_;refine go6 ?_;refine sFc (.int .i64 ((pM l f).1)) O (fun w hw=>HF _ l _ f w (aR hw Hl sn) (FnE.ap hw (FnE.sub Hf sn))) O O (go4 ?_);refine rt1 ?_;exact (by rfl)
theorem CL (a:I) :
  Ret prog 89 [AV [pI a]] (.bool (pZ a)):=by
 refine bU (N:=6) func89 O O zz_ (fun w0=>?_);refine giI ?_;refine go2 ?_;intro b1 hb1;refine go4 ?_;refine sQ (bR aM (u6 a) O) O (go4 ?_);refine rt1 ?_;exact (by rfl)
theorem eD (vp:Value) (p:(List I)) (w:World) (hp:Slr w elI vp p) :
  Calls prog 43 [vp].toArray w (fun e w'=>e = .returned (.bool (aS p))∧Ext w w'):=by
 obtain ⟨p_p,c_p,rfl⟩:=hp.form;refine cQ (N:=5) func43 O O zz_ ?_;obtain ⟨w0,rfl⟩:=nm w;have Hp:=hp.old;have hm_p:=hp.max;refine giI ?_;refine go5 ?_;refine sFc (.bool (oD p (fun (y:I)=>(pZ y)))) O (fun w hw=>B9 _ p _ (fun (y:I)=>(pZ y)) w (aR hw Hp sn) (FnV.mk hw aM (fun w hw x hx=>(CL x) w))) O O (go3 ?_);refine rt1 ?_;exact (by rfl)
theorem FG (vl:Value) (l:(List Rt)) (vf:Value) (f:Rt→Bool) (w:World) (hl:Slr w M6 vl l) (hf:FnV prog w vf eRt (fun _=>True) (bk_ f)) :
    Calls prog 182 [vl,vf].toArray w (fun e w'=>e = .returned (.int .i64 ((nF l f).1))∧Ext w w'):=by
 obtain ⟨p_l,c_l,rfl⟩:=hl.form;obtain ⟨g_f,c_f,rfl,Hf⟩:=hf.open;refine cQ (N:=19) func182 O O zz_ ?_;obtain ⟨w0,rfl⟩:=nm w;have Hl:=hl.old;have hm_l:=hl.max;refine giI ?_;refine go6 ?_;refine sQ (dJ ZQ O (SLe.sub Hl sn)) O (go2 ?_);refine gJ3 (rg [4,5] 8 11) (fun g M=>∃ (i:Nat),(jR l f (l.length+1) 0) = .inl i∧(g 8 = .int .i64 (i:Int))∧M=[]) (fun K_u1 hK_u1=>?_) ?_
 ·refine go_ ?_;refine bP (rg [4,5] 8 11) (fun g nn M=>∃ (i:Nat),(jR l f nn i)=(jR l f (l.length+1) 0)∧l.length - i<nn∧(i≤l.length)∧(g 8 = .int .i64 (i:Int))∧M=[]) (l.length+1) ?start ?round
  case start=>exact ⟨_,s0,0,rfl,o1_,o1_,rfl,rfl⟩
  case round =>
   rintro nn g M ⟨i,hT0,hq0,hinv0,hg8,rfl⟩;obtain ⟨k0,rfl⟩:∃ m,nn=m+1:=⟨nn - 1,by omega⟩;refine gS1 hg8 ?_;clear hg8;refine go4 ?_;refine aQ _ O (fun h6=>?_) (fun h6=>?_)
   ·have ph6:=of_decide_eq_true h6;refine vL ?_;refine sQ (aW (v':=.pointer (some (slb (.slice p_l l.length c_l) (i*36+0)))) (iT (e:=M6) (l:=l) (k:=i) ZQ O O (SLe.sub Hl sn) o2_) O) O ?_;refine sQ (jC (e:=M6) (l:=l) (k:=i) (o:=0) tyT O (SLe.sub Hl sn) (cP Rt0 o2_) O) O ?_;refine sQ (aW (v':=.bool (f (l.getD i Rt0))) (Y0 (x:=(l.getD i Rt0)) O O (FnE.sub Hf sn) trivial) O) O (go_ ?_);refine aQ _ O (fun h7=>?_) (fun h7=>?_)
    ·refine go5 ?_;refine rt1 ?_;refine (show (.int .i64 (i:Int):Value) = .int .i64 ((W.cv (i:Int)).1) by simp only [cvE (t:=(i:Int)) oo_]).trans ?_;exact congrArg vS8 (show _=(nF l f) from (u7 O (hT0.symm.trans (Eq.symm (aY h6 (aY h7 O))))))
    refine go2 ?_;refine sWi (((i+1):Nat):Int) O (go2 ?_);refine ⟨pp_,_,_,s0,(Nat.lt_succ_self _),(i+1),(by exact (hT0.symm.trans (Eq.symm (aY h6 (aT h7 O)))).symm),(Nat.lt_of_lt_of_le o1_ (Nat.le_of_lt_succ hq0)),o1_,rfl,rfl⟩
   have ph6:=of_decide_eq_false h6;refine go_ ?_;refine hK_u1 _ _ pp_ ⟨_,s0,i,(by exact hT0.symm.trans (Eq.symm (aT h6 O))),rfl,rfl⟩
 rintro g M ⟨i,hCu1,hg8,rfl⟩;refine gS1 hg8 ?_;clear hg8;refine go4 ?_;refine rt1 ?_;exact congrArg vS8 (show _=(nF l f) from trs (Eq.symm (smS hCu1)) O)
theorem AQ (vl:Value) (l:(List Rt)) (vf:Value) (f:Rt→Bool) (w:World) (hl:Slr w M6 vl l) (hf:FnV prog w vf eRt (fun _=>True) (bk_ f)) :
  Calls prog 164 [vl,vf].toArray w (fun e w'=>e = .returned (.bool (nO l f))∧Ext w w'):=by
 obtain ⟨p_l,c_l,rfl⟩:=hl.form;obtain ⟨g_f,c_f,rfl,Hf⟩:=hf.open;refine cQ (N:=9) func164 O O zz_ ?_;obtain ⟨w0,rfl⟩:=nm w;have Hl:=hl.old;have hm_l:=hl.max;refine giI ?_;refine go6 ?_;refine sFc (.int .i64 ((nF l f).1)) O (fun w hw=>FG _ l _ f w (aR hw Hl sn) (FnE.ap hw (FnE.sub Hf sn))) O O (go4 ?_);refine rt1 ?_;exact (by rfl)
theorem DR (a:Rt) :
  Ret prog 165 [AV [pI a.n,pI a.d]] (.bool (jK a)):=by
 refine bU (N:=6) func165 O O zz_ (fun w0=>?_);refine giI ?_;refine go2 ?_;intro b1 hb1;refine go4 ?_;refine sQ (bR aM (kW a) O) O (go4 ?_);refine rt1 ?_;exact (by rfl)
theorem u5 (vl:Value) (l:(List Rt)) (w:World) (hl:Slr w M6 vl l) :
  Calls prog 112 [vl].toArray w (fun e w'=>e = .returned (.bool (iV l))∧Ext w w'):=by
 obtain ⟨p_l,c_l,rfl⟩:=hl.form;refine cQ (N:=6) func112 O O zz_ ?_;obtain ⟨w0,rfl⟩:=nm w;have Hl:=hl.old;have hm_l:=hl.max;refine giI ?_;refine go5 ?_;refine sFc (.bool (nO l (fun (y:Rt)=>(jK y)))) O (fun w hw=>AQ _ l _ (fun (y:Rt)=>(jK y)) w (aR hw Hl sn) (FnV.mk hw aM (fun w hw x hx=>(DR x) w))) O O (go4 ?_);refine rt1 ?_;exact (by rfl)
end Go.Proofs.YtokjfhfiodopdaaGreat
