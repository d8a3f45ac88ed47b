/- Lemmas: what they ask stands in their statements. -/
import Derived.Test.YtokjfhfiodopdaaGreatWFp
import Derived.Test.YtokjfhfiodopdaaGreatWGc
set_option linter.unusedSimpArgs false
set_option linter.unusedVariables false
set_option maxHeartbeats 8000000
set_option maxRecDepth 20000
namespace Go.Proofs.YtokjfhfiodopdaaGreat
open Go.Kn Go.Num Tryz
attribute [local irreducible] Go.Kn.W WL PL OpQ OpR OpS
theorem tB (a:I) :
    Ret prog 150 [AV [pI a]] (AV [pI (gG a)]):=by
 refine bT (N:=4) func150 rfl rfl (by simp) (fun w0=>?_);simp only [bK,Nat.reduceAdd];refine go2 ?_;intro b1 hb1;refine go_ ?_;intro b2 hb2;refine go6 ?_;refine bG rfl (.inr rfl) (gT rfl m0 tyT rfl) ?_;exact (by rfl)
theorem vN (a:I) :
    Ret prog 90 [AV [pI a]] (.bool (nV a)):=by
 refine bT (N:=10) func90 rfl rfl (by simp) (fun w0=>?_);simp only [bK,Nat.reduceAdd];refine go2 ?_;intro b1 hb1;refine go2 ?_;refine gJv [2,3,4,5,6,7,8,9] [(2,.bool (!a.1.bad&&a.1.valid))] (fun K1 J1=>?_) ?_
 ·refine go4 ?_;rcases bt a.1.bad with h3 | h3
  ·refine sB (fY h3) rfl (go5 ?_);refine J1 _ _ pp_ s0 (aZ (w6 h3))
  refine sB (fP h3) rfl (go_ ?_);refine sC (.bool a.1.valid) aJ (tT a.1 a.2) rfl rfl rfl (go3 ?_);refine J1 _ _ pp_ s0 (aZ (pX h3 rfl))
 intro g4;refine go_ ?_;refine bG rfl (.inr rfl) rfl ?_;exact (by rfl)
theorem j6  (w:World)  :
    Calls prog 108 [].toArray w (fun e w'=>∃ v,e = .returned (v)∧Ext w w'∧Slo w.heap.size w' 27 elI v F_poly_bad):=by
 refine fF (n:=3) (fun v=>v) func108 rfl rfl (by simp) ?_;obtain ⟨w0,rfl⟩:∃ w0,w0=w:=⟨_,rfl⟩;simp only [bK,Nat.reduceAdd];obtain ⟨q0,hq0⟩:=nm ((E Z.bad):I);refine go4 ?_;refine sC (AV [pI q0]) aJ iQ rfl rfl (by subst hq0;rfl) (bC rfl (fQ [[pI q0]] [pI q0] AG kR nU rfl dd_ rfl rfl ⟨rfl,rfl,rfl,trivial⟩ rfl (fun b1 hb1=>go3 ?_)));refine bG rfl (.inr rfl) rfl ?_
 have hE:([q0]:(List I))=F_poly_bad:=by obtain rfl:=hq0.symm;exact rfl
 rw [← hE];exact ⟨_,rfl,⟨_,(sk sn),OwnG.lit (e:=elI) (l:=[q0]) (qs:=[pI q0]) hb1 rfl (Nat.le_of_ble_eq_true rfl) rfl⟩⟩
theorem rQ (n:Int) (vf:Value) (f:Nat→I) (vo:Value) (o:I→I) (w:World) (hf:FnV prog w vf eN (fun k=>(k:Int)<n) (bn_ f)) (ho:FnV prog w vo eI (fun _=>True) (bn_ o)) (hpre:n≤200) :
    Calls prog 148 [.int .i64 n,vf,vo].toArray w (fun e w'=>∃ v,e = .returned (v)∧Ext w w'∧Slo w.heap.size w' 27 elI v (gA n f o)):=by
 obtain ⟨g_f,c_f,rfl,Hf⟩:=hf.open;obtain ⟨g_o,c_o,rfl,Ho⟩:=ho.open;refine fF (n:=55) (fun v=>v) func148 rfl rfl (by simp) ?_;obtain ⟨w0,rfl⟩:∃ w0,w0=w:=⟨_,rfl⟩;simp only [bK,Nat.reduceAdd];refine go5 ?_;refine sQ (aS (v':=.int .i64 (((n).toNat:Nat):Int)) (C6 rfl rfl) (congrArg (Value.int .i64) oo_)) rfl (bC rfl (TB (E:=27) (e:=elI) (n:=0) (c:=(n).toNat) 68 I0 AG (by kernel_rfl) dd_ (by kernel_rfl) rfl rfl oo_ oo_ oo_ oo_ dd_ dd_ (fun p1 L2 hO3=>go5 ?_)));refine sQ (aS (v':=.int .i64 (((n).toNat:Nat):Int)) (C6 rfl rfl) (congrArg (Value.int .i64) oo_)) rfl (go2 ?_);refine gJ3 [6,7,8,9,15,16,17,18,19,20,21,22,23,24,25,26,27,28,29,30,31] (fun g M=>∃ (out:List I) (i:Nat) (p_out:Option Addr) (c_out:Nat) (L_out:List Blk),(j9 n f o ((n.toNat+1)) ([]:List I) 0) = .inl (out,i)∧(g 7 = .slice p_out out.length c_out∧g 15 = .int .i64 ((i:Nat):Int)∧OwnG w0 27 elI (.slice p_out out.length c_out) out L_out)∧M=(L_out ++ [])) (fun K_u4 hK_u4=>?_) ?_
 ·refine go_ ?_;refine cF [6,7,8,9,15,16,17,18,19,20,21,22,23,24,25,26,27,28,29,30,31] (fun g nn M=>∃ (out:List I) (i:Nat) (p_out:Option Addr) (c_out:Nat) (L_out:List Blk),(j9 n f o nn out i)=(j9 n f o ((n.toNat+1)) ([]:List I) 0)∧n.toNat - i<nn∧(i≤n.toNat∧out.length=i)∧(g 7 = .slice p_out out.length c_out∧g 15 = .int .i64 ((i:Nat):Int)∧OwnG w0 27 elI (.slice p_out out.length c_out) out L_out)∧M=(L_out ++ [])) ((n.toNat+1)) ?start ?round
  case start=>exact ⟨_,s0,([]:List I),0,p1,((n).toNat),L2,rfl,o1_,⟨by omega,rfl⟩,⟨rfl,rfl,hO3⟩,rfl⟩
  case round =>
   rintro nn g M ⟨out,i,p_out,c_out,L_out,hT0,hq0,hinv0,⟨hg7,hg15,hO_out⟩,rfl⟩;obtain ⟨k0,rfl⟩:∃ m,nn=m+1:=⟨nn - 1,by omega⟩;simp only [eH,hg7,hg15];clear hg7 hg15;have hm_out:=OwnG.max hO_out;refine go4 ?_;refine aQ _ rfl (fun h29=>?_) (fun h29=>?_)
   ·have ph29:=of_decide_eq_true h29;refine vK ?_;refine sQ (aS (v':=AV [pI (f i)]) (Y1 (x:=i) rfl rfl (FnE.sub Hf sn) (by show ((i:Nat):Int)<n;omega)) rfl) rfl (sQ (aS (v':=AV [pI (o (f i))]) (Y1 (x:=(f i)) rfl rfl (FnE.sub Ho sn) trivial) rfl) rfl (go_ ?_));intro b30 hb30;refine go5 ?_;refine sQ (bM aJ (vN (o (f i))) rfl) rfl (go2 ?_);rcases bt (nV (o (f i))) with h31 | h31
    ·refine W_f (fY h31) rfl (go4 ?_);refine bC rfl (fQ [[pI (o (f i))]] [pI (o (f i))] AG kR nU rfl dd_ rfl rfl ⟨rfl,rfl,rfl,trivial⟩ rfl (fun b32 hb32=>bC rfl (nS (e:=elI) (l:=out) (m:=[(o (f i))]) 68 AG (by kernel_rfl) dd_ rfl rfl hO_out (SLe.lit (e:=elI) (l:=[(o (f i))]) m0 rfl (Nat.le_of_ble_eq_true rfl) rfl) (bX (bX o8)) (by show (out.length+1) * 68≤_;omega) dd_ (fun p33 c34 L35 hO36=>go3 ?_))));refine sV (.int .i64 (((i+1):Nat):Int)) rfl (congrArg (Value.int .i64) (wx oo_ oo_ oo_)) (go2 ?_);refine ⟨pp_,_,_,(sA (sd (sd (s0)))),(Nat.lt_succ_self _),(out ++ [(o (f i))]),(i+1),p33,c34,L35,(by exact (hT0.symm.trans (Eq.symm (aW h29 (aW h31 rfl)))).symm),(Nat.lt_of_lt_of_le o1_ (Nat.le_of_lt_succ hq0)),⟨by omega,(by rw [List.length_append];show _+1=_;omega)⟩,⟨rfl,rfl,hO36⟩,rfl⟩
    refine W_t (fP h31) rfl (go_ ?_);refine bC rfl (cU (E:=27) (e:=elI) (l:=F_poly_bad) (fun v=>v) aJ rfl (fun w hw=>j6  w) (fun p37 c38 L39 hF40=>go3 ?_));refine bG rfl (.inr rfl) rfl ?_
    have hE:(F_poly_bad:(List I))=(gA n f o):=by exact (vO rfl (hT0.symm.trans (Eq.symm (aW h29 (aM h31 rfl)))))
    rw [← hE];exact ⟨_,rfl,⟨L39,lZ,hF40⟩⟩
   have ph29:=of_decide_eq_false h29;refine go_ ?_;refine hK_u4 _ _ pp_ ⟨_,s0,out,i,p_out,c_out,L_out,(by exact hT0.symm.trans (Eq.symm (aM h29 rfl))),⟨rfl,rfl,hO_out⟩,rfl⟩
 rintro g M ⟨out,i,p_out,c_out,L_out,hCu4,⟨hg7,hg15,hO_out⟩,rfl⟩;simp only [eH,hg7,hg15];clear hg7 hg15;have hm_out:=OwnG.max hO_out;refine tQ [7,32,33,34,35,36,37,38,39,40,41,42,43,44,45,46,47,48,49] (fun g M=>∃ (cut:List I) (p_cut:Option Addr) (c_cut:Nat) (L_cut:List Blk),(kA n f o out i ((out.length+1)) out)=cut∧(g 7 = .slice p_cut cut.length c_cut∧OwnG w0 27 elI (.slice p_cut cut.length c_cut) cut L_cut)∧M=(L_cut ++ [])) (fun K_u41 hK_u41=>?_) ?_
 ·refine go_ ?_;refine cF [7,32,33,34,35,36,37,38,39,40,41,42,43,44,45,46,47,48,49] (fun g nn M=>∃ (cut:List I) (p_cut:Option Addr) (c_cut:Nat) (L_cut:List Blk),(kA n f o out i nn cut)=(kA n f o out i ((out.length+1)) out)∧cut.length<nn∧(True)∧(g 7 = .slice p_cut cut.length c_cut∧OwnG w0 27 elI (.slice p_cut cut.length c_cut) cut L_cut)∧M=(L_cut ++ [])) ((out.length+1)) ?start ?round
  case start=>exact ⟨_,s0,out,p_out,c_out,L_out,rfl,(Nat.lt_succ_self _),trivial,⟨rfl,hO_out⟩,rfl⟩
  case round =>
   rintro nn g M ⟨cut,p_cut,c_cut,L_cut,hT1,hq1,hinv1,⟨hg7,hO_cut⟩,rfl⟩;obtain ⟨k1,rfl⟩:∃ m,nn=m+1:=⟨nn - 1,by omega⟩;simp only [eH,hg7];clear hg7;have hm_cut:=OwnG.max hO_cut;refine go_ ?_;refine gJv [32,33,34,35,36,37,38,39,40,41,42,43,44] [(44,.bool (decide (0<(((cut).length:Nat):Int))&&((Z.signW (cut.getD ((cut).length - 1) I0).dec).1==0)))] (fun K14 J14=>?_) ?_
   ·refine go2 ?_;refine sQ (aS (v':=.int .i64 (((cut).length:Nat):Int)) (dW (e:=elI) d9 rfl (rO hO_cut lZ)) rfl) rfl (go_ ?_);refine sBB rfl (fun h48=>?_) (fun h48=>?_)
    ·have ph48:=of_decide_eq_true h48;refine go2 ?_;refine sQ (aS (v':=.int .i64 (((cut).length:Nat):Int)) (dW (e:=elI) d9 rfl (rO hO_cut lZ)) rfl) rfl (sV (.int .i64 ((((cut).length:Nat):Int) - 1)) rfl (congrArg (Value.int .i64) (wx oo_ oo_ oo_)) (sQ (aS (v':=.pointer (some (slb (.slice p_cut cut.length c_cut) (((cut).length - 1) * 18+0)))) (lY (e:=elI) (l:=cut) (k:=((cut).length - 1)) d9 rfl rfl oo_ (rO hO_cut lZ) o2_) rfl) rfl ?_));refine sQ (j7 (e:=elI) (l:=cut) (k:=((cut).length - 1)) (o:=0) tyT rfl (rO hO_cut lZ) (dN I0 o2_) rfl) rfl ?_;refine sC (.int .i64 ((Z.signW (cut.getD ((cut).length - 1) I0).dec).1)) aJ (gM (cut.getD ((cut).length - 1) I0).1 (cut.getD ((cut).length - 1) I0).2) rfl rfl rfl (go3 ?_);refine J14 _ _ pp_ s0 (aZ (bW h48 rfl))
    have ph48:=of_decide_eq_false h48;refine pO ?_;refine J14 _ _ pp_ s0 (aZ (hJ h48))
   intro g49;refine aQ _ rfl (fun h50=>?_) (fun h50=>?_)
   ·have ph51:=of_decide_eq_true (Bool.and_eq_true_iff.1 h50).1;refine go5 ?_;refine sQ (aS (v':=.int .i64 (((cut).length:Nat):Int)) (dW (e:=elI) d9 rfl (rO hO_cut lZ)) rfl) rfl (sV (.int .i64 ((((cut).length:Nat):Int) - 1)) rfl (congrArg (Value.int .i64) (wx oo_ oo_ oo_)) (sQ (bp_ (e:=elI) (l:=cut) (k:=((cut).length - 1)) d9 rfl rfl oo_ hO_cut oo_) rfl (go2 ?_)));refine ⟨pp_,_,_,s0,(Nat.lt_succ_self _),(cut.take ((cut).length - 1)),p_cut,c_cut,L_cut,(by exact (hT1.symm.trans (Eq.symm (aW h50 rfl))).symm),(Nat.lt_of_lt_of_le (by rw [List.length_take];omega) (Nat.le_of_lt_succ hq1)),trivial,⟨rfl,(OwnG.take hO_cut oo_)⟩,rfl⟩
   refine go_ ?_;refine hK_u41 _ _ pp_ ⟨_,s0,cut,p_cut,c_cut,L_cut,(by exact hT1.symm.trans (Eq.symm (aM h50 rfl))),⟨rfl,hO_cut⟩,rfl⟩
 rintro g M ⟨cut,p_cut,c_cut,L_cut,hCu41,⟨hg7,hO_cut⟩,rfl⟩;simp only [eH,hg7];clear hg7;have hm_cut:=OwnG.max hO_cut;refine go3 ?_;refine sQ (aS (v':=.int .i64 (((cut).length:Nat):Int)) (dW (e:=elI) d9 rfl (rO hO_cut lZ)) rfl) rfl (go2 ?_);refine aQ _ rfl (fun h52=>?_) (fun h52=>?_)
 ·have ph52:=of_decide_eq_true h52;refine go_ ?_;refine bC rfl (cU (E:=27) (e:=elI) (l:=F_poly_bad) (fun v=>v) aJ rfl (fun w hw=>j6  w) (fun p53 c54 L55 hF56=>go3 ?_));refine bG rfl (.inr rfl) rfl ?_
  have hE:(F_poly_bad:(List I))=(gA n f o):=by exact trs (Eq.symm (smS hCu4)) (trs (Eq.symm (apS hCu41)) (aW h52 rfl))
  rw [← hE];exact ⟨_,rfl,⟨L55,lZ,hF56⟩⟩
 have ph52:=of_decide_eq_false h52;refine go6 ?_;refine bG rfl (.inr rfl) rfl ?_
 have hE:(cut:(List I))=(gA n f o):=by exact trs (Eq.symm (smS hCu4)) (trs (Eq.symm (apS hCu41)) (aM h52 rfl))
 rw [← hE];exact ⟨_,rfl,⟨L_cut,lZ,hO_cut⟩⟩
theorem HR (vl:Value) (l:(List I)) (vf:Value) (f:I→Bool) (w:World) (hl:Slr w elI vl l) (hf:FnV prog w vf eI (fun _=>True) (bm_ f)) :
    Calls prog 139 [vl,vf].toArray w (fun e w'=>e = .returned (.int .i64 ((qS l f).1))∧Ext w w'):=by
 obtain ⟨p_l,c_l,rfl⟩:=hl.form;obtain ⟨g_f,c_f,rfl,Hf⟩:=hf.open;refine cQ (N:=19) func139 rfl rfl (by simp) ?_;obtain ⟨w0,rfl⟩:∃ w0,w0=w:=⟨_,rfl⟩;have Hl:=hl.old;have hm_l:=hl.max;simp only [bK,Nat.reduceAdd];refine go6 ?_;refine sQ (aS (v':=.int .i64 (((l).length:Nat):Int)) (dW (e:=elI) d9 rfl (SLe.sub Hl sn)) rfl) rfl (go2 ?_);refine gJ3 [4,5,8,9,10,11,12,13,14,15,16,17,18] (fun g M=>∃ (i:Nat),(jU l f ((l.length+1)) 0) = .inl i∧(g 8 = .int .i64 ((i:Nat):Int))∧M=[]) (fun K_u1 hK_u1=>?_) ?_
 ·refine go_ ?_;refine cF [4,5,8,9,10,11,12,13,14,15,16,17,18] (fun g nn M=>∃ (i:Nat),(jU l f nn i)=(jU l f ((l.length+1)) 0)∧l.length - i<nn∧(i≤l.length)∧(g 8 = .int .i64 ((i:Nat):Int))∧M=[]) ((l.length+1)) ?start ?round
  case start=>exact ⟨_,s0,0,rfl,o1_,o1_,rfl,rfl⟩
  case round =>
   rintro nn g M ⟨i,hT0,hq0,hinv0,hg8,rfl⟩;obtain ⟨k0,rfl⟩:∃ m,nn=m+1:=⟨nn - 1,by omega⟩;simp only [eH,hg8];clear hg8;refine go4 ?_;refine aQ _ rfl (fun h6=>?_) (fun h6=>?_)
   ·have ph6:=of_decide_eq_true h6;refine vK ?_;refine sQ (aS (v':=.pointer (some (slb (.slice p_l l.length c_l) (i * 18+0)))) (kZ (e:=elI) (l:=l) (k:=i) d9 rfl rfl (SLe.sub Hl sn) o2_) rfl) rfl ?_;refine sQ (j7 (e:=elI) (l:=l) (k:=i) (o:=0) tyT rfl (SLe.sub Hl sn) (dN I0 o2_) rfl) rfl ?_;refine sQ (aS (v':=.bool (f (l.getD i I0))) (Y1 (x:=(l.getD i I0)) rfl rfl (FnE.sub Hf sn) trivial) rfl) rfl (go_ ?_);refine aQ _ rfl (fun h7=>?_) (fun h7=>?_)
    ·refine go5 ?_;refine bG rfl (.inr rfl) rfl ?_;refine (show (.int .i64 ((i:Nat):Int):Value) = .int .i64 ((W.cv ((i:Nat):Int)).1) by simp only [cvE (t:=((i:Nat):Int)) oo_]).trans ?_;exact congrArg vS7 (show _=(qS l f) from (vO rfl (hT0.symm.trans (Eq.symm (aW h6 (aW h7 rfl))))))
    refine go2 ?_;refine sV (.int .i64 (((i+1):Nat):Int)) rfl (congrArg (Value.int .i64) (wx oo_ oo_ oo_)) (go2 ?_);refine ⟨pp_,_,_,s0,(Nat.lt_succ_self _),(i+1),(by exact (hT0.symm.trans (Eq.symm (aW h6 (aM h7 rfl)))).symm),(Nat.lt_of_lt_of_le o1_ (Nat.le_of_lt_succ hq0)),o1_,rfl,rfl⟩
   have ph6:=of_decide_eq_false h6;refine go_ ?_;refine hK_u1 _ _ pp_ ⟨_,s0,i,(by exact hT0.symm.trans (Eq.symm (aM h6 rfl))),rfl,rfl⟩
 rintro g M ⟨i,hCu1,hg8,rfl⟩;simp only [eH,hg8];clear hg8;refine go4 ?_;refine bG rfl (.inr rfl) rfl ?_;exact congrArg vS7 (show _=(qS l f) from trs (Eq.symm (smS hCu1)) rfl)
theorem CQ (vl:Value) (l:(List I)) (vf:Value) (f:I→Bool) (w:World) (hl:Slr w elI vl l) (hf:FnV prog w vf eI (fun _=>True) (bm_ f)) :
    Calls prog 88 [vl,vf].toArray w (fun e w'=>e = .returned (.bool (o4 l f))∧Ext w w'):=by
 obtain ⟨p_l,c_l,rfl⟩:=hl.form;obtain ⟨g_f,c_f,rfl,Hf⟩:=hf.open;refine cQ (N:=9) func88 rfl rfl (by simp) ?_;obtain ⟨w0,rfl⟩:∃ w0,w0=w:=⟨_,rfl⟩;have Hl:=hl.old;have hm_l:=hl.max;simp only [bK,Nat.reduceAdd];refine go6 ?_;refine sQ (aS (v':=.int .i64 ((qS l f).1)) (bE aJ rfl (fun w hw=>HR _ l _ f w (aR hw Hl sn) (FnE.ap hw (FnE.sub Hf sn)))) rfl) rfl (go4 ?_);refine bG rfl (.inr rfl) rfl ?_;exact (by rfl)
theorem C1 (a:I) :
    Ret prog 89 [AV [pI a]] (.bool (rE a)):=by
 refine bT (N:=6) func89 rfl rfl (by simp) (fun w0=>?_);simp only [bK,Nat.reduceAdd];refine go2 ?_;intro b1 hb1;refine go4 ?_;refine sQ (bM aJ (vN a) rfl) rfl (go4 ?_);refine bG rfl (.inr rfl) rfl ?_;exact (by rfl)
theorem eG (vp:Value) (p:(List I)) (w:World) (hp:Slr w elI vp p) :
    Calls prog 43 [vp].toArray w (fun e w'=>e = .returned (.bool (aT p))∧Ext w w'):=by
 obtain ⟨p_p,c_p,rfl⟩:=hp.form;refine cQ (N:=5) func43 rfl rfl (by simp) ?_;obtain ⟨w0,rfl⟩:∃ w0,w0=w:=⟨_,rfl⟩;have Hp:=hp.old;have hm_p:=hp.max;simp only [bK,Nat.reduceAdd];refine go5 ?_;refine sQ (aS (v':=.bool (o4 p (fun (y:I)=>(rE y)))) (bE aJ rfl (fun w hw=>CQ _ p _ (fun (y:I)=>(rE y)) w (aR hw Hp sn) (FnV.mk hw aJ (fun w hw x hx=>(C1 x) w)))) rfl) rfl (go3 ?_);refine bG rfl (.inr rfl) rfl ?_;exact (by rfl)
theorem FX (vl:Value) (l:(List Rt)) (vf:Value) (f:Rt→Bool) (w:World) (hl:Slr w KL vl l) (hf:FnV prog w vf eRt (fun _=>True) (bm_ f)) :
    Calls prog 182 [vl,vf].toArray w (fun e w'=>e = .returned (.int .i64 ((n4 l f).1))∧Ext w w'):=by
 obtain ⟨p_l,c_l,rfl⟩:=hl.form;obtain ⟨g_f,c_f,rfl,Hf⟩:=hf.open;refine cQ (N:=19) func182 rfl rfl (by simp) ?_;obtain ⟨w0,rfl⟩:∃ w0,w0=w:=⟨_,rfl⟩;have Hl:=hl.old;have hm_l:=hl.max;simp only [bK,Nat.reduceAdd];refine go6 ?_;refine sQ (aS (v':=.int .i64 (((l).length:Nat):Int)) (dW (e:=KL) ZW rfl (SLe.sub Hl sn)) rfl) rfl (go2 ?_);refine gJ3 [4,5,8,9,10,11,12,13,14,15,16,17,18] (fun g M=>∃ (i:Nat),(j8 l f ((l.length+1)) 0) = .inl i∧(g 8 = .int .i64 ((i:Nat):Int))∧M=[]) (fun K_u1 hK_u1=>?_) ?_
 ·refine go_ ?_;refine cF [4,5,8,9,10,11,12,13,14,15,16,17,18] (fun g nn M=>∃ (i:Nat),(j8 l f nn i)=(j8 l f ((l.length+1)) 0)∧l.length - i<nn∧(i≤l.length)∧(g 8 = .int .i64 ((i:Nat):Int))∧M=[]) ((l.length+1)) ?start ?round
  case start=>exact ⟨_,s0,0,rfl,o1_,o1_,rfl,rfl⟩
  case round =>
   rintro nn g M ⟨i,hT0,hq0,hinv0,hg8,rfl⟩;obtain ⟨k0,rfl⟩:∃ m,nn=m+1:=⟨nn - 1,by omega⟩;simp only [eH,hg8];clear hg8;refine go4 ?_;refine aQ _ rfl (fun h6=>?_) (fun h6=>?_)
   ·have ph6:=of_decide_eq_true h6;refine vK ?_;refine sQ (aS (v':=.pointer (some (slb (.slice p_l l.length c_l) (i * 36+0)))) (kZ (e:=KL) (l:=l) (k:=i) ZW rfl rfl (SLe.sub Hl sn) o2_) rfl) rfl ?_;refine sQ (j7 (e:=KL) (l:=l) (k:=i) (o:=0) tyT rfl (SLe.sub Hl sn) (dN Rt0 o2_) rfl) rfl ?_;refine sQ (aS (v':=.bool (f (l.getD i Rt0))) (Y1 (x:=(l.getD i Rt0)) rfl rfl (FnE.sub Hf sn) trivial) rfl) rfl (go_ ?_);refine aQ _ rfl (fun h7=>?_) (fun h7=>?_)
    ·refine go5 ?_;refine bG rfl (.inr rfl) rfl ?_;refine (show (.int .i64 ((i:Nat):Int):Value) = .int .i64 ((W.cv ((i:Nat):Int)).1) by simp only [cvE (t:=((i:Nat):Int)) oo_]).trans ?_;exact congrArg vS7 (show _=(n4 l f) from (vO rfl (hT0.symm.trans (Eq.symm (aW h6 (aW h7 rfl))))))
    refine go2 ?_;refine sV (.int .i64 (((i+1):Nat):Int)) rfl (congrArg (Value.int .i64) (wx oo_ oo_ oo_)) (go2 ?_);refine ⟨pp_,_,_,s0,(Nat.lt_succ_self _),(i+1),(by exact (hT0.symm.trans (Eq.symm (aW h6 (aM h7 rfl)))).symm),(Nat.lt_of_lt_of_le o1_ (Nat.le_of_lt_succ hq0)),o1_,rfl,rfl⟩
   have ph6:=of_decide_eq_false h6;refine go_ ?_;refine hK_u1 _ _ pp_ ⟨_,s0,i,(by exact hT0.symm.trans (Eq.symm (aM h6 rfl))),rfl,rfl⟩
 rintro g M ⟨i,hCu1,hg8,rfl⟩;simp only [eH,hg8];clear hg8;refine go4 ?_;refine bG rfl (.inr rfl) rfl ?_;exact congrArg vS7 (show _=(n4 l f) from trs (Eq.symm (smS hCu1)) rfl)
theorem BI (vl:Value) (l:(List Rt)) (vf:Value) (f:Rt→Bool) (w:World) (hl:Slr w KL vl l) (hf:FnV prog w vf eRt (fun _=>True) (bm_ f)) :
    Calls prog 164 [vl,vf].toArray w (fun e w'=>e = .returned (.bool (oF l f))∧Ext w w'):=by
 obtain ⟨p_l,c_l,rfl⟩:=hl.form;obtain ⟨g_f,c_f,rfl,Hf⟩:=hf.open;refine cQ (N:=9) func164 rfl rfl (by simp) ?_;obtain ⟨w0,rfl⟩:∃ w0,w0=w:=⟨_,rfl⟩;have Hl:=hl.old;have hm_l:=hl.max;simp only [bK,Nat.reduceAdd];refine go6 ?_;refine sQ (aS (v':=.int .i64 ((n4 l f).1)) (bE aJ rfl (fun w hw=>FX _ l _ f w (aR hw Hl sn) (FnE.ap hw (FnE.sub Hf sn)))) rfl) rfl (go4 ?_);refine bG rfl (.inr rfl) rfl ?_;exact (by rfl)
theorem EB (a:Rt) :
    Ret prog 165 [AV [pI a.n,pI a.d]] (.bool (jX a)):=by
 refine bT (N:=6) func165 rfl rfl (by simp) (fun w0=>?_);simp only [bK,Nat.reduceAdd];refine go2 ?_;intro b1 hb1;refine go4 ?_;refine sQ (bM aJ (lJ a) rfl) rfl (go4 ?_);refine bG rfl (.inr rfl) rfl ?_;exact (by rfl)
theorem vM (vl:Value) (l:(List Rt)) (w:World) (hl:Slr w KL vl l) :
    Calls prog 112 [vl].toArray w (fun e w'=>e = .returned (.bool (jF l))∧Ext w w'):=by
 obtain ⟨p_l,c_l,rfl⟩:=hl.form;refine cQ (N:=6) func112 rfl rfl (by simp) ?_;obtain ⟨w0,rfl⟩:∃ w0,w0=w:=⟨_,rfl⟩;have Hl:=hl.old;have hm_l:=hl.max;simp only [bK,Nat.reduceAdd];refine go5 ?_;refine sQ (aS (v':=.bool (oF l (fun (y:Rt)=>(jX y)))) (bE aJ rfl (fun w hw=>BI _ l _ (fun (y:Rt)=>(jX y)) w (aR hw Hl sn) (FnV.mk hw aJ (fun w hw x hx=>(EB x) w)))) rfl) rfl (go4 ?_);refine bG rfl (.inr rfl) rfl ?_;exact (by rfl)
end Go.Proofs.YtokjfhfiodopdaaGreat
