/- Lemmas: what they ask stands in their statements. -/
import Derived.Test.YtbjlhfochebmiaaGreatDoorXQa
set_option linter.unusedSimpArgs false
set_option linter.unusedVariables false
set_option maxHeartbeats 8000000
set_option maxRecDepth 20000
namespace Go.Proofs.YtbjlhfochebmiaaGreatDoor
open Go.Kn Go.Num
attribute [local irreducible] Go.Kn.W WL PL OpQ OpR OpS
theorem E0 (a:(A3 W)) :
    Ret Tryz.prog 33 [AV [cw a.x.1,cw a.y.1,cw a.z.1]] (AV [pI (((kK a).x).n),pI (((kK a).x).d),pI (((kK a).y).n),pI (((kK a).y).d),pI (((kK a).z).n),pI (((kK a).z).d)]):=by
 refine aW (N:=13) Tryz.func33 rfl rfl (by simp) (fun w0=>?_);simp only [bA,Nat.reduceAdd];refine go2 ?_;intro b1 hb1;refine go_ ?_;intro b2 hb2;refine go_ ?_;refine gds (sd (sk (s0))) [0,4,8,12,16,20,24,28,32,36,41] [10] mix (by kernel_rfl) (go2 ?_);refine pQ rfl (aZ gC (bF a.x) rfl) (go2 ?_);refine pQ rfl (aZ gC (bF a.y) rfl) (go2 ?_);refine pQ rfl (aZ gC (bF a.z) rfl) (pQ rfl (cE zpT arT rfl (.cons [pI ((cG a.x).n),pI ((cG a.x).d)] [pI ((cG a.x).n),pI ((cG a.x).d),pI I0,pI I0,pI I0,pI I0] rfl rfl rfl rfl (.cons [pI ((cG a.y).n),pI ((cG a.y).d)] [pI ((cG a.x).n),pI ((cG a.x).d),pI ((cG a.y).n),pI ((cG a.y).d),pI I0,pI I0] rfl rfl rfl rfl (.cons [pI ((cG a.z).n),pI ((cG a.z).d)] [pI ((cG a.x).n),pI ((cG a.x).d),pI ((cG a.y).n),pI ((cG a.y).d),pI ((cG a.z).n),pI ((cG a.z).d)] rfl rfl rfl rfl (.nil _))))) (go3 ?_));refine aS rfl (.inr rfl) (fB rfl m0 tyT rfl) ?_;exact (by rfl)

theorem BT (a:(A3 Rt)) (b:(A3 Rt)) :
    Ret Tryz.prog 60 [AV [pI a.x.n,pI a.x.d,pI a.y.n,pI a.y.d,pI a.z.n,pI a.z.d],AV [pI b.x.n,pI b.x.d,pI b.y.n,pI b.y.d,pI b.z.n,pI b.z.d]] (AV [pI (((iF a b).x).n),pI (((iF a b).x).d),pI (((iF a b).y).n),pI (((iF a b).y).d),pI (((iF a b).z).n),pI (((iF a b).z).d)]):=by
 refine aW (N:=20) Tryz.func60 rfl rfl (by simp) (fun w0=>?_);simp only [bA,Nat.reduceAdd];refine go2 ?_;intro b1 hb1;refine go_ ?_;intro b2 hb2;refine go_ ?_;intro b3 hb3;refine go6 ?_;refine qQ 5 (go2 ?_);refine sV (.bool true) rfl rfl (iE ?_);refine gdr (sk (sk (sd (s0)))) [0,4,8,12,16,20,24,28,32,37] [9] mix (by kernel_rfl) (go7 ?_);refine pQ rfl (aZ ND (qG a.x b.x) rfl) (go4 ?_);refine sV (.int .i64 1) rfl rfl (go4 ?_);refine sV (.bool true) rfl rfl (iE ?_);refine gdr (sk (sk (sd (s0)))) [0,4,8,12,16,20,24,28,32,37] [9] mix (by kernel_rfl) (go7 ?_);refine pQ rfl (aZ ND (qG a.y b.y) rfl) (go4 ?_);refine sV (.int .i64 2) rfl rfl (go4 ?_);refine sV (.bool true) rfl rfl (iE ?_);refine gdr (sk (sk (sd (s0)))) [0,4,8,12,16,20,24,28,32,37] [9] mix (by kernel_rfl) (go7 ?_);refine pQ rfl (aZ ND (qG a.z b.z) rfl) (go4 ?_);refine sV (.int .i64 3) rfl rfl (go4 ?_);refine sV (.bool false) rfl rfl (go9 ?_);refine aS rfl (.inr rfl) (fB rfl m0 tyT rfl) ?_;exact (by rfl)

theorem oY (a:Pose) :
    Ret Tryz.prog 52 [AV [cw a.x.x.1,cw a.x.y.1,cw a.x.z.1,cw a.q.x.1,cw a.q.y.1,cw a.q.z.1,cw a.q.t.1]] (.int .i64 ((gV a).1)):=by
 refine aW (N:=21) Tryz.func52 rfl rfl (by simp) (fun w0=>?_);simp only [bA,Nat.reduceAdd];refine go2 ?_;intro b1 hb1;refine go9 ?_;refine qQ 5 (go2 ?_);refine sV (.bool true) rfl rfl (iE ?_);refine gJv [10,11,12,13,14,15] [(15,.bool (decide (140737488355328≤a.x.x.1)||decide (a.x.x.1≤(-140737488355328))))] (fun K5 J5=>?_) ?_
 ·refine go3 ?_;refine sBB rfl (fun h3=>?_) (fun h3=>?_)
  ·have ph3:=of_decide_eq_true h3;refine go4 ?_;refine J5 _ _ pp_ s0 (bQ (oM h3))
  have ph3:=of_decide_eq_false h3;refine go4 ?_;refine J5 _ _ pp_ s0 (bQ (mY h3 rfl))
 intro g4;refine aK _ rfl (fun h5=>?_) (fun h5=>?_)
 ·refine go4 ?_;refine aS rfl (.inr rfl) rfl ?_;exact congrArg vS5 (show _=(gV a) from aE h5 rfl)
 refine go2 ?_;refine sV (.int .i64 1) rfl rfl (go4 ?_);refine sV (.bool true) rfl rfl (iE ?_);refine gJv [10,11,12,13,14,15] [(15,.bool (decide (140737488355328≤a.x.y.1)||decide (a.x.y.1≤(-140737488355328))))] (fun K9 J9=>?_) ?_
 ·refine go3 ?_;refine sBB rfl (fun h7=>?_) (fun h7=>?_)
  ·have ph7:=of_decide_eq_true h7;refine go4 ?_;refine J9 _ _ pp_ s0 (bQ (oM h7))
  have ph7:=of_decide_eq_false h7;refine go4 ?_;refine J9 _ _ pp_ s0 (bQ (mY h7 rfl))
 intro g8;refine aK _ rfl (fun h9=>?_) (fun h9=>?_)
 ·refine go4 ?_;refine aS rfl (.inr rfl) rfl ?_;exact congrArg vS5 (show _=(gV a) from aM h5 (aE h9 rfl))
 refine go2 ?_;refine sV (.int .i64 2) rfl rfl (go4 ?_);refine sV (.bool true) rfl rfl (iE ?_);refine gJv [10,11,12,13,14,15] [(15,.bool (decide (140737488355328≤a.x.z.1)||decide (a.x.z.1≤(-140737488355328))))] (fun K13 J13=>?_) ?_
 ·refine go3 ?_;refine sBB rfl (fun h11=>?_) (fun h11=>?_)
  ·have ph11:=of_decide_eq_true h11;refine go4 ?_;refine J13 _ _ pp_ s0 (bQ (oM h11))
  have ph11:=of_decide_eq_false h11;refine go4 ?_;refine J13 _ _ pp_ s0 (bQ (mY h11 rfl))
 intro g12;refine aK _ rfl (fun h13=>?_) (fun h13=>?_)
 ·refine go4 ?_;refine aS rfl (.inr rfl) rfl ?_;exact congrArg vS5 (show _=(gV a) from aM h5 (aM h9 (aE h13 rfl)))
 refine go2 ?_;refine sV (.int .i64 3) rfl rfl (go4 ?_);refine sV (.bool false) rfl rfl (go8 ?_);refine sQ (aZ Y2 (DS a.q) rfl) rfl (go2 ?_);rcases bt (oQ a.q) with h14 | h14
 ·refine W_f (iX h14) rfl (go5 ?_);refine aS rfl (.inr rfl) rfl ?_;exact congrArg vS5 (show _=(gV a) from aM h5 (aM h9 (aM h13 (aE h14 rfl))))
 refine W_t (iY h14) rfl (go4 ?_);refine aS rfl (.inr rfl) rfl ?_;exact congrArg vS5 (show _=(gV a) from aM h5 (aM h9 (aM h13 (aM h14 rfl))))

theorem r9 (a:Path) :
    Ret Tryz.prog 51 [AV [cw a.from_.x.x.1,cw a.from_.x.y.1,cw a.from_.x.z.1,cw a.from_.q.x.1,cw a.from_.q.y.1,cw a.from_.q.z.1,cw a.from_.q.t.1,cw a.to_.x.x.1,cw a.to_.x.y.1,cw a.to_.x.z.1,cw a.to_.q.x.1,cw a.to_.q.y.1,cw a.to_.q.z.1,cw a.to_.q.t.1]] (.int .i64 ((k7 a).1)):=by
 refine aW (N:=13) Tryz.func51 rfl rfl (by simp) (fun w0=>?_);simp only [bA,Nat.reduceAdd];refine go2 ?_;intro b1 hb1;refine go3 ?_;refine gJv [3,4,5,6,7,8,9,10,11,12] [(12,.bool (((gV a.from_).1 != 0)||((gV a.to_).1 != 0)))] (fun K2 J2=>?_) ?_
 ·refine go3 ?_;refine sQ (aZ NB (oY a.from_) rfl) rfl (go_ ?_);refine sBB rfl (fun h3=>?_) (fun h3=>?_)
  ·refine go6 ?_;refine J2 _ _ pp_ s0 (bQ (oM h3))
  refine go2 ?_;refine sQ (aZ NB (oY a.to_) rfl) rfl (go3 ?_);refine J2 _ _ pp_ s0 (bQ (mY h3 rfl))
 intro g4;refine aK _ rfl (fun h5=>?_) (fun h5=>?_)
 ·refine go4 ?_;refine aS rfl (.inr rfl) rfl ?_;exact congrArg vS5 (show _=(k7 a) from aE h5 rfl)
 refine go5 ?_;refine aS rfl (.inr rfl) rfl ?_;exact congrArg vS5 (show _=(k7 a) from aM h5 rfl)

theorem e8 (a:Pose) (b:(A3 W)) :
    Ret Tryz.prog 15 [AV [cw a.x.x.1,cw a.x.y.1,cw a.x.z.1,cw a.q.x.1,cw a.q.y.1,cw a.q.z.1,cw a.q.t.1],AV [cw b.x.1,cw b.y.1,cw b.z.1]] (AV [pI (((eC a b).x).n),pI (((eC a b).x).d),pI (((eC a b).y).n),pI (((eC a b).y).d),pI (((eC a b).z).n),pI (((eC a b).z).d)]):=by
 refine aW (N:=13) Tryz.func15 rfl rfl (by simp) (fun w0=>?_);simp only [bA,Nat.reduceAdd];refine go2 ?_;intro b1 hb1;refine go_ ?_;intro b2 hb2;refine go_ ?_;intro b3 hb3;refine go_ ?_;refine gds (sd s0) [0,4,8,12,16,20,24,28,33] [8] mix (by kernel_rfl) (go2 ?_);obtain ⟨r4,hr4⟩:=nm ((kK a.x):(A3 Rt));refine pC (AV [pI r4.x.n,pI r4.x.d,pI r4.y.n,pI r4.y.d,pI r4.z.n,pI r4.z.d]) br_ (E0 a.x) rfl rfl (by rw [hr4]) (go3 ?_);obtain ⟨r5,hr5⟩:=nm ((gS a.q b):(A3 Rt));refine pC (AV [pI r5.x.n,pI r5.x.d,pI r5.y.n,pI r5.y.d,pI r5.z.n,pI r5.z.d]) bA_ (BQ a.q b) rfl rfl (by rw [hr5]) ?_;obtain ⟨r6,hr6⟩:=nm ((iF r4 r5):(A3 Rt));refine pC (AV [pI r6.x.n,pI r6.x.d,pI r6.y.n,pI r6.y.d,pI r6.z.n,pI r6.z.d]) bz_ (BT r4 r5) rfl rfl (by rw [hr6]) (go3 ?_);refine aS rfl (.inr rfl) (fB rfl m0 tyT rfl) ?_;exact (by subst_vars;rfl)
theorem yD (a:I) :
    Ret Tryz.prog 137 [AV [pI a]] (AV [pI (iS a)]):=by
 refine aW (N:=4) Tryz.func137 rfl rfl (by simp) (fun w0=>?_);simp only [bA,Nat.reduceAdd];refine go2 ?_;intro b1 hb1;refine go_ ?_;intro b2 hb2;refine go6 ?_;refine aS rfl (.inr rfl) (fB rfl m0 tyT rfl) ?_;exact (by rfl)

theorem qE (a:I) :
    Ret Tryz.prog 129 [AV [pI a]] (.bool (kI a)):=by
 refine aW (N:=10) Tryz.func129 rfl rfl (by simp) (fun w0=>?_);simp only [bA,Nat.reduceAdd];refine go2 ?_;intro b1 hb1;refine go2 ?_;refine gJv [2,3,4,5,6,7,8,9] [(2,.bool (!a.1.bad&&a.1.valid))] (fun K1 J1=>?_) ?_
 ·refine go4 ?_;rcases bt a.1.bad with h3 | h3
  ·refine sB (iX h3) rfl (go5 ?_);refine J1 _ _ pp_ s0 (bQ (G9 h3))
  refine sB (iY h3) rfl (go_ ?_);refine sC (.bool a.1.valid) GU (n4 a.1 a.2) rfl rfl rfl (go3 ?_);refine J1 _ _ pp_ s0 (bQ (G7 h3 rfl))
 intro g4;refine go_ ?_;refine aS rfl (.inr rfl) rfl ?_;exact (by rfl)

theorem lT  (w:World)  :
    Calls Tryz.prog 130 [].toArray w (fun e w'=>∃ v,e = .returned (v)∧Ext w w'∧Slo w.heap.size w' 33 elI v F_poly_bad):=by
 refine fD (n:=3) (fun v=>v) Tryz.func130 rfl rfl (by simp) ?_;obtain ⟨w0,rfl⟩:∃ w0,w0=w:=⟨_,rfl⟩;simp only [bA,Nat.reduceAdd];obtain ⟨q0,hq0⟩:=nm ((E Z.bad):I);refine go4 ?_;refine sC (AV [pI q0]) lQ dR rfl rfl (by subst hq0;rfl) (aU rfl (bW [[pI q0]] [pI q0] yF i2 mM rfl dd_ rfl rfl ⟨rfl,rfl,rfl,trivial⟩ rfl (fun b1 hb1=>go3 ?_)));refine aS rfl (.inr rfl) rfl ?_
 have hE:([q0]:(List I))=F_poly_bad:=by obtain rfl:=hq0.symm;exact rfl
 rw [← hE];exact ⟨_,rfl,⟨_,(sk sn),OwnG.lit (e:=elI) (l:=[q0]) (qs:=[pI q0]) hb1 rfl (Nat.le_of_ble_eq_true rfl) rfl⟩⟩

theorem w4 (n:Int) (vf:Value) (f:Nat→I) (vo:Value) (o:I→I) (w:World) (hf:FnV Tryz.prog w vf eN (fun k=>(k:Int)<n) (SV f)) (ho:FnV Tryz.prog w vo eI (fun _=>True) (SV o)) (hpre:n≤200) :
    Calls Tryz.prog 135 [.int .i64 n,vf,vo].toArray w (fun e w'=>∃ v,e = .returned (v)∧Ext w w'∧Slo w.heap.size w' 33 elI v (fE n f o)):=by
 obtain ⟨g_f,c_f,rfl,Hf⟩:=hf.open;obtain ⟨g_o,c_o,rfl,Ho⟩:=ho.open;refine fD (n:=55) (fun v=>v) Tryz.func135 rfl rfl (by simp) ?_;obtain ⟨w0,rfl⟩:∃ w0,w0=w:=⟨_,rfl⟩;simp only [bA,Nat.reduceAdd];refine go5 ?_;refine sQ (aI (v':=.int .i64 (((n).toNat:Nat):Int)) (mB rfl rfl) (congrArg (Value.int .i64) oo_)) rfl (aU rfl (N0 (E:=33) (e:=elI) (n:=0) (c:=(n).toNat) 68 I0 yF (by kernel_rfl) dd_ (by kernel_rfl) rfl rfl oo_ oo_ oo_ oo_ dd_ dd_ (fun p1 L2 hO3=>go5 ?_)));refine sQ (aI (v':=.int .i64 (((n).toNat:Nat):Int)) (mB rfl rfl) (congrArg (Value.int .i64) oo_)) rfl (go2 ?_);refine gJ3 [6,7,8,9,15,16,17,18,19,20,21,22,23,24,25,26,27,28,29,30,31] (fun g M=>∃ (out:List I) (i:Nat) (p_out:Option Addr) (c_out:Nat) (L_out:List Blk),(fF n f o ((n.toNat+1)) ([]:List I) 0) = .inl (out,i)∧(g 7 = .slice p_out out.length c_out∧g 15 = .int .i64 ((i:Nat):Int)∧OwnG w0 33 elI (.slice p_out out.length c_out) out L_out)∧M=(L_out ++ [])) (fun K_u4 hK_u4=>?_) ?_
 ·refine go_ ?_;refine cC [6,7,8,9,15,16,17,18,19,20,21,22,23,24,25,26,27,28,29,30,31] (fun g nn M=>∃ (out:List I) (i:Nat) (p_out:Option Addr) (c_out:Nat) (L_out:List Blk),(fF n f o nn out i)=(fF n f o ((n.toNat+1)) ([]:List I) 0)∧n.toNat - i<nn∧(i≤n.toNat∧out.length=i)∧(g 7 = .slice p_out out.length c_out∧g 15 = .int .i64 ((i:Nat):Int)∧OwnG w0 33 elI (.slice p_out out.length c_out) out L_out)∧M=(L_out ++ [])) ((n.toNat+1)) ?start ?round
  case start=>exact ⟨_,s0,([]:List I),0,p1,((n).toNat),L2,rfl,o1_,⟨by omega,rfl⟩,⟨rfl,rfl,hO3⟩,rfl⟩
  case round =>
   rintro nn g M ⟨out,i,p_out,c_out,L_out,hT0,hq0,hinv0,⟨hg7,hg15,hO_out⟩,rfl⟩;obtain ⟨k0,rfl⟩:∃ m,nn=m+1:=⟨nn - 1,by omega⟩;simp only [eJ,hg7,hg15];clear hg7 hg15;have hm_out:=OwnG.max hO_out;refine go4 ?_;refine aK _ rfl (fun h29=>?_) (fun h29=>?_)
   ·have ph29:=of_decide_eq_true h29;refine AI ?_;refine sQ (aI (v':=AV [pI (f i)]) (MJ (x:=i) rfl rfl (FnE.sub Hf sn) (by show ((i:Nat):Int)<n;omega)) rfl) rfl (sQ (aI (v':=AV [pI (o (f i))]) (MJ (x:=(f i)) rfl rfl (FnE.sub Ho sn) trivial) rfl) rfl (go_ ?_));intro b30 hb30;refine go5 ?_;refine sQ (aZ GR (qE (o (f i))) rfl) rfl (go2 ?_);rcases bt (kI (o (f i))) with h31 | h31
    ·refine W_f (iX h31) rfl (go4 ?_);refine aU rfl (bW [[pI (o (f i))]] [pI (o (f i))] yF i2 mM rfl dd_ rfl rfl ⟨rfl,rfl,rfl,trivial⟩ rfl (fun b32 hb32=>aU rfl (uM (e:=elI) (l:=out) (m:=[(o (f i))]) 68 yF (by kernel_rfl) dd_ rfl rfl hO_out (SLe.lit (e:=elI) (l:=[(o (f i))]) m0 rfl (Nat.le_of_ble_eq_true rfl) rfl) (IO (IO wT)) (by show (out.length+1) * 68≤_;omega) dd_ (fun p33 c34 L35 hO36=>go3 ?_))));refine sV (.int .i64 (((i+1):Nat):Int)) rfl (congrArg (Value.int .i64) (wx oo_ oo_ oo_)) (go2 ?_);refine ⟨pp_,_,_,(sA (sd (sd (s0)))),(Nat.lt_succ_self _),(out ++ [(o (f i))]),(i+1),p33,c34,L35,(by exact (hT0.symm.trans (Eq.symm (aE h29 (aE h31 rfl)))).symm),(Nat.lt_of_lt_of_le o1_ (Nat.le_of_lt_succ hq0)),⟨by omega,(by rw [List.length_append];show _+1=_;omega)⟩,⟨rfl,rfl,hO36⟩,rfl⟩
    refine W_t (iY h31) rfl (go_ ?_);refine aU rfl (bK (E:=33) (e:=elI) (l:=F_poly_bad) (fun v=>v) yP rfl (fun w hw=>lT  w) (fun p37 c38 L39 hF40=>go3 ?_));refine aS rfl (.inr rfl) rfl ?_
    have hE:(F_poly_bad:(List I))=(fE n f o):=by exact (JZ rfl (hT0.symm.trans (Eq.symm (aE h29 (aM h31 rfl)))))
    rw [← hE];exact ⟨_,rfl,⟨L39,lZ,hF40⟩⟩
   have ph29:=of_decide_eq_false h29;refine go_ ?_;refine hK_u4 _ _ pp_ ⟨_,s0,out,i,p_out,c_out,L_out,(by exact hT0.symm.trans (Eq.symm (aM h29 rfl))),⟨rfl,rfl,hO_out⟩,rfl⟩
 rintro g M ⟨out,i,p_out,c_out,L_out,hCu4,⟨hg7,hg15,hO_out⟩,rfl⟩;simp only [eJ,hg7,hg15];clear hg7 hg15;have hm_out:=OwnG.max hO_out;refine tC [7,32,33,34,35,36,37,38,39,40,41,42,43,44,45,46,47,48,49] (fun g M=>∃ (cut:List I) (p_cut:Option Addr) (c_cut:Nat) (L_cut:List Blk),(fG n f o out i ((out.length+1)) out)=cut∧(g 7 = .slice p_cut cut.length c_cut∧OwnG w0 33 elI (.slice p_cut cut.length c_cut) cut L_cut)∧M=(L_cut ++ [])) (fun K_u41 hK_u41=>?_) ?_
 ·refine go_ ?_;refine cC [7,32,33,34,35,36,37,38,39,40,41,42,43,44,45,46,47,48,49] (fun g nn M=>∃ (cut:List I) (p_cut:Option Addr) (c_cut:Nat) (L_cut:List Blk),(fG n f o out i nn cut)=(fG n f o out i ((out.length+1)) out)∧cut.length<nn∧(True)∧(g 7 = .slice p_cut cut.length c_cut∧OwnG w0 33 elI (.slice p_cut cut.length c_cut) cut L_cut)∧M=(L_cut ++ [])) ((out.length+1)) ?start ?round
  case start=>exact ⟨_,s0,out,p_out,c_out,L_out,rfl,(Nat.lt_succ_self _),trivial,⟨rfl,hO_out⟩,rfl⟩
  case round =>
   rintro nn g M ⟨cut,p_cut,c_cut,L_cut,hT1,hq1,hinv1,⟨hg7,hO_cut⟩,rfl⟩;obtain ⟨k1,rfl⟩:∃ m,nn=m+1:=⟨nn - 1,by omega⟩;simp only [eJ,hg7];clear hg7;have hm_cut:=OwnG.max hO_cut;refine go_ ?_;refine gJv [32,33,34,35,36,37,38,39,40,41,42,43,44] [(44,.bool (decide (0<(((cut).length:Nat):Int))&&((Z.signW (cut.getD ((cut).length - 1) I0).dec).1==0)))] (fun K14 J14=>?_) ?_
   ·refine go2 ?_;refine sQ (aI (v':=.int .i64 (((cut).length:Nat):Int)) (fR (e:=elI) jN rfl (rO hO_cut lZ)) rfl) rfl (go_ ?_);refine sBB rfl (fun h48=>?_) (fun h48=>?_)
    ·have ph48:=of_decide_eq_true h48;refine go2 ?_;refine sQ (aI (v':=.int .i64 (((cut).length:Nat):Int)) (fR (e:=elI) jN rfl (rO hO_cut lZ)) rfl) rfl (sV (.int .i64 ((((cut).length:Nat):Int) - 1)) rfl (congrArg (Value.int .i64) (wx oo_ oo_ oo_)) (sQ (aI (v':=.pointer (some (slb (.slice p_cut cut.length c_cut) (((cut).length - 1) * 18+0)))) (yX (e:=elI) (l:=cut) (k:=((cut).length - 1)) jN rfl rfl oo_ (rO hO_cut lZ) o2_) rfl) rfl ?_));refine sQ (pG (e:=elI) (l:=cut) (k:=((cut).length - 1)) (o:=0) tyT rfl (rO hO_cut lZ) (fU I0 o2_) rfl) rfl ?_;refine sC (.int .i64 ((Z.signW (cut.getD ((cut).length - 1) I0).dec).1)) u4 (iQ (cut.getD ((cut).length - 1) I0).1 (cut.getD ((cut).length - 1) I0).2) rfl rfl rfl (go3 ?_);refine J14 _ _ pp_ s0 (bQ (iI h48 rfl))
    have ph48:=of_decide_eq_false h48;refine iE ?_;refine J14 _ _ pp_ s0 (bQ (lV h48))
   intro g49;refine aK _ rfl (fun h50=>?_) (fun h50=>?_)
   ·have ph51:=of_decide_eq_true (Bool.and_eq_true_iff.1 h50).1;refine go5 ?_;refine sQ (aI (v':=.int .i64 (((cut).length:Nat):Int)) (fR (e:=elI) jN rfl (rO hO_cut lZ)) rfl) rfl (sV (.int .i64 ((((cut).length:Nat):Int) - 1)) rfl (congrArg (Value.int .i64) (wx oo_ oo_ oo_)) (sQ (NX (e:=elI) (l:=cut) (k:=((cut).length - 1)) jN rfl rfl oo_ hO_cut oo_) rfl (go2 ?_)));refine ⟨pp_,_,_,s0,(Nat.lt_succ_self _),(cut.take ((cut).length - 1)),p_cut,c_cut,L_cut,(by exact (hT1.symm.trans (Eq.symm (aE h50 rfl))).symm),(Nat.lt_of_lt_of_le (by rw [List.length_take];omega) (Nat.le_of_lt_succ hq1)),trivial,⟨rfl,(OwnG.take hO_cut oo_)⟩,rfl⟩
   refine go_ ?_;refine hK_u41 _ _ pp_ ⟨_,s0,cut,p_cut,c_cut,L_cut,(by exact hT1.symm.trans (Eq.symm (aM h50 rfl))),⟨rfl,hO_cut⟩,rfl⟩
 rintro g M ⟨cut,p_cut,c_cut,L_cut,hCu41,⟨hg7,hO_cut⟩,rfl⟩;simp only [eJ,hg7];clear hg7;have hm_cut:=OwnG.max hO_cut;refine go3 ?_;refine sQ (aI (v':=.int .i64 (((cut).length:Nat):Int)) (fR (e:=elI) jN rfl (rO hO_cut lZ)) rfl) rfl (go2 ?_);refine aK _ rfl (fun h52=>?_) (fun h52=>?_)
 ·have ph52:=of_decide_eq_true h52;refine go_ ?_;refine aU rfl (bK (E:=33) (e:=elI) (l:=F_poly_bad) (fun v=>v) yP rfl (fun w hw=>lT  w) (fun p53 c54 L55 hF56=>go3 ?_));refine aS rfl (.inr rfl) rfl ?_
  have hE:(F_poly_bad:(List I))=(fE n f o):=by exact trs (Eq.symm (smS hCu4)) (trs (Eq.symm (apS hCu41)) (aE h52 rfl))
  rw [← hE];exact ⟨_,rfl,⟨L55,lZ,hF56⟩⟩
 have ph52:=of_decide_eq_false h52;refine go6 ?_;refine aS rfl (.inr rfl) rfl ?_
 have hE:(cut:(List I))=(fE n f o):=by exact trs (Eq.symm (smS hCu4)) (trs (Eq.symm (apS hCu41)) (aM h52 rfl))
 rw [← hE];exact ⟨_,rfl,⟨L_cut,lZ,hO_cut⟩⟩

theorem BK (n:Int) (vf:Value) (f:Nat→Go.Num.W) (vo:Value) (o:Go.Num.W→I) (w:World) (hf:FnV Tryz.prog w vf eN (fun k=>(k:Int)<n) (de_ f)) (ho:FnV Tryz.prog w vo eW (fun _=>True) (SV o)) (hpre:n≤200) :
    Calls Tryz.prog 138 [.int .i64 n,vf,vo].toArray w (fun e w'=>∃ v,e = .returned (v)∧Ext w w'∧Slo w.heap.size w' 33 elI v (i5 n f o)):=by
 obtain ⟨g_f,c_f,rfl,Hf⟩:=hf.open;obtain ⟨g_o,c_o,rfl,Ho⟩:=ho.open;refine fD (n:=55) (fun v=>v) Tryz.func138 rfl rfl (by simp) ?_;obtain ⟨w0,rfl⟩:∃ w0,w0=w:=⟨_,rfl⟩;simp only [bA,Nat.reduceAdd];refine go5 ?_;refine sQ (aI (v':=.int .i64 (((n).toNat:Nat):Int)) (mB rfl rfl) (congrArg (Value.int .i64) oo_)) rfl (aU rfl (N0 (E:=33) (e:=elI) (n:=0) (c:=(n).toNat) 68 I0 yF (by kernel_rfl) dd_ (by kernel_rfl) rfl rfl oo_ oo_ oo_ oo_ dd_ dd_ (fun p1 L2 hO3=>go5 ?_)));refine sQ (aI (v':=.int .i64 (((n).toNat:Nat):Int)) (mB rfl rfl) (congrArg (Value.int .i64) oo_)) rfl (go2 ?_);refine gJ3 [6,7,8,9,15,16,17,18,19,20,21,22,23,24,25,26,27,28,29,30,31] (fun g M=>∃ (out:List I) (i:Nat) (p_out:Option Addr) (c_out:Nat) (L_out:List Blk),(gI n f o ((n.toNat+1)) ([]:List I) 0) = .inl (out,i)∧(g 7 = .slice p_out out.length c_out∧g 15 = .int .i64 ((i:Nat):Int)∧OwnG w0 33 elI (.slice p_out out.length c_out) out L_out)∧M=(L_out ++ [])) (fun K_u4 hK_u4=>?_) ?_
 ·refine go_ ?_;refine cC [6,7,8,9,15,16,17,18,19,20,21,22,23,24,25,26,27,28,29,30,31] (fun g nn M=>∃ (out:List I) (i:Nat) (p_out:Option Addr) (c_out:Nat) (L_out:List Blk),(gI n f o nn out i)=(gI n f o ((n.toNat+1)) ([]:List I) 0)∧n.toNat - i<nn∧(i≤n.toNat∧out.length=i)∧(g 7 = .slice p_out out.length c_out∧g 15 = .int .i64 ((i:Nat):Int)∧OwnG w0 33 elI (.slice p_out out.length c_out) out L_out)∧M=(L_out ++ [])) ((n.toNat+1)) ?start ?round
  case start=>exact ⟨_,s0,([]:List I),0,p1,((n).toNat),L2,rfl,o1_,⟨by omega,rfl⟩,⟨rfl,rfl,hO3⟩,rfl⟩
  case round =>
   rintro nn g M ⟨out,i,p_out,c_out,L_out,hT0,hq0,hinv0,⟨hg7,hg15,hO_out⟩,rfl⟩;obtain ⟨k0,rfl⟩:∃ m,nn=m+1:=⟨nn - 1,by omega⟩;simp only [eJ,hg7,hg15];clear hg7 hg15;have hm_out:=OwnG.max hO_out;refine go4 ?_;refine aK _ rfl (fun h29=>?_) (fun h29=>?_)
   ·have ph29:=of_decide_eq_true h29;refine AI ?_;refine sQ (aI (v':=.int .i64 ((f i).1)) (MJ (x:=i) rfl rfl (FnE.sub Hf sn) (by show ((i:Nat):Int)<n;omega)) rfl) rfl (sQ (aI (v':=AV [pI (o (f i))]) (MJ (x:=(f i)) rfl rfl (FnE.sub Ho sn) trivial) rfl) rfl (go_ ?_));intro b30 hb30;refine go5 ?_;refine sQ (aZ GR (qE (o (f i))) rfl) rfl (go2 ?_);rcases bt (kI (o (f i))) with h31 | h31
    ·refine W_f (iX h31) rfl (go4 ?_);refine aU rfl (bW [[pI (o (f i))]] [pI (o (f i))] yF i2 mM rfl dd_ rfl rfl ⟨rfl,rfl,rfl,trivial⟩ rfl (fun b32 hb32=>aU rfl (uM (e:=elI) (l:=out) (m:=[(o (f i))]) 68 yF (by kernel_rfl) dd_ rfl rfl hO_out (SLe.lit (e:=elI) (l:=[(o (f i))]) m0 rfl (Nat.le_of_ble_eq_true rfl) rfl) (IO (IO wT)) (by show (out.length+1) * 68≤_;omega) dd_ (fun p33 c34 L35 hO36=>go3 ?_))));refine sV (.int .i64 (((i+1):Nat):Int)) rfl (congrArg (Value.int .i64) (wx oo_ oo_ oo_)) (go2 ?_);refine ⟨pp_,_,_,(sA (sd (sd (s0)))),(Nat.lt_succ_self _),(out ++ [(o (f i))]),(i+1),p33,c34,L35,(by exact (hT0.symm.trans (Eq.symm (aE h29 (aE h31 rfl)))).symm),(Nat.lt_of_lt_of_le o1_ (Nat.le_of_lt_succ hq0)),⟨by omega,(by rw [List.length_append];show _+1=_;omega)⟩,⟨rfl,rfl,hO36⟩,rfl⟩
    refine W_t (iY h31) rfl (go_ ?_);refine aU rfl (bK (E:=33) (e:=elI) (l:=F_poly_bad) (fun v=>v) yP rfl (fun w hw=>lT  w) (fun p37 c38 L39 hF40=>go3 ?_));refine aS rfl (.inr rfl) rfl ?_
    have hE:(F_poly_bad:(List I))=(i5 n f o):=by exact (JZ rfl (hT0.symm.trans (Eq.symm (aE h29 (aM h31 rfl)))))
    rw [← hE];exact ⟨_,rfl,⟨L39,lZ,hF40⟩⟩
   have ph29:=of_decide_eq_false h29;refine go_ ?_;refine hK_u4 _ _ pp_ ⟨_,s0,out,i,p_out,c_out,L_out,(by exact hT0.symm.trans (Eq.symm (aM h29 rfl))),⟨rfl,rfl,hO_out⟩,rfl⟩
 rintro g M ⟨out,i,p_out,c_out,L_out,hCu4,⟨hg7,hg15,hO_out⟩,rfl⟩;simp only [eJ,hg7,hg15];clear hg7 hg15;have hm_out:=OwnG.max hO_out;refine tC [7,32,33,34,35,36,37,38,39,40,41,42,43,44,45,46,47,48,49] (fun g M=>∃ (cut:List I) (p_cut:Option Addr) (c_cut:Nat) (L_cut:List Blk),(gJ n f o out i ((out.length+1)) out)=cut∧(g 7 = .slice p_cut cut.length c_cut∧OwnG w0 33 elI (.slice p_cut cut.length c_cut) cut L_cut)∧M=(L_cut ++ [])) (fun K_u41 hK_u41=>?_) ?_
 ·refine go_ ?_;refine cC [7,32,33,34,35,36,37,38,39,40,41,42,43,44,45,46,47,48,49] (fun g nn M=>∃ (cut:List I) (p_cut:Option Addr) (c_cut:Nat) (L_cut:List Blk),(gJ n f o out i nn cut)=(gJ n f o out i ((out.length+1)) out)∧cut.length<nn∧(True)∧(g 7 = .slice p_cut cut.length c_cut∧OwnG w0 33 elI (.slice p_cut cut.length c_cut) cut L_cut)∧M=(L_cut ++ [])) ((out.length+1)) ?start ?round
  case start=>exact ⟨_,s0,out,p_out,c_out,L_out,rfl,(Nat.lt_succ_self _),trivial,⟨rfl,hO_out⟩,rfl⟩
  case round =>
   rintro nn g M ⟨cut,p_cut,c_cut,L_cut,hT1,hq1,hinv1,⟨hg7,hO_cut⟩,rfl⟩;obtain ⟨k1,rfl⟩:∃ m,nn=m+1:=⟨nn - 1,by omega⟩;simp only [eJ,hg7];clear hg7;have hm_cut:=OwnG.max hO_cut;refine go_ ?_;refine gJv [32,33,34,35,36,37,38,39,40,41,42,43,44] [(44,.bool (decide (0<(((cut).length:Nat):Int))&&((Z.signW (cut.getD ((cut).length - 1) I0).dec).1==0)))] (fun K14 J14=>?_) ?_
   ·refine go2 ?_;refine sQ (aI (v':=.int .i64 (((cut).length:Nat):Int)) (fR (e:=elI) jN rfl (rO hO_cut lZ)) rfl) rfl (go_ ?_);refine sBB rfl (fun h48=>?_) (fun h48=>?_)
    ·have ph48:=of_decide_eq_true h48;refine go2 ?_;refine sQ (aI (v':=.int .i64 (((cut).length:Nat):Int)) (fR (e:=elI) jN rfl (rO hO_cut lZ)) rfl) rfl (sV (.int .i64 ((((cut).length:Nat):Int) - 1)) rfl (congrArg (Value.int .i64) (wx oo_ oo_ oo_)) (sQ (aI (v':=.pointer (some (slb (.slice p_cut cut.length c_cut) (((cut).length - 1) * 18+0)))) (yX (e:=elI) (l:=cut) (k:=((cut).length - 1)) jN rfl rfl oo_ (rO hO_cut lZ) o2_) rfl) rfl ?_));refine sQ (pG (e:=elI) (l:=cut) (k:=((cut).length - 1)) (o:=0) tyT rfl (rO hO_cut lZ) (fU I0 o2_) rfl) rfl ?_;refine sC (.int .i64 ((Z.signW (cut.getD ((cut).length - 1) I0).dec).1)) u4 (iQ (cut.getD ((cut).length - 1) I0).1 (cut.getD ((cut).length - 1) I0).2) rfl rfl rfl (go3 ?_);refine J14 _ _ pp_ s0 (bQ (iI h48 rfl))
    have ph48:=of_decide_eq_false h48;refine iE ?_;refine J14 _ _ pp_ s0 (bQ (lV h48))
   intro g49;refine aK _ rfl (fun h50=>?_) (fun h50=>?_)
   ·have ph51:=of_decide_eq_true (Bool.and_eq_true_iff.1 h50).1;refine go5 ?_;refine sQ (aI (v':=.int .i64 (((cut).length:Nat):Int)) (fR (e:=elI) jN rfl (rO hO_cut lZ)) rfl) rfl (sV (.int .i64 ((((cut).length:Nat):Int) - 1)) rfl (congrArg (Value.int .i64) (wx oo_ oo_ oo_)) (sQ (NX (e:=elI) (l:=cut) (k:=((cut).length - 1)) jN rfl rfl oo_ hO_cut oo_) rfl (go2 ?_)));refine ⟨pp_,_,_,s0,(Nat.lt_succ_self _),(cut.take ((cut).length - 1)),p_cut,c_cut,L_cut,(by exact (hT1.symm.trans (Eq.symm (aE h50 rfl))).symm),(Nat.lt_of_lt_of_le (by rw [List.length_take];omega) (Nat.le_of_lt_succ hq1)),trivial,⟨rfl,(OwnG.take hO_cut oo_)⟩,rfl⟩
   refine go_ ?_;refine hK_u41 _ _ pp_ ⟨_,s0,cut,p_cut,c_cut,L_cut,(by exact hT1.symm.trans (Eq.symm (aM h50 rfl))),⟨rfl,hO_cut⟩,rfl⟩
 rintro g M ⟨cut,p_cut,c_cut,L_cut,hCu41,⟨hg7,hO_cut⟩,rfl⟩;simp only [eJ,hg7];clear hg7;have hm_cut:=OwnG.max hO_cut;refine go3 ?_;refine sQ (aI (v':=.int .i64 (((cut).length:Nat):Int)) (fR (e:=elI) jN rfl (rO hO_cut lZ)) rfl) rfl (go2 ?_);refine aK _ rfl (fun h52=>?_) (fun h52=>?_)
 ·have ph52:=of_decide_eq_true h52;refine go_ ?_;refine aU rfl (bK (E:=33) (e:=elI) (l:=F_poly_bad) (fun v=>v) yP rfl (fun w hw=>lT  w) (fun p53 c54 L55 hF56=>go3 ?_));refine aS rfl (.inr rfl) rfl ?_
  have hE:(F_poly_bad:(List I))=(i5 n f o):=by exact trs (Eq.symm (smS hCu4)) (trs (Eq.symm (apS hCu41)) (aE h52 rfl))
  rw [← hE];exact ⟨_,rfl,⟨L55,lZ,hF56⟩⟩
 have ph52:=of_decide_eq_false h52;refine go6 ?_;refine aS rfl (.inr rfl) rfl ?_
 have hE:(cut:(List I))=(i5 n f o):=by exact trs (Eq.symm (smS hCu4)) (trs (Eq.symm (apS hCu41)) (aM h52 rfl))
 rw [← hE];exact ⟨_,rfl,⟨L_cut,lZ,hO_cut⟩⟩

theorem EQ (vl:Value) (l:(List I)) (vf:Value) (f:I→Bool) (w:World) (hl:Slr w elI vl l) (hf:FnV Tryz.prog w vf eI (fun _=>True) (VV f)) :
    Calls Tryz.prog 228 [vl,vf].toArray w (fun e w'=>e = .returned (.int .i64 ((oA l f).1))∧Ext w w'):=by
 obtain ⟨p_l,c_l,rfl⟩:=hl.form;obtain ⟨g_f,c_f,rfl,Hf⟩:=hf.open;refine cX (N:=19) Tryz.func228 rfl rfl (by simp) ?_;obtain ⟨w0,rfl⟩:∃ w0,w0=w:=⟨_,rfl⟩;have Hl:=hl.old;have hm_l:=hl.max;simp only [bA,Nat.reduceAdd];refine go6 ?_;refine sQ (aI (v':=.int .i64 (((l).length:Nat):Int)) (fR (e:=elI) jN rfl (SLe.sub Hl sn)) rfl) rfl (go2 ?_);refine gJ3 [4,5,8,9,10,11,12,13,14,15,16,17,18] (fun g M=>∃ (i:Nat),(gP l f ((l.length+1)) 0) = .inl i∧(g 8 = .int .i64 ((i:Nat):Int))∧M=[]) (fun K_u1 hK_u1=>?_) ?_
 ·refine go_ ?_;refine cC [4,5,8,9,10,11,12,13,14,15,16,17,18] (fun g nn M=>∃ (i:Nat),(gP l f nn i)=(gP l f ((l.length+1)) 0)∧l.length - i<nn∧(i≤l.length)∧(g 8 = .int .i64 ((i:Nat):Int))∧M=[]) ((l.length+1)) ?start ?round
  case start=>exact ⟨_,s0,0,rfl,o1_,o1_,rfl,rfl⟩
  case round =>
   rintro nn g M ⟨i,hT0,hq0,hinv0,hg8,rfl⟩;obtain ⟨k0,rfl⟩:∃ m,nn=m+1:=⟨nn - 1,by omega⟩;simp only [eJ,hg8];clear hg8;refine go4 ?_;refine aK _ rfl (fun h6=>?_) (fun h6=>?_)
   ·have ph6:=of_decide_eq_true h6;refine AI ?_;refine sQ (aI (v':=.pointer (some (slb (.slice p_l l.length c_l) (i * 18+0)))) (nC (e:=elI) (l:=l) (k:=i) jN rfl rfl (SLe.sub Hl sn) o2_) rfl) rfl ?_;refine sQ (pG (e:=elI) (l:=l) (k:=i) (o:=0) tyT rfl (SLe.sub Hl sn) (fU I0 o2_) rfl) rfl ?_;refine sQ (aI (v':=.bool (f (l.getD i I0))) (MJ (x:=(l.getD i I0)) rfl rfl (FnE.sub Hf sn) trivial) rfl) rfl (go_ ?_);refine aK _ rfl (fun h7=>?_) (fun h7=>?_)
    ·refine go5 ?_;refine aS rfl (.inr rfl) rfl ?_;refine (show (.int .i64 ((i:Nat):Int):Value) = .int .i64 ((W.cv ((i:Nat):Int)).1) by simp only [cvE (t:=((i:Nat):Int)) oo_]).trans ?_;exact congrArg vS5 (show _=(oA l f) from (JZ rfl (hT0.symm.trans (Eq.symm (aE h6 (aE h7 rfl))))))
    refine go2 ?_;refine sV (.int .i64 (((i+1):Nat):Int)) rfl (congrArg (Value.int .i64) (wx oo_ oo_ oo_)) (go2 ?_);refine ⟨pp_,_,_,s0,(Nat.lt_succ_self _),(i+1),(by exact (hT0.symm.trans (Eq.symm (aE h6 (aM h7 rfl)))).symm),(Nat.lt_of_lt_of_le o1_ (Nat.le_of_lt_succ hq0)),o1_,rfl,rfl⟩
   have ph6:=of_decide_eq_false h6;refine go_ ?_;refine hK_u1 _ _ pp_ ⟨_,s0,i,(by exact hT0.symm.trans (Eq.symm (aM h6 rfl))),rfl,rfl⟩
 rintro g M ⟨i,hCu1,hg8,rfl⟩;simp only [eJ,hg8];clear hg8;refine go4 ?_;refine aS rfl (.inr rfl) rfl ?_;exact congrArg vS5 (show _=(oA l f) from trs (Eq.symm (smS hCu1)) rfl)

theorem AE (vl:Value) (l:(List I)) (vf:Value) (f:I→Bool) (w:World) (hl:Slr w elI vl l) (hf:FnV Tryz.prog w vf eI (fun _=>True) (VV f)) :
    Calls Tryz.prog 198 [vl,vf].toArray w (fun e w'=>e = .returned (.bool (mN l f))∧Ext w w'):=by
 obtain ⟨p_l,c_l,rfl⟩:=hl.form;obtain ⟨g_f,c_f,rfl,Hf⟩:=hf.open;refine cX (N:=9) Tryz.func198 rfl rfl (by simp) ?_;obtain ⟨w0,rfl⟩:∃ w0,w0=w:=⟨_,rfl⟩;have Hl:=hl.old;have hm_l:=hl.max;simp only [bA,Nat.reduceAdd];refine go6 ?_;refine sQ (aI (v':=.int .i64 ((oA l f).1)) (bR Z1 rfl (fun w hw=>EQ _ l _ f w (aR hw Hl sn) (FnE.ap hw (FnE.sub Hf sn)))) rfl) rfl (go4 ?_);refine aS rfl (.inr rfl) rfl ?_;exact (by rfl)

theorem AM (a:I) :
    Ret Tryz.prog 199 [AV [pI a]] (.bool (oO a)):=by
 refine aW (N:=6) Tryz.func199 rfl rfl (by simp) (fun w0=>?_);simp only [bA,Nat.reduceAdd];refine go2 ?_;intro b1 hb1;refine go4 ?_;refine sQ (aZ GR (qE a) rfl) rfl (go4 ?_);refine aS rfl (.inr rfl) rfl ?_;exact (by rfl)

theorem nA (vp:Value) (p:(List I)) (w:World) (hp:Slr w elI vp p) :
    Calls Tryz.prog 134 [vp].toArray w (fun e w'=>e = .returned (.bool (dQ p))∧Ext w w'):=by
 obtain ⟨p_p,c_p,rfl⟩:=hp.form;refine cX (N:=5) Tryz.func134 rfl rfl (by simp) ?_;obtain ⟨w0,rfl⟩:∃ w0,w0=w:=⟨_,rfl⟩;have Hp:=hp.old;have hm_p:=hp.max;simp only [bA,Nat.reduceAdd];refine go5 ?_;refine sQ (aI (v':=.bool (mN p (fun (y:I)=>(oO y)))) (bR ZO rfl (fun w hw=>AE _ p _ (fun (y:I)=>(oO y)) w (aR hw Hp sn) (FnV.mk hw ZP (fun w hw x hx=>(AM x) w)))) rfl) rfl (go3 ?_);refine aS rfl (.inr rfl) rfl ?_;exact (by rfl)

theorem C5 (vl:Value) (l:(List Rt)) (vf:Value) (f:Rt→Bool) (w:World) (hl:Slr w LB vl l) (hf:FnV Tryz.prog w vf eRt (fun _=>True) (VV f)) :
    Calls Tryz.prog 232 [vl,vf].toArray w (fun e w'=>e = .returned (.int .i64 ((nE l f).1))∧Ext w w'):=by
 obtain ⟨p_l,c_l,rfl⟩:=hl.form;obtain ⟨g_f,c_f,rfl,Hf⟩:=hf.open;refine cX (N:=19) Tryz.func232 rfl rfl (by simp) ?_;obtain ⟨w0,rfl⟩:∃ w0,w0=w:=⟨_,rfl⟩;have Hl:=hl.old;have hm_l:=hl.max;simp only [bA,Nat.reduceAdd];refine go6 ?_;refine sQ (aI (v':=.int .i64 (((l).length:Nat):Int)) (fR (e:=LB) TO rfl (SLe.sub Hl sn)) rfl) rfl (go2 ?_);refine gJ3 [4,5,8,9,10,11,12,13,14,15,16,17,18] (fun g M=>∃ (i:Nat),(i3 l f ((l.length+1)) 0) = .inl i∧(g 8 = .int .i64 ((i:Nat):Int))∧M=[]) (fun K_u1 hK_u1=>?_) ?_
 ·refine go_ ?_;refine cC [4,5,8,9,10,11,12,13,14,15,16,17,18] (fun g nn M=>∃ (i:Nat),(i3 l f nn i)=(i3 l f ((l.length+1)) 0)∧l.length - i<nn∧(i≤l.length)∧(g 8 = .int .i64 ((i:Nat):Int))∧M=[]) ((l.length+1)) ?start ?round
  case start=>exact ⟨_,s0,0,rfl,o1_,o1_,rfl,rfl⟩
  case round =>
   rintro nn g M ⟨i,hT0,hq0,hinv0,hg8,rfl⟩;obtain ⟨k0,rfl⟩:∃ m,nn=m+1:=⟨nn - 1,by omega⟩;simp only [eJ,hg8];clear hg8;refine go4 ?_;refine aK _ rfl (fun h6=>?_) (fun h6=>?_)
   ·have ph6:=of_decide_eq_true h6;refine AI ?_;refine sQ (aI (v':=.pointer (some (slb (.slice p_l l.length c_l) (i * 36+0)))) (nC (e:=LB) (l:=l) (k:=i) TO rfl rfl (SLe.sub Hl sn) o2_) rfl) rfl ?_;refine sQ (pG (e:=LB) (l:=l) (k:=i) (o:=0) tyT rfl (SLe.sub Hl sn) (fU Rt0 o2_) rfl) rfl ?_;refine sQ (aI (v':=.bool (f (l.getD i Rt0))) (MJ (x:=(l.getD i Rt0)) rfl rfl (FnE.sub Hf sn) trivial) rfl) rfl (go_ ?_);refine aK _ rfl (fun h7=>?_) (fun h7=>?_)
    ·refine go5 ?_;refine aS rfl (.inr rfl) rfl ?_;refine (show (.int .i64 ((i:Nat):Int):Value) = .int .i64 ((W.cv ((i:Nat):Int)).1) by simp only [cvE (t:=((i:Nat):Int)) oo_]).trans ?_;exact congrArg vS5 (show _=(nE l f) from (JZ rfl (hT0.symm.trans (Eq.symm (aE h6 (aE h7 rfl))))))
    refine go2 ?_;refine sV (.int .i64 (((i+1):Nat):Int)) rfl (congrArg (Value.int .i64) (wx oo_ oo_ oo_)) (go2 ?_);refine ⟨pp_,_,_,s0,(Nat.lt_succ_self _),(i+1),(by exact (hT0.symm.trans (Eq.symm (aE h6 (aM h7 rfl)))).symm),(Nat.lt_of_lt_of_le o1_ (Nat.le_of_lt_succ hq0)),o1_,rfl,rfl⟩
   have ph6:=of_decide_eq_false h6;refine go_ ?_;refine hK_u1 _ _ pp_ ⟨_,s0,i,(by exact hT0.symm.trans (Eq.symm (aM h6 rfl))),rfl,rfl⟩
 rintro g M ⟨i,hCu1,hg8,rfl⟩;simp only [eJ,hg8];clear hg8;refine go4 ?_;refine aS rfl (.inr rfl) rfl ?_;exact congrArg vS5 (show _=(nE l f) from trs (Eq.symm (smS hCu1)) rfl)

theorem zC (vl:Value) (l:(List Rt)) (vf:Value) (f:Rt→Bool) (w:World) (hl:Slr w LB vl l) (hf:FnV Tryz.prog w vf eRt (fun _=>True) (VV f)) :
    Calls Tryz.prog 212 [vl,vf].toArray w (fun e w'=>e = .returned (.bool (nY l f))∧Ext w w'):=by
 obtain ⟨p_l,c_l,rfl⟩:=hl.form;obtain ⟨g_f,c_f,rfl,Hf⟩:=hf.open;refine cX (N:=9) Tryz.func212 rfl rfl (by simp) ?_;obtain ⟨w0,rfl⟩:∃ w0,w0=w:=⟨_,rfl⟩;have Hl:=hl.old;have hm_l:=hl.max;simp only [bA,Nat.reduceAdd];refine go6 ?_;refine sQ (aI (v':=.int .i64 ((nE l f).1)) (bR Z2 rfl (fun w hw=>C5 _ l _ f w (aR hw Hl sn) (FnE.ap hw (FnE.sub Hf sn)))) rfl) rfl (go4 ?_);refine aS rfl (.inr rfl) rfl ?_;exact (by rfl)

theorem BM (a:Rt) :
    Ret Tryz.prog 213 [AV [pI a.n,pI a.d]] (.bool (kP a)):=by
 refine aW (N:=6) Tryz.func213 rfl rfl (by simp) (fun w0=>?_);simp only [bA,Nat.reduceAdd];refine go2 ?_;intro b1 hb1;refine go4 ?_;refine sQ (aZ CX (j4 a) rfl) rfl (go4 ?_);refine aS rfl (.inr rfl) rfl ?_;exact (by rfl)

theorem ES (vl:Value) (l:(List Rt)) (w:World) (hl:Slr w LB vl l) :
    Calls Tryz.prog 185 [vl].toArray w (fun e w'=>e = .returned (.bool (oB l))∧Ext w w'):=by
 obtain ⟨p_l,c_l,rfl⟩:=hl.form;refine cX (N:=6) Tryz.func185 rfl rfl (by simp) ?_;obtain ⟨w0,rfl⟩:∃ w0,w0=w:=⟨_,rfl⟩;have Hl:=hl.old;have hm_l:=hl.max;simp only [bA,Nat.reduceAdd];refine go5 ?_;refine sQ (aI (v':=.bool (nY l (fun (y:Rt)=>(kP y)))) (bR ZT rfl (fun w hw=>zC _ l _ (fun (y:Rt)=>(kP y)) w (aR hw Hl sn) (FnV.mk hw ZU (fun w hw x hx=>(BM x) w)))) rfl) rfl (go4 ?_);refine aS rfl (.inr rfl) rfl ?_;exact (by rfl)
end Go.Proofs.YtbjlhfochebmiaaGreatDoor


namespace Go.Num
open Go Go.Kn
def kY (a:Rt) (b:Rt):Rt :=
  let r4:Rt:=(eH a (gN b))
  r4
def yC (k:Nat) (l:(List I)):I :=
  (l.getD k I0)
def sO (l:(List I)):(List I) :=
  (fE (((l).length:Nat):Int) (fun (y:Nat)=>(yC y l)) (fun (y:I)=>(iS y)))
end Go.Num

