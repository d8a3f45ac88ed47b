/- Lemmas: what they ask stands in their statements. -/
import Derived.Test.YtkjjponijamaoaaGreatDoorTOg
set_option linter.unusedSimpArgs false
set_option linter.unusedVariables false
set_option maxHeartbeats 8000000
set_option maxRecDepth 20000
namespace Go.Proofs.YtkjjponijamaoaaGreatDoor
open Go.Kn Go.Num Tryz
attribute [local irreducible] Go.Kn.W WL PL OpQ OpR OpS
theorem N7 (vl:Value) (l:(List Pose)) (w:World) (hl:Slr w wW vl l) (hpre:l.length≤100) :
    Calls prog 51 [vl].toArray w (fun e w'=>∃ v,e = .returned (.tuple #[v,.int .i64 (((j2 l).2).1)])∧Ext w w'∧Slo w.heap.size w' 71 C7 v (j2 l).1):=by
 obtain ⟨p_l,c_l,rfl⟩:=hl.form;refine dW (n:=34) (fun v=>.tuple #[v,.int .i64 (((j2 l).2).1)]) func51 rfl rfl (by simp) ?_;obtain ⟨w0,rfl⟩:∃ w0,w0=w:=⟨_,rfl⟩;have Hl:=hl.old;have hm_l:=hl.max;simp only [bO,Nat.reduceAdd];refine go7 ?_;refine sQ (aL (v':=.int .i64 (((l).length:Nat):Int)) (eR (e:=wW) PD rfl (SLe.sub Hl sn)) rfl) rfl (go2 ?_);refine aH _ rfl (fun h1=>?_) (fun h1=>?_)
 ·have ph1:=IB h1;refine go5 ?_;refine l8 rfl (.inr rfl) rfl rfl ?_
  have hE:((([]:List Path),(wl 1)):(List Path)×W)=(j2 l):=by exact aY h1 rfl
  rw [← hE];exact ⟨_,rfl,⟨[],sn,OwnG.nil⟩⟩
 have ph1:=y7 h1;refine go7 ?_;refine sQ (aL (v':=.int .i64 (((l).length:Nat):Int)) (eR (e:=wW) PD rfl (SLe.sub Hl sn)) rfl) rfl (go2 ?_);refine gJ3 [2,3,4,5,6,12,13,14,15,16,17,18,19,20,21,22,23,24,25,26,27,28,29,30,31,32] (fun g M=>∃ (out:List Path) (i:Nat) (p_out:Option Addr) (c_out:Nat) (L_out:List Blk),(qE l ((l.length+1)) ([]:List Path) 0) = .inl (out,i)∧(g 4 = .slice p_out out.length c_out∧g 12 = .int .i64 ((i:Nat):Int)∧OwnG w0 71 C7 (.slice p_out out.length c_out) out L_out)∧M=(L_out ++ [])) (fun K_u2 hK_u2=>?_) ?_
 ·refine go_ ?_;refine cK [2,3,4,5,6,12,13,14,15,16,17,18,19,20,21,22,23,24,25,26,27,28,29,30,31,32] (fun g nn M=>∃ (out:List Path) (i:Nat) (p_out:Option Addr) (c_out:Nat) (L_out:List Blk),(qE l nn out i)=(qE l ((l.length+1)) ([]:List Path) 0)∧l.length - i<nn∧(i≤l.length∧out.length≤i)∧(g 4 = .slice p_out out.length c_out∧g 12 = .int .i64 ((i:Nat):Int)∧OwnG w0 71 C7 (.slice p_out out.length c_out) out L_out)∧M=(L_out ++ [])) ((l.length+1)) ?start ?round
  case start=>exact ⟨_,s0,([]:List Path),0,none,0,[],rfl,oo_,o1_,⟨rfl,rfl,OwnG.nil⟩,rfl⟩
  case round =>
   rintro nn g M ⟨out,i,p_out,c_out,L_out,hT0,hq0,hinv0,⟨hg4,hg12,hO_out⟩,rfl⟩;obtain ⟨k0,rfl⟩:∃ m,nn=m+1:=⟨nn - 1,by omega⟩;simp only [fF,hg4,hg12];clear hg4 hg12;have hm_out:=OwnG.max hO_out;refine go4 ?_;refine aH _ rfl (fun h21=>?_) (fun h21=>?_)
   ·have ph21:=of_decide_eq_true h21;refine go5 ?_;refine sQ (aL (v':=.pointer (some (slb (.slice p_l l.length c_l) (i * 7+0)))) (lI (e:=wW) (l:=l) (k:=i) PD rfl rfl (SLe.sub Hl sn) o2_) rfl) rfl ?_;refine sQ (mE (e:=wW) (l:=l) (k:=i) (o:=0) tyT rfl (SLe.sub Hl sn) (eH gM o2_) rfl) rfl ?_;refine go_ ?_;intro b22 hb22;refine go6 ?_;refine sQ (bI aB (w8 (l.getD i gM)) rfl) rfl (go2 ?_);refine aH _ rfl (fun h23=>?_) (fun h23=>?_)
    ·refine go5 ?_;refine l8 rfl (.inr rfl) rfl rfl ?_
     have hE:((([]:List Path),(wl 1)):(List Path)×W)=(j2 l):=by exact aI h1 ((DI rfl (hT0.symm.trans (Eq.symm (aY h21 (aY h23 rfl))))))
     rw [← hE];exact ⟨_,rfl,⟨[],sn,OwnG.nil⟩⟩
    refine go5 ?_;refine aH _ rfl (fun h24=>?_) (fun h24=>?_)
    ·have ph24:=of_decide_eq_true h24;refine jQ sn 11 [8,9] [9] (go3 ?_);refine pV (.int .i64 (((i:Nat):Int) - 1)) rfl (congrArg (Value.int .i64) (wx oo_ oo_ oo_)) (pQ rfl (aL (v':=.pointer (some (slb (.slice p_l l.length c_l) ((i - 1) * 7+0)))) (u6 (e:=wW) (l:=l) (k:=(i - 1)) PD rfl rfl oo_ (SLe.sub Hl sn) o2_) rfl) ?_);refine pQ rfl (mE (e:=wW) (l:=l) (k:=(i - 1)) (o:=0) tyT rfl (SLe.sub Hl sn) (eH gM o2_) rfl) ?_;refine go_ ?_;refine pQ rfl (oW zpT plT rfl (.cons [cw ((((l.getD (i - 1) gM).x).x).1),cw ((((l.getD (i - 1) gM).x).y).1),cw ((((l.getD (i - 1) gM).x).z).1),cw ((((l.getD (i - 1) gM).q).x).1),cw ((((l.getD (i - 1) gM).q).y).1),cw ((((l.getD (i - 1) gM).q).z).1),cw ((((l.getD (i - 1) gM).q).t).1)] [cw ((((l.getD (i - 1) gM).x).x).1),cw ((((l.getD (i - 1) gM).x).y).1),cw ((((l.getD (i - 1) gM).x).z).1),cw ((((l.getD (i - 1) gM).q).x).1),cw ((((l.getD (i - 1) gM).q).y).1),cw ((((l.getD (i - 1) gM).q).z).1),cw ((((l.getD (i - 1) gM).q).t).1),cw 0,cw 0,cw 0,cw 0,cw 0,cw 0,cw 0] rfl rfl rfl rfl (.cons [cw ((((l.getD i gM).x).x).1),cw ((((l.getD i gM).x).y).1),cw ((((l.getD i gM).x).z).1),cw ((((l.getD i gM).q).x).1),cw ((((l.getD i gM).q).y).1),cw ((((l.getD i gM).q).z).1),cw ((((l.getD i gM).q).t).1)] [cw ((((l.getD (i - 1) gM).x).x).1),cw ((((l.getD (i - 1) gM).x).y).1),cw ((((l.getD (i - 1) gM).x).z).1),cw ((((l.getD (i - 1) gM).q).x).1),cw ((((l.getD (i - 1) gM).q).y).1),cw ((((l.getD (i - 1) gM).q).z).1),cw ((((l.getD (i - 1) gM).q).t).1),cw ((((l.getD i gM).x).x).1),cw ((((l.getD i gM).x).y).1),cw ((((l.getD i gM).x).z).1),cw ((((l.getD i gM).q).x).1),cw ((((l.getD i gM).q).y).1),cw ((((l.getD i gM).q).z).1),cw ((((l.getD i gM).q).t).1)] rfl rfl rfl rfl (.nil _)))) (cF rfl rfl (bU [[cw ((((l.getD (i - 1) gM).x).x).1),cw ((((l.getD (i - 1) gM).x).y).1),cw ((((l.getD (i - 1) gM).x).z).1),cw ((((l.getD (i - 1) gM).q).x).1),cw ((((l.getD (i - 1) gM).q).y).1),cw ((((l.getD (i - 1) gM).q).z).1),cw ((((l.getD (i - 1) gM).q).t).1),cw ((((l.getD i gM).x).x).1),cw ((((l.getD i gM).x).y).1),cw ((((l.getD i gM).x).z).1),cw ((((l.getD i gM).q).x).1),cw ((((l.getD i gM).q).y).1),cw ((((l.getD i gM).q).z).1),cw ((((l.getD i gM).q).t).1)]] [cw ((((l.getD (i - 1) gM).x).x).1),cw ((((l.getD (i - 1) gM).x).y).1),cw ((((l.getD (i - 1) gM).x).z).1),cw ((((l.getD (i - 1) gM).q).x).1),cw ((((l.getD (i - 1) gM).q).y).1),cw ((((l.getD (i - 1) gM).q).z).1),cw ((((l.getD (i - 1) gM).q).t).1),cw ((((l.getD i gM).x).x).1),cw ((((l.getD i gM).x).y).1),cw ((((l.getD i gM).x).z).1),cw ((((l.getD i gM).q).x).1),cw ((((l.getD i gM).q).y).1),cw ((((l.getD i gM).q).z).1),cw ((((l.getD i gM).q).t).1)] e1_ iE_ hT_ rfl dd_ rfl rfl ⟨rfl,rfl,rfl,trivial⟩ rfl (fun b25 hb25=>⟨(fun _=>sd s0),sn,cF rfl rfl (lM (e:=C7) (l:=out) (m:=[(⟨(l.getD (i - 1) gM),(l.getD i gM)⟩:Path)]) 112 e1_ (by kernel_rfl) dd_ rfl rfl hO_out (SLe.lit (e:=C7) (l:=[(⟨(l.getD (i - 1) gM),(l.getD i gM)⟩:Path)]) m0 rfl (Nat.le_of_ble_eq_true rfl) rfl) (kW (kW n6)) (by show (out.length+1) * 112≤_;omega) dd_ (fun p26 c27 L28 hO29=>⟨nf,sn,go3 ?_⟩))⟩)));refine sV (.int .i64 (((i+1):Nat):Int)) rfl (congrArg (Value.int .i64) (wx oo_ oo_ oo_)) (go2 ?_);refine ⟨pp_,_,_,(sA (sd (sd (s0)))),(Nat.lt_succ_self _),(out ++ [(⟨(l.getD (i - 1) gM),(l.getD i gM)⟩:Path)]),(i+1),p26,c27,L28,(by exact (hT0.symm.trans (Eq.symm (aY h21 (aI h23 (aY h24 rfl))))).symm),(Nat.lt_of_lt_of_le o1_ (Nat.le_of_lt_succ hq0)),o1_,⟨rfl,rfl,hO29⟩,rfl⟩
    have ph24:=of_decide_eq_false h24;refine go2 ?_;refine sV (.int .i64 (((i+1):Nat):Int)) rfl (congrArg (Value.int .i64) (wx oo_ oo_ oo_)) (go2 ?_);refine ⟨pp_,_,_,(sd (s0)),(Nat.lt_succ_self _),out,(i+1),p_out,c_out,L_out,(by exact (hT0.symm.trans (Eq.symm (aY h21 (aI h23 (aI h24 rfl))))).symm),(Nat.lt_of_lt_of_le o1_ (Nat.le_of_lt_succ hq0)),o1_,⟨rfl,rfl,hO_out⟩,rfl⟩
   have ph21:=of_decide_eq_false h21;refine go_ ?_;refine hK_u2 _ _ pp_ ⟨_,s0,out,i,p_out,c_out,L_out,(by exact hT0.symm.trans (Eq.symm (aI h21 rfl))),⟨rfl,rfl,hO_out⟩,rfl⟩
 rintro g M ⟨out,i,p_out,c_out,L_out,hCu2,⟨hg4,hg12,hO_out⟩,rfl⟩;simp only [fF,hg4,hg12];clear hg4 hg12;have hm_out:=OwnG.max hO_out;refine go6 ?_;refine l8 rfl (.inr rfl) rfl rfl ?_
 have hE:((out,(wl 0)):(List Path)×W)=(j2 l):=by exact aI h1 (trs (Eq.symm (smS hCu2)) rfl)
 rw [← hE];exact ⟨_,rfl,⟨L_out,lZ,hO_out⟩⟩
theorem N9 (m:W) (y:W) (vl:Value) (l:(List Pose)) (w:World) (hl:Slr w wW vl l) (hpre:l.length≤100) :
    Calls prog 35 [.int .i64 m.1,.int .i64 y.1,vl].toArray w (fun e w'=>e = .returned (.tuple #[AV [pI ((tM m y l).1)],.int .i64 (((tM m y l).2).1)])∧Ext w w'):=by
 obtain ⟨p_l,c_l,rfl⟩:=hl.form;refine cS (N:=59) func35 rfl rfl (by simp) ?_;obtain ⟨w0,rfl⟩:∃ w0,w0=w:=⟨_,rfl⟩;have Hl:=hl.old;have hm_l:=hl.max;simp only [bO,Nat.reduceAdd];refine go2 ?_;intro b1 hb1;refine go4 ?_;refine bD rfl (aN (E:=71) (e:=C7) (l:=(j2 l).1) (fun v=>.tuple #[v,.int .i64 (((j2 l).2).1)]) aB rfl (fun w hw=>N7 _ l w (aR hw Hl sn) (by first | omega | (simp only [List.length_append,List.length_nil];omega) | exact Nat.le_of_ble_eq_true rfl)) (fun p2 c3 L4 hF5=>?_));refine go7 ?_;refine gJv [19,20,21,22,23,24,25,26,27,28] [(28,.bool ((((j2 l).2).1 != 0)||(decide (m.1<0)||decide (y.1<0))))] (fun K2 J2=>?_) ?_
 ·refine go3 ?_;refine sBB rfl (fun h8=>?_) (fun h8=>?_)
  ·refine go8 ?_;refine J2 _ _ pp_ s0 (bK (mF h8))
  refine go3 ?_;refine sBB rfl (fun h9=>?_) (fun h9=>?_)
  ·have ph9:=of_decide_eq_true h9;refine go4 ?_;refine J2 _ _ pp_ s0 (bK (j9 h8 (mF h9)))
  have ph9:=of_decide_eq_false h9;refine go4 ?_;refine J2 _ _ pp_ s0 (bK (j9 h8 (j9 h9 rfl)))
 intro g10;refine aH _ rfl (fun h11=>?_) (fun h11=>?_)
 ·refine go6 ?_;refine l8 rfl (.inr rfl) (eF rfl (mA mZ) tyT rfl) rfl ?_;exact congrArg vS6 (show _=(tM m y l) from aY h11 rfl)
 refine go3 ?_;intro b12 hb12;refine go4 ?_;refine sQ (aL (v':=.int .i64 ((((j2 l).1).length:Nat):Int)) (eR (e:=C7) eX_ rfl (rO hF5 (sd lZ))) rfl) rfl (go2 ?_);refine gJ3 [12,13,32,33,34,35,36,37,38,39,40,41,42,43,44,45,46,47,48,49,50,51,52,53,54,55,56,57] (fun g M=>∃ (mb12:I),(qG m y l (j2 l).1 I0)=mb12∧(True)∧M=(⟨b12,31,cV [pI mb12]⟩ :: (L4 ++ (⟨b1,31,cV [pI I0]⟩ :: [])))) (fun K_u13 hK_u13=>?_) ?_
 ·refine go_ ?_;have hmx0:((j2 l).1).length≤9223372036854775807:=(OwnG.max hF5);refine cK [12,13,32,33,34,35,36,37,38,39,40,41,42,43,44,45,46,47,48,49,50,51,52,53,54,55,56,57] (fun g nn M=>∃ (i0:Nat) (l0:List Path) (mb12:I),(qG m y l l0 mb12)=(qG m y l (j2 l).1 I0)∧((j2 l).1).drop i0=l0∧l0.length=nn∧g 32 = .int .i64 ((i0:Nat):Int)∧(True)∧M=(⟨b12,31,cV [pI mb12]⟩ :: (L4 ++ (⟨b1,31,cV [pI I0]⟩ :: [])))) ((j2 l).1).length ?start ?round
  case start=>exact ⟨_,s0,0,(j2 l).1,I0,rfl,rfl,rfl,rfl,trivial,rfl⟩
  case round =>
   rintro nn g M ⟨i0,l0,mb12,hT0,hr0,rfl,hgi,-,rfl⟩;simp only [fF,hgi];clear hgi;refine go4 ?_;rcases l0 with _ | ⟨x0,l0⟩
   ·have h28:=FL hr0;refine W_f h28 rfl (go_ ?_);refine hK_u13 _ _ pp_ ⟨_,s0,mb12,(by exact hT0.symm.trans (Eq.symm (rfl))),trivial,rfl⟩
   have h29:=BZ hr0;have g30:=x9 hr0;refine W_t h29 rfl (go4 ?_);refine sQ (aL (v':=.pointer (some (slb (.slice p2 ((j2 l).1).length c3) (i0 * 14+0)))) (lI (e:=C7) (l:=(j2 l).1) (k:=i0) eX_ rfl rfl (rO hF5 (sd lZ)) g30.2.1) rfl) rfl (sQ (mE (e:=C7) (l:=(j2 l).1) (k:=i0) (o:=0) tyT rfl (rO hF5 (sd lZ)) g30.1 rfl) rfl (go_ ?_));intro b31 hb31;refine AG ?_;refine sV (.int .i64 ((W.sub x0.to_.x.z x0.from_.x.z).1)) rfl rfl (go6 ?_);refine aH _ rfl (fun h32=>?_) (fun h32=>?_)
   ·have ph32:=of_decide_eq_true h32;refine jQ (sk (sd s0)) 11 [7,10] [10] (go2 ?_);refine pC (AV [pI (E (Z.of m.1))]) aB (dO m.1 m.2) rfl rfl rfl (go_ ?_);refine pC (AV [pI (E (Z.of y.1))]) aB (dO y.1 y.2) rfl rfl rfl (go_ ?_);refine pC (AV [pI (E (Z.of (W.sub x0.to_.x.z x0.from_.x.z).1))]) aB (dO (W.sub x0.to_.x.z x0.from_.x.z).1 (W.sub x0.to_.x.z x0.from_.x.z).2) rfl rfl rfl (cF rfl rfl (bU [[pI (E (Z.of m.1))],[pI (E (Z.of y.1))],[pI (E (Z.of (W.sub x0.to_.x.z x0.from_.x.z).1))]] [pI (E (Z.of m.1)),pI (E (Z.of y.1)),pI (E (Z.of (W.sub x0.to_.x.z x0.from_.x.z).1))] kL kN lG rfl dd_ rfl rfl ⟨rfl,rfl,rfl,rfl,rfl,rfl,rfl,rfl,rfl,trivial⟩ rfl (fun b33 hb33=>⟨(fun _=>sd s0),(sd (sk (sd s0))),?_⟩)));obtain ⟨r34,hr34⟩:=nm ((iF [(E (Z.of m.1)),(E (Z.of y.1)),(E (Z.of (W.sub x0.to_.x.z x0.from_.x.z).1))]):I);refine pQ rfl (aL (v':=AV [pI r34]) (bT aB rfl (fun w hw=>fK _ [(E (Z.of m.1)),(E (Z.of y.1)),(E (Z.of (W.sub x0.to_.x.z x0.from_.x.z).1))] w (SLe.ap hw (SLe.lit (e:=elI) (l:=[(E (Z.of m.1)),(E (Z.of y.1)),(E (Z.of (W.sub x0.to_.x.z x0.from_.x.z).1))]) m0 rfl (Nat.le_of_ble_eq_true rfl) rfl)) (by simp))) (by subst hr34;rfl)) ?_;refine pC (AV [pI (E (Z.add mb12.dec r34.dec))]) aB (oH mb12.1 r34.1 mb12.2 r34.2) rfl rfl rfl (go3 ?_);refine sV (.int .i64 ((i0+1:Nat):Int)) rfl (congrArg (Value.int .i64) (nxt g30.2.1 hmx0)) (go2 ?_);refine ⟨pp_,_,_,(sd (sd (s0))),(Nat.lt_succ_self _),i0+1,l0,(E (Z.add mb12.dec r34.dec)),(by obtain rfl:=hr34.symm;exact (hT0.symm.trans (Eq.symm (aY h32 rfl))).symm),g30.2.2,rfl,rfl,trivial,rfl⟩
   have ph32:=of_decide_eq_false h32;refine go2 ?_;refine sV (.int .i64 ((i0+1:Nat):Int)) rfl (congrArg (Value.int .i64) (nxt g30.2.1 hmx0)) (go2 ?_);refine ⟨pp_,_,_,(sd (s0)),(Nat.lt_succ_self _),i0+1,l0,mb12,(by exact (hT0.symm.trans (Eq.symm (aI h32 rfl))).symm),g30.2.2,rfl,rfl,trivial,rfl⟩
 rintro g M ⟨mb12,hCu13,-,rfl⟩;simp only [fF];refine go6 ?_;refine l8 rfl (.inr rfl) (eF rfl (mC (mA mZ)) tyT rfl) rfl ?_;exact congrArg vS6 (show _=(tM m y l) from aI h11 (trs (Eq.symm (apS hCu13)) rfl))
theorem N5 (a:Rt) (b:Rt) :
    Ret prog 137 [AV [pI a.n,pI a.d],AV [pI b.n,pI b.d]] (AV [pI ((fM a b).n),pI ((fM a b).d)]):=by
 refine bL (N:=10) func137 rfl rfl (by simp) (fun w0=>?_);simp only [bO,Nat.reduceAdd];refine go2 ?_;intro b1 hb1;refine go_ ?_;intro b2 hb2;refine go_ ?_;intro b3 hb3;refine go4 ?_;refine sQ (bI aB (rA a b) rfl) rfl (sQ (bI aB (u7 (wl 1) (wl 2)) rfl) rfl ?_);obtain ⟨r4,hr4⟩:=nm ((dG (kF a b) (lA (wl 1) (wl 2))):Rt);refine sC (AV [pI r4.n,pI r4.d]) aB (lH (kF a b) (lA (wl 1) (wl 2))) rfl rfl (by rw [hr4]) ?_;refine go3 ?_;refine bA rfl (.inr rfl) (eF rfl m0 tyT rfl) ?_;exact (by obtain rfl:=hr4.symm;rfl)
theorem IT (w0:World) (b_p b_t b_e:Nat) (hb_t:w0.heap.size≤b_t) (p_p:Option Addr) (c_p:Nat) (p:List I) (hpl:p.length≤100) (n:Nat):∀ (R:List Blk) (a c:Rt) (k:Nat) (p_t:Option Addr) (c_t:Nat) (t:List Rt) (L0:List Blk),
    SLe w0 [] R elI (.slice p_p p.length c_p) p→OwnG w0 33 elRt (.slice p_t t.length c_t) t L0→k<n→k≤12→t.length+2 ^ k≤5000→∀ w,Sat w0 [] (⟨b_t,80,cV [csl p_t t.length c_t]⟩ :: (L0 ++ (⟨b_p,73,cV [csl p_p p.length c_p]⟩ :: (⟨b_e,175,cV [cfn 134 [.pointer (some ⟨b_p,0,none⟩),.pointer (some ⟨b_t,0,none⟩),.pointer (some ⟨b_e,0,none⟩)]]⟩ :: R)))) w →
    Calls prog 134 [AV [pI a.n,pI a.d],AV [pI c.n,pI c.d],.int .i64 ((k:Nat):Int),.pointer (some ⟨b_p,0,none⟩),.pointer (some ⟨b_t,0,none⟩),.pointer (some ⟨b_e,0,none⟩)].toArray w (fun e w'=>∃ v M',e = .returned v∧Sat w0 [] M' w'∧KeepsOthers w w'∧h9_ w0 33 80 elRt b_t (.int .i64 (bP p n a c k t).1.1) (bP p n a c k t).2 (⟨b_p,73,cV [csl p_p p.length c_p]⟩ :: (⟨b_e,175,cV [cfn 134 [.pointer (some ⟨b_p,0,none⟩),.pointer (some ⟨b_t,0,none⟩),.pointer (some ⟨b_e,0,none⟩)]]⟩ :: R)) v M'):=by
 induction n with
 | zero=>intro R a c k p_t c_t t L0 Hp Ht hk;omega
 | succ n ih =>
 intro R a c k p_t c_t t L0 Hp Ht hk hk12 ht w hw;have h2p:1≤2 ^ k:=Nat.one_le_two_pow;obtain ⟨R1,rfl⟩:∃ R1,R=R1 ++ []:=⟨R,by simp⟩;rw [List.append_nil] at Hp;have hm_t:=Ht.max;refine R8 (n:=81) func134 rfl rfl (by simp) hw ?_;simp only [bO,Nat.reduceAdd];refine go2 ?_;intro b1 hb1;refine go_ ?_;intro b2 hb2;refine go5 ?_;refine sQ (aL (v':=.tuple #[.int .i64 (((i1 p a).1).1),.bool ((i1 p a).2)]) (bT aB rfl (fun w hw=>GA _ p a w (aR hw Hp (sd (sd (sd (sR (sd (sd lZ))))))) oo_)) rfl) rfl (go9 ?_);refine sQ (aL (v':=.tuple #[.int .i64 (((i1 p c).1).1),.bool ((i1 p c).2)]) (bT aB rfl (fun w hw=>GA _ p c w (aR hw Hp (sd (sd (sd (sR (sd (sd lZ))))))) oo_)) rfl) rfl (go7 ?_);refine gJv [30,31,32,33,34,35] [(35,.bool (decide (((i1 p a).1).1<0)||decide (((i1 p c).1).1<0)))] (fun K2 J2=>?_) ?_
 ·refine go3 ?_;refine sBB rfl (fun h4=>?_) (fun h4=>?_)
  ·have ph4:=of_decide_eq_true h4;refine go4 ?_;refine J2 _ _ pp_ s0 (bK (mF h4))
  have ph4:=of_decide_eq_false h4;refine go4 ?_;refine J2 _ _ pp_ s0 (bK (j9 h4 rfl))
 intro g5;refine aH _ rfl (fun h6=>?_) (fun h6=>?_)
 ·refine go4 ?_;refine bA rfl (.inr rfl) rfl ?_
  have hE:(((wl 200),t):W×List Rt)=(bP p (n+1) a c k t):=by exact aY h6 rfl
  rw [← hE];exact ⟨_,_,(QF (kW (kW vF)) (kW (kW n6)) (kW (kW vF)) (kW (kW vF)) (kW (kW n6))).trans CE,_,_,_,rfl,Ht,rfl⟩
 refine go5 ?_;refine sQ (aL (v':=.tuple #[.bool ((fC p a c).1),.int .i64 (((fC p a c).2).1)]) (bT aB rfl (fun w hw=>D0 _ p a c w (aR hw Hp (sd (sd (sd (sR (sd (sd lZ))))))) (by first | omega | (simp;done) | (simp;omega)))) rfl) rfl ?_;refine go8 ?_;refine gJv [43,44,45,46,47,48,49,50,51,52,53] [(43,.bool (!((i1 p a).2)||(!((i1 p c).2)||(((fC p a c).2).1 != 0))))] (fun K4 J4=>?_) ?_
 ·refine go3 ?_;rcases bt ((i1 p a).2) with h9 | h9
  ·refine sB (gE h9) rfl (go3 ?_);rcases bt ((i1 p c).2) with h10 | h10
   ·refine sB (gE h10) rfl (go5 ?_);refine J4 _ _ pp_ s0 (bK (jU h9 (jU h10 rfl)))
   refine sB (iK h10) rfl (go5 ?_);refine J4 _ _ pp_ s0 (bK (jU h9 (n7 h10)))
  refine sB (iK h9) rfl (go9 ?_);refine J4 _ _ pp_ s0 (bK (n7 h9))
 intro g11;refine aH _ rfl (fun h12=>?_) (fun h12=>?_)
 ·refine go4 ?_;refine bA rfl (.inr rfl) rfl ?_
  have hE:(((wl 30),t):W×List Rt)=(bP p (n+1) a c k t):=by exact aI h6 (aY h12 rfl)
  rw [← hE];exact ⟨_,_,(QF (kW (kW vF)) (kW (kW n6)) (kW (kW vF)) (kW (kW vF)) (kW (kW n6))).trans CE,_,_,_,rfl,Ht,rfl⟩
 refine go4 ?_;refine aH _ rfl (fun h13=>?_) (fun h13=>?_)
 ·refine go3 ?_;refine bD rfl (bU [[pI c.n,pI c.d]] [pI c.n,pI c.d] y4 RM H2 rfl dd_ rfl rfl ⟨rfl,rfl,rfl,trivial⟩ rfl (fun b14 hb14=>bD rfl (lM (e:=elRt) (l:=t) (m:=[c]) 136 y4 (by kernel_rfl) dd_ rfl rfl Ht (SLe.lit (e:=elRt) (l:=[c]) m0 rfl (Nat.le_of_ble_eq_true rfl) rfl) (kW (kW (kW (kW n6)))) (by simp only [List.length_append,List.length_cons,List.length_nil];omega) dd_ (fun p15 c16 L17 hO18=>?_))));refine go6 ?_;refine bA rfl (.inr rfl) rfl ?_
  have hE:(((wl 0),(t ++ [c])):W×List Rt)=(bP p (n+1) a c k t):=by exact aI h6 (aI h12 (aY h13 rfl))
  rw [← hE];exact ⟨_,_,(QF (oJ (kW (kW (kW vF)))) n6 (kW (kW (kW vF))) (kW (kW (kW vF))) (kW (kW (kW n6)))).trans CE,_,_,_,rfl,hO18,rfl⟩
 refine go5 ?_;refine aH _ rfl (fun h19=>?_) (fun h19=>?_)
 ·refine go4 ?_;refine bA rfl (.inr rfl) rfl ?_
  have hE:(((wl 160),t):W×List Rt)=(bP p (n+1) a c k t):=by exact aI h6 (aI h12 (aI h13 (aY h19 rfl)))
  rw [← hE];exact ⟨_,_,(QF (kW (kW vF)) (kW (kW n6)) (kW (kW vF)) (kW (kW vF)) (kW (kW n6))).trans CE,_,_,_,rfl,Ht,rfl⟩
 refine go2 ?_
 have hk0:k≠0:=fun e=>by have h:=h19;rw [e] at h;cases h
 have h2k:2 ^ k=2 ^ (k - 1)+2 ^ (k - 1):=by rw [← Nat.two_mul,← Nat.pow_succ'];congr 1;omega
 refine go2 ?_;refine sQ (bI aB (N5 a c) rfl) rfl (go_ ?_);intro b20 hb20;refine go8 ?_;refine sV (.int .i64 (((k:Nat):Int) - 1)) rfl (congrArg (Value.int .i64) (wx oo_ oo_ oo_)) (bD rfl (OpR.perm (QF (kW (kW (kW vF))) (kW (kW (kW n6))) (kW (kW (kW vF))) (kW (kW (kW vF))) (kW (kW (kW n6)))) (KU aB rfl rfl (fun w hw=>by have hx:=ih _ a (fM a c) (k - 1) _ _ _ _ (SLe.sub Hp lZ) Ht oo_ oo_ oo_ w hw;rw [show ((k - 1:Nat):Int)=(k:Int) - 1 by omega] at hx;exact hx) (fun r M' hback=>?_))));obtain ⟨p21,c22,L23,rfl,hF24,rfl⟩:=hback;have hb25:=yK p n a (fM a c) (k - 1) t;refine go6 ?_;refine aH _ rfl (fun h26=>?_) (fun h26=>?_)
 ·refine go5 ?_;refine bA rfl (.inr rfl) rfl ?_
  have hE:(((bP p n a (fM a c) (k - 1) t).1,(bP p n a (fM a c) (k - 1) t).2):W×List Rt)=(bP p (n+1) a c k t):=by exact aI h6 (aI h12 (aI h13 (aI h19 (aY h26 rfl))))
  rw [← hE];exact ⟨_,_,(QF vF n6 vF vF n6).trans CE,_,_,_,rfl,hF24,rfl⟩
 refine go6 ?_;refine sV (.int .i64 (((k:Nat):Int) - 1)) rfl (congrArg (Value.int .i64) (wx oo_ oo_ oo_)) (bD rfl (OpR.perm (QF vF n6 vF vF n6) (KU aB rfl rfl (fun w hw=>by have hx:=ih _ (fM a c) c (k - 1) _ _ _ _ (SLe.sub Hp lZ) hF24 oo_ oo_ oo_ w hw;rw [show ((k - 1:Nat):Int)=(k:Int) - 1 by omega] at hx;exact hx) (fun r M' hback=>?_))));obtain ⟨p27,c28,L29,rfl,hF30,rfl⟩:=hback;have hb31:=yK p n (fM a c) c (k - 1) ((bP p n a (fM a c) (k - 1) t).2);refine go3 ?_;refine bA rfl (.inr rfl) rfl ?_
 have hE:(((bP p n (fM a c) c (k - 1) ((bP p n a (fM a c) (k - 1) t).2)).1,(bP p n (fM a c) c (k - 1) ((bP p n a (fM a c) (k - 1) t).2)).2):W×List Rt)=(bP p (n+1) a c k t):=by exact aI h6 (aI h12 (aI h13 (aI h19 (aI h26 rfl))))
 rw [← hE];exact ⟨_,_,(QF vF n6 vF vF n6).trans CE,_,_,_,rfl,hF30,rfl⟩
end Go.Proofs.YtkjjponijamaoaaGreatDoor
namespace Go.Num
open Go Go.Kn
theorem R4 {c:Bool} {x y:List I×W} {N:Nat} (h1:x.1.length≤N) (h2:y.1.length≤N):(bif c then x else y).1.length≤N:=by cases c <;> assumption
theorem xF (h:Path) (v:A3 W) (b:A3 Rt) (m:Rt):(cE h v b m).1.length≤25:=by
  unfold cE;exact R4 (Nat.zero_le _) (R4 (Nat.zero_le _) (rD _))
end Go.Num
namespace Go.Proofs.YtkjjponijamaoaaGreatDoor
open Go.Kn Go.Num Tryz
attribute [local irreducible] Go.Kn.W WL PL OpQ OpR OpS
theorem xH (h:Path) (u:(A3 W)) (b:(A3 Rt)) (m:Rt) (k:Int) (w:World)  :
    Calls prog 57 [AV [cw h.from_.x.x.1,cw h.from_.x.y.1,cw h.from_.x.z.1,cw h.from_.q.x.1,cw h.from_.q.y.1,cw h.from_.q.z.1,cw h.from_.q.t.1,cw h.to_.x.x.1,cw h.to_.x.y.1,cw h.to_.x.z.1,cw h.to_.q.x.1,cw h.to_.q.y.1,cw h.to_.q.z.1,cw h.to_.q.t.1],AV [cw u.x.1,cw u.y.1,cw u.z.1],AV [pI b.x.n,pI b.x.d,pI b.y.n,pI b.y.d,pI b.z.n,pI b.z.d],AV [pI m.n,pI m.d],.int .i64 k].toArray w (fun e w'=>∃ v,e = .returned (.tuple #[v,.int .i64 (((dZ h u b m k).2).1)])∧Ext w w'∧Slo w.heap.size w' 33 elRt v (dZ h u b m k).1):=by
 refine dW (n:=44) (fun v=>.tuple #[v,.int .i64 (((dZ h u b m k).2).1)]) func57 rfl rfl (by simp) ?_;obtain ⟨w0,rfl⟩:∃ w0,w0=w:=⟨_,rfl⟩;simp only [bO,Nat.reduceAdd];refine go2 ?_;intro b1 hb1;refine go_ ?_;intro b2 hb2;refine go_ ?_;intro b3 hb3;refine go_ ?_;intro b4 hb4;refine go8 ?_;refine bD rfl (aN (E:=31) (e:=elI) (l:=(cE h u b m).1) (fun v=>.tuple #[v,.int .i64 (((cE h u b m).2).1)]) aB rfl (fun w hw=>xG h u b m w) (fun p5 c6 L7 hF8=>?_));have hb9:=(xF h u b m);refine go4 ?_;intro b10 hb10;refine go3 ?_;refine i9 (sk (sA (sd (sd (sd (sd (s0))))))) ?_;refine go5 ?_;refine aH _ rfl (fun h11=>?_) (fun h11=>?_)
 ·refine go6 ?_;refine l8 rfl (.inr rfl) rfl rfl ?_
  have hE:((([]:List Rt),(cE h u b m).2):(List Rt)×W)=(dZ h u b m k):=by exact aY h11 rfl
  rw [← hE];exact ⟨_,rfl,⟨[],sn,OwnG.nil⟩⟩
 refine go2 ?_;refine gJv [28,29,30,31,32,33] [(33,.bool (decide (k<0)||decide (12<k)))] (fun K3 J3=>?_) ?_
 ·refine go3 ?_;refine sBB rfl (fun h13=>?_) (fun h13=>?_)
  ·have ph13:=of_decide_eq_true h13;refine go4 ?_;refine J3 _ _ pp_ s0 (bK (mF h13))
  have ph13:=of_decide_eq_false h13;refine go4 ?_;refine J3 _ _ pp_ s0 (bK (j9 h13 rfl))
 intro g14;refine aH _ rfl (fun h15=>?_) (fun h15=>?_)
 ·refine go5 ?_;refine l8 rfl (.inr rfl) rfl rfl ?_
  have hE:((([]:List Rt),(wl 1)):(List Rt)×W)=(dZ h u b m k):=by exact aI h11 (aY h15 rfl)
  rw [← hE];exact ⟨_,rfl,⟨[],sn,OwnG.nil⟩⟩
 have hk0:=of_decide_eq_false (Bool.or_eq_false_iff.1 h15).1;have hk12:=of_decide_eq_false (Bool.or_eq_false_iff.1 h15).2;refine go3 ?_;intro b16 hb16;refine go2 ?_;refine bD rfl (kA (qs:=[gY_]) zpT (fun b17 hb17=>?_));refine go2 ?_;refine sQ (BJ rfl rfl) rfl (sS [cfn 134 [.pointer (some ⟨b10,0,none⟩),.pointer (some ⟨b16,0,none⟩),.pointer (some ⟨b17,0,none⟩)]] tyT rfl rfl rfl rfl rfl uH rfl hb17 (go2 ?_));refine oX sn 6 [4] [4] (go_ ?_);refine pQ rfl (bI aB (lQ (wl 0)) rfl) ?_;refine pQ rfl (bI aB (lQ (wl 1)) rfl) ?_;refine go_ ?_;refine cF rfl rfl (OpR.perm (QF (kW vF) hc_ (kW vF) vF n6) (KU aB rfl rfl (fun w hw=>by have hx:=IT w0 _ _ _ hb16 _ _ ((cE h u b m).1) oo_ ((k).toNat+1) _ (bR (wl 0)) (bR (wl 1)) (k).toNat none 0 [] [] (rO hF8 lZ) OwnG.nil oo_ oo_ (gF_ oo_) w hw;rw [Int.toNat_of_nonneg oo_] at hx;exact hx) (fun r M' hback=>⟨nf,sn,?_⟩)));obtain ⟨p18,c19,L20,rfl,hF21,rfl⟩:=hback;have hb22:=yK ((cE h u b m).1) ((k).toNat+1) (bR (wl 0)) (bR (wl 1)) (k).toNat [];refine go2 ?_;refine i9 (sk (sA (sd (sd (sR (s0)))))) ?_;refine go4 ?_;refine aH _ rfl (fun h23=>?_) (fun h23=>?_)
 ·refine go6 ?_;refine l8 rfl (.inr rfl) rfl rfl ?_
  have hE:((([]:List Rt),(bP ((cE h u b m).1) ((k).toNat+1) (bR (wl 0)) (bR (wl 1)) (k).toNat []).1):(List Rt)×W)=(dZ h u b m k):=by exact aI h11 (aI h15 (aY h23 rfl))
  rw [← hE];exact ⟨_,rfl,⟨[],sn,OwnG.nil⟩⟩
 refine go7 ?_;refine l8 rfl (.inr rfl) rfl rfl ?_
 have hE:(((bP ((cE h u b m).1) ((k).toNat+1) (bR (wl 0)) (bR (wl 1)) (k).toNat []).2,(wl 0)):(List Rt)×W)=(dZ h u b m k):=by exact aI h11 (aI h15 (aI h23 rfl))
 rw [← hE];exact ⟨_,rfl,⟨L20,(sd lZ),hF21⟩⟩
theorem tZ (va:Value) (a:(List Rt)) (vb:Value) (b:(List Rt)) (w:World) (ha:Slr w elRt va a) (hb:Slr w elRt vb b) :
    Calls prog 32 [va,vb].toArray w (fun e w'=>e = .returned (.bool (gI a b))∧Ext w w'):=by
 obtain ⟨p_a,c_a,rfl⟩:=ha.form;obtain ⟨p_b,c_b,rfl⟩:=hb.form;refine cS (N:=26) func32 rfl rfl (by simp) ?_;obtain ⟨w0,rfl⟩:∃ w0,w0=w:=⟨_,rfl⟩;have Ha:=ha.old;have hm_a:=ha.max;have Hb:=hb.old;have hm_b:=hb.max;simp only [bO,Nat.reduceAdd];refine go6 ?_;refine sQ (aL (v':=.int .i64 (((a).length:Nat):Int)) (eR (e:=elRt) uW rfl (SLe.sub Ha sn)) rfl) rfl (go_ ?_);refine sQ (aL (v':=.int .i64 (((b).length:Nat):Int)) (eR (e:=elRt) uW rfl (SLe.sub Hb sn)) rfl) rfl (go2 ?_);refine aH _ rfl (fun h1=>?_) (fun h1=>?_)
 ·have ph2:=hs_ h1;refine go4 ?_;refine bA rfl (.inr rfl) rfl ?_;exact congrArg vS2 (show _=(gI a b) from aY h1 rfl)
 have ph3:=hr_ h1;refine go5 ?_;refine gJ3 [4,5,11,12,13,14,15,16,17,18,19,20,21,22,23,24,25] (fun g M=>∃ (i:Nat),(j8 a b ((a.length+1)) 0) = .inl i∧(g 5 = .int .i64 ((i:Nat):Int))∧M=[]) (fun K_u4 hK_u4=>?_) ?_
 ·refine go_ ?_;refine cK [4,5,11,12,13,14,15,16,17,18,19,20,21,22,23,24,25] (fun g nn M=>∃ (i:Nat),(j8 a b nn i)=(j8 a b ((a.length+1)) 0)∧a.length - i<nn∧(i≤a.length)∧(g 5 = .int .i64 ((i:Nat):Int))∧M=[]) ((a.length+1)) ?start ?round
  case start=>exact ⟨_,s0,0,rfl,oo_,oo_,rfl,rfl⟩
  case round =>
   rintro nn g M ⟨i,hT0,hq0,hinv0,hg5,rfl⟩;obtain ⟨k0,rfl⟩:∃ m,nn=m+1:=⟨nn - 1,by omega⟩;simp only [fF,hg5];clear hg5;refine go4 ?_;refine sQ (aL (v':=.int .i64 (((a).length:Nat):Int)) (eR (e:=elRt) uW rfl (SLe.sub Ha sn)) rfl) rfl (go2 ?_);refine aH _ rfl (fun h9=>?_) (fun h9=>?_)
   ·have ph9:=of_decide_eq_true h9;refine go3 ?_;refine oX sn 9 [] [] (go2 ?_);refine pQ rfl (aL (v':=.pointer (some (slb (.slice p_a a.length c_a) (i * 36+0)))) (lI (e:=elRt) (l:=a) (k:=i) uW rfl rfl (SLe.sub Ha sn) o2_) rfl) ?_;refine pQ rfl (mE (e:=elRt) (l:=a) (k:=i) (o:=0) tyT rfl (SLe.sub Ha sn) (eH Rt0 o2_) rfl) ?_;refine go2 ?_;refine pQ rfl (aL (v':=.pointer (some (slb (.slice p_b b.length c_b) (i * 36+0)))) (lI (e:=elRt) (l:=b) (k:=i) uW rfl rfl (SLe.sub Hb sn) o2_) rfl) ?_;refine pQ rfl (mE (e:=elRt) (l:=b) (k:=i) (o:=0) tyT rfl (SLe.sub Hb sn) (eH Rt0 o2_) rfl) ?_;refine pQ rfl (DC (r:=(decide (((a.getD i Rt0).n)=((b.getD i Rt0).n))&&decide (((a.getD i Rt0).d)=((b.getD i Rt0).d)))) rfl rfl (oB 8 dd_ SJ S8 (cQ fH (mU fH)) (cQ fH (mU fH)) (fU rfl lT (sH lT)))) (go_ ?_);rcases bt (decide (((a.getD i Rt0).n)=((b.getD i Rt0).n))&&decide (((a.getD i Rt0).d)=((b.getD i Rt0).d))) with h10 | h10
    ·refine W_f (gE h10) rfl (go3 ?_);refine sV (.int .i64 (((i+1):Nat):Int)) rfl (congrArg (Value.int .i64) (wx oo_ oo_ oo_)) (go2 ?_);refine ⟨pp_,_,_,s0,(Nat.lt_succ_self _),(i+1),(by exact (hT0.symm.trans (Eq.symm (aY h9 (aY h10 rfl)))).symm),(Nat.lt_of_lt_of_le oo_ (Nat.le_of_lt_succ hq0)),oo_,rfl,rfl⟩
    refine W_t (iK h10) rfl (go4 ?_);refine bA rfl (.inr rfl) rfl ?_;exact congrArg vS2 (show _=(gI a b) from aI h1 ((DI rfl (hT0.symm.trans (Eq.symm (aY h9 (aI h10 rfl)))))))
   have ph9:=of_decide_eq_false h9;refine go_ ?_;refine hK_u4 _ _ pp_ ⟨_,s0,i,(by exact hT0.symm.trans (Eq.symm (aI h9 rfl))),rfl,rfl⟩
 rintro g M ⟨i,hCu4,hg5,rfl⟩;simp only [fF,hg5];clear hg5;refine go4 ?_;refine bA rfl (.inr rfl) rfl ?_;exact congrArg vS2 (show _=(gI a b) from aI h1 (trs (Eq.symm (smS hCu4)) rfl))
end Go.Proofs.YtkjjponijamaoaaGreatDoor
