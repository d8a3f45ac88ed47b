/- Lemmas: what they ask stands in their statements. -/
import Derived.Test.YtkjjponijamaoaaGreatDoorJOi
set_option linter.unusedSimpArgs false
set_option linter.unusedVariables false
set_option maxHeartbeats 8000000
set_option maxRecDepth 20000
namespace Go.Proofs.YtkjjponijamaoaaGreatDoor
open Go.Kn Go.Num Tryz
attribute [local irreducible] Go.Kn.W WL PL OpQ OpR OpS
theorem yI (n:Nat):∀ (vp:Value) (p:(List I)) (a:Rt) (c:Rt) (k:Int) (w:World) (hp:Slr w elI vp p) (hpre:p.length≤100∧0≤k∧k≤12),k.toNat<n→Calls prog 138 [vp,AV [pI a.n,pI a.d],AV [pI c.n,pI c.d],.int .i64 k].toArray w (fun e w'=>∃ v,e = .returned (.agg #[v,.int .i64 (((aD n p a c k).e).1)])∧Ext w w'∧Slo w.heap.size w' 33 elRt v (aD n p a c k).l):=by
 induction n with
 | zero=>intros;omega
 | succ n ih =>
 intro vp p a c k w hp hpre hq;obtain ⟨p_p,c_p,rfl⟩:=hp.form;refine dD (n:=97) (fun v=>.agg #[v,.int .i64 (((aD (n+1) p a c k).e).1)]) func138 O O zz_ ?_;obtain ⟨w0,rfl⟩:=nm w;have Hp:=hp.old;have hm_p:=hp.max;refine giI ?_;refine go2 ?_;intro b1 hb1;refine go_ ?_;intro b2 hb2;refine go_ ?_;intro b3 hb3;refine go4 ?_;refine sFc (AV [cw (((bB p a).s).1),cb ((bB p a).ok)]) O (fun w hw=>vA _ p a w (aR hw Hp sn) oo_) O O (go_ ?_);intro b4 hb4;refine go5 ?_;refine sFc (AV [cw (((bB p c).s).1),cb ((bB p c).ok)]) O (fun w hw=>vA _ p c w (aR hw Hp sn) oo_) O O (go_ ?_);intro b5 hb5;refine go3 ?_;refine gJv (rg [] 22 16) [(37,.bool (bif (bB p a).ok then (decide (((bB p a).s).1<0)||((bB p c).ok&&decide (((bB p c).s).1<0))) else ((bB p c).ok&&decide (((bB p c).s).1<0))))] (fun K2 J2=>?_) ?_
 ·refine go3 ?_;refine sBB O (fun h10=>?_) (fun h10=>?_)
  ·refine go4 ?_;refine sBB O (fun h11=>?_) (fun h11=>?_)
   ·have ph11:=of_decide_eq_true h11;refine go9 ?_;refine J2 _ _ pp_ s0 (bH (aX h10 (mJ h11)))
   have ph11:=of_decide_eq_false h11;refine go2 ?_;refine sBB O (fun h12=>?_) (fun h12=>?_)
   ·refine go6 ?_;refine J2 _ _ pp_ s0 (bH (aX h10 (kC h11 (mW h12 O))))
   refine go6 ?_;refine J2 _ _ pp_ s0 (bH (aX h10 (kC h11 (pU h12))))
  refine go7 ?_;refine sBB O (fun h13=>?_) (fun h13=>?_)
  ·refine go6 ?_;refine J2 _ _ pp_ s0 (bH (aJ h10 (mW h13 O)))
  refine go6 ?_;refine J2 _ _ pp_ s0 (bH (aJ h10 (pU h13)))
 intro g14;refine aH _ O (fun h15=>?_) (fun h15=>?_)
 ·refine go5 ?_;refine rtX O (dP O m2 tyT O) ?_
  have hE:((⟨([]:List Rt),(wl 200)⟩:Times):Times)=(aD (n+1) p a c k):=by exact aX h15 O
  rw [← hE];exact ⟨_,rfl,⟨[],sn,OwnG.nil⟩⟩
 refine go5 ?_;refine sFc (.tuple #[.bool ((cR p a c).1),.int .i64 (((cR p a c).2).1)]) O (fun w hw=>vD _ p a c w (aR hw Hp sn) (by first|omega|(simp;done)|(simp;omega))) O O ?_;refine go7 ?_;refine gJv (rg [] 46 12) [(57,.bool (!((bB p a).ok)||(!((bB p c).ok)||(((cR p a c).2).1 != 0))))] (fun K4 J4=>?_) ?_
 ·refine go4 ?_;rcases bt ((bB p a).ok) with h18|h18
  ·refine sB (fZ h18) O (go4 ?_);rcases bt ((bB p c).ok) with h19|h19
   ·refine sB (fZ h19) O (go4 ?_);refine J4 _ _ pp_ s0 (bH (lE h18 (lE h19 O)))
   refine sB (iX h19) O (go4 ?_);refine J4 _ _ pp_ s0 (bH (lE h18 (oG h19)))
  refine sB (iX h18) O (go9 ?_);refine J4 _ _ pp_ s0 (bH (oG h18))
 intro g20;refine aH _ O (fun h21=>?_) (fun h21=>?_)
 ·refine iS (sd (sd s0)) ?_;refine go5 ?_;refine rtX O (dP O m0 tyT O) ?_
  have hE:((⟨([]:List Rt),(wl 30)⟩:Times):Times)=(aD (n+1) p a c k):=by exact aJ h15 (aX h21 O)
  rw [← hE];exact ⟨_,rfl,⟨[],sn,OwnG.nil⟩⟩
 refine go_ ?_;refine iS (sd (sd s0)) ?_;refine go4 ?_;refine aH _ O (fun h22=>?_) (fun h22=>?_)
 ·refine go2 ?_;refine aZ O (bJ [[pI c.n,pI c.d]] [pI c.n,pI c.d] xW QD GJ O dd_ O O ⟨rfl,rfl,rfl,trivial⟩ O (fun b23 hb23=>go4 ?_));refine rtX O (dP O m1 tyT O) ?_
  have hE:((⟨[c],(wl 0)⟩:Times):Times)=(aD (n+1) p a c k):=by exact aJ h15 (aJ h21 (aX h22 O))
  rw [← hE];exact ⟨_,rfl,⟨_,(sk sn),OwnG.lit (e:=elRt) (l:=[c]) (qs:=[pI c.n,pI c.d]) hb23 O (Nat.le_of_ble_eq_true O) O⟩⟩
 refine go6 ?_;refine aH _ O (fun h24=>?_) (fun h24=>?_)
 ·have ph24:=E8 h24;refine go5 ?_;refine rtX O (dP O m0 tyT O) ?_
  have hE:((⟨([]:List Rt),(wl 160)⟩:Times):Times)=(aD (n+1) p a c k):=by exact aJ h15 (aJ h21 (aJ h22 (aX h24 O)))
  rw [← hE];exact ⟨_,rfl,⟨[],sn,OwnG.nil⟩⟩
 have ph24:=wO h24;refine go4 ?_;refine sQ (bE aB (BT a c) O) O (go_ ?_);intro b25 hb25;refine go7 ?_;refine sWi (k - 1) O (aZ O (aN (E:=33) (e:=elRt) (l:=(aD n p a (aM a c) (k - 1)).l) (fun v=>.agg #[v,.int .i64 (((aD n p a (aM a c) (k - 1)).e).1)]) aB O (fun w hw=>ih _ p a (aM a c) (k - 1) w (aR hw Hp sn) oo_ oo_) (fun p26 c27 L28 hF29=>?_)));have hb30:=(pD n p a (aM a c) (k - 1) oo_);refine go_ ?_;intro b31 hb31;refine go8 ?_;refine aH _ O (fun h32=>?_) (fun h32=>?_)
 ·refine go5 ?_;refine rtX O (dP O (mC (mA (mC mZ))) tyT O) ?_
  have hE:((⟨(aD n p a (aM a c) (k - 1)).l,(aD n p a (aM a c) (k - 1)).e⟩:Times):Times)=(aD (n+1) p a c k):=by exact aJ h15 (aJ h21 (aJ h22 (aJ h24 (aX h32 O))))
  rw [← hE];exact ⟨_,rfl,⟨L28,(sd lZ),hF29⟩⟩
 refine go6 ?_;refine sWi (k - 1) O (aZ O (aN (E:=33) (e:=elRt) (l:=(aD n p (aM a c) c (k - 1)).l) (fun v=>.agg #[v,.int .i64 (((aD n p (aM a c) c (k - 1)).e).1)]) aB O (fun w hw=>ih _ p (aM a c) c (k - 1) w (aR hw Hp sn) oo_ oo_) (fun p33 c34 L35 hF36=>?_)));have hb37:=(pD n p (aM a c) c (k - 1) oo_);refine go_ ?_;intro b38 hb38;refine go2 ?_;refine iS (sk (sA (sk (sA (sd (sk (sd (sd s0)))))))) ?_;refine go6 ?_;refine aH _ O (fun h39=>?_) (fun h39=>?_)
 ·refine go5 ?_;refine rtX O (dP O (mC (mA (mC (mA mZ)))) tyT O) ?_
  have hE:((⟨(aD n p (aM a c) c (k - 1)).l,(aD n p (aM a c) c (k - 1)).e⟩:Times):Times)=(aD (n+1) p a c k):=by exact aJ h15 (aJ h21 (aJ h22 (aJ h24 (aJ h32 (aX h39 O)))))
  rw [← hE];exact ⟨_,rfl,⟨L35,(sd lZ),hF36⟩⟩
 refine go_ ?_;refine gDs sn (.quiet 1 [2,3,6,7,8] (.quiet 2 [3,6,7,8] (.still 4 [5,6,7,8] (.both 0 (.both 3 (.quiet 5 [6,7,8] (.only 6 (.quiet 7 [8] (.only 8 (.fin))))) 5 (.only 3 (.only 6 (.quiet 7 [8] (.only 8 (.fin)))))) 5 (.only 0 (.only 3 (.only 6 (.quiet 7 [8] (.only 8 (.fin)))))))))) [0,1,2,4,5,7] mix (by kernel_rfl) (by kernel_rfl) (go2 ?_);refine E5 O O (yQ (off':=0) (cB fdT dd_ O) O) ?_;refine BF ?_ ?_
 ·refine bP O O (bJ [] [] xW QD GJ O dd_ O O trivial O (fun b40 hb40=>⟨(fun _=>sd s0),sn,?_⟩));refine BF ?_ ?_
  ·refine bP O O (kQ (e:=elRt) (l:=[]) (m:=(aD n p a (aM a c) (k - 1)).l) 136 xW (by kernel_rfl) dd_ O O (OwnG.lit (e:=elRt) (l:=[]) (qs:=[]) hb40 O (Nat.le_of_ble_eq_true O) O) (rO hF29 (sd (sd (sR (sd lZ))))) sY (by simp only [List.length_append,List.length_nil];omega) dd_ (fun p41 c42 L43 hO44=>⟨nf,sn,?_⟩));refine go_ ?_;refine bP O O (kQ (e:=elRt) (l:=([]++(aD n p a (aM a c) (k - 1)).l)) (m:=(aD n p (aM a c) c (k - 1)).l) 136 xW (by kernel_rfl) dd_ O O hO44 (rO hF36 (sR (sd lZ))) mV (by simp only [List.length_append,List.length_nil];omega) dd_ (fun p45 c46 L47 hO48=>⟨nf,sn,?_⟩));refine pQ O (nV zpT plT O (.cons [csl p45 (([]++(aD n p a (aM a c) (k - 1)).l)++(aD n p (aM a c) c (k - 1)).l).length c46] [csl p45 (([]++(aD n p a (aM a c) (k - 1)).l)++(aD n p (aM a c) c (k - 1)).l).length c46,cw 0] O O O O (.nil _))) (go3 ?_);refine rtX O (dP O (mA (mC (mA (mC (mA mZ))))) tyT O) ?_
   have hE:((⟨(([]++(aD n p a (aM a c) (k - 1)).l)++(aD n p (aM a c) c (k - 1)).l),(wl 0)⟩:Times):Times)=(aD (n+1) p a c k):=by exact aJ h15 (aJ h21 (aJ h22 (aJ h24 (aJ h32 (aJ h39 O)))))
   rw [← hE];exact ⟨_,rfl,⟨L47,lZ,hO48⟩⟩
  refine bP O O (xE (EJ (v:=.slice p33 ((aD n p (aM a c) c (k - 1)).l).length c34) tyT O m1 O) ⟨fun _=>s0,sn,bP O O (kQ (e:=elRt) (l:=[]) (m:=(aD n p a (aM a c) (k - 1)).l) 136 xW (by kernel_rfl) dd_ O O (OwnG.lit (e:=elRt) (l:=[]) (qs:=[]) hb40 O (Nat.le_of_ble_eq_true O) O) (rO hF29 (sd (sd (sR (sd lZ))))) sY (by simp only [List.length_append,List.length_nil];omega) dd_ (fun p49 c50 L51 hO52=>⟨nf,sn,?_⟩))⟩);refine bP O O (kQ (e:=elRt) (l:=([]++(aD n p a (aM a c) (k - 1)).l)) (m:=(aD n p (aM a c) c (k - 1)).l) 136 xW (by kernel_rfl) dd_ O O hO52 (rO hF36 (sR (sd lZ))) mV (by simp only [List.length_append,List.length_nil];omega) dd_ (fun p53 c54 L55 hO56=>⟨nf,sn,?_⟩));refine pQ O (nV zpT plT O (.cons [csl p53 (([]++(aD n p a (aM a c) (k - 1)).l)++(aD n p (aM a c) c (k - 1)).l).length c54] [csl p53 (([]++(aD n p a (aM a c) (k - 1)).l)++(aD n p (aM a c) c (k - 1)).l).length c54,cw 0] O O O O (.nil _))) (go3 ?_);refine rtX O (dP O (mA (mC (mA (mC (mA mZ))))) tyT O) ?_
  have hE:((⟨(([]++(aD n p a (aM a c) (k - 1)).l)++(aD n p (aM a c) c (k - 1)).l),(wl 0)⟩:Times):Times)=(aD (n+1) p a c k):=by exact aJ h15 (aJ h21 (aJ h22 (aJ h24 (aJ h32 (aJ h39 O)))))
  rw [← hE];exact ⟨_,rfl,⟨L55,lZ,hO56⟩⟩
 refine bP O O (xE (EJ (v:=.slice p33 ((aD n p (aM a c) c (k - 1)).l).length c34) tyT O m0 O) ⟨fun _=>s0,sn,bP O O (bJ [] [] xW QD GJ O dd_ O O trivial O (fun b57 hb57=>⟨(fun _=>sd s0),sn,bP O O (kQ (e:=elRt) (l:=[]) (m:=(aD n p a (aM a c) (k - 1)).l) 136 xW (by kernel_rfl) dd_ O O (OwnG.lit (e:=elRt) (l:=[]) (qs:=[]) hb57 O (Nat.le_of_ble_eq_true O) O) (rO hF29 (sd (sd (sR (sd lZ))))) sY (by simp only [List.length_append,List.length_nil];omega) dd_ (fun p58 c59 L60 hO61=>⟨nf,sn,?_⟩))⟩))⟩);refine bP O O (kQ (e:=elRt) (l:=([]++(aD n p a (aM a c) (k - 1)).l)) (m:=(aD n p (aM a c) c (k - 1)).l) 136 xW (by kernel_rfl) dd_ O O hO61 (rO hF36 (sR (sd lZ))) mV (by simp only [List.length_append,List.length_nil];omega) dd_ (fun p62 c63 L64 hO65=>⟨nf,sn,?_⟩));refine pQ O (nV zpT plT O (.cons [csl p62 (([]++(aD n p a (aM a c) (k - 1)).l)++(aD n p (aM a c) c (k - 1)).l).length c63] [csl p62 (([]++(aD n p a (aM a c) (k - 1)).l)++(aD n p (aM a c) c (k - 1)).l).length c63,cw 0] O O O O (.nil _))) (go3 ?_);refine rtX O (dP O (mA (mC (mA (mC (mA mZ))))) tyT O) ?_
 have hE:((⟨(([]++(aD n p a (aM a c) (k - 1)).l)++(aD n p (aM a c) c (k - 1)).l),(wl 0)⟩:Times):Times)=(aD (n+1) p a c k):=by exact aJ h15 (aJ h21 (aJ h22 (aJ h24 (aJ h32 (aJ h39 O)))))
 rw [← hE];exact ⟨_,rfl,⟨L64,lZ,hO65⟩⟩
theorem yJ (vp:Value) (p:(List I)) (a:Rt) (c:Rt) (k:Int) (w:World) (hp:Slr w elI vp p) (hpre:p.length≤100∧0≤k∧k≤12) :
 Calls prog 138 [vp,AV [pI a.n,pI a.d],AV [pI c.n,pI c.d],.int .i64 k].toArray w (fun e w'=>∃ v,e = .returned (.agg #[v,.int .i64 (((gJ p a c k).e).1)])∧Ext w w'∧Slo w.heap.size w' 33 elRt v (gJ p a c k).l):=yI _ vp p a c k w hp hpre (Nat.lt_succ_self _)
theorem z3 (h:Path) (u:(A3 W)) (b:(A3 Rt)) (m:Rt) (k:Int) (w:World)  :
    Calls prog 58 [AV [cw h.from_.x.x.1,cw h.from_.x.y.1,cw h.from_.x.z.1,cw h.from_.q.x.1,cw h.from_.q.y.1,cw h.from_.q.z.1,cw h.from_.q.t.1,cw h.to_.x.x.1,cw h.to_.x.y.1,cw h.to_.x.z.1,cw h.to_.q.x.1,cw h.to_.q.y.1,cw h.to_.q.z.1,cw h.to_.q.t.1],AV [cw u.x.1,cw u.y.1,cw u.z.1],AV [pI b.x.n,pI b.x.d,pI b.y.n,pI b.y.d,pI b.z.n,pI b.z.d],AV [pI m.n,pI m.d],.int .i64 k].toArray w (fun e w'=>∃ v,e = .returned (.agg #[v,.int .i64 (((dO h u b m k).e).1)])∧Ext w w'∧Slo w.heap.size w' 33 elRt v (dO h u b m k).l):=by
 refine dD (n:=36) (fun v=>.agg #[v,.int .i64 (((dO h u b m k).e).1)]) func58 O O zz_ ?_;obtain ⟨w0,rfl⟩:=nm w;refine giI ?_;refine go2 ?_;intro b1 hb1;refine go_ ?_;intro b2 hb2;refine go_ ?_;intro b3 hb3;refine go_ ?_;intro b4 hb4;refine go_ ?_;intro b5 hb5;refine go6 ?_;refine aZ O (aN (E:=31) (e:=elI) (l:=(aW h u b m).p) (fun v=>.agg #[v,.int .i64 (((aW h u b m).e).1)]) aB O (fun w hw=>uI h u b m w) (fun p6 c7 L8 hF9=>?_));have hb10:=(uG h u b m);refine go_ ?_;intro b11 hb11;refine go2 ?_;refine iS (sk (sA (sk (sd (sd (sd (sd s0))))))) ?_;refine go6 ?_;refine aH _ O (fun h12=>?_) (fun h12=>?_)
 ·refine go7 ?_;refine rtX O (dP O (mC (mA mZ)) tyT O) ?_
  have hE:((⟨([]:List Rt),(aW h u b m).e⟩:Times):Times)=(dO h u b m k):=by exact aX h12 O
  rw [← hE];exact ⟨_,rfl,⟨[],sn,OwnG.nil⟩⟩
 refine go2 ?_;refine gJv [23,24,25,26,27,28] [(28,.bool (decide (k<0)||decide (12<k)))] (fun K3 J3=>?_) ?_
 ·refine go3 ?_;refine sBB O (fun h14=>?_) (fun h14=>?_)
  ·have ph14:=of_decide_eq_true h14;refine go4 ?_;refine J3 _ _ pp_ s0 (bH (mJ h14))
  have ph14:=of_decide_eq_false h14;refine go4 ?_;refine J3 _ _ pp_ s0 (bH (kC h14 O))
 intro g15;refine aH _ O (fun h16=>?_) (fun h16=>?_)
 ·refine go5 ?_;refine rtX O (dP O (mC (mA mZ)) tyT O) ?_
  have hE:((⟨([]:List Rt),(wl 1)⟩:Times):Times)=(dO h u b m k):=by exact aJ h12 (aX h16 O)
  rw [← hE];exact ⟨_,rfl,⟨[],sn,OwnG.nil⟩⟩
 have hk0:=of_decide_eq_false (Bool.or_eq_false_iff.1 h16).1;have hk12:=of_decide_eq_false (Bool.or_eq_false_iff.1 h16).2;refine go_ ?_;refine qM (sk (sA sn)) 7 [5,6] [6] (go2 ?_);refine pQ O (bE aB (fV (wl 0)) O) ?_;refine pQ O (bE aB (fV (wl 1)) O) ?_;refine go_ ?_;refine bP O O (aN (E:=33) (e:=elRt) (l:=(gJ ((aW h u b m).p) (aI (wl 0)) (aI (wl 1)) k).l) (fun v=>.agg #[v,.int .i64 (((gJ ((aW h u b m).p) (aI (wl 0)) (aI (wl 1)) k).e).1)]) aB O (fun w hw=>yJ _ ((aW h u b m).p) (aI (wl 0)) (aI (wl 1)) k w (aO hw hF9 (sd lZ)) oo_) (fun p17 c18 L19 hF20=>⟨(fun _=>sR s0),(sR (sk (sA sn))),?_⟩));have hb21:=(yG ((aW h u b m).p) (aI (wl 0)) (aI (wl 1)) k oo_);refine go3 ?_;refine rtX O (dP O (mA (mC (mA mZ))) tyT O) ?_
 have hE:((⟨(gJ ((aW h u b m).p) (aI (wl 0)) (aI (wl 1)) k).l,(gJ ((aW h u b m).p) (aI (wl 0)) (aI (wl 1)) k).e⟩:Times):Times)=(dO h u b m k):=by exact aJ h12 (aJ h16 O)
 rw [← hE];exact ⟨_,rfl,⟨L19,lZ,hF20⟩⟩
theorem CG (h:Path) (u:(A3 W)) (b:(A3 Rt)) (m:Rt) (k:W) (vl:Value) (l:(List Rt)) (w:World) (hl:Slr w elRt vl l) :
    Calls prog 10 [AV [cw h.from_.x.x.1,cw h.from_.x.y.1,cw h.from_.x.z.1,cw h.from_.q.x.1,cw h.from_.q.y.1,cw h.from_.q.z.1,cw h.from_.q.t.1,cw h.to_.x.x.1,cw h.to_.x.y.1,cw h.to_.x.z.1,cw h.to_.q.x.1,cw h.to_.q.y.1,cw h.to_.q.z.1,cw h.to_.q.t.1],AV [cw u.x.1,cw u.y.1,cw u.z.1],AV [pI b.x.n,pI b.x.d,pI b.y.n,pI b.y.d,pI b.z.n,pI b.z.d],AV [pI m.n,pI m.d],.int .i64 k.1,vl].toArray w (fun e w'=>e = .returned (.bool (iT h u b m k l))∧Ext w w'):=by
 obtain ⟨p_l,c_l,rfl⟩:=hl.form;refine cM (N:=71) func10 O O zz_ ?_;obtain ⟨w0,rfl⟩:=nm w;have Hl:=hl.old;have hm_l:=hl.max;refine giI ?_;refine go2 ?_;intro b1 hb1;refine go_ ?_;intro b2 hb2;refine go_ ?_;intro b3 hb3;refine go_ ?_;intro b4 hb4;refine go3 ?_;refine gJv (rg [] 16 11) [(26,.bool (decide (40<(l.length:Int))||(decide (4<k.1)&&decide (k.1≤12))))] (fun K2 J2=>?_) ?_
 ·refine go2 ?_;refine sQ (dW sL O (SLe.sub Hl sn)) O (go_ ?_);refine sBB O (fun h7=>?_) (fun h7=>?_)
  ·have ph7:=of_decide_eq_true h7;refine go8 ?_;refine J2 _ _ pp_ s0 (bH (mJ h7))
  have ph7:=of_decide_eq_false h7;refine go2 ?_;refine sBB O (fun h8=>?_) (fun h8=>?_)
  ·have ph8:=of_decide_eq_true h8;refine go5 ?_;refine J2 _ _ pp_ s0 (bH (kC h7 (mW h8 O)))
  have ph8:=of_decide_eq_false h8;refine go5 ?_;refine J2 _ _ pp_ s0 (bH (kC h7 (pU h8)))
 intro g9;refine aH _ O (fun h10=>?_) (fun h10=>?_)
 ·refine go_ ?_;refine sQ (bE aB tI  rfl) O (go3 ?_);refine rt1 ?_;exact congrArg vS2 (show _=(iT h u b m k l) from aX h10 O)
 have ph11:=of_decide_eq_false (Bool.or_eq_false_iff.1 h10).1;refine go7 ?_;refine aZ O (aN (E:=33) (e:=elRt) (l:=(fK h u b m k.1).1) (fun v=>.tuple #[v,.int .i64 (((fK h u b m k.1).2).1)]) aB O (fun w hw=>xR h u b m k.1 w) (fun p12 c13 L14 hF15=>tL ?_));refine aZ O (aN (E:=33) (e:=elRt) (l:=(dO h u b m k.1).l) (fun v=>.agg #[v,.int .i64 (((dO h u b m k.1).e).1)]) aB O (fun w hw=>z3 h u b m k.1 w) (fun p16 c17 L18 hF19=>go_ ?_));intro b20 hb20;refine go2 ?_;refine gJv (rg [12] 43 28) [(12,.bool (iZ&&((iB ((fK h u b m k.1).1) ((dO h u b m k.1).l))&&((((fK h u b m k.1).2).1==((dO h u b m k.1).e).1)&&((oB h u b m l)==(iA h u b m l))))))] (fun K3 J3=>?_) ?_
 ·refine gdr s0 [0,4,8,12,16,20,24,28,32,36,40,44,48,52,56,60,64,68,72,76,80,84,88,92,96,100,104,108,112] [] mix (by kernel_rfl) (pQ O (bE aB tI  rfl) ?_);refine pBB O (fun h24=>?_) (fun h24=>?_)
  ·refine go3 ?_;refine pQ O (aY (v':=.bool (iB ((fK h u b m k.1).1) ((dO h u b m k.1).l))) (dF aB O (fun w hw=>vC _ ((fK h u b m k.1).1) _ ((dO h u b m k.1).l) w (aO hw hF15 (sd (sR lZ))) (aO hw hF19 (sd lZ)))) O) (go_ ?_);refine pBB O (fun h25=>?_) (fun h25=>?_)
   ·refine go5 ?_;refine pBB O (fun h26=>?_) (fun h26=>?_)
    ·refine go5 ?_;refine pQ O (aY (v':=.bool (oB h u b m l)) (dF aB O (c1_ (JU h u b m _ l) Hl sn)) O) (go5 ?_);refine pQ O (aY (v':=.bool (iA h u b m l)) (dF aB O (c1_ (AT h u b m _ l) Hl sn)) O) (pQ O (aY (v':=.bool ((oB h u b m l)==(iA h u b m l))) (RF C6 O O) O) (go3 ?_));refine J3 _ _ pp_ s0 (bH (mW h24 (mW h25 (mW h26 O))))
    refine QY ?_;refine J3 _ _ pp_ s0 (bH (mW h24 (mW h25 (pU h26))))
   refine ez_ ?_;refine J3 _ _ pp_ s0 (bH (mW h24 (pU h25)))
  refine eB_ ?_;refine J3 _ _ pp_ s0 (bH (pU h24))
 intro g27;refine go_ ?_;refine rt1 ?_;exact congrArg vS2 (show _=(iT h u b m k l) from aJ h10 O)
end Go.Proofs.YtkjjponijamaoaaGreatDoor
namespace Go.Num
open Go Go.Kn
theorem a7_ (a b:Rt):oA a b=j5 a b:=by
 unfold oA j5 gF;rw [wT,wT]
 cases aP a<;>cases aP b<;>simp only [Bool.not_true,Bool.not_false,Bool.or_true,Bool.true_or,Bool.or_false,Bool.and_true,Bool.and_false,cond_true,cond_false,eQ]<;>rfl
theorem W.abs_1 {x:W} (h:x.1 ≠ -9223372036854775808):(W.max x (W.neg x)).1=(x.1.natAbs:Nat):=by
 have h2:=x.2;unfold I64 at h2
 have hn:(W.neg x).1 = -x.1:=by
  show IntKind.i64.wrap (0 - x.1)=_
  rw [wi oo_];omega
 unfold W.max;rw [hn]
 by_cases h3:x.1 < -x.1
 ·rw [decide_eq_true h3,cond_true,hn];omega
 rw [decide_eq_false h3,cond_false];omega
theorem WI {p q:Int} (hp:0≤p) (hq:0≤q):Int.gcd q (p.tmod q)=Int.gcd p q:=by
 rw [Int.tmod_eq_emod_of_nonneg hp,Int.gcd_comm p q]
 conv=>rhs;rw [← Int.emod_add_mul_ediv p q]
 rw [Int.gcd_add_mul_left_right]
theorem F3 {l:List W} {x0:W} {l0:List W} {o:W}:∀ (k:Nat) (p q:W),0≤p.1→0≤q.1→q.1.natAbs<k→(mN l x0 l0 o k p q).1.1=(Int.gcd p.1 q.1:Nat)
 | 0,p,q,_,_,h=>absurd h (Nat.not_lt_zero _)
 | k+1,p,q,hp,hq,h=>by
  rw [mN]
  by_cases h0:q.1=0
  ·rw [show (q.1 != 0)=false by simp [h0],cond_false,h0,Int.gcd_zero_right];show p.1=(p.1.natAbs:Nat);omega
  rw [show (q.1 != 0)=true by simp [h0],cond_true];have h1:(W.rem p q).1=p.1.tmod q.1:=rfl;have h2:=W.rem_lt p (q:=q) (by simp [h0]);rw [F3 k q (W.rem p q) hq (by rw [h1];exact Int.tmod_nonneg _ hp) oo_,h1,WI hp hq]
theorem OQ {l:List W}:∀ (r:List W) (o:W),0≤o.1→(∀ x∈r,x.1 ≠ -9223372036854775808)→(lG l r o).1=(r.foldl (fun (g:Nat) (x:W)=>Int.gcd g x.1) o.1.natAbs:Nat)
 | [],o,ho,_=>by rw [lG];show o.1=(o.1.natAbs:Nat);omega
 | x::r,o,ho,h=>by
  rw [lG];have ha:=W.abs_1 (h x List.mem_cons_self);have he:=F3 (l:=l) (x0:=x) (l0:=r) (o:=o) ((W.max x (W.neg x)).1.natAbs+1) o (W.max x (W.neg x)) ho (by rw [ha];omega) (Nat.lt_succ_self _)
  show (lG l r (mN l x r o ((W.max x (W.neg x)).1.natAbs+1) o (W.max x (W.neg x))).1).1=_
  rw [OQ r _ (by rw [he];omega) (fun y hy=>h y (List.mem_cons_of_mem _ hy)),he,ha,List.foldl_cons]
  congr 2
theorem bC_ {l:List W} (h:∀ x∈l,x.1 ≠ -9223372036854775808):(dB l).1=(l.foldl (fun (g:Nat) (x:W)=>Int.gcd g x.1) 0:Nat):=OQ l (wl 0) (Int.le_refl _) h
theorem HZ {a b:W}:∀ (k:Nat) (p q:W),q.1.natAbs<k→(gL a b k p q).1.1.natAbs=Int.gcd p.1 q.1
 | 0,p,q,h=>absurd h (Nat.not_lt_zero _)
 | k+1,p,q,h=>by
  rw [gL]
  by_cases h0:q.1=0
  ·rw [show (q.1 != 0)=false by simp [h0],cond_false,h0,Int.gcd_zero_right]
  rw [show (q.1 != 0)=true by simp [h0],cond_true];have h1:(W.rem p q).1=p.1.tmod q.1:=rfl;have h2:=W.rem_lt p (q:=q) (by simp [h0]);rw [HZ k q (W.rem p q) oo_,h1,Int.gcd,Int.natAbs_tmod,Int.gcd,Nat.gcd_comm p.1.natAbs,Nat.gcd_rec q.1.natAbs p.1.natAbs,Nat.gcd_comm]
structure Z4 where
 x:Int
 y:Int
 z:Int
 t:Int
deriving DecidableEq
def Z4.g (a:Z4):Nat:=Int.gcd (Int.gcd (Int.gcd (Int.gcd (0:Nat) a.x:Nat) a.y:Nat) a.z:Nat) a.t
def Z4.lead (a:Z4):Int:=if a.x≠0 then a.x else if a.y≠0 then a.y else if a.z≠0 then a.z else a.t
def Z4.m (a:Z4):Int:=a.lead.sign*a.g
def Z4.dir (a:Z4):Z4:=⟨a.x / a.m,a.y / a.m,a.z / a.m,a.t / a.m⟩
def Z4.zero (a:Z4):Prop:=a.x=0∧a.y=0∧a.z=0∧a.t=0
theorem Z4.ext {a b:Z4} (h1:a.x=b.x) (h2:a.y=b.y) (h3:a.z=b.z) (h4:a.t=b.t):a=b:=by cases a;cases b;simp_all
theorem Z4.g_zero {a:Z4}:a.g=0 ↔ a.zero:=by
 unfold Z4.g Z4.zero;simp only [Int.gcd_eq_zero_iff,Int.natCast_eq_zero]
 constructor
 ·rintro ⟨⟨⟨⟨_,h1⟩,h2⟩,h3⟩,h4⟩;exact ⟨h1,h2,h3,h4⟩
 rintro ⟨h1,h2,h3,h4⟩;exact ⟨⟨⟨⟨trivial,h1⟩,h2⟩,h3⟩,h4⟩
theorem Z4.lead_zero {a:Z4} (h:¬ a.zero):a.lead≠0:=by
 unfold Z4.zero at h;unfold Z4.lead
 by_cases h1:a.x=0<;>by_cases h2:a.y=0<;>by_cases h3:a.z=0<;>simp_all
theorem Z4.m_ne {a:Z4} (h:¬ a.zero):a.m≠0:=by
 unfold Z4.m;have h1:=Z4.lead_zero h;have h2:a.g≠0:=fun e=>h (Z4.g_zero.1 e);intro e;rcases Int.mul_eq_zero.1 e with e|e
 ·exact h1 (Int.sign_eq_zero_iff_zero.1 e)
 exact h2 (by exact_mod_cast e)
theorem Z4.m_abs {a:Z4} (h:¬ a.zero):a.m.natAbs=a.g:=by
 unfold Z4.m;rw [Int.natAbs_mul,Int.natAbs_natCast,Int.natAbs_sign_of_ne_zero (Z4.lead_zero h),Nat.one_mul]
theorem Z4.g_dvd (a:Z4):((a.g:Nat):Int) ∣ a.x∧((a.g:Nat):Int) ∣ a.y∧((a.g:Nat):Int) ∣ a.z∧((a.g:Nat):Int) ∣ a.t:=by
 unfold Z4.g;have l:∀ (u v:Int),((Int.gcd u v:Nat):Int) ∣ u:=fun u v=>Int.gcd_dvd_left ..;have r:∀ (u v:Int),((Int.gcd u v:Nat):Int) ∣ v:=fun u v=>Int.gcd_dvd_right ..;refine ⟨?_,?_,?_,r _ _⟩
 ·exact Int.dvd_trans (Int.dvd_trans (Int.dvd_trans (l _ _) (l _ _)) (l _ _)) (r _ _)
 ·exact Int.dvd_trans (Int.dvd_trans (l _ _) (l _ _)) (r _ _)
 exact Int.dvd_trans (l _ _) (r _ _)
theorem Z4.m_dvd {a:Z4} (h:¬ a.zero):a.m ∣ a.x∧a.m ∣ a.y∧a.m ∣ a.z∧a.m ∣ a.t:=by
 have e:∀ v:Int,((a.g:Nat):Int) ∣ v→a.m ∣ v:=fun v hv=>by
  rw [← Z4.m_abs h] at hv;exact Int.natAbs_dvd.1 hv
 obtain ⟨h1,h2,h3,h4⟩:=Z4.g_dvd a;exact ⟨e _ h1,e _ h2,e _ h3,e _ h4⟩
def A4.i (a:A4 W):Z4:=⟨a.x.1,a.y.1,a.z.1,a.t.1⟩
theorem A4.i_inj {a b:A4 W} (h:a.i=b.i):a=b:=by
 cases a;cases b
 simp only [A4.i,Z4.mk.injEq] at h;obtain ⟨h1,h2,h3,h4⟩:=h;simp only [A4.mk.injEq];exact ⟨Subtype.ext h1,Subtype.ext h2,Subtype.ext h3,Subtype.ext h4⟩
def A4.Fine (a:A4 W):Prop:=a.x.1 ≠ -9223372036854775808∧a.y.1 ≠ -9223372036854775808∧a.z.1 ≠ -9223372036854775808∧a.t.1 ≠ -9223372036854775808
theorem ZG {a:A4 W} (h:a.Fine):(dB [a.x,a.y,a.z,a.t]).1=(a.i.g:Nat):=by
 obtain ⟨h1,h2,h3,h4⟩:=h;rw [bC_ (by simp only [List.mem_cons,List.not_mem_nil,or_false];rintro x (rfl|rfl|rfl|rfl)<;>assumption)];rfl
theorem SS {a r:W} (h:a.1 ≠ -9223372036854775808) (hd:r.1 ∣ a.1) (h0:r.1≠0):(W.quo a r).1=a.1 / r.1:=by
 have h2:=a.2;unfold I64 at h2
 show IntKind.i64.wrap (a.1.tdiv r.1)=_
 rw [Int.tdiv_eq_ediv_of_dvd hd];obtain ⟨k,hk⟩:=hd;rw [hk,Int.mul_ediv_cancel_left _ h0]
 have:k.natAbs≤a.1.natAbs:=by rw [hk,Int.natAbs_mul];exact Nat.le_mul_of_pos_left _ oo_
 exact wi oo_
theorem aO_ {a:W} (h:a.1 ≠ -9223372036854775808):(W.neg a).1 = -a.1:=by
 have h2:=a.2;unfold I64 at h2
 show IntKind.i64.wrap (0 - a.1)=_
 rw [wi oo_];omega
theorem S4 {g v:W} (hg:0≤g.1) (hv:v.1≠0):(bif decide (v.1<0) then W.neg g else g).1=v.1.sign*g.1:=by
 by_cases h:v.1<0
 ·rw [decide_eq_true h,cond_true,aO_ oo_,Int.sign_eq_neg_one_of_neg h];omega
 rw [decide_eq_false h,cond_false,Int.sign_eq_one_of_pos oo_];omega
theorem HV {a:A4 W} {r:W} (h:a.Fine) (hz:¬ a.i.zero) (hr:r.1=a.i.m):(⟨W.quo a.x r,W.quo a.y r,W.quo a.z r,W.quo a.t r⟩:A4 W).i=a.i.dir:=by
 obtain ⟨d1,d2,d3,d4⟩:=Z4.m_dvd hz;have hm:=Z4.m_ne hz;rw [← hr] at d1 d2 d3 d4 hm;obtain ⟨h1,h2,h3,h4⟩:=h;refine Z4.ext ?_ ?_ ?_ ?_
 ·exact (SS h1 d1 hm).trans (by rw [hr];rfl)
 ·exact (SS h2 d2 hm).trans (by rw [hr];rfl)
 ·exact (SS h3 d3 hm).trans (by rw [hr];rfl)
 exact (SS h4 d4 hm).trans (by rw [hr];rfl)
theorem eI_ {a:A4 W} (h:a.Fine) (hz:¬ a.i.zero):(eS a).1.i=a.i.dir∧(eS a).2=true:=by
 have hg:=ZG h;have hg0:a.i.g≠0:=fun e=>hz (Z4.g_zero.1 e)
 have hgp:0≤(dB [a.x,a.y,a.z,a.t]).1:=by rw [hg];omega
 unfold eS;rw [show ((dB [a.x,a.y,a.z,a.t]).1==0)=false by rw [hg];simp;exact hg0,cond_false]
 have hm:a.i.m=a.i.lead.sign*(dB [a.x,a.y,a.z,a.t]).1:=by rw [hg];rfl
 by_cases x0:a.x.1=0
 ·rw [show (a.x.1 != 0)=false by simp [x0],cond_false]
  by_cases y0:a.y.1=0
  ·rw [show (a.y.1 != 0)=false by simp [y0],cond_false]
   by_cases z0:a.z.1=0
   ·rw [show (a.z.1 != 0)=false by simp [z0],cond_false]
    by_cases t0:a.t.1=0
    ·exact absurd ⟨x0,y0,z0,t0⟩ hz
    rw [show (a.t.1 != 0)=true by simp [t0],cond_true];refine ⟨HV h hz ?_,rfl⟩;rw [S4 hgp t0,hm,show a.i.lead=a.t.1 by simp [Z4.lead,A4.i,x0,y0,z0]]
   rw [show (a.z.1 != 0)=true by simp [z0],cond_true];refine ⟨HV h hz ?_,rfl⟩;rw [S4 hgp z0,hm,show a.i.lead=a.z.1 by simp [Z4.lead,A4.i,x0,y0,z0]]
  rw [show (a.y.1 != 0)=true by simp [y0],cond_true];refine ⟨HV h hz ?_,rfl⟩;rw [S4 hgp y0,hm,show a.i.lead=a.y.1 by simp [Z4.lead,A4.i,x0,y0]]
 rw [show (a.x.1 != 0)=true by simp [x0],cond_true];refine ⟨HV h hz ?_,rfl⟩;rw [S4 hgp x0,hm,show a.i.lead=a.x.1 by simp [Z4.lead,A4.i,x0]]
theorem SY (v:W):(aQ v).1=v.1.sign:=by
 unfold aQ
 by_cases h:v.1<0
 ·rw [decide_eq_true h,cond_true,Int.sign_eq_neg_one_of_neg h]
 rw [decide_eq_false h,cond_false];unfold W.min
 by_cases h1:(1:Int)<v.1
 ·rw [show decide ((wl 1).1<v.1)=true from decide_eq_true h1,cond_true,Int.sign_eq_one_of_pos oo_]
 rw [show decide ((wl 1).1<v.1)=false from decide_eq_false h1,cond_false];rcases (show v.1=0∨v.1=1 by omega) with e|e<;>rw [e]<;>rfl
theorem ab_ {a b:W} (ha:a.1 ≠ -9223372036854775808) (hb:b.1 ≠ -9223372036854775808):(aA a b).1=(Int.gcd a.1 b.1:Nat)∧(aA a b).1 ≠ -9223372036854775808:=by
 have he:=HZ (a:=a) (b:=b) (b.1.natAbs+1) a b (Nat.lt_succ_self _);have h1:=a.2;have h2:=b.2;unfold I64 at h1 h2
 have hle:Int.gcd a.1 b.1<9223372036854775808:=by
  by_cases h0:b.1=0
  ·rw [h0,Int.gcd_zero_right];omega
  exact Nat.lt_of_le_of_lt (Nat.le_of_dvd oo_ (Int.gcd_dvd_natAbs_right a.1 b.1)) oo_
 have:(aA a b).1=(Int.gcd a.1 b.1:Nat):=by
  show (W.max (gL a b (b.1.natAbs+1) a b).1 (W.neg (gL a b (b.1.natAbs+1) a b).1)).1=_
  rw [W.abs_1 (by intro e;rw [e] at he;omega),he]
 exact ⟨this,by rw [this];omega⟩
theorem c8_ (a:Z4):Int.gcd (Int.gcd (Int.gcd (Int.gcd (0:Int) a.t:Nat) a.z:Nat) a.y:Nat) a.x=a.g:=by
 unfold Z4.g;simp only [Int.gcd,Int.natAbs_natCast,Int.natAbs_zero,Nat.gcd_zero_left]
 have e:∀ x y z t:Nat,Nat.gcd (Nat.gcd (Nat.gcd t z) y) x=Nat.gcd (Nat.gcd (Nat.gcd x y) z) t:=fun x y z t=>by
  rw [Nat.gcd_comm,Nat.gcd_comm (Nat.gcd t z) y,← Nat.gcd_assoc,Nat.gcd_comm t z,← Nat.gcd_assoc]
 exact e _ _ _ _
theorem dC_ (a:A4 W):(bif (a.x.1 != 0) then (aQ a.x) else (bif (a.y.1 != 0) then (aQ a.y) else (bif (a.z.1 != 0) then (aQ a.z) else (bif (a.t.1 != 0) then (aQ a.t) else (wl 0))))).1=a.i.lead.sign:=by
 have n0:∀ v:W,v.1=0→(v.1 != 0)=false:=fun v h=>by simp [h]
 have n1:∀ v:W,¬ v.1=0→(v.1 != 0)=true:=fun v h=>by simp [h]
 show _=(if a.x.1≠0 then a.x.1 else if a.y.1≠0 then a.y.1 else if a.z.1≠0 then a.z.1 else a.t.1).sign
 by_cases x0:a.x.1=0
 ·rw [n0 _ x0,cond_false,if_neg (by simp [x0])]
  by_cases y0:a.y.1=0
  ·rw [n0 _ y0,cond_false,if_neg (by simp [y0])]
   by_cases z0:a.z.1=0
   ·rw [n0 _ z0,cond_false,if_neg (by simp [z0])]
    by_cases t0:a.t.1=0
    ·rw [n0 _ t0,cond_false,t0];rfl
    rw [n1 _ t0,cond_true,SY]
   rw [n1 _ z0,cond_true,SY,if_pos z0]
  rw [n1 _ y0,cond_true,SY,if_pos y0]
 rw [n1 _ x0,cond_true,SY,if_pos x0]
theorem eJ_ {a:A4 W} (h:a.Fine) (hz:¬ a.i.zero):(cV a).1.i=a.i.dir∧(cV a).2=true:=by
 obtain ⟨h1,h2,h3,h4⟩:=h;have g1:=ab_ (a:=wl 0) (b:=a.t) dd_ h4;have g2:=ab_ g1.2 h3;have g3:=ab_ g2.2 h2;have g4:=ab_ g3.2 h1;rw [g3.1,g2.1,g1.1,show (wl 0).1=0 from rfl] at g4
 have hg:(aA (aA (aA (aA (wl 0) a.t) a.z) a.y) a.x).1=(a.i.g:Nat):=by
  rw [g4.1];exact congrArg _ (c8_ a.i)
 have hm:(W.mul (bif (a.x.1 != 0) then (aQ a.x) else (bif (a.y.1 != 0) then (aQ a.y) else (bif (a.z.1 != 0) then (aQ a.z) else (bif (a.t.1 != 0) then (aQ a.t) else (wl 0)))))
   (W.max (aA (aA (aA (aA (wl 0) a.t) a.z) a.y) a.x) (W.neg (aA (aA (aA (aA (wl 0) a.t) a.z) a.y) a.x)))).1=a.i.m:=by
  show IntKind.i64.wrap (_*_)=_
  have hb:=(aA (aA (aA (aA (wl 0) a.t) a.z) a.y) a.x).2;unfold I64 at hb;rw [dC_,W.abs_1 g4.2,hg,Int.natAbs_natCast];rw [hg] at hb;have hs:=Int.natAbs_sign_of_ne_zero (Z4.lead_zero hz);refine wi ?_;rcases (show a.i.lead.sign=1∨a.i.lead.sign = -1 by omega) with e|e<;>rw [e]<;>omega
 unfold cV;have hm0:=Z4.m_ne hz
 dsimp only
 rw [show ((W.mul (bif (a.x.1 != 0) then (aQ a.x) else (bif (a.y.1 != 0) then (aQ a.y) else (bif (a.z.1 != 0) then (aQ a.z) else (bif (a.t.1 != 0) then (aQ a.t) else (wl 0)))))
   (W.max (aA (aA (aA (aA (wl 0) a.t) a.z) a.y) a.x) (W.neg (aA (aA (aA (aA (wl 0) a.t) a.z) a.y) a.x)))).1==0)=false by rw [hm];simp;exact hm0,cond_false]
 exact ⟨HV ⟨h1,h2,h3,h4⟩ hz hm,rfl⟩
theorem YP (a b:W):mF a b=oD a b:=rfl
theorem a9_ (a b:Rt):fG a b=aM a b:=by unfold fG aM;rw [U8,bc_,YP]
structure Iv.Is (a:Iv) (n d m e:Int):Prop where
 lo:a.lo.Is n d
 hi:a.hi.Is m e
 le:n*e≤m*d
def Rt.At (a:Rt) (q:Rat):Prop:=a.Is q.num (q.den:Int)
structure Iv.At (a:Iv) (p q:Rat):Prop where
 lo:a.lo.At p
 hi:a.hi.At q
 le:p≤q
structure Sz (q:Rat) (k:Nat):Prop where
 n:q.num.natAbs<2 ^ k
 d:q.den<2 ^ k
theorem M7 {a b:Nat} (h:a≤b):(2:Nat) ^ a≤2 ^ b:=Nat.pow_le_pow_right dd_ h
theorem a6_ {v:Int} {k:Nat} (m:Nat) (hm:4294967296 ^ 16=2 ^ m) (h:v.natAbs<2 ^ k) (hk:k≤m):kM v:=by
 unfold kM;rw [hm];exact Nat.lt_of_lt_of_le h (M7 hk)
theorem cI_ {v:Int} {k:Nat} (h:v.natAbs<2 ^ k) (hk:k≤512):kM v:=a6_ 512 C3 h hk
theorem Sz.mono {q:Rat} {j k:Nat} (h:Sz q j) (hk:j≤k):Sz q k:=⟨Nat.lt_of_lt_of_le h.n (M7 hk),Nat.lt_of_lt_of_le h.d (M7 hk)⟩
theorem Sz.bd {q:Rat} {k:Nat} (h:Sz q k) (hk:k≤512):kM (q.den:Int):=cI_ (by simpa using h.d) hk
theorem EH {a b j k:Nat} (h:a<2 ^ j) (g:b<2 ^ k):a*b<2 ^ (j+k):=by
 rw [Nat.pow_add];exact Nat.mul_lt_mul_of_lt_of_le h (Nat.le_of_lt g) (Nat.pow_pos dd_)
theorem Sz.mul {p q:Rat} {j k:Nat} (h:Sz p j) (g:Sz q k):Sz (p*q) (j+k):=by
 constructor
 ·rw [Rat.num_mul]
  refine Nat.lt_of_le_of_lt (Int.natAbs_ediv_le_natAbs _ _) ?_;rw [Int.natAbs_mul];exact EH h.n g.n
 rw [Rat.den_mul];exact Nat.lt_of_le_of_lt (Nat.div_le_self _ _) (EH h.d g.d)
theorem Sz.neg {p:Rat} {k:Nat} (h:Sz p k):Sz (-p) k:=⟨by rw [Rat.neg_num,Int.natAbs_neg];exact h.n,h.d⟩
theorem QL {n m:Int} {d e j k:Nat} (h1:n.natAbs<2 ^ j) (h2:e<2 ^ k) (h3:m.natAbs<2 ^ k) (h4:d<2 ^ j):(n*e+m*d).natAbs<2 ^ (j+k+1):=by
 have a:=EH h1 h2;have b:=EH h4 h3;have c:=Int.natAbs_add_le (n*e) (m*d);rw [Int.natAbs_mul,Int.natAbs_mul,Int.natAbs_natCast,Int.natAbs_natCast] at c;rw [Nat.pow_succ];rw [Nat.mul_comm d] at b;omega
theorem Sz.add {p q:Rat} {j k:Nat} (h:Sz p j) (g:Sz q k):Sz (p+q) (j+k+1):=by
 constructor
 ·rw [Rat.num_add]
  exact Nat.lt_of_le_of_lt (Int.natAbs_ediv_le_natAbs _ _) (QL h.n g.d g.n h.d)
 rw [Rat.den_add];exact Nat.lt_of_le_of_lt (Nat.div_le_self _ _) (Nat.lt_of_lt_of_le (EH h.d g.d) (M7 oo_))
theorem Sz.int {n:Int} {k:Nat} (h:n.natAbs<2 ^ k) (hk:0<k):Sz (n:Rat) k:=⟨h,Nat.one_lt_two_pow oo_⟩
theorem At.is {a:Rt} {q:Rat} (h:a.At q):a.Is q.num (q.den:Int):=h
theorem sB {v:Int} (h:v.natAbs<2 ^ 64):kM v:=Nat.lt_of_lt_of_le h dd_
def W.b (a:W):BitVec 64:=BitVec.ofInt 64 a.1
theorem W.b_inj {a b:W} (h:a.b=b.b):a=b:=by
 have h1:=congrArg BitVec.toInt h;unfold W.b at h1;rw [BitVec.toInt_ofInt,BitVec.toInt_ofInt] at h1;have ha:=a.2;have hb:=b.2;unfold I64 at ha hb
 have e:a.1=b.1:=by
  rw [Int.bmod_eq_of_le (by simp;omega) (by simp;omega),Int.bmod_eq_of_le (by simp;omega) (by simp;omega)] at h1;exact h1
 exact Subtype.ext e
theorem YM (x:Int):BitVec.ofInt 64 (IntKind.i64.wrap x)=BitVec.ofInt 64 x:=by
 apply BitVec.eq_of_toInt_eq
 rw [BitVec.toInt_ofInt,BitVec.toInt_ofInt]
 have h:∃ k:Int,IntKind.i64.wrap x=x+k*(2 ^ 64:Nat):=by
  refine ⟨-((x+9223372036854775808) / 18446744073709551616),?_⟩;unfold IntKind.wrap;simp only [IntKind.bits,IntKind.signed]
  simp
  omega
 obtain ⟨k,hk⟩:=h;rw [hk,Int.add_mul_bmod_self_right]
theorem W.b_add (a b:W):(W.add a b).b=a.b+b.b:=by
 show BitVec.ofInt 64 (IntKind.i64.wrap (a.1+b.1))=_
 rw [YM,BitVec.ofInt_add];rfl
theorem W.b_mul (a b:W):(W.mul a b).b=a.b*b.b:=by
 show BitVec.ofInt 64 (IntKind.i64.wrap (a.1*b.1))=_
 rw [YM,BitVec.ofInt_mul];rfl
theorem W.b_0:(wl 0).b=0:=rfl
theorem eP_ (a b c d e f g h:W):eR [a,b,c,d,e,f,g,h]=W.add (W.add (W.add (W.add (wl 0) (W.mul a b)) (W.mul c d)) (W.mul e f)) (W.mul g h):=rfl
theorem E6 (a b:A4 W):oU a b=gP a b:=by
 unfold oU gP;rw [eP_]
 apply W.b_inj
 simp only [W.b_add,W.b_mul,W.b_0]
 grind
theorem ZP (x:W):(decide (64<(W.max x (W.neg x)).1)||((x.1==(W.neg x).1)&&(x.1 != 0)))=(decide (64<x.1)||decide (x.1 < -64)):=by
 by_cases h:x.1 = -9223372036854775808
 ·have e:(W.neg x).1 = -9223372036854775808:=by show IntKind.i64.wrap (0 - x.1)=_;rw [h];rfl
  rw [e,h];simp
 have e:=aO_ h
 have m:(W.max x (W.neg x)).1=max x.1 (-x.1):=by
  unfold W.max;rw [← e]
  by_cases k:x.1<(W.neg x).1
  ·rw [decide_eq_true k,cond_true];omega
  rw [decide_eq_false k,cond_false];omega
 rw [m,e,Bool.eq_iff_iff]
 simp
 omega
theorem YS (a:A4 W):qH a=fQ a:=by
 unfold qH fQ;rw [ZP,ZP,ZP,ZP]
def Z4.Lw (v:Z4) (n:Nat):Prop:=v.x.natAbs<n∧v.y.natAbs<n∧v.z.natAbs<n∧v.t.natAbs<n
theorem SG {a:A4 W} (h:fQ a=true):a.i.Lw 65:=by
 unfold fQ at h
 have g:∀ {c:Bool} {y:Bool},(bif c then false else y)=true→c=false∧y=true:=fun {c y} h=>by cases c<;>simp_all
 obtain ⟨h1,h⟩:=g h;obtain ⟨h2,h⟩:=g h;obtain ⟨h3,h⟩:=g h;obtain ⟨h4,h⟩:=g h;simp only [Bool.or_eq_false_iff,decide_eq_false_iff_not] at h1 h2 h3 h4;refine ⟨?_,?_,?_,?_⟩
 ·show a.x.1.natAbs<65;omega
 ·show a.y.1.natAbs<65;omega
 ·show a.z.1.natAbs<65;omega
 show a.t.1.natAbs<65;omega
theorem WW {a:A4 W} (h:a.i.Lw 65):a.Fine:=by
 obtain ⟨h1,h2,h3,h4⟩:=h;have g1:a.x.1.natAbs<65:=h1;have g2:a.y.1.natAbs<65:=h2;have g3:a.z.1.natAbs<65:=h3;have g4:a.t.1.natAbs<65:=h4;refine ⟨?_,?_,?_,?_⟩<;>omega
theorem TN {a:A4 W} (h:a.i.zero):a=⟨wl 0,wl 0,wl 0,wl 0⟩:=A4.i_inj (Z4.ext h.1 h.2.1 h.2.2.1 h.2.2.2)
theorem TP (a:A4 W):rG a=fA a:=by
 by_cases hz:a.i.zero
 ·rw [TN hz];kernel_rfl
 unfold rG fA;rw [YS]
 cases hl:fQ a
 ·rfl
 have hf:=WW (SG hl);obtain ⟨p1,p2⟩:=eI_ hf hz;obtain ⟨r1,r2⟩:=eJ_ hf hz;have e:(eS a).1=(cV a).1:=A4.i_inj (p1.trans r1.symm);simp only [cond_true,p2,r2,e]
theorem LU {a:A4 W} (h:fA a=true):a.i.Lw 65∧¬ a.i.zero:=by
 unfold fA at h
 cases hl:fQ a
 ·rw [hl] at h;cases h
 refine ⟨SG hl,fun hz=>?_⟩;rw [TN hz] at h
 have:fA ⟨wl 0,wl 0,wl 0,wl 0⟩ = false:=by kernel_rfl
 unfold fA at this;rw [this] at h;cases h
theorem KB (a:Pose):jF a=dN a:=by unfold jF dN;rw [TP]
theorem E4 (a:Pose):dN a=wl 0∨dN a=wl 1:=by
 unfold dN
 repeat' (rename_i x;revert x)
 generalize (decide (140737488355328≤a.x.x.1)||decide (a.x.x.1≤(-140737488355328)))=c1;generalize (decide (140737488355328≤a.x.y.1)||decide (a.x.y.1≤(-140737488355328)))=c2;generalize (decide (140737488355328≤a.x.z.1)||decide (a.x.z.1≤(-140737488355328)))=c3;generalize fA a.q=c4
 cases c1<;>cases c2<;>cases c3<;>cases c4<;>first|exact .inl O|exact .inr O
theorem DA (a:Path):mM a=cW a:=by
 unfold mM cW;rw [KB,KB];rcases E4 a.from_ with h|h<;>rcases E4 a.to_ with k|k<;>rw [h,k]<;>rfl
theorem KV (v:A3 W) (m:W):eY v m=dZ v m:=rfl
theorem PE (a b c:I):gN [a,b,c]=kE a b c:=by
 show E (Z.mul (E (Z.mul a.dec b.dec)).dec c.dec)=_
 rw [eQ];rfl
class Rg (α:Type) [Add α] [Mul α] [OfNat α 0]:Prop where
 aa:∀ a b c:α,a+b+c=a+(b+c)
 ac:∀ a b:α,a+b=b+a
 a0:∀ a:α,a+0=a
 ma:∀ a b c:α,a*b*c=a*(b*c)
 mc:∀ a b:α,a*b=b*a
 md:∀ a b c:α,a*(b+c)=a*b+a*c
 m0:∀ a:α,a*0=0
instance:Rg Int:=⟨Int.add_assoc,Int.add_comm,Int.add_zero,Int.mul_assoc,Int.mul_comm,Int.mul_add,Int.mul_zero⟩
instance:Rg Rat:=⟨Rat.add_assoc,Rat.add_comm,Rat.add_zero,Rat.mul_assoc,Rat.mul_comm,Rat.mul_add,Rat.mul_zero⟩
theorem Rg.zm {α:Type} [Add α] [Mul α] [OfNat α 0] [Rg α] (a:α):0*a=0:=by rw [Rg.mc,Rg.m0]
def vH {α:Type} [Add α] [OfNat α 0] (f:Nat→α):Nat→α
 | 0=>0
 | n+1=>vH f n+f n
theorem I6 {α:Type} [Add α] [OfNat α 0] {f g:Nat→α}:∀ {n:Nat},(∀ i,i<n→f i=g i)→vH f n=vH g n
 | 0,_=>rfl
 | n+1,h=>by simp only [vH];rw [I6 fun i hi=>h i (by omega),h n (by omega)]
theorem z4 {α:Type} [Add α] [Mul α] [OfNat α 0] [Rg α] {f:Nat→α}:∀ {n:Nat},(∀ i,i<n→f i=0)→vH f n=0
 | 0,_=>rfl
 | n+1,h=>by simp only [vH];rw [z4 fun i hi=>h i (by omega),h n (by omega),Rg.a0]
theorem P2 {α:Type} [Add α] [Mul α] [OfNat α 0] [Rg α] (c:α) (f:Nat→α):∀ n:Nat,vH (fun i=>c*f i) n=c*vH f n
 | 0=>(Rg.m0 _).symm
 | n+1=>by simp only [vH];rw [P2 c f n,Rg.md]
theorem FV {α:Type} [Add α] [Mul α] [OfNat α 0] [Rg α] {f:Nat→α} {n:Nat} (h:∀ i,n≤i→f i=0):∀ m:Nat,n≤m→vH f m=vH f n
 | 0,hm=>by rw [show n=0 by omega]
 | m+1,hm=>by
  rcases Nat.lt_or_ge n (m+1) with g|g
  ·rw [vH,h m (by omega),Rg.a0,FV h m (by omega)]
  rw [show n=m+1 by omega]
def conv {α:Type} [Add α] [Mul α] [OfNat α 0] (c d:Nat→α) (k:Nat):α:=vH (fun i=>c i*d (k - i)) (k+1)
theorem V3 {α:Type} [Add α] [Mul α] [OfNat α 0] [Rg α] (a:α) (c d:Nat→α):conv (fun i=>a*c i) d=fun k=>a*conv c d k:=by
 funext k
 unfold conv;rw [← P2];exact I6 fun i _=>Rg.ma _ _ _
theorem KI {α:Type} [Add α] [Mul α] [OfNat α 0] [Rg α] {c d:Nat→α} {n m:Nat} (hc:∀ i,n≤i→c i=0) (hd:∀ i,m≤i→d i=0) (k:Nat) (hk:n+m≤k+1):conv c d k=0:=by
 refine z4 fun i hi=>?_;rcases Nat.lt_or_ge i n with h|h
 ·rw [hd _ (by omega),Rg.m0]
 rw [hc _ h,Rg.zm]
theorem vI0:vI I0=0:=cG_ B0
theorem ck_ {u v:Int} (hu:kM u) (hv:kM v):Z.sub (Z.of u) (Z.of v)=Z.of (u - v):=by
 rw [Z.sub,bV_ hv,QM hu (show (-v).natAbs<_ by rw [Int.natAbs_neg];exact hv),Int.sub_eq_add_neg]
structure Po (p:List I) (c:Nat→Int):Prop where
 g:p.all gdI=true
 s:nU p=p
 l:p.length≤25
 c:∀ k,vI (p.getD k I0)=c k
section
variable {p q:List I} {c d:Nat→Int}
theorem SB (h:p.all gdI=true) (k:Nat):gdI (p.getD k I0)=true:=by
 by_cases hk:k<p.length
 ·rw [show p.getD k I0=p[k] by simp [List.getD,hk]]
  exact List.all_eq_true.1 h _ (List.getElem_mem hk)
 rw [wW oo_];exact bD_ B0
theorem Po.get (h:Po p c) (k:Nat):p.getD k I0=E (Z.of (c k)):=by rw [← h.c k];exact (aE_ (SB h.g k)).1
theorem Po.B (h:Po p c) (k:Nat):kM (c k):=by rw [← h.c k];exact (aE_ (SB h.g k)).2
theorem Po.zero (h:Po p c) {k:Nat} (hk:p.length≤k):c k=0:=by rw [← h.c k,wW hk,vI0]
theorem Po.last (h:Po p c) {n:Nat} (hn:p.length=n+1):c n≠0:=by
 rcases xU p with rfl|⟨m,x,rfl⟩
 ·cases hn
 have h1:=RR h.s
 have h2:n=m.length:=by simp at hn;omega
 have h3:=h.get n;rw [show (m++[x]).getD n I0=x by simp [h2]] at h3;rw [h3,ei_ (h.B n)] at h1;exact of_decide_eq_false h1
theorem Po.short (h:Po p c) {n:Nat} (hz:∀ k,n≤k→c k=0):p.length≤n:=by
 rcases Nat.lt_or_ge n p.length with g|g
 ·exact absurd (hz (p.length - 1) oo_) (h.last oo_)
 exact g
theorem Po.eq (h:Po p c) (g:Po q c):p=q:=by
 have e:p.length=q.length:=Nat.le_antisymm (h.short fun k hk=>g.zero hk) (g.short fun k hk=>h.zero hk);refine List.ext_getElem e fun k h1 h2=>?_;have a:=h.get k;rw [← g.get k] at a
 simpa [List.getD,h1,h2] using a
theorem Po.cast (h:Po p c) (e:∀ k,c k=d k):Po p d:=⟨h.g,h.s,h.l,fun k=>(h.c k).trans (e k)⟩
theorem QF:Po [] (fun _=>0):=⟨rfl,rfl,by decide,fun k=>by rw [show ([]:List I).getD k I0=I0 by simp];exact vI0⟩
theorem Po.nil (h:Po p c) (hz:∀ k,c k=0):p=[]:=(h.cast hz).eq QF
theorem EW:∀ (n:Nat) (l:List I),l.length≤n→∀ k,(nU l).length≤k→zrI (l.getD k I0)=true
 | 0,l,h,k,_=>by
  rw [wW oo_];exact zr0
 | n+1,l,h,k,hk=>by
  rcases xU l with rfl|⟨m,x,rfl⟩
  ·rw [show ([]:List I).getD k I0=I0 by simp];exact zr0
  rw [vX] at hk
  cases hx:zrI x
  ·rw [hx,cond_false] at hk
   rw [wW hk];exact zr0
  rw [hx,cond_true] at hk;rcases Nat.lt_trichotomy k m.length with g|g|g
  ·rw [show (m++[x]).getD k I0=m.getD k I0 by simp [List.getD,List.getElem?_append_left g]]
   exact EW n m (by simp at h;omega) k hk
  ·rw [show (m++[x]).getD k I0=x by simp [g]];exact hx
  rw [wW (by simp;omega)];exact zr0
theorem W7 {l:List I} (h:∀ k,l.getD k I0=E (Z.of (c k))) (hB:∀ k,kM (c k)) (hz:∀ k,25≤k→c k=0):Po (mkP l) c:=by
 have hg:l.all gdI=true:=List.all_eq_true.2 fun x hx=>by
  obtain ⟨k,hk,rfl⟩:=List.getElem_of_mem hx;have e:=h k;rw [show l.getD k I0=l[k] by simp [List.getD,hk]] at e;rw [e];exact bD_ (hB k)
 have hl:(nU l).length≤25:=GG _ l (Nat.le_refl _) fun j hj=>by rw [h j,hz j hj];exact zr0
 have e:mkP l=nU l:=by unfold mkP;rw [hg,cond_true,if_pos hl]
 rw [e];refine ⟨LM hg,I4 l,hl,fun k=>?_⟩
 by_cases hk:k<(nU l).length
 ·have e2:(nU l).getD k I0=l.getD k I0:=by
   rw [w6 l];simp only [List.getD,List.getElem?_take,hk,if_true]
  rw [e2,h k,cG_ (hB k)]
 have:=EW _ l (Nat.le_refl _) k oo_;rw [h k,ei_ (hB k)] at this;rw [wW oo_,vI0,of_decide_eq_true this]
theorem P3 (f:Nat→I) (n k:Nat):((List.range n).map f).getD k I0=if k<n then f k else I0:=by
 by_cases h:k<n<;>simp [List.getD,h]
theorem YA {f:Nat→I} {n:Nat} (h:∀ k,k<n→f k=E (Z.of (c k))) (h0:∀ k,n≤k→c k=0) (hB:∀ k,kM (c k)) (hz:∀ k,25≤k→c k=0):Po (mkP ((List.range n).map f)) c:=by
 refine W7 (fun k=>?_) hB hz;rw [P3]
 split
 ·exact h k ‹_›
 rw [h0 k oo_];rfl
theorem Po.l3 (h:Po p c):p.length≤1000:=Nat.le_trans h.l dd_
theorem Po.nb (h:Po p c):dC p=false:=by rw [v7 h.l3,h.g];rfl
theorem ML {e:Nat→Int} {f:I→I→I} (h:Po p c) (g:Po q d) (hf:∀ k,f (E (Z.of (c k))) (E (Z.of (d k)))=E (Z.of (e k))) (hB:∀ k,kM (e k)) (h0:∀ k,c k=0→d k=0→e k=0):Po (jG p q f) e:=by
 rw [CS f h.l3 g.l3,h.g,g.g,Bool.and_true,cond_true];have hl:=h.l;have gl:=g.l;refine YA (fun k _=>?_) (fun k hk=>?_) hB (fun k hk=>?_)
 ·rw [h.get,g.get,hf]
 ·exact h0 k (h.zero oo_) (g.zero oo_)
 exact h0 k (h.zero oo_) (g.zero oo_)
theorem a4_ (h:Po p c) (g:Po q d) (hB:∀ k,kM (c k+d k)):Po (bC p q) (fun k=>c k+d k) :=
 ML h g (fun k=>by rw [eQ,eQ,QM (h.B k) (g.B k)]) hB (fun k h1 h2=>by rw [h1,h2];rfl)
theorem bf_ (h:Po p c) (g:Po q d) (hB:∀ k,kM (c k - d k)):Po (jM p q) (fun k=>c k - d k) :=
 ML h g (fun k=>by rw [eQ,eQ,ck_ (h.B k) (g.B k)]) hB (fun k h1 h2=>by rw [h1,h2];rfl)
theorem VE {a:Int} (h:Po p c) (ha:kM a) (hB:∀ k,kM (c k*a)):Po (bK p (E (Z.of a))) (fun k=>c k*a):=by
 unfold bK;rw [show pS (E (Z.of a))=true from bD_ ha,cond_true];exact ML h QF (fun k=>by unfold qR;rw [eQ,eQ,MX (h.B k) ha]) hB (fun k h1 _=>by rw [h1,Int.zero_mul])
theorem W9 (h:Po p c) (g:Po q d) (k:Nat) (hs:∀ t,kM (vH (fun i=>c i*d (k - i)) t)) (hm:∀ i j,kM (c i*d j)) :
  ∀ (t i:Nat),k+1 - i<t→i≤k+1→(iM k q p t i (E (Z.of (vH (fun i=>c i*d (k - i)) i)))).2=E (Z.of (conv c d k))
 | 0,i,ht,_=>absurd ht (Nat.not_lt_zero _)
 | t+1,i,ht,hi=>by
  unfold iM;have e:∀ a b,a≤b→p.length≤a→vH (fun i=>c i*d (k - i)) b=vH (fun i=>c i*d (k - i)) a:=fun a b hab hpa =>
   FV (fun j hj=>by rw [h.zero oo_,Int.zero_mul]) b hab
  by_cases hk:(i:Int)≤min (k:Int) ((p.length:Int) - 1)
  ·rw [decide_eq_true hk,cond_true,h.get,g.get,eQ,eQ,eQ,MX (h.B _) (g.B _),QM (hs _) (hm _ _)]
   exact W9 h g k hs hm t (i+1) oo_ oo_
  rw [decide_eq_false hk,cond_false]
  show E (Z.of _)=E (Z.of (vH _ (k+1)))
  rcases Nat.lt_or_ge i (k+1) with h1|h1
  ·rw [← e i (k+1) oo_ oo_]
  rw [show i=k+1 by omega]
theorem bb_ (h:Po p c) (g:Po q d) (hs:∀ k t,kM (vH (fun i=>c i*d (k - i)) t)) (hm:∀ i j,kM (c i*d j)) (hl:p.length+q.length≤26):Po (aV p q) (conv c d):=by
 unfold aV;rw [h.nb,g.nb,Bool.or_false,cond_false]
 by_cases h0:p=[]
 ·subst h0
  rw [show (((([]:List I).length:Int)==0)||((q.length:Int)==0))=true by simp,cond_true];exact QF.cast fun k=>Eq.symm (z4 fun i _=>by rw [h.zero (Nat.zero_le _),Int.zero_mul])
 by_cases g0:q=[]
 ·subst g0
  rw [show (((p.length:Int)==0)||((([]:List I).length:Int)==0))=true by simp,cond_true];refine QF.cast fun k=>Eq.symm (z4 fun i _=>?_);rw [g.zero (Nat.zero_le _),Int.mul_zero]
 have h1:0<p.length:=List.length_pos_iff.2 h0;have h2:0<q.length:=List.length_pos_iff.2 g0
 rw [show (((p.length:Int)==0)||((q.length:Int)==0))=false by
  rw [Bool.or_eq_false_iff];exact ⟨beq_eq_false_iff_ne.2 oo_,beq_eq_false_iff_ne.2 oo_⟩,cond_false,wK]
 have hz:∀ k,p.length+q.length≤k+1→conv c d k=0:=fun k hk=>KI (fun i hi=>h.zero hi) (fun i hi=>g.zero hi) k hk;refine YA (fun k _=>?_) (fun k hk=>hz k oo_) (fun k=>hs k (k+1)) (fun k hk=>hz k oo_);unfold nA
 show (iM _ _ _ _ _ _).2=_
 rw [show I0=E (Z.of (vH (fun i=>c i*d (k - i)) ((k:Int) - (q.length:Int)+1).toNat)) by
  rw [z4 fun i hi=>by rw [g.zero oo_,Int.mul_zero]];rfl]
 exact W9 h g k (hs k) hm _ _ oo_ oo_
theorem YO {v:Int} {k:Nat} (m:Nat) (hm:4294967296 ^ 16=2 ^ m) (h:v.natAbs<2 ^ k) (hk:k≤m):kM v:=by
 unfold kM;rw [hm];exact Nat.lt_of_lt_of_le h (Nat.pow_le_pow_right dd_ hk)
theorem DK {v:Int} {k:Nat} (h:v.natAbs<2 ^ k) (hk:k≤512):kM v:=YO 512 C3 h hk
structure Bd (c:Nat→Int) (n b:Nat):Prop where
 z:∀ k,n≤k→c k=0
 b:∀ k,(c k).natAbs<2 ^ b
variable {n m b b':Nat}
theorem Bd.mono (h:Bd c n b) {n' b1:Nat} (hn:n≤n') (hb:b≤b1):Bd c n' b1:=⟨fun k hk=>h.z k oo_,fun k=>Nat.lt_of_lt_of_le (h.b k) (Nat.pow_le_pow_right dd_ hb)⟩
theorem Bd.B (h:Bd c n b) (hb:b≤512) (k:Nat):kM (c k):=DK (h.b k) hb
theorem Bd.add (h:Bd c n b) (g:Bd d m b):Bd (fun k=>c k+d k) (max n m) (b+1) :=
 ⟨fun k hk=>by show c k+d k=0;rw [h.z k oo_,g.z k oo_];rfl,fun k=>by
  show (c k+d k).natAbs<_
  have h1:=h.b k;have h2:=g.b k;have h3:=Int.natAbs_add_le (c k) (d k)
  rw [Nat.pow_succ];omega⟩
theorem IC {u v:Int} (h:u.natAbs<2 ^ b) (g:v.natAbs<2 ^ b'):(u*v).natAbs<2 ^ (b+b'):=by
 rw [Int.natAbs_mul,Nat.pow_add];exact Nat.mul_lt_mul_of_lt_of_le h (Nat.le_of_lt g) (Nat.pow_pos dd_)
theorem X9 {f:Nat→Int} {A:Nat} (h:∀ i,(f i).natAbs≤A):∀ t:Nat,(vH f t).natAbs≤t*A
 | 0=>by simp [vH]
 | t+1=>by
  have h1:=X9 h t;have h2:=h t;have h3:=Int.natAbs_add_le (vH f t) (f t);rw [Nat.succ_mul];show (vH f t+f t).natAbs≤_;omega
theorem X8 {f:Nat→Int} {e:Nat} (h:∀ i,(f i).natAbs<2 ^ b) (hz:∀ i,n≤i→f i=0) (hn:n≤2 ^ e) (t:Nat):(vH f t).natAbs<2 ^ (b+e):=by
 have hb:0<2 ^ b:=Nat.pow_pos dd_
 have k1:∀ t,t≤n→(vH f t).natAbs<2 ^ (b+e):=fun t ht=>by
  have h1:=X9 (f:=f) (A:=2 ^ b - 1) (fun i=>by have:=h i;omega) t;have h2:t*(2 ^ b - 1)≤2 ^ e*(2 ^ b - 1):=Nat.mul_le_mul_right _ oo_;have h3:2 ^ e*(2 ^ b - 1)<2 ^ e*2 ^ b:=Nat.mul_lt_mul_of_pos_left oo_ (Nat.pow_pos dd_);rw [Nat.pow_add,Nat.mul_comm (2 ^ b)];omega
 rcases Nat.lt_or_ge n t with g|g
 ·rw [FV hz t oo_];exact k1 n (Nat.le_refl _)
 exact k1 t g
theorem KH (h:Bd c n b) (g:Bd d m b') {e:Nat} (hn:n≤2 ^ e) (k t:Nat):(vH (fun i=>c i*d (k - i)) t).natAbs<2 ^ (b+b'+e) :=
 X8 (n:=n) (fun i=>IC (h.b _) (g.b _)) (fun i hi=>by rw [h.z i hi,Int.zero_mul]) hn t
theorem Bd.conv (h:Bd c n b) (g:Bd d m b') {e:Nat} (hn:n≤2 ^ e):Bd (conv c d) (n+m - 1) (b+b'+e) :=
 ⟨fun k hk=>KI h.z g.z k oo_,fun k=>KH h g hn k (k+1)⟩
theorem Po.len (h:Po p c) (hb:Bd c n b):p.length≤n:=h.short hb.z
theorem ba_ (h:Po p c) (g:Po q d) (hb:Bd c n b) (gb:Bd d m b') {e:Nat} (hn:n≤2 ^ e) (hl:n+m≤26) (hk:b+b'+e≤512):Po (aV p q) (conv c d) :=
 bb_ h g (fun k t=>DK (KH hb gb hn k t) hk) (fun i j=>DK (IC (hb.b i) (gb.b j)) oo_) (by have:=h.len hb;have:=g.len gb;omega)
theorem a3_ (h:Po p c) (g:Po q d) (hb:Bd c n b) (gb:Bd d m b) (hk:b+1≤512):Po (bC p q) (fun k=>c k+d k) :=
 a4_ h g fun k=>DK ((hb.add gb).b k) hk
end
end Go.Num
