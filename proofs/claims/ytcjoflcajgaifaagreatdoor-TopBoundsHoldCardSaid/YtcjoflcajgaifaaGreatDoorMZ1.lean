/- Lemmas: what they ask stands in their statements. -/
import Derived.Test.YtcjoflcajgaifaaGreatDoorMYs
import Derived.Test.YtcjoflcajgaifaaGreatDoorMZa
set_option linter.unusedSimpArgs false
set_option linter.unusedVariables false
set_option maxHeartbeats 8000000
set_option maxRecDepth 20000
namespace Go.Proofs.YtcjoflcajgaifaaGreatDoor
open Go.Kn Go.Num Tryz
attribute [local irreducible] Go.Kn.W WL PL OpQ OpR OpS
theorem DW (vp:Value) (p:(List I)) (x:Iv) (t:Rt) (w:World) (hp:Slr w elI vp p) :
    Calls prog 4 [vp,AV [pI x.lo.n,pI x.lo.d,pI x.hi.n,pI x.hi.d],AV [pI t.n,pI t.d]].toArray w (fun e w'=>e = .returned (.bool (eU p x t))∧Ext w w'):=by
 obtain ⟨p_p,c_p,rfl⟩:=hp.form;refine cY (N:=158) func4 O O zz_ ?_;obtain ⟨w0,rfl⟩:=nm w;have Hp:=hp.old;have hm_p:=hp.max;refine giI ?_;refine go2 ?_;intro b1 hb1;refine go_ ?_;intro b2 hb2;refine go3 ?_;refine gJv (rg [] 17 28) [(44,.bool (!(dS p 5 20)||((aP p)||((gO x)||(!(dN x.lo (wl 8))||(!(dN x.hi (wl 8))||(!(dN t (wl 8)))))))))] (fun K2 J2=>?_) ?_
 ·refine go2 ?_;refine sFc (.bool (dS p 5 20)) O (fun w hw=>xW _ p 5 20 w (aR hw Hp sn) oo_) O O (go_ ?_);rcases bt (dS p 5 20) with h8|h8
  ·refine sB (i3 h8) O (go_ ?_);refine sFc (.bool (aP p)) O (c1_ (eO _ p) Hp sn) O O (go_ ?_);refine sBB O (fun h9=>?_) (fun h9=>?_)
   ·refine eg_ ?_;refine J2 _ _ pp_ s0 (cH (lU h8 (qO h9)))
   refine go_ ?_;refine sQ (aY aK (pF x) O) O (go_ ?_);refine sBB O (fun h10=>?_) (fun h10=>?_)
   ·refine ef_ ?_;refine J2 _ _ pp_ s0 (cH (lU h8 (mD h9 (qO h10))))
   refine go2 ?_;refine sQ (aY aK (mB x.lo (wl 8)) O) O ?_;refine go2 ?_;rcases bt (dN x.lo (wl 8)) with h11|h11
   ·refine sB (i3 h11) O (go2 ?_);refine sQ (aY aK (mB x.hi (wl 8)) O) O ?_;refine go2 ?_;rcases bt (dN x.hi (wl 8)) with h12|h12
    ·refine sB (i3 h12) O (go_ ?_);refine sQ (aY aK (mB t (wl 8)) O) O ?_;refine go3 ?_;refine J2 _ _ pp_ s0 (cH (lU h8 (mD h9 (mD h10 (lU h11 (lU h12 O))))))
    refine sB (i4 h12) O (go5 ?_);refine J2 _ _ pp_ s0 (cH (lU h8 (mD h9 (mD h10 (lU h11 (q9 h12))))))
   refine sB (i4 h11) O (LF ?_);refine J2 _ _ pp_ s0 (cH (lU h8 (mD h9 (mD h10 (q9 h11)))))
  refine sB (i4 h8) O (hc_ ?_);refine J2 _ _ pp_ s0 (cH (q9 h8))
 intro g13;refine aS _ O (fun h14=>?_) (fun h14=>?_)
 ·refine go_ ?_;refine sC (.bool true) aK rC O O O (go3 ?_);refine rt1 ?_;exact congrArg vS0 (show _=(eU p x t) from bL h14 O)
 refine go_ ?_;obtain ⟨hRp,hLp⟩:=YG (Bool.or_eq_false_iff.1 h14).1;obtain ⟨r16,hr16⟩:=nm ((⟨(bif (gW x t) then t.n else x.lo.n),(bif (gW x t) then t.d else x.lo.d)⟩:Rt):Rt);refine kG [46,47,48,49,50,51] (fun g M=>(True)∧M=[⟨b2,33,aW [pI r16.n,pI r16.d]⟩,⟨b1,47,aW [pI x.lo.n,pI x.lo.d,pI x.hi.n,pI x.hi.d]⟩]) (fun K3 J3=>?_) ?_
 ·refine go3 ?_;refine sQ (aY aK (vQ x t) O) O (go2 ?_);rcases bt (gW x t) with h17|h17
  ·refine W_f (i3 h17) O (go_ ?_);refine J3 _ _ pp_ ⟨_,s0,trivial,(show ([⟨b2,33,aW [pI t.n,pI t.d]⟩,⟨b1,47,aW [pI x.lo.n,pI x.lo.d,pI x.hi.n,pI x.hi.d]⟩]:List Blk)=[⟨b2,33,aW [pI r16.n,pI r16.d]⟩,⟨b1,47,aW [pI x.lo.n,pI x.lo.d,pI x.hi.n,pI x.hi.d]⟩] by rw [hr16];first|done|rfl|simp only [h17,cond_true,cond_false,Bool.true_and,Bool.false_and,Bool.and_true,Bool.and_false,Bool.true_or,Bool.false_or,Bool.or_true,Bool.or_false,Bool.not_true,Bool.not_false]|(simp only [h17,cond_true,cond_false,Bool.true_and,Bool.false_and,Bool.and_true,Bool.and_false,Bool.true_or,Bool.false_or,Bool.or_true,Bool.or_false,Bool.not_true,Bool.not_false];rfl))⟩
  refine W_t (i4 h17) O (go5 ?_);refine J3 _ _ pp_ ⟨_,s0,trivial,(show ([⟨b2,33,aW [pI x.lo.n,pI x.lo.d]⟩,⟨b1,47,aW [pI x.lo.n,pI x.lo.d,pI x.hi.n,pI x.hi.d]⟩]:List Blk)=[⟨b2,33,aW [pI r16.n,pI r16.d]⟩,⟨b1,47,aW [pI x.lo.n,pI x.lo.d,pI x.hi.n,pI x.hi.d]⟩] by rw [hr16];first|done|rfl|simp only [h17,cond_true,cond_false,Bool.true_and,Bool.false_and,Bool.and_true,Bool.and_false,Bool.true_or,Bool.false_or,Bool.or_true,Bool.or_false,Bool.not_true,Bool.not_false]|(simp only [h17,cond_true,cond_false,Bool.true_and,Bool.false_and,Bool.and_true,Bool.and_false,Bool.true_or,Bool.false_or,Bool.or_true,Bool.or_false,Bool.not_true,Bool.not_false];rfl))⟩
 rintro g18 M ⟨-,rfl⟩;refine gS0 ?_;refine go_ ?_;refine sQ (aY aK (L7 (wl 0)) O) O ?_;obtain ⟨r19,hr19⟩:=nm ((eA (mL (wl 0))):Iv);refine sC (AV [pI r19.lo.n,pI r19.lo.d,pI r19.hi.n,pI r19.hi.d]) aK (kH (mL (wl 0))) O O (by rw [hr19]) ?_;refine go_ ?_;intro b20 hb20;refine go5 ?_;refine sQ (bT eR O (SLe.sub Hp sn)) O (sWi ((p.length:Int) - 1) O (go2 ?_));refine gJ3 (rg [8] 57 14) (fun g M=>∃ (k:Int) (mb20:Iv),(eG p x t r16 r19 (p.length+1) ((p.length:Int) - 1) r19)=(k,mb20)∧(g 8 = .int .i64 k)∧M=[⟨b20,47,aW [pI mb20.lo.n,pI mb20.lo.d,pI mb20.hi.n,pI mb20.hi.d]⟩,⟨b2,33,aW [pI r16.n,pI r16.d]⟩,⟨b1,47,aW [pI x.lo.n,pI x.lo.d,pI x.hi.n,pI x.hi.d]⟩]) (fun K_u21 hK_u21=>?_) ?_
 ·refine go_ ?_;refine cF (rg [8] 57 14) (fun g nn M=>∃ (k:Int) (mb20:Iv),(eG p x t r16 r19 nn k mb20)=(eG p x t r16 r19 (p.length+1) ((p.length:Int) - 1) r19)∧(k+1).toNat<nn∧(-1≤k∧k<(p.length:Int))∧(g 8 = .int .i64 k)∧M=[⟨b20,47,aW [pI mb20.lo.n,pI mb20.lo.d,pI mb20.hi.n,pI mb20.hi.d]⟩,⟨b2,33,aW [pI r16.n,pI r16.d]⟩,⟨b1,47,aW [pI x.lo.n,pI x.lo.d,pI x.hi.n,pI x.hi.d]⟩]) (p.length+1) ?start ?round
  case start=>exact ⟨_,s0,((p.length:Int) - 1),r19,rfl,oo_,oo_,rfl,rfl⟩
  case round =>
   rintro nn g M ⟨k,mb20,hT0,hq0,hinv0,hg8,rfl⟩;obtain ⟨k0,rfl⟩:∃ m,nn=m+1:=⟨nn - 1,by omega⟩;refine gS1 hg8 ?_;clear hg8;refine go5 ?_;refine aS _ O (fun h30=>?_) (fun h30=>?_)
   ·have ph30:=of_decide_eq_true h30;refine go3 ?_;refine kV (sd s0) 11 [10] [10] (go2 ?_);obtain ⟨r31,hr31⟩:=nm ((iY mb20 x):Iv);refine pC (AV [pI r31.lo.n,pI r31.lo.d,pI r31.hi.n,pI r31.hi.d]) aK (CN mb20 x) O O (by rw [hr31]) (go2 ?_);refine pQ O (aE (v':=.pointer (some (slb (.slice p_p p.length c_p) ((k.toNat)*18+0)))) (lG (e:=elI) (l:=p) (k:=(k).toNat) eR O O oo_ (SLe.sub Hp sn) o2_) O) ?_;refine pQ O (bM (e:=elI) (l:=p) (k:=(k).toNat) (o:=0) tyT O (SLe.sub Hp sn) (aF I0 o2_) O) ?_;obtain ⟨r32,hr32⟩:=nm ((lR (p.getD (k.toNat) I0)):Rt);refine pC (AV [pI r32.n,pI r32.d]) aK (xJ (p.getD (k.toNat) I0)) O O (by rw [hr32]) (pQ O (aY aK (kH r32) O) ?_);obtain ⟨r33,hr33⟩:=nm ((iX r31 (eA r32)):Iv);refine pC (AV [pI r33.lo.n,pI r33.lo.d,pI r33.hi.n,pI r33.hi.d]) aK (CM r31 (eA r32)) O O (by rw [hr33]) (go4 ?_);refine sWi (k - 1) O (go2 ?_);refine ⟨pp_,_,_,s0,(Nat.lt_succ_self _),(k - 1),r33,(by subst_vars;exact (hT0.symm.trans (Eq.symm (bL h30 O))).symm),(Nat.lt_of_lt_of_le oo_ (Nat.le_of_lt_succ hq0)),oo_,rfl,rfl⟩
   have ph30:=of_decide_eq_false h30;refine go_ ?_;refine hK_u21 _ _ pp_ ⟨_,s0,k,mb20,(by exact hT0.symm.trans (Eq.symm (aX h30 O))),rfl,rfl⟩
 rintro g M ⟨k,mb20,hCu21,hg8,rfl⟩;refine gS1 hg8 ?_;clear hg8;refine go_ ?_;refine jN s0 6 [] [] (go3 ?_);refine pQ O (aE (v':=AV [pI ((lJ p r16).n),pI ((lJ p r16).d)]) (dZ aK O (fun w hw=>H0 _ p r16 w (aR hw Hp sn) oo_)) O) (pQ O (aY aK (vQ mb20 (lJ p r16)) O) (go2 ?_));rcases bt (gW mb20 (lJ p r16)) with h34|h34
 ·refine W_f (i3 h34) O (go7 ?_);refine aQ O (dK (E:=31) (e:=elI) (l:=(aL p x.lo x.hi).1) (fun v=>.tuple #[v,.bool ((aL p x.lo x.hi).2)]) aK O (fun w hw=>tP _ p x.lo x.hi w (aR hw Hp sn) oo_) (fun p35 c36 L37 hF38=>go7 ?_));have hmx0:=OwnG.max hF38;refine go7 ?_;refine gJ3 (rg [11,12] 87 15) (fun g M=>∃ (fl:Bool) (m:Nat),(eH p x t r16 r19 k mb20 r16 r19 ((aL p x.lo x.hi).1.length+1) ((aL p x.lo x.hi).2) 0)=(fl,m)∧(g 11 = .bool fl∧g 12 = .int .i64 (m:Int))∧M=(L37++(⟨b20,47,aW [pI mb20.lo.n,pI mb20.lo.d,pI mb20.hi.n,pI mb20.hi.d]⟩::(⟨b2,33,aW [pI r16.n,pI r16.d]⟩::(⟨b1,47,aW [pI x.lo.n,pI x.lo.d,pI x.hi.n,pI x.hi.d]⟩::[]))))) (fun K_u39 hK_u39=>?_) ?_
  ·refine go_ ?_;refine cF (rg [11,12] 87 15) (fun g nn M=>∃ (fl:Bool) (m:Nat),(eH p x t r16 r19 k mb20 r16 r19 nn fl m)=(eH p x t r16 r19 k mb20 r16 r19 ((aL p x.lo x.hi).1.length+1) ((aL p x.lo x.hi).2) 0)∧(aL p x.lo x.hi).1.length - m<nn∧(m≤(aL p x.lo x.hi).1.length)∧(g 11 = .bool fl∧g 12 = .int .i64 (m:Int))∧M=(L37++(⟨b20,47,aW [pI mb20.lo.n,pI mb20.lo.d,pI mb20.hi.n,pI mb20.hi.d]⟩::(⟨b2,33,aW [pI r16.n,pI r16.d]⟩::(⟨b1,47,aW [pI x.lo.n,pI x.lo.d,pI x.hi.n,pI x.hi.d]⟩::[]))))) ((aL p x.lo x.hi).1.length+1) ?start ?round
   case start=>exact ⟨_,s0,((aL p x.lo x.hi).2),0,rfl,oo_,oo_,⟨rfl,rfl⟩,rfl⟩
   case round =>
    rintro nn g M ⟨fl,m,hT1,hq1,hinv1,⟨hg11,hg12⟩,rfl⟩;obtain ⟨k1,rfl⟩:∃ m,nn=m+1:=⟨nn - 1,by omega⟩;refine gS2 hg11 hg12 ?_;clear hg11 hg12;refine go4 ?_;refine sQ (aE (v':=.int .i64 (((aL p x.lo x.hi).1).length:Int)) (bT (e:=elI) o7 O (rO hF38 lZ)) O) O (go2 ?_);refine aS _ O (fun h44=>?_) (fun h44=>?_)
    ·have ph44:=of_decide_eq_true h44;refine go_ ?_;refine gJv (rg [11] 93 9) [(11,.bool (fl&&decide (0≤(Z.signW (((aL p x.lo x.hi).1).getD m I0).dec).1)))] (fun K18 J18=>?_) ?_
     ·refine go3 ?_;refine sBB O (fun h46=>?_) (fun h46=>?_)
      ·refine go2 ?_;refine sQ (aE (v':=.pointer (some (slb (.slice p35 ((aL p x.lo x.hi).1).length c36) (m*18+0)))) (aM (e:=elI) (l:=(aL p x.lo x.hi).1) (k:=m) o7 O O (rO hF38 lZ) o2_) O) O ?_;refine sQ (bM (e:=elI) (l:=(aL p x.lo x.hi).1) (k:=m) (o:=0) tyT O (rO hF38 lZ) (aF I0 o2_) O) O ?_;refine sC (.int .i64 ((Z.signW (((aL p x.lo x.hi).1).getD m I0).dec).1)) aK (fD (((aL p x.lo x.hi).1).getD m I0).1 (((aL p x.lo x.hi).1).getD m I0).2) O O O (go4 ?_);refine J18 _ _ pp_ s0 (cH (j8 h46 O))
      refine go9 ?_;refine J18 _ _ pp_ s0 (cH (nT h46))
     intro g47;refine go2 ?_;refine sWi (((m+1):Nat):Int) O (go2 ?_);refine ⟨pp_,_,_,s0,(Nat.lt_succ_self _),(fl&&decide (0≤(Z.signW (((aL p x.lo x.hi).1).getD m I0).dec).1)),(m+1),(by exact (hT1.symm.trans (Eq.symm (bL h44 O))).symm),(Nat.lt_of_lt_of_le oo_ (Nat.le_of_lt_succ hq1)),oo_,⟨rfl,rfl⟩,rfl⟩
    have ph44:=of_decide_eq_false h44;refine go_ ?_;refine hK_u39 _ _ pp_ ⟨_,s0,fl,m,(by exact hT1.symm.trans (Eq.symm (aX h44 O))),⟨rfl,rfl⟩,rfl⟩
  rintro g M ⟨fl,m,hCu39,⟨hg11,hg12⟩,rfl⟩;refine gS2 hg11 hg12 ?_;clear hg11 hg12;refine go6 ?_;refine sFc (.tuple #[.bool ((bB p x.lo x.hi).1),.int .i64 (((bB p x.lo x.hi).2).1)]) O (fun w hw=>xO _ p x.lo x.hi w (aR hw Hp sn) bO_) O O (go6 ?_);refine fX (sR (sk (sk (sd s0)))) ?_;refine go3 ?_;refine sFc (.tuple #[.int .i64 (((aG p r16).1).1),.bool ((aG p r16).2)]) O (fun w hw=>oZ _ p r16 w (aR hw Hp sn) oo_) O O (go7 ?_);refine gJv (rg [] 117 14) [(130,.bool (!((aL p x.lo x.hi).2)||(!((aG p r16).2)||((((bB p x.lo x.hi).2).1 != 0)&&(((bB p x.lo x.hi).2).1 != 30)))))] (fun K20 J20=>?_) ?_
  ·refine go3 ?_;rcases bt ((aL p x.lo x.hi).2) with h51|h51
   ·refine sB (i3 h51) O (go3 ?_);rcases bt ((aG p r16).2) with h52|h52
    ·refine sB (i3 h52) O (go2 ?_);refine sBB O (fun h53=>?_) (fun h53=>?_)
     ·refine go5 ?_;refine J20 _ _ pp_ s0 (cH (lU h51 (lU h52 (j8 h53 O))))
     refine go5 ?_;refine J20 _ _ pp_ s0 (cH (lU h51 (lU h52 (nT h53))))
    refine sB (i4 h52) O (go8 ?_);refine J20 _ _ pp_ s0 (cH (lU h51 (q9 h52)))
   refine sB (i4 h51) O (yD ?_);refine J20 _ _ pp_ s0 (cH (q9 h51))
  intro g54;refine aS _ O (fun h55=>?_) (fun h55=>?_)
  ·refine go4 ?_;refine rt1 ?_
   subst_vars;exact congrArg vS0 (show _=(eU p x t) from aX h14 (trs (Eq.symm (apS hCu21)) (bL h34 (trs (Eq.symm (apS hCu39)) (bL h55 O)))))
  refine go2 ?_;refine gJv (rg [] 131 9) [(139,.bool ((((bB p x.lo x.hi).2).1==0)&&((bB p x.lo x.hi).1&&decide (((aG p r16).1).1<0))))] (fun K22 J22=>?_) ?_
  ·refine go3 ?_;refine sBB O (fun h58=>?_) (fun h58=>?_)
   ·refine go2 ?_;refine sBB O (fun h59=>?_) (fun h59=>?_)
    ·refine go4 ?_;refine J22 _ _ pp_ s0 (cH (j8 h58 (j8 h59 O)))
    refine go4 ?_;refine J22 _ _ pp_ s0 (cH (j8 h58 (nT h59)))
   refine go7 ?_;refine J22 _ _ pp_ s0 (cH (nT h58))
  intro g60;refine aS _ O (fun h61=>?_) (fun h61=>?_)
  ·have ph62:=of_decide_eq_true (Bool.and_eq_true_iff.1 (Bool.and_eq_true_iff.1 h61).2).2;refine go4 ?_;refine rt1 ?_
   subst_vars;exact congrArg vS0 (show _=(eU p x t) from aX h14 (trs (Eq.symm (apS hCu21)) (bL h34 (trs (Eq.symm (apS hCu39)) (aX h55 (bL h61 O))))))
  refine go_ ?_;refine gJv (rg [6] 140 18) [(6,.bool (true&&((((bB p x.lo x.hi).2).1 != 0)||((bB p x.lo x.hi).1||(!fl&&decide ((lM mb20.lo).1<0))))))] (fun K23 J23=>?_) ?_
  ·refine go_ ?_;refine sC (.bool true) aK rC O O O ?_;refine sBB O (fun h67=>?_) (fun h67=>?_)
   ·refine go2 ?_;refine sBB O (fun h68=>?_) (fun h68=>?_)
    ·refine yE ?_;refine J23 _ _ pp_ s0 (cH (j8 h67 (qO h68)))
    refine go2 ?_;refine sBB O (fun h69=>?_) (fun h69=>?_)
    ·refine yD ?_;refine J23 _ _ pp_ s0 (cH (j8 h67 (mD h68 (qO h69))))
    refine go2 ?_;rcases bt fl with h70|h70
    ·refine sB (i3 h70) O (go9 ?_);refine J23 _ _ pp_ s0 (cH (j8 h67 (mD h68 (mD h69 (AK h70)))))
    refine sB (i4 h70) O (go2 ?_);refine sQ (aY aK (GP mb20.lo) O) O (go6 ?_);refine J23 _ _ pp_ s0 (cH (j8 h67 (mD h68 (mD h69 (yM h70 O)))))
   refine ha_ ?_;refine J23 _ _ pp_ s0 (cH (nT h67))
  intro g71;refine go_ ?_;refine rt1 ?_
  subst_vars;exact congrArg vS0 (show _=(eU p x t) from aX h14 (trs (Eq.symm (apS hCu21)) (bL h34 (trs (Eq.symm (apS hCu39)) (aX h55 (aX h61 O))))))
 refine W_t (i4 h34) O (go4 ?_);refine rt1 ?_
 subst_vars;exact congrArg vS0 (show _=(eU p x t) from aX h14 (trs (Eq.symm (apS hCu21)) (aX h34 O)))
end Go.Proofs.YtcjoflcajgaifaaGreatDoor
namespace Go.Num
open Go Go.Kn
theorem Sz.mn {p q:Rat} {k:Nat} (h:Sz p k) (g:Sz q k):Sz (mn p q) k:=by unfold Go.Num.mn;split<;>assumption
theorem Sz.mx {p q:Rat} {k:Nat} (h:Sz p k) (g:Sz q k):Sz (mx p q) k:=by unfold Go.Num.mx;split<;>assumption
def mn4 (a b c d:Rat):Rat:=mn (mn (mn (mn a a) b) c) d
def mx4 (a b c d:Rat):Rat:=mx (mx (mx (mx a a) b) c) d
theorem ev_ {a b c d x:Rat} (h:a≤x∨b≤x∨c≤x∨d≤x):mn4 a b c d≤x:=by unfold mn4 mn;grind
theorem ep_ {a b c d x:Rat} (h:x≤a∨x≤b∨x≤c∨x≤d):x≤mx4 a b c d:=by unfold mx4 mx;grind
theorem bZ_ (a b c d:Rat):mn4 a b c d=a∨mn4 a b c d=b∨mn4 a b c d=c∨mn4 a b c d=d:=by unfold mn4 mn;grind
theorem b3_ (a b c d:Rat):mx4 a b c d=a∨mx4 a b c d=b∨mx4 a b c d=c∨mx4 a b c d=d:=by unfold mx4 mx;grind
structure Iv.Az (a:Iv) (p q:Rat) (k:Nat):Prop where
 at':a.At p q
 sp:Sz p k
 sq:Sz q k
theorem cJ_:(mL (wl 0)).At 0:=by rw [fv_];exact fu_ (wl 0)
theorem hu_ {a:Rt} {p:Rat} (h:a.At p):(lM a).1=p.num.sign:=by
 unfold lM;rw [hJ,iT h,(At.is h).en,bR];exact iQ (At.is h).hn
theorem hj_ {a b:Rt} {p q:Rat} (ha:a.At p) (hb:b.At q):(lL a b).At (mn p q):=by
 unfold lL mn;rw [hJ,hJ,iT ha,iT hb];simp only [Bool.not_true,Bool.or_self,cond_false]
 split
 ·rename_i h;rw [decide_eq_false (fun e=>absurd ((QG ha hb).1 e) (Rat.not_lt.2 h))];exact ha
 rename_i h;rw [decide_eq_true ((QG ha hb).2 (Rat.not_le.1 h))];exact hb
theorem hi_ {a b:Rt} {p q:Rat} (ha:a.At p) (hb:b.At q):(lK a b).At (mx p q):=by
 unfold lK mx;rw [hJ,hJ,iT ha,iT hb];simp only [Bool.not_true,Bool.or_self,cond_false]
 split
 ·rename_i h
  by_cases e:p=q
  ·subst e;rw [decide_eq_false (fun e=>absurd ((QK ha hb).1 e) (by grind))];exact ha
  rw [decide_eq_true ((QK ha hb).2 (by grind))];exact hb
 rename_i h;rw [decide_eq_false (fun e=>absurd ((QK ha hb).1 e) (by grind))];exact ha
theorem TJ {a:Iv} {p q:Rat} (h1:a.lo.At p) (h2:a.hi.At q):gO a=decide (q<p):=by
 have h0:decide (a.lo.n=pS.lo.n)=false:=decide_eq_false fun e=>by
  have:=(At.is h1).en.symm.trans e;have h3:=SF (this.trans (show pS.lo.n=E Z.bad from rfl));have h4:=congrArg Z.o h3;rw [Z.of_some (At.is h1).hn] at h4
  cases h4
 unfold gO;rw [h0,hJ,hJ,iT h1,iT h2];simp only [Bool.not_true,Bool.false_or,Bool.false_and]
 congr 1
 exact propext (QG h1 h2)
theorem Iv.At.ok {a:Iv} {p q:Rat} (h:a.At p q):gO a=false:=by
 rw [TJ h.lo h.hi];exact decide_eq_false (Rat.not_lt.2 h.le)
theorem ZT {a:Iv} (h:gO a=false):∃ p q,a.At p q:=by
 have h0:=h;unfold gO at h;simp only [Bool.or_eq_false_iff,Bool.not_eq_false',hJ] at h;obtain ⟨_,g1,g2,_⟩:=h;obtain ⟨p,hp⟩:=EQ g1;obtain ⟨q,hq⟩:=EQ g2;rw [TJ hp hq] at h0;exact ⟨p,q,hp,hq,Rat.not_lt.1 (of_decide_eq_false h0)⟩
theorem cP_ {a b:Rt} {p q:Rat} (ha:a.At p) (hb:b.At q) (h:p≤q):(gL a b).At p q:=by
 have h1:(⟨a,b⟩:Iv).At p q:=⟨ha,hb,h⟩;unfold gL;rw [h1.ok];exact h1
theorem OfP {a:Rt} {p:Rat} (ha:a.At p):(eA a).At p p:=cP_ ha ha Rat.le_refl
theorem cq_ {a:Iv} {p q:Rat} (ha:a.At p q):dO [a]=true:=by
 unfold dO fY;rw [ha.ok];rfl
theorem MF {a b:Iv} {p q r s:Rat} (ha:a.At p q) (hb:b.At r s):dO [a,b]=true:=by
 unfold dO fY;rw [ha.ok];simp only [cond_false];unfold fY;rw [hb.ok];rfl
theorem TH {a b:Iv} {p q r s:Rat} (ha:a.At p q) (hb:b.At r s):(eZ [a,b]).At (mn p r) (mx q s):=by
 have h1:=ha.le;have h2:=hb.le;unfold eZ;rw [MF ha hb];exact ⟨hj_ ha.lo hb.lo,hi_ ha.hi hb.hi,by unfold mn mx;grind⟩
theorem fV_ {a:Iv} {x:Rt} {p q r:Rat} (ha:a.At p q) (hx:x.At r):gW a x=decide (p≤r∧r≤q):=by
 unfold gW;rw [cq_ ha,hJ,iT hx];simp only [Bool.true_and,QJ ha.lo hx,QJ hx ha.hi,Bool.decide_and]
variable {a b:Iv} {p q r s:Rat} {j k:Nat}
theorem gV_ (ha:a.Az p q j) (hb:b.Az r s k) (h:j+k+1≤512):(iX a b).At (p+r) (q+s):=by
 have h1:=ha.at'.le;have h2:=hb.at'.le;unfold iX;rw [MF ha.at' hb.at',EZ,EZ];exact cP_ (JZ ha.at'.lo hb.at'.lo ha.sp hb.sp h) (JZ ha.at'.hi hb.at'.hi ha.sq hb.sq h) (by grind)
theorem gY_ (ha:a.Az p q j) (hb:b.Az r s k) (h:j+k≤512):(iY a b).At (mn4 (p*r) (p*s) (q*r) (q*s)) (mx4 (p*r) (p*s) (q*r) (q*s)):=by
 unfold iY;rw [MF ha.at' hb.at'];simp only [cond_true,QO];have h1:=E3 ha.at'.lo hb.at'.lo ha.sp hb.sp h;exact TH (TH (TH (TH (OfP h1) (OfP h1)) (OfP (E3 ha.at'.lo hb.at'.hi ha.sp hb.sq h))) (OfP (E3 ha.at'.hi hb.at'.lo ha.sq hb.sp h))) (OfP (E3 ha.at'.hi hb.at'.hi ha.sq hb.sq h))
section
variable {u v x y:Rat}
theorem RN (h:u≤v) (h0:0≤x):u*x≤v*x:=Rat.mul_le_mul_of_nonneg_right h h0
theorem F6 (h:u≤v) (h0:x≤0):v*x≤u*x:=by
 have:=Rat.mul_le_mul_of_nonneg_right h (show 0 ≤ -x by grind)
 grind
theorem IP (h1:p≤u) (h2:u≤q) (h3:r≤v) (h4:v≤s):p*r≤u*v∨p*s≤u*v∨q*r≤u*v∨q*s≤u*v:=by
 have key:∀ w:Rat,w*r≤w*v∨w*s≤w*v:=fun w=>by
  by_cases hw:0≤w
  ·exact .inl (Rat.mul_le_mul_of_nonneg_left h3 hw)
  have:=F6 h4 (show w≤0 by grind);rw [Rat.mul_comm s,Rat.mul_comm v] at this;exact .inr this
 by_cases hv:0≤v
 ·have:=RN h1 hv
  rcases key p with k|k
  ·exact .inl (Rat.le_trans k this)
  exact .inr (.inl (Rat.le_trans k this))
 have:=F6 h2 (show v≤0 by grind);rcases key q with k|k
 ·exact .inr (.inr (.inl (Rat.le_trans k this)))
 exact .inr (.inr (.inr (Rat.le_trans k this)))
theorem U9 (h1:p≤u) (h2:u≤q) (h3:r≤v) (h4:v≤s):u*v≤p*r∨u*v≤p*s∨u*v≤q*r∨u*v≤q*s:=by
 have:=IP (p:=-q) (q:=-p) (u:=-u) (show -q ≤ -u by grind) (show -u ≤ -p by grind) h3 h4
 grind
theorem ex_ (h1:p≤u) (h2:u≤q) (h3:r≤v) (h4:v≤s):mn4 (p*r) (p*s) (q*r) (q*s)≤u*v∧u*v≤mx4 (p*r) (p*s) (q*r) (q*s) :=
 ⟨ev_ (IP h1 h2 h3 h4),ep_ (U9 h1 h2 h3 h4)⟩
end
theorem QU {x:Rt} {n:W} (h:dN x n=true):∃ q,x.At q∧Sz q n.1.toNat:=by
 unfold dN at h;simp only [Bool.and_eq_true,decide_eq_true_eq] at h;obtain ⟨g,h1,h2⟩:=h;obtain ⟨p,hp⟩:=EQ g;refine ⟨p,hp,?_⟩;rw [(At.is hp).en] at h1;rw [(At.is hp).ed] at h2;rw [bR] at h1 h2;have e1:(Z.bitsW (Z.of p.num)).1=((bl p.num.natAbs:Nat):Int):=congrArg Int.ofNat (SM (At.is hp).hn);have e2:(Z.bitsW (Z.of (p.den:Int))).1=((bl p.den:Nat):Int):=congrArg Int.ofNat (SM (At.is hp).hd);rw [e1] at h1;rw [e2] at h2;exact ⟨Nat.lt_of_lt_of_le (E8 _) (AM oo_),Nat.lt_of_lt_of_le (E8 _) (AM oo_)⟩
end Go.Num
namespace Go.Num
open Go Go.Kn
open QP (V)
theorem yK {x y:Int} {A:Nat} (h:(x*y).natAbs≤A) (hy:y≠0):x.natAbs≤A:=by
 rw [Int.natAbs_mul] at h;exact Nat.le_trans (Nat.le_mul_of_pos_right _ oo_) h
theorem yL {x y:Int} {A:Nat} (h:(x*y).natAbs≤A) (hx:x≠0):y.natAbs≤A:=yK (by rwa [Int.mul_comm] at h) hx
theorem XX (g F:Nat→Int):conv g F 0=g 0*F 0∧conv g F 1=g 0*F 1+g 1*F 0∧conv g F 2=g 0*F 2+g 1*F 1+g 2*F 0∧conv g F 3=g 0*F 3+g 1*F 2+g 2*F 1+g 3*F 0:=by
 refine ⟨?_,?_,?_,?_⟩<;>(unfold conv;simp [fF])
theorem ZD {g F P:Nat→Int} {A:Nat} (hP:∀ k,(P k).natAbs≤A) (h:∀ k,P k=conv g F k) (g2:∀ i,1<i→g i=0) (g1:g 1≠0) {m:Nat} (hm:m≤2) (Fm:F m≠0) (Fz:∀ i,m<i→F i=0):(g 0).natAbs≤A∧(g 1).natAbs≤A∧(F m).natAbs≤A:=by
 obtain ⟨c0,c1,c2,c3⟩:=XX g F;have p0:=hP 0;have p1:=hP 1;have p2:=hP 2;rw [h,c0] at p0;rw [h,c1] at p1;rw [h,c2,g2 2 oo_] at p2;have top:=mW (c:=g) (d:=F) (n:=1) (m:=m) g2 Fz;have pt:=hP (1+m);rw [h,top] at pt;refine ⟨?_,yK pt Fm,yL pt g1⟩
 by_cases z0:F 0=0
 ·rw [z0,Int.mul_zero,Int.add_zero] at p1
  by_cases z1:F 1=0
  ·have:m=2:=by
    rcases Nat.lt_or_ge m 1 with k|k
    ·exact absurd (by rw [show m=0 by omega];exact z0) Fm
    rcases Nat.lt_or_ge m 2 with k'|k'
    ·exact absurd (by rw [show m=1 by omega];exact z1) Fm
    omega
   subst this;rw [z1,z0,Int.mul_zero,Int.mul_zero,Int.add_zero,Int.add_zero] at p2;exact yK p2 Fm
  exact yK p1 z1
 exact yK p0 z0
theorem d8_ {g F P:Nat→Int} {A:Nat} (hP:∀ k,(P k).natAbs≤A) (h:∀ k,P k=conv g F k) {n m:Nat} (hnm:n+m≤3) (gn:g n≠0) (gz:∀ i,n<i→g i=0) (Fm:F m≠0) (Fz:∀ i,m<i→F i=0) :
  (F m).natAbs≤A∧((m=2∧∀ k,(F k).natAbs≤A+A*(A+A*A))∨(m≠2∧∀ k,(F k).natAbs≤A)):=by
 have top:=mW (c:=g) (d:=F) (n:=n) (m:=m) gz Fz;have pt:=hP (n+m);rw [h,top] at pt;have Fle:=yL pt gn;refine ⟨Fle,?_⟩;have A0:A≤A+A*(A+A*A):=Nat.le_add_right _ _
 by_cases n0:n=0
 ·subst n0
  have hF:∀ k,(F k).natAbs≤A:=fun k=>by
   have e:conv g F k=g 0*F k:=by
    by_cases hk:k≤3
    ·obtain ⟨c0,c1,c2,c3⟩:=XX g F
     have z1:=gz 1 oo_;have z2:=gz 2 oo_;have z3:=gz 3 oo_;rcases (show k=0∨k=1∨k=2∨k=3 by omega) with r|r|r|r<;>subst r
     ·exact c0
     ·rw [c1,z1,Int.zero_mul,Int.add_zero]
     ·rw [c2,z1,z2,Int.zero_mul,Int.zero_mul,Int.add_zero,Int.add_zero]
     rw [c3,z1,z2,z3,Int.zero_mul,Int.zero_mul,Int.zero_mul,Int.add_zero,Int.add_zero,Int.add_zero]
    rw [Fz k oo_,Int.mul_zero];exact kU (n:=1) (m:=m+1) (fun j hj=>gz j oo_) (fun j hj=>Fz j oo_) k oo_
   have:=hP k;rw [h,e] at this;exact yL this gn
  by_cases m2:m=2
  ·exact .inl ⟨m2,fun k=>Nat.le_trans (hF k) A0⟩
  exact .inr ⟨m2,hF⟩
 by_cases m0:m=0
 ·subst m0
  refine .inr ⟨by decide,fun k=>?_⟩
  by_cases hk:k=0
  ·subst hk;exact Fle
  rw [Fz k oo_];exact Nat.zero_le _
 by_cases m1:m=1
 ·subst m1
  obtain ⟨l0,l1,_⟩:=ZD (g:=F) (F:=g) (P:=P) hP (fun k=>by rw [h,rF]) Fz Fm (m:=n) oo_ gn gz;refine .inr ⟨by decide,fun k=>?_⟩;rcases (show k=0∨k=1∨1<k by omega) with r|r|r
  ·subst r;exact l0
  ·subst r;exact l1
  rw [Fz k r];exact Nat.zero_le _
 obtain rfl:m=2:=by omega
 obtain rfl:n=1:=by omega
 obtain ⟨g0,g1,F2⟩:=ZD hP h gz gn (m:=2) oo_ Fm Fz;refine .inl ⟨rfl,?_⟩;obtain ⟨c0,c1,c2,c3⟩:=XX g F;have p1:=hP 1;have p2:=hP 2;rw [h,c1] at p1;rw [h,c2,gz 2 oo_,Int.zero_mul,Int.add_zero] at p2
 have F1:(F 1).natAbs≤A+A*A:=by
  refine yL (x:=g 1) ?_ gn
  have e:g 1*F 1=(g 0*F 2+g 1*F 1) - g 0*F 2:=by omega
  have h1:(g 0*F 2).natAbs≤A*A:=by rw [Int.natAbs_mul];exact Nat.mul_le_mul g0 F2
  omega
 have F0:(F 0).natAbs≤A+A*(A+A*A):=by
  refine yL (x:=g 1) ?_ gn
  have e:g 1*F 0=(g 0*F 1+g 1*F 0) - g 0*F 1:=by omega
  have h1:(g 0*F 1).natAbs≤A*(A+A*A):=by rw [Int.natAbs_mul];exact Nat.mul_le_mul g0 F1
  omega
 have A1:A*A≤A*(A+A*A):=Nat.mul_le_mul_left _ (Nat.le_add_right _ _);intro k;rcases (show k=0∨k=1∨k=2∨2<k by omega) with r|r|r|r
 ·subst r;exact F0
 ·subst r;omega
 ·subst r;omega
 rw [Fz k r];exact Nat.zero_le _
def one (i:Nat):Int:=if i=0 then 1 else 0
theorem GC (c:Nat→Int) (k:Nat):conv one c k=c k:=by rw [rF];unfold one;rw [XZ,Int.mul_one]
theorem ca_:Cop one:=fun u h=>h 0
theorem cZ_ {c:Nat→Int} {n b:Nat} (h:Bd c n b) (hn:n≤4):Bd (dI c) (n - 1) (b+2):=by
 refine ⟨fun k hk=>by unfold dI;rw [h.z _ oo_,Int.mul_zero],fun k=>?_⟩;unfold dI
 by_cases hk:k+1<n
 ·rw [Int.natAbs_mul,Int.natAbs_natCast,Nat.pow_add _ b 2,Nat.mul_comm]
  have h1:=h.b (k+1);have h2:(c (k+1)).natAbs*(k+1)≤(c (k+1)).natAbs*2 ^ 2:=Nat.mul_le_mul_left _ (by show k+1≤4;omega);have h3:(c (k+1)).natAbs*2 ^ 2<2 ^ b*2 ^ 2:=Nat.mul_lt_mul_of_pos_right h1 dd_;omega
 rw [h.z _ oo_,Int.mul_zero];exact Nat.pow_pos dd_
theorem O2 {p:List I} {c:Nat→Int} (h:Po p c) {n M:Nat} (hz:∀ i,n<i→c i=0) (hb:∀ k,(c k).natAbs≤M):Pr (fun k=>(c k).fdiv (cN p)) n M:=by
 by_cases h0:p=[]
 ·have hz':∀ k,c k=0:=fun k=>h.zero (by rw [h0];exact Nat.zero_le _)
  exact ⟨fun i _=>by rw [hz' i,Int.zero_fdiv],fun k=>by rw [hz' k,Int.zero_fdiv];exact Nat.zero_le _,.inr fun k=>by rw [hz' k,Int.zero_fdiv]⟩
 exact ⟨fun i hi=>by rw [hz i hi,Int.zero_fdiv],fun k=>Nat.le_trans (KX (h.cpos h0) (h.dvd k)) (hb k),.inl (BR h h0)⟩
theorem f8_:okT 1 0 (2 ^ 103) 4 3 2 (2 ^ 32) (2 ^ 34)=true:=by kernel_rfl
theorem di_:2 ^ 32+2 ^ 32*(2 ^ 32+2 ^ 32*2 ^ 32)<2 ^ 98:=by decide
structure Fs (F:Nat→Int) (m:Nat):Prop where
 top:F m≠0
 z:∀ i,m<i→F i=0
 m3:m≤3
 lead:(F m).natAbs≤2 ^ 32
 b:(m=2∧∀ k,(F k).natAbs<2 ^ 98)∨(m≠2∧∀ k,(F k).natAbs≤2 ^ 32)
theorem QN {p:List I} {c:Nat→Int} (h:Po p c) (hb:Bd c 4 32) (h0:p≠[]):∃ (F:Nat→Int) (m:Nat),Po (aT p) F∧Fs F m:=by
 have hd:=cZ_ hb dd_;have hD:Po (aD p) (dI c):=ID h fun k=>pP (hd.b k) dd_;have pa:=O2 h (n:=3) (M:=2 ^ 32) (fun i hi=>hb.z i oo_) (fun k=>Nat.le_of_lt (hb.b k));have pb:=O2 hD (n:=2) (M:=2 ^ 34) (fun i hi=>hd.z i oo_) (fun k=>Nat.le_of_lt (hd.b k));have hα:=oI h;have hβ:=oI hD;obtain ⟨g,F,n,eρ,eF,hG,g0,gz,gB,gC,FC,hF,_⟩:=eU_ ca_ (ds:=0) (S:=1) dd_ (fun i hi=>if_neg oo_) (fun k=>by unfold one;split<;>decide) h h0 hD pa pb f8_ (hα.cast fun k=>(GC (fun k=>(c k).fdiv (cN p)) k).symm) (hβ.cast fun k=>(GC (fun k=>(dI c k).fdiv (cN (aD p))) k).symm)
 have hF':∀ k,(c k).fdiv (cN p)=conv g F k:=fun k=>by rw [← hF k,GC]
 obtain ⟨m,m1,m2⟩:=(HF eF).resolve_left (CH FC)
 have gn:g n≠0:=by omega
 have hnm:n+m≤3:=by
  rcases Nat.lt_or_ge 3 (n+m) with k|k
  ·exfalso
   have e1:=hF' (n+m);rw [mW gz m2,hb.z _ oo_,Int.zero_fdiv] at e1;exact (Int.mul_ne_zero gn m1) e1.symm
  exact k
 obtain ⟨f1,f2⟩:=d8_ (A:=2 ^ 32) pa.b hF' hnm gn gz m1 m2
 have hA:∀ i,(F i).natAbs≤2 ^ 98:=fun i=>by
  rcases f2 with ⟨_,f⟩|⟨_,f⟩
  ·exact Nat.le_trans (f i) (Nat.le_of_lt di_)
  exact Nat.le_trans (f i) dd_
 have hl:(aN p (aD p)).length=n+1:=hG.len_top gn gz
 obtain ⟨e,he,hP,_⟩:=WQ hG hl g0 (A:=2 ^ 98) (B:=(0+1)*(1*2 ^ 103)) hA gB (by
  have:n+1≤4:=by omega
  refine Nat.lt_of_le_of_lt (Nat.mul_le_mul_right _ this) dd_) hα hF' m1 m2
 have ab:∀ k,(e*F k).natAbs=(F k).natAbs:=fun k=>by
  rcases he with rfl|rfl
  ·rw [Int.one_mul]
  rw [Int.neg_one_mul,Int.natAbs_neg]
 refine ⟨_,m,hP,?_,fun i hi=>by rw [m2 i hi,Int.mul_zero],by omega,by rw [ab];exact f1,?_⟩
 ·rcases he with rfl|rfl
  ·rw [Int.one_mul];exact m1
  rw [Int.neg_one_mul];omega
 rcases f2 with ⟨hm,f⟩|⟨hm,f⟩
 ·exact .inl ⟨hm,fun k=>by rw [ab];exact Nat.lt_of_le_of_lt (f k) di_⟩
 exact .inr ⟨hm,fun k=>by rw [ab];exact f k⟩
def AU (s:Nat) (x:List I):Prop:=∃ c n b,Po x c∧Bd c n b∧n≤4∧b+s*n+3≤512
def okS (s:Nat):Nat→Nat→Nat→Nat→Nat→Bool
 | 0,_,_,_,_=>false
 | f+1,n0,n1,b0,b1=>(List.range (n1+1)).all fun n =>
  decide (n≤3)&&decide (((if n=0 then 1 else b1)+1)*(n0+1 - n)+b0+1≤512)&&decide ((if n=0 then 1 else b1)+s*(n+1)+3≤512)&&(decide (n=0)||okS s f n (n - 1) (if n=0 then 1 else b1) (((if n=0 then 1 else b1)+1)*(n0+1 - n)+b0+1))
theorem eC_ {s f n0 n1 b0 b1 n:Nat} (h:okS s (f+1) n0 n1 b0 b1=true) (hn:n≤n1):n≤3∧((if n=0 then 1 else b1)+1)*(n0+1 - n)+b0+1≤512∧(if n=0 then 1 else b1)+s*(n+1)+3≤512∧(n=0∨okS s f n (n - 1) (if n=0 then 1 else b1) (((if n=0 then 1 else b1)+1)*(n0+1 - n)+b0+1)=true):=by
 unfold okS at h;rw [List.all_eq_true] at h;have h4:=h n (List.mem_range.2 oo_);rw [Bool.and_eq_true,Bool.and_eq_true,Bool.and_eq_true,Bool.or_eq_true] at h4;obtain ⟨⟨⟨h5,h6⟩,h7⟩,h8⟩:=h4;exact ⟨of_decide_eq_true h5,of_decide_eq_true h6,of_decide_eq_true h7,h8.imp of_decide_eq_true id⟩
theorem f0_ {x k:Nat} (m:Nat) (hm:4294967296 ^ 16=2 ^ m) (h:x<2 ^ k) (hk:k≤m):x<4294967296 ^ 16:=by
 rw [hm];exact Nat.lt_of_lt_of_le h (Nat.pow_le_pow_right dd_ hk)
theorem aD_ {a b:List I} {α β:Nat→Int} {n0 n b0 b1:Nat} (ha:Po a α) (hb:Po b β) (za:∀ i,n0<i→α i=0) (ba:∀ k,(α k).natAbs<2 ^ b0) (tb:β n≠0) (zb:∀ i,n<i→β i=0) (bb:∀ k,(β k).natAbs<2 ^ b1) (hk:(b1+1)*(n0+1 - n)+b0+1≤512) :
  ∃ γ:Nat→Int,Po (aC (bP (aZ a b) (E (Z.of (-1))))) γ∧(∀ k,(γ k).natAbs<2 ^ ((b1+1)*(n0+1 - n)+b0+1))∧(∀ i,n≤i→γ i=0)∧(aC (bP (aZ a b) (E (Z.of (-1))))≠[]→Cop γ):=by
 have hl:b.length=n+1:=hb.len_top tb zb;have hal:a.length≤n0+1:=ha.short fun k hk=>za k oo_
 have o1:((β n).sign).natAbs≤1:=by
  have:=BY (β n);omega
 have B1:1≤2 ^ b1:=Nat.one_le_two_pow
 have an:((β n).natAbs:Int).natAbs≤2 ^ b1:=by rw [Int.natAbs_natCast];exact Nat.le_of_lt (bb n)
 have hm:a.length - n≤n0+1 - n:=by omega
 have e1:(2*2 ^ b1) ^ (a.length - n)*2 ^ b0≤2 ^ ((b1+1)*(n0+1 - n)+b0):=by
  rw [show 2*2 ^ b1=2 ^ (b1+1) by rw [Nat.pow_succ,Nat.mul_comm],← Nat.pow_mul,← Nat.pow_add];refine Nat.pow_le_pow_right dd_ ?_;have:=Nat.mul_le_mul_left (b1+1) hm;omega
 have e2:2 ^ ((b1+1)*(n0+1 - n)+b0)<2 ^ ((b1+1)*(n0+1 - n)+b0+1):=Nat.pow_lt_pow_right dd_ (Nat.lt_succ_self _);have hB:=KC (n:=n) B1 an o1 (fun k=>Nat.le_of_lt (bb k)) (a.length - n) (2 ^ b0) α (fun k=>Nat.le_of_lt (ba k)) (f0_ 512 MY (Nat.lt_of_le_of_lt e1 e2) hk);have hr:=WV ha hb hl hB;have hrl:=MA (n:=n) an o1 (fun k=>Nat.le_of_lt (bb k)) (a.length - n) (2 ^ b0) α (fun k=>Nat.le_of_lt (ba k));have hrz:=C3 (a:=((β n).natAbs:Int)) (o:=(β n).sign) (d:=β) (n:=n) (GX _) zb (a.length - n) α (fun k hk=>ha.zero oo_)
 have hs:Po (bP (aZ a b) (E (Z.of (-1)))) _:=NA hr dd_ (fun k=>by
  have:=hr.B k;unfold cM at *;rwa [Int.mul_neg_one,Int.natAbs_neg])
 obtain ⟨γ,t,t0,tp,hγ,e4,hc⟩:=tT hs;refine ⟨γ,hγ,fun k=>?_,fun i hi=>?_,hc⟩
 ·have h1:(t*γ k).natAbs<2 ^ ((b1+1)*(n0+1 - n)+b0+1):=by
   rw [← e4 k,Int.mul_neg_one,Int.natAbs_neg];have:=hrl k;omega
  rw [Int.natAbs_mul] at h1;exact Nat.lt_of_le_of_lt (Nat.le_mul_of_pos_left _ oo_) h1
 have h1:=e4 i;rw [hrz i hi,Int.zero_mul] at h1;rcases Int.mul_eq_zero.1 h1.symm with k|k
 ·exact absurd k t0
 exact k
theorem PR {s:Nat} (p:List I):∀ (f n0 n1 b0 b1 k:Nat) (pre:List (List I)) (last next:List I) (α β:Nat→Int),okS s f n0 n1 b0 b1=true→Po last α→Po next β→(∀ i,n0<i→α i=0)→(∀ k,(α k).natAbs<2 ^ b0) →
  (∀ i,n1<i→β i=0)→(∀ k,(β k).natAbs<2 ^ b1)→(next≠[]→Cop β)→gmP next<k→∃ s':List (List I)×List I,cQ p k (pre++[last]) next = .inl s'∧∀ x∈s'.1,x∈pre++[last]∨AU s x
 | 0,_,_,_,_,_,_,_,_,_,_,h,_,_,_,_,_,_,_,_=>absurd h (by unfold okS;decide)
 | f+1,n0,n1,b0,b1,0,_,_,_,_,_,_,_,_,_,_,_,_,_,hk=>absurd hk (Nat.not_lt_zero _)
 | f+1,n0,n1,b0,b1,k+1,pre,last,next,α,β,h,ha,hb,za,ba,zb,bb,hC,hk=>by
  unfold cQ
  by_cases h0:next=[]
  ·subst h0
   exact ⟨_,rfl,fun x hx=>.inl hx⟩
  have hl:0<next.length:=List.length_pos_iff.2 h0
  rw [decide_eq_true (show 0<(next.length:Int) by omega),cond_true,FP,zH];obtain ⟨n,n1',n2,n3⟩:=hb.top h0
  have hn:n≤n1:=by
   rcases Nat.lt_or_ge n1 n with q|q
   ·exact absurd (zb n q) n2
   exact q
  obtain ⟨w1,w2,w3,w4⟩:=eC_ h hn
  have bb':∀ k,(β k).natAbs<2 ^ (if n=0 then 1 else b1):=fun k=>by
   by_cases hn0:n=0
   ·rw [if_pos hn0]
    subst hn0;have:=CG (hC h0) n3
    by_cases hk0:k=0
    ·subst hk0;omega
    rw [n3 k oo_];decide
   rw [if_neg hn0];exact bb k
  obtain ⟨γ,g1,g2,g3,g4⟩:=aD_ ha hb za ba n2 n3 bb' w2;rw [g1.nb,cond_false]
  have hT:AU s next:=⟨β,n+1,_,hb,⟨fun k hk=>n3 k oo_,bb'⟩,by omega,w3⟩
  have lift:∀ {s':List (List I)×List I},(∀ x∈s'.1,x∈(pre++[last])++[next]∨AU s x)→∀ x∈s'.1,x∈pre++[last]∨AU s x:=fun hx x hm=>by
   rcases hx x hm with q|q
   ·rcases List.mem_append.1 q with q|q
    ·exact .inl q
    rw [List.mem_singleton.1 q];exact .inr hT
   exact .inr q
  have hgm:gmP (aC (bP (aZ last next) (E (Z.of (-1)))))<gmP next:=by
   have h1:=(MO (n:=E (Z.of (-1))) (a:=last) hb.l g1.g).2;unfold gmP;rw [g1.g,hb.g,cond_true,cond_true];omega
  rcases w4 with w4|w4
  ·have hnil:aC (bP (aZ last next) (E (Z.of (-1))))=[]:=g1.nil fun k=>g3 k oo_
   rw [hnil];obtain ⟨k,rfl⟩:∃ j,k=j+1:=⟨k - 1,by omega⟩;refine ⟨((pre++[last])++[next],[]),by unfold cQ;rfl,lift fun x hx=>.inl hx⟩
  obtain ⟨s',e,hs'⟩:=PR p f n (n - 1) _ _ k (pre++[last]) next _ β γ w4 hb g1 n3 bb' (fun i hi=>g3 i oo_) g2 g4 oo_
  exact ⟨s',e,lift hs'⟩
theorem hn_:okS 119 4 3 2 33 35=true:=by kernel_rfl
theorem hm_:okS 119 4 2 1 98 100=true:=by kernel_rfl
theorem PU {p:List I} {c:Nat→Int} (h:Po p c) (hb:Bd c 4 32) (h0:p≠[]):(aV p).2=true∧(∃ F m,Po (aT p) F∧Fs F m)∧∀ x∈(aV p).1,AU 119 x:=by
 obtain ⟨F,m,hF,fs⟩:=QN h hb h0;have hne:aT p≠[]:=fun e=>fs.top (hF.zero (by rw [e];exact Nat.zero_le _))
 have key:∀ {n0 b0:Nat},n0≤3→(∀ i,n0<i→F i=0)→(∀ k,(F k).natAbs<2 ^ b0)→b0+2≤512→okS 119 4 n0 (n0 - 1) b0 (b0+2)=true→b0+119*(n0+1)+3≤512→(aV p).2=true∧∀ x∈(aV p).1,AU 119 x:=fun {n0 b0} hn zF bF hb2 hok hTm=>by
  have bd:Bd F (n0+1) b0:=⟨fun k hk=>zF k oo_,bF⟩;have hd:=cZ_ bd oo_;have hD:Po (aD (aT p)) (dI F):=ID hF fun k=>pP (hd.b k) hb2;obtain ⟨γ,t,t0,tp,hγ,e1,hc⟩:=tT hD
  have gz:∀ i,n0 - 1<i→γ i=0:=fun i hi=>by
   have h1:=e1 i;rw [hd.z i oo_] at h1;rcases Int.mul_eq_zero.1 h1.symm with k|k
   ·exact absurd k t0
   exact k
  have gb:∀ k,(γ k).natAbs<2 ^ (b0+2):=fun k=>by
   have h1:=hd.b k;rw [e1 k,Int.natAbs_mul] at h1;exact Nat.lt_of_le_of_lt (Nat.le_mul_of_pos_left _ oo_) h1
  obtain ⟨s',e,hs'⟩:=PR (s:=119) p 4 n0 (n0 - 1) b0 (b0+2) (gmP (aC (aD (aT p)))+1) [] (aT p) _ F γ hok hF hγ zF bF gz gb hc (Nat.lt_succ_self _);have hT:AU 119 (aT p):=⟨F,n0+1,b0,hF,bd,by omega,hTm⟩
  have hall:∀ x∈s'.1,AU 119 x:=fun x hx=>by
   rcases hs' x hx with q|q
   ·rw [List.mem_singleton.1 q];exact hT
   exact q
  rw [List.nil_append] at e;unfold aV;rw [e]
  show (sm (fun (_:Unit)=>(s'.1,true)) (fun r=>r) (cW p s'.1 s'.2 s'.1)).2=true∧∀ x∈(sm (fun (_:Unit)=>(s'.1,true)) (fun r=>r) (cW p s'.1 s'.2 s'.1)).1,AU 119 x
  rw [OO p s'.1 s'.2 s'.1 fun x hx=>by obtain ⟨c,_,_,hc,_⟩:=hall x hx;exact hc.nb];exact ⟨rfl,hall⟩
 have res:(aV p).2=true∧∀ x∈(aV p).1,AU 119 x:=by
  rcases fs.b with ⟨hm,hB⟩|⟨hm,hB⟩
  ·subst hm
   exact key (n0:=2) (b0:=98) dd_ fs.z hB dd_ hm_ dd_
  have:=fs.m3;exact key (n0:=3) (b0:=33) dd_ (fun i hi=>fs.z i oo_) (fun k=>Nat.lt_of_le_of_lt (hB k) dd_) dd_ hn_ dd_
 exact ⟨res.1,⟨F,m,hF,fs⟩,res.2⟩
open QP (V Rb Two Cub)
theorem JO {s:Nat} {x:List I} {y:Rt} {q:Rat} (hT:AU s x) (hy:y.At q) (sq:Sz q s):(aG x y).2=true:=by
 obtain ⟨c,n,b,hc,hb,hn,hk⟩:=hT;exact (NC (e:=2) hc hb hy sq hn oo_).1
theorem XM (c:List (List I)) (x:Rt):∀ (l:List (List I)) (s n:W),(∀ f∈l,(aG f x).2=true)→∃ r,dW c x l s n = .inl r
 | [],s,n,_=>⟨_,rfl⟩
 | f::l,s,n,h=>by
  unfold dW;have hr:=NB f x;have hl:∀ g∈l,(aG g x).2=true:=fun g hg=>h g (List.mem_cons_of_mem _ hg);rw [h f (List.mem_cons_self),cond_true];rw [show ((aG f x).1.1==(-2))=false by simp;omega,cond_false]
  cases ((aG f x).1.1 != 0)
  ·exact XM c x l _ _ hl
  ·cases ((s.1 != 0)&&((aG f x).1.1 != s.1))<;>exact XM c x l _ _ hl
theorem FB {L:List (List I)} {x:Rt} (h:∀ f∈L,(aG f x).2=true):(cI L x).2=true:=by
 obtain ⟨r,e⟩:=XM L x L (wl 0) (wl 0) h;unfold cI;rw [e];rfl
theorem X1 {s:Nat} {L:List (List I)} {a b:Rt} {u v:Rat} (hT:∀ f∈L,AU s f) (ha:a.At u) (hb:b.At v) (su:Sz u s) (sv:Sz v s):(aU L a b).2=true:=by
 unfold aU
 show ((cI L a).2&&(cI L b).2)=true
 rw [FB fun f hf=>JO (hT f hf) ha su,FB fun f hf=>JO (hT f hf) hb sv];rfl
structure Pt (A B:Rat) (P j:Int) (x:Rat):Prop where
 p:0<P
 j0:0≤j
 j1:j≤P
 e:(P:Rat)*x=((P - j:Int):Rat)*A+(j:Rat)*B
theorem Pt.sz {A B x:Rat} {k:Nat} {j:Int} (h:Pt A B (2 ^ k) j x) (hA:Sz A 12) (hB:Sz B 12):Sz x (24+k):=by
 have a1:=zL A;have b1:=zL B;have a2:=@lS A;have b2:=@lS B;have e:=h.e;have P0:=h.p;have J0:=h.j0;have J1:=h.j1;have e24:(2:Nat) ^ (24+k)=2 ^ 24*2 ^ k:=Nat.pow_add _ _ _
 have ePk:((2:Int) ^ k).natAbs=2 ^ k:=by rw [Int.natAbs_pow];rfl
 refine fA_ (n:=A.num*B.den*(2 ^ k - j)+B.num*A.den*j) (d:=A.den*B.den*2 ^ k) ?_ (Int.mul_pos (Int.mul_pos a2 b2) P0) ?_ ?_
 ·simp only [Rat.intCast_add,Rat.intCast_sub,Rat.intCast_mul] at e ⊢
  rw [← a1,← b1];generalize ((2 ^ k:Int):Rat)=P at *;generalize ((A.den:Int):Rat)=d at *;generalize ((B.den:Int):Rat)=f at *
  have:d*f*P*x=d*f*(P*x):=by grind
  rw [this,e];grind
 ·have h1:(A.num*B.den).natAbs≤2 ^ 24 - 1:=by
   have:=oX hA.n (show (B.den:Int).natAbs<2 ^ 12 by rw [Int.natAbs_natCast];exact hB.d);omega
  have h2:(B.num*A.den).natAbs≤2 ^ 24 - 1:=by
   have:=oX hB.n (show (A.den:Int).natAbs<2 ^ 12 by rw [Int.natAbs_natCast];exact hA.d);omega
  rw [e24]
  have t1:(A.num*B.den*(2 ^ k - j)).natAbs≤(2 ^ 24 - 1)*(2 ^ k - j:Int).natAbs:=by rw [Int.natAbs_mul];exact Nat.mul_le_mul_right _ h1
  have t2:(B.num*A.den*j).natAbs≤(2 ^ 24 - 1)*j.natAbs:=by rw [Int.natAbs_mul];exact Nat.mul_le_mul_right _ h2
  have t3:(2 ^ k - j:Int).natAbs+j.natAbs=2 ^ k:=by rw [← ePk];omega
  have t4:(2 ^ 24 - 1)*(2 ^ k - j:Int).natAbs+(2 ^ 24 - 1)*j.natAbs=(2 ^ 24 - 1)*2 ^ k:=by rw [← Nat.mul_add,t3]
  have t5:(2 ^ 24 - 1)*2 ^ k<2 ^ 24*2 ^ k:=Nat.mul_lt_mul_of_pos_right dd_ (Nat.pow_pos dd_);omega
 rw [Int.natAbs_mul,ePk,e24];refine Nat.mul_lt_mul_of_pos_right ?_ (Nat.pow_pos dd_);exact oX (b:=12) (b':=12) (by rw [Int.natAbs_natCast];exact hA.d) (by rw [Int.natAbs_natCast];exact hB.d)
structure It (A B:Rat) (P j:Int) (u v:Rat):Prop where
 lo:Pt A B P j u
 hi:Pt A B P (j+1) v
theorem It.one (A B:Rat):It A B (2 ^ 0) 0 A B:=by
 have e1:(((2:Int) ^ 0:Int):Rat)=1:=rfl;have e2:(((2:Int) ^ 0 - 0:Int):Rat)=1:=rfl;have e3:(((2:Int) ^ 0 - (0+1):Int):Rat)=0:=rfl;have e4:(((0:Int)+1:Int):Rat)=1:=rfl;have e5:((0:Int):Rat)=0:=rfl;exact ⟨⟨by decide,by decide,by decide,by rw [e1,e2,e5];grind⟩,⟨by decide,by decide,by decide,by rw [e1,e3,e4];grind⟩⟩
theorem It.len {A B:Rat} {P j:Int} {u v:Rat} (h:It A B P j u v):(P:Rat)*(v - u)=B - A:=by
 have a:=h.lo.e;have b:=h.hi.e;simp only [Rat.intCast_add,Rat.intCast_sub] at a b;have e:((1:Int):Rat)=1:=rfl;rw [e] at b
 grind
theorem It.mid {A B:Rat} {P j:Int} {u v:Rat} (h:It A B P j u v):Pt A B (P*2) (j*2+1) ((u+v)*(1 / 2)):=by
 have a:=h.lo.e;have b:=h.hi.e;have p0:=h.lo.p;have j0:=h.lo.j0;have j1:=h.hi.j1;refine ⟨by omega,by omega,by omega,?_⟩;simp only [Rat.intCast_add,Rat.intCast_sub,Rat.intCast_mul] at a b ⊢;have e:((1:Int):Rat)=1:=rfl;have e':((2:Int):Rat)=2:=rfl;rw [e] at b ⊢;rw [e']
 grind
theorem Pt.dbl {A B:Rat} {P j:Int} {x:Rat} (h:Pt A B P j x):Pt A B (P*2) (j*2) x:=by
 have a:=h.e;have p0:=h.p;have j0:=h.j0;have j1:=h.j1;refine ⟨by omega,by omega,by omega,?_⟩;simp only [Rat.intCast_sub,Rat.intCast_mul] at a ⊢;have e':((2:Int):Rat)=2:=rfl;rw [e']
 grind
theorem It.left {A B:Rat} {k:Nat} {j:Int} {u v:Rat} (h:It A B (2 ^ k) j u v):It A B (2 ^ (k+1)) (j*2) u ((u+v)*(1 / 2)):=by
 rw [Int.pow_succ];exact ⟨h.lo.dbl,h.mid⟩
theorem It.right {A B:Rat} {k:Nat} {j:Int} {u v:Rat} (h:It A B (2 ^ k) j u v):It A B (2 ^ (k+1)) (j*2+1) ((u+v)*(1 / 2)) v:=by
 rw [Int.pow_succ];refine ⟨h.mid,?_⟩;rw [show j*2+1+1=(j+1)*2 by omega];exact h.hi.dbl
theorem It.lt {A B:Rat} {P j:Int} {u v:Rat} (h:It A B P j u v) (hAB:A<B):u<v:=by
 have a:=h.len;have p0:(0:Rat)<(P:Rat):=Rat.intCast_pos.2 h.lo.p
 apply Rat.not_le.1
 intro hn;have:=Rat.mul_nonneg (Rat.le_of_lt p0) (show (0:Rat)≤u - v by grind)
 grind
theorem It.le {A B:Rat} {P j:Int} {u v:Rat} (h:It A B P j u v) (hAB:A≤B):u≤v:=by
 have a:=h.len;have p0:(0:Rat)<(P:Rat):=Rat.intCast_pos.2 h.lo.p
 apply Rat.not_lt.1
 intro hn;have:=Rat.mul_pos p0 (show (0:Rat)<u - v by grind)
 grind
theorem Pt.ge {A B:Rat} {P j:Int} {x:Rat} (h:Pt A B P j x) (hAB:A≤B):A≤x∧x≤B:=by
 have a:=h.e;have p0:(0:Rat)<(P:Rat):=Rat.intCast_pos.2 h.p;have j0:(0:Rat)≤(j:Rat):=Rat.intCast_nonneg.2 h.j0;have j1:(0:Rat)≤((P - j:Int):Rat):=Rat.intCast_nonneg.2 (by have:=h.j1;omega);have b1:=Rat.mul_nonneg j0 (show 0≤B - A by grind);have b2:=Rat.mul_nonneg j1 (show 0≤B - A by grind);rw [Rat.intCast_sub] at a b2
 constructor
 ·apply Rat.not_lt.1
  intro hn;have:=Rat.mul_pos p0 (show (0:Rat)<A - x by grind)
  grind
 apply Rat.not_lt.1
 intro hn;have:=Rat.mul_pos p0 (show (0:Rat)<x - B by grind)
 grind
theorem dx_ {q:Rat} {k:Nat} (h:Sz q k):Ab q (((2 ^ k:Nat):Int):Rat):=by
 have a1:=zL q;have a2:=@lS q
 have d1:(1:Rat)≤((q.den:Int):Rat):=by
  rw [show (1:Rat)=((1:Int):Rat) from rfl];exact Rat.intCast_le_intCast.2 oo_
 have n1:((q.num:Int):Rat)≤(((2 ^ k:Nat):Int):Rat):=Rat.intCast_le_intCast.2 (by have:=h.n;omega)
 have n2:(-(((2 ^ k:Nat):Int):Rat))≤((q.num:Int):Rat):=by
  rw [← Rat.intCast_neg];exact Rat.intCast_le_intCast.2 (by have:=h.n;omega)
 have m0:(0:Rat)≤(((2 ^ k:Nat):Int):Rat):=Rat.intCast_nonneg.2 (Int.natCast_nonneg _);generalize (((2 ^ k:Nat):Int):Rat)=M at *;generalize ((q.den:Int):Rat)=d at *;rw [← a1] at n1 n2
 constructor
 ·apply Rat.not_lt.1
  intro hn;have k1:=Rat.mul_nonneg (show (0:Rat)≤d - 1 by grind) (show (0:Rat) ≤ -q - M by grind);have k2:=Rat.mul_nonneg (show (0:Rat)≤d - 1 by grind) m0
  grind
 apply Rat.not_lt.1
 intro hn;have k1:=Rat.mul_nonneg (show (0:Rat)≤d - 1 by grind) (show (0:Rat)≤q - M by grind);have k2:=Rat.mul_nonneg (show (0:Rat)≤d - 1 by grind) m0
 grind
theorem eT_ {p f:QP} (h:Rad p f) (x:Rat):¬ (f.ev x=0∧(QP.D f).ev x=0):=fun ⟨h1,h2⟩=>by
 obtain ⟨g,u,v,e,d1,d2⟩:=QP.bezout f (QP.D f);have hg:g≠QP.C 0:=fun e0=>h.ne (by rw [e0] at d1;exact d1.of_zero);obtain ⟨n,hn⟩:=QP.ex_dg hg;have n0:=QP.sqf_co h.sq d1 d2 hn;subst n0;have e1:=QP.dg_C hn
 have e2:g.ev x=0:=by rw [e,QP.ev_add,QP.ev_mul,QP.ev_mul,h1,h2];grind
 rw [e1,QP.ev_C] at e2;exact hn.1 e2
theorem d1_ {F:Nat→Int} (e:lF F) (hz:∀ i,3<i→F i=0):Cub (ZP F e) (F 3) (F 2) (F 1) (F 0):=by
 refine ⟨fun x=>?_,fun x=>?_⟩
 ·rw [QP.ev_vl (n:=4) fun i hi=>by rw [kT,hz i oo_];rfl]
  unfold vl;simp only [fF,kT,Rat.pow_zero,Rat.pow_succ]
  grind
 rw [QP.ev_vl (n:=3) fun i hi=>by rw [QP.D_c,kT,hz (i+1) oo_];exact Rat.mul_zero _];unfold vl;simp only [fF,QP.D_c,kT,Rat.pow_zero,Rat.pow_succ];have n1:(((0+1:Nat):Nat):Rat)=1:=rfl;have n2:(((1+1:Nat):Nat):Rat)=2:=rfl;have n3:(((2+1:Nat):Nat):Rat)=3:=rfl;rw [n1,n2,n3]
 grind
theorem ht_:QP.sepC (4294967296:Rat) 4096≤2 ^ 159:=by
 unfold QP.sepC;decide +kernel
theorem hs_:4*(4294967296:Rat)*4294967296≤2 ^ 159:=by decide +kernel
theorem c8_ {x A B:Rat} (h:1≤A*(x*x)) (hl:A≤B):1≤B*(x*x):=by
 have h0:0≤x*x:=by
  rcases Rat.le_total (a:=0) (b:=x) with k|k
  ·exact Rat.mul_nonneg k k
  have:=Rat.mul_nonneg (show 0 ≤ -x by grind) (show 0 ≤ -x by grind);grind
 have:=Rat.mul_nonneg (show 0≤B - A by grind) h0
 grind
theorem sep {p:List I} {L:List (List I)} (h:St p L) {F:Nat→Int} {m:Nat} (hF:Po (aT p) F) (fs:Fs F m) {u v:Rat} (huv:u<v) (au:Ab u 4096) (av:Ab v 4096) (ht:Two (qp (aT p)) (L.map qp) u v):(1:Rat)≤2 ^ 159*((v - u)*(v - u)):=by
 obtain ⟨f,l,⟨eL,ef⟩,hR,hs,hl⟩:=h.s;subst ef;have hq:qp (aT p)=ZP F hF.ends:=tW hF _;rcases hl with rfl|⟨g,l',κ,rfl,hc,hκ,hD⟩
 ·exfalso
  rw [eL] at ht;unfold Two at ht;simp only [List.map_cons,List.map_nil,QP.V_one] at ht;omega
 rw [eL] at ht hc;simp only [List.map_cons] at ht hc;have n1:=QP.two_nD hc hκ hD huv ht
 have n2:¬ Rb u v (qp (aT p)):=fun hr=>by
  have:=QP.st_rb hc hκ hD huv hr;unfold Two at ht;omega
 have z1:=fun ε (hε:(0:Rat)<ε)=>QP.small_at (Rat.le_of_lt huv) n1 hε;have z2:=fun ε (hε:(0:Rat)<ε)=>QP.small_at (Rat.le_of_lt huv) n2 hε;have hz:=fun x=>eT_ hR x;rw [hq] at z1 z2 hz n1 n2;have m3:=fs.m3;have cu:=d1_ hF.ends fun i hi=>fs.z i oo_
 have bb:∀ k,m≠2→Ab ((F k:Int):Rat) 4294967296:=fun k hm=>by
  rcases fs.b with ⟨h2,_⟩|⟨_,h2⟩
  ·exact absurd h2 hm
  exact QP.Ab.int (B:=4294967296) (h2 k)
 rcases (show m=3∨m=2∨m≤1 by omega) with hm|hm|hm
 ·subst hm
  exact c8_ (QP.far3 cu fs.top hz dd_ dd_ (bb 3 dd_) (bb 2 dd_) (bb 1 dd_) (bb 0 dd_) au av (Rat.le_of_lt huv) z1 z2) ht_
 ·subst hm
  have c0:F 3=0:=fs.z 3 oo_;rw [c0] at cu;exact c8_ (QP.far2 cu fs.top hz dd_ dd_ (QP.Ab.int (B:=4294967296) fs.lead) au av (Rat.le_of_lt huv) z1 z2) hs_
 exfalso
 have d1:∀ x,(QP.D (ZP F hF.ends)).ev x=((F 1:Int):Rat):=fun x=>by
  rw [cu.d,fs.z 3 oo_,fs.z 2 oo_];have:((0:Int):Rat)=0:=rfl;rw [this];grind
 by_cases f1:F 1=0
 ·have m0:m=0:=by
   rcases Nat.lt_or_ge m 1 with k|k
   ·omega
   have:m=1:=by omega
   subst this;exact absurd f1 fs.top
  subst m0;have f0:((F 0:Int):Rat)≠0:=fun e=>fs.top (Rat.intCast_eq_zero_iff.1 e)
  have v0:∀ x,(ZP F hF.ends).ev x=((F 0:Int):Rat):=fun x=>by
   rw [cu.v,fs.z 3 oo_,fs.z 2 oo_,f1];have:((0:Int):Rat)=0:=rfl;rw [this];grind
  refine n2 ?_;rcases Rat.le_total (a:=0) (b:=((F 0:Int):Rat)) with k|k
  ·exact ⟨_,show (0:Rat)<((F 0:Int):Rat) by grind,.inl fun x _ _=>by rw [v0];exact Rat.le_refl⟩
  exact ⟨-((F 0:Int):Rat),by grind,.inr fun x _ _=>by rw [v0];grind⟩
 have f0:((F 1:Int):Rat)≠0:=fun e=>f1 (Rat.intCast_eq_zero_iff.1 e);refine n1 ?_;rcases Rat.le_total (a:=0) (b:=((F 1:Int):Rat)) with k|k
 ·exact ⟨_,show (0:Rat)<((F 1:Int):Rat) by grind,.inl fun x _ _=>by rw [d1];exact Rat.le_refl⟩
 exact ⟨-((F 1:Int):Rat),by grind,.inr fun x _ _=>by rw [d1];grind⟩
theorem g6_ {A B u v:Rat} {k:Nat} {j:Int} (h:It A B (2 ^ k) j u v) (aA:Ab A 4096) (aB:Ab B 4096) (hs:(1:Rat)≤2 ^ 159*((v - u)*(v - u))):k≤92:=by
 have hl:=h.len
 have w:Ab (B - A) 8192:=by unfold Ab at *;grind
 have ww:=w.mul w
 have p2:(((2:Int) ^ k:Int):Rat)*(((2:Int) ^ k:Int):Rat)≤2 ^ 185:=by
  have e:(((2:Int) ^ k:Int):Rat)*(((2:Int) ^ k:Int):Rat)*((v - u)*(v - u))=(B - A)*(B - A):=by rw [← hl];grind
  have p0:(0:Rat)<(((2:Int) ^ k:Int):Rat):=Rat.intCast_pos.2 h.lo.p;generalize (((2:Int) ^ k:Int):Rat)=P at *;have pp:=Rat.mul_pos p0 p0;have h1:=Rat.mul_nonneg (Rat.le_of_lt pp) (show 0≤2 ^ 159*((v - u)*(v - u)) - 1 by grind)
  have h2:P*P≤2 ^ 159*((B - A)*(B - A)):=by rw [← e];grind
  have h3:(2:Rat) ^ 159*(8192*8192)=2 ^ 185:=by decide +kernel
  have h4:=Rat.mul_le_mul_of_nonneg_left ww.2 (show (0:Rat)≤2 ^ 159 by decide +kernel)
  grind
 apply Classical.byContradiction
 intro hn
 have e1:(2:Rat) ^ 185=(((2:Int) ^ 185:Int):Rat):=by decide +kernel
 rw [← Rat.intCast_mul,← Int.pow_add,e1] at p2;have p3:=Rat.intCast_le_intCast.1 p2
 have p4:(2:Int) ^ 186≤2 ^ (k+k):=by exact_mod_cast (Nat.pow_le_pow_right (n:=2) dd_ (show 186≤k+k by omega))
 have p5:(2:Int) ^ 185<2 ^ 186:=by decide
 omega
theorem cU_ {a:Rt} {q:Rat} (h:a.At q):a.n.1.bad=false:=by
 rw [(At.is h).en];exact LN (At.is h).hn
theorem da_ {l:List I}:((l.length:Int)==0)=decide (l=[]):=by cases l<;>rfl
open QP (V Rb Two)
theorem bN_:Sz (1 / 2) 2:=⟨by decide +kernel,by decide +kernel⟩
theorem eu_ {a b:Rt} {u v:Rat} (ha:a.At u) (hb:b.At v) (su:Sz u 200) (sv:Sz v 200):(aH a b).At ((u+v)*(1 / 2)):=by
 unfold aH;simp only;rw [EZ,QO,SG];exact E3 (JZ ha hb su sv dd_) TG (su.add sv) bN_ dd_
structure Sp (p:List I) (A B:Rat):Prop where
 rgt:Rgt p
 ne:p≠[]
 gd:p.all gdI=true
 ok:(aV p).2=true
 st:St p (aV p).1
 free:∃ F m,Po (aT p) F∧Fs F m
 tame:∀ x∈(aV p).1,AU 119 x
 tp:AU 119 p
 sA:Sz A 12
 sB:Sz B 12
theorem Sp.of {p:List I} {A B:Rat} (hf:dS p 3 32=true) (hg:p.all gdI=true) (h0:p≠[]) (sA:Sz A 12) (sB:Sz B 12):Sp p A B:=by
 obtain ⟨c,hc,bd⟩:=N7 hf hg;have bd:Bd c 4 32:=bd;obtain ⟨s1,s2,s3⟩:=PU hc bd h0;exact ⟨hc.rgt,h0,hg,s1,(PT hc.rgt s1).resolve_left h0,s2,s3,⟨c,4,32,hc,bd,by decide,by decide⟩,sA,sB⟩
theorem Sp.two {p:List I} {A B:Rat} (h:Sp p A B) {k:Nat} {j:Int} {u v:Rat} (hi:It A B (2 ^ k) j u v) (huv:u<v) (ht:Two (qp (aT p)) ((aV p).1.map qp) u v):k≤92:=by
 have aA:Ab A 4096:=(dx_ h.sA).le (by decide +kernel);have aB:Ab B 4096:=(dx_ h.sB).le (by decide +kernel)
 have hAB:A≤B:=by
  have a:=hi.len;have p0:(0:Rat)<(((2:Int) ^ k:Int):Rat):=Rat.intCast_pos.2 hi.lo.p;have:=Rat.mul_pos p0 (show 0<v - u by grind)
  grind
 have gu:=hi.lo.ge hAB;have gv:=hi.hi.ge hAB;obtain ⟨F,m,hF,fs⟩:=h.free;exact g6_ hi aA aB (sep h.st hF fs huv (by unfold Ab at *;grind) (by unfold Ab at *;grind) ht)
theorem Sp.count {p:List I} {A B:Rat} (h:Sp p A B) {k:Nat} (hk:k≤95) {i j:Int} {a b:Rt} {u v:Rat} (ha:a.At u) (hb:b.At v) (pu:Pt A B (2 ^ k) i u) (pv:Pt A B (2 ^ k) j v):(aU (aV p).1 a b).2=true :=
 X1 h.tame ha hb ((pu.sz h.sA h.sB).mono oo_) ((pv.sz h.sA h.sB).mono oo_)
theorem Sp.mid {p:List I} {A B:Rat} (h:Sp p A B) {k:Nat} (hk:k≤95) {i j:Int} {a b:Rt} {u v:Rat} (ha:a.At u) (hb:b.At v) (pu:Pt A B (2 ^ k) i u) (pv:Pt A B (2 ^ k) j v):(aH a b).At ((u+v)*(1 / 2)) :=
 eu_ ha hb ((pu.sz h.sA h.sB).mono oo_) ((pv.sz h.sA h.sB).mono oo_)
theorem Sp.many {p:List I} {A B:Rat} (h:Sp p A B) (hAB:A≤B) {k:Nat} (hk:k≤93) {j:Int} {a b:Rt} {u v:Rat} (ha:a.At u) (hb:b.At v) (hi:It A B (2 ^ k) j u v) (h0:((aU (aV p).1 a b).1.1==0)=false) (h1:((aU (aV p).1 a b).1.1==1)=false):k≤92:=by
 have hc:=h.count oo_ ha hb hi.lo hi.hi;obtain ⟨u',v',cx⟩:=SV h.st (JM p) hc;obtain rfl:=xY ha cx.a;obtain rfl:=xY hb cx.b;have n:=cx.n;have le:=hi.le hAB;have an:=h.st.anti le
 have h0':¬ (aU (aV p).1 a b).1.1=0:=by simpa using h0
 have h1':¬ (aU (aV p).1 a b).1.1=1:=by simpa using h1
 have huv:u<v:=by
  apply Rat.not_le.1
  intro hn
  have:u=v:=by grind
  subst this;omega
 exact h.two hi huv (.inl oo_)
end Go.Num
