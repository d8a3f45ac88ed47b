/- Lemmas: what they ask stands in their statements. -/
import Derived.Test.YtkjjponijamaoaaGreatDoorYH1xGC
import Derived.Test.YtkjjponijamaoaaGreatDoorYYb
set_option linter.unusedSimpArgs false
set_option linter.unusedVariables false
set_option maxHeartbeats 8000000
set_option maxRecDepth 20000
namespace Go.Proofs.YtkjjponijamaoaaGreatDoor
open Go.Kn Go.Num
theorem dO (a:Rt) :
    Ret Tryz.prog 74 [AV [pI a.n,pI a.d]] (.bool (aH a)):=by
 refine cM (N:=26) Tryz.func74 rfl rfl (by simp) (fun w0=>?_);simp only [cS,Nat.reduceAdd];refine Rs fun K J=>bA rfl (cH rfl rfl (fun b1 hb1=>sE rfl (nl J (Sq fun K1 J1=>?_))));refine dH [3,4,5,6,7,8,9,10,11,12] (fun g M=>(g 12 = .bool (!a.n.1.good||(!a.d.1.good)))∧M=[⟨b1,33,aW [pI a.n,pI a.d]⟩]) (fun K2 J2=>?_) ?_
 ·refine Rk fun K J=>sQ (qF jZ rfl rfl) rfl (sQ (qL aD rfl m0 rfl) rfl (sC (.bool a.n.1.good) vE (d9 a.n.1 a.n.2) rfl rfl rfl (sE rfl ?_)));rcases bt a.n.1.good with h3 | h3
  ·refine sB (iS h3) rfl (sQ (qF fV rfl rfl) rfl (sQ (qL aD rfl m0 rfl) rfl (sC (.bool a.d.1.good) vE (d9 a.d.1 a.d.2) rfl rfl rfl (sE rfl (sE rfl (nl J ?_))))));refine J2 _ _ pp_ ⟨_,s0,?s12,rfl⟩
   case s12=>exact congrArg Value.bool (j3 h3 rfl)
  refine sB (iT h3) rfl (aI rfl (aI rfl (aI rfl (aI rfl (sE rfl (nl J ?_))))));refine J2 _ _ pp_ ⟨_,s0,?s12,rfl⟩
  case s12=>exact congrArg Value.bool (oJ h3)
 rintro g4 M ⟨hg12,rfl⟩;simp only [dQ,hg12];clear hg12;rcases bt (!a.n.1.good||(!a.d.1.good)) with h5 | h5
 ·refine W_t h5 rfl (Rs fun K J=>sE rfl (nl J (aL (aB (cC rfl (.inr rfl) rfl ?_)))));exact (by exact congrArg vS2 (show _=(aH a) from bI h5 rfl))
 refine W_f h5 rfl (aG (J1 _ _ ?_));refine dH [2,13,14,15,16,17,18,19,20,21,22,23,24,25] (fun g M=>(g 2 = .bool (decide (0<(Z.signW a.d.dec).1)&&decide ((E (Z.gcd a.n.dec a.d.dec))=F_skewbackref04_one)))∧M=[⟨b1,33,aW [pI a.n,pI a.d]⟩]) (fun K3 J3=>?_) ?_
 ·refine Rk fun K J=>sQ (qF fV rfl rfl) rfl (sQ (qL aD rfl m0 rfl) rfl (sC (.int .i64 ((Z.signW a.d.dec).1)) D7 (j0 a.d.1 a.d.2) rfl rfl rfl (sE rfl ?_)));rcases bt (decide (0<(Z.signW a.d.dec).1)) with h7 | h7
  ·refine sB h7 rfl (sQ (qF jZ rfl rfl) rfl (sQ (qL aD rfl m0 rfl) rfl (sQ (qF fV rfl rfl) rfl (sQ (qL aD rfl m0 rfl) rfl (sC (AV [pI (E (Z.gcd a.n.dec a.d.dec))]) M9 (pK a.n.1 a.d.1 a.n.2 a.d.2) rfl rfl rfl (sQ (bZ aq_ xH  rfl) rfl ?_))))));refine sQ (rG (r:=decide ((E (Z.gcd a.n.dec a.d.dec))=F_skewbackref04_one)) rfl rfl (kR 8 dd_ IL IS (iN cX) (iN cX) (mU fU))) rfl (sE rfl (sE rfl (nl J ?_)));refine J3 _ _ pp_ ⟨_,s0,?s2,rfl⟩
   case s2=>exact congrArg Value.bool (eB h7 rfl)
  refine sB h7 rfl (aI rfl (aI rfl (aI rfl (aI rfl (aI rfl (aI rfl (aI rfl (sE rfl (sE rfl (nl J ?_))))))))));refine J3 _ _ pp_ ⟨_,s0,?s2,rfl⟩
  case s2=>exact congrArg Value.bool (kU h7)
 rintro g8 M ⟨hg2,rfl⟩;simp only [dQ,hg2];clear hg2;refine aL (cC rfl (.inr rfl) rfl ?_);exact (by exact congrArg vS2 (show _=(aH a) from aM h5 rfl))

theorem rC (a:Rt) (b:Rt) :
    Ret Tryz.prog 162 [AV [pI a.n,pI a.d],AV [pI b.n,pI b.d]] (AV [pI ((cT a b).n),pI ((cT a b).d)]):=by
 refine cM (N:=44) Tryz.func162 rfl rfl (by simp) (fun w0=>?_);simp only [cS,Nat.reduceAdd];refine Rs fun K J=>bA rfl (cH rfl rfl (fun b1 hb1=>bA rfl (cH rfl rfl (fun b2 hb2=>sN oR rfl fun b3 hb3=>nl J (Sq fun K1 J1=>?_)))));refine dH [8,9,10,11,12,13,14,15] (fun g M=>(g 15 = .bool (!(aH a)||(!(aH b))))∧M=[⟨b3,33,aW [pI I0,pI I0]⟩,⟨b2,33,aW [pI b.n,pI b.d]⟩,⟨b1,33,aW [pI a.n,pI a.d]⟩]) (fun K2 J2=>?_) ?_
 ·refine Rk fun K J=>sQ (qL bD rfl m2 rfl) rfl (sQ (bZ wB (dO a) rfl) rfl (sE rfl ?_));rcases bt (aH a) with h5 | h5
  ·refine sB (iS h5) rfl (sQ (qL bD rfl m1 rfl) rfl (sQ (bZ wB (dO b) rfl) rfl (sE rfl (sE rfl (nl J ?_)))));refine J2 _ _ pp_ ⟨_,s0,?s15,rfl⟩
   case s15=>exact congrArg Value.bool (j3 h5 rfl)
  refine sB (iT h5) rfl (aI rfl (aI rfl (aI rfl (sE rfl (nl J ?_)))));refine J2 _ _ pp_ ⟨_,s0,?s15,rfl⟩
  case s15=>exact congrArg Value.bool (oJ h5)
 rintro g6 M ⟨hg15,rfl⟩;simp only [dQ,hg15];clear hg15;rcases bt (!(aH a)||(!(aH b))) with h7 | h7
 ·refine W_t h7 rfl (Rs fun K J=>sQ (bZ VH u9  rfl) rfl (sS [pI pR.n,pI pR.d] bD rfl rfl rfl rfl rfl uH rfl hb3 (nl J (aL (aB (cC rfl (.inr rfl) (eP rfl m0 bD rfl) ?_))))));exact (by exact congrArg vS7 (show _=(cT a b) from bI h7 rfl))
 refine W_f h7 rfl (aG (J1 _ _ (Rs fun K J=>sQ (qF fV rfl rfl) rfl (sQ (qL aD rfl m2 rfl) rfl (sQ (qF fV rfl rfl) rfl (sQ (qL aD rfl m1 rfl) rfl (sC (AV [pI (E (Z.gcd a.d.dec b.d.dec))]) M9 (pK a.d.1 b.d.1 a.d.2 b.d.2) rfl rfl rfl (sN gT rfl fun b8 hb8=>sS [pI (E (Z.gcd a.d.dec b.d.dec))] aD rfl rfl rfl rfl rfl uH rfl hb8 (nl J (Rs fun K J=>sQ (qF fV rfl rfl) rfl (sQ (qL aD rfl m3 rfl) rfl (sQ (qL aD rfl m0 rfl) rfl (sC (AV [pI (E (Z.quo a.d.dec (Z.gcd a.d.dec b.d.dec)))]) AN (iL a.d.1 (E (Z.gcd a.d.dec b.d.dec)).1 a.d.2 (E (Z.gcd a.d.dec b.d.dec)).2) rfl rfl (cg2 (fun p q=>AV [pI (E (Z.quo p q))]) rfl (eD _)) (sN gT rfl fun b9 hb9=>sS [pI (E (Z.quo a.d.dec (Z.gcd a.d.dec b.d.dec)))] aD rfl rfl rfl rfl rfl uH rfl hb9 (nl J ?_)))))))))))))));refine Rs fun K J=>sQ (qF fV rfl rfl) rfl (sQ (qL aD rfl m3 rfl) rfl (sQ (qL aD rfl m1 rfl) rfl (sC (AV [pI (E (Z.quo b.d.dec (Z.gcd a.d.dec b.d.dec)))]) AN (iL b.d.1 (E (Z.gcd a.d.dec b.d.dec)).1 b.d.2 (E (Z.gcd a.d.dec b.d.dec)).2) rfl rfl (cg2 (fun p q=>AV [pI (E (Z.quo p q))]) rfl (eD _)) (sN gT rfl fun b10 hb10=>sS [pI (E (Z.quo b.d.dec (Z.gcd a.d.dec b.d.dec)))] aD rfl rfl rfl rfl rfl uH rfl hb10 (nl J (ds (sk (sk (sk (sd (sk (sk (s0))))))) [0,4,8,12,16,20,24,28,32,36,40,44,48,52,57] [14] mix (by kernel_rfl) (fun K J=>pQ rfl (qF jZ rfl rfl) (pQ rfl (qL aD rfl m5 rfl) (pQ rfl (qL aD rfl m0 rfl) (pC (AV [pI (E (Z.mul a.n.dec (Z.quo b.d.dec (Z.gcd a.d.dec b.d.dec))))]) z7 (fB a.n.1 (E (Z.quo b.d.dec (Z.gcd a.d.dec b.d.dec))).1 a.n.2 (E (Z.quo b.d.dec (Z.gcd a.d.dec b.d.dec))).2) rfl rfl (cg2 (fun p q=>AV [pI (E (Z.mul p q))]) rfl (eD _)) (pQ rfl (qF jZ rfl rfl) (pQ rfl (qL aD rfl m4 rfl) (pQ rfl (qL aD rfl m1 rfl) (pC (AV [pI (E (Z.mul b.n.dec (Z.quo a.d.dec (Z.gcd a.d.dec b.d.dec))))]) z7 (fB b.n.1 (E (Z.quo a.d.dec (Z.gcd a.d.dec b.d.dec))).1 b.n.2 (E (Z.quo a.d.dec (Z.gcd a.d.dec b.d.dec))).2) rfl rfl (cg2 (fun p q=>AV [pI (E (Z.mul p q))]) rfl (eD _)) ?_))))))))))))));obtain ⟨r11,hr11⟩:=nm ((E (Z.add (Z.mul a.n.dec (Z.quo b.d.dec (Z.gcd a.d.dec b.d.dec))) (Z.mul b.n.dec (Z.quo a.d.dec (Z.gcd a.d.dec b.d.dec))))):I);refine pC (AV [pI r11]) SU (pJ (E (Z.mul a.n.dec (Z.quo b.d.dec (Z.gcd a.d.dec b.d.dec)))).1 (E (Z.mul b.n.dec (Z.quo a.d.dec (Z.gcd a.d.dec b.d.dec)))).1 (E (Z.mul a.n.dec (Z.quo b.d.dec (Z.gcd a.d.dec b.d.dec)))).2 (E (Z.mul b.n.dec (Z.quo a.d.dec (Z.gcd a.d.dec b.d.dec)))).2) rfl rfl ((cg2 (fun p q=>AV [pI (E (Z.add p q))]) (eD _) (eD _)).trans (by rw [hr11])) (pQ rfl (qL aD rfl m1 rfl) (pQ rfl (qF fV rfl rfl) (pQ rfl (qL aD rfl m4 rfl) (pC (AV [pI (E (Z.mul (Z.quo a.d.dec (Z.gcd a.d.dec b.d.dec)) b.d.dec))]) z7 (fB (E (Z.quo a.d.dec (Z.gcd a.d.dec b.d.dec))).1 b.d.1 (E (Z.quo a.d.dec (Z.gcd a.d.dec b.d.dec))).2 b.d.2) rfl rfl (cg2 (fun p q=>AV [pI (E (Z.mul p q))]) (eD _) rfl) ?_))));obtain ⟨r12,hr12⟩:=nm ((cJ r11 (E (Z.mul (Z.quo a.d.dec (Z.gcd a.d.dec b.d.dec)) b.d.dec))):Rt);refine pC (AV [pI r12.n,pI r12.d]) PS (qP r11 (E (Z.mul (Z.quo a.d.dec (Z.gcd a.d.dec b.d.dec)) b.d.dec))) rfl rfl (by rw [hr12];first | done | rfl) (oS [pI r12.n,pI r12.d] bD rfl rfl rfl rfl rfl rfl (uT (uT (uT uH))) rfl hb3 rfl (sk (sk (sk (sd s0)))) (fl J (aL (cC rfl (.inr rfl) (eP rfl m3 bD rfl) ?_))));exact (by subst hr12;subst hr11;exact congrArg vS7 (show _=(cT a b) from aM h7 rfl))

end Go.Proofs.YtkjjponijamaoaaGreatDoor


namespace Go.Num
open Go Go.Kn
theorem j3_:F_skewbackref04_one=E (Z.of 1):=rfl
theorem rH_:F_ratio_one=E (Z.of 1):=rfl
theorem dr_:AI=pR:=rfl
theorem jq_ (a:I):pP a=a.1.good:=rfl
theorem pA (a:Rt):cE a=aH a:=by
  unfold cE aH;rw [jq_,jq_,j3_,rH_]
  cases a.n.1.good <;> cases a.d.1.good <;> rfl
theorem PG (a b:Rt):eZ a b=cT a b:=by unfold eZ cT;rw [pA,pA,dr_];rfl
end Go.Num

