/- Lemmas: what they ask stands in their statements. -/
import Derived.Test.YtkjjponijamaoaaGreatDoorYH1xGd
import Derived.Test.YtkjjponijamaoaaGreatDoorYH1xQr
import Derived.Test.YtkjjponijamaoaaGreatDoorYLa
set_option linter.unusedSimpArgs false
set_option linter.unusedVariables false
set_option maxHeartbeats 8000000
set_option maxRecDepth 20000
namespace Go.Proofs.YtkjjponijamaoaaGreatDoor
open Go.Kn Go.Num
theorem KY (a:(A3 Rt)) (b:(A3 Rt)) :
    Ret Tryz.prog 225 [AV [pI a.x.n,pI a.x.d,pI a.y.n,pI a.y.d,pI a.z.n,pI a.z.d],AV [pI b.x.n,pI b.x.d,pI b.y.n,pI b.y.d,pI b.z.n,pI b.z.d]] (AV [pI (((lG a b).x).n),pI (((lG a b).x).d),pI (((lG a b).y).n),pI (((lG a b).y).d),pI (((lG a b).z).n),pI (((lG a b).z).d)]):=by
 refine cM (N:=21) Tryz.func225 rfl rfl (by simp) (fun w0=>?_);simp only [cS,Nat.reduceAdd];refine Rs fun K J=>bA rfl (cH rfl rfl (fun b1 hb1=>bA rfl (cH rfl rfl (fun b2 hb2=>sN uW rfl fun b3 hb3=>nl J (ds (sd (sk (sk (s0)))) [0,4,8,12,16,20,24,28,32,36,40,44,48,52,56,60,65] [16] mix (by kernel_rfl) (fun K J=>pQ rfl (qA fC rfl rfl rfl) (pQ rfl (qL bD rfl m2 rfl) (pQ rfl (qA fC rfl rfl rfl) (pQ rfl (qL bD rfl m1 rfl) (pQ rfl (bZ PT (rC a.x b.x) rfl) (pQ rfl (qA fC rfl rfl rfl) (pQ rfl (qL bD rfl m2 rfl) (pQ rfl (qA fC rfl rfl rfl) (pQ rfl (qL bD rfl m1 rfl) (pQ rfl (bZ PT (rC a.y b.y) rfl) (pQ rfl (qA fC rfl rfl rfl) (pQ rfl (qL bD rfl m2 rfl) (pQ rfl (qA fC rfl rfl rfl) (pQ rfl (qL bD rfl m1 rfl) ?_)))))))))))))))))));refine pQ rfl (bZ PT (rC a.z b.z) rfl) (pQ rfl (iG uW fC rfl (.cons [pI ((cT a.x b.x).n),pI ((cT a.x b.x).d)] [pI ((cT a.x b.x).n),pI ((cT a.x b.x).d),pI I0,pI I0,pI I0,pI I0] rfl rfl rfl rfl (.cons [pI ((cT a.y b.y).n),pI ((cT a.y b.y).d)] [pI ((cT a.x b.x).n),pI ((cT a.x b.x).d),pI ((cT a.y b.y).n),pI ((cT a.y b.y).d),pI I0,pI I0] rfl rfl rfl rfl (.cons [pI ((cT a.z b.z).n),pI ((cT a.z b.z).d)] [pI ((cT a.x b.x).n),pI ((cT a.x b.x).d),pI ((cT a.y b.y).n),pI ((cT a.y b.y).d),pI ((cT a.z b.z).n),pI ((cT a.z b.z).d)] rfl rfl rfl rfl (.nil _))))) (oS [pI ((cT a.x b.x).n),pI ((cT a.x b.x).d),pI ((cT a.y b.y).n),pI ((cT a.y b.y).d),pI ((cT a.z b.z).n),pI ((cT a.z b.z).d)] gG rfl rfl rfl rfl rfl rfl uH rfl hb3 rfl (sd s0) (fl J (aL (cC rfl (.inr rfl) (eP rfl m0 gG rfl) ?_)))));exact (by rfl)

theorem wC (a:Pose) :
    Ret Tryz.prog 118 [AV [ci .i64 a.x.x.1,ci .i64 a.x.y.1,ci .i64 a.x.z.1,ci .i64 a.q.x.1,ci .i64 a.q.y.1,ci .i64 a.q.z.1,ci .i64 a.q.t.1]] (.int .i64 ((eK a).1)):=by
 refine cM (N:=26) Tryz.func118 rfl rfl (by simp) (fun w0=>?_);simp only [cS,Nat.reduceAdd];refine Rs fun K J=>bA rfl (cH rfl rfl (fun b1 hb1=>sE rfl (nl J (Sq fun K1 J1=>Rs fun K J=>sE rfl (nl J (aJ (v7 5 (fE (fun K2 J2=>Sq fun K3 J3=>Rs fun K J=>sE rfl (sV (.bool true) rfl rfl (nl J (dE rfl (aG (J3 _ _ (Sq fun K4 J4=>?_)))))))))))))));refine aJ ?_;refine dH [9,10,11,12,13,14,15,16,17,18,19,20] (fun g M=>(g 20 = .bool (decide (140737488355328≤a.x.x.1)||decide (a.x.x.1≤(-140737488355328))))∧M=[⟨b1,69,aW [ci .i64 a.x.x.1,ci .i64 a.x.y.1,ci .i64 a.x.z.1,ci .i64 a.q.x.1,ci .i64 a.q.y.1,ci .i64 a.q.z.1,ci .i64 a.q.t.1]⟩]) (fun K5 J5=>?_) ?_
 ·refine Rk fun K J=>sE rfl (sQ (qF kB rfl rfl) rfl (sQ (qA fX rfl rfl rfl) rfl (sQ (qC dP rfl m0 rfl) rfl (sE rfl ?_))));rcases bt (decide (140737488355328≤a.x.x.1)) with h3 | h3
  ·have ph3:=of_decide_eq_true h3;refine sB h3 rfl (aI rfl (aI rfl (aI rfl (aI rfl (aI rfl (sE rfl (nl J ?_)))))));refine J5 _ _ pp_ ⟨_,s0,?s20,rfl⟩
   case s20=>exact congrArg Value.bool (lT h3)
  have ph3:=of_decide_eq_false h3;refine sB h3 rfl (sE rfl (sQ (qF kB rfl rfl) rfl (sQ (qA fX rfl rfl rfl) rfl (sQ (qC dP rfl m0 rfl) rfl (sE rfl (sE rfl (nl J ?_)))))));refine J5 _ _ pp_ ⟨_,s0,?s20,rfl⟩
  case s20=>exact congrArg Value.bool (iK h3 rfl)
 rintro g4 M ⟨hg20,rfl⟩;simp only [dQ,hg20];clear hg20;rcases bt (decide (140737488355328≤a.x.x.1)||decide (a.x.x.1≤(-140737488355328))) with h5 | h5
 ·refine W_t h5 rfl (Rs fun K J=>sE rfl (nl J (aL (aT (aB (aB (aT (aB (cC rfl (.inr rfl) rfl ?_)))))))));exact (by exact congrArg vS8 (show _=(eK a) from bI h5 rfl))
 refine W_f h5 rfl (aG (J4 _ _ (Rk fun K J=>sE rfl (sV (.int .i64 1) rfl rfl (sE rfl (nl J (J2 _ _ (fE (fun K6 J6=>Sq fun K7 J7=>Rs fun K J=>sE rfl (sV (.bool true) rfl rfl (nl J (dE rfl (aG (J7 _ _ (Sq fun K8 J8=>aJ ?_)))))))))))))));refine dH [9,10,11,12,13,14,15,16,17,18,19,20] (fun g M=>(g 20 = .bool (decide (140737488355328≤a.x.y.1)||decide (a.x.y.1≤(-140737488355328))))∧M=[⟨b1,69,aW [ci .i64 a.x.x.1,ci .i64 a.x.y.1,ci .i64 a.x.z.1,ci .i64 a.q.x.1,ci .i64 a.q.y.1,ci .i64 a.q.z.1,ci .i64 a.q.t.1]⟩]) (fun K9 J9=>?_) ?_
 ·refine Rk fun K J=>sE rfl (sQ (qF kB rfl rfl) rfl (sQ (qA fX rfl rfl rfl) rfl (sQ (qC dP rfl m0 rfl) rfl (sE rfl ?_))));rcases bt (decide (140737488355328≤a.x.y.1)) with h7 | h7
  ·have ph7:=of_decide_eq_true h7;refine sB h7 rfl (aI rfl (aI rfl (aI rfl (aI rfl (aI rfl (sE rfl (nl J ?_)))))));refine J9 _ _ pp_ ⟨_,s0,?s20,rfl⟩
   case s20=>exact congrArg Value.bool (lT h7)
  have ph7:=of_decide_eq_false h7;refine sB h7 rfl (sE rfl (sQ (qF kB rfl rfl) rfl (sQ (qA fX rfl rfl rfl) rfl (sQ (qC dP rfl m0 rfl) rfl (sE rfl (sE rfl (nl J ?_)))))));refine J9 _ _ pp_ ⟨_,s0,?s20,rfl⟩
  case s20=>exact congrArg Value.bool (iK h7 rfl)
 rintro g8 M ⟨hg20,rfl⟩;simp only [dQ,hg20];clear hg20;rcases bt (decide (140737488355328≤a.x.y.1)||decide (a.x.y.1≤(-140737488355328))) with h9 | h9
 ·refine W_t h9 rfl (Rs fun K J=>sE rfl (nl J (aL (aT (aB (aB (aT (aB (cC rfl (.inr rfl) rfl ?_)))))))));exact (by exact congrArg vS8 (show _=(eK a) from aM h5 (bI h9 rfl)))
 refine W_f h9 rfl (aG (J8 _ _ (Rk fun K J=>sE rfl (sV (.int .i64 2) rfl rfl (sE rfl (nl J (J6 _ _ (fE (fun K10 J10=>Sq fun K11 J11=>Rs fun K J=>sE rfl (sV (.bool true) rfl rfl (nl J (dE rfl (aG (J11 _ _ (Sq fun K12 J12=>aJ ?_)))))))))))))));refine dH [9,10,11,12,13,14,15,16,17,18,19,20] (fun g M=>(g 20 = .bool (decide (140737488355328≤a.x.z.1)||decide (a.x.z.1≤(-140737488355328))))∧M=[⟨b1,69,aW [ci .i64 a.x.x.1,ci .i64 a.x.y.1,ci .i64 a.x.z.1,ci .i64 a.q.x.1,ci .i64 a.q.y.1,ci .i64 a.q.z.1,ci .i64 a.q.t.1]⟩]) (fun K13 J13=>?_) ?_
 ·refine Rk fun K J=>sE rfl (sQ (qF kB rfl rfl) rfl (sQ (qA fX rfl rfl rfl) rfl (sQ (qC dP rfl m0 rfl) rfl (sE rfl ?_))));rcases bt (decide (140737488355328≤a.x.z.1)) with h11 | h11
  ·have ph11:=of_decide_eq_true h11;refine sB h11 rfl (aI rfl (aI rfl (aI rfl (aI rfl (aI rfl (sE rfl (nl J ?_)))))));refine J13 _ _ pp_ ⟨_,s0,?s20,rfl⟩
   case s20=>exact congrArg Value.bool (lT h11)
  have ph11:=of_decide_eq_false h11;refine sB h11 rfl (sE rfl (sQ (qF kB rfl rfl) rfl (sQ (qA fX rfl rfl rfl) rfl (sQ (qC dP rfl m0 rfl) rfl (sE rfl (sE rfl (nl J ?_)))))));refine J13 _ _ pp_ ⟨_,s0,?s20,rfl⟩
  case s20=>exact congrArg Value.bool (iK h11 rfl)
 rintro g12 M ⟨hg20,rfl⟩;simp only [dQ,hg20];clear hg20;rcases bt (decide (140737488355328≤a.x.z.1)||decide (a.x.z.1≤(-140737488355328))) with h13 | h13
 ·refine W_t h13 rfl (Rs fun K J=>sE rfl (nl J (aL (aT (aB (aB (aT (aB (cC rfl (.inr rfl) rfl ?_)))))))));exact (by exact congrArg vS8 (show _=(eK a) from aM h5 (aM h9 (bI h13 rfl))))
 refine W_f h13 rfl (aG (J12 _ _ (Rk fun K J=>sE rfl (sV (.int .i64 3) rfl rfl (sE rfl (nl J (J10 _ _ (fE (fun K14 J14=>Sq fun K15 J15=>Rs fun K J=>sE rfl (sV (.bool false) rfl rfl (nl J (gJ rfl (dW (aU (aU (bJ (J1 _ _ (Rs fun K J=>sQ (qF mV rfl rfl) rfl ?_))))))))))))))))));refine sQ (qL rT rfl m0 rfl) rfl (sQ (bZ oV_ (JG a.q) rfl) rfl (sE rfl (nl J (Sq fun K16 J16=>Rs fun K J=>sE rfl (sE rfl (nl J ?_))))));rcases bt (jT a.q) with h14 | h14
 ·refine W_f (iS h14) rfl (aG (J16 _ _ (Rs fun K J=>sE rfl (nl J (aL (cC rfl (.inr rfl) rfl ?_))))));exact (by exact congrArg vS8 (show _=(eK a) from aM h5 (aM h9 (aM h13 (bI h14 rfl)))))
 refine W_t (iT h14) rfl (Rs fun K J=>sE rfl (nl J (aL (aB (cC rfl (.inr rfl) rfl ?_)))));exact (by exact congrArg vS8 (show _=(eK a) from aM h5 (aM h9 (aM h13 (aM h14 rfl)))))

theorem JH (a:Pose) (b:(A3 W)) :
    Ret Tryz.prog 147 [AV [ci .i64 a.x.x.1,ci .i64 a.x.y.1,ci .i64 a.x.z.1,ci .i64 a.q.x.1,ci .i64 a.q.y.1,ci .i64 a.q.z.1,ci .i64 a.q.t.1],AV [ci .i64 b.x.1,ci .i64 b.y.1,ci .i64 b.z.1]] (AV [pI (((nF a b).x).n),pI (((nF a b).x).d),pI (((nF a b).y).n),pI (((nF a b).y).d),pI (((nF a b).z).n),pI (((nF a b).z).d)]):=by
 refine cM (N:=13) Tryz.func147 rfl rfl (by simp) (fun w0=>?_);simp only [cS,Nat.reduceAdd];refine Rs fun K J=>bA rfl (cH rfl rfl (fun b1 hb1=>bA rfl (cH rfl rfl (fun b2 hb2=>sN uW rfl fun b3 hb3=>nl J (ds (sd s0) [0,4,8,12,16,20,24,28,33] [8] mix (by kernel_rfl) (fun K J=>pQ rfl (qF kB rfl rfl) (pQ rfl (qL iO rfl m2 rfl) ?_)))))));obtain ⟨r4,hr4⟩:=nm ((fM a.x):(A3 Rt));refine pC (AV [pI r4.x.n,pI r4.x.d,pI r4.y.n,pI r4.y.d,pI r4.z.n,pI r4.z.d]) fn_ (yB a.x) rfl rfl (by rw [hr4];first | done | rfl) (pQ rfl (qF mV rfl rfl) (pQ rfl (qL rT rfl m2 rfl) (pQ rfl (qL iO rfl m1 rfl) ?_)));obtain ⟨r5,hr5⟩:=nm ((mB a.q b):(A3 Rt));refine pC (AV [pI r5.x.n,pI r5.x.d,pI r5.y.n,pI r5.y.d,pI r5.z.n,pI r5.z.d]) pd_ (H2 a.q b) rfl rfl (by rw [hr5];first | done | rfl) ?_;obtain ⟨r6,hr6⟩:=nm ((lG r4 r5):(A3 Rt));refine pC (AV [pI r6.x.n,pI r6.x.d,pI r6.y.n,pI r6.y.d,pI r6.z.n,pI r6.z.d]) pc_ (KY r4 r5) rfl rfl (by rw [hr6];first | done | rfl) (oS [pI r6.x.n,pI r6.x.d,pI r6.y.n,pI r6.y.d,pI r6.z.n,pI r6.z.d] gG rfl rfl rfl rfl rfl rfl uH rfl hb3 rfl (sd s0) (fl J (aL (cC rfl (.inr rfl) (eP rfl m0 gG rfl) ?_))));exact (by obtain rfl:=hr6.symm;obtain rfl:=hr5.symm;obtain rfl:=hr4.symm;rfl)

theorem yH (a:(A3 W)) (b:W) :
    Ret Tryz.prog 109 [AV [ci .i64 a.x.1,ci .i64 a.y.1,ci .i64 a.z.1],.int .i64 b.1] (.bool (fW a b)):=by
 refine cM (N:=23) Tryz.func109 rfl rfl (by simp) (fun w0=>?_);simp only [cS,Nat.reduceAdd];refine Rs fun K J=>bA rfl (cH rfl rfl (fun b1 hb1=>sE rfl (nl J (Sq fun K1 J1=>Rs fun K J=>sE rfl (nl J (aJ (v7 5 (fE (fun K2 J2=>Sq fun K3 J3=>Rs fun K J=>sE rfl (sV (.bool true) rfl rfl (nl J (dE rfl (aG (J3 _ _ (Sq fun K4 J4=>?_)))))))))))))));refine aJ ?_;refine dH [10,11,12,13,14,15,16,17,18,19,20,21,22] (fun g M=>(g 22 = .bool (decide (b.1<a.x.1)||decide (a.x.1<(W.neg b).1)))∧M=[⟨b1,23,aW [ci .i64 a.x.1,ci .i64 a.y.1,ci .i64 a.z.1]⟩]) (fun K5 J5=>?_) ?_
 ·refine Rk fun K J=>sE rfl (sQ (qA fX rfl rfl rfl) rfl (sQ (qC dP rfl m0 rfl) rfl (sE rfl (sE rfl ?_))));rcases bt (decide (b.1<a.x.1)) with h3 | h3
  ·have ph3:=of_decide_eq_true h3;refine sB h3 rfl (aI rfl (aI rfl (aI rfl (aI rfl (aI rfl (aI rfl (sE rfl (nl J ?_))))))));refine J5 _ _ pp_ ⟨_,s0,?s22,rfl⟩
   case s22=>exact congrArg Value.bool (lT h3)
  have ph3:=of_decide_eq_false h3;refine sB h3 rfl (sE rfl (sQ (qA fX rfl rfl rfl) rfl (sQ (qC dP rfl m0 rfl) rfl (sE rfl (sV (.int .i64 ((W.neg b).1)) rfl rfl (sE rfl (sE rfl (nl J ?_))))))));refine J5 _ _ pp_ ⟨_,s0,?s22,rfl⟩
  case s22=>exact congrArg Value.bool (iK h3 rfl)
 rintro g4 M ⟨hg22,rfl⟩;simp only [dQ,hg22];clear hg22;rcases bt (decide (b.1<a.x.1)||decide (a.x.1<(W.neg b).1)) with h5 | h5
 ·refine W_t h5 rfl (Rs fun K J=>sE rfl (nl J (aL (aT (aB (aB (aT (aB (cC rfl (.inr rfl) rfl ?_)))))))));exact (by exact congrArg vS2 (show _=(fW a b) from bI h5 rfl))
 refine W_f h5 rfl (aG (J4 _ _ (Rk fun K J=>sE rfl (sV (.int .i64 1) rfl rfl (sE rfl (nl J (J2 _ _ (fE (fun K6 J6=>Sq fun K7 J7=>Rs fun K J=>sE rfl (sV (.bool true) rfl rfl (nl J (dE rfl (aG (J7 _ _ (Sq fun K8 J8=>aJ ?_)))))))))))))));refine dH [10,11,12,13,14,15,16,17,18,19,20,21,22] (fun g M=>(g 22 = .bool (decide (b.1<a.y.1)||decide (a.y.1<(W.neg b).1)))∧M=[⟨b1,23,aW [ci .i64 a.x.1,ci .i64 a.y.1,ci .i64 a.z.1]⟩]) (fun K9 J9=>?_) ?_
 ·refine Rk fun K J=>sE rfl (sQ (qA fX rfl rfl rfl) rfl (sQ (qC dP rfl m0 rfl) rfl (sE rfl (sE rfl ?_))));rcases bt (decide (b.1<a.y.1)) with h7 | h7
  ·have ph7:=of_decide_eq_true h7;refine sB h7 rfl (aI rfl (aI rfl (aI rfl (aI rfl (aI rfl (aI rfl (sE rfl (nl J ?_))))))));refine J9 _ _ pp_ ⟨_,s0,?s22,rfl⟩
   case s22=>exact congrArg Value.bool (lT h7)
  have ph7:=of_decide_eq_false h7;refine sB h7 rfl (sE rfl (sQ (qA fX rfl rfl rfl) rfl (sQ (qC dP rfl m0 rfl) rfl (sE rfl (sV (.int .i64 ((W.neg b).1)) rfl rfl (sE rfl (sE rfl (nl J ?_))))))));refine J9 _ _ pp_ ⟨_,s0,?s22,rfl⟩
  case s22=>exact congrArg Value.bool (iK h7 rfl)
 rintro g8 M ⟨hg22,rfl⟩;simp only [dQ,hg22];clear hg22;rcases bt (decide (b.1<a.y.1)||decide (a.y.1<(W.neg b).1)) with h9 | h9
 ·refine W_t h9 rfl (Rs fun K J=>sE rfl (nl J (aL (aT (aB (aB (aT (aB (cC rfl (.inr rfl) rfl ?_)))))))));exact (by exact congrArg vS2 (show _=(fW a b) from aM h5 (bI h9 rfl)))
 refine W_f h9 rfl (aG (J8 _ _ (Rk fun K J=>sE rfl (sV (.int .i64 2) rfl rfl (sE rfl (nl J (J6 _ _ (fE (fun K10 J10=>Sq fun K11 J11=>Rs fun K J=>sE rfl (sV (.bool true) rfl rfl (nl J (dE rfl (aG (J11 _ _ (Sq fun K12 J12=>aJ ?_)))))))))))))));refine dH [10,11,12,13,14,15,16,17,18,19,20,21,22] (fun g M=>(g 22 = .bool (decide (b.1<a.z.1)||decide (a.z.1<(W.neg b).1)))∧M=[⟨b1,23,aW [ci .i64 a.x.1,ci .i64 a.y.1,ci .i64 a.z.1]⟩]) (fun K13 J13=>?_) ?_
 ·refine Rk fun K J=>sE rfl (sQ (qA fX rfl rfl rfl) rfl (sQ (qC dP rfl m0 rfl) rfl (sE rfl (sE rfl ?_))));rcases bt (decide (b.1<a.z.1)) with h11 | h11
  ·have ph11:=of_decide_eq_true h11;refine sB h11 rfl (aI rfl (aI rfl (aI rfl (aI rfl (aI rfl (aI rfl (sE rfl (nl J ?_))))))));refine J13 _ _ pp_ ⟨_,s0,?s22,rfl⟩
   case s22=>exact congrArg Value.bool (lT h11)
  have ph11:=of_decide_eq_false h11;refine sB h11 rfl (sE rfl (sQ (qA fX rfl rfl rfl) rfl (sQ (qC dP rfl m0 rfl) rfl (sE rfl (sV (.int .i64 ((W.neg b).1)) rfl rfl (sE rfl (sE rfl (nl J ?_))))))));refine J13 _ _ pp_ ⟨_,s0,?s22,rfl⟩
  case s22=>exact congrArg Value.bool (iK h11 rfl)
 rintro g12 M ⟨hg22,rfl⟩;simp only [dQ,hg22];clear hg22;rcases bt (decide (b.1<a.z.1)||decide (a.z.1<(W.neg b).1)) with h13 | h13
 ·refine W_t h13 rfl (Rs fun K J=>sE rfl (nl J (aL (aT (aB (aB (aT (aB (cC rfl (.inr rfl) rfl ?_)))))))));exact (by exact congrArg vS2 (show _=(fW a b) from aM h5 (aM h9 (bI h13 rfl))))
 refine W_f h13 rfl (aG (J12 _ _ (Rk fun K J=>sE rfl (sV (.int .i64 3) rfl rfl (sE rfl (nl J (J10 _ _ (fE (fun K14 J14=>Sq fun K15 J15=>Rs fun K J=>sE rfl (sV (.bool false) rfl rfl (nl J (gJ rfl (dW (aU (aU (bJ (J1 _ _ (Rs fun K J=>sE rfl ?_))))))))))))))))));refine nl J (aL (cC rfl (.inr rfl) rfl ?_));exact (by exact congrArg vS2 (show _=(fW a b) from aM h5 (aM h9 (aM h13 rfl))))

theorem DZ (n:W) (v:(A3 W)) (k:Int) (w:World)  :
    Calls Tryz.prog 73 [.int .i64 n.1,AV [ci .i64 v.x.1,ci .i64 v.y.1,ci .i64 v.z.1],.int .i64 k].toArray w (fun e w'=>e = .returned (.bool (lB n v k))∧Ext w w'):=by
 refine d6 (N:=22) Tryz.func73 rfl rfl (by simp) ?_;obtain ⟨w0,rfl⟩:∃ w0,w0=w:=⟨_,rfl⟩;simp only [cS,Nat.reduceAdd];refine Rs fun K J=>bA rfl (cH rfl rfl (fun b1 hb1=>sE rfl (nl J (Sq fun K1 J1=>Rs fun K J=>sE rfl (sE rfl (nl J ?_))))));rcases bt (n.1==0) with h2 | h2
 ·refine W_t h2 rfl (Rs fun K J=>sQ (qL iO rfl m0 rfl) rfl (sQ (bZ dL_ (yH v (wl 140737488355327)) rfl) rfl ?_));refine sE rfl (nl J (aL (aB (cC rfl (.inr rfl) rfl ?_))));exact (by exact congrArg vS2 (show _=(lB n v k) from bI h2 rfl))
 refine W_f h2 rfl (aG (J1 _ _ ?_));refine dH [6,11,12,13,14,15,16,17,18,19,20,21] (fun g M=>(g 6 = .bool (decide (0<n.1)&&(decide (n.1≤k)&&(fW v (wl 262144)))))∧M=[⟨b1,23,aW [ci .i64 v.x.1,ci .i64 v.y.1,ci .i64 v.z.1]⟩]) (fun K2 J2=>?_) ?_
 ·refine Rk fun K J=>sE rfl (sE rfl ?_);rcases bt (decide (0<n.1)) with h5 | h5
  ·have ph5:=of_decide_eq_true h5;refine sB h5 rfl (sE rfl (sE rfl (sE rfl (sE rfl ?_))));rcases bt (decide (n.1≤k)) with h6 | h6
   ·have ph6:=of_decide_eq_true h6;refine sB h6 rfl (sQ (qL iO rfl m0 rfl) rfl (sQ (bZ dL_ (yH v (wl 262144)) rfl) rfl ?_));refine sE rfl (sE rfl (nl J ?_));refine J2 _ _ pp_ ⟨_,s0,?s6,rfl⟩
    case s6=>exact congrArg Value.bool (eB h5 (eB h6 rfl))
   have ph6:=of_decide_eq_false h6;refine sB h6 rfl (aI rfl (aI rfl (sE rfl (sE rfl (nl J ?_)))));refine J2 _ _ pp_ ⟨_,s0,?s6,rfl⟩
   case s6=>exact congrArg Value.bool (eB h5 (kU h6))
  have ph5:=of_decide_eq_false h5;refine sB h5 rfl (aI rfl (aI rfl (aI rfl (sE rfl (sE rfl (aI rfl (aI rfl (sE rfl (sE rfl (nl J ?_))))))))));refine J2 _ _ pp_ ⟨_,s0,?s6,rfl⟩
  case s6=>exact congrArg Value.bool (kU h5)
 rintro g7 M ⟨hg6,rfl⟩;simp only [dQ,hg6];clear hg6;refine aL (cC rfl (.inr rfl) rfl ?_);exact (by exact congrArg vS2 (show _=(lB n v k) from aM h2 rfl))

theorem CL (r:Rope) (n:Int) (w:World)  :
    Calls Tryz.prog 17 [AV [ci .i64 r.a.1,ci .i64 r.b.1,ci .i64 r.p.x.1,ci .i64 r.p.y.1,ci .i64 r.p.z.1,ci .i64 r.q.x.1,ci .i64 r.q.y.1,ci .i64 r.q.z.1],.int .i64 n].toArray w (fun e w'=>e = .returned (.bool (jU r n))∧Ext w w'):=by
 refine d6 (N:=26) Tryz.func17 rfl rfl (by simp) ?_;obtain ⟨w0,rfl⟩:∃ w0,w0=w:=⟨_,rfl⟩;simp only [cS,Nat.reduceAdd];refine Rs fun K J=>bA rfl (cH rfl rfl (fun b1 hb1=>sE rfl (nl J ?_)));refine dH [4,5,6,7,8,9,10,11,12,13,14,15,16,17,18,19,20,21,22,23,24,25] (fun g M=>(g 4 = .bool ((r.a.1 != r.b.1)&&((lB r.a r.p n)&&(lB r.b r.q n))))∧M=[⟨b1,25,aW [ci .i64 r.a.1,ci .i64 r.b.1,ci .i64 r.p.x.1,ci .i64 r.p.y.1,ci .i64 r.p.z.1,ci .i64 r.q.x.1,ci .i64 r.q.y.1,ci .i64 r.q.z.1]⟩]) (fun K1 J1=>?_) ?_
 ·refine Rk fun K J=>sQ (qF z8 rfl rfl) rfl (sQ (qC dP rfl m0 rfl) rfl (sQ (qF yK rfl rfl) rfl (sQ (qC dP rfl m0 rfl) rfl (sE rfl ?_))));rcases bt (r.a.1 != r.b.1) with h4 | h4
  ·refine sB h4 rfl (sQ (qF z8 rfl rfl) rfl (sQ (qC dP rfl m0 rfl) rfl (sQ (qF UA rfl rfl) rfl (sQ (qL iO rfl m0 rfl) rfl (sE rfl (sQ (aZ (v':=.bool (lB r.a r.p n)) (dA nq_ rfl (fun w hw=>DZ r.a r.p n w)) rfl) rfl (sE rfl ?_)))))));rcases bt (lB r.a r.p n) with h5 | h5
   ·refine sB h5 rfl (sQ (qF yK rfl rfl) rfl (sQ (qC dP rfl m0 rfl) rfl (sQ (qF OE rfl rfl) rfl (sQ (qL iO rfl m0 rfl) rfl (sE rfl (sQ (aZ (v':=.bool (lB r.b r.q n)) (dA nq_ rfl (fun w hw=>DZ r.b r.q n w)) rfl) rfl (sE rfl (sE rfl (nl J ?_)))))))));refine J1 _ _ pp_ ⟨_,s0,?s4,rfl⟩
    case s4=>exact congrArg Value.bool (eB h4 (eB h5 rfl))
   refine sB h5 rfl (aI rfl (aI rfl (aI rfl (aI rfl (aI rfl (aI rfl (sE rfl (sE rfl (nl J ?_)))))))));refine J1 _ _ pp_ ⟨_,s0,?s4,rfl⟩
   case s4=>exact congrArg Value.bool (eB h4 (kU h5))
  refine sB h4 rfl (aI rfl (aI rfl (aI rfl (aI rfl (aI rfl (aI rfl (sE rfl (sE rfl (aI rfl (aI rfl (aI rfl (aI rfl (aI rfl (aI rfl (sE rfl (sE rfl (nl J ?_)))))))))))))))));refine J1 _ _ pp_ ⟨_,s0,?s4,rfl⟩
  case s4=>exact congrArg Value.bool (kU h4)
 rintro g6 M ⟨hg4,rfl⟩;simp only [dQ,hg4];clear hg4;refine aL (cC rfl (.inr rfl) rfl ?_);exact (by rfl)

end Go.Proofs.YtkjjponijamaoaaGreatDoor


namespace Go.Num
open Go Go.Kn
theorem nu_ {a:W} {v:A3 W} {n:Int} (h:lB a v n=true):a.1=0∨1≤a.1∧a.1≤n:=by
  unfold lB at h
  cases h1:(a.1==0)
  · rw [h1,cond_false] at h
    simp only [Bool.and_eq_true,decide_eq_true_eq] at h;exact .inr ⟨by omega,h.2.1⟩
  exact .inl (by simpa using h1)
theorem mW_ {r:Rope} {n:Int} (h:jU r n=true):(r.a.1=0∨1≤r.a.1∧r.a.1≤n)∧(r.b.1=0∨1≤r.b.1∧r.b.1≤n):=by
  unfold jU at h;simp only [Bool.and_eq_true] at h;exact ⟨nu_ h.2.1,nu_ h.2.2⟩
end Go.Num

namespace Go.Proofs.YtkjjponijamaoaaGreatDoor
open Go.Kn Go.Num
theorem DR (n:W) (v:(A3 W)) (vl:Value) (l:(List Pose)) (w:World) (hl:Slr w iD vl l) (hpre:n.1=0∨1≤n.1∧n.1≤(l.length:Int)) :
    Calls Tryz.prog 71 [.int .i64 n.1,AV [ci .i64 v.x.1,ci .i64 v.y.1,ci .i64 v.z.1],vl].toArray w (fun e w'=>e = .returned (AV [pI ((((jQ n v l).x).x).n),pI ((((jQ n v l).x).x).d),pI ((((jQ n v l).x).y).n),pI ((((jQ n v l).x).y).d),pI ((((jQ n v l).x).z).n),pI ((((jQ n v l).x).z).d),ci .i64 (((jQ n v l).e).1)])∧Ext w w'):=by
 obtain ⟨p_l,c_l,rfl⟩:=hl.form;refine d6 (N:=28) Tryz.func71 rfl rfl (by simp) ?_;obtain ⟨w0,rfl⟩:∃ w0,w0=w:=⟨_,rfl⟩;have Hl:=hl.old;have hm_l:=hl.max;simp only [cS,Nat.reduceAdd];refine Rs fun K J=>bA rfl (cH rfl rfl (fun b1 hb1=>sN SM rfl fun b2 hb2=>nl J (Sq fun K1 J1=>Rs fun K J=>sE rfl (sE rfl (nl J ?_)))));rcases bt (n.1==0) with h3 | h3
 ·refine W_t h3 rfl (Rs fun K J=>sQ (qL iO rfl m1 rfl) rfl ?_);obtain ⟨r4,hr4⟩:=nm ((fM v):(A3 Rt));refine sC (AV [pI r4.x.n,pI r4.x.d,pI r4.y.n,pI r4.y.d,pI r4.z.n,pI r4.z.d]) fn_ (yB v) rfl rfl (by rw [hr4];first | done | rfl) (sQ (dR SM ew_ rfl (.cons [pI r4.x.n,pI r4.x.d,pI r4.y.n,pI r4.y.d,pI r4.z.n,pI r4.z.d] [pI r4.x.n,pI r4.x.d,pI r4.y.n,pI r4.y.d,pI r4.z.n,pI r4.z.d,ci .i64 0] rfl rfl rfl rfl (.nil _))) rfl (sS [pI r4.x.n,pI r4.x.d,pI r4.y.n,pI r4.y.d,pI r4.z.n,pI r4.z.d,ci .i64 0] N1 rfl rfl rfl rfl rfl uH rfl hb2 (nl J (aL (aB (cC rfl (.inr rfl) (eP rfl m0 N1 rfl) ?_))))));exact (by obtain rfl:=hr4.symm;exact congrArg (fun r:Spot=>(AV [pI r.x.x.n,pI r.x.x.d,pI r.x.y.n,pI r.x.y.d,pI r.x.z.n,pI r.x.z.d,ci .i64 r.e.1]:Value)) (show _=(jQ n v l) from bI h3 rfl))
 refine W_f h3 rfl (aG (J1 _ _ (Sq fun K2 J2=>Rs fun K J=>sE rfl (sE rfl (sV (.int .i64 ((W.sub n (wl 1)).1)) rfl rfl ?_)))));refine sQ (aZ (v':=.pointer (some (slb (.slice p_l l.length c_l) (((n.1 - 1).toNat) * 7+0)))) (wE (e:=iD) (l:=l) (k:=(n.1 - 1).toNat) tY rfl rfl (by have h0:=zH h3;rw [W.sub1 oo_];omega) (SLe.sub Hl sn) (by have h0:=zH h3;omega)) rfl) rfl (sQ (oK (e:=iD) (l:=l) (k:=(n.1 - 1).toNat) (o:=0) uB rfl (SLe.sub Hl sn) (eV bG (by have h0:=zH h3;omega)) rfl) rfl (sQ (bZ ap_ (wC (l.getD ((n.1 - 1).toNat) bG)) rfl) rfl (sE rfl (nl J ?_))));rcases bt ((eK (l.getD ((n.1 - 1).toNat) bG)).1 != 0) with h5 | h5
 ·refine W_t h5 rfl (Rs fun K J=>sQ (dR SM ew_ rfl (.cons [ci .i64 1] [pI I0,pI I0,pI I0,pI I0,pI I0,pI I0,ci .i64 1] rfl rfl rfl rfl (.nil _))) rfl (sS [pI I0,pI I0,pI I0,pI I0,pI I0,pI I0,ci .i64 1] N1 rfl rfl rfl rfl rfl uH rfl hb2 (nl J (aL (aB (cC rfl (.inr rfl) (eP rfl m0 N1 rfl) ?_))))));exact (by exact congrArg (fun r:Spot=>(AV [pI r.x.x.n,pI r.x.x.d,pI r.x.y.n,pI r.x.y.d,pI r.x.z.n,pI r.x.z.d,ci .i64 r.e.1]:Value)) (show _=(jQ n v l) from aM h3 (bI h5 rfl)))
 refine W_f h5 rfl (aG (J2 _ _ (ds (sd s0) [0,4,8,12,16,20,24,28,33] [8] mix (by kernel_rfl) (fun K J=>pE rfl (pE rfl (pV (.int .i64 ((W.sub n (wl 1)).1)) rfl rfl ?_))))));refine pQ rfl (aZ (v':=.pointer (some (slb (.slice p_l l.length c_l) (((n.1 - 1).toNat) * 7+0)))) (wE (e:=iD) (l:=l) (k:=(n.1 - 1).toNat) tY rfl rfl (by have h0:=zH h3;rw [W.sub1 oo_];omega) (SLe.sub Hl sn) (by have h0:=zH h3;omega)) rfl) (pQ rfl (oK (e:=iD) (l:=l) (k:=(n.1 - 1).toNat) (o:=0) uB rfl (SLe.sub Hl sn) (eV bG (by have h0:=zH h3;omega)) rfl) (pQ rfl (qL iO rfl m1 rfl) ?_));obtain ⟨r6,hr6⟩:=nm ((nF (l.getD ((n.1 - 1).toNat) bG) v):(A3 Rt));refine pC (AV [pI r6.x.n,pI r6.x.d,pI r6.y.n,pI r6.y.d,pI r6.z.n,pI r6.z.d]) oJ_ (JH (l.getD ((n.1 - 1).toNat) bG) v) rfl rfl (by rw [hr6];first | done | rfl) (pQ rfl (dR SM ew_ rfl (.cons [pI r6.x.n,pI r6.x.d,pI r6.y.n,pI r6.y.d,pI r6.z.n,pI r6.z.d] [pI r6.x.n,pI r6.x.d,pI r6.y.n,pI r6.y.d,pI r6.z.n,pI r6.z.d,ci .i64 0] rfl rfl rfl rfl (.nil _))) (oS [pI r6.x.n,pI r6.x.d,pI r6.y.n,pI r6.y.d,pI r6.z.n,pI r6.z.d,ci .i64 0] N1 rfl rfl rfl rfl rfl rfl uH rfl hb2 rfl (sd s0) (fl J (aL (cC rfl (.inr rfl) (eP rfl m0 N1 rfl) ?_)))));exact (by obtain rfl:=hr6.symm;exact congrArg (fun r:Spot=>(AV [pI r.x.x.n,pI r.x.x.d,pI r.x.y.n,pI r.x.y.d,pI r.x.z.n,pI r.x.z.d,ci .i64 r.e.1]:Value)) (show _=(jQ n v l) from aM h3 (aM h5 rfl)))

theorem LB (r:Rope) (vl:Value) (l:(List Pose)) (w:World) (hl:Slr w iD vl l) :
    Calls Tryz.prog 15 [AV [ci .i64 r.a.1,ci .i64 r.b.1,ci .i64 r.p.x.1,ci .i64 r.p.y.1,ci .i64 r.p.z.1,ci .i64 r.q.x.1,ci .i64 r.q.y.1,ci .i64 r.q.z.1],vl].toArray w (fun e w'=>e = .returned (AV [ci .i64 ((((fS r l).p).a).1),ci .i64 ((((fS r l).p).b).1),pI (((((fS r l).p).p).x).n),pI (((((fS r l).p).p).x).d),pI (((((fS r l).p).p).y).n),pI (((((fS r l).p).p).y).d),pI (((((fS r l).p).p).z).n),pI (((((fS r l).p).p).z).d),pI (((((fS r l).p).q).x).n),pI (((((fS r l).p).q).x).d),pI (((((fS r l).p).q).y).n),pI (((((fS r l).p).q).y).d),pI (((((fS r l).p).q).z).n),pI (((((fS r l).p).q).z).d),ci .i64 (((fS r l).e).1)])∧Ext w w'):=by
 obtain ⟨p_l,c_l,rfl⟩:=hl.form;refine d6 (N:=46) Tryz.func15 rfl rfl (by simp) ?_;obtain ⟨w0,rfl⟩:∃ w0,w0=w:=⟨_,rfl⟩;have Hl:=hl.old;have hm_l:=hl.max;simp only [cS,Nat.reduceAdd];refine Rs fun K J=>bA rfl (cH rfl rfl (fun b1 hb1=>sN dp_ rfl fun b2 hb2=>nl J (Rs fun K J=>sQ (qL TF rfl m1 rfl) rfl (sE rfl (sQ (aZ (v':=.int .i64 (((l).length:Nat):Int)) (gD (e:=iD) tY rfl (SLe.sub Hl sn)) rfl) rfl (sQ (aZ (v':=.bool (jU r (((l).length:Nat):Int))) (dA nf_ rfl (fun w hw=>CL r (((l).length:Nat):Int) w)) rfl) rfl (sE rfl (nl J (Sq fun K1 J1=>Rs fun K J=>sE rfl (sE rfl (nl J ?_)))))))))));rcases bt (jU r (((l).length:Nat):Int)) with h3 | h3
 ·refine W_f (iS h3) rfl (aG (J1 _ _ (Rs fun K J=>?_)));have hvb:=mW_ h3;refine sQ (qF z8 rfl rfl) rfl (sQ (qC dP rfl m1 rfl) rfl (sQ (qF UA rfl rfl) rfl (sQ (qL iO rfl m1 rfl) rfl (sE rfl ?_))));obtain ⟨r4,hr4⟩:=nm ((jQ r.a r.p l):Spot);refine sQ (aZ (v':=AV [pI r4.x.x.n,pI r4.x.x.d,pI r4.x.y.n,pI r4.x.y.d,pI r4.x.z.n,pI r4.x.z.d,ci .i64 r4.e.1]) (dA np_ rfl (fun w hw=>DR r.a r.p _ l w (aR hw Hl sn) oo_)) (by rw [hr4];first | done | rfl)) rfl (sN SM rfl fun b5 hb5=>sS [pI r4.x.x.n,pI r4.x.x.d,pI r4.x.y.n,pI r4.x.y.d,pI r4.x.z.n,pI r4.x.z.d,ci .i64 r4.e.1] N1 rfl rfl rfl rfl rfl uH rfl hb5 (nl J (Rs fun K J=>sQ (qF yK rfl rfl) rfl (sQ (qC dP rfl m2 rfl) rfl (sQ (qF OE rfl rfl) rfl (sQ (qL iO rfl m2 rfl) rfl (sE rfl ?_)))))));obtain ⟨r6,hr6⟩:=nm ((jQ r.b r.q l):Spot);refine sQ (aZ (v':=AV [pI r6.x.x.n,pI r6.x.x.d,pI r6.x.y.n,pI r6.x.y.d,pI r6.x.z.n,pI r6.x.z.d,ci .i64 r6.e.1]) (dA np_ rfl (fun w hw=>DR r.b r.q _ l w (aR hw Hl sn) oo_)) (by rw [hr6];first | done | rfl)) rfl (sN SM rfl fun b7 hb7=>sS [pI r6.x.x.n,pI r6.x.x.d,pI r6.x.y.n,pI r6.x.y.d,pI r6.x.z.n,pI r6.x.z.d,ci .i64 r6.e.1] N1 rfl rfl rfl rfl rfl uH rfl hb7 (nl J (Sq fun K2 J2=>?_)));refine dH [27,28,29,30,31,32,33,34] (fun g M=>(g 34 = .bool ((r4.e.1 != 0)||(r6.e.1 != 0)))∧M=[⟨b7,136,aW [pI r6.x.x.n,pI r6.x.x.d,pI r6.x.y.n,pI r6.x.y.d,pI r6.x.z.n,pI r6.x.z.d,ci .i64 r6.e.1]⟩,⟨b5,136,aW [pI r4.x.x.n,pI r4.x.x.d,pI r4.x.y.n,pI r4.x.y.d,pI r4.x.z.n,pI r4.x.z.d,ci .i64 r4.e.1]⟩,⟨b2,42,aW [ci .i64 0,ci .i64 0,pI I0,pI I0,pI I0,pI I0,pI I0,pI I0,pI I0,pI I0,pI I0,pI I0,pI I0,pI I0,ci .i64 0]⟩,⟨b1,25,aW [ci .i64 r.a.1,ci .i64 r.b.1,ci .i64 r.p.x.1,ci .i64 r.p.y.1,ci .i64 r.p.z.1,ci .i64 r.q.x.1,ci .i64 r.q.y.1,ci .i64 r.q.z.1]⟩]) (fun K3 J3=>?_) ?_
  ·refine Rk fun K J=>sQ (qF cj_ rfl rfl) rfl (sQ (qC wK rfl m1 rfl) rfl (sE rfl ?_));rcases bt (r4.e.1 != 0) with h9 | h9
   ·refine sB h9 rfl (aI rfl (aI rfl (aI rfl (sE rfl (nl J ?_)))));refine J3 _ _ pp_ ⟨_,s0,?s34,rfl⟩
    case s34=>exact congrArg Value.bool (lT h9)
   refine sB h9 rfl (sQ (qF cj_ rfl rfl) rfl (sQ (qC wK rfl m0 rfl) rfl (sE rfl (sE rfl (nl J ?_)))));refine J3 _ _ pp_ ⟨_,s0,?s34,rfl⟩
   case s34=>exact congrArg Value.bool (iK h9 rfl)
  rintro g10 M ⟨hg34,rfl⟩;simp only [dQ,hg34];clear hg34;rcases bt ((r4.e.1 != 0)||(r6.e.1 != 0)) with h11 | h11
  ·refine W_t h11 rfl (Rs fun K J=>sQ (dR dp_ ka_ rfl (.cons [ci .i64 1] [ci .i64 0,ci .i64 0,pI I0,pI I0,pI I0,pI I0,pI I0,pI I0,pI I0,pI I0,pI I0,pI I0,pI I0,pI I0,ci .i64 1] rfl rfl rfl rfl (.nil _))) rfl (sS [ci .i64 0,ci .i64 0,pI I0,pI I0,pI I0,pI I0,pI I0,pI I0,pI I0,pI I0,pI I0,pI I0,pI I0,pI I0,ci .i64 1] XK rfl rfl rfl rfl rfl (uT (uT uH)) rfl hb2 (nl J (aL (aB (cC rfl (.inr rfl) (eP rfl m2 XK rfl) ?_))))));exact (by obtain rfl:=hr6.symm;obtain rfl:=hr4.symm;exact congrArg (fun r:Pulled=>(AV [ci .i64 r.p.a.1,ci .i64 r.p.b.1,pI r.p.p.x.n,pI r.p.p.x.d,pI r.p.p.y.n,pI r.p.p.y.d,pI r.p.p.z.n,pI r.p.p.z.d,pI r.p.q.x.n,pI r.p.q.x.d,pI r.p.q.y.n,pI r.p.q.y.d,pI r.p.q.z.n,pI r.p.q.z.d,ci .i64 r.e.1]:Value)) (show _=(fS r l) from bI h3 (bI h11 rfl)))
  refine W_f h11 rfl (aG (J2 _ _ (Rs fun K J=>sQ (qF z8 rfl rfl) rfl (sQ (qC dP rfl m3 rfl) rfl (sQ (qF yK rfl rfl) rfl (sQ (qC dP rfl m3 rfl) rfl (sQ (qF ci_ rfl rfl) rfl (sQ (qL gG rfl m1 rfl) rfl (sQ (qF ci_ rfl rfl) rfl (sQ (qL gG rfl m0 rfl) rfl (sQ (dR GR NK rfl (.cons [ci .i64 r.a.1] [ci .i64 r.a.1,ci .i64 0,pI I0,pI I0,pI I0,pI I0,pI I0,pI I0,pI I0,pI I0,pI I0,pI I0,pI I0,pI I0] rfl rfl rfl rfl (.cons [ci .i64 r.b.1] [ci .i64 r.a.1,ci .i64 r.b.1,pI I0,pI I0,pI I0,pI I0,pI I0,pI I0,pI I0,pI I0,pI I0,pI I0,pI I0,pI I0] rfl rfl rfl rfl (.cons [pI r4.x.x.n,pI r4.x.x.d,pI r4.x.y.n,pI r4.x.y.d,pI r4.x.z.n,pI r4.x.z.d] [ci .i64 r.a.1,ci .i64 r.b.1,pI r4.x.x.n,pI r4.x.x.d,pI r4.x.y.n,pI r4.x.y.d,pI r4.x.z.n,pI r4.x.z.d,pI I0,pI I0,pI I0,pI I0,pI I0,pI I0] rfl rfl rfl rfl (.cons [pI r6.x.x.n,pI r6.x.x.d,pI r6.x.y.n,pI r6.x.y.d,pI r6.x.z.n,pI r6.x.z.d] [ci .i64 r.a.1,ci .i64 r.b.1,pI r4.x.x.n,pI r4.x.x.d,pI r4.x.y.n,pI r4.x.y.d,pI r4.x.z.n,pI r4.x.z.d,pI r6.x.x.n,pI r6.x.x.d,pI r6.x.y.n,pI r6.x.y.d,pI r6.x.z.n,pI r6.x.z.d] rfl rfl rfl rfl (.nil _)))))) rfl (sQ (dR dp_ ka_ rfl (.cons [ci .i64 r.a.1,ci .i64 r.b.1,pI r4.x.x.n,pI r4.x.x.d,pI r4.x.y.n,pI r4.x.y.d,pI r4.x.z.n,pI r4.x.z.d,pI r6.x.x.n,pI r6.x.x.d,pI r6.x.y.n,pI r6.x.y.d,pI r6.x.z.n,pI r6.x.z.d] [ci .i64 r.a.1,ci .i64 r.b.1,pI r4.x.x.n,pI r4.x.x.d,pI r4.x.y.n,pI r4.x.y.d,pI r4.x.z.n,pI r4.x.z.d,pI r6.x.x.n,pI r6.x.x.d,pI r6.x.y.n,pI r6.x.y.d,pI r6.x.z.n,pI r6.x.z.d,ci .i64 0] rfl rfl rfl rfl (.nil _))) rfl (sS [ci .i64 r.a.1,ci .i64 r.b.1,pI r4.x.x.n,pI r4.x.x.d,pI r4.x.y.n,pI r4.x.y.d,pI r4.x.z.n,pI r4.x.z.d,pI r6.x.x.n,pI r6.x.x.d,pI r6.x.y.n,pI r6.x.y.d,pI r6.x.z.n,pI r6.x.z.d,ci .i64 0] XK rfl rfl rfl rfl rfl (uT (uT uH)) rfl hb2 (nl J (aL (cC rfl (.inr rfl) (eP rfl m2 XK rfl) ?_))))))))))))))));exact (by obtain rfl:=hr6.symm;obtain rfl:=hr4.symm;exact congrArg (fun r:Pulled=>(AV [ci .i64 r.p.a.1,ci .i64 r.p.b.1,pI r.p.p.x.n,pI r.p.p.x.d,pI r.p.p.y.n,pI r.p.p.y.d,pI r.p.p.z.n,pI r.p.p.z.d,pI r.p.q.x.n,pI r.p.q.x.d,pI r.p.q.y.n,pI r.p.q.y.d,pI r.p.q.z.n,pI r.p.q.z.d,ci .i64 r.e.1]:Value)) (show _=(fS r l) from bI h3 (aM h11 rfl)))
 refine W_t (iT h3) rfl (Rs fun K J=>sQ (dR dp_ ka_ rfl (.cons [ci .i64 1] [ci .i64 0,ci .i64 0,pI I0,pI I0,pI I0,pI I0,pI I0,pI I0,pI I0,pI I0,pI I0,pI I0,pI I0,pI I0,ci .i64 1] rfl rfl rfl rfl (.nil _))) rfl (sS [ci .i64 0,ci .i64 0,pI I0,pI I0,pI I0,pI I0,pI I0,pI I0,pI I0,pI I0,pI I0,pI I0,pI I0,pI I0,ci .i64 1] XK rfl rfl rfl rfl rfl uH rfl hb2 (nl J (aL (aB (cC rfl (.inr rfl) (eP rfl m0 XK rfl) ?_))))));exact (by exact congrArg (fun r:Pulled=>(AV [ci .i64 r.p.a.1,ci .i64 r.p.b.1,pI r.p.p.x.n,pI r.p.p.x.d,pI r.p.p.y.n,pI r.p.p.y.d,pI r.p.p.z.n,pI r.p.p.z.d,pI r.p.q.x.n,pI r.p.q.x.d,pI r.p.q.y.n,pI r.p.q.y.d,pI r.p.q.z.n,pI r.p.q.z.d,ci .i64 r.e.1]:Value)) (show _=(fS r l) from aM h3 rfl))

end Go.Proofs.YtkjjponijamaoaaGreatDoor


namespace Go.Num
open Go Go.Kn
theorem eW_ (a b:A3 Rt):rU a b=lG a b:=by unfold rU lG;rw [PG,PG,PG]
theorem dy_ (a:A3 W):qG a=fM a:=rfl
theorem W.abs_1 {x:W} (h:x.1 ≠ -9223372036854775808):(W.max x (W.neg x)).1=(x.1.natAbs:Nat):=by
  have h2:=x.2;unfold I64 at h2
  have hn:(W.neg x).1 = -x.1:=by
    show IntKind.i64.wrap (0 - x.1)=_
    rw [wi oo_];omega
  unfold W.max;rw [hn]
  by_cases h3:x.1 < -x.1
  · rw [decide_eq_true h3,cond_true,hn];omega
  rw [decide_eq_false h3,cond_false];omega
theorem jn_ {p q:Int} (hp:0≤p) (hq:0≤q):Int.gcd q (p.tmod q)=Int.gcd p q:=by
  rw [Int.tmod_eq_emod_of_nonneg hp,Int.gcd_comm p q]
  conv=>rhs;rw [← Int.emod_add_mul_ediv p q]
  rw [Int.gcd_add_mul_left_right]
theorem SW {l:List W} {x0:W} {l0:List W} {o:W}:∀ (k:Nat) (p q:W),0≤p.1→0≤q.1→q.1.natAbs<k→(tP l x0 l0 o k p q).1.1=(Int.gcd p.1 q.1:Nat)
  | 0,p,q,_,_,h=>absurd h (Nat.not_lt_zero _)
  | k+1,p,q,hp,hq,h=>by
    rw [tP]
    by_cases h0:q.1=0
    · rw [show (q.1 != 0)=false by simp [h0],cond_false,h0,Int.gcd_zero_right];show p.1=(p.1.natAbs:Nat);omega
    rw [show (q.1 != 0)=true by simp [h0],cond_true];have h1:(W.rem p q).1=p.1.tmod q.1:=rfl;have h2:=W.rem_lt p (q:=q) (by simp [h0]);rw [SW k q (W.rem p q) hq (by rw [h1];exact Int.tmod_nonneg _ hp) oo_,h1,jn_ hp hq]
theorem cp_ {l:List W}:∀ (r:List W) (o:W),0≤o.1→(∀ x∈r,x.1 ≠ -9223372036854775808)→(rX l r o).1=(r.foldl (fun (g:Nat) (x:W)=>Int.gcd g x.1) o.1.natAbs:Nat)
  | [],o,ho,_=>by rw [rX];show o.1=(o.1.natAbs:Nat);omega
  | x :: r,o,ho,h=>by
    rw [rX];have ha:=W.abs_1 (h x List.mem_cons_self);have he:=SW (l:=l) (x0:=x) (l0:=r) (o:=o) ((W.max x (W.neg x)).1.natAbs+1) o (W.max x (W.neg x)) ho (by rw [ha];omega) (Nat.lt_succ_self _)
    show (rX l r (tP l x r o ((W.max x (W.neg x)).1.natAbs+1) o (W.max x (W.neg x))).1).1=_
    rw [cp_ r _ (by rw [he];omega) (fun y hy=>h y (List.mem_cons_of_mem _ hy)),he,ha,List.foldl_cons]
    congr 2
theorem pK_ {l:List W} (h:∀ x∈l,x.1 ≠ -9223372036854775808):(fL l).1=(l.foldl (fun (g:Nat) (x:W)=>Int.gcd g x.1) 0:Nat):=cp_ l (wl 0) (Int.le_refl _) h
theorem VP {a b:W}:∀ (k:Nat) (p q:W),q.1.natAbs<k→(lK a b k p q).1.1.natAbs=Int.gcd p.1 q.1
  | 0,p,q,h=>absurd h (Nat.not_lt_zero _)
  | k+1,p,q,h=>by
    rw [lK]
    by_cases h0:q.1=0
    · rw [show (q.1 != 0)=false by simp [h0],cond_false,h0,Int.gcd_zero_right]
    rw [show (q.1 != 0)=true by simp [h0],cond_true];have h1:(W.rem p q).1=p.1.tmod q.1:=rfl;have h2:=W.rem_lt p (q:=q) (by simp [h0]);rw [VP k q (W.rem p q) oo_,h1,Int.gcd,Int.natAbs_tmod,Int.gcd,Nat.gcd_comm p.1.natAbs,Nat.gcd_rec q.1.natAbs p.1.natAbs,Nat.gcd_comm]
def Z4.dir (a:Z4):Z4:=⟨a.x / a.m,a.y / a.m,a.z / a.m,a.t / a.m⟩
theorem Z4.g_zero {a:Z4}:a.g=0 ↔ a.zero:=by
  unfold Z4.g Z4.zero;simp only [Int.gcd_eq_zero_iff,Int.natCast_eq_zero]
  constructor
  · rintro ⟨⟨⟨⟨_,h1⟩,h2⟩,h3⟩,h4⟩;exact ⟨h1,h2,h3,h4⟩
  rintro ⟨h1,h2,h3,h4⟩;exact ⟨⟨⟨⟨trivial,h1⟩,h2⟩,h3⟩,h4⟩
theorem Z4.lead_zero {a:Z4} (h:¬ a.zero):a.lead≠0:=by
  unfold Z4.zero at h;unfold Z4.lead
  by_cases h1:a.x=0 <;> by_cases h2:a.y=0 <;> by_cases h3:a.z=0 <;> simp_all
theorem Z4.m_ne {a:Z4} (h:¬ a.zero):a.m≠0:=by
  unfold Z4.m;have h1:=Z4.lead_zero h;have h2:a.g≠0:=fun e=>h (Z4.g_zero.1 e);intro e;rcases Int.mul_eq_zero.1 e with e | e
  · exact h1 (Int.sign_eq_zero_iff_zero.1 e)
  exact h2 (by exact_mod_cast e)
theorem Z4.m_abs {a:Z4} (h:¬ a.zero):a.m.natAbs=a.g:=by
  unfold Z4.m;rw [Int.natAbs_mul,Int.natAbs_natCast,Int.natAbs_sign_of_ne_zero (Z4.lead_zero h),Nat.one_mul]
theorem Z4.g_dvd (a:Z4):((a.g:Nat):Int) ∣ a.x∧((a.g:Nat):Int) ∣ a.y∧((a.g:Nat):Int) ∣ a.z∧((a.g:Nat):Int) ∣ a.t:=by
  unfold Z4.g;have l:∀ (u v:Int),((Int.gcd u v:Nat):Int) ∣ u:=fun u v=>Int.gcd_dvd_left ..;have r:∀ (u v:Int),((Int.gcd u v:Nat):Int) ∣ v:=fun u v=>Int.gcd_dvd_right ..;refine ⟨?_,?_,?_,r _ _⟩
  · exact Int.dvd_trans (Int.dvd_trans (Int.dvd_trans (l _ _) (l _ _)) (l _ _)) (r _ _)
  · exact Int.dvd_trans (Int.dvd_trans (l _ _) (l _ _)) (r _ _)
  exact Int.dvd_trans (l _ _) (r _ _)
theorem Z4.m_dvd {a:Z4} (h:¬ a.zero):a.m ∣ a.x∧a.m ∣ a.y∧a.m ∣ a.z∧a.m ∣ a.t:=by
  have e:∀ v:Int,((a.g:Nat):Int) ∣ v→a.m ∣ v:=fun v hv=>by
    rw [← Z4.m_abs h] at hv;exact Int.natAbs_dvd.1 hv
  obtain ⟨h1,h2,h3,h4⟩:=Z4.g_dvd a;exact ⟨e _ h1,e _ h2,e _ h3,e _ h4⟩
end Go.Num

