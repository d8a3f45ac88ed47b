/- Lemmas: what they ask stands in their statements. -/
import Derived.Test.YtkjjponijamaoaaGreatDoorTYc
import Derived.Test.YtkjjponijamaoaaGreatDoorTPe
set_option linter.unusedSimpArgs false
set_option linter.unusedVariables false
set_option maxHeartbeats 8000000
set_option maxRecDepth 20000
namespace Go.Proofs.YtkjjponijamaoaaGreatDoor
open Go.Kn Go.Num Tryz
attribute [local irreducible] Go.Kn.W WL PL OpQ OpR OpS
theorem wH (a:Pose) :
    Ret prog 118 [AV [cw a.x.x.1,cw a.x.y.1,cw a.x.z.1,cw a.q.x.1,cw a.q.y.1,cw a.q.z.1,cw a.q.t.1]] (.int .i64 ((eJ a).1)):=by
 refine bL (N:=26) func118 rfl rfl (by simp) (fun w0=>?_);simp only [bO,Nat.reduceAdd];refine go2 ?_;intro b1 hb1;refine go7 ?_;refine sO 5 (go4 ?_);refine sV (.bool true) rfl rfl (go5 ?_);refine gJv [9,10,11,12,13,14,15,16,17,18,19,20] [(20,.bool (decide (140737488355328≤a.x.x.1)||decide (a.x.x.1≤(-140737488355328))))] (fun K5 J5=>?_) ?_
 ·refine go6 ?_;refine sBB rfl (fun h3=>?_) (fun h3=>?_)
  ·have ph3:=of_decide_eq_true h3;refine go7 ?_;refine J5 _ _ pp_ s0 (bK (mF h3))
  have ph3:=of_decide_eq_false h3;refine go7 ?_;refine J5 _ _ pp_ s0 (bK (j9 h3 rfl))
 intro g4;refine aH _ rfl (fun h5=>?_) (fun h5=>?_)
 ·refine go4 ?_;refine bA rfl (.inr rfl) rfl ?_;exact congrArg vS8 (show _=(eJ a) from aY h5 rfl)
 refine go3 ?_;refine sV (.int .i64 1) rfl rfl (go6 ?_);refine sV (.bool true) rfl rfl (go5 ?_);refine gJv [9,10,11,12,13,14,15,16,17,18,19,20] [(20,.bool (decide (140737488355328≤a.x.y.1)||decide (a.x.y.1≤(-140737488355328))))] (fun K9 J9=>?_) ?_
 ·refine go6 ?_;refine sBB rfl (fun h7=>?_) (fun h7=>?_)
  ·have ph7:=of_decide_eq_true h7;refine go7 ?_;refine J9 _ _ pp_ s0 (bK (mF h7))
  have ph7:=of_decide_eq_false h7;refine go7 ?_;refine J9 _ _ pp_ s0 (bK (j9 h7 rfl))
 intro g8;refine aH _ rfl (fun h9=>?_) (fun h9=>?_)
 ·refine go4 ?_;refine bA rfl (.inr rfl) rfl ?_;exact congrArg vS8 (show _=(eJ a) from aI h5 (aY h9 rfl))
 refine go3 ?_;refine sV (.int .i64 2) rfl rfl (go6 ?_);refine sV (.bool true) rfl rfl (go5 ?_);refine gJv [9,10,11,12,13,14,15,16,17,18,19,20] [(20,.bool (decide (140737488355328≤a.x.z.1)||decide (a.x.z.1≤(-140737488355328))))] (fun K13 J13=>?_) ?_
 ·refine go6 ?_;refine sBB rfl (fun h11=>?_) (fun h11=>?_)
  ·have ph11:=of_decide_eq_true h11;refine go7 ?_;refine J13 _ _ pp_ s0 (bK (mF h11))
  have ph11:=of_decide_eq_false h11;refine go7 ?_;refine J13 _ _ pp_ s0 (bK (j9 h11 rfl))
 intro g12;refine aH _ rfl (fun h13=>?_) (fun h13=>?_)
 ·refine go4 ?_;refine bA rfl (.inr rfl) rfl ?_;exact congrArg vS8 (show _=(eJ a) from aI h5 (aI h9 (aY h13 rfl)))
 refine go3 ?_;refine sV (.int .i64 3) rfl rfl (go6 ?_);refine sV (.bool false) rfl rfl (go6 ?_);refine sQ (bI aB (CO a.q) rfl) rfl (go7 ?_);rcases bt (gD a.q) with h14 | h14
 ·refine W_f (gE h14) rfl (go5 ?_);refine bA rfl (.inr rfl) rfl ?_;exact congrArg vS8 (show _=(eJ a) from aI h5 (aI h9 (aI h13 (aY h14 rfl))))
 refine W_t (iK h14) rfl (go4 ?_);refine bA rfl (.inr rfl) rfl ?_;exact congrArg vS8 (show _=(eJ a) from aI h5 (aI h9 (aI h13 (aI h14 rfl))))
theorem uV (a:Path) :
    Ret prog 108 [AV [cw a.from_.x.x.1,cw a.from_.x.y.1,cw a.from_.x.z.1,cw a.from_.q.x.1,cw a.from_.q.y.1,cw a.from_.q.z.1,cw a.from_.q.t.1,cw a.to_.x.x.1,cw a.to_.x.y.1,cw a.to_.x.z.1,cw a.to_.q.x.1,cw a.to_.q.y.1,cw a.to_.q.z.1,cw a.to_.q.t.1]] (.int .i64 ((cM a).1)):=by
 refine bL (N:=13) func108 rfl rfl (by simp) (fun w0=>?_);simp only [bO,Nat.reduceAdd];refine go2 ?_;intro b1 hb1;refine go5 ?_;refine sQ (bI aB (wH a.from_) rfl) rfl (go7 ?_);refine aH _ rfl (fun h2=>?_) (fun h2=>?_)
 ·refine go5 ?_;refine bA rfl (.inr rfl) rfl ?_;exact congrArg vS8 (show _=(cM a) from aY h2 rfl)
 refine go4 ?_;refine sQ (bI aB (wH a.to_) rfl) rfl (go3 ?_);refine bA rfl (.inr rfl) rfl ?_;exact congrArg vS8 (show _=(cM a) from aI h2 rfl)
end Go.Proofs.YtkjjponijamaoaaGreatDoor
namespace Go.Num
open Go Go.Kn
theorem LG {c:Bool} {x y:W×List Rt} {N:Nat} (h1:c=true→x.2.length≤N) (h2:c=false→y.2.length≤N):(bif c then x else y).2.length≤N:=by
  cases c
  · exact h2 rfl
  exact h1 rfl
theorem yK (p:List I) (n:Nat) (a c:Rt) (k:Nat) (t:List Rt):(bP p n a c k t).2.length≤t.length+2 ^ k:=by
  induction n generalizing a c k t with
  | zero=>rw [bP];simp
  | succ n ih =>
    have h0:0<2 ^ k:=Nat.pow_pos dd_;rw [bP];refine LG (fun _=>Nat.le_add_right _ _) (fun _=>LG (fun _=>Nat.le_add_right _ _) (fun _=>LG (fun _=>?_) (fun _=>LG (fun _=>Nat.le_add_right _ _) (fun hk=>?_))))
    · simp only [List.length_append,List.length_cons,List.length_nil];omega
    match k,hk with
    | j+1,_ =>
      have e:2 ^ (j+1)=2 ^ j+2 ^ j:=by rw [Nat.pow_succ];omega
      have h1:=ih a (fM a c) j t;have h2:=ih (fM a c) c j (bP p n a (fM a c) j t).2;simp only [Nat.add_sub_cancel];exact LG (fun _=>by show (bP p n a (fM a c) j t).2.length≤_;omega) (fun _=>by show (bP p n (fM a c) c j (bP p n a (fM a c) j t).2).2.length≤_;omega)
end Go.Num
namespace Go.Proofs.YtkjjponijamaoaaGreatDoor
open Go.Kn Go.Num Tryz
attribute [local irreducible] Go.Kn.W WL PL OpQ OpR OpS
theorem BS (a:(A3 W)) :
    Ret prog 68 [AV [cw a.x.1,cw a.y.1,cw a.z.1]] (AV [pI (((iD a).x).n),pI (((iD a).x).d),pI (((iD a).y).n),pI (((iD a).y).d),pI (((iD a).z).n),pI (((iD a).z).d)]):=by
 refine bL (N:=13) func68 rfl rfl (by simp) (fun w0=>?_);simp only [bO,Nat.reduceAdd];refine go2 ?_;intro b1 hb1;refine go_ ?_;intro b2 hb2;refine go_ ?_;refine oX (sd (sk (s0))) 11 [10] [10] (go2 ?_);refine pQ rfl (bI aB (lQ a.x) rfl) (go2 ?_);refine pQ rfl (bI aB (lQ a.y) rfl) (go2 ?_);refine pQ rfl (bI aB (lQ a.z) rfl) (pQ rfl (oV zpT arT rfl (.cons [pI ((bR a.x).n),pI ((bR a.x).d)] [pI ((bR a.x).n),pI ((bR a.x).d),pI I0,pI I0,pI I0,pI I0] rfl rfl rfl rfl (.cons [pI ((bR a.y).n),pI ((bR a.y).d)] [pI ((bR a.x).n),pI ((bR a.x).d),pI ((bR a.y).n),pI ((bR a.y).d),pI I0,pI I0] rfl rfl rfl rfl (.cons [pI ((bR a.z).n),pI ((bR a.z).d)] [pI ((bR a.x).n),pI ((bR a.x).d),pI ((bR a.y).n),pI ((bR a.y).d),pI ((bR a.z).n),pI ((bR a.z).d)] rfl rfl rfl rfl (.nil _))))) (go3 ?_));refine bA rfl (.inr rfl) (eF rfl m0 tyT rfl) ?_;exact (by rfl)
theorem CU (a:(A3 Rt)) (b:(A3 Rt)) :
    Ret prog 47 [AV [pI a.x.n,pI a.x.d,pI a.y.n,pI a.y.d,pI a.z.n,pI a.z.d],AV [pI b.x.n,pI b.x.d,pI b.y.n,pI b.y.d,pI b.z.n,pI b.z.d]] (AV [pI ((pT a b).n),pI ((pT a b).d)]):=by
 refine bL (N:=22) func47 rfl rfl (by simp) (fun w0=>?_);simp only [bO,Nat.reduceAdd];refine go2 ?_;intro b1 hb1;refine go_ ?_;intro b2 hb2;refine go_ ?_;intro b3 hb3;refine go2 ?_;refine sQ (bI aB (lQ (wl 0)) rfl) rfl ?_;refine go_ ?_;intro b4 hb4;refine go7 ?_;refine sO 5 (go2 ?_);refine sV (.bool true) rfl rfl (jT ?_);refine jQ (sd (sk (sk (sk (s0))))) 10 [9] [9] (go7 ?_);refine pQ rfl (bI aB (lH a.x b.x) rfl) ?_;obtain ⟨r5,hr5⟩:=nm ((kF (bR (wl 0)) (dG a.x b.x)):Rt);refine pC (AV [pI r5.n,pI r5.d]) aB (rA (bR (wl 0)) (dG a.x b.x)) rfl rfl (by rw [hr5]) ?_;refine go3 ?_;refine sV (.int .i64 1) rfl rfl (go4 ?_);refine sV (.bool true) rfl rfl (jT ?_);refine jQ (sd (sk (sk (sk (s0))))) 10 [9] [9] (go7 ?_);refine pQ rfl (bI aB (lH a.y b.y) rfl) ?_;obtain ⟨r6,hr6⟩:=nm ((kF r5 (dG a.y b.y)):Rt);refine pC (AV [pI r6.n,pI r6.d]) aB (rA r5 (dG a.y b.y)) rfl rfl (by rw [hr6]) (go3 ?_);refine sV (.int .i64 2) rfl rfl (go4 ?_);refine sV (.bool true) rfl rfl (jT ?_);refine jQ (sd (sk (sk (sk (s0))))) 10 [9] [9] (go7 ?_);refine pQ rfl (bI aB (lH a.z b.z) rfl) ?_;obtain ⟨r7,hr7⟩:=nm ((kF r6 (dG a.z b.z)):Rt);refine pC (AV [pI r7.n,pI r7.d]) aB (rA r6 (dG a.z b.z)) rfl rfl (by rw [hr7]) (go3 ?_);refine sV (.int .i64 3) rfl rfl (go4 ?_);refine sV (.bool false) rfl rfl (go9 ?_);refine bA rfl (.inr rfl) (eF rfl m1 tyT rfl) ?_;exact (by subst_vars;rfl)
theorem I1 (a:(A3 Rt)) (b:(A3 Rt)) :
    Ret prog 45 [AV [pI a.x.n,pI a.x.d,pI a.y.n,pI a.y.d,pI a.z.n,pI a.z.d],AV [pI b.x.n,pI b.x.d,pI b.y.n,pI b.y.d,pI b.z.n,pI b.z.d]] (AV [pI (((pU a b).x).n),pI (((pU a b).x).d),pI (((pU a b).y).n),pI (((pU a b).y).d),pI (((pU a b).z).n),pI (((pU a b).z).d)]):=by
 refine bL (N:=36) func45 rfl rfl (by simp) (fun w0=>?_);simp only [bO,Nat.reduceAdd];refine go2 ?_;intro b1 hb1;refine go_ ?_;intro b2 hb2;refine go_ ?_;intro b3 hb3;refine go6 ?_;refine sO 5 (go2 ?_);refine sV (.bool true) rfl rfl (vH ?_);refine sV (.int .i64 1) rfl rfl (sQ (aL (v':=.int .i64 1) (rR rfl rfl dd_) rfl) rfl (go_ ?_));refine sV (.int .i64 2) rfl rfl (sQ (aL (v':=.int .i64 2) (rR rfl rfl dd_) rfl) rfl (go3 ?_));refine gdr (sd (sk (sk (s0)))) [0,4,8,12,16,20,24,28,32,36,40,44,48,52,56,60,64,69] [17] mix (by kernel_rfl) (go7 ?_);refine pQ rfl (bI aB (lH a.y b.z) rfl) (go6 ?_);refine pQ rfl (bI aB (lH a.z b.y) rfl) ?_;obtain ⟨r4,hr4⟩:=nm ((eP (dG a.y b.z) (dG a.z b.y)):Rt);refine pC (AV [pI r4.n,pI r4.d]) aB (sU (dG a.y b.z) (dG a.z b.y)) rfl rfl (by rw [hr4]) (go4 ?_);refine sV (.int .i64 1) rfl rfl (go4 ?_);refine sV (.bool true) rfl rfl (vH ?_);refine sV (.int .i64 2) rfl rfl (sQ (aL (v':=.int .i64 2) (rR rfl rfl dd_) rfl) rfl (go_ ?_));refine sV (.int .i64 3) rfl rfl (sQ (aL (v':=.int .i64 0) (rR rfl rfl dd_) rfl) rfl (go3 ?_));refine gdr (sd (sk (sk (s0)))) [0,4,8,12,16,20,24,28,32,36,40,44,48,52,56,60,64,69] [17] mix (by kernel_rfl) (go7 ?_);refine pQ rfl (bI aB (lH a.z b.x) rfl) (go6 ?_);refine pQ rfl (bI aB (lH a.x b.z) rfl) ?_;obtain ⟨r5,hr5⟩:=nm ((eP (dG a.z b.x) (dG a.x b.z)):Rt);refine pC (AV [pI r5.n,pI r5.d]) aB (sU (dG a.z b.x) (dG a.x b.z)) rfl rfl (by rw [hr5]) (go4 ?_);refine sV (.int .i64 2) rfl rfl (go4 ?_);refine sV (.bool true) rfl rfl (vH ?_);refine sV (.int .i64 3) rfl rfl (sQ (aL (v':=.int .i64 0) (rR rfl rfl dd_) rfl) rfl (go_ ?_));refine sV (.int .i64 4) rfl rfl (sQ (aL (v':=.int .i64 1) (rR rfl rfl dd_) rfl) rfl (go3 ?_));refine gdr (sd (sk (sk (s0)))) [0,4,8,12,16,20,24,28,32,36,40,44,48,52,56,60,64,69] [17] mix (by kernel_rfl) (go7 ?_);refine pQ rfl (bI aB (lH a.x b.y) rfl) (go6 ?_);refine pQ rfl (bI aB (lH a.y b.x) rfl) ?_;obtain ⟨r6,hr6⟩:=nm ((eP (dG a.x b.y) (dG a.y b.x)):Rt);refine pC (AV [pI r6.n,pI r6.d]) aB (sU (dG a.x b.y) (dG a.y b.x)) rfl rfl (by rw [hr6]) (go4 ?_);refine sV (.int .i64 3) rfl rfl (go4 ?_);refine sV (.bool false) rfl rfl (go9 ?_);refine bA rfl (.inr rfl) (eF rfl m0 tyT rfl) ?_;exact (by subst_vars;rfl)
theorem JY (a:(A3 Rt)) (b:(A3 Rt)) :
    Ret prog 48 [AV [pI a.x.n,pI a.x.d,pI a.y.n,pI a.y.d,pI a.z.n,pI a.z.d],AV [pI b.x.n,pI b.x.d,pI b.y.n,pI b.y.d,pI b.z.n,pI b.z.d]] (AV [pI (((qX a b).x).n),pI (((qX a b).x).d),pI (((qX a b).y).n),pI (((qX a b).y).d),pI (((qX a b).z).n),pI (((qX a b).z).d)]):=by
 refine bL (N:=20) func48 rfl rfl (by simp) (fun w0=>?_);simp only [bO,Nat.reduceAdd];refine go2 ?_;intro b1 hb1;refine go_ ?_;intro b2 hb2;refine go_ ?_;intro b3 hb3;refine go6 ?_;refine sO 5 (go2 ?_);refine sV (.bool true) rfl rfl (jT ?_);refine jQ (sk (sk (sd (s0)))) 10 [9] [9] (go7 ?_);refine pQ rfl (bI aB (rA a.x b.x) rfl) (go4 ?_);refine sV (.int .i64 1) rfl rfl (go4 ?_);refine sV (.bool true) rfl rfl (jT ?_);refine jQ (sk (sk (sd (s0)))) 10 [9] [9] (go7 ?_);refine pQ rfl (bI aB (rA a.y b.y) rfl) (go4 ?_);refine sV (.int .i64 2) rfl rfl (go4 ?_);refine sV (.bool true) rfl rfl (jT ?_);refine jQ (sk (sk (sd (s0)))) 10 [9] [9] (go7 ?_);refine pQ rfl (bI aB (rA a.z b.z) rfl) (go4 ?_);refine sV (.int .i64 3) rfl rfl (go4 ?_);refine sV (.bool false) rfl rfl (go9 ?_);refine bA rfl (.inr rfl) (eF rfl m0 tyT rfl) ?_;exact (by rfl)
theorem yO (a:(A3 Rt)) (b:(A3 Rt)) :
    Ret prog 42 [AV [pI a.x.n,pI a.x.d,pI a.y.n,pI a.y.d,pI a.z.n,pI a.z.d],AV [pI b.x.n,pI b.x.d,pI b.y.n,pI b.y.d,pI b.z.n,pI b.z.d]] (AV [pI (((jS a b).x).n),pI (((jS a b).x).d),pI (((jS a b).y).n),pI (((jS a b).y).d),pI (((jS a b).z).n),pI (((jS a b).z).d)]):=by
 refine bL (N:=20) func42 rfl rfl (by simp) (fun w0=>?_);simp only [bO,Nat.reduceAdd];refine go2 ?_;intro b1 hb1;refine go_ ?_;intro b2 hb2;refine go_ ?_;intro b3 hb3;refine go6 ?_;refine sO 5 (go2 ?_);refine sV (.bool true) rfl rfl (jT ?_);refine jQ (sk (sk (sd (s0)))) 10 [9] [9] (go7 ?_);refine pQ rfl (bI aB (sU a.x b.x) rfl) (go4 ?_);refine sV (.int .i64 1) rfl rfl (go4 ?_);refine sV (.bool true) rfl rfl (jT ?_);refine jQ (sk (sk (sd (s0)))) 10 [9] [9] (go7 ?_);refine pQ rfl (bI aB (sU a.y b.y) rfl) (go4 ?_);refine sV (.int .i64 2) rfl rfl (go4 ?_);refine sV (.bool true) rfl rfl (jT ?_);refine jQ (sk (sk (sd (s0)))) 10 [9] [9] (go7 ?_);refine pQ rfl (bI aB (sU a.z b.z) rfl) (go4 ?_);refine sV (.int .i64 3) rfl rfl (go4 ?_);refine sV (.bool false) rfl rfl (go9 ?_);refine bA rfl (.inr rfl) (eF rfl m0 tyT rfl) ?_;exact (by rfl)
theorem I2 (a:Rt) (b:(A3 Rt)) :
    Ret prog 49 [AV [pI a.n,pI a.d],AV [pI b.x.n,pI b.x.d,pI b.y.n,pI b.y.d,pI b.z.n,pI b.z.d]] (AV [pI (((kR a b).x).n),pI (((kR a b).x).d),pI (((kR a b).y).n),pI (((kR a b).y).d),pI (((kR a b).z).n),pI (((kR a b).z).d)]):=by
 refine bL (N:=18) func49 rfl rfl (by simp) (fun w0=>?_);simp only [bO,Nat.reduceAdd];refine go2 ?_;intro b1 hb1;refine go_ ?_;intro b2 hb2;refine go_ ?_;intro b3 hb3;refine go6 ?_;refine sO 5 (go2 ?_);refine sV (.bool true) rfl rfl (jT ?_);refine jQ (sk (sd (sk (s0)))) 8 [7] [7] (go5 ?_);refine pQ rfl (bI aB (lH a b.x) rfl) (go4 ?_);refine sV (.int .i64 1) rfl rfl (go4 ?_);refine sV (.bool true) rfl rfl (jT ?_);refine jQ (sk (sd (sk (s0)))) 8 [7] [7] (go5 ?_);refine pQ rfl (bI aB (lH a b.y) rfl) (go4 ?_);refine sV (.int .i64 2) rfl rfl (go4 ?_);refine sV (.bool true) rfl rfl (jT ?_);refine jQ (sk (sd (sk (s0)))) 8 [7] [7] (go5 ?_);refine pQ rfl (bI aB (lH a b.z) rfl) (go4 ?_);refine sV (.int .i64 3) rfl rfl (go4 ?_);refine sV (.bool false) rfl rfl (go9 ?_);refine bA rfl (.inr rfl) (eF rfl m0 tyT rfl) ?_;exact (by rfl)
theorem w8 (a:Pose) :
    Ret prog 69 [AV [cw a.x.x.1,cw a.x.y.1,cw a.x.z.1,cw a.q.x.1,cw a.q.y.1,cw a.q.z.1,cw a.q.t.1]] (.int .i64 ((kC a).1)):=by
 refine bL (N:=21) func69 rfl rfl (by simp) (fun w0=>?_);simp only [bO,Nat.reduceAdd];refine go2 ?_;intro b1 hb1;refine go9 ?_;refine sO 5 (go2 ?_);refine sV (.bool true) rfl rfl (jT ?_);refine gJv [10,11,12,13,14,15] [(15,.bool (decide (140737488355328≤a.x.x.1)||decide (a.x.x.1≤(-140737488355328))))] (fun K5 J5=>?_) ?_
 ·refine go3 ?_;refine sBB rfl (fun h3=>?_) (fun h3=>?_)
  ·have ph3:=of_decide_eq_true h3;refine go4 ?_;refine J5 _ _ pp_ s0 (bK (mF h3))
  have ph3:=of_decide_eq_false h3;refine go4 ?_;refine J5 _ _ pp_ s0 (bK (j9 h3 rfl))
 intro g4;refine aH _ rfl (fun h5=>?_) (fun h5=>?_)
 ·refine go4 ?_;refine bA rfl (.inr rfl) rfl ?_;exact congrArg vS8 (show _=(kC a) from aY h5 rfl)
 refine go2 ?_;refine sV (.int .i64 1) rfl rfl (go4 ?_);refine sV (.bool true) rfl rfl (jT ?_);refine gJv [10,11,12,13,14,15] [(15,.bool (decide (140737488355328≤a.x.y.1)||decide (a.x.y.1≤(-140737488355328))))] (fun K9 J9=>?_) ?_
 ·refine go3 ?_;refine sBB rfl (fun h7=>?_) (fun h7=>?_)
  ·have ph7:=of_decide_eq_true h7;refine go4 ?_;refine J9 _ _ pp_ s0 (bK (mF h7))
  have ph7:=of_decide_eq_false h7;refine go4 ?_;refine J9 _ _ pp_ s0 (bK (j9 h7 rfl))
 intro g8;refine aH _ rfl (fun h9=>?_) (fun h9=>?_)
 ·refine go4 ?_;refine bA rfl (.inr rfl) rfl ?_;exact congrArg vS8 (show _=(kC a) from aI h5 (aY h9 rfl))
 refine go2 ?_;refine sV (.int .i64 2) rfl rfl (go4 ?_);refine sV (.bool true) rfl rfl (jT ?_);refine gJv [10,11,12,13,14,15] [(15,.bool (decide (140737488355328≤a.x.z.1)||decide (a.x.z.1≤(-140737488355328))))] (fun K13 J13=>?_) ?_
 ·refine go3 ?_;refine sBB rfl (fun h11=>?_) (fun h11=>?_)
  ·have ph11:=of_decide_eq_true h11;refine go4 ?_;refine J13 _ _ pp_ s0 (bK (mF h11))
  have ph11:=of_decide_eq_false h11;refine go4 ?_;refine J13 _ _ pp_ s0 (bK (j9 h11 rfl))
 intro g12;refine aH _ rfl (fun h13=>?_) (fun h13=>?_)
 ·refine go4 ?_;refine bA rfl (.inr rfl) rfl ?_;exact congrArg vS8 (show _=(kC a) from aI h5 (aI h9 (aY h13 rfl)))
 refine go2 ?_;refine sV (.int .i64 3) rfl rfl (go4 ?_);refine sV (.bool false) rfl rfl (go8 ?_);refine sQ (bI aB (MW a.q) rfl) rfl (go2 ?_);rcases bt (tP a.q) with h14 | h14
 ·refine W_f (gE h14) rfl (go5 ?_);refine bA rfl (.inr rfl) rfl ?_;exact congrArg vS8 (show _=(kC a) from aI h5 (aI h9 (aI h13 (aY h14 rfl))))
 refine W_t (iK h14) rfl (go4 ?_);refine bA rfl (.inr rfl) rfl ?_;exact congrArg vS8 (show _=(kC a) from aI h5 (aI h9 (aI h13 (aI h14 rfl))))
theorem GS (a:Path) :
    Ret prog 98 [AV [cw a.from_.x.x.1,cw a.from_.x.y.1,cw a.from_.x.z.1,cw a.from_.q.x.1,cw a.from_.q.y.1,cw a.from_.q.z.1,cw a.from_.q.t.1,cw a.to_.x.x.1,cw a.to_.x.y.1,cw a.to_.x.z.1,cw a.to_.q.x.1,cw a.to_.q.y.1,cw a.to_.q.z.1,cw a.to_.q.t.1]] (.int .i64 ((nW a).1)):=by
 refine bL (N:=13) func98 rfl rfl (by simp) (fun w0=>?_);simp only [bO,Nat.reduceAdd];refine go2 ?_;intro b1 hb1;refine go3 ?_;refine gJv [3,4,5,6,7,8,9,10,11,12] [(12,.bool (((kC a.from_).1 != 0)||((kC a.to_).1 != 0)))] (fun K2 J2=>?_) ?_
 ·refine go3 ?_;refine sQ (bI aB (w8 a.from_) rfl) rfl (go_ ?_);refine sBB rfl (fun h3=>?_) (fun h3=>?_)
  ·refine go6 ?_;refine J2 _ _ pp_ s0 (bK (mF h3))
  refine go2 ?_;refine sQ (bI aB (w8 a.to_) rfl) rfl (go3 ?_);refine J2 _ _ pp_ s0 (bK (j9 h3 rfl))
 intro g4;refine aH _ rfl (fun h5=>?_) (fun h5=>?_)
 ·refine go4 ?_;refine bA rfl (.inr rfl) rfl ?_;exact congrArg vS8 (show _=(nW a) from aY h5 rfl)
 refine go5 ?_;refine bA rfl (.inr rfl) rfl ?_;exact congrArg vS8 (show _=(nW a) from aI h5 rfl)
theorem MQ (a:Pose) (b:(A3 W)) :
    Ret prog 70 [AV [cw a.x.x.1,cw a.x.y.1,cw a.x.z.1,cw a.q.x.1,cw a.q.y.1,cw a.q.z.1,cw a.q.t.1],AV [cw b.x.1,cw b.y.1,cw b.z.1]] (AV [pI (((pH a b).x).n),pI (((pH a b).x).d),pI (((pH a b).y).n),pI (((pH a b).y).d),pI (((pH a b).z).n),pI (((pH a b).z).d)]):=by
 refine bL (N:=13) func70 rfl rfl (by simp) (fun w0=>?_);simp only [bO,Nat.reduceAdd];refine go2 ?_;intro b1 hb1;refine go_ ?_;intro b2 hb2;refine go_ ?_;intro b3 hb3;refine go_ ?_;refine oX (sd s0) 9 [8] [8] (go2 ?_);obtain ⟨r4,hr4⟩:=nm ((iD a.x):(A3 Rt));refine pC (AV [pI r4.x.n,pI r4.x.d,pI r4.y.n,pI r4.y.d,pI r4.z.n,pI r4.z.d]) aB (BS a.x) rfl rfl (by rw [hr4]) (go3 ?_);obtain ⟨r5,hr5⟩:=nm ((qV a.q b):(A3 Rt));refine pC (AV [pI r5.x.n,pI r5.x.d,pI r5.y.n,pI r5.y.d,pI r5.z.n,pI r5.z.d]) aB (JU a.q b) rfl rfl (by rw [hr5]) ?_;obtain ⟨r6,hr6⟩:=nm ((qX r4 r5):(A3 Rt));refine pC (AV [pI r6.x.n,pI r6.x.d,pI r6.y.n,pI r6.y.d,pI r6.z.n,pI r6.z.d]) aB (JY r4 r5) rfl rfl (by rw [hr6]) (go3 ?_);refine bA rfl (.inr rfl) (eF rfl m0 tyT rfl) ?_;exact (by subst_vars;rfl)
end Go.Proofs.YtkjjponijamaoaaGreatDoor
