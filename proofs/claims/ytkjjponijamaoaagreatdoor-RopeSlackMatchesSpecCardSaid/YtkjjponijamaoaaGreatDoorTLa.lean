/- Lemmas: what they ask stands in their statements. -/
import Derived.Test.YtkjjponijamaoaaGreatDoorTOl
import Derived.Test.YtkjjponijamaoaaGreatDoorTOm
set_option linter.unusedSimpArgs false
set_option linter.unusedVariables false
set_option maxHeartbeats 8000000
set_option maxRecDepth 20000
namespace Go.Proofs.YtkjjponijamaoaaGreatDoor
open Go.Kn Go.Num Tryz
attribute [local irreducible] Go.Kn.W WL PL OpQ OpR OpS
theorem xW (a:W) (b:W) (c:W) (d:W) (e:W) (x:W) :
    Ret prog 66 [.int .i64 a.1,.int .i64 b.1,.int .i64 c.1,.int .i64 d.1,.int .i64 e.1,.int .i64 x.1] (AV [pI (((fY a b c d e x).x0).n),pI (((fY a b c d e x).x0).d),pI (((fY a b c d e x).x1).n),pI (((fY a b c d e x).x1).d),pI (((fY a b c d e x).x2).n),pI (((fY a b c d e x).x2).d),pI (((fY a b c d e x).x3).n),pI (((fY a b c d e x).x3).d),pI (((fY a b c d e x).x4).n),pI (((fY a b c d e x).x4).d),pI (((fY a b c d e x).x5).n),pI (((fY a b c d e x).x5).d)]):=by
 refine bL (N:=26) func66 rfl rfl (by simp) (fun w0=>?_);simp only [bO,Nat.reduceAdd];refine go2 ?_;intro b1 hb1;refine go3 ?_;refine sQ (bI aB (hJ a) rfl) rfl (go_ ?_);refine sQ (bI aB (hJ b) rfl) rfl (go_ ?_);refine sQ (bI aB (hJ c) rfl) rfl (go_ ?_);refine sQ (bI aB (hJ d) rfl) rfl (go_ ?_);refine sQ (bI aB (hJ e) rfl) rfl (go_ ?_);refine sQ (bI aB (hJ x) rfl) rfl (go_ ?_);refine sS [pI ((aJ a).n),pI ((aJ a).d),pI ((aJ b).n),pI ((aJ b).d),pI ((aJ c).n),pI ((aJ c).d),pI ((aJ d).n),pI ((aJ d).d),pI ((aJ e).n),pI ((aJ e).d),pI ((aJ x).n),pI ((aJ x).d)] tyT rfl rfl rfl rfl rfl uH rfl hb1 (go2 ?_);refine bA rfl (.inr rfl) (eF rfl m0 tyT rfl) ?_;exact (by rfl)
theorem qH (a:W) (b:W) (c:W) :
    Ret prog 46 [.int .i64 a.1,.int .i64 b.1,.int .i64 c.1] (AV [pI (((hZ a b c).x).n),pI (((hZ a b c).x).d),pI (((hZ a b c).y).n),pI (((hZ a b c).y).d),pI (((hZ a b c).z).n),pI (((hZ a b c).z).d)]):=by
 refine bL (N:=12) func46 rfl rfl (by simp) (fun w0=>?_);simp only [bO,Nat.reduceAdd];refine go2 ?_;intro b1 hb1;refine go6 ?_;obtain ⟨r2,hr2⟩:=nm ((mQ (⟨a,b,c⟩:(A3 W))):(A3 Rt));refine sC (AV [pI r2.x.n,pI r2.x.d,pI r2.y.n,pI r2.y.d,pI r2.z.n,pI r2.z.d]) aB (E9 (⟨a,b,c⟩:(A3 W))) rfl rfl (by rw [hr2]) (go3 ?_);refine bA rfl (.inr rfl) (eF rfl m0 tyT rfl) ?_;exact (by obtain rfl:=hr2.symm;rfl)
theorem i6  :
    Ret prog 13 [] (.bool F_skewbacklaw26_sanity):=by
 refine bL (N:=155) func13 rfl rfl (by simp) (fun w0=>?_);simp only [bO,Nat.reduceAdd];obtain ⟨q0,hq0⟩:=nm ((jM (⟨(wl 0),(wl 2),(⟨(wl 10),(wl 0),(wl 20)⟩:(A3 W)),(⟨(wl 0),(wl 0),(wl 4)⟩:(A3 W))⟩:Rope) [(⟨(⟨(wl 10),(wl 0),(wl 0)⟩:(A3 W)),(⟨(wl 1),(wl 0),(wl 0),(wl 0)⟩:(A4 W))⟩:Pose),(⟨(⟨(wl 10),(wl 0),(wl 8)⟩:(A3 W)),(⟨(wl 1),(wl 0),(wl 0),(wl 0)⟩:(A4 W))⟩:Pose)]).1:Pull);obtain ⟨q1,hq1⟩:=nm ((jM (⟨(wl 0),(wl 2),(⟨(wl 10),(wl 0),(wl 20)⟩:(A3 W)),(⟨(wl 0),(wl 0),(wl 4)⟩:(A3 W))⟩:Rope) [(⟨(⟨(wl 10),(wl 0),(wl 0)⟩:(A3 W)),(⟨(wl 1),(wl 0),(wl 0),(wl 0)⟩:(A4 W))⟩:Pose),(⟨(⟨(wl 10),(wl 0),(wl 8)⟩:(A3 W)),(⟨(wl 1),(wl 0),(wl 0),(wl 0)⟩:(A4 W))⟩:Pose)]).2:W);obtain ⟨q2,hq2⟩:=nm ((nO q0).1:I);obtain ⟨q3,hq3⟩:=nm ((nO q0).2:I);obtain ⟨q4,hq4⟩:=nm ((d8 q0).1:(A3 W));obtain ⟨q5,hq5⟩:=nm ((d8 q0).2:W);obtain ⟨q6,hq6⟩:=nm ((dU q0).1:(A6 Rt));obtain ⟨q7,hq7⟩:=nm ((dU q0).2.1:(A6 Rt));obtain ⟨q8,hq8⟩:=nm ((dU q0).2.2:W);obtain ⟨q9,hq9⟩:=nm ((hZ (wl 10) (wl 0) (wl 20)):(A3 Rt));obtain ⟨q10,hq10⟩:=nm ((hZ (wl 10) (wl 0) (wl 12)):(A3 Rt));obtain ⟨q11,hq11⟩:=nm ((eL q0):Rt);obtain ⟨q12,hq12⟩:=nm ((bR (wl 64)):Rt);obtain ⟨q13,hq13⟩:=nm ((E (Z.of 8)):I);obtain ⟨q14,hq14⟩:=nm ((fY (wl 0) (wl 0) (wl (-1)) (wl 0) (wl 10) (wl 0)):(A6 Rt));obtain ⟨q15,hq15⟩:=nm ((fY (wl 0) (wl 0) (wl 1) (wl 0) (wl (-10)) (wl 0)):(A6 Rt));obtain ⟨q16,hq16⟩:=nm ((hZ (wl 10) (wl 0) (wl 0)):(A3 Rt));obtain ⟨q17,hq17⟩:=nm ((dZ (⟨(⟨(⟨(wl 10),(wl 0),(wl 0)⟩:(A3 W)),(⟨(wl 1),(wl 0),(wl 0),(wl 0)⟩:(A4 W))⟩:Pose),(⟨(⟨(wl 10),(wl 0),(wl 8)⟩:(A3 W)),(⟨(wl 1),(wl 0),(wl 0),(wl 0)⟩:(A4 W))⟩:Pose)⟩:Path) (⟨(wl 0),(wl 0),(wl 0)⟩:(A3 W)) q16 q12 0).1:(List Rt));obtain ⟨q18,hq18⟩:=nm ((dZ (⟨(⟨(⟨(wl 10),(wl 0),(wl 0)⟩:(A3 W)),(⟨(wl 1),(wl 0),(wl 0),(wl 0)⟩:(A4 W))⟩:Pose),(⟨(⟨(wl 10),(wl 0),(wl 8)⟩:(A3 W)),(⟨(wl 1),(wl 0),(wl 0),(wl 0)⟩:(A4 W))⟩:Pose)⟩:Path) (⟨(wl 0),(wl 0),(wl 0)⟩:(A3 W)) q16 q12 0).2:W);obtain ⟨q19,hq19⟩:=nm ((bR (wl 63)):Rt);obtain ⟨q20,hq20⟩:=nm ((dZ (⟨(⟨(⟨(wl 10),(wl 0),(wl 0)⟩:(A3 W)),(⟨(wl 1),(wl 0),(wl 0),(wl 0)⟩:(A4 W))⟩:Pose),(⟨(⟨(wl 10),(wl 0),(wl 8)⟩:(A3 W)),(⟨(wl 1),(wl 0),(wl 0),(wl 0)⟩:(A4 W))⟩:Pose)⟩:Path) (⟨(wl 0),(wl 0),(wl 0)⟩:(A3 W)) q16 q19 0).1:(List Rt));obtain ⟨q21,hq21⟩:=nm ((dZ (⟨(⟨(⟨(wl 10),(wl 0),(wl 0)⟩:(A3 W)),(⟨(wl 1),(wl 0),(wl 0),(wl 0)⟩:(A4 W))⟩:Pose),(⟨(⟨(wl 10),(wl 0),(wl 8)⟩:(A3 W)),(⟨(wl 1),(wl 0),(wl 0),(wl 0)⟩:(A4 W))⟩:Pose)⟩:Path) (⟨(wl 0),(wl 0),(wl 0)⟩:(A3 W)) q16 q19 0).2:W);obtain ⟨q22,hq22⟩:=nm ((tM (wl 5) (wl 2) [(⟨(⟨(wl 10),(wl 0),(wl 0)⟩:(A3 W)),(⟨(wl 1),(wl 0),(wl 0),(wl 0)⟩:(A4 W))⟩:Pose),(⟨(⟨(wl 10),(wl 0),(wl 8)⟩:(A3 W)),(⟨(wl 1),(wl 0),(wl 0),(wl 0)⟩:(A4 W))⟩:Pose),(⟨(⟨(wl 10),(wl 0),(wl 0)⟩:(A3 W)),(⟨(wl 1),(wl 0),(wl 0),(wl 0)⟩:(A4 W))⟩:Pose)]).1:I);obtain ⟨q23,hq23⟩:=nm ((tM (wl 5) (wl 2) [(⟨(⟨(wl 10),(wl 0),(wl 0)⟩:(A3 W)),(⟨(wl 1),(wl 0),(wl 0),(wl 0)⟩:(A4 W))⟩:Pose),(⟨(⟨(wl 10),(wl 0),(wl 8)⟩:(A3 W)),(⟨(wl 1),(wl 0),(wl 0),(wl 0)⟩:(A4 W))⟩:Pose),(⟨(⟨(wl 10),(wl 0),(wl 0)⟩:(A3 W)),(⟨(wl 1),(wl 0),(wl 0),(wl 0)⟩:(A4 W))⟩:Pose)]).2:W);obtain ⟨q24,hq24⟩:=nm ((bR (wl 1)):Rt);obtain ⟨q25,hq25⟩:=nm ((gI q17 [q24]):Bool);obtain ⟨q26,hq26⟩:=nm ((E (Z.of 80)):I);refine go8 ?_;intro b1 hb1;refine go7 ?_;intro b2 hb2;refine go5 ?_;refine bD rfl (bU [[cw 10,cw 0,cw 0,cw 1,cw 0,cw 0,cw 0],[cw 10,cw 0,cw 8,cw 1,cw 0,cw 0,cw 0]] [cw 10,cw 0,cw 0,cw 1,cw 0,cw 0,cw 0,cw 10,cw 0,cw 8,cw 1,cw 0,cw 0,cw 0] e0_ h2_ eZ_ rfl dd_ rfl rfl ⟨rfl,rfl,rfl,rfl,rfl,rfl,trivial⟩ rfl (fun b3 hb3=>go7 ?_));refine sQ (aL (v':=.tuple #[AV [cw q0.a.1,cw q0.b.1,pI q0.p.x.n,pI q0.p.x.d,pI q0.p.y.n,pI q0.p.y.d,pI q0.p.z.n,pI q0.p.z.d,pI q0.q.x.n,pI q0.q.x.d,pI q0.q.y.n,pI q0.q.y.d,pI q0.q.z.n,pI q0.q.z.d],.int .i64 q1.1]) (bT aB rfl (fun w hw=>(by rw [hq0,hq1];exact N8 (⟨(wl 0),(wl 2),(⟨(wl 10),(wl 0),(wl 20)⟩:(A3 W)),(⟨(wl 0),(wl 0),(wl 4)⟩:(A3 W))⟩:Rope) _ [(⟨(⟨(wl 10),(wl 0),(wl 0)⟩:(A3 W)),(⟨(wl 1),(wl 0),(wl 0),(wl 0)⟩:(A4 W))⟩:Pose),(⟨(⟨(wl 10),(wl 0),(wl 8)⟩:(A3 W)),(⟨(wl 1),(wl 0),(wl 0),(wl 0)⟩:(A4 W))⟩:Pose)] w (SLe.ap hw (SLe.lit (e:=wW) (l:=[(⟨(⟨(wl 10),(wl 0),(wl 0)⟩:(A3 W)),(⟨(wl 1),(wl 0),(wl 0),(wl 0)⟩:(A4 W))⟩:Pose),(⟨(⟨(wl 10),(wl 0),(wl 8)⟩:(A3 W)),(⟨(wl 1),(wl 0),(wl 0),(wl 0)⟩:(A4 W))⟩:Pose)]) m0 rfl (Nat.le_of_ble_eq_true rfl) rfl)) (by exact ⟨by kernel_rfl,by kernel_rfl,by kernel_rfl,by kernel_rfl,by kernel_rfl,by kernel_rfl,by kernel_rfl,by kernel_rfl,by kernel_rfl,by kernel_rfl,trivial⟩)))) rfl) rfl ?_;refine go4 ?_;intro b4 hb4;refine sS [cw q0.a.1,cw q0.b.1,pI q0.p.x.n,pI q0.p.x.d,pI q0.p.y.n,pI q0.p.y.d,pI q0.p.z.n,pI q0.p.z.d,pI q0.q.x.n,pI q0.q.x.d,pI q0.q.y.n,pI q0.q.y.d,pI q0.q.z.n,pI q0.q.z.d] tyT rfl rfl rfl rfl rfl uH rfl hb4 (go4 ?_);refine sC (.tuple #[AV [pI q2],AV [pI q3]]) aB (JW q0) rfl rfl (by rw [hq2,hq3];first | done | rfl) (go4 ?_);intro b5 hb5;refine go_ ?_;intro b6 hb6;refine go5 ?_;refine sQ (aL (v':=.tuple #[AV [cw q4.x.1,cw q4.y.1,cw q4.z.1],.int .i64 q5.1]) (bT aB rfl (fun w hw=>(by rw [hq4,hq5];exact z8 q0 w))) rfl) rfl (go4 ?_);intro b7 hb7;refine go5 ?_;refine sQ (aL (v':=.tuple #[AV [pI q6.x0.n,pI q6.x0.d,pI q6.x1.n,pI q6.x1.d,pI q6.x2.n,pI q6.x2.d,pI q6.x3.n,pI q6.x3.d,pI q6.x4.n,pI q6.x4.d,pI q6.x5.n,pI q6.x5.d],AV [pI q7.x0.n,pI q7.x0.d,pI q7.x1.n,pI q7.x1.d,pI q7.x2.n,pI q7.x2.d,pI q7.x3.n,pI q7.x3.d,pI q7.x4.n,pI q7.x4.d,pI q7.x5.n,pI q7.x5.d],.int .i64 q8.1]) (bT aB rfl (fun w hw=>(by rw [hq6,hq7,hq8];exact JX q0 w (by rw [hq0];exact ⟨by kernel_rfl,by kernel_rfl,by kernel_rfl,by kernel_rfl,by kernel_rfl,by kernel_rfl,by kernel_rfl,by kernel_rfl,by kernel_rfl,by kernel_rfl,by kernel_rfl,by kernel_rfl,by kernel_rfl,trivial⟩)))) rfl) rfl (go5 ?_);intro b8 hb8;refine go_ ?_;intro b9 hb9;refine sS [pI q6.x0.n,pI q6.x0.d,pI q6.x1.n,pI q6.x1.d,pI q6.x2.n,pI q6.x2.d,pI q6.x3.n,pI q6.x3.d,pI q6.x4.n,pI q6.x4.d,pI q6.x5.n,pI q6.x5.d] tyT rfl rfl rfl rfl rfl (uT uH) rfl hb8 (sS [pI q7.x0.n,pI q7.x0.d,pI q7.x1.n,pI q7.x1.d,pI q7.x2.n,pI q7.x2.d,pI q7.x3.n,pI q7.x3.d,pI q7.x4.n,pI q7.x4.d,pI q7.x5.n,pI q7.x5.d] tyT rfl rfl rfl rfl rfl uH rfl hb9 (go2 ?_));refine gds s0 [0,4,8,12,16,20,24,28,32,36,40,44,48,52,56,60,64,68,72,76,80,84,88,92,96,100] [] mix (by kernel_rfl) (go2 ?_);have hx1:(q1.1==0)=true:=(by rw [hq1];kernel_rfl);refine pB hx1 rfl (go_ ?_);refine pC (AV [pI q9.x.n,pI q9.x.d,pI q9.y.n,pI q9.y.d,pI q9.z.n,pI q9.z.d]) aB (qH (wl 10) (wl 0) (wl 20)) rfl rfl (by rw [hq9]) ?_;refine pC (AV [pI q10.x.n,pI q10.x.d,pI q10.y.n,pI q10.y.d,pI q10.z.n,pI q10.z.d]) aB (qH (wl 10) (wl 0) (wl 12)) rfl rfl (by rw [hq10]) ?_;refine pQ rfl (oW zpT plT rfl (.cons [cw 2] [cw 0,cw 2,pI I0,pI I0,pI I0,pI I0,pI I0,pI I0,pI I0,pI I0,pI I0,pI I0,pI I0,pI I0] rfl rfl rfl rfl (.cons [pI q9.x.n,pI q9.x.d,pI q9.y.n,pI q9.y.d,pI q9.z.n,pI q9.z.d] [cw 0,cw 2,pI q9.x.n,pI q9.x.d,pI q9.y.n,pI q9.y.d,pI q9.z.n,pI q9.z.d,pI I0,pI I0,pI I0,pI I0,pI I0,pI I0] rfl rfl rfl rfl (.cons [pI q10.x.n,pI q10.x.d,pI q10.y.n,pI q10.y.d,pI q10.z.n,pI q10.z.d] [cw 0,cw 2,pI q9.x.n,pI q9.x.d,pI q9.y.n,pI q9.y.d,pI q9.z.n,pI q9.z.d,pI q10.x.n,pI q10.x.d,pI q10.y.n,pI q10.y.d,pI q10.z.n,pI q10.z.d] rfl rfl rfl rfl (.nil _))))) ?_;refine pQ rfl (vT (r:=(decide (q0.a.1=0)&&(decide (q0.b.1=2)&&(decide (q0.p.x.n=q9.x.n)&&(decide (q0.p.x.d=q9.x.d)&&(decide (q0.p.y.n=q9.y.n)&&(decide (q0.p.y.d=q9.y.d)&&(decide (q0.p.z.n=q9.z.n)&&(decide (q0.p.z.d=q9.z.d)&&(decide (q0.q.x.n=q10.x.n)&&(decide (q0.q.x.d=q10.x.d)&&(decide (q0.q.y.n=q10.y.n)&&(decide (q0.q.y.d=q10.y.d)&&(decide (q0.q.z.n=q10.z.n)&&decide (q0.q.z.d=q10.z.d))))))))))))))) rfl rfl (oB 8 dd_ g9_ hl_ (cQ tO (cQ tO (cQ fH (cQ fH (cQ fH (cQ fH (cQ fH (cQ fH (cQ fH (cQ fH (cQ fH (cQ fH (cQ fH (mU fH)))))))))))))) (cQ tO (cQ tO (cQ fH (cQ fH (cQ fH (cQ fH (cQ fH (cQ fH (cQ fH (cQ fH (cQ fH (cQ fH (cQ fH (mU fH)))))))))))))) (fU rfl B7 (fU rfl B7 (fU rfl lT (fU rfl lT (fU rfl lT (fU rfl lT (fU rfl lT (fU rfl lT (fU rfl lT (fU rfl lT (fU rfl lT (fU rfl lT (fU rfl lT (sH lT)))))))))))))))) (go_ ?_);have hx2:(decide (q0.a.1=0)&&(decide (q0.b.1=2)&&(decide (q0.p.x.n=q9.x.n)&&(decide (q0.p.x.d=q9.x.d)&&(decide (q0.p.y.n=q9.y.n)&&(decide (q0.p.y.d=q9.y.d)&&(decide (q0.p.z.n=q9.z.n)&&(decide (q0.p.z.d=q9.z.d)&&(decide (q0.q.x.n=q10.x.n)&&(decide (q0.q.x.d=q10.x.d)&&(decide (q0.q.y.n=q10.y.n)&&(decide (q0.q.y.d=q10.y.d)&&(decide (q0.q.z.n=q10.z.n)&&decide (q0.q.z.d=q10.z.d))))))))))))))=true:=(by rw [hq0,hq9,hq10];kernel_rfl);refine pB hx2 rfl (go_ ?_);refine pC (AV [pI q11.n,pI q11.d]) aB (DY q0) rfl rfl (by rw [hq11]) (pC (AV [pI q12.n,pI q12.d]) aB (lQ (wl 64)) rfl rfl (by rw [hq12]) ?_);refine pQ rfl (vT (r:=(decide (q11.n=q12.n)&&decide (q11.d=q12.d))) rfl rfl (oB 8 dd_ SJ S8 (cQ fH (mU fH)) (cQ fH (mU fH)) (fU rfl lT (sH lT)))) (go_ ?_);have hx3:(decide (q11.n=q12.n)&&decide (q11.d=q12.d))=true:=(by rw [hq11,hq12,hq0];kernel_rfl);refine pB hx3 rfl (go_ ?_);refine pC (AV [pI q13]) aB (dO (wl 8).1 (wl 8).2) rfl rfl (by subst hq13;rfl) ?_;refine pQ rfl (vT (r:=decide (q2=q13)) rfl rfl (oB 8 dd_ OR O0 (mU fH) (mU fH) (sH lT))) (go_ ?_);have hx4:(decide (q2=q13))=true:=(by rw [hq2,hq13,hq0];kernel_rfl);refine pB hx4 rfl (go_ ?_);refine pC (AV [pI q13]) aB (dO (wl 8).1 (wl 8).2) rfl rfl (by subst hq13;rfl) ?_;refine pQ rfl (vT (r:=decide (q3=q13)) rfl rfl (oB 8 dd_ OR O0 (mU fH) (mU fH) (sH lT))) (go3 ?_);refine i9 (sk (sk (sk (sd (sd (sd (sd (s0)))))))) ?_;refine gds s0 [0,4,8,12,16,20,24,28,32,36,40,44,48,52,56,60,64,68,72,76,80,84] [] mix (by kernel_rfl) (go2 ?_);have hx5:(q5.1==0)=true:=(by rw [hq5,hq0];kernel_rfl);refine pB hx5 rfl (go3 ?_);have hx6:(q8.1==0)=true:=(by rw [hq8,hq0];kernel_rfl);refine pB hx6 rfl (go_ ?_);refine pQ rfl (oV zpT arT rfl (.cons [cw 0] [cw 0,cw 0,cw 0] rfl rfl rfl rfl (.cons [cw 0] [cw 0,cw 0,cw 0] rfl rfl rfl rfl (.cons [cw (-1)] [cw 0,cw 0,cw (-1)] rfl rfl rfl rfl (.nil _))))) ?_;refine pQ rfl (vT (r:=(decide (q4.x.1=0)&&(decide (q4.y.1=0)&&decide (q4.z.1=(-1))))) rfl rfl (oB 8 dd_ g8_ hk_ (cQ tO (cQ tO (mU tO))) (cQ tO (cQ tO (mU tO))) (fU rfl B7 (fU rfl B7 (sH B7))))) (go_ ?_);have hx7:(decide (q4.x.1=0)&&(decide (q4.y.1=0)&&decide (q4.z.1=(-1))))=true:=(by rw [hq4,hq0];kernel_rfl);refine pB hx7 rfl (go_ ?_);refine pC (AV [pI q14.x0.n,pI q14.x0.d,pI q14.x1.n,pI q14.x1.d,pI q14.x2.n,pI q14.x2.d,pI q14.x3.n,pI q14.x3.d,pI q14.x4.n,pI q14.x4.d,pI q14.x5.n,pI q14.x5.d]) aB (xW (wl 0) (wl 0) (wl (-1)) (wl 0) (wl 10) (wl 0)) rfl rfl (by rw [hq14]) ?_;refine pQ rfl (vT (r:=(decide (q6.x0.n=q14.x0.n)&&(decide (q6.x0.d=q14.x0.d)&&(decide (q6.x1.n=q14.x1.n)&&(decide (q6.x1.d=q14.x1.d)&&(decide (q6.x2.n=q14.x2.n)&&(decide (q6.x2.d=q14.x2.d)&&(decide (q6.x3.n=q14.x3.n)&&(decide (q6.x3.d=q14.x3.d)&&(decide (q6.x4.n=q14.x4.n)&&(decide (q6.x4.d=q14.x4.d)&&(decide (q6.x5.n=q14.x5.n)&&decide (q6.x5.d=q14.x5.d))))))))))))) rfl rfl (oB 8 dd_ eB_ eH_ (cQ fH (cQ fH (cQ fH (cQ fH (cQ fH (cQ fH (cQ fH (cQ fH (cQ fH (cQ fH (cQ fH (mU fH)))))))))))) (cQ fH (cQ fH (cQ fH (cQ fH (cQ fH (cQ fH (cQ fH (cQ fH (cQ fH (cQ fH (cQ fH (mU fH)))))))))))) (fU rfl lT (fU rfl lT (fU rfl lT (fU rfl lT (fU rfl lT (fU rfl lT (fU rfl lT (fU rfl lT (fU rfl lT (fU rfl lT (fU rfl lT (sH lT)))))))))))))) (go_ ?_);have hx8:(decide (q6.x0.n=q14.x0.n)&&(decide (q6.x0.d=q14.x0.d)&&(decide (q6.x1.n=q14.x1.n)&&(decide (q6.x1.d=q14.x1.d)&&(decide (q6.x2.n=q14.x2.n)&&(decide (q6.x2.d=q14.x2.d)&&(decide (q6.x3.n=q14.x3.n)&&(decide (q6.x3.d=q14.x3.d)&&(decide (q6.x4.n=q14.x4.n)&&(decide (q6.x4.d=q14.x4.d)&&(decide (q6.x5.n=q14.x5.n)&&decide (q6.x5.d=q14.x5.d))))))))))))=true:=(by rw [hq6,hq14,hq0];kernel_rfl);refine pB hx8 rfl (go_ ?_);refine pC (AV [pI q15.x0.n,pI q15.x0.d,pI q15.x1.n,pI q15.x1.d,pI q15.x2.n,pI q15.x2.d,pI q15.x3.n,pI q15.x3.d,pI q15.x4.n,pI q15.x4.d,pI q15.x5.n,pI q15.x5.d]) aB (xW (wl 0) (wl 0) (wl 1) (wl 0) (wl (-10)) (wl 0)) rfl rfl (by rw [hq15]) ?_;refine pQ rfl (vT (r:=(decide (q7.x0.n=q15.x0.n)&&(decide (q7.x0.d=q15.x0.d)&&(decide (q7.x1.n=q15.x1.n)&&(decide (q7.x1.d=q15.x1.d)&&(decide (q7.x2.n=q15.x2.n)&&(decide (q7.x2.d=q15.x2.d)&&(decide (q7.x3.n=q15.x3.n)&&(decide (q7.x3.d=q15.x3.d)&&(decide (q7.x4.n=q15.x4.n)&&(decide (q7.x4.d=q15.x4.d)&&(decide (q7.x5.n=q15.x5.n)&&decide (q7.x5.d=q15.x5.d))))))))))))) rfl rfl (oB 8 dd_ eB_ eH_ (cQ fH (cQ fH (cQ fH (cQ fH (cQ fH (cQ fH (cQ fH (cQ fH (cQ fH (cQ fH (cQ fH (mU fH)))))))))))) (cQ fH (cQ fH (cQ fH (cQ fH (cQ fH (cQ fH (cQ fH (cQ fH (cQ fH (cQ fH (cQ fH (mU fH)))))))))))) (fU rfl lT (fU rfl lT (fU rfl lT (fU rfl lT (fU rfl lT (fU rfl lT (fU rfl lT (fU rfl lT (fU rfl lT (fU rfl lT (fU rfl lT (sH lT)))))))))))))) (go3 ?_);refine i9 (sd (sd (sd (s0)))) ?_;refine go5 ?_;intro b10 hb10;refine go2 ?_;refine oX s0 10 [4] [] (go_ ?_);refine pQ rfl (oV zpT arT rfl (.nil _)) (pC (AV [pI q16.x.n,pI q16.x.d,pI q16.y.n,pI q16.y.d,pI q16.z.n,pI q16.z.d]) aB (qH (wl 10) (wl 0) (wl 0)) rfl rfl (by rw [hq16]) ?_);refine pC (AV [pI q12.n,pI q12.d]) aB (lQ (wl 64)) rfl rfl (by rw [hq12]) ?_;refine cF rfl rfl (aN (E:=33) (e:=elRt) (l:=q17) (fun v=>.tuple #[v,.int .i64 q18.1]) aB rfl (fun w hw=>(by rw [hq17,hq18];exact xH (⟨(⟨(⟨(wl 10),(wl 0),(wl 0)⟩:(A3 W)),(⟨(wl 1),(wl 0),(wl 0),(wl 0)⟩:(A4 W))⟩:Pose),(⟨(⟨(wl 10),(wl 0),(wl 8)⟩:(A3 W)),(⟨(wl 1),(wl 0),(wl 0),(wl 0)⟩:(A4 W))⟩:Pose)⟩:Path) (⟨(wl 0),(wl 0),(wl 0)⟩:(A3 W)) q16 q12 0 w)) (fun p11 c12 L13 hF14=>⟨(fun _=>sR s0),(sR s0),?_⟩));refine go6 ?_;refine oX s0 10 [4] [] (go_ ?_);refine pQ rfl (oV zpT arT rfl (.nil _)) (pC (AV [pI q16.x.n,pI q16.x.d,pI q16.y.n,pI q16.y.d,pI q16.z.n,pI q16.z.d]) aB (qH (wl 10) (wl 0) (wl 0)) rfl rfl (by rw [hq16]) ?_);refine pC (AV [pI q19.n,pI q19.d]) aB (lQ (wl 63)) rfl rfl (by rw [hq19]) ?_;refine cF rfl rfl (aN (E:=33) (e:=elRt) (l:=q20) (fun v=>.tuple #[v,.int .i64 q21.1]) aB rfl (fun w hw=>(by rw [hq20,hq21];exact xH (⟨(⟨(⟨(wl 10),(wl 0),(wl 0)⟩:(A3 W)),(⟨(wl 1),(wl 0),(wl 0),(wl 0)⟩:(A4 W))⟩:Pose),(⟨(⟨(wl 10),(wl 0),(wl 8)⟩:(A3 W)),(⟨(wl 1),(wl 0),(wl 0),(wl 0)⟩:(A4 W))⟩:Pose)⟩:Path) (⟨(wl 0),(wl 0),(wl 0)⟩:(A3 W)) q16 q19 0 w)) (fun p15 c16 L17 hF18=>⟨(fun _=>sR s0),(sR s0),?_⟩));refine go6 ?_;refine i9 (sR (sA (sd (s0)))) ?_;refine go4 ?_;refine bD rfl (bU [[cw 10,cw 0,cw 0,cw 1,cw 0,cw 0,cw 0],[cw 10,cw 0,cw 8,cw 1,cw 0,cw 0,cw 0],[cw 10,cw 0,cw 0,cw 1,cw 0,cw 0,cw 0]] [cw 10,cw 0,cw 0,cw 1,cw 0,cw 0,cw 0,cw 10,cw 0,cw 8,cw 1,cw 0,cw 0,cw 0,cw 10,cw 0,cw 0,cw 1,cw 0,cw 0,cw 0] e0_ h2_ eZ_ rfl dd_ rfl rfl ⟨rfl,rfl,rfl,rfl,rfl,rfl,rfl,rfl,rfl,trivial⟩ rfl (fun b19 hb19=>sQ (aL (v':=.tuple #[AV [pI q22],.int .i64 q23.1]) (bT aB rfl (fun w hw=>(by rw [hq22,hq23];exact N9 (wl 5) (wl 2) _ [(⟨(⟨(wl 10),(wl 0),(wl 0)⟩:(A3 W)),(⟨(wl 1),(wl 0),(wl 0),(wl 0)⟩:(A4 W))⟩:Pose),(⟨(⟨(wl 10),(wl 0),(wl 8)⟩:(A3 W)),(⟨(wl 1),(wl 0),(wl 0),(wl 0)⟩:(A4 W))⟩:Pose),(⟨(⟨(wl 10),(wl 0),(wl 0)⟩:(A3 W)),(⟨(wl 1),(wl 0),(wl 0),(wl 0)⟩:(A4 W))⟩:Pose)] w (SLe.ap hw (SLe.lit (e:=wW) (l:=[(⟨(⟨(wl 10),(wl 0),(wl 0)⟩:(A3 W)),(⟨(wl 1),(wl 0),(wl 0),(wl 0)⟩:(A4 W))⟩:Pose),(⟨(⟨(wl 10),(wl 0),(wl 8)⟩:(A3 W)),(⟨(wl 1),(wl 0),(wl 0),(wl 0)⟩:(A4 W))⟩:Pose),(⟨(⟨(wl 10),(wl 0),(wl 0)⟩:(A3 W)),(⟨(wl 1),(wl 0),(wl 0),(wl 0)⟩:(A4 W))⟩:Pose)]) m0 rfl (Nat.le_of_ble_eq_true rfl) rfl)) (by first | omega | (simp only [List.length_append,List.length_nil];omega) | exact Nat.le_of_ble_eq_true rfl)))) rfl) rfl ?_));refine go4 ?_;intro b20 hb20;refine go3 ?_;refine i9 (sk (sd (sA (sd (sd (s0)))))) ?_;refine gds s0 [0,4,8,12,16,20,24,28,32,36,40,45,48,52,56,60,64,68,72,76,80,84,88,92,96,100,104,108] [] mix (by kernel_rfl) (go_ ?_);have hx9:(decide (q3=q13))=true:=(by rw [hq3,hq13,hq0];kernel_rfl);refine pB hx9 rfl (go2 ?_);have hx10:(decide (q7.x0.n=q15.x0.n)&&(decide (q7.x0.d=q15.x0.d)&&(decide (q7.x1.n=q15.x1.n)&&(decide (q7.x1.d=q15.x1.d)&&(decide (q7.x2.n=q15.x2.n)&&(decide (q7.x2.d=q15.x2.d)&&(decide (q7.x3.n=q15.x3.n)&&(decide (q7.x3.d=q15.x3.d)&&(decide (q7.x4.n=q15.x4.n)&&(decide (q7.x4.d=q15.x4.d)&&(decide (q7.x5.n=q15.x5.n)&&decide (q7.x5.d=q15.x5.d))))))))))))=true:=(by rw [hq7,hq15,hq0];kernel_rfl);refine pB hx10 rfl (go3 ?_);have hx11:(q18.1==0)=true:=(by rw [hq18,hq12,hq16];kernel_rfl);refine pB hx11 rfl (go_ ?_);refine pC (AV [pI q24.n,pI q24.d]) aB (lQ (wl 1)) rfl rfl (by rw [hq24]) ?_;refine cF rfl rfl (bU [[pI q24.n,pI q24.d]] [pI q24.n,pI q24.d] y4 RM H2 rfl dd_ rfl rfl ⟨rfl,rfl,rfl,trivial⟩ rfl (fun b21 hb21=>⟨(fun _=>sd s0),(sd s0),pQ rfl (aL (v':=.bool q25) (bT aB rfl (fun w hw=>(by rw [hq25];exact tZ _ q17 _ [q24] w (aO hw hF14 (sd (sd lZ))) (SLe.ap hw (SLe.lit (e:=elRt) (l:=[q24]) m0 rfl (Nat.le_of_ble_eq_true rfl) rfl))))) rfl) (go_ ?_)⟩));have hx12:q25=true:=(by rw [hq25,hq17,hq24,hq12,hq16];kernel_rfl);refine pB hx12 rfl (go3 ?_);have hx13:(q21.1==200)=true:=(by rw [hq21,hq16,hq19];kernel_rfl);refine pB hx13 rfl (go_ ?_);refine pC (AV [pI q26]) aB (dO (wl 80).1 (wl 80).2) rfl rfl (by subst hq26;rfl) ?_;refine pQ rfl (vT (r:=decide (q22=q26)) rfl rfl (oB 8 dd_ OR O0 (mU fH) (mU fH) (sH lT))) (go_ ?_);have hx14:(decide (q22=q26))=true:=(by rw [hq22,hq26];kernel_rfl);refine pB hx14 rfl (go6 ?_);refine bA rfl (.inr rfl) rfl ?_;exact congrArg vS2 (show ((q23.1==0):Bool)=F_skewbacklaw26_sanity from (by obtain rfl:=hq26.symm;obtain rfl:=hq25.symm;obtain rfl:=hq24.symm;obtain rfl:=hq23.symm;obtain rfl:=hq22.symm;obtain rfl:=hq21.symm;obtain rfl:=hq20.symm;obtain rfl:=hq19.symm;obtain rfl:=hq18.symm;obtain rfl:=hq17.symm;obtain rfl:=hq16.symm;obtain rfl:=hq15.symm;obtain rfl:=hq14.symm;obtain rfl:=hq13.symm;obtain rfl:=hq12.symm;obtain rfl:=hq11.symm;obtain rfl:=hq10.symm;obtain rfl:=hq9.symm;obtain rfl:=hq8.symm;obtain rfl:=hq7.symm;obtain rfl:=hq6.symm;obtain rfl:=hq5.symm;obtain rfl:=hq4.symm;obtain rfl:=hq3.symm;obtain rfl:=hq2.symm;obtain rfl:=hq1.symm;obtain rfl:=hq0.symm;first | exact aY hx1 (aY hx2 (aY hx3 (aY hx4 (aY hx5 (aY hx6 (aY hx7 (aY hx8 (aY hx9 (aY hx10 (aY hx11 (aY hx12 (aY hx13 (aY hx14 rfl))))))))))))) | (simp only [F_skewbacklaw26_sanity,hx1,hx2,hx3,hx4,hx5,hx6,hx7,hx8,hx9,hx10,hx11,hx12,hx13,hx14,cond_true,cond_false,Bool.or_self,Bool.and_self,Bool.true_and,Bool.false_and,Bool.and_true,Bool.and_false,Bool.true_or,Bool.false_or,Bool.or_true,Bool.or_false,Bool.not_true,Bool.not_false]) | (simp only [F_skewbacklaw26_sanity,hx1,hx2,hx3,hx4,hx5,hx6,hx7,hx8,hx9,hx10,hx11,hx12,hx13,hx14,cond_true,cond_false,Bool.or_self,Bool.and_self,Bool.true_and,Bool.false_and,Bool.and_true,Bool.and_false,Bool.true_or,Bool.false_or,Bool.or_true,Bool.or_false,Bool.not_true,Bool.not_false];rfl)))
end Go.Proofs.YtkjjponijamaoaaGreatDoor
namespace Go.Num
open Go Go.Kn
theorem W.abs_1 {x:W} (h:x.1 ≠ -9223372036854775808):(W.max x (W.neg x)).1=(x.1.natAbs:Nat):=by
  have h2:=x.2;unfold I64 at h2
  have hn:(W.neg x).1 = -x.1:=by
    show IntKind.i64.wrap (0 - x.1)=_
    rw [wi oo_];omega
  unfold W.max;rw [hn]
  by_cases h3:x.1 < -x.1
  · rw [decide_eq_true h3,cond_true,hn];omega
  rw [decide_eq_false h3,cond_false];omega
theorem bi_ {p q:Int} (hp:0≤p) (hq:0≤q):Int.gcd q (p.tmod q)=Int.gcd p q:=by
  rw [Int.tmod_eq_emod_of_nonneg hp,Int.gcd_comm p q]
  conv=>rhs;rw [← Int.emod_add_mul_ediv p q]
  rw [Int.gcd_add_mul_left_right]
theorem I7 {l:List W} {x0:W} {l0:List W} {o:W}:∀ (k:Nat) (p q:W),0≤p.1→0≤q.1→q.1.natAbs<k→(nX l x0 l0 o k p q).1.1=(Int.gcd p.1 q.1:Nat)
  | 0,p,q,_,_,h=>absurd h (Nat.not_lt_zero _)
  | k+1,p,q,hp,hq,h=>by
    rw [nX]
    by_cases h0:q.1=0
    · rw [show (q.1 != 0)=false by simp [h0],cond_false,h0,Int.gcd_zero_right];show p.1=(p.1.natAbs:Nat);omega
    rw [show (q.1 != 0)=true by simp [h0],cond_true];have h1:(W.rem p q).1=p.1.tmod q.1:=rfl;have h2:=W.rem_lt p (q:=q) (by simp [h0]);rw [I7 k q (W.rem p q) hq (by rw [h1];exact Int.tmod_nonneg _ hp) oo_,h1,bi_ hp hq]
theorem SR {l:List W}:∀ (r:List W) (o:W),0≤o.1→(∀ x∈r,x.1 ≠ -9223372036854775808)→(mT l r o).1=(r.foldl (fun (g:Nat) (x:W)=>Int.gcd g x.1) o.1.natAbs:Nat)
  | [],o,ho,_=>by rw [mT];show o.1=(o.1.natAbs:Nat);omega
  | x :: r,o,ho,h=>by
    rw [mT];have ha:=W.abs_1 (h x List.mem_cons_self);have he:=I7 (l:=l) (x0:=x) (l0:=r) (o:=o) ((W.max x (W.neg x)).1.natAbs+1) o (W.max x (W.neg x)) ho (by rw [ha];omega) (Nat.lt_succ_self _)
    show (mT l r (nX l x r o ((W.max x (W.neg x)).1.natAbs+1) o (W.max x (W.neg x))).1).1=_
    rw [SR r _ (by rw [he];omega) (fun y hy=>h y (List.mem_cons_of_mem _ hy)),he,ha,List.foldl_cons]
    congr 2
theorem fN_ {l:List W} (h:∀ x∈l,x.1 ≠ -9223372036854775808):(dX l).1=(l.foldl (fun (g:Nat) (x:W)=>Int.gcd g x.1) 0:Nat):=SR l (wl 0) (Int.le_refl _) h
theorem LQ {a b:W}:∀ (k:Nat) (p q:W),q.1.natAbs<k→(iS a b k p q).1.1.natAbs=Int.gcd p.1 q.1
  | 0,p,q,h=>absurd h (Nat.not_lt_zero _)
  | k+1,p,q,h=>by
    rw [iS]
    by_cases h0:q.1=0
    · rw [show (q.1 != 0)=false by simp [h0],cond_false,h0,Int.gcd_zero_right]
    rw [show (q.1 != 0)=true by simp [h0],cond_true];have h1:(W.rem p q).1=p.1.tmod q.1:=rfl;have h2:=W.rem_lt p (q:=q) (by simp [h0]);rw [LQ k q (W.rem p q) oo_,h1,Int.gcd,Int.natAbs_tmod,Int.gcd,Nat.gcd_comm p.1.natAbs,Nat.gcd_rec q.1.natAbs p.1.natAbs,Nat.gcd_comm]
structure Z4 where
  x:Int
  y:Int
  z:Int
  t:Int
deriving DecidableEq
def Z4.g (a:Z4):Nat:=Int.gcd (Int.gcd (Int.gcd (Int.gcd (0:Nat) a.x:Nat) a.y:Nat) a.z:Nat) a.t
def Z4.lead (a:Z4):Int:=if a.x≠0 then a.x else if a.y≠0 then a.y else if a.z≠0 then a.z else a.t
def Z4.m (a:Z4):Int:=a.lead.sign * a.g
def Z4.dir (a:Z4):Z4:=⟨a.x / a.m,a.y / a.m,a.z / a.m,a.t / a.m⟩
def Z4.zero (a:Z4):Prop:=a.x=0∧a.y=0∧a.z=0∧a.t=0
theorem Z4.ext {a b:Z4} (h1:a.x=b.x) (h2:a.y=b.y) (h3:a.z=b.z) (h4:a.t=b.t):a=b:=by cases a;cases b;simp_all
theorem Z4.g_zero {a:Z4}:a.g=0 ↔ a.zero:=by
  unfold Z4.g Z4.zero;simp only [Int.gcd_eq_zero_iff,Int.natCast_eq_zero]
  constructor
  · rintro ⟨⟨⟨⟨_,h1⟩,h2⟩,h3⟩,h4⟩;exact ⟨h1,h2,h3,h4⟩
  rintro ⟨h1,h2,h3,h4⟩;exact ⟨⟨⟨⟨trivial,h1⟩,h2⟩,h3⟩,h4⟩
theorem Z4.lead_zero {a:Z4} (h:¬ a.zero):a.lead≠0:=by
  unfold Z4.zero at h;unfold Z4.lead
  by_cases h1:a.x=0 <;> by_cases h2:a.y=0 <;> by_cases h3:a.z=0 <;> simp_all
theorem Z4.m_ne {a:Z4} (h:¬ a.zero):a.m≠0:=by
  unfold Z4.m;have h1:=Z4.lead_zero h;have h2:a.g≠0:=fun e=>h (Z4.g_zero.1 e);intro e;rcases Int.mul_eq_zero.1 e with e | e
  · exact h1 (Int.sign_eq_zero_iff_zero.1 e)
  exact h2 (by exact_mod_cast e)
theorem Z4.m_abs {a:Z4} (h:¬ a.zero):a.m.natAbs=a.g:=by
  unfold Z4.m;rw [Int.natAbs_mul,Int.natAbs_natCast,Int.natAbs_sign_of_ne_zero (Z4.lead_zero h),Nat.one_mul]
theorem Z4.g_dvd (a:Z4):((a.g:Nat):Int) ∣ a.x∧((a.g:Nat):Int) ∣ a.y∧((a.g:Nat):Int) ∣ a.z∧((a.g:Nat):Int) ∣ a.t:=by
  unfold Z4.g;have l:∀ (u v:Int),((Int.gcd u v:Nat):Int) ∣ u:=fun u v=>Int.gcd_dvd_left ..;have r:∀ (u v:Int),((Int.gcd u v:Nat):Int) ∣ v:=fun u v=>Int.gcd_dvd_right ..;refine ⟨?_,?_,?_,r _ _⟩
  · exact Int.dvd_trans (Int.dvd_trans (Int.dvd_trans (l _ _) (l _ _)) (l _ _)) (r _ _)
  · exact Int.dvd_trans (Int.dvd_trans (l _ _) (l _ _)) (r _ _)
  exact Int.dvd_trans (l _ _) (r _ _)
theorem Z4.m_dvd {a:Z4} (h:¬ a.zero):a.m ∣ a.x∧a.m ∣ a.y∧a.m ∣ a.z∧a.m ∣ a.t:=by
  have e:∀ v:Int,((a.g:Nat):Int) ∣ v→a.m ∣ v:=fun v hv=>by
    rw [← Z4.m_abs h] at hv;exact Int.natAbs_dvd.1 hv
  obtain ⟨h1,h2,h3,h4⟩:=Z4.g_dvd a;exact ⟨e _ h1,e _ h2,e _ h3,e _ h4⟩
def A4.i (a:A4 W):Z4:=⟨a.x.1,a.y.1,a.z.1,a.t.1⟩
theorem A4.i_inj {a b:A4 W} (h:a.i=b.i):a=b:=by
  cases a;cases b
  simp only [A4.i,Z4.mk.injEq] at h;obtain ⟨h1,h2,h3,h4⟩:=h;simp only [A4.mk.injEq];exact ⟨Subtype.ext h1,Subtype.ext h2,Subtype.ext h3,Subtype.ext h4⟩
def A4.Fine (a:A4 W):Prop:=a.x.1 ≠ -9223372036854775808∧a.y.1 ≠ -9223372036854775808∧a.z.1 ≠ -9223372036854775808∧a.t.1 ≠ -9223372036854775808
theorem du_ {a:A4 W} (h:a.Fine):(dX [a.x,a.y,a.z,a.t]).1=(a.i.g:Nat):=by
  obtain ⟨h1,h2,h3,h4⟩:=h;rw [fN_ (by simp only [List.mem_cons,List.not_mem_nil,or_false];rintro x (rfl | rfl | rfl | rfl) <;> assumption)];rfl
theorem XW {a r:W} (h:a.1 ≠ -9223372036854775808) (hd:r.1 ∣ a.1) (h0:r.1≠0):(W.quo a r).1=a.1 / r.1:=by
  have h2:=a.2;unfold I64 at h2
  show IntKind.i64.wrap (a.1.tdiv r.1)=_
  rw [Int.tdiv_eq_ediv_of_dvd hd];obtain ⟨k,hk⟩:=hd;rw [hk,Int.mul_ediv_cancel_left _ h0]
  have:k.natAbs≤a.1.natAbs:=by rw [hk,Int.natAbs_mul];exact Nat.le_mul_of_pos_left _ oo_
  exact wi oo_
theorem TC {a:W} (h:a.1 ≠ -9223372036854775808):(W.neg a).1 = -a.1:=by
  have h2:=a.2;unfold I64 at h2
  show IntKind.i64.wrap (0 - a.1)=_
  rw [wi oo_];omega
theorem X6 {g v:W} (hg:0≤g.1) (hv:v.1≠0):(bif decide (v.1<0) then W.neg g else g).1=v.1.sign * g.1:=by
  by_cases h:v.1<0
  · rw [decide_eq_true h,cond_true,TC oo_,Int.sign_eq_neg_one_of_neg h];omega
  rw [decide_eq_false h,cond_false,Int.sign_eq_one_of_pos oo_];omega
theorem LL {a:A4 W} {r:W} (h:a.Fine) (hz:¬ a.i.zero) (hr:r.1=a.i.m):(⟨W.quo a.x r,W.quo a.y r,W.quo a.z r,W.quo a.t r⟩:A4 W).i=a.i.dir:=by
  obtain ⟨d1,d2,d3,d4⟩:=Z4.m_dvd hz;have hm:=Z4.m_ne hz;rw [← hr] at d1 d2 d3 d4 hm;obtain ⟨h1,h2,h3,h4⟩:=h;refine Z4.ext ?_ ?_ ?_ ?_
  · exact (XW h1 d1 hm).trans (by rw [hr];rfl)
  · exact (XW h2 d2 hm).trans (by rw [hr];rfl)
  · exact (XW h3 d3 hm).trans (by rw [hr];rfl)
  exact (XW h4 d4 hm).trans (by rw [hr];rfl)
theorem ir_ {a:A4 W} (h:a.Fine) (hz:¬ a.i.zero):(fT a).1.i=a.i.dir∧(fT a).2=true:=by
  have hg:=du_ h;have hg0:a.i.g≠0:=fun e=>hz (Z4.g_zero.1 e)
  have hgp:0≤(dX [a.x,a.y,a.z,a.t]).1:=by rw [hg];omega
  unfold fT;rw [show ((dX [a.x,a.y,a.z,a.t]).1==0)=false by rw [hg];simp;exact hg0,cond_false]
  have hm:a.i.m=a.i.lead.sign * (dX [a.x,a.y,a.z,a.t]).1:=by rw [hg];rfl
  by_cases x0:a.x.1=0
  · rw [show (a.x.1 != 0)=false by simp [x0],cond_false]
    by_cases y0:a.y.1=0
    · rw [show (a.y.1 != 0)=false by simp [y0],cond_false]
      by_cases z0:a.z.1=0
      · rw [show (a.z.1 != 0)=false by simp [z0],cond_false]
        by_cases t0:a.t.1=0
        · exact absurd ⟨x0,y0,z0,t0⟩ hz
        rw [show (a.t.1 != 0)=true by simp [t0],cond_true];refine ⟨LL h hz ?_,rfl⟩;rw [X6 hgp t0,hm,show a.i.lead=a.t.1 by simp [Z4.lead,A4.i,x0,y0,z0]]
      rw [show (a.z.1 != 0)=true by simp [z0],cond_true];refine ⟨LL h hz ?_,rfl⟩;rw [X6 hgp z0,hm,show a.i.lead=a.z.1 by simp [Z4.lead,A4.i,x0,y0,z0]]
    rw [show (a.y.1 != 0)=true by simp [y0],cond_true];refine ⟨LL h hz ?_,rfl⟩;rw [X6 hgp y0,hm,show a.i.lead=a.y.1 by simp [Z4.lead,A4.i,x0,y0]]
  rw [show (a.x.1 != 0)=true by simp [x0],cond_true];refine ⟨LL h hz ?_,rfl⟩;rw [X6 hgp x0,hm,show a.i.lead=a.x.1 by simp [Z4.lead,A4.i,x0]]
theorem X3 (v:W):(aU v).1=v.1.sign:=by
  unfold aU
  by_cases h:v.1<0
  · rw [decide_eq_true h,cond_true,Int.sign_eq_neg_one_of_neg h]
  rw [decide_eq_false h,cond_false];unfold W.min
  by_cases h1:(1:Int)<v.1
  · rw [show decide ((wl 1).1<v.1)=true from decide_eq_true h1,cond_true,Int.sign_eq_one_of_pos oo_]
  rw [show decide ((wl 1).1<v.1)=false from decide_eq_false h1,cond_false];rcases (show v.1=0∨v.1=1 by omega) with e | e <;> rw [e] <;> rfl
theorem d1_ {a b:W} (ha:a.1 ≠ -9223372036854775808) (hb:b.1 ≠ -9223372036854775808):(aA a b).1=(Int.gcd a.1 b.1:Nat)∧(aA a b).1 ≠ -9223372036854775808:=by
  have he:=LQ (a:=a) (b:=b) (b.1.natAbs+1) a b (Nat.lt_succ_self _);have h1:=a.2;have h2:=b.2;unfold I64 at h1 h2
  have hle:Int.gcd a.1 b.1<9223372036854775808:=by
    by_cases h0:b.1=0
    · rw [h0,Int.gcd_zero_right];omega
    exact Nat.lt_of_le_of_lt (Nat.le_of_dvd oo_ (Int.gcd_dvd_natAbs_right a.1 b.1)) oo_
  have:(aA a b).1=(Int.gcd a.1 b.1:Nat):=by
    show (W.max (iS a b (b.1.natAbs+1) a b).1 (W.neg (iS a b (b.1.natAbs+1) a b).1)).1=_
    rw [W.abs_1 (by intro e;rw [e] at he;omega),he]
  exact ⟨this,by rw [this];omega⟩
theorem hd_ (a:Z4):Int.gcd (Int.gcd (Int.gcd (Int.gcd (0:Int) a.t:Nat) a.z:Nat) a.y:Nat) a.x=a.g:=by
  unfold Z4.g;simp only [Int.gcd,Int.natAbs_natCast,Int.natAbs_zero,Nat.gcd_zero_left]
  have e:∀ x y z t:Nat,Nat.gcd (Nat.gcd (Nat.gcd t z) y) x=Nat.gcd (Nat.gcd (Nat.gcd x y) z) t:=fun x y z t=>by
    rw [Nat.gcd_comm,Nat.gcd_comm (Nat.gcd t z) y,← Nat.gcd_assoc,Nat.gcd_comm t z,← Nat.gcd_assoc]
  exact e _ _ _ _
theorem hK_ (a:A4 W):(bif (a.x.1 != 0) then (aU a.x) else (bif (a.y.1 != 0) then (aU a.y) else (bif (a.z.1 != 0) then (aU a.z) else (bif (a.t.1 != 0) then (aU a.t) else (wl 0))))).1=a.i.lead.sign:=by
  have n0:∀ v:W,v.1=0→(v.1 != 0)=false:=fun v h=>by simp [h]
  have n1:∀ v:W,¬ v.1=0→(v.1 != 0)=true:=fun v h=>by simp [h]
  show _=(if a.x.1≠0 then a.x.1 else if a.y.1≠0 then a.y.1 else if a.z.1≠0 then a.z.1 else a.t.1).sign
  by_cases x0:a.x.1=0
  · rw [n0 _ x0,cond_false,if_neg (by simp [x0])]
    by_cases y0:a.y.1=0
    · rw [n0 _ y0,cond_false,if_neg (by simp [y0])]
      by_cases z0:a.z.1=0
      · rw [n0 _ z0,cond_false,if_neg (by simp [z0])]
        by_cases t0:a.t.1=0
        · rw [n0 _ t0,cond_false,t0];rfl
        rw [n1 _ t0,cond_true,X3]
      rw [n1 _ z0,cond_true,X3,if_pos z0]
    rw [n1 _ y0,cond_true,X3,if_pos y0]
  rw [n1 _ x0,cond_true,X3,if_pos x0]
theorem is_ {a:A4 W} (h:a.Fine) (hz:¬ a.i.zero):(dQ a).1.i=a.i.dir∧(dQ a).2=true:=by
  obtain ⟨h1,h2,h3,h4⟩:=h;have g1:=d1_ (a:=wl 0) (b:=a.t) dd_ h4;have g2:=d1_ g1.2 h3;have g3:=d1_ g2.2 h2;have g4:=d1_ g3.2 h1;rw [g3.1,g2.1,g1.1,show (wl 0).1=0 from rfl] at g4
  have hg:(aA (aA (aA (aA (wl 0) a.t) a.z) a.y) a.x).1=(a.i.g:Nat):=by
    rw [g4.1];exact congrArg _ (hd_ a.i)
  have hm:(W.mul (bif (a.x.1 != 0) then (aU a.x) else (bif (a.y.1 != 0) then (aU a.y) else (bif (a.z.1 != 0) then (aU a.z) else (bif (a.t.1 != 0) then (aU a.t) else (wl 0)))))
      (W.max (aA (aA (aA (aA (wl 0) a.t) a.z) a.y) a.x) (W.neg (aA (aA (aA (aA (wl 0) a.t) a.z) a.y) a.x)))).1=a.i.m:=by
    show IntKind.i64.wrap (_ * _)=_
    have hb:=(aA (aA (aA (aA (wl 0) a.t) a.z) a.y) a.x).2;unfold I64 at hb;rw [hK_,W.abs_1 g4.2,hg,Int.natAbs_natCast];rw [hg] at hb;have hs:=Int.natAbs_sign_of_ne_zero (Z4.lead_zero hz);refine wi ?_;rcases (show a.i.lead.sign=1∨a.i.lead.sign = -1 by omega) with e | e <;> rw [e] <;> omega
  unfold dQ;have hm0:=Z4.m_ne hz
  dsimp only
  rw [show ((W.mul (bif (a.x.1 != 0) then (aU a.x) else (bif (a.y.1 != 0) then (aU a.y) else (bif (a.z.1 != 0) then (aU a.z) else (bif (a.t.1 != 0) then (aU a.t) else (wl 0)))))
      (W.max (aA (aA (aA (aA (wl 0) a.t) a.z) a.y) a.x) (W.neg (aA (aA (aA (aA (wl 0) a.t) a.z) a.y) a.x)))).1==0)=false by rw [hm];simp;exact hm0,cond_false]
  exact ⟨LL ⟨h1,h2,h3,h4⟩ hz hm,rfl⟩
structure Iv.Is (a:Iv) (n d m e:Int):Prop where
  lo:a.lo.Is n d
  hi:a.hi.Is m e
  le:n * e≤m * d
def Rt.At (a:Rt) (q:Rat):Prop:=a.Is q.num (q.den:Int)
structure Iv.At (a:Iv) (p q:Rat):Prop where
  lo:a.lo.At p
  hi:a.hi.At q
  le:p≤q
structure Sz (q:Rat) (k:Nat):Prop where
  n:q.num.natAbs<2 ^ k
  d:q.den<2 ^ k
theorem yG {a b:Nat} (h:a≤b):(2:Nat) ^ a≤2 ^ b:=Nat.pow_le_pow_right dd_ h
theorem e7_ {v:Int} {k:Nat} (m:Nat) (hm:4294967296 ^ 16=2 ^ m) (h:v.natAbs<2 ^ k) (hk:k≤m):fE v:=by
  unfold fE;rw [hm];exact Nat.lt_of_lt_of_le h (yG hk)
theorem uP {v:Int} {k:Nat} (h:v.natAbs<2 ^ k) (hk:k≤512):fE v:=e7_ 512 FZ h hk
theorem Sz.mono {q:Rat} {j k:Nat} (h:Sz q j) (hk:j≤k):Sz q k:=⟨Nat.lt_of_lt_of_le h.n (yG hk),Nat.lt_of_lt_of_le h.d (yG hk)⟩
theorem Sz.bd {q:Rat} {k:Nat} (h:Sz q k) (hk:k≤512):fE (q.den:Int):=uP (by simpa using h.d) hk
theorem sZ {a b j k:Nat} (h:a<2 ^ j) (g:b<2 ^ k):a * b<2 ^ (j+k):=by
  rw [Nat.pow_add];exact Nat.mul_lt_mul_of_lt_of_le h (Nat.le_of_lt g) (Nat.pow_pos dd_)
theorem Sz.mul {p q:Rat} {j k:Nat} (h:Sz p j) (g:Sz q k):Sz (p * q) (j+k):=by
  constructor
  · rw [Rat.num_mul]
    refine Nat.lt_of_le_of_lt (Int.natAbs_ediv_le_natAbs _ _) ?_;rw [Int.natAbs_mul];exact sZ h.n g.n
  rw [Rat.den_mul];exact Nat.lt_of_le_of_lt (Nat.div_le_self _ _) (sZ h.d g.d)
theorem Sz.neg {p:Rat} {k:Nat} (h:Sz p k):Sz (-p) k:=⟨by rw [Rat.neg_num,Int.natAbs_neg];exact h.n,h.d⟩
theorem UZ {n m:Int} {d e j k:Nat} (h1:n.natAbs<2 ^ j) (h2:e<2 ^ k) (h3:m.natAbs<2 ^ k) (h4:d<2 ^ j):(n * e+m * d).natAbs<2 ^ (j+k+1):=by
  have a:=sZ h1 h2;have b:=sZ h4 h3;have c:=Int.natAbs_add_le (n * e) (m * d);rw [Int.natAbs_mul,Int.natAbs_mul,Int.natAbs_natCast,Int.natAbs_natCast] at c;rw [Nat.pow_succ];rw [Nat.mul_comm d] at b;omega
theorem Sz.add {p q:Rat} {j k:Nat} (h:Sz p j) (g:Sz q k):Sz (p+q) (j+k+1):=by
  constructor
  · rw [Rat.num_add]
    exact Nat.lt_of_le_of_lt (Int.natAbs_ediv_le_natAbs _ _) (UZ h.n g.d g.n h.d)
  rw [Rat.den_add];exact Nat.lt_of_le_of_lt (Nat.div_le_self _ _) (Nat.lt_of_lt_of_le (sZ h.d g.d) (yG oo_))
theorem Sz.int {n:Int} {k:Nat} (h:n.natAbs<2 ^ k) (hk:0<k):Sz (n:Rat) k:=⟨h,Nat.one_lt_two_pow oo_⟩
theorem At.is {a:Rt} {q:Rat} (h:a.At q):a.Is q.num (q.den:Int):=h
end Go.Num
