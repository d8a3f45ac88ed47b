/- Lemmas: what they ask stands in their statements. -/
import Derived.Test.YtkjjponijamaoaaGreatDoorYFa0
set_option linter.unusedSimpArgs false
set_option linter.unusedVariables false
namespace Go.Num
open Go Go.Kn
def cP (h:Path) (v:(A3 W)):(A3 (List I))×(List I) :=
  let q0:(A4 (List I)):=(bR h)
  let q1:(List I):=(pN h)
  let q2:I:=(E (Z.of (-1)))
  let q3:(List I):=(dS q0.x q2)
  let q4:(List I):=(l9 q0.x q0.y q0.z q0.t)
  let q5:(List I):=(gE (wl 2) q0.y q0.z q3 q0.t)
  let q6:(List I):=(gE (wl 2) q0.y q0.t q0.x q0.z)
  let q7:(List I):=(gE (wl 2) q0.y q0.z q0.x q0.t)
  let q8:(List I):=(l9 q0.x q0.z q0.y q0.t)
  let q9:(List I):=(gE (wl 2) q0.z q0.t q3 q0.y)
  let q10:(List I):=(gE (wl 2) q0.y q0.t q3 q0.z)
  let q11:(List I):=(gE (wl 2) q0.z q0.t q0.x q0.y)
  let q12:(List I):=(l9 q0.x q0.t q0.y q0.z)
  let q13:(List I):=(eU [h.from_.x.x,(W.sub h.to_.x.x h.from_.x.x)])
  let q14:(List I):=(cI q1 q13)
  let q15:I:=(E (Z.of v.x.1))
  let q16:(List I):=(dS q4 q15)
  let q17:(List I):=(cY q14 q16)
  let q18:I:=(E (Z.of v.y.1))
  let q19:(List I):=(dS q5 q18)
  let q20:(List I):=(cY q17 q19)
  let q21:I:=(E (Z.of v.z.1))
  let q22:(List I):=(dS q6 q21)
  let q23:(List I):=(cY q20 q22)
  let q24:(List I):=(eU [h.from_.x.y,(W.sub h.to_.x.y h.from_.x.y)])
  let q25:(List I):=(cI q1 q24)
  let q26:(List I):=(dS q7 q15)
  let q27:(List I):=(cY q25 q26)
  let q28:(List I):=(dS q8 q18)
  let q29:(List I):=(cY q27 q28)
  let q30:(List I):=(dS q9 q21)
  let q31:(List I):=(cY q29 q30)
  let q32:(List I):=(eU [h.from_.x.z,(W.sub h.to_.x.z h.from_.x.z)])
  let q33:(List I):=(cI q1 q32)
  let q34:(List I):=(dS q10 q15)
  let q35:(List I):=(cY q33 q34)
  let q36:(List I):=(dS q11 q18)
  let q37:(List I):=(cY q35 q36)
  let q38:(List I):=(dS q12 q21)
  let q39:(List I):=(cY q37 q38)
  ((⟨q23,q31,q39⟩:(A3 (List I))),q1)
def iP (p:(List I)) (a:Rt) (b:Rt):Nat→(List I)→Int→List I×Int
  | 0,r,i=>(r,i)
  | k0+1,r,i=>bif decide (0≤i) then (let r32:I:=(E (Z.mul (p.getD ((i).toNat) I0).dec ((iM (E (Z.mul a.d.dec b.d.dec)) (((p).length:Nat):Int)).getD (((p).length - 1) - (i).toNat) I0).dec))
  (iP p a b k0 (cY (cI r (kE [(E (Z.mul a.n.dec b.d.dec)),(E (Z.mul b.n.dec a.d.dec))])) (kE [r32])) (i - 1))) else ((r,i))
def kL (p:(List I)) (a:Rt) (b:Rt):(List I) :=
  bif ((eJ p)||(!(nH [a,b]))) then (F_poly_bad) else (ap (fun (s:List I×Int)=>let r:List I:=s.1
  let i:Int:=s.2
  r) (iP p a b ((p.length+1)) ([]:List I) ((((p).length:Nat):Int) - 1)))
def gN (p:(List I)) (a:Rt) (b:Rt):(List I) :=
  (gW (kL p a b))
def iX (p:(List I)) (a:Rt) (b:Rt) (out:List I) (i:Nat):Nat→Nat→I→Nat×I
  | 0,j,mb40=>(j,mb40)
  | k1+1,j,mb40=>bif decide (((j:Nat):Int)<((((iH ((((p).length:Nat):Int) - 1) ((i:Nat):Int))).length:Nat):Int)) then (let r52:I:=(E (Z.mul ((iH ((((p).length:Nat):Int) - 1) ((i:Nat):Int)).getD j I0).dec (o9 (gN p a (fJ b a)) ((j:Nat):Int)).dec))
  (iX p a b out i k1 (j+1) (E (Z.add mb40.dec r52.dec)))) else ((j,mb40))
def gY (p:(List I)) (a:Rt) (b:Rt):Nat→(List I)→Nat→(List I×Nat) ⊕ ((List I)×Bool)
  | 0,out,i=>.inl (out,i)
  | k0+1,out,i=>bif decide (((i:Nat):Int)<(((p).length:Nat):Int)) then (ap (fun (s:Nat×I)=>let j:Nat:=s.1
  let mb40:I:=s.2
  bif mb40.1.bad then (.inr ((([]:List I),false))) else ((gY p a b k0 (out ++ [mb40]) (i+1)))) (iX p a b out i ((((iH ((((p).length:Nat):Int) - 1) ((i:Nat):Int))).length+1)) 0 I0)) else (.inl (out,i))
def jW (p:(List I)) (a:Rt) (b:Rt) (out:List I) (i:Nat):Nat→Nat→(List I)→Nat×List I
  | 0,k,t=>(k,t)
  | k2+1,k,t=>bif decide (((k:Nat):Int)<(((out).length:Nat):Int)) then ((jW p a b out i k2 (k+1) (t.set k (E (Z.quo (t.getD k I0).dec (fO out).dec))))) else ((k,t))
def fD (p:(List I)) (a:Rt) (b:Rt):(List I)×Bool :=
  bif ((eJ p)||(!(nH [a,b]))) then ((([]:List I),false)) else (bif (eJ (gN p a (fJ b a))) then ((([]:List I),false)) else (sm (fun (s_:List I×Nat)=>let out:List I:=s_.1
  let i:Nat:=s_.2
  bif ((Z.signW (fO out).dec).1 != 0) then (ap (fun (s:Nat×List I)=>let k:Nat:=s.1
  let t:List I:=s.2
  (t,true)) (jW p a b out i ((out.length+1)) 0 out)) else ((out,true))) (fun r=>r) (gY p a b ((p.length+1)) ([]:List I) 0)))
def gX (a:(A3 W)) (b:W):Bool :=
  bif (decide (b.1<a.x.1)||decide (a.x.1<(W.neg b).1)) then (false) else (bif (decide (b.1<a.y.1)||decide (a.y.1<(W.neg b).1)) then (false) else (bif (decide (b.1<a.z.1)||decide (a.z.1<(W.neg b).1)) then (false) else (true)))
def vO (l:(List I)):List I→I→I
  | [],mb2=>mb2
  | x0 :: l0,mb2=>(vO l l0 (E (Z.mul mb2.dec x0.dec)))
def kP (l:(List I)):I :=
  ap (fun (s:I)=>let mb2:I:=s
  mb2) (vO l (l.drop 1) (l.getD 0 I0))
def lM (a:Rt):Bool :=
  (!(cE a))
def dU (h:Path) (u:(A3 W)) (b:(A3 Rt)) (m:Rt):(List I)×W :=
  let q0:W:=(tO h)
  let q1:Bool:=(gX u (wl 262144))
  let q2:Bool:=(lM m)
  let q3:Bool:=(qS [b.x,b.y,b.z] (fun (y:Rt)=>(lM y)))
  bif ((q0.1 != 0)||(!q1||(q2||q3))) then ((([]:List I),(wl 1))) else (let q4:(A3 (List I)):=(cP h u).1
  let q5:(List I):=(cP h u).2
  let q6:I:=(kP [b.x.d,b.y.d,b.z.d])
  let q7:(List I):=(dS q4.x q6)
  let q8:I:=(E (Z.mul b.x.n.dec q6.dec))
  let q9:I:=(E (Z.quo q8.dec b.x.d.dec))
  let q10:(List I):=(dS q5 q9)
  let q11:(List I):=(oT q7 q10)
  let q12:(List I):=(cI q11 q11)
  let q13:(List I):=(cY ([]:List I) q12)
  let q14:(List I):=(dS q4.y q6)
  let q15:I:=(E (Z.mul b.y.n.dec q6.dec))
  let q16:I:=(E (Z.quo q15.dec b.y.d.dec))
  let q17:(List I):=(dS q5 q16)
  let q18:(List I):=(oT q14 q17)
  let q19:(List I):=(cI q18 q18)
  let q20:(List I):=(cY q13 q19)
  let q21:(List I):=(dS q4.z q6)
  let q22:I:=(E (Z.mul b.z.n.dec q6.dec))
  let q23:I:=(E (Z.quo q22.dec b.z.d.dec))
  let q24:(List I):=(dS q5 q23)
  let q25:(List I):=(oT q21 q24)
  let q26:(List I):=(cI q25 q25)
  let q27:(List I):=(cY q20 q26)
  let q28:(List I):=(cI q5 q5)
  let q29:I:=(kP [m.n,q6,q6])
  let q30:(List I):=(dS q28 q29)
  let q31:(List I):=(dS q27 m.d)
  let q32:(List I):=(oT q30 q31)
  let q33:(List I):=(gW q32)
  let q34:Bool:=(eJ q33)
  bif q34 then ((([]:List I),(wl 30))) else ((q33,(wl 0))))
def oW (a:I):Bool :=
  (decide ((Z.signW a.dec).1<0))
def iB (p:(List I)) (a:Rt) (c:Rt):Bool×W :=
  bif (fD p a c).2 then (((!(zM ((fD p a c).1) (fun (y:I)=>(oW y)))),(wl 0))) else ((false,(wl 30)))
def jN (a:Rt) (b:Rt):Rt :=
  let r4:Rt:=(eE (eZ a b) (pO (wl 1) (wl 2)))
  r4
def d8 (p:List I):Nat→Rt→Rt→Nat→List Rt→W×List Rt
  | 0,_,_,_,_=>(wl 0,[])
  | n+1,a,c,k,t=>bif (decide (((kW p a).1).1<0)||decide (((kW p c).1).1<0)) then (((wl 200),t)) else (bif (!((kW p a).2)||(!((kW p c).2)||(((iB p a c).2).1 != 0))) then (((wl 30),t)) else (bif (iB p a c).1 then (((wl 0),(t ++ [c]))) else (bif (((k:Nat):Int)==0) then (((wl 160),t)) else (bif (((d8 p n a (jN a c) (k - 1) t).1).1 != 0) then (((d8 p n a (jN a c) (k - 1) t).1,(d8 p n a (jN a c) (k - 1) t).2)) else (((d8 p n (jN a c) c (k - 1) ((d8 p n a (jN a c) (k - 1) t).2)).1,(d8 p n (jN a c) c (k - 1) ((d8 p n a (jN a c) (k - 1) t).2)).2))))))
def kZ (r:Rope) (n:Int):Bool :=
  bif (r.a.1==0) then (bif (decide (r.a.1<0)||(decide ((((n).toNat:Nat):Int)<r.a.1)||(!(gX r.p (wl 140737488355327))))) then (false) else (bif (r.b.1==0) then (bif (decide (r.b.1<0)||(decide ((((n).toNat:Nat):Int)<r.b.1)||(!(gX r.q (wl 140737488355327))))) then (false) else ((r.a.1 != r.b.1))) else (bif (decide (r.b.1<0)||(decide ((((n).toNat:Nat):Int)<r.b.1)||(!(gX r.q (wl 262144))))) then (false) else ((r.a.1 != r.b.1))))) else (bif (decide (r.a.1<0)||(decide ((((n).toNat:Nat):Int)<r.a.1)||(!(gX r.p (wl 262144))))) then (false) else (bif (r.b.1==0) then (bif (decide (r.b.1<0)||(decide ((((n).toNat:Nat):Int)<r.b.1)||(!(gX r.q (wl 140737488355327))))) then (false) else ((r.a.1 != r.b.1))) else (bif (decide (r.b.1<0)||(decide ((((n).toNat:Nat):Int)<r.b.1)||(!(gX r.q (wl 262144))))) then (false) else ((r.a.1 != r.b.1)))))
def iR (a:Rt):I :=
  bif (cE a) then ((E (Z.quo a.n.dec a.d.dec))) else ((E Z.bad))
def nA (l:(List Pose)):Nat→(List Path)→Nat→(List Path×Nat) ⊕ ((List Path)×W)
  | 0,out,i=>.inl (out,i)
  | k0+1,out,i=>bif decide (((i:Nat):Int)<(((l).length:Nat):Int)) then (bif ((kQ (l.getD i bG)).1 != 0) then (.inr ((([]:List Path),(wl 1)))) else (bif decide (0<((i:Nat):Int)) then ((nA l k0 (out ++ [(⟨(l.getD (i - 1) bG),(l.getD i bG)⟩:Path)]) (i+1))) else ((nA l k0 out (i+1))))) else (.inl (out,i))
def cW (l:(List Pose)):(List Path)×W :=
  bif ((((l).length:Nat):Int)==0) then ((([]:List Path),(wl 1))) else (sm (fun (s:List Path×Nat)=>let out:List Path:=s.1
  let i:Nat:=s.2
  (out,(wl 0))) (fun r=>r) (nA l ((l.length+1)) ([]:List Path) 0))
def nC (m:W) (y:W) (l:(List Pose)):List Path→I→I
  | [],mb12=>mb12
  | x0 :: l0,mb12=>bif decide (0<(W.sub x0.to_.x.z x0.from_.x.z).1) then (let r27:I:=(kP [(E (Z.of m.1)),(E (Z.of y.1)),(E (Z.of (W.sub x0.to_.x.z x0.from_.x.z).1))])
  (nC m y l l0 (E (Z.add mb12.dec r27.dec)))) else ((nC m y l l0 mb12))
def cA (m:W) (y:W) (l:(List Pose)):I×W :=
  bif ((((cW l).2).1 != 0)||(decide (m.1<0)||decide (y.1<0))) then ((I0,(wl 1))) else (ap (fun (s:I)=>let mb12:I:=s
  (mb12,(wl 0))) (nC m y l (cW l).1 I0))
def sO (l:(List I)):List I→(Unit) ⊕ (Bool)
  | []=>.inl ()
  | x0 :: l0=>bif (x0.1.bad||(!x0.1.valid)) then (.inr (false)) else ((sO l l0))
def rV (l:(List I)):Bool :=
  sm (fun (s:Unit)=>true) (fun r=>r) (sO l l)
def vD (a:I):Nat→I→(I) ⊕ (I)
  | 0,mb11=>.inl mb11
  | k0+1,mb11=>bif decide (0≤(Z.cmpW (Z.half (Z.add mb11.dec (Z.quo a.dec mb11.dec))) mb11.dec).1) then (.inr (mb11)) else ((vD a k0 (E (Z.half (Z.add mb11.dec (Z.quo a.dec mb11.dec))))))
def jH (a:I):I :=
  bif (!(rV [a])||a.1.neg) then ((E Z.bad)) else (bif ((Z.signW a.dec).1==0) then (a) else (sm (fun (s:I)=>let mb11:I:=s
  I0) (fun r=>r) (vD a ((Z.nat (E (Z.shl (Z.of 1) (W.quo (W.add (Z.bitsW a.dec) (wl 1)) (wl 2)).1)).dec+1)) (E (Z.shl (Z.of 1) (W.quo (W.add (Z.bitsW a.dec) (wl 1)) (wl 2)).1)))))
def i5 (r:Rope) (l:(List Pose)):Pull×W :=
  bif (kZ r (((l).length:Nat):Int)) then (bif (r.a.1==0) then (let r11:(A3 Rt):=(qG r.p)
  bif (r.b.1==0) then (let r14:(A3 Rt):=(qG r.q)
  ((⟨r.a,r.b,r11,r14⟩:Pull),(wl 0))) else (bif ((kQ (l.getD ((r.b.1 - 1).toNat) bG)).1 != 0) then (((⟨(wl 0),(wl 0),(⟨(⟨I0,I0⟩:Rt),(⟨I0,I0⟩:Rt),(⟨I0,I0⟩:Rt)⟩:(A3 Rt)),(⟨(⟨I0,I0⟩:Rt),(⟨I0,I0⟩:Rt),(⟨I0,I0⟩:Rt)⟩:(A3 Rt))⟩:Pull),(wl 1))) else (let r17:(A3 Rt):=(rE (l.getD ((r.b.1 - 1).toNat) bG) r.q)
  ((⟨r.a,r.b,r11,r17⟩:Pull),(wl 0))))) else (bif ((kQ (l.getD ((r.a.1 - 1).toNat) bG)).1 != 0) then (((⟨(wl 0),(wl 0),(⟨(⟨I0,I0⟩:Rt),(⟨I0,I0⟩:Rt),(⟨I0,I0⟩:Rt)⟩:(A3 Rt)),(⟨(⟨I0,I0⟩:Rt),(⟨I0,I0⟩:Rt),(⟨I0,I0⟩:Rt)⟩:(A3 Rt))⟩:Pull),(wl 1))) else (let r20:(A3 Rt):=(rE (l.getD ((r.a.1 - 1).toNat) bG) r.p)
  bif (r.b.1==0) then (let r23:(A3 Rt):=(qG r.q)
  ((⟨r.a,r.b,r20,r23⟩:Pull),(wl 0))) else (bif ((kQ (l.getD ((r.b.1 - 1).toNat) bG)).1 != 0) then (((⟨(wl 0),(wl 0),(⟨(⟨I0,I0⟩:Rt),(⟨I0,I0⟩:Rt),(⟨I0,I0⟩:Rt)⟩:(A3 Rt)),(⟨(⟨I0,I0⟩:Rt),(⟨I0,I0⟩:Rt),(⟨I0,I0⟩:Rt)⟩:(A3 Rt))⟩:Pull),(wl 1))) else (let r26:(A3 Rt):=(rE (l.getD ((r.b.1 - 1).toNat) bG) r.q)
  ((⟨r.a,r.b,r20,r26⟩:Pull),(wl 0))))))) else (((⟨(wl 0),(wl 0),(⟨(⟨I0,I0⟩:Rt),(⟨I0,I0⟩:Rt),(⟨I0,I0⟩:Rt)⟩:(A3 Rt)),(⟨(⟨I0,I0⟩:Rt),(⟨I0,I0⟩:Rt),(⟨I0,I0⟩:Rt)⟩:(A3 Rt))⟩:Pull),(wl 1)))
def cF (a:Pull):Rt :=
  let r3:(A3 Rt):=(lQ a.q a.p)
  (oD r3 r3)
def bK (a:Pull):I×I :=
  bif (cE (cF a)) then (let r6:I:=(E (Z.mul (jH (iR (cF a))).dec (jH (iR (cF a))).dec))
  bif (decide (((oN r6).n)=((cF a).n))&&decide (((oN r6).d)=((cF a).d))) then (((jH (iR (cF a))),(jH (iR (cF a))))) else (let r8:I:=(E (Z.add (jH (iR (cF a))).dec (Z.of 1)))
  ((jH (iR (cF a))),r8))) else (((E Z.bad),(E Z.bad)))
def cL (a:Pull):(A3 W)×W :=
  let q0:(A3 Rt):=(lQ a.q a.p)
  let q1:I:=(kP [q0.x.n,q0.y.d,q0.z.d])
  let q2:I:=(kP [q0.x.d,q0.y.n,q0.z.d])
  let q3:I:=(kP [q0.x.d,q0.y.d,q0.z.n])
  let q4:(A3 W):=(j5 (⟨q1,q2,q3⟩:(A3 I))).1
  let q5:W:=(j5 (⟨q1,q2,q3⟩:(A3 I))).2
  (q4,q5)
def dZ (a:(A3 Rt)) (b:(A3 Rt)):(A6 Rt) :=
  let r4:(A3 Rt):=(dC a b)
  (⟨b.x,b.y,b.z,r4.x,r4.y,r4.z⟩:(A6 Rt))
def dI (a:Pull):(A6 Rt)×(A6 Rt)×W :=
  let q0:(A3 W):=(cL a).1
  let q1:W:=(cL a).2
  bif (q1.1 != 0) then (((⟨(⟨I0,I0⟩:Rt),(⟨I0,I0⟩:Rt),(⟨I0,I0⟩:Rt),(⟨I0,I0⟩:Rt),(⟨I0,I0⟩:Rt),(⟨I0,I0⟩:Rt)⟩:(A6 Rt)),(⟨(⟨I0,I0⟩:Rt),(⟨I0,I0⟩:Rt),(⟨I0,I0⟩:Rt),(⟨I0,I0⟩:Rt),(⟨I0,I0⟩:Rt),(⟨I0,I0⟩:Rt)⟩:(A6 Rt)),q1)) else (let q2:(A3 Rt):=(qG q0)
  let q3:(A6 Rt):=(dZ a.p q2)
  let q4:Rt:=(dK (wl (-1)))
  let q5:(A3 Rt):=(qU q4 q2)
  let q6:(A6 Rt):=(dZ a.q q5)
  let q7:Bool:=(cE q3.x0)
  let q8:Bool:=(cE q6.x0)
  bif (!q7||(!q8)) then (((⟨(⟨I0,I0⟩:Rt),(⟨I0,I0⟩:Rt),(⟨I0,I0⟩:Rt),(⟨I0,I0⟩:Rt),(⟨I0,I0⟩:Rt),(⟨I0,I0⟩:Rt)⟩:(A6 Rt)),(⟨(⟨I0,I0⟩:Rt),(⟨I0,I0⟩:Rt),(⟨I0,I0⟩:Rt),(⟨I0,I0⟩:Rt),(⟨I0,I0⟩:Rt),(⟨I0,I0⟩:Rt)⟩:(A6 Rt)),(wl 30))) else (let q9:Bool:=(cE q3.x1)
  let q10:Bool:=(cE q6.x1)
  bif (!q9||(!q10)) then (((⟨(⟨I0,I0⟩:Rt),(⟨I0,I0⟩:Rt),(⟨I0,I0⟩:Rt),(⟨I0,I0⟩:Rt),(⟨I0,I0⟩:Rt),(⟨I0,I0⟩:Rt)⟩:(A6 Rt)),(⟨(⟨I0,I0⟩:Rt),(⟨I0,I0⟩:Rt),(⟨I0,I0⟩:Rt),(⟨I0,I0⟩:Rt),(⟨I0,I0⟩:Rt),(⟨I0,I0⟩:Rt)⟩:(A6 Rt)),(wl 30))) else (let q11:Bool:=(cE q3.x2)
  let q12:Bool:=(cE q6.x2)
  bif (!q11||(!q12)) then (((⟨(⟨I0,I0⟩:Rt),(⟨I0,I0⟩:Rt),(⟨I0,I0⟩:Rt),(⟨I0,I0⟩:Rt),(⟨I0,I0⟩:Rt),(⟨I0,I0⟩:Rt)⟩:(A6 Rt)),(⟨(⟨I0,I0⟩:Rt),(⟨I0,I0⟩:Rt),(⟨I0,I0⟩:Rt),(⟨I0,I0⟩:Rt),(⟨I0,I0⟩:Rt),(⟨I0,I0⟩:Rt)⟩:(A6 Rt)),(wl 30))) else (let q13:Bool:=(cE q3.x3)
  let q14:Bool:=(cE q6.x3)
  bif (!q13||(!q14)) then (((⟨(⟨I0,I0⟩:Rt),(⟨I0,I0⟩:Rt),(⟨I0,I0⟩:Rt),(⟨I0,I0⟩:Rt),(⟨I0,I0⟩:Rt),(⟨I0,I0⟩:Rt)⟩:(A6 Rt)),(⟨(⟨I0,I0⟩:Rt),(⟨I0,I0⟩:Rt),(⟨I0,I0⟩:Rt),(⟨I0,I0⟩:Rt),(⟨I0,I0⟩:Rt),(⟨I0,I0⟩:Rt)⟩:(A6 Rt)),(wl 30))) else (let q15:Bool:=(cE q3.x4)
  let q16:Bool:=(cE q6.x4)
  bif (!q15||(!q16)) then (((⟨(⟨I0,I0⟩:Rt),(⟨I0,I0⟩:Rt),(⟨I0,I0⟩:Rt),(⟨I0,I0⟩:Rt),(⟨I0,I0⟩:Rt),(⟨I0,I0⟩:Rt)⟩:(A6 Rt)),(⟨(⟨I0,I0⟩:Rt),(⟨I0,I0⟩:Rt),(⟨I0,I0⟩:Rt),(⟨I0,I0⟩:Rt),(⟨I0,I0⟩:Rt),(⟨I0,I0⟩:Rt)⟩:(A6 Rt)),(wl 30))) else (let q17:Bool:=(cE q3.x5)
  let q18:Bool:=(cE q6.x5)
  bif (!q17||(!q18)) then (((⟨(⟨I0,I0⟩:Rt),(⟨I0,I0⟩:Rt),(⟨I0,I0⟩:Rt),(⟨I0,I0⟩:Rt),(⟨I0,I0⟩:Rt),(⟨I0,I0⟩:Rt)⟩:(A6 Rt)),(⟨(⟨I0,I0⟩:Rt),(⟨I0,I0⟩:Rt),(⟨I0,I0⟩:Rt),(⟨I0,I0⟩:Rt),(⟨I0,I0⟩:Rt),(⟨I0,I0⟩:Rt)⟩:(A6 Rt)),(wl 30))) else ((q3,q6,(wl 0)))))))))
def gF (h:Path) (u:(A3 W)) (b:(A3 Rt)) (m:Rt) (k:Int):(List Rt)×W :=
  bif (((dU h u b m).2).1 != 0) then ((([]:List Rt),(dU h u b m).2)) else (bif (decide (k<0)||decide (12<k)) then ((([]:List Rt),(wl 1))) else (bif (((d8 ((dU h u b m).1) ((k).toNat+1) (dK (wl 0)) (dK (wl 1)) (k).toNat []).1).1 != 0) then ((([]:List Rt),(d8 ((dU h u b m).1) ((k).toNat+1) (dK (wl 0)) (dK (wl 1)) (k).toNat []).1)) else (((d8 ((dU h u b m).1) ((k).toNat+1) (dK (wl 0)) (dK (wl 1)) (k).toNat []).2,(wl 0)))))
def oC (a:(List Rt)) (b:(List Rt)):Nat→Nat→(Nat) ⊕ (Bool)
  | 0,i=>.inl i
  | k0+1,i=>bif decide (((i:Nat):Int)<(((a).length:Nat):Int)) then (bif (decide (((a.getD i Rt0).n)=((b.getD i Rt0).n))&&decide (((a.getD i Rt0).d)=((b.getD i Rt0).d))) then ((oC a b k0 (i+1))) else (.inr (false))) else (.inl i)
def jB (a:(List Rt)) (b:(List Rt)):Bool :=
  bif ((((a).length:Nat):Int) != (((b).length:Nat):Int)) then (false) else (sm (fun (s:Nat)=>let i:Nat:=s
  true) (fun r=>r) (oC a b ((a.length+1)) 0))
def jM (a:W) (b:W) (c:W) (d:W) (e:W) (x:W):(A6 Rt) :=
  (⟨(aE a),(aE b),(aE c),(aE d),(aE e),(aE x)⟩:(A6 Rt))
def cZ (a:W) (b:W) (c:W):(A3 Rt) :=
  let r2:(A3 Rt):=(fM (⟨a,b,c⟩:(A3 W)))
  r2
def F_skewbacklaw26_sanity :Bool :=
  let q0:Pull:=(i5 (⟨(wl 0),(wl 2),(⟨(wl 10),(wl 0),(wl 20)⟩:(A3 W)),(⟨(wl 0),(wl 0),(wl 4)⟩:(A3 W))⟩:Rope) [(⟨(⟨(wl 10),(wl 0),(wl 0)⟩:(A3 W)),(⟨(wl 1),(wl 0),(wl 0),(wl 0)⟩:(A4 W))⟩:Pose),(⟨(⟨(wl 10),(wl 0),(wl 8)⟩:(A3 W)),(⟨(wl 1),(wl 0),(wl 0),(wl 0)⟩:(A4 W))⟩:Pose)]).1
  let q1:W:=(i5 (⟨(wl 0),(wl 2),(⟨(wl 10),(wl 0),(wl 20)⟩:(A3 W)),(⟨(wl 0),(wl 0),(wl 4)⟩:(A3 W))⟩:Rope) [(⟨(⟨(wl 10),(wl 0),(wl 0)⟩:(A3 W)),(⟨(wl 1),(wl 0),(wl 0),(wl 0)⟩:(A4 W))⟩:Pose),(⟨(⟨(wl 10),(wl 0),(wl 8)⟩:(A3 W)),(⟨(wl 1),(wl 0),(wl 0),(wl 0)⟩:(A4 W))⟩:Pose)]).2
  let q2:I:=(bK q0).1
  let q3:I:=(bK q0).2
  let q4:(A3 W):=(cL q0).1
  let q5:W:=(cL q0).2
  let q6:(A6 Rt):=(dI q0).1
  let q7:(A6 Rt):=(dI q0).2.1
  let q8:W:=(dI q0).2.2
  let q9:(A3 Rt):=(cZ (wl 10) (wl 0) (wl 20))
  let q10:(A3 Rt):=(cZ (wl 10) (wl 0) (wl 12))
  let q11:Rt:=(cF q0)
  let q12:Rt:=(dK (wl 64))
  let q13:I:=(E (Z.of 8))
  let q14:(A6 Rt):=(jM (wl 0) (wl 0) (wl (-1)) (wl 0) (wl 10) (wl 0))
  let q15:(A6 Rt):=(jM (wl 0) (wl 0) (wl 1) (wl 0) (wl (-10)) (wl 0))
  let q16:(A3 Rt):=(cZ (wl 10) (wl 0) (wl 0))
  let q17:(List Rt):=(gF (⟨(⟨(⟨(wl 10),(wl 0),(wl 0)⟩:(A3 W)),(⟨(wl 1),(wl 0),(wl 0),(wl 0)⟩:(A4 W))⟩:Pose),(⟨(⟨(wl 10),(wl 0),(wl 8)⟩:(A3 W)),(⟨(wl 1),(wl 0),(wl 0),(wl 0)⟩:(A4 W))⟩:Pose)⟩:Path) (⟨(wl 0),(wl 0),(wl 0)⟩:(A3 W)) q16 q12 0).1
  let q18:W:=(gF (⟨(⟨(⟨(wl 10),(wl 0),(wl 0)⟩:(A3 W)),(⟨(wl 1),(wl 0),(wl 0),(wl 0)⟩:(A4 W))⟩:Pose),(⟨(⟨(wl 10),(wl 0),(wl 8)⟩:(A3 W)),(⟨(wl 1),(wl 0),(wl 0),(wl 0)⟩:(A4 W))⟩:Pose)⟩:Path) (⟨(wl 0),(wl 0),(wl 0)⟩:(A3 W)) q16 q12 0).2
  let q19:Rt:=(dK (wl 63))
  let q20:(List Rt):=(gF (⟨(⟨(⟨(wl 10),(wl 0),(wl 0)⟩:(A3 W)),(⟨(wl 1),(wl 0),(wl 0),(wl 0)⟩:(A4 W))⟩:Pose),(⟨(⟨(wl 10),(wl 0),(wl 8)⟩:(A3 W)),(⟨(wl 1),(wl 0),(wl 0),(wl 0)⟩:(A4 W))⟩:Pose)⟩:Path) (⟨(wl 0),(wl 0),(wl 0)⟩:(A3 W)) q16 q19 0).1
  let q21:W:=(gF (⟨(⟨(⟨(wl 10),(wl 0),(wl 0)⟩:(A3 W)),(⟨(wl 1),(wl 0),(wl 0),(wl 0)⟩:(A4 W))⟩:Pose),(⟨(⟨(wl 10),(wl 0),(wl 8)⟩:(A3 W)),(⟨(wl 1),(wl 0),(wl 0),(wl 0)⟩:(A4 W))⟩:Pose)⟩:Path) (⟨(wl 0),(wl 0),(wl 0)⟩:(A3 W)) q16 q19 0).2
  let q22:I:=(cA (wl 5) (wl 2) [(⟨(⟨(wl 10),(wl 0),(wl 0)⟩:(A3 W)),(⟨(wl 1),(wl 0),(wl 0),(wl 0)⟩:(A4 W))⟩:Pose),(⟨(⟨(wl 10),(wl 0),(wl 8)⟩:(A3 W)),(⟨(wl 1),(wl 0),(wl 0),(wl 0)⟩:(A4 W))⟩:Pose),(⟨(⟨(wl 10),(wl 0),(wl 0)⟩:(A3 W)),(⟨(wl 1),(wl 0),(wl 0),(wl 0)⟩:(A4 W))⟩:Pose)]).1
  let q23:W:=(cA (wl 5) (wl 2) [(⟨(⟨(wl 10),(wl 0),(wl 0)⟩:(A3 W)),(⟨(wl 1),(wl 0),(wl 0),(wl 0)⟩:(A4 W))⟩:Pose),(⟨(⟨(wl 10),(wl 0),(wl 8)⟩:(A3 W)),(⟨(wl 1),(wl 0),(wl 0),(wl 0)⟩:(A4 W))⟩:Pose),(⟨(⟨(wl 10),(wl 0),(wl 0)⟩:(A3 W)),(⟨(wl 1),(wl 0),(wl 0),(wl 0)⟩:(A4 W))⟩:Pose)]).2
  let q24:Rt:=(dK (wl 1))
  let q25:Bool:=(jB q17 [q24])
  let q26:I:=(E (Z.of 80))
  (((q1.1==0)&&((decide (q0.a.1=0)&&(decide (q0.b.1=2)&&(decide (q0.p.x.n=q9.x.n)&&(decide (q0.p.x.d=q9.x.d)&&(decide (q0.p.y.n=q9.y.n)&&(decide (q0.p.y.d=q9.y.d)&&(decide (q0.p.z.n=q9.z.n)&&(decide (q0.p.z.d=q9.z.d)&&(decide (q0.q.x.n=q10.x.n)&&(decide (q0.q.x.d=q10.x.d)&&(decide (q0.q.y.n=q10.y.n)&&(decide (q0.q.y.d=q10.y.d)&&(decide (q0.q.z.n=q10.z.n)&&decide (q0.q.z.d=q10.z.d))))))))))))))&&((decide (q11.n=q12.n)&&decide (q11.d=q12.d))&&(decide (q2=q13)&&decide (q3=q13)))))&&(((q5.1==0)&&((q8.1==0)&&((decide (q4.x.1=0)&&(decide (q4.y.1=0)&&decide (q4.z.1=(-1))))&&((decide (q6.x0.n=q14.x0.n)&&(decide (q6.x0.d=q14.x0.d)&&(decide (q6.x1.n=q14.x1.n)&&(decide (q6.x1.d=q14.x1.d)&&(decide (q6.x2.n=q14.x2.n)&&(decide (q6.x2.d=q14.x2.d)&&(decide (q6.x3.n=q14.x3.n)&&(decide (q6.x3.d=q14.x3.d)&&(decide (q6.x4.n=q14.x4.n)&&(decide (q6.x4.d=q14.x4.d)&&(decide (q6.x5.n=q14.x5.n)&&decide (q6.x5.d=q14.x5.d))))))))))))&&(decide (q7.x0.n=q15.x0.n)&&(decide (q7.x0.d=q15.x0.d)&&(decide (q7.x1.n=q15.x1.n)&&(decide (q7.x1.d=q15.x1.d)&&(decide (q7.x2.n=q15.x2.n)&&(decide (q7.x2.d=q15.x2.d)&&(decide (q7.x3.n=q15.x3.n)&&(decide (q7.x3.d=q15.x3.d)&&(decide (q7.x4.n=q15.x4.n)&&(decide (q7.x4.d=q15.x4.d)&&(decide (q7.x5.n=q15.x5.n)&&decide (q7.x5.d=q15.x5.d))))))))))))))))&&((q18.1==0)&&(q25&&((q21.1==200)&&(decide (q22=q26)&&(q23.1==0)))))))
end Go.Num

namespace Go.Kn
open Go Go.Num
section
variable {α:Type} {e:El α} {P:Program} {w0:World} {X:List Nat} {N:Nm} {S:Fr} {M M':List Blk} {d:Option Tmp} {ty:TypeId} {ps:String} {af:Array Edge} {gd:Option (Nat×Bool)} {E:TypeId}
def OwnN (w0:World) (E:TypeId) (e:El α):List Value→List (List α)→List Blk→Prop
  | [],[],L=>L=[]
  | v :: vs,l :: ls,L=>∃ L1 L2,L=L1 ++ L2∧OwnG w0 E e v l L1∧OwnN w0 E e vs ls L2
  | _,_,_=>False
def SloN (w1 w:World) (E:TypeId) (e:El α) (vs:List Value) (ls:List (List α)):Prop :=
  ∃ L,OwnN w1 E e vs ls L∧(L.map Blk.b).Nodup∧∀ x∈L,w.heap[x.b]? = some (.cells x.cs.toArray x.T (0,0))
theorem OwnG.ge {v:Value} {l:List α} {L:List Blk} (h:OwnG w0 E e v l L):∀ x∈L,w0.heap.size≤x.b:=by
  rcases h with ⟨_,_,rfl⟩ | ⟨g,cap,cur,_,rfl,hg,_⟩
  · intro x hx;cases hx
  intro x hx;obtain rfl:=List.mem_singleton.1 hx;exact hg
theorem OwnG.wid {w:World} {v:Value} {l:List α} {L:List Blk} (hs:w0.heap.size≤w.heap.size) (h:OwnG w E e v l L):OwnG w0 E e v l L:=by
  rcases h with h | ⟨g,cap,cur,h1,h2,hg,h3⟩
  · exact .inl h
  exact .inr ⟨g,cap,cur,h1,h2,Nat.le_trans hs hg,h3⟩
theorem OwnN.ge:∀ {vs:List Value} {ls:List (List α)} {L:List Blk},OwnN w0 E e vs ls L→∀ x∈L,w0.heap.size≤x.b
  | [],[],L,h,x,hx=>by rw [show L=[] from h] at hx;cases hx
  | v :: vs,l :: ls,L,⟨L1,L2,h,h1,h2⟩,x,hx=>by
    rw [h] at hx;rcases List.mem_append.1 hx with hx | hx
    · exact h1.ge x hx
    exact OwnN.ge h2 x hx
theorem OwnN.wid {w:World} (hs:w0.heap.size≤w.heap.size):∀ {vs:List Value} {ls:List (List α)} {L:List Blk},OwnN w E e vs ls L→OwnN w0 E e vs ls L
  | [],[],_,h=>h
  | v :: vs,l :: ls,L,⟨L1,L2,h,h1,h2⟩=>⟨L1,L2,h,h1.wid hs,OwnN.wid hs h2⟩
theorem SloN.now {w w':World} {vs:List Value} {ls:List (List α)} (h:SloN w w' E e vs ls) (hw:Sat w0 X M w) (he:Ext w w'):∃ L,Sat w0 X (L ++ M) w'∧OwnN w0 E e vs ls L:=by
  obtain ⟨L,h1,h2,h3⟩:=h;have hw':=Sat.mono _ _ _ _ _ hw he;refine ⟨L,⟨hw'.os,hw'.tape,hw'.output,hw'.size,hw'.old,?_,fun y hy=>?_⟩,h1.wid hw.size⟩
  · rw [List.map_append]
    refine List.nodup_append.2 ⟨h2,hw'.nodup,fun a ha b hb e=>?_⟩;subst e;obtain ⟨x,hx,e1⟩:=List.mem_map.1 ha;obtain ⟨y,hy,e2⟩:=List.mem_map.1 hb;have g1:=h1.ge x hx;have g2:=jR? (hw.mem y hy);omega
  rcases List.mem_append.1 hy with hy | hy
  · exact h3 y hy
  exact hw'.mem y hy
theorem Sat.sloN {w:World} {L M2:List Blk} {vs:List Value} {ls:List (List α)} (hw:Sat w0 X M w) (p:M.Perm (L ++ M2)) (h:OwnN w0 E e vs ls L):SloN w0 w E e vs ls:=by
  have h2:=hw.perm p;refine ⟨L,h,?_,fun x hx=>h2.mem x (List.mem_append_left _ hx)⟩;have:=h2.nodup;rw [List.map_append] at this;exact (List.nodup_append.1 this).1
def m3_ (w0:World) (M:List Blk) (E:TypeId) (e:El α) (v1 v2 v3 v4:Value) (l1 l2 l3 l4:List α):Prop:=∃ L M2,M.Perm (L ++ M2)∧OwnN w0 E e [v1,v2,v3,v4] [l1,l2,l3,l4] L
theorem gY_ {v1 v2 v3 v4:Value} {l1 l2 l3 l4:List α} {L1 L2 L3 L4 M1 M2 M3 M4:List Blk} (h1:OwnG w0 E e v1 l1 L1) (h2:OwnG w0 E e v2 l2 L2) (h3:OwnG w0 E e v3 l3 L3) (h4:OwnG w0 E e v4 l4 L4)
    (f1:Frq M L1 M1) (f2:Frq M1 L2 M2) (f3:Frq M2 L3 M3) (f4:Frq M3 L4 M4):m3_ w0 M E e v1 v2 v3 v4 l1 l2 l3 l4 :=
  ⟨L1 ++ (L2 ++ (L3 ++ (L4 ++ []))),M4,f1.trans (by
    have g1:M1.Perm (L2 ++ (L3 ++ (L4 ++ M4))):=f2.trans (List.Perm.append_left _ (f3.trans (List.Perm.append_left _ f4)));have:=List.Perm.append_left L1 g1
    simpa [List.append_assoc] using this),L1,_,rfl,h1,L2,_,rfl,h2,L3,_,rfl,h3,L4,_,rfl,h4,rfl⟩
theorem G3 {n:Nat} {f:FuncId} {fn:Func} {c:Code} {args:List Value} {w:World} {l1 l2 l3 l4:List α} (R:Value→Value→Value→Value→Value) (hf:P.funcs[f]? = some fn) (hb:fn.body=some c) (hn:fn.ntmps=n) (hl:args.length≤n)
    (h:W P w [] (pl n) c (yL P fn w [] (pl n) fun r M=>∃ v1 v2 v3 v4,r=R v1 v2 v3 v4∧m3_ w M E e v1 v2 v3 v4 l1 l2 l3 l4) (cS 0 args) []):Calls P f args.toArray w fun f w'=>∃ v1 v2 v3 v4,f = .returned (R v1 v2 v3 v4)∧Ext w w'∧SloN w w' E e [v1,v2,v3,v4] [l1,l2,l3,l4] :=
  (yD hf hb hn hl (Sat.start w []) h).mono fun f w' ⟨r,M',he,hs,_,v1,v2,v3,v4,hr,L,M2,p,hN⟩=>⟨v1,v2,v3,v4,by rw [he,hr],hs.ext,hs.sloN p hN⟩
theorem HH {g:FuncId} {xs:List Operand} {tys:Array TypeId} {args:List Value} {K:Value→List Blk→Prop} {l1 l2 l3 l4:List α} (R:Value→Value→Value→Value→Value) (he:aY P g=true) (ha:evL N S xs=some args)
    (h:∀ w,Sat w0 X M w→Calls P g args.toArray w fun f w'=>∃ v1 v2 v3 v4,f = .returned (R v1 v2 v3 v4)∧Ext w w'∧SloN w w' E e [v1,v2,v3,v4] [l1,l2,l3,l4])
    (k:∀ p1 c1 L1 p2 c2 L2 p3 c3 L3 p4 c4 L4,OwnG w0 E e (.slice p1 l1.length c1) l1 L1→OwnG w0 E e (.slice p2 l2.length c2) l2 L2→OwnG w0 E e (.slice p3 l3.length c3) l3 L3→OwnG w0 E e (.slice p4 l4.length c4) l4 L4→K (R (.slice p1 l1.length c1) (.slice p2 l2.length c2) (.slice p3 l3.length c3) (.slice p4 l4.length c4)) (L1 ++ (L2 ++ (L3 ++ (L4 ++ M))))) :
    OpR P w0 X N ⟨d,.call { callee:=.value (.func g),args:=xs.toArray,argTypes:=tys },ty,ps,af,gd⟩ S M K :=
  P2 he ha fun w hw=>(h w hw).mono fun _ w' ⟨v1,v2,v3,v4,h1,h2,h3⟩=>by
    obtain ⟨L,hs,L1,_,rfl,q1,L2,_,rfl,q2,L3,_,rfl,q3,L4,_,rfl,q4,rfl⟩:=h3.now hw h2;obtain ⟨p1,c1,rfl⟩:=q1.form;obtain ⟨p2,c2,rfl⟩:=q2.form;obtain ⟨p3,c3,rfl⟩:=q3.form;obtain ⟨p4,c4,rfl⟩:=q4.form;simp only [List.append_assoc,List.nil_append] at hs;exact ⟨_,_,h1,hs,Ext.keeps h2,k _ _ _ _ _ _ _ _ _ _ _ _ q1 q2 q3 q4⟩
end
end Go.Kn

namespace Go.Kn
open Go Go.Num
section
variable {P:Program} {w0:World} {X:List Nat} {N:Nm} {S:Fr} {M M':List Blk} {d:Option Tmp} {ty:TypeId} {ps:String} {af:Array Edge} {gd:Option (Nat×Bool)}
theorem UK {g:FuncId} {f:Operand} {xs:List Operand} {tys:Array TypeId} {args cap:List Value} {Q K:Value→List Blk→Prop} (he:aY P g=true) (hf:evO N S f=some (.func (.func g) #[] cap.toArray)) (ha:evL N S xs=some args)
    (h:∀ w,Sat w0 X M w→Calls P g (args ++ cap).toArray w fun e w'=>∃ v M',e = .returned v∧Sat w0 X M' w'∧KeepsOthers w w'∧Q v M') (k:∀ v M',Q v M'→K v M') :
    OpR P w0 X N ⟨d,.call { callee:=.value f,args:=xs.toArray,argTypes:=tys },ty,ps,af,gd⟩ S M K:=by
  intro w hw;unfold opw;rw [uZ,IN (first:=[]) (cap:=cap) (args:=args ++ cap) he (eF hf) (by simpa using C1 ha)];exact (h w hw).mono fun e w' ⟨v,M',h1,h2,h4,h3⟩=>⟨v,h1,h4,M',h2,k v M' h3⟩
theorem WT {α:Type} {e:El α} {l:List α} {E:TypeId} {g:FuncId} {f:Operand} {xs:List Operand} {tys:Array TypeId} {args:List Value} {K:Value→List Blk→Prop} (R:Value→Value) (he:aY P g=true) (hf:evO N S f=some (.func (.func g) #[] #[])) (ha:evL N S xs=some args)
    (h:∀ w,Sat w0 X M w→Calls P g args.toArray w fun f w'=>∃ v,f = .returned (R v)∧Ext w w'∧Slo w.heap.size w' E e v l) (k:∀ p c L,OwnG w0 E e (.slice p l.length c) l L→K (R (.slice p l.length c)) (L ++ M)) :
    OpR P w0 X N ⟨d,.call { callee:=.value f,args:=xs.toArray,argTypes:=tys },ty,ps,af,gd⟩ S M K :=
  UK (cap:=[]) (Q:=K) he hf ha (fun w hw=>by
    rw [List.append_nil]
    exact (h w hw).mono fun _ w' ⟨v,h1,h2,h3⟩=>by
      obtain ⟨p,c,L,rfl,hs,hv⟩:=h3.now hw h2
      exact ⟨_,L ++ M,h1,hs,Ext.keeps h2,k p c L hv⟩) (fun _ _ h=>h)
theorem bU_ {n:Nat} {f:FuncId} {fn:Func} {c:Code} {args:List Value} {w:World} {Q:Value→List Blk→Prop} (hf:P.funcs[f]? = some fn) (hb:fn.body=some c) (hn:fn.ntmps=n) (hl:args.length≤n) (hw:Sat w0 X M w)
    (h:W P w0 X (pl n) c (yL P fn w0 X (pl n) fun v M'=>∃ M2 Z,M'.Perm (M2 ++ Z)∧Q v M2) (cS 0 args) M):Calls P f args.toArray w fun e w'=>∃ v M',e = .returned v∧Sat w0 X M' w'∧KeepsOthers w w'∧Q v M' :=
  (yD hf hb hn hl hw h).mono fun e w' ⟨v,M',h1,h2,h3,M2,Z,p,hq⟩=>⟨v,M2,h1,(h2.perm p).sub (List.sublist_append_left _ _),h3,hq⟩
theorem aH_ {x y z:Blk} {L R M1 M2 M3 M4 M5:List Blk} (f1:Frq M [x] M1) (f2:Frq M1 L M2) (f3:Frq M2 [y] M3) (f4:Frq M3 [z] M4) (f5:Frq M4 R M5):M.Perm (x :: (L ++ (y :: (z :: (R ++ M5))))):=by
  have g4:M3.Perm (z :: (R ++ M5)):=f4.trans (List.Perm.cons z f5);have g3:M2.Perm (y :: (z :: (R ++ M5))):=f3.trans (List.Perm.cons y g4);have g2:M1.Perm (L ++ (y :: (z :: (R ++ M5)))):=f2.trans (List.Perm.append_left L g3);exact f1.trans (List.Perm.cons x g2)
theorem Frq.pc {x:Blk} {M1 R:List Blk} (f:Frq M [x] M1) (g:M1.Perm R):M.Perm (x :: R):=f.trans (List.Perm.cons x g)
theorem Frq.pa {L M1 R:List Blk} (f:Frq M L M1) (g:M1.Perm R):M.Perm (L ++ R):=f.trans (List.Perm.append_left L g)
theorem IU {x y z:Blk} {L R Z:List Blk}:(x :: (L ++ (y :: (z :: (R ++ Z))))).Perm ((x :: (L ++ (y :: (z :: (R ++ []))))) ++ Z):=by
  simp [List.append_assoc]
theorem ru_ {M:List Blk}:Frq M [] M:=List.Perm.refl _
def sv_ {α:Type} (w0:World) (E T:TypeId) (e:El α) (bt:Nat) (v:Value) (l:List α) (R:List Blk) (r:Value) (M:List Blk):Prop :=
  ∃ p c L,r=v∧OwnG w0 E e (.slice p l.length c) l L∧M=⟨bt,T,aW [csl p l.length c]⟩ :: (L ++ R)
end
end Go.Kn
namespace Go.Num
open Go Go.Kn
theorem W.sub1 {a:W} (h:1≤a.1):(W.sub a (wl 1)).1=a.1 - 1:=by
  have:=a.2;unfold I64 at this;exact wi ⟨by show _≤a.1 - 1;omega,by show a.1 - 1≤_;omega⟩
theorem qB_ {k:Nat} (h:k≤12):([]:List Rt).length+2 ^ k≤5000:=by
  have:=Nat.pow_le_pow_right (show 0<2 by decide) h
  show 0+2 ^ k≤5000
  omega
end Go.Num

