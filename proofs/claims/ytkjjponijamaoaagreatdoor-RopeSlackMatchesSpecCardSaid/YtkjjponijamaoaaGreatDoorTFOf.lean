/- Lemmas: what they ask stands in their statements. -/
import Derived.Test.YtkjjponijamaoaaGreatDoorTFa0
set_option linter.unusedSimpArgs false
set_option linter.unusedVariables false
namespace Go.Num
open Go Go.Kn
def eJ (a:Pose):W :=
  bif (decide (140737488355328≤a.x.x.1)||decide (a.x.x.1≤(-140737488355328))) then ((wl 1)) else (bif (decide (140737488355328≤a.x.y.1)||decide (a.x.y.1≤(-140737488355328))) then ((wl 1)) else (bif (decide (140737488355328≤a.x.z.1)||decide (a.x.z.1≤(-140737488355328))) then ((wl 1)) else (bif (gD a.q) then ((wl 0)) else ((wl 1)))))
def cM (a:Path):W :=
  bif ((eJ a.from_).1 != 0) then ((eJ a.from_)) else ((eJ a.to_))
def aC (h:Path):(A4 (List I)) :=
  bif decide ((gJ h.from_.q h.to_.q).1<0) then ((⟨(cA [h.from_.q.x,(W.sub (W.mul (wl (-1)) h.to_.q.x) h.from_.q.x)]),(cA [h.from_.q.y,(W.sub (W.mul (wl (-1)) h.to_.q.y) h.from_.q.y)]),(cA [h.from_.q.z,(W.sub (W.mul (wl (-1)) h.to_.q.z) h.from_.q.z)]),(cA [h.from_.q.t,(W.sub (W.mul (wl (-1)) h.to_.q.t) h.from_.q.t)])⟩:(A4 (List I)))) else ((⟨(cA [h.from_.q.x,(W.sub (W.mul (wl 1) h.to_.q.x) h.from_.q.x)]),(cA [h.from_.q.y,(W.sub (W.mul (wl 1) h.to_.q.y) h.from_.q.y)]),(cA [h.from_.q.z,(W.sub (W.mul (wl 1) h.to_.q.z) h.from_.q.z)]),(cA [h.from_.q.t,(W.sub (W.mul (wl 1) h.to_.q.t) h.from_.q.t)])⟩:(A4 (List I))))
def aE (p:(List I)):(List I) :=
  (aX p p)
def iA (h:Path):(List I) :=
  (aK (aK (aE ((aC h).x)) (aE ((aC h).y))) (aK (aE ((aC h).z)) (aE ((aC h).t))))
def cL (a:(List I)) (b:(List I)) (c:(List I)) (d:(List I)) (k:W):(List I) :=
  (aM (aK (aX a b) (aM (aX c d) (E (Z.of k.1)))) (E (Z.of 2)))
def eE (a:(List I)) (b:(List I)) (c:(List I)) (d:(List I)):(List I) :=
  (eD (aK (aE a) (aE b)) (aK (aE c) (aE d)))
def cY (h:Path) (v:(A3 W)):Moving :=
  let q0:(List I):=(iA h)
  let q1:(A4 (List I)):=(aC h)
  let q2:(List I):=(eE q1.x q1.y q1.z q1.t)
  let q3:(List I):=(cL q1.y q1.z q1.x q1.t (wl (-1)))
  let q4:(List I):=(cL q1.y q1.t q1.x q1.z (wl 1))
  let q5:(List I):=(cL q1.y q1.z q1.x q1.t (wl 1))
  let q6:(List I):=(eE q1.x q1.z q1.y q1.t)
  let q7:(List I):=(cL q1.z q1.t q1.x q1.y (wl (-1)))
  let q8:(List I):=(cL q1.y q1.t q1.x q1.z (wl (-1)))
  let q9:(List I):=(cL q1.z q1.t q1.x q1.y (wl 1))
  let q10:(List I):=(eE q1.x q1.t q1.y q1.z)
  let q11:(List I):=(cA [h.from_.x.x,(W.sub h.to_.x.x h.from_.x.x)])
  let q12:(List I):=(aX q0 q11)
  let q13:I:=(E (Z.of v.x.1))
  let q14:(List I):=(aM q2 q13)
  let q15:(List I):=(aK q12 q14)
  let q16:I:=(E (Z.of v.y.1))
  let q17:(List I):=(aM q3 q16)
  let q18:(List I):=(aK q15 q17)
  let q19:I:=(E (Z.of v.z.1))
  let q20:(List I):=(aM q4 q19)
  let q21:(List I):=(aK q18 q20)
  let q22:(List I):=(cA [h.from_.x.y,(W.sub h.to_.x.y h.from_.x.y)])
  let q23:(List I):=(aX q0 q22)
  let q24:(List I):=(aM q5 q13)
  let q25:(List I):=(aK q23 q24)
  let q26:(List I):=(aM q6 q16)
  let q27:(List I):=(aK q25 q26)
  let q28:(List I):=(aM q7 q19)
  let q29:(List I):=(aK q27 q28)
  let q30:(List I):=(cA [h.from_.x.z,(W.sub h.to_.x.z h.from_.x.z)])
  let q31:(List I):=(aX q0 q30)
  let q32:(List I):=(aM q8 q13)
  let q33:(List I):=(aK q31 q32)
  let q34:(List I):=(aM q9 q16)
  let q35:(List I):=(aK q33 q34)
  let q36:(List I):=(aM q10 q19)
  let q37:(List I):=(aK q35 q36)
  (⟨(⟨q21,q29,q37⟩:(A3 (List I))),q0⟩:Moving)
def mL (l:(List I)) (f:I→Bool):Nat→Nat→(Nat) ⊕ (W)
  | 0,i=>.inl i
  | k0+1,i=>bif decide (((i:Nat):Int)<(((l).length:Nat):Int)) then (bif (f (l.getD i I0)) then (.inr ((W.cv ((i:Nat):Int)))) else ((mL l f k0 (i+1)))) else (.inl i)
def u9 (l:(List I)) (f:I→Bool):W :=
  sm (fun (s:Nat)=>let i:Nat:=s
  (wl (-1))) (fun r=>r) (mL l f ((l.length+1)) 0)
def t8 (l:(List I)) (f:I→Bool):Bool :=
  (decide (0≤(u9 l f).1))
def lA (a:W) (b:W):Rt :=
  let r2:Rt:=(cX (E (Z.of a.1)) (E (Z.of b.1)))
  r2
def nX (l:(List W)) (x0:W) (l0:List W) (o:W):Nat→W→W→W×W
  | 0,p,q=>(p,q)
  | k1+1,p,q=>bif (q.1 != 0) then ((nX l x0 l0 o k1 q (W.rem p q))) else ((p,q))
def mT (l:(List W)):List W→W→W
  | [],o=>o
  | x0 :: l0,o=>ap (fun (s:W×W)=>let p:W:=s.1
  let q:W:=s.2
  (mT l l0 p)) (nX l x0 l0 o ((W.max x0 (W.neg x0)).1.natAbs+1) o (W.max x0 (W.neg x0)))
def dX (l:(List W)):W :=
  ap (fun (s:W)=>let o:W:=s
  o) (mT l l (wl 0))
def sM (a:(A4 W)):Bool :=
  bif (decide (64<(W.max a.x (W.neg a.x)).1)||((a.x.1==(W.neg a.x).1)&&(a.x.1 != 0))) then (false) else (bif (decide (64<(W.max a.y (W.neg a.y)).1)||((a.y.1==(W.neg a.y).1)&&(a.y.1 != 0))) then (false) else (bif (decide (64<(W.max a.z (W.neg a.z)).1)||((a.z.1==(W.neg a.z).1)&&(a.z.1 != 0))) then (false) else (bif (decide (64<(W.max a.t (W.neg a.t)).1)||((a.t.1==(W.neg a.t).1)&&(a.t.1 != 0))) then (false) else (true))))
def fT (a:(A4 W)):(A4 W)×Bool :=
  bif ((dX [a.x,a.y,a.z,a.t]).1==0) then (((⟨(wl 0),(wl 0),(wl 0),(wl 0)⟩:(A4 W)),false)) else (bif (a.x.1 != 0) then (let r6:W:=(bif decide (a.x.1<0) then (W.neg (dX [a.x,a.y,a.z,a.t])) else (dX [a.x,a.y,a.z,a.t]))
  ((⟨(W.quo a.x r6),(W.quo a.y r6),(W.quo a.z r6),(W.quo a.t r6)⟩:(A4 W)),true)) else (bif (a.y.1 != 0) then (let r11:W:=(bif decide (a.y.1<0) then (W.neg (dX [a.x,a.y,a.z,a.t])) else (dX [a.x,a.y,a.z,a.t]))
  ((⟨(W.quo a.x r11),(W.quo a.y r11),(W.quo a.z r11),(W.quo a.t r11)⟩:(A4 W)),true)) else (bif (a.z.1 != 0) then (let r16:W:=(bif decide (a.z.1<0) then (W.neg (dX [a.x,a.y,a.z,a.t])) else (dX [a.x,a.y,a.z,a.t]))
  ((⟨(W.quo a.x r16),(W.quo a.y r16),(W.quo a.z r16),(W.quo a.t r16)⟩:(A4 W)),true)) else (bif (a.t.1 != 0) then (let r21:W:=(bif decide (a.t.1<0) then (W.neg (dX [a.x,a.y,a.z,a.t])) else (dX [a.x,a.y,a.z,a.t]))
  ((⟨(W.quo a.x r21),(W.quo a.y r21),(W.quo a.z r21),(W.quo a.t r21)⟩:(A4 W)),true)) else (((⟨(W.quo a.x (dX [a.x,a.y,a.z,a.t])),(W.quo a.y (dX [a.x,a.y,a.z,a.t])),(W.quo a.z (dX [a.x,a.y,a.z,a.t])),(W.quo a.t (dX [a.x,a.y,a.z,a.t]))⟩:(A4 W)),true))))))
def tP (a:(A4 W)):Bool :=
  bif (sM a) then (let r3:(A4 W):=(fT a).1
  ((fT a).2&&(decide (r3.x.1=a.x.1)&&(decide (r3.y.1=a.y.1)&&(decide (r3.z.1=a.z.1)&&decide (r3.t.1=a.t.1)))))) else (false)
def tD (a:(List W)):Nat→W→Nat→W×Nat
  | 0,o,i=>(o,i)
  | k0+1,o,i=>bif decide (((i+1:Nat):Int)<(((a).length:Nat):Int)) then ((tD a k0 (W.add o (W.mul (a.getD i W.z) (a.getD (i+1) W.z))) (i+2))) else ((o,i))
def fS (a:(List W)):W :=
  ap (fun (s:W×Nat)=>let o:W:=s.1
  let i:Nat:=s.2
  o) (tD a (a.length+1) (wl 0) 0)
def nN (a:(A4 W)):(A9 W) :=
  (⟨(fS [a.x,a.x,a.y,a.y,(W.neg a.z),a.z,(W.neg a.t),a.t]),(W.mul (wl 2) (fS [a.y,a.z,(W.neg a.x),a.t])),(W.mul (wl 2) (fS [a.y,a.t,a.x,a.z])),(W.mul (wl 2) (fS [a.y,a.z,a.x,a.t])),(fS [a.x,a.x,(W.neg a.y),a.y,a.z,a.z,(W.neg a.t),a.t]),(W.mul (wl 2) (fS [a.z,a.t,(W.neg a.x),a.y])),(W.mul (wl 2) (fS [a.y,a.t,(W.neg a.x),a.z])),(W.mul (wl 2) (fS [a.z,a.t,a.x,a.y])),(fS [a.x,a.x,(W.neg a.y),a.y,(W.neg a.z),a.z,a.t,a.t])⟩:(A9 W))
def oY (a:(A4 W)) (b:(A3 W)):(A3 W) :=
  let r4:(A9 W):=(nN a)
  (⟨(fS [r4.x0,b.x,r4.x1,b.y,r4.x2,b.z]),(fS [r4.x3,b.x,r4.x4,b.y,r4.x5,b.z]),(fS [r4.x6,b.x,r4.x7,b.y,r4.x8,b.z])⟩:(A3 W))
def qR (a:(A4 W)) (b:(A4 W)):W :=
  (fS [a.x,b.x,a.y,b.y,a.z,b.z,a.t,b.t])
def pJ (a:(A4 W)):W :=
  (qR a a)
def qV (a:(A4 W)) (b:(A3 W)):(A3 Rt) :=
  let r5:Rt:=(lA ((oY a b).x) (pJ a))
  let r6:Rt:=(lA ((oY a b).y) (pJ a))
  let r7:Rt:=(lA ((oY a b).z) (pJ a))
  (⟨r5,r6,r7⟩:(A3 Rt))
def kC (a:Pose):W :=
  bif (decide (140737488355328≤a.x.x.1)||decide (a.x.x.1≤(-140737488355328))) then ((wl 1)) else (bif (decide (140737488355328≤a.x.y.1)||decide (a.x.y.1≤(-140737488355328))) then ((wl 1)) else (bif (decide (140737488355328≤a.x.z.1)||decide (a.x.z.1≤(-140737488355328))) then ((wl 1)) else (bif (tP a.q) then ((wl 0)) else ((wl 1)))))
def nW (a:Path):W :=
  bif (((kC a.from_).1 != 0)||((kC a.to_).1 != 0)) then ((wl 1)) else ((wl 0))
def pH (a:Pose) (b:(A3 W)):(A3 Rt) :=
  let r4:(A3 Rt):=(iD a.x)
  let r5:(A3 Rt):=(qV a.q b)
  let r6:(A3 Rt):=(qX r4 r5)
  r6
def aP (h:Path):(A4 (List I)) :=
  bif decide ((qR h.from_.q h.to_.q).1<0) then ((⟨(dS [h.from_.q.x,(W.sub (W.mul (wl (-1)) h.to_.q.x) h.from_.q.x)]),(dS [h.from_.q.y,(W.sub (W.mul (wl (-1)) h.to_.q.y) h.from_.q.y)]),(dS [h.from_.q.z,(W.sub (W.mul (wl (-1)) h.to_.q.z) h.from_.q.z)]),(dS [h.from_.q.t,(W.sub (W.mul (wl (-1)) h.to_.q.t) h.from_.q.t)])⟩:(A4 (List I)))) else ((⟨(dS [h.from_.q.x,(W.sub (W.mul (wl 1) h.to_.q.x) h.from_.q.x)]),(dS [h.from_.q.y,(W.sub (W.mul (wl 1) h.to_.q.y) h.from_.q.y)]),(dS [h.from_.q.z,(W.sub (W.mul (wl 1) h.to_.q.z) h.from_.q.z)]),(dS [h.from_.q.t,(W.sub (W.mul (wl 1) h.to_.q.t) h.from_.q.t)])⟩:(A4 (List I))))
def dM (n:W) (l0:(List I)) (l1:(List I)) (l2:(List I)) (l3:(List I)):(List I) :=
  (bZ (bJ (bJ ([]:List I) (aW l0 l1)) (aW l2 l3)) (E (Z.of n.1)))
def qQ (n:W) (l0:(List I)) (l1:(List I)) (l2:(List I)) (l3:(List I)) (l4:(List I)) (l5:(List I)) (l6:(List I)) (l7:(List I)):(List I) :=
  (bZ (bJ (bJ (bJ (bJ ([]:List I) (aW l0 l1)) (aW l2 l3)) (aW l4 l5)) (aW l6 l7)) (E (Z.of n.1)))
def k9 (h:Path):(List I) :=
  (qQ (wl 1) ((aP h).x) ((aP h).x) ((aP h).y) ((aP h).y) ((aP h).z) ((aP h).z) ((aP h).t) ((aP h).t))
def i4 (x:(List I)) (y:(List I)) (z:(List I)) (u:(List I)):(List I) :=
  (kJ (dM (wl 1) x x y y) (dM (wl 1) z z u u))
def bB (h:Path) (v:(A3 W)):(A3 (List I))×(List I) :=
  let q0:(A4 (List I)):=(aP h)
  let q1:(List I):=(k9 h)
  let q2:I:=(E (Z.of (-1)))
  let q3:(List I):=(bZ q0.x q2)
  let q4:(List I):=(i4 q0.x q0.y q0.z q0.t)
  let q5:(List I):=(dM (wl 2) q0.y q0.z q3 q0.t)
  let q6:(List I):=(dM (wl 2) q0.y q0.t q0.x q0.z)
  let q7:(List I):=(dM (wl 2) q0.y q0.z q0.x q0.t)
  let q8:(List I):=(i4 q0.x q0.z q0.y q0.t)
  let q9:(List I):=(dM (wl 2) q0.z q0.t q3 q0.y)
  let q10:(List I):=(dM (wl 2) q0.y q0.t q3 q0.z)
  let q11:(List I):=(dM (wl 2) q0.z q0.t q0.x q0.y)
  let q12:(List I):=(i4 q0.x q0.t q0.y q0.z)
  let q13:(List I):=(dS [h.from_.x.x,(W.sub h.to_.x.x h.from_.x.x)])
  let q14:(List I):=(aW q1 q13)
  let q15:I:=(E (Z.of v.x.1))
  let q16:(List I):=(bZ q4 q15)
  let q17:(List I):=(bJ q14 q16)
  let q18:I:=(E (Z.of v.y.1))
  let q19:(List I):=(bZ q5 q18)
  let q20:(List I):=(bJ q17 q19)
  let q21:I:=(E (Z.of v.z.1))
  let q22:(List I):=(bZ q6 q21)
  let q23:(List I):=(bJ q20 q22)
  let q24:(List I):=(dS [h.from_.x.y,(W.sub h.to_.x.y h.from_.x.y)])
  let q25:(List I):=(aW q1 q24)
  let q26:(List I):=(bZ q7 q15)
  let q27:(List I):=(bJ q25 q26)
  let q28:(List I):=(bZ q8 q18)
  let q29:(List I):=(bJ q27 q28)
  let q30:(List I):=(bZ q9 q21)
  let q31:(List I):=(bJ q29 q30)
  let q32:(List I):=(dS [h.from_.x.z,(W.sub h.to_.x.z h.from_.x.z)])
  let q33:(List I):=(aW q1 q32)
  let q34:(List I):=(bZ q10 q15)
  let q35:(List I):=(bJ q33 q34)
  let q36:(List I):=(bZ q11 q18)
  let q37:(List I):=(bJ q35 q36)
  let q38:(List I):=(bZ q12 q21)
  let q39:(List I):=(bJ q37 q38)
  ((⟨q23,q31,q39⟩:(A3 (List I))),q1)
def eO (p:(List I)) (a:Rt) (b:Rt):Nat→(List I)→Int→List I×Int
  | 0,r,i=>(r,i)
  | k0+1,r,i=>bif decide (0≤i) then (let r32:I:=(E (Z.mul (p.getD ((i).toNat) I0).dec ((fA (E (Z.mul a.d.dec b.d.dec)) (((p).length:Nat):Int)).getD (((p).length - 1) - (i).toNat) I0).dec))
  (eO p a b k0 (bJ (aW r (gO [(E (Z.mul a.n.dec b.d.dec)),(E (Z.mul b.n.dec a.d.dec))])) (gO [r32])) (i - 1))) else ((r,i))
def gU (p:(List I)) (a:Rt) (b:Rt):(List I) :=
  bif ((dR p)||(!(kP [a,b]))) then (F_poly_bad) else (ap (fun (s:List I×Int)=>let r:List I:=s.1
  let i:Int:=s.2
  r) (eO p a b ((p.length+1)) ([]:List I) ((((p).length:Nat):Int) - 1)))
def dY (p:(List I)) (a:Rt) (b:Rt):(List I) :=
  (d7 (gU p a b))
def eZ (p:(List I)) (a:Rt) (b:Rt) (out:List I) (i:Nat):Nat→Nat→I→Nat×I
  | 0,j,mb40=>(j,mb40)
  | k1+1,j,mb40=>bif decide (((j:Nat):Int)<((((eT ((((p).length:Nat):Int) - 1) ((i:Nat):Int))).length:Nat):Int)) then (let r52:I:=(E (Z.mul ((eT ((((p).length:Nat):Int) - 1) ((i:Nat):Int)).getD j I0).dec (lL (dY p a (eP b a)) ((j:Nat):Int)).dec))
  (eZ p a b out i k1 (j+1) (E (Z.add mb40.dec r52.dec)))) else ((j,mb40))
def d9 (p:(List I)) (a:Rt) (b:Rt):Nat→(List I)→Nat→(List I×Nat) ⊕ ((List I)×Bool)
  | 0,out,i=>.inl (out,i)
  | k0+1,out,i=>bif decide (((i:Nat):Int)<(((p).length:Nat):Int)) then (ap (fun (s:Nat×I)=>let j:Nat:=s.1
  let mb40:I:=s.2
  bif mb40.1.bad then (.inr ((([]:List I),false))) else ((d9 p a b k0 (out ++ [mb40]) (i+1)))) (eZ p a b out i ((((eT ((((p).length:Nat):Int) - 1) ((i:Nat):Int))).length+1)) 0 I0)) else (.inl (out,i))
def gF (p:(List I)) (a:Rt) (b:Rt) (out:List I) (i:Nat):Nat→Nat→(List I)→Nat×List I
  | 0,k,t=>(k,t)
  | k2+1,k,t=>bif decide (((k:Nat):Int)<(((out).length:Nat):Int)) then ((gF p a b out i k2 (k+1) (t.set k (E (Z.quo (t.getD k I0).dec (dN out).dec))))) else ((k,t))
def cW (p:(List I)) (a:Rt) (b:Rt):(List I)×Bool :=
  bif ((dR p)||(!(kP [a,b]))) then ((([]:List I),false)) else (bif (dR (dY p a (eP b a))) then ((([]:List I),false)) else (sm (fun (s_:List I×Nat)=>let out:List I:=s_.1
  let i:Nat:=s_.2
  bif ((Z.signW (dN out).dec).1 != 0) then (ap (fun (s:Nat×List I)=>let k:Nat:=s.1
  let t:List I:=s.2
  (t,true)) (gF p a b out i ((out.length+1)) 0 out)) else ((out,true))) (fun r=>r) (d9 p a b ((p.length+1)) ([]:List I) 0)))
def gA (a:(A3 W)) (b:W):Bool :=
  bif (decide (b.1<a.x.1)||decide (a.x.1<(W.neg b).1)) then (false) else (bif (decide (b.1<a.y.1)||decide (a.y.1<(W.neg b).1)) then (false) else (bif (decide (b.1<a.z.1)||decide (a.z.1<(W.neg b).1)) then (false) else (true)))
def pR (l:(List I)):List I→I→I
  | [],mb2=>mb2
  | x0 :: l0,mb2=>(pR l l0 (E (Z.mul mb2.dec x0.dec)))
def iF (l:(List I)):I :=
  ap (fun (s:I)=>let mb2:I:=s
  mb2) (pR l (l.drop 1) (l.getD 0 I0))
def iU (a:Rt):Bool :=
  (!(aT a))
def cE (h:Path) (u:(A3 W)) (b:(A3 Rt)) (m:Rt):(List I)×W :=
  let q0:W:=(nW h)
  let q1:Bool:=(gA u (wl 262144))
  let q2:Bool:=(iU m)
  let q3:Bool:=(lU [b.x,b.y,b.z] (fun (y:Rt)=>(iU y)))
  bif ((q0.1 != 0)||(!q1||(q2||q3))) then ((([]:List I),(wl 1))) else (let q4:(A3 (List I)):=(bB h u).1
  let q5:(List I):=(bB h u).2
  let q6:I:=(iF [b.x.d,b.y.d,b.z.d])
  let q7:(List I):=(bZ q4.x q6)
  let q8:I:=(E (Z.mul b.x.n.dec q6.dec))
  let q9:I:=(E (Z.quo q8.dec b.x.d.dec))
  let q10:(List I):=(bZ q5 q9)
  let q11:(List I):=(kJ q7 q10)
  let q12:(List I):=(aW q11 q11)
  let q13:(List I):=(bJ ([]:List I) q12)
  let q14:(List I):=(bZ q4.y q6)
  let q15:I:=(E (Z.mul b.y.n.dec q6.dec))
  let q16:I:=(E (Z.quo q15.dec b.y.d.dec))
  let q17:(List I):=(bZ q5 q16)
  let q18:(List I):=(kJ q14 q17)
  let q19:(List I):=(aW q18 q18)
  let q20:(List I):=(bJ q13 q19)
  let q21:(List I):=(bZ q4.z q6)
  let q22:I:=(E (Z.mul b.z.n.dec q6.dec))
  let q23:I:=(E (Z.quo q22.dec b.z.d.dec))
  let q24:(List I):=(bZ q5 q23)
  let q25:(List I):=(kJ q21 q24)
  let q26:(List I):=(aW q25 q25)
  let q27:(List I):=(bJ q20 q26)
  let q28:(List I):=(aW q5 q5)
  let q29:I:=(iF [m.n,q6,q6])
  let q30:(List I):=(bZ q28 q29)
  let q31:(List I):=(bZ q27 m.d)
  let q32:(List I):=(kJ q30 q31)
  let q33:(List I):=(d7 q32)
  let q34:Bool:=(dR q33)
  bif q34 then ((([]:List I),(wl 30))) else ((q33,(wl 0))))
def kM (a:I):Bool :=
  (decide ((Z.signW a.dec).1<0))
def fC (p:(List I)) (a:Rt) (c:Rt):Bool×W :=
  bif (cW p a c).2 then (((!(t8 ((cW p a c).1) (fun (y:I)=>(kM y)))),(wl 0))) else ((false,(wl 30)))
def eA (a:(A3 W)) (b:W):Bool :=
  bif (decide (b.1<a.x.1)||decide (a.x.1<(W.neg b).1)) then (false) else (bif (decide (b.1<a.y.1)||decide (a.y.1<(W.neg b).1)) then (false) else (bif (decide (b.1<a.z.1)||decide (a.z.1<(W.neg b).1)) then (false) else (true)))
def j3 (a:I) (b:I) (c:I):I :=
  (E (Z.mul (Z.mul a.dec b.dec) c.dec))
def fM (a:Rt) (b:Rt):Rt :=
  let r4:Rt:=(dG (kF a b) (lA (wl 1) (wl 2)))
  r4
def bP (p:List I):Nat→Rt→Rt→Nat→List Rt→W×List Rt
  | 0,_,_,_,_=>(wl 0,[])
  | n+1,a,c,k,t=>bif (decide (((i1 p a).1).1<0)||decide (((i1 p c).1).1<0)) then (((wl 200),t)) else (bif (!((i1 p a).2)||(!((i1 p c).2)||(((fC p a c).2).1 != 0))) then (((wl 30),t)) else (bif (fC p a c).1 then (((wl 0),(t ++ [c]))) else (bif (((k:Nat):Int)==0) then (((wl 160),t)) else (bif (((bP p n a (fM a c) (k - 1) t).1).1 != 0) then (((bP p n a (fM a c) (k - 1) t).1,(bP p n a (fM a c) (k - 1) t).2)) else (((bP p n (fM a c) c (k - 1) ((bP p n a (fM a c) (k - 1) t).2)).1,(bP p n (fM a c) c (k - 1) ((bP p n a (fM a c) (k - 1) t).2)).2))))))
def pL (r:Rope) (n:Int):Bool :=
  bif (r.a.1==0) then (bif (decide (r.a.1<0)||(decide ((((n).toNat:Nat):Int)<r.a.1)||(!(gA r.p (wl 140737488355327))))) then (false) else (bif (r.b.1==0) then (bif (decide (r.b.1<0)||(decide ((((n).toNat:Nat):Int)<r.b.1)||(!(gA r.q (wl 140737488355327))))) then (false) else ((r.a.1 != r.b.1))) else (bif (decide (r.b.1<0)||(decide ((((n).toNat:Nat):Int)<r.b.1)||(!(gA r.q (wl 262144))))) then (false) else ((r.a.1 != r.b.1))))) else (bif (decide (r.a.1<0)||(decide ((((n).toNat:Nat):Int)<r.a.1)||(!(gA r.p (wl 262144))))) then (false) else (bif (r.b.1==0) then (bif (decide (r.b.1<0)||(decide ((((n).toNat:Nat):Int)<r.b.1)||(!(gA r.q (wl 140737488355327))))) then (false) else ((r.a.1 != r.b.1))) else (bif (decide (r.b.1<0)||(decide ((((n).toNat:Nat):Int)<r.b.1)||(!(gA r.q (wl 262144))))) then (false) else ((r.a.1 != r.b.1)))))
def i5 (a:Rt):I :=
  bif (aT a) then ((E (Z.quo a.n.dec a.d.dec))) else ((E Z.bad))
def qE (l:(List Pose)):Nat→(List Path)→Nat→(List Path×Nat) ⊕ ((List Path)×W)
  | 0,out,i=>.inl (out,i)
  | k0+1,out,i=>bif decide (((i:Nat):Int)<(((l).length:Nat):Int)) then (bif ((kC (l.getD i gM)).1 != 0) then (.inr ((([]:List Path),(wl 1)))) else (bif decide (0<((i:Nat):Int)) then ((qE l k0 (out ++ [(⟨(l.getD (i - 1) gM),(l.getD i gM)⟩:Path)]) (i+1))) else ((qE l k0 out (i+1))))) else (.inl (out,i))
def j2 (l:(List Pose)):(List Path)×W :=
  bif ((((l).length:Nat):Int)==0) then ((([]:List Path),(wl 1))) else (sm (fun (s:List Path×Nat)=>let out:List Path:=s.1
  let i:Nat:=s.2
  (out,(wl 0))) (fun r=>r) (qE l ((l.length+1)) ([]:List Path) 0))
def qG (m:W) (y:W) (l:(List Pose)):List Path→I→I
  | [],mb12=>mb12
  | x0 :: l0,mb12=>bif decide (0<(W.sub x0.to_.x.z x0.from_.x.z).1) then (let r27:I:=(iF [(E (Z.of m.1)),(E (Z.of y.1)),(E (Z.of (W.sub x0.to_.x.z x0.from_.x.z).1))])
  (qG m y l l0 (E (Z.add mb12.dec r27.dec)))) else ((qG m y l l0 mb12))
def tM (m:W) (y:W) (l:(List Pose)):I×W :=
  bif ((((j2 l).2).1 != 0)||(decide (m.1<0)||decide (y.1<0))) then ((I0,(wl 1))) else (ap (fun (s:I)=>let mb12:I:=s
  (mb12,(wl 0))) (qG m y l (j2 l).1 I0))
def nI (l:(List I)):List I→(Unit) ⊕ (Bool)
  | []=>.inl ()
  | x0 :: l0=>bif (x0.1.bad||(!x0.1.valid)) then (.inr (false)) else ((nI l l0))
def oG (l:(List I)):Bool :=
  sm (fun (s:Unit)=>true) (fun r=>r) (nI l l)
def tQ (a:I):Nat→I→(I) ⊕ (I)
  | 0,mb11=>.inl mb11
  | k0+1,mb11=>bif decide (0≤(Z.cmpW (Z.half (Z.add mb11.dec (Z.quo a.dec mb11.dec))) mb11.dec).1) then (.inr (mb11)) else ((tQ a k0 (E (Z.half (Z.add mb11.dec (Z.quo a.dec mb11.dec))))))
def jZ (a:I):I :=
  bif (!(oG [a])||a.1.neg) then ((E Z.bad)) else (bif ((Z.signW a.dec).1==0) then (a) else (sm (fun (s:I)=>let mb11:I:=s
  I0) (fun r=>r) (tQ a ((Z.nat (E (Z.shl (Z.of 1) (W.quo (W.add (Z.bitsW a.dec) (wl 1)) (wl 2)).1)).dec+1)) (E (Z.shl (Z.of 1) (W.quo (W.add (Z.bitsW a.dec) (wl 1)) (wl 2)).1)))))
def jM (r:Rope) (l:(List Pose)):Pull×W :=
  bif (pL r (((l).length:Nat):Int)) then (bif (r.a.1==0) then (let r11:(A3 Rt):=(iD r.p)
  bif (r.b.1==0) then (let r14:(A3 Rt):=(iD r.q)
  ((⟨r.a,r.b,r11,r14⟩:Pull),(wl 0))) else (bif ((kC (l.getD ((r.b.1 - 1).toNat) gM)).1 != 0) then (((⟨(wl 0),(wl 0),(⟨(⟨I0,I0⟩:Rt),(⟨I0,I0⟩:Rt),(⟨I0,I0⟩:Rt)⟩:(A3 Rt)),(⟨(⟨I0,I0⟩:Rt),(⟨I0,I0⟩:Rt),(⟨I0,I0⟩:Rt)⟩:(A3 Rt))⟩:Pull),(wl 1))) else (let r17:(A3 Rt):=(pH (l.getD ((r.b.1 - 1).toNat) gM) r.q)
  ((⟨r.a,r.b,r11,r17⟩:Pull),(wl 0))))) else (bif ((kC (l.getD ((r.a.1 - 1).toNat) gM)).1 != 0) then (((⟨(wl 0),(wl 0),(⟨(⟨I0,I0⟩:Rt),(⟨I0,I0⟩:Rt),(⟨I0,I0⟩:Rt)⟩:(A3 Rt)),(⟨(⟨I0,I0⟩:Rt),(⟨I0,I0⟩:Rt),(⟨I0,I0⟩:Rt)⟩:(A3 Rt))⟩:Pull),(wl 1))) else (let r20:(A3 Rt):=(pH (l.getD ((r.a.1 - 1).toNat) gM) r.p)
  bif (r.b.1==0) then (let r23:(A3 Rt):=(iD r.q)
  ((⟨r.a,r.b,r20,r23⟩:Pull),(wl 0))) else (bif ((kC (l.getD ((r.b.1 - 1).toNat) gM)).1 != 0) then (((⟨(wl 0),(wl 0),(⟨(⟨I0,I0⟩:Rt),(⟨I0,I0⟩:Rt),(⟨I0,I0⟩:Rt)⟩:(A3 Rt)),(⟨(⟨I0,I0⟩:Rt),(⟨I0,I0⟩:Rt),(⟨I0,I0⟩:Rt)⟩:(A3 Rt))⟩:Pull),(wl 1))) else (let r26:(A3 Rt):=(pH (l.getD ((r.b.1 - 1).toNat) gM) r.q)
  ((⟨r.a,r.b,r20,r26⟩:Pull),(wl 0))))))) else (((⟨(wl 0),(wl 0),(⟨(⟨I0,I0⟩:Rt),(⟨I0,I0⟩:Rt),(⟨I0,I0⟩:Rt)⟩:(A3 Rt)),(⟨(⟨I0,I0⟩:Rt),(⟨I0,I0⟩:Rt),(⟨I0,I0⟩:Rt)⟩:(A3 Rt))⟩:Pull),(wl 1)))
def eL (a:Pull):Rt :=
  let r3:(A3 Rt):=(jS a.q a.p)
  (pT r3 r3)
def nO (a:Pull):I×I :=
  bif (aT (eL a)) then (let r6:I:=(E (Z.mul (jZ (i5 (eL a))).dec (jZ (i5 (eL a))).dec))
  bif (decide (((pK r6).n)=((eL a).n))&&decide (((pK r6).d)=((eL a).d))) then (((jZ (i5 (eL a))),(jZ (i5 (eL a))))) else (let r8:I:=(E (Z.add (jZ (i5 (eL a))).dec (Z.of 1)))
  ((jZ (i5 (eL a))),r8))) else (((E Z.bad),(E Z.bad)))
def d8 (a:Pull):(A3 W)×W :=
  let q0:(A3 Rt):=(jS a.q a.p)
  let q1:I:=(iF [q0.x.n,q0.y.d,q0.z.d])
  let q2:I:=(iF [q0.x.d,q0.y.n,q0.z.d])
  let q3:I:=(iF [q0.x.d,q0.y.d,q0.z.n])
  let q4:(A3 W):=(iH (⟨q1,q2,q3⟩:(A3 I))).1
  let q5:W:=(iH (⟨q1,q2,q3⟩:(A3 I))).2
  (q4,q5)
def fB (a:(A3 Rt)) (b:(A3 Rt)):(A6 Rt) :=
  let r4:(A3 Rt):=(pU a b)
  (⟨b.x,b.y,b.z,r4.x,r4.y,r4.z⟩:(A6 Rt))
def dU (a:Pull):(A6 Rt)×(A6 Rt)×W :=
  let q0:(A3 W):=(d8 a).1
  let q1:W:=(d8 a).2
  bif (q1.1 != 0) then (((⟨(⟨I0,I0⟩:Rt),(⟨I0,I0⟩:Rt),(⟨I0,I0⟩:Rt),(⟨I0,I0⟩:Rt),(⟨I0,I0⟩:Rt),(⟨I0,I0⟩:Rt)⟩:(A6 Rt)),(⟨(⟨I0,I0⟩:Rt),(⟨I0,I0⟩:Rt),(⟨I0,I0⟩:Rt),(⟨I0,I0⟩:Rt),(⟨I0,I0⟩:Rt),(⟨I0,I0⟩:Rt)⟩:(A6 Rt)),q1)) else (let q2:(A3 Rt):=(iD q0)
  let q3:(A6 Rt):=(fB a.p q2)
  let q4:Rt:=(bR (wl (-1)))
  let q5:(A3 Rt):=(kR q4 q2)
  let q6:(A6 Rt):=(fB a.q q5)
  let q7:Bool:=(aT q3.x0)
  let q8:Bool:=(aT q6.x0)
  bif (!q7||(!q8)) then (((⟨(⟨I0,I0⟩:Rt),(⟨I0,I0⟩:Rt),(⟨I0,I0⟩:Rt),(⟨I0,I0⟩:Rt),(⟨I0,I0⟩:Rt),(⟨I0,I0⟩:Rt)⟩:(A6 Rt)),(⟨(⟨I0,I0⟩:Rt),(⟨I0,I0⟩:Rt),(⟨I0,I0⟩:Rt),(⟨I0,I0⟩:Rt),(⟨I0,I0⟩:Rt),(⟨I0,I0⟩:Rt)⟩:(A6 Rt)),(wl 30))) else (let q9:Bool:=(aT q3.x1)
  let q10:Bool:=(aT q6.x1)
  bif (!q9||(!q10)) then (((⟨(⟨I0,I0⟩:Rt),(⟨I0,I0⟩:Rt),(⟨I0,I0⟩:Rt),(⟨I0,I0⟩:Rt),(⟨I0,I0⟩:Rt),(⟨I0,I0⟩:Rt)⟩:(A6 Rt)),(⟨(⟨I0,I0⟩:Rt),(⟨I0,I0⟩:Rt),(⟨I0,I0⟩:Rt),(⟨I0,I0⟩:Rt),(⟨I0,I0⟩:Rt),(⟨I0,I0⟩:Rt)⟩:(A6 Rt)),(wl 30))) else (let q11:Bool:=(aT q3.x2)
  let q12:Bool:=(aT q6.x2)
  bif (!q11||(!q12)) then (((⟨(⟨I0,I0⟩:Rt),(⟨I0,I0⟩:Rt),(⟨I0,I0⟩:Rt),(⟨I0,I0⟩:Rt),(⟨I0,I0⟩:Rt),(⟨I0,I0⟩:Rt)⟩:(A6 Rt)),(⟨(⟨I0,I0⟩:Rt),(⟨I0,I0⟩:Rt),(⟨I0,I0⟩:Rt),(⟨I0,I0⟩:Rt),(⟨I0,I0⟩:Rt),(⟨I0,I0⟩:Rt)⟩:(A6 Rt)),(wl 30))) else (let q13:Bool:=(aT q3.x3)
  let q14:Bool:=(aT q6.x3)
  bif (!q13||(!q14)) then (((⟨(⟨I0,I0⟩:Rt),(⟨I0,I0⟩:Rt),(⟨I0,I0⟩:Rt),(⟨I0,I0⟩:Rt),(⟨I0,I0⟩:Rt),(⟨I0,I0⟩:Rt)⟩:(A6 Rt)),(⟨(⟨I0,I0⟩:Rt),(⟨I0,I0⟩:Rt),(⟨I0,I0⟩:Rt),(⟨I0,I0⟩:Rt),(⟨I0,I0⟩:Rt),(⟨I0,I0⟩:Rt)⟩:(A6 Rt)),(wl 30))) else (let q15:Bool:=(aT q3.x4)
  let q16:Bool:=(aT q6.x4)
  bif (!q15||(!q16)) then (((⟨(⟨I0,I0⟩:Rt),(⟨I0,I0⟩:Rt),(⟨I0,I0⟩:Rt),(⟨I0,I0⟩:Rt),(⟨I0,I0⟩:Rt),(⟨I0,I0⟩:Rt)⟩:(A6 Rt)),(⟨(⟨I0,I0⟩:Rt),(⟨I0,I0⟩:Rt),(⟨I0,I0⟩:Rt),(⟨I0,I0⟩:Rt),(⟨I0,I0⟩:Rt),(⟨I0,I0⟩:Rt)⟩:(A6 Rt)),(wl 30))) else (let q17:Bool:=(aT q3.x5)
  let q18:Bool:=(aT q6.x5)
  bif (!q17||(!q18)) then (((⟨(⟨I0,I0⟩:Rt),(⟨I0,I0⟩:Rt),(⟨I0,I0⟩:Rt),(⟨I0,I0⟩:Rt),(⟨I0,I0⟩:Rt),(⟨I0,I0⟩:Rt)⟩:(A6 Rt)),(⟨(⟨I0,I0⟩:Rt),(⟨I0,I0⟩:Rt),(⟨I0,I0⟩:Rt),(⟨I0,I0⟩:Rt),(⟨I0,I0⟩:Rt),(⟨I0,I0⟩:Rt)⟩:(A6 Rt)),(wl 30))) else ((q3,q6,(wl 0)))))))))
def dZ (h:Path) (u:(A3 W)) (b:(A3 Rt)) (m:Rt) (k:Int):(List Rt)×W :=
  bif (((cE h u b m).2).1 != 0) then ((([]:List Rt),(cE h u b m).2)) else (bif (decide (k<0)||decide (12<k)) then ((([]:List Rt),(wl 1))) else (bif (((bP ((cE h u b m).1) ((k).toNat+1) (bR (wl 0)) (bR (wl 1)) (k).toNat []).1).1 != 0) then ((([]:List Rt),(bP ((cE h u b m).1) ((k).toNat+1) (bR (wl 0)) (bR (wl 1)) (k).toNat []).1)) else (((bP ((cE h u b m).1) ((k).toNat+1) (bR (wl 0)) (bR (wl 1)) (k).toNat []).2,(wl 0)))))
def j8 (a:(List Rt)) (b:(List Rt)):Nat→Nat→(Nat) ⊕ (Bool)
  | 0,i=>.inl i
  | k0+1,i=>bif decide (((i:Nat):Int)<(((a).length:Nat):Int)) then (bif (decide (((a.getD i Rt0).n)=((b.getD i Rt0).n))&&decide (((a.getD i Rt0).d)=((b.getD i Rt0).d))) then ((j8 a b k0 (i+1))) else (.inr (false))) else (.inl i)
def gI (a:(List Rt)) (b:(List Rt)):Bool :=
  bif ((((a).length:Nat):Int) != (((b).length:Nat):Int)) then (false) else (sm (fun (s:Nat)=>let i:Nat:=s
  true) (fun r=>r) (j8 a b ((a.length+1)) 0))
def fY (a:W) (b:W) (c:W) (d:W) (e:W) (x:W):(A6 Rt) :=
  (⟨(aJ a),(aJ b),(aJ c),(aJ d),(aJ e),(aJ x)⟩:(A6 Rt))
def hZ (a:W) (b:W) (c:W):(A3 Rt) :=
  let r2:(A3 Rt):=(mQ (⟨a,b,c⟩:(A3 W)))
  r2
def F_skewbacklaw26_sanity :Bool :=
  let q0:Pull:=(jM (⟨(wl 0),(wl 2),(⟨(wl 10),(wl 0),(wl 20)⟩:(A3 W)),(⟨(wl 0),(wl 0),(wl 4)⟩:(A3 W))⟩:Rope) [(⟨(⟨(wl 10),(wl 0),(wl 0)⟩:(A3 W)),(⟨(wl 1),(wl 0),(wl 0),(wl 0)⟩:(A4 W))⟩:Pose),(⟨(⟨(wl 10),(wl 0),(wl 8)⟩:(A3 W)),(⟨(wl 1),(wl 0),(wl 0),(wl 0)⟩:(A4 W))⟩:Pose)]).1
  let q1:W:=(jM (⟨(wl 0),(wl 2),(⟨(wl 10),(wl 0),(wl 20)⟩:(A3 W)),(⟨(wl 0),(wl 0),(wl 4)⟩:(A3 W))⟩:Rope) [(⟨(⟨(wl 10),(wl 0),(wl 0)⟩:(A3 W)),(⟨(wl 1),(wl 0),(wl 0),(wl 0)⟩:(A4 W))⟩:Pose),(⟨(⟨(wl 10),(wl 0),(wl 8)⟩:(A3 W)),(⟨(wl 1),(wl 0),(wl 0),(wl 0)⟩:(A4 W))⟩:Pose)]).2
  let q2:I:=(nO q0).1
  let q3:I:=(nO q0).2
  let q4:(A3 W):=(d8 q0).1
  let q5:W:=(d8 q0).2
  let q6:(A6 Rt):=(dU q0).1
  let q7:(A6 Rt):=(dU q0).2.1
  let q8:W:=(dU q0).2.2
  let q9:(A3 Rt):=(hZ (wl 10) (wl 0) (wl 20))
  let q10:(A3 Rt):=(hZ (wl 10) (wl 0) (wl 12))
  let q11:Rt:=(eL q0)
  let q12:Rt:=(bR (wl 64))
  let q13:I:=(E (Z.of 8))
  let q14:(A6 Rt):=(fY (wl 0) (wl 0) (wl (-1)) (wl 0) (wl 10) (wl 0))
  let q15:(A6 Rt):=(fY (wl 0) (wl 0) (wl 1) (wl 0) (wl (-10)) (wl 0))
  let q16:(A3 Rt):=(hZ (wl 10) (wl 0) (wl 0))
  let q17:(List Rt):=(dZ (⟨(⟨(⟨(wl 10),(wl 0),(wl 0)⟩:(A3 W)),(⟨(wl 1),(wl 0),(wl 0),(wl 0)⟩:(A4 W))⟩:Pose),(⟨(⟨(wl 10),(wl 0),(wl 8)⟩:(A3 W)),(⟨(wl 1),(wl 0),(wl 0),(wl 0)⟩:(A4 W))⟩:Pose)⟩:Path) (⟨(wl 0),(wl 0),(wl 0)⟩:(A3 W)) q16 q12 0).1
  let q18:W:=(dZ (⟨(⟨(⟨(wl 10),(wl 0),(wl 0)⟩:(A3 W)),(⟨(wl 1),(wl 0),(wl 0),(wl 0)⟩:(A4 W))⟩:Pose),(⟨(⟨(wl 10),(wl 0),(wl 8)⟩:(A3 W)),(⟨(wl 1),(wl 0),(wl 0),(wl 0)⟩:(A4 W))⟩:Pose)⟩:Path) (⟨(wl 0),(wl 0),(wl 0)⟩:(A3 W)) q16 q12 0).2
  let q19:Rt:=(bR (wl 63))
  let q20:(List Rt):=(dZ (⟨(⟨(⟨(wl 10),(wl 0),(wl 0)⟩:(A3 W)),(⟨(wl 1),(wl 0),(wl 0),(wl 0)⟩:(A4 W))⟩:Pose),(⟨(⟨(wl 10),(wl 0),(wl 8)⟩:(A3 W)),(⟨(wl 1),(wl 0),(wl 0),(wl 0)⟩:(A4 W))⟩:Pose)⟩:Path) (⟨(wl 0),(wl 0),(wl 0)⟩:(A3 W)) q16 q19 0).1
  let q21:W:=(dZ (⟨(⟨(⟨(wl 10),(wl 0),(wl 0)⟩:(A3 W)),(⟨(wl 1),(wl 0),(wl 0),(wl 0)⟩:(A4 W))⟩:Pose),(⟨(⟨(wl 10),(wl 0),(wl 8)⟩:(A3 W)),(⟨(wl 1),(wl 0),(wl 0),(wl 0)⟩:(A4 W))⟩:Pose)⟩:Path) (⟨(wl 0),(wl 0),(wl 0)⟩:(A3 W)) q16 q19 0).2
  let q22:I:=(tM (wl 5) (wl 2) [(⟨(⟨(wl 10),(wl 0),(wl 0)⟩:(A3 W)),(⟨(wl 1),(wl 0),(wl 0),(wl 0)⟩:(A4 W))⟩:Pose),(⟨(⟨(wl 10),(wl 0),(wl 8)⟩:(A3 W)),(⟨(wl 1),(wl 0),(wl 0),(wl 0)⟩:(A4 W))⟩:Pose),(⟨(⟨(wl 10),(wl 0),(wl 0)⟩:(A3 W)),(⟨(wl 1),(wl 0),(wl 0),(wl 0)⟩:(A4 W))⟩:Pose)]).1
  let q23:W:=(tM (wl 5) (wl 2) [(⟨(⟨(wl 10),(wl 0),(wl 0)⟩:(A3 W)),(⟨(wl 1),(wl 0),(wl 0),(wl 0)⟩:(A4 W))⟩:Pose),(⟨(⟨(wl 10),(wl 0),(wl 8)⟩:(A3 W)),(⟨(wl 1),(wl 0),(wl 0),(wl 0)⟩:(A4 W))⟩:Pose),(⟨(⟨(wl 10),(wl 0),(wl 0)⟩:(A3 W)),(⟨(wl 1),(wl 0),(wl 0),(wl 0)⟩:(A4 W))⟩:Pose)]).2
  let q24:Rt:=(bR (wl 1))
  let q25:Bool:=(gI q17 [q24])
  let q26:I:=(E (Z.of 80))
  (((q1.1==0)&&((decide (q0.a.1=0)&&(decide (q0.b.1=2)&&(decide (q0.p.x.n=q9.x.n)&&(decide (q0.p.x.d=q9.x.d)&&(decide (q0.p.y.n=q9.y.n)&&(decide (q0.p.y.d=q9.y.d)&&(decide (q0.p.z.n=q9.z.n)&&(decide (q0.p.z.d=q9.z.d)&&(decide (q0.q.x.n=q10.x.n)&&(decide (q0.q.x.d=q10.x.d)&&(decide (q0.q.y.n=q10.y.n)&&(decide (q0.q.y.d=q10.y.d)&&(decide (q0.q.z.n=q10.z.n)&&decide (q0.q.z.d=q10.z.d))))))))))))))&&((decide (q11.n=q12.n)&&decide (q11.d=q12.d))&&(decide (q2=q13)&&decide (q3=q13)))))&&(((q5.1==0)&&((q8.1==0)&&((decide (q4.x.1=0)&&(decide (q4.y.1=0)&&decide (q4.z.1=(-1))))&&((decide (q6.x0.n=q14.x0.n)&&(decide (q6.x0.d=q14.x0.d)&&(decide (q6.x1.n=q14.x1.n)&&(decide (q6.x1.d=q14.x1.d)&&(decide (q6.x2.n=q14.x2.n)&&(decide (q6.x2.d=q14.x2.d)&&(decide (q6.x3.n=q14.x3.n)&&(decide (q6.x3.d=q14.x3.d)&&(decide (q6.x4.n=q14.x4.n)&&(decide (q6.x4.d=q14.x4.d)&&(decide (q6.x5.n=q14.x5.n)&&decide (q6.x5.d=q14.x5.d))))))))))))&&(decide (q7.x0.n=q15.x0.n)&&(decide (q7.x0.d=q15.x0.d)&&(decide (q7.x1.n=q15.x1.n)&&(decide (q7.x1.d=q15.x1.d)&&(decide (q7.x2.n=q15.x2.n)&&(decide (q7.x2.d=q15.x2.d)&&(decide (q7.x3.n=q15.x3.n)&&(decide (q7.x3.d=q15.x3.d)&&(decide (q7.x4.n=q15.x4.n)&&(decide (q7.x4.d=q15.x4.d)&&(decide (q7.x5.n=q15.x5.n)&&decide (q7.x5.d=q15.x5.d))))))))))))))))&&((q18.1==0)&&(q25&&((q21.1==200)&&(decide (q22=q26)&&(q23.1==0)))))))
end Go.Num
