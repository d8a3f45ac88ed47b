/- Lemmas: what they ask stands in their statements. -/
import Derived.Test.YtkjjponijamaoaaGreatDoorJGE
set_option linter.unusedSimpArgs false
set_option linter.unusedVariables false
namespace Go.Num
open Go Go.Kn
def k9 (a:I):I :=
 a
def pS (a:I):Bool :=
 (!a.1.bad&&a.1.valid)
def F_poly_bad :(List I) :=
 let q0:I:=(E Z.bad)
 [q0]
def kG (n:Int) (f:Nat→I) (o:I→I):Nat→(List I)→Nat→(List I×Nat) ⊕ (List I)
 | 0,out,i=>.inl (out,i)
 | k0+1,out,i=>bif decide ((i:Int)<(n.toNat:Int)) then (bif (pS (o (f i))) then (kG n f o k0 (out++[(o (f i))]) (i+1)) else (.inr F_poly_bad)) else (.inl (out,i))
def kH (n:Int) (f:Nat→I) (o:I→I) (out:List I) (i:Nat):Nat→(List I)→List I
 | 0,cut=>cut
 | k1+1,cut=>bif (decide (0<(cut.length:Int))&&((Z.signW (cut.getD (cut.length - 1) I0).dec).1==0)) then (kH n f o out i k1 (cut.take (cut.length - 1))) else (cut)
def jQ (n:Int) (f:Nat→I) (o:I→I):(List I) :=
 sm (fun (s_:List I×Nat)=>let out:List I:=s_.1
 let i:Nat:=s_.2
 ap (fun (s:List I)=>let cut:List I:=s
 bif decide (25<(cut.length:Int)) then F_poly_bad else cut) (kH n f o out i (out.length+1) out)) (fun r=>r) (kG n f o (n.toNat+1) ([]:List I) 0)
def lO (n:Int) (f:Nat→Go.Num.W) (o:Go.Num.W→I):Nat→(List I)→Nat→(List I×Nat) ⊕ (List I)
 | 0,out,i=>.inl (out,i)
 | k0+1,out,i=>bif decide ((i:Int)<(n.toNat:Int)) then (bif (pS (o (f i))) then (lO n f o k0 (out++[(o (f i))]) (i+1)) else (.inr F_poly_bad)) else (.inl (out,i))
def lP (n:Int) (f:Nat→Go.Num.W) (o:Go.Num.W→I) (out:List I) (i:Nat):Nat→(List I)→List I
 | 0,cut=>cut
 | k1+1,cut=>bif (decide (0<(cut.length:Int))&&((Z.signW (cut.getD (cut.length - 1) I0).dec).1==0)) then (lP n f o out i k1 (cut.take (cut.length - 1))) else (cut)
def nY (n:Int) (f:Nat→Go.Num.W) (o:Go.Num.W→I):(List I) :=
 sm (fun (s_:List I×Nat)=>let out:List I:=s_.1
 let i:Nat:=s_.2
 ap (fun (s:List I)=>let cut:List I:=s
 bif decide (25<(cut.length:Int)) then F_poly_bad else cut) (lP n f o out i (out.length+1) out)) (fun r=>r) (lO n f o (n.toNat+1) ([]:List I) 0)
def lU (l:(List I)) (f:I→Bool):Nat→Nat→(Nat) ⊕ (W)
 | 0,i=>.inl i
 | k0+1,i=>bif decide ((i:Int)<(l.length:Int)) then (bif (f (l.getD i I0)) then (.inr (W.cv (i:Int))) else (lU l f k0 (i+1))) else (.inl i)
def tP (l:(List I)) (f:I→Bool):W :=
 sm (fun (s:Nat)=>let i:Nat:=s
 (wl (-1))) (fun r=>r) (lU l f (l.length+1) 0)
def sG (l:(List I)) (f:I→Bool):Bool :=
 (decide (0≤(tP l f).1))
def uK (a:I):Bool :=
 (!(pS a))
def dC (p:(List I)):Bool :=
 (sG p (fun (y:I)=>(uK y)))
def k7 (l:(List Rt)) (f:Rt→Bool):Nat→Nat→(Nat) ⊕ (W)
 | 0,i=>.inl i
 | k0+1,i=>bif decide ((i:Int)<(l.length:Int)) then (bif (f (l.getD i Rt0)) then (.inr (W.cv (i:Int))) else (k7 l f k0 (i+1))) else (.inl i)
def pR (l:(List Rt)) (f:Rt→Bool):W :=
 sm (fun (s:Nat)=>let i:Nat:=s
 (wl (-1))) (fun r=>r) (k7 l f (l.length+1) 0)
def kN (l:(List Rt)) (f:Rt→Bool):Bool :=
 (decide (0≤(pR l f).1))
def lY (a:Rt):Bool :=
 (!(aS a))
def k8 (l:(List Rt)):Bool :=
 (!(kN l (fun (y:Rt)=>(lY y))))
def rS (k:Nat) (l:(List I)):I :=
 (l.getD k I0)
def gR (l:(List I)):(List I) :=
 (jQ (l.length:Int) (fun (y:Nat)=>(rS y l)) (fun (y:I)=>(k9 y)))
def wJ (k:Nat) (l:(List W)):W :=
 (l.getD k W.z)
def cX (l:(List W)):(List I) :=
 (nY (l.length:Int) (fun (y:Nat)=>(wJ y l)) (fun (y:Go.Num.W)=>(E (Z.of y.1))))
def kF (p:(List I)) (k:Int):I :=
 bif (decide (k<0)||decide ((p.length:Int)≤k)) then I0 else (p.getD (k.toNat) I0)
def rT (k:Nat) (f:I→I→I) (p:(List I)) (q:(List I)):I :=
 (f (kF p (k:Int)) (kF q (k:Int)))
def jG (p:(List I)) (q:(List I)) (f:I→I→I):(List I) :=
 bif ((dC p)||(dC q)) then F_poly_bad else (jQ (((max (p.length) (q.length)):Nat):Int) (fun (y:Nat)=>(rT y f p q)) (fun (y:I)=>(k9 y)))
def bC (p:(List I)) (q:(List I)):(List I) :=
 (jG p q (fun (y:I) (z:I)=>(E (Z.add y.dec z.dec))))
def jM (p:(List I)) (q:(List I)):(List I) :=
 (jG p q (fun (y:I) (z:I)=>(E (Z.sub y.dec z.dec))))
def iM (k:Nat) (q:(List I)) (p:(List I)):Nat→Nat→I→Nat×I
 | 0,i,mb2=>(i,mb2)
 | k0+1,i,mb2=>bif decide ((i:Int)≤(min (k:Int) ((p.length:Int) - 1))) then (iM k q p k0 (i+1) (E (Z.add mb2.dec (Z.mul (p.getD i I0).dec (q.getD (k - i) I0).dec)))) else (i,mb2)
def nA (k:Nat) (q:(List I)) (p:(List I)):I :=
 ap (fun (s:Nat×I)=>let i:Nat:=s.1
 let mb2:I:=s.2
 mb2) (iM k q p (k+2) ((((k:Int) - (q.length:Int))+1).toNat) I0)
def aV (p:(List I)) (q:(List I)):(List I) :=
 bif ((dC p)||(dC q)) then F_poly_bad else (bif (((p.length:Int)==0)||((q.length:Int)==0)) then ([]:List I) else (jQ ((((p.length+(q).length):Nat):Int) - 1) (fun (y:Nat)=>(nA y q p)) (fun (y:I)=>(k9 y))))
def qR (a:I) (b:I) (n:I):I :=
 (E (Z.mul a.dec n.dec))
def bK (p:(List I)) (n:I):(List I) :=
 bif (pS n) then (jG p ([]:List I) (fun (y:I) (z:I)=>(qR y z n))) else (F_poly_bad)
def mL (l:(List I)):List I→I→I
 | [],mb2=>mb2
 | x0::l0,mb2=>(mL l l0 (E (Z.gcd mb2.dec x0.dec)))
def dH (l:(List I)):I :=
 ap (fun (s:I)=>let mb2:I:=s
 mb2) (mL l l I0)
def o5 (a:I) (b:I) (n:I):I :=
 (E (Z.quo a.dec n.dec))
def iJ (p:(List I)):(List I) :=
 (jG p ([]:List I) (fun (y:I) (z:I)=>(o5 y z (dH p))))
def j3 (d:I) (n:Int):Nat→(List I)→List I
 | 0,out=>out
 | k0+1,out=>bif decide ((out.length:Int)<n) then (j3 d n k0 (out++[(E (Z.mul (out.getD (out.length - 1) I0).dec d.dec))])) else (out)
def eA (d:I) (n:Int):(List I) :=
 ap (fun (s:List I)=>let out:List I:=s
 out) (j3 d n (n.toNat+1) [(E (Z.of 1))])
def mK (p:(List I)) (x:Rt):Nat→Int→I→Int×I
 | 0,i,mb3=>(i,mb3)
 | k0+1,i,mb3=>bif decide (0≤i) then (let r25:I:=(E (Z.mul (p.getD (i.toNat) I0).dec ((eA x.d (p.length:Int)).getD ((p.length - 1) - i.toNat) I0).dec))
 (mK p x k0 (i - 1) (E (Z.add (Z.mul mb3.dec x.n.dec) r25.dec)))) else (i,mb3)
def lF (p:(List I)) (x:Rt):I×I :=
 bif ((dC p)||(!(k8 [x]))) then ((E Z.bad),(E (Z.of 1))) else (ap (fun (s:Int×I)=>let i:Int:=s.1
 let mb3:I:=s.2
 (mb3,((eA x.d (p.length:Int)).getD (((p.length:Int) - 1).toNat) I0))) (mK p x (p.length+1) ((p.length:Int) - 1) I0))
def j1 (p:(List I)) (x:Rt):W×Bool :=
 ((Z.signW ((lF p x).1).dec),(!((lF p x).1).1.bad))
def n9 (n:Int) (i:Int):Nat→Int→I→Int×I
 | 0,j,mb1=>(j,mb1)
 | k0+1,j,mb1=>bif decide (j≤n) then (n9 n i k0 (j+1) (E (Z.mul mb1.dec (Z.of j)))) else (j,mb1)
def kD (n:Int) (i:Int) (j:Int) (mb1:I):Nat→(List I)→Nat→I→List I×Nat×I
 | 0,out,k,mb1_1=>(out,k,mb1_1)
 | k1+1,out,k,mb1_1=>bif decide ((k:Int)<(i+1)) then (bif decide ((k:Int)<n) then (let r22:I:=(E (Z.quo (Z.mul mb1_1.dec (Z.of (i - (k:Int)))) (Z.of (n - (k:Int)))))
 (kD n i j mb1 k1 (out++[mb1_1]) (k+1) r22)) else (kD n i j mb1 k1 (out++[mb1_1]) (k+1) mb1_1)) else (out,k,mb1_1)
def eG (n:Int) (i:Int):(List I) :=
 ap (fun (s_:Int×I)=>let j:Int:=s_.1
 let mb1:I:=s_.2
 ap (fun (s:List I×Nat×I)=>let out:List I:=s.1
 let k:Nat:=s.2.1
 let mb1_1:I:=s.2.2
 out) (kD n i j mb1 ((i+1).toNat+1) ([]:List I) 0 mb1)) (n9 n i (n.toNat+1) 2 (E (Z.of 1)))
def fU (a:I):Bool :=
 (!a.1.bad&&a.1.valid)
def F_skewbackref08_bad :(List I) :=
 let q0:I:=(E Z.bad)
 [q0]
def hP (l:(List I)):Nat→Int→Nat→(Int×Nat) ⊕ (List I)
 | 0,last,i=>.inl (last,i)
 | k0+1,last,i=>bif decide ((i:Int)<(l.length:Int)) then (bif (fU (l.getD i I0)) then (bif ((Z.signW (l.getD i I0).dec).1 != 0) then (hP l k0 (i:Int) (i+1)) else (hP l k0 last (i+1))) else (.inr F_skewbackref08_bad)) else (.inl (last,i))
def jC (l:(List I)) (last:Int) (i:Nat):Nat→(List I)→Nat→List I×Nat
 | 0,out,j=>(out,j)
 | k1+1,out,j=>bif decide ((j:Int)≤last) then (jC l last i k1 (out++[(l.getD j I0)]) (j+1)) else (out,j)
def bD (l:(List I)):(List I) :=
 sm (fun (s_:Int×Nat)=>let last:Int:=s_.1
 let i:Nat:=s_.2
 bif decide (24<last) then F_skewbackref08_bad else (ap (fun (s:List I×Nat)=>let out:List I:=s.1
 let j:Nat:=s.2
 out) (jC l last i ((last+1).toNat+1) ([]:List I) 0))) (fun r=>r) (hP l (l.length+1) (-1) 0)
def mB (l:(List W)):Nat→(List I)→Nat→List I×Nat
 | 0,out,i=>(out,i)
 | k0+1,out,i=>bif decide ((i:Int)<(l.length:Int)) then (mB l k0 (out++[(E (Z.of (l.getD i W.z).1))]) (i+1)) else (out,i)
def bL (l:(List W)):(List I) :=
 ap (fun (s:List I×Nat)=>let out:List I:=s.1
 let i:Nat:=s.2
 (bD out)) (mB l (l.length+1) ([]:List I) 0)
def gS (p:(List I)):Nat→Nat→(Nat) ⊕ (Bool)
 | 0,i=>.inl i
 | k0+1,i=>bif decide ((i:Int)<(p.length:Int)) then (bif (fU (p.getD i I0)) then (gS p k0 (i+1)) else (.inr true)) else (.inl i)
def bA (p:(List I)):Bool :=
 sm (fun (s:Nat)=>let i:Nat:=s
 false) (fun r=>r) (gS p (p.length+1) 0)
def cL (p:(List I)) (k:Int):I :=
 bif (decide (k<0)||decide ((p.length:Int)≤k)) then I0 else (p.getD (k.toNat) I0)
def iO (p:(List I)) (q:(List I)):Nat→(List I)→Nat→List I×Nat
 | 0,out,i=>(out,i)
 | k0+1,out,i=>bif decide ((i:Int)<(((max (p.length) (q.length)):Nat):Int)) then (let r11:I:=(E (Z.add (cL p (i:Int)).dec (cL q (i:Int)).dec))
 (iO p q k0 (out++[r11]) (i+1))) else (out,i)
def aG (p:(List I)) (q:(List I)):(List I) :=
 bif ((bA p)||(bA q)) then F_skewbackref08_bad else (ap (fun (s:List I×Nat)=>let out:List I:=s.1
 let i:Nat:=s.2
 (bD out)) (iO p q ((max p.length q.length)+1) ([]:List I) 0))
def iR (p:(List I)) (q:(List I)):Nat→(List I)→Nat→List I×Nat
 | 0,out,i=>(out,i)
 | k0+1,out,i=>bif decide ((i:Int)<(((max (p.length) (q.length)):Nat):Int)) then (let r11:I:=(E (Z.sub (cL p (i:Int)).dec (cL q (i:Int)).dec))
 (iR p q k0 (out++[r11]) (i+1))) else (out,i)
def dJ (p:(List I)) (q:(List I)):(List I) :=
 bif ((bA p)||(bA q)) then F_skewbackref08_bad else (ap (fun (s:List I×Nat)=>let out:List I:=s.1
 let i:Nat:=s.2
 (bD out)) (iR p q ((max p.length q.length)+1) ([]:List I) 0))
def cQ (p:(List I)) (q:(List I)) (out:List I) (k:Nat):Nat→Nat→I→Nat×I
 | 0,i,mb17=>(i,mb17)
 | k1+1,i,mb17=>bif decide ((i:Int)≤(k:Int)) then (bif (decide ((i:Int)<(p.length:Int))&&decide (((k:Int) - (i:Int))<(q.length:Int))) then (cQ p q out k k1 (i+1) (E (Z.add mb17.dec (Z.mul (p.getD i I0).dec (q.getD (k - i) I0).dec)))) else (cQ p q out k k1 (i+1) mb17)) else (i,mb17)
def iQ (p:(List I)) (q:(List I)):Nat→(List I)→Nat→List I×Nat
 | 0,out,k=>(out,k)
 | k0+1,out,k=>bif decide ((k:Int)<((((p.length+(q).length):Nat):Int) - 1)) then (ap (fun (s:Nat×I)=>let i:Nat:=s.1
 let mb17:I:=s.2
 (iQ p q k0 (out++[mb17]) (k+1))) (cQ p q out k (k+2) 0 I0)) else (out,k)
def aU (p:(List I)) (q:(List I)):(List I) :=
 bif ((bA p)||(bA q)) then F_skewbackref08_bad else (bif (((p.length:Int)==0)||((q.length:Int)==0)) then ([]:List I) else (ap (fun (s:List I×Nat)=>let out:List I:=s.1
 let k:Nat:=s.2
 (bD out)) (iQ p q (p.length+q.length) ([]:List I) 0)))
def gT (p:(List I)) (n:I):Nat→(List I)→Nat→List I×Nat
 | 0,out,i=>(out,i)
 | k0+1,out,i=>bif decide ((i:Int)<(p.length:Int)) then (gT p n k0 (out++[(E (Z.mul (p.getD i I0).dec n.dec))]) (i+1)) else (out,i)
def aK (p:(List I)) (n:I):(List I) :=
 bif ((bA p)||(!(fU n))) then F_skewbackref08_bad else (ap (fun (s:List I×Nat)=>let out:List I:=s.1
 let i:Nat:=s.2
 (bD out)) (gT p n (p.length+1) ([]:List I) 0))
def i1 (n:I) (k:Int):Nat→Nat→I→Nat×I
 | 0,i,mb3=>(i,mb3)
 | k0+1,i,mb3=>bif decide ((i:Int)<k) then (i1 n k k0 (i+1) (E (Z.mul mb3.dec n.dec))) else (i,mb3)
def gO (n:I) (k:Int):I :=
 ap (fun (s:Nat×I)=>let i:Nat:=s.1
 let mb3:I:=s.2
 mb3) (i1 n k (k.toNat+1) 0 (E (Z.of 1)))
def dV (a:Rt):Bool :=
 bif (!(fU a.n)||(!(fU a.d)||decide ((Z.signW a.d.dec).1≤0))) then false else (decide ((E (Z.gcd a.n.dec a.d.dec))=(E (Z.of 1))))
def i3 (p:(List I)) (x:Rt):Nat→Int→I→Int×I
 | 0,i,mb7=>(i,mb7)
 | k0+1,i,mb7=>bif decide (0≤i) then (let r12:I:=(E (Z.mul (p.getD (i.toNat) I0).dec (gO x.d (((p.length:Int) - 1) - i)).dec))
 (i3 p x k0 (i - 1) (E (Z.add (Z.mul mb7.dec x.n.dec) r12.dec)))) else (i,mb7)
def dX (p:(List I)) (x:Rt):I :=
 bif ((bA p)||(!(dV x))) then (E Z.bad) else (ap (fun (s:Int×I)=>let i:Int:=s.1
 let mb7:I:=s.2
 mb7) (i3 p x (p.length+1) ((p.length:Int) - 1) I0))
def bB (p:(List I)) (x:Rt):Sgd :=
 bif (dX p x).1.bad then (⟨(wl 0),false⟩:Sgd) else (⟨(Z.signW (dX p x).dec),true⟩:Sgd)
def hZ (l:(List I)):Nat→Nat→I→Nat×I
 | 0,i,mb2=>(i,mb2)
 | k0+1,i,mb2=>bif decide ((i:Int)<(l.length:Int)) then (hZ l k0 (i+1) (E (Z.gcd mb2.dec (l.getD i I0).dec))) else (i,mb2)
def bM (l:(List I)):I :=
 ap (fun (s:Nat×I)=>let i:Nat:=s.1
 let mb2:I:=s.2
 mb2) (hZ l (l.length+1) 0 I0)
def fI (p:(List I)):Nat→(List I)→Nat→List I×Nat
 | 0,out,i=>(out,i)
 | k0+1,out,i=>bif decide ((i:Int)<(p.length:Int)) then (fI p k0 (out++[(E (Z.quo (p.getD i I0).dec (bM p).dec))]) (i+1)) else (out,i)
def dY (p:(List I)):(List I) :=
 bif (bA p) then F_skewbackref08_bad else (ap (fun (s:List I×Nat)=>let out:List I:=s.1
 let i:Nat:=s.2
 (bD out)) (fI p (p.length+1) ([]:List I) 0))
structure Pose where
 x:A3 W
 q:A4 W
structure Path where
 from_:Pose
 to_:Pose
structure A6 (α:Type) where
 x0:α
 x1:α
 x2:α
 x3:α
 x4:α
 x5:α
structure Rope where
 a:W
 b:W
 p:A3 W
 q:A3 W
structure End where
 n:W
 v:A3 W
structure Pull where
 a:W
 b:W
 p:A3 Rt
 q:A3 Rt
structure Spot where
 x:A3 Rt
 e:W
structure Pulled where
 p:Pull
 e:W
structure Cols where
 a:A6 Rt
 b:A6 Rt
 e:W
structure Times where
 l:List Rt
 e:W
structure Paths where
 l:List Path
 e:W
structure Done where
 w:I
 e:W
structure Moving where
 n:A3 (List I)
 s:List I
structure Curve where
 p:List I
 e:W
def fE:Pose:=⟨⟨W.z,W.z,W.z⟩,⟨W.z,W.z,W.z,W.z⟩⟩
def xH:El Pose:=⟨7,fun p=>[ci .i64 p.x.x.1,ci .i64 p.x.y.1,ci .i64 p.x.z.1,ci .i64 p.q.x.1,ci .i64 p.q.y.1,ci .i64 p.q.z.1,ci .i64 p.q.t.1],fun _=>rfl⟩
def AL:El Path:=⟨14,fun p=>[ci .i64 p.from_.x.x.1,ci .i64 p.from_.x.y.1,ci .i64 p.from_.x.z.1,ci .i64 p.from_.q.x.1,ci .i64 p.from_.q.y.1,ci .i64 p.from_.q.z.1,ci .i64 p.from_.q.t.1,ci .i64 p.to_.x.x.1,ci .i64 p.to_.x.y.1,ci .i64 p.to_.x.z.1,ci .i64 p.to_.q.x.1,ci .i64 p.to_.q.y.1,ci .i64 p.to_.q.z.1,ci .i64 p.to_.q.t.1],fun _=>rfl⟩
def dN (a:Pose):W :=
 bif (decide (140737488355328≤a.x.x.1)||decide (a.x.x.1≤(-140737488355328))) then (wl 1) else (bif (decide (140737488355328≤a.x.y.1)||decide (a.x.y.1≤(-140737488355328))) then (wl 1) else (bif (decide (140737488355328≤a.x.z.1)||decide (a.x.z.1≤(-140737488355328))) then (wl 1) else (bif (fA a.q) then (wl 0) else (wl 1))))
def cW (a:Path):W :=
 bif ((dN a.from_).1 != 0) then (dN a.from_) else (dN a.to_)
def aC (h:Path):(A4 (List I)) :=
 bif decide ((gP h.from_.q h.to_.q).1<0) then (⟨(bL [h.from_.q.x,(W.sub (W.mul (wl (-1)) h.to_.q.x) h.from_.q.x)]),(bL [h.from_.q.y,(W.sub (W.mul (wl (-1)) h.to_.q.y) h.from_.q.y)]),(bL [h.from_.q.z,(W.sub (W.mul (wl (-1)) h.to_.q.z) h.from_.q.z)]),(bL [h.from_.q.t,(W.sub (W.mul (wl (-1)) h.to_.q.t) h.from_.q.t)])⟩:(A4 (List I))) else (⟨(bL [h.from_.q.x,(W.sub (W.mul (wl 1) h.to_.q.x) h.from_.q.x)]),(bL [h.from_.q.y,(W.sub (W.mul (wl 1) h.to_.q.y) h.from_.q.y)]),(bL [h.from_.q.z,(W.sub (W.mul (wl 1) h.to_.q.z) h.from_.q.z)]),(bL [h.from_.q.t,(W.sub (W.mul (wl 1) h.to_.q.t) h.from_.q.t)])⟩:(A4 (List I)))
def aE (p:(List I)):(List I) :=
 (aU p p)
def fX (h:Path):(List I) :=
 (aG (aG (aE ((aC h).x)) (aE ((aC h).y))) (aG (aE ((aC h).z)) (aE ((aC h).t))))
def bR (a:(List I)) (b:(List I)) (c:(List I)) (d:(List I)) (k:W):(List I) :=
 (aK (aG (aU a b) (aK (aU c d) (E (Z.of k.1)))) (E (Z.of 2)))
def dK (a:(List I)) (b:(List I)) (c:(List I)) (d:(List I)):(List I) :=
 (dJ (aG (aE a) (aE b)) (aG (aE c) (aE d)))
def cE (h:Path) (v:(A3 W)):Moving :=
 let q0:(List I):=(fX h)
 let q1:(A4 (List I)):=(aC h)
 let q2:(List I):=(dK q1.x q1.y q1.z q1.t)
 let q3:(List I):=(bR q1.y q1.z q1.x q1.t (wl (-1)))
 let q4:(List I):=(bR q1.y q1.t q1.x q1.z (wl 1))
 let q5:(List I):=(bR q1.y q1.z q1.x q1.t (wl 1))
 let q6:(List I):=(dK q1.x q1.z q1.y q1.t)
 let q7:(List I):=(bR q1.z q1.t q1.x q1.y (wl (-1)))
 let q8:(List I):=(bR q1.y q1.t q1.x q1.z (wl (-1)))
 let q9:(List I):=(bR q1.z q1.t q1.x q1.y (wl 1))
 let q10:(List I):=(dK q1.x q1.t q1.y q1.z)
 let q11:(List I):=(bL [h.from_.x.x,(W.sub h.to_.x.x h.from_.x.x)])
 let q12:(List I):=(aU q0 q11)
 let q13:I:=(E (Z.of v.x.1))
 let q14:(List I):=(aK q2 q13)
 let q15:(List I):=(aG q12 q14)
 let q16:I:=(E (Z.of v.y.1))
 let q17:(List I):=(aK q3 q16)
 let q18:(List I):=(aG q15 q17)
 let q19:I:=(E (Z.of v.z.1))
 let q20:(List I):=(aK q4 q19)
 let q21:(List I):=(aG q18 q20)
 let q22:(List I):=(bL [h.from_.x.y,(W.sub h.to_.x.y h.from_.x.y)])
 let q23:(List I):=(aU q0 q22)
 let q24:(List I):=(aK q5 q13)
 let q25:(List I):=(aG q23 q24)
 let q26:(List I):=(aK q6 q16)
 let q27:(List I):=(aG q25 q26)
 let q28:(List I):=(aK q7 q19)
 let q29:(List I):=(aG q27 q28)
 let q30:(List I):=(bL [h.from_.x.z,(W.sub h.to_.x.z h.from_.x.z)])
 let q31:(List I):=(aU q0 q30)
 let q32:(List I):=(aK q8 q13)
 let q33:(List I):=(aG q31 q32)
 let q34:(List I):=(aK q9 q16)
 let q35:(List I):=(aG q33 q34)
 let q36:(List I):=(aK q10 q19)
 let q37:(List I):=(aG q35 q36)
 (⟨(⟨q21,q29,q37⟩:(A3 (List I))),q0⟩:Moving)
def k6 (l:(List I)) (f:I→Bool):Nat→Nat→(Nat) ⊕ (W)
 | 0,i=>.inl i
 | k0+1,i=>bif decide ((i:Int)<(l.length:Int)) then (bif (f (l.getD i I0)) then (.inr (W.cv (i:Int))) else (k6 l f k0 (i+1))) else (.inl i)
def sM (l:(List I)) (f:I→Bool):W :=
 sm (fun (s:Nat)=>let i:Nat:=s
 (wl (-1))) (fun r=>r) (k6 l f (l.length+1) 0)
def rN (l:(List I)) (f:I→Bool):Bool :=
 (decide (0≤(sM l f).1))
def kO (n:Int) (k:Int):Nat→W→Nat→W×Nat
 | 0,c,i=>(c,i)
 | k0+1,c,i=>bif decide ((i:Int)<k) then (kO n k k0 (W.quo (W.mul c (W.cv (n - (i:Int)))) (W.cv (((i+1):Nat):Int))) (i+1)) else (c,i)
def i2 (n:Int) (k:Int):W :=
 ap (fun (s:W×Nat)=>let c:W:=s.1
 let i:Nat:=s.2
 c) (kO n k (k.toNat+1) (wl 1) 0)
def jZ (n:Int):Nat→Nat→I→Nat×I
 | 0,i,mb2=>(i,mb2)
 | k0+1,i,mb2=>bif decide ((i:Int)≤n) then (jZ n k0 (i+1) (E (Z.mul mb2.dec (Z.of (i:Int))))) else (i,mb2)
def dE (n:Int):I :=
 ap (fun (s:Nat×I)=>let i:Nat:=s.1
 let mb2:I:=s.2
 mb2) (jZ n (n.toNat+1) 2 (E (Z.of 1)))
def gA (p:(List I)) (a:Rt) (b:Rt):Nat→(List I)→Int→List I×Int
 | 0,r,i=>(r,i)
 | k0+1,r,i=>bif decide (0≤i) then (let r27:I:=(gO (E (Z.mul a.d.dec b.d.dec)) (((p.length:Int) - 1) - i))
 (gA p a b k0 (aG (aU r (bD [(E (Z.mul a.n.dec b.d.dec)),(E (Z.mul b.n.dec a.d.dec))])) (bD [(E (Z.mul (p.getD (i.toNat) I0).dec r27.dec))])) (i - 1))) else (r,i)
def eD (p:(List I)) (a:Rt) (b:Rt):(List I) :=
 bif ((bA p)||(!(dV a)||(!(dV b)))) then F_skewbackref08_bad else (ap (fun (s:List I×Int)=>let r:List I:=s.1
 let i:Int:=s.2
 (dY r)) (gA p a b (p.length+1) ([]:List I) ((p.length:Int) - 1)))
def gH (p:(List I)) (a:Rt) (b:Rt) (out:List I) (i:Nat):Nat→Nat→I→Nat×I
 | 0,j,mb18=>(j,mb18)
 | k1+1,j,mb18=>bif decide ((j:Int)≤(i:Int)) then (let r27:I:=(E (Z.of (i2 (i:Int) (j:Int)).1))
 let r28:I:=(dE (((p.length:Int) - 1) - (j:Int)))
 let r29:I:=(E (Z.mul r27.dec (Z.mul (dE (j:Int)).dec r28.dec)))
 let r31:I:=(cL (eD p a (gE b a)) (j:Int))
 (gH p a b out i k1 (j+1) (E (Z.add mb18.dec (Z.mul r29.dec r31.dec))))) else (j,mb18)
def gG (p:(List I)) (a:Rt) (b:Rt):Nat→(List I)→Nat→(List I×Nat) ⊕ (Lst8)
 | 0,out,i=>.inl (out,i)
 | k0+1,out,i=>bif decide ((i:Int)≤((p.length:Int) - 1)) then (ap (fun (s:Nat×I)=>let j:Nat:=s.1
 let mb18:I:=s.2
 bif mb18.1.bad then (.inr (⟨([]:List I),false⟩:Lst8)) else (gG p a b k0 (out++[mb18]) (i+1))) (gH p a b out i (i+2) 0 I0)) else (.inl (out,i))
def eC (p:(List I)) (a:Rt) (b:Rt) (out:List I) (i:Nat):Nat→Nat→(List I)→Nat×List I
 | 0,k,t=>(k,t)
 | k2+1,k,t=>bif decide ((k:Int)<(t.length:Int)) then (bif ((Z.signW (bM out).dec).1 != 0) then (eC p a b out i k2 (k+1) (t.set k (E (Z.quo (t.getD k I0).dec (bM out).dec)))) else (eC p a b out i k2 (k+1) t)) else (k,t)
def aT (p:(List I)) (a:Rt) (b:Rt):Lst8 :=
 bif ((bA p)||(!(dV a)||(!(dV b)))) then (⟨([]:List I),false⟩:Lst8) else (bif (bA (eD p a (gE b a))) then (⟨([]:List I),false⟩:Lst8) else (sm (fun (s_:List I×Nat)=>let out:List I:=s_.1
 let i:Nat:=s_.2
 ap (fun (s:Nat×List I)=>let k:Nat:=s.1
 let t:List I:=s.2
 (⟨t,true⟩:Lst8)) (eC p a b out i (out.length+1) 0 out)) (fun r=>r) (gG p a b (p.length+1) ([]:List I) 0)))
def mF (a:W) (b:W):Rt :=
 let r2:Rt:=(cT (E (Z.of a.1)) (E (Z.of b.1)))
 r2
def mN (l:(List W)) (x0:W) (l0:List W) (o:W):Nat→W→W→W×W
 | 0,p,q=>(p,q)
 | k1+1,p,q=>bif (q.1 != 0) then (mN l x0 l0 o k1 q (W.rem p q)) else (p,q)
def lG (l:(List W)):List W→W→W
 | [],o=>o
 | x0::l0,o=>ap (fun (s:W×W)=>let p:W:=s.1
 let q:W:=s.2
 (lG l l0 p)) (mN l x0 l0 o ((W.max x0 (W.neg x0)).1.natAbs+1) o (W.max x0 (W.neg x0)))
def dB (l:(List W)):W :=
 ap (fun (s:W)=>let o:W:=s
 o) (lG l l (wl 0))
def qH (a:(A4 W)):Bool :=
 bif (decide (64<(W.max a.x (W.neg a.x)).1)||((a.x.1==(W.neg a.x).1)&&(a.x.1 != 0))) then false else (bif (decide (64<(W.max a.y (W.neg a.y)).1)||((a.y.1==(W.neg a.y).1)&&(a.y.1 != 0))) then false else (bif (decide (64<(W.max a.z (W.neg a.z)).1)||((a.z.1==(W.neg a.z).1)&&(a.z.1 != 0))) then false else (bif (decide (64<(W.max a.t (W.neg a.t)).1)||((a.t.1==(W.neg a.t).1)&&(a.t.1 != 0))) then false else true)))
def eS (a:(A4 W)):(A4 W)×Bool :=
 bif ((dB [a.x,a.y,a.z,a.t]).1==0) then ((⟨(wl 0),(wl 0),(wl 0),(wl 0)⟩:(A4 W)),false) else (bif (a.x.1 != 0) then (let r6:W:=(bif decide (a.x.1<0) then (W.neg (dB [a.x,a.y,a.z,a.t])) else (dB [a.x,a.y,a.z,a.t]))
 ((⟨(W.quo a.x r6),(W.quo a.y r6),(W.quo a.z r6),(W.quo a.t r6)⟩:(A4 W)),true)) else (bif (a.y.1 != 0) then (let r11:W:=(bif decide (a.y.1<0) then (W.neg (dB [a.x,a.y,a.z,a.t])) else (dB [a.x,a.y,a.z,a.t]))
 ((⟨(W.quo a.x r11),(W.quo a.y r11),(W.quo a.z r11),(W.quo a.t r11)⟩:(A4 W)),true)) else (bif (a.z.1 != 0) then (let r16:W:=(bif decide (a.z.1<0) then (W.neg (dB [a.x,a.y,a.z,a.t])) else (dB [a.x,a.y,a.z,a.t]))
 ((⟨(W.quo a.x r16),(W.quo a.y r16),(W.quo a.z r16),(W.quo a.t r16)⟩:(A4 W)),true)) else (bif (a.t.1 != 0) then (let r21:W:=(bif decide (a.t.1<0) then (W.neg (dB [a.x,a.y,a.z,a.t])) else (dB [a.x,a.y,a.z,a.t]))
 ((⟨(W.quo a.x r21),(W.quo a.y r21),(W.quo a.z r21),(W.quo a.t r21)⟩:(A4 W)),true)) else ((⟨(W.quo a.x (dB [a.x,a.y,a.z,a.t])),(W.quo a.y (dB [a.x,a.y,a.z,a.t])),(W.quo a.z (dB [a.x,a.y,a.z,a.t])),(W.quo a.t (dB [a.x,a.y,a.z,a.t]))⟩:(A4 W)),true)))))
def rG (a:(A4 W)):Bool :=
 bif (qH a) then (let r3:(A4 W):=(eS a).1
 ((eS a).2&&(decide (r3.x.1=a.x.1)&&(decide (r3.y.1=a.y.1)&&(decide (r3.z.1=a.z.1)&&decide (r3.t.1=a.t.1)))))) else (false)
def qS (a:(List W)):Nat→W→Nat→W×Nat
 | 0,o,i=>(o,i)
 | k0+1,o,i=>bif decide (((i+1:Nat):Int)<(a.length:Int)) then (qS a k0 (W.add o (W.mul (a.getD i W.z) (a.getD (i+1) W.z))) (i+2)) else (o,i)
def eR (a:(List W)):W :=
 ap (fun (s:W×Nat)=>let o:W:=s.1
 let i:Nat:=s.2
 o) (qS a (a.length+1) (wl 0) 0)
def l8 (a:(A4 W)):(A9 W) :=
 (⟨(eR [a.x,a.x,a.y,a.y,(W.neg a.z),a.z,(W.neg a.t),a.t]),(W.mul (wl 2) (eR [a.y,a.z,(W.neg a.x),a.t])),(W.mul (wl 2) (eR [a.y,a.t,a.x,a.z])),(W.mul (wl 2) (eR [a.y,a.z,a.x,a.t])),(eR [a.x,a.x,(W.neg a.y),a.y,a.z,a.z,(W.neg a.t),a.t]),(W.mul (wl 2) (eR [a.z,a.t,(W.neg a.x),a.y])),(W.mul (wl 2) (eR [a.y,a.t,(W.neg a.x),a.z])),(W.mul (wl 2) (eR [a.z,a.t,a.x,a.y])),(eR [a.x,a.x,(W.neg a.y),a.y,(W.neg a.z),a.z,a.t,a.t])⟩:(A9 W))
def nO (a:(A4 W)) (b:(A3 W)):(A3 W) :=
 let r4:(A9 W):=(l8 a)
 (⟨(eR [r4.x0,b.x,r4.x1,b.y,r4.x2,b.z]),(eR [r4.x3,b.x,r4.x4,b.y,r4.x5,b.z]),(eR [r4.x6,b.x,r4.x7,b.y,r4.x8,b.z])⟩:(A3 W))
def oU (a:(A4 W)) (b:(A4 W)):W :=
 (eR [a.x,b.x,a.y,b.y,a.z,b.z,a.t,b.t])
def n4 (a:(A4 W)):W :=
 (oU a a)
def oY (a:(A4 W)) (b:(A3 W)):(A3 Rt) :=
 let r5:Rt:=(mF ((nO a b).x) (n4 a))
 let r6:Rt:=(mF ((nO a b).y) (n4 a))
 let r7:Rt:=(mF ((nO a b).z) (n4 a))
 (⟨r5,r6,r7⟩:(A3 Rt))
def jF (a:Pose):W :=
 bif (decide (140737488355328≤a.x.x.1)||decide (a.x.x.1≤(-140737488355328))) then (wl 1) else (bif (decide (140737488355328≤a.x.y.1)||decide (a.x.y.1≤(-140737488355328))) then (wl 1) else (bif (decide (140737488355328≤a.x.z.1)||decide (a.x.z.1≤(-140737488355328))) then (wl 1) else (bif (rG a.q) then (wl 0) else (wl 1))))
def mM (a:Path):W :=
 bif (((jF a.from_).1 != 0)||((jF a.to_).1 != 0)) then (wl 1) else (wl 0)
def nZ (a:Pose) (b:(A3 W)):(A3 Rt) :=
 let r4:(A3 Rt):=(gB a.x)
 let r5:(A3 Rt):=(oY a.q b)
 let r6:(A3 Rt):=(oZ r4 r5)
 r6
def aL (h:Path):(A4 (List I)) :=
 bif decide ((oU h.from_.q h.to_.q).1<0) then (⟨(cX [h.from_.q.x,(W.sub (W.mul (wl (-1)) h.to_.q.x) h.from_.q.x)]),(cX [h.from_.q.y,(W.sub (W.mul (wl (-1)) h.to_.q.y) h.from_.q.y)]),(cX [h.from_.q.z,(W.sub (W.mul (wl (-1)) h.to_.q.z) h.from_.q.z)]),(cX [h.from_.q.t,(W.sub (W.mul (wl (-1)) h.to_.q.t) h.from_.q.t)])⟩:(A4 (List I))) else (⟨(cX [h.from_.q.x,(W.sub (W.mul (wl 1) h.to_.q.x) h.from_.q.x)]),(cX [h.from_.q.y,(W.sub (W.mul (wl 1) h.to_.q.y) h.from_.q.y)]),(cX [h.from_.q.z,(W.sub (W.mul (wl 1) h.to_.q.z) h.from_.q.z)]),(cX [h.from_.q.t,(W.sub (W.mul (wl 1) h.to_.q.t) h.from_.q.t)])⟩:(A4 (List I)))
def cS (n:W) (l0:(List I)) (l1:(List I)) (l2:(List I)) (l3:(List I)):(List I) :=
 (bK (bC (bC ([]:List I) (aV l0 l1)) (aV l2 l3)) (E (Z.of n.1)))
def oT (n:W) (l0:(List I)) (l1:(List I)) (l2:(List I)) (l3:(List I)) (l4:(List I)) (l5:(List I)) (l6:(List I)) (l7:(List I)):(List I) :=
 (bK (bC (bC (bC (bC ([]:List I) (aV l0 l1)) (aV l2 l3)) (aV l4 l5)) (aV l6 l7)) (E (Z.of n.1)))
def j4 (h:Path):(List I) :=
 (oT (wl 1) ((aL h).x) ((aL h).x) ((aL h).y) ((aL h).y) ((aL h).z) ((aL h).z) ((aL h).t) ((aL h).t))
def gU (x:(List I)) (y:(List I)) (z:(List I)) (u:(List I)):(List I) :=
 (jM (cS (wl 1) x x y y) (cS (wl 1) z z u u))
def cJ (h:Path) (v:(A3 W)):(A3 (List I))×(List I) :=
 let q0:(A4 (List I)):=(aL h)
 let q1:(List I):=(j4 h)
 let q2:I:=(E (Z.of (-1)))
 let q3:(List I):=(bK q0.x q2)
 let q4:(List I):=(gU q0.x q0.y q0.z q0.t)
 let q5:(List I):=(cS (wl 2) q0.y q0.z q3 q0.t)
 let q6:(List I):=(cS (wl 2) q0.y q0.t q0.x q0.z)
 let q7:(List I):=(cS (wl 2) q0.y q0.z q0.x q0.t)
 let q8:(List I):=(gU q0.x q0.z q0.y q0.t)
 let q9:(List I):=(cS (wl 2) q0.z q0.t q3 q0.y)
 let q10:(List I):=(cS (wl 2) q0.y q0.t q3 q0.z)
 let q11:(List I):=(cS (wl 2) q0.z q0.t q0.x q0.y)
 let q12:(List I):=(gU q0.x q0.t q0.y q0.z)
 let q13:(List I):=(cX [h.from_.x.x,(W.sub h.to_.x.x h.from_.x.x)])
 let q14:(List I):=(aV q1 q13)
 let q15:I:=(E (Z.of v.x.1))
 let q16:(List I):=(bK q4 q15)
 let q17:(List I):=(bC q14 q16)
 let q18:I:=(E (Z.of v.y.1))
 let q19:(List I):=(bK q5 q18)
 let q20:(List I):=(bC q17 q19)
 let q21:I:=(E (Z.of v.z.1))
 let q22:(List I):=(bK q6 q21)
 let q23:(List I):=(bC q20 q22)
 let q24:(List I):=(cX [h.from_.x.y,(W.sub h.to_.x.y h.from_.x.y)])
 let q25:(List I):=(aV q1 q24)
 let q26:(List I):=(bK q7 q15)
 let q27:(List I):=(bC q25 q26)
 let q28:(List I):=(bK q8 q18)
 let q29:(List I):=(bC q27 q28)
 let q30:(List I):=(bK q9 q21)
 let q31:(List I):=(bC q29 q30)
 let q32:(List I):=(cX [h.from_.x.z,(W.sub h.to_.x.z h.from_.x.z)])
 let q33:(List I):=(aV q1 q32)
 let q34:(List I):=(bK q10 q15)
 let q35:(List I):=(bC q33 q34)
 let q36:(List I):=(bK q11 q18)
 let q37:(List I):=(bC q35 q36)
 let q38:(List I):=(bK q12 q21)
 let q39:(List I):=(bC q37 q38)
 ((⟨q23,q31,q39⟩:(A3 (List I))),q1)
def fT (p:(List I)) (a:Rt) (b:Rt):Nat→(List I)→Int→List I×Int
 | 0,r,i=>(r,i)
 | k0+1,r,i=>bif decide (0≤i) then (let r32:I:=(E (Z.mul (p.getD (i.toNat) I0).dec ((eA (E (Z.mul a.d.dec b.d.dec)) (p.length:Int)).getD ((p.length - 1) - i.toNat) I0).dec))
 (fT p a b k0 (bC (aV r (gR [(E (Z.mul a.n.dec b.d.dec)),(E (Z.mul b.n.dec a.d.dec))])) (gR [r32])) (i - 1))) else (r,i)
def jR (p:(List I)) (a:Rt) (b:Rt):(List I) :=
 bif ((dC p)||(!(k8 [a,b]))) then F_poly_bad else (ap (fun (s:List I×Int)=>let r:List I:=s.1
 let i:Int:=s.2
 r) (fT p a b (p.length+1) ([]:List I) ((p.length:Int) - 1)))
def gM (p:(List I)) (a:Rt) (b:Rt):(List I) :=
 (iJ (jR p a b))
def gV (p:(List I)) (a:Rt) (b:Rt) (out:List I) (i:Nat):Nat→Nat→I→Nat×I
 | 0,j,mb40=>(j,mb40)
 | k1+1,j,mb40=>bif decide ((j:Int)<((eG ((p.length:Int) - 1) (i:Int)).length:Int)) then (let r52:I:=(E (Z.mul ((eG ((p.length:Int) - 1) (i:Int)).getD j I0).dec (kF (gM p a (fH b a)) (j:Int)).dec))
 (gV p a b out i k1 (j+1) (E (Z.add mb40.dec r52.dec)))) else (j,mb40)
def fJ (p:(List I)) (a:Rt) (b:Rt):Nat→(List I)→Nat→(List I×Nat) ⊕ ((List I)×Bool)
 | 0,out,i=>.inl (out,i)
 | k0+1,out,i=>bif decide ((i:Int)<(p.length:Int)) then (ap (fun (s:Nat×I)=>let j:Nat:=s.1
 let mb40:I:=s.2
 bif mb40.1.bad then (.inr (([]:List I),false)) else (fJ p a b k0 (out++[mb40]) (i+1))) (gV p a b out i ((eG ((p.length:Int) - 1) (i:Int)).length+1) 0 I0)) else (.inl (out,i))
def iY (p:(List I)) (a:Rt) (b:Rt) (out:List I) (i:Nat):Nat→Nat→(List I)→Nat×List I
 | 0,k,t=>(k,t)
 | k2+1,k,t=>bif decide ((k:Int)<(out.length:Int)) then (iY p a b out i k2 (k+1) (t.set k (E (Z.quo (t.getD k I0).dec (dH out).dec)))) else (k,t)
def eJ (p:(List I)) (a:Rt) (b:Rt):(List I)×Bool :=
 bif ((dC p)||(!(k8 [a,b]))) then (([]:List I),false) else (bif (dC (gM p a (fH b a))) then (([]:List I),false) else (sm (fun (s_:List I×Nat)=>let out:List I:=s_.1
 let i:Nat:=s_.2
 bif ((Z.signW (dH out).dec).1 != 0) then (ap (fun (s:Nat×List I)=>let k:Nat:=s.1
 let t:List I:=s.2
 (t,true)) (iY p a b out i (out.length+1) 0 out)) else (out,true)) (fun r=>r) (fJ p a b (p.length+1) ([]:List I) 0)))
def eY (a:(A3 W)) (b:W):Bool :=
 bif (decide (b.1<a.x.1)||decide (a.x.1<(W.neg b).1)) then false else (bif (decide (b.1<a.y.1)||decide (a.y.1<(W.neg b).1)) then false else (bif (decide (b.1<a.z.1)||decide (a.z.1<(W.neg b).1)) then false else true))
def oC (l:(List I)):List I→I→I
 | [],mb2=>mb2
 | x0::l0,mb2=>(oC l l0 (E (Z.mul mb2.dec x0.dec)))
def gN (l:(List I)):I :=
 ap (fun (s:I)=>let mb2:I:=s
 mb2) (oC l (l.drop 1) (l.getD 0 I0))
def hJ (a:Rt):Bool :=
 (!(aS a))
def cZ (h:Path) (u:(A3 W)) (b:(A3 Rt)) (m:Rt):(List I)×W :=
 let q0:W:=(mM h)
 let q1:Bool:=(eY u (wl 262144))
 let q2:Bool:=(hJ m)
 let q3:Bool:=(kN [b.x,b.y,b.z] (fun (y:Rt)=>(hJ y)))
 bif ((q0.1 != 0)||(!q1||(q2||q3))) then (([]:List I),(wl 1)) else (let q4:(A3 (List I)):=(cJ h u).1
 let q5:(List I):=(cJ h u).2
 let q6:I:=(gN [b.x.d,b.y.d,b.z.d])
 let q7:(List I):=(bK q4.x q6)
 let q8:I:=(E (Z.mul b.x.n.dec q6.dec))
 let q9:I:=(E (Z.quo q8.dec b.x.d.dec))
 let q10:(List I):=(bK q5 q9)
 let q11:(List I):=(jM q7 q10)
 let q12:(List I):=(aV q11 q11)
 let q13:(List I):=(bC ([]:List I) q12)
 let q14:(List I):=(bK q4.y q6)
 let q15:I:=(E (Z.mul b.y.n.dec q6.dec))
 let q16:I:=(E (Z.quo q15.dec b.y.d.dec))
 let q17:(List I):=(bK q5 q16)
 let q18:(List I):=(jM q14 q17)
 let q19:(List I):=(aV q18 q18)
 let q20:(List I):=(bC q13 q19)
 let q21:(List I):=(bK q4.z q6)
 let q22:I:=(E (Z.mul b.z.n.dec q6.dec))
 let q23:I:=(E (Z.quo q22.dec b.z.d.dec))
 let q24:(List I):=(bK q5 q23)
 let q25:(List I):=(jM q21 q24)
 let q26:(List I):=(aV q25 q25)
 let q27:(List I):=(bC q20 q26)
 let q28:(List I):=(aV q5 q5)
 let q29:I:=(gN [m.n,q6,q6])
 let q30:(List I):=(bK q28 q29)
 let q31:(List I):=(bK q27 m.d)
 let q32:(List I):=(jM q30 q31)
 let q33:(List I):=(iJ q32)
 let q34:Bool:=(dC q33)
 bif q34 then (([]:List I),(wl 30)) else (q33,(wl 0)))
def j8 (a:I):Bool :=
 (decide ((Z.signW a.dec).1<0))
def iK (p:(List I)) (a:Rt) (c:Rt):Bool×W :=
 bif (eJ p a c).2 then ((!(rN ((eJ p a c).1) (fun (y:I)=>(j8 y)))),(wl 0)) else (false,(wl 30))
def dZ (a:(A3 W)) (b:W):Bool :=
 bif (decide (b.1<a.x.1)||decide (a.x.1<(W.neg b).1)) then false else (bif (decide (b.1<a.y.1)||decide (a.y.1<(W.neg b).1)) then false else (bif (decide (b.1<a.z.1)||decide (a.z.1<(W.neg b).1)) then false else true))
def kE (a:I) (b:I) (c:I):I :=
 (E (Z.mul (Z.mul a.dec b.dec) c.dec))
def aW (h:Path) (u:(A3 W)) (b:(A3 Rt)) (m:Rt):Curve :=
 let q0:W:=(cW h)
 let q1:Bool:=(dZ u (wl 262144))
 let q2:Bool:=(aP m)
 bif ((q0.1 != 0)||(!q1||(!q2))) then (⟨([]:List I),(wl 1)⟩:Curve) else (let q3:Bool:=(aP b.x)
 let q4:Bool:=(aP b.y)
 let q5:Bool:=(aP b.z)
 let q6:Moving:=(cE h u)
 let q7:I:=(kE b.x.d b.y.d b.z.d)
 let q8:(List I):=(aU q6.s q6.s)
 let q9:I:=(kE m.n q7 q7)
 let q10:(List I):=(aK q8 q9)
 let q11:I:=(E (Z.mul b.x.n.dec q7.dec))
 let q12:I:=(E (Z.quo q11.dec b.x.d.dec))
 let q13:(List I):=(aK q6.n.x q7)
 let q14:(List I):=(aK q6.s q12)
 let q15:(List I):=(dJ q13 q14)
 let q16:(List I):=(aU q15 q15)
 let q17:(List I):=(aG ([]:List I) q16)
 let q18:I:=(E (Z.mul b.y.n.dec q7.dec))
 let q19:I:=(E (Z.quo q18.dec b.y.d.dec))
 let q20:(List I):=(aK q6.n.y q7)
 let q21:(List I):=(aK q6.s q19)
 let q22:(List I):=(dJ q20 q21)
 let q23:(List I):=(aU q22 q22)
 let q24:(List I):=(aG q17 q23)
 let q25:I:=(E (Z.mul b.z.n.dec q7.dec))
 let q26:I:=(E (Z.quo q25.dec b.z.d.dec))
 let q27:(List I):=(aK q6.n.z q7)
 let q28:(List I):=(aK q6.s q26)
 let q29:(List I):=(dJ q27 q28)
 let q30:(List I):=(aU q29 q29)
 let q31:(List I):=(aG q24 q30)
 let q32:(List I):=(aK q31 m.d)
 let q33:(List I):=(dJ q10 q32)
 let q34:(List I):=(dY q33)
 let q35:Bool:=(bA q34)
 bif q3 then (bif q4 then (bif q5 then (bif q35 then (⟨([]:List I),(wl 30)⟩:Curve) else (⟨q34,(wl 0)⟩:Curve)) else (⟨([]:List I),(wl 1)⟩:Curve)) else (⟨([]:List I),(wl 1)⟩:Curve)) else (⟨([]:List I),(wl 1)⟩:Curve))
def iC (p:(List I)) (a:Rt) (c:Rt):Nat→Nat→(Nat) ⊕ (Bool×W)
 | 0,i=>.inl i
 | k0+1,i=>bif decide ((i:Int)<(((aT p a c).l).length:Int)) then (bif decide ((Z.signW (((aT p a c).l).getD i I0).dec).1<0) then (.inr (false,(wl 0))) else (iC p a c k0 (i+1))) else (.inl i)
def cR (p:(List I)) (a:Rt) (c:Rt):Bool×W :=
 bif (aT p a c).is then (sm (fun (s:Nat)=>let i:Nat:=s
 (true,(wl 0))) (fun r=>r) (iC p a c (((aT p a c).l).length+1) 0)) else (false,(wl 30))
def fG (a:Rt) (b:Rt):Rt :=
 let r4:Rt:=(cP (jH a b) (mF (wl 1) (wl 2)))
 r4
def aM (a:Rt) (b:Rt):Rt :=
 let r4:Rt:=(oD (wl 1) (wl 2))
 let r5:Rt:=(kT (iU a b) r4)
 r5
def bO (p:List I):Nat→Rt→Rt→Nat→List Rt→W×List Rt
 | 0,_,_,_,_=>(wl 0,[])
 | n+1,a,c,k,t=>bif (decide (((j1 p a).1).1<0)||decide (((j1 p c).1).1<0)) then ((wl 200),t) else (bif (!((j1 p a).2)||(!((j1 p c).2)||(((iK p a c).2).1 != 0))) then ((wl 30),t) else (bif (iK p a c).1 then ((wl 0),(t++[c])) else (bif ((k:Int)==0) then ((wl 160),t) else (bif (((bO p n a (fG a c) (k - 1) t).1).1 != 0) then ((bO p n a (fG a c) (k - 1) t).1,(bO p n a (fG a c) (k - 1) t).2) else ((bO p n (fG a c) c (k - 1) ((bO p n a (fG a c) (k - 1) t).2)).1,(bO p n (fG a c) c (k - 1) ((bO p n a (fG a c) (k - 1) t).2)).2)))))
def aD:Nat→(List I)→Rt→Rt→Int→Times
 | 0,_,_,_,_=>⟨[],wl 0⟩
 | n+1,p,a,c,k=>bif (bif (bB p a).ok then (decide (((bB p a).s).1<0)||((bB p c).ok&&decide (((bB p c).s).1<0))) else ((bB p c).ok&&decide (((bB p c).s).1<0))) then (⟨([]:List Rt),(wl 200)⟩:Times) else (bif (!((bB p a).ok)||(!((bB p c).ok)||(((cR p a c).2).1 != 0))) then (⟨([]:List Rt),(wl 30)⟩:Times) else (bif (cR p a c).1 then (⟨[c],(wl 0)⟩:Times) else (bif (k==0) then (⟨([]:List Rt),(wl 160)⟩:Times) else (bif (((aD n p a (aM a c) (k - 1)).e).1 != 0) then (⟨(aD n p a (aM a c) (k - 1)).l,(aD n p a (aM a c) (k - 1)).e⟩:Times) else (bif (((aD n p (aM a c) c (k - 1)).e).1 != 0) then (⟨(aD n p (aM a c) c (k - 1)).l,(aD n p (aM a c) c (k - 1)).e⟩:Times) else (⟨(([]++(aD n p a (aM a c) (k - 1)).l)++(aD n p (aM a c) c (k - 1)).l),(wl 0)⟩:Times))))))
def gJ (p:(List I)) (a:Rt) (c:Rt) (k:Int):Times:=aD (k.toNat+1) p a c k
def dO (h:Path) (u:(A3 W)) (b:(A3 Rt)) (m:Rt) (k:Int):Times :=
 bif (((aW h u b m).e).1 != 0) then (⟨([]:List Rt),(aW h u b m).e⟩:Times) else (bif (decide (k<0)||decide (12<k)) then (⟨([]:List Rt),(wl 1)⟩:Times) else (⟨(gJ ((aW h u b m).p) (aI (wl 0)) (aI (wl 1)) k).l,(gJ ((aW h u b m).p) (aI (wl 0)) (aI (wl 1)) k).e⟩:Times))
def n6 (r:Rope) (n:Int):Bool :=
 bif (r.a.1==0) then (bif (decide (r.a.1<0)||(decide ((n.toNat:Int)<r.a.1)||(!(eY r.p (wl 140737488355327))))) then false else (bif (r.b.1==0) then (bif (decide (r.b.1<0)||(decide ((n.toNat:Int)<r.b.1)||(!(eY r.q (wl 140737488355327))))) then false else (r.a.1 != r.b.1)) else (bif (decide (r.b.1<0)||(decide ((n.toNat:Int)<r.b.1)||(!(eY r.q (wl 262144))))) then false else (r.a.1 != r.b.1)))) else (bif (decide (r.a.1<0)||(decide ((n.toNat:Int)<r.a.1)||(!(eY r.p (wl 262144))))) then false else (bif (r.b.1==0) then (bif (decide (r.b.1<0)||(decide ((n.toNat:Int)<r.b.1)||(!(eY r.q (wl 140737488355327))))) then false else (r.a.1 != r.b.1)) else (bif (decide (r.b.1<0)||(decide ((n.toNat:Int)<r.b.1)||(!(eY r.q (wl 262144))))) then false else (r.a.1 != r.b.1))))
def gW (a:Rt):I :=
 bif (aS a) then (E (Z.quo a.n.dec a.d.dec)) else (E Z.bad)
def oL (l:(List Pose)):Nat→(List Path)→Nat→(List Path×Nat) ⊕ ((List Path)×W)
 | 0,out,i=>.inl (out,i)
 | k0+1,out,i=>bif decide ((i:Int)<(l.length:Int)) then (bif ((jF (l.getD i fE)).1 != 0) then (.inr (([]:List Path),(wl 1))) else (bif decide (0<(i:Int)) then (oL l k0 (out++[(⟨(l.getD (i - 1) fE),(l.getD i fE)⟩:Path)]) (i+1)) else (oL l k0 out (i+1)))) else (.inl (out,i))
def i7 (l:(List Pose)):(List Path)×W :=
 bif ((l.length:Int)==0) then (([]:List Path),(wl 1)) else (sm (fun (s:List Path×Nat)=>let out:List Path:=s.1
 let i:Nat:=s.2
 (out,(wl 0))) (fun r=>r) (oL l (l.length+1) ([]:List Path) 0))
def oM (m:W) (y:W) (l:(List Pose)):List Path→I→I
 | [],mb12=>mb12
 | x0::l0,mb12=>bif decide (0<(W.sub x0.to_.x.z x0.from_.x.z).1) then (let r27:I:=(gN [(E (Z.of m.1)),(E (Z.of y.1)),(E (Z.of (W.sub x0.to_.x.z x0.from_.x.z).1))])
 (oM m y l l0 (E (Z.add mb12.dec r27.dec)))) else (oM m y l l0 mb12)
def rD (m:W) (y:W) (l:(List Pose)):I×W :=
 bif ((((i7 l).2).1 != 0)||(decide (m.1<0)||decide (y.1<0))) then (I0,(wl 1)) else (ap (fun (s:I)=>let mb12:I:=s
 (mb12,(wl 0))) (oM m y l (i7 l).1 I0))
def lT (l:(List I)):List I→(Unit) ⊕ (Bool)
 | []=>.inl ()
 | x0::l0=>bif (x0.1.bad||(!x0.1.valid)) then (.inr false) else (lT l l0)
def mX (l:(List I)):Bool :=
 sm (fun (s:Unit)=>true) (fun r=>r) (lT l l)
def rH (a:I):Nat→I→(I) ⊕ (I)
 | 0,mb11=>.inl mb11
 | k0+1,mb11=>bif decide (0≤(Z.cmpW (Z.half (Z.add mb11.dec (Z.quo a.dec mb11.dec))) mb11.dec).1) then (.inr mb11) else (rH a k0 (E (Z.half (Z.add mb11.dec (Z.quo a.dec mb11.dec)))))
def i4 (a:I):I :=
 bif (!(mX [a])||a.1.neg) then (E Z.bad) else (bif ((Z.signW a.dec).1==0) then a else (sm (fun (s:I)=>let mb11:I:=s
 I0) (fun r=>r) (rH a (Z.nat (E (Z.shl (Z.of 1) (W.quo (W.add (Z.bitsW a.dec) (wl 1)) (wl 2)).1)).dec+1) (E (Z.shl (Z.of 1) (W.quo (W.add (Z.bitsW a.dec) (wl 1)) (wl 2)).1)))))
def iN (r:Rope) (l:(List Pose)):Pull×W :=
 bif (n6 r (l.length:Int)) then (bif (r.a.1==0) then (let r11:(A3 Rt):=(gB r.p)
 bif (r.b.1==0) then (let r14:(A3 Rt):=(gB r.q)
 ((⟨r.a,r.b,r11,r14⟩:Pull),(wl 0))) else (bif ((jF (l.getD ((r.b.1 - 1).toNat) fE)).1 != 0) then ((⟨(wl 0),(wl 0),(⟨(⟨I0,I0⟩:Rt),(⟨I0,I0⟩:Rt),(⟨I0,I0⟩:Rt)⟩:(A3 Rt)),(⟨(⟨I0,I0⟩:Rt),(⟨I0,I0⟩:Rt),(⟨I0,I0⟩:Rt)⟩:(A3 Rt))⟩:Pull),(wl 1)) else (let r17:(A3 Rt):=(nZ (l.getD ((r.b.1 - 1).toNat) fE) r.q)
 ((⟨r.a,r.b,r11,r17⟩:Pull),(wl 0))))) else (bif ((jF (l.getD ((r.a.1 - 1).toNat) fE)).1 != 0) then ((⟨(wl 0),(wl 0),(⟨(⟨I0,I0⟩:Rt),(⟨I0,I0⟩:Rt),(⟨I0,I0⟩:Rt)⟩:(A3 Rt)),(⟨(⟨I0,I0⟩:Rt),(⟨I0,I0⟩:Rt),(⟨I0,I0⟩:Rt)⟩:(A3 Rt))⟩:Pull),(wl 1)) else (let r20:(A3 Rt):=(nZ (l.getD ((r.a.1 - 1).toNat) fE) r.p)
 bif (r.b.1==0) then (let r23:(A3 Rt):=(gB r.q)
 ((⟨r.a,r.b,r20,r23⟩:Pull),(wl 0))) else (bif ((jF (l.getD ((r.b.1 - 1).toNat) fE)).1 != 0) then ((⟨(wl 0),(wl 0),(⟨(⟨I0,I0⟩:Rt),(⟨I0,I0⟩:Rt),(⟨I0,I0⟩:Rt)⟩:(A3 Rt)),(⟨(⟨I0,I0⟩:Rt),(⟨I0,I0⟩:Rt),(⟨I0,I0⟩:Rt)⟩:(A3 Rt))⟩:Pull),(wl 1)) else (let r26:(A3 Rt):=(nZ (l.getD ((r.b.1 - 1).toNat) fE) r.q)
 ((⟨r.a,r.b,r20,r26⟩:Pull),(wl 0))))))) else ((⟨(wl 0),(wl 0),(⟨(⟨I0,I0⟩:Rt),(⟨I0,I0⟩:Rt),(⟨I0,I0⟩:Rt)⟩:(A3 Rt)),(⟨(⟨I0,I0⟩:Rt),(⟨I0,I0⟩:Rt),(⟨I0,I0⟩:Rt)⟩:(A3 Rt))⟩:Pull),(wl 1))
def dQ (a:Pull):Rt :=
 let r3:(A3 Rt):=(mD a.q a.p)
 (xD r3 r3)
def l9 (a:Pull):I×I :=
 bif (aS (dQ a)) then (let r6:I:=(E (Z.mul (i4 (gW (dQ a))).dec (i4 (gW (dQ a))).dec))
 bif (decide (((n5 r6).n)=((dQ a).n))&&decide (((n5 r6).d)=((dQ a).d))) then ((i4 (gW (dQ a))),(i4 (gW (dQ a)))) else (let r8:I:=(E (Z.add (i4 (gW (dQ a))).dec (Z.of 1)))
 ((i4 (gW (dQ a))),r8))) else ((E Z.bad),(E Z.bad))
def dG (a:Pull):(A3 W)×W :=
 let q0:(A3 Rt):=(mD a.q a.p)
 let q1:I:=(gN [q0.x.n,q0.y.d,q0.z.d])
 let q2:I:=(gN [q0.x.d,q0.y.n,q0.z.d])
 let q3:I:=(gN [q0.x.d,q0.y.d,q0.z.n])
 let q4:(A3 W):=(gD (⟨q1,q2,q3⟩:(A3 I))).1
 let q5:W:=(gD (⟨q1,q2,q3⟩:(A3 I))).2
 (q4,q5)
def eB (a:(A3 Rt)) (b:(A3 Rt)):(A6 Rt) :=
 let r4:(A3 Rt):=(oF a b)
 (⟨b.x,b.y,b.z,r4.x,r4.y,r4.z⟩:(A6 Rt))
def cY (a:Pull):(A6 Rt)×(A6 Rt)×W :=
 let q0:(A3 W):=(dG a).1
 let q1:W:=(dG a).2
 bif (q1.1 != 0) then ((⟨(⟨I0,I0⟩:Rt),(⟨I0,I0⟩:Rt),(⟨I0,I0⟩:Rt),(⟨I0,I0⟩:Rt),(⟨I0,I0⟩:Rt),(⟨I0,I0⟩:Rt)⟩:(A6 Rt)),(⟨(⟨I0,I0⟩:Rt),(⟨I0,I0⟩:Rt),(⟨I0,I0⟩:Rt),(⟨I0,I0⟩:Rt),(⟨I0,I0⟩:Rt),(⟨I0,I0⟩:Rt)⟩:(A6 Rt)),q1) else (let q2:(A3 Rt):=(gB q0)
 let q3:(A6 Rt):=(eB a.p q2)
 let q4:Rt:=(bQ (wl (-1)))
 let q5:(A3 Rt):=(jS q4 q2)
 let q6:(A6 Rt):=(eB a.q q5)
 let q7:Bool:=(aS q3.x0)
 let q8:Bool:=(aS q6.x0)
 bif (!q7||(!q8)) then ((⟨(⟨I0,I0⟩:Rt),(⟨I0,I0⟩:Rt),(⟨I0,I0⟩:Rt),(⟨I0,I0⟩:Rt),(⟨I0,I0⟩:Rt),(⟨I0,I0⟩:Rt)⟩:(A6 Rt)),(⟨(⟨I0,I0⟩:Rt),(⟨I0,I0⟩:Rt),(⟨I0,I0⟩:Rt),(⟨I0,I0⟩:Rt),(⟨I0,I0⟩:Rt),(⟨I0,I0⟩:Rt)⟩:(A6 Rt)),(wl 30)) else (let q9:Bool:=(aS q3.x1)
 let q10:Bool:=(aS q6.x1)
 bif (!q9||(!q10)) then ((⟨(⟨I0,I0⟩:Rt),(⟨I0,I0⟩:Rt),(⟨I0,I0⟩:Rt),(⟨I0,I0⟩:Rt),(⟨I0,I0⟩:Rt),(⟨I0,I0⟩:Rt)⟩:(A6 Rt)),(⟨(⟨I0,I0⟩:Rt),(⟨I0,I0⟩:Rt),(⟨I0,I0⟩:Rt),(⟨I0,I0⟩:Rt),(⟨I0,I0⟩:Rt),(⟨I0,I0⟩:Rt)⟩:(A6 Rt)),(wl 30)) else (let q11:Bool:=(aS q3.x2)
 let q12:Bool:=(aS q6.x2)
 bif (!q11||(!q12)) then ((⟨(⟨I0,I0⟩:Rt),(⟨I0,I0⟩:Rt),(⟨I0,I0⟩:Rt),(⟨I0,I0⟩:Rt),(⟨I0,I0⟩:Rt),(⟨I0,I0⟩:Rt)⟩:(A6 Rt)),(⟨(⟨I0,I0⟩:Rt),(⟨I0,I0⟩:Rt),(⟨I0,I0⟩:Rt),(⟨I0,I0⟩:Rt),(⟨I0,I0⟩:Rt),(⟨I0,I0⟩:Rt)⟩:(A6 Rt)),(wl 30)) else (let q13:Bool:=(aS q3.x3)
 let q14:Bool:=(aS q6.x3)
 bif (!q13||(!q14)) then ((⟨(⟨I0,I0⟩:Rt),(⟨I0,I0⟩:Rt),(⟨I0,I0⟩:Rt),(⟨I0,I0⟩:Rt),(⟨I0,I0⟩:Rt),(⟨I0,I0⟩:Rt)⟩:(A6 Rt)),(⟨(⟨I0,I0⟩:Rt),(⟨I0,I0⟩:Rt),(⟨I0,I0⟩:Rt),(⟨I0,I0⟩:Rt),(⟨I0,I0⟩:Rt),(⟨I0,I0⟩:Rt)⟩:(A6 Rt)),(wl 30)) else (let q15:Bool:=(aS q3.x4)
 let q16:Bool:=(aS q6.x4)
 bif (!q15||(!q16)) then ((⟨(⟨I0,I0⟩:Rt),(⟨I0,I0⟩:Rt),(⟨I0,I0⟩:Rt),(⟨I0,I0⟩:Rt),(⟨I0,I0⟩:Rt),(⟨I0,I0⟩:Rt)⟩:(A6 Rt)),(⟨(⟨I0,I0⟩:Rt),(⟨I0,I0⟩:Rt),(⟨I0,I0⟩:Rt),(⟨I0,I0⟩:Rt),(⟨I0,I0⟩:Rt),(⟨I0,I0⟩:Rt)⟩:(A6 Rt)),(wl 30)) else (let q17:Bool:=(aS q3.x5)
 let q18:Bool:=(aS q6.x5)
 bif (!q17||(!q18)) then ((⟨(⟨I0,I0⟩:Rt),(⟨I0,I0⟩:Rt),(⟨I0,I0⟩:Rt),(⟨I0,I0⟩:Rt),(⟨I0,I0⟩:Rt),(⟨I0,I0⟩:Rt)⟩:(A6 Rt)),(⟨(⟨I0,I0⟩:Rt),(⟨I0,I0⟩:Rt),(⟨I0,I0⟩:Rt),(⟨I0,I0⟩:Rt),(⟨I0,I0⟩:Rt),(⟨I0,I0⟩:Rt)⟩:(A6 Rt)),(wl 30)) else (q3,q6,(wl 0))))))))
def fK (h:Path) (u:(A3 W)) (b:(A3 Rt)) (m:Rt) (k:Int):(List Rt)×W :=
 bif (((cZ h u b m).2).1 != 0) then (([]:List Rt),(cZ h u b m).2) else (bif (decide (k<0)||decide (12<k)) then (([]:List Rt),(wl 1)) else (bif (((bO ((cZ h u b m).1) (k.toNat+1) (bQ (wl 0)) (bQ (wl 1)) k.toNat []).1).1 != 0) then (([]:List Rt),(bO ((cZ h u b m).1) (k.toNat+1) (bQ (wl 0)) (bQ (wl 1)) k.toNat []).1) else ((bO ((cZ h u b m).1) (k.toNat+1) (bQ (wl 0)) (bQ (wl 1)) k.toNat []).2,(wl 0))))
def lV (h:Path) (u:(A3 W)) (b:(A3 Rt)) (m:Rt) (l:(List Rt)):List Rt→Rt→(Rt) ⊕ (Bool)
 | [],mb20=>.inl mb20
 | x0::l0,mb20=>bif (!(aS x0)||decide ((oA x0 mb20).1≤0)) then (.inr false) else (bif (!((iK ((cZ h u b m).1) mb20 x0).1)||(((iK ((cZ h u b m).1) mb20 x0).2).1 != 0)) then (.inr false) else (lV h u b m l l0 x0))
def oB (h:Path) (u:(A3 W)) (b:(A3 Rt)) (m:Rt) (l:(List Rt)):Bool :=
 bif ((((cZ h u b m).2).1 != 0)||(((l.length:Int)==0)||(decide (4096<(l.length:Int))||(!(decide (((l.getD (l.length - 1) Rt0).n)=((bQ (wl 1)).n))&&decide (((l.getD (l.length - 1) Rt0).d)=((bQ (wl 1)).d))))))) then false else (sm (fun (s:Rt)=>let mb20:Rt:=s
 true) (fun r=>r) (lV h u b m l l (bQ (wl 0))))
def gC (h:Path) (u:(A3 W)) (b:(A3 Rt)) (m:Rt) (l:(List Rt)):Nat→Nat→Rt→(Nat×Rt) ⊕ (Bool)
 | 0,i,mb21=>.inl (i,mb21)
 | k0+1,i,mb21=>bif decide ((i:Int)<(l.length:Int)) then (bif (!(aP (l.getD i Rt0))||decide ((j5 (l.getD i Rt0) mb21).1≤0)) then (.inr false) else (let r38:W:=(cR ((aW h u b m).p) mb21 (l.getD i Rt0)).2
 bif (!((cR ((aW h u b m).p) mb21 (l.getD i Rt0)).1)||(r38.1 != 0)) then (.inr false) else (gC h u b m l k0 (i+1) (l.getD i Rt0)))) else (.inl (i,mb21))
def iA (h:Path) (u:(A3 W)) (b:(A3 Rt)) (m:Rt) (l:(List Rt)):Bool :=
 bif ((((aW h u b m).e).1 != 0)||(((l.length:Int)==0)||(decide (4096<(l.length:Int))||(!(decide (((l.getD (l.length - 1) Rt0).n)=((aI (wl 1)).n))&&decide (((l.getD (l.length - 1) Rt0).d)=((aI (wl 1)).d))))))) then false else (sm (fun (s:Nat×Rt)=>let i:Nat:=s.1
 let mb21:Rt:=s.2
 true) (fun r=>r) (gC h u b m l (l.length+1) 0 (aI (wl 0))))
def jD (a:(List Rt)) (b:(List Rt)):Nat→Nat→(Nat) ⊕ (Bool)
 | 0,i=>.inl i
 | k0+1,i=>bif decide ((i:Int)<(a.length:Int)) then (bif (decide (((a.getD i Rt0).n)=((b.getD i Rt0).n))&&decide (((a.getD i Rt0).d)=((b.getD i Rt0).d))) then (jD a b k0 (i+1)) else (.inr false)) else (.inl i)
def iB (a:(List Rt)) (b:(List Rt)):Bool :=
 bif ((a.length:Int) != (b.length:Int)) then false else (sm (fun (s:Nat)=>let i:Nat:=s
 true) (fun r=>r) (jD a b (a.length+1) 0))
end Go.Num
