/- Lemmas: what they ask stands in their statements. -/
import Derived.Test.YtokjfhfiodopdaaGreatWGE
set_option linter.unusedSimpArgs false
set_option linter.unusedVariables false
namespace Go.Num
open Go Go.Kn
def gG (a:I):I :=
  a
def nV (a:I):Bool :=
  (!a.1.bad&&a.1.valid)
def F_poly_bad :(List I) :=
  let q0:I:=(E Z.bad)
  [q0]
def j9 (n:Int) (f:Nat→I) (o:I→I):Nat→(List I)→Nat→(List I×Nat) ⊕ ((List I))
  | 0,out,i=>.inl (out,i)
  | k0+1,out,i=>bif decide (((i:Nat):Int)<(((n).toNat:Nat):Int)) then (bif (nV (o (f i))) then ((j9 n f o k0 (out ++ [(o (f i))]) (i+1))) else (.inr (F_poly_bad))) else (.inl (out,i))
def kA (n:Int) (f:Nat→I) (o:I→I) (out:List I) (i:Nat):Nat→(List I)→List I
  | 0,cut=>cut
  | k1+1,cut=>bif (decide (0<(((cut).length:Nat):Int))&&((Z.signW (cut.getD ((cut).length - 1) I0).dec).1==0)) then ((kA n f o out i k1 (cut.take ((cut).length - 1)))) else (cut)
def gA (n:Int) (f:Nat→I) (o:I→I):(List I) :=
  sm (fun (s_:List I×Nat)=>let out:List I:=s_.1
  let i:Nat:=s_.2
  ap (fun (s:List I)=>let cut:List I:=s
  bif decide (25<(((cut).length:Nat):Int)) then (F_poly_bad) else (cut)) (kA n f o out i ((out.length+1)) out)) (fun r=>r) (j9 n f o ((n.toNat+1)) ([]:List I) 0)
def jU (l:(List I)) (f:I→Bool):Nat→Nat→(Nat) ⊕ (W)
  | 0,i=>.inl i
  | k0+1,i=>bif decide (((i:Nat):Int)<(((l).length:Nat):Int)) then (bif (f (l.getD i I0)) then (.inr ((W.cv ((i:Nat):Int)))) else ((jU l f k0 (i+1)))) else (.inl i)
def qS (l:(List I)) (f:I→Bool):W :=
  sm (fun (s:Nat)=>let i:Nat:=s
  (wl (-1))) (fun r=>r) (jU l f ((l.length+1)) 0)
def o4 (l:(List I)) (f:I→Bool):Bool :=
  (decide (0≤(qS l f).1))
def rE (a:I):Bool :=
  (!(nV a))
def aT (p:(List I)):Bool :=
  (o4 p (fun (y:I)=>(rE y)))
def j8 (l:(List Rt)) (f:Rt→Bool):Nat→Nat→(Nat) ⊕ (W)
  | 0,i=>.inl i
  | k0+1,i=>bif decide (((i:Nat):Int)<(((l).length:Nat):Int)) then (bif (f (l.getD i Rt0)) then (.inr ((W.cv ((i:Nat):Int)))) else ((j8 l f k0 (i+1)))) else (.inl i)
def n4 (l:(List Rt)) (f:Rt→Bool):W :=
  sm (fun (s:Nat)=>let i:Nat:=s
  (wl (-1))) (fun r=>r) (j8 l f ((l.length+1)) 0)
def oF (l:(List Rt)) (f:Rt→Bool):Bool :=
  (decide (0≤(n4 l f).1))
def jX (a:Rt):Bool :=
  (!(cG a))
def jF (l:(List Rt)):Bool :=
  (!(oF l (fun (y:Rt)=>(jX y))))
def oN (k:Nat) (l:(List I)):I :=
  (l.getD k I0)
def bH (l:(List I)):(List I) :=
  (gA (((l).length:Nat):Int) (fun (y:Nat)=>(oN y l)) (fun (y:I)=>(gG y)))
def eA (p:(List I)) (k:Int):I :=
  bif (decide (k<0)||decide ((((p).length:Nat):Int)≤k)) then (I0) else ((p.getD ((k).toNat) I0))
def oO (k:Nat) (f:I→I→I) (p:(List I)) (q:(List I)):I :=
  (f (eA p ((k:Nat):Int)) (eA q ((k:Nat):Int)))
def eJ (p:(List I)) (q:(List I)) (f:I→I→I):(List I) :=
  bif ((aT p)||(aT q)) then (F_poly_bad) else ((gA (((max ((p).length) ((q).length)):Nat):Int) (fun (y:Nat)=>(oO y f p q)) (fun (y:I)=>(gG y))))
def gK (p:(List I)) (q:(List I)):(List I) :=
  (eJ p q (fun (y:I) (z:I)=>(E (Z.add y.dec z.dec))))
def eR (k:Nat) (q:(List I)) (p:(List I)):Nat→Nat→I→Nat×I
  | 0,i,mb2=>(i,mb2)
  | k0+1,i,mb2=>bif decide (((i:Nat):Int)≤(min ((k:Nat):Int) ((((p).length:Nat):Int) - 1))) then ((eR k q p k0 (i+1) (E (Z.add mb2.dec (Z.mul (p.getD i I0).dec (q.getD (k - i) I0).dec))))) else ((i,mb2))
def jZ (k:Nat) (q:(List I)) (p:(List I)):I :=
  ap (fun (s:Nat×I)=>let i:Nat:=s.1
  let mb2:I:=s.2
  mb2) (eR k q p ((k+2)) ((((((k:Nat):Int) - (((q).length:Nat):Int))+1)).toNat) I0)
def dO (p:(List I)) (q:(List I)):(List I) :=
  bif ((aT p)||(aT q)) then (F_poly_bad) else (bif (((((p).length:Nat):Int)==0)||((((q).length:Nat):Int)==0)) then (([]:List I)) else ((gA (((((p).length+(q).length):Nat):Int) - 1) (fun (y:Nat)=>(jZ y q p)) (fun (y:I)=>(gG y)))))
def nQ (a:I) (b:I) (n:I):I :=
  (E (Z.mul a.dec n.dec))
def bV (p:(List I)) (n:I):(List I) :=
  bif (nV n) then ((eJ p ([]:List I) (fun (y:I) (z:I)=>(nQ y z n)))) else (F_poly_bad)
def kS (k:Nat) (p:(List I)):I :=
  (E (Z.mul (Z.of (((k+1):Nat):Int)) (p.getD (k+1) I0).dec))
def aF (p:(List I)):(List I) :=
  bif (aT p) then (F_poly_bad) else ((gA ((((p).length:Nat):Int) - 1) (fun (y:Nat)=>(kS y p)) (fun (y:I)=>(gG y))))
def jE (l:(List I)):List I→I→I
  | [],mb2=>mb2
  | x0 :: l0,mb2=>(jE l l0 (E (Z.gcd mb2.dec x0.dec)))
def dH (l:(List I)):I :=
  ap (fun (s:I)=>let mb2:I:=s
  mb2) (jE l l I0)
def kW (a:I) (b:I) (n:I):I :=
  (E (Z.quo a.dec n.dec))
def aC (p:(List I)):(List I) :=
  (eJ p ([]:List I) (fun (y:I) (z:I)=>(kW y z (dH p))))
def iI (d:I) (n:Int):Nat→(List I)→List I
  | 0,out=>out
  | k0+1,out=>bif decide ((((out).length:Nat):Int)<n) then ((iI d n k0 (out ++ [(E (Z.mul (out.getD ((out).length - 1) I0).dec d.dec))]))) else (out)
def dP (d:I) (n:Int):(List I) :=
  ap (fun (s:List I)=>let out:List I:=s
  out) (iI d n ((n.toNat+1)) [(E (Z.of 1))])
def fT (p:(List I)) (x:Rt):Nat→Int→I→Int×I
  | 0,i,mb3=>(i,mb3)
  | k0+1,i,mb3=>bif decide (0≤i) then (let r25:I:=(E (Z.mul (p.getD ((i).toNat) I0).dec ((dP x.d (((p).length:Nat):Int)).getD (((p).length - 1) - (i).toNat) I0).dec))
  (fT p x k0 (i - 1) (E (Z.add (Z.mul mb3.dec x.n.dec) r25.dec)))) else ((i,mb3))
def gN (p:(List I)) (x:Rt):I×I :=
  bif ((aT p)||(!(jF [x]))) then (((E Z.bad),(E (Z.of 1)))) else (ap (fun (s:Int×I)=>let i:Int:=s.1
  let mb3:I:=s.2
  (mb3,((dP x.d (((p).length:Nat):Int)).getD ((((((p).length:Nat):Int) - 1)).toNat) I0))) (fT p x ((p.length+1)) ((((p).length:Nat):Int) - 1) I0))
def aG (p:(List I)) (x:Rt):W×Bool :=
  ((Z.signW ((gN p x).1).dec),(!((gN p x).1).1.bad))
def fG (p:(List I)) (q:(List I)) (i:Int) (r:List I) (r62:I):Nat→Nat→(List I)→(Nat×List I) ⊕ ((List I))
  | 0,k,t=>.inl (k,t)
  | k1+1,k,t=>bif decide (((k:Nat):Int)<(((r).length:Nat):Int)) then (let r75:I:=(E (Z.sub (Z.mul (Z.abs (q.getD ((q).length - 1) I0).dec) (t.getD k I0).dec) (Z.mul r62.dec (eA q (((k:Nat):Int) - i)).dec)))
  bif ((t.set k r75).getD k I0).1.bad then (.inr (F_poly_bad)) else ((fG p q i r r62 k1 (k+1) (t.set k r75)))) else (.inl (k,t))
def dM (p:(List I)) (q:(List I)):Nat→Int→(List I)→(Int×List I) ⊕ ((List I))
  | 0,i,r=>.inl (i,r)
  | k0+1,i,r=>bif decide (0≤i) then (let r62:I:=(E (Z.mul (Z.of (Z.signW (q.getD ((q).length - 1) I0).dec).1) (r.getD ((i).toNat+((q).length - 1)) I0).dec))
  sm (fun (s:Nat×List I)=>let k:Nat:=s.1
  let t:List I:=s.2
  (dM p q k0 (i - 1) t)) (fun r=>.inr r) (fG p q i r r62 ((r.length+1)) 0 r)) else (.inl (i,r))
def bD (p:(List I)) (q:(List I)):(List I) :=
  bif ((aT p)||((aT q)||((((q).length:Nat):Int)==0))) then (F_poly_bad) else (sm (fun (s:Int×List I)=>let i:Int:=s.1
  let r:List I:=s.2
  (bH r)) (fun r=>r) (dM p q ((p.length+1)) (((((p).length:Nat):Int) - 1) - ((((q).length:Nat):Int) - 1)) ([] ++ p)))
def lF (n:Int) (i:Int):Nat→Int→I→Int×I
  | 0,j,mb1=>(j,mb1)
  | k0+1,j,mb1=>bif decide (j≤n) then ((lF n i k0 (j+1) (E (Z.mul mb1.dec (Z.of j))))) else ((j,mb1))
def iR (n:Int) (i:Int) (j:Int) (mb1:I):Nat→(List I)→Nat→I→List I×Nat×I
  | 0,out,k,mb1_1=>(out,k,mb1_1)
  | k1+1,out,k,mb1_1=>bif decide (((k:Nat):Int)<(i+1)) then (bif decide (((k:Nat):Int)<n) then (let r22:I:=(E (Z.quo (Z.mul mb1_1.dec (Z.of (i - ((k:Nat):Int)))) (Z.of (n - ((k:Nat):Int)))))
  (iR n i j mb1 k1 (out ++ [mb1_1]) (k+1) r22)) else ((iR n i j mb1 k1 (out ++ [mb1_1]) (k+1) mb1_1))) else ((out,k,mb1_1))
def eE (n:Int) (i:Int):(List I) :=
  ap (fun (s_:Int×I)=>let j:Int:=s_.1
  let mb1:I:=s_.2
  ap (fun (s:List I×Nat×I)=>let out:List I:=s.1
  let k:Nat:=s.2.1
  let mb1_1:I:=s.2.2
  out) (iR n i j mb1 (((i+1).toNat+1)) ([]:List I) 0 mb1)) (lF n i ((n.toNat+1)) 2 (E (Z.of 1)))
def fK (a:I):Bool :=
  (!a.1.bad&&a.1.valid)
def F_skewbackref08_bad :(List I) :=
  let q0:I:=(E Z.bad)
  [q0]
def fJ (l:(List I)):Nat→Int→Nat→(Int×Nat) ⊕ ((List I))
  | 0,last,i=>.inl (last,i)
  | k0+1,last,i=>bif decide (((i:Nat):Int)<(((l).length:Nat):Int)) then (bif (fK (l.getD i I0)) then (bif ((Z.signW (l.getD i I0).dec).1 != 0) then ((fJ l k0 ((i:Nat):Int) (i+1))) else ((fJ l k0 last (i+1)))) else (.inr (F_skewbackref08_bad))) else (.inl (last,i))
def gL (l:(List I)) (last:Int) (i:Nat):Nat→(List I)→Nat→List I×Nat
  | 0,out,j=>(out,j)
  | k1+1,out,j=>bif decide (((j:Nat):Int)≤last) then ((gL l last i k1 (out ++ [(l.getD j I0)]) (j+1))) else ((out,j))
def dC (l:(List I)):(List I) :=
  sm (fun (s_:Int×Nat)=>let last:Int:=s_.1
  let i:Nat:=s_.2
  bif decide (24<last) then (F_skewbackref08_bad) else (ap (fun (s:List I×Nat)=>let out:List I:=s.1
  let j:Nat:=s.2
  out) (gL l last i (((last+1).toNat+1)) ([]:List I) 0))) (fun r=>r) (fJ l ((l.length+1)) (-1) 0)
def jY (l:(List W)):Nat→(List I)→Nat→List I×Nat
  | 0,out,i=>(out,i)
  | k0+1,out,i=>bif decide (((i:Nat):Int)<(((l).length:Nat):Int)) then ((jY l k0 (out ++ [(E (Z.of (l.getD i W.z).1))]) (i+1))) else ((out,i))
def iT (l:(List W)):(List I) :=
  ap (fun (s:List I×Nat)=>let out:List I:=s.1
  let i:Nat:=s.2
  (dC out)) (jY l ((l.length+1)) ([]:List I) 0)
def fE (p:(List I)):Nat→Nat→(Nat) ⊕ (Bool)
  | 0,i=>.inl i
  | k0+1,i=>bif decide (((i:Nat):Int)<(((p).length:Nat):Int)) then (bif (fK (p.getD i I0)) then ((fE p k0 (i+1))) else (.inr (true))) else (.inl i)
def aX (p:(List I)):Bool :=
  sm (fun (s:Nat)=>let i:Nat:=s
  false) (fun r=>r) (fE p ((p.length+1)) 0)
def eX (p:(List I)):Bool :=
  bif (((((p).length:Nat):Int)==1)&&decide ((p.getD 0 I0)=(E Z.bad))) then (true) else (bif ((aX p)||decide (25<(((p).length:Nat):Int))) then (false) else ((((((p).length:Nat):Int)==0)||((Z.signW (p.getD ((p).length - 1) I0).dec).1 != 0))))
def gV (p:(List I)) (d:Int) (b:Int):Nat→Nat→(Nat) ⊕ (Bool)
  | 0,i=>.inl i
  | k0+1,i=>bif decide (((i:Nat):Int)<(((p).length:Nat):Int)) then (bif decide (b<(Z.bitsW (p.getD i I0).dec).1) then (.inr (false)) else ((gV p d b k0 (i+1)))) else (.inl i)
def bU (p:(List I)) (d:Int) (b:Int):Bool :=
  bif (!(eX p)||decide ((d+1)<(((p).length:Nat):Int))) then (false) else (sm (fun (s:Nat)=>let i:Nat:=s
  true) (fun r=>r) (gV p d b ((p.length+1)) 0))
def cS (p:(List I)) (q:(List I)):Nat→(List I)→(List I)→(List I×List I) ⊕ ((List I))
  | 0,a,b=>.inl (a,b)
  | k0+1,a,b=>bif decide (0<(((b).length:Nat):Int)) then (bif ((aT a)||(aT b)) then (.inr (F_poly_bad)) else ((cS p q k0 b (aC (bD a b))))) else (.inl (a,b))
def aN (p:(List I)) (q:(List I)):(List I) :=
  sm (fun (s:List I×List I)=>let a:List I:=s.1
  let b:List I:=s.2
  bif (((((a).length:Nat):Int)==0)||decide (0<(Z.signW (a.getD ((a).length - 1) I0).dec).1)) then (a) else ((eJ ([]:List I) a (fun (y:I) (z:I)=>(E (Z.sub y.dec z.dec)))))) (fun r=>r) (cS p q ((gmP (aC q)+1)) (aC p) (aC q))
def fO (p:(List I)) (a:Rt) (b:Rt):Nat→(List I)→Int→List I×Int
  | 0,r,i=>(r,i)
  | k0+1,r,i=>bif decide (0≤i) then (let r32:I:=(E (Z.mul (p.getD ((i).toNat) I0).dec ((dP (E (Z.mul a.d.dec b.d.dec)) (((p).length:Nat):Int)).getD (((p).length - 1) - (i).toNat) I0).dec))
  (fO p a b k0 (gK (dO r (bH [(E (Z.mul a.n.dec b.d.dec)),(E (Z.mul b.n.dec a.d.dec))])) (bH [r32])) (i - 1))) else ((r,i))
def fN (p:(List I)) (a:Rt) (b:Rt):(List I) :=
  bif ((aT p)||(!(jF [a,b]))) then (F_poly_bad) else (ap (fun (s:List I×Int)=>let r:List I:=s.1
  let i:Int:=s.2
  r) (fO p a b ((p.length+1)) ([]:List I) ((((p).length:Nat):Int) - 1)))
def eU (p:(List I)) (a:Rt) (b:Rt):(List I) :=
  (aC (fN p a b))
def iS (p:(List I)) (a:Rt) (b:Rt) (out:List I) (i:Nat):Nat→Nat→I→Nat×I
  | 0,j,mb40=>(j,mb40)
  | k1+1,j,mb40=>bif decide (((j:Nat):Int)<((((eE ((((p).length:Nat):Int) - 1) ((i:Nat):Int))).length:Nat):Int)) then (let r52:I:=(E (Z.mul ((eE ((((p).length:Nat):Int) - 1) ((i:Nat):Int)).getD j I0).dec (eA (eU p a (gS b a)) ((j:Nat):Int)).dec))
  (iS p a b out i k1 (j+1) (E (Z.add mb40.dec r52.dec)))) else ((j,mb40))
def gX (p:(List I)) (a:Rt) (b:Rt):Nat→(List I)→Nat→(List I×Nat) ⊕ ((List I)×Bool)
  | 0,out,i=>.inl (out,i)
  | k0+1,out,i=>bif decide (((i:Nat):Int)<(((p).length:Nat):Int)) then (ap (fun (s:Nat×I)=>let j:Nat:=s.1
  let mb40:I:=s.2
  bif mb40.1.bad then (.inr ((([]:List I),false))) else ((gX p a b k0 (out ++ [mb40]) (i+1)))) (iS p a b out i ((((eE ((((p).length:Nat):Int) - 1) ((i:Nat):Int))).length+1)) 0 I0)) else (.inl (out,i))
def gY (p:(List I)) (a:Rt) (b:Rt) (out:List I) (i:Nat):Nat→Nat→(List I)→Nat×List I
  | 0,k,t=>(k,t)
  | k2+1,k,t=>bif decide (((k:Nat):Int)<(((out).length:Nat):Int)) then ((gY p a b out i k2 (k+1) (t.set k (E (Z.quo (t.getD k I0).dec (dH out).dec))))) else ((k,t))
def bJ (p:(List I)) (a:Rt) (b:Rt):(List I)×Bool :=
  bif ((aT p)||(!(jF [a,b]))) then ((([]:List I),false)) else (bif (aT (eU p a (gS b a))) then ((([]:List I),false)) else (sm (fun (s_:List I×Nat)=>let out:List I:=s_.1
  let i:Nat:=s_.2
  bif ((Z.signW (dH out).dec).1 != 0) then (ap (fun (s:Nat×List I)=>let k:Nat:=s.1
  let t:List I:=s.2
  (t,true)) (gY p a b out i ((out.length+1)) 0 out)) else ((out,true))) (fun r=>r) (gX p a b ((p.length+1)) ([]:List I) 0)))
def gZ (p:(List I)) (i:Int) (r:List I) (f:List I) (r66:I):Nat→Nat→(List I)→(Nat×List I) ⊕ ((List I))
  | 0,k,t=>.inl (k,t)
  | k1+1,k,t=>bif decide (((k:Nat):Int)<((((aN p (aF p))).length:Nat):Int)) then (let r82:I:=(E (Z.mul ((f.set ((i).toNat) r66).getD ((i).toNat) I0).dec ((aN p (aF p)).getD k I0).dec))
  bif ((t.set ((i).toNat+k) (E (Z.sub (t.getD ((i).toNat+k) I0).dec r82.dec))).getD ((i).toNat+k) I0).1.bad then (.inr (F_poly_bad)) else ((gZ p i r f r66 k1 (k+1) (t.set ((i).toNat+k) (E (Z.sub (t.getD ((i).toNat+k) I0).dec r82.dec)))))) else (.inl (k,t))
def eY (p:(List I)):Nat→Int→(List I)→(List I)→(Int×List I×List I) ⊕ ((List I))
  | 0,i,r,f=>.inl (i,r,f)
  | k0+1,i,r,f=>bif decide (0≤i) then (let r66:I:=(E (Z.quo (r.getD ((i).toNat+(((aN p (aF p))).length - 1)) I0).dec ((aN p (aF p)).getD (((aN p (aF p))).length - 1) I0).dec))
  sm (fun (s:Nat×List I)=>let k:Nat:=s.1
  let t:List I:=s.2
  (eY p k0 (i - 1) t (f.set ((i).toNat) r66))) (fun r=>.inr r) (gZ p i r f r66 ((((aN p (aF p))).length+1)) 0 r)) else (.inl (i,r,f))
def aV (p:(List I)):(List I) :=
  bif ((aT (aN p (aF p)))||(aT (aC p))) then (F_poly_bad) else (bif (((((aC p)).length:Nat):Int)==0) then (([]:List I)) else (sm (fun (s:Int×List I×List I)=>let i:Int:=s.1
  let r:List I:=s.2.1
  let f:List I:=s.2.2
  bif ((((((bH f)).length:Nat):Int)==0)||decide (0<(Z.signW ((bH f).getD (((bH f)).length - 1) I0).dec).1)) then ((bH f)) else ((eJ ([]:List I) (bH f) (fun (y:I) (z:I)=>(E (Z.sub y.dec z.dec)))))) (fun r=>r) (eY p (((aC p).length+2)) (((((List.replicate (((aC p)).length - (((aN p (aF p))).length - 1)) I0)).length:Nat):Int) - 1) (aC p) (List.replicate (((aC p)).length - (((aN p (aF p))).length - 1)) I0))))
structure Num9 where
  n:W
  e:W
structure Lst9 where
  l:List Iv
  e:W
structure Fnd9 where
  x:Iv
  is:Bool
  e:W
structure Zero9 where
  n:Int
  times:Int
def kJ (a:Rt) (b:Rt):Bool :=
  (!a.n.1.bad&&(!b.n.1.bad&&decide ((i6 a b).1≤0)))
def aE (a:Rt) (b:Rt):Rt :=
  let r4:Rt:=(jG (lG a b) (pJ (wl 1) (wl 2)))
  r4
def kQ (a:Rt) (b:Rt):Rt :=
  let r4:Rt:=(d6 (wl 1) (wl 2))
  let r5:Rt:=(d5 (dZ a b) r4)
  r5
def cV (p:(List I)):Nat→(List (List I))→(List I)→(List (List I)×List I) ⊕ ((List (List I))×Bool)
  | 0,out,next=>.inl (out,next)
  | k0+1,out,next=>bif decide (0<(((next).length:Nat):Int)) then (bif (aT (aC (bV (bD ((out ++ [next]).getD (((out ++ [next])).length - 2) []) ((out ++ [next]).getD (((out ++ [next])).length - 1) [])) (E (Z.of (-1)))))) then (.inr ((([]:List (List I)),false))) else ((cV p k0 (out ++ [next]) (aC (bV (bD ((out ++ [next]).getD (((out ++ [next])).length - 2) []) ((out ++ [next]).getD (((out ++ [next])).length - 1) [])) (E (Z.of (-1)))))))) else (.inl (out,next))
def dE (p:(List I)) (out:List (List I)) (next:List I):List (List I)→(Unit) ⊕ ((List (List I))×Bool)
  | []=>.inl ()
  | x1 :: l1=>bif (aT x1) then (.inr ((([]:List (List I)),false))) else ((dE p out next l1))
def aI (p:(List I)):(List (List I))×Bool :=
  sm (fun (s_:List (List I)×List I)=>let out:List (List I):=s_.1
  let next:List I:=s_.2
  sm (fun (s:Unit)=>(out,true)) (fun r=>r) (dE p out next out)) (fun r=>r) (cV p ((gmP (aC (aF (aV p)))+1)) [(aV p)] (aC (aF (aV p))))
def zrI (x:I):Bool:=(Z.signW x.dec).1==0
def jW (l:List I):List I:=(l.reverse.dropWhile zrI).reverse
def badp:List I:=[E Z.bad]
def mkP (l:List I):List I:=bif l.all gdI then (if (jW l).length≤25 then jW l else badp) else badp
theorem pH (l:List I) (x:I):jW (l ++ [x])=bif zrI x then jW l else l ++ [x]:=by
  unfold jW;rw [List.reverse_append]
  show (List.dropWhile zrI (x :: l.reverse)).reverse=_
  rw [List.dropWhile_cons]
  cases zrI x
  · show (x :: l.reverse).reverse=_
    simp
  rfl
theorem t8 (l:List I):jW l=l.take (jW l).length:=by
  have h:jW l <+: l:=by
    unfold jW;have:=List.dropWhile_suffix zrI (l:=l.reverse);have h2:=List.reverse_prefix.2 this
    rwa [List.reverse_reverse] at h2
  obtain ⟨r,hr⟩:=h;have h3:(jW l ++ r).take (jW l).length=jW l:=List.take_left;rw [hr] at h3;exact h3.symm
theorem uY (l:List I):(jW l).length≤l.length:=by
  rw [t8,List.length_take];omega
theorem ST (l:List I):(mkP l).length≤25:=by
  unfold mkP
  cases l.all gdI
  · exact Nat.le_of_ble_eq_true rfl
  simp only [cond_true]
  split
  · assumption
  exact Nat.le_of_ble_eq_true rfl
theorem pG {α:Type} (l:List α):l=[] ∨ ∃ m x,l=m ++ [x]:=by
  rcases List.eq_nil_or_concat l with h | ⟨m,x,h⟩
  · exact .inl h
  exact .inr ⟨m,x,by rw [h];simp⟩
theorem DK:F_poly_bad=badp:=rfl
theorem NG (n:Int) (f:Nat→I) (o:I→I) (out:List I) (i:Nat):∀ (k:Nat) (cut:List I),cut.length<k→kA n f o out i k cut=jW cut
  | 0,cut,h=>absurd h (Nat.not_lt_zero _)
  | k+1,cut,h=>by
    unfold kA;rcases pG cut with rfl | ⟨m,x,rfl⟩
    · rfl
    rw [pH];have e1:decide (0<(((m ++ [x]).length:Nat):Int))=true:=decide_eq_true (by simp only [List.length_append,List.length_cons,List.length_nil];omega)
    have e2:(m ++ [x]).length - 1=m.length:=by simp
    rw [e1,e2]
    have e3:(m ++ [x]).getD m.length I0=x:=by simp
    have e4:(m ++ [x]).take m.length=m:=by simp
    rw [e3,e4,Bool.true_and]
    show (bif zrI x then _ else _)=_
    rw [NG n f o out i k m (by simp only [List.length_append,List.length_cons,List.length_nil] at h;omega)]
theorem DX (i m:Nat):List.range' i (m+1)=i :: List.range' (i+1) m:=rfl
theorem DN (n:Int) (f:Nat→I) (o:I→I):∀ (k:Nat) (out:List I) (i:Nat),n.toNat - i<k →
    j9 n f o k out i=bif ((List.range' i (n.toNat - i)).map fun j=>o (f j)).all gdI then .inl (out ++ (List.range' i (n.toNat - i)).map fun j=>o (f j),i+(n.toNat - i)) else .inr badp
  | 0,out,i,h=>absurd h (Nat.not_lt_zero _)
  | k+1,out,i,h=>by
    unfold j9
    by_cases hi:i<n.toNat
    · rw [decide_eq_true oo_,cond_true]
      obtain ⟨m,hm⟩:∃ m,n.toNat - i=m+1:=⟨n.toNat - i - 1,by omega⟩
      have hm':n.toNat - (i+1)=m:=by omega
      rw [hm,DX,List.map_cons,List.all_cons,DN n f o k _ _ oo_,hm']
      show (bif gdI (o (f i)) then _ else _)=_
      cases gdI (o (f i))
      · rfl
      simp only [cond_true,Bool.true_and,List.append_assoc,List.cons_append,List.nil_append];rw [show i+1+m=i+(m+1) by omega]
    rw [decide_eq_false oo_,cond_false,show n.toNat - i=0 by omega]
    simp
theorem oH (n:Int) (f:Nat→I) (o:I→I):gA n f o=mkP ((List.range n.toNat).map fun j=>o (f j)):=by
  unfold gA mkP;rw [DN n f o _ _ _ oo_,Nat.sub_zero,← List.range_eq_range']
  cases ((List.range n.toNat).map fun j=>o (f j)).all gdI
  · rfl
  simp only [cond_true,sm,ap,List.nil_append];rw [NG _ _ _ _ _ _ _ (Nat.lt_succ_self _)]
  by_cases h:(jW ((List.range n.toNat).map fun j=>o (f j))).length≤25
  · rw [if_pos h,decide_eq_false oo_,cond_false]
  rw [if_neg h,decide_eq_true oo_,cond_true];rfl
theorem ZR (x:I):((Z.signW x.dec).1 != 0) = !zrI x:=rfl
theorem HA (l:List I) {i:Nat} (h:i<l.length):l.take (i+1)=l.take i ++ [l.getD i I0]:=by
  rw [List.take_add_one,List.getElem?_eq_getElem h]
  simp [List.getD,List.getElem?_eq_getElem h]
theorem AN (l:List I) {i:Nat} (h:i<l.length):l.drop i=l.getD i I0 :: l.drop (i+1):=by
  rw [List.drop_eq_getElem_cons h]
  simp [List.getD,List.getElem?_eq_getElem h]
theorem yX (l:List I):∀ (k:Nat) (last:Int) (i:Nat),l.length - i<k→i≤l.length→last+1=((jW (l.take i)).length:Nat) →
    fJ l k last i=bif (l.drop i).all gdI then .inl (((jW l).length:Int) - 1,l.length) else .inr badp
  | 0,last,i,h,_,_=>absurd h (Nat.not_lt_zero _)
  | k+1,last,i,h,hi,hl=>by
    unfold fJ
    by_cases hlt:i<l.length
    · rw [decide_eq_true oo_,cond_true,AN l hlt,List.all_cons]
      show (bif gdI (l.getD i I0) then _ else _)=_
      cases gdI (l.getD i I0)
      · rfl
      simp only [cond_true,Bool.true_and,ZR];have hs:=pH (l.take i) (l.getD i I0);rw [← HA l hlt] at hs
      cases hz:zrI (l.getD i I0)
      · rw [hz] at hs
        simp only [Bool.not_false,cond_true];refine yX l k _ _ oo_ oo_ ?_;rw [hs,cond_false,List.length_take,Nat.min_eq_left oo_];omega
      rw [hz] at hs;simp only [Bool.not_true,cond_false];refine yX l k _ _ oo_ oo_ ?_;rw [hs];exact hl
    have e:i=l.length:=by omega
    subst e;rw [decide_eq_false oo_,cond_false,List.drop_length];rw [List.take_length] at hl
    show _=Sum.inl _
    rw [show last=((jW l).length:Int) - 1 by omega]
theorem DZ (l:List I) (last:Int) (i:Nat):∀ (k:Nat) (out:List I) (j:Nat),(last+1).toNat - j<k→out=l.take j→(last+1).toNat≤l.length→j≤(last+1).toNat →
    (gL l last i k out j).1=l.take (last+1).toNat
  | 0,out,j,h,_,_,_=>absurd h (Nat.not_lt_zero _)
  | k+1,out,j,h,ho,hl,hj=>by
    unfold gL
    by_cases hc:(j:Int)≤last
    · rw [decide_eq_true hc,cond_true]
      refine DZ l last i k _ _ oo_ ?_ hl oo_;rw [ho,HA l oo_]
    rw [decide_eq_false hc,cond_false]
    show out=_
    rw [ho];congr 1;omega
theorem B6 (l:List I):dC l=mkP l:=by
  unfold dC mkP;rw [yX l _ _ _ oo_ (Nat.zero_le _) (by rw [List.take_zero];rfl),List.drop_zero]
  cases l.all gdI
  · rfl
  simp only [cond_true,sm,ap];have hle:=uY l
  by_cases h:(jW l).length≤25
  · rw [if_pos h,decide_eq_false oo_,cond_false]
    rw [DZ l _ _ _ _ _ oo_ (by rw [List.take_zero]) oo_ oo_];rw [show (((jW l).length:Int) - 1+1).toNat=(jW l).length by omega];exact (t8 l).symm
  rw [if_neg h,decide_eq_true oo_,cond_true];rfl
theorem o0 {c:Bool} {x y:List I} (h:x.length≤25) (k:y.length≤25):(bif c then x else y).length≤25:=by cases c <;> assumption
theorem nB:badp.length≤25:=Nat.le_of_ble_eq_true rfl
theorem zG (n:Int) (f:Nat→I) (o:I→I):(gA n f o).length≤25:=by rw [oH];exact ST _
theorem mB (l:List I):(bH l).length≤25:=zG _ _ _
theorem qG (p q:List I) (f:I→I→I):(eJ p q f).length≤25:=o0 nB (zG _ _ _)
theorem w7 (p q:List I):(gK p q).length≤25:=qG _ _ _
theorem B3 (p q:List I):(dO p q).length≤25:=o0 nB (o0 (Nat.zero_le _) (zG _ _ _))
theorem uM (p:List I) (n:I):(bV p n).length≤25:=o0 (qG _ _ _) nB
theorem oJ (p:List I):(aF p).length≤25:=o0 nB (zG _ _ _)
theorem cL (p:List I):(aC p).length≤25:=qG _ _ _
theorem zU (l:List I):(dC l).length≤25:=by rw [B6];exact ST _
theorem oB (l:List I):(dC l).length≤25:=zU l
theorem tL (l:List W):(iT l).length≤25:=zU _
theorem d9_ {σ:Type} {f:σ→List I} {x:σ ⊕ List I} (h:∀ s,(f s).length≤25) (k:∀ r,x = .inr r→r=badp):(sm f (fun r=>r) x).length≤25:=by
  cases x with
  | inl s=>exact h s
  | inr r=>show r.length≤25;rw [k r rfl];exact nB
theorem DW (d:I) (n:Int):∀ (k:Nat) (out:List I),n.toNat - out.length<k→1≤out.length→(iI d n k out).length=max n.toNat out.length
  | 0,out,h,_=>absurd h (Nat.not_lt_zero _)
  | k+1,out,h,h1=>by
    unfold iI
    by_cases hc:(out.length:Int)<n
    · rw [decide_eq_true hc,cond_true,DW d n k _ (by simp only [List.length_append,List.length_cons,List.length_nil];omega) (by simp)]
      simp only [List.length_append,List.length_cons,List.length_nil];omega
    rw [decide_eq_false hc,cond_false];omega
theorem xP (d:I) (n:Int):(dP d n).length=max n.toNat 1:=DW d n _ _ (by simp only [List.length_cons,List.length_nil];omega) (by simp)
theorem xJ (n i j:Int) (m:I):∀ (t:Nat) (out:List I) (k:Nat) (w:I),(i+1).toNat - k<t→out.length=k→k≤(i+1).toNat→(iR n i j m t out k w).1.length=(i+1).toNat
  | 0,out,k,w,h,_,_=>absurd h (Nat.not_lt_zero _)
  | t+1,out,k,w,h,h1,h2=>by
    unfold iR
    by_cases hc:(k:Int)<i+1
    · rw [decide_eq_true hc,cond_true]
      have hl:(out ++ [w]).length=k+1:=by simp [h1]
      cases decide ((k:Int)<n)
      · exact xJ n i j m t _ _ _ oo_ hl oo_
      exact xJ n i j m t _ _ _ oo_ hl oo_
    rw [decide_eq_false hc,cond_false]
    show out.length=_
    omega
theorem C3 (n i:Int):(eE n i).length=(i+1).toNat:=xJ n i _ _ _ _ _ _ oo_ rfl (Nat.zero_le _)
theorem Z.cases (z:Z):z=Z.bad ∨ ∃ v:Int,v.natAbs<4294967296 ^ 16∧z=Z.of v∧z.o=some v:=by
  cases h:z.o with
  | none=>exact .inl (Z.eq_bad h)
  | some v=>exact .inr ⟨v,z.h v h,Z.eq_of h,rfl⟩
theorem Z.zero_add (z:Z):Z.add (Z.of 0) z=z:=by
  rcases Z.cases z with rfl | ⟨v,_,rfl,hv⟩
  · rfl
  rw [Z.add,cY (Z.of_some dd_) hv,Int.zero_add]
theorem W.ext {a b:W} (h:a.1=b.1):a=b:=Subtype.ext h
theorem sign0 (z:Z):((Z.signW z).1==0)=decide (z.sign=0):=by
  show (z.sign==0)=_
  rfl
structure PrimOk (a:A3 I) (p:A3 W) (x y z g:Int):Prop where
  ax:a.x.dec.o=some x
  ay:a.y.dec.o=some y
  az:a.z.dec.o=some z
  gd:g=((Int.gcd (Int.gcd (Int.gcd 0 x:Nat) y:Nat) z:Nat):Int)
  g0:0<g
  px:g * p.x.1=x
  py:g * p.y.1=y
  pz:g * p.z.1=z
  bx:-2305843009213693952<p.x.1∧p.x.1<2305843009213693952
  bY:-2305843009213693952<p.y.1∧p.y.1<2305843009213693952
  bz:-2305843009213693952<p.z.1∧p.z.1<2305843009213693952
theorem FN {x g:Int} (h:g ∣ x):g * x.fdiv g=x:=Int.mul_fdiv_cancel' h
def Z.Is (z:Z) (v:Int):Prop:=z.o=none∨z.o=some v
theorem SH (v:Int):(Z.of v).Is v:=by unfold Z.Is;rw [Z.of_o];split <;> simp
theorem N3 {f:Int→Int→Int} {a b:Z} {x y:Int} (ha:a.Is x) (hb:b.Is y):(yO (fun x y=>Z.of (f x y)) a b).Is (f x y):=by
  rcases ha with ha | ha
  · left;rw [jB (.inl ha)];rfl
  rcases hb with hb | hb
  · left;rw [jB (.inr hb)];rfl
  rw [cY ha hb];exact SH _
theorem dn_ {a b:Z} {x y:Int} (ha:a.Is x) (hb:b.Is y):(Z.add a b).Is (x+y):=N3 ha hb
theorem FZ {a b:Z} {x y:Int} (ha:a.Is x) (hb:b.Is y):(Z.mul a b).Is (x * y):=N3 ha hb
theorem do_ {a:Z} {x:Int} (ha:a.Is x):(Z.neg a).Is (-x):=by
  rcases ha with ha | ha
  · left;rw [Z.neg,qV ha];rfl
  rw [Z.neg,kY ha];exact SH _
theorem X3 {a b:Z} {x y:Int} (ha:a.Is x) (hb:b.Is y):(Z.sub a b).Is (x - y):=by
  rw [Int.sub_eq_add_neg];exact dn_ ha (do_ hb)
theorem Z.Is.sign {z:Z} {v:Int} (h:z.Is v):z.o=none∨z.sign=v.sign:=by
  rcases h with h | h
  · exact .inl h
  right;unfold Z.sign;rw [h]
theorem Z.Is.sign0 {z:Z} (h:z.Is 0):z.sign=0:=by
  unfold Z.sign;rcases h with h | h <;> rw [h] <;> rfl
structure Fit (z:Z) (v:Int) (k:Nat):Prop where
  eq:z=Z.of v
  lt:v.natAbs<2 ^ k
theorem gg_ {k:Nat} (hk:k≤511) {n:Nat} (h:n<2 ^ k):n<4294967296 ^ 16:=by
  have e:(2:Nat) ^ (32 * 16)=(2 ^ 32) ^ 16:=Nat.pow_mul 2 32 16;exact Nat.lt_of_lt_of_le h (Nat.le_trans (Nat.pow_le_pow_right dd_ (show k≤32 * 16 by omega)) (Nat.le_of_eq e))
theorem Fit.o {z:Z} {v:Int} {k:Nat} (h:Fit z v k) (hk:k≤511):z.o=some v:=by rw [h.eq];exact Z.of_some (gg_ hk h.lt)
theorem Fit.mono {z:Z} {v:Int} {k k':Nat} (h:Fit z v k) (hk:k≤k'):Fit z v k':=⟨h.eq,Nat.lt_of_lt_of_le h.lt (Nat.pow_le_pow_right dd_ hk)⟩
theorem Fit.mul {a b:Z} {x y:Int} {k l:Nat} (ha:Fit a x k) (hb:Fit b y l) (hk:k≤511∧l≤511):Fit (Z.mul a b) (x * y) (k+l) :=
  ⟨by rw [Z.mul,cY (ha.o hk.1) (hb.o hk.2)],by rw [Int.natAbs_mul,Nat.pow_add];exact Nat.mul_lt_mul_of_lt_of_lt ha.lt hb.lt⟩
theorem Fit.add {a b:Z} {x y:Int} {k l:Nat} (ha:Fit a x k) (hb:Fit b y l) (hk:k≤511∧l≤511):Fit (Z.add a b) (x+y) (max k l+1):=by
  refine ⟨by rw [Z.add,cY (ha.o hk.1) (hb.o hk.2)],?_⟩;have h1:=(ha.mono (Nat.le_max_left k l)).lt;have h2:=(hb.mono (Nat.le_max_right k l)).lt;rw [Nat.pow_succ];omega
theorem Fit.neg {a:Z} {x:Int} {k:Nat} (ha:Fit a x k) (hk:k≤511):Fit (Z.neg a) (-x) k:=⟨by rw [Z.neg,kY (ha.o hk)],by rw [Int.natAbs_neg];exact ha.lt⟩
theorem Fit.sub {a b:Z} {x y:Int} {k l:Nat} (ha:Fit a x k) (hb:Fit b y l) (hk:k≤511∧l≤511):Fit (Z.sub a b) (x - y) (max k l+1):=by
  rw [Int.sub_eq_add_neg];exact ha.add (hb.neg hk.2) hk
theorem Fit.sign {z:Z} {v:Int} {k:Nat} (h:Fit z v k) (hk:k≤511):z.sign=v.sign:=by unfold Z.sign;rw [h.o hk]
end Go.Num
