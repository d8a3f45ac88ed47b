/- Lemmas: what they ask stands in their statements. -/
import Derived.Test.YtbjlhfochebmiaaGreatDoorXGE
set_option linter.unusedSimpArgs false
set_option linter.unusedVariables false
namespace Go.Num
open Go Go.Kn
def F_ratio_one :I :=
  let q0:I:=(E (Z.of 1))
  q0
def mR :Rt :=
  let q0:I:=(E Z.bad)
  let q1:I:=F_ratio_one
  (⟨q0,q1⟩:Rt)
def gW (a:I):Bool :=
  (!a.1.bad&&a.1.valid)
def cV (a:Rt):Bool :=
  ((gW a.n)&&((gW a.d)&&(decide (0<(Z.signW a.d.dec).1)&&decide ((E (Z.gcd a.n.dec a.d.dec))=F_ratio_one))))
def bH (a:I) (b:I):Rt :=
  bif (!(gW a)||(!(gW b)||((Z.signW b.dec).1==0))) then (mR) else (bif decide ((Z.signW b.dec).1<0) then ((⟨(E (Z.quo a.dec (Z.neg (Z.gcd a.dec b.dec)))),(E (Z.quo b.dec (Z.neg (Z.gcd a.dec b.dec))))⟩:Rt)) else ((⟨(E (Z.quo a.dec (Z.gcd a.dec b.dec))),(E (Z.quo b.dec (Z.gcd a.dec b.dec)))⟩:Rt)))
def tB (a:I):Rt :=
  (bH a F_ratio_one)
def cG (a:W):Rt :=
  (tB (E (Z.of a.1)))
def lI (a:Rt):Rt :=
  bif (cV a) then ((⟨(E (Z.neg a.n.dec)),a.d⟩:Rt)) else (mR)
def i9 (a:Rt) (b:Rt):Rt :=
  bif (!(cV a)||(!(cV b))) then (mR) else (let r15:I:=(E (Z.add (Z.mul a.n.dec (Z.quo b.d.dec (Z.gcd a.d.dec b.d.dec))) (Z.mul b.n.dec (Z.quo a.d.dec (Z.gcd a.d.dec b.d.dec)))))
  let r16:Rt:=(bH r15 (E (Z.mul (Z.quo a.d.dec (Z.gcd a.d.dec b.d.dec)) b.d.dec)))
  r16)
def mS (a:Rt) (b:Rt):Rt :=
  (i9 a (lI b))
def fZ (a:Rt) (b:Rt):Rt :=
  bif (!(cV a)||(!(cV b))) then (mR) else (let r26:I:=(E (Z.mul ((bH a.n b.d).n).dec ((bH b.n a.d).n).dec))
  let r27:I:=(E (Z.mul ((bH a.n b.d).d).dec ((bH b.n a.d).d).dec))
  bif (r26.1.bad||r27.1.bad) then (mR) else ((⟨r26,r27⟩:Rt)))
def F_skewbackref04_one :I :=
  let q0:I:=(E (Z.of 1))
  q0
def gM :Rt :=
  let q0:I:=(E Z.bad)
  let q1:I:=F_skewbackref04_one
  (⟨q0,q1⟩:Rt)
def aY (a:I) (b:I):Rt :=
  bif (!a.1.good||(!b.1.good||((Z.signW b.dec).1==0))) then (gM) else (bif decide ((Z.signW b.dec).1<0) then ((⟨(E (Z.quo a.dec (Z.neg (Z.gcd a.dec b.dec)))),(E (Z.quo b.dec (Z.neg (Z.gcd a.dec b.dec))))⟩:Rt)) else ((⟨(E (Z.quo a.dec (Z.gcd a.dec b.dec))),(E (Z.quo b.dec (Z.gcd a.dec b.dec)))⟩:Rt)))
def dZ (a:W):Rt :=
  let r2:Rt:=(aY (E (Z.of a.1)) F_skewbackref04_one)
  r2
def aP (a:Rt):Bool :=
  bif (!a.n.1.good||(!a.d.1.good)) then (false) else ((decide (0<(Z.signW a.d.dec).1)&&decide ((E (Z.gcd a.n.dec a.d.dec))=F_skewbackref04_one)))
def gN (a:Rt):Rt :=
  bif (aP a) then ((⟨(E (Z.neg a.n.dec)),a.d⟩:Rt)) else (gM)
def eH (a:Rt) (b:Rt):Rt :=
  bif (!(aP a)||(!(aP b))) then (gM) else (let r11:I:=(E (Z.add (Z.mul a.n.dec (Z.quo b.d.dec (Z.gcd a.d.dec b.d.dec))) (Z.mul b.n.dec (Z.quo a.d.dec (Z.gcd a.d.dec b.d.dec)))))
  let r12:Rt:=(aY r11 (E (Z.mul (Z.quo a.d.dec (Z.gcd a.d.dec b.d.dec)) b.d.dec)))
  r12)
def jL (a:Rt) (b:Rt):Rt :=
  bif (!(aP a)||(!(aP b))) then (gM) else (let r10:I:=(E (Z.mul ((aY a.n b.d).n).dec ((aY b.n a.d).n).dec))
  let r12:I:=(E (Z.mul ((aY a.n b.d).d).dec ((aY b.n a.d).d).dec))
  (aY r10 r12))
def dI (a:Rt) (b:Bool):I :=
  bif b then ((E (Z.of 0))) else ((E Z.bad))
def kK (a:(A3 W)):(A3 Rt) :=
  (⟨(cG a.x),(cG a.y),(cG a.z)⟩:(A3 Rt))
def iF (a:(A3 Rt)) (b:(A3 Rt)):(A3 Rt) :=
  (⟨(i9 a.x b.x),(i9 a.y b.y),(i9 a.z b.z)⟩:(A3 Rt))
def kJ (a:(A3 Rt)) (b:(A3 Rt)):(A3 Rt) :=
  (⟨(eH a.x b.x),(eH a.y b.y),(eH a.z b.z)⟩:(A3 Rt))
def n5 (a:(A3 W)):(A3 Rt) :=
  (⟨(dZ a.x),(dZ a.y),(dZ a.z)⟩:(A3 Rt))
def gH (a:W) (b:W):Nat→W→W→W×W
  | 0,p,q=>(p,q)
  | k0+1,p,q=>bif (q.1 != 0) then ((gH a b k0 q (W.rem p q))) else ((p,q))
def aA (a:W) (b:W):W :=
  ap (fun (s:W×W)=>let p:W:=s.1
  let q:W:=s.2
  (W.max p (W.neg p))) (gH a b (b.1.natAbs+1) a b)
def d6 (a:(A4 W)):Bool :=
  bif (decide (64<a.x.1)||decide (a.x.1<(-64))) then (false) else (bif (decide (64<a.y.1)||decide (a.y.1<(-64))) then (false) else (bif (decide (64<a.z.1)||decide (a.z.1<(-64))) then (false) else (bif (decide (64<a.t.1)||decide (a.t.1<(-64))) then (false) else (true))))
def aL (a:W):W :=
  bif decide (a.1<0) then ((wl (-1))) else ((W.min a (wl 1)))
def cK (a:(A4 W)):(A4 W)×Bool :=
  let r4:W:=(bif (a.t.1 != 0) then (aL a.t) else (wl 0))
  let r11:W:=(bif (a.y.1 != 0) then (aL a.y) else (bif (a.z.1 != 0) then (aL a.z) else r4))
  bif ((W.mul (bif (a.x.1 != 0) then (aL a.x) else r11) (W.max (aA (aA (aA (aA (wl 0) a.t) a.z) a.y) a.x) (W.neg (aA (aA (aA (aA (wl 0) a.t) a.z) a.y) a.x)))).1==0) then (((⟨(wl 0),(wl 0),(wl 0),(wl 0)⟩:(A4 W)),false)) else (((⟨(W.quo a.x (W.mul (bif (a.x.1 != 0) then (aL a.x) else r11) (W.max (aA (aA (aA (aA (wl 0) a.t) a.z) a.y) a.x) (W.neg (aA (aA (aA (aA (wl 0) a.t) a.z) a.y) a.x))))),(W.quo a.y (W.mul (bif (a.x.1 != 0) then (aL a.x) else r11) (W.max (aA (aA (aA (aA (wl 0) a.t) a.z) a.y) a.x) (W.neg (aA (aA (aA (aA (wl 0) a.t) a.z) a.y) a.x))))),(W.quo a.z (W.mul (bif (a.x.1 != 0) then (aL a.x) else r11) (W.max (aA (aA (aA (aA (wl 0) a.t) a.z) a.y) a.x) (W.neg (aA (aA (aA (aA (wl 0) a.t) a.z) a.y) a.x))))),(W.quo a.t (W.mul (bif (a.x.1 != 0) then (aL a.x) else r11) (W.max (aA (aA (aA (aA (wl 0) a.t) a.z) a.y) a.x) (W.neg (aA (aA (aA (aA (wl 0) a.t) a.z) a.y) a.x)))))⟩:(A4 W)),true))
def dD (a:(A4 W)):Bool :=
  bif (d6 a) then (let r3:(A4 W):=(cK a).1
  ((cK a).2&&(decide (r3.x.1=a.x.1)&&(decide (r3.y.1=a.y.1)&&(decide (r3.z.1=a.z.1)&&decide (r3.t.1=a.t.1)))))) else (false)
def vZ (a:(A4 W)) (b:(A4 W)):W :=
  (W.add (W.add (W.add (W.mul a.x b.x) (W.mul a.y b.y)) (W.mul a.z b.z)) (W.mul a.t b.t))
def iS (a:I):I :=
  a
def kI (a:I):Bool :=
  (!a.1.bad&&a.1.valid)
def F_poly_bad :(List I) :=
  let q0:I:=(E Z.bad)
  [q0]
def fF (n:Int) (f:Nat→I) (o:I→I):Nat→(List I)→Nat→(List I×Nat) ⊕ ((List I))
  | 0,out,i=>.inl (out,i)
  | k0+1,out,i=>bif decide (((i:Nat):Int)<(((n).toNat:Nat):Int)) then (bif (kI (o (f i))) then ((fF n f o k0 (out ++ [(o (f i))]) (i+1))) else (.inr (F_poly_bad))) else (.inl (out,i))
def fG (n:Int) (f:Nat→I) (o:I→I) (out:List I) (i:Nat):Nat→(List I)→List I
  | 0,cut=>cut
  | k1+1,cut=>bif (decide (0<(((cut).length:Nat):Int))&&((Z.signW (cut.getD ((cut).length - 1) I0).dec).1==0)) then ((fG n f o out i k1 (cut.take ((cut).length - 1)))) else (cut)
def fE (n:Int) (f:Nat→I) (o:I→I):(List I) :=
  sm (fun (s_:List I×Nat)=>let out:List I:=s_.1
  let i:Nat:=s_.2
  ap (fun (s:List I)=>let cut:List I:=s
  bif decide (25<(((cut).length:Nat):Int)) then (F_poly_bad) else (cut)) (fG n f o out i ((out.length+1)) out)) (fun r=>r) (fF n f o ((n.toNat+1)) ([]:List I) 0)
def gI (n:Int) (f:Nat→Go.Num.W) (o:Go.Num.W→I):Nat→(List I)→Nat→(List I×Nat) ⊕ ((List I))
  | 0,out,i=>.inl (out,i)
  | k0+1,out,i=>bif decide (((i:Nat):Int)<(((n).toNat:Nat):Int)) then (bif (kI (o (f i))) then ((gI n f o k0 (out ++ [(o (f i))]) (i+1))) else (.inr (F_poly_bad))) else (.inl (out,i))
def gJ (n:Int) (f:Nat→Go.Num.W) (o:Go.Num.W→I) (out:List I) (i:Nat):Nat→(List I)→List I
  | 0,cut=>cut
  | k1+1,cut=>bif (decide (0<(((cut).length:Nat):Int))&&((Z.signW (cut.getD ((cut).length - 1) I0).dec).1==0)) then ((gJ n f o out i k1 (cut.take ((cut).length - 1)))) else (cut)
def i5 (n:Int) (f:Nat→Go.Num.W) (o:Go.Num.W→I):(List I) :=
  sm (fun (s_:List I×Nat)=>let out:List I:=s_.1
  let i:Nat:=s_.2
  ap (fun (s:List I)=>let cut:List I:=s
  bif decide (25<(((cut).length:Nat):Int)) then (F_poly_bad) else (cut)) (gJ n f o out i ((out.length+1)) out)) (fun r=>r) (gI n f o ((n.toNat+1)) ([]:List I) 0)
def gP (l:(List I)) (f:I→Bool):Nat→Nat→(Nat) ⊕ (W)
  | 0,i=>.inl i
  | k0+1,i=>bif decide (((i:Nat):Int)<(((l).length:Nat):Int)) then (bif (f (l.getD i I0)) then (.inr ((W.cv ((i:Nat):Int)))) else ((gP l f k0 (i+1)))) else (.inl i)
def oA (l:(List I)) (f:I→Bool):W :=
  sm (fun (s:Nat)=>let i:Nat:=s
  (wl (-1))) (fun r=>r) (gP l f ((l.length+1)) 0)
def mN (l:(List I)) (f:I→Bool):Bool :=
  (decide (0≤(oA l f).1))
def oO (a:I):Bool :=
  (!(kI a))
def dQ (p:(List I)):Bool :=
  (mN p (fun (y:I)=>(oO y)))
def i3 (l:(List Rt)) (f:Rt→Bool):Nat→Nat→(Nat) ⊕ (W)
  | 0,i=>.inl i
  | k0+1,i=>bif decide (((i:Nat):Int)<(((l).length:Nat):Int)) then (bif (f (l.getD i Rt0)) then (.inr ((W.cv ((i:Nat):Int)))) else ((i3 l f k0 (i+1)))) else (.inl i)
def nE (l:(List Rt)) (f:Rt→Bool):W :=
  sm (fun (s:Nat)=>let i:Nat:=s
  (wl (-1))) (fun r=>r) (i3 l f ((l.length+1)) 0)
def nY (l:(List Rt)) (f:Rt→Bool):Bool :=
  (decide (0≤(nE l f).1))
def kP (a:Rt):Bool :=
  (!(cV a))
def oB (l:(List Rt)):Bool :=
  (!(nY l (fun (y:Rt)=>(kP y))))
def qM (k:Nat) (l:(List W)):W :=
  (l.getD k W.z)
def bU (l:(List W)):(List I) :=
  (i5 (((l).length:Nat):Int) (fun (y:Nat)=>(qM y l)) (fun (y:Go.Num.W)=>(E (Z.of y.1))))
def i4 (p:(List I)) (k:Int):I :=
  bif (decide (k<0)||decide ((((p).length:Nat):Int)≤k)) then (I0) else ((p.getD ((k).toNat) I0))
def lY (k:Nat) (f:I→I→I) (p:(List I)) (q:(List I)):I :=
  (f (i4 p ((k:Nat):Int)) (i4 q ((k:Nat):Int)))
def fN (p:(List I)) (q:(List I)) (f:I→I→I):(List I) :=
  bif ((dQ p)||(dQ q)) then (F_poly_bad) else ((fE (((max ((p).length) ((q).length)):Nat):Int) (fun (y:Nat)=>(lY y f p q)) (fun (y:I)=>(iS y))))
def aT (p:(List I)) (q:(List I)):(List I) :=
  (fN p q (fun (y:I) (z:I)=>(E (Z.add y.dec z.dec))))
def mO (p:(List I)) (q:(List I)):(List I) :=
  (fN p q (fun (y:I) (z:I)=>(E (Z.sub y.dec z.dec))))
def fX (k:Nat) (q:(List I)) (p:(List I)):Nat→Nat→I→Nat×I
  | 0,i,mb2=>(i,mb2)
  | k0+1,i,mb2=>bif decide (((i:Nat):Int)≤(min ((k:Nat):Int) ((((p).length:Nat):Int) - 1))) then ((fX k q p k0 (i+1) (E (Z.add mb2.dec (Z.mul (p.getD i I0).dec (q.getD (k - i) I0).dec))))) else ((i,mb2))
def kH (k:Nat) (q:(List I)) (p:(List I)):I :=
  ap (fun (s:Nat×I)=>let i:Nat:=s.1
  let mb2:I:=s.2
  mb2) (fX k q p ((k+2)) ((((((k:Nat):Int) - (((q).length:Nat):Int))+1)).toNat) I0)
def aN (p:(List I)) (q:(List I)):(List I) :=
  bif ((dQ p)||(dQ q)) then (F_poly_bad) else (bif (((((p).length:Nat):Int)==0)||((((q).length:Nat):Int)==0)) then (([]:List I)) else ((fE (((((p).length+(q).length):Nat):Int) - 1) (fun (y:Nat)=>(kH y q p)) (fun (y:I)=>(iS y)))))
def k6 (a:I) (b:I) (n:I):I :=
  (E (Z.mul a.dec n.dec))
def bO (p:(List I)) (n:I):(List I) :=
  bif (kI n) then ((fN p ([]:List I) (fun (y:I) (z:I)=>(k6 y z n)))) else (F_poly_bad)
def eZ (d:I) (n:Int):Nat→(List I)→List I
  | 0,out=>out
  | k0+1,out=>bif decide ((((out).length:Nat):Int)<n) then ((eZ d n k0 (out ++ [(E (Z.mul (out.getD ((out).length - 1) I0).dec d.dec))]))) else (out)
def dK (d:I) (n:Int):(List I) :=
  ap (fun (s:List I)=>let out:List I:=s
  out) (eZ d n ((n.toNat+1)) [(E (Z.of 1))])
def fY (p:(List I)) (x:Rt):Nat→Int→I→Int×I
  | 0,i,mb3=>(i,mb3)
  | k0+1,i,mb3=>bif decide (0≤i) then (let r25:I:=(E (Z.mul (p.getD ((i).toNat) I0).dec ((dK x.d (((p).length:Nat):Int)).getD (((p).length - 1) - (i).toNat) I0).dec))
  (fY p x k0 (i - 1) (E (Z.add (Z.mul mb3.dec x.n.dec) r25.dec)))) else ((i,mb3))
def fS (p:(List I)) (x:Rt):I×I :=
  bif ((dQ p)||(!(oB [x]))) then (((E Z.bad),(E (Z.of 1)))) else (ap (fun (s:Int×I)=>let i:Int:=s.1
  let mb3:I:=s.2
  (mb3,((dK x.d (((p).length:Nat):Int)).getD ((((((p).length:Nat):Int) - 1)).toNat) I0))) (fY p x ((p.length+1)) ((((p).length:Nat):Int) - 1) I0))
def dP (p:(List I)) (x:Rt):Rt :=
  let r3:Rt:=(bH ((fS p x).1) ((fS p x).2))
  r3
def jA (a:I):Bool :=
  (!a.1.bad&&a.1.valid)
def F_skewbackref08_bad :(List I) :=
  let q0:I:=(E Z.bad)
  [q0]
def dU (l:(List I)):Nat→Int→Nat→(Int×Nat) ⊕ ((List I))
  | 0,last,i=>.inl (last,i)
  | k0+1,last,i=>bif decide (((i:Nat):Int)<(((l).length:Nat):Int)) then (bif (jA (l.getD i I0)) then (bif ((Z.signW (l.getD i I0).dec).1 != 0) then ((dU l k0 ((i:Nat):Int) (i+1))) else ((dU l k0 last (i+1)))) else (.inr (F_skewbackref08_bad))) else (.inl (last,i))
def eA (l:(List I)) (last:Int) (i:Nat):Nat→(List I)→Nat→List I×Nat
  | 0,out,j=>(out,j)
  | k1+1,out,j=>bif decide (((j:Nat):Int)≤last) then ((eA l last i k1 (out ++ [(l.getD j I0)]) (j+1))) else ((out,j))
def cO (l:(List I)):(List I) :=
  sm (fun (s_:Int×Nat)=>let last:Int:=s_.1
  let i:Nat:=s_.2
  bif decide (24<last) then (F_skewbackref08_bad) else (ap (fun (s:List I×Nat)=>let out:List I:=s.1
  let j:Nat:=s.2
  out) (eA l last i (((last+1).toNat+1)) ([]:List I) 0))) (fun r=>r) (dU l ((l.length+1)) (-1) 0)
def gU (l:(List W)):Nat→(List I)→Nat→List I×Nat
  | 0,out,i=>(out,i)
  | k0+1,out,i=>bif decide (((i:Nat):Int)<(((l).length:Nat):Int)) then ((gU l k0 (out ++ [(E (Z.of (l.getD i W.z).1))]) (i+1))) else ((out,i))
def bZ (l:(List W)):(List I) :=
  ap (fun (s:List I×Nat)=>let out:List I:=s.1
  let i:Nat:=s.2
  (cO out)) (gU l ((l.length+1)) ([]:List I) 0)
def mF (p:(List I)):Nat→Nat→(Nat) ⊕ (Bool)
  | 0,i=>.inl i
  | k0+1,i=>bif decide (((i:Nat):Int)<(((p).length:Nat):Int)) then (bif (jA (p.getD i I0)) then ((mF p k0 (i+1))) else (.inr (true))) else (.inl i)
def fQ (p:(List I)):Bool :=
  sm (fun (s:Nat)=>let i:Nat:=s
  false) (fun r=>r) (mF p ((p.length+1)) 0)
def lK (p:(List I)) (k:Int):I :=
  bif (decide (k<0)||decide ((((p).length:Nat):Int)≤k)) then (I0) else ((p.getD ((k).toNat) I0))
def nL (p:(List I)) (q:(List I)):Nat→(List I)→Nat→List I×Nat
  | 0,out,i=>(out,i)
  | k0+1,out,i=>bif decide (((i:Nat):Int)<(((max ((p).length) ((q).length)):Nat):Int)) then (let r11:I:=(E (Z.add (lK p ((i:Nat):Int)).dec (lK q ((i:Nat):Int)).dec))
  (nL p q k0 (out ++ [r11]) (i+1))) else ((out,i))
def cT (p:(List I)) (q:(List I)):(List I) :=
  bif ((fQ p)||(fQ q)) then (F_skewbackref08_bad) else (ap (fun (s:List I×Nat)=>let out:List I:=s.1
  let i:Nat:=s.2
  (cO out)) (nL p q (((max p.length q.length)+1)) ([]:List I) 0))
def nN (p:(List I)) (q:(List I)):Nat→(List I)→Nat→List I×Nat
  | 0,out,i=>(out,i)
  | k0+1,out,i=>bif decide (((i:Nat):Int)<(((max ((p).length) ((q).length)):Nat):Int)) then (let r11:I:=(E (Z.sub (lK p ((i:Nat):Int)).dec (lK q ((i:Nat):Int)).dec))
  (nN p q k0 (out ++ [r11]) (i+1))) else ((out,i))
def xZ (p:(List I)) (q:(List I)):(List I) :=
  bif ((fQ p)||(fQ q)) then (F_skewbackref08_bad) else (ap (fun (s:List I×Nat)=>let out:List I:=s.1
  let i:Nat:=s.2
  (cO out)) (nN p q (((max p.length q.length)+1)) ([]:List I) 0))
def kC (p:(List I)) (q:(List I)) (out:List I) (k:Nat):Nat→Nat→I→Nat×I
  | 0,i,mb17=>(i,mb17)
  | k1+1,i,mb17=>bif decide (((i:Nat):Int)≤((k:Nat):Int)) then (bif (decide (((i:Nat):Int)<(((p).length:Nat):Int))&&decide ((((k:Nat):Int) - ((i:Nat):Int))<(((q).length:Nat):Int))) then ((kC p q out k k1 (i+1) (E (Z.add mb17.dec (Z.mul (p.getD i I0).dec (q.getD (k - i) I0).dec))))) else ((kC p q out k k1 (i+1) mb17))) else ((i,mb17))
def nM (p:(List I)) (q:(List I)):Nat→(List I)→Nat→List I×Nat
  | 0,out,k=>(out,k)
  | k0+1,out,k=>bif decide (((k:Nat):Int)<(((((p).length+(q).length):Nat):Int) - 1)) then (ap (fun (s:Nat×I)=>let i:Nat:=s.1
  let mb17:I:=s.2
  (nM p q k0 (out ++ [mb17]) (k+1))) (kC p q out k ((k+2)) 0 I0)) else ((out,k))
def iR (p:(List I)) (q:(List I)):(List I) :=
  bif ((fQ p)||(fQ q)) then (F_skewbackref08_bad) else (bif (((((p).length:Nat):Int)==0)||((((q).length:Nat):Int)==0)) then (([]:List I)) else (ap (fun (s:List I×Nat)=>let out:List I:=s.1
  let k:Nat:=s.2
  (cO out)) (nM p q ((p.length+q.length)) ([]:List I) 0)))
def mG (p:(List I)) (n:I):Nat→(List I)→Nat→List I×Nat
  | 0,out,i=>(out,i)
  | k0+1,out,i=>bif decide (((i:Nat):Int)<(((p).length:Nat):Int)) then ((mG p n k0 (out ++ [(E (Z.mul (p.getD i I0).dec n.dec))]) (i+1))) else ((out,i))
def dN (p:(List I)) (n:I):(List I) :=
  bif ((fQ p)||(!(jA n))) then (F_skewbackref08_bad) else (ap (fun (s:List I×Nat)=>let out:List I:=s.1
  let i:Nat:=s.2
  (cO out)) (mG p n ((p.length+1)) ([]:List I) 0))
def f6 (a:(List I)) (b:(List I)):Nat→Nat→(Nat) ⊕ (Bool)
  | 0,i=>.inl i
  | k0+1,i=>bif decide (((i:Nat):Int)<(((a).length:Nat):Int)) then (bif decide ((a.getD i I0)=(b.getD i I0)) then ((f6 a b k0 (i+1))) else (.inr (false))) else (.inl i)
def hS (a:(List I)) (b:(List I)):Bool :=
  bif ((((a).length:Nat):Int) != (((b).length:Nat):Int)) then (false) else (sm (fun (s:Nat)=>let i:Nat:=s
  true) (fun r=>r) (f6 a b ((a.length+1)) 0))
structure Pose where
  x:A3 W
  q:A4 W
structure Path where
  from_:Pose
  to_:Pose
structure A6 (α:Type) where
  x0:α
  x1:α
  x2:α
  x3:α
  x4:α
  x5:α
structure Rope where
  a:W
  b:W
  p:A3 W
  q:A3 W
structure End where
  n:W
  v:A3 W
structure Pull where
  a:W
  b:W
  p:A3 Rt
  q:A3 Rt
structure Spot where
  x:A3 Rt
  e:W
structure Pulled where
  p:Pull
  e:W
structure Cols where
  a:A6 Rt
  b:A6 Rt
  e:W
structure Times where
  l:List Rt
  e:W
structure Paths where
  l:List Path
  e:W
structure Done where
  w:I
  e:W
structure Moving where
  n:A3 (List I)
  s:List I
structure Curve where
  p:List I
  e:W
def cH (a:Pose):W :=
  bif (decide (140737488355328≤a.x.x.1)||decide (a.x.x.1≤(-140737488355328))) then ((wl 1)) else (bif (decide (140737488355328≤a.x.y.1)||decide (a.x.y.1≤(-140737488355328))) then ((wl 1)) else (bif (decide (140737488355328≤a.x.z.1)||decide (a.x.z.1≤(-140737488355328))) then ((wl 1)) else (bif (dD a.q) then ((wl 0)) else ((wl 1)))))
def dM (a:Path):W :=
  bif ((cH a.from_).1 != 0) then ((cH a.from_)) else ((cH a.to_))
def jB (h:Path):(A4 (List I)) :=
  bif decide ((vZ h.from_.q h.to_.q).1<0) then ((⟨(bZ [h.from_.q.x,(W.sub (W.mul (wl (-1)) h.to_.q.x) h.from_.q.x)]),(bZ [h.from_.q.y,(W.sub (W.mul (wl (-1)) h.to_.q.y) h.from_.q.y)]),(bZ [h.from_.q.z,(W.sub (W.mul (wl (-1)) h.to_.q.z) h.from_.q.z)]),(bZ [h.from_.q.t,(W.sub (W.mul (wl (-1)) h.to_.q.t) h.from_.q.t)])⟩:(A4 (List I)))) else ((⟨(bZ [h.from_.q.x,(W.sub (W.mul (wl 1) h.to_.q.x) h.from_.q.x)]),(bZ [h.from_.q.y,(W.sub (W.mul (wl 1) h.to_.q.y) h.from_.q.y)]),(bZ [h.from_.q.z,(W.sub (W.mul (wl 1) h.to_.q.z) h.from_.q.z)]),(bZ [h.from_.q.t,(W.sub (W.mul (wl 1) h.to_.q.t) h.from_.q.t)])⟩:(A4 (List I))))
def eQ (p:(List I)):(List I) :=
  (iR p p)
def v7 (h:Path):(List I) :=
  (cT (cT (eQ ((jB h).x)) (eQ ((jB h).y))) (cT (eQ ((jB h).z)) (eQ ((jB h).t))))
def gQ (a:(List I)) (b:(List I)) (c:(List I)) (d:(List I)) (k:W):(List I) :=
  (dN (cT (iR a b) (dN (iR c d) (E (Z.of k.1)))) (E (Z.of 2)))
def kR (a:(List I)) (b:(List I)) (c:(List I)) (d:(List I)):(List I) :=
  (xZ (cT (eQ a) (eQ b)) (cT (eQ c) (eQ d)))
def uX (h:Path) (v:(A3 W)):Moving :=
  let q0:(List I):=(v7 h)
  let q1:(A4 (List I)):=(jB h)
  let q2:(List I):=(kR q1.x q1.y q1.z q1.t)
  let q3:(List I):=(gQ q1.y q1.z q1.x q1.t (wl (-1)))
  let q4:(List I):=(gQ q1.y q1.t q1.x q1.z (wl 1))
  let q5:(List I):=(gQ q1.y q1.z q1.x q1.t (wl 1))
  let q6:(List I):=(kR q1.x q1.z q1.y q1.t)
  let q7:(List I):=(gQ q1.z q1.t q1.x q1.y (wl (-1)))
  let q8:(List I):=(gQ q1.y q1.t q1.x q1.z (wl (-1)))
  let q9:(List I):=(gQ q1.z q1.t q1.x q1.y (wl 1))
  let q10:(List I):=(kR q1.x q1.t q1.y q1.z)
  let q11:(List I):=(bZ [h.from_.x.x,(W.sub h.to_.x.x h.from_.x.x)])
  let q12:(List I):=(iR q0 q11)
  let q13:I:=(E (Z.of v.x.1))
  let q14:(List I):=(dN q2 q13)
  let q15:(List I):=(cT q12 q14)
  let q16:I:=(E (Z.of v.y.1))
  let q17:(List I):=(dN q3 q16)
  let q18:(List I):=(cT q15 q17)
  let q19:I:=(E (Z.of v.z.1))
  let q20:(List I):=(dN q4 q19)
  let q21:(List I):=(cT q18 q20)
  let q22:(List I):=(bZ [h.from_.x.y,(W.sub h.to_.x.y h.from_.x.y)])
  let q23:(List I):=(iR q0 q22)
  let q24:(List I):=(dN q5 q13)
  let q25:(List I):=(cT q23 q24)
  let q26:(List I):=(dN q6 q16)
  let q27:(List I):=(cT q25 q26)
  let q28:(List I):=(dN q7 q19)
  let q29:(List I):=(cT q27 q28)
  let q30:(List I):=(bZ [h.from_.x.z,(W.sub h.to_.x.z h.from_.x.z)])
  let q31:(List I):=(iR q0 q30)
  let q32:(List I):=(dN q8 q13)
  let q33:(List I):=(cT q31 q32)
  let q34:(List I):=(dN q9 q16)
  let q35:(List I):=(cT q33 q34)
  let q36:(List I):=(dN q10 q19)
  let q37:(List I):=(cT q35 q36)
  (⟨(⟨q21,q29,q37⟩:(A3 (List I))),q0⟩:Moving)
def e7 (a:W) (b:W):Rt :=
  let r2:Rt:=(bH (E (Z.of a.1)) (E (Z.of b.1)))
  r2
def gZ (a:Rt) (b:Rt):Rt :=
  bif (cV b) then (let r5:Rt:=(fZ a (bH b.d b.n))
  r5) else (mR)
def f5 (a:Rt):W :=
  bif (aP a) then ((Z.signW a.n.dec)) else ((wl 0))
def k9 (l:(List W)) (x0:W) (l0:List W) (o:W):Nat→W→W→W×W
  | 0,p,q=>(p,q)
  | k1+1,p,q=>bif (q.1 != 0) then ((k9 l x0 l0 o k1 q (W.rem p q))) else ((p,q))
def k8 (l:(List W)):List W→W→W
  | [],o=>o
  | x0 :: l0,o=>ap (fun (s:W×W)=>let p:W:=s.1
  let q:W:=s.2
  (k8 l l0 p)) (k9 l x0 l0 o ((W.max x0 (W.neg x0)).1.natAbs+1) o (W.max x0 (W.neg x0)))
def cB (l:(List W)):W :=
  ap (fun (s:W)=>let o:W:=s
  o) (k8 l l (wl 0))
def mQ (a:(A4 W)):Bool :=
  bif (decide (64<(W.max a.x (W.neg a.x)).1)||((a.x.1==(W.neg a.x).1)&&(a.x.1 != 0))) then (false) else (bif (decide (64<(W.max a.y (W.neg a.y)).1)||((a.y.1==(W.neg a.y).1)&&(a.y.1 != 0))) then (false) else (bif (decide (64<(W.max a.z (W.neg a.z)).1)||((a.z.1==(W.neg a.z).1)&&(a.z.1 != 0))) then (false) else (bif (decide (64<(W.max a.t (W.neg a.t)).1)||((a.t.1==(W.neg a.t).1)&&(a.t.1 != 0))) then (false) else (true))))
def dH (a:(A4 W)):(A4 W)×Bool :=
  bif ((cB [a.x,a.y,a.z,a.t]).1==0) then (((⟨(wl 0),(wl 0),(wl 0),(wl 0)⟩:(A4 W)),false)) else (bif (a.x.1 != 0) then (let r6:W:=(bif decide (a.x.1<0) then (W.neg (cB [a.x,a.y,a.z,a.t])) else (cB [a.x,a.y,a.z,a.t]))
  ((⟨(W.quo a.x r6),(W.quo a.y r6),(W.quo a.z r6),(W.quo a.t r6)⟩:(A4 W)),true)) else (bif (a.y.1 != 0) then (let r11:W:=(bif decide (a.y.1<0) then (W.neg (cB [a.x,a.y,a.z,a.t])) else (cB [a.x,a.y,a.z,a.t]))
  ((⟨(W.quo a.x r11),(W.quo a.y r11),(W.quo a.z r11),(W.quo a.t r11)⟩:(A4 W)),true)) else (bif (a.z.1 != 0) then (let r16:W:=(bif decide (a.z.1<0) then (W.neg (cB [a.x,a.y,a.z,a.t])) else (cB [a.x,a.y,a.z,a.t]))
  ((⟨(W.quo a.x r16),(W.quo a.y r16),(W.quo a.z r16),(W.quo a.t r16)⟩:(A4 W)),true)) else (bif (a.t.1 != 0) then (let r21:W:=(bif decide (a.t.1<0) then (W.neg (cB [a.x,a.y,a.z,a.t])) else (cB [a.x,a.y,a.z,a.t]))
  ((⟨(W.quo a.x r21),(W.quo a.y r21),(W.quo a.z r21),(W.quo a.t r21)⟩:(A4 W)),true)) else (((⟨(W.quo a.x (cB [a.x,a.y,a.z,a.t])),(W.quo a.y (cB [a.x,a.y,a.z,a.t])),(W.quo a.z (cB [a.x,a.y,a.z,a.t])),(W.quo a.t (cB [a.x,a.y,a.z,a.t]))⟩:(A4 W)),true))))))
def oQ (a:(A4 W)):Bool :=
  bif (mQ a) then (let r3:(A4 W):=(dH a).1
  ((dH a).2&&(decide (r3.x.1=a.x.1)&&(decide (r3.y.1=a.y.1)&&(decide (r3.z.1=a.z.1)&&decide (r3.t.1=a.t.1)))))) else (false)
def lA (a:(List W)):Nat→W→Nat→W×Nat
  | 0,o,i=>(o,i)
  | k0+1,o,i=>bif decide (((i+1:Nat):Int)<(((a).length:Nat):Int)) then ((lA a k0 (W.add o (W.mul (a.getD i W.z) (a.getD (i+1) W.z))) (i+2))) else ((o,i))
def bV (a:(List W)):W :=
  ap (fun (s:W×Nat)=>let o:W:=s.1
  let i:Nat:=s.2
  o) (lA a (a.length+1) (wl 0) 0)
def dL (a:(A4 W)):(A9 W) :=
  (⟨(bV [a.x,a.x,a.y,a.y,(W.neg a.z),a.z,(W.neg a.t),a.t]),(W.mul (wl 2) (bV [a.y,a.z,(W.neg a.x),a.t])),(W.mul (wl 2) (bV [a.y,a.t,a.x,a.z])),(W.mul (wl 2) (bV [a.y,a.z,a.x,a.t])),(bV [a.x,a.x,(W.neg a.y),a.y,a.z,a.z,(W.neg a.t),a.t]),(W.mul (wl 2) (bV [a.z,a.t,(W.neg a.x),a.y])),(W.mul (wl 2) (bV [a.y,a.t,(W.neg a.x),a.z])),(W.mul (wl 2) (bV [a.z,a.t,a.x,a.y])),(bV [a.x,a.x,(W.neg a.y),a.y,(W.neg a.z),a.z,a.t,a.t])⟩:(A9 W))
def fO (a:(A4 W)) (b:(A3 W)):(A3 W) :=
  let r4:(A9 W):=(dL a)
  (⟨(bV [r4.x0,b.x,r4.x1,b.y,r4.x2,b.z]),(bV [r4.x3,b.x,r4.x4,b.y,r4.x5,b.z]),(bV [r4.x6,b.x,r4.x7,b.y,r4.x8,b.z])⟩:(A3 W))
def i6 (a:(A4 W)) (b:(A4 W)):W :=
  (bV [a.x,b.x,a.y,b.y,a.z,b.z,a.t,b.t])
def iH (a:(A4 W)):W :=
  (i6 a a)
def gS (a:(A4 W)) (b:(A3 W)):(A3 Rt) :=
  let r5:Rt:=(e7 ((fO a b).x) (iH a))
  let r6:Rt:=(e7 ((fO a b).y) (iH a))
  let r7:Rt:=(e7 ((fO a b).z) (iH a))
  (⟨r5,r6,r7⟩:(A3 Rt))
def gV (a:Pose):W :=
  bif (decide (140737488355328≤a.x.x.1)||decide (a.x.x.1≤(-140737488355328))) then ((wl 1)) else (bif (decide (140737488355328≤a.x.y.1)||decide (a.x.y.1≤(-140737488355328))) then ((wl 1)) else (bif (decide (140737488355328≤a.x.z.1)||decide (a.x.z.1≤(-140737488355328))) then ((wl 1)) else (bif (oQ a.q) then ((wl 0)) else ((wl 1)))))
def k7 (a:Path):W :=
  bif (((gV a.from_).1 != 0)||((gV a.to_).1 != 0)) then ((wl 1)) else ((wl 0))
def eC (a:Pose) (b:(A3 W)):(A3 Rt) :=
  let r4:(A3 Rt):=(kK a.x)
  let r5:(A3 Rt):=(gS a.q b)
  let r6:(A3 Rt):=(iF r4 r5)
  r6
def aF (h:Path):(A4 (List I)) :=
  bif decide ((i6 h.from_.q h.to_.q).1<0) then ((⟨(bU [h.from_.q.x,(W.sub (W.mul (wl (-1)) h.to_.q.x) h.from_.q.x)]),(bU [h.from_.q.y,(W.sub (W.mul (wl (-1)) h.to_.q.y) h.from_.q.y)]),(bU [h.from_.q.z,(W.sub (W.mul (wl (-1)) h.to_.q.z) h.from_.q.z)]),(bU [h.from_.q.t,(W.sub (W.mul (wl (-1)) h.to_.q.t) h.from_.q.t)])⟩:(A4 (List I)))) else ((⟨(bU [h.from_.q.x,(W.sub (W.mul (wl 1) h.to_.q.x) h.from_.q.x)]),(bU [h.from_.q.y,(W.sub (W.mul (wl 1) h.to_.q.y) h.from_.q.y)]),(bU [h.from_.q.z,(W.sub (W.mul (wl 1) h.to_.q.z) h.from_.q.z)]),(bU [h.from_.q.t,(W.sub (W.mul (wl 1) h.to_.q.t) h.from_.q.t)])⟩:(A4 (List I))))
def bS (n:W) (l0:(List I)) (l1:(List I)) (l2:(List I)) (l3:(List I)):(List I) :=
  (bO (aT (aT ([]:List I) (aN l0 l1)) (aN l2 l3)) (E (Z.of n.1)))
def jP (n:W) (l0:(List I)) (l1:(List I)) (l2:(List I)) (l3:(List I)) (l4:(List I)) (l5:(List I)) (l6:(List I)) (l7:(List I)):(List I) :=
  (bO (aT (aT (aT (aT ([]:List I) (aN l0 l1)) (aN l2 l3)) (aN l4 l5)) (aN l6 l7)) (E (Z.of n.1)))
def eE (h:Path):(List I) :=
  (jP (wl 1) ((aF h).x) ((aF h).x) ((aF h).y) ((aF h).y) ((aF h).z) ((aF h).z) ((aF h).t) ((aF h).t))
def dY (x:(List I)) (y:(List I)) (z:(List I)) (u:(List I)):(List I) :=
  (mO (bS (wl 1) x x y y) (bS (wl 1) z z u u))
def aQ (h:Path) (v:(A3 W)):(A3 (List I))×(List I) :=
  let q0:(A4 (List I)):=(aF h)
  let q1:(List I):=(eE h)
  let q2:I:=(E (Z.of (-1)))
  let q3:(List I):=(bO q0.x q2)
  let q4:(List I):=(dY q0.x q0.y q0.z q0.t)
  let q5:(List I):=(bS (wl 2) q0.y q0.z q3 q0.t)
  let q6:(List I):=(bS (wl 2) q0.y q0.t q0.x q0.z)
  let q7:(List I):=(bS (wl 2) q0.y q0.z q0.x q0.t)
  let q8:(List I):=(dY q0.x q0.z q0.y q0.t)
  let q9:(List I):=(bS (wl 2) q0.z q0.t q3 q0.y)
  let q10:(List I):=(bS (wl 2) q0.y q0.t q3 q0.z)
  let q11:(List I):=(bS (wl 2) q0.z q0.t q0.x q0.y)
  let q12:(List I):=(dY q0.x q0.t q0.y q0.z)
  let q13:(List I):=(bU [h.from_.x.x,(W.sub h.to_.x.x h.from_.x.x)])
  let q14:(List I):=(aN q1 q13)
  let q15:I:=(E (Z.of v.x.1))
  let q16:(List I):=(bO q4 q15)
  let q17:(List I):=(aT q14 q16)
  let q18:I:=(E (Z.of v.y.1))
  let q19:(List I):=(bO q5 q18)
  let q20:(List I):=(aT q17 q19)
  let q21:I:=(E (Z.of v.z.1))
  let q22:(List I):=(bO q6 q21)
  let q23:(List I):=(aT q20 q22)
  let q24:(List I):=(bU [h.from_.x.y,(W.sub h.to_.x.y h.from_.x.y)])
  let q25:(List I):=(aN q1 q24)
  let q26:(List I):=(bO q7 q15)
  let q27:(List I):=(aT q25 q26)
  let q28:(List I):=(bO q8 q18)
  let q29:(List I):=(aT q27 q28)
  let q30:(List I):=(bO q9 q21)
  let q31:(List I):=(aT q29 q30)
  let q32:(List I):=(bU [h.from_.x.z,(W.sub h.to_.x.z h.from_.x.z)])
  let q33:(List I):=(aN q1 q32)
  let q34:(List I):=(bO q10 q15)
  let q35:(List I):=(aT q33 q34)
  let q36:(List I):=(bO q11 q18)
  let q37:(List I):=(aT q35 q36)
  let q38:(List I):=(bO q12 q21)
  let q39:(List I):=(aT q37 q38)
  ((⟨q23,q31,q39⟩:(A3 (List I))),q1)
def eL (h:Path) (v:(A3 W)) (t:Rt):(A3 Rt) :=
  let r27:Rt:=(dP (((aQ h v).1).x) t)
  let r28:Rt:=(dP ((aQ h v).2) t)
  let r29:Rt:=(dP (((aQ h v).1).y) t)
  let r30:Rt:=(dP ((aQ h v).2) t)
  let r31:Rt:=(dP (((aQ h v).1).z) t)
  let r32:Rt:=(dP ((aQ h v).2) t)
  (⟨(gZ r27 r28),(gZ r29 r30),(gZ r31 r32)⟩:(A3 Rt))
def gO (l:(List I)):List I→(Unit) ⊕ (Bool)
  | []=>.inl ()
  | x0 :: l0=>bif (x0.1.bad||(!x0.1.valid)) then (.inr (false)) else ((gO l l0))
def iG (l:(List I)):Bool :=
  sm (fun (s:Unit)=>true) (fun r=>r) (gO l l)
def lL (a:I):Nat→I→(I) ⊕ (I)
  | 0,mb11=>.inl mb11
  | k0+1,mb11=>bif decide (0≤(Z.cmpW (Z.half (Z.add mb11.dec (Z.quo a.dec mb11.dec))) mb11.dec).1) then (.inr (mb11)) else ((lL a k0 (E (Z.half (Z.add mb11.dec (Z.quo a.dec mb11.dec))))))
def fH (a:I):I :=
  bif (!(iG [a])||a.1.neg) then ((E Z.bad)) else (bif ((Z.signW a.dec).1==0) then (a) else (sm (fun (s:I)=>let mb11:I:=s
  I0) (fun r=>r) (lL a ((Z.nat (E (Z.shl (Z.of 1) (W.quo (W.add (Z.bitsW a.dec) (wl 1)) (wl 2)).1)).dec+1)) (E (Z.shl (Z.of 1) (W.quo (W.add (Z.bitsW a.dec) (wl 1)) (wl 2)).1)))))
structure Convex where
  v:List (A3 W)
def dS (h:Path):Path :=
  (⟨h.to_,h.from_⟩:Path)
def eO (p:Pose):Path :=
  (⟨p,p⟩:Path)
def oP (h:Path):Bool :=
  (decide (h.from_.x.x.1=h.to_.x.x.1)&&(decide (h.from_.x.y.1=h.to_.x.y.1)&&(decide (h.from_.x.z.1=h.to_.x.z.1)&&(decide (h.from_.q.x.1=h.to_.q.x.1)&&(decide (h.from_.q.y.1=h.to_.q.y.1)&&(decide (h.from_.q.z.1=h.to_.q.z.1)&&decide (h.from_.q.t.1=h.to_.q.t.1)))))))
def jZ (c:(List (A3 W))):List (A3 W)→W→W
  | [],k=>k
  | x0 :: l0,k=>(jZ c l0 (W.max k (W.add (W.add (W.mul x0.x x0.x) (W.mul x0.y x0.y)) (W.mul x0.z x0.z))))
def eD (c:(List (A3 W))):W :=
  ap (fun (s:W)=>let k:W:=s
  bif decide ((W.mul (Z.smallW (fH (E (Z.of k.1))).dec) (Z.smallW (fH (E (Z.of k.1))).dec)).1<k.1) then ((W.add (Z.smallW (fH (E (Z.of k.1))).dec) (wl 1))) else ((Z.smallW (fH (E (Z.of k.1))).dec))) (jZ c c (wl 0))
def kQ (h:Path) (c:(List (A3 W))):(A3 W)×(A3 W) :=
  ((⟨(W.sub (W.min h.from_.x.x h.to_.x.x) (eD c)),(W.sub (W.min h.from_.x.y h.to_.x.y) (eD c)),(W.sub (W.min h.from_.x.z h.to_.x.z) (eD c))⟩:(A3 W)),(⟨(W.add (W.max h.from_.x.x h.to_.x.x) (eD c)),(W.add (W.max h.from_.x.y h.to_.x.y) (eD c)),(W.add (W.max h.from_.x.z h.to_.x.z) (eD c))⟩:(A3 W)))
def gL (a:I) (b:I):I :=
  bif ((iC a.1)&&((iC b.1)&&((eG b).1 != 0))) then (let r10:I:=(E (Z.of (W.sub (eG a) (W.mul (eG b) (W.fdiv (eG a) (eG b)))).1))
  r10) else (bif (!a.1.good||(!b.1.good||((((dl (val b.1.w)).length:Nat):Int)==0))) then ((E Z.bad)) else (bif ((a.1.neg != b.1.neg)&&decide (0<(((dl ((val a.1.w) % (val b.1.w))).length:Nat):Int))) then ((E (Z.of (sgn b.1.neg ((val b.1.w) - ((val a.1.w) % (val b.1.w))))))) else ((E (Z.of (sgn b.1.neg ((val a.1.w) % (val b.1.w))))))))
def oC (a:Rt) (b:Rt):W :=
  bif (!(cV a)&&(!(cV b))) then ((wl 0)) else (bif (cV a) then (bif (cV b) then ((cf (cfN a.d) (wl 1) a.n a.d b.n b.d)) else ((wl 1))) else ((wl (-1))))
def fP (a:Rt) (b:Rt):W :=
  bif (!(aP a)||(!(aP b))) then (let r7:W:=(Z.cmpW (dI a (aP a)).dec (dI b (aP b)).dec)
  r7) else ((cf (cfN a.d) (wl 1) a.n a.d b.n b.d))
def dX (b:(A3 W)):Bool :=
  bif (decide (262144<b.x.1)||decide (b.x.1<(-262144))) then (false) else (bif (decide (262144<b.y.1)||decide (b.y.1<(-262144))) then (false) else (bif (decide (262144<b.z.1)||decide (b.z.1<(-262144))) then (false) else (true)))
def gD (x:Rt):Bool :=
  ((aP x)&&(decide (0≤(f5 x).1)&&(decide ((fP x (dZ (wl 1))).1≤0)&&decide ((Z.bitsW x.d.dec).1≤12))))
def eP (a:(List I)) (b:(List I)):Bool :=
  (hS a b)
def aD (q0:(A3 (List I))) (q1:(List I)) (q2:(A3 W)) (q3:(A3 W)) (q4:Rt) (q5:(A3 Rt)) (q6:(List I)) (q7:(List I)) (q8:Bool) (q9:Bool) (q10:(List I)) (q11:Bool) (q12:(List I)) (q13:Bool) (q14:Rt) (q15:Rt) (q16:Rt) (q17:(A3 Rt)) (q18:Rt) (q19:Rt) (q20:W) (q21:W) (q22:Bool) (q23:Path) (q24:Bool):Bool :=
  bif q8 then (bif q9 then (bif q11 then (bif q13 then (bif (decide (q5.x.n=q14.n)&&(decide (q5.x.d=q14.d)&&(decide (q5.y.n=q15.n)&&(decide (q5.y.d=q15.d)&&(decide (q5.z.n=q16.n)&&decide (q5.z.d=q16.d)))))) then (bif (decide (q17.x.n=q18.n)&&(decide (q17.x.d=q18.d)&&(decide (q17.y.n=q19.n)&&(decide (q17.y.d=q19.d)&&(decide (q17.z.n=q16.n)&&decide (q17.z.d=q16.d)))))) then (bif (decide (q2.x.1=(-1))&&(decide (q2.y.1=(-1))&&decide (q2.z.1=(-1)))) then (bif ((((q0.z).length:Nat):Int)==0) then (bif (decide (q3.x.1=9)&&(decide (q3.y.1=1)&&decide (q3.z.1=1))) then (bif (q20.1==0) then (bif (q21.1==1) then (bif q22 then (false) else (q24)) else (false)) else (false)) else (false)) else (false)) else (bif ((((q0.z).length:Nat):Int)==0) then (false) else (false))) else (bif ((((q0.z).length:Nat):Int)==0) then (false) else (false))) else (bif ((((q0.z).length:Nat):Int)==0) then (false) else (false))) else (bif (decide (q5.x.n=q14.n)&&(decide (q5.x.d=q14.d)&&(decide (q5.y.n=q15.n)&&(decide (q5.y.d=q15.d)&&(decide (q5.z.n=q16.n)&&decide (q5.z.d=q16.d)))))) then (bif (decide (q17.x.n=q18.n)&&(decide (q17.x.d=q18.d)&&(decide (q17.y.n=q19.n)&&(decide (q17.y.d=q19.d)&&(decide (q17.z.n=q16.n)&&decide (q17.z.d=q16.d)))))) then (bif (decide (q2.x.1=(-1))&&(decide (q2.y.1=(-1))&&decide (q2.z.1=(-1)))) then (false) else (false)) else (false)) else (false))) else (bif (decide (q5.x.n=q14.n)&&(decide (q5.x.d=q14.d)&&(decide (q5.y.n=q15.n)&&(decide (q5.y.d=q15.d)&&(decide (q5.z.n=q16.n)&&decide (q5.z.d=q16.d)))))) then (bif (decide (q17.x.n=q18.n)&&(decide (q17.x.d=q18.d)&&(decide (q17.y.n=q19.n)&&(decide (q17.y.d=q19.d)&&(decide (q17.z.n=q16.n)&&decide (q17.z.d=q16.d)))))) then (bif (decide (q2.x.1=(-1))&&(decide (q2.y.1=(-1))&&decide (q2.z.1=(-1)))) then (false) else (false)) else (false)) else (false))) else (bif (decide (q5.x.n=q14.n)&&(decide (q5.x.d=q14.d)&&(decide (q5.y.n=q15.n)&&(decide (q5.y.d=q15.d)&&(decide (q5.z.n=q16.n)&&decide (q5.z.d=q16.d)))))) then (bif (decide (q17.x.n=q18.n)&&(decide (q17.x.d=q18.d)&&(decide (q17.y.n=q19.n)&&(decide (q17.y.d=q19.d)&&(decide (q17.z.n=q16.n)&&decide (q17.z.d=q16.d)))))) then (bif (decide (q2.x.1=(-1))&&(decide (q2.y.1=(-1))&&decide (q2.z.1=(-1)))) then (false) else (false)) else (false)) else (false))) else (bif (decide (q5.x.n=q14.n)&&(decide (q5.x.d=q14.d)&&(decide (q5.y.n=q15.n)&&(decide (q5.y.d=q15.d)&&(decide (q5.z.n=q16.n)&&decide (q5.z.d=q16.d)))))) then (bif (decide (q17.x.n=q18.n)&&(decide (q17.x.d=q18.d)&&(decide (q17.y.n=q19.n)&&(decide (q17.y.d=q19.d)&&(decide (q17.z.n=q16.n)&&decide (q17.z.d=q16.d)))))) then (bif (decide (q2.x.1=(-1))&&(decide (q2.y.1=(-1))&&decide (q2.z.1=(-1)))) then (false) else (false)) else (false)) else (false))
def F_skewbacklaw14_sanity:Bool :=
  let q0:(A3 (List I)):=(aQ (⟨(⟨(⟨(wl 0),(wl 0),(wl 0)⟩:(A3 W)),(⟨(wl 1),(wl 0),(wl 0),(wl 0)⟩:(A4 W))⟩:Pose),(⟨(⟨(wl 8),(wl 0),(wl 0)⟩:(A3 W)),(⟨(wl 1),(wl 0),(wl 0),(wl 1)⟩:(A4 W))⟩:Pose)⟩:Path) (⟨(wl 1),(wl 0),(wl 0)⟩:(A3 W))).1
  let q1:(List I):=(aQ (⟨(⟨(⟨(wl 0),(wl 0),(wl 0)⟩:(A3 W)),(⟨(wl 1),(wl 0),(wl 0),(wl 0)⟩:(A4 W))⟩:Pose),(⟨(⟨(wl 8),(wl 0),(wl 0)⟩:(A3 W)),(⟨(wl 1),(wl 0),(wl 0),(wl 1)⟩:(A4 W))⟩:Pose)⟩:Path) (⟨(wl 1),(wl 0),(wl 0)⟩:(A3 W))).2
  let q2:(A3 W):=(kQ (⟨(⟨(⟨(wl 0),(wl 0),(wl 0)⟩:(A3 W)),(⟨(wl 1),(wl 0),(wl 0),(wl 0)⟩:(A4 W))⟩:Pose),(⟨(⟨(wl 8),(wl 0),(wl 0)⟩:(A3 W)),(⟨(wl 1),(wl 0),(wl 0),(wl 1)⟩:(A4 W))⟩:Pose)⟩:Path) [(⟨(wl 0),(wl 0),(wl 0)⟩:(A3 W)),(⟨(wl 0),(wl 0),(wl 1)⟩:(A3 W)),(⟨(wl 0),(wl 1),(wl 0)⟩:(A3 W)),(⟨(wl 1),(wl 0),(wl 0)⟩:(A3 W))]).1
  let q3:(A3 W):=(kQ (⟨(⟨(⟨(wl 0),(wl 0),(wl 0)⟩:(A3 W)),(⟨(wl 1),(wl 0),(wl 0),(wl 0)⟩:(A4 W))⟩:Pose),(⟨(⟨(wl 8),(wl 0),(wl 0)⟩:(A3 W)),(⟨(wl 1),(wl 0),(wl 0),(wl 1)⟩:(A4 W))⟩:Pose)⟩:Path) [(⟨(wl 0),(wl 0),(wl 0)⟩:(A3 W)),(⟨(wl 0),(wl 0),(wl 1)⟩:(A3 W)),(⟨(wl 0),(wl 1),(wl 0)⟩:(A3 W)),(⟨(wl 1),(wl 0),(wl 0)⟩:(A3 W))]).2
  let q4:Rt:=(e7 (wl 1) (wl 2))
  let q5:(A3 Rt):=(eL (⟨(⟨(⟨(wl 0),(wl 0),(wl 0)⟩:(A3 W)),(⟨(wl 1),(wl 0),(wl 0),(wl 0)⟩:(A4 W))⟩:Pose),(⟨(⟨(wl 8),(wl 0),(wl 0)⟩:(A3 W)),(⟨(wl 1),(wl 0),(wl 0),(wl 1)⟩:(A4 W))⟩:Pose)⟩:Path) (⟨(wl 1),(wl 0),(wl 0)⟩:(A3 W)) q4)
  let q6:(List I):=(eE (⟨(⟨(⟨(wl 0),(wl 0),(wl 0)⟩:(A3 W)),(⟨(wl 1),(wl 0),(wl 0),(wl 0)⟩:(A4 W))⟩:Pose),(⟨(⟨(wl 8),(wl 0),(wl 0)⟩:(A3 W)),(⟨(wl 1),(wl 0),(wl 0),(wl 1)⟩:(A4 W))⟩:Pose)⟩:Path))
  let q7:(List I):=(bZ [(wl 1),(wl 0),(wl 1)])
  let q8:Bool:=(eP q6 q7)
  let q9:Bool:=(eP q1 q6)
  let q10:(List I):=(bZ [(wl 1),(wl 8),(wl (-1)),(wl 8)])
  let q11:Bool:=(eP q0.x q10)
  let q12:(List I):=(bZ [(wl 0),(wl 2)])
  let q13:Bool:=(eP q0.y q12)
  let q14:Rt:=(e7 (wl 23) (wl 5))
  let q15:Rt:=(e7 (wl 4) (wl 5))
  let q16:Rt:=(cG (wl 0))
  let q17:(A3 Rt):=(eC (⟨(⟨(wl 8),(wl 0),(wl 0)⟩:(A3 W)),(⟨(wl 1),(wl 0),(wl 0),(wl 1)⟩:(A4 W))⟩:Pose) (⟨(wl 1),(wl 0),(wl 0)⟩:(A3 W)))
  let q18:Rt:=(cG (wl 8))
  let q19:Rt:=(cG (wl 1))
  let q20:W:=(k7 (⟨(⟨(⟨(wl 0),(wl 0),(wl 0)⟩:(A3 W)),(⟨(wl 1),(wl 0),(wl 0),(wl 0)⟩:(A4 W))⟩:Pose),(⟨(⟨(wl 8),(wl 0),(wl 0)⟩:(A3 W)),(⟨(wl 1),(wl 0),(wl 0),(wl 1)⟩:(A4 W))⟩:Pose)⟩:Path))
  let q21:W:=(gV (⟨(⟨(wl 0),(wl 0),(wl 0)⟩:(A3 W)),(⟨(wl 0),(wl 0),(wl 0),(wl 0)⟩:(A4 W))⟩:Pose))
  let q22:Bool:=(oP (⟨(⟨(⟨(wl 0),(wl 0),(wl 0)⟩:(A3 W)),(⟨(wl 1),(wl 0),(wl 0),(wl 0)⟩:(A4 W))⟩:Pose),(⟨(⟨(wl 8),(wl 0),(wl 0)⟩:(A3 W)),(⟨(wl 1),(wl 0),(wl 0),(wl 1)⟩:(A4 W))⟩:Pose)⟩:Path))
  let q23:Path:=(eO (⟨(⟨(wl 8),(wl 0),(wl 0)⟩:(A3 W)),(⟨(wl 1),(wl 0),(wl 0),(wl 1)⟩:(A4 W))⟩:Pose))
  let q24:Bool:=(oP q23)
  aD q0 q1 q2 q3 q4 q5 q6 q7 q8 q9 q10 q11 q12 q13 q14 q15 q16 q17 q18 q19 q20 q21 q22 q23 q24
def gT (h:Path) (b:(A3 W)) (x:Rt):Bool :=
  let q0:W:=(dM h)
  let q1:Bool:=(dX b)
  let q2:Bool:=(gD x)
  let q3:Bool:=F_skewbacklaw14_sanity
  bif ((q0.1 != 0)||(!q1||(!q2))) then (q3) else (let q4:Path:=(dS h)
  let q5:Rt:=(cG (wl 1))
  let q6:Rt:=(mS q5 x)
  let q7:(A3 Rt):=(eL q4 b q6)
  let q8:Rt:=(cG (wl 0))
  let q9:(A3 Rt):=(eL h b q8)
  let q10:(A3 Rt):=(eC h.from_ b)
  let q11:(A3 Rt):=(eL h b q5)
  let q12:(A3 Rt):=(eC h.to_ b)
  let q13:(A3 Rt):=(eL h b x)
  let q14:Path:=(eO h.from_)
  let q15:(A3 Rt):=(eL q14 b x)
  (q3&&((decide (q9.x.n=q10.x.n)&&(decide (q9.x.d=q10.x.d)&&(decide (q9.y.n=q10.y.n)&&(decide (q9.y.d=q10.y.d)&&(decide (q9.z.n=q10.z.n)&&decide (q9.z.d=q10.z.d))))))&&((decide (q11.x.n=q12.x.n)&&(decide (q11.x.d=q12.x.d)&&(decide (q11.y.n=q12.y.n)&&(decide (q11.y.d=q12.y.d)&&(decide (q11.z.n=q12.z.n)&&decide (q11.z.d=q12.z.d))))))&&((decide (q7.x.n=q13.x.n)&&(decide (q7.x.d=q13.x.d)&&(decide (q7.y.n=q13.y.n)&&(decide (q7.y.d=q13.y.d)&&(decide (q7.z.n=q13.z.n)&&decide (q7.z.d=q13.z.d))))))&&(decide (q15.x.n=q10.x.n)&&(decide (q15.x.d=q10.x.d)&&(decide (q15.y.n=q10.y.n)&&(decide (q15.y.d=q10.y.d)&&(decide (q15.z.n=q10.z.n)&&decide (q15.z.d=q10.z.d)))))))))))
end Go.Num

