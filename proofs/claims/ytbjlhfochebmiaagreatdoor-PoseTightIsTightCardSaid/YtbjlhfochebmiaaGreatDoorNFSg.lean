/- Lemmas: what they ask stands in their statements. -/
import Derived.Test.YtbjlhfochebmiaaGreatDoorNGE
set_option linter.unusedSimpArgs false
set_option linter.unusedVariables false
namespace Go.Num
open Go Go.Kn
def nW (a:I):I :=
 bif a.1.good then (E (Z.of (sgn false (val a.1.w)))) else (E Z.bad)
def lL (a:I):W :=
 bif (!a.1.good||(((dl (val a.1.w)).length:Int)==0)) then (wl 0) else (bif a.1.neg then (wl (-1)) else (wl 1))
def eZ (a:I) (b:I):W :=
 bif (!a.1.good&&(!b.1.good)) then (wl 0) else (bif a.1.good then (bif b.1.good then (bif (a.1.neg != b.1.neg) then (bif a.1.neg then (wl (-1)) else (wl 1)) else (bif a.1.neg then (bif decide ((val b.1.w)<(val a.1.w)) then (wl (-1)) else (bif decide ((val a.1.w)<(val b.1.w)) then (wl 1) else (wl 0))) else (bif decide ((val a.1.w)<(val b.1.w)) then (wl (-1)) else (bif decide ((val b.1.w)<(val a.1.w)) then (wl 1) else (wl 0))))) else (wl 1)) else (wl (-1)))
def kV (a:I) (b:I):I :=
 bif ((iE a.1)&&((iE b.1)&&((dV b).1 != 0))) then (E (Z.of (W.fdiv (dV a) (dV b)).1)) else (bif (!a.1.good||(!b.1.good||(((dl (val b.1.w)).length:Int)==0))) then (E Z.bad) else (bif ((a.1.neg != b.1.neg)&&decide (0<((dl ((val a.1.w) % (val b.1.w))).length:Int))) then (E (Z.of (sgn (a.1.neg != b.1.neg) (((val a.1.w) / (val b.1.w))+1)))) else (E (Z.of (sgn (a.1.neg != b.1.neg) ((val a.1.w) / (val b.1.w)))))))
def F_ratio_one :I :=
 let q0:I:=(E (Z.of 1))
 q0
def rR :Rt :=
 let q0:I:=(E Z.bad)
 let q1:I:=F_ratio_one
 (⟨q0,q1⟩:Rt)
def lF (a:I):Bool :=
 (!a.1.bad&&a.1.valid)
def cQ (a:Rt):Bool :=
 ((lF a.n)&&((lF a.d)&&(decide (0<(Z.signW a.d.dec).1)&&decide ((E (Z.gcd a.n.dec a.d.dec))=F_ratio_one))))
def cK (a:I) (b:I):Rt :=
 bif (!(lF a)||(!(lF b)||((Z.signW b.dec).1==0))) then rR else (bif decide ((Z.signW b.dec).1<0) then (⟨(E (Z.quo a.dec (Z.neg (Z.gcd a.dec b.dec)))),(E (Z.quo b.dec (Z.neg (Z.gcd a.dec b.dec))))⟩:Rt) else (⟨(E (Z.quo a.dec (Z.gcd a.dec b.dec))),(E (Z.quo b.dec (Z.gcd a.dec b.dec)))⟩:Rt))
def yM (a:I):Rt :=
 (cK a F_ratio_one)
def aJ (a:W):Rt :=
 (yM (E (Z.of a.1)))
def k5 (a:Rt):Rt :=
 bif (cQ a) then (⟨(E (Z.neg a.n.dec)),a.d⟩:Rt) else (rR)
def jD (a:Rt) (b:Rt):Rt :=
 bif (!(cQ a)||(!(cQ b))) then rR else (let r15:I:=(E (Z.add (Z.mul a.n.dec (Z.quo b.d.dec (Z.gcd a.d.dec b.d.dec))) (Z.mul b.n.dec (Z.quo a.d.dec (Z.gcd a.d.dec b.d.dec)))))
 let r16:Rt:=(cK r15 (E (Z.mul (Z.quo a.d.dec (Z.gcd a.d.dec b.d.dec)) b.d.dec)))
 r16)
def bQ (a:Rt) (b:Rt):Rt :=
 (jD a (k5 b))
def fW (a:Rt) (b:Rt):Rt :=
 bif (!(cQ a)||(!(cQ b))) then rR else (let r26:I:=(E (Z.mul ((cK a.n b.d).n).dec ((cK b.n a.d).n).dec))
 let r27:I:=(E (Z.mul ((cK a.n b.d).d).dec ((cK b.n a.d).d).dec))
 bif (r26.1.bad||r27.1.bad) then rR else (⟨r26,r27⟩:Rt))
def F_skewbackref04_one :I :=
 let q0:I:=(E (Z.of 1))
 q0
def jY :Rt :=
 let q0:I:=(E Z.bad)
 let q1:I:=F_skewbackref04_one
 (⟨q0,q1⟩:Rt)
def bR (a:I) (b:I):Rt :=
 bif (!a.1.good||(!b.1.good||((Z.signW b.dec).1==0))) then jY else (bif decide ((Z.signW b.dec).1<0) then (⟨(E (Z.quo a.dec (Z.neg (Z.gcd a.dec b.dec)))),(E (Z.quo b.dec (Z.neg (Z.gcd a.dec b.dec))))⟩:Rt) else (⟨(E (Z.quo a.dec (Z.gcd a.dec b.dec))),(E (Z.quo b.dec (Z.gcd a.dec b.dec)))⟩:Rt))
def fI (a:W):Rt :=
 let r2:Rt:=(bR (E (Z.of a.1)) F_skewbackref04_one)
 r2
def aV (a:Rt):Bool :=
 bif (!a.n.1.good||(!a.d.1.good)) then false else (decide (0<(Z.signW a.d.dec).1)&&decide ((E (Z.gcd a.n.dec a.d.dec))=F_skewbackref04_one))
def kX (a:Rt):Rt :=
 bif (aV a) then (⟨(E (Z.neg a.n.dec)),a.d⟩:Rt) else (jY)
def e7 (a:Rt) (b:Rt):Rt :=
 bif (!(aV a)||(!(aV b))) then jY else (let r11:I:=(E (Z.add (Z.mul a.n.dec (Z.quo b.d.dec (Z.gcd a.d.dec b.d.dec))) (Z.mul b.n.dec (Z.quo a.d.dec (Z.gcd a.d.dec b.d.dec)))))
 let r12:Rt:=(bR r11 (E (Z.mul (Z.quo a.d.dec (Z.gcd a.d.dec b.d.dec)) b.d.dec)))
 r12)
def kG (a:(A3 W)):(A3 Rt) :=
 (⟨(aJ a.x),(aJ a.y),(aJ a.z)⟩:(A3 Rt))
def lV (a:(A3 Rt)) (b:(A3 Rt)):(A3 Rt) :=
 (⟨(jD a.x b.x),(jD a.y b.y),(jD a.z b.z)⟩:(A3 Rt))
def j5 (a:(A3 W)):Bool :=
 bif (decide (2305843009213693952≤a.x.1)||decide (a.x.1≤(-2305843009213693952))) then false else (bif (decide (2305843009213693952≤a.y.1)||decide (a.y.1≤(-2305843009213693952))) then false else (bif (decide (2305843009213693952≤a.z.1)||decide (a.z.1≤(-2305843009213693952))) then false else true))
def nG (a:(A3 W)):(A3 I) :=
 (⟨(E (Z.of a.x.1)),(E (Z.of a.y.1)),(E (Z.of a.z.1))⟩:(A3 I))
def dP (a:(A3 I)):Dir :=
 bif (E (Z.gcd (Z.gcd (Z.gcd (Z.of 0) a.x.dec) a.y.dec) a.z.dec)).1.bad then (⟨(⟨(wl 0),(wl 0),(wl 0)⟩:(A3 W)),(wl 30)⟩:Dir) else (bif ((Z.signW (Z.gcd (Z.gcd (Z.gcd (Z.of 0) a.x.dec) a.y.dec) a.z.dec)).1==0) then (⟨(⟨(wl 0),(wl 0),(wl 0)⟩:(A3 W)),(wl 31)⟩:Dir) else (let r7:I:=(E (Z.quo a.x.dec (Z.gcd (Z.gcd (Z.gcd (Z.of 0) a.x.dec) a.y.dec) a.z.dec)))
 bif r7.dec.small.2 then (let r9:I:=(E (Z.quo a.y.dec (Z.gcd (Z.gcd (Z.gcd (Z.of 0) a.x.dec) a.y.dec) a.z.dec)))
 bif r9.dec.small.2 then (let r11:I:=(E (Z.quo a.z.dec (Z.gcd (Z.gcd (Z.gcd (Z.of 0) a.x.dec) a.y.dec) a.z.dec)))
 bif r11.dec.small.2 then (bif (j5 (⟨(Z.smallW r7.dec),(Z.smallW r9.dec),(Z.smallW r11.dec)⟩:(A3 W))) then (⟨(⟨(Z.smallW r7.dec),(Z.smallW r9.dec),(Z.smallW r11.dec)⟩:(A3 W)),(wl 0)⟩:Dir) else (⟨(⟨(wl 0),(wl 0),(wl 0)⟩:(A3 W)),(wl 30)⟩:Dir)) else (⟨(⟨(wl 0),(wl 0),(wl 0)⟩:(A3 W)),(wl 30)⟩:Dir)) else (⟨(⟨(wl 0),(wl 0),(wl 0)⟩:(A3 W)),(wl 30)⟩:Dir)) else (⟨(⟨(wl 0),(wl 0),(wl 0)⟩:(A3 W)),(wl 30)⟩:Dir)))
def tP (a:(A3 W)):(A3 Rt) :=
 (⟨(fI a.x),(fI a.y),(fI a.z)⟩:(A3 Rt))
def cH (a:Rt) (b:Rt):W :=
 bif (!(cQ a)&&(!(cQ b))) then (wl 0) else (bif (cQ a) then (bif (cQ b) then (cf (cfN a.d) (wl 1) a.n a.d b.n b.d) else (wl 1)) else (wl (-1)))
def gD (a:(A3 W)) (b:(A3 W)):Bool :=
 bif (a.x.1 != b.x.1) then (decide (a.x.1<b.x.1)) else (bif (a.y.1 != b.y.1) then (decide (a.y.1<b.y.1)) else (decide (a.z.1<b.z.1)))
def cT (a:(A3 W)) (b:(A3 W)):(A3 W) :=
 (⟨(W.sub a.x b.x),(W.sub a.y b.y),(W.sub a.z b.z)⟩:(A3 W))
def aF (a:(A3 W)) (b:(A3 W)):W :=
 (W.add (W.add (W.mul a.x b.x) (W.mul a.y b.y)) (W.mul a.z b.z))
def j6 (a:(A3 W)) (b:(A3 W)):(A3 W) :=
 (⟨(W.sub (W.mul a.y b.z) (W.mul a.z b.y)),(W.sub (W.mul a.z b.x) (W.mul a.x b.z)),(W.sub (W.mul a.x b.y) (W.mul a.y b.x))⟩:(A3 W))
def dX (n:W):W :=
 bif decide (n.1<0) then (wl (-1)) else (bif decide (0<n.1) then (wl 1) else (wl 0))
def iI (n:(A3 W)) (c:(A3 W)):W :=
 bif (n.x.1 != 0) then (W.mul (dX n.x) (dX c.x)) else (bif (n.y.1 != 0) then (W.mul (dX n.y) (dX c.y)) else (bif (n.z.1 != 0) then (W.mul (dX n.z) (dX c.z)) else (wl 0)))
def l8 (a:(A3 W)) (b:(A3 W)) (c:(A3 W)):(A3 W) :=
 let r5:(A3 W):=(cT b a)
 let r6:(A3 W):=(cT c a)
 let r7:(A3 W):=(j6 r5 r6)
 let r9:(A3 I):=(nG r7)
 let r10:Dir:=(dP r9)
 r10.v
def iA (l:(List (A3 W))) (n:(A3 W)) (d:W):Nat→Bool→Nat→(Bool×Nat) ⊕ (Bool)
 | 0,below,k=>.inl (below,k)
 | k0+1,below,k=>bif decide ((k:Int)<(l.length:Int)) then (bif decide (d.1<(aF n (l.getD k A30)).1) then (.inr false) else (bif below then (iA l n d k0 true (k+1)) else (iA l n d k0 (decide ((aF n (l.getD k A30)).1<d.1)) (k+1)))) else (.inl (below,k))
def eM (l:(List (A3 W))) (n:(A3 W)) (d:W):Bool :=
 sm (fun (s:Bool×Nat)=>let below:Bool:=s.1
 let k:Nat:=s.2
 below) (fun r=>r) (iA l n d (l.length+1) false 0)
def fY (l:(List (Lo Facet))) (n:(A3 W)):Nat→Nat→(Nat) ⊕ (Bool)
 | 0,k=>.inl k
 | k0+1,k=>bif decide ((k:Int)<(l.length:Int)) then (bif (decide ((((l.getD k mW).x.n).x).1=n.x.1)&&(decide ((((l.getD k mW).x.n).y).1=n.y.1)&&decide ((((l.getD k mW).x.n).z).1=n.z.1))) then (.inr true) else (fY l n k0 (k+1))) else (.inl k)
def k7 (l:(List (Lo Facet))) (n:(A3 W)):Bool :=
 sm (fun (s:Nat)=>let k:Nat:=s
 false) (fun r=>r) (fY l n (l.length+1) 0)
def cF (l:(List (Lo Facet))) (f:(Lo Facet)):Nat→(List (Lo Facet))→Bool→Nat→List (Lo Facet)×Bool×Nat
 | 0,out,put,k=>(out,put,k)
 | k0+1,out,put,k=>bif decide ((k:Int)<(l.length:Int)) then (bif (!put&&(gD f.x.n ((l.getD k mW).x.n))) then (cF l f k0 ((out++[f])++[(l.getD k mW)]) true (k+1)) else (cF l f k0 (out++[(l.getD k mW)]) put (k+1))) else (out,put,k)
def eU (l:(List (Lo Facet))) (f:(Lo Facet)):(List (Lo Facet)) :=
 ap (fun (s:List (Lo Facet)×Bool×Nat)=>let out:List (Lo Facet):=s.1
 let put:Bool:=s.2.1
 let k:Nat:=s.2.2
 bif put then out else (out++[f])) (cF l f (l.length+1) ([]:List (Lo Facet)) false 0)
def kF (a:(List (A3 W))) (b:(List (A3 W))):Nat→Nat→(Nat) ⊕ (Bool)
 | 0,k=>.inl k
 | k0+1,k=>bif decide ((k:Int)<(a.length:Int)) then (bif (decide (((a.getD k A30).x).1=((b.getD k A30).x).1)&&(decide (((a.getD k A30).y).1=((b.getD k A30).y).1)&&decide (((a.getD k A30).z).1=((b.getD k A30).z).1))) then (kF a b k0 (k+1)) else (.inr false)) else (.inl k)
def jF (a:(List (A3 W))) (b:(List (A3 W))):Bool :=
 bif ((a.length:Int) != (b.length:Int)) then false else (sm (fun (s:Nat)=>let k:Nat:=s
 true) (fun r=>r) (kF a b (a.length+1) 0))
def jA (l:(List (A3 W))) (n:(A3 W)) (d:W) (a:(A3 W)) (b:(A3 W)) (r4:(A3 W)):Nat→Nat→(Nat) ⊕ (Bool)
 | 0,k=>.inl k
 | k0+1,k=>bif decide ((k:Int)<(l.length:Int)) then (bif ((aF n (l.getD k A30)).1 != d.1) then (jA l n d a b r4 k0 (k+1)) else (let r23:(A3 W):=(cT (l.getD k A30) a)
 let r25:(A3 W):=(j6 r4 r23)
 bif (decide ((iI n r25).1<0)||(((iI n r25).1==0)&&(decide ((aF r23 r4).1<0)||decide ((aF r4 r4).1<(aF r23 r4).1)))) then (.inr false) else (jA l n d a b r4 k0 (k+1)))) else (.inl k)
def nH (l:(List (A3 W))) (n:(A3 W)) (d:W) (a:(A3 W)) (b:(A3 W)):Bool :=
 let r4:(A3 W):=(cT b a)
 sm (fun (s:Nat)=>let k:Nat:=s
 true) (fun r=>r) (jA l n d a b r4 (l.length+1) 0)
def dK (l:(List (A3 W))) (out:List (A3 W)) (i:Nat):Nat→(List (A3 W))→Bool→Nat→List (A3 W)×Bool×Nat
 | 0,next,put,k=>(next,put,k)
 | k1+1,next,put,k=>bif decide ((k:Int)<(out.length:Int)) then (bif (!put&&((gD (l.getD i A30) (out.getD k A30))||(decide (((l.getD i A30).x).1=((out.getD k A30).x).1)&&(decide (((l.getD i A30).y).1=((out.getD k A30).y).1)&&decide (((l.getD i A30).z).1=((out.getD k A30).z).1))))) then (bif (decide (((out.getD k A30).x).1=((l.getD i A30).x).1)&&(decide (((out.getD k A30).y).1=((l.getD i A30).y).1)&&decide (((out.getD k A30).z).1=((l.getD i A30).z).1))) then (dK l out i k1 (next++[(l.getD i A30)]) true (k+1)) else (dK l out i k1 ((next++[(l.getD i A30)])++[(out.getD k A30)]) true (k+1))) else (bif (decide (((out.getD k A30).x).1=((l.getD i A30).x).1)&&(decide (((out.getD k A30).y).1=((l.getD i A30).y).1)&&decide (((out.getD k A30).z).1=((l.getD i A30).z).1))) then (dK l out i k1 next put (k+1)) else (dK l out i k1 (next++[(out.getD k A30)]) put (k+1)))) else (next,put,k)
def eV (l:(List (A3 W))):Nat→(List (A3 W))→Nat→List (A3 W)×Nat
 | 0,out,i=>(out,i)
 | k0+1,out,i=>bif decide ((i:Int)<(l.length:Int)) then (ap (fun (s:List (A3 W)×Bool×Nat)=>let next:List (A3 W):=s.1
 let put:Bool:=s.2.1
 let k:Nat:=s.2.2
 bif put then (eV l k0 next (i+1)) else (eV l k0 (next++[(l.getD i A30)]) (i+1))) (dK l out i (out.length+1) ([]:List (A3 W)) false 0)) else (out,i)
def aK (l:(List (A3 W))):(List (A3 W)) :=
 ap (fun (s:List (A3 W)×Nat)=>let out:List (A3 W):=s.1
 let i:Nat:=s.2
 out) (eV l (l.length+1) ([]:List (A3 W)) 0)
def iB (l:(List (A3 W))) (n:(A3 W)) (d:W):Nat→Int→Nat→Int×Nat
 | 0,p0,j=>(p0,j)
 | k0+1,p0,j=>bif (decide ((j:Int)<(l.length:Int))&&decide (p0<0)) then (bif ((aF n (l.getD j A30)).1==d.1) then (iB l n d k0 (j:Int) (j+1)) else (iB l n d k0 p0 (j+1))) else (p0,j)
def gG (l:(List (A3 W))) (n:(A3 W)) (d:W) (p0:Int) (j:Nat) (out:List W) (p:Int):Nat→Int→Nat→Int×Nat
 | 0,nx,k=>(nx,k)
 | k2+1,nx,k=>bif (decide ((k:Int)<(l.length:Int))&&decide (nx<0)) then (bif (((k:Int) != p)&&((aF n (l.getD k A30)).1==d.1)) then (bif (nH l n d (l.getD (p.toNat) A30) (l.getD k A30)) then (gG l n d p0 j out p k2 (k:Int) (k+1)) else (gG l n d p0 j out p k2 nx (k+1))) else (gG l n d p0 j out p k2 nx (k+1))) else (nx,k)
def jG (l:(List (A3 W))) (n:(A3 W)) (d:W) (p0:Int) (j:Nat):Nat→(List W)→Int→List W×Int
 | 0,out,p=>(out,p)
 | k1+1,out,p=>bif decide ((out.length:Int)≤(l.length:Int)) then (ap (fun (s:Int×Nat)=>let nx:Int:=s.1
 let k:Nat:=s.2
 bif ((nx==p0)||decide (nx<0)) then ((out++[(W.cv p)]),nx) else (jG l n d p0 j k1 (out++[(W.cv p)]) nx)) (gG l n d p0 j out p (l.length+1) (-1) 0)) else (out,p)
def bH (l:(List (A3 W))) (n:(A3 W)) (d:W):(List W) :=
 ap (fun (s_:Int×Nat)=>let p0:Int:=s_.1
 let j:Nat:=s_.2
 ap (fun (s:List W×Int)=>let out:List W:=s.1
 let p:Int:=s.2
 out) (jG l n d p0 j (l.length+2) ([]:List W) p0)) (iB l n d (l.length+1) (-1) 0)
def sI (put:Bool) (n k:Nat):Prop:=n≤k+1∧(put=false→n≤k)
theorem dD_:sI false 0 0:=⟨by omega,fun _=>by omega⟩
theorem LC {put:Bool} {n k:Nat} (h:sI put n k):sI put (n+1) (k+1):=⟨by have:=h.1;omega,fun e=>by have:=h.2 e;omega⟩
theorem PX {put:Bool} {n k:Nat} (h:sI put n k):sI put n (k+1):=⟨by have:=h.1;omega,fun e=>by have:=h.2 e;omega⟩
theorem TS {put:Bool} {n k:Nat} (h:sI put n k) (e:put=false):sI true (n+1+1) (k+1):=⟨by have:=h.2 e;omega,fun e=>by cases e⟩
theorem ZF {put:Bool} {n k:Nat} (h:sI put n k) (e:put=false):sI true (n+1) (k+1):=⟨by have:=h.2 e;omega,fun e=>by cases e⟩
theorem R6 {put b:Bool} (h:(!put&&b)=true):put=false:=by cases put;rfl;cases h
theorem fR_ {put:Bool} {n k m:Nat} (h:k≤m∧sI put n k) (e:m=k):sI put n m:=by subst e;exact h.2
def pS (l:List (A3 W)) (n:A3 W) (d:W) (k:Nat) (p:Int):Prop:=(p<0→∀ j,j<k→(aF n (l.getD j A30)).1≠d.1)∧-1≤p∧p<(l.length:Int)
section
variable {l:List (A3 W)} {n:A3 W} {d:W} {k:Nat} {p:Int}
theorem fN_:pS l n d 0 (-1):=⟨fun _ j h=>absurd h (Nat.not_lt_zero _),by omega,by omega⟩
theorem dl_ (h:pS l n d k p) (hk:k<l.length):pS l n d (k+1) (k:Int):=⟨fun e=>by omega,by omega,by omega⟩
theorem bc_ (h:pS l n d k p) (e:((aF n (l.getD k A30)).1==d.1)=false):pS l n d (k+1) p:=⟨fun hp j hj=>by
 by_cases e':j=k
 ·subst e';simpa using e
 exact h.1 hp j oo_,h.2⟩
theorem fO_ (h:k≤l.length∧pS l n d k p) (hx:∃ k,k<l.length∧(aF n (l.getD k A30)).1=d.1) (e:(decide ((k:Int)<(l.length:Int))&&decide (p<0))=false):0≤p∧p<(l.length:Int):=by
 refine ⟨?_,h.2.2.2⟩;obtain ⟨j,j1,j2⟩:=hx;rcases Bool.and_eq_false_iff.1 e with e|e
 ·have e:=of_decide_eq_false e
  by_cases h0:p<0
  ·exact absurd j2 (h.2.1 h0 j oo_)
  omega
 have:=of_decide_eq_false e;omega
end
def uQ (l:List Facet) (n:A3 W):Bool:=k7 (l.map lo0) n
def nA (l:List Facet) (z:Facet):List Facet:=(eU (l.map lo0) (lo0 z)).map Lo.x
theorem aS_ (l:List (Lo Facet)) (k:Nat):(l.getD k mW).x=(l.map Lo.x).getD k nT:=by
 rw [List.getD_eq_getElem?_getD,List.getD_eq_getElem?_getD,List.getElem?_map]
 cases l[k]?<;>rfl
theorem S8 (l:List Facet):(l.map lo0).map Lo.x=l:=by rw [List.map_map];exact List.map_id' l
theorem H8 {l l':List (Lo Facet)} (h:l.map Lo.x=l'.map Lo.x) (n:A3 W):∀ f k,fY l n f k=fY l' n f k
 | 0,k=>rfl
 | f+1,k=>by
  have hl:l.length=l'.length:=by have:=congrArg List.length h;simpa using this
  unfold fY;rw [aS_,aS_,h,hl,H8 h n f (k+1)]
theorem FE (H:List (Lo Facet)) (n:A3 W):k7 H n=uQ (H.map Lo.x) n:=by
 have h:H.map Lo.x=((H.map Lo.x).map lo0).map Lo.x:=(S8 _).symm
 have hl:H.length=((H.map Lo.x).map lo0).length:=by simp
 unfold uQ k7;rw [H8 h,hl]
theorem H5 {l l':List (Lo Facet)} (h:l.map Lo.x=l'.map Lo.x) {z z':Lo Facet} (hz:z.x=z'.x):∀ (f:Nat) (out out':List (Lo Facet)) (put:Bool) (k:Nat),out.map Lo.x=out'.map Lo.x →
  (cF l z f out put k).1.map Lo.x=(cF l' z' f out' put k).1.map Lo.x∧(cF l z f out put k).2.1=(cF l' z' f out' put k).2.1
 | 0,out,out',put,k,ho=>⟨ho,rfl⟩
 | f+1,out,out',put,k,ho=>by
  have hl:l.length=l'.length:=by have:=congrArg List.length h;simpa using this
  have hg:(l.getD k mW).x=(l'.getD k mW).x:=by rw [aS_,aS_,h]
  unfold cF;rw [← hl,← hz,← hg]
  cases decide ((k:Int)<(l.length:Int))
  ·exact ⟨ho,rfl⟩
  simp only [cond_true]
  cases (!put&&gD z.x.n ((l.getD k mW).x.n))
  ·simp only [cond_false]
   exact H5 h hz f _ _ _ _ (by simp only [List.map_append,ho,List.map_cons,List.map_nil,hg])
  simp only [cond_true];exact H5 h hz f _ _ _ _ (by simp only [List.map_append,ho,List.map_cons,List.map_nil,hg,hz])
theorem DZ (H:List (Lo Facet)) (z:Lo Facet):(eU H z).map Lo.x=nA (H.map Lo.x) z.x:=by
 have h:H.map Lo.x=((H.map Lo.x).map lo0).map Lo.x:=(S8 _).symm
 have hl:H.length=((H.map Lo.x).map lo0).length:=by simp
 have k:=H5 h (z:=z) (z':=lo0 z.x) O (H.length+1) [] [] false 0 O;unfold nA eU;rw [← hl];generalize cF H z (H.length+1) [] false 0=a at k ⊢;generalize cF ((H.map Lo.x).map lo0) (lo0 z.x) (H.length+1) [] false 0=b at k ⊢;obtain ⟨a1,a2,a3⟩:=a;obtain ⟨b1,b2,b3⟩:=b;obtain ⟨k1,k2⟩:=k;simp only at k1 k2;subst k2;simp only [ap]
 cases a2
 ·simp only [cond_false,List.map_append,k1];rfl
 simp only [cond_true,k1]
theorem HZ {α:Type} {l:List α} {k:Nat} {d:α} (h:k<l.length):l.getD k d∈l:=by
 rw [List.getD_eq_getElem?_getD,List.getElem?_eq_getElem h];exact List.getElem_mem h
theorem MV (l:List (Lo Facet)) (z:Lo Facet):∀ (f:Nat) (out:List (Lo Facet)) (put:Bool) (k:Nat),(∀ h∈out,h=z∨h∈l)→sI put out.length k →
  (∀ h∈(cF l z f out put k).1,h=z∨h∈l)∧sI (cF l z f out put k).2.1 (cF l z f out put k).1.length (max k l.length)
 | 0,out,put,k,ho,hs=>⟨ho,⟨Nat.le_trans hs.1 oo_,fun e=>Nat.le_trans (hs.2 e) oo_⟩⟩
 | f+1,out,put,k,ho,hs=>by
  unfold cF
  by_cases hk:k<l.length
  ·rw [decide_eq_true oo_,cond_true]
   have hm:=HZ (d:=mW) hk
   have e:max k l.length=max (k+1) l.length:=by omega
   rw [e]
   cases hp:(!put&&gD z.x.n ((l.getD k mW).x.n))
   ·simp only [cond_false]
    refine MV l z f _ _ _ (fun h hh=>?_) (by rw [List.length_append];exact LC hs);rcases List.mem_append.1 hh with hh|hh
    ·exact ho h hh
    rw [List.mem_singleton.1 hh];exact .inr hm
   simp only [cond_true];refine MV l z f _ _ _ (fun h hh=>?_) (by rw [List.length_append,List.length_append];exact TS hs (R6 hp));rcases List.mem_append.1 hh with hh|hh
   ·rcases List.mem_append.1 hh with hh|hh
    ·exact ho h hh
    exact .inl (List.mem_singleton.1 hh)
   rw [List.mem_singleton.1 hh];exact .inr hm
  rw [decide_eq_false oo_,cond_false];exact ⟨ho,⟨Nat.le_trans hs.1 oo_,fun e=>Nat.le_trans (hs.2 e) oo_⟩⟩
theorem FY (l:List (Lo Facet)) (z:Lo Facet):(∀ h∈eU l z,h=z∨h∈l)∧(eU l z).length≤l.length+1:=by
 have k:=MV l z (l.length+1) [] false 0 (fun h hh=>by cases hh) dD_;unfold eU;generalize cF l z (l.length+1) [] false 0=a at k ⊢;obtain ⟨a1,a2,a3⟩:=a;obtain ⟨k1,k2⟩:=k;simp only [ap] at k1 k2 ⊢
 cases a2
 ·simp only [cond_false]
  refine ⟨fun h hh=>?_,?_⟩
  ·rcases List.mem_append.1 hh with hh|hh
   ·exact k1 h hh
   exact .inl (List.mem_singleton.1 hh)
  have:=k2.2 O;rw [List.length_append];simp only [List.length_singleton];omega
 simp only [cond_true];refine ⟨k1,?_⟩;have:=k2.1;omega
theorem D0 (l:List (Lo Facet)) (z:Lo Facet):∀ h∈eU l z,h=z∨h∈l:=(FY l z).1
theorem CA (l:List Facet) (z:Facet):(nA l z).length≤l.length+1:=by
 have:=(FY (l.map lo0) (lo0 z)).2;unfold nA;rw [List.length_map];rwa [List.length_map] at this
open Go Go.Kn
def fP (l:(List (A3 W))) (out:List Facet) (i:Nat) (out1:List Facet) (j:Nat):Nat→(List Facet)→Nat→List Facet×Nat
 | 0,out2,k=>(out2,k)
 | k2+1,out2,k=>bif decide ((k:Int)<(l.length:Int)) then (let r7:(A3 W):=(l8 (l.getD i A30) (l.getD j A30) (l.getD k A30))
 bif (!(uQ out2 r7)&&(!(decide (r7.x.1=0)&&(decide (r7.y.1=0)&&decide (r7.z.1=0)))&&(eM l r7 (aF r7 (l.getD i A30))))) then (let r33:(A3 W):=(cT (⟨(wl 0),(wl 0),(wl 0)⟩:(A3 W)) r7)
 bif (!(uQ (nA out2 ⟨r7,(aF r7 (l.getD i A30)),(bH l r7 (aF r7 (l.getD i A30)))⟩) r33)&&(!(decide (r33.x.1=0)&&(decide (r33.y.1=0)&&decide (r33.z.1=0)))&&(eM l r33 (aF r33 (l.getD i A30))))) then (let r58:(A3 W):=(cT (⟨(wl 0),(wl 0),(wl 0)⟩:(A3 W)) r33)
 (fP l out i out1 j k2 (nA (nA out2 ⟨r7,(aF r7 (l.getD i A30)),(bH l r7 (aF r7 (l.getD i A30)))⟩) ⟨r33,(aF r33 (l.getD i A30)),(bH l r33 (aF r33 (l.getD i A30)))⟩) (k+1))) else (let r59:(A3 W):=(cT (⟨(wl 0),(wl 0),(wl 0)⟩:(A3 W)) r33)
 (fP l out i out1 j k2 (nA out2 ⟨r7,(aF r7 (l.getD i A30)),(bH l r7 (aF r7 (l.getD i A30)))⟩) (k+1)))) else (let r60:(A3 W):=(cT (⟨(wl 0),(wl 0),(wl 0)⟩:(A3 W)) r7)
 bif (!(uQ out2 r60)&&(!(decide (r60.x.1=0)&&(decide (r60.y.1=0)&&decide (r60.z.1=0)))&&(eM l r60 (aF r60 (l.getD i A30))))) then (let r85:(A3 W):=(cT (⟨(wl 0),(wl 0),(wl 0)⟩:(A3 W)) r60)
 (fP l out i out1 j k2 (nA out2 ⟨r60,(aF r60 (l.getD i A30)),(bH l r60 (aF r60 (l.getD i A30)))⟩) (k+1))) else (let r86:(A3 W):=(cT (⟨(wl 0),(wl 0),(wl 0)⟩:(A3 W)) r60)
 (fP l out i out1 j k2 out2 (k+1))))) else (out2,k)
def jP (l:(List (A3 W))) (out:List Facet) (i:Nat):Nat→(List Facet)→Nat→List Facet×Nat
 | 0,out1,j=>(out1,j)
 | k1+1,out1,j=>bif decide ((j:Int)<(l.length:Int)) then (ap (fun (s:List Facet×Nat)=>let out2:List Facet:=s.1
 let k:Nat:=s.2
 (jP l out i k1 out2 (j+1))) (fP l out i out1 j (l.length+1) out1 (j+1))) else (out1,j)
def jO (l:(List (A3 W))):Nat→(List Facet)→Nat→List Facet×Nat
 | 0,out,i=>(out,i)
 | k0+1,out,i=>bif decide ((i:Int)<(l.length:Int)) then (ap (fun (s:List Facet×Nat)=>let out1:List Facet:=s.1
 let j:Nat:=s.2
 (jO l k0 out1 (i+1))) (jP l out i (l.length+1) out (i+1))) else (out,i)
def aT (l:(List (A3 W))):(List Facet) :=
 ap (fun (s:List Facet×Nat)=>let out:List Facet:=s.1
 let i:Nat:=s.2
 out) (jO l (l.length+1) ([]:List Facet) 0)
def gF (l:(List (A3 W))):Nat→Nat→(Nat) ⊕ (HShape)
 | 0,j0=>.inl j0
 | k0+1,j0=>bif decide ((j0:Int)<(l.length:Int)) then (bif (decide (262144<((l.getD j0 A30).x).1)||decide (((l.getD j0 A30).x).1<(-262144))) then (.inr (⟨(⟨([]:List (A3 W))⟩:Convex),(wl 1)⟩:HShape)) else (bif (decide (262144<((l.getD j0 A30).y).1)||decide (((l.getD j0 A30).y).1<(-262144))) then (.inr (⟨(⟨([]:List (A3 W))⟩:Convex),(wl 1)⟩:HShape)) else (bif (decide (262144<((l.getD j0 A30).z).1)||decide (((l.getD j0 A30).z).1<(-262144))) then (.inr (⟨(⟨([]:List (A3 W))⟩:Convex),(wl 1)⟩:HShape)) else (gF l k0 (j0+1))))) else (.inl j0)
def kE (l:(List (A3 W))) (j0:Nat) (i:Nat) (vs:List (A3 W)) (is:Bool) (k:Nat):Nat→Bool→Nat→Bool×Nat
 | 0,is1,j=>(is1,j)
 | k3+1,is1,j=>bif decide ((j:Int)<((((aT (aK l)).getD k nT).ats).length:Int)) then (kE l j0 i vs is k k3 (is1||(((((aT (aK l)).getD k nT).ats).getD j W.z).1==(i:Int))) (j+1)) else (is1,j)
def kC (l:(List (A3 W))) (j0:Nat) (i:Nat) (vs:List (A3 W)):Nat→Bool→Nat→Bool×Nat
 | 0,is,k=>(is,k)
 | k2+1,is,k=>bif decide ((k:Int)<((aT (aK l)).length:Int)) then (ap (fun (s:Bool×Nat)=>let is1:Bool:=s.1
 let j:Nat:=s.2
 (kC l j0 i vs k2 is1 (k+1))) (kE l j0 i vs is k (((aT (aK l)).getD k nT).ats.length+1) is 0)) else (is,k)
def i9 (l:(List (A3 W))) (j0:Nat):Nat→Nat→(List (A3 W))→Nat×List (A3 W)
 | 0,i,vs=>(i,vs)
 | k1+1,i,vs=>bif decide ((i:Int)<((aK l).length:Int)) then (ap (fun (s:Bool×Nat)=>let is:Bool:=s.1
 let k:Nat:=s.2
 bif is then (i9 l j0 k1 (i+1) (vs++[((aK l).getD i A30)])) else (i9 l j0 k1 (i+1) vs)) (kC l j0 i vs ((aT (aK l)).length+1) false 0)) else (i,vs)
def cN (l:(List (A3 W))):HShape :=
 bif decide (64<(l.length:Int)) then (⟨(⟨([]:List (A3 W))⟩:Convex),(wl 2)⟩:HShape) else (sm (fun (s_:Nat)=>let j0:Nat:=s_
 bif (((aT (aK l)).length:Int)==0) then (⟨(⟨([]:List (A3 W))⟩:Convex),(wl 120)⟩:HShape) else (bif decide (64<((aT (aK l)).length:Int)) then (⟨(⟨([]:List (A3 W))⟩:Convex),(wl 2)⟩:HShape) else (ap (fun (s:Nat×List (A3 W))=>let i:Nat:=s.1
 let vs:List (A3 W):=s.2
 (⟨(⟨vs⟩:Convex),(wl 0)⟩:HShape)) (i9 l j0 ((aK l).length+1) 0 ([]:List (A3 W)))))) (fun r=>r) (gF l (l.length+1) 0))
def iZ (c:(List (A3 W))):W :=
 bif ((((cN c).e).1==0)&&(!(jF (((cN c).c).v) c))) then (wl 3) else ((cN c).e)
def e8 (c:(List (A3 W))):Bool :=
 (decide ((c.length:Int)≤10)&&((iZ c).1==0))
def kR (a:W) (b:W):Nat→W→W→W×W
 | 0,p,q=>(p,q)
 | k0+1,p,q=>bif (q.1 != 0) then (kR a b k0 q (W.rem p q)) else (p,q)
def aB (a:W) (b:W):W :=
 ap (fun (s:W×W)=>let p:W:=s.1
 let q:W:=s.2
 (W.max p (W.neg p))) (kR a b (b.1.natAbs+1) a b)
def gR (a:(A4 W)):Bool :=
 bif (decide (64<a.x.1)||decide (a.x.1<(-64))) then false else (bif (decide (64<a.y.1)||decide (a.y.1<(-64))) then false else (bif (decide (64<a.z.1)||decide (a.z.1<(-64))) then false else (bif (decide (64<a.t.1)||decide (a.t.1<(-64))) then false else true)))
def aY (a:W):W :=
 bif decide (a.1<0) then (wl (-1)) else (W.min a (wl 1))
def eE (a:(A4 W)):(A4 W)×Bool :=
 let r4:W:=(bif (a.t.1 != 0) then (aY a.t) else (wl 0))
 let r11:W:=(bif (a.y.1 != 0) then (aY a.y) else (bif (a.z.1 != 0) then (aY a.z) else r4))
 bif ((W.mul (bif (a.x.1 != 0) then (aY a.x) else r11) (W.max (aB (aB (aB (aB (wl 0) a.t) a.z) a.y) a.x) (W.neg (aB (aB (aB (aB (wl 0) a.t) a.z) a.y) a.x)))).1==0) then ((⟨(wl 0),(wl 0),(wl 0),(wl 0)⟩:(A4 W)),false) else ((⟨(W.quo a.x (W.mul (bif (a.x.1 != 0) then (aY a.x) else r11) (W.max (aB (aB (aB (aB (wl 0) a.t) a.z) a.y) a.x) (W.neg (aB (aB (aB (aB (wl 0) a.t) a.z) a.y) a.x))))),(W.quo a.y (W.mul (bif (a.x.1 != 0) then (aY a.x) else r11) (W.max (aB (aB (aB (aB (wl 0) a.t) a.z) a.y) a.x) (W.neg (aB (aB (aB (aB (wl 0) a.t) a.z) a.y) a.x))))),(W.quo a.z (W.mul (bif (a.x.1 != 0) then (aY a.x) else r11) (W.max (aB (aB (aB (aB (wl 0) a.t) a.z) a.y) a.x) (W.neg (aB (aB (aB (aB (wl 0) a.t) a.z) a.y) a.x))))),(W.quo a.t (W.mul (bif (a.x.1 != 0) then (aY a.x) else r11) (W.max (aB (aB (aB (aB (wl 0) a.t) a.z) a.y) a.x) (W.neg (aB (aB (aB (aB (wl 0) a.t) a.z) a.y) a.x)))))⟩:(A4 W)),true)
def fD (a:(A4 W)):Bool :=
 bif (gR a) then (let r3:(A4 W):=(eE a).1
 ((eE a).2&&(decide (r3.x.1=a.x.1)&&(decide (r3.y.1=a.y.1)&&(decide (r3.z.1=a.z.1)&&decide (r3.t.1=a.t.1)))))) else (false)
def BL (a:(A4 W)) (b:(A4 W)):W :=
 (W.add (W.add (W.add (W.mul a.x b.x) (W.mul a.y b.y)) (W.mul a.z b.z)) (W.mul a.t b.t))
def mM (a:I):I :=
 a
def o4 (a:I):Bool :=
 (!a.1.bad&&a.1.valid)
def F_poly_bad :(List I) :=
 let q0:I:=(E Z.bad)
 [q0]
def jI (n:Int) (f:Nat→I) (o:I→I):Nat→(List I)→Nat→(List I×Nat) ⊕ (List I)
 | 0,out,i=>.inl (out,i)
 | k0+1,out,i=>bif decide ((i:Int)<(n.toNat:Int)) then (bif (o4 (o (f i))) then (jI n f o k0 (out++[(o (f i))]) (i+1)) else (.inr F_poly_bad)) else (.inl (out,i))
def jJ (n:Int) (f:Nat→I) (o:I→I) (out:List I) (i:Nat):Nat→(List I)→List I
 | 0,cut=>cut
 | k1+1,cut=>bif (decide (0<(cut.length:Int))&&((Z.signW (cut.getD (cut.length - 1) I0).dec).1==0)) then (jJ n f o out i k1 (cut.take (cut.length - 1))) else (cut)
def jH (n:Int) (f:Nat→I) (o:I→I):(List I) :=
 sm (fun (s_:List I×Nat)=>let out:List I:=s_.1
 let i:Nat:=s_.2
 ap (fun (s:List I)=>let cut:List I:=s
 bif decide (25<(cut.length:Int)) then F_poly_bad else cut) (jJ n f o out i (out.length+1) out)) (fun r=>r) (jI n f o (n.toNat+1) ([]:List I) 0)
def kT (n:Int) (f:Nat→Go.Num.W) (o:Go.Num.W→I):Nat→(List I)→Nat→(List I×Nat) ⊕ (List I)
 | 0,out,i=>.inl (out,i)
 | k0+1,out,i=>bif decide ((i:Int)<(n.toNat:Int)) then (bif (o4 (o (f i))) then (kT n f o k0 (out++[(o (f i))]) (i+1)) else (.inr F_poly_bad)) else (.inl (out,i))
def kU (n:Int) (f:Nat→Go.Num.W) (o:Go.Num.W→I) (out:List I) (i:Nat):Nat→(List I)→List I
 | 0,cut=>cut
 | k1+1,cut=>bif (decide (0<(cut.length:Int))&&((Z.signW (cut.getD (cut.length - 1) I0).dec).1==0)) then (kU n f o out i k1 (cut.take (cut.length - 1))) else (cut)
def mX (n:Int) (f:Nat→Go.Num.W) (o:Go.Num.W→I):(List I) :=
 sm (fun (s_:List I×Nat)=>let out:List I:=s_.1
 let i:Nat:=s_.2
 ap (fun (s:List I)=>let cut:List I:=s
 bif decide (25<(cut.length:Int)) then F_poly_bad else cut) (kU n f o out i (out.length+1) out)) (fun r=>r) (kT n f o (n.toNat+1) ([]:List I) 0)
def kZ (l:(List I)) (f:I→Bool):Nat→Nat→(Nat) ⊕ (W)
 | 0,i=>.inl i
 | k0+1,i=>bif decide ((i:Int)<(l.length:Int)) then (bif (f (l.getD i I0)) then (.inr (W.cv (i:Int))) else (kZ l f k0 (i+1))) else (.inl i)
def tT (l:(List I)) (f:I→Bool):W :=
 sm (fun (s:Nat)=>let i:Nat:=s
 (wl (-1))) (fun r=>r) (kZ l f (l.length+1) 0)
def rN (l:(List I)) (f:I→Bool):Bool :=
 (decide (0≤(tT l f).1))
def uJ (a:I):Bool :=
 (!(o4 a))
def gB (p:(List I)):Bool :=
 (rN p (fun (y:I)=>(uJ y)))
def mT (l:(List Rt)) (f:Rt→Bool):Nat→Nat→(Nat) ⊕ (W)
 | 0,i=>.inl i
 | k0+1,i=>bif decide ((i:Int)<(l.length:Int)) then (bif (f (l.getD i Rt0)) then (.inr (W.cv (i:Int))) else (mT l f k0 (i+1))) else (.inl i)
def sG (l:(List Rt)) (f:Rt→Bool):W :=
 sm (fun (s:Nat)=>let i:Nat:=s
 (wl (-1))) (fun r=>r) (mT l f (l.length+1) 0)
def tK (l:(List Rt)) (f:Rt→Bool):Bool :=
 (decide (0≤(sG l f).1))
def pF (a:Rt):Bool :=
 (!(cQ a))
def tU (l:(List Rt)):Bool :=
 (!(tK l (fun (y:Rt)=>(pF y))))
def wF (k:Nat) (l:(List W)):W :=
 (l.getD k W.z)
def dA (l:(List W)):(List I) :=
 (mX (l.length:Int) (fun (y:Nat)=>(wF y l)) (fun (y:Go.Num.W)=>(E (Z.of y.1))))
def mU (p:(List I)) (k:Int):I :=
 bif (decide (k<0)||decide ((p.length:Int)≤k)) then I0 else (p.getD (k.toNat) I0)
def rB (k:Nat) (f:I→I→I) (p:(List I)) (q:(List I)):I :=
 (f (mU p (k:Int)) (mU q (k:Int)))
def jU (p:(List I)) (q:(List I)) (f:I→I→I):(List I) :=
 bif ((gB p)||(gB q)) then F_poly_bad else (jH (((max (p.length) (q.length)):Nat):Int) (fun (y:Nat)=>(rB y f p q)) (fun (y:I)=>(mM y)))
def bP (p:(List I)) (q:(List I)):(List I) :=
 (jU p q (fun (y:I) (z:I)=>(E (Z.add y.dec z.dec))))
def rP (p:(List I)) (q:(List I)):(List I) :=
 (jU p q (fun (y:I) (z:I)=>(E (Z.sub y.dec z.dec))))
def j9 (k:Nat) (q:(List I)) (p:(List I)):Nat→Nat→I→Nat×I
 | 0,i,mb2=>(i,mb2)
 | k0+1,i,mb2=>bif decide ((i:Int)≤(min (k:Int) ((p.length:Int) - 1))) then (j9 k q p k0 (i+1) (E (Z.add mb2.dec (Z.mul (p.getD i I0).dec (q.getD (k - i) I0).dec)))) else (i,mb2)
def o0 (k:Nat) (q:(List I)) (p:(List I)):I :=
 ap (fun (s:Nat×I)=>let i:Nat:=s.1
 let mb2:I:=s.2
 mb2) (j9 k q p (k+2) ((((k:Int) - (q.length:Int))+1).toNat) I0)
def bE (p:(List I)) (q:(List I)):(List I) :=
 bif ((gB p)||(gB q)) then F_poly_bad else (bif (((p.length:Int)==0)||((q.length:Int)==0)) then ([]:List I) else (jH ((((p.length+(q).length):Nat):Int) - 1) (fun (y:Nat)=>(o0 y q p)) (fun (y:I)=>(mM y))))
def pW (a:I) (b:I) (n:I):I :=
 (E (Z.mul a.dec n.dec))
def cS (p:(List I)) (n:I):(List I) :=
 bif (o4 n) then (jU p ([]:List I) (fun (y:I) (z:I)=>(pW y z n))) else (F_poly_bad)
def i5 (d:I) (n:Int):Nat→(List I)→List I
 | 0,out=>out
 | k0+1,out=>bif decide ((out.length:Int)<n) then (i5 d n k0 (out++[(E (Z.mul (out.getD (out.length - 1) I0).dec d.dec))])) else (out)
def fQ (d:I) (n:Int):(List I) :=
 ap (fun (s:List I)=>let out:List I:=s
 out) (i5 d n (n.toNat+1) [(E (Z.of 1))])
def iT (p:(List I)) (x:Rt):Nat→Int→I→Int×I
 | 0,i,mb3=>(i,mb3)
 | k0+1,i,mb3=>bif decide (0≤i) then (let r25:I:=(E (Z.mul (p.getD (i.toNat) I0).dec ((fQ x.d (p.length:Int)).getD ((p.length - 1) - i.toNat) I0).dec))
 (iT p x k0 (i - 1) (E (Z.add (Z.mul mb3.dec x.n.dec) r25.dec)))) else (i,mb3)
def iG (p:(List I)) (x:Rt):I×I :=
 bif ((gB p)||(!(tU [x]))) then ((E Z.bad),(E (Z.of 1))) else (ap (fun (s:Int×I)=>let i:Int:=s.1
 let mb3:I:=s.2
 (mb3,((fQ x.d (p.length:Int)).getD (((p.length:Int) - 1).toNat) I0))) (iT p x (p.length+1) ((p.length:Int) - 1) I0))
def fG (p:(List I)) (x:Rt):Rt :=
 let r3:Rt:=(cK ((iG p x).1) ((iG p x).2))
 r3
def fO (a:I):Bool :=
 (!a.1.bad&&a.1.valid)
def F_skewbackref08_bad :(List I) :=
 let q0:I:=(E Z.bad)
 [q0]
def gE (l:(List I)):Nat→Int→Nat→(Int×Nat) ⊕ (List I)
 | 0,last,i=>.inl (last,i)
 | k0+1,last,i=>bif decide ((i:Int)<(l.length:Int)) then (bif (fO (l.getD i I0)) then (bif ((Z.signW (l.getD i I0).dec).1 != 0) then (gE l k0 (i:Int) (i+1)) else (gE l k0 last (i+1))) else (.inr F_skewbackref08_bad)) else (.inl (last,i))
def gY (l:(List I)) (last:Int) (i:Nat):Nat→(List I)→Nat→List I×Nat
 | 0,out,j=>(out,j)
 | k1+1,out,j=>bif decide ((j:Int)≤last) then (gY l last i k1 (out++[(l.getD j I0)]) (j+1)) else (out,j)
def eH (l:(List I)):(List I) :=
 sm (fun (s_:Int×Nat)=>let last:Int:=s_.1
 let i:Nat:=s_.2
 bif decide (24<last) then F_skewbackref08_bad else (ap (fun (s:List I×Nat)=>let out:List I:=s.1
 let j:Nat:=s.2
 out) (gY l last i ((last+1).toNat+1) ([]:List I) 0))) (fun r=>r) (gE l (l.length+1) (-1) 0)
def lB (l:(List W)):Nat→(List I)→Nat→List I×Nat
 | 0,out,i=>(out,i)
 | k0+1,out,i=>bif decide ((i:Int)<(l.length:Int)) then (lB l k0 (out++[(E (Z.of (l.getD i W.z).1))]) (i+1)) else (out,i)
def dG (l:(List W)):(List I) :=
 ap (fun (s:List I×Nat)=>let out:List I:=s.1
 let i:Nat:=s.2
 (eH out)) (lB l (l.length+1) ([]:List I) 0)
def fX (p:(List I)):Nat→Nat→(Nat) ⊕ (Bool)
 | 0,i=>.inl i
 | k0+1,i=>bif decide ((i:Int)<(p.length:Int)) then (bif (fO (p.getD i I0)) then (fX p k0 (i+1)) else (.inr true)) else (.inl i)
def dY (p:(List I)):Bool :=
 sm (fun (s:Nat)=>let i:Nat:=s
 false) (fun r=>r) (fX p (p.length+1) 0)
def qS (p:(List I)) (k:Int):I :=
 bif (decide (k<0)||decide ((p.length:Int)≤k)) then I0 else (p.getD (k.toNat) I0)
def sW (p:(List I)) (q:(List I)):Nat→(List I)→Nat→List I×Nat
 | 0,out,i=>(out,i)
 | k0+1,out,i=>bif decide ((i:Int)<(((max (p.length) (q.length)):Nat):Int)) then (let r11:I:=(E (Z.add (qS p (i:Int)).dec (qS q (i:Int)).dec))
 (sW p q k0 (out++[r11]) (i+1))) else (out,i)
def eO (p:(List I)) (q:(List I)):(List I) :=
 bif ((dY p)||(dY q)) then F_skewbackref08_bad else (ap (fun (s:List I×Nat)=>let out:List I:=s.1
 let i:Nat:=s.2
 (eH out)) (sW p q ((max p.length q.length)+1) ([]:List I) 0))
def sZ (p:(List I)) (q:(List I)):Nat→(List I)→Nat→List I×Nat
 | 0,out,i=>(out,i)
 | k0+1,out,i=>bif decide ((i:Int)<(((max (p.length) (q.length)):Nat):Int)) then (let r11:I:=(E (Z.sub (qS p (i:Int)).dec (qS q (i:Int)).dec))
 (sZ p q k0 (out++[r11]) (i+1))) else (out,i)
def DC (p:(List I)) (q:(List I)):(List I) :=
 bif ((dY p)||(dY q)) then F_skewbackref08_bad else (ap (fun (s:List I×Nat)=>let out:List I:=s.1
 let i:Nat:=s.2
 (eH out)) (sZ p q ((max p.length q.length)+1) ([]:List I) 0))
def oT (p:(List I)) (q:(List I)) (out:List I) (k:Nat):Nat→Nat→I→Nat×I
 | 0,i,mb17=>(i,mb17)
 | k1+1,i,mb17=>bif decide ((i:Int)≤(k:Int)) then (bif (decide ((i:Int)<(p.length:Int))&&decide (((k:Int) - (i:Int))<(q.length:Int))) then (oT p q out k k1 (i+1) (E (Z.add mb17.dec (Z.mul (p.getD i I0).dec (q.getD (k - i) I0).dec)))) else (oT p q out k k1 (i+1) mb17)) else (i,mb17)
def sY (p:(List I)) (q:(List I)):Nat→(List I)→Nat→List I×Nat
 | 0,out,k=>(out,k)
 | k0+1,out,k=>bif decide ((k:Int)<((((p.length+(q).length):Nat):Int) - 1)) then (ap (fun (s:Nat×I)=>let i:Nat:=s.1
 let mb17:I:=s.2
 (sY p q k0 (out++[mb17]) (k+1))) (oT p q out k (k+2) 0 I0)) else (out,k)
def mK (p:(List I)) (q:(List I)):(List I) :=
 bif ((dY p)||(dY q)) then F_skewbackref08_bad else (bif (((p.length:Int)==0)||((q.length:Int)==0)) then ([]:List I) else (ap (fun (s:List I×Nat)=>let out:List I:=s.1
 let k:Nat:=s.2
 (eH out)) (sY p q (p.length+q.length) ([]:List I) 0)))
def rI (p:(List I)) (n:I):Nat→(List I)→Nat→List I×Nat
 | 0,out,i=>(out,i)
 | k0+1,out,i=>bif decide ((i:Int)<(p.length:Int)) then (rI p n k0 (out++[(E (Z.mul (p.getD i I0).dec n.dec))]) (i+1)) else (out,i)
def fV (p:(List I)) (n:I):(List I) :=
 bif ((dY p)||(!(fO n))) then F_skewbackref08_bad else (ap (fun (s:List I×Nat)=>let out:List I:=s.1
 let i:Nat:=s.2
 (eH out)) (rI p n (p.length+1) ([]:List I) 0))
def kA (a:(List I)) (b:(List I)):Nat→Nat→(Nat) ⊕ (Bool)
 | 0,i=>.inl i
 | k0+1,i=>bif decide ((i:Int)<(a.length:Int)) then (bif decide ((a.getD i I0)=(b.getD i I0)) then (kA a b k0 (i+1)) else (.inr false)) else (.inl i)
def lM (a:(List I)) (b:(List I)):Bool :=
 bif ((a.length:Int) != (b.length:Int)) then false else (sm (fun (s:Nat)=>let i:Nat:=s
 true) (fun r=>r) (kA a b (a.length+1) 0))
structure Pose where
 x:A3 W
 q:A4 W
structure Path where
 from_:Pose
 to_:Pose
structure A6 (α:Type) where
 x0:α
 x1:α
 x2:α
 x3:α
 x4:α
 x5:α
structure Rope where
 a:W
 b:W
 p:A3 W
 q:A3 W
structure End where
 n:W
 v:A3 W
structure Pull where
 a:W
 b:W
 p:A3 Rt
 q:A3 Rt
structure Spot where
 x:A3 Rt
 e:W
structure Pulled where
 p:Pull
 e:W
structure Cols where
 a:A6 Rt
 b:A6 Rt
 e:W
structure Times where
 l:List Rt
 e:W
structure Paths where
 l:List Path
 e:W
structure Done where
 w:I
 e:W
structure Moving where
 n:A3 (List I)
 s:List I
structure Curve where
 p:List I
 e:W
def cZ (a:Pose):W :=
 bif (decide (140737488355328≤a.x.x.1)||decide (a.x.x.1≤(-140737488355328))) then (wl 1) else (bif (decide (140737488355328≤a.x.y.1)||decide (a.x.y.1≤(-140737488355328))) then (wl 1) else (bif (decide (140737488355328≤a.x.z.1)||decide (a.x.z.1≤(-140737488355328))) then (wl 1) else (bif (fD a.q) then (wl 0) else (wl 1))))
def nI (h:Path):(A4 (List I)) :=
 bif decide ((BL h.from_.q h.to_.q).1<0) then (⟨(dG [h.from_.q.x,(W.sub (W.mul (wl (-1)) h.to_.q.x) h.from_.q.x)]),(dG [h.from_.q.y,(W.sub (W.mul (wl (-1)) h.to_.q.y) h.from_.q.y)]),(dG [h.from_.q.z,(W.sub (W.mul (wl (-1)) h.to_.q.z) h.from_.q.z)]),(dG [h.from_.q.t,(W.sub (W.mul (wl (-1)) h.to_.q.t) h.from_.q.t)])⟩:(A4 (List I))) else (⟨(dG [h.from_.q.x,(W.sub (W.mul (wl 1) h.to_.q.x) h.from_.q.x)]),(dG [h.from_.q.y,(W.sub (W.mul (wl 1) h.to_.q.y) h.from_.q.y)]),(dG [h.from_.q.z,(W.sub (W.mul (wl 1) h.to_.q.z) h.from_.q.z)]),(dG [h.from_.q.t,(W.sub (W.mul (wl 1) h.to_.q.t) h.from_.q.t)])⟩:(A4 (List I)))
def iJ (p:(List I)):(List I) :=
 (mK p p)
def BM (h:Path):(List I) :=
 (eO (eO (iJ ((nI h).x)) (iJ ((nI h).y))) (eO (iJ ((nI h).z)) (iJ ((nI h).t))))
def k8 (a:(List I)) (b:(List I)) (c:(List I)) (d:(List I)) (k:W):(List I) :=
 (fV (eO (mK a b) (fV (mK c d) (E (Z.of k.1)))) (E (Z.of 2)))
def pG (a:(List I)) (b:(List I)) (c:(List I)) (d:(List I)):(List I) :=
 (DC (eO (iJ a) (iJ b)) (eO (iJ c) (iJ d)))
def AE (h:Path) (v:(A3 W)):Moving :=
 let q0:(List I):=(BM h)
 let q1:(A4 (List I)):=(nI h)
 let q2:(List I):=(pG q1.x q1.y q1.z q1.t)
 let q3:(List I):=(k8 q1.y q1.z q1.x q1.t (wl (-1)))
 let q4:(List I):=(k8 q1.y q1.t q1.x q1.z (wl 1))
 let q5:(List I):=(k8 q1.y q1.z q1.x q1.t (wl 1))
 let q6:(List I):=(pG q1.x q1.z q1.y q1.t)
 let q7:(List I):=(k8 q1.z q1.t q1.x q1.y (wl (-1)))
 let q8:(List I):=(k8 q1.y q1.t q1.x q1.z (wl (-1)))
 let q9:(List I):=(k8 q1.z q1.t q1.x q1.y (wl 1))
 let q10:(List I):=(pG q1.x q1.t q1.y q1.z)
 let q11:(List I):=(dG [h.from_.x.x,(W.sub h.to_.x.x h.from_.x.x)])
 let q12:(List I):=(mK q0 q11)
 let q13:I:=(E (Z.of v.x.1))
 let q14:(List I):=(fV q2 q13)
 let q15:(List I):=(eO q12 q14)
 let q16:I:=(E (Z.of v.y.1))
 let q17:(List I):=(fV q3 q16)
 let q18:(List I):=(eO q15 q17)
 let q19:I:=(E (Z.of v.z.1))
 let q20:(List I):=(fV q4 q19)
 let q21:(List I):=(eO q18 q20)
 let q22:(List I):=(dG [h.from_.x.y,(W.sub h.to_.x.y h.from_.x.y)])
 let q23:(List I):=(mK q0 q22)
 let q24:(List I):=(fV q5 q13)
 let q25:(List I):=(eO q23 q24)
 let q26:(List I):=(fV q6 q16)
 let q27:(List I):=(eO q25 q26)
 let q28:(List I):=(fV q7 q19)
 let q29:(List I):=(eO q27 q28)
 let q30:(List I):=(dG [h.from_.x.z,(W.sub h.to_.x.z h.from_.x.z)])
 let q31:(List I):=(mK q0 q30)
 let q32:(List I):=(fV q8 q13)
 let q33:(List I):=(eO q31 q32)
 let q34:(List I):=(fV q9 q16)
 let q35:(List I):=(eO q33 q34)
 let q36:(List I):=(fV q10 q19)
 let q37:(List I):=(eO q35 q36)
 (⟨(⟨q21,q29,q37⟩:(A3 (List I))),q0⟩:Moving)
def i6 (a:W) (b:W):Rt :=
 let r2:Rt:=(cK (E (Z.of a.1)) (E (Z.of b.1)))
 r2
def lK (a:Rt) (b:Rt):Rt :=
 bif (cQ b) then (let r5:Rt:=(fW a (cK b.d b.n))
 r5) else (rR)
def gW (a:Rt):W :=
 bif (aV a) then (Z.signW a.n.dec) else (wl 0)
def pZ (l:(List W)) (x0:W) (l0:List W) (o:W):Nat→W→W→W×W
 | 0,p,q=>(p,q)
 | k1+1,p,q=>bif (q.1 != 0) then (pZ l x0 l0 o k1 q (W.rem p q)) else (p,q)
def pY (l:(List W)):List W→W→W
 | [],o=>o
 | x0::l0,o=>ap (fun (s:W×W)=>let p:W:=s.1
 let q:W:=s.2
 (pY l l0 p)) (pZ l x0 l0 o ((W.max x0 (W.neg x0)).1.natAbs+1) o (W.max x0 (W.neg x0)))
def dL (l:(List W)):W :=
 ap (fun (s:W)=>let o:W:=s
 o) (pY l l (wl 0))
def rQ (a:(A4 W)):Bool :=
 bif (decide (64<(W.max a.x (W.neg a.x)).1)||((a.x.1==(W.neg a.x).1)&&(a.x.1 != 0))) then false else (bif (decide (64<(W.max a.y (W.neg a.y)).1)||((a.y.1==(W.neg a.y).1)&&(a.y.1 != 0))) then false else (bif (decide (64<(W.max a.z (W.neg a.z)).1)||((a.z.1==(W.neg a.z).1)&&(a.z.1 != 0))) then false else (bif (decide (64<(W.max a.t (W.neg a.t)).1)||((a.t.1==(W.neg a.t).1)&&(a.t.1 != 0))) then false else true)))
def fL (a:(A4 W)):(A4 W)×Bool :=
 bif ((dL [a.x,a.y,a.z,a.t]).1==0) then ((⟨(wl 0),(wl 0),(wl 0),(wl 0)⟩:(A4 W)),false) else (bif (a.x.1 != 0) then (let r6:W:=(bif decide (a.x.1<0) then (W.neg (dL [a.x,a.y,a.z,a.t])) else (dL [a.x,a.y,a.z,a.t]))
 ((⟨(W.quo a.x r6),(W.quo a.y r6),(W.quo a.z r6),(W.quo a.t r6)⟩:(A4 W)),true)) else (bif (a.y.1 != 0) then (let r11:W:=(bif decide (a.y.1<0) then (W.neg (dL [a.x,a.y,a.z,a.t])) else (dL [a.x,a.y,a.z,a.t]))
 ((⟨(W.quo a.x r11),(W.quo a.y r11),(W.quo a.z r11),(W.quo a.t r11)⟩:(A4 W)),true)) else (bif (a.z.1 != 0) then (let r16:W:=(bif decide (a.z.1<0) then (W.neg (dL [a.x,a.y,a.z,a.t])) else (dL [a.x,a.y,a.z,a.t]))
 ((⟨(W.quo a.x r16),(W.quo a.y r16),(W.quo a.z r16),(W.quo a.t r16)⟩:(A4 W)),true)) else (bif (a.t.1 != 0) then (let r21:W:=(bif decide (a.t.1<0) then (W.neg (dL [a.x,a.y,a.z,a.t])) else (dL [a.x,a.y,a.z,a.t]))
 ((⟨(W.quo a.x r21),(W.quo a.y r21),(W.quo a.z r21),(W.quo a.t r21)⟩:(A4 W)),true)) else ((⟨(W.quo a.x (dL [a.x,a.y,a.z,a.t])),(W.quo a.y (dL [a.x,a.y,a.z,a.t])),(W.quo a.z (dL [a.x,a.y,a.z,a.t])),(W.quo a.t (dL [a.x,a.y,a.z,a.t]))⟩:(A4 W)),true)))))
def uM (a:(A4 W)):Bool :=
 bif (rQ a) then (let r3:(A4 W):=(fL a).1
 ((fL a).2&&(decide (r3.x.1=a.x.1)&&(decide (r3.y.1=a.y.1)&&(decide (r3.z.1=a.z.1)&&decide (r3.t.1=a.t.1)))))) else (false)
def qD (a:(List W)):Nat→W→Nat→W×Nat
 | 0,o,i=>(o,i)
 | k0+1,o,i=>bif decide (((i+1:Nat):Int)<(a.length:Int)) then (qD a k0 (W.add o (W.mul (a.getD i W.z) (a.getD (i+1) W.z))) (i+2)) else (o,i)
def dD (a:(List W)):W :=
 ap (fun (s:W×Nat)=>let o:W:=s.1
 let i:Nat:=s.2
 o) (qD a (a.length+1) (wl 0) 0)
def fR (a:(A4 W)):(A9 W) :=
 (⟨(dD [a.x,a.x,a.y,a.y,(W.neg a.z),a.z,(W.neg a.t),a.t]),(W.mul (wl 2) (dD [a.y,a.z,(W.neg a.x),a.t])),(W.mul (wl 2) (dD [a.y,a.t,a.x,a.z])),(W.mul (wl 2) (dD [a.y,a.z,a.x,a.t])),(dD [a.x,a.x,(W.neg a.y),a.y,a.z,a.z,(W.neg a.t),a.t]),(W.mul (wl 2) (dD [a.z,a.t,(W.neg a.x),a.y])),(W.mul (wl 2) (dD [a.y,a.t,(W.neg a.x),a.z])),(W.mul (wl 2) (dD [a.z,a.t,a.x,a.y])),(dD [a.x,a.x,(W.neg a.y),a.y,(W.neg a.z),a.z,a.t,a.t])⟩:(A9 W))
def jW (a:(A4 W)) (b:(A3 W)):(A3 W) :=
 let r4:(A9 W):=(fR a)
 (⟨(dD [r4.x0,b.x,r4.x1,b.y,r4.x2,b.z]),(dD [r4.x3,b.x,r4.x4,b.y,r4.x5,b.z]),(dD [r4.x6,b.x,r4.x7,b.y,r4.x8,b.z])⟩:(A3 W))
def mY (a:(A4 W)) (b:(A4 W)):W :=
 (dD [a.x,b.x,a.y,b.y,a.z,b.z,a.t,b.t])
def lY (a:(A4 W)):W :=
 (mY a a)
def lA (a:(A4 W)) (b:(A3 W)):(A3 Rt) :=
 let r5:Rt:=(i6 ((jW a b).x) (lY a))
 let r6:Rt:=(i6 ((jW a b).y) (lY a))
 let r7:Rt:=(i6 ((jW a b).z) (lY a))
 (⟨r5,r6,r7⟩:(A3 Rt))
def lE (a:Pose):W :=
 bif (decide (140737488355328≤a.x.x.1)||decide (a.x.x.1≤(-140737488355328))) then (wl 1) else (bif (decide (140737488355328≤a.x.y.1)||decide (a.x.y.1≤(-140737488355328))) then (wl 1) else (bif (decide (140737488355328≤a.x.z.1)||decide (a.x.z.1≤(-140737488355328))) then (wl 1) else (bif (uM a.q) then (wl 0) else (wl 1))))
def pX (a:Path):W :=
 bif (((lE a.from_).1 != 0)||((lE a.to_).1 != 0)) then (wl 1) else (wl 0)
def fA (a:Pose) (b:(A3 W)):(A3 Rt) :=
 let r4:(A3 Rt):=(kG a.x)
 let r5:(A3 Rt):=(lA a.q b)
 let r6:(A3 Rt):=(lV r4 r5)
 r6
def aM (h:Path):(A4 (List I)) :=
 bif decide ((mY h.from_.q h.to_.q).1<0) then (⟨(dA [h.from_.q.x,(W.sub (W.mul (wl (-1)) h.to_.q.x) h.from_.q.x)]),(dA [h.from_.q.y,(W.sub (W.mul (wl (-1)) h.to_.q.y) h.from_.q.y)]),(dA [h.from_.q.z,(W.sub (W.mul (wl (-1)) h.to_.q.z) h.from_.q.z)]),(dA [h.from_.q.t,(W.sub (W.mul (wl (-1)) h.to_.q.t) h.from_.q.t)])⟩:(A4 (List I))) else (⟨(dA [h.from_.q.x,(W.sub (W.mul (wl 1) h.to_.q.x) h.from_.q.x)]),(dA [h.from_.q.y,(W.sub (W.mul (wl 1) h.to_.q.y) h.from_.q.y)]),(dA [h.from_.q.z,(W.sub (W.mul (wl 1) h.to_.q.z) h.from_.q.z)]),(dA [h.from_.q.t,(W.sub (W.mul (wl 1) h.to_.q.t) h.from_.q.t)])⟩:(A4 (List I)))
def cX (n:W) (l0:(List I)) (l1:(List I)) (l2:(List I)) (l3:(List I)):(List I) :=
 (cS (bP (bP ([]:List I) (bE l0 l1)) (bE l2 l3)) (E (Z.of n.1)))
def nY (n:W) (l0:(List I)) (l1:(List I)) (l2:(List I)) (l3:(List I)) (l4:(List I)) (l5:(List I)) (l6:(List I)) (l7:(List I)):(List I) :=
 (cS (bP (bP (bP (bP ([]:List I) (bE l0 l1)) (bE l2 l3)) (bE l4 l5)) (bE l6 l7)) (E (Z.of n.1)))
def eT (h:Path):(List I) :=
 (nY (wl 1) ((aM h).x) ((aM h).x) ((aM h).y) ((aM h).y) ((aM h).z) ((aM h).z) ((aM h).t) ((aM h).t))
def gP (x:(List I)) (y:(List I)) (z:(List I)) (u:(List I)):(List I) :=
 (rP (cX (wl 1) x x y y) (cX (wl 1) z z u u))
def bL (h:Path) (v:(A3 W)):(A3 (List I))×(List I) :=
 let q0:(A4 (List I)):=(aM h)
 let q1:(List I):=(eT h)
 let q2:I:=(E (Z.of (-1)))
 let q3:(List I):=(cS q0.x q2)
 let q4:(List I):=(gP q0.x q0.y q0.z q0.t)
 let q5:(List I):=(cX (wl 2) q0.y q0.z q3 q0.t)
 let q6:(List I):=(cX (wl 2) q0.y q0.t q0.x q0.z)
 let q7:(List I):=(cX (wl 2) q0.y q0.z q0.x q0.t)
 let q8:(List I):=(gP q0.x q0.z q0.y q0.t)
 let q9:(List I):=(cX (wl 2) q0.z q0.t q3 q0.y)
 let q10:(List I):=(cX (wl 2) q0.y q0.t q3 q0.z)
 let q11:(List I):=(cX (wl 2) q0.z q0.t q0.x q0.y)
 let q12:(List I):=(gP q0.x q0.t q0.y q0.z)
 let q13:(List I):=(dA [h.from_.x.x,(W.sub h.to_.x.x h.from_.x.x)])
 let q14:(List I):=(bE q1 q13)
 let q15:I:=(E (Z.of v.x.1))
 let q16:(List I):=(cS q4 q15)
 let q17:(List I):=(bP q14 q16)
 let q18:I:=(E (Z.of v.y.1))
 let q19:(List I):=(cS q5 q18)
 let q20:(List I):=(bP q17 q19)
 let q21:I:=(E (Z.of v.z.1))
 let q22:(List I):=(cS q6 q21)
 let q23:(List I):=(bP q20 q22)
 let q24:(List I):=(dA [h.from_.x.y,(W.sub h.to_.x.y h.from_.x.y)])
 let q25:(List I):=(bE q1 q24)
 let q26:(List I):=(cS q7 q15)
 let q27:(List I):=(bP q25 q26)
 let q28:(List I):=(cS q8 q18)
 let q29:(List I):=(bP q27 q28)
 let q30:(List I):=(cS q9 q21)
 let q31:(List I):=(bP q29 q30)
 let q32:(List I):=(dA [h.from_.x.z,(W.sub h.to_.x.z h.from_.x.z)])
 let q33:(List I):=(bE q1 q32)
 let q34:(List I):=(cS q10 q15)
 let q35:(List I):=(bP q33 q34)
 let q36:(List I):=(cS q11 q18)
 let q37:(List I):=(bP q35 q36)
 let q38:(List I):=(cS q12 q21)
 let q39:(List I):=(bP q37 q38)
 ((⟨q23,q31,q39⟩:(A3 (List I))),q1)
def i8 (h:Path) (v:(A3 W)) (t:Rt):(A3 Rt) :=
 let r27:Rt:=(fG (((bL h v).1).x) t)
 let r28:Rt:=(fG ((bL h v).2) t)
 let r29:Rt:=(fG (((bL h v).1).y) t)
 let r30:Rt:=(fG ((bL h v).2) t)
 let r31:Rt:=(fG (((bL h v).1).z) t)
 let r32:Rt:=(fG ((bL h v).2) t)
 (⟨(lK r27 r28),(lK r29 r30),(lK r31 r32)⟩:(A3 Rt))
def kY (l:(List I)):List I→(Unit) ⊕ (Bool)
 | []=>.inl ()
 | x0::l0=>bif (x0.1.bad||(!x0.1.valid)) then (.inr false) else (kY l l0)
def lC (l:(List I)):Bool :=
 sm (fun (s:Unit)=>true) (fun r=>r) (kY l l)
def mV (a:I):Nat→I→(I) ⊕ (I)
 | 0,mb11=>.inl mb11
 | k0+1,mb11=>bif decide (0≤(Z.cmpW (Z.half (Z.add mb11.dec (Z.quo a.dec mb11.dec))) mb11.dec).1) then (.inr mb11) else (mV a k0 (E (Z.half (Z.add mb11.dec (Z.quo a.dec mb11.dec)))))
def hJ (a:I):I :=
 bif (!(lC [a])||a.1.neg) then (E Z.bad) else (bif ((Z.signW a.dec).1==0) then a else (sm (fun (s:I)=>let mb11:I:=s
 I0) (fun r=>r) (mV a (Z.nat (E (Z.shl (Z.of 1) (W.quo (W.add (Z.bitsW a.dec) (wl 1)) (wl 2)).1)).dec+1) (E (Z.shl (Z.of 1) (W.quo (W.add (Z.bitsW a.dec) (wl 1)) (wl 2)).1)))))
def aW (p:Pose):Path :=
 (⟨p,p⟩:Path)
def uK (h:Path):Bool :=
 (decide (h.from_.x.x.1=h.to_.x.x.1)&&(decide (h.from_.x.y.1=h.to_.x.y.1)&&(decide (h.from_.x.z.1=h.to_.x.z.1)&&(decide (h.from_.q.x.1=h.to_.q.x.1)&&(decide (h.from_.q.y.1=h.to_.q.y.1)&&(decide (h.from_.q.z.1=h.to_.q.z.1)&&decide (h.from_.q.t.1=h.to_.q.t.1)))))))
def gX (c:(List (A3 W))):List (A3 W)→W→W
 | [],k=>k
 | x0::l0,k=>(gX c l0 (W.max k (W.add (W.add (W.mul x0.x x0.x) (W.mul x0.y x0.y)) (W.mul x0.z x0.z))))
def dC (c:(List (A3 W))):W :=
 ap (fun (s:W)=>let k:W:=s
 bif decide ((W.mul (Z.smallW (hJ (E (Z.of k.1))).dec) (Z.smallW (hJ (E (Z.of k.1))).dec)).1<k.1) then (W.add (Z.smallW (hJ (E (Z.of k.1))).dec) (wl 1)) else (Z.smallW (hJ (E (Z.of k.1))).dec)) (gX c c (wl 0))
def aP (h:Path) (c:(List (A3 W))):(A3 W)×(A3 W) :=
 ((⟨(W.sub (W.min h.from_.x.x h.to_.x.x) (dC c)),(W.sub (W.min h.from_.x.y h.to_.x.y) (dC c)),(W.sub (W.min h.from_.x.z h.to_.x.z) (dC c))⟩:(A3 W)),(⟨(W.add (W.max h.from_.x.x h.to_.x.x) (dC c)),(W.add (W.max h.from_.x.y h.to_.x.y) (dC c)),(W.add (W.max h.from_.x.z h.to_.x.z) (dC c))⟩:(A3 W)))
end Go.Num
