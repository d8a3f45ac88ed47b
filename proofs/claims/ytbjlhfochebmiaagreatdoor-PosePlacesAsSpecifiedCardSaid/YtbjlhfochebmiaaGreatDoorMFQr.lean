/- Lemmas: what they ask stands in their statements. -/
import Derived.Test.YtbjlhfochebmiaaGreatDoorMCa
set_option linter.unusedSimpArgs false
set_option linter.unusedVariables false
set_option maxHeartbeats 8000000
set_option maxRecDepth 20000
namespace Go.Num
open Go Go.Kn
def lY (a:W) (b:W):Nat→W→W→W×W
 | 0,p,q=>(p,q)
 | k0+1,p,q=>bif (q.1 != 0) then (lY a b k0 q (W.rem p q)) else (p,q)
def aB (a:W) (b:W):W :=
 ap (fun (s:W×W)=>let p:W:=s.1
 let q:W:=s.2
 (W.max p (W.neg p))) (lY a b (b.1.natAbs+1) a b)
def iZ (a:(A4 W)):Bool :=
 bif (decide (64<a.x.1)||decide (a.x.1<(-64))) then false else (bif (decide (64<a.y.1)||decide (a.y.1<(-64))) then false else (bif (decide (64<a.z.1)||decide (a.z.1<(-64))) then false else (bif (decide (64<a.t.1)||decide (a.t.1<(-64))) then false else true)))
def bD (a:W):W :=
 bif decide (a.1<0) then (wl (-1)) else (W.min a (wl 1))
def eY (a:(A4 W)):(A4 W)×Bool :=
 let r4:W:=(bif (a.t.1 != 0) then (bD a.t) else (wl 0))
 let r11:W:=(bif (a.y.1 != 0) then (bD a.y) else (bif (a.z.1 != 0) then (bD a.z) else r4))
 bif ((W.mul (bif (a.x.1 != 0) then (bD a.x) else r11) (W.max (aB (aB (aB (aB (wl 0) a.t) a.z) a.y) a.x) (W.neg (aB (aB (aB (aB (wl 0) a.t) a.z) a.y) a.x)))).1==0) then ((⟨(wl 0),(wl 0),(wl 0),(wl 0)⟩:(A4 W)),false) else ((⟨(W.quo a.x (W.mul (bif (a.x.1 != 0) then (bD a.x) else r11) (W.max (aB (aB (aB (aB (wl 0) a.t) a.z) a.y) a.x) (W.neg (aB (aB (aB (aB (wl 0) a.t) a.z) a.y) a.x))))),(W.quo a.y (W.mul (bif (a.x.1 != 0) then (bD a.x) else r11) (W.max (aB (aB (aB (aB (wl 0) a.t) a.z) a.y) a.x) (W.neg (aB (aB (aB (aB (wl 0) a.t) a.z) a.y) a.x))))),(W.quo a.z (W.mul (bif (a.x.1 != 0) then (bD a.x) else r11) (W.max (aB (aB (aB (aB (wl 0) a.t) a.z) a.y) a.x) (W.neg (aB (aB (aB (aB (wl 0) a.t) a.z) a.y) a.x))))),(W.quo a.t (W.mul (bif (a.x.1 != 0) then (bD a.x) else r11) (W.max (aB (aB (aB (aB (wl 0) a.t) a.z) a.y) a.x) (W.neg (aB (aB (aB (aB (wl 0) a.t) a.z) a.y) a.x)))))⟩:(A4 W)),true)
def fW (a:(A4 W)):Bool :=
 bif (iZ a) then (let r3:(A4 W):=(eY a).1
 ((eY a).2&&(decide (r3.x.1=a.x.1)&&(decide (r3.y.1=a.y.1)&&(decide (r3.z.1=a.z.1)&&decide (r3.t.1=a.t.1)))))) else (false)
def fC (a:(A4 W)):(A9 W) :=
 (⟨(W.sub (W.sub (W.add (W.mul a.x a.x) (W.mul a.y a.y)) (W.mul a.z a.z)) (W.mul a.t a.t)),(W.mul (wl 2) (W.sub (W.mul a.y a.z) (W.mul a.x a.t))),(W.mul (wl 2) (W.add (W.mul a.y a.t) (W.mul a.x a.z))),(W.mul (wl 2) (W.add (W.mul a.y a.z) (W.mul a.x a.t))),(W.sub (W.add (W.sub (W.mul a.x a.x) (W.mul a.y a.y)) (W.mul a.z a.z)) (W.mul a.t a.t)),(W.mul (wl 2) (W.sub (W.mul a.z a.t) (W.mul a.x a.y))),(W.mul (wl 2) (W.sub (W.mul a.y a.t) (W.mul a.x a.z))),(W.mul (wl 2) (W.add (W.mul a.z a.t) (W.mul a.x a.y))),(W.add (W.sub (W.sub (W.mul a.x a.x) (W.mul a.y a.y)) (W.mul a.z a.z)) (W.mul a.t a.t))⟩:(A9 W))
def gM (a:(A4 W)) (b:(A3 W)):(A3 W) :=
 let r4:(A9 W):=(fC a)
 (⟨(W.add (W.add (W.mul r4.x0 b.x) (W.mul r4.x1 b.y)) (W.mul r4.x2 b.z)),(W.add (W.add (W.mul r4.x3 b.x) (W.mul r4.x4 b.y)) (W.mul r4.x5 b.z)),(W.add (W.add (W.mul r4.x6 b.x) (W.mul r4.x7 b.y)) (W.mul r4.x8 b.z))⟩:(A3 W))
def fV (a:(A4 W)) (b:(A4 W)):W :=
 (W.add (W.add (W.add (W.mul a.x b.x) (W.mul a.y b.y)) (W.mul a.z b.z)) (W.mul a.t b.t))
def aZ (a:(A4 W)):W :=
 (fV a a)
def gZ (a:(A4 W)) (b:(A3 W)):(A3 Rt) :=
 let r4:(A3 W):=(gM a b)
 let r6:Rt:=(jT r4.x (aZ a))
 let r7:Rt:=(jT r4.y (aZ a))
 let r8:Rt:=(jT r4.z (aZ a))
 (⟨r6,r7,r8⟩:(A3 Rt))
def iX (p:Pose) (c:(List (A3 W))):List (A3 W)→(List (A3 W))→List (A3 W)
 | [],out=>out
 | x0::l0,out=>(iX p c l0 (out++[(⟨(W.add ((dD p.q x0).x) (W.mul (cS p.q) p.x.x)),(W.add ((dD p.q x0).y) (W.mul (cS p.q) p.x.y)),(W.add ((dD p.q x0).z) (W.mul (cS p.q) p.x.z))⟩:(A3 W))]))
def dJ (p:Pose) (c:(List (A3 W))):(List (A3 W))×W :=
 ap (fun (s:List (A3 W))=>let out:List (A3 W):=s
 (out,(cS p.q))) (iX p c c ([]:List (A3 W)))
def iQ (p:Pose) (c:(List (A3 W))):Nat→Nat→(List (A3 W))→Nat×List (A3 W)
 | 0,k,gl=>(k,gl)
 | k0+1,k,gl=>bif decide ((k:Int)<(c.length:Int)) then (let r7:(A3 W):=(gM p.q (c.getD k A30))
 (iQ p c k0 (k+1) (gl++[(⟨(W.add (W.mul (aZ p.q) p.x.x) r7.x),(W.add (W.mul (aZ p.q) p.x.y) r7.y),(W.add (W.mul (aZ p.q) p.x.z) r7.z)⟩:(A3 W))]))) else (k,gl)
def bT (p:Pose) (c:(List (A3 W))):Grid14 :=
 ap (fun (s:Nat×List (A3 W))=>let k:Nat:=s.1
 let gl:List (A3 W):=s.2
 (⟨gl,(aZ p.q)⟩:Grid14)) (iQ p c (c.length+1) 0 ([]:List (A3 W)))
theorem RF (p:Pose) (c:List (A3 W)):∀ (l out:List (A3 W)),(iX p c l out).length=out.length+l.length
 | [],out=>by unfold iX;rfl
 | x::l,out=>by
  unfold iX;rw [RF p c l,List.length_append,List.length_cons,List.length_cons,List.length_nil];omega
theorem H0 (p:Pose) (c:List (A3 W)):((dJ p c).1).length=c.length:=by
 have h:=RF p c c [];rw [List.length_nil,Nat.zero_add] at h;exact h
def eU (a:Pose):W :=
 bif (decide (140737488355328≤a.x.x.1)||decide (a.x.x.1≤(-140737488355328))) then (wl 1) else (bif (decide (140737488355328≤a.x.y.1)||decide (a.x.y.1≤(-140737488355328))) then (wl 1) else (bif (decide (140737488355328≤a.x.z.1)||decide (a.x.z.1≤(-140737488355328))) then (wl 1) else (bif (fW a.q) then (wl 0) else (wl 1))))
def gR (a:Path):W :=
 bif ((eU a.from_).1 != 0) then (eU a.from_) else (eU a.to_)
def bM (a:Pose) (b:(A3 W)):(A3 Rt) :=
 let r4:(A3 Rt):=(iN a.x)
 let r5:(A3 Rt):=(gZ a.q b)
 let r6:(A3 Rt):=(gK r4 r5)
 r6
def aC (h:Path):(A4 (List I)) :=
 bif decide ((fV h.from_.q h.to_.q).1<0) then (⟨(bI [h.from_.q.x,(W.sub (W.mul (wl (-1)) h.to_.q.x) h.from_.q.x)]),(bI [h.from_.q.y,(W.sub (W.mul (wl (-1)) h.to_.q.y) h.from_.q.y)]),(bI [h.from_.q.z,(W.sub (W.mul (wl (-1)) h.to_.q.z) h.from_.q.z)]),(bI [h.from_.q.t,(W.sub (W.mul (wl (-1)) h.to_.q.t) h.from_.q.t)])⟩:(A4 (List I))) else (⟨(bI [h.from_.q.x,(W.sub (W.mul (wl 1) h.to_.q.x) h.from_.q.x)]),(bI [h.from_.q.y,(W.sub (W.mul (wl 1) h.to_.q.y) h.from_.q.y)]),(bI [h.from_.q.z,(W.sub (W.mul (wl 1) h.to_.q.z) h.from_.q.z)]),(bI [h.from_.q.t,(W.sub (W.mul (wl 1) h.to_.q.t) h.from_.q.t)])⟩:(A4 (List I)))
def aH (p:(List I)):(List I) :=
 (bO p p)
def fX (h:Path):(List I) :=
 (aP (aP (aH ((aC h).x)) (aH ((aC h).y))) (aP (aH ((aC h).z)) (aH ((aC h).t))))
def cK (a:(List I)) (b:(List I)) (c:(List I)) (d:(List I)) (k:W):(List I) :=
 (bG (aP (bO a b) (bG (bO c d) (E (Z.of k.1)))) (E (Z.of 2)))
def dY (a:(List I)) (b:(List I)) (c:(List I)) (d:(List I)):(List I) :=
 (jO (aP (aH a) (aH b)) (aP (aH c) (aH d)))
def aJ (h:Path) (v:(A3 W)):Moving :=
 let q0:(List I):=(fX h)
 let q1:(A4 (List I)):=(aC h)
 let q2:(List I):=(dY q1.x q1.y q1.z q1.t)
 let q3:(List I):=(cK q1.y q1.z q1.x q1.t (wl (-1)))
 let q4:(List I):=(cK q1.y q1.t q1.x q1.z (wl 1))
 let q5:(List I):=(cK q1.y q1.z q1.x q1.t (wl 1))
 let q6:(List I):=(dY q1.x q1.z q1.y q1.t)
 let q7:(List I):=(cK q1.z q1.t q1.x q1.y (wl (-1)))
 let q8:(List I):=(cK q1.y q1.t q1.x q1.z (wl (-1)))
 let q9:(List I):=(cK q1.z q1.t q1.x q1.y (wl 1))
 let q10:(List I):=(dY q1.x q1.t q1.y q1.z)
 let q11:(List I):=(bI [h.from_.x.x,(W.sub h.to_.x.x h.from_.x.x)])
 let q12:(List I):=(bO q0 q11)
 let q13:I:=(E (Z.of v.x.1))
 let q14:(List I):=(bG q2 q13)
 let q15:(List I):=(aP q12 q14)
 let q16:I:=(E (Z.of v.y.1))
 let q17:(List I):=(bG q3 q16)
 let q18:(List I):=(aP q15 q17)
 let q19:I:=(E (Z.of v.z.1))
 let q20:(List I):=(bG q4 q19)
 let q21:(List I):=(aP q18 q20)
 let q22:(List I):=(bI [h.from_.x.y,(W.sub h.to_.x.y h.from_.x.y)])
 let q23:(List I):=(bO q0 q22)
 let q24:(List I):=(bG q5 q13)
 let q25:(List I):=(aP q23 q24)
 let q26:(List I):=(bG q6 q16)
 let q27:(List I):=(aP q25 q26)
 let q28:(List I):=(bG q7 q19)
 let q29:(List I):=(aP q27 q28)
 let q30:(List I):=(bI [h.from_.x.z,(W.sub h.to_.x.z h.from_.x.z)])
 let q31:(List I):=(bO q0 q30)
 let q32:(List I):=(bG q8 q13)
 let q33:(List I):=(aP q31 q32)
 let q34:(List I):=(bG q9 q16)
 let q35:(List I):=(aP q33 q34)
 let q36:(List I):=(bG q10 q19)
 let q37:(List I):=(aP q35 q36)
 (⟨(⟨q21,q29,q37⟩:(A3 (List I))),q0⟩:Moving)
def iO (p:Pose) (c:(List (A3 W))):Nat→(List (A3 Rt))→Nat→List (A3 Rt)×Nat
 | 0,out,i=>(out,i)
 | k0+1,out,i=>bif decide ((i:Int)<(c.length:Int)) then (let r5:(A3 Rt):=(bM p (c.getD i A30))
 (iO p c k0 (out++[r5]) (i+1))) else (out,i)
def aD (p:Pose) (c:(List (A3 W))):(List (A3 Rt)) :=
 ap (fun (s:List (A3 Rt)×Nat)=>let out:List (A3 Rt):=s.1
 let i:Nat:=s.2
 out) (iO p c (c.length+1) ([]:List (A3 Rt)) 0)
theorem F2 (p:Pose) (c:List (A3 W)):∀ (f i:Nat) (out:List (A3 Rt)),c.length - i<f→i≤c.length→(iO p c f out i).1=out++(c.drop i).map (bM p)
 | 0,i,out,h,_=>absurd h (Nat.not_lt_zero _)
 | f+1,i,out,h,hi=>by
  unfold iO
  by_cases hk:i<c.length
  ·rw [decide_eq_true oo_,cond_true]
   dsimp only
   rw [F2 p c f (i+1) _ oo_ hk,List.drop_eq_getElem_cons hk,List.getD_eq_getElem?_getD,List.getElem?_eq_getElem hk,List.append_assoc,List.map_cons];rfl
  rw [decide_eq_false oo_,cond_false,List.drop_of_length_le oo_]
  simp
theorem HK (p:Pose) (c:List (A3 W)):aD p c=c.map (bM p):=by
 have:=F2 p c (c.length+1) 0 [] oo_ (Nat.zero_le _);unfold aD;rw [List.nil_append,List.drop_zero] at this;exact this
theorem xG (p:Pose) (c:List (A3 W)):(aD p c).length=c.length:=by rw [HK,List.length_map]
def mD (a:I) (b:I):I :=
 bif ((jQ a.1)&&((jQ b.1)&&((eK b).1 != 0))) then (let r10:I:=(E (Z.of (W.sub (eK a) (W.mul (eK b) (W.fdiv (eK a) (eK b)))).1))
 r10) else (bif (!a.1.good||(!b.1.good||(((dl (val b.1.w)).length:Int)==0))) then (E Z.bad) else (bif ((a.1.neg != b.1.neg)&&decide (0<((dl ((val a.1.w) % (val b.1.w))).length:Int))) then (E (Z.of (sgn b.1.neg ((val b.1.w) - ((val a.1.w) % (val b.1.w)))))) else (E (Z.of (sgn b.1.neg ((val a.1.w) % (val b.1.w)))))))
def vM (a:Rt) (b:Rt):W :=
 bif (!(eE a)&&(!(eE b))) then (wl 0) else (bif (eE a) then (bif (eE b) then (cf (cfN a.d) (wl 1) a.n a.d b.n b.d) else (wl 1)) else (wl (-1)))
def kA (a:Rt) (b:Rt):W :=
 bif (!(aT a)||(!(aT b))) then (let r7:W:=(Z.cmpW (gJ a (aT a)).dec (gJ b (aT b)).dec)
 r7) else (cf (cfN a.d) (wl 1) a.n a.d b.n b.d)
def bE (a:Rt):I :=
 bif (eE a) then (E (Z.quo a.n.dec a.d.dec)) else (E Z.bad)
def bU (a:Rt):I :=
 bif (aT a) then (E (Z.quo a.n.dec a.d.dec)) else (E Z.bad)
def bC (a:Rt):I :=
 (E (Z.neg (bE (n5 a)).dec))
def eO (a:Rt) (b:Rt):Rt :=
 bif (!(aT a)||(!(aT b))) then j9 else (bif decide ((kA a b).1≤0) then a else b)
def iY (a:Rt) (b:Rt):Rt :=
 let r4:Rt:=(eO (dM a) (dM b))
 (dM r4)
def cT (a:Rt):I :=
 (E (Z.neg (bU (dM a)).dec))
def mV (p:Pose) (c:(List (A3 W))):Nat→Nat→(A3 W)→(A3 W)→Nat×(A3 W)×(A3 W)
 | 0,k,mb4,mb3=>(k,mb4,mb3)
 | k0+1,k,mb4,mb3=>bif decide ((k:Int)<((aA p c).length:Int)) then (let r45:(A3 W):=(⟨(W.max (bif ((k:Int)==0) then (Z.smallW (bC (((aA p c).getD k V0).x)).dec) else mb4.x) (Z.smallW (bC (((aA p c).getD k V0).x)).dec)),mb4.y,mb4.z⟩:(A3 W))
 let r46:(A3 W):=(⟨(W.min (bif ((k:Int)==0) then (Z.smallW (bE (((aA p c).getD k V0).x)).dec) else mb3.x) (Z.smallW (bE (((aA p c).getD k V0).x)).dec)),mb3.y,mb3.z⟩:(A3 W))
 let r54:(A3 W):=(⟨r45.x,(W.max (bif ((k:Int)==0) then (Z.smallW (bC (((aA p c).getD k V0).y)).dec) else r45.y) (Z.smallW (bC (((aA p c).getD k V0).y)).dec)),r45.z⟩:(A3 W))
 let r55:(A3 W):=(⟨r46.x,(W.min (bif ((k:Int)==0) then (Z.smallW (bE (((aA p c).getD k V0).y)).dec) else r46.y) (Z.smallW (bE (((aA p c).getD k V0).y)).dec)),r46.z⟩:(A3 W))
 let r63:(A3 W):=(⟨r54.x,r54.y,(W.max (bif ((k:Int)==0) then (Z.smallW (bC (((aA p c).getD k V0).z)).dec) else r54.z) (Z.smallW (bC (((aA p c).getD k V0).z)).dec))⟩:(A3 W))
 let r64:(A3 W):=(⟨r55.x,r55.y,(W.min (bif ((k:Int)==0) then (Z.smallW (bE (((aA p c).getD k V0).z)).dec) else r55.z) (Z.smallW (bE (((aA p c).getD k V0).z)).dec))⟩:(A3 W))
 (mV p c k0 (k+1) r63 r64)) else (k,mb4,mb3)
def gF (p:Pose) (c:(List (A3 W))):(A3 W)×(A3 W) :=
 ap (fun (s:Nat×(A3 W)×(A3 W))=>let k:Nat:=s.1
 let mb4:(A3 W):=s.2.1
 let mb3:(A3 W):=s.2.2
 (mb3,mb4)) (mV p c ((aA p c).length+1) 0 (⟨(wl 0),(wl 0),(wl 0)⟩:(A3 W)) (⟨(wl 0),(wl 0),(wl 0)⟩:(A3 W)))
def cF (h:Path) (v:(A3 W)) (t:Rt):(A3 Rt) :=
 let r26:Rt:=(gL ((aJ h v).s) t)
 let r29:Rt:=(gL (((aJ h v).n).x) t)
 let r30:Rt:=(gL (((aJ h v).n).y) t)
 let r31:Rt:=(gL (((aJ h v).n).z) t)
 (⟨(kB r29 r26),(kB r30 r26),(kB r31 r26)⟩:(A3 Rt))
def i7 (c:(List (A3 W))):Nat→W→Nat→W×Nat
 | 0,m,k=>(m,k)
 | k0+1,m,k=>bif decide ((k:Int)<(c.length:Int)) then (i7 c k0 (W.max m (W.add (W.add (W.mul ((c.getD k A30).x) ((c.getD k A30).x)) (W.mul ((c.getD k A30).y) ((c.getD k A30).y))) (W.mul ((c.getD k A30).z) ((c.getD k A30).z)))) (k+1)) else (m,k)
def cW (c:(List (A3 W))):W :=
 ap (fun (s:W×Nat)=>let m:W:=s.1
 let k:Nat:=s.2
 bif decide ((W.mul (Z.smallW (Z.sqrt (Z.of m.1))) (Z.smallW (Z.sqrt (Z.of m.1)))).1<m.1) then (W.add (Z.smallW (Z.sqrt (Z.of m.1))) (wl 1)) else (Z.smallW (Z.sqrt (Z.of m.1)))) (i7 c (c.length+1) (wl 0) 0)
def bZ (h:Path) (c:(List (A3 W))):Range14 :=
 (⟨(⟨(W.sub (W.min h.from_.x.x h.to_.x.x) (cW c)),(W.sub (W.min h.from_.x.y h.to_.x.y) (cW c)),(W.sub (W.min h.from_.x.z h.to_.x.z) (cW c))⟩:(A3 W)),(⟨(W.add (W.max h.from_.x.x h.to_.x.x) (cW c)),(W.add (W.max h.from_.x.y h.to_.x.y) (cW c)),(W.add (W.max h.from_.x.z h.to_.x.z) (cW c))⟩:(A3 W))⟩:Range14)
def i8 (p:Pose) (c:(List (A3 W))):Nat→Nat→Rt→Rt→Nat×Rt×Rt
 | 0,k_0,mb11,mb10=>(k_0,mb11,mb10)
 | k0+1,k_0,mb11,mb10=>bif decide ((k_0:Int)<((aD p c).length:Int)) then (let r17:Rt:=(eO mb10 (((aD p c).getD k_0 V0).x))
 let r18:Rt:=(iY mb11 (((aD p c).getD k_0 V0).x))
 (i8 p c k0 (k_0+1) r18 r17)) else (k_0,mb11,mb10)
def i9 (p:Pose) (c:(List (A3 W))) (k_0:Nat) (mb11:Rt) (mb10:Rt):Nat→Nat→Rt→Rt→Nat×Rt×Rt
 | 0,k_1,mb23,mb22=>(k_1,mb23,mb22)
 | k1+1,k_1,mb23,mb22=>bif decide ((k_1:Int)<((aD p c).length:Int)) then (let r29:Rt:=(eO mb22 (((aD p c).getD k_1 V0).y))
 let r30:Rt:=(iY mb23 (((aD p c).getD k_1 V0).y))
 (i9 p c k_0 mb11 mb10 k1 (k_1+1) r30 r29)) else (k_1,mb23,mb22)
def jA (p:Pose) (c:(List (A3 W))) (k_0:Nat) (mb11:Rt) (mb10:Rt) (k_1:Nat) (mb23:Rt) (mb22:Rt):Nat→Nat→Rt→Rt→Nat×Rt×Rt
 | 0,k_2,mb35,mb34=>(k_2,mb35,mb34)
 | k2+1,k_2,mb35,mb34=>bif decide ((k_2:Int)<((aD p c).length:Int)) then (let r41:Rt:=(eO mb34 (((aD p c).getD k_2 V0).z))
 let r42:Rt:=(iY mb35 (((aD p c).getD k_2 V0).z))
 (jA p c k_0 mb11 mb10 k_1 mb23 mb22 k2 (k_2+1) r42 r41)) else (k_2,mb35,mb34)
def bP (p:Pose) (c:(List (A3 W))):Range14 :=
 ap (fun (s_:Nat×Rt×Rt)=>let k_0:Nat:=s_.1
 let mb11:Rt:=s_.2.1
 let mb10:Rt:=s_.2.2
 ap (fun (s_:Nat×Rt×Rt)=>let k_1:Nat:=s_.1
 let mb23:Rt:=s_.2.1
 let mb22:Rt:=s_.2.2
 ap (fun (s:Nat×Rt×Rt)=>let k_2:Nat:=s.1
 let mb35:Rt:=s.2.1
 let mb34:Rt:=s.2.2
 (⟨(⟨(Z.smallW (bU mb10).dec),(Z.smallW (bU mb22).dec),(Z.smallW (bU mb34).dec)⟩:(A3 W)),(⟨(Z.smallW (cT mb11).dec),(Z.smallW (cT mb23).dec),(Z.smallW (cT mb35).dec)⟩:(A3 W))⟩:Range14)) (jA p c k_0 mb11 mb10 k_1 mb23 mb22 ((aD p c).length+1) 1 (((aD p c).getD 0 V0).z) (((aD p c).getD 0 V0).z))) (i9 p c k_0 mb11 mb10 ((aD p c).length+1) 1 (((aD p c).getD 0 V0).y) (((aD p c).getD 0 V0).y))) (i8 p c ((aD p c).length+1) 1 (((aD p c).getD 0 V0).x) (((aD p c).getD 0 V0).x))
def fK (h:Path):(List I) :=
 (pA (wl 1) ((aG h).x) ((aG h).x) ((aG h).y) ((aG h).y) ((aG h).z) ((aG h).z) ((aG h).t) ((aG h).t))
def gX (x:(List I)) (y:(List I)) (z:(List I)) (u:(List I)):(List I) :=
 (pX (dH (wl 1) x x y y) (dH (wl 1) z z u u))
def aS (h:Path) (v:(A3 W)):(A3 (List I))×(List I) :=
 let q0:(A4 (List I)):=(aG h)
 let q1:(List I):=(fK h)
 let q2:I:=(E (Z.of (-1)))
 let q3:(List I):=(cX q0.x q2)
 let q4:(List I):=(gX q0.x q0.y q0.z q0.t)
 let q5:(List I):=(dH (wl 2) q0.y q0.z q3 q0.t)
 let q6:(List I):=(dH (wl 2) q0.y q0.t q0.x q0.z)
 let q7:(List I):=(dH (wl 2) q0.y q0.z q0.x q0.t)
 let q8:(List I):=(gX q0.x q0.z q0.y q0.t)
 let q9:(List I):=(dH (wl 2) q0.z q0.t q3 q0.y)
 let q10:(List I):=(dH (wl 2) q0.y q0.t q3 q0.z)
 let q11:(List I):=(dH (wl 2) q0.z q0.t q0.x q0.y)
 let q12:(List I):=(gX q0.x q0.t q0.y q0.z)
 let q13:(List I):=(dN [h.from_.x.x,(W.sub h.to_.x.x h.from_.x.x)])
 let q14:(List I):=(bF q1 q13)
 let q15:I:=(E (Z.of v.x.1))
 let q16:(List I):=(cX q4 q15)
 let q17:(List I):=(bL q14 q16)
 let q18:I:=(E (Z.of v.y.1))
 let q19:(List I):=(cX q5 q18)
 let q20:(List I):=(bL q17 q19)
 let q21:I:=(E (Z.of v.z.1))
 let q22:(List I):=(cX q6 q21)
 let q23:(List I):=(bL q20 q22)
 let q24:(List I):=(dN [h.from_.x.y,(W.sub h.to_.x.y h.from_.x.y)])
 let q25:(List I):=(bF q1 q24)
 let q26:(List I):=(cX q7 q15)
 let q27:(List I):=(bL q25 q26)
 let q28:(List I):=(cX q8 q18)
 let q29:(List I):=(bL q27 q28)
 let q30:(List I):=(cX q9 q21)
 let q31:(List I):=(bL q29 q30)
 let q32:(List I):=(dN [h.from_.x.z,(W.sub h.to_.x.z h.from_.x.z)])
 let q33:(List I):=(bF q1 q32)
 let q34:(List I):=(cX q10 q15)
 let q35:(List I):=(bL q33 q34)
 let q36:(List I):=(cX q11 q18)
 let q37:(List I):=(bL q35 q36)
 let q38:(List I):=(cX q12 q21)
 let q39:(List I):=(bL q37 q38)
 ((⟨q23,q31,q39⟩:(A3 (List I))),q1)
def fZ (h:Path) (v:(A3 W)) (t:Rt):(A3 Rt) :=
 let r27:Rt:=(iR (((aS h v).1).x) t)
 let r28:Rt:=(iR ((aS h v).2) t)
 let r29:Rt:=(iR (((aS h v).1).y) t)
 let r30:Rt:=(iR ((aS h v).2) t)
 let r31:Rt:=(iR (((aS h v).1).z) t)
 let r32:Rt:=(iR ((aS h v).2) t)
 (⟨(n4 r27 r28),(n4 r29 r30),(n4 r31 r32)⟩:(A3 Rt))
def mE (l:(List I)):List I→(Unit) ⊕ (Bool)
 | []=>.inl ()
 | x0::l0=>bif (x0.1.bad||(!x0.1.valid)) then (.inr false) else (mE l l0)
def mN (l:(List I)):Bool :=
 sm (fun (s:Unit)=>true) (fun r=>r) (mE l l)
def oC (a:I):Nat→I→(I) ⊕ (I)
 | 0,mb11=>.inl mb11
 | k0+1,mb11=>bif decide (0≤(Z.cmpW (Z.half (Z.add mb11.dec (Z.quo a.dec mb11.dec))) mb11.dec).1) then (.inr mb11) else (oC a k0 (E (Z.half (Z.add mb11.dec (Z.quo a.dec mb11.dec)))))
def jI (a:I):I :=
 bif (!(mN [a])||a.1.neg) then (E Z.bad) else (bif ((Z.signW a.dec).1==0) then a else (sm (fun (s:I)=>let mb11:I:=s
 I0) (fun r=>r) (oC a (Z.nat (E (Z.shl (Z.of 1) (W.quo (W.add (Z.bitsW a.dec) (wl 1)) (wl 2)).1)).dec+1) (E (Z.shl (Z.of 1) (W.quo (W.add (Z.bitsW a.dec) (wl 1)) (wl 2)).1)))))
def lA (p:Pose):Path :=
 (⟨p,p⟩:Path)
def wA (h:Path):Bool :=
 (decide (h.from_.x.x.1=h.to_.x.x.1)&&(decide (h.from_.x.y.1=h.to_.x.y.1)&&(decide (h.from_.x.z.1=h.to_.x.z.1)&&(decide (h.from_.q.x.1=h.to_.q.x.1)&&(decide (h.from_.q.y.1=h.to_.q.y.1)&&(decide (h.from_.q.z.1=h.to_.q.z.1)&&decide (h.from_.q.t.1=h.to_.q.t.1)))))))
def iM (c:(List (A3 W))):List (A3 W)→W→W
 | [],k=>k
 | x0::l0,k=>(iM c l0 (W.max k (W.add (W.add (W.mul x0.x x0.x) (W.mul x0.y x0.y)) (W.mul x0.z x0.z))))
def eL (c:(List (A3 W))):W :=
 ap (fun (s:W)=>let k:W:=s
 bif decide ((W.mul (Z.smallW (jI (E (Z.of k.1))).dec) (Z.smallW (jI (E (Z.of k.1))).dec)).1<k.1) then (W.add (Z.smallW (jI (E (Z.of k.1))).dec) (wl 1)) else (Z.smallW (jI (E (Z.of k.1))).dec)) (iM c c (wl 0))
def dC (h:Path) (c:(List (A3 W))):(A3 W)×(A3 W) :=
 ((⟨(W.sub (W.min h.from_.x.x h.to_.x.x) (eL c)),(W.sub (W.min h.from_.x.y h.to_.x.y) (eL c)),(W.sub (W.min h.from_.x.z h.to_.x.z) (eL c))⟩:(A3 W)),(⟨(W.add (W.max h.from_.x.x h.to_.x.x) (eL c)),(W.add (W.max h.from_.x.y h.to_.x.y) (eL c)),(W.add (W.max h.from_.x.z h.to_.x.z) (eL c))⟩:(A3 W)))
def gT (b:(A3 W)):Bool :=
 bif (decide (262144<b.x.1)||decide (b.x.1<(-262144))) then false else (bif (decide (262144<b.y.1)||decide (b.y.1<(-262144))) then false else (bif (decide (262144<b.z.1)||decide (b.z.1<(-262144))) then false else true))
def pD (x:Rt):Bool :=
 ((aT x)&&(decide (0≤(oK x).1)&&(decide ((kA x (cM (wl 1))).1≤0)&&decide ((Z.bitsW x.d.dec).1≤12))))
def bK (a:(List I)) (b:(List I)):Bool :=
 (kJ a b)
abbrev pT_:Pose:=(⟨(⟨(wl 8),(wl 0),(wl 0)⟩:(A3 W)),(⟨(wl 1),(wl 0),(wl 0),(wl 1)⟩:(A4 W))⟩:Pose)
abbrev pS_:Path:=(⟨(⟨(⟨(wl 0),(wl 0),(wl 0)⟩:(A3 W)),(⟨(wl 1),(wl 0),(wl 0),(wl 0)⟩:(A4 W))⟩:Pose),pT_⟩:Path)
def oG (q0:(A3 (List I))) (q1:(List I)) (q2:(A3 W)) (q3:(A3 W)) (q4:Rt) (q5:(A3 Rt)) (q6:(List I)) (q7:(List I)) (q8:Bool) (q9:Bool) (q10:(List I)) (q11:Bool) (q12:(List I)) (q13:Bool) (q14:Rt) (q15:Rt) (q16:Rt) (q17:(A3 Rt)) (q18:Rt) (q19:Rt) (q20:W) (q21:W) (q22:Bool) (q23:Path) (q24:Bool):Bool :=
 bif q8 then (bif q9 then (bif q11 then (bif q13 then (bif (decide (q5.x.n=q14.n)&&(decide (q5.x.d=q14.d)&&(decide (q5.y.n=q15.n)&&(decide (q5.y.d=q15.d)&&(decide (q5.z.n=q16.n)&&decide (q5.z.d=q16.d)))))) then (bif (decide (q17.x.n=q18.n)&&(decide (q17.x.d=q18.d)&&(decide (q17.y.n=q19.n)&&(decide (q17.y.d=q19.d)&&(decide (q17.z.n=q16.n)&&decide (q17.z.d=q16.d)))))) then (bif (decide (q2.x.1=(-1))&&(decide (q2.y.1=(-1))&&decide (q2.z.1=(-1)))) then (bif (((q0.z).length:Int)==0) then (bif (decide (q3.x.1=9)&&(decide (q3.y.1=1)&&decide (q3.z.1=1))) then (bif (q20.1==0) then (bif (q21.1==1) then (bif q22 then false else q24) else false) else false) else false) else false) else (bif (((q0.z).length:Int)==0) then false else false)) else (bif (((q0.z).length:Int)==0) then false else false)) else (bif (((q0.z).length:Int)==0) then false else false)) else (bif (decide (q5.x.n=q14.n)&&(decide (q5.x.d=q14.d)&&(decide (q5.y.n=q15.n)&&(decide (q5.y.d=q15.d)&&(decide (q5.z.n=q16.n)&&decide (q5.z.d=q16.d)))))) then (bif (decide (q17.x.n=q18.n)&&(decide (q17.x.d=q18.d)&&(decide (q17.y.n=q19.n)&&(decide (q17.y.d=q19.d)&&(decide (q17.z.n=q16.n)&&decide (q17.z.d=q16.d)))))) then (bif (decide (q2.x.1=(-1))&&(decide (q2.y.1=(-1))&&decide (q2.z.1=(-1)))) then false else false) else false) else false)) else (bif (decide (q5.x.n=q14.n)&&(decide (q5.x.d=q14.d)&&(decide (q5.y.n=q15.n)&&(decide (q5.y.d=q15.d)&&(decide (q5.z.n=q16.n)&&decide (q5.z.d=q16.d)))))) then (bif (decide (q17.x.n=q18.n)&&(decide (q17.x.d=q18.d)&&(decide (q17.y.n=q19.n)&&(decide (q17.y.d=q19.d)&&(decide (q17.z.n=q16.n)&&decide (q17.z.d=q16.d)))))) then (bif (decide (q2.x.1=(-1))&&(decide (q2.y.1=(-1))&&decide (q2.z.1=(-1)))) then false else false) else false) else false)) else (bif (decide (q5.x.n=q14.n)&&(decide (q5.x.d=q14.d)&&(decide (q5.y.n=q15.n)&&(decide (q5.y.d=q15.d)&&(decide (q5.z.n=q16.n)&&decide (q5.z.d=q16.d)))))) then (bif (decide (q17.x.n=q18.n)&&(decide (q17.x.d=q18.d)&&(decide (q17.y.n=q19.n)&&(decide (q17.y.d=q19.d)&&(decide (q17.z.n=q16.n)&&decide (q17.z.d=q16.d)))))) then (bif (decide (q2.x.1=(-1))&&(decide (q2.y.1=(-1))&&decide (q2.z.1=(-1)))) then false else false) else false) else false)) else (bif (decide (q5.x.n=q14.n)&&(decide (q5.x.d=q14.d)&&(decide (q5.y.n=q15.n)&&(decide (q5.y.d=q15.d)&&(decide (q5.z.n=q16.n)&&decide (q5.z.d=q16.d)))))) then (bif (decide (q17.x.n=q18.n)&&(decide (q17.x.d=q18.d)&&(decide (q17.y.n=q19.n)&&(decide (q17.y.d=q19.d)&&(decide (q17.z.n=q16.n)&&decide (q17.z.d=q16.d)))))) then (bif (decide (q2.x.1=(-1))&&(decide (q2.y.1=(-1))&&decide (q2.z.1=(-1)))) then false else false) else false) else false)
def kQ:Bool :=
 let q0:(A3 (List I)):=(aS pS_ (⟨(wl 1),(wl 0),(wl 0)⟩:(A3 W))).1
 let q1:(List I):=(aS pS_ (⟨(wl 1),(wl 0),(wl 0)⟩:(A3 W))).2
 let q2:(A3 W):=(dC pS_ [(⟨(wl 0),(wl 0),(wl 0)⟩:(A3 W)),(⟨(wl 0),(wl 0),(wl 1)⟩:(A3 W)),(⟨(wl 0),(wl 1),(wl 0)⟩:(A3 W)),(⟨(wl 1),(wl 0),(wl 0)⟩:(A3 W))]).1
 let q3:(A3 W):=(dC pS_ [(⟨(wl 0),(wl 0),(wl 0)⟩:(A3 W)),(⟨(wl 0),(wl 0),(wl 1)⟩:(A3 W)),(⟨(wl 0),(wl 1),(wl 0)⟩:(A3 W)),(⟨(wl 1),(wl 0),(wl 0)⟩:(A3 W))]).2
 let q4:Rt:=(jS (wl 1) (wl 2))
 let q5:(A3 Rt):=(fZ pS_ (⟨(wl 1),(wl 0),(wl 0)⟩:(A3 W)) q4)
 let q6:(List I):=(fK pS_)
 let q7:(List I):=(bI [(wl 1),(wl 0),(wl 1)])
 let q8:Bool:=(bK q6 q7)
 let q9:Bool:=(bK q1 q6)
 let q10:(List I):=(bI [(wl 1),(wl 8),(wl (-1)),(wl 8)])
 let q11:Bool:=(bK q0.x q10)
 let q12:(List I):=(bI [(wl 0),(wl 2)])
 let q13:Bool:=(bK q0.y q12)
 let q14:Rt:=(jS (wl 23) (wl 5))
 let q15:Rt:=(jS (wl 4) (wl 5))
 let q16:Rt:=(fI (wl 0))
 let q17:(A3 Rt):=(cQ pT_ (⟨(wl 1),(wl 0),(wl 0)⟩:(A3 W)))
 let q18:Rt:=(fI (wl 8))
 let q19:Rt:=(fI (wl 1))
 let q20:W:=(rT pS_)
 let q21:W:=(mO (⟨(⟨(wl 0),(wl 0),(wl 0)⟩:(A3 W)),(⟨(wl 0),(wl 0),(wl 0),(wl 0)⟩:(A4 W))⟩:Pose))
 let q22:Bool:=(wA pS_)
 let q23:Path:=(lA pT_)
 let q24:Bool:=(wA q23)
 oG q0 q1 q2 q3 q4 q5 q6 q7 q8 q9 q10 q11 q12 q13 q14 q15 q16 q17 q18 q19 q20 q21 q22 q23 q24
def eF (h:Path) (b:(A3 W)) (c:(List (A3 W))) (x:Rt):Nat→Nat→(Nat) ⊕ (Bool)
 | 0,k=>.inl k
 | k0+1,k=>bif decide ((k:Int)<((aA h.to_ c).length:Int)) then (bif (decide (((((aA h.to_ c).getD k V0).x).n)=((((aD h.to_ c).getD k V0).x).n))&&(decide (((((aA h.to_ c).getD k V0).x).d)=((((aD h.to_ c).getD k V0).x).d))&&(decide (((((aA h.to_ c).getD k V0).y).n)=((((aD h.to_ c).getD k V0).y).n))&&(decide (((((aA h.to_ c).getD k V0).y).d)=((((aD h.to_ c).getD k V0).y).d))&&(decide (((((aA h.to_ c).getD k V0).z).n)=((((aD h.to_ c).getD k V0).z).n))&&decide (((((aA h.to_ c).getD k V0).z).d)=((((aD h.to_ c).getD k V0).z).d))))))) then (bif (decide (((((dJ h.to_ c).1).getD k A30).x).1=((((bT h.to_ c).l).getD k A30).x).1)&&(decide (((((dJ h.to_ c).1).getD k A30).y).1=((((bT h.to_ c).l).getD k A30).y).1)&&decide (((((dJ h.to_ c).1).getD k A30).z).1=((((bT h.to_ c).l).getD k A30).z).1))) then (let r839:Rt:=(fI ((dJ h.to_ c).2))
 let r840:(A3 Rt):=(lR r839 ((aA h.to_ c).getD k V0))
 let r841:(A3 Rt):=(n6 (((dJ h.to_ c).1).getD k A30))
 bif (decide (r840.x.n=r841.x.n)&&(decide (r840.x.d=r841.x.d)&&(decide (r840.y.n=r841.y.n)&&(decide (r840.y.d=r841.y.d)&&(decide (r840.z.n=r841.z.n)&&decide (r840.z.d=r841.z.d)))))) then (eF h b c x k0 (k+1)) else (.inr false)) else (.inr false)) else (.inr false)) else (.inl k)
def bR (h:Path) (b:(A3 W)) (c:(List (A3 W))) (x:Rt):Bool :=
 bif (((gR h).1 != 0)||(!(gT b)||(!(i3 c)||(!(pD x))))) then kQ else (bif (bK (((aS h b).1).x) (((aJ h b).n).x)) then (bif (bK (((aS h b).1).y) (((aJ h b).n).y)) then (bif (bK (((aS h b).1).z) (((aJ h b).n).z)) then (bif (bK ((aG h).x) ((aC h).x)) then (bif (bK ((aG h).y) ((aC h).y)) then (bif (bK ((aG h).z) ((aC h).z)) then (bif (bK ((aG h).t) ((aC h).t)) then (bif ((((aA h.to_ c).length:Int) != ((aD h.to_ c).length:Int))||(!(bK ((aS h b).2) ((aJ h b).s))||(!(bK (fK h) ((aJ h b).s))||(!(decide ((((cQ h.from_ b).x).n)=(((bM h.from_ b).x).n))&&(decide ((((cQ h.from_ b).x).d)=(((bM h.from_ b).x).d))&&(decide ((((cQ h.from_ b).y).n)=(((bM h.from_ b).y).n))&&(decide ((((cQ h.from_ b).y).d)=(((bM h.from_ b).y).d))&&(decide ((((cQ h.from_ b).z).n)=(((bM h.from_ b).z).n))&&decide ((((cQ h.from_ b).z).d)=(((bM h.from_ b).z).d)))))))||(!(decide ((((fZ h b x).x).n)=(((cF h b x).x).n))&&(decide ((((fZ h b x).x).d)=(((cF h b x).x).d))&&(decide ((((fZ h b x).y).n)=(((cF h b x).y).n))&&(decide ((((fZ h b x).y).d)=(((cF h b x).y).d))&&(decide ((((fZ h b x).z).n)=(((cF h b x).z).n))&&decide ((((fZ h b x).z).d)=(((cF h b x).z).d)))))))||((eL c).1 != (cW c).1)))))) then false else (bif (((((dJ h.to_ c).1).length:Int) != (((bT h.to_ c).l).length:Int))||(((dJ h.to_ c).2).1 != ((bT h.to_ c).s).1)) then false else (sm (fun (s:Nat)=>let k:Nat:=s
 let r852:(A3 W):=(gF h.to_ c).1
 let r853:(A3 W):=(gF h.to_ c).2
 (kQ&&((decide ((((dC h c).1).x).1=(((bZ h c).lo).x).1)&&(decide ((((dC h c).1).y).1=(((bZ h c).lo).y).1)&&(decide ((((dC h c).1).z).1=(((bZ h c).lo).z).1)&&(decide ((((dC h c).2).x).1=(((bZ h c).hi).x).1)&&(decide ((((dC h c).2).y).1=(((bZ h c).hi).y).1)&&decide ((((dC h c).2).z).1=(((bZ h c).hi).z).1))))))&&(decide (r852.x.1=(((bP h.to_ c).lo).x).1)&&(decide (r852.y.1=(((bP h.to_ c).lo).y).1)&&(decide (r852.z.1=(((bP h.to_ c).lo).z).1)&&(decide (r853.x.1=(((bP h.to_ c).hi).x).1)&&(decide (r853.y.1=(((bP h.to_ c).hi).y).1)&&decide (r853.z.1=(((bP h.to_ c).hi).z).1))))))))) (fun r=>r) (eF h b c x ((aA h.to_ c).length+1) 0)))) else false) else false) else false) else false) else false) else false) else false)
end Go.Num
namespace Go.Proofs.YtbjlhfochebmiaaGreatDoor
open Go.Kn Go.Num Tryz
attribute [local irreducible] Go.Kn.W WL PL OpQ OpR OpS
theorem iF (va:Value) (l:List Nat) (k:Nat) (w:World) (hva:Sl w va l) :
   Calls prog 182 [va,.int .i64 (k:Int)].toArray w (fun e w'=>e = .returned (.int .i64 ((l.getD k 0:Nat):Int))∧Ext w w'):=by
 refine dL (N:=13) func182 O O zz_ ?_;obtain ⟨w0,rfl⟩:=nm w;refine giI ?_;refine go7 ?_;refine sQ (oT j7 O hva.old) O (go2 ?_);refine aL _ O (fun hk=>?_) (fun hk=>?_)
 ·replace hk:=cB_ hk
  refine go3 ?_;refine sQ (BY j7 O O hva.old oo_) O (sQ (yP tyT O hva.old oo_) O (go3 ?_));refine rt1 ?_;exact rfl
 replace hk:=cB_ hk
 refine go5 ?_;refine rt1 ?_;exact congrArg (fun n:Nat=>Value.int .i64 (n:Int)) (show 0=l.getD k 0 by simp [List.getD,List.getElem?_eq_none (show l.length≤k by omega)])
theorem kU (va:Value) (l:List Nat) (hD:DL l) (hn:l.length≤1000) (w:World) (hva:Sl w va l) :
    Calls prog 181 [va].toArray w (fun e w'=>e = .returned (sls va (dl (dv l)).length)∧Ext w w'):=by
 refine dL (N:=21) func181 O O zz_ ?_;obtain ⟨w0,rfl⟩:=nm w;refine giI ?_;refine go5 ?_;refine sQ (oT j7 O hva.old) O (go4 ?_);refine cE (rg [3] 6 12) (fun g nn M=>∃ (k:Nat),(g 3 = .int .i64 (k:Int))∧M=[]∧nn=k+0∧(k≤l.length∧∀ j,k≤j→l.getD j 0=0)) (l.length) ?start ?round
 case start =>
  refine ⟨_,(List.Sublist.refl _),l.length,?a3,?mem0,rfl,⟨Nat.le_refl _,fun j hj=>by simp [List.getD,List.getElem?_eq_none (show l.length≤j by omega)]⟩⟩
  case mem0=>rfl
  case a3=>rfl
 case round =>
  rintro nn g M ⟨k,hg3,rfl,hmeas,⟨hk,hhi⟩⟩;subst nn;refine gS1 hg3 ?_;clear hg3;refine go5 ?_
  cases hz:decide ((0:Int)<(k:Int))
  ·refine SM ?_;refine sQ (Z5 j7 O O hva.old oo_) O (go3 ?_);refine rt1 ?_;rw [KW hD,PD hhi (.inl (by have:=of_decide_eq_false hz;omega))]
  have hz':=of_decide_eq_true hz;obtain ⟨m,rfl⟩:∃ m,k=m+1:=⟨k - 1,by omega⟩;refine go2 ?_;refine sQ (aM (rD O O) (congrArg (Value.int .i64) (AZ oo_))) O (sQ (BY j7 O O hva.old oo_) O (sQ (yP tyT O hva.old oo_) O (go3 ?_)));refine aL _ O (fun h0=>?_) (fun h0=>?_)
  ·replace h0:=cB_ h0
   refine go4 ?_;refine sQ (aM (rD O O) (congrArg (Value.int .i64) (AZ oo_))) O (go2 ?_);refine ⟨pp_,_,_,(List.Sublist.refl _),oo_,m,?s3,?mem,rfl,⟨by omega,fun j hj=>by rcases Nat.eq_or_lt_of_le hj with rfl|hj;omega;exact hhi j hj⟩⟩
   case mem=>rfl
   case s3=>rfl
  replace h0:=cB_ h0
  refine go4 ?_;refine sQ (Z5 j7 O O hva.old oo_) O (go3 ?_);refine rt1 ?_;rw [KW hD,PD hhi (.inr (by simp only [Nat.add_sub_cancel];omega))]
theorem cC (a:R) (ha:a.Ok) (w:World)  :
    Calls prog 114 [RV a].toArray w (fun e w'=>∃ v,e = .returned v∧Ext w w'∧Slf w.heap.size w' v (dl (val a.w))):=by
 refine wC (N:=26) func114 O O zz_ ?_;obtain ⟨w0,rfl⟩:=nm w;refine giI ?_;refine go_ ?_;refine aY O (lC O O (fun b1 hb1=>jE ?_));refine cE (rg [] 3 21) (fun g nn M=>∃ (k:Nat) (v:Value) (l:List Nat) (L:List Blk),(g 3=v∧g 4 = .int .i64 (k:Int))∧M=L++[⟨b1,33,a.cells⟩]∧nn=16 - k∧(k≤16∧OwnL w0 3 v l L∧DL l∧l.length=2*k∧dv l=val a.w % 4294967296 ^ k)) (16) ?start ?round
 case start =>
  refine ⟨_,(List.Sublist.refl _),0,_,[],[],⟨?a3,?a4⟩,?mem0,rfl,⟨Nat.zero_le _,.nil,DL.nil,rfl,by simp [dv,Nat.mod_one]⟩⟩
  case mem0=>rfl
  case a3=>rfl
  case a4=>rfl
 case round =>
  rintro nn g M ⟨k,v,l,L,⟨hg3,hg4⟩,rfl,hmeas,⟨hk,hO,hD,hlen,hdv⟩⟩;subst nn;refine gS2 hg3 hg4 ?_;clear hg3 hg4;refine go5 ?_;refine aL _ O (fun hc=>?_) (fun hc=>?_)
  ·replace hc:=cB_ hc
   have hc:k<16:=by omega
   refine go3 ?_;refine kY sn 16 [13,14] [14] (go2 ?_);refine pQ O (cH fdT dd_ O) (pQ O (eZ arT O O oo_ oo_) (pQ O (dX tyT O mm_ (oZ (r:=a) (k:=k) (by rw [ha.len];omega))) ?_));refine pQ O (tQ O O dd_) (pQ O (aM (eX i4 FS O) (fe_ (eJ ha.lim k))) (go_ ?_));refine pQ O (cH fdT dd_ O) (pQ O (eZ arT O O oo_ oo_) (pQ O (dX tyT O mm_ (oZ (r:=a) (k:=k) (by rw [ha.len];omega))) ?_));refine pQ O (lI O O dd_) (pQ O (aM (eX i4 FS O) (fa_ (eJ ha.lim k))) ?_);refine cJ O O (kH jN z_3 oX O dd_ O (dk_ _ _) (fun b22 hb22=>⟨(fun _=>by first|exact sd s0|exact s0),ss_,?_⟩));refine cJ O O (DT jN QT O O hO (SL.mine (l:=[a.w.getD k 0 % 65536,a.w.getD k 0 / 65536]) (.head _) (Nat.le_refl _)) (List.sublist_cons_self _ _) (by simp;omega) (fun v' L' hO'=>⟨nf,ss_,?_⟩));refine go4 ?_;refine sQ (aM (j3 O O) (congrArg (Value.int .i64) (lJ oo_))) O (go2 ?_);refine ⟨pp_,_,_,(List.Sublist.refl _),oo_,k+1,_,_,_,⟨?s3,?s4⟩,?mem,rfl,⟨by omega,hO',hD.append (DL.two (eJ ha.lim k)),by simp [hlen];omega,P8 ha.lim hlen hdv⟩⟩
   case mem=>rfl
   case s3=>rfl
   case s4=>rfl
  replace hc:=cB_ hc
  obtain rfl:k=16:=by omega
  refine go3 ?_;refine sQ (dF aE O (fun w hw=>kU v l hD oo_ w (SL.sl (hO.sl lZ) hw))) O (go3 ?_);refine rt1 ?_;exact y4 hD (by rw [hdv,SE ha]) (hO.slf lZ)
theorem dS  :
  Ret prog 162 [] (RV Z.bad.enc):=by
 refine bA (N:=2) func162 O O zz_ (fun w0=>?_);refine giI ?_;refine go_ ?_;refine aY O (eS mX (fun b0 hb0=>go2 ?_));refine sQ (zE mX plT O (.cons O (vs:=[.bool true]) O O (by simp [zR]) (z':=Z.bad.enc.cells) O (.nil _))) O ?_;refine aY O (bV tyT O O uu_ O O (bN Z.bad.enc) (.inl fP) ?_);refine go2 ?_;refine rtX O ⟨_,_,_,_,_,_,rfl,mm_,tyT,_,(dQ O),rfl,rfl⟩ ?_;exact rfl
theorem vP (r:R) (h:r.Ok) :
    Ret prog 175 [RV r] (.bool r.valid):=by
 refine bA (N:=32) func175 O O zz_ (fun w0=>?_);refine giI ?_;refine go_ ?_;refine aY O (lC O O (fun b1 hb1=>jE ?_));refine cE (rg [] 3 14) (fun g nn M=>∃ (k:Nat) (z:Bool),(g 3 = .bool z∧g 4 = .int .i64 (k:Int))∧M=[⟨b1,33,r.cells⟩]∧nn=16 - k∧(k≤16∧(z=true ↔ ∀ j,j<k→r.w.getD j 0=0))) (16) ?start ?round
 case start =>
  refine ⟨_,(List.Sublist.refl _),0,true,⟨?a3,?a4⟩,?mem0,rfl,⟨Nat.zero_le _,⟨fun _ j hj=>by omega,fun _=>rfl⟩⟩⟩
  case mem0=>rfl
  case a3=>rfl
  case a4=>rfl
 case round =>
  rintro nn g M ⟨k,z,⟨hg3,hg4⟩,rfl,hmeas,⟨hk,hz⟩⟩;subst nn;refine gS2 hg3 hg4 ?_;clear hg3 hg4;refine go5 ?_;refine aL _ O (fun hc=>?_) (fun hc=>?_)
  ·replace hc:=cB_ hc
   have hc:k<16:=by omega
   refine go6 ?_
   cases z
   ·refine jE ?_;refine sQ (aM (j3 O O) (congrArg (Value.int .i64) (lJ oo_))) O (go2 ?_);refine ⟨pp_,_,_,(List.Sublist.refl _),oo_,k+1,?zz_1,⟨?s3,?s4⟩,?mem,rfl,⟨by omega,?inv_1⟩⟩
    case mem=>rfl
    case s3=>rfl
    case s4=>rfl
    first|exact RR hz|exact VL hz
   refine go_ ?_;refine sQ (cH fdT dd_ O) O (sQ (eZ arT O O oo_ oo_) O (sQ (dX tyT O mm_ (oZ (r:=r) (k:=k) (by rw [h.len];omega))) O ?_));refine go6 ?_;refine sQ (aM (j3 O O) (congrArg (Value.int .i64) (lJ oo_))) O (go2 ?_);refine ⟨pp_,_,_,(List.Sublist.refl _),oo_,k+1,?zz_2,⟨?s3,?s4⟩,?mem,rfl,⟨by omega,?inv_2⟩⟩
   case mem=>rfl
   case s3=>rfl
   case s4=>rfl
   first|exact RR hz|exact VL hz
  replace hc:=cB_ hc
  obtain rfl:k=16:=by omega
  obtain rfl:z=r.zero:=b9_ h hz;refine go3 ?_;refine sQ (cH fdT dd_ O) O (sQ (dX tyT O mm_ O) O ?_);refine go_ ?_;refine aL _ O (fun hb=>?_) (fun hb=>?_)
  ·replace hb:=cB_ hb
   refine go3 ?_
   cases hz0:r.zero
   ·refine go7 ?_;refine rt1 ?_
    simp [R.valid, *]
   refine sQ (cH fdT dd_ O) O (sQ (dX tyT O mm_ O) O ?_);refine go5 ?_;refine rt1 ?_
   simp [R.valid, *]
  replace hb:=cB_ hb
  refine go5 ?_
  cases hz0:r.zero
  ·refine go7 ?_;refine rt1 ?_
   simp [R.valid, *]
  refine sQ (cH fdT dd_ O) O (sQ (dX tyT O mm_ O) O ?_);refine go5 ?_;refine rt1 ?_
  simp [R.valid, *]
theorem cB (r:R) (h:r.Ok) :
   Ret prog 105 [RV r] (.bool r.good):=by
 refine bA (N:=12) func105 O O zz_ (fun w0=>?_);refine giI ?_;refine go_ ?_;refine aY O (lC O O (fun b1 hb1=>go3 ?_));refine sQ (cI tyT O mm_ (cO h)) O ?_;refine sQ (aX aE (vP r h) O) O (go5 ?_)
 cases hv:r.valid
 ·refine go7 ?_;refine rt1 ?_
  simp [R.good, *]
 refine sQ (cH fdT dd_ O) O (sQ (dX tyT O mm_ O) O ?_);refine go5 ?_;refine rt1 ?_
 simp [R.good, *]
theorem eA (neg:Bool) (va:Value) (l:List Nat) (hD:DL l) (hn:l.length≤1000) (w:World) (hva:Sl w va l) :
    Calls prog 149 [.bool neg,va].toArray w (fun e w'=>e = .returned (RV (Z.of (sgn neg (dv l))).enc)∧Ext w w'):=by
 refine dL (N:=62) func149 O O zz_ ?_;obtain ⟨w0,rfl⟩:=nm w;refine giI ?_;have hu0:∀ M,SL w0 [] M (sls va (dl (dv l)).length) (dl (dv l)):=fun M=>ay_ hD hva.old;refine go_ ?_;refine aY O (eS mX (fun b4 hb4=>go3 ?_));refine sQ (dF aE O (fun w hw=>kU va l hD hn w (SL.sl (M:=_) hva.old hw))) O (go5 ?_);refine sQ (oT j7 O (hu0 _)) O (go2 ?_);refine aL _ O (fun hbig=>?_) (fun hbig=>?_)
 ·replace hbig:=cB_ hbig
  refine go_ ?_;refine sQ (aX aE dS O) O (aY O (bV tyT O O uu_ (aI _) O (bN _) (.inl fP) ?_));refine go2 ?_;refine rtX O ⟨_,_,_,_,_,_,rfl,mm_,tyT,_,(dQ (aI _)),(aI _),rfl⟩ ?_;exact SV oo_
 replace hbig:=cB_ hbig
 have hlen:(dl (dv l)).length≤32:=by omega
 refine go_ ?_;refine rX (rg [6] 14 7) (fun g M=>∃ (b6:Nat),(g 6 = .pointer (some ⟨b6,0,none⟩))∧M=⟨b6,33,R.cells (R.mk false (neg&&decide ((0:Int)<((dl (dv l)).length:Int))) (List.replicate 16 0))⟩::[⟨b4,33,zR⟩]∧(w0.heap.size≤b6)) (fun K6 J6=>?_) ?_
 ·refine go3 ?_
  cases neg
  ·refine go4 ?_;refine sQ (zE mX plT O (YO _)) O (aY O (eS mX (fun b6 hb6=>aY O (bV tyT O O uu_ (by simp [R.cells,jB]) O (bN _) (.inl fP) ?_))));refine go_ ?_;refine J6 _ _ pp_ ⟨_,(List.Sublist.refl _),_,?s6,?mem,hb6⟩
   case mem=>rfl
   case s6=>rfl
  refine go_ ?_;refine sQ (oT j7 O (hu0 _)) O (go2 ?_);refine sQ (zE mX plT O (YO _)) O (aY O (eS mX (fun b6 hb6=>aY O (bV tyT O O uu_ (by simp [R.cells,jB]) O (bN _) (.inl fP) ?_))));refine go_ ?_;refine J6 _ _ pp_ ⟨_,(List.Sublist.refl _),_,?s6,?mem,hb6⟩
  case mem=>rfl
  case s6=>rfl
 rintro g M ⟨b6,hg6,rfl,hb6⟩;refine gS1 hg6 ?_;clear hg6;refine go5 ?_;refine cE (rg [7] 21 40) (fun g nn M=>∃ (k:Nat) (ws:List Nat),(g 7 = .int .i64 (k:Int))∧M=⟨b6,33,R.cells (R.mk false (neg&&decide ((0:Int)<((dl (dv l)).length:Int))) ws)⟩::[⟨b4,33,zR⟩]∧nn=(dl (dv l)).length - k∧(k≤(dl (dv l)).length∧NumIn (dv l) k ws)) ((dl (dv l)).length - 0) ?start ?round
 case start =>
  refine ⟨_,(List.Sublist.refl _),0,_,?a7,?mem0,rfl,⟨Nat.zero_le _,NumIn.start _⟩⟩
  case mem0=>rfl
  case a7=>rfl
 case round =>
  rintro nn g M ⟨k,ws,hg7,rfl,hmeas,⟨hk,hI⟩⟩;subst nn;refine gS1 hg7 ?_;clear hg7;refine go4 ?_;refine sQ (oT j7 O (hu0 _)) O (go2 ?_);refine aL _ O (fun hc=>?_) (fun hc=>?_)
  ·replace hc:=cB_ hc
   have hk32:k<32:=by omega
   refine go5 ?_;refine sQ (aM (tQ O O dd_) (congrArg (Value.int .i64) (gp_ k))) O (go2 ?_);refine aL _ O (fun hpar=>?_) (fun hpar=>?_)
   ·replace hpar:=cB_ hpar
    have hpar:k % 2=0:=by omega
    have hz:=(hI.even hpar hk32).2;refine kY (sd (sk s0)) 16 [15] [15] (go_ ?_);refine pQ O (aM (lI O O dd_) (congrArg (Value.int .i64) (bE_ k oo_))) (go_ ?_);refine pQ O (aM (lI O O dd_) (congrArg (Value.int .i64) (bE_ k oo_))) (pQ O (cH fdT dd_ O) (pQ O (eZ arT O O oo_ oo_) (pQ O (dX tyT O mm_ (oZ (r:=R.mk false (neg&&decide ((0:Int)<((dl (dv l)).length:Int))) ws) (k:=k / 2) (by simp only [hI.len];omega))) ?_)));refine go2 ?_;refine pQ O (BY j7 O O (hu0 _) oo_) (pQ O (yP tyT O (hu0 _) oo_) (pQ O (eX FS i4 O) (pQ O (aM (j3 O O) (show _=U32 (dg (dv l) k) by rw [(hI.even hpar hk32).1,EA];exact XS (qU _ _))) (pQ O (cH fdT dd_ O) (pQ O (eZ arT O O oo_ oo_) ?_)))));refine cJ O O (Q7 (k:=k / 2) tyT O O uu_ (by rw [hI.len];omega) (.inl fP) ⟨nf,ss_,?_⟩);refine go3 ?_;refine sQ (aM (j3 O O) (congrArg (Value.int .i64) (lJ oo_))) O (go2 ?_);refine ⟨pp_,_,_,(List.Sublist.refl _),oo_,k+1,_,?s7,?mem,rfl,⟨by omega,hz⟩⟩
    case mem=>rfl
    case s7=>rfl
   replace hpar:=cB_ hpar
   have hpar:¬ k % 2=0:=by omega
   have hz:=(hI.odd hpar hk32).2;refine gdr (sd (sk s0)) [0,4,8,12,16,20,24,28,32,36,40,44,48,52,56,60,65] [16] mix (by kernel_rfl) (go_ ?_);refine pQ O (aM (lI O O dd_) (congrArg (Value.int .i64) (bE_ k oo_))) (go_ ?_);refine pQ O (aM (lI O O dd_) (congrArg (Value.int .i64) (bE_ k oo_))) (pQ O (cH fdT dd_ O) (pQ O (eZ arT O O oo_ oo_) (pQ O (dX tyT O mm_ (oZ (r:=R.mk false (neg&&decide ((0:Int)<((dl (dv l)).length:Int))) ws) (k:=k / 2) (by simp only [hI.len];omega))) ?_)));refine go2 ?_;refine pQ O (BY j7 O O (hu0 _) oo_) (pQ O (yP tyT O (hu0 _) oo_) (pQ O (eX FS i4 O) (go_ ?_)));refine pQ O (aM (j3 O O) (show _=U32 (ws.getD (k / 2) 0+dg (dv l) k*65536) by rw [EA];exact aW_ (hI.odd hpar hk32).1 (qU _ _))) (pQ O (cH fdT dd_ O) (pQ O (eZ arT O O oo_ oo_) ?_));refine cJ O O (Q7 (k:=k / 2) tyT O O uu_ (by rw [hI.len];omega) (.inl fP) ⟨nf,ss_,?_⟩);refine go3 ?_;refine sQ (aM (j3 O O) (congrArg (Value.int .i64) (lJ oo_))) O (go2 ?_);refine ⟨pp_,_,_,(List.Sublist.refl _),oo_,k+1,_,?s7,?mem,rfl,⟨by omega,hz⟩⟩
   case mem=>rfl
   case s7=>rfl
  replace hc:=cB_ hc
  obtain rfl:k=(dl (dv l)).length:=by omega
  refine go2 ?_;refine sQ (cI tyT O mm_ (by simp [R.cells,jB,hI.len])) O ?_;refine aY O (bV tyT O O uu_ (by simp [R.cells,jB,hI.len]) O (bN _) (.inl fP) ?_);refine go2 ?_;refine rtX O ⟨_,_,_,_,_,_,rfl,mm_,tyT,_,(dQ (by simp [R.cells,jB,hI.len])),(by simp [R.cells,jB,hI.len]),rfl⟩ ?_;exact SW hI
end Go.Proofs.YtbjlhfochebmiaaGreatDoor
