/- Lemmas: what they ask stands in their statements. -/
import Derived.Test.YtbjlhfochebmiaaGreatDoorMGE
set_option linter.unusedSimpArgs false
set_option linter.unusedVariables false
namespace Go.Num
open Go Go.Kn
structure Facet where
 n:A3 W
 d:W
 ats:List W
structure HShape where
 c:Convex
 e:W
structure Range14 where
 lo:A3 W
 hi:A3 W
structure Grid14 where
 l:List (A3 W)
 s:W
def A30:A3 W:=⟨W.z,W.z,W.z⟩
def pF:El2 Facet W:=⟨5,fun p c f=>[ci .i64 f.n.x.1,ci .i64 f.n.y.1,ci .i64 f.n.z.1,ci .i64 f.d.1,csl p f.ats.length c],fun _ _ _=>rfl,elW,Facet.ats⟩
abbrev u5:El (Lo Facet):=pF.el
def o6:Facet:=⟨⟨W.z,W.z,W.z⟩,W.z,[]⟩
def oD:Lo Facet:=⟨none,0,o6⟩
abbrev lo0 (f:Facet):Lo Facet:=⟨none,0,f⟩
end Go.Num
namespace Go.Kn
open Go Go.Num
section
variable {σ α:Type} {D:El2 σ α} {P:Program} {w0:World} {X:List Nat} {N:Nm} {S:Fr} {M R L L1 LL:List Blk} {d:Option Tmp} {ty:TypeId} {ps:String} {af:Array Edge} {gd:Option (Nat×Bool)} {v:Value} {l:List σ} {E:TypeId}
theorem Own2.nil:Own2 w0 E D (.slice none 0 0) [] [] []:=⟨[],rfl,OwnG.nil,fun _ h=>by cases h⟩
theorem TB {G:List (Lo σ)→Lo σ→List (Lo σ)} (C:List σ→σ→List σ) (hG:∀ H z,(G H z).map Lo.x=C (H.map Lo.x) z.x) (hm:∀ H z,∀ h∈G H z,h=z∨h∈H)
  {g:FuncId} {xs:List Operand} {tys:Array TypeId} {args:List Value} {K:Value→List Blk→Prop} (he:lV P g=true) (ha:evL N S xs=some args) {z:σ} {a:Option Addr} {c0:Nat}
  (hv:Own2 w0 E D v l L LL) (hz:SLfe w0 L1 D.e (.slice a (D.li z).length c0) (D.li z)) (hs:M.Perm (L++(L1++(LL++R))))
  (h:∀ (w:World) (H:List (Lo σ)),H.length=l.length→Slr w D.el v H→Calls P g args.toArray w fun f w'=>∃ u,f = .returned u∧Ext w w'∧Slo w.heap.size w' E D.el u (G H ⟨a,c0,z⟩))
  (k:∀ p c L' LL',Own2 w0 E D (.slice p (C l z).length c) (C l z) L' LL'→L1.Sublist LL'→LL.Sublist LL'→K (.slice p (C l z).length c) (L'++(LL'++R))) :
  OpR P w0 X N ⟨d,.call { callee:=.value (.func g),args:=xs.toArray,argTypes:=tys },ty,ps,af,gd⟩ S M K:=by
 refine OpR.perm hs ?_;obtain ⟨H,h1,h2,h3⟩:=hv;refine BZ he ha fun w hw=>(h w H (xO h1) ((h2.slfe (List.sublist_append_left _ _)).sle w hw)).mono fun f w' hh=>?_;obtain ⟨u,e1,e2,e3⟩:=hh;obtain ⟨p,c,L',rfl,hs',ho⟩:=e3.now hw e2
 have hg:(G H ⟨a,c0,z⟩).map Lo.x=C l z:=by rw [hG,h1]
 have hlen:=xO hg;rw [hlen] at e1 ho
 have hsub:(L'++((L1++LL)++R)).Sublist (L'++(L++(L1++(LL++R)))):=by
  rw [List.append_assoc];exact (List.Sublist.refl _).append (List.sublist_append_right _ _)
 refine ⟨_,L'++((L1++LL)++R),e1,hs'.sub hsub,Ext.keeps e2,k p c L' (L1++LL) ⟨_,hg,ho,fun h hh=>?_⟩ (List.sublist_append_left _ _) (List.sublist_append_right _ _)⟩;rcases hm _ _ h hh with rfl|hh
 ·exact hz.sub (List.sublist_append_left _ _)
 exact (h3 h hh).sub (List.sublist_append_right _ _)
theorem GW {T:TypeId} {x y:Operand} {n s m i:Nat} {k:IntKind} (hT:BH P T=some (n,s)) (hx:evO N S x=some (.pointer (some (slb v m)))) (hy:evO N S y=some (.int k (Int.ofNat i))) (h1:Nat.blt i n=true) :
  OpQ P w0 X N ⟨d,.indexAddr T x y,ty,ps,af,gd⟩ S M (.pointer (some (slb v (m+i*s)))) :=
 qT fun w _=>by
  obtain ⟨e,q,hd,hi,hs⟩:=xK hT
  have h1:i<n:=by simpa [Nat.blt_eq] using h1
  simp [execOp,cG hx,cG hy,Instr.indexAt,asIntOf,run_underlying hd,Instr.sureAddr,sizeOf,typeInfo,hi,hs,h1,F6]
theorem OU {g:FuncId} {xs:List Operand} {tys:Array TypeId} {args:List Value} {r:Value} (he:lV P g=true) (ha:evL N S xs=some args) (hv:SLe2 w0 X M D v l)
  (h:∀ (w:World) (H:List (Lo σ)),H.map Lo.x=l→Slr w D.el v H→Calls P g args.toArray w fun f w'=>f = .returned r∧Ext w w'):OpQ P w0 X N ⟨d,.call { callee:=.value (.func g),args:=xs.toArray,argTypes:=tys },ty,ps,af,gd⟩ S M r:=by
 obtain ⟨H,h1,h2,h3⟩:=hv;exact dF he ha fun w hw=>h w H h1 (h2 w hw)
end
end Go.Kn
namespace Go.Num
open Go Go.Kn
def o8 (a:I):I :=
 bif a.1.good then (E (Z.of (sgn (!a.1.neg) (val a.1.w)))) else (E Z.bad)
def o7 (a:I):I :=
 bif a.1.good then (E (Z.of (sgn false (val a.1.w)))) else (E Z.bad)
def lB (a:I) (b:I):I :=
 bif ((jQ a.1)&&(jQ b.1)) then (E (Z.of (W.add (eK a) (eK b)).1)) else (bif (!a.1.good||(!b.1.good)) then (E Z.bad) else (bif (a.1.neg==b.1.neg) then (E (Z.of (sgn a.1.neg ((val a.1.w)+(val b.1.w))))) else (bif decide ((val a.1.w)<(val b.1.w)) then (E (Z.of (sgn b.1.neg ((val b.1.w) - (val a.1.w))))) else (E (Z.of (sgn a.1.neg ((val a.1.w) - (val b.1.w))))))))
def yH (a:I) (b:I):I :=
 (E (Z.add a.dec (Z.neg b.dec)))
def nY (a:I) (b:I):I :=
 bif ((jQ a.1)&&((jQ b.1)&&((decide ((eK a).1<2147483648)&&decide (-2147483648<(eK a).1))&&(decide ((eK b).1<2147483648)&&decide (-2147483648<(eK b).1))))) then (E (Z.of (W.mul (eK a) (eK b)).1)) else (bif (!a.1.good||(!b.1.good)) then (E Z.bad) else (E (Z.of (sgn (a.1.neg != b.1.neg) ((val a.1.w)*(val b.1.w))))))
def mY (a:I):W :=
 bif (!a.1.good||(((dl (val a.1.w)).length:Int)==0)) then (wl 0) else (bif a.1.neg then (wl (-1)) else (wl 1))
def fR (a:I) (b:I):W :=
 bif (!a.1.good&&(!b.1.good)) then (wl 0) else (bif a.1.good then (bif b.1.good then (bif (a.1.neg != b.1.neg) then (bif a.1.neg then (wl (-1)) else (wl 1)) else (bif a.1.neg then (bif decide ((val b.1.w)<(val a.1.w)) then (wl (-1)) else (bif decide ((val a.1.w)<(val b.1.w)) then (wl 1) else (wl 0))) else (bif decide ((val a.1.w)<(val b.1.w)) then (wl (-1)) else (bif decide ((val b.1.w)<(val a.1.w)) then (wl 1) else (wl 0))))) else (wl 1)) else (wl (-1)))
def mB (a:I) (b:I):I :=
 bif ((jQ a.1)&&((jQ b.1)&&((eK b).1 != 0))) then (E (Z.of (W.fdiv (eK a) (eK b)).1)) else (bif (!a.1.good||(!b.1.good||(((dl (val b.1.w)).length:Int)==0))) then (E Z.bad) else (bif ((a.1.neg != b.1.neg)&&decide (0<((dl ((val a.1.w) % (val b.1.w))).length:Int))) then (E (Z.of (sgn (a.1.neg != b.1.neg) (((val a.1.w) / (val b.1.w))+1)))) else (E (Z.of (sgn (a.1.neg != b.1.neg) ((val a.1.w) / (val b.1.w)))))))
def F_ratio_one :I :=
 let q0:I:=(E (Z.of 1))
 q0
def tT :Rt :=
 let q0:I:=(E Z.bad)
 let q1:I:=F_ratio_one
 (⟨q0,q1⟩:Rt)
def mQ (a:I):Bool :=
 (!a.1.bad&&a.1.valid)
def eE (a:Rt):Bool :=
 ((mQ a.n)&&((mQ a.d)&&(decide (0<(Z.signW a.d.dec).1)&&decide ((E (Z.gcd a.n.dec a.d.dec))=F_ratio_one))))
def cV (a:I) (b:I):Rt :=
 bif (!(mQ a)||(!(mQ b)||((Z.signW b.dec).1==0))) then tT else (bif decide ((Z.signW b.dec).1<0) then (⟨(E (Z.quo a.dec (Z.neg (Z.gcd a.dec b.dec)))),(E (Z.quo b.dec (Z.neg (Z.gcd a.dec b.dec))))⟩:Rt) else (⟨(E (Z.quo a.dec (Z.gcd a.dec b.dec))),(E (Z.quo b.dec (Z.gcd a.dec b.dec)))⟩:Rt))
def z8 (a:I):Rt :=
 (cV a F_ratio_one)
def fI (a:W):Rt :=
 (z8 (E (Z.of a.1)))
def n5 (a:Rt):Rt :=
 bif (eE a) then (⟨(E (Z.neg a.n.dec)),a.d⟩:Rt) else (tT)
def pN (a:Rt) (b:Rt):Rt :=
 bif (!(eE a)||(!(eE b))) then tT else (let r15:I:=(E (Z.add (Z.mul a.n.dec (Z.quo b.d.dec (Z.gcd a.d.dec b.d.dec))) (Z.mul b.n.dec (Z.quo a.d.dec (Z.gcd a.d.dec b.d.dec)))))
 let r16:Rt:=(cV r15 (E (Z.mul (Z.quo a.d.dec (Z.gcd a.d.dec b.d.dec)) b.d.dec)))
 r16)
def j4 (a:Rt) (b:Rt):Rt :=
 bif (!(eE a)||(!(eE b))) then tT else (let r26:I:=(E (Z.mul ((cV a.n b.d).n).dec ((cV b.n a.d).n).dec))
 let r27:I:=(E (Z.mul ((cV a.n b.d).d).dec ((cV b.n a.d).d).dec))
 bif (r26.1.bad||r27.1.bad) then tT else (⟨r26,r27⟩:Rt))
def F_skewbackref04_one :I :=
 let q0:I:=(E (Z.of 1))
 q0
def j9 :Rt :=
 let q0:I:=(E Z.bad)
 let q1:I:=F_skewbackref04_one
 (⟨q0,q1⟩:Rt)
def aW (a:I) (b:I):Rt :=
 bif (!a.1.good||(!b.1.good||((Z.signW b.dec).1==0))) then j9 else (bif decide ((Z.signW b.dec).1<0) then (⟨(E (Z.quo a.dec (Z.neg (Z.gcd a.dec b.dec)))),(E (Z.quo b.dec (Z.neg (Z.gcd a.dec b.dec))))⟩:Rt) else (⟨(E (Z.quo a.dec (Z.gcd a.dec b.dec))),(E (Z.quo b.dec (Z.gcd a.dec b.dec)))⟩:Rt))
def cM (a:W):Rt :=
 let r2:Rt:=(aW (E (Z.of a.1)) F_skewbackref04_one)
 r2
def jT (a:W) (b:W):Rt :=
 let r2:Rt:=(aW (E (Z.of a.1)) (E (Z.of b.1)))
 r2
def aT (a:Rt):Bool :=
 bif (!a.n.1.good||(!a.d.1.good)) then false else (decide (0<(Z.signW a.d.dec).1)&&decide ((E (Z.gcd a.n.dec a.d.dec))=F_skewbackref04_one))
def dM (a:Rt):Rt :=
 bif (aT a) then (⟨(E (Z.neg a.n.dec)),a.d⟩:Rt) else (j9)
def cN (a:Rt) (b:Rt):Rt :=
 bif (!(aT a)||(!(aT b))) then j9 else (let r11:I:=(E (Z.add (Z.mul a.n.dec (Z.quo b.d.dec (Z.gcd a.d.dec b.d.dec))) (Z.mul b.n.dec (Z.quo a.d.dec (Z.gcd a.d.dec b.d.dec)))))
 let r12:Rt:=(aW r11 (E (Z.mul (Z.quo a.d.dec (Z.gcd a.d.dec b.d.dec)) b.d.dec)))
 r12)
def fJ (a:Rt) (b:Rt):Rt :=
 bif (!(aT a)||(!(aT b))) then j9 else (let r10:I:=(E (Z.mul ((aW a.n b.d).n).dec ((aW b.n a.d).n).dec))
 let r12:I:=(E (Z.mul ((aW a.n b.d).d).dec ((aW b.n a.d).d).dec))
 (aW r10 r12))
def gJ (a:Rt) (b:Bool):I :=
 bif b then (E (Z.of 0)) else (E Z.bad)
def n6 (a:(A3 W)):(A3 Rt) :=
 (⟨(fI a.x),(fI a.y),(fI a.z)⟩:(A3 Rt))
def nI (a:(A3 Rt)) (b:(A3 Rt)):(A3 Rt) :=
 (⟨(pN a.x b.x),(pN a.y b.y),(pN a.z b.z)⟩:(A3 Rt))
def lR (a:Rt) (b:(A3 Rt)):(A3 Rt) :=
 (⟨(j4 a b.x),(j4 a b.y),(j4 a b.z)⟩:(A3 Rt))
def lD (a:(A3 W)):Bool :=
 bif (decide (2305843009213693952≤a.x.1)||decide (a.x.1≤(-2305843009213693952))) then false else (bif (decide (2305843009213693952≤a.y.1)||decide (a.y.1≤(-2305843009213693952))) then false else (bif (decide (2305843009213693952≤a.z.1)||decide (a.z.1≤(-2305843009213693952))) then false else true))
def oL (a:(A3 W)):(A3 I) :=
 (⟨(E (Z.of a.x.1)),(E (Z.of a.y.1)),(E (Z.of a.z.1))⟩:(A3 I))
def eH (a:(A3 I)):Dir :=
 bif (E (Z.gcd (Z.gcd (Z.gcd (Z.of 0) a.x.dec) a.y.dec) a.z.dec)).1.bad then (⟨(⟨(wl 0),(wl 0),(wl 0)⟩:(A3 W)),(wl 30)⟩:Dir) else (bif ((Z.signW (Z.gcd (Z.gcd (Z.gcd (Z.of 0) a.x.dec) a.y.dec) a.z.dec)).1==0) then (⟨(⟨(wl 0),(wl 0),(wl 0)⟩:(A3 W)),(wl 31)⟩:Dir) else (let r7:I:=(E (Z.quo a.x.dec (Z.gcd (Z.gcd (Z.gcd (Z.of 0) a.x.dec) a.y.dec) a.z.dec)))
 bif r7.dec.small.2 then (let r9:I:=(E (Z.quo a.y.dec (Z.gcd (Z.gcd (Z.gcd (Z.of 0) a.x.dec) a.y.dec) a.z.dec)))
 bif r9.dec.small.2 then (let r11:I:=(E (Z.quo a.z.dec (Z.gcd (Z.gcd (Z.gcd (Z.of 0) a.x.dec) a.y.dec) a.z.dec)))
 bif r11.dec.small.2 then (bif (lD (⟨(Z.smallW r7.dec),(Z.smallW r9.dec),(Z.smallW r11.dec)⟩:(A3 W))) then (⟨(⟨(Z.smallW r7.dec),(Z.smallW r9.dec),(Z.smallW r11.dec)⟩:(A3 W)),(wl 0)⟩:Dir) else (⟨(⟨(wl 0),(wl 0),(wl 0)⟩:(A3 W)),(wl 30)⟩:Dir)) else (⟨(⟨(wl 0),(wl 0),(wl 0)⟩:(A3 W)),(wl 30)⟩:Dir)) else (⟨(⟨(wl 0),(wl 0),(wl 0)⟩:(A3 W)),(wl 30)⟩:Dir)) else (⟨(⟨(wl 0),(wl 0),(wl 0)⟩:(A3 W)),(wl 30)⟩:Dir)))
def gK (a:(A3 Rt)) (b:(A3 Rt)):(A3 Rt) :=
 (⟨(cN a.x b.x),(cN a.y b.y),(cN a.z b.z)⟩:(A3 Rt))
def iN (a:(A3 W)):(A3 Rt) :=
 (⟨(cM a.x),(cM a.y),(cM a.z)⟩:(A3 Rt))
def hP (a:(A3 W)) (b:(A3 W)):Bool :=
 bif (a.x.1 != b.x.1) then (decide (a.x.1<b.x.1)) else (bif (a.y.1 != b.y.1) then (decide (a.y.1<b.y.1)) else (decide (a.z.1<b.z.1)))
def dI (a:(A3 W)) (b:(A3 W)):(A3 W) :=
 (⟨(W.sub a.x b.x),(W.sub a.y b.y),(W.sub a.z b.z)⟩:(A3 W))
def aF (a:(A3 W)) (b:(A3 W)):W :=
 (W.add (W.add (W.mul a.x b.x) (W.mul a.y b.y)) (W.mul a.z b.z))
def lE (a:(A3 W)) (b:(A3 W)):(A3 W) :=
 (⟨(W.sub (W.mul a.y b.z) (W.mul a.z b.y)),(W.sub (W.mul a.z b.x) (W.mul a.x b.z)),(W.sub (W.mul a.x b.y) (W.mul a.y b.x))⟩:(A3 W))
def eP (n:W):W :=
 bif decide (n.1<0) then (wl (-1)) else (bif decide (0<n.1) then (wl 1) else (wl 0))
def jU (n:(A3 W)) (c:(A3 W)):W :=
 bif (n.x.1 != 0) then (W.mul (eP n.x) (eP c.x)) else (bif (n.y.1 != 0) then (W.mul (eP n.y) (eP c.y)) else (bif (n.z.1 != 0) then (W.mul (eP n.z) (eP c.z)) else (wl 0)))
def nL (a:(A3 W)) (b:(A3 W)) (c:(A3 W)):(A3 W) :=
 let r5:(A3 W):=(dI b a)
 let r6:(A3 W):=(dI c a)
 let r7:(A3 W):=(lE r5 r6)
 let r9:(A3 I):=(oL r7)
 let r10:Dir:=(eH r9)
 r10.v
def jK (l:(List (A3 W))) (n:(A3 W)) (d:W):Nat→Bool→Nat→(Bool×Nat) ⊕ (Bool)
 | 0,below,k=>.inl (below,k)
 | k0+1,below,k=>bif decide ((k:Int)<(l.length:Int)) then (bif decide (d.1<(aF n (l.getD k A30)).1) then (.inr false) else (bif below then (jK l n d k0 true (k+1)) else (jK l n d k0 (decide ((aF n (l.getD k A30)).1<d.1)) (k+1)))) else (.inl (below,k))
def fG (l:(List (A3 W))) (n:(A3 W)) (d:W):Bool :=
 sm (fun (s:Bool×Nat)=>let below:Bool:=s.1
 let k:Nat:=s.2
 below) (fun r=>r) (jK l n d (l.length+1) false 0)
def gW (l:(List (Lo Facet))) (n:(A3 W)):Nat→Nat→(Nat) ⊕ (Bool)
 | 0,k=>.inl k
 | k0+1,k=>bif decide ((k:Int)<(l.length:Int)) then (bif (decide ((((l.getD k oD).x.n).x).1=n.x.1)&&(decide ((((l.getD k oD).x.n).y).1=n.y.1)&&decide ((((l.getD k oD).x.n).z).1=n.z.1))) then (.inr true) else (gW l n k0 (k+1))) else (.inl k)
def mI (l:(List (Lo Facet))) (n:(A3 W)):Bool :=
 sm (fun (s:Nat)=>let k:Nat:=s
 false) (fun r=>r) (gW l n (l.length+1) 0)
def cP (l:(List (Lo Facet))) (f:(Lo Facet)):Nat→(List (Lo Facet))→Bool→Nat→List (Lo Facet)×Bool×Nat
 | 0,out,put,k=>(out,put,k)
 | k0+1,out,put,k=>bif decide ((k:Int)<(l.length:Int)) then (bif (!put&&(hP f.x.n ((l.getD k oD).x.n))) then (cP l f k0 ((out++[f])++[(l.getD k oD)]) true (k+1)) else (cP l f k0 (out++[(l.getD k oD)]) put (k+1))) else (out,put,k)
def fN (l:(List (Lo Facet))) (f:(Lo Facet)):(List (Lo Facet)) :=
 ap (fun (s:List (Lo Facet)×Bool×Nat)=>let out:List (Lo Facet):=s.1
 let put:Bool:=s.2.1
 let k:Nat:=s.2.2
 bif put then out else (out++[f])) (cP l f (l.length+1) ([]:List (Lo Facet)) false 0)
def lQ (a:(List (A3 W))) (b:(List (A3 W))):Nat→Nat→(Nat) ⊕ (Bool)
 | 0,k=>.inl k
 | k0+1,k=>bif decide ((k:Int)<(a.length:Int)) then (bif (decide (((a.getD k A30).x).1=((b.getD k A30).x).1)&&(decide (((a.getD k A30).y).1=((b.getD k A30).y).1)&&decide (((a.getD k A30).z).1=((b.getD k A30).z).1))) then (lQ a b k0 (k+1)) else (.inr false)) else (.inl k)
def kK (a:(List (A3 W))) (b:(List (A3 W))):Bool :=
 bif ((a.length:Int) != (b.length:Int)) then false else (sm (fun (s:Nat)=>let k:Nat:=s
 true) (fun r=>r) (lQ a b (a.length+1) 0))
def kF (l:(List (A3 W))) (n:(A3 W)) (d:W) (a:(A3 W)) (b:(A3 W)) (r4:(A3 W)):Nat→Nat→(Nat) ⊕ (Bool)
 | 0,k=>.inl k
 | k0+1,k=>bif decide ((k:Int)<(l.length:Int)) then (bif ((aF n (l.getD k A30)).1 != d.1) then (kF l n d a b r4 k0 (k+1)) else (let r23:(A3 W):=(dI (l.getD k A30) a)
 let r25:(A3 W):=(lE r4 r23)
 bif (decide ((jU n r25).1<0)||(((jU n r25).1==0)&&(decide ((aF r23 r4).1<0)||decide ((aF r4 r4).1<(aF r23 r4).1)))) then (.inr false) else (kF l n d a b r4 k0 (k+1)))) else (.inl k)
def oM (l:(List (A3 W))) (n:(A3 W)) (d:W) (a:(A3 W)) (b:(A3 W)):Bool :=
 let r4:(A3 W):=(dI b a)
 sm (fun (s:Nat)=>let k:Nat:=s
 true) (fun r=>r) (kF l n d a b r4 (l.length+1) 0)
def eB (l:(List (A3 W))) (out:List (A3 W)) (i:Nat):Nat→(List (A3 W))→Bool→Nat→List (A3 W)×Bool×Nat
 | 0,next,put,k=>(next,put,k)
 | k1+1,next,put,k=>bif decide ((k:Int)<(out.length:Int)) then (bif (!put&&((hP (l.getD i A30) (out.getD k A30))||(decide (((l.getD i A30).x).1=((out.getD k A30).x).1)&&(decide (((l.getD i A30).y).1=((out.getD k A30).y).1)&&decide (((l.getD i A30).z).1=((out.getD k A30).z).1))))) then (bif (decide (((out.getD k A30).x).1=((l.getD i A30).x).1)&&(decide (((out.getD k A30).y).1=((l.getD i A30).y).1)&&decide (((out.getD k A30).z).1=((l.getD i A30).z).1))) then (eB l out i k1 (next++[(l.getD i A30)]) true (k+1)) else (eB l out i k1 ((next++[(l.getD i A30)])++[(out.getD k A30)]) true (k+1))) else (bif (decide (((out.getD k A30).x).1=((l.getD i A30).x).1)&&(decide (((out.getD k A30).y).1=((l.getD i A30).y).1)&&decide (((out.getD k A30).z).1=((l.getD i A30).z).1))) then (eB l out i k1 next put (k+1)) else (eB l out i k1 (next++[(out.getD k A30)]) put (k+1)))) else (next,put,k)
def fO (l:(List (A3 W))):Nat→(List (A3 W))→Nat→List (A3 W)×Nat
 | 0,out,i=>(out,i)
 | k0+1,out,i=>bif decide ((i:Int)<(l.length:Int)) then (ap (fun (s:List (A3 W)×Bool×Nat)=>let next:List (A3 W):=s.1
 let put:Bool:=s.2.1
 let k:Nat:=s.2.2
 bif put then (fO l k0 next (i+1)) else (fO l k0 (next++[(l.getD i A30)]) (i+1))) (eB l out i (out.length+1) ([]:List (A3 W)) false 0)) else (out,i)
def aK (l:(List (A3 W))):(List (A3 W)) :=
 ap (fun (s:List (A3 W)×Nat)=>let out:List (A3 W):=s.1
 let i:Nat:=s.2
 out) (fO l (l.length+1) ([]:List (A3 W)) 0)
def jL (l:(List (A3 W))) (n:(A3 W)) (d:W):Nat→Int→Nat→Int×Nat
 | 0,p0,j=>(p0,j)
 | k0+1,p0,j=>bif (decide ((j:Int)<(l.length:Int))&&decide (p0<0)) then (bif ((aF n (l.getD j A30)).1==d.1) then (jL l n d k0 (j:Int) (j+1)) else (jL l n d k0 p0 (j+1))) else (p0,j)
def iA (l:(List (A3 W))) (n:(A3 W)) (d:W) (p0:Int) (j:Nat) (out:List W) (p:Int):Nat→Int→Nat→Int×Nat
 | 0,nx,k=>(nx,k)
 | k2+1,nx,k=>bif (decide ((k:Int)<(l.length:Int))&&decide (nx<0)) then (bif (((k:Int) != p)&&((aF n (l.getD k A30)).1==d.1)) then (bif (oM l n d (l.getD (p.toNat) A30) (l.getD k A30)) then (iA l n d p0 j out p k2 (k:Int) (k+1)) else (iA l n d p0 j out p k2 nx (k+1))) else (iA l n d p0 j out p k2 nx (k+1))) else (nx,k)
def kL (l:(List (A3 W))) (n:(A3 W)) (d:W) (p0:Int) (j:Nat):Nat→(List W)→Int→List W×Int
 | 0,out,p=>(out,p)
 | k1+1,out,p=>bif decide ((out.length:Int)≤(l.length:Int)) then (ap (fun (s:Int×Nat)=>let nx:Int:=s.1
 let k:Nat:=s.2
 bif ((nx==p0)||decide (nx<0)) then ((out++[(W.cv p)]),nx) else (kL l n d p0 j k1 (out++[(W.cv p)]) nx)) (iA l n d p0 j out p (l.length+1) (-1) 0)) else (out,p)
def bH (l:(List (A3 W))) (n:(A3 W)) (d:W):(List W) :=
 ap (fun (s_:Int×Nat)=>let p0:Int:=s_.1
 let j:Nat:=s_.2
 ap (fun (s:List W×Int)=>let out:List W:=s.1
 let p:Int:=s.2
 out) (kL l n d p0 j (l.length+2) ([]:List W) p0)) (jL l n d (l.length+1) (-1) 0)
def sI (put:Bool) (n k:Nat):Prop:=n≤k+1∧(put=false→n≤k)
theorem dZ_:sI false 0 0:=⟨by omega,fun _=>by omega⟩
theorem M7 {put:Bool} {n k:Nat} (h:sI put n k):sI put (n+1) (k+1):=⟨by have:=h.1;omega,fun e=>by have:=h.2 e;omega⟩
theorem RE {put:Bool} {n k:Nat} (h:sI put n k):sI put n (k+1):=⟨by have:=h.1;omega,fun e=>by have:=h.2 e;omega⟩
theorem U3 {put:Bool} {n k:Nat} (h:sI put n k) (e:put=false):sI true (n+1+1) (k+1):=⟨by have:=h.2 e;omega,fun e=>by cases e⟩
theorem af_ {put:Bool} {n k:Nat} (h:sI put n k) (e:put=false):sI true (n+1) (k+1):=⟨by have:=h.2 e;omega,fun e=>by cases e⟩
theorem TJ {put b:Bool} (h:(!put&&b)=true):put=false:=by cases put;rfl;cases h
theorem gs_ {put:Bool} {n k m:Nat} (h:k≤m∧sI put n k) (e:m=k):sI put n m:=by subst e;exact h.2
def pS (l:List (A3 W)) (n:A3 W) (d:W) (k:Nat) (p:Int):Prop:=(p<0→∀ j,j<k→(aF n (l.getD j A30)).1≠d.1)∧-1≤p∧p<(l.length:Int)
section
variable {l:List (A3 W)} {n:A3 W} {d:W} {k:Nat} {p:Int}
theorem gm_:pS l n d 0 (-1):=⟨fun _ j h=>absurd h (Nat.not_lt_zero _),by omega,by omega⟩
theorem dJ_ (h:pS l n d k p) (hk:k<l.length):pS l n d (k+1) (k:Int):=⟨fun e=>by omega,by omega,by omega⟩
theorem bA_ (h:pS l n d k p) (e:((aF n (l.getD k A30)).1==d.1)=false):pS l n d (k+1) p:=⟨fun hp j hj=>by
 by_cases e':j=k
 ·subst e';simpa using e
 exact h.1 hp j oo_,h.2⟩
theorem gn_ (h:k≤l.length∧pS l n d k p) (hx:∃ k,k<l.length∧(aF n (l.getD k A30)).1=d.1) (e:(decide ((k:Int)<(l.length:Int))&&decide (p<0))=false):0≤p∧p<(l.length:Int):=by
 refine ⟨?_,h.2.2.2⟩;obtain ⟨j,j1,j2⟩:=hx;rcases Bool.and_eq_false_iff.1 e with e|e
 ·have e:=of_decide_eq_false e
  by_cases h0:p<0
  ·exact absurd j2 (h.2.1 h0 j oo_)
  omega
 have:=of_decide_eq_false e;omega
end
def wJ (l:List Facet) (n:A3 W):Bool:=mI (l.map lo0) n
def oH (l:List Facet) (z:Facet):List Facet:=(fN (l.map lo0) (lo0 z)).map Lo.x
theorem bi_ (l:List (Lo Facet)) (k:Nat):(l.getD k oD).x=(l.map Lo.x).getD k o6:=by
 rw [List.getD_eq_getElem?_getD,List.getD_eq_getElem?_getD,List.getElem?_map]
 cases l[k]?<;>rfl
theorem UJ (l:List Facet):(l.map lo0).map Lo.x=l:=by rw [List.map_map];exact List.map_id' l
theorem JN {l l':List (Lo Facet)} (h:l.map Lo.x=l'.map Lo.x) (n:A3 W):∀ f k,gW l n f k=gW l' n f k
 | 0,k=>rfl
 | f+1,k=>by
  have hl:l.length=l'.length:=by have:=congrArg List.length h;simpa using this
  unfold gW;rw [bi_,bi_,h,hl,JN h n f (k+1)]
theorem GQ (H:List (Lo Facet)) (n:A3 W):mI H n=wJ (H.map Lo.x) n:=by
 have h:H.map Lo.x=((H.map Lo.x).map lo0).map Lo.x:=(UJ _).symm
 have hl:H.length=((H.map Lo.x).map lo0).length:=by simp
 unfold wJ mI;rw [JN h,hl]
theorem JK {l l':List (Lo Facet)} (h:l.map Lo.x=l'.map Lo.x) {z z':Lo Facet} (hz:z.x=z'.x):∀ (f:Nat) (out out':List (Lo Facet)) (put:Bool) (k:Nat),out.map Lo.x=out'.map Lo.x →
  (cP l z f out put k).1.map Lo.x=(cP l' z' f out' put k).1.map Lo.x∧(cP l z f out put k).2.1=(cP l' z' f out' put k).2.1
 | 0,out,out',put,k,ho=>⟨ho,rfl⟩
 | f+1,out,out',put,k,ho=>by
  have hl:l.length=l'.length:=by have:=congrArg List.length h;simpa using this
  have hg:(l.getD k oD).x=(l'.getD k oD).x:=by rw [bi_,bi_,h]
  unfold cP;rw [← hl,← hz,← hg]
  cases decide ((k:Int)<(l.length:Int))
  ·exact ⟨ho,rfl⟩
  simp only [cond_true]
  cases (!put&&hP z.x.n ((l.getD k oD).x.n))
  ·simp only [cond_false]
   exact JK h hz f _ _ _ _ (by simp only [List.map_append,ho,List.map_cons,List.map_nil,hg])
  simp only [cond_true];exact JK h hz f _ _ _ _ (by simp only [List.map_append,ho,List.map_cons,List.map_nil,hg,hz])
theorem E4 (H:List (Lo Facet)) (z:Lo Facet):(fN H z).map Lo.x=oH (H.map Lo.x) z.x:=by
 have h:H.map Lo.x=((H.map Lo.x).map lo0).map Lo.x:=(UJ _).symm
 have hl:H.length=((H.map Lo.x).map lo0).length:=by simp
 have k:=JK h (z:=z) (z':=lo0 z.x) O (H.length+1) [] [] false 0 O;unfold oH fN;rw [← hl];generalize cP H z (H.length+1) [] false 0=a at k ⊢;generalize cP ((H.map Lo.x).map lo0) (lo0 z.x) (H.length+1) [] false 0=b at k ⊢;obtain ⟨a1,a2,a3⟩:=a;obtain ⟨b1,b2,b3⟩:=b;obtain ⟨k1,k2⟩:=k;simp only at k1 k2;subst k2;simp only [ap]
 cases a2
 ·simp only [cond_false,List.map_append,k1];rfl
 simp only [cond_true,k1]
theorem QF {α:Type} {l:List α} {k:Nat} {d:α} (h:k<l.length):l.getD k d∈l:=by
 rw [List.getD_eq_getElem?_getD,List.getElem?_eq_getElem h];exact List.getElem_mem h
theorem OI (l:List (Lo Facet)) (z:Lo Facet):∀ (f:Nat) (out:List (Lo Facet)) (put:Bool) (k:Nat),(∀ h∈out,h=z∨h∈l)→sI put out.length k →
  (∀ h∈(cP l z f out put k).1,h=z∨h∈l)∧sI (cP l z f out put k).2.1 (cP l z f out put k).1.length (max k l.length)
 | 0,out,put,k,ho,hs=>⟨ho,⟨Nat.le_trans hs.1 oo_,fun e=>Nat.le_trans (hs.2 e) oo_⟩⟩
 | f+1,out,put,k,ho,hs=>by
  unfold cP
  by_cases hk:k<l.length
  ·rw [decide_eq_true oo_,cond_true]
   have hm:=QF (d:=oD) hk
   have e:max k l.length=max (k+1) l.length:=by omega
   rw [e]
   cases hp:(!put&&hP z.x.n ((l.getD k oD).x.n))
   ·simp only [cond_false]
    refine OI l z f _ _ _ (fun h hh=>?_) (by rw [List.length_append];exact M7 hs);rcases List.mem_append.1 hh with hh|hh
    ·exact ho h hh
    rw [List.mem_singleton.1 hh];exact .inr hm
   simp only [cond_true];refine OI l z f _ _ _ (fun h hh=>?_) (by rw [List.length_append,List.length_append];exact U3 hs (TJ hp));rcases List.mem_append.1 hh with hh|hh
   ·rcases List.mem_append.1 hh with hh|hh
    ·exact ho h hh
    exact .inl (List.mem_singleton.1 hh)
   rw [List.mem_singleton.1 hh];exact .inr hm
  rw [decide_eq_false oo_,cond_false];exact ⟨ho,⟨Nat.le_trans hs.1 oo_,fun e=>Nat.le_trans (hs.2 e) oo_⟩⟩
theorem G9 (l:List (Lo Facet)) (z:Lo Facet):(∀ h∈fN l z,h=z∨h∈l)∧(fN l z).length≤l.length+1:=by
 have k:=OI l z (l.length+1) [] false 0 (fun h hh=>by cases hh) dZ_;unfold fN;generalize cP l z (l.length+1) [] false 0=a at k ⊢;obtain ⟨a1,a2,a3⟩:=a;obtain ⟨k1,k2⟩:=k;simp only [ap] at k1 k2 ⊢
 cases a2
 ·simp only [cond_false]
  refine ⟨fun h hh=>?_,?_⟩
  ·rcases List.mem_append.1 hh with hh|hh
   ·exact k1 h hh
   exact .inl (List.mem_singleton.1 hh)
  have:=k2.2 O;rw [List.length_append];simp only [List.length_singleton];omega
 simp only [cond_true];refine ⟨k1,?_⟩;have:=k2.1;omega
theorem E5 (l:List (Lo Facet)) (z:Lo Facet):∀ h∈fN l z,h=z∨h∈l:=(G9 l z).1
theorem DF (l:List Facet) (z:Facet):(oH l z).length≤l.length+1:=by
 have:=(G9 (l.map lo0) (lo0 z)).2;unfold oH;rw [List.length_map];rwa [List.length_map] at this
open Go Go.Kn
def gN (l:(List (A3 W))) (out:List Facet) (i:Nat) (out1:List Facet) (j:Nat):Nat→(List Facet)→Nat→List Facet×Nat
 | 0,out2,k=>(out2,k)
 | k2+1,out2,k=>bif decide ((k:Int)<(l.length:Int)) then (let r7:(A3 W):=(nL (l.getD i A30) (l.getD j A30) (l.getD k A30))
 bif (!(wJ out2 r7)&&(!(decide (r7.x.1=0)&&(decide (r7.y.1=0)&&decide (r7.z.1=0)))&&(fG l r7 (aF r7 (l.getD i A30))))) then (let r33:(A3 W):=(dI (⟨(wl 0),(wl 0),(wl 0)⟩:(A3 W)) r7)
 bif (!(wJ (oH out2 ⟨r7,(aF r7 (l.getD i A30)),(bH l r7 (aF r7 (l.getD i A30)))⟩) r33)&&(!(decide (r33.x.1=0)&&(decide (r33.y.1=0)&&decide (r33.z.1=0)))&&(fG l r33 (aF r33 (l.getD i A30))))) then (let r58:(A3 W):=(dI (⟨(wl 0),(wl 0),(wl 0)⟩:(A3 W)) r33)
 (gN l out i out1 j k2 (oH (oH out2 ⟨r7,(aF r7 (l.getD i A30)),(bH l r7 (aF r7 (l.getD i A30)))⟩) ⟨r33,(aF r33 (l.getD i A30)),(bH l r33 (aF r33 (l.getD i A30)))⟩) (k+1))) else (let r59:(A3 W):=(dI (⟨(wl 0),(wl 0),(wl 0)⟩:(A3 W)) r33)
 (gN l out i out1 j k2 (oH out2 ⟨r7,(aF r7 (l.getD i A30)),(bH l r7 (aF r7 (l.getD i A30)))⟩) (k+1)))) else (let r60:(A3 W):=(dI (⟨(wl 0),(wl 0),(wl 0)⟩:(A3 W)) r7)
 bif (!(wJ out2 r60)&&(!(decide (r60.x.1=0)&&(decide (r60.y.1=0)&&decide (r60.z.1=0)))&&(fG l r60 (aF r60 (l.getD i A30))))) then (let r85:(A3 W):=(dI (⟨(wl 0),(wl 0),(wl 0)⟩:(A3 W)) r60)
 (gN l out i out1 j k2 (oH out2 ⟨r60,(aF r60 (l.getD i A30)),(bH l r60 (aF r60 (l.getD i A30)))⟩) (k+1))) else (let r86:(A3 W):=(dI (⟨(wl 0),(wl 0),(wl 0)⟩:(A3 W)) r60)
 (gN l out i out1 j k2 out2 (k+1))))) else (out2,k)
def kX (l:(List (A3 W))) (out:List Facet) (i:Nat):Nat→(List Facet)→Nat→List Facet×Nat
 | 0,out1,j=>(out1,j)
 | k1+1,out1,j=>bif decide ((j:Int)<(l.length:Int)) then (ap (fun (s:List Facet×Nat)=>let out2:List Facet:=s.1
 let k:Nat:=s.2
 (kX l out i k1 out2 (j+1))) (gN l out i out1 j (l.length+1) out1 (j+1))) else (out1,j)
def kW (l:(List (A3 W))):Nat→(List Facet)→Nat→List Facet×Nat
 | 0,out,i=>(out,i)
 | k0+1,out,i=>bif decide ((i:Int)<(l.length:Int)) then (ap (fun (s:List Facet×Nat)=>let out1:List Facet:=s.1
 let j:Nat:=s.2
 (kW l k0 out1 (i+1))) (kX l out i (l.length+1) out (i+1))) else (out,i)
def aU (l:(List (A3 W))):(List Facet) :=
 ap (fun (s:List Facet×Nat)=>let out:List Facet:=s.1
 let i:Nat:=s.2
 out) (kW l (l.length+1) ([]:List Facet) 0)
def hZ (l:(List (A3 W))):Nat→Nat→(Nat) ⊕ (HShape)
 | 0,j0=>.inl j0
 | k0+1,j0=>bif decide ((j0:Int)<(l.length:Int)) then (bif (decide (262144<((l.getD j0 A30).x).1)||decide (((l.getD j0 A30).x).1<(-262144))) then (.inr (⟨(⟨([]:List (A3 W))⟩:Convex),(wl 1)⟩:HShape)) else (bif (decide (262144<((l.getD j0 A30).y).1)||decide (((l.getD j0 A30).y).1<(-262144))) then (.inr (⟨(⟨([]:List (A3 W))⟩:Convex),(wl 1)⟩:HShape)) else (bif (decide (262144<((l.getD j0 A30).z).1)||decide (((l.getD j0 A30).z).1<(-262144))) then (.inr (⟨(⟨([]:List (A3 W))⟩:Convex),(wl 1)⟩:HShape)) else (hZ l k0 (j0+1))))) else (.inl j0)
def lP (l:(List (A3 W))) (j0:Nat) (i:Nat) (vs:List (A3 W)) (is:Bool) (k:Nat):Nat→Bool→Nat→Bool×Nat
 | 0,is1,j=>(is1,j)
 | k3+1,is1,j=>bif decide ((j:Int)<((((aU (aK l)).getD k o6).ats).length:Int)) then (lP l j0 i vs is k k3 (is1||(((((aU (aK l)).getD k o6).ats).getD j W.z).1==(i:Int))) (j+1)) else (is1,j)
def lO (l:(List (A3 W))) (j0:Nat) (i:Nat) (vs:List (A3 W)):Nat→Bool→Nat→Bool×Nat
 | 0,is,k=>(is,k)
 | k2+1,is,k=>bif decide ((k:Int)<((aU (aK l)).length:Int)) then (ap (fun (s:Bool×Nat)=>let is1:Bool:=s.1
 let j:Nat:=s.2
 (lO l j0 i vs k2 is1 (k+1))) (lP l j0 i vs is k (((aU (aK l)).getD k o6).ats.length+1) is 0)) else (is,k)
def kE (l:(List (A3 W))) (j0:Nat):Nat→Nat→(List (A3 W))→Nat×List (A3 W)
 | 0,i,vs=>(i,vs)
 | k1+1,i,vs=>bif decide ((i:Int)<((aK l).length:Int)) then (ap (fun (s:Bool×Nat)=>let is:Bool:=s.1
 let k:Nat:=s.2
 bif is then (kE l j0 k1 (i+1) (vs++[((aK l).getD i A30)])) else (kE l j0 k1 (i+1) vs)) (lO l j0 i vs ((aU (aK l)).length+1) false 0)) else (i,vs)
def cZ (l:(List (A3 W))):HShape :=
 bif decide (64<(l.length:Int)) then (⟨(⟨([]:List (A3 W))⟩:Convex),(wl 2)⟩:HShape) else (sm (fun (s_:Nat)=>let j0:Nat:=s_
 bif (((aU (aK l)).length:Int)==0) then (⟨(⟨([]:List (A3 W))⟩:Convex),(wl 120)⟩:HShape) else (bif decide (64<((aU (aK l)).length:Int)) then (⟨(⟨([]:List (A3 W))⟩:Convex),(wl 2)⟩:HShape) else (ap (fun (s:Nat×List (A3 W))=>let i:Nat:=s.1
 let vs:List (A3 W):=s.2
 (⟨(⟨vs⟩:Convex),(wl 0)⟩:HShape)) (kE l j0 ((aK l).length+1) 0 ([]:List (A3 W)))))) (fun r=>r) (hZ l (l.length+1) 0))
def j5 (c:(List (A3 W))):W :=
 bif ((((cZ c).e).1==0)&&(!(kK (((cZ c).c).v) c))) then (wl 3) else ((cZ c).e)
def i3 (c:(List (A3 W))):Bool :=
 (decide ((c.length:Int)≤10)&&((j5 c).1==0))
def IZ (v:A3 W):Prop:=(-262144≤v.x.1∧v.x.1≤262144)∧(-262144≤v.y.1∧v.y.1≤262144)∧(-262144≤v.z.1∧v.z.1≤262144)
theorem UD (l:List (A3 W)):∀ (f i:Nat),l.length - i<f→(∃ r,hZ l f i = .inr r∧r.e.1=1)∨(∃ j,hZ l f i = .inl j)∧∀ k,i≤k→k<l.length→IZ (l.getD k A30)
 | 0,i,h=>absurd h (Nat.not_lt_zero _)
 | f+1,i,h=>by
  unfold hZ
  by_cases hk:i<l.length
  ·rw [decide_eq_true oo_,cond_true]
   cases hx:(decide (262144<((l.getD i A30).x).1)||decide (((l.getD i A30).x).1<(-262144)))
   case true=>exact .inl ⟨_,rfl,rfl⟩
   cases hy:(decide (262144<((l.getD i A30).y).1)||decide (((l.getD i A30).y).1<(-262144)))
   case true=>exact .inl ⟨_,rfl,rfl⟩
   cases hz:(decide (262144<((l.getD i A30).z).1)||decide (((l.getD i A30).z).1<(-262144)))
   case true=>exact .inl ⟨_,rfl,rfl⟩
   simp only [cond_false];simp only [Bool.or_eq_false_iff,decide_eq_false_iff_not] at hx hy hz;rcases UD l f (i+1) oo_ with h1|⟨h1,h2⟩
   ·exact .inl h1
   refine .inr ⟨h1,fun k k1 k2=>?_⟩
   by_cases e:k=i
   ·subst e;exact ⟨⟨by omega,by omega⟩,⟨by omega,by omega⟩,by omega,by omega⟩
   exact h2 k oo_ k2
  rw [decide_eq_false oo_,cond_false];exact .inr ⟨⟨_,rfl⟩,fun k k1 k2=>by omega⟩
theorem YL {c:List (A3 W)} (h:i3 c=true):c≠[]∧c.length≤10∧∀ k,k<c.length→IZ (c.getD k A30):=by
 unfold i3 at h;obtain ⟨h1,h2⟩:=Bool.and_eq_true_iff.1 h;have h1:=of_decide_eq_true h1
 have h2:(j5 c).1=0:=by simpa using h2
 have he:(cZ c).e.1=0:=by
  unfold j5 at h2
  cases hb:(((cZ c).e.1==0) && !(kK (cZ c).c.v c))
  ·rw [hb] at h2;exact h2
  rw [hb] at h2;cases h2
 refine ⟨fun e=>?_,by omega,?_⟩
 ·subst e
  rw [show cZ []=⟨⟨[]⟩,wl 120⟩ by kernel_rfl] at he
  cases he
 unfold cZ at he;rw [decide_eq_false oo_,cond_false] at he;rcases UD c (c.length+1) 0 oo_ with ⟨r,h3,h4⟩|⟨_,h3⟩
 ·rw [h3] at he
  have he:r.e.1=0:=he;omega
 exact fun k hk=>h3 k (Nat.zero_le _) hk
theorem eJ_ {a:Bool} {c:List (A3 W)} (h:(a || !i3 c)=false):1≤c.length∧c.length≤10:=by
 have h:=(Bool.or_eq_false_iff.1 h).2;have k:=YL (by simpa using h);exact ⟨List.length_pos_iff.2 k.1,k.2.1⟩
theorem eK_ {a b d:Bool} {c:List (A3 W)} (h:(a||(b||(!i3 c||d)))=false):1≤c.length∧c.length≤10 :=
 eJ_ (a:=false) (by
  have h:=(Bool.or_eq_false_iff.1 (Bool.or_eq_false_iff.1 (Bool.or_eq_false_iff.1 h).2).2).1
  rw [h];rfl)
def jS (a:W) (b:W):Rt :=
 let r2:Rt:=(cV (E (Z.of a.1)) (E (Z.of b.1)))
 r2
def n4 (a:Rt) (b:Rt):Rt :=
 bif (eE b) then (let r5:Rt:=(j4 a (cV b.d b.n))
 r5) else (tT)
def oK (a:Rt):W :=
 bif (aT a) then (Z.signW a.n.dec) else (wl 0)
def kB (a:Rt) (b:Rt):Rt :=
 bif (aT b) then (let r5:Rt:=(fJ a (aW b.d b.n))
 r5) else (j9)
def rV (l:(List W)) (x0:W) (l0:List W) (o:W):Nat→W→W→W×W
 | 0,p,q=>(p,q)
 | k1+1,p,q=>bif (q.1 != 0) then (rV l x0 l0 o k1 q (W.rem p q)) else (p,q)
def rU (l:(List W)):List W→W→W
 | [],o=>o
 | x0::l0,o=>ap (fun (s:W×W)=>let p:W:=s.1
 let q:W:=s.2
 (rU l l0 p)) (rV l x0 l0 o ((W.max x0 (W.neg x0)).1.natAbs+1) o (W.max x0 (W.neg x0)))
def eC (l:(List W)):W :=
 ap (fun (s:W)=>let o:W:=s
 o) (rU l l (wl 0))
def tS (a:(A4 W)):Bool :=
 bif (decide (64<(W.max a.x (W.neg a.x)).1)||((a.x.1==(W.neg a.x).1)&&(a.x.1 != 0))) then false else (bif (decide (64<(W.max a.y (W.neg a.y)).1)||((a.y.1==(W.neg a.y).1)&&(a.y.1 != 0))) then false else (bif (decide (64<(W.max a.z (W.neg a.z)).1)||((a.z.1==(W.neg a.z).1)&&(a.z.1 != 0))) then false else (bif (decide (64<(W.max a.t (W.neg a.t)).1)||((a.t.1==(W.neg a.t).1)&&(a.t.1 != 0))) then false else true)))
def gI (a:(A4 W)):(A4 W)×Bool :=
 bif ((eC [a.x,a.y,a.z,a.t]).1==0) then ((⟨(wl 0),(wl 0),(wl 0),(wl 0)⟩:(A4 W)),false) else (bif (a.x.1 != 0) then (let r6:W:=(bif decide (a.x.1<0) then (W.neg (eC [a.x,a.y,a.z,a.t])) else (eC [a.x,a.y,a.z,a.t]))
 ((⟨(W.quo a.x r6),(W.quo a.y r6),(W.quo a.z r6),(W.quo a.t r6)⟩:(A4 W)),true)) else (bif (a.y.1 != 0) then (let r11:W:=(bif decide (a.y.1<0) then (W.neg (eC [a.x,a.y,a.z,a.t])) else (eC [a.x,a.y,a.z,a.t]))
 ((⟨(W.quo a.x r11),(W.quo a.y r11),(W.quo a.z r11),(W.quo a.t r11)⟩:(A4 W)),true)) else (bif (a.z.1 != 0) then (let r16:W:=(bif decide (a.z.1<0) then (W.neg (eC [a.x,a.y,a.z,a.t])) else (eC [a.x,a.y,a.z,a.t]))
 ((⟨(W.quo a.x r16),(W.quo a.y r16),(W.quo a.z r16),(W.quo a.t r16)⟩:(A4 W)),true)) else (bif (a.t.1 != 0) then (let r21:W:=(bif decide (a.t.1<0) then (W.neg (eC [a.x,a.y,a.z,a.t])) else (eC [a.x,a.y,a.z,a.t]))
 ((⟨(W.quo a.x r21),(W.quo a.y r21),(W.quo a.z r21),(W.quo a.t r21)⟩:(A4 W)),true)) else ((⟨(W.quo a.x (eC [a.x,a.y,a.z,a.t])),(W.quo a.y (eC [a.x,a.y,a.z,a.t])),(W.quo a.z (eC [a.x,a.y,a.z,a.t])),(W.quo a.t (eC [a.x,a.y,a.z,a.t]))⟩:(A4 W)),true)))))
def wB (a:(A4 W)):Bool :=
 bif (tS a) then (let r3:(A4 W):=(gI a).1
 ((gI a).2&&(decide (r3.x.1=a.x.1)&&(decide (r3.y.1=a.y.1)&&(decide (r3.z.1=a.z.1)&&decide (r3.t.1=a.t.1)))))) else (false)
def rW (a:(List W)):Nat→W→Nat→W×Nat
 | 0,o,i=>(o,i)
 | k0+1,o,i=>bif decide (((i+1:Nat):Int)<(a.length:Int)) then (rW a k0 (W.add o (W.mul (a.getD i W.z) (a.getD (i+1) W.z))) (i+2)) else (o,i)
def dU (a:(List W)):W :=
 ap (fun (s:W×Nat)=>let o:W:=s.1
 let i:Nat:=s.2
 o) (rW a (a.length+1) (wl 0) 0)
def fS (a:(A4 W)):(A9 W) :=
 (⟨(dU [a.x,a.x,a.y,a.y,(W.neg a.z),a.z,(W.neg a.t),a.t]),(W.mul (wl 2) (dU [a.y,a.z,(W.neg a.x),a.t])),(W.mul (wl 2) (dU [a.y,a.t,a.x,a.z])),(W.mul (wl 2) (dU [a.y,a.z,a.x,a.t])),(dU [a.x,a.x,(W.neg a.y),a.y,a.z,a.z,(W.neg a.t),a.t]),(W.mul (wl 2) (dU [a.z,a.t,(W.neg a.x),a.y])),(W.mul (wl 2) (dU [a.y,a.t,(W.neg a.x),a.z])),(W.mul (wl 2) (dU [a.z,a.t,a.x,a.y])),(dU [a.x,a.x,(W.neg a.y),a.y,(W.neg a.z),a.z,a.t,a.t])⟩:(A9 W))
def dD (a:(A4 W)) (b:(A3 W)):(A3 W) :=
 let r4:(A9 W):=(fS a)
 (⟨(dU [r4.x0,b.x,r4.x1,b.y,r4.x2,b.z]),(dU [r4.x3,b.x,r4.x4,b.y,r4.x5,b.z]),(dU [r4.x6,b.x,r4.x7,b.y,r4.x8,b.z])⟩:(A3 W))
def nK (a:(A4 W)) (b:(A4 W)):W :=
 (dU [a.x,b.x,a.y,b.y,a.z,b.z,a.t,b.t])
def cS (a:(A4 W)):W :=
 (nK a a)
def k6 (a:(A4 W)) (b:(A3 W)):(A3 Rt) :=
 let r5:Rt:=(jS ((dD a b).x) (cS a))
 let r6:Rt:=(jS ((dD a b).y) (cS a))
 let r7:Rt:=(jS ((dD a b).z) (cS a))
 (⟨r5,r6,r7⟩:(A3 Rt))
def nZ (a:I):I :=
 a
def rB (a:I):Bool :=
 (!a.1.bad&&a.1.valid)
def F_poly_bad :(List I) :=
 let q0:I:=(E Z.bad)
 [q0]
def kN (n:Int) (f:Nat→I) (o:I→I):Nat→(List I)→Nat→(List I×Nat) ⊕ (List I)
 | 0,out,i=>.inl (out,i)
 | k0+1,out,i=>bif decide ((i:Int)<(n.toNat:Int)) then (bif (rB (o (f i))) then (kN n f o k0 (out++[(o (f i))]) (i+1)) else (.inr F_poly_bad)) else (.inl (out,i))
def kO (n:Int) (f:Nat→I) (o:I→I) (out:List I) (i:Nat):Nat→(List I)→List I
 | 0,cut=>cut
 | k1+1,cut=>bif (decide (0<(cut.length:Int))&&((Z.signW (cut.getD (cut.length - 1) I0).dec).1==0)) then (kO n f o out i k1 (cut.take (cut.length - 1))) else (cut)
def kM (n:Int) (f:Nat→I) (o:I→I):(List I) :=
 sm (fun (s_:List I×Nat)=>let out:List I:=s_.1
 let i:Nat:=s_.2
 ap (fun (s:List I)=>let cut:List I:=s
 bif decide (25<(cut.length:Int)) then F_poly_bad else cut) (kO n f o out i (out.length+1) out)) (fun r=>r) (kN n f o (n.toNat+1) ([]:List I) 0)
def l8 (n:Int) (f:Nat→Go.Num.W) (o:Go.Num.W→I):Nat→(List I)→Nat→(List I×Nat) ⊕ (List I)
 | 0,out,i=>.inl (out,i)
 | k0+1,out,i=>bif decide ((i:Int)<(n.toNat:Int)) then (bif (rB (o (f i))) then (l8 n f o k0 (out++[(o (f i))]) (i+1)) else (.inr F_poly_bad)) else (.inl (out,i))
def l9 (n:Int) (f:Nat→Go.Num.W) (o:Go.Num.W→I) (out:List I) (i:Nat):Nat→(List I)→List I
 | 0,cut=>cut
 | k1+1,cut=>bif (decide (0<(cut.length:Int))&&((Z.signW (cut.getD (cut.length - 1) I0).dec).1==0)) then (l9 n f o out i k1 (cut.take (cut.length - 1))) else (cut)
def oF (n:Int) (f:Nat→Go.Num.W) (o:Go.Num.W→I):(List I) :=
 sm (fun (s_:List I×Nat)=>let out:List I:=s_.1
 let i:Nat:=s_.2
 ap (fun (s:List I)=>let cut:List I:=s
 bif decide (25<(cut.length:Int)) then F_poly_bad else cut) (l9 n f o out i (out.length+1) out)) (fun r=>r) (l8 n f o (n.toNat+1) ([]:List I) 0)
def mF (l:(List I)) (f:I→Bool):Nat→Nat→(Nat) ⊕ (W)
 | 0,i=>.inl i
 | k0+1,i=>bif decide ((i:Int)<(l.length:Int)) then (bif (f (l.getD i I0)) then (.inr (W.cv (i:Int))) else (mF l f k0 (i+1))) else (.inl i)
def vK (l:(List I)) (f:I→Bool):W :=
 sm (fun (s:Nat)=>let i:Nat:=s
 (wl (-1))) (fun r=>r) (mF l f (l.length+1) 0)
def tR (l:(List I)) (f:I→Bool):Bool :=
 (decide (0≤(vK l f).1))
def v7 (a:I):Bool :=
 (!(rB a))
def gY (p:(List I)):Bool :=
 (tR p (fun (y:I)=>(v7 y)))
def oB (l:(List Rt)) (f:Rt→Bool):Nat→Nat→(Nat) ⊕ (W)
 | 0,i=>.inl i
 | k0+1,i=>bif decide ((i:Int)<(l.length:Int)) then (bif (f (l.getD i Rt0)) then (.inr (W.cv (i:Int))) else (oB l f k0 (i+1))) else (.inl i)
def uK (l:(List Rt)) (f:Rt→Bool):W :=
 sm (fun (s:Nat)=>let i:Nat:=s
 (wl (-1))) (fun r=>r) (oB l f (l.length+1) 0)
def vC (l:(List Rt)) (f:Rt→Bool):Bool :=
 (decide (0≤(uK l f).1))
def rJ (a:Rt):Bool :=
 (!(eE a))
def vL (l:(List Rt)):Bool :=
 (!(vC l (fun (y:Rt)=>(rJ y))))
def xW (k:Nat) (l:(List W)):W :=
 (l.getD k W.z)
def dN (l:(List W)):(List I) :=
 (oF (l.length:Int) (fun (y:Nat)=>(xW y l)) (fun (y:Go.Num.W)=>(E (Z.of y.1))))
def nX (p:(List I)) (k:Int):I :=
 bif (decide (k<0)||decide ((p.length:Int)≤k)) then I0 else (p.getD (k.toNat) I0)
def tH (k:Nat) (f:I→I→I) (p:(List I)) (q:(List I)):I :=
 (f (nX p (k:Int)) (nX q (k:Int)))
def k8 (p:(List I)) (q:(List I)) (f:I→I→I):(List I) :=
 bif ((gY p)||(gY q)) then F_poly_bad else (kM (((max (p.length) (q.length)):Nat):Int) (fun (y:Nat)=>(tH y f p q)) (fun (y:I)=>(nZ y)))
def bL (p:(List I)) (q:(List I)):(List I) :=
 (k8 p q (fun (y:I) (z:I)=>(E (Z.add y.dec z.dec))))
def pX (p:(List I)) (q:(List I)):(List I) :=
 (k8 p q (fun (y:I) (z:I)=>(E (Z.sub y.dec z.dec))))
def iK (k:Nat) (q:(List I)) (p:(List I)):Nat→Nat→I→Nat×I
 | 0,i,mb2=>(i,mb2)
 | k0+1,i,mb2=>bif decide ((i:Int)≤(min (k:Int) ((p.length:Int) - 1))) then (iK k q p k0 (i+1) (E (Z.add mb2.dec (Z.mul (p.getD i I0).dec (q.getD (k - i) I0).dec)))) else (i,mb2)
def nJ (k:Nat) (q:(List I)) (p:(List I)):I :=
 ap (fun (s:Nat×I)=>let i:Nat:=s.1
 let mb2:I:=s.2
 mb2) (iK k q p (k+2) ((((k:Int) - (q.length:Int))+1).toNat) I0)
def bF (p:(List I)) (q:(List I)):(List I) :=
 bif ((gY p)||(gY q)) then F_poly_bad else (bif (((p.length:Int)==0)||((q.length:Int)==0)) then ([]:List I) else (kM ((((p.length+(q).length):Nat):Int) - 1) (fun (y:Nat)=>(nJ y q p)) (fun (y:I)=>(nZ y))))
def rS (a:I) (b:I) (n:I):I :=
 (E (Z.mul a.dec n.dec))
def cX (p:(List I)) (n:I):(List I) :=
 bif (rB n) then (k8 p ([]:List I) (fun (y:I) (z:I)=>(rS y z n))) else (F_poly_bad)
def j8 (d:I) (n:Int):Nat→(List I)→List I
 | 0,out=>out
 | k0+1,out=>bif decide ((out.length:Int)<n) then (j8 d n k0 (out++[(E (Z.mul (out.getD (out.length - 1) I0).dec d.dec))])) else (out)
def gO (d:I) (n:Int):(List I) :=
 ap (fun (s:List I)=>let out:List I:=s
 out) (j8 d n (n.toNat+1) [(E (Z.of 1))])
def mU (p:(List I)) (x:Rt):Nat→Int→I→Int×I
 | 0,i,mb3=>(i,mb3)
 | k0+1,i,mb3=>bif decide (0≤i) then (let r25:I:=(E (Z.mul (p.getD (i.toNat) I0).dec ((gO x.d (p.length:Int)).getD ((p.length - 1) - i.toNat) I0).dec))
 (mU p x k0 (i - 1) (E (Z.add (Z.mul mb3.dec x.n.dec) r25.dec)))) else (i,mb3)
def kP (p:(List I)) (x:Rt):I×I :=
 bif ((gY p)||(!(vL [x]))) then ((E Z.bad),(E (Z.of 1))) else (ap (fun (s:Int×I)=>let i:Int:=s.1
 let mb3:I:=s.2
 (mb3,((gO x.d (p.length:Int)).getD (((p.length:Int) - 1).toNat) I0))) (mU p x (p.length+1) ((p.length:Int) - 1) I0))
def iR (p:(List I)) (x:Rt):Rt :=
 let r3:Rt:=(cV ((kP p x).1) ((kP p x).2))
 r3
def fT (a:I):Bool :=
 (!a.1.bad&&a.1.valid)
def F_skewbackref08_bad :(List I) :=
 let q0:I:=(E Z.bad)
 [q0]
def hS (l:(List I)):Nat→Int→Nat→(Int×Nat) ⊕ (List I)
 | 0,last,i=>.inl (last,i)
 | k0+1,last,i=>bif decide ((i:Int)<(l.length:Int)) then (bif (fT (l.getD i I0)) then (bif ((Z.signW (l.getD i I0).dec).1 != 0) then (hS l k0 (i:Int) (i+1)) else (hS l k0 last (i+1))) else (.inr F_skewbackref08_bad)) else (.inl (last,i))
def jF (l:(List I)) (last:Int) (i:Nat):Nat→(List I)→Nat→List I×Nat
 | 0,out,j=>(out,j)
 | k1+1,out,j=>bif decide ((j:Int)≤last) then (jF l last i k1 (out++[(l.getD j I0)]) (j+1)) else (out,j)
def cY (l:(List I)):(List I) :=
 sm (fun (s_:Int×Nat)=>let last:Int:=s_.1
 let i:Nat:=s_.2
 bif decide (24<last) then F_skewbackref08_bad else (ap (fun (s:List I×Nat)=>let out:List I:=s.1
 let j:Nat:=s.2
 out) (jF l last i ((last+1).toNat+1) ([]:List I) 0))) (fun r=>r) (hS l (l.length+1) (-1) 0)
def mM (l:(List W)):Nat→(List I)→Nat→List I×Nat
 | 0,out,i=>(out,i)
 | k0+1,out,i=>bif decide ((i:Int)<(l.length:Int)) then (mM l k0 (out++[(E (Z.of (l.getD i W.z).1))]) (i+1)) else (out,i)
def bI (l:(List W)):(List I) :=
 ap (fun (s:List I×Nat)=>let out:List I:=s.1
 let i:Nat:=s.2
 (cY out)) (mM l (l.length+1) ([]:List I) 0)
def gU (p:(List I)):Nat→Nat→(Nat) ⊕ (Bool)
 | 0,i=>.inl i
 | k0+1,i=>bif decide ((i:Int)<(p.length:Int)) then (bif (fT (p.getD i I0)) then (gU p k0 (i+1)) else (.inr true)) else (.inl i)
def bX (p:(List I)):Bool :=
 sm (fun (s:Nat)=>let i:Nat:=s
 false) (fun r=>r) (gU p (p.length+1) 0)
def dK (p:(List I)) (k:Int):I :=
 bif (decide (k<0)||decide ((p.length:Int)≤k)) then I0 else (p.getD (k.toNat) I0)
def iS (p:(List I)) (q:(List I)):Nat→(List I)→Nat→List I×Nat
 | 0,out,i=>(out,i)
 | k0+1,out,i=>bif decide ((i:Int)<(((max (p.length) (q.length)):Nat):Int)) then (let r11:I:=(E (Z.add (dK p (i:Int)).dec (dK q (i:Int)).dec))
 (iS p q k0 (out++[r11]) (i+1))) else (out,i)
def aP (p:(List I)) (q:(List I)):(List I) :=
 bif ((bX p)||(bX q)) then F_skewbackref08_bad else (ap (fun (s:List I×Nat)=>let out:List I:=s.1
 let i:Nat:=s.2
 (cY out)) (iS p q ((max p.length q.length)+1) ([]:List I) 0))
def iU (p:(List I)) (q:(List I)):Nat→(List I)→Nat→List I×Nat
 | 0,out,i=>(out,i)
 | k0+1,out,i=>bif decide ((i:Int)<(((max (p.length) (q.length)):Nat):Int)) then (let r11:I:=(E (Z.sub (dK p (i:Int)).dec (dK q (i:Int)).dec))
 (iU p q k0 (out++[r11]) (i+1))) else (out,i)
def jO (p:(List I)) (q:(List I)):(List I) :=
 bif ((bX p)||(bX q)) then F_skewbackref08_bad else (ap (fun (s:List I×Nat)=>let out:List I:=s.1
 let i:Nat:=s.2
 (cY out)) (iU p q ((max p.length q.length)+1) ([]:List I) 0))
def dE (p:(List I)) (q:(List I)) (out:List I) (k:Nat):Nat→Nat→I→Nat×I
 | 0,i,mb17=>(i,mb17)
 | k1+1,i,mb17=>bif decide ((i:Int)≤(k:Int)) then (bif (decide ((i:Int)<(p.length:Int))&&decide (((k:Int) - (i:Int))<(q.length:Int))) then (dE p q out k k1 (i+1) (E (Z.add mb17.dec (Z.mul (p.getD i I0).dec (q.getD (k - i) I0).dec)))) else (dE p q out k k1 (i+1) mb17)) else (i,mb17)
def iT (p:(List I)) (q:(List I)):Nat→(List I)→Nat→List I×Nat
 | 0,out,k=>(out,k)
 | k0+1,out,k=>bif decide ((k:Int)<((((p.length+(q).length):Nat):Int) - 1)) then (ap (fun (s:Nat×I)=>let i:Nat:=s.1
 let mb17:I:=s.2
 (iT p q k0 (out++[mb17]) (k+1))) (dE p q out k (k+2) 0 I0)) else (out,k)
def bO (p:(List I)) (q:(List I)):(List I) :=
 bif ((bX p)||(bX q)) then F_skewbackref08_bad else (bif (((p.length:Int)==0)||((q.length:Int)==0)) then ([]:List I) else (ap (fun (s:List I×Nat)=>let out:List I:=s.1
 let k:Nat:=s.2
 (cY out)) (iT p q (p.length+q.length) ([]:List I) 0)))
def gV (p:(List I)) (n:I):Nat→(List I)→Nat→List I×Nat
 | 0,out,i=>(out,i)
 | k0+1,out,i=>bif decide ((i:Int)<(p.length:Int)) then (gV p n k0 (out++[(E (Z.mul (p.getD i I0).dec n.dec))]) (i+1)) else (out,i)
def bG (p:(List I)) (n:I):(List I) :=
 bif ((bX p)||(!(fT n))) then F_skewbackref08_bad else (ap (fun (s:List I×Nat)=>let out:List I:=s.1
 let i:Nat:=s.2
 (cY out)) (gV p n (p.length+1) ([]:List I) 0))
def i5 (n:I) (k:Int):Nat→Nat→I→Nat×I
 | 0,i,mb3=>(i,mb3)
 | k0+1,i,mb3=>bif decide ((i:Int)<k) then (i5 n k k0 (i+1) (E (Z.mul mb3.dec n.dec))) else (i,mb3)
def gS (n:I) (k:Int):I :=
 ap (fun (s:Nat×I)=>let i:Nat:=s.1
 let mb3:I:=s.2
 mb3) (i5 n k (k.toNat+1) 0 (E (Z.of 1)))
def lN (a:Rt):Bool :=
 bif (!(fT a.n)||(!(fT a.d)||decide ((Z.signW a.d.dec).1≤0))) then false else (decide ((E (Z.gcd a.n.dec a.d.dec))=(E (Z.of 1))))
def i6 (p:(List I)) (x:Rt):Nat→Int→I→Int×I
 | 0,i,mb7=>(i,mb7)
 | k0+1,i,mb7=>bif decide (0≤i) then (let r12:I:=(E (Z.mul (p.getD (i.toNat) I0).dec (gS x.d (((p.length:Int) - 1) - i)).dec))
 (i6 p x k0 (i - 1) (E (Z.add (Z.mul mb7.dec x.n.dec) r12.dec)))) else (i,mb7)
def iG (p:(List I)) (x:Rt):I :=
 bif ((bX p)||(!(lN x))) then (E Z.bad) else (ap (fun (s:Int×I)=>let i:Int:=s.1
 let mb7:I:=s.2
 mb7) (i6 p x (p.length+1) ((p.length:Int) - 1) I0))
def gL (p:(List I)) (x:Rt):Rt :=
 let r3:I:=(gS x.d (((p.length:Int) - 1).toNat:Int))
 let r4:Rt:=(aW (iG p x) r3)
 r4
def jG (a:(List I)) (b:(List I)):Nat→Nat→(Nat) ⊕ (Bool)
 | 0,i=>.inl i
 | k0+1,i=>bif decide ((i:Int)<(a.length:Int)) then (bif decide ((a.getD i I0)=(b.getD i I0)) then (jG a b k0 (i+1)) else (.inr false)) else (.inl i)
def kJ (a:(List I)) (b:(List I)):Bool :=
 bif ((a.length:Int) != (b.length:Int)) then false else (sm (fun (s:Nat)=>let i:Nat:=s
 true) (fun r=>r) (jG a b (a.length+1) 0))
structure Pose where
 x:A3 W
 q:A4 W
structure Path where
 from_:Pose
 to_:Pose
structure A6 (α:Type) where
 x0:α
 x1:α
 x2:α
 x3:α
 x4:α
 x5:α
structure Rope where
 a:W
 b:W
 p:A3 W
 q:A3 W
structure End where
 n:W
 v:A3 W
structure Pull where
 a:W
 b:W
 p:A3 Rt
 q:A3 Rt
structure Spot where
 x:A3 Rt
 e:W
structure Pulled where
 p:Pull
 e:W
structure Cols where
 a:A6 Rt
 b:A6 Rt
 e:W
structure Times where
 l:List Rt
 e:W
structure Paths where
 l:List Path
 e:W
structure Done where
 w:I
 e:W
structure Moving where
 n:A3 (List I)
 s:List I
structure Curve where
 p:List I
 e:W
def mO (a:Pose):W :=
 bif (decide (140737488355328≤a.x.x.1)||decide (a.x.x.1≤(-140737488355328))) then (wl 1) else (bif (decide (140737488355328≤a.x.y.1)||decide (a.x.y.1≤(-140737488355328))) then (wl 1) else (bif (decide (140737488355328≤a.x.z.1)||decide (a.x.z.1≤(-140737488355328))) then (wl 1) else (bif (wB a.q) then (wl 0) else (wl 1))))
def rT (a:Path):W :=
 bif (((mO a.from_).1 != 0)||((mO a.to_).1 != 0)) then (wl 1) else (wl 0)
def cQ (a:Pose) (b:(A3 W)):(A3 Rt) :=
 let r4:(A3 Rt):=(n6 a.x)
 let r5:(A3 Rt):=(k6 a.q b)
 let r6:(A3 Rt):=(nI r4 r5)
 r6
def aG (h:Path):(A4 (List I)) :=
 bif decide ((nK h.from_.q h.to_.q).1<0) then (⟨(dN [h.from_.q.x,(W.sub (W.mul (wl (-1)) h.to_.q.x) h.from_.q.x)]),(dN [h.from_.q.y,(W.sub (W.mul (wl (-1)) h.to_.q.y) h.from_.q.y)]),(dN [h.from_.q.z,(W.sub (W.mul (wl (-1)) h.to_.q.z) h.from_.q.z)]),(dN [h.from_.q.t,(W.sub (W.mul (wl (-1)) h.to_.q.t) h.from_.q.t)])⟩:(A4 (List I))) else (⟨(dN [h.from_.q.x,(W.sub (W.mul (wl 1) h.to_.q.x) h.from_.q.x)]),(dN [h.from_.q.y,(W.sub (W.mul (wl 1) h.to_.q.y) h.from_.q.y)]),(dN [h.from_.q.z,(W.sub (W.mul (wl 1) h.to_.q.z) h.from_.q.z)]),(dN [h.from_.q.t,(W.sub (W.mul (wl 1) h.to_.q.t) h.from_.q.t)])⟩:(A4 (List I)))
def dH (n:W) (l0:(List I)) (l1:(List I)) (l2:(List I)) (l3:(List I)):(List I) :=
 (cX (bL (bL ([]:List I) (bF l0 l1)) (bF l2 l3)) (E (Z.of n.1)))
def pA (n:W) (l0:(List I)) (l1:(List I)) (l2:(List I)) (l3:(List I)) (l4:(List I)) (l5:(List I)) (l6:(List I)) (l7:(List I)):(List I) :=
 (cX (bL (bL (bL (bL ([]:List I) (bF l0 l1)) (bF l2 l3)) (bF l4 l5)) (bF l6 l7)) (E (Z.of n.1)))
def k9 (p:Pose) (c:(List (A3 W))):List (A3 W)→(List (A3 Rt))→List (A3 Rt)
 | [],out=>out
 | x0::l0,out=>let r8:(A3 Rt):=(cQ p x0)
 (k9 p c l0 (out++[r8]))
def aA (p:Pose) (c:(List (A3 W))):(List (A3 Rt)) :=
 ap (fun (s:List (A3 Rt))=>let out:List (A3 Rt):=s
 out) (k9 p c c ([]:List (A3 Rt)))
theorem HD (p:Pose) (c:List (A3 W)):∀ (l:List (A3 W)) (out:List (A3 Rt)),k9 p c l out=out++l.map (cQ p)
 | [],out=>by unfold k9;simp
 | x::l,out=>by
  unfold k9
  dsimp only
  rw [HD p c l];simp
theorem E9 (p:Pose) (c:List (A3 W)):aA p c=c.map (cQ p):=by
 unfold aA;rw [HD,List.nil_append];rfl
theorem tF (p:Pose) (c:List (A3 W)):(aA p c).length=c.length:=by rw [E9,List.length_map]
end Go.Num
