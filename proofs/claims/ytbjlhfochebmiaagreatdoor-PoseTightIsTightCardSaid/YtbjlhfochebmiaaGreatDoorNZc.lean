/- Lemmas: what they ask stands in their statements. -/
import Derived.Test.YtbjlhfochebmiaaGreatDoorNPf
import Derived.ChangeArms
import Derived.ChangeSame
set_option linter.unusedSimpArgs false
set_option linter.unusedVariables false
namespace Go.Num
open Go Go.Kn
section
variable {a b c d x y z u v w:Rat}
theorem dx_:rqx a b c d x y z*rqx a b c d x y z+rqy a b c d x y z*rqy a b c d x y z+rqz a b c d x y z*rqz a b c d x y z=rqn a b c d*rqn a b c d*(x*x+y*y+z*z):=by
 unfold rqx rqy rqz rqn
 grind
theorem ZE (hn:0<rqn a b c d):(rqx a b c d x y z / rqn a b c d)*(rqx a b c d x y z / rqn a b c d)+(rqy a b c d x y z / rqn a b c d)*(rqy a b c d x y z / rqn a b c d)+(rqz a b c d x y z / rqn a b c d)*(rqz a b c d x y z / rqn a b c d)=x*x+y*y+z*z:=by
 have h0:rqn a b c d≠0:=by grind
 have e:=@dx_ a b c d x y z;have e1:rqx a b c d x y z / rqn a b c d*rqn a b c d=rqx a b c d x y z:=Rat.div_mul_cancel h0;have e2:rqy a b c d x y z / rqn a b c d*rqn a b c d=rqy a b c d x y z:=Rat.div_mul_cancel h0;have e3:rqz a b c d x y z / rqn a b c d*rqn a b c d=rqz a b c d x y z:=Rat.div_mul_cancel h0;rw [← e1,← e2,← e3] at e;generalize rqx a b c d x y z / rqn a b c d=p at *;generalize rqy a b c d x y z / rqn a b c d=q at *;generalize rqz a b c d x y z / rqn a b c d=r at *;generalize rqn a b c d=n at *
 have:(n*n)*(p*p+q*q+r*r - (x*x+y*y+z*z))=0:=by grind
 rcases Rat.mul_eq_zero.1 this with k|k
 ·rcases Rat.mul_eq_zero.1 k with k|k<;>exact absurd k h0
 grind
theorem TR (a:Rat):0≤a*a:=by
 rcases (Rat.le_total:(0:Rat)≤a∨a≤0) with h|h
 ·exact Rat.mul_nonneg h h
 have e:a*a=(-a)*(-a):=by grind
 rw [e];exact Rat.mul_nonneg (by grind) (by grind)
theorem TQ (hn:0<rqn a b c d):(rqx a b c d x y z / rqn a b c d)*(rqx a b c d x y z / rqn a b c d)≤x*x+y*y+z*z∧(rqy a b c d x y z / rqn a b c d)*(rqy a b c d x y z / rqn a b c d)≤x*x+y*y+z*z∧(rqz a b c d x y z / rqn a b c d)*(rqz a b c d x y z / rqn a b c d)≤x*x+y*y+z*z:=by
 have e:=ZE (x:=x) (y:=y) (z:=z) hn;have n1:=TR (rqx a b c d x y z / rqn a b c d);have n2:=TR (rqy a b c d x y z / rqn a b c d);have n3:=TR (rqz a b c d x y z / rqn a b c d);refine ⟨?_,?_,?_⟩<;>grind
theorem LF {p r:Rat} (hr:0≤r) (h:p*p≤r*r):-r≤p∧p≤r:=by
 constructor
 ·refine Rat.not_lt.1 fun k=>?_
  have h1:0<(-p - r):=by grind
  have h2:0≤(-p+r):=by grind
  have h3:0<(-p+r):=by grind
  have:=Rat.mul_pos h1 h3
  grind
 refine Rat.not_lt.1 fun k=>?_
 have h1:0<(p - r):=by grind
 have h3:0<(p+r):=by grind
 have:=Rat.mul_pos h1 h3
 grind
end
open Go Go.Kn
structure Bx (a:A3 Rt) (lo hi:A3 Int):Prop where
 x:∃ p,a.x.At p∧(lo.x:Rat)≤p∧p≤(hi.x:Rat)
 y:∃ p,a.y.At p∧(lo.y:Rat)≤p∧p≤(hi.y:Rat)
 z:∃ p,a.z.At p∧(lo.z:Rat)≤p∧p≤(hi.z:Rat)
theorem eY_ {v:A3 W} {r:Int} (hr:v.x.1*v.x.1+v.y.1*v.y.1+v.z.1*v.z.1≤r*r):(v.x.1:Rat)*(v.x.1:Rat)+(v.y.1:Rat)*(v.y.1:Rat)+(v.z.1:Rat)*(v.z.1:Rat)≤(r:Rat)*(r:Rat):=by
 have:=Rat.intCast_le_intCast.2 hr
 simpa only [Rat.intCast_add,Rat.intCast_mul] using this
def EB (v:A3 W):Prop:=(-262144≤v.x.1∧v.x.1≤262144)∧(-262144≤v.y.1∧v.y.1≤262144)∧(-262144≤v.z.1∧v.z.1≤262144)
theorem SY (l:List (A3 W)):∀ (f i:Nat),l.length - i<f→(∃ r,gF l f i = .inr r∧r.e.1=1)∨(∃ j,gF l f i = .inl j)∧∀ k,i≤k→k<l.length→EB (l.getD k A30)
 | 0,i,h=>absurd h (Nat.not_lt_zero _)
 | f+1,i,h=>by
  unfold gF
  by_cases hk:i<l.length
  ·rw [decide_eq_true oo_,cond_true]
   cases hx:(decide (262144<((l.getD i A30).x).1)||decide (((l.getD i A30).x).1<(-262144)))
   case true=>exact .inl ⟨_,rfl,rfl⟩
   cases hy:(decide (262144<((l.getD i A30).y).1)||decide (((l.getD i A30).y).1<(-262144)))
   case true=>exact .inl ⟨_,rfl,rfl⟩
   cases hz:(decide (262144<((l.getD i A30).z).1)||decide (((l.getD i A30).z).1<(-262144)))
   case true=>exact .inl ⟨_,rfl,rfl⟩
   simp only [cond_false];simp only [Bool.or_eq_false_iff,decide_eq_false_iff_not] at hx hy hz;rcases SY l f (i+1) oo_ with h1|⟨h1,h2⟩
   ·exact .inl h1
   refine .inr ⟨h1,fun k k1 k2=>?_⟩
   by_cases e:k=i
   ·subst e;exact ⟨⟨by omega,by omega⟩,⟨by omega,by omega⟩,by omega,by omega⟩
   exact h2 k oo_ k2
  rw [decide_eq_false oo_,cond_false];exact .inr ⟨⟨_,rfl⟩,fun k k1 k2=>by omega⟩
theorem XL {c:List (A3 W)} (h:e8 c=true):c≠[]∧c.length≤10∧∀ k,k<c.length→EB (c.getD k A30):=by
 unfold e8 at h;obtain ⟨h1,h2⟩:=Bool.and_eq_true_iff.1 h;have h1:=of_decide_eq_true h1
 have h2:(iZ c).1=0:=by simpa using h2
 have he:(cN c).e.1=0:=by
  unfold iZ at h2
  cases hb:(((cN c).e.1==0) && !(jF (cN c).c.v c))
  ·rw [hb] at h2;exact h2
  rw [hb] at h2;cases h2
 refine ⟨fun e=>?_,by omega,?_⟩
 ·subst e
  rw [show cN []=⟨⟨[]⟩,wl 120⟩ by kernel_rfl] at he
  cases he
 unfold cN at he;rw [decide_eq_false oo_,cond_false] at he;rcases SY c (c.length+1) 0 oo_ with ⟨r,h3,h4⟩|⟨_,h3⟩
 ·rw [h3] at he
  have he:r.e.1=0:=he;omega
 exact fun k hk=>h3 k (Nat.zero_le _) hk
theorem CO {v:Int} (h1:-9223372036854775808≤v) (h2:v≤9223372036854775807):(Z.smallW (Z.of v)).1=v:=by
 show (Z.of v).small.1=v
 unfold Z.small;rw [Z.of_some (sB oo_)];simp only;rw [if_pos oo_]
theorem cf_ {v:A3 W} (h:EB v):Vin v:=⟨by have:=h.1;omega,by have:=h.2.1;omega,by have:=h.2.2;omega⟩
def JY (v:A3 W):Int:=v.x.1*v.x.1+v.y.1*v.y.1+v.z.1*v.z.1
theorem SC {a:Int} (h:-262144≤a∧a≤262144):0≤a*a∧a*a≤68719476736:=by
 have h1:0≤a*a:=by
  rcases (show 0≤a∨a≤0 by omega) with k|k
  ·exact Int.mul_nonneg k k
  exact Int.mul_nonneg_of_nonpos_of_nonpos k k
 refine ⟨h1,?_⟩;have h2:(262144 - a)*(262144+a) ≥ 0:=Int.mul_nonneg oo_ oo_
 have e:(262144 - a)*(262144+a)=68719476736 - a*a:=by grind
 omega
theorem dG_ {v:A3 W} (h:EB v):(W.add (W.add (W.mul v.x v.x) (W.mul v.y v.y)) (W.mul v.z v.z)).1=JY v∧0≤JY v∧JY v≤206158430208:=by
 have a:=SC h.1;have b:=SC h.2.1;have c:=SC h.2.2;have ea:(W.mul v.x v.x).1=v.x.1*v.x.1:=wi oo_;have eb:(W.mul v.y v.y).1=v.y.1*v.y.1:=wi oo_;have ec:(W.mul v.z v.z).1=v.z.1*v.z.1:=wi oo_
 have e1:(W.add (W.mul v.x v.x) (W.mul v.y v.y)).1=v.x.1*v.x.1+v.y.1*v.y.1:=by
  show IntKind.i64.wrap ((W.mul v.x v.x).1+(W.mul v.y v.y).1)=_
  rw [ea,eb,wi oo_]
 have e2:(W.add (W.add (W.mul v.x v.x) (W.mul v.y v.y)) (W.mul v.z v.z)).1=v.x.1*v.x.1+v.y.1*v.y.1+v.z.1*v.z.1:=by
  show IntKind.i64.wrap ((W.add (W.mul v.x v.x) (W.mul v.y v.y)).1+(W.mul v.z v.z).1)=_
  rw [e1,ec,wi oo_]
 unfold JY;exact ⟨e2,by omega,by omega⟩
theorem UC (a b:W):(W.max a b).1=max a.1 b.1:=by unfold W.max;by_cases h:a.1<b.1<;>simp [h]<;>omega
theorem ac_ (a b:W):(W.min a b).1=min a.1 b.1:=by unfold W.min;by_cases h:b.1<a.1<;>simp [h]<;>omega
theorem IU (c:List (A3 W)):∀ (l:List (A3 W)) (k:W),(∀ v∈l,EB v)→0≤k.1→k.1≤206158430208→(0≤(gX c l k).1∧(gX c l k).1≤206158430208)∧k.1≤(gX c l k).1∧∀ v∈l,JY v≤(gX c l k).1
 | [],k,_,h0,h1=>⟨⟨h0,h1⟩,Int.le_refl _,fun v hv=>by cases hv⟩
 | x::l,k,hl,h0,h1=>by
  unfold gX;obtain ⟨e,s0,s1⟩:=dG_ (hl x List.mem_cons_self);have em:=UC k (W.add (W.add (W.mul x.x x.x) (W.mul x.y x.y)) (W.mul x.z x.z));rw [e] at em;obtain ⟨a,b,d⟩:=IU c l (W.max k (W.add (W.add (W.mul x.x x.x) (W.mul x.y x.y)) (W.mul x.z x.z))) (fun v hv=>hl v (List.mem_cons_of_mem _ hv)) oo_ oo_;refine ⟨a,by omega,fun v hv=>?_⟩;rcases List.mem_cons.1 hv with rfl|hv
  ·omega
  exact d v hv
theorem FJ {c:List (A3 W)} (hc:∀ v∈c,EB v):(0≤(dC c).1∧(dC c).1≤524288)∧∀ v∈c,JY v≤(dC c).1*(dC c).1:=by
 obtain ⟨⟨m0,m1⟩,_,hm⟩:=IU c c (wl 0) hc dd_ dd_;unfold dC;generalize gX c c (wl 0)=k at *;simp only [ap];obtain ⟨n,hn⟩:∃ n:Nat,k.1=(n:Int):=⟨k.1.toNat,by omega⟩;have bk:n<4294967296 ^ 16:=Nat.lt_of_le_of_lt (show n≤206158430208 by omega) dd_;obtain ⟨r1,r2⟩:=rW bk
 have rs:oD n≤454100:=by
  rcases Nat.lt_or_ge 454100 (oD n) with h|h
  ·have:454101*454101≤oD n*oD n:=Nat.mul_le_mul h h
   omega
  exact h
 have es:hJ (E (Z.of k.1))=E (Z.of ((oD n:Nat):Int)):=by
  rw [al_,dQ,Z.sqrt,jL (Z.of_some (sB oo_)),decide_eq_false oo_,cond_false,hn];rfl
 rw [es,dQ];have ew:(Z.smallW (Z.of ((oD n:Nat):Int))).1=((oD n:Nat):Int):=CO oo_ oo_;generalize Z.smallW (Z.of ((oD n:Nat):Int))=w at *
 have sqb:((oD n:Nat):Int)*((oD n:Nat):Int)≤(n:Int):=by rw [← Int.natCast_mul];exact Int.ofNat_le.2 r1
 have squ:(n:Int)<(((oD n:Nat):Int)+1)*(((oD n:Nat):Int)+1):=by
  have:=Int.ofNat_lt.2 r2;rw [Int.natCast_mul,Int.natCast_add] at this;exact this
 have sq0:0≤((oD n:Nat):Int)*((oD n:Nat):Int):=Int.mul_nonneg oo_ oo_
 have emul:(W.mul w w).1=((oD n:Nat):Int)*((oD n:Nat):Int):=by
  show IntKind.i64.wrap (w.1*w.1)=_
  rw [ew,wi oo_]
 by_cases hlt:(W.mul w w).1<k.1
 ·rw [decide_eq_true hlt,cond_true]
  have ea:(W.add w (wl 1)).1=((oD n:Nat):Int)+1:=by
   show IntKind.i64.wrap (w.1+1)=_
   rw [ew,wi oo_]
  rw [ea];exact ⟨⟨by omega,by omega⟩,fun v hv=>by have:=hm v hv;omega⟩
 rw [decide_eq_false hlt,cond_false,ew];exact ⟨⟨by omega,by omega⟩,fun v hv=>by have:=hm v hv;omega⟩
theorem SN {h:Path} (hh:Hv h) {c:List (A3 W)} (hc:∀ v∈c,EB v) :
  (((aP h c).1.x.1=min h.from_.x.x.1 h.to_.x.x.1 - (dC c).1∧(aP h c).2.x.1=max h.from_.x.x.1 h.to_.x.x.1+(dC c).1) ∧
  ((aP h c).1.y.1=min h.from_.x.y.1 h.to_.x.y.1 - (dC c).1∧(aP h c).2.y.1=max h.from_.x.y.1 h.to_.x.y.1+(dC c).1)) ∧
  (aP h c).1.z.1=min h.from_.x.z.1 h.to_.x.z.1 - (dC c).1∧(aP h c).2.z.1=max h.from_.x.z.1 h.to_.x.z.1+(dC c).1:=by
 obtain ⟨⟨r0,r1⟩,_⟩:=FJ hc;obtain ⟨f1,f2,f3⟩:=hh.fx;obtain ⟨t1,t2,t3⟩:=hh.tx
 have lo:∀ {a b:W},a.1.natAbs<2 ^ 47→b.1.natAbs<2 ^ 47→(W.sub (W.min a b) (dC c)).1=min a.1 b.1 - (dC c).1∧(W.add (W.max a b) (dC c)).1=max a.1 b.1+(dC c).1:=fun {a b} ha hb=>by
  constructor
  ·show IntKind.i64.wrap ((W.min a b).1 - _)=_
   rw [ac_,wi oo_]
  show IntKind.i64.wrap ((W.max a b).1+_)=_
  rw [UC,wi oo_]
 exact ⟨⟨lo f1 t1,lo f2 t2⟩,lo f3 t3⟩
theorem SU {c:List (A3 W)} (h:e8 c=true):∀ v∈c,EB v:=fun v hv=>by
 obtain ⟨_,_,h3⟩:=XL h;obtain ⟨k,hk,e⟩:=List.getElem_of_mem hv;have:=h3 k hk;rw [List.getD_eq_getElem?_getD,List.getElem?_eq_getElem hk] at this;rw [← e];exact this
attribute [local irreducible] fH
theorem eU_:fH=true:=by kernel_rfl
open Go Go.Kn Go.RowKit Go.ChangeShapes Go.WideShapes
section
variable {H:Type} {enc:TypeId×Value→H} {P:Program} {w:World} {base:Nat} {spare:Nat→Bool} {held:Bool} {α:Type} {e:El α}
theorem Rd.app {a:Addr} {A B:List Value} (h:Rd w a A) (k:Rd w (a.add A.length) B):Rd w a (A++B):=fun j v hj=>by
 rcases Nat.lt_or_ge j A.length with h'|h'
 ·rw [List.getElem?_append_left h'] at hj;exact h j v hj
 rw [List.getElem?_append_right h'] at hj;have:=k _ _ hj;rw [MB,Nat.add_sub_cancel' h'] at this;exact this
theorem Rd.of_cells {a:Addr} {n:Nat} {cs:List Value} (h:w.cells? base a n=some cs):Rd w a cs:=fun j v hj=>by
 obtain ⟨_,hl,hc⟩:=World.cells?_some h;have hj':j<cs.length:=(List.getElem?_eq_some_iff.1 hj).1;have h1:=hc j oo_;rw [hj] at h1;exact h1
theorem TO {a:Addr} {len:Nat} (h:∀ i,i<len→∃ x:α,w.cells? base (a.add (i*e.n)) e.n=some (e.cs x)):∀ k,k≤len→∃ l:List α,l.length=k∧Rd w a (rows e l)
 | 0,_=>⟨[],rfl,fun j v hj=>by simp [rows] at hj⟩
 | k+1,hk=>by
  obtain ⟨l,hl,hr⟩:=TO h k oo_;obtain ⟨x,hx⟩:=h k oo_;refine ⟨l++[x],by simp [hl],?_⟩;rw [yH];refine Rd.app hr ?_;rw [nQ,hl];have:=Rd.of_cells hx
  simpa [rows] using this
theorem RL {T E:TypeId} {ls:List rS} {v:Value} {d:DataW H} {p:List MemPlace} {b0:Nat} {r:Reach} (hT:P.underlying T=some (.slice E)) (hl:lz P 8 E=some ls) (hn:P.cellsOf E=e.n)
  (op:∀ cs,LWF cs ls→∃ x:α,cs=e.cs x) (hv:Value.okWide P w r b0 T v) (ht:DataW.Trod enc P w base spare held T v d p):∃ l:List α,Slr w e v l:=by
 obtain ⟨fuel,hf⟩:=ht
 have hv':∃ a n c,v = .slice a n c:=by
  unfold Value.okWide at hv;rw [hT] at hv;unfold Cell.okWide at hv;rw [hT] at hv
  cases v<;>simp_all [Cell.ok]
 obtain ⟨a,n,c,rfl⟩:=hv';have e1:(Value.slice a n c).cells.toList=[.slice a n c]:=rfl;rw [e1] at hf;rcases DataW.trod_slice hT hf with ⟨h,_⟩|⟨a',len,cap,elems,rest,m,_,h,_,_,hlc,hc,hel,hall,_⟩
 ·cases h
  exact ⟨[],none,0,rfl,Nat.le_refl _,by decide,.inl ⟨rfl,rfl,rfl⟩⟩
 ·cases h
  have hx:∀ i,i<n→∃ x:α,w.cells? base (a'.add (i*e.n)) e.n=some (e.cs x):=fun i hi=>by
   have h1:=hall i hi;rw [List.getElem?_eq_getElem oo_,hn] at h1
   cases hc':w.cells? base (a'.add (i*e.n)) e.n with
   | none=>rw [hc'] at h1;cases h1
   | some cs =>
    rw [hc'] at h1;obtain ⟨x,hx⟩:=op cs (yF 8 hl h1);exact ⟨x,by rw [hx]⟩
  obtain ⟨l,hl',hr⟩:=TO hx n (Nat.le_refl _);exact ⟨l,some a',c,by rw [hl'],by omega,hc,.inr ⟨a',rfl,hr⟩⟩
end
open Go Go.Kn Go.RowKit Go.ChangeShapes Go.WideShapes
section
variable {H:Type} {enc:TypeId×Value→H} {P:Program} {w:World} {base:Nat} {spare:Nat→Bool} {held:Bool} {α:Type} {e:El α}
theorem eB_ {T U E:TypeId} {f0:Field} {ls:List rS} {v:Value} {d:DataW H} {p:List MemPlace} {b0:Nat} {r:Reach} (hT:P.underlying T=some (.struct #[f0])) (hf:f0.type=U) (ho:f0.offset=0) (hc:P.cellsOf U=1) (hcT:P.cellsOf T=1) (hct:P.cellTypes P.depth T=some [U])
  (hU:P.underlying U=some (.slice E)) (hl:lz P 8 E=some ls) (hn:P.cellsOf E=e.n) (op:∀ cs,LWF cs ls→∃ x:α,cs=e.cs x) (hv:Value.okWide P w r b0 T v) (ht:DataW.Trod enc P w base spare held T v d p) :
  ∃ (a:Option Addr) (c:Nat) (l:List α),v=AV [csl a l.length c]∧Slr w e (.slice a l.length c) l:=by
 unfold Value.okWide at hv;rw [hT] at hv;obtain ⟨cs,rfl,hsz,ts,hts,_,hrow⟩:=hv;rw [hct] at hts
 cases hts
 rw [hcT] at hsz
 obtain ⟨c0,rfl⟩:∃ c0,cs = #[c0]:=by
  obtain ⟨l⟩:=cs
  match l,hsz with
  | [c0],_=>exact ⟨c0,rfl⟩
 obtain ⟨u,hu,hcell⟩:=hrow 0 c0 O
 have:u=U:=by simpa using hu.symm
 subst this
 have hv':Value.okWide P w r b0 u c0:=by unfold Value.okWide;rw [hU];exact hcell
 obtain ⟨fuel,hfu⟩:=ht;obtain ⟨y0,n,hx,_,hy⟩:=trod_struct1 hT hfu;rw [ho,hf,hc] at hy
 have hs:∃ a n c,c0 = .slice a n c:=by
  unfold Cell.okWide at hcell;rw [hU] at hcell
  cases c0<;>simp_all [Cell.ok]
 obtain ⟨a,n',c,rfl⟩:=hs;obtain ⟨l,hsl⟩:=RL (e:=e) hU hl hn op hv' ⟨n,hy⟩;obtain ⟨p',c',hform,_⟩:=id hsl
 cases hform
 exact ⟨_,_,l,rfl,hsl⟩
end
theorem fx_ {cs:List Value} (h:LWF cs ([some .i64]++([some .i64]++[some .i64]))):∃ x:A3 W,cs=elV.cs x:=by
 obtain ⟨c0,r0,rfl,u0,h⟩:=LWF.split h;obtain ⟨c1,r1,rfl,u1,u2⟩:=LWF.split h;obtain ⟨x0,rfl⟩:=YP u0;obtain ⟨x1,rfl⟩:=YP u1;obtain ⟨x2,rfl⟩:=YP u2;exact ⟨⟨x0,x1,x2⟩,rfl⟩
end Go.Num
