/- Lemmas: what they ask stands in their statements. -/
import Derived.Test.YtokjfhfiodopdaaGreatJGE
set_option linter.unusedSimpArgs false
set_option linter.unusedVariables false
namespace Go.Num
open Go Go.Kn
def gO (p:(List I)) (i:Int) (r:List I) (f:List I) (r66:I):Nat→Nat→(List I)→(Nat×List I) ⊕ (List I)
 | 0,k,t=>.inl (k,t)
 | k1+1,k,t=>bif decide ((k:Int)<((aX p (aE p)).length:Int)) then (let r82:I:=(E (Z.mul ((f.set (i.toNat) r66).getD (i.toNat) I0).dec ((aX p (aE p)).getD k I0).dec))
 bif ((t.set (i.toNat+k) (E (Z.sub (t.getD (i.toNat+k) I0).dec r82.dec))).getD (i.toNat+k) I0).1.bad then (.inr F_poly_bad) else (gO p i r f r66 k1 (k+1) (t.set (i.toNat+k) (E (Z.sub (t.getD (i.toNat+k) I0).dec r82.dec))))) else (.inl (k,t))
def eZ (p:(List I)):Nat→Int→(List I)→(List I)→(Int×List I×List I) ⊕ (List I)
 | 0,i,r,f=>.inl (i,r,f)
 | k0+1,i,r,f=>bif decide (0≤i) then (let r66:I:=(E (Z.quo (r.getD (i.toNat+((aX p (aE p)).length - 1)) I0).dec ((aX p (aE p)).getD ((aX p (aE p)).length - 1) I0).dec))
 sm (fun (s:Nat×List I)=>let k:Nat:=s.1
 let t:List I:=s.2
 (eZ p k0 (i - 1) t (f.set (i.toNat) r66))) (fun r=>.inr r) (gO p i r f r66 ((aX p (aE p)).length+1) 0 r)) else (.inl (i,r,f))
def bD (p:(List I)):(List I) :=
 bif ((aY (aX p (aE p)))||(aY (aC p))) then F_poly_bad else (bif (((aC p).length:Int)==0) then ([]:List I) else (sm (fun (s:Int×List I×List I)=>let i:Int:=s.1
 let r:List I:=s.2.1
 let f:List I:=s.2.2
 bif ((((bQ f).length:Int)==0)||decide (0<(Z.signW ((bQ f).getD ((bQ f).length - 1) I0).dec).1)) then (bQ f) else (fE ([]:List I) (bQ f) (fun (y:I) (z:I)=>(E (Z.sub y.dec z.dec))))) (fun r=>r) (eZ p ((aC p).length+2) (((List.replicate ((aC p).length - ((aX p (aE p)).length - 1)) I0).length:Int) - 1) (aC p) (List.replicate ((aC p).length - ((aX p (aE p)).length - 1)) I0))))
def fH (p:(List I)) (r:List I) (i:Int) (f:List I) (r72:I) (r73:I):Nat→Nat→(List I)→(Nat×List I) ⊕ (List I)
 | 0,k,t=>.inl (k,t)
 | k1+1,k,t=>bif decide ((k:Int)<(r.length:Int)) then (let r93:I:=(eS (bA p (aK p)) ((k:Int) - i))
 let r94:I:=(E (Z.sub (r.getD k I0).dec (Z.mul ((f.set (i.toNat) r73).getD (i.toNat) I0).dec r93.dec)))
 bif ((t.set k r94).getD k I0).1.bad then (.inr F_skewbackref08_bad) else (fH p r i f r72 r73 k1 (k+1) (t.set k r94))) else (.inl (k,t))
def iH (p:(List I)):Nat→(List I)→Int→(List I)→(List I×Int×List I) ⊕ (List I)
 | 0,r,i,f=>.inl (r,i,f)
 | k0+1,r,i,f=>bif decide (0≤i) then (let r72:I:=(eS r (i+(((bA p (aK p)).length:Int) - 1)))
 let r73:I:=(E (Z.quo r72.dec ((bA p (aK p)).getD ((bA p (aK p)).length - 1) I0).dec))
 sm (fun (s:Nat×List I)=>let k:Nat:=s.1
 let t:List I:=s.2
 (iH p k0 t (i - 1) (f.set (i.toNat) r73))) (fun r=>.inr r) (fH p r i f r72 r73 (r.length+1) 0 ([]++r))) else (.inl (r,i,f))
def bI (p:(List I)):(List I) :=
 bif ((aW (bA p (aK p)))||(aW (aD p))) then F_skewbackref08_bad else (bif (((aD p).length:Int)==0) then ([]:List I) else (sm (fun (s:List I×Int×List I)=>let r:List I:=s.1
 let i:Int:=s.2.1
 let f:List I:=s.2.2
 bif ((((bC f).length:Int)==0)||((aW (bC f))||decide (0<(Z.signW ((bC f).getD ((bC f).length - 1) I0).dec).1))) then (bC f) else (cT (bC f) (E (Z.of (-1))))) (fun r=>r) (iH p ((aD p).length+2) (aD p) ((((aD p).length:Int) - 1) - (((bA p (aK p)).length:Int) - 1)) (List.replicate ((aD p).length - ((bA p (aK p)).length - 1)) I0))))
structure Num9 where
 n:W
 e:W
structure Lst9 where
 l:List Iv
 e:W
structure Fnd9 where
 x:Iv
 is:Bool
 e:W
structure Zero9 where
 n:Int
 times:Int
def iO (a:Rt) (b:Rt):Bool :=
 (!a.n.1.bad&&(!b.n.1.bad&&decide ((kB a b).1≤0)))
def aG (a:Rt) (b:Rt):Rt :=
 let r4:Rt:=(kC (mS a b) (qX (wl 1) (wl 2)))
 r4
def aI (a:Rt) (b:Rt):Rt :=
 let r4:Rt:=(fW (wl 1) (wl 2))
 let r5:Rt:=(fD (eO a b) r4)
 r5
def cF (p:(List I)):Nat→(List (List I))→(List I)→(List (List I)×List I) ⊕ ((List (List I))×Bool)
 | 0,out,next=>.inl (out,next)
 | k0+1,out,next=>bif decide (0<(next.length:Int)) then (bif (aY (aC (cE (bN ((out++[next]).getD ((out++[next]).length - 2) []) ((out++[next]).getD ((out++[next]).length - 1) [])) (E (Z.of (-1)))))) then (.inr (([]:List (List I)),false)) else (cF p k0 (out++[next]) (aC (cE (bN ((out++[next]).getD ((out++[next]).length - 2) []) ((out++[next]).getD ((out++[next]).length - 1) [])) (E (Z.of (-1))))))) else (.inl (out,next))
def dN (p:(List I)) (out:List (List I)) (next:List I):List (List I)→(Unit) ⊕ ((List (List I))×Bool)
 | []=>.inl ()
 | x1::l1=>bif (aY x1) then (.inr (([]:List (List I)),false)) else (dN p out next l1)
def aL (p:(List I)):(List (List I))×Bool :=
 sm (fun (s_:List (List I)×List I)=>let out:List (List I):=s_.1
 let next:List I:=s_.2
 sm (fun (s:Unit)=>(out,true)) (fun r=>r) (dN p out next out)) (fun r=>r) (cF p (gmP (aC (aE (bD p)))+1) [(bD p)] (aC (aE (bD p))))
def dS (p:(List I)):Nat→(List (List I))→(List I)→(List (List I)×List I) ⊕ ((List (List I))×Bool)
 | 0,out,next=>.inl (out,next)
 | k0+1,out,next=>bif decide (0<(next.length:Int)) then (bif (aW next) then (.inr (([]:List (List I)),false)) else (dS p k0 (out++[next]) (aD (cT (cM ((out++[next]).getD ((out++[next]).length - 2) []) next) (E (Z.of (-1))))))) else (.inl (out,next))
def bO (p:(List I)):(List (List I))×Bool :=
 sm (fun (s:List (List I)×List I)=>let out:List (List I):=s.1
 let next:List I:=s.2
 (out,(!(aW (bI p))))) (fun r=>r) (dS p (gmP (aD (aK (bI p)))+1) [(bI p)] (aD (aK (bI p))))
def zrI (x:I):Bool:=(Z.signW x.dec).1==0
def kY (l:List I):List I:=(l.reverse.dropWhile zrI).reverse
def badp:List I:=[E Z.bad]
def mkP (l:List I):List I:=bif l.all gdI then (if (kY l).length≤25 then kY l else badp) else badp
theorem qV (l:List I) (x:I):kY (l++[x])=bif zrI x then kY l else l++[x]:=by
 unfold kY;rw [List.reverse_append]
 show (List.dropWhile zrI (x::l.reverse)).reverse=_
 rw [List.dropWhile_cons]
 cases zrI x
 ·show (x::l.reverse).reverse=_
  simp
 rfl
theorem v4 (l:List I):kY l=l.take (kY l).length:=by
 have h:kY l <+: l:=by
  unfold kY;have:=List.dropWhile_suffix zrI (l:=l.reverse);have h2:=List.reverse_prefix.2 this
  rwa [List.reverse_reverse] at h2
 obtain ⟨r,hr⟩:=h;have h3:(kY l++r).take (kY l).length=kY l:=List.take_left;rw [hr] at h3;exact h3.symm
theorem wY (l:List I):(kY l).length≤l.length:=by
 rw [v4,List.length_take];omega
theorem V1 (l:List I):(mkP l).length≤25:=by
 unfold mkP
 cases l.all gdI
 ·exact Nat.le_of_ble_eq_true O
 simp only [cond_true]
 split
 ·assumption
 exact Nat.le_of_ble_eq_true O
theorem qU {α:Type} (l:List α):l=[] ∨ ∃ m x,l=m++[x]:=by
 rcases List.eq_nil_or_concat l with h|⟨m,x,h⟩
 ·exact .inl h
 exact .inr ⟨m,x,by rw [h];simp⟩
theorem DR:F_poly_bad=badp:=rfl
theorem QF (n:Int) (f:Nat→I) (o:I→I) (out:List I) (i:Nat):∀ (k:Nat) (cut:List I),cut.length<k→lJ n f o out i k cut=kY cut
 | 0,cut,h=>absurd h (Nat.not_lt_zero _)
 | k+1,cut,h=>by
  unfold lJ;rcases qU cut with rfl|⟨m,x,rfl⟩
  ·rfl
  rw [qV];have e1:decide (0<((m++[x]).length:Int))=true:=decide_eq_true (by simp only [List.length_append,List.length_cons,List.length_nil];omega)
  have e2:(m++[x]).length - 1=m.length:=by simp
  rw [e1,e2]
  have e3:(m++[x]).getD m.length I0=x:=by simp
  have e4:(m++[x]).take m.length=m:=by simp
  rw [e3,e4,Bool.true_and]
  show (bif zrI x then _ else _)=_
  rw [QF n f o out i k m (by simp only [List.length_append,List.length_cons,List.length_nil] at h;omega)]
theorem GQ (i m:Nat):List.range' i (m+1)=i::List.range' (i+1) m:=rfl
theorem GD (n:Int) (f:Nat→I) (o:I→I):∀ (k:Nat) (out:List I) (i:Nat),n.toNat - i<k →
  lI n f o k out i=bif ((List.range' i (n.toNat - i)).map fun j=>o (f j)).all gdI then .inl (out++(List.range' i (n.toNat - i)).map fun j=>o (f j),i+(n.toNat - i)) else .inr badp
 | 0,out,i,h=>absurd h (Nat.not_lt_zero _)
 | k+1,out,i,h=>by
  unfold lI
  by_cases hi:i<n.toNat
  ·rw [decide_eq_true oo_,cond_true]
   obtain ⟨m,hm⟩:∃ m,n.toNat - i=m+1:=⟨n.toNat - i - 1,by omega⟩
   have hm':n.toNat - (i+1)=m:=by omega
   rw [hm,GQ,List.map_cons,List.all_cons,GD n f o k _ _ oo_,hm']
   show (bif gdI (o (f i)) then _ else _)=_
   cases gdI (o (f i))
   ·rfl
   simp only [cond_true,Bool.true_and,List.append_assoc,List.cons_append,List.nil_append];rw [show i+1+m=i+(m+1) by omega]
  rw [decide_eq_false oo_,cond_false,show n.toNat - i=0 by omega]
  simp
theorem pK (n:Int) (f:Nat→I) (o:I→I):hZ n f o=mkP ((List.range n.toNat).map fun j=>o (f j)):=by
 unfold hZ mkP;rw [GD n f o _ _ _ oo_,Nat.sub_zero,← List.range_eq_range']
 cases ((List.range n.toNat).map fun j=>o (f j)).all gdI
 ·rfl
 simp only [cond_true,sm,ap,List.nil_append];rw [QF _ _ _ _ _ _ _ (Nat.lt_succ_self _)]
 by_cases h:(kY ((List.range n.toNat).map fun j=>o (f j))).length≤25
 ·rw [if_pos h,decide_eq_false oo_,cond_false]
 rw [if_neg h,decide_eq_true oo_,cond_true];rfl
theorem bR_ (x:I):((Z.signW x.dec).1 != 0) = !zrI x:=rfl
theorem KF (l:List I) {i:Nat} (h:i<l.length):l.take (i+1)=l.take i++[l.getD i I0]:=by
 rw [List.take_add_one,List.getElem?_eq_getElem h]
 simp [List.getD,List.getElem?_eq_getElem h]
theorem zB (l:List I) {i:Nat} (h:i<l.length):l.drop i=l.getD i I0::l.drop (i+1):=by
 rw [List.drop_eq_getElem_cons h]
 simp [List.getD,List.getElem?_eq_getElem h]
theorem BH (l:List I):∀ (k:Nat) (last:Int) (i:Nat),l.length - i<k→i≤l.length→last+1=((kY (l.take i)).length:Nat) →
  gJ l k last i=bif (l.drop i).all gdI then .inl (((kY l).length:Int) - 1,l.length) else .inr badp
 | 0,last,i,h,_,_=>absurd h (Nat.not_lt_zero _)
 | k+1,last,i,h,hi,hl=>by
  unfold gJ
  by_cases hlt:i<l.length
  ·rw [decide_eq_true oo_,cond_true,zB l hlt,List.all_cons]
   show (bif gdI (l.getD i I0) then _ else _)=_
   cases gdI (l.getD i I0)
   ·rfl
   simp only [cond_true,Bool.true_and,bR_];have hs:=qV (l.take i) (l.getD i I0);rw [← KF l hlt] at hs
   cases hz:zrI (l.getD i I0)
   ·rw [hz] at hs
    simp only [Bool.not_false,cond_true];refine BH l k _ _ oo_ oo_ ?_;rw [hs,cond_false,List.length_take,Nat.min_eq_left oo_];omega
   rw [hz] at hs;simp only [Bool.not_true,cond_false];refine BH l k _ _ oo_ oo_ ?_;rw [hs];exact hl
  have e:i=l.length:=by omega
  subst e;rw [decide_eq_false oo_,cond_false,List.drop_length];rw [List.take_length] at hl
  show _=Sum.inl _
  rw [show last=((kY l).length:Int) - 1 by omega]
theorem GS (l:List I) (last:Int) (i:Nat):∀ (k:Nat) (out:List I) (j:Nat),(last+1).toNat - j<k→out=l.take j→(last+1).toNat≤l.length→j≤(last+1).toNat →
  (iI l last i k out j).1=l.take (last+1).toNat
 | 0,out,j,h,_,_,_=>absurd h (Nat.not_lt_zero _)
 | k+1,out,j,h,ho,hl,hj=>by
  unfold iI
  by_cases hc:(j:Int)≤last
  ·rw [decide_eq_true hc,cond_true]
   refine GS l last i k _ _ oo_ ?_ hl oo_;rw [ho,KF l oo_]
  rw [decide_eq_false hc,cond_false]
  show out=_
  rw [ho];congr 1;omega
theorem wT (l:List I):bC l=mkP l:=by
 unfold bC mkP;rw [BH l _ _ _ oo_ (Nat.zero_le _) (by rw [List.take_zero];rfl),List.drop_zero]
 cases l.all gdI
 ·rfl
 simp only [cond_true,sm,ap];have hle:=wY l
 by_cases h:(kY l).length≤25
 ·rw [if_pos h,decide_eq_false oo_,cond_false]
  rw [GS l _ _ _ _ _ oo_ (by rw [List.take_zero]) oo_ oo_];rw [show (((kY l).length:Int) - 1+1).toNat=(kY l).length by omega];exact (v4 l).symm
 rw [if_neg h,decide_eq_true oo_,cond_true];rfl
theorem oU {c:Bool} {x y:List I} (h:x.length≤25) (k:y.length≤25):(bif c then x else y).length≤25:=by cases c<;>assumption
theorem mV:badp.length≤25:=Nat.le_of_ble_eq_true O
theorem BY (n:Int) (f:Nat→I) (o:I→I):(hZ n f o).length≤25:=by rw [pK];exact V1 _
theorem nO (l:List I):(bQ l).length≤25:=BY _ _ _
theorem rW (p q:List I) (f:I→I→I):(fE p q f).length≤25:=oU mV (BY _ _ _)
theorem zG (p q:List I):(nR p q).length≤25:=rW _ _ _
theorem EI (p q:List I):(jQ p q).length≤25:=oU mV (oU (Nat.zero_le _) (BY _ _ _))
theorem oX (p:List I) (n:I):(cE p n).length≤25:=oU (rW _ _ _) mV
theorem l9 (p:List I):(aE p).length≤25:=oU mV (BY _ _ _)
theorem bU (p:List I):(aC p).length≤25:=rW _ _ _
theorem wG (l:List I):(bC l).length≤25:=by rw [wT];exact V1 _
theorem kO (l:List I):(bC l).length≤25:=wG l
theorem vH (l:List W):(jR l).length≤25:=wG _
theorem m8 (p:List I) (n:I):(cT p n).length≤25:=oU mV (wG _)
theorem rZ (p:List I):(aK p).length≤25:=oU mV (wG _)
theorem dG (p:List I):(aD p).length≤25:=oU mV (wG _)
theorem bW_ {σ:Type} {f:σ→List I} {x:σ ⊕ List I} (h:∀ s,(f s).length≤25) (k:∀ r,x = .inr r→r=badp):(sm f (fun r=>r) x).length≤25:=by
 cases x with
 | inl s=>exact h s
 | inr r=>show r.length≤25;rw [k r O];exact mV
theorem GP (d:I) (n:Int):∀ (k:Nat) (out:List I),n.toNat - out.length<k→1≤out.length→(jD d n k out).length=max n.toNat out.length
 | 0,out,h,_=>absurd h (Nat.not_lt_zero _)
 | k+1,out,h,h1=>by
  unfold jD
  by_cases hc:(out.length:Int)<n
  ·rw [decide_eq_true hc,cond_true,GP d n k _ (by simp only [List.length_append,List.length_cons,List.length_nil];omega) (by simp)]
   simp only [List.length_append,List.length_cons,List.length_nil];omega
  rw [decide_eq_false hc,cond_false];omega
theorem z6 (d:I) (n:Int):(eE d n).length=max n.toNat 1:=GP d n _ _ (by simp only [List.length_cons,List.length_nil];omega) (by simp)
theorem zV (n i j:Int) (m:I):∀ (t:Nat) (out:List I) (k:Nat) (w:I),(i+1).toNat - k<t→out.length=k→k≤(i+1).toNat→(jN n i j m t out k w).1.length=(i+1).toNat
 | 0,out,k,w,h,_,_=>absurd h (Nat.not_lt_zero _)
 | t+1,out,k,w,h,h1,h2=>by
  unfold jN
  by_cases hc:(k:Int)<i+1
  ·rw [decide_eq_true hc,cond_true]
   have hl:(out++[w]).length=k+1:=by simp [h1]
   cases decide ((k:Int)<n)
   ·exact zV n i j m t _ _ _ oo_ hl oo_
   exact zV n i j m t _ _ _ oo_ hl oo_
  rw [decide_eq_false hc,cond_false]
  show out.length=_
  omega
theorem FQ (n i:Int):(fB n i).length=(i+1).toNat:=zV n i _ _ _ _ _ _ oo_ O (Nat.zero_le _)
theorem Z.cases (z:Z):z=Z.bad ∨ ∃ v:Int,v.natAbs<4294967296 ^ 16∧z=Z.of v∧z.o=some v:=by
 cases h:z.o with
 | none=>exact .inl (Z.eq_bad h)
 | some v=>exact .inr ⟨v,z.h v h,Z.eq_of h,rfl⟩
theorem Z.zero_add (z:Z):Z.add (Z.of 0) z=z:=by
 rcases Z.cases z with rfl|⟨v,_,rfl,hv⟩
 ·rfl
 rw [Z.add,dQ (Z.of_some dd_) hv,Int.zero_add]
theorem W.ext {a b:W} (h:a.1=b.1):a=b:=Subtype.ext h
theorem dU_ (z:Z):(E z).1.bad=decide (z.o=none):=by
 show z.enc.bad=_
 unfold Z.enc
 cases h:z.o<;>simp
theorem sign0 (z:Z):((Z.signW z).1==0)=decide (z.sign=0):=by
 show (z.sign==0)=_
 rfl
structure PrimOk (a:A3 I) (p:A3 W) (x y z g:Int):Prop where
 ax:a.x.dec.o=some x
 ay:a.y.dec.o=some y
 az:a.z.dec.o=some z
 gd:g=((Int.gcd (Int.gcd (Int.gcd 0 x:Nat) y:Nat) z:Nat):Int)
 g0:0<g
 px:g*p.x.1=x
 py:g*p.y.1=y
 pz:g*p.z.1=z
 bx:-2305843009213693952<p.x.1∧p.x.1<2305843009213693952
 bY:-2305843009213693952<p.y.1∧p.y.1<2305843009213693952
 bz:-2305843009213693952<p.z.1∧p.z.1<2305843009213693952
theorem IF {x g:Int} (h:g ∣ x):g*x.fdiv g=x:=Int.mul_fdiv_cancel' h
def Z.Is (z:Z) (v:Int):Prop:=z.o=none∨z.o=some v
theorem VQ (v:Int):(Z.of v).Is v:=by unfold Z.Is;rw [Z.of_o];split<;>simp
theorem Q8 {f:Int→Int→Int} {a b:Z} {x y:Int} (ha:a.Is x) (hb:b.Is y):(yG (fun x y=>Z.of (f x y)) a b).Is (f x y):=by
 rcases ha with ha|ha
 ·left;rw [jO (.inl ha)];rfl
 rcases hb with hb|hb
 ·left;rw [jO (.inr hb)];rfl
 rw [dQ ha hb];exact VQ _
theorem fv_ {a b:Z} {x y:Int} (ha:a.Is x) (hb:b.Is y):(Z.add a b).Is (x+y):=Q8 ha hb
theorem IU {a b:Z} {x y:Int} (ha:a.Is x) (hb:b.Is y):(Z.mul a b).Is (x*y):=Q8 ha hb
theorem fw_ {a:Z} {x:Int} (ha:a.Is x):(Z.neg a).Is (-x):=by
 rcases ha with ha|ha
 ·left;rw [Z.neg,rC ha];rfl
 rw [Z.neg,mK ha];exact VQ _
theorem aX_ {a b:Z} {x y:Int} (ha:a.Is x) (hb:b.Is y):(Z.sub a b).Is (x - y):=by
 rw [Int.sub_eq_add_neg];exact fv_ ha (fw_ hb)
theorem Z.Is.sign {z:Z} {v:Int} (h:z.Is v):z.o=none∨z.sign=v.sign:=by
 rcases h with h|h
 ·exact .inl h
 right;unfold Z.sign;rw [h]
theorem Z.Is.sign0 {z:Z} (h:z.Is 0):z.sign=0:=by
 unfold Z.sign;rcases h with h|h<;>rw [h]<;>rfl
structure Fit (z:Z) (v:Int) (k:Nat):Prop where
 eq:z=Z.of v
 lt:v.natAbs<2 ^ k
theorem is_ {k:Nat} (hk:k≤511) {n:Nat} (h:n<2 ^ k):n<4294967296 ^ 16:=by
 have e:(2:Nat) ^ (32*16)=(2 ^ 32) ^ 16:=Nat.pow_mul 2 32 16;exact Nat.lt_of_lt_of_le h (Nat.le_trans (Nat.pow_le_pow_right dd_ (show k≤32*16 by omega)) (Nat.le_of_eq e))
theorem Fit.o {z:Z} {v:Int} {k:Nat} (h:Fit z v k) (hk:k≤511):z.o=some v:=by rw [h.eq];exact Z.of_some (is_ hk h.lt)
theorem Fit.mono {z:Z} {v:Int} {k k':Nat} (h:Fit z v k) (hk:k≤k'):Fit z v k':=⟨h.eq,Nat.lt_of_lt_of_le h.lt (Nat.pow_le_pow_right dd_ hk)⟩
theorem Fit.mul {a b:Z} {x y:Int} {k l:Nat} (ha:Fit a x k) (hb:Fit b y l) (hk:k≤511∧l≤511):Fit (Z.mul a b) (x*y) (k+l) :=
 ⟨by rw [Z.mul,dQ (ha.o hk.1) (hb.o hk.2)],by rw [Int.natAbs_mul,Nat.pow_add];exact Nat.mul_lt_mul_of_lt_of_lt ha.lt hb.lt⟩
theorem Fit.add {a b:Z} {x y:Int} {k l:Nat} (ha:Fit a x k) (hb:Fit b y l) (hk:k≤511∧l≤511):Fit (Z.add a b) (x+y) (max k l+1):=by
 refine ⟨by rw [Z.add,dQ (ha.o hk.1) (hb.o hk.2)],?_⟩;have h1:=(ha.mono (Nat.le_max_left k l)).lt;have h2:=(hb.mono (Nat.le_max_right k l)).lt;rw [Nat.pow_succ];omega
theorem Fit.neg {a:Z} {x:Int} {k:Nat} (ha:Fit a x k) (hk:k≤511):Fit (Z.neg a) (-x) k:=⟨by rw [Z.neg,mK (ha.o hk)],by rw [Int.natAbs_neg];exact ha.lt⟩
theorem Fit.sub {a b:Z} {x y:Int} {k l:Nat} (ha:Fit a x k) (hb:Fit b y l) (hk:k≤511∧l≤511):Fit (Z.sub a b) (x - y) (max k l+1):=by
 rw [Int.sub_eq_add_neg];exact ha.add (hb.neg hk.2) hk
theorem Fit.sign {z:Z} {v:Int} {k:Nat} (h:Fit z v k) (hk:k≤511):z.sign=v.sign:=by unfold Z.sign;rw [h.o hk]
theorem EV {L:Nat→List I→Nat→List I×Nat} {n:Nat} {g:Nat→I} (h1:∀ k out i,i<n→L (k+1) out i=L k (out++[g i]) (i+1)) (h2:∀ k out i,¬ i<n→L (k+1) out i=(out,i)) :
  ∀ (k:Nat) (out:List I) (i:Nat),n - i<k→(L k out i).1=out++(List.range' i (n - i)).map g
 | 0,out,i,h=>absurd h (Nat.not_lt_zero _)
 | k+1,out,i,h=>by
  by_cases hi:i<n
  ·obtain ⟨m,hm⟩:∃ m,n - i=m+1:=⟨n - i - 1,by omega⟩
   rw [h1 _ _ _ hi,EV h1 h2 k _ _ oo_,hm,GQ,show n - (i+1)=m by omega]
   simp
  rw [h2 _ _ _ hi,show n - i=0 by omega];simp
theorem IT (l:List I) (f:I→Bool):∀ (k i:Nat),l.length - i<k→(∃ j:Nat,j<l.length∧kV l f k i = .inr (W.cv (j:Int))∧(l.drop i).any f=true)∨(∃ j,kV l f k i = .inl j∧(l.drop i).any f=false)
 | 0,i,h=>absurd h (Nat.not_lt_zero _)
 | k+1,i,h=>by
  unfold kV
  by_cases hi:i<l.length
  ·rw [decide_eq_true oo_,cond_true,zB l hi,List.any_cons]
   cases hf:f (l.getD i I0)
   ·simp only [cond_false,Bool.false_or]
    exact IT l f k (i+1) oo_
   exact .inl ⟨i,hi,rfl,rfl⟩
  rw [decide_eq_false oo_,cond_false,List.drop_of_length_le oo_];exact .inr ⟨i,rfl,rfl⟩
theorem QD (l:List I) (f:I→Bool) (hl:l.length≤1000):qK l f=l.any f:=by
 unfold qK sH;rcases IT l f (l.length+1) 0 oo_ with ⟨j,hj,h1,h2⟩|⟨j,h1,h2⟩
 ·rw [h1]
  show decide (0≤(W.cv (j:Int)).1)=_
  rw [cvE oo_,decide_eq_true oo_];rw [List.drop_zero] at h2;exact h2.symm
 rw [h1];rw [List.drop_zero] at h2;rw [h2];rfl
theorem cz_ (l:List I):(l.any fun y=>!gdI y) = !l.all gdI:=by
 induction l with
 | nil=>rfl
 | cons x l ih =>
  rw [List.any_cons,List.all_cons,ih]
  cases gdI x<;>rfl
theorem iX {p:List I} (h:p.length≤1000):aY p = !p.all gdI:=by
 unfold aY;rw [QD _ _ h];exact cz_ p
theorem IW (p:List I):∀ (k i:Nat),p.length - i<k→(∃ j,gD p k i = .inl j∧(p.drop i).all gdI=true)∨(gD p k i = .inr true∧(p.drop i).all gdI=false)
 | 0,i,h=>absurd h (Nat.not_lt_zero _)
 | k+1,i,h=>by
  unfold gD
  by_cases hi:i<p.length
  ·rw [decide_eq_true oo_,cond_true,zB p hi,List.all_cons]
   show (∃ j,(bif gdI (p.getD i I0) then _ else _)=_∧_)∨((bif gdI (p.getD i I0) then _ else _)=_∧_)
   cases gdI (p.getD i I0)
   ·exact .inr ⟨rfl,rfl⟩
   simp only [cond_true,Bool.true_and];exact IW p k (i+1) oo_
  rw [decide_eq_false oo_,cond_false,List.drop_of_length_le oo_];exact .inl ⟨i,rfl,rfl⟩
theorem mE (p:List I):aW p = !p.all gdI:=by
 unfold aW;rcases IW p (p.length+1) 0 oo_ with ⟨j,h1,h2⟩|⟨h1,h2⟩
 ·rw [h1];rw [List.drop_zero] at h2;rw [h2];rfl
 rw [h1];rw [List.drop_zero] at h2;rw [h2];rfl
theorem ZU (p:List I) (k:Int):eS p k=eX p k:=rfl
theorem oL {l:List I} {k:Nat} (h:l.length≤k):l.getD k I0=I0:=by simp [List.getD,List.getElem?_eq_none h]
theorem CX (p:List I) (k:Nat):eX p (k:Int)=p.getD k I0:=by
 unfold eX;rw [decide_eq_false oo_,Bool.false_or,Int.toNat_natCast]
 by_cases h:p.length≤k
 ·rw [decide_eq_true oo_,cond_true,oL h]
 rw [decide_eq_false oo_,cond_false]
theorem bI_ (n:Nat):List.range n=List.range' 0 n:=List.range_eq_range'
theorem qG {p q:List I} (f:I→I→I) (hp:p.length≤1000) (hq:q.length≤1000):fE p q f=bif (p.all gdI&&q.all gdI) then mkP ((List.range (max p.length q.length)).map fun k=>f (p.getD k I0) (q.getD k I0)) else badp:=by
 unfold fE;rw [iX hp,iX hq,pK,Int.toNat_natCast]
 have e:((List.range (max p.length q.length)).map fun j=>gI (pR j f p q))=(List.range (max p.length q.length)).map fun k=>f (p.getD k I0) (q.getD k I0):=List.map_congr_left fun k _=>by
  show f (eX p (k:Int)) (eX q (k:Int))=_
  rw [CX,CX]
 rw [e]
 cases p.all gdI<;>cases q.all gdI<;>rfl
theorem E5 {p:List I} (n:I) (hp:p.length≤1000):cE p n=cT p n:=by
 unfold cE cT;rw [qG _ hp dd_,mE];have e:=EV (L:=gE p n) (n:=p.length) (g:=fun k=>E (Z.mul (p.getD k I0).dec n.dec))
  (fun k out i h=>by (conv=>lhs;unfold gE);rw [decide_eq_true oo_];rfl) (fun k out i h=>by unfold gE;rw [decide_eq_false oo_];rfl) (p.length+1) [] 0 oo_
 rw [List.nil_append,Nat.sub_zero,← bI_] at e;simp only [ap,e,wT,List.length_nil,Nat.max_zero,List.all_nil,Bool.and_true]
 show (bif gdI n then _ else _)=(bif (_ || !gdI n) then _ else _)
 cases p.all gdI<;>cases gdI n<;>rfl
theorem CV {p:List I} (hp:p.length≤1000):aE p=aK p:=by
 unfold aE aK;rw [iX hp,mE,pK];have e:=EV (L:=fY p) (n:=p.length) (g:=fun k:Nat=>E (Z.mul (Z.of (k:Int)) (p.getD k I0).dec))
  (fun k out i h=>by (conv=>lhs;unfold fY);rw [decide_eq_true oo_];rfl) (fun k out i h=>by unfold fY;rw [decide_eq_false oo_];rfl) (p.length+1) [] 1 oo_
 have e2:(List.range' 1 (p.length - 1)).map (fun k:Nat=>E (Z.mul (Z.of (k:Int)) (p.getD k I0).dec))=(List.range ((p.length:Int) - 1).toNat).map fun j=>gI (lC j p):=by
  rw [show ((p.length:Int) - 1).toNat=p.length - 1 by omega,List.range'_eq_map_range,List.map_map];refine List.map_congr_left fun k _=>?_
  show E (Z.mul (Z.of ((1+k:Nat):Int)) (p.getD (1+k) I0).dec)=E (Z.mul (Z.of ((k+1:Nat):Int)) (p.getD (k+1) I0).dec)
  rw [Nat.add_comm]
 rw [List.nil_append,e2] at e;simp only [ap,e,wT];rfl
theorem DX (l0:List I):∀ (k i:Nat) (m:I),l0.length - i<k→(gK l0 k i m).2=jM l0 (l0.drop i) m
 | 0,i,m,h=>absurd h (Nat.not_lt_zero _)
 | k+1,i,m,h=>by
  unfold gK
  by_cases hi:i<l0.length
  ·rw [decide_eq_true oo_,cond_true,zB l0 hi,DX l0 k _ _ oo_];rfl
  rw [decide_eq_false oo_,cond_false,List.drop_of_length_le oo_];rfl
theorem TB (l:List I):dJ l=dL l:=by
 unfold dJ dL;simp only [ap];rw [DX _ _ _ _ oo_,List.drop_zero]
theorem tF {p:List I} (hp:p.length≤1000):aC p=aD p:=by
 unfold aC aD;rw [qG _ hp dd_,mE];have e:=EV (L:=fJ p) (n:=p.length) (g:=fun k=>E (Z.quo (p.getD k I0).dec (dL p).dec))
  (fun k out i h=>by (conv=>lhs;unfold fJ);rw [decide_eq_true oo_,TB];rfl) (fun k out i h=>by unfold fJ;rw [decide_eq_false oo_];rfl) (p.length+1) [] 0 oo_
 rw [List.nil_append,Nat.sub_zero,← bI_] at e;simp only [ap,e,wT,List.length_nil,Nat.max_zero,List.all_nil,Bool.and_true]
 cases p.all gdI<;>rfl
theorem oP (t:List I) (k j:Nat) (x:I) (h:j≠k):(t.set k x).getD j I0=t.getD j I0:=by
 simp [List.getD,List.getElem?_set_ne (Ne.symm h)]
theorem kW (t:List I) (k:Nat) (x:I) (h:k<t.length):(t.set k x).getD k I0=x:=by
 simp [List.getD,List.getElem?_set_self h]
theorem MR (p q r:List I) (i:Int) (c:I):∀ (f k:Nat) (t:List I),t.length=r.length→(∀ j,k≤j→t.getD j I0=r.getD j I0)→i3 p q r i c f k t=fG p q i r c f k t
 | 0,k,t,hl,h=>rfl
 | f+1,k,t,hl,h=>by
  unfold i3 fG;rw [h k (Nat.le_refl k),ZU];simp only;rw [MR p q r i c f (k+1) _ (by rw [List.length_set];exact hl) (fun j hj=>by rw [oP _ _ _ _ oo_];exact h j oo_)];rfl
theorem FX (p q:List I):∀ (f:Nat) (i:Int) (r:List I),iZ p q f r i=(match dH p q f i r with|.inl (i,r)=>.inl (r,i)|.inr x=>.inr x)
 | 0,i,r=>rfl
 | f+1,i,r=>by
  unfold iZ dH
  cases decide (0≤i)
  ·rfl
  simp only [cond_true,List.nil_append];rw [MR p q r i _ _ _ _ O (fun _ _=>rfl)]
  cases fG p q i r (E (Z.mul (Z.of (Z.signW (q.getD (q.length - 1) I0).dec).1) (r.getD (i.toNat+(q.length - 1)) I0).dec)) (r.length+1) 0 r with
  | inl s=>exact FX p q f _ _
  | inr x=>rfl
theorem G9 {p q:List I} (hp:p.length≤1000) (hq:q.length≤1000):bN p q=cM p q:=by
 unfold bN cM;rw [iX hp,iX hq,mE,mE,FX]
 congr 1
 cases dH p q (p.length+1) ((p.length:Int) - 1 - ((q.length:Int) - 1)) ([]++p) with
 | inl s =>
  show bQ s.2=bC s.2
  rw [wT];unfold bQ;rw [pK,Int.toNat_natCast]
  congr 1
  refine List.ext_getElem? fun k=>?_
  by_cases h:k<s.2.length
  ·simp [h,gI,oR]
  simp [h]
 | inr x=>rfl
theorem h2_ {x:I} (h:x.dec.Is 0):zrI x=true:=by
 unfold zrI;have:=h.sign0
 show (x.dec.sign==0)=true
 rw [this];rfl
theorem d9_ {x:I} (h:zrI x=true):x.dec.Is 0:=by
 have h1:x.dec.sign=0:=by unfold zrI at h;exact (by simpa using h:(Z.signW x.dec).1=0)
 cases ho:x.dec.o with
 | none=>exact .inl ho
 | some v =>
  unfold Z.sign at h1;rw [ho] at h1;have:v=0:=Int.sign_eq_zero_iff_zero.1 h1;rw [this] at ho;exact .inr ho
theorem zr0:zrI I0=true:=by decide +kernel
theorem TP (z:Z):∃ v:Int,z.Is v:=by
 cases h:z.o with
 | none=>exact ⟨0,.inl h⟩
 | some v=>exact ⟨v,.inr h⟩
theorem aW_ {z:Z} {v:Int} (h:z.Is v):(Z.abs z).Is (v.natAbs:Int):=by
 rcases h with h|h
 ·left;rw [Z.abs,rC h];rfl
 rw [Z.abs,mK h];exact VQ _
def ZK (n:Nat) (r:List I):Prop:=∀ j:Nat,n≤j→zrI (r.getD j I0)=true
theorem BM {n:Nat}:∀ (m:Nat) (r:List I),r.length≤m→ZK n r→(kY r).length≤n
 | 0,r,h,_=>by
  have:r=[]:=List.eq_nil_of_length_eq_zero oo_;rw [this];exact Nat.zero_le _
 | m+1,r,h,hz=>by
  by_cases hn:r.length≤n
  ·exact Nat.le_trans (wY r) hn
  rcases qU r with rfl|⟨s,x,rfl⟩
  ·exact Nat.zero_le _
  simp only [List.length_append,List.length_cons,List.length_nil] at hn h;have hx:=hz s.length oo_;rw [show (s++[x]).getD s.length I0=x by simp] at hx;rw [qV,hx,cond_true];refine BM m s oo_ (fun j hj=>?_)
  by_cases hjs:j<s.length
  ·have:=hz j hj
   rwa [show (s++[x]).getD j I0=s.getD j I0 by simp [List.getD,List.getElem?_append_left hjs]] at this
  rw [oL oo_];exact zr0
theorem X7 {n:Nat} {r:List I} (h:ZK n r):mkP r=badp∨(mkP r).length≤n:=by
 unfold mkP
 cases r.all gdI
 ·exact .inl O
 simp only [cond_true]
 split
 ·exact .inr (BM _ r (Nat.le_refl _) h)
 exact .inl O
def LD (q:List I) (i:Int) (c:I) (k:Nat) (x:I):I:=E (Z.sub (Z.mul (Z.abs (q.getD (q.length - 1) I0).dec) x.dec) (Z.mul c.dec (eX q ((k:Int) - i)).dec))
theorem bJ_ (q:List I) (i:Int) (c:I) (k:Nat) (x:I):(LD q i c k x).dec=Z.sub (Z.mul (Z.abs (q.getD (q.length - 1) I0).dec) x.dec) (Z.mul c.dec (eX q ((k:Int) - i)).dec):=by
 unfold LD;rw [cP]
theorem FY (p q r:List I) (i:Int) (c:I):∀ (f k:Nat) (t:List I),r.length - k<f→t.length=r.length →
  (∃ t' k',fG p q i r c f k t = .inl (k',t')∧t'.length=r.length∧∀ j,t'.getD j I0=if k≤j∧j<r.length then LD q i c j (t.getD j I0) else t.getD j I0)∨fG p q i r c f k t = .inr badp
 | 0,k,t,h,_=>absurd h (Nat.not_lt_zero _)
 | f+1,k,t,h,hl=>by
  unfold fG
  by_cases hk:k<r.length
  ·rw [decide_eq_true oo_,cond_true]
   show (∃ t' k',(bif ((t.set k (LD q i c k (t.getD k I0))).getD k I0).1.bad then _ else fG p q i r c f (k+1) (t.set k (LD q i c k (t.getD k I0))))=_∧_)∨(bif ((t.set k (LD q i c k (t.getD k I0))).getD k I0).1.bad then _ else fG p q i r c f (k+1) (t.set k (LD q i c k (t.getD k I0))))=_
   cases ((t.set k (LD q i c k (t.getD k I0))).getD k I0).1.bad
   ·simp only [cond_false]
    rcases FY p q r i c f (k+1) (t.set k (LD q i c k (t.getD k I0))) oo_ (by rw [List.length_set];exact hl) with ⟨t',k',h1,h2,h3⟩|h1
    ·refine .inl ⟨t',k',h1,h2,fun j=>?_⟩
     rw [h3 j]
     by_cases hj:j=k
     ·subst hj
      rw [if_neg oo_,if_pos oo_,kW _ _ _ oo_]
     rw [oP _ _ _ _ hj]
     by_cases hj2:k+1≤j∧j<r.length
     ·rw [if_pos hj2,if_pos oo_]
     rw [if_neg hj2,if_neg oo_]
    exact .inr h1
   exact .inr O
  rw [decide_eq_false oo_,cond_false];exact .inl ⟨t,k,rfl,hl,fun j=>by rw [if_neg oo_]⟩
theorem YM {q r t:List I} {i n:Nat} {c:I} (hn:q.length=n+1) (hc:c.dec=Z.mul (Z.of (Z.signW (q.getD n I0).dec).1) (r.getD (i+n) I0).dec) (hz:∀ j,i+n<j→zrI (r.getD j I0)=true)
  (ht:∀ j,t.getD j I0=if 0≤j∧j<r.length then LD q i c j (r.getD j I0) else r.getD j I0) (j:Nat) (hj:i+n≤j):zrI (t.getD j I0)=true:=by
 rw [ht j]
 by_cases hlt:j<r.length
 ·rw [if_pos ⟨Nat.zero_le _,hlt⟩]
  refine h2_ ?_;rw [bJ_,hn,Nat.add_sub_cancel];obtain ⟨a,ha⟩:=TP (q.getD n I0).dec
  by_cases he:j=i+n
  ·subst he
   have e1:eX q (((i+n:Nat):Int) - (i:Int))=q.getD n I0:=by
    rw [show (((i+n:Nat):Int) - (i:Int))=(n:Int) by omega,CX]
   rw [e1,hc];obtain ⟨v,hv⟩:=TP (r.getD (i+n) I0).dec
   have hs:(Z.of (Z.signW (q.getD n I0).dec).1).Is (a.sign)∨(q.getD n I0).dec.o=none:=by
    rcases ha with h|h
    ·exact .inr h
    left
    have:(Z.signW (q.getD n I0).dec).1=a.sign:=by show (q.getD n I0).dec.sign=_;unfold Z.sign;rw [h]
    rw [this];exact VQ _
   rcases hs with hs|hs
   ·have h1:=aX_ (IU (aW_ ha) hv) (IU (IU hs hv) ha)
    have e2:(a.natAbs:Int)*v - a.sign*v*a=0:=by
     have h3:a.sign*a=(a.natAbs:Int):=by rcases Int.lt_trichotomy a 0 with h|h|h<;>first|(rw [Int.sign_eq_neg_one_of_neg h];omega)|(rw [Int.sign_eq_one_of_pos h];omega)|(subst h;rfl)
     have h4:a.sign*v*a=(a.sign*a)*v:=by rw [Int.mul_assoc,Int.mul_comm v a,Int.mul_assoc]
     rw [h4,h3];omega
    rw [e2] at h1;exact h1
   left
   have hb:∀ z:Z,(Z.mul z (q.getD n I0).dec).o=none:=fun z=>by rw [Z.mul,jO (.inr hs)];rfl
   have h2:=hb (Z.mul (Z.of (Z.signW (q.getD n I0).dec).1) (r.getD (i+n) I0).dec)
   have h3:(Z.neg (Z.mul (Z.mul (Z.of (Z.signW (q.getD n I0).dec).1) (r.getD (i+n) I0).dec) (q.getD n I0).dec)).o=none:=by rw [Z.neg,rC h2];rfl
   show (Z.add _ (Z.neg _)).o=none
   rw [Z.add,jO (.inr h3)];rfl
  have hzj:=d9_ (hz j oo_)
  have e1:eX q ((j:Int) - (i:Int))=I0:=by
   unfold eX;rw [decide_eq_true (p:=(q.length:Int)≤(j:Int) - (i:Int)) oo_,Bool.or_true,cond_true]
  obtain ⟨w,hw⟩:=TP c.dec;rw [e1];have h1:=aX_ (IU (aW_ ha) hzj) (IU hw (d9_ zr0))
  simpa using h1
 rw [if_neg oo_,oL oo_];exact zr0
theorem R2 (p q:List I) {n:Nat} (hn:q.length=n+1):∀ (f:Nat) (i:Int) (r:List I),(i+1).toNat<f→(∀ j:Nat,n≤j→i+n<(j:Int)→zrI (r.getD j I0)=true) →
  (∃ i' r',dH p q f i r = .inl (i',r')∧ZK n r')∨dH p q f i r = .inr badp
 | 0,i,r,h,_=>absurd h (Nat.not_lt_zero _)
 | f+1,i,r,h,hz=>by
  unfold dH
  by_cases hi:0≤i
  ·obtain ⟨m,rfl⟩:∃ m:Nat,i=(m:Int):=⟨i.toNat,by omega⟩
   rw [decide_eq_true hi,cond_true];simp only;rcases FY p q r (m:Int) (E (Z.mul (Z.of (Z.signW (q.getD (q.length - 1) I0).dec).1) (r.getD ((m:Int).toNat+(q.length - 1)) I0).dec)) (r.length+1) 0 r oo_ O with ⟨t',k',h1,h2,h3⟩|h1
   ·rw [h1]
    refine R2 p q hn f ((m:Int) - 1) t' oo_ (fun j hj1 hj2=>?_);refine YM (i:=m) hn ?_ (fun j' hj'=>hz j' oo_ oo_) h3 j oo_;rw [cP,hn,Nat.add_sub_cancel,Int.toNat_natCast]
   rw [h1];exact .inr O
  rw [decide_eq_false hi,cond_false];exact .inl ⟨i,r,rfl,fun j hj=>hz j hj oo_⟩
theorem rD (l:List I):bQ l=mkP l:=by
 unfold bQ;rw [pK,Int.toNat_natCast]
 congr 1
 refine List.ext_getElem? fun k=>?_
 by_cases h:k<l.length
 ·simp [h,gI,oR]
 simp [h]
theorem FZ (p q:List I) (hq:0<q.length):bN p q=badp∨(bN p q).length<q.length:=by
 obtain ⟨n,hn⟩:∃ n,q.length=n+1:=⟨q.length - 1,by omega⟩;unfold bN
 cases (aY p||(aY q||((q.length:Int)==0)))
 ·simp only [cond_false]
  rcases R2 p q hn (p.length+1) ((p.length:Int) - 1 - ((q.length:Int) - 1)) ([]++p) oo_ (fun j hj1 hj2=>by rw [List.nil_append,oL oo_];exact zr0) with ⟨i',r',h1,h2⟩|h1
  ·rw [h1]
   show bQ r'=badp∨(bQ r').length<_
   rw [rD];rcases X7 h2 with h3|h3
   ·exact .inl h3
   exact .inr oo_
  rw [h1];exact .inl O
 exact .inl O
theorem WJ (p q:List I):∀ (f:Nat) (i:Int) (r:List I) (y:List I),dH p q f i r = .inr y→y=badp:=by
 intro f
 induction f with
 | zero=>intro i r y hy;cases hy
 | succ f ih =>
  intro i r y hy;unfold dH at hy
  cases hd:decide (0≤i)
  ·rw [hd] at hy;cases hy
  rw [hd] at hy;simp only [cond_true] at hy;rcases FY p q r i (E (Z.mul (Z.of (Z.signW (q.getD (q.length - 1) I0).dec).1) (r.getD (i.toNat+(q.length - 1)) I0).dec)) (r.length+1) 0 r oo_ O with ⟨t',k',h1,h2,h3⟩|h1
  ·rw [h1] at hy;exact ih _ _ _ hy
  rw [h1] at hy;exact (Sum.inr.inj hy).symm
theorem lU (p q:List I):(bN p q).length≤25:=by
 unfold bN;exact oU mV (bW_ (fun s=>nO _) (fun r h=>WJ p q _ _ _ _ h))
theorem uQ (p q:List I):(cM p q).length≤25:=by
 unfold cM;refine oU mV (bW_ (fun s=>wG _) (fun r h=>?_));rw [FX] at h
 cases hl:dH p q (p.length+1) ((p.length:Int) - 1 - ((q.length:Int) - 1)) ([]++p) with
 | inl s=>rw [hl] at h;cases h
 | inr x=>rw [hl] at h;cases h;exact WJ p q _ _ _ _ hl
theorem e9:badp.all gdI=false:=by decide +kernel
theorem I5 {l:List I} (h:(mkP l).all gdI=true):mkP l=kY l:=by
 unfold mkP at h ⊢
 cases hl:l.all gdI
 ·rw [hl] at h;rw [cond_false,e9] at h;cases h
 simp only [hl,cond_true] at h ⊢
 split
 ·rfl
 rename_i hs;rw [if_neg hs,e9] at h;cases h
theorem wN {p:List I} (hp:p.length≤1000) (h:(aC p).all gdI=true):p.all gdI=true∧(aC p).length≤p.length:=by
 unfold aC at h ⊢;rw [qG _ hp dd_] at h ⊢;simp only [List.length_nil,Nat.max_zero,List.all_nil,Bool.and_true] at h ⊢
 cases hg:p.all gdI
 ·rw [hg,cond_false,e9] at h;cases h
 rw [hg] at h;simp only [cond_true] at h ⊢;rw [I5 h];refine ⟨trivial,Nat.le_trans (wY _) ?_⟩
 simp
theorem D7 {a b:List I} (hl:a.length≤25∧b.length≤25) (h:(aY a||aY b)=false) (h0:decide (0<(b.length:Int))=true):gmP (aC (bN a b))<gmP b:=by
 have hb:=(Bool.or_eq_false_iff.1 h).2;rw [iX oo_] at hb
 have hbg:b.all gdI=true:=by simpa using hb
 have hpos:=of_decide_eq_true h0
 have e1:gmP b=2*b.length:=by unfold gmP;rw [hbg];rfl
 rw [e1];unfold gmP
 cases hg:(aC (bN a b)).all gdI
 ·rw [cond_false];omega
 rw [cond_true];have h1:=lU a b;obtain ⟨h2,h3⟩:=wN oo_ hg;rcases FZ a b oo_ with h4|h4
 ·rw [h4,e9] at h2;cases h2
 omega
theorem XV {a b:List I} (hl:a.length≤25∧b.length≤25) (h:(aW a||aW b)=false) (h0:decide (0<(b.length:Int))=true):gmP (aD (cM a b))<gmP b:=by
 rw [← G9 oo_ oo_,← tF (Nat.le_trans (lU a b) dd_)];refine D7 hl ?_ h0;rw [mE,mE] at h;rw [iX oo_,iX oo_];exact h
theorem BO (p:List I) (a b:Rt):∀ (k:Nat) (r:List I) (i:Int),r.length≤25→(gQ p a b k r i).1.length≤25
 | 0,r,i,h=>h
 | k+1,r,i,h=>by
  unfold gQ
  cases decide (0≤i)
  ·exact h
  exact BO p a b k _ _ (zG _ _)
theorem CJ (p:List I) (a b:Rt):(gP p a b).length≤25:=oU mV (BO p a b _ _ _ (Nat.zero_le _))
theorem yI (p:List I) (a b:Rt):(fQ p a b).length≤25:=bU _
theorem N8 (p q:List I):∀ (k:Nat) (a b y:List I),dB p q k a b = .inr y→y=badp
 | 0,a,b,y,h=>by cases h
 | k+1,a,b,y,h=>by
  unfold dB at h
  cases h1:decide (0<(b.length:Int))
  ·rw [h1] at h;cases h
  rw [h1] at h
  cases h2:(aY a||aY b)
  ·rw [h2] at h;exact N8 p q k _ _ _ h
  rw [h2] at h;exact (Sum.inr.inj h).symm
theorem VK (p q:List I):∀ (k:Nat) (a b:List I) (s:List I×List I),a.length≤25→b.length≤25→dB p q k a b = .inl s→s.1.length≤25
 | 0,a,b,s,ha,hb,h=>by cases h;exact ha
 | k+1,a,b,s,ha,hb,h=>by
  unfold dB at h
  cases h1:decide (0<(b.length:Int))
  ·rw [h1] at h;cases h;exact ha
  rw [h1] at h
  cases h2:(aY a||aY b)
  ·rw [h2] at h;exact VK p q k _ _ _ hb (bU _) h
  rw [h2] at h;cases h
theorem tO (p q:List I):(aX p q).length≤25:=by
 unfold aX
 cases h:dB p q (gmP (aC q)+1) (aC p) (aC q) with
 | inl s=>exact oU (VK p q _ _ _ s (bU _) (bU _) h) (rW _ _ _)
 | inr y=>rw [N8 p q _ _ _ _ h];exact mV
theorem MF (p q:List I):∀ (k:Nat) (a b y:List I),eW p q k a b = .inr y→y=badp
 | 0,a,b,y,h=>by cases h
 | k+1,a,b,y,h=>by
  unfold eW at h
  cases h1:decide (0<(b.length:Int))
  ·rw [h1] at h;cases h
  rw [h1] at h
  cases h2:(aW a||aW b)
  ·rw [h2] at h;exact MF p q k _ _ _ h
  rw [h2] at h;exact (Sum.inr.inj h).symm
theorem ME (p q:List I):∀ (k:Nat) (a b:List I) (s:List I×List I),a.length≤25→b.length≤25→eW p q k a b = .inl s→s.1.length≤25
 | 0,a,b,s,ha,hb,h=>by cases h;exact ha
 | k+1,a,b,s,ha,hb,h=>by
  unfold eW at h
  cases h1:decide (0<(b.length:Int))
  ·rw [h1] at h;cases h;exact ha
  rw [h1] at h
  cases h2:(aW a||aW b)
  ·rw [h2] at h;exact ME p q k _ _ _ hb (dG _) h
  rw [h2] at h;cases h
theorem AP (p q:List I):(bA p q).length≤25:=by
 unfold bA
 cases h:eW p q (gmP (aD q)+1) (aD p) (aD q) with
 | inl s=>exact oU (ME p q _ _ _ s (dG _) (dG _) h) (m8 _ _)
 | inr y=>rw [MF p q _ _ _ _ h];exact mV
abbrev dR (v:Int):Prop:=v.natAbs<4294967296 ^ 16
theorem XR {x:I} (h:x.1.good=true):E x.dec=x:=Subtype.ext (cU_ x.2 h)
theorem TN {x:I} (h:x.1.good=true):∃ v:Int,dR v∧x=E (Z.of v):=by
 have h1:=dE x.2 h;refine ⟨_,x.dec.h _ h1,?_⟩;rw [← Z.eq_of h1];exact (XR h).symm
theorem AY {v:Int} (h:dR v):(E (Z.of v)).1.good=true:=by
 show (Z.of v).enc.good=true
 rw [Z.enc_good,Z.of_some h];rfl
theorem H0 {v:Int} (h:dR v):(E (Z.of v)).1.bad=false:=by
 have:=AY h;unfold R.good at this;simp only [Bool.and_eq_true,Bool.not_eq_true'] at this;exact this.1
theorem e1_:(E Z.bad).1.bad=true:=rfl
theorem Q3:(E Z.bad).1.good=false:=rfl
theorem dE_ {v:Int} (h:dR v):(Z.of v).sign=v.sign:=by unfold Z.sign;rw [Z.of_some h]
theorem lW {v:Int} (h:dR v):(Z.signW (Z.of v)).1=v.sign:=dE_ h
theorem C5 {u v:Int} (hu:dR u) (hv:dR v):Z.gcd (Z.of u) (Z.of v)=Z.of (Int.gcd u v):=by rw [Z.gcd,dQ (Z.of_some hu) (Z.of_some hv)]
theorem FW {u v:Int} (hu:dR u) (hv:dR v) (h:v≠0):Z.quo (Z.of u) (Z.of v)=Z.of (u.fdiv v):=by rw [Z.quo,dQ (Z.of_some hu) (Z.of_some hv),if_neg h]
theorem pF {u v:Int} (hu:dR u) (hv:dR v):Z.mul (Z.of u) (Z.of v)=Z.of (u*v):=by rw [Z.mul,dQ (Z.of_some hu) (Z.of_some hv)]
theorem E7 {u v:Int} (hu:dR u) (hv:dR v):Z.add (Z.of u) (Z.of v)=Z.of (u+v):=by rw [Z.add,dQ (Z.of_some hu) (Z.of_some hv)]
theorem I8 {u:Int} (hu:dR u):Z.neg (Z.of u)=Z.of (-u):=by rw [Z.neg,mK (Z.of_some hu)]
theorem bk_ {v:Int} (h:¬ dR v):Z.of v=Z.bad:=by unfold Z.of;rw [dif_neg h]
theorem B1:dR 1:=by decide
theorem B0:dR 0:=by decide
theorem QX {u v:Int} (hv:dR v) (h:v≠0):dR (Int.gcd u v:Nat):=by
 have:Int.gcd u v≤v.natAbs:=Nat.le_of_dvd oo_ (Int.gcd_dvd_natAbs_right u v)
 show ((Int.gcd u v:Nat):Int).natAbs<_
 rw [Int.natAbs_natCast];exact Nat.lt_of_le_of_lt this hv
theorem TY {u v:Int} (hu:dR u) (hv:dR v) (h:Z.of u=Z.of v):u=v:=by
 have:=congrArg Z.o h;rw [Z.of_some hu,Z.of_some hv] at this;exact Option.some.inj this
structure Rt.Is (a:Rt) (n d:Int):Prop where
 en:a.n=E (Z.of n)
 ed:a.d=E (Z.of d)
 hn:dR n
 hd:dR d
 pos:0<d
 cop:Int.gcd n d=1
theorem Rt.ext {a b:Rt} (h:a.n=b.n) (k:a.d=b.d):a=b:=by cases a;cases b;simp_all
theorem hf_:F_skewbackref04_one=E (Z.of 1):=rfl
theorem hg_:F_ratio_one=E (Z.of 1):=rfl
theorem SZ:sI=jE:=rfl
theorem aN_ (a:I):lD a=a.1.good:=rfl
theorem nZ (a:Rt):dA a=bB a:=by
 unfold dA bB;rw [aN_,aN_,hf_,hg_]
 cases a.n.1.good<;>cases a.d.1.good<;>rfl
theorem UR (a b:I):dF a b=bM a b:=rfl
theorem eL_ (a:Rt):o4 a=kT a:=by unfold o4 kT;rw [nZ,SZ]
theorem SX (a b:Rt):mS a b=eO a b:=by unfold mS eO;rw [nZ,nZ,SZ];rfl
theorem ZH (a b:Rt):iS a b=kU a b:=by unfold iS kU;rw [eL_,SX]
theorem gx_ {a:Rt}:bB a=true ↔ ∃ n d,Rt.Is a n d:=by
 unfold bB
 constructor
 ·intro h
  cases gn:a.n.1.good<;>cases gd:a.d.1.good<;>simp only [gn,gd,Bool.not_true,Bool.not_false,Bool.or_true,Bool.true_or,Bool.or_false,cond_true,cond_false,Bool.false_eq_true] at h
  obtain ⟨n,hn,en⟩:=TN gn;obtain ⟨d,hd,ed⟩:=TN gd;rw [en,ed] at h;simp only [cP,Bool.and_eq_true,decide_eq_true_eq,lW hd] at h;obtain ⟨h1,h2⟩:=h;have hp:0<d:=Int.sign_pos_iff.1 h1;rw [C5 hn hd,hf_] at h2;have h3:=TY (QX hd oo_) B1 (Y5 h2);exact ⟨n,d,en,ed,hn,hd,hp,by exact_mod_cast h3⟩
 rintro ⟨n,d,h⟩;rw [h.en,h.ed,AY h.hn,AY h.hd];simp only [Bool.not_true,Bool.or_false,cond_false,cP,Bool.and_eq_true,decide_eq_true_eq,lW h.hd];refine ⟨Int.sign_pos_iff.2 h.pos,?_⟩;rw [C5 h.hn h.hd,h.cop];rfl
theorem L0 (v:Int):v.fdiv 1=v:=by rw [Int.fdiv_eq_ediv_of_nonneg _ dd_];exact Int.ediv_one v
theorem c8_ {n d:Int} (hn:dR n) (hd:dR d) (hp:0<d) (hc:Int.gcd n d=1):bM (E (Z.of n)) (E (Z.of d))=⟨E (Z.of n),E (Z.of d)⟩:=by
 unfold bM
 have h1:((Z.signW (E (Z.of d)).dec).1==0)=false:=by rw [cP,lW hd,Int.sign_eq_one_of_pos hp];rfl
 have h2:decide ((Z.signW (E (Z.of d)).dec).1<0)=false:=by rw [cP,lW hd,Int.sign_eq_one_of_pos hp];rfl
 rw [AY hn,AY hd,h1,h2,cP,cP,C5 hn hd,hc];simp only [Bool.not_true,Bool.or_false,cond_false];rw [show ((1:Nat):Int)=1 from rfl,FW hn B1 dd_,FW hd B1 dd_,L0,L0]
theorem FL (b:I):bM (E Z.bad) b=jE:=by unfold bM;rw [Q3];rfl
theorem FM (a:I):bM a (E Z.bad)=jE:=by
 unfold bM;rw [Q3]
 cases a.1.good<;>rfl
theorem IG {u g:Int} (hg:0<g):u.fdiv g=u / g:=Int.fdiv_eq_ediv_of_nonneg _ (Int.le_of_lt hg)
theorem d4_ {u g:Int} (hu:dR u) (hg:0<g) (hd:g ∣ u):dR (u / g):=by
 obtain ⟨k,rfl⟩:=hd;rw [Int.mul_ediv_cancel_left _ oo_];refine Nat.lt_of_le_of_lt ?_ hu;rw [Int.natAbs_mul];exact Nat.le_mul_of_pos_left _ oo_
theorem a9_ {n d:Int} (hn:dR n) (hd:dR d) (hp:0<d) :
  bM (E (Z.of n)) (E (Z.of d))=⟨E (Z.of (n / (Int.gcd n d:Nat))),E (Z.of (d / (Int.gcd n d:Nat)))⟩:=by
 unfold bM
 have h1:((Z.signW (E (Z.of d)).dec).1==0)=false:=by rw [cP,lW hd,Int.sign_eq_one_of_pos hp];rfl
 have h2:decide ((Z.signW (E (Z.of d)).dec).1<0)=false:=by rw [cP,lW hd,Int.sign_eq_one_of_pos hp];rfl
 have hg:0<((Int.gcd n d:Nat):Int):=by
  have:=Int.gcd_pos_of_ne_zero_right n (show d≠0 by omega);omega
 have hb:=QX (u:=n) hd oo_;rw [AY hn,AY hd,h1,h2,cP,cP,C5 hn hd];simp only [Bool.not_true,Bool.or_false,cond_false];rw [FW hn hb oo_,FW hd hb oo_,IG hg,IG hg]
theorem A8 {n d:Int} (hn:dR n) (hd:dR d) (hp:0<d):Rt.Is (bM (E (Z.of n)) (E (Z.of d))) (n / (Int.gcd n d:Nat)) (d / (Int.gcd n d:Nat)):=by
 have hg:0<((Int.gcd n d:Nat):Int):=by
  have:=Int.gcd_pos_of_ne_zero_right n (show d≠0 by omega);omega
 have d1:((Int.gcd n d:Nat):Int) ∣ n:=Int.gcd_dvd_left ..;have d2:((Int.gcd n d:Nat):Int) ∣ d:=Int.gcd_dvd_right ..;rw [a9_ hn hd hp];refine ⟨rfl,rfl,d4_ hn hg d1,d4_ hd hg d2,Int.ediv_pos_of_pos_of_dvd hp oo_ d2,?_⟩;rw [Int.gcd_ediv d1 d2,Int.natAbs_natCast,Nat.div_self oo_]
theorem HS {a b:Rt} {n d m e:Int} (ha:a.Is n d) (hb:b.Is m e) :
  ∃ p q r s:Int,bM a.n b.d=⟨E (Z.of p),E (Z.of q)⟩∧bM b.n a.d=⟨E (Z.of r),E (Z.of s)⟩∧dR p∧dR q∧dR r∧dR s∧0<q∧0<s∧Int.gcd (p*r) (q*s)=1∧n*m*(q*s)=p*r*(d*e):=by
 have h1:=A8 ha.hn hb.hd hb.pos;have h2:=A8 hb.hn ha.hd ha.pos;have g1:((Int.gcd n e:Nat):Int) ∣ n:=Int.gcd_dvd_left ..;have g2:((Int.gcd n e:Nat):Int) ∣ e:=Int.gcd_dvd_right ..;have g3:((Int.gcd m d:Nat):Int) ∣ m:=Int.gcd_dvd_left ..;have g4:((Int.gcd m d:Nat):Int) ∣ d:=Int.gcd_dvd_right ..;refine ⟨n / (Int.gcd n e:Nat),e / (Int.gcd n e:Nat),m / (Int.gcd m d:Nat),d / (Int.gcd m d:Nat),?_,?_,h1.hn,h1.hd,h2.hn,h2.hd,h1.pos,h2.pos,?_,?_⟩
 ·rw [ha.en,hb.ed];exact Rt.ext h1.en h1.ed
 ·rw [hb.en,ha.ed];exact Rt.ext h2.en h2.ed
 ·generalize hG:((Int.gcd n e:Nat):Int)=G at *
  generalize hH:((Int.gcd m d:Nat):Int)=H at *;have c1:Nat.Coprime (n / G).natAbs (e / G).natAbs:=h1.cop;have c2:Nat.Coprime (m / H).natAbs (d / H).natAbs:=h2.cop;have k1:Nat.Coprime n.natAbs d.natAbs:=ha.cop;have k2:Nat.Coprime m.natAbs e.natAbs:=hb.cop;have d1:(n / G).natAbs ∣ n.natAbs:=Int.natAbs_dvd_natAbs.2 (Int.ediv_dvd_of_dvd g1);have d2:(e / G).natAbs ∣ e.natAbs:=Int.natAbs_dvd_natAbs.2 (Int.ediv_dvd_of_dvd g2);have d3:(m / H).natAbs ∣ m.natAbs:=Int.natAbs_dvd_natAbs.2 (Int.ediv_dvd_of_dvd g3);have d4:(d / H).natAbs ∣ d.natAbs:=Int.natAbs_dvd_natAbs.2 (Int.ediv_dvd_of_dvd g4)
  show Nat.gcd (n / G*(m / H)).natAbs (e / G*(d / H)).natAbs=1
  rw [Int.natAbs_mul,Int.natAbs_mul];have x1:Nat.Coprime (n / G).natAbs (d / H).natAbs:=(k1.coprime_dvd_left d1).coprime_dvd_right d4;have x2:Nat.Coprime (m / H).natAbs (e / G).natAbs:=(k2.coprime_dvd_left d3).coprime_dvd_right d2;exact (Nat.Coprime.mul_right c1 x1).mul_left (Nat.Coprime.mul_right x2 c2)
 obtain ⟨x,hx⟩:=g1;obtain ⟨y,hy⟩:=g2;obtain ⟨z,hz⟩:=g3;obtain ⟨t,ht⟩:=g4
 have p1:0<((Int.gcd n e:Nat):Int):=by have:=Int.gcd_pos_of_ne_zero_right n (show e≠0 by have:=hb.pos;omega);omega
 have p2:0<((Int.gcd m d:Nat):Int):=by have:=Int.gcd_pos_of_ne_zero_right m (show d≠0 by have:=ha.pos;omega);omega
 generalize ((Int.gcd n e:Nat):Int)=G at *;generalize ((Int.gcd m d:Nat):Int)=H at *
 have q1:n / G=x:=by rw [hx];exact Int.mul_ediv_cancel_left _ oo_
 have q2:e / G=y:=by rw [hy];exact Int.mul_ediv_cancel_left _ oo_
 have q3:m / H=z:=by rw [hz];exact Int.mul_ediv_cancel_left _ oo_
 have q4:d / H=t:=by rw [ht];exact Int.mul_ediv_cancel_left _ oo_
 rw [q1,q2,q3,q4,hx,hy,hz,ht];grind
theorem Y8 (a b:Rt):kC a b=fD a b:=by
 unfold kC fD;rw [nZ,nZ,SZ,UR,UR]
 cases hga:bB a<;>cases hgb:bB b<;>simp only [Bool.not_true,Bool.not_false,Bool.or_true,Bool.true_or,Bool.or_false,cond_true,cond_false]
 obtain ⟨n,d,ha⟩:=gx_.1 hga;obtain ⟨m,e,hb⟩:=gx_.1 hgb;obtain ⟨p,q,r,s,e1,e2,hp,hq,hr,hs,q0,s0,hc,_⟩:=HS ha hb;rw [e1,e2];simp only [cP,pF hp hr,pF hq hs]
 by_cases b1:dR (p*r)
 ·by_cases b2:dR (q*s)
  ·rw [c8_ b1 b2 (Int.mul_pos q0 s0) hc,H0 b1,H0 b2];rfl
  rw [bk_ b2,FM,e1_,Bool.or_true];rfl
 rw [bk_ b1,FL];rfl
theorem gY_ {x:I} (h:gdI x=true):∃ v:Int,dR v∧x=E (Z.of v):=TN (by unfold R.good;exact h)
theorem OB {v:Int} (h:dR v):gdI (E (Z.of v))=true:=by have:=AY h;unfold R.good at this;exact this
def vI (x:I):Int:=x.dec.o.getD 0
theorem cd_ {v:Int} (h:dR v):vI (E (Z.of v))=v:=by unfold vI;rw [cP,Z.of_some h];rfl
theorem zZ {x:I} (h:gdI x=true):x=E (Z.of (vI x))∧dR (vI x):=by
 obtain ⟨v,hv,rfl⟩:=gY_ h;rw [cd_ hv];exact ⟨rfl,hv⟩
theorem IL {x:I} (h:gdI x=true):x.dec=Z.of (vI x):=by
 conv=>lhs;rw [(zZ h).1,cP]
theorem cm_ {v:Int} (h:dR v):zrI (E (Z.of v))=decide (v=0):=by
 unfold zrI;rw [cP,lW h]
 by_cases h0:v=0
 ·subst h0;rfl
 rw [decide_eq_false h0];exact beq_eq_false_iff_ne.2 (fun hs=>h0 (Int.sign_eq_zero_iff_zero.1 hs))
theorem gr_ {x:I} (h:gdI x=true):zrI x=decide (vI x=0):=by
 conv=>lhs;rw [(zZ h).1]
 exact cm_ (zZ h).2
def fg (g:Nat) (x:I):Nat:=Int.gcd g (vI x)
theorem gu_ {g:Nat} {v:Int} (hg:dR (g:Int)) (hv:dR v):dR ((Int.gcd g v:Nat):Int):=by
 by_cases h:v=0
 ·subst h
  rw [Int.gcd_zero_right,Int.natAbs_natCast];exact hg
 exact QX hv h
theorem H7 (l0:List I):∀ (r:List I) (g:Nat),r.all gdI=true→dR (g:Int)→jM l0 r (E (Z.of (g:Int)))=E (Z.of ((r.foldl fg g:Nat):Int))∧dR ((r.foldl fg g:Nat):Int)
 | [],g,_,hg=>⟨rfl,hg⟩
 | x::r,g,h,hg=>by
  rw [List.all_cons,Bool.and_eq_true] at h;have hx:=zZ h.1
  have e:E (Z.gcd (E (Z.of (g:Int))).dec x.dec)=E (Z.of ((fg g x:Nat):Int)):=by
   rw [cP,IL h.1,C5 hg hx.2];rfl
  unfold jM;rw [e];exact H7 l0 r _ h.2 (gu_ hg hx.2)
def cN (l:List I):Nat:=l.foldl fg 0
theorem GF {l:List I} (h:l.all gdI=true):dL l=E (Z.of ((cN l:Nat):Int))∧dR ((cN l:Nat):Int):=H7 l l 0 h B0
theorem QV:∀ (l:List I) (g:Nat),l.foldl fg g ∣ g∧∀ x∈l,((l.foldl fg g:Nat):Int) ∣ vI x
 | [],g=>⟨Nat.dvd_refl _,fun x hx=>by cases hx⟩
 | y::l,g=>by
  obtain ⟨h1,h2⟩:=QV l (fg g y)
  have h3:fg g y ∣ g:=by have:=Int.gcd_dvd_natAbs_left (g:Int) (vI y);simpa [fg] using this
  have h4:((fg g y:Nat):Int) ∣ vI y:=Int.gcd_dvd_right ..;refine ⟨Nat.dvd_trans h1 h3,fun x hx=>?_⟩;rcases List.mem_cons.1 hx with rfl|hx
  ·exact Int.dvd_trans (Int.natCast_dvd_natCast.2 h1) h4
  exact h2 x hx
theorem H3 {l:List I} {x:I} (h:x∈l):((cN l:Nat):Int) ∣ vI x:=(QV l 0).2 x h
theorem RC {α:Type} (f:I→α) (l:List I):(List.range l.length).map (fun k=>f (l.getD k I0))=l.map f:=by
 refine List.ext_getElem? fun k=>?_
 by_cases h:k<l.length
 ·simp [h]
 simp [h]
def Rgt (p:List I):Prop:=p=badp∨(p.all gdI=true∧kY p=p∧p.length≤25)
theorem JZ (l:List I):kY (kY l)=kY l:=by
 suffices ∀ n (l:List I),l.length≤n→kY (kY l)=kY l from this _ l (Nat.le_refl _)
 intro n
 induction n with
 | zero=>intro l h;rw [List.eq_nil_of_length_eq_zero (show l.length=0 by omega)];rfl
 | succ n ih =>
  intro l h;rcases qU l with rfl|⟨m,x,rfl⟩
  ·rfl
  have hs:=qV m x
  cases hx:zrI x
  ·rw [hx,cond_false] at hs;rw [hs,hs]
  rw [hx,cond_true] at hs;rw [hs];exact ih m (by simp only [List.length_append,List.length_cons,List.length_nil] at h;omega)
theorem M5 {l:List I} (h:l.all gdI=true):(kY l).all gdI=true:=by
 rw [v4];rw [List.all_eq_true] at h ⊢;exact fun x hx=>h x (List.mem_of_mem_take hx)
theorem B8 (l:List I):Rgt (mkP l):=by
 unfold mkP
 cases h:l.all gdI
 ·exact .inl O
 simp only [cond_true]
 split
 ·rename_i h2;exact .inr ⟨M5 h,JZ l,h2⟩
 exact .inl O
theorem bg_ {l:List I} (h:l.all gdI=true) (h2:kY l=l) (h3:l.length≤25):mkP l=l:=by
 unfold mkP;rw [h,cond_true,h2,if_pos h3]
theorem DH {m:List I} {x:I} (h:kY (m++[x])=m++[x]):zrI x=false:=by
 cases hx:zrI x
 ·rfl
 rw [qV,hx,cond_true] at h;have:=wY m;rw [h] at this;simp only [List.length_append,List.length_cons,List.length_nil] at this;omega
theorem M6 {l:List I} (f:I→I) (h:kY l=l) (hf:∀ x∈l,zrI x=false→zrI (f x)=false):kY (l.map f)=l.map f:=by
 rcases qU l with rfl|⟨m,x,rfl⟩
 ·rfl
 rw [List.map_append,List.map_cons,List.map_nil,qV,hf x (by simp) (DH h),cond_false]
theorem RR {p:List I} (h:p.all gdI=true) (hs:kY p=p) (hl:p.length≤25):aC p=p.map fun x=>E (Z.of ((vI x).fdiv (cN p))):=by
 unfold aC;rw [qG _ oo_ dd_];simp only [List.length_nil,Nat.max_zero,List.all_nil,Bool.and_true,h,cond_true];have hc:=GF h
 have e:(List.range p.length).map (fun k=>mI (p.getD k I0) (([]:List I).getD k I0) (dL p))=p.map fun x=>E (Z.quo x.dec (Z.of ((cN p:Nat):Int))):=by
  rw [← RC (fun x=>E (Z.quo x.dec (Z.of ((cN p:Nat):Int))))];refine List.map_congr_left fun k _=>?_
  show E (Z.quo (p.getD k I0).dec (dL p).dec)=_
  rw [hc.1,cP]
 rw [e];rcases qU p with rfl|⟨m,x,rfl⟩
 ·rfl
 have hx:gdI x=true:=List.all_eq_true.1 h x (by simp);have hz:=DH hs;rw [gr_ hx] at hz;have hv0:vI x≠0:=of_decide_eq_false hz
 have hc0:((cN (m++[x]):Nat):Int)≠0:=fun h0=>by
  have:=H3 (l:=m++[x]) (x:=x) (by simp);rw [h0] at this;exact hv0 (Int.zero_dvd.1 this)
 have e2:(m++[x]).map (fun x'=>E (Z.quo x'.dec (Z.of ((cN (m++[x]):Nat):Int))))=(m++[x]).map fun x'=>E (Z.of ((vI x').fdiv (cN (m++[x])))):=by
  refine List.map_congr_left fun y hy=>?_;have hy':=zZ (List.all_eq_true.1 h y hy);rw [IL (List.all_eq_true.1 h y hy),FW hy'.2 hc.2 hc0]
 rw [e2]
 have hB:∀ y∈m++[x],dR ((vI y).fdiv (cN (m++[x]))):=fun y hy=>by
  have hy':=zZ (List.all_eq_true.1 h y hy);have hd:=IF (H3 hy)
  have hle:((vI y).fdiv (cN (m++[x]))).natAbs≤(vI y).natAbs:=by
   conv=>rhs;rw [← hd]
   rw [Int.natAbs_mul];exact Nat.le_mul_of_pos_left _ oo_
  exact Nat.lt_of_le_of_lt hle hy'.2
 refine bg_ ?_ (M6 _ hs fun y hy hzy=>?_) (by rw [List.length_map];exact hl)
 ·rw [List.all_eq_true]
  intro z hz;obtain ⟨y,hy,rfl⟩:=List.mem_map.1 hz;exact OB (hB y hy)
 rw [gr_ (List.all_eq_true.1 h y hy)] at hzy;rw [cm_ (hB y hy)];refine decide_eq_false fun h0=>of_decide_eq_false hzy ?_;have hd:=IF (H3 hy);rw [h0,Int.mul_zero] at hd;exact hd.symm
theorem P4:badp.length=1:=rfl
theorem vY {p:List I} (h:Rgt p) (hg:p.all gdI=false):p=badp:=by
 rcases h with h|h
 ·exact h
 rw [h.1] at hg;cases hg
theorem pM (p:List I) (hp:p.length≤1000):Rgt (aC p):=by
 unfold aC;rw [qG _ hp dd_]
 cases (p.all gdI&&List.all [] gdI)
 ·exact .inl O
 exact B8 _
theorem QY (p q:List I) {n:Nat} (hn:1≤n):∀ (k:Nat) (a b:List I),gmP b<k→a≠[]→Rgt a→Rgt b→a.length≤n→b.length≤n→a.length≤25→b.length≤25 →
  (∃ s,dB p q k a b = .inl s∧s.1≠[]∧Rgt s.1∧s.1.length≤n)∨dB p q k a b = .inr badp
 | 0,a,b,h,_,_,_,_,_,_,_=>absurd h (Nat.not_lt_zero _)
 | k+1,a,b,h,ha,ra,rb,la,lb,ka,kb=>by
  unfold dB
  cases h1:decide (0<(b.length:Int))
  ·exact .inl ⟨_,rfl,ha,ra,la⟩
  ·cases h2:(aY a||aY b)
   ·simp only [cond_true,cond_false]
    have hd:=D7 ⟨ka,kb⟩ h2 h1;have hpos:=of_decide_eq_true h1;have hrl:=lU a b;have rr:=pM (bN a b) oo_;refine QY p q hn k b _ oo_ (fun e=>by rw [e] at hpos;exact absurd hpos dd_) rb rr lb ?_ kb (bU _)
    cases hg:(aC (bN a b)).all gdI
    ·rw [vY rr hg,P4];exact hn
    obtain ⟨h4,h5⟩:=wN oo_ hg;rcases FZ a b oo_ with h6|h6
    ·rw [h6,e9] at h4;cases h4
    omega
   exact .inr O
theorem df_ {a:List I} (h:a.all gdI=true) (hs:kY a=a) (hl:a.length≤25):fE [] a (fun y z=>E (Z.sub y.dec z.dec))=a.map fun x=>E (Z.of (-(vI x))):=by
 rw [qG _ dd_ oo_];simp only [List.length_nil,Nat.zero_max,List.all_nil,Bool.true_and,h,cond_true]
 have e:(List.range a.length).map (fun k=>E (Z.sub (([]:List I).getD k I0).dec (a.getD k I0).dec))=a.map fun x=>E (Z.of (-(vI x))):=by
  have e1:(List.range a.length).map (fun k=>E (Z.sub (([]:List I).getD k I0).dec (a.getD k I0).dec))=a.map fun x=>E (Z.sub (Z.of 0) x.dec):=by
   rw [← RC (fun x=>E (Z.sub (Z.of 0) x.dec))];refine List.map_congr_left fun k _=>?_;rfl
  rw [e1];refine List.map_congr_left fun y hy=>?_;have hy':=zZ (List.all_eq_true.1 h y hy)
  have hB:dR (-(vI y)):=by unfold dR;rw [Int.natAbs_neg];exact hy'.2
  rw [IL (List.all_eq_true.1 h y hy)]
  show E (Z.add (Z.of 0) (Z.neg (Z.of (vI y))))=_
  rw [I8 hy'.2,E7 B0 hB,Int.zero_add]
 rw [e]
 have hB:∀ y∈a,dR (-(vI y)):=fun y hy=>by unfold dR;rw [Int.natAbs_neg];exact (zZ (List.all_eq_true.1 h y hy)).2
 refine bg_ ?_ (M6 _ hs fun y hy hzy=>?_) (by rw [List.length_map];exact hl)
 ·rw [List.all_eq_true]
  intro z hz;obtain ⟨y,hy,rfl⟩:=List.mem_map.1 hz;exact OB (hB y hy)
 rw [gr_ (List.all_eq_true.1 h y hy)] at hzy;rw [cm_ (hB y hy)];exact decide_eq_false fun h0=>of_decide_eq_false hzy oo_
theorem TE {p:List I} (hp:p.length≤1000) (h:(aE p).all gdI=true):(aE p).length≤p.length - 1:=by
 unfold aE at h ⊢;rw [iX hp,pK] at h ⊢
 cases hg:p.all gdI
 ·rw [hg] at h;simp only [Bool.not_false,cond_true] at h;rw [DR,e9] at h;cases h
 rw [hg] at h;simp only [Bool.not_true,cond_false] at h ⊢;rw [I5 h];refine Nat.le_trans (wY _) ?_;rw [List.length_map,List.length_range];omega
theorem N7 {p:List I} (hp:Rgt p) (h:(aY (aX p (aE p))||aY (aC p))=false) (h0:((aC p).length:Int)≠0) :
  1≤(aX p (aE p)).length∧(aX p (aE p)).length≤(aC p).length:=by
 have hpl:p.length≤25:=by
  rcases hp with h1|h1
  ·rw [h1];exact mV
  exact h1.2.2
 obtain ⟨hg,hr⟩:=Bool.or_eq_false_iff.1 h;rw [iX (Nat.le_trans (tO _ _) dd_)] at hg;rw [iX (Nat.le_trans (bU _) dd_)] at hr
 have hr':(aC p).all gdI=true:=by simpa using hr
 have hg':(aX p (aE p)).all gdI=true:=by simpa using hg
 have hpg:=(wN oo_ hr').1
 obtain ⟨_,hs,_⟩:p.all gdI=true∧kY p=p∧p.length≤25:=by
  rcases hp with h1|h1
  ·rw [h1,e9] at hpg;cases hpg
  exact h1
 have hpv:=RR hpg hs hpl
 have hrl:(aC p).length=p.length:=by rw [hpv,List.length_map]
 have hp1:1≤p.length:=by omega
 have hdl:(aC (aE p)).length≤p.length:=by
  have rd:=pM (aE p) (Nat.le_trans (l9 _) dd_)
  cases hd:(aC (aE p)).all gdI
  ·rw [vY rd hd,P4];exact hp1
  obtain ⟨h4,h5⟩:=wN (Nat.le_trans (l9 _) dd_) hd;have:=TE oo_ h4;omega
 rw [hrl];unfold aX at hg' ⊢;rcases QY p (aE p) hp1 (gmP (aC (aE p))+1) (aC p) (aC (aE p)) (Nat.lt_succ_self _) (fun e=>by rw [e] at hrl;simp at hrl;omega) (pM _ oo_) (pM _ (Nat.le_trans (l9 _) dd_)) oo_ hdl (bU _) (bU _) with ⟨s,h1,h2,h3,h4⟩|h1
 ·rw [h1] at hg' ⊢
  have hs1:1≤s.1.length:=by
   rcases Nat.eq_zero_or_pos s.1.length with h|h
   ·exact absurd (List.eq_nil_of_length_eq_zero h) h2
   exact h
  simp only [sm] at hg' ⊢
  cases hc:((s.1.length:Int)==0)||decide (0<(Z.signW (s.1.getD (s.1.length - 1) I0).dec).1)
  ·rw [hc] at hg'
   simp only [cond_false] at hg' ⊢
   have hsl:s.1.length≤25:=by omega
   cases hsg:s.1.all gdI
   ·have hb:=vY h3 hsg
    rw [hb,qG _ dd_ dd_,e9] at hg';rw [Bool.and_false,cond_false,e9] at hg';cases hg'
   rcases h3 with h3|h3
   ·rw [h3,e9] at hsg;cases hsg
   rw [df_ h3.1 h3.2.1 h3.2.2,List.length_map];exact ⟨hs1,h4⟩
  exact ⟨hs1,h4⟩
 rw [h1] at hg';simp only [sm] at hg';rw [e9] at hg';cases hg'
theorem GL (p q:List I):∀ (k:Nat) (a b:List I),a.length≤25→b.length≤25→eW p q k a b=dB p q k a b
 | 0,a,b,_,_=>rfl
 | k+1,a,b,ha,hb=>by
  unfold eW dB;rw [iX oo_,iX oo_,mE,mE,← G9 oo_ oo_,← tF (Nat.le_trans (lU _ _) dd_),GL p q k _ _ hb (bU _)];rfl
theorem OA (p q:List I):∀ (k:Nat) (a b:List I) (s:List I×List I),Rgt a→Rgt b→dB p q k a b = .inl s→Rgt s.1
 | 0,a,b,s,ha,_,h=>by cases h;exact ha
 | k+1,a,b,s,ha,hb,h=>by
  unfold dB at h
  cases h1:decide (0<(b.length:Int))
  ·rw [h1] at h;cases h;exact ha
  rw [h1] at h
  cases h2:(aY a||aY b)
  ·rw [h2] at h;exact OA p q k _ _ _ hb (pM _ (Nat.le_trans (lU _ _) dd_)) h
  rw [h2] at h;cases h
theorem vZ {p:List I} (h:Rgt p):p.length≤25:=by
 rcases h with h|h
 ·rw [h];exact mV
 exact h.2.2
theorem MZ {a:List I} (h:a.all gdI=true) (hl:a.length≤25):cT a (E (Z.of (-1)))=fE [] a (fun y z=>E (Z.sub y.dec z.dec)):=by
 rw [← E5 _ oo_];unfold cE
 have hg:oI (E (Z.of (-1)))=true:=by decide +kernel
 rw [hg,cond_true,qG _ oo_ dd_,qG _ dd_ oo_];simp only [List.length_nil,Nat.max_zero,Nat.zero_max,List.all_nil,Bool.and_true,Bool.true_and,h,cond_true]
 congr 1
 refine List.map_congr_left fun k hk=>?_;have hk':k<a.length:=List.mem_range.1 hk
 have hx:gdI (a.getD k I0)=true:=by
  rw [List.getD_eq_getElem?_getD,List.getElem?_eq_getElem hk'];exact List.all_eq_true.1 h _ (List.getElem_mem hk')
 have hv:=zZ hx
 have hB:dR (-(vI (a.getD k I0))):=by unfold dR;rw [Int.natAbs_neg];exact hv.2
 show E (Z.mul (a.getD k I0).dec (E (Z.of (-1))).dec)=E (Z.add (Z.of 0) (Z.neg (a.getD k I0).dec))
 rw [IL hx,cP,pF hv.2 dd_,I8 hv.2,E7 B0 hB,Int.zero_add]
 congr 2;omega
theorem UU {p q:List I} (hp:p.length≤1000) (hq:q.length≤1000):aX p q=bA p q:=by
 unfold aX bA;rw [← tF hp,← tF hq,GL _ _ _ _ _ (bU _) (bU _)]
 cases hl:dB p q (gmP (aC q)+1) (aC p) (aC q) with
 | inr y=>rfl
 | inl s =>
  have hr:=OA p q _ _ _ s (pM p hp) (pM q hq) hl;simp only [sm];rw [mE]
  cases hs:s.1.all gdI
  ·rw [vY hr hs];decide +kernel
  rw [MZ hs (vZ hr)];rfl
theorem XT {p:List I} (hp:Rgt p) (h:(aW (bA p (aK p))||aW (aD p))=false) (h0:((aD p).length:Int)≠0) :
  1≤(bA p (aK p)).length∧(bA p (aK p)).length≤(aD p).length:=by
 have hl:=vZ hp;have e1:aD p=aC p:=(tF oo_).symm
 have e2:bA p (aK p)=aX p (aE p):=by
  rw [← CV oo_,← UU oo_ (Nat.le_trans (l9 _) dd_)]
 rw [e1,e2] at h ⊢;rw [e1] at h0;refine N7 hp ?_ h0;rw [mE,mE] at h;rw [iX (Nat.le_trans (tO _ _) dd_),iX (Nat.le_trans (bU _) dd_)];exact h
end Go.Num
