/- Lemmas: what they ask stands in their statements. -/
import Derived.Test.YtokjfhfiodopdaaGreatZGE
set_option linter.unusedSimpArgs false
set_option linter.unusedVariables false
namespace Go.Num
open Go Go.Kn
def zrI (x:I):Bool:=(Z.signW x.dec).1==0
def jI (l:List I):List I:=(l.reverse.dropWhile zrI).reverse
def badp:List I:=[E Z.bad]
def mkP (l:List I):List I:=bif l.all gdI then (if (jI l).length≤25 then jI l else badp) else badp
theorem oN (l:List I) (x:I):jI (l++[x])=bif zrI x then jI l else l++[x]:=by
 unfold jI;rw [List.reverse_append]
 show (List.dropWhile zrI (x::l.reverse)).reverse=_
 rw [List.dropWhile_cons]
 cases zrI x
 ·show (x::l.reverse).reverse=_
  simp
 rfl
theorem tG (l:List I):jI l=l.take (jI l).length:=by
 have h:jI l <+: l:=by
  unfold jI;have:=List.dropWhile_suffix zrI (l:=l.reverse);have h2:=List.reverse_prefix.2 this
  rwa [List.reverse_reverse] at h2
 obtain ⟨r,hr⟩:=h;have h3:(jI l++r).take (jI l).length=jI l:=List.take_left;rw [hr] at h3;exact h3.symm
theorem uI (l:List I):(jI l).length≤l.length:=by
 rw [tG,List.length_take];omega
theorem R8 (l:List I):(mkP l).length≤25:=by
 unfold mkP
 cases l.all gdI
 ·exact Nat.le_of_ble_eq_true O
 simp only [cond_true]
 split
 ·assumption
 exact Nat.le_of_ble_eq_true O
theorem oM {α:Type} (l:List α):l=[] ∨ ∃ m x,l=m++[x]:=by
 rcases List.eq_nil_or_concat l with h|⟨m,x,h⟩
 ·exact .inl h
 exact .inr ⟨m,x,by rw [h];simp⟩
theorem C5:F_poly_bad=badp:=rfl
theorem MY (n:Int) (f:Nat→I) (o:I→I) (out:List I) (i:Nat):∀ (k:Nat) (cut:List I),cut.length<k→jT n f o out i k cut=jI cut
 | 0,cut,h=>absurd h (Nat.not_lt_zero _)
 | k+1,cut,h=>by
  unfold jT;rcases oM cut with rfl|⟨m,x,rfl⟩
  ·rfl
  rw [oN];have e1:decide (0<((m++[x]).length:Int))=true:=decide_eq_true (by simp only [List.length_append,List.length_cons,List.length_nil];omega)
  have e2:(m++[x]).length - 1=m.length:=by simp
  rw [e1,e2]
  have e3:(m++[x]).getD m.length I0=x:=by simp
  have e4:(m++[x]).take m.length=m:=by simp
  rw [e3,e4,Bool.true_and]
  show (bif zrI x then _ else _)=_
  rw [MY n f o out i k m (by simp only [List.length_append,List.length_cons,List.length_nil] at h;omega)]
theorem DI (i m:Nat):List.range' i (m+1)=i::List.range' (i+1) m:=rfl
theorem C7 (n:Int) (f:Nat→I) (o:I→I):∀ (k:Nat) (out:List I) (i:Nat),n.toNat - i<k →
  jS n f o k out i=bif ((List.range' i (n.toNat - i)).map fun j=>o (f j)).all gdI then .inl (out++(List.range' i (n.toNat - i)).map fun j=>o (f j),i+(n.toNat - i)) else .inr badp
 | 0,out,i,h=>absurd h (Nat.not_lt_zero _)
 | k+1,out,i,h=>by
  unfold jS
  by_cases hi:i<n.toNat
  ·rw [decide_eq_true oo_,cond_true]
   obtain ⟨m,hm⟩:∃ m,n.toNat - i=m+1:=⟨n.toNat - i - 1,by omega⟩
   have hm':n.toNat - (i+1)=m:=by omega
   rw [hm,DI,List.map_cons,List.all_cons,C7 n f o k _ _ oo_,hm']
   show (bif gdI (o (f i)) then _ else _)=_
   cases gdI (o (f i))
   ·rfl
   simp only [cond_true,Bool.true_and,List.append_assoc,List.cons_append,List.nil_append];rw [show i+1+m=i+(m+1) by omega]
  rw [decide_eq_false oo_,cond_false,show n.toNat - i=0 by omega]
  simp
theorem nQ (n:Int) (f:Nat→I) (o:I→I):fL n f o=mkP ((List.range n.toNat).map fun j=>o (f j)):=by
 unfold fL mkP;rw [C7 n f o _ _ _ oo_,Nat.sub_zero,← List.range_eq_range']
 cases ((List.range n.toNat).map fun j=>o (f j)).all gdI
 ·rfl
 simp only [cond_true,sm,ap,List.nil_append];rw [MY _ _ _ _ _ _ _ (Nat.lt_succ_self _)]
 by_cases h:(jI ((List.range n.toNat).map fun j=>o (f j))).length≤25
 ·rw [if_pos h,decide_eq_false oo_,cond_false]
 rw [if_neg h,decide_eq_true oo_,cond_true];rfl
theorem ZL (x:I):((Z.signW x.dec).1 != 0) = !zrI x:=rfl
theorem GT (l:List I) {i:Nat} (h:i<l.length):l.take (i+1)=l.take i++[l.getD i I0]:=by
 rw [List.take_add_one,List.getElem?_eq_getElem h]
 simp [List.getD,List.getElem?_eq_getElem h]
theorem zV (l:List I) {i:Nat} (h:i<l.length):l.drop i=l.getD i I0::l.drop (i+1):=by
 rw [List.drop_eq_getElem_cons h]
 simp [List.getD,List.getElem?_eq_getElem h]
theorem yD (l:List I):∀ (k:Nat) (last:Int) (i:Nat),l.length - i<k→i≤l.length→last+1=((jI (l.take i)).length:Nat) →
  e7 l k last i=bif (l.drop i).all gdI then .inl (((jI l).length:Int) - 1,l.length) else .inr badp
 | 0,last,i,h,_,_=>absurd h (Nat.not_lt_zero _)
 | k+1,last,i,h,hi,hl=>by
  unfold e7
  by_cases hlt:i<l.length
  ·rw [decide_eq_true oo_,cond_true,zV l hlt,List.all_cons]
   show (bif gdI (l.getD i I0) then _ else _)=_
   cases gdI (l.getD i I0)
   ·rfl
   simp only [cond_true,Bool.true_and,ZL];have hs:=oN (l.take i) (l.getD i I0);rw [← GT l hlt] at hs
   cases hz:zrI (l.getD i I0)
   ·rw [hz] at hs
    simp only [Bool.not_false,cond_true];refine yD l k _ _ oo_ oo_ ?_;rw [hs,cond_false,List.length_take,Nat.min_eq_left oo_];omega
   rw [hz] at hs;simp only [Bool.not_true,cond_false];refine yD l k _ _ oo_ oo_ ?_;rw [hs];exact hl
  have e:i=l.length:=by omega
  subst e;rw [decide_eq_false oo_,cond_false,List.drop_length];rw [List.take_length] at hl
  show _=Sum.inl _
  rw [show last=((jI l).length:Int) - 1 by omega]
theorem DK (l:List I) (last:Int) (i:Nat):∀ (k:Nat) (out:List I) (j:Nat),(last+1).toNat - j<k→out=l.take j→(last+1).toNat≤l.length→j≤(last+1).toNat →
  (fZ l last i k out j).1=l.take (last+1).toNat
 | 0,out,j,h,_,_,_=>absurd h (Nat.not_lt_zero _)
 | k+1,out,j,h,ho,hl,hj=>by
  unfold fZ
  by_cases hc:(j:Int)≤last
  ·rw [decide_eq_true hc,cond_true]
   refine DK l last i k _ _ oo_ ?_ hl oo_;rw [ho,GT l oo_]
  rw [decide_eq_false hc,cond_false]
  show out=_
  rw [ho];congr 1;omega
theorem BM (l:List I):dC l=mkP l:=by
 unfold dC mkP;rw [yD l _ _ _ oo_ (Nat.zero_le _) (by rw [List.take_zero];rfl),List.drop_zero]
 cases l.all gdI
 ·rfl
 simp only [cond_true,sm,ap];have hle:=uI l
 by_cases h:(jI l).length≤25
 ·rw [if_pos h,decide_eq_false oo_,cond_false]
  rw [DK l _ _ _ _ _ oo_ (by rw [List.take_zero]) oo_ oo_];rw [show (((jI l).length:Int) - 1+1).toNat=(jI l).length by omega];exact (tG l).symm
 rw [if_neg h,decide_eq_true oo_,cond_true];rfl
theorem oP {c:Bool} {x y:List I} (h:x.length≤25) (k:y.length≤25):(bif c then x else y).length≤25:=by cases c<;>assumption
theorem mX:badp.length≤25:=Nat.le_of_ble_eq_true O
theorem yU (n:Int) (f:Nat→I) (o:I→I):(fL n f o).length≤25:=by rw [nQ];exact R8 _
theorem lO (l:List I):(bE l).length≤25:=yU _ _ _
theorem pD (p q:List I) (f:I→I→I):(eE p q f).length≤25:=oP mX (yU _ _ _)
theorem wM (p q:List I):(lS p q).length≤25:=pD _ _ _
theorem BI (p q:List I):(fK p q).length≤25:=oP mX (oP (Nat.zero_le _) (yU _ _ _))
theorem tT (p:List I) (n:I):(bS p n).length≤25:=oP (pD _ _ _) mX
theorem nT (p:List I):(aE p).length≤25:=oP mX (yU _ _ _)
theorem cE (p:List I):(aC p).length≤25:=pD _ _ _
theorem CX (l:List I):(dC l).length≤25:=by rw [BM];exact R8 _
theorem qX (l:List I):(dC l).length≤25:=CX l
theorem r9 (l:List W):(gR l).length≤25:=CX _
theorem kI (p q:List I):(cZ p q).length≤25:=oP mX (oP (Nat.zero_le _) (CX _))
theorem d8_ {σ:Type} {f:σ→List I} {x:σ ⊕ List I} (h:∀ s,(f s).length≤25) (k:∀ r,x = .inr r→r=badp):(sm f (fun r=>r) x).length≤25:=by
 cases x with
 | inl s=>exact h s
 | inr r=>show r.length≤25;rw [k r O];exact mX
theorem DH (d:I) (n:Int):∀ (k:Nat) (out:List I),n.toNat - out.length<k→1≤out.length→(gV d n k out).length=max n.toNat out.length
 | 0,out,h,_=>absurd h (Nat.not_lt_zero _)
 | k+1,out,h,h1=>by
  unfold gV
  by_cases hc:(out.length:Int)<n
  ·rw [decide_eq_true hc,cond_true,DH d n k _ (by simp only [List.length_append,List.length_cons,List.length_nil];omega) (by simp)]
   simp only [List.length_append,List.length_cons,List.length_nil];omega
  rw [decide_eq_false hc,cond_false];omega
theorem xC (d:I) (n:Int):(dH d n).length=max n.toNat 1:=DH d n _ _ (by simp only [List.length_cons,List.length_nil];omega) (by simp)
theorem w5 (n i j:Int) (m:I):∀ (t:Nat) (out:List I) (k:Nat) (w:I),(i+1).toNat - k<t→out.length=k→k≤(i+1).toNat→(iC n i j m t out k w).1.length=(i+1).toNat
 | 0,out,k,w,h,_,_=>absurd h (Nat.not_lt_zero _)
 | t+1,out,k,w,h,h1,h2=>by
  unfold iC
  by_cases hc:(k:Int)<i+1
  ·rw [decide_eq_true hc,cond_true]
   have hl:(out++[w]).length=k+1:=by simp [h1]
   cases decide ((k:Int)<n)
   ·exact w5 n i j m t _ _ _ oo_ hl oo_
   exact w5 n i j m t _ _ _ oo_ hl oo_
  rw [decide_eq_false hc,cond_false]
  show out.length=_
  omega
theorem CN (n i:Int):(dW n i).length=(i+1).toNat:=w5 n i _ _ _ _ _ _ oo_ O (Nat.zero_le _)
theorem Z.cases (z:Z):z=Z.bad ∨ ∃ v:Int,v.natAbs<4294967296 ^ 16∧z=Z.of v∧z.o=some v:=by
 cases h:z.o with
 | none=>exact .inl (Z.eq_bad h)
 | some v=>exact .inr ⟨v,z.h v h,Z.eq_of h,rfl⟩
theorem Z.zero_add (z:Z):Z.add (Z.of 0) z=z:=by
 rcases Z.cases z with rfl|⟨v,_,rfl,hv⟩
 ·rfl
 rw [Z.add,dG (Z.of_some dd_) hv,Int.zero_add]
theorem W.ext {a b:W} (h:a.1=b.1):a=b:=Subtype.ext h
theorem sign0 (z:Z):((Z.signW z).1==0)=decide (z.sign=0):=by
 show (z.sign==0)=_
 rfl
structure PrimOk (a:A3 I) (p:A3 W) (x y z g:Int):Prop where
 ax:a.x.dec.o=some x
 ay:a.y.dec.o=some y
 az:a.z.dec.o=some z
 gd:g=((Int.gcd (Int.gcd (Int.gcd 0 x:Nat) y:Nat) z:Nat):Int)
 g0:0<g
 px:g*p.x.1=x
 py:g*p.y.1=y
 pz:g*p.z.1=z
 bx:-2305843009213693952<p.x.1∧p.x.1<2305843009213693952
 bY:-2305843009213693952<p.y.1∧p.y.1<2305843009213693952
 bz:-2305843009213693952<p.z.1∧p.z.1<2305843009213693952
theorem E8 {x g:Int} (h:g ∣ x):g*x.fdiv g=x:=Int.mul_fdiv_cancel' h
def Z.Is (z:Z) (v:Int):Prop:=z.o=none∨z.o=some v
theorem RZ (v:Int):(Z.of v).Is v:=by unfold Z.Is;rw [Z.of_o];split<;>simp
theorem NP {f:Int→Int→Int} {a b:Z} {x y:Int} (ha:a.Is x) (hb:b.Is y):(xV (fun x y=>Z.of (f x y)) a b).Is (f x y):=by
 rcases ha with ha|ha
 ·left;rw [i9 (.inl ha)];rfl
 rcases hb with hb|hb
 ·left;rw [i9 (.inr hb)];rfl
 rw [dG ha hb];exact RZ _
theorem dr_ {a b:Z} {x y:Int} (ha:a.Is x) (hb:b.Is y):(Z.add a b).Is (x+y):=NP ha hb
theorem FI {a b:Z} {x y:Int} (ha:a.Is x) (hb:b.Is y):(Z.mul a b).Is (x*y):=NP ha hb
theorem ds_ {a:Z} {x:Int} (ha:a.Is x):(Z.neg a).Is (-x):=by
 rcases ha with ha|ha
 ·left;rw [Z.neg,pR ha];rfl
 rw [Z.neg,kM ha];exact RZ _
theorem XW {a b:Z} {x y:Int} (ha:a.Is x) (hb:b.Is y):(Z.sub a b).Is (x - y):=by
 rw [Int.sub_eq_add_neg];exact dr_ ha (ds_ hb)
theorem Z.Is.sign {z:Z} {v:Int} (h:z.Is v):z.o=none∨z.sign=v.sign:=by
 rcases h with h|h
 ·exact .inl h
 right;unfold Z.sign;rw [h]
theorem Z.Is.sign0 {z:Z} (h:z.Is 0):z.sign=0:=by
 unfold Z.sign;rcases h with h|h<;>rw [h]<;>rfl
structure Fit (z:Z) (v:Int) (k:Nat):Prop where
 eq:z=Z.of v
 lt:v.natAbs<2 ^ k
theorem gp_ {k:Nat} (hk:k≤511) {n:Nat} (h:n<2 ^ k):n<4294967296 ^ 16:=by
 have e:(2:Nat) ^ (32*16)=(2 ^ 32) ^ 16:=Nat.pow_mul 2 32 16;exact Nat.lt_of_lt_of_le h (Nat.le_trans (Nat.pow_le_pow_right dd_ (show k≤32*16 by omega)) (Nat.le_of_eq e))
theorem Fit.o {z:Z} {v:Int} {k:Nat} (h:Fit z v k) (hk:k≤511):z.o=some v:=by rw [h.eq];exact Z.of_some (gp_ hk h.lt)
theorem Fit.mono {z:Z} {v:Int} {k k':Nat} (h:Fit z v k) (hk:k≤k'):Fit z v k':=⟨h.eq,Nat.lt_of_lt_of_le h.lt (Nat.pow_le_pow_right dd_ hk)⟩
theorem Fit.mul {a b:Z} {x y:Int} {k l:Nat} (ha:Fit a x k) (hb:Fit b y l) (hk:k≤511∧l≤511):Fit (Z.mul a b) (x*y) (k+l) :=
 ⟨by rw [Z.mul,dG (ha.o hk.1) (hb.o hk.2)],by rw [Int.natAbs_mul,Nat.pow_add];exact Nat.mul_lt_mul_of_lt_of_lt ha.lt hb.lt⟩
theorem Fit.add {a b:Z} {x y:Int} {k l:Nat} (ha:Fit a x k) (hb:Fit b y l) (hk:k≤511∧l≤511):Fit (Z.add a b) (x+y) (max k l+1):=by
 refine ⟨by rw [Z.add,dG (ha.o hk.1) (hb.o hk.2)],?_⟩;have h1:=(ha.mono (Nat.le_max_left k l)).lt;have h2:=(hb.mono (Nat.le_max_right k l)).lt;rw [Nat.pow_succ];omega
theorem Fit.neg {a:Z} {x:Int} {k:Nat} (ha:Fit a x k) (hk:k≤511):Fit (Z.neg a) (-x) k:=⟨by rw [Z.neg,kM (ha.o hk)],by rw [Int.natAbs_neg];exact ha.lt⟩
theorem Fit.sub {a b:Z} {x y:Int} {k l:Nat} (ha:Fit a x k) (hb:Fit b y l) (hk:k≤511∧l≤511):Fit (Z.sub a b) (x - y) (max k l+1):=by
 rw [Int.sub_eq_add_neg];exact ha.add (hb.neg hk.2) hk
theorem Fit.sign {z:Z} {v:Int} {k:Nat} (h:Fit z v k) (hk:k≤511):z.sign=v.sign:=by unfold Z.sign;rw [h.o hk]
theorem O1 {L:Nat→List I→Nat→List I×Nat} {n:Nat} {g:Nat→I} (h1:∀ k out i,i<n→L (k+1) out i=L k (out++[g i]) (i+1)) (h2:∀ k out i,¬ i<n→L (k+1) out i=(out,i)) :
  ∀ (k:Nat) (out:List I) (i:Nat),n - i<k→(L k out i).1=out++(List.range' i (n - i)).map g
 | 0,out,i,h=>absurd h (Nat.not_lt_zero _)
 | k+1,out,i,h=>by
  by_cases hi:i<n
  ·obtain ⟨m,hm⟩:∃ m,n - i=m+1:=⟨n - i - 1,by omega⟩
   rw [h1 _ _ _ hi,O1 h1 h2 k _ _ oo_,hm,DI,show n - (i+1)=m by omega]
   simp
  rw [h2 _ _ _ hi,show n - i=0 by omega];simp
theorem FH (l:List I) (f:I→Bool):∀ (k i:Nat),l.length - i<k→(∃ j:Nat,j<l.length∧jH l f k i = .inr (W.cv (j:Int))∧(l.drop i).any f=true)∨(∃ j,jH l f k i = .inl j∧(l.drop i).any f=false)
 | 0,i,h=>absurd h (Nat.not_lt_zero _)
 | k+1,i,h=>by
  unfold jH
  by_cases hi:i<l.length
  ·rw [decide_eq_true oo_,cond_true,zV l hi,List.any_cons]
   cases hf:f (l.getD i I0)
   ·simp only [cond_false,Bool.false_or]
    exact FH l f k (i+1) oo_
   exact .inl ⟨i,hi,rfl,rfl⟩
  rw [decide_eq_false oo_,cond_false,List.drop_of_length_le oo_];exact .inr ⟨i,rfl,rfl⟩
theorem MW (l:List I) (f:I→Bool) (hl:l.length≤1000):oD l f=l.any f:=by
 unfold oD pM;rcases FH l f (l.length+1) 0 oo_ with ⟨j,hj,h1,h2⟩|⟨j,h1,h2⟩
 ·rw [h1]
  show decide (0≤(W.cv (j:Int)).1)=_
  rw [cvE oo_,decide_eq_true oo_];rw [List.drop_zero] at h2;exact h2.symm
 rw [h1];rw [List.drop_zero] at h2;rw [h2];rfl
theorem ay_ (l:List I):(l.any fun y=>!gdI y) = !l.all gdI:=by
 induction l with
 | nil=>rfl
 | cons x l ih =>
  rw [List.any_cons,List.all_cons,ih]
  cases gdI x<;>rfl
theorem kP {p:List I} (h:p.length≤1000):aS p = !p.all gdI:=by
 unfold aS;rw [MW _ _ h];exact ay_ p
theorem FJ (p:List I):∀ (k i:Nat),p.length - i<k→(∃ j,eW p k i = .inl j∧(p.drop i).all gdI=true)∨(eW p k i = .inr true∧(p.drop i).all gdI=false)
 | 0,i,h=>absurd h (Nat.not_lt_zero _)
 | k+1,i,h=>by
  unfold eW
  by_cases hi:i<p.length
  ·rw [decide_eq_true oo_,cond_true,zV p hi,List.all_cons]
   show (∃ j,(bif gdI (p.getD i I0) then _ else _)=_∧_)∨((bif gdI (p.getD i I0) then _ else _)=_∧_)
   cases gdI (p.getD i I0)
   ·exact .inr ⟨rfl,rfl⟩
   simp only [cond_true,Bool.true_and];exact FJ p k (i+1) oo_
  rw [decide_eq_false oo_,cond_false,List.drop_of_length_le oo_];exact .inl ⟨i,rfl,rfl⟩
theorem DX (p:List I):cL p = !p.all gdI:=by
 unfold cL;rcases FJ p (p.length+1) 0 oo_ with ⟨j,h1,h2⟩|⟨h1,h2⟩
 ·rw [h1];rw [List.drop_zero] at h2;rw [h2];rfl
 rw [h1];rw [List.drop_zero] at h2;rw [h2];rfl
theorem mK {l:List I} {k:Nat} (h:l.length≤k):l.getD k I0=I0:=by simp [List.getD,List.getElem?_eq_none h]
theorem B6 (p:List I) (k:Nat):dX p (k:Int)=p.getD k I0:=by
 unfold dX;rw [decide_eq_false oo_,Bool.false_or,Int.toNat_natCast]
 by_cases h:p.length≤k
 ·rw [decide_eq_true oo_,cond_true,mK h]
 rw [decide_eq_false oo_,cond_false]
theorem dW_ (n:Nat):List.range n=List.range' 0 n:=List.range_eq_range'
theorem rQ {p q:List I} (f:I→I→I) (hp:p.length≤1000) (hq:q.length≤1000):eE p q f=bif (p.all gdI&&q.all gdI) then mkP ((List.range (max p.length q.length)).map fun k=>f (p.getD k I0) (q.getD k I0)) else badp:=by
 unfold eE;rw [kP hp,kP hq,nQ,Int.toNat_natCast]
 have e:((List.range (max p.length q.length)).map fun j=>fT (nW j f p q))=(List.range (max p.length q.length)).map fun k=>f (p.getD k I0) (q.getD k I0):=List.map_congr_left fun k _=>by
  show f (dX p (k:Int)) (dX q (k:Int))=_
  rw [B6,B6]
 rw [e]
 cases p.all gdI<;>cases q.all gdI<;>rfl
theorem IO (p q out:List I) (k t i:Nat) (m:I) (hi:i≤k) (h:q.length≤k - i∨p.length≤i):cF p q out k (t+1) i m=cF p q out k t (i+1) m:=by
 conv=>lhs;unfold cF
 rw [decide_eq_true oo_,cond_true]
 have e:(decide ((i:Int)<(p.length:Int))&&decide ((k:Int) - (i:Int)<(q.length:Int)))=false:=by
  rcases h with h|h
  ·rw [decide_eq_false (p:=(k:Int) - (i:Int)<(q.length:Int)) oo_,Bool.and_false]
  rw [decide_eq_false oo_,Bool.false_and]
 rw [e,cond_false]
theorem IP (p q out:List I) (k:Nat):∀ (t i:Nat) (m:I),p.length≤i→(cF p q out k t i m).2=m
 | 0,i,m,h=>rfl
 | t+1,i,m,h=>by
  by_cases hi:i≤k
  ·rw [IO p q out k t i m hi (.inr h),IP p q out k t _ _ oo_]
  unfold cF;rw [decide_eq_false oo_,cond_false]
theorem II (p q out:List I) (k:Nat):∀ (t t' i:Nat) (m:I),k+1 - i<t→k+1 - i<t'→k+1≤i+q.length→(eO k q p t i m).2=(cF p q out k t' i m).2
 | 0,_,i,m,h,_,_=>absurd h (Nat.not_lt_zero _)
 | t+1,0,i,m,_,h,_=>absurd h (Nat.not_lt_zero _)
 | t+1,t'+1,i,m,h,h',hq=>by
  by_cases hp:i<p.length
  ·by_cases hi:i≤k
   ·unfold eO cF
    rw [decide_eq_true (p:=(i:Int)≤min (k:Int) ((p.length:Nat) - 1)) oo_,decide_eq_true (p:=(i:Int)≤(k:Int)) oo_,decide_eq_true (p:=(i:Int)<(p.length:Int)) oo_,decide_eq_true (p:=(k:Int) - (i:Int)<(q.length:Int)) oo_];exact II p q out k t t' _ _ oo_ oo_ oo_
   unfold eO cF;rw [decide_eq_false (p:=(i:Int)≤min (k:Int) ((p.length:Nat) - 1)) oo_,decide_eq_false (p:=(i:Int)≤(k:Int)) oo_];rfl
  rw [IP p q out k _ _ _ oo_];unfold eO;rw [decide_eq_false oo_];rfl
theorem IN (p q out:List I) (k:Nat) (m:I):∀ (n t i:Nat),i+n=k+1 - q.length→k+1 - i<t→cF p q out k t i m=cF p q out k (t - n) (i+n) m
 | 0,t,i,_,_=>rfl
 | n+1,t,i,h,ht=>by
  obtain ⟨t,rfl⟩:∃ t',t=t'+1:=⟨t - 1,by omega⟩;rw [IO p q out k t i m oo_ (.inl oo_),IN p q out k m n t (i+1) oo_ oo_];rw [show t+1 - (n+1)=t - n by omega,show i+1+n=i+(n+1) by omega]
theorem aL_ (p q out:List I) (k:Nat):jM k q p=(cF p q out k (k+2) 0 I0).2:=by
 unfold jM;simp only [ap];rw [IN p q out k I0 (k+1 - q.length) (k+2) 0 oo_ oo_,Nat.zero_add];rw [show ((k:Int) - (q.length:Int)+1).toNat=k+1 - q.length by omega];exact II p q out k _ _ _ _ oo_ oo_ oo_
theorem ao_ {p q:List I} (hp:p.length≤1000) (hq:q.length≤1000):fK p q=cZ p q:=by
 unfold fK cZ;rw [kP hp,kP hq,DX,DX,nQ]
 cases h0:((p.length:Int)==0)||((q.length:Int)==0)
 ·have h1:p.length≠0∧q.length≠0:=by
   have:=Bool.or_eq_false_iff.1 h0;exact ⟨fun h=>by rw [h] at this;exact absurd this.1 dd_,fun h=>by rw [h] at this;exact absurd this.2 dd_⟩
  have e:=O1 (L:=fG p q) (n:=p.length+q.length - 1) (g:=fun k=>jM k q p)
   (fun k out i h=>by (conv=>lhs;unfold fG);rw [decide_eq_true oo_];simp only [cond_true,ap];rw [← aL_]) (fun k out i h=>by unfold fG;rw [decide_eq_false oo_];rfl) (p.length+q.length) [] 0 oo_
  rw [List.nil_append,Nat.sub_zero,← dW_] at e;simp only [ap,e,BM];rw [show (((p.length+q.length:Nat):Int) - 1).toNat=p.length+q.length - 1 by omega];rfl
 rfl
theorem oK (t:List I) (k j:Nat) (x:I) (h:j≠k):(t.set k x).getD j I0=t.getD j I0:=by
 simp [List.getD,List.getElem?_set_ne (Ne.symm h)]
theorem kE (t:List I) (k:Nat) (x:I) (h:k<t.length):(t.set k x).getD k I0=x:=by
 simp [List.getD,List.getElem?_set_self h]
theorem fV_ {x:I} (h:x.dec.Is 0):zrI x=true:=by
 unfold zrI;have:=h.sign0
 show (x.dec.sign==0)=true
 rw [this];rfl
theorem b6_ {x:I} (h:zrI x=true):x.dec.Is 0:=by
 have h1:x.dec.sign=0:=by unfold zrI at h;exact (by simpa using h:(Z.signW x.dec).1=0)
 cases ho:x.dec.o with
 | none=>exact .inl ho
 | some v =>
  unfold Z.sign at h1;rw [ho] at h1;have:v=0:=Int.sign_eq_zero_iff_zero.1 h1;rw [this] at ho;exact .inr ho
theorem zr0:zrI I0=true:=by decide +kernel
theorem PZ (z:Z):∃ v:Int,z.Is v:=by
 cases h:z.o with
 | none=>exact ⟨0,.inl h⟩
 | some v=>exact ⟨v,.inr h⟩
theorem XV {z:Z} {v:Int} (h:z.Is v):(Z.abs z).Is (v.natAbs:Int):=by
 rcases h with h|h
 ·left;rw [Z.abs,pR h];rfl
 rw [Z.abs,kM h];exact RZ _
def VR (n:Nat) (r:List I):Prop:=∀ j:Nat,n≤j→zrI (r.getD j I0)=true
theorem yJ {n:Nat}:∀ (m:Nat) (r:List I),r.length≤m→VR n r→(jI r).length≤n
 | 0,r,h,_=>by
  have:r=[]:=List.eq_nil_of_length_eq_zero oo_;rw [this];exact Nat.zero_le _
 | m+1,r,h,hz=>by
  by_cases hn:r.length≤n
  ·exact Nat.le_trans (uI r) hn
  rcases oM r with rfl|⟨s,x,rfl⟩
  ·exact Nat.zero_le _
  simp only [List.length_append,List.length_cons,List.length_nil] at hn h;have hx:=hz s.length oo_;rw [show (s++[x]).getD s.length I0=x by simp] at hx;rw [oN,hx,cond_true];refine yJ m s oo_ (fun j hj=>?_)
  by_cases hjs:j<s.length
  ·have:=hz j hj
   rwa [show (s++[x]).getD j I0=s.getD j I0 by simp [List.getD,List.getElem?_append_left hjs]] at this
  rw [mK oo_];exact zr0
theorem UF {n:Nat} {r:List I} (h:VR n r):mkP r=badp∨(mkP r).length≤n:=by
 unfold mkP
 cases r.all gdI
 ·exact .inl O
 simp only [cond_true]
 split
 ·exact .inr (yJ _ r (Nat.le_refl _) h)
 exact .inl O
def HL (q:List I) (i:Int) (c:I) (k:Nat) (x:I):I:=E (Z.sub (Z.mul (Z.abs (q.getD (q.length - 1) I0).dec) x.dec) (Z.mul c.dec (dX q ((k:Int) - i)).dec))
theorem ZE (q:List I) (i:Int) (c:I) (k:Nat) (x:I):(HL q i c k x).dec=Z.sub (Z.mul (Z.abs (q.getD (q.length - 1) I0).dec) x.dec) (Z.mul c.dec (dX q ((k:Int) - i)).dec):=by
 unfold HL;rw [cJ]
theorem CT (p q r:List I) (i:Int) (c:I):∀ (f k:Nat) (t:List I),r.length - k<f→t.length=r.length →
  (∃ t' k',eY p q i r c f k t = .inl (k',t')∧t'.length=r.length∧∀ j,t'.getD j I0=if k≤j∧j<r.length then HL q i c j (t.getD j I0) else t.getD j I0)∨eY p q i r c f k t = .inr badp
 | 0,k,t,h,_=>absurd h (Nat.not_lt_zero _)
 | f+1,k,t,h,hl=>by
  unfold eY
  by_cases hk:k<r.length
  ·rw [decide_eq_true oo_,cond_true]
   show (∃ t' k',(bif ((t.set k (HL q i c k (t.getD k I0))).getD k I0).1.bad then _ else eY p q i r c f (k+1) (t.set k (HL q i c k (t.getD k I0))))=_∧_)∨(bif ((t.set k (HL q i c k (t.getD k I0))).getD k I0).1.bad then _ else eY p q i r c f (k+1) (t.set k (HL q i c k (t.getD k I0))))=_
   cases ((t.set k (HL q i c k (t.getD k I0))).getD k I0).1.bad
   ·simp only [cond_false]
    rcases CT p q r i c f (k+1) (t.set k (HL q i c k (t.getD k I0))) oo_ (by rw [List.length_set];exact hl) with ⟨t',k',h1,h2,h3⟩|h1
    ·refine .inl ⟨t',k',h1,h2,fun j=>?_⟩
     rw [h3 j]
     by_cases hj:j=k
     ·subst hj
      rw [if_neg oo_,if_pos oo_,kE _ _ _ oo_]
     rw [oK _ _ _ _ hj]
     by_cases hj2:k+1≤j∧j<r.length
     ·rw [if_pos hj2,if_pos oo_]
     rw [if_neg hj2,if_neg oo_]
    exact .inr h1
   exact .inr O
  rw [decide_eq_false oo_,cond_false];exact .inl ⟨t,k,rfl,hl,fun j=>by rw [if_neg oo_]⟩
theorem UT {q r t:List I} {i n:Nat} {c:I} (hn:q.length=n+1) (hc:c.dec=Z.mul (Z.of (Z.signW (q.getD n I0).dec).1) (r.getD (i+n) I0).dec) (hz:∀ j,i+n<j→zrI (r.getD j I0)=true)
  (ht:∀ j,t.getD j I0=if 0≤j∧j<r.length then HL q i c j (r.getD j I0) else r.getD j I0) (j:Nat) (hj:i+n≤j):zrI (t.getD j I0)=true:=by
 rw [ht j]
 by_cases hlt:j<r.length
 ·rw [if_pos ⟨Nat.zero_le _,hlt⟩]
  refine fV_ ?_;rw [ZE,hn,Nat.add_sub_cancel];obtain ⟨a,ha⟩:=PZ (q.getD n I0).dec
  by_cases he:j=i+n
  ·subst he
   have e1:dX q (((i+n:Nat):Int) - (i:Int))=q.getD n I0:=by
    rw [show (((i+n:Nat):Int) - (i:Int))=(n:Int) by omega,B6]
   rw [e1,hc];obtain ⟨v,hv⟩:=PZ (r.getD (i+n) I0).dec
   have hs:(Z.of (Z.signW (q.getD n I0).dec).1).Is (a.sign)∨(q.getD n I0).dec.o=none:=by
    rcases ha with h|h
    ·exact .inr h
    left
    have:(Z.signW (q.getD n I0).dec).1=a.sign:=by show (q.getD n I0).dec.sign=_;unfold Z.sign;rw [h]
    rw [this];exact RZ _
   rcases hs with hs|hs
   ·have h1:=XW (FI (XV ha) hv) (FI (FI hs hv) ha)
    have e2:(a.natAbs:Int)*v - a.sign*v*a=0:=by
     have h3:a.sign*a=(a.natAbs:Int):=by rcases Int.lt_trichotomy a 0 with h|h|h<;>first|(rw [Int.sign_eq_neg_one_of_neg h];omega)|(rw [Int.sign_eq_one_of_pos h];omega)|(subst h;rfl)
     have h4:a.sign*v*a=(a.sign*a)*v:=by rw [Int.mul_assoc,Int.mul_comm v a,Int.mul_assoc]
     rw [h4,h3];omega
    rw [e2] at h1;exact h1
   left
   have hb:∀ z:Z,(Z.mul z (q.getD n I0).dec).o=none:=fun z=>by rw [Z.mul,i9 (.inr hs)];rfl
   have h2:=hb (Z.mul (Z.of (Z.signW (q.getD n I0).dec).1) (r.getD (i+n) I0).dec)
   have h3:(Z.neg (Z.mul (Z.mul (Z.of (Z.signW (q.getD n I0).dec).1) (r.getD (i+n) I0).dec) (q.getD n I0).dec)).o=none:=by rw [Z.neg,pR h2];rfl
   show (Z.add _ (Z.neg _)).o=none
   rw [Z.add,i9 (.inr h3)];rfl
  have hzj:=b6_ (hz j oo_)
  have e1:dX q ((j:Int) - (i:Int))=I0:=by
   unfold dX;rw [decide_eq_true (p:=(q.length:Int)≤(j:Int) - (i:Int)) oo_,Bool.or_true,cond_true]
  obtain ⟨w,hw⟩:=PZ c.dec;rw [e1];have h1:=XW (FI (XV ha) hzj) (FI hw (b6_ zr0))
  simpa using h1
 rw [if_neg oo_,mK oo_];exact zr0
theorem OJ (p q:List I) {n:Nat} (hn:q.length=n+1):∀ (f:Nat) (i:Int) (r:List I),(i+1).toNat<f→(∀ j:Nat,n≤j→i+n<(j:Int)→zrI (r.getD j I0)=true) →
  (∃ i' r',dF p q f i r = .inl (i',r')∧VR n r')∨dF p q f i r = .inr badp
 | 0,i,r,h,_=>absurd h (Nat.not_lt_zero _)
 | f+1,i,r,h,hz=>by
  unfold dF
  by_cases hi:0≤i
  ·obtain ⟨m,rfl⟩:∃ m:Nat,i=(m:Int):=⟨i.toNat,by omega⟩
   rw [decide_eq_true hi,cond_true];simp only;rcases CT p q r (m:Int) (E (Z.mul (Z.of (Z.signW (q.getD (q.length - 1) I0).dec).1) (r.getD ((m:Int).toNat+(q.length - 1)) I0).dec)) (r.length+1) 0 r oo_ O with ⟨t',k',h1,h2,h3⟩|h1
   ·rw [h1]
    refine OJ p q hn f ((m:Int) - 1) t' oo_ (fun j hj1 hj2=>?_);refine UT (i:=m) hn ?_ (fun j' hj'=>hz j' oo_ oo_) h3 j oo_;rw [cJ,hn,Nat.add_sub_cancel,Int.toNat_natCast]
   rw [h1];exact .inr O
  rw [decide_eq_false hi,cond_false];exact .inl ⟨i,r,rfl,fun j hj=>hz j hj oo_⟩
theorem pJ (l:List I):bE l=mkP l:=by
 unfold bE;rw [nQ,Int.toNat_natCast]
 congr 1
 refine List.ext_getElem? fun k=>?_
 by_cases h:k<l.length
 ·simp [h,fT,nV]
 simp [h]
theorem CU (p q:List I) (hq:0<q.length):bD p q=badp∨(bD p q).length<q.length:=by
 obtain ⟨n,hn⟩:∃ n,q.length=n+1:=⟨q.length - 1,by omega⟩;unfold bD
 cases (aS p||(aS q||((q.length:Int)==0)))
 ·simp only [cond_false]
  rcases OJ p q hn (p.length+1) ((p.length:Int) - 1 - ((q.length:Int) - 1)) ([]++p) oo_ (fun j hj1 hj2=>by rw [List.nil_append,mK oo_];exact zr0) with ⟨i',r',h1,h2⟩|h1
  ·rw [h1]
   show bE r'=badp∨(bE r').length<_
   rw [pJ];rcases UF h2 with h3|h3
   ·exact .inl h3
   exact .inr oo_
  rw [h1];exact .inl O
 exact .inl O
theorem bw_ (p q:List I):∀ (f:Nat) (i:Int) (r:List I) (y:List I),dF p q f i r = .inr y→y=badp:=by
 intro f
 induction f with
 | zero=>intro i r y hy;cases hy
 | succ f ih =>
  intro i r y hy;unfold dF at hy
  cases hd:decide (0≤i)
  ·rw [hd] at hy;cases hy
  rw [hd] at hy;simp only [cond_true] at hy;rcases CT p q r i (E (Z.mul (Z.of (Z.signW (q.getD (q.length - 1) I0).dec).1) (r.getD (i.toNat+(q.length - 1)) I0).dec)) (r.length+1) 0 r oo_ O with ⟨t',k',h1,h2,h3⟩|h1
  ·rw [h1] at hy;exact ih _ _ _ hy
  rw [h1] at hy;exact (Sum.inr.inj hy).symm
theorem nL (p q:List I):(bD p q).length≤25:=by
 unfold bD;exact oP mX (d8_ (fun s=>lO _) (fun r h=>bw_ p q _ _ _ _ h))
theorem eS:badp.all gdI=false:=by decide +kernel
theorem FP {l:List I} (h:(mkP l).all gdI=true):mkP l=jI l:=by
 unfold mkP at h ⊢
 cases hl:l.all gdI
 ·rw [hl] at h;rw [cond_false,eS] at h;cases h
 simp only [hl,cond_true] at h ⊢
 split
 ·rfl
 rename_i hs;rw [if_neg hs,eS] at h;cases h
theorem tW {p:List I} (hp:p.length≤1000) (h:(aC p).all gdI=true):p.all gdI=true∧(aC p).length≤p.length:=by
 unfold aC at h ⊢;rw [rQ _ hp dd_] at h ⊢;simp only [List.length_nil,Nat.max_zero,List.all_nil,Bool.and_true] at h ⊢
 cases hg:p.all gdI
 ·rw [hg,cond_false,eS] at h;cases h
 rw [hg] at h;simp only [cond_true] at h ⊢;rw [FP h];refine ⟨trivial,Nat.le_trans (uI _) ?_⟩
 simp
theorem D7 {a b:List I} (hl:a.length≤25∧b.length≤25) (h:(aS a||aS b)=false) (h0:decide (0<(b.length:Int))=true):gmP (aC (bD a b))<gmP b:=by
 have hb:=(Bool.or_eq_false_iff.1 h).2;rw [kP oo_] at hb
 have hbg:b.all gdI=true:=by simpa using hb
 have hpos:=of_decide_eq_true h0
 have e1:gmP b=2*b.length:=by unfold gmP;rw [hbg];rfl
 rw [e1];unfold gmP
 cases hg:(aC (bD a b)).all gdI
 ·rw [cond_false];omega
 rw [cond_true];have h1:=nL a b;obtain ⟨h2,h3⟩:=tW oo_ hg;rcases CU a b oo_ with h4|h4
 ·rw [h4,eS] at h2;cases h2
 omega
theorem yL (p:List I) (a b:Rt):∀ (k:Nat) (r:List I) (i:Int),r.length≤25→(fB p a b k r i).1.length≤25
 | 0,r,i,h=>h
 | k+1,r,i,h=>by
  unfold fB
  cases decide (0≤i)
  ·exact h
  exact yL p a b k _ _ (wM _ _)
theorem zH (p:List I) (a b:Rt):(fA p a b).length≤25:=oP mX (yL p a b _ _ _ (Nat.zero_le _))
theorem vN (p:List I) (a b:Rt):(eR p a b).length≤25:=cE _
theorem KB (p q:List I):∀ (k:Nat) (a b y:List I),cM p q k a b = .inr y→y=badp
 | 0,a,b,y,h=>by cases h
 | k+1,a,b,y,h=>by
  unfold cM at h
  cases h1:decide (0<(b.length:Int))
  ·rw [h1] at h;cases h
  rw [h1] at h
  cases h2:(aS a||aS b)
  ·rw [h2] at h;exact KB p q k _ _ _ h
  rw [h2] at h;exact (Sum.inr.inj h).symm
theorem RP (p q:List I):∀ (k:Nat) (a b:List I) (s:List I×List I),a.length≤25→b.length≤25→cM p q k a b = .inl s→s.1.length≤25
 | 0,a,b,s,ha,hb,h=>by cases h;exact ha
 | k+1,a,b,s,ha,hb,h=>by
  unfold cM at h
  cases h1:decide (0<(b.length:Int))
  ·rw [h1] at h;cases h;exact ha
  rw [h1] at h
  cases h2:(aS a||aS b)
  ·rw [h2] at h;exact RP p q k _ _ _ hb (cE _) h
  rw [h2] at h;cases h
theorem wN (p q:List I):(aL p q).length≤25:=by
 unfold aL
 cases h:cM p q (gmP (aC q)+1) (aC p) (aC q) with
 | inl s=>exact oP (RP p q _ _ _ s (cE _) (cE _) h) (pD _ _ _)
 | inr y=>rw [KB p q _ _ _ _ h];exact mX
abbrev cX (v:Int):Prop:=v.natAbs<4294967296 ^ 16
theorem TY {x:I} (h:x.1.good=true):E x.dec=x:=Subtype.ext (aT_ x.2 h)
theorem PW {x:I} (h:x.1.good=true):∃ v:Int,cX v∧x=E (Z.of v):=by
 have h1:=cS x.2 h;refine ⟨_,x.dec.h _ h1,?_⟩;rw [← Z.eq_of h1];exact (TY h).symm
theorem xQ {v:Int} (h:cX v):(E (Z.of v)).1.good=true:=by
 show (Z.of v).enc.good=true
 rw [Z.enc_good,Z.of_some h];rfl
theorem ET {v:Int} (h:cX v):(E (Z.of v)).1.bad=false:=by
 have:=xQ h;unfold R.good at this;simp only [Bool.and_eq_true,Bool.not_eq_true'] at this;exact this.1
theorem c5_:(E Z.bad).1.bad=true:=rfl
theorem NL:(E Z.bad).1.good=false:=rfl
theorem bB_ {v:Int} (h:cX v):(Z.of v).sign=v.sign:=by unfold Z.sign;rw [Z.of_some h]
theorem j7 {v:Int} (h:cX v):(Z.signW (Z.of v)).1=v.sign:=bB_ h
theorem zZ {u v:Int} (hu:cX u) (hv:cX v):Z.gcd (Z.of u) (Z.of v)=Z.of (Int.gcd u v):=by rw [Z.gcd,dG (Z.of_some hu) (Z.of_some hv)]
theorem CR {u v:Int} (hu:cX u) (hv:cX v) (h:v≠0):Z.quo (Z.of u) (Z.of v)=Z.of (u.fdiv v):=by rw [Z.quo,dG (Z.of_some hu) (Z.of_some hv),if_neg h]
theorem n6 {u v:Int} (hu:cX u) (hv:cX v):Z.mul (Z.of u) (Z.of v)=Z.of (u*v):=by rw [Z.mul,dG (Z.of_some hu) (Z.of_some hv)]
theorem ER {u v:Int} (hu:cX u) (hv:cX v):Z.add (Z.of u) (Z.of v)=Z.of (u+v):=by rw [Z.add,dG (Z.of_some hu) (Z.of_some hv)]
theorem P6 {u:Int} (hu:cX u):Z.neg (Z.of u)=Z.of (-u):=by rw [Z.neg,kM (Z.of_some hu)]
theorem YO {v:Int} (h:¬ cX v):Z.of v=Z.bad:=by unfold Z.of;rw [dif_neg h]
theorem B1:cX 1:=by decide
theorem B0:cX 0:=by decide
theorem NG {u v:Int} (hv:cX v) (h:v≠0):cX (Int.gcd u v:Nat):=by
 have:Int.gcd u v≤v.natAbs:=Nat.le_of_dvd oo_ (Int.gcd_dvd_natAbs_right u v)
 show ((Int.gcd u v:Nat):Int).natAbs<_
 rw [Int.natAbs_natCast];exact Nat.lt_of_le_of_lt this hv
theorem QA {u v:Int} (hu:cX u) (hv:cX v) (h:Z.of u=Z.of v):u=v:=by
 have:=congrArg Z.o h;rw [Z.of_some hu,Z.of_some hv] at this;exact Option.some.inj this
structure Rt.Is (a:Rt) (n d:Int):Prop where
 en:a.n=E (Z.of n)
 ed:a.d=E (Z.of d)
 hn:cX n
 hd:cX d
 pos:0<d
 cop:Int.gcd n d=1
theorem Rt.ext {a b:Rt} (h:a.n=b.n) (k:a.d=b.d):a=b:=by cases a;cases b;simp_all
theorem fb_:F_skewbackref04_one=E (Z.of 1):=rfl
theorem fc_:F_ratio_one=E (Z.of 1):=rfl
theorem PE:pN=gW:=rfl
theorem XN (a:I):jN a=a.1.good:=rfl
theorem mU (a:Rt):bX a=bG a:=by
 unfold bX bG;rw [XN,XN,fb_,fc_]
 cases a.n.1.good<;>cases a.d.1.good<;>rfl
theorem Q4 (a b:I):cH a b=bM a b:=rfl
theorem cQ_ (a:Rt):m9 a=jF a:=by unfold m9 jF;rw [mU,PE]
theorem PD (a b:Rt):kS a b=fH a b:=by unfold kS fH;rw [mU,mU,PE];rfl
theorem VM (a b:Rt):gJ a b=jG a b:=by unfold gJ jG;rw [cQ_,PD]
theorem eq_ {a:Rt}:bG a=true ↔ ∃ n d,Rt.Is a n d:=by
 unfold bG
 constructor
 ·intro h
  cases gn:a.n.1.good<;>cases gd:a.d.1.good<;>simp only [gn,gd,Bool.not_true,Bool.not_false,Bool.or_true,Bool.true_or,Bool.or_false,cond_true,cond_false,Bool.false_eq_true] at h
  obtain ⟨n,hn,en⟩:=PW gn;obtain ⟨d,hd,ed⟩:=PW gd;rw [en,ed] at h;simp only [cJ,Bool.and_eq_true,decide_eq_true_eq,j7 hd] at h;obtain ⟨h1,h2⟩:=h;have hp:0<d:=Int.sign_pos_iff.1 h1;rw [zZ hn hd,fb_] at h2;have h3:=QA (NG hd oo_) B1 (VD h2);exact ⟨n,d,en,ed,hn,hd,hp,by exact_mod_cast h3⟩
 rintro ⟨n,d,h⟩;rw [h.en,h.ed,xQ h.hn,xQ h.hd];simp only [Bool.not_true,Bool.or_false,cond_false,cJ,Bool.and_eq_true,decide_eq_true_eq,j7 h.hd];refine ⟨Int.sign_pos_iff.2 h.pos,?_⟩;rw [zZ h.hn h.hd,h.cop];rfl
theorem H6 (v:Int):v.fdiv 1=v:=by rw [Int.fdiv_eq_ediv_of_nonneg _ dd_];exact Int.ediv_one v
theorem a9_ {n d:Int} (hn:cX n) (hd:cX d) (hp:0<d) (hc:Int.gcd n d=1):bM (E (Z.of n)) (E (Z.of d))=⟨E (Z.of n),E (Z.of d)⟩:=by
 unfold bM
 have h1:((Z.signW (E (Z.of d)).dec).1==0)=false:=by rw [cJ,j7 hd,Int.sign_eq_one_of_pos hp];rfl
 have h2:decide ((Z.signW (E (Z.of d)).dec).1<0)=false:=by rw [cJ,j7 hd,Int.sign_eq_one_of_pos hp];rfl
 rw [xQ hn,xQ hd,h1,h2,cJ,cJ,zZ hn hd,hc];simp only [Bool.not_true,Bool.or_false,cond_false];rw [show ((1:Nat):Int)=1 from rfl,CR hn B1 dd_,CR hd B1 dd_,H6,H6]
theorem CI (b:I):bM (E Z.bad) b=gW:=by unfold bM;rw [NL];rfl
theorem CJ (a:I):bM a (E Z.bad)=gW:=by
 unfold bM;rw [NL]
 cases a.1.good<;>rfl
theorem E9 {u g:Int} (hg:0<g):u.fdiv g=u / g:=Int.fdiv_eq_ediv_of_nonneg _ (Int.le_of_lt hg)
theorem b1_ {u g:Int} (hu:cX u) (hg:0<g) (hd:g ∣ u):cX (u / g):=by
 obtain ⟨k,rfl⟩:=hd;rw [Int.mul_ediv_cancel_left _ oo_];refine Nat.lt_of_le_of_lt ?_ hu;rw [Int.natAbs_mul];exact Nat.le_mul_of_pos_left _ oo_
theorem YA {n d:Int} (hn:cX n) (hd:cX d) (hp:0<d) :
  bM (E (Z.of n)) (E (Z.of d))=⟨E (Z.of (n / (Int.gcd n d:Nat))),E (Z.of (d / (Int.gcd n d:Nat)))⟩:=by
 unfold bM
 have h1:((Z.signW (E (Z.of d)).dec).1==0)=false:=by rw [cJ,j7 hd,Int.sign_eq_one_of_pos hp];rfl
 have h2:decide ((Z.signW (E (Z.of d)).dec).1<0)=false:=by rw [cJ,j7 hd,Int.sign_eq_one_of_pos hp];rfl
 have hg:0<((Int.gcd n d:Nat):Int):=by
  have:=Int.gcd_pos_of_ne_zero_right n (show d≠0 by omega);omega
 have hb:=NG (u:=n) hd oo_;rw [xQ hn,xQ hd,h1,h2,cJ,cJ,zZ hn hd];simp only [Bool.not_true,Bool.or_false,cond_false];rw [CR hn hb oo_,CR hd hb oo_,E9 hg,E9 hg]
theorem xY {n d:Int} (hn:cX n) (hd:cX d) (hp:0<d):Rt.Is (bM (E (Z.of n)) (E (Z.of d))) (n / (Int.gcd n d:Nat)) (d / (Int.gcd n d:Nat)):=by
 have hg:0<((Int.gcd n d:Nat):Int):=by
  have:=Int.gcd_pos_of_ne_zero_right n (show d≠0 by omega);omega
 have d1:((Int.gcd n d:Nat):Int) ∣ n:=Int.gcd_dvd_left ..;have d2:((Int.gcd n d:Nat):Int) ∣ d:=Int.gcd_dvd_right ..;rw [YA hn hd hp];refine ⟨rfl,rfl,b1_ hn hg d1,b1_ hd hg d2,Int.ediv_pos_of_pos_of_dvd hp oo_ d2,?_⟩;rw [Int.gcd_ediv d1 d2,Int.natAbs_natCast,Nat.div_self oo_]
theorem EO {a b:Rt} {n d m e:Int} (ha:a.Is n d) (hb:b.Is m e) :
  ∃ p q r s:Int,bM a.n b.d=⟨E (Z.of p),E (Z.of q)⟩∧bM b.n a.d=⟨E (Z.of r),E (Z.of s)⟩∧cX p∧cX q∧cX r∧cX s∧0<q∧0<s∧Int.gcd (p*r) (q*s)=1∧n*m*(q*s)=p*r*(d*e):=by
 have h1:=xY ha.hn hb.hd hb.pos;have h2:=xY hb.hn ha.hd ha.pos;have g1:((Int.gcd n e:Nat):Int) ∣ n:=Int.gcd_dvd_left ..;have g2:((Int.gcd n e:Nat):Int) ∣ e:=Int.gcd_dvd_right ..;have g3:((Int.gcd m d:Nat):Int) ∣ m:=Int.gcd_dvd_left ..;have g4:((Int.gcd m d:Nat):Int) ∣ d:=Int.gcd_dvd_right ..;refine ⟨n / (Int.gcd n e:Nat),e / (Int.gcd n e:Nat),m / (Int.gcd m d:Nat),d / (Int.gcd m d:Nat),?_,?_,h1.hn,h1.hd,h2.hn,h2.hd,h1.pos,h2.pos,?_,?_⟩
 ·rw [ha.en,hb.ed];exact Rt.ext h1.en h1.ed
 ·rw [hb.en,ha.ed];exact Rt.ext h2.en h2.ed
 ·generalize hG:((Int.gcd n e:Nat):Int)=G at *
  generalize hH:((Int.gcd m d:Nat):Int)=H at *;have c1:Nat.Coprime (n / G).natAbs (e / G).natAbs:=h1.cop;have c2:Nat.Coprime (m / H).natAbs (d / H).natAbs:=h2.cop;have k1:Nat.Coprime n.natAbs d.natAbs:=ha.cop;have k2:Nat.Coprime m.natAbs e.natAbs:=hb.cop;have d1:(n / G).natAbs ∣ n.natAbs:=Int.natAbs_dvd_natAbs.2 (Int.ediv_dvd_of_dvd g1);have d2:(e / G).natAbs ∣ e.natAbs:=Int.natAbs_dvd_natAbs.2 (Int.ediv_dvd_of_dvd g2);have d3:(m / H).natAbs ∣ m.natAbs:=Int.natAbs_dvd_natAbs.2 (Int.ediv_dvd_of_dvd g3);have d4:(d / H).natAbs ∣ d.natAbs:=Int.natAbs_dvd_natAbs.2 (Int.ediv_dvd_of_dvd g4)
  show Nat.gcd (n / G*(m / H)).natAbs (e / G*(d / H)).natAbs=1
  rw [Int.natAbs_mul,Int.natAbs_mul];have x1:Nat.Coprime (n / G).natAbs (d / H).natAbs:=(k1.coprime_dvd_left d1).coprime_dvd_right d4;have x2:Nat.Coprime (m / H).natAbs (e / G).natAbs:=(k2.coprime_dvd_left d3).coprime_dvd_right d2;exact (Nat.Coprime.mul_right c1 x1).mul_left (Nat.Coprime.mul_right x2 c2)
 obtain ⟨x,hx⟩:=g1;obtain ⟨y,hy⟩:=g2;obtain ⟨z,hz⟩:=g3;obtain ⟨t,ht⟩:=g4
 have p1:0<((Int.gcd n e:Nat):Int):=by have:=Int.gcd_pos_of_ne_zero_right n (show e≠0 by have:=hb.pos;omega);omega
 have p2:0<((Int.gcd m d:Nat):Int):=by have:=Int.gcd_pos_of_ne_zero_right m (show d≠0 by have:=ha.pos;omega);omega
 generalize ((Int.gcd n e:Nat):Int)=G at *;generalize ((Int.gcd m d:Nat):Int)=H at *
 have q1:n / G=x:=by rw [hx];exact Int.mul_ediv_cancel_left _ oo_
 have q2:e / G=y:=by rw [hy];exact Int.mul_ediv_cancel_left _ oo_
 have q3:m / H=z:=by rw [hz];exact Int.mul_ediv_cancel_left _ oo_
 have q4:d / H=t:=by rw [ht];exact Int.mul_ediv_cancel_left _ oo_
 rw [q1,q2,q3,q4,hx,hy,hz,ht];grind
theorem VF (a b:Rt):iX a b=gK a b:=by
 unfold iX gK;rw [mU,mU,PE,Q4,Q4]
 cases hga:bG a<;>cases hgb:bG b<;>simp only [Bool.not_true,Bool.not_false,Bool.or_true,Bool.true_or,Bool.or_false,cond_true,cond_false]
 obtain ⟨n,d,ha⟩:=eq_.1 hga;obtain ⟨m,e,hb⟩:=eq_.1 hgb;obtain ⟨p,q,r,s,e1,e2,hp,hq,hr,hs,q0,s0,hc,_⟩:=EO ha hb;rw [e1,e2];simp only [cJ,n6 hp hr,n6 hq hs]
 by_cases b1:cX (p*r)
 ·by_cases b2:cX (q*s)
  ·rw [a9_ b1 b2 (Int.mul_pos q0 s0) hc,ET b1,ET b2];rfl
  rw [YO b2,CJ,c5_,Bool.or_true];rfl
 rw [YO b1,CI];rfl
theorem eS_ {x:I} (h:gdI x=true):∃ v:Int,cX v∧x=E (Z.of v):=PW (by unfold R.good;exact h)
theorem NK {v:Int} (h:cX v):gdI (E (Z.of v))=true:=by have:=xQ h;unfold R.good at this;exact this
def vI (x:I):Int:=x.dec.o.getD 0
theorem aa_ {v:Int} (h:cX v):vI (E (Z.of v))=v:=by unfold vI;rw [cJ,Z.of_some h];rfl
theorem zL {x:I} (h:gdI x=true):x=E (Z.of (vI x))∧cX (vI x):=by
 obtain ⟨v,hv,rfl⟩:=eS_ h;rw [aa_ hv];exact ⟨rfl,hv⟩
theorem PT {x:I} (h:gdI x=true):x.dec=Z.of (vI x):=by
 conv=>lhs;rw [(zL h).1,cJ]
theorem ai_ {v:Int} (h:cX v):zrI (E (Z.of v))=decide (v=0):=by
 unfold zrI;rw [cJ,j7 h]
 by_cases h0:v=0
 ·subst h0;rfl
 rw [decide_eq_false h0];exact beq_eq_false_iff_ne.2 (fun hs=>h0 (Int.sign_eq_zero_iff_zero.1 hs))
theorem ek_ {x:I} (h:gdI x=true):zrI x=decide (vI x=0):=by
 conv=>lhs;rw [(zL h).1]
 exact ai_ (zL h).2
def fg (g:Nat) (x:I):Nat:=Int.gcd g (vI x)
theorem en_ {g:Nat} {v:Int} (hg:cX (g:Int)) (hv:cX v):cX ((Int.gcd g v:Nat):Int):=by
 by_cases h:v=0
 ·subst h
  rw [Int.gcd_zero_right,Int.natAbs_natCast];exact hg
 exact NG hv h
theorem EZ (l0:List I):∀ (r:List I) (g:Nat),r.all gdI=true→cX (g:Int)→iU l0 r (E (Z.of (g:Int)))=E (Z.of ((r.foldl fg g:Nat):Int))∧cX ((r.foldl fg g:Nat):Int)
 | [],g,_,hg=>⟨rfl,hg⟩
 | x::r,g,h,hg=>by
  rw [List.all_cons,Bool.and_eq_true] at h;have hx:=zL h.1
  have e:E (Z.gcd (E (Z.of (g:Int))).dec x.dec)=E (Z.of ((fg g x:Nat):Int)):=by
   rw [cJ,PT h.1,zZ hg hx.2];rfl
  unfold iU;rw [e];exact EZ l0 r _ h.2 (en_ hg hx.2)
def cN (l:List I):Nat:=l.foldl fg 0
theorem DA {l:List I} (h:l.all gdI=true):dB l=E (Z.of ((cN l:Nat):Int))∧cX ((cN l:Nat):Int):=EZ l l 0 h B0
theorem NE:∀ (l:List I) (g:Nat),l.foldl fg g ∣ g∧∀ x∈l,((l.foldl fg g:Nat):Int) ∣ vI x
 | [],g=>⟨Nat.dvd_refl _,fun x hx=>by cases hx⟩
 | y::l,g=>by
  obtain ⟨h1,h2⟩:=NE l (fg g y)
  have h3:fg g y ∣ g:=by have:=Int.gcd_dvd_natAbs_left (g:Int) (vI y);simpa [fg] using this
  have h4:((fg g y:Nat):Int) ∣ vI y:=Int.gcd_dvd_right ..;refine ⟨Nat.dvd_trans h1 h3,fun x hx=>?_⟩;rcases List.mem_cons.1 hx with rfl|hx
  ·exact Int.dvd_trans (Int.natCast_dvd_natCast.2 h1) h4
  exact h2 x hx
theorem EX {l:List I} {x:I} (h:x∈l):((cN l:Nat):Int) ∣ vI x:=(NE l 0).2 x h
theorem NV {α:Type} (f:I→α) (l:List I):(List.range l.length).map (fun k=>f (l.getD k I0))=l.map f:=by
 refine List.ext_getElem? fun k=>?_
 by_cases h:k<l.length
 ·simp [h]
 simp [h]
def Rgt (p:List I):Prop:=p=badp∨(p.all gdI=true∧jI p=p∧p.length≤25)
theorem GM (l:List I):jI (jI l)=jI l:=by
 suffices ∀ n (l:List I),l.length≤n→jI (jI l)=jI l from this _ l (Nat.le_refl _)
 intro n
 induction n with
 | zero=>intro l h;rw [List.eq_nil_of_length_eq_zero (show l.length=0 by omega)];rfl
 | succ n ih =>
  intro l h;rcases oM l with rfl|⟨m,x,rfl⟩
  ·rfl
  have hs:=oN m x
  cases hx:zrI x
  ·rw [hx,cond_false] at hs;rw [hs,hs]
  rw [hx,cond_true] at hs;rw [hs];exact ih m (by simp only [List.length_append,List.length_cons,List.length_nil] at h;omega)
theorem IX {l:List I} (h:l.all gdI=true):(jI l).all gdI=true:=by
 rw [tG];rw [List.all_eq_true] at h ⊢;exact fun x hx=>h x (List.mem_of_mem_take hx)
theorem BC (l:List I):Rgt (mkP l):=by
 unfold mkP
 cases h:l.all gdI
 ·exact .inl O
 simp only [cond_true]
 split
 ·rename_i h2;exact .inr ⟨IX h,GM l,h2⟩
 exact .inl O
theorem YJ {l:List I} (h:l.all gdI=true) (h2:jI l=l) (h3:l.length≤25):mkP l=l:=by
 unfold mkP;rw [h,cond_true,h2,if_pos h3]
theorem AE {m:List I} {x:I} (h:jI (m++[x])=m++[x]):zrI x=false:=by
 cases hx:zrI x
 ·rfl
 rw [oN,hx,cond_true] at h;have:=uI m;rw [h] at this;simp only [List.length_append,List.length_cons,List.length_nil] at this;omega
theorem IY {l:List I} (f:I→I) (h:jI l=l) (hf:∀ x∈l,zrI x=false→zrI (f x)=false):jI (l.map f)=l.map f:=by
 rcases oM l with rfl|⟨m,x,rfl⟩
 ·rfl
 rw [List.map_append,List.map_cons,List.map_nil,oN,hf x (by simp) (AE h),cond_false]
theorem N9 {p:List I} (h:p.all gdI=true) (hs:jI p=p) (hl:p.length≤25):aC p=p.map fun x=>E (Z.of ((vI x).fdiv (cN p))):=by
 unfold aC;rw [rQ _ oo_ dd_];simp only [List.length_nil,Nat.max_zero,List.all_nil,Bool.and_true,h,cond_true];have hc:=DA h
 have e:(List.range p.length).map (fun k=>kK (p.getD k I0) (([]:List I).getD k I0) (dB p))=p.map fun x=>E (Z.quo x.dec (Z.of ((cN p:Nat):Int))):=by
  rw [← NV (fun x=>E (Z.quo x.dec (Z.of ((cN p:Nat):Int))))];refine List.map_congr_left fun k _=>?_
  show E (Z.quo (p.getD k I0).dec (dB p).dec)=_
  rw [hc.1,cJ]
 rw [e];rcases oM p with rfl|⟨m,x,rfl⟩
 ·rfl
 have hx:gdI x=true:=List.all_eq_true.1 h x (by simp);have hz:=AE hs;rw [ek_ hx] at hz;have hv0:vI x≠0:=of_decide_eq_false hz
 have hc0:((cN (m++[x]):Nat):Int)≠0:=fun h0=>by
  have:=EX (l:=m++[x]) (x:=x) (by simp);rw [h0] at this;exact hv0 (Int.zero_dvd.1 this)
 have e2:(m++[x]).map (fun x'=>E (Z.quo x'.dec (Z.of ((cN (m++[x]):Nat):Int))))=(m++[x]).map fun x'=>E (Z.of ((vI x').fdiv (cN (m++[x])))):=by
  refine List.map_congr_left fun y hy=>?_;have hy':=zL (List.all_eq_true.1 h y hy);rw [PT (List.all_eq_true.1 h y hy),CR hy'.2 hc.2 hc0]
 rw [e2]
 have hB:∀ y∈m++[x],cX ((vI y).fdiv (cN (m++[x]))):=fun y hy=>by
  have hy':=zL (List.all_eq_true.1 h y hy);have hd:=E8 (EX hy)
  have hle:((vI y).fdiv (cN (m++[x]))).natAbs≤(vI y).natAbs:=by
   conv=>rhs;rw [← hd]
   rw [Int.natAbs_mul];exact Nat.le_mul_of_pos_left _ oo_
  exact Nat.lt_of_le_of_lt hle hy'.2
 refine YJ ?_ (IY _ hs fun y hy hzy=>?_) (by rw [List.length_map];exact hl)
 ·rw [List.all_eq_true]
  intro z hz;obtain ⟨y,hy,rfl⟩:=List.mem_map.1 hz;exact NK (hB y hy)
 rw [ek_ (List.all_eq_true.1 h y hy)] at hzy;rw [ai_ (hB y hy)];refine decide_eq_false fun h0=>of_decide_eq_false hzy ?_;have hd:=E8 (EX hy);rw [h0,Int.mul_zero] at hd;exact hd.symm
theorem MO:badp.length=1:=rfl
theorem y8 {p:List I} (h:Rgt p) (hg:p.all gdI=false):p=badp:=by
 rcases h with h|h
 ·exact h
 rw [h.1] at hg;cases hg
theorem r6 (p:List I) (hp:p.length≤1000):Rgt (aC p):=by
 unfold aC;rw [rQ _ hp dd_]
 cases (p.all gdI&&List.all [] gdI)
 ·exact .inl O
 exact BC _
theorem NH (p q:List I) {n:Nat} (hn:1≤n):∀ (k:Nat) (a b:List I),gmP b<k→a≠[]→Rgt a→Rgt b→a.length≤n→b.length≤n→a.length≤25→b.length≤25 →
  (∃ s,cM p q k a b = .inl s∧s.1≠[]∧Rgt s.1∧s.1.length≤n)∨cM p q k a b = .inr badp
 | 0,a,b,h,_,_,_,_,_,_,_=>absurd h (Nat.not_lt_zero _)
 | k+1,a,b,h,ha,ra,rb,la,lb,ka,kb=>by
  unfold cM
  cases h1:decide (0<(b.length:Int))
  ·exact .inl ⟨_,rfl,ha,ra,la⟩
  ·cases h2:(aS a||aS b)
   ·simp only [cond_true,cond_false]
    have hd:=D7 ⟨ka,kb⟩ h2 h1;have hpos:=of_decide_eq_true h1;have hrl:=nL a b;have rr:=r6 (bD a b) oo_;refine NH p q hn k b _ oo_ (fun e=>by rw [e] at hpos;exact absurd hpos dd_) rb rr lb ?_ kb (cE _)
    cases hg:(aC (bD a b)).all gdI
    ·rw [y8 rr hg,MO];exact hn
    obtain ⟨h4,h5⟩:=tW oo_ hg;rcases CU a b oo_ with h6|h6
    ·rw [h6,eS] at h4;cases h4
    omega
   exact .inr O
theorem bf_ {a:List I} (h:a.all gdI=true) (hs:jI a=a) (hl:a.length≤25):eE [] a (fun y z=>E (Z.sub y.dec z.dec))=a.map fun x=>E (Z.of (-(vI x))):=by
 rw [rQ _ dd_ oo_];simp only [List.length_nil,Nat.zero_max,List.all_nil,Bool.true_and,h,cond_true]
 have e:(List.range a.length).map (fun k=>E (Z.sub (([]:List I).getD k I0).dec (a.getD k I0).dec))=a.map fun x=>E (Z.of (-(vI x))):=by
  have e1:(List.range a.length).map (fun k=>E (Z.sub (([]:List I).getD k I0).dec (a.getD k I0).dec))=a.map fun x=>E (Z.sub (Z.of 0) x.dec):=by
   rw [← NV (fun x=>E (Z.sub (Z.of 0) x.dec))];refine List.map_congr_left fun k _=>?_;rfl
  rw [e1];refine List.map_congr_left fun y hy=>?_;have hy':=zL (List.all_eq_true.1 h y hy)
  have hB:cX (-(vI y)):=by unfold cX;rw [Int.natAbs_neg];exact hy'.2
  rw [PT (List.all_eq_true.1 h y hy)]
  show E (Z.add (Z.of 0) (Z.neg (Z.of (vI y))))=_
  rw [P6 hy'.2,ER B0 hB,Int.zero_add]
 rw [e]
 have hB:∀ y∈a,cX (-(vI y)):=fun y hy=>by unfold cX;rw [Int.natAbs_neg];exact (zL (List.all_eq_true.1 h y hy)).2
 refine YJ ?_ (IY _ hs fun y hy hzy=>?_) (by rw [List.length_map];exact hl)
 ·rw [List.all_eq_true]
  intro z hz;obtain ⟨y,hy,rfl⟩:=List.mem_map.1 hz;exact NK (hB y hy)
 rw [ek_ (List.all_eq_true.1 h y hy)] at hzy;rw [ai_ (hB y hy)];exact decide_eq_false fun h0=>of_decide_eq_false hzy oo_
theorem PN {p:List I} (hp:p.length≤1000) (h:(aE p).all gdI=true):(aE p).length≤p.length - 1:=by
 unfold aE at h ⊢;rw [kP hp,nQ] at h ⊢
 cases hg:p.all gdI
 ·rw [hg] at h;simp only [Bool.not_false,cond_true] at h;rw [C5,eS] at h;cases h
 rw [hg] at h;simp only [Bool.not_true,cond_false] at h ⊢;rw [FP h];refine Nat.le_trans (uI _) ?_;rw [List.length_map,List.length_range];omega
theorem aY_ {p:List I} (hp:Rgt p) (h:(aS (aL p (aE p))||aS (aC p))=false) (h0:((aC p).length:Int)≠0) :
  1≤(aL p (aE p)).length∧(aL p (aE p)).length≤(aC p).length:=by
 have hpl:p.length≤25:=by
  rcases hp with h1|h1
  ·rw [h1];exact mX
  exact h1.2.2
 obtain ⟨hg,hr⟩:=Bool.or_eq_false_iff.1 h;rw [kP (Nat.le_trans (wN _ _) dd_)] at hg;rw [kP (Nat.le_trans (cE _) dd_)] at hr
 have hr':(aC p).all gdI=true:=by simpa using hr
 have hg':(aL p (aE p)).all gdI=true:=by simpa using hg
 have hpg:=(tW oo_ hr').1
 obtain ⟨_,hs,_⟩:p.all gdI=true∧jI p=p∧p.length≤25:=by
  rcases hp with h1|h1
  ·rw [h1,eS] at hpg;cases hpg
  exact h1
 have hpv:=N9 hpg hs hpl
 have hrl:(aC p).length=p.length:=by rw [hpv,List.length_map]
 have hp1:1≤p.length:=by omega
 have hdl:(aC (aE p)).length≤p.length:=by
  have rd:=r6 (aE p) (Nat.le_trans (nT _) dd_)
  cases hd:(aC (aE p)).all gdI
  ·rw [y8 rd hd,MO];exact hp1
  obtain ⟨h4,h5⟩:=tW (Nat.le_trans (nT _) dd_) hd;have:=PN oo_ h4;omega
 rw [hrl];unfold aL at hg' ⊢;rcases NH p (aE p) hp1 (gmP (aC (aE p))+1) (aC p) (aC (aE p)) (Nat.lt_succ_self _) (fun e=>by rw [e] at hrl;simp at hrl;omega) (r6 _ oo_) (r6 _ (Nat.le_trans (nT _) dd_)) oo_ hdl (cE _) (cE _) with ⟨s,h1,h2,h3,h4⟩|h1
 ·rw [h1] at hg' ⊢
  have hs1:1≤s.1.length:=by
   rcases Nat.eq_zero_or_pos s.1.length with h|h
   ·exact absurd (List.eq_nil_of_length_eq_zero h) h2
   exact h
  simp only [sm] at hg' ⊢
  cases hc:((s.1.length:Int)==0)||decide (0<(Z.signW (s.1.getD (s.1.length - 1) I0).dec).1)
  ·rw [hc] at hg'
   simp only [cond_false] at hg' ⊢
   have hsl:s.1.length≤25:=by omega
   cases hsg:s.1.all gdI
   ·have hb:=y8 h3 hsg
    rw [hb,rQ _ dd_ dd_,eS] at hg';rw [Bool.and_false,cond_false,eS] at hg';cases hg'
   rcases h3 with h3|h3
   ·rw [h3,eS] at hsg;cases hsg
   rw [bf_ h3.1 h3.2.1 h3.2.2,List.length_map];exact ⟨hs1,h4⟩
  exact ⟨hs1,h4⟩
 rw [h1] at hg';simp only [sm] at hg';rw [eS] at hg';cases hg'
theorem RR (p q:List I):∀ (k:Nat) (a b:List I) (s:List I×List I),Rgt a→Rgt b→cM p q k a b = .inl s→Rgt s.1
 | 0,a,b,s,ha,_,h=>by cases h;exact ha
 | k+1,a,b,s,ha,hb,h=>by
  unfold cM at h
  cases h1:decide (0<(b.length:Int))
  ·rw [h1] at h;cases h;exact ha
  rw [h1] at h
  cases h2:(aS a||aS b)
  ·rw [h2] at h;exact RR p q k _ _ _ hb (r6 _ (Nat.le_trans (nL _ _) dd_)) h
  rw [h2] at h;cases h
theorem EL {p:List I} (h:Rgt p):p.length≤25:=by
 rcases h with h|h
 ·rw [h];exact mX
 exact h.2.2
theorem KS (p q:List I):Rgt (fK p q):=by
 unfold fK
 cases (aS p||aS q)
 ·simp only [cond_false]
  cases (((p.length:Int)==0)||((q.length:Int)==0))
  ·rw [cond_false,nQ];exact BC _
  exact .inr ⟨rfl,rfl,Nat.zero_le _⟩
 exact .inl O
theorem IM {p:List I} (h:eT p=true):Rgt p:=by
 unfold eT at h
 cases h1:(((p.length:Int)==1)&&decide ((p.getD 0 I0)=(E Z.bad)))
 ·rw [h1,cond_false,DX] at h
  cases hg:p.all gdI
  ·rw [hg] at h;cases h
  rw [hg] at h
  by_cases hl:(25:Int)<(p.length:Int)
  ·rw [decide_eq_true hl] at h;cases h
  rw [decide_eq_false hl] at h;refine .inr ⟨hg,?_,by omega⟩;rcases oM p with rfl|⟨m,x,rfl⟩
  ·rfl
  simp only [Bool.not_true,Bool.or_false,cond_false,Bool.or_eq_true] at h;rcases h with h|h
  ·simp at h;omega
  rw [show (m++[x]).length - 1=m.length by simp,show (m++[x]).getD m.length I0=x by simp,ZL] at h;rw [oN]
  have:zrI x=false:=by simpa using h
  rw [this];rfl
 rw [Bool.and_eq_true] at h1
 have hl:p.length=1:=by have:=h1.1;simp at this;omega
 obtain ⟨x,rfl⟩:∃ x,p=[x]:=List.length_eq_one_iff.1 hl;have hx:x=E Z.bad:=of_decide_eq_true h1.2;exact .inl (by rw [hx];rfl)
theorem CF {p:List I} {d b:Int} (h:dZ p d b=true):eT p=true∧(p.length:Int)≤d+1:=by
 unfold dZ at h
 cases h1:(!eT p)||decide (d+1<(p.length:Int))
 ·rw [Bool.or_eq_false_iff] at h1
  exact ⟨by simpa using h1.1,by have:=of_decide_eq_false h1.2;omega⟩
 rw [h1] at h;cases h
theorem eN_ {p:List I} {d b:Int} (h:(!dZ p d b)=false):Rgt p∧p.length≤25:=by
 have h1:=IM (CF (p:=p) (d:=d) (b:=b) (by simpa using h)).1;exact ⟨h1,EL h1⟩
theorem H9 (p:List I) (i:Int) (r f:List I) (x:I):∀ (k n:Nat) (t y:List I),gO p i r f x k n t = .inr y→y=badp
 | 0,n,t,y,h=>by cases h
 | k+1,n,t,y,h=>by
  unfold gO at h
  revert h
  cases decide ((n:Int)<((aL p (aE p)).length:Int))
  ·intro h;cases h
  simp only [cond_true];intro h;rw [Bool.cond_eq_ite] at h
  revert h
  split
  ·intro h;cases h;exact C5
  exact fun h=>H9 p i r f x k _ _ y h
theorem H8 (p:List I):∀ (k:Nat) (i:Int) (r f y:List I),eU p k i r f = .inr y→y=badp
 | 0,i,r,f,y,h=>by cases h
 | k+1,i,r,f,y,h=>by
  unfold eU at h
  revert h
  cases decide (0≤i)
  ·intro h;cases h
  simp only [cond_true];generalize hx:gO p i r f _ _ 0 r=X
  cases X with
  | inl s=>exact fun h=>H8 p k _ _ _ y h
  | inr z=>intro h;cases h;exact H9 p i r f _ _ _ _ _ hx
theorem u4 (p:List I):(aV p).length≤25:=by
 unfold aV;refine oP mX (oP (Nat.zero_le _) ?_);generalize hx:eU p _ _ _ _=X
 cases X with
 | inl s=>exact oP (lO _) (pD _ _ _)
 | inr z=>rw [show z=badp from H8 p _ _ _ _ _ hx];exact mX
theorem VH (l:List I):bE l=dC l:=by rw [pJ,BM]
theorem sgW (z:Z):-1≤(Z.signW z).1∧(Z.signW z).1≤1:=by
 show -1≤z.sign∧z.sign≤1
 unfold Z.sign
 cases z.o with
 | none=>exact ⟨by decide,by decide⟩
 | some v =>
  show -1≤v.sign∧v.sign≤1
  rcases Int.lt_trichotomy v 0 with h|h|h
  ·rw [Int.sign_eq_neg_one_of_neg h];decide
  ·subst h;decide
  rw [Int.sign_eq_one_of_pos h];decide
def pw (d:I):Nat→I
 | 0=>E (Z.of 1)
 | k+1=>E (Z.mul (pw d k).dec d.dec)
theorem QQ (n:Nat) (f:Nat→I):(List.range (n+1)).map f=(List.range n).map f++[f n]:=by rw [List.range_succ,List.map_append];rfl
theorem IJ (d:I) (n:Int):∀ (k m:Nat),n.toNat - (m+1)<k→gV d n k ((List.range (m+1)).map (pw d))=(List.range (max n.toNat (m+1))).map (pw d)
 | 0,m,h=>absurd h (Nat.not_lt_zero _)
 | k+1,m,h=>by
  unfold gV
  have hl:((List.range (m+1)).map (pw d)).length=m+1:=by simp
  by_cases hc:((m+1:Nat):Int)<n
  ·rw [hl,decide_eq_true hc,cond_true]
   have e1:((List.range (m+1)).map (pw d)).getD (m+1 - 1) I0=pw d m:=by simp [List.getD]
   rw [e1,show E (Z.mul (pw d m).dec d.dec)=pw d (m+1) from rfl,← QQ,IJ d n k (m+1) oo_];rw [show max n.toNat (m+1+1)=max n.toNat (m+1) by omega]
  rw [hl,decide_eq_false hc,cond_false,show max n.toNat (m+1)=m+1 by omega]
theorem UK (d:I) (n:Int):dH d n=(List.range (max n.toNat 1)).map (pw d):=IJ d n _ 0 oo_
theorem N7 (d:I) (k:Int):∀ (f i:Nat),k.toNat - i<f→i≤k.toNat→(fN d k f i (pw d i)).2=pw d k.toNat
 | 0,i,h,_=>absurd h (Nat.not_lt_zero _)
 | f+1,i,h,hi=>by
  unfold fN
  by_cases hc:(i:Int)<k
  ·rw [decide_eq_true hc,cond_true]
   exact N7 d k f (i+1) oo_ oo_
  rw [decide_eq_false hc,cond_false,show k.toNat=i by omega]
theorem VJ (d:I) (k:Int):gI d k=pw d k.toNat:=N7 d k _ 0 oo_ (Nat.zero_le _)
theorem tU (d:I) (n:Int) {k:Nat} (h:k<max n.toNat 1):(dH d n).getD k I0=pw d k:=by
 rw [UK];simp [List.getD,h]
theorem GZ (p:List I) (x:Rt):∀ (f:Nat) (i:Int) (m:I),i<(p.length:Int)→(fD p x f i m).2=(fO p x f i m).2
 | 0,i,m,h=>rfl
 | f+1,i,m,h=>by
  unfold fD fO
  by_cases hi:0≤i
  ·rw [decide_eq_true hi]
   simp only [cond_true];rw [tU _ _ (show p.length - 1 - i.toNat<max (p.length:Int).toNat 1 by omega),VJ,show ((p.length:Int) - 1 - i).toNat=p.length - 1 - i.toNat by omega];exact GZ p x f (i - 1) _ oo_
  rw [decide_eq_false hi];rfl
theorem RM (x:Rt):iV [x]=bX x:=by
 unfold iV nO nF
 have e:jR [x] (fun y=>jK y) ([x].length+1) 0=bif bX x then .inl 1 else .inr (W.cv 0):=by
  show (bif jK x then _ else _)=_
  unfold jK
  cases bX x<;>rfl
 rw [e]
 cases bX x<;>rfl
theorem fq_ (x:Rt):iZ x=bX x:=by
 unfold iZ bX
 show (bif (!gdI x.n||(!gdI x.d||_)) then _ else _)=(gdI x.n&&(gdI x.d&&_))
 cases gdI x.n
 ·rfl
 ·cases gdI x.d
  ·rfl
  by_cases h:(Z.signW x.d.dec).1≤0
  ·rw [decide_eq_true h,decide_eq_false (show ¬ 0<(Z.signW x.d.dec).1 by omega)];rfl
  rw [decide_eq_false h,decide_eq_true (show 0<(Z.signW x.d.dec).1 by omega)];simp only [Bool.not_true,Bool.or_self,cond_false,Bool.true_and];rfl
theorem TP {p:List I} (x:Rt) (hp:p.length≤1000):(gE p x).1=dR p x:=by
 unfold gE dR;rw [kP hp,DX,RM,fq_]
 cases (!p.all gdI || !bX x)
 ·simp only [cond_false,ap]
  exact GZ p x _ _ _ oo_
 rfl
def frE (g r:List I) (i:Nat) (c:Z) (j:Nat):I:=E (Z.sub (r.getD j I0).dec (Z.mul c (dX g ((j:Int) - (i:Int))).dec))
theorem KA (p:List I) (i:Int) (r f:List I) (x:I) {g:List I} (hg:aL p (aE p)=g) {n:Nat} (hi:i=(n:Int)):∀ (fu k:Nat) (t:List I),g.length - k<fu→k≤g.length→t.length=r.length→n+g.length≤r.length→(∀ j,n+k≤j→t.getD j I0=r.getD j I0) →
  (∃ t' k',gO p i r f x fu k t = .inl (k',t')∧t'.length=r.length∧(∀ j,t'.getD j I0=if n+k≤j∧j<n+g.length then frE g r n ((f.set i.toNat x).getD i.toNat I0).dec j else t.getD j I0)∧∀ j,n+k≤j→j<n+g.length→(frE g r n ((f.set i.toNat x).getD i.toNat I0).dec j).1.bad=false)
  ∨ (gO p i r f x fu k t = .inr badp∧∃ j,n+k≤j∧j<n+g.length∧(frE g r n ((f.set i.toNat x).getD i.toNat I0).dec j).1.bad=true)
 | 0,k,t,h,_,_,_,_=>absurd h (Nat.not_lt_zero _)
 | fu+1,k,t,h,hk,hl,hm,ht=>by
  unfold gO;rw [hg]
  have hn:i.toNat=n:=by omega
  generalize hc:((f.set i.toNat x).getD i.toNat I0).dec=c at *;rw [hn] at hc ⊢
  by_cases h1:k<g.length
  ·rw [decide_eq_true oo_,cond_true]
   have hv:E (Z.sub (t.getD (n+k) I0).dec (E (Z.mul c (g.getD k I0).dec)).dec)=frE g r n c (n+k):=by
    unfold frE;rw [ht (n+k) (Nat.le_refl _),cJ,show ((n+k:Nat):Int) - (n:Int)=(k:Int) by omega,B6]
   simp only;rw [hv,kE _ _ _ oo_]
   cases hb:(frE g r n c (n+k)).1.bad
   ·rw [cond_false]
    rcases KA p i r f x hg hi fu (k+1) (t.set (n+k) (frE g r n c (n+k))) oo_ oo_ (by rw [List.length_set];exact hl) hm (fun j hj=>by rw [oK _ _ _ _ oo_];exact ht j oo_) with ⟨t',k',e1,e2,e3,e4⟩|⟨e1,j,j1,j2,j3⟩
    ·rw [hn,hc] at e3 e4
     refine .inl ⟨t',k',e1,e2,fun j=>?_,fun j j1 j2=>?_⟩
     ·rw [e3 j]
      by_cases hj:j=n+k
      ·subst hj
       rw [if_neg oo_,if_pos oo_,kE _ _ _ oo_]
      rw [oK _ _ _ _ hj]
      by_cases hj2:n+(k+1)≤j∧j<n+g.length
      ·rw [if_pos hj2,if_pos oo_]
      rw [if_neg hj2,if_neg oo_]
     by_cases hj:j=n+k
     ·subst hj;exact hb
     exact e4 j oo_ j2
    rw [hn,hc] at j3;exact .inr ⟨e1,j,by omega,j2,j3⟩
   exact .inr ⟨rfl,n+k,Nat.le_refl _,by omega,hb⟩
  rw [decide_eq_false oo_,cond_false];exact .inl ⟨t,k,rfl,hl,fun j=>by rw [if_neg oo_],fun j j1 j2=>absurd j2 oo_⟩
end Go.Num
