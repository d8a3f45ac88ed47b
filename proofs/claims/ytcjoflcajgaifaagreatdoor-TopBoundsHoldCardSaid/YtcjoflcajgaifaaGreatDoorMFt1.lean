/- Lemmas: what they ask stands in their statements. -/
import Derived.Test.YtcjoflcajgaifaaGreatDoorMGE
set_option linter.unusedSimpArgs false
set_option linter.unusedVariables false
namespace Go.Num
open Go Go.Kn
def mM (a:Rt) (b:Rt):Bool :=
 (!a.n.1.bad&&(!b.n.1.bad&&decide ((e9 a b).1≤0)))
def aH (a:Rt) (b:Rt):Rt :=
 let r4:Rt:=(dQ (gU a b) (mK (wl 1) (wl 2)))
 r4
def cQ (p:(List I)):Nat→(List (List I))→(List I)→(List (List I)×List I) ⊕ ((List (List I))×Bool)
 | 0,out,next=>.inl (out,next)
 | k0+1,out,next=>bif decide (0<(next.length:Int)) then (bif (aP (aC (bP (aZ ((out++[next]).getD ((out++[next]).length - 2) []) ((out++[next]).getD ((out++[next]).length - 1) [])) (E (Z.of (-1)))))) then (.inr (([]:List (List I)),false)) else (cQ p k0 (out++[next]) (aC (bP (aZ ((out++[next]).getD ((out++[next]).length - 2) []) ((out++[next]).getD ((out++[next]).length - 1) [])) (E (Z.of (-1))))))) else (.inl (out,next))
def cW (p:(List I)) (out:List (List I)) (next:List I):List (List I)→(Unit) ⊕ ((List (List I))×Bool)
 | []=>.inl ()
 | x1::l1=>bif (aP x1) then (.inr (([]:List (List I)),false)) else (cW p out next l1)
def aV (p:(List I)):(List (List I))×Bool :=
 sm (fun (s_:List (List I)×List I)=>let out:List (List I):=s_.1
 let next:List I:=s_.2
 sm (fun (s:Unit)=>(out,true)) (fun r=>r) (cW p out next out)) (fun r=>r) (cQ p (gmP (aC (aD (aT p)))+1) [(aT p)] (aC (aD (aT p))))
def gJ :Rt :=
 let q0:I:=(E Z.bad)
 let q1:I:=iS
 (⟨q0,q1⟩:Rt)
def cJ (a:I) (b:I):Rt :=
 bif (!a.1.good||(!b.1.good||((Z.signW b.dec).1==0))) then gJ else (bif decide ((Z.signW b.dec).1<0) then (⟨(E (Z.quo a.dec (Z.neg (Z.gcd a.dec b.dec)))),(E (Z.quo b.dec (Z.neg (Z.gcd a.dec b.dec))))⟩:Rt) else (⟨(E (Z.quo a.dec (Z.gcd a.dec b.dec))),(E (Z.quo b.dec (Z.gcd a.dec b.dec)))⟩:Rt))
def pD (a:W):Rt :=
 let r2:Rt:=(cJ (E (Z.of a.1)) iS)
 r2
def nQ (a:W) (b:W):Rt :=
 let r2:Rt:=(cJ (E (Z.of a.1)) (E (Z.of b.1)))
 r2
def iR (a:Rt):Rt :=
 bif (bH a) then (⟨(E (Z.neg a.n.dec)),a.d⟩:Rt) else (gJ)
def fI (a:Rt) (b:Rt):Rt :=
 bif (!(bH a)||(!(bH b))) then gJ else (let r11:I:=(E (Z.add (Z.mul a.n.dec (Z.quo b.d.dec (Z.gcd a.d.dec b.d.dec))) (Z.mul b.n.dec (Z.quo a.d.dec (Z.gcd a.d.dec b.d.dec)))))
 let r12:Rt:=(cJ r11 (E (Z.mul (Z.quo a.d.dec (Z.gcd a.d.dec b.d.dec)) b.d.dec)))
 r12)
def gK (a:Rt) (b:Rt):Rt :=
 let r4:Rt:=(fI a (iR b))
 r4
def fR (a:Rt) (b:Rt):Rt :=
 bif (!(bH a)||(!(bH b))) then gJ else (let r10:I:=(E (Z.mul ((cJ a.n b.d).n).dec ((cJ b.n a.d).n).dec))
 let r12:I:=(E (Z.mul ((cJ a.n b.d).d).dec ((cJ b.n a.d).d).dec))
 (cJ r10 r12))
def QM (p:(List I)) (q:(List I)):(List I) :=
 (eB p q (fun (y:I) (z:I)=>(E (Z.sub y.dec z.dec))))
def kK (a:Rt) (b:Rt):Rt :=
 let r4:Rt:=(nQ (wl 1) (wl 2))
 let r5:Rt:=(fR (fI a b) r4)
 r5
def zrI (x:I):Bool:=(Z.signW x.dec).1==0
def jV (l:List I):List I:=(l.reverse.dropWhile zrI).reverse
def badp:List I:=[E Z.bad]
def mkP (l:List I):List I:=bif l.all gdI then (if (jV l).length≤25 then jV l else badp) else badp
theorem pG (l:List I) (x:I):jV (l++[x])=bif zrI x then jV l else l++[x]:=by
 unfold jV;rw [List.reverse_append]
 show (List.dropWhile zrI (x::l.reverse)).reverse=_
 rw [List.dropWhile_cons]
 cases zrI x
 ·show (x::l.reverse).reverse=_
  simp
 rfl
theorem wY (l:List I):jV l=l.take (jV l).length:=by
 have h:jV l <+: l:=by
  unfold jV;have:=List.dropWhile_suffix zrI (l:=l.reverse);have h2:=List.reverse_prefix.2 this
  rwa [List.reverse_reverse] at h2
 obtain ⟨r,hr⟩:=h;have h3:(jV l++r).take (jV l).length=jV l:=List.take_left;rw [hr] at h3;exact h3.symm
theorem wA (l:List I):(jV l).length≤l.length:=by
 rw [wY,List.length_take];omega
theorem bY_ (l:List I):(mkP l).length≤25:=by
 unfold mkP
 cases l.all gdI
 ·exact Nat.le_of_ble_eq_true O
 simp only [cond_true]
 split
 ·assumption
 exact Nat.le_of_ble_eq_true O
theorem n4 {α:Type} (l:List α):l=[] ∨ ∃ m x,l=m++[x]:=by
 rcases List.eq_nil_or_concat l with h|⟨m,x,h⟩
 ·exact .inl h
 exact .inr ⟨m,x,by rw [h];simp⟩
theorem DC:F_poly_bad=badp:=rfl
theorem NT (n:Int) (f:Nat→I) (o:I→I) (out:List I) (i:Nat):∀ (k:Nat) (cut:List I),cut.length<k→jC n f o out i k cut=jV cut
 | 0,cut,h=>absurd h (Nat.not_lt_zero _)
 | k+1,cut,h=>by
  unfold jC;rcases n4 cut with rfl|⟨m,x,rfl⟩
  ·rfl
  rw [pG];have e1:decide (0<((m++[x]).length:Int))=true:=decide_eq_true (by simp only [List.length_append,List.length_cons,List.length_nil];omega)
  have e2:(m++[x]).length - 1=m.length:=by simp
  rw [e1,e2]
  have e3:(m++[x]).getD m.length I0=x:=by simp
  have e4:(m++[x]).take m.length=m:=by simp
  rw [e3,e4,Bool.true_and]
  show (bif zrI x then _ else _)=_
  rw [NT n f o out i k m (by simp only [List.length_append,List.length_cons,List.length_nil] at h;omega)]
theorem PB (i m:Nat):List.range' i (m+1)=i::List.range' (i+1) m:=rfl
theorem DE (n:Int) (f:Nat→I) (o:I→I):∀ (k:Nat) (out:List I) (i:Nat),n.toNat - i<k →
  jB n f o k out i=bif ((List.range' i (n.toNat - i)).map fun j=>o (f j)).all gdI then .inl (out++(List.range' i (n.toNat - i)).map fun j=>o (f j),i+(n.toNat - i)) else .inr badp
 | 0,out,i,h=>absurd h (Nat.not_lt_zero _)
 | k+1,out,i,h=>by
  unfold jB
  by_cases hi:i<n.toNat
  ·rw [decide_eq_true oo_,cond_true]
   obtain ⟨m,hm⟩:∃ m,n.toNat - i=m+1:=⟨n.toNat - i - 1,by omega⟩
   have hm':n.toNat - (i+1)=m:=by omega
   rw [hm,PB,List.map_cons,List.all_cons,DE n f o k _ _ oo_,hm']
   show (bif gdI (o (f i)) then _ else _)=_
   cases gdI (o (f i))
   ·rfl
   simp only [cond_true,Bool.true_and,List.append_assoc,List.cons_append,List.nil_append];rw [show i+1+m=i+(m+1) by omega]
  rw [decide_eq_false oo_,cond_false,show n.toNat - i=0 by omega]
  simp
theorem oT (n:Int) (f:Nat→I) (o:I→I):fK n f o=mkP ((List.range n.toNat).map fun j=>o (f j)):=by
 unfold fK mkP;rw [DE n f o _ _ _ oo_,Nat.sub_zero,← List.range_eq_range']
 cases ((List.range n.toNat).map fun j=>o (f j)).all gdI
 ·rfl
 simp only [cond_true,sm,ap,List.nil_append];rw [NT _ _ _ _ _ _ _ (Nat.lt_succ_self _)]
 by_cases h:(jV ((List.range n.toNat).map fun j=>o (f j))).length≤25
 ·rw [if_pos h,decide_eq_false oo_,cond_false]
 rw [if_neg h,decide_eq_true oo_,cond_true];rfl
theorem e2_ (x:I):((Z.signW x.dec).1 != 0) = !zrI x:=rfl
theorem FH (l:List I) {i:Nat} (h:i<l.length):l.drop i=l.getD i I0::l.drop (i+1):=by
 rw [List.drop_eq_getElem_cons h]
 simp [List.getD,List.getElem?_eq_getElem h]
theorem pX {c:Bool} {x y:List I} (h:x.length≤25) (k:y.length≤25):(bif c then x else y).length≤25:=by cases c<;>assumption
theorem mV:badp.length≤25:=Nat.le_of_ble_eq_true O
theorem zB (n:Int) (f:Nat→I) (o:I→I):(fK n f o).length≤25:=by rw [oT];exact bY_ _
theorem kS (l:List I):(bG l).length≤25:=zB _ _ _
theorem o2 (p q:List I) (f:I→I→I):(eB p q f).length≤25:=pX mV (zB _ _ _)
theorem wO (p q:List I):(kF p q).length≤25:=o2 _ _ _
theorem BP (p q:List I):(fV p q).length≤25:=pX mV (pX (Nat.zero_le _) (zB _ _ _))
theorem tQ (p:List I) (n:I):(bP p n).length≤25:=pX (o2 _ _ _) mV
theorem mY (p:List I):(aD p).length≤25:=pX mV (zB _ _ _)
theorem cG (p:List I):(aC p).length≤25:=o2 _ _ _
theorem e5_ {σ:Type} {f:σ→List I} {x:σ ⊕ List I} (h:∀ s,(f s).length≤25) (k:∀ r,x = .inr r→r=badp):(sm f (fun r=>r) x).length≤25:=by
 cases x with
 | inl s=>exact h s
 | inr r=>show r.length≤25;rw [k r O];exact mV
theorem DS (d:I) (n:Int):∀ (k:Nat) (out:List I),n.toNat - out.length<k→1≤out.length→(gH d n k out).length=max n.toNat out.length
 | 0,out,h,_=>absurd h (Nat.not_lt_zero _)
 | k+1,out,h,h1=>by
  unfold gH
  by_cases hc:(out.length:Int)<n
  ·rw [decide_eq_true hc,cond_true,DS d n k _ (by simp only [List.length_append,List.length_cons,List.length_nil];omega) (by simp)]
   simp only [List.length_append,List.length_cons,List.length_nil];omega
  rw [decide_eq_false hc,cond_false];omega
theorem xH (d:I) (n:Int):(dE d n).length=max n.toNat 1:=DS d n _ _ (by simp only [List.length_cons,List.length_nil];omega) (by simp)
theorem w8 (n i j:Int) (m:I):∀ (t:Nat) (out:List I) (k:Nat) (w:I),(i+1).toNat - k<t→out.length=k→k≤(i+1).toNat→(gT n i j m t out k w).1.length=(i+1).toNat
 | 0,out,k,w,h,_,_=>absurd h (Nat.not_lt_zero _)
 | t+1,out,k,w,h,h1,h2=>by
  unfold gT
  by_cases hc:(k:Int)<i+1
  ·rw [decide_eq_true hc,cond_true]
   have hl:(out++[w]).length=k+1:=by simp [h1]
   cases decide ((k:Int)<n)
   ·exact w8 n i j m t _ _ _ oo_ hl oo_
   exact w8 n i j m t _ _ _ oo_ hl oo_
  rw [decide_eq_false hc,cond_false]
  show out.length=_
  omega
theorem CU (n i:Int):(dL n i).length=(i+1).toNat:=w8 n i _ _ _ _ _ _ oo_ O (Nat.zero_le _)
theorem Z.cases (z:Z):z=Z.bad ∨ ∃ v:Int,v.natAbs<4294967296 ^ 16∧z=Z.of v∧z.o=some v:=by
 cases h:z.o with
 | none=>exact .inl (Z.eq_bad h)
 | some v=>exact .inr ⟨v,z.h v h,Z.eq_of h,rfl⟩
theorem Z.zero_add (z:Z):Z.add (Z.of 0) z=z:=by
 rcases Z.cases z with rfl|⟨v,_,rfl,hv⟩
 ·rfl
 rw [Z.add,eM (Z.of_some dd_) hv,Int.zero_add]
theorem W.ext {a b:W} (h:a.1=b.1):a=b:=Subtype.ext h
theorem sign0 (z:Z):((Z.signW z).1==0)=decide (z.sign=0):=by
 show (z.sign==0)=_
 rfl
structure PrimOk (a:A3 I) (p:A3 W) (x y z g:Int):Prop where
 ax:a.x.dec.o=some x
 ay:a.y.dec.o=some y
 az:a.z.dec.o=some z
 gd:g=((Int.gcd (Int.gcd (Int.gcd 0 x:Nat) y:Nat) z:Nat):Int)
 g0:0<g
 px:g*p.x.1=x
 py:g*p.y.1=y
 pz:g*p.z.1=z
 bx:-2305843009213693952<p.x.1∧p.x.1<2305843009213693952
 bY:-2305843009213693952<p.y.1∧p.y.1<2305843009213693952
 bz:-2305843009213693952<p.z.1∧p.z.1<2305843009213693952
theorem FM {x g:Int} (h:g ∣ x):g*x.fdiv g=x:=Int.mul_fdiv_cancel' h
def Z.Is (z:Z) (v:Int):Prop:=z.o=none∨z.o=some v
theorem TK (v:Int):(Z.of v).Is v:=by unfold Z.Is;rw [Z.of_o];split<;>simp
theorem OK {f:Int→Int→Int} {a b:Z} {x y:Int} (ha:a.Is x) (hb:b.Is y):(yI (fun x y=>Z.of (f x y)) a b).Is (f x y):=by
 rcases ha with ha|ha
 ·left;rw [jQ (.inl ha)];rfl
 rcases hb with hb|hb
 ·left;rw [jQ (.inr hb)];rfl
 rw [eM ha hb];exact TK _
theorem em_ {a b:Z} {x y:Int} (ha:a.Is x) (hb:b.Is y):(Z.add a b).Is (x+y):=OK ha hb
theorem FV {a b:Z} {x y:Int} (ha:a.Is x) (hb:b.Is y):(Z.mul a b).Is (x*y):=OK ha hb
theorem en_ {a:Z} {x:Int} (ha:a.Is x):(Z.neg a).Is (-x):=by
 rcases ha with ha|ha
 ·left;rw [Z.neg,rH ha];rfl
 rw [Z.neg,kI ha];exact TK _
theorem Y6 {a b:Z} {x y:Int} (ha:a.Is x) (hb:b.Is y):(Z.sub a b).Is (x - y):=by
 rw [Int.sub_eq_add_neg];exact em_ ha (en_ hb)
theorem Z.Is.sign {z:Z} {v:Int} (h:z.Is v):z.o=none∨z.sign=v.sign:=by
 rcases h with h|h
 ·exact .inl h
 right;unfold Z.sign;rw [h]
theorem Z.Is.sign0 {z:Z} (h:z.Is 0):z.sign=0:=by
 unfold Z.sign;rcases h with h|h<;>rw [h]<;>rfl
structure Fit (z:Z) (v:Int) (k:Nat):Prop where
 eq:z=Z.of v
 lt:v.natAbs<2 ^ k
theorem hp_ {k:Nat} (hk:k≤511) {n:Nat} (h:n<2 ^ k):n<4294967296 ^ 16:=by
 have e:(2:Nat) ^ (32*16)=(2 ^ 32) ^ 16:=Nat.pow_mul 2 32 16;exact Nat.lt_of_lt_of_le h (Nat.le_trans (Nat.pow_le_pow_right dd_ (show k≤32*16 by omega)) (Nat.le_of_eq e))
theorem Fit.o {z:Z} {v:Int} {k:Nat} (h:Fit z v k) (hk:k≤511):z.o=some v:=by rw [h.eq];exact Z.of_some (hp_ hk h.lt)
theorem Fit.mono {z:Z} {v:Int} {k k':Nat} (h:Fit z v k) (hk:k≤k'):Fit z v k':=⟨h.eq,Nat.lt_of_lt_of_le h.lt (Nat.pow_le_pow_right dd_ hk)⟩
theorem Fit.mul {a b:Z} {x y:Int} {k l:Nat} (ha:Fit a x k) (hb:Fit b y l) (hk:k≤511∧l≤511):Fit (Z.mul a b) (x*y) (k+l) :=
 ⟨by rw [Z.mul,eM (ha.o hk.1) (hb.o hk.2)],by rw [Int.natAbs_mul,Nat.pow_add];exact Nat.mul_lt_mul_of_lt_of_lt ha.lt hb.lt⟩
theorem Fit.add {a b:Z} {x y:Int} {k l:Nat} (ha:Fit a x k) (hb:Fit b y l) (hk:k≤511∧l≤511):Fit (Z.add a b) (x+y) (max k l+1):=by
 refine ⟨by rw [Z.add,eM (ha.o hk.1) (hb.o hk.2)],?_⟩;have h1:=(ha.mono (Nat.le_max_left k l)).lt;have h2:=(hb.mono (Nat.le_max_right k l)).lt;rw [Nat.pow_succ];omega
theorem Fit.neg {a:Z} {x:Int} {k:Nat} (ha:Fit a x k) (hk:k≤511):Fit (Z.neg a) (-x) k:=⟨by rw [Z.neg,kI (ha.o hk)],by rw [Int.natAbs_neg];exact ha.lt⟩
theorem Fit.sub {a b:Z} {x y:Int} {k l:Nat} (ha:Fit a x k) (hb:Fit b y l) (hk:k≤511∧l≤511):Fit (Z.sub a b) (x - y) (max k l+1):=by
 rw [Int.sub_eq_add_neg];exact ha.add (hb.neg hk.2) hk
theorem Fit.sign {z:Z} {v:Int} {k:Nat} (h:Fit z v k) (hk:k≤511):z.sign=v.sign:=by unfold Z.sign;rw [h.o hk]
theorem FU (l:List I) (f:I→Bool):∀ (k i:Nat),l.length - i<k→(∃ j:Nat,j<l.length∧iU l f k i = .inr (W.cv (j:Int))∧(l.drop i).any f=true)∨(∃ j,iU l f k i = .inl j∧(l.drop i).any f=false)
 | 0,i,h=>absurd h (Nat.not_lt_zero _)
 | k+1,i,h=>by
  unfold iU
  by_cases hi:i<l.length
  ·rw [decide_eq_true oo_,cond_true,FH l hi,List.any_cons]
   cases hf:f (l.getD i I0)
   ·simp only [cond_false,Bool.false_or]
    exact FU l f k (i+1) oo_
   exact .inl ⟨i,hi,rfl,rfl⟩
  rw [decide_eq_false oo_,cond_false,List.drop_of_length_le oo_];exact .inr ⟨i,rfl,rfl⟩
theorem NR (l:List I) (f:I→Bool) (hl:l.length≤1000):nJ l f=l.any f:=by
 unfold nJ pJ;rcases FU l f (l.length+1) 0 oo_ with ⟨j,hj,h1,h2⟩|⟨j,h1,h2⟩
 ·rw [h1]
  show decide (0≤(W.cv (j:Int)).1)=_
  rw [cvE oo_,decide_eq_true oo_];rw [List.drop_zero] at h2;exact h2.symm
 rw [h1];rw [List.drop_zero] at h2;rw [h2];rfl
theorem bi_ (l:List I):(l.any fun y=>!gdI y) = !l.all gdI:=by
 induction l with
 | nil=>rfl
 | cons x l ih =>
  rw [List.any_cons,List.all_cons,ih]
  cases gdI x<;>rfl
theorem lY {p:List I} (h:p.length≤1000):aP p = !p.all gdI:=by
 unfold aP;rw [NR _ _ h];exact bi_ p
theorem FW (p:List I):∀ (k i:Nat),p.length - i<k→(∃ j,eT p k i = .inl j∧(p.drop i).all gdI=true)∨(eT p k i = .inr true∧(p.drop i).all gdI=false)
 | 0,i,h=>absurd h (Nat.not_lt_zero _)
 | k+1,i,h=>by
  unfold eT
  by_cases hi:i<p.length
  ·rw [decide_eq_true oo_,cond_true,FH p hi,List.all_cons]
   show (∃ j,(bif gdI (p.getD i I0) then _ else _)=_∧_)∨((bif gdI (p.getD i I0) then _ else _)=_∧_)
   cases gdI (p.getD i I0)
   ·exact .inr ⟨rfl,rfl⟩
   simp only [cond_true,Bool.true_and];exact FW p k (i+1) oo_
  rw [decide_eq_false oo_,cond_false,List.drop_of_length_le oo_];exact .inl ⟨i,rfl,rfl⟩
theorem a6_ (p:List I):gG p = !p.all gdI:=by
 unfold gG;rcases FW p (p.length+1) 0 oo_ with ⟨j,h1,h2⟩|⟨h1,h2⟩
 ·rw [h1];rw [List.drop_zero] at h2;rw [h2];rfl
 rw [h1];rw [List.drop_zero] at h2;rw [h2];rfl
theorem lO {l:List I} {k:Nat} (h:l.length≤k):l.getD k I0=I0:=by simp [List.getD,List.getElem?_eq_none h]
theorem AB (p:List I) (k:Nat):dR p (k:Int)=p.getD k I0:=by
 unfold dR;rw [decide_eq_false oo_,Bool.false_or,Int.toNat_natCast]
 by_cases h:p.length≤k
 ·rw [decide_eq_true oo_,cond_true,lO h]
 rw [decide_eq_false oo_,cond_false]
theorem rP {p q:List I} (f:I→I→I) (hp:p.length≤1000) (hq:q.length≤1000):eB p q f=bif (p.all gdI&&q.all gdI) then mkP ((List.range (max p.length q.length)).map fun k=>f (p.getD k I0) (q.getD k I0)) else badp:=by
 unfold eB;rw [lY hp,lY hq,oT,Int.toNat_natCast]
 have e:((List.range (max p.length q.length)).map fun j=>fL (m9 j f p q))=(List.range (max p.length q.length)).map fun k=>f (p.getD k I0) (q.getD k I0):=List.map_congr_left fun k _=>by
  show f (dR p (k:Int)) (dR q (k:Int))=_
  rw [AB,AB]
 rw [e]
 cases p.all gdI<;>cases q.all gdI<;>rfl
theorem nZ (t:List I) (k j:Nat) (x:I) (h:j≠k):(t.set k x).getD j I0=t.getD j I0:=by
 simp [List.getD,List.getElem?_set_ne (Ne.symm h)]
theorem jU (t:List I) (k:Nat) (x:I) (h:k<t.length):(t.set k x).getD k I0=x:=by
 simp [List.getD,List.getElem?_set_self h]
theorem gR_ {x:I} (h:x.dec.Is 0):zrI x=true:=by
 unfold zrI;have:=h.sign0
 show (x.dec.sign==0)=true
 rw [this];rfl
theorem c7_ {x:I} (h:zrI x=true):x.dec.Is 0:=by
 have h1:x.dec.sign=0:=by unfold zrI at h;exact (by simpa using h:(Z.signW x.dec).1=0)
 cases ho:x.dec.o with
 | none=>exact .inl ho
 | some v =>
  unfold Z.sign at h1;rw [ho] at h1;have:v=0:=Int.sign_eq_zero_iff_zero.1 h1;rw [this] at ho;exact .inr ho
theorem zr0:zrI I0=true:=by decide +kernel
theorem RB (z:Z):∃ v:Int,z.Is v:=by
 cases h:z.o with
 | none=>exact ⟨0,.inl h⟩
 | some v=>exact ⟨v,.inr h⟩
theorem Y5 {z:Z} {v:Int} (h:z.Is v):(Z.abs z).Is (v.natAbs:Int):=by
 rcases h with h|h
 ·left;rw [Z.abs,rH h];rfl
 rw [Z.abs,kI h];exact TK _
def W4 (n:Nat) (r:List I):Prop:=∀ j:Nat,n≤j→zrI (r.getD j I0)=true
theorem yX {n:Nat}:∀ (m:Nat) (r:List I),r.length≤m→W4 n r→(jV r).length≤n
 | 0,r,h,_=>by
  have:r=[]:=List.eq_nil_of_length_eq_zero oo_;rw [this];exact Nat.zero_le _
 | m+1,r,h,hz=>by
  by_cases hn:r.length≤n
  ·exact Nat.le_trans (wA r) hn
  rcases n4 r with rfl|⟨s,x,rfl⟩
  ·exact Nat.zero_le _
  simp only [List.length_append,List.length_cons,List.length_nil] at hn h;have hx:=hz s.length oo_;rw [show (s++[x]).getD s.length I0=x by simp] at hx;rw [pG,hx,cond_true];refine yX m s oo_ (fun j hj=>?_)
  by_cases hjs:j<s.length
  ·have:=hz j hj
   rwa [show (s++[x]).getD j I0=s.getD j I0 by simp [List.getD,List.getElem?_append_left hjs]] at this
  rw [lO oo_];exact zr0
theorem VQ {n:Nat} {r:List I} (h:W4 n r):mkP r=badp∨(mkP r).length≤n:=by
 unfold mkP
 cases r.all gdI
 ·exact .inl O
 simp only [cond_true]
 split
 ·exact .inr (yX _ r (Nat.le_refl _) h)
 exact .inl O
def H7 (q:List I) (i:Int) (c:I) (k:Nat) (x:I):I:=E (Z.sub (Z.mul (Z.abs (q.getD (q.length - 1) I0).dec) x.dec) (Z.mul c.dec (dR q ((k:Int) - i)).dec))
theorem ak_ (q:List I) (i:Int) (c:I) (k:Nat) (x:I):(H7 q i c k x).dec=Z.sub (Z.mul (Z.abs (q.getD (q.length - 1) I0).dec) x.dec) (Z.mul c.dec (dR q ((k:Int) - i)).dec):=by
 unfold H7;rw [bR]
theorem C1 (p q r:List I) (i:Int) (c:I):∀ (f k:Nat) (t:List I),r.length - k<f→t.length=r.length →
  (∃ t' k',eW p q i r c f k t = .inl (k',t')∧t'.length=r.length∧∀ j,t'.getD j I0=if k≤j∧j<r.length then H7 q i c j (t.getD j I0) else t.getD j I0)∨eW p q i r c f k t = .inr badp
 | 0,k,t,h,_=>absurd h (Nat.not_lt_zero _)
 | f+1,k,t,h,hl=>by
  unfold eW
  by_cases hk:k<r.length
  ·rw [decide_eq_true oo_,cond_true]
   show (∃ t' k',(bif ((t.set k (H7 q i c k (t.getD k I0))).getD k I0).1.bad then _ else eW p q i r c f (k+1) (t.set k (H7 q i c k (t.getD k I0))))=_∧_)∨(bif ((t.set k (H7 q i c k (t.getD k I0))).getD k I0).1.bad then _ else eW p q i r c f (k+1) (t.set k (H7 q i c k (t.getD k I0))))=_
   cases ((t.set k (H7 q i c k (t.getD k I0))).getD k I0).1.bad
   ·simp only [cond_false]
    rcases C1 p q r i c f (k+1) (t.set k (H7 q i c k (t.getD k I0))) oo_ (by rw [List.length_set];exact hl) with ⟨t',k',h1,h2,h3⟩|h1
    ·refine .inl ⟨t',k',h1,h2,fun j=>?_⟩
     rw [h3 j]
     by_cases hj:j=k
     ·subst hj
      rw [if_neg oo_,if_pos oo_,jU _ _ _ oo_]
     rw [nZ _ _ _ _ hj]
     by_cases hj2:k+1≤j∧j<r.length
     ·rw [if_pos hj2,if_pos oo_]
     rw [if_neg hj2,if_neg oo_]
    exact .inr h1
   exact .inr O
  rw [decide_eq_false oo_,cond_false];exact .inl ⟨t,k,rfl,hl,fun j=>by rw [if_neg oo_]⟩
theorem V3 {q r t:List I} {i n:Nat} {c:I} (hn:q.length=n+1) (hc:c.dec=Z.mul (Z.of (Z.signW (q.getD n I0).dec).1) (r.getD (i+n) I0).dec) (hz:∀ j,i+n<j→zrI (r.getD j I0)=true)
  (ht:∀ j,t.getD j I0=if 0≤j∧j<r.length then H7 q i c j (r.getD j I0) else r.getD j I0) (j:Nat) (hj:i+n≤j):zrI (t.getD j I0)=true:=by
 rw [ht j]
 by_cases hlt:j<r.length
 ·rw [if_pos ⟨Nat.zero_le _,hlt⟩]
  refine gR_ ?_;rw [ak_,hn,Nat.add_sub_cancel];obtain ⟨a,ha⟩:=RB (q.getD n I0).dec
  by_cases he:j=i+n
  ·subst he
   have e1:dR q (((i+n:Nat):Int) - (i:Int))=q.getD n I0:=by
    rw [show (((i+n:Nat):Int) - (i:Int))=(n:Int) by omega,AB]
   rw [e1,hc];obtain ⟨v,hv⟩:=RB (r.getD (i+n) I0).dec
   have hs:(Z.of (Z.signW (q.getD n I0).dec).1).Is (a.sign)∨(q.getD n I0).dec.o=none:=by
    rcases ha with h|h
    ·exact .inr h
    left
    have:(Z.signW (q.getD n I0).dec).1=a.sign:=by show (q.getD n I0).dec.sign=_;unfold Z.sign;rw [h]
    rw [this];exact TK _
   rcases hs with hs|hs
   ·have h1:=Y6 (FV (Y5 ha) hv) (FV (FV hs hv) ha)
    have e2:(a.natAbs:Int)*v - a.sign*v*a=0:=by
     have h3:a.sign*a=(a.natAbs:Int):=by rcases Int.lt_trichotomy a 0 with h|h|h<;>first|(rw [Int.sign_eq_neg_one_of_neg h];omega)|(rw [Int.sign_eq_one_of_pos h];omega)|(subst h;rfl)
     have h4:a.sign*v*a=(a.sign*a)*v:=by rw [Int.mul_assoc,Int.mul_comm v a,Int.mul_assoc]
     rw [h4,h3];omega
    rw [e2] at h1;exact h1
   left
   have hb:∀ z:Z,(Z.mul z (q.getD n I0).dec).o=none:=fun z=>by rw [Z.mul,jQ (.inr hs)];rfl
   have h2:=hb (Z.mul (Z.of (Z.signW (q.getD n I0).dec).1) (r.getD (i+n) I0).dec)
   have h3:(Z.neg (Z.mul (Z.mul (Z.of (Z.signW (q.getD n I0).dec).1) (r.getD (i+n) I0).dec) (q.getD n I0).dec)).o=none:=by rw [Z.neg,rH h2];rfl
   show (Z.add _ (Z.neg _)).o=none
   rw [Z.add,jQ (.inr h3)];rfl
  have hzj:=c7_ (hz j oo_)
  have e1:dR q ((j:Int) - (i:Int))=I0:=by
   unfold dR;rw [decide_eq_true (p:=(q.length:Int)≤(j:Int) - (i:Int)) oo_,Bool.or_true,cond_true]
  obtain ⟨w,hw⟩:=RB c.dec;rw [e1];have h1:=Y6 (FV (Y5 ha) hzj) (FV hw (c7_ zr0))
  simpa using h1
 rw [if_neg oo_,lO oo_];exact zr0
theorem PD (p q:List I) {n:Nat} (hn:q.length=n+1):∀ (f:Nat) (i:Int) (r:List I),(i+1).toNat<f→(∀ j:Nat,n≤j→i+n<(j:Int)→zrI (r.getD j I0)=true) →
  (∃ i' r',dD p q f i r = .inl (i',r')∧W4 n r')∨dD p q f i r = .inr badp
 | 0,i,r,h,_=>absurd h (Nat.not_lt_zero _)
 | f+1,i,r,h,hz=>by
  unfold dD
  by_cases hi:0≤i
  ·obtain ⟨m,rfl⟩:∃ m:Nat,i=(m:Int):=⟨i.toNat,by omega⟩
   rw [decide_eq_true hi,cond_true];simp only;rcases C1 p q r (m:Int) (E (Z.mul (Z.of (Z.signW (q.getD (q.length - 1) I0).dec).1) (r.getD ((m:Int).toNat+(q.length - 1)) I0).dec)) (r.length+1) 0 r oo_ O with ⟨t',k',h1,h2,h3⟩|h1
   ·rw [h1]
    refine PD p q hn f ((m:Int) - 1) t' oo_ (fun j hj1 hj2=>?_);refine V3 (i:=m) hn ?_ (fun j' hj'=>hz j' oo_ oo_) h3 j oo_;rw [bR,hn,Nat.add_sub_cancel,Int.toNat_natCast]
   rw [h1];exact .inr O
  rw [decide_eq_false hi,cond_false];exact .inl ⟨i,r,rfl,fun j hj=>hz j hj oo_⟩
theorem qK (l:List I):bG l=mkP l:=by
 unfold bG;rw [oT,Int.toNat_natCast]
 congr 1
 refine List.ext_getElem? fun k=>?_
 by_cases h:k<l.length
 ·simp [h,fL,m8]
 simp [h]
theorem C2 (p q:List I) (hq:0<q.length):aZ p q=badp∨(aZ p q).length<q.length:=by
 obtain ⟨n,hn⟩:∃ n,q.length=n+1:=⟨q.length - 1,by omega⟩;unfold aZ
 cases (aP p||(aP q||((q.length:Int)==0)))
 ·simp only [cond_false]
  rcases PD p q hn (p.length+1) ((p.length:Int) - 1 - ((q.length:Int) - 1)) ([]++p) oo_ (fun j hj1 hj2=>by rw [List.nil_append,lO oo_];exact zr0) with ⟨i',r',h1,h2⟩|h1
  ·rw [h1]
   show bG r'=badp∨(bG r').length<_
   rw [qK];rcases VQ h2 with h3|h3
   ·exact .inl h3
   exact .inr oo_
  rw [h1];exact .inl O
 exact .inl O
theorem cp_ (p q:List I):∀ (f:Nat) (i:Int) (r:List I) (y:List I),dD p q f i r = .inr y→y=badp:=by
 intro f
 induction f with
 | zero=>intro i r y hy;cases hy
 | succ f ih =>
  intro i r y hy;unfold dD at hy
  cases hd:decide (0≤i)
  ·rw [hd] at hy;cases hy
  rw [hd] at hy;simp only [cond_true] at hy;rcases C1 p q r i (E (Z.mul (Z.of (Z.signW (q.getD (q.length - 1) I0).dec).1) (r.getD (i.toNat+(q.length - 1)) I0).dec)) (r.length+1) 0 r oo_ O with ⟨t',k',h1,h2,h3⟩|h1
  ·rw [h1] at hy;exact ih _ _ _ hy
  rw [h1] at hy;exact (Sum.inr.inj hy).symm
theorem oH (p q:List I):(aZ p q).length≤25:=by
 unfold aZ;exact pX mV (e5_ (fun s=>kS _) (fun r h=>cp_ p q _ _ _ _ h))
theorem eE:badp.all gdI=false:=by decide +kernel
theorem F5 {l:List I} (h:(mkP l).all gdI=true):mkP l=jV l:=by
 unfold mkP at h ⊢
 cases hl:l.all gdI
 ·rw [hl] at h;rw [cond_false,eE] at h;cases h
 simp only [hl,cond_true] at h ⊢
 split
 ·rfl
 rename_i hs;rw [if_neg hs,eE] at h;cases h
theorem tS {p:List I} (hp:p.length≤1000) (h:(aC p).all gdI=true):p.all gdI=true∧(aC p).length≤p.length:=by
 unfold aC at h ⊢;rw [rP _ hp dd_] at h ⊢;simp only [List.length_nil,Nat.max_zero,List.all_nil,Bool.and_true] at h ⊢
 cases hg:p.all gdI
 ·rw [hg,cond_false,eE] at h;cases h
 rw [hg] at h;simp only [cond_true] at h ⊢;rw [F5 h];refine ⟨trivial,Nat.le_trans (wA _) ?_⟩
 simp
theorem EO {a b:List I} (hl:a.length≤25∧b.length≤25) (h:(aP a||aP b)=false) (h0:decide (0<(b.length:Int))=true):gmP (aC (aZ a b))<gmP b:=by
 have hb:=(Bool.or_eq_false_iff.1 h).2;rw [lY oo_] at hb
 have hbg:b.all gdI=true:=by simpa using hb
 have hpos:=of_decide_eq_true h0
 have e1:gmP b=2*b.length:=by unfold gmP;rw [hbg];rfl
 rw [e1];unfold gmP
 cases hg:(aC (aZ a b)).all gdI
 ·rw [cond_false];omega
 rw [cond_true];have h1:=oH a b;obtain ⟨h2,h3⟩:=tS oo_ hg;rcases C2 a b oo_ with h4|h4
 ·rw [h4,eE] at h2;cases h2
 omega
theorem yY (p:List I) (a b:Rt):∀ (k:Nat) (r:List I) (i:Int),r.length≤25→(eC p a b k r i).1.length≤25
 | 0,r,i,h=>h
 | k+1,r,i,h=>by
  unfold eC
  cases decide (0≤i)
  ·exact h
  exact yY p a b k _ _ (wO _ _)
theorem zX (p:List I) (a b:Rt):(dF p a b).length≤25:=pX mV (yY p a b _ _ _ (Nat.zero_le _))
theorem vU (p:List I) (a b:Rt):(cP p a b).length≤25:=cG _
theorem TB (p q:List I):∀ (k:Nat) (a b y:List I),cX p q k a b = .inr y→y=badp
 | 0,a,b,y,h=>by cases h
 | k+1,a,b,y,h=>by
  unfold cX at h
  cases h1:decide (0<(b.length:Int))
  ·rw [h1] at h;cases h
  rw [h1] at h
  cases h2:(aP a||aP b)
  ·rw [h2] at h;exact TB p q k _ _ _ h
  rw [h2] at h;exact (Sum.inr.inj h).symm
theorem TA (p q:List I):∀ (k:Nat) (a b:List I) (s:List I×List I),a.length≤25→b.length≤25→cX p q k a b = .inl s→s.1.length≤25
 | 0,a,b,s,ha,hb,h=>by cases h;exact ha
 | k+1,a,b,s,ha,hb,h=>by
  unfold cX at h
  cases h1:decide (0<(b.length:Int))
  ·rw [h1] at h;cases h;exact ha
  rw [h1] at h
  cases h2:(aP a||aP b)
  ·rw [h2] at h;exact TA p q k _ _ _ hb (cG _) h
  rw [h2] at h;cases h
theorem BO (p q:List I):(aN p q).length≤25:=by
 unfold aN
 cases h:cX p q (gmP (aC q)+1) (aC p) (aC q) with
 | inl s=>exact pX (TA p q _ _ _ s (cG _) (cG _) h) (o2 _ _ _)
 | inr y=>rw [TB p q _ _ _ _ h];exact mV
abbrev cM (v:Int):Prop:=v.natAbs<4294967296 ^ 16
theorem VB {x:I} (h:x.1.good=true):E x.dec=x:=Subtype.ext (bE_ x.2 h)
theorem Q8 {x:I} (h:x.1.good=true):∃ v:Int,cM v∧x=E (Z.of v):=by
 have h1:=dU x.2 h;refine ⟨_,x.dec.h _ h1,?_⟩;rw [← Z.eq_of h1];exact (VB h).symm
theorem yF {v:Int} (h:cM v):(E (Z.of v)).1.good=true:=by
 show (Z.of v).enc.good=true
 rw [Z.enc_good,Z.of_some h];rfl
theorem E7 {v:Int} (h:cM v):(E (Z.of v)).1.bad=false:=by
 have:=yF h;unfold R.good at this;simp only [Bool.and_eq_true,Bool.not_eq_true'] at this;exact this.1
theorem dW_:(E Z.bad).1.bad=true:=rfl
theorem OH:(E Z.bad).1.good=false:=rfl
theorem cy_ {v:Int} (h:cM v):(Z.of v).sign=v.sign:=by unfold Z.sign;rw [Z.of_some h]
theorem iQ {v:Int} (h:cM v):(Z.signW (Z.of v)).1=v.sign:=cy_ h
theorem AH {u v:Int} (hu:cM u) (hv:cM v):Z.gcd (Z.of u) (Z.of v)=Z.of (Int.gcd u v):=by rw [Z.gcd,eM (Z.of_some hu) (Z.of_some hv)]
theorem C0 {u v:Int} (hu:cM u) (hv:cM v) (h:v≠0):Z.quo (Z.of u) (Z.of v)=Z.of (u.fdiv v):=by rw [Z.quo,eM (Z.of_some hu) (Z.of_some hv),if_neg h]
theorem kY {u v:Int} (hu:cM u) (hv:cM v):Z.mul (Z.of u) (Z.of v)=Z.of (u*v):=by rw [Z.mul,eM (Z.of_some hu) (Z.of_some hv)]
theorem z9 {u v:Int} (hu:cM u) (hv:cM v):Z.add (Z.of u) (Z.of v)=Z.of (u+v):=by rw [Z.add,eM (Z.of_some hu) (Z.of_some hv)]
theorem RO {u:Int} (hu:cM u):Z.neg (Z.of u)=Z.of (-u):=by rw [Z.neg,kI (Z.of_some hu)]
theorem ZU {v:Int} (h:¬ cM v):Z.of v=Z.bad:=by unfold Z.of;rw [dif_neg h]
theorem B1:cM 1:=by decide
theorem B0:cM 0:=by decide
theorem OD {u v:Int} (hv:cM v) (h:v≠0):cM (Int.gcd u v:Nat):=by
 have:Int.gcd u v≤v.natAbs:=Nat.le_of_dvd oo_ (Int.gcd_dvd_natAbs_right u v)
 show ((Int.gcd u v:Nat):Int).natAbs<_
 rw [Int.natAbs_natCast];exact Nat.lt_of_le_of_lt this hv
theorem RS {u v:Int} (hu:cM u) (hv:cM v) (h:Z.of u=Z.of v):u=v:=by
 have:=congrArg Z.o h;rw [Z.of_some hu,Z.of_some hv] at this;exact Option.some.inj this
structure Rt.Is (a:Rt) (n d:Int):Prop where
 en:a.n=E (Z.of n)
 ed:a.d=E (Z.of d)
 hn:cM n
 hd:cM d
 pos:0<d
 cop:Int.gcd n d=1
theorem Rt.ext {a b:Rt} (h:a.n=b.n) (k:a.d=b.d):a=b:=by cases a;cases b;simp_all
theorem eE_:iS=E (Z.of 1):=rfl
theorem f9_:F_ratio_one=E (Z.of 1):=rfl
theorem QE:F_ratio_Bad=gJ:=rfl
theorem YT (a:I):i6 a=a.1.good:=rfl
theorem hJ (a:Rt):bD a=bH a:=by
 unfold bD bH;rw [YT,YT,eE_,f9_]
 cases a.n.1.good<;>cases a.d.1.good<;>rfl
theorem EE (a b:I):cE a b=cJ a b:=rfl
theorem fv_ (a:W):mL a=pD a:=rfl
theorem dL_ (a:Rt):mG a=iR a:=by unfold mG iR;rw [hJ,QE]
theorem EZ (a b:Rt):gU a b=fI a b:=by unfold gU fI;rw [hJ,hJ,QE];rfl
theorem QQ (a b:Rt):fA a b=gK a b:=by unfold fA gK;rw [dL_,EZ]
theorem fq_ {a:Rt}:bH a=true ↔ ∃ n d,Rt.Is a n d:=by
 unfold bH
 constructor
 ·intro h
  cases gn:a.n.1.good<;>cases gd:a.d.1.good<;>simp only [gn,gd,Bool.not_true,Bool.not_false,Bool.or_true,Bool.true_or,Bool.or_false,cond_true,cond_false,Bool.false_eq_true] at h
  obtain ⟨n,hn,en⟩:=Q8 gn;obtain ⟨d,hd,ed⟩:=Q8 gd;rw [en,ed] at h;simp only [bR,Bool.and_eq_true,decide_eq_true_eq,iQ hd] at h;obtain ⟨h1,h2⟩:=h;have hp:0<d:=Int.sign_pos_iff.1 h1;rw [AH hn hd,eE_] at h2;have h3:=RS (OD hd oo_) B1 (SF h2);exact ⟨n,d,en,ed,hn,hd,hp,by exact_mod_cast h3⟩
 rintro ⟨n,d,h⟩;rw [h.en,h.ed,yF h.hn,yF h.hd];simp only [Bool.not_true,Bool.or_false,cond_false,bR,Bool.and_eq_true,decide_eq_true_eq,iQ h.hd];refine ⟨Int.sign_pos_iff.2 h.pos,?_⟩;rw [AH h.hn h.hd,h.cop];rfl
theorem IW (v:Int):v.fdiv 1=v:=by rw [Int.fdiv_eq_ediv_of_nonneg _ dd_];exact Int.ediv_one v
theorem bW_ {n d:Int} (hn:cM n) (hd:cM d) (hp:0<d) (hc:Int.gcd n d=1):cJ (E (Z.of n)) (E (Z.of d))=⟨E (Z.of n),E (Z.of d)⟩:=by
 unfold cJ
 have h1:((Z.signW (E (Z.of d)).dec).1==0)=false:=by rw [bR,iQ hd,Int.sign_eq_one_of_pos hp];rfl
 have h2:decide ((Z.signW (E (Z.of d)).dec).1<0)=false:=by rw [bR,iQ hd,Int.sign_eq_one_of_pos hp];rfl
 rw [yF hn,yF hd,h1,h2,bR,bR,AH hn hd,hc];simp only [Bool.not_true,Bool.or_false,cond_false];rw [show ((1:Nat):Int)=1 from rfl,C0 hn B1 dd_,C0 hd B1 dd_,IW,IW]
theorem CP (b:I):cJ (E Z.bad) b=gJ:=by unfold cJ;rw [OH];rfl
theorem CQ (a:I):cJ a (E Z.bad)=gJ:=by
 unfold cJ;rw [OH]
 cases a.1.good<;>rfl
theorem FN {u g:Int} (hg:0<g):u.fdiv g=u / g:=Int.fdiv_eq_ediv_of_nonneg _ (Int.le_of_lt hg)
theorem c0_ {u g:Int} (hu:cM u) (hg:0<g) (hd:g ∣ u):cM (u / g):=by
 obtain ⟨k,rfl⟩:=hd;rw [Int.mul_ediv_cancel_left _ oo_];refine Nat.lt_of_le_of_lt ?_ hu;rw [Int.natAbs_mul];exact Nat.le_mul_of_pos_left _ oo_
theorem ZH {n d:Int} (hn:cM n) (hd:cM d) (hp:0<d) :
  cJ (E (Z.of n)) (E (Z.of d))=⟨E (Z.of (n / (Int.gcd n d:Nat))),E (Z.of (d / (Int.gcd n d:Nat)))⟩:=by
 unfold cJ
 have h1:((Z.signW (E (Z.of d)).dec).1==0)=false:=by rw [bR,iQ hd,Int.sign_eq_one_of_pos hp];rfl
 have h2:decide ((Z.signW (E (Z.of d)).dec).1<0)=false:=by rw [bR,iQ hd,Int.sign_eq_one_of_pos hp];rfl
 have hg:0<((Int.gcd n d:Nat):Int):=by
  have:=Int.gcd_pos_of_ne_zero_right n (show d≠0 by omega);omega
 have hb:=OD (u:=n) hd oo_;rw [yF hn,yF hd,h1,h2,bR,bR,AH hn hd];simp only [Bool.not_true,Bool.or_false,cond_false];rw [C0 hn hb oo_,C0 hd hb oo_,FN hg,FN hg]
theorem yJ {n d:Int} (hn:cM n) (hd:cM d) (hp:0<d):Rt.Is (cJ (E (Z.of n)) (E (Z.of d))) (n / (Int.gcd n d:Nat)) (d / (Int.gcd n d:Nat)):=by
 have hg:0<((Int.gcd n d:Nat):Int):=by
  have:=Int.gcd_pos_of_ne_zero_right n (show d≠0 by omega);omega
 have d1:((Int.gcd n d:Nat):Int) ∣ n:=Int.gcd_dvd_left ..;have d2:((Int.gcd n d:Nat):Int) ∣ d:=Int.gcd_dvd_right ..;rw [ZH hn hd hp];refine ⟨rfl,rfl,c0_ hn hg d1,c0_ hd hg d2,Int.ediv_pos_of_pos_of_dvd hp oo_ d2,?_⟩;rw [Int.gcd_ediv d1 d2,Int.natAbs_natCast,Nat.div_self oo_]
theorem E0 {a b:Rt} {n d m e:Int} (ha:a.Is n d) (hb:b.Is m e) :
  ∃ p q r s:Int,cJ a.n b.d=⟨E (Z.of p),E (Z.of q)⟩∧cJ b.n a.d=⟨E (Z.of r),E (Z.of s)⟩∧cM p∧cM q∧cM r∧cM s∧0<q∧0<s∧Int.gcd (p*r) (q*s)=1∧n*m*(q*s)=p*r*(d*e):=by
 have h1:=yJ ha.hn hb.hd hb.pos;have h2:=yJ hb.hn ha.hd ha.pos;have g1:((Int.gcd n e:Nat):Int) ∣ n:=Int.gcd_dvd_left ..;have g2:((Int.gcd n e:Nat):Int) ∣ e:=Int.gcd_dvd_right ..;have g3:((Int.gcd m d:Nat):Int) ∣ m:=Int.gcd_dvd_left ..;have g4:((Int.gcd m d:Nat):Int) ∣ d:=Int.gcd_dvd_right ..;refine ⟨n / (Int.gcd n e:Nat),e / (Int.gcd n e:Nat),m / (Int.gcd m d:Nat),d / (Int.gcd m d:Nat),?_,?_,h1.hn,h1.hd,h2.hn,h2.hd,h1.pos,h2.pos,?_,?_⟩
 ·rw [ha.en,hb.ed];exact Rt.ext h1.en h1.ed
 ·rw [hb.en,ha.ed];exact Rt.ext h2.en h2.ed
 ·generalize hG:((Int.gcd n e:Nat):Int)=G at *
  generalize hH:((Int.gcd m d:Nat):Int)=H at *;have c1:Nat.Coprime (n / G).natAbs (e / G).natAbs:=h1.cop;have c2:Nat.Coprime (m / H).natAbs (d / H).natAbs:=h2.cop;have k1:Nat.Coprime n.natAbs d.natAbs:=ha.cop;have k2:Nat.Coprime m.natAbs e.natAbs:=hb.cop;have d1:(n / G).natAbs ∣ n.natAbs:=Int.natAbs_dvd_natAbs.2 (Int.ediv_dvd_of_dvd g1);have d2:(e / G).natAbs ∣ e.natAbs:=Int.natAbs_dvd_natAbs.2 (Int.ediv_dvd_of_dvd g2);have d3:(m / H).natAbs ∣ m.natAbs:=Int.natAbs_dvd_natAbs.2 (Int.ediv_dvd_of_dvd g3);have d4:(d / H).natAbs ∣ d.natAbs:=Int.natAbs_dvd_natAbs.2 (Int.ediv_dvd_of_dvd g4)
  show Nat.gcd (n / G*(m / H)).natAbs (e / G*(d / H)).natAbs=1
  rw [Int.natAbs_mul,Int.natAbs_mul];have x1:Nat.Coprime (n / G).natAbs (d / H).natAbs:=(k1.coprime_dvd_left d1).coprime_dvd_right d4;have x2:Nat.Coprime (m / H).natAbs (e / G).natAbs:=(k2.coprime_dvd_left d3).coprime_dvd_right d2;exact (Nat.Coprime.mul_right c1 x1).mul_left (Nat.Coprime.mul_right x2 c2)
 obtain ⟨x,hx⟩:=g1;obtain ⟨y,hy⟩:=g2;obtain ⟨z,hz⟩:=g3;obtain ⟨t,ht⟩:=g4
 have p1:0<((Int.gcd n e:Nat):Int):=by have:=Int.gcd_pos_of_ne_zero_right n (show e≠0 by have:=hb.pos;omega);omega
 have p2:0<((Int.gcd m d:Nat):Int):=by have:=Int.gcd_pos_of_ne_zero_right m (show d≠0 by have:=ha.pos;omega);omega
 generalize ((Int.gcd n e:Nat):Int)=G at *;generalize ((Int.gcd m d:Nat):Int)=H at *
 have q1:n / G=x:=by rw [hx];exact Int.mul_ediv_cancel_left _ oo_
 have q2:e / G=y:=by rw [hy];exact Int.mul_ediv_cancel_left _ oo_
 have q3:m / H=z:=by rw [hz];exact Int.mul_ediv_cancel_left _ oo_
 have q4:d / H=t:=by rw [ht];exact Int.mul_ediv_cancel_left _ oo_
 rw [q1,q2,q3,q4,hx,hy,hz,ht];grind
theorem QO (a b:Rt):dQ a b=fR a b:=by
 unfold dQ fR;rw [hJ,hJ,QE,EE,EE]
 cases hga:bH a<;>cases hgb:bH b<;>simp only [Bool.not_true,Bool.not_false,Bool.or_true,Bool.true_or,Bool.or_false,cond_true,cond_false]
 obtain ⟨n,d,ha⟩:=fq_.1 hga;obtain ⟨m,e,hb⟩:=fq_.1 hgb;obtain ⟨p,q,r,s,e1,e2,hp,hq,hr,hs,q0,s0,hc,_⟩:=E0 ha hb;rw [e1,e2];simp only [bR,kY hp hr,kY hq hs]
 by_cases b1:cM (p*r)
 ·by_cases b2:cM (q*s)
  ·rw [bW_ b1 b2 (Int.mul_pos q0 s0) hc,E7 b1,E7 b2];rfl
  rw [ZU b2,CQ,dW_,Bool.or_true];rfl
 rw [ZU b1,CP];rfl
theorem fU_ {x:I} (h:gdI x=true):∃ v:Int,cM v∧x=E (Z.of v):=Q8 (by unfold R.good;exact h)
theorem LB {v:Int} (h:cM v):gdI (E (Z.of v))=true:=by have:=yF h;unfold R.good at this;exact this
def vI (x:I):Int:=x.dec.o.getD 0
theorem WJ {v:Int} (h:cM v):vI (E (Z.of v))=v:=by unfold vI;rw [bR,Z.of_some h];rfl
theorem z5 {x:I} (h:gdI x=true):x=E (Z.of (vI x))∧cM (vI x):=by
 obtain ⟨v,hv,rfl⟩:=fU_ h;rw [WJ hv];exact ⟨rfl,hv⟩
theorem Q4 {x:I} (h:gdI x=true):x.dec=Z.of (vI x):=by
 conv=>lhs;rw [(z5 h).1,bR]
theorem a1_ {v:Int} (h:cM v):zrI (E (Z.of v))=decide (v=0):=by
 unfold zrI;rw [bR,iQ h]
 by_cases h0:v=0
 ·subst h0;rfl
 rw [decide_eq_false h0];exact beq_eq_false_iff_ne.2 (fun hs=>h0 (Int.sign_eq_zero_iff_zero.1 hs))
theorem fk_ {x:I} (h:gdI x=true):zrI x=decide (vI x=0):=by
 conv=>lhs;rw [(z5 h).1]
 exact a1_ (z5 h).2
def fg (g:Nat) (x:I):Nat:=Int.gcd g (vI x)
theorem fn_ {g:Nat} {v:Int} (hg:cM (g:Int)) (hv:cM v):cM ((Int.gcd g v:Nat):Int):=by
 by_cases h:v=0
 ·subst h
  rw [Int.gcd_zero_right,Int.natAbs_natCast];exact hg
 exact OD hv h
theorem FD (l0:List I):∀ (r:List I) (g:Nat),r.all gdI=true→cM (g:Int)→iC l0 r (E (Z.of (g:Int)))=E (Z.of ((r.foldl fg g:Nat):Int))∧cM ((r.foldl fg g:Nat):Int)
 | [],g,_,hg=>⟨rfl,hg⟩
 | x::r,g,h,hg=>by
  rw [List.all_cons,Bool.and_eq_true] at h;have hx:=z5 h.1
  have e:E (Z.gcd (E (Z.of (g:Int))).dec x.dec)=E (Z.of ((fg g x:Nat):Int)):=by
   rw [bR,Q4 h.1,AH hg hx.2];rfl
  unfold iC;rw [e];exact FD l0 r _ h.2 (fn_ hg hx.2)
def cN (l:List I):Nat:=l.foldl fg 0
theorem yA {l:List I} (h:l.all gdI=true):dB l=E (Z.of ((cN l:Nat):Int))∧cM ((cN l:Nat):Int):=FD l l 0 h B0
theorem OA:∀ (l:List I) (g:Nat),l.foldl fg g ∣ g∧∀ x∈l,((l.foldl fg g:Nat):Int) ∣ vI x
 | [],g=>⟨Nat.dvd_refl _,fun x hx=>by cases hx⟩
 | y::l,g=>by
  obtain ⟨h1,h2⟩:=OA l (fg g y)
  have h3:fg g y ∣ g:=by have:=Int.gcd_dvd_natAbs_left (g:Int) (vI y);simpa [fg] using this
  have h4:((fg g y:Nat):Int) ∣ vI y:=Int.gcd_dvd_right ..;refine ⟨Nat.dvd_trans h1 h3,fun x hx=>?_⟩;rcases List.mem_cons.1 hx with rfl|hx
  ·exact Int.dvd_trans (Int.natCast_dvd_natCast.2 h1) h4
  exact h2 x hx
theorem CD {l:List I} {x:I} (h:x∈l):((cN l:Nat):Int) ∣ vI x:=(OA l 0).2 x h
theorem OQ {α:Type} (f:I→α) (l:List I):(List.range l.length).map (fun k=>f (l.getD k I0))=l.map f:=by
 refine List.ext_getElem? fun k=>?_
 by_cases h:k<l.length
 ·simp [h]
 simp [h]
def Rgt (p:List I):Prop:=p=badp∨(p.all gdI=true∧jV p=p∧p.length≤25)
theorem G6 (l:List I):jV (jV l)=jV l:=by
 suffices ∀ n (l:List I),l.length≤n→jV (jV l)=jV l from this _ l (Nat.le_refl _)
 intro n
 induction n with
 | zero=>intro l h;rw [List.eq_nil_of_length_eq_zero (show l.length=0 by omega)];rfl
 | succ n ih =>
  intro l h;rcases n4 l with rfl|⟨m,x,rfl⟩
  ·rfl
  have hs:=pG m x
  cases hx:zrI x
  ·rw [hx,cond_false] at hs;rw [hs,hs]
  rw [hx,cond_true] at hs;rw [hs];exact ih m (by simp only [List.length_append,List.length_cons,List.length_nil] at h;omega)
theorem JK {l:List I} (h:l.all gdI=true):(jV l).all gdI=true:=by
 rw [wY];rw [List.all_eq_true] at h ⊢;exact fun x hx=>h x (List.mem_of_mem_take hx)
theorem LM (l:List I):Rgt (mkP l):=by
 unfold mkP
 cases h:l.all gdI
 ·exact .inl O
 simp only [cond_true]
 split
 ·rename_i h2;exact .inr ⟨JK h,G6 l,h2⟩
 exact .inl O
theorem ZO {l:List I} (h:l.all gdI=true) (h2:jV l=l) (h3:l.length≤25):mkP l=l:=by
 unfold mkP;rw [h,cond_true,h2,if_pos h3]
theorem AP {m:List I} {x:I} (h:jV (m++[x])=m++[x]):zrI x=false:=by
 cases hx:zrI x
 ·rfl
 rw [pG,hx,cond_true] at h;have:=wA m;rw [h] at this;simp only [List.length_append,List.length_cons,List.length_nil] at this;omega
theorem JL {l:List I} (f:I→I) (h:jV l=l) (hf:∀ x∈l,zrI x=false→zrI (f x)=false):jV (l.map f)=l.map f:=by
 rcases n4 l with rfl|⟨m,x,rfl⟩
 ·rfl
 rw [List.map_append,List.map_cons,List.map_nil,pG,hf x (by simp) (AP h),cond_false]
theorem O3 {p:List I} (h:p.all gdI=true) (hs:jV p=p) (hl:p.length≤25):aC p=p.map fun x=>E (Z.of ((vI x).fdiv (cN p))):=by
 unfold aC;rw [rP _ oo_ dd_];simp only [List.length_nil,Nat.max_zero,List.all_nil,Bool.and_true,h,cond_true];have hc:=yA h
 have e:(List.range p.length).map (fun k=>j6 (p.getD k I0) (([]:List I).getD k I0) (dB p))=p.map fun x=>E (Z.quo x.dec (Z.of ((cN p:Nat):Int))):=by
  rw [← OQ (fun x=>E (Z.quo x.dec (Z.of ((cN p:Nat):Int))))];refine List.map_congr_left fun k _=>?_
  show E (Z.quo (p.getD k I0).dec (dB p).dec)=_
  rw [hc.1,bR]
 rw [e];rcases n4 p with rfl|⟨m,x,rfl⟩
 ·rfl
 have hx:gdI x=true:=List.all_eq_true.1 h x (by simp);have hz:=AP hs;rw [fk_ hx] at hz;have hv0:vI x≠0:=of_decide_eq_false hz
 have hc0:((cN (m++[x]):Nat):Int)≠0:=fun h0=>by
  have:=CD (l:=m++[x]) (x:=x) (by simp);rw [h0] at this;exact hv0 (Int.zero_dvd.1 this)
 have e2:(m++[x]).map (fun x'=>E (Z.quo x'.dec (Z.of ((cN (m++[x]):Nat):Int))))=(m++[x]).map fun x'=>E (Z.of ((vI x').fdiv (cN (m++[x])))):=by
  refine List.map_congr_left fun y hy=>?_;have hy':=z5 (List.all_eq_true.1 h y hy);rw [Q4 (List.all_eq_true.1 h y hy),C0 hy'.2 hc.2 hc0]
 rw [e2]
 have hB:∀ y∈m++[x],cM ((vI y).fdiv (cN (m++[x]))):=fun y hy=>by
  have hy':=z5 (List.all_eq_true.1 h y hy);have hd:=FM (CD hy)
  have hle:((vI y).fdiv (cN (m++[x]))).natAbs≤(vI y).natAbs:=by
   conv=>rhs;rw [← hd]
   rw [Int.natAbs_mul];exact Nat.le_mul_of_pos_left _ oo_
  exact Nat.lt_of_le_of_lt hle hy'.2
 refine ZO ?_ (JL _ hs fun y hy hzy=>?_) (by rw [List.length_map];exact hl)
 ·rw [List.all_eq_true]
  intro z hz;obtain ⟨y,hy,rfl⟩:=List.mem_map.1 hz;exact LB (hB y hy)
 rw [fk_ (List.all_eq_true.1 h y hy)] at hzy;rw [a1_ (hB y hy)];refine decide_eq_false fun h0=>of_decide_eq_false hzy ?_;have hd:=FM (CD hy);rw [h0,Int.mul_zero] at hd;exact hd.symm
theorem NG:badp.length=1:=rfl
theorem zP {p:List I} (h:Rgt p) (hg:p.all gdI=false):p=badp:=by
 rcases h with h|h
 ·exact h
 rw [h.1] at hg;cases hg
theorem yP (p:List I) (hp:p.length≤1000):Rgt (aC p):=by
 unfold aC;rw [rP _ hp dd_]
 cases (p.all gdI&&List.all [] gdI)
 ·exact .inl O
 exact LM _
theorem OE (p q:List I) {n:Nat} (hn:1≤n):∀ (k:Nat) (a b:List I),gmP b<k→a≠[]→Rgt a→Rgt b→a.length≤n→b.length≤n→a.length≤25→b.length≤25 →
  (∃ s,cX p q k a b = .inl s∧s.1≠[]∧Rgt s.1∧s.1.length≤n)∨cX p q k a b = .inr badp
 | 0,a,b,h,_,_,_,_,_,_,_=>absurd h (Nat.not_lt_zero _)
 | k+1,a,b,h,ha,ra,rb,la,lb,ka,kb=>by
  unfold cX
  cases h1:decide (0<(b.length:Int))
  ·exact .inl ⟨_,rfl,ha,ra,la⟩
  ·cases h2:(aP a||aP b)
   ·simp only [cond_true,cond_false]
    have hd:=EO ⟨ka,kb⟩ h2 h1;have hpos:=of_decide_eq_true h1;have hrl:=oH a b;have rr:=yP (aZ a b) oo_;refine OE p q hn k b _ oo_ (fun e=>by rw [e] at hpos;exact absurd hpos dd_) rb rr lb ?_ kb (cG _)
    cases hg:(aC (aZ a b)).all gdI
    ·rw [zP rr hg,NG];exact hn
    obtain ⟨h4,h5⟩:=tS oo_ hg;rcases C2 a b oo_ with h6|h6
    ·rw [h6,eE] at h4;cases h4
    omega
   exact .inr O
theorem b5_ {a:List I} (h:a.all gdI=true) (hs:jV a=a) (hl:a.length≤25):eB [] a (fun y z=>E (Z.sub y.dec z.dec))=a.map fun x=>E (Z.of (-(vI x))):=by
 rw [rP _ dd_ oo_];simp only [List.length_nil,Nat.zero_max,List.all_nil,Bool.true_and,h,cond_true]
 have e:(List.range a.length).map (fun k=>E (Z.sub (([]:List I).getD k I0).dec (a.getD k I0).dec))=a.map fun x=>E (Z.of (-(vI x))):=by
  have e1:(List.range a.length).map (fun k=>E (Z.sub (([]:List I).getD k I0).dec (a.getD k I0).dec))=a.map fun x=>E (Z.sub (Z.of 0) x.dec):=by
   rw [← OQ (fun x=>E (Z.sub (Z.of 0) x.dec))];refine List.map_congr_left fun k _=>?_;rfl
  rw [e1];refine List.map_congr_left fun y hy=>?_;have hy':=z5 (List.all_eq_true.1 h y hy)
  have hB:cM (-(vI y)):=by unfold cM;rw [Int.natAbs_neg];exact hy'.2
  rw [Q4 (List.all_eq_true.1 h y hy)]
  show E (Z.add (Z.of 0) (Z.neg (Z.of (vI y))))=_
  rw [RO hy'.2,z9 B0 hB,Int.zero_add]
 rw [e]
 have hB:∀ y∈a,cM (-(vI y)):=fun y hy=>by unfold cM;rw [Int.natAbs_neg];exact (z5 (List.all_eq_true.1 h y hy)).2
 refine ZO ?_ (JL _ hs fun y hy hzy=>?_) (by rw [List.length_map];exact hl)
 ·rw [List.all_eq_true]
  intro z hz;obtain ⟨y,hy,rfl⟩:=List.mem_map.1 hz;exact LB (hB y hy)
 rw [fk_ (List.all_eq_true.1 h y hy)] at hzy;rw [a1_ (hB y hy)];exact decide_eq_false fun h0=>of_decide_eq_false hzy oo_
theorem QY {p:List I} (hp:p.length≤1000) (h:(aD p).all gdI=true):(aD p).length≤p.length - 1:=by
 unfold aD at h ⊢;rw [lY hp,oT] at h ⊢
 cases hg:p.all gdI
 ·rw [hg] at h;simp only [Bool.not_false,cond_true] at h;rw [DC,eE] at h;cases h
 rw [hg] at h;simp only [Bool.not_true,cond_false] at h ⊢;rw [F5 h];refine Nat.le_trans (wA _) ?_;rw [List.length_map,List.length_range];omega
theorem bH_ {p:List I} (hp:Rgt p) (h:(aP (aN p (aD p))||aP (aC p))=false) (h0:((aC p).length:Int)≠0) :
  1≤(aN p (aD p)).length∧(aN p (aD p)).length≤(aC p).length:=by
 have hpl:p.length≤25:=by
  rcases hp with h1|h1
  ·rw [h1];exact mV
  exact h1.2.2
 obtain ⟨hg,hr⟩:=Bool.or_eq_false_iff.1 h;rw [lY (Nat.le_trans (BO _ _) dd_)] at hg;rw [lY (Nat.le_trans (cG _) dd_)] at hr
 have hr':(aC p).all gdI=true:=by simpa using hr
 have hg':(aN p (aD p)).all gdI=true:=by simpa using hg
 have hpg:=(tS oo_ hr').1
 obtain ⟨_,hs,_⟩:p.all gdI=true∧jV p=p∧p.length≤25:=by
  rcases hp with h1|h1
  ·rw [h1,eE] at hpg;cases hpg
  exact h1
 have hpv:=O3 hpg hs hpl
 have hrl:(aC p).length=p.length:=by rw [hpv,List.length_map]
 have hp1:1≤p.length:=by omega
 have hdl:(aC (aD p)).length≤p.length:=by
  have rd:=yP (aD p) (Nat.le_trans (mY _) dd_)
  cases hd:(aC (aD p)).all gdI
  ·rw [zP rd hd,NG];exact hp1
  obtain ⟨h4,h5⟩:=tS (Nat.le_trans (mY _) dd_) hd;have:=QY oo_ h4;omega
 rw [hrl];unfold aN at hg' ⊢;rcases OE p (aD p) hp1 (gmP (aC (aD p))+1) (aC p) (aC (aD p)) (Nat.lt_succ_self _) (fun e=>by rw [e] at hrl;simp at hrl;omega) (yP _ oo_) (yP _ (Nat.le_trans (mY _) dd_)) oo_ hdl (cG _) (cG _) with ⟨s,h1,h2,h3,h4⟩|h1
 ·rw [h1] at hg' ⊢
  have hs1:1≤s.1.length:=by
   rcases Nat.eq_zero_or_pos s.1.length with h|h
   ·exact absurd (List.eq_nil_of_length_eq_zero h) h2
   exact h
  simp only [sm] at hg' ⊢
  cases hc:((s.1.length:Int)==0)||decide (0<(Z.signW (s.1.getD (s.1.length - 1) I0).dec).1)
  ·rw [hc] at hg'
   simp only [cond_false] at hg' ⊢
   have hsl:s.1.length≤25:=by omega
   cases hsg:s.1.all gdI
   ·have hb:=zP h3 hsg
    rw [hb,rP _ dd_ dd_,eE] at hg';rw [Bool.and_false,cond_false,eE] at hg';cases hg'
   rcases h3 with h3|h3
   ·rw [h3,eE] at hsg;cases hsg
   rw [b5_ h3.1 h3.2.1 h3.2.2,List.length_map];exact ⟨hs1,h4⟩
  exact ⟨hs1,h4⟩
 rw [h1] at hg';simp only [sm] at hg';rw [eE] at hg';cases hg'
theorem ME {p:List I} (h:Rgt p):p.length≤25:=by
 rcases h with h|h
 ·rw [h];exact mV
 exact h.2.2
theorem LS (p q:List I):Rgt (fV p q):=by
 unfold fV
 cases (aP p||aP q)
 ·simp only [cond_false]
  cases (((p.length:Int)==0)||((q.length:Int)==0))
  ·rw [cond_false,oT];exact LM _
  exact .inr ⟨rfl,rfl,Nat.zero_le _⟩
 exact .inl O
theorem V5 {p:List I} (h:eJ p=true):Rgt p:=by
 unfold eJ at h
 cases h1:(((p.length:Int)==1)&&decide ((p.getD 0 I0)=(E Z.bad)))
 ·rw [h1,cond_false,a6_] at h
  cases hg:p.all gdI
  ·rw [hg] at h;cases h
  rw [hg] at h
  by_cases hl:(25:Int)<(p.length:Int)
  ·rw [decide_eq_true hl] at h;cases h
  rw [decide_eq_false hl] at h;refine .inr ⟨hg,?_,by omega⟩;rcases n4 p with rfl|⟨m,x,rfl⟩
  ·rfl
  simp only [Bool.not_true,Bool.or_false,cond_false,Bool.or_eq_true] at h;rcases h with h|h
  ·simp at h;omega
  rw [show (m++[x]).length - 1=m.length by simp,show (m++[x]).getD m.length I0=x by simp,e2_] at h;rw [pG]
  have:zrI x=false:=by simpa using h
  rw [this];rfl
 rw [Bool.and_eq_true] at h1
 have hl:p.length=1:=by have:=h1.1;simp at this;omega
 obtain ⟨x,rfl⟩:∃ x,p=[x]:=List.length_eq_one_iff.1 hl;have hx:x=E Z.bad:=of_decide_eq_true h1.2;exact .inl (by rw [hx];rfl)
theorem IX {p:List I} {d b:Int} (h:dS p d b=true):eJ p=true∧(p.length:Int)≤d+1:=by
 unfold dS at h
 cases h1:(!eJ p)||decide (d+1<(p.length:Int))
 ·rw [Bool.or_eq_false_iff] at h1
  exact ⟨by simpa using h1.1,by have:=of_decide_eq_false h1.2;omega⟩
 rw [h1] at h;cases h
theorem YG {p:List I} {d b:Int} (h:(!dS p d b)=false):Rgt p∧p.length≤25:=by
 have h1:=V5 (IX (p:=p) (d:=d) (b:=b) (by simpa using h)).1;exact ⟨h1,ME h1⟩
theorem I1 (p:List I) (i:Int) (r f:List I) (x:I):∀ (k n:Nat) (t y:List I),fZ p i r f x k n t = .inr y→y=badp
 | 0,n,t,y,h=>by cases h
 | k+1,n,t,y,h=>by
  unfold fZ at h
  revert h
  cases decide ((n:Int)<((aN p (aD p)).length:Int))
  ·intro h;cases h
  simp only [cond_true];intro h;rw [Bool.cond_eq_ite] at h
  revert h
  split
  ·intro h;cases h;exact DC
  exact fun h=>I1 p i r f x k _ _ y h
theorem IZ (p:List I):∀ (k:Nat) (i:Int) (r f y:List I),eK p k i r f = .inr y→y=badp
 | 0,i,r,f,y,h=>by cases h
 | k+1,i,r,f,y,h=>by
  unfold eK at h
  revert h
  cases decide (0≤i)
  ·intro h;cases h
  simp only [cond_true];generalize hx:fZ p i r f _ _ 0 r=X
  cases X with
  | inl s=>exact fun h=>IZ p k _ _ _ y h
  | inr z=>intro h;cases h;exact I1 p i r f _ _ _ _ _ hx
theorem u5 (p:List I):(aT p).length≤25:=by
 unfold aT;refine pX mV (pX (Nat.zero_le _) ?_);generalize hx:eK p _ _ _ _=X
 cases X with
 | inl s=>exact pX (kS _) (o2 _ _ _)
 | inr z=>rw [show z=badp from IZ p _ _ _ _ _ hx];exact mV
theorem sgW (z:Z):-1≤(Z.signW z).1∧(Z.signW z).1≤1:=by
 show -1≤z.sign∧z.sign≤1
 unfold Z.sign
 cases z.o with
 | none=>exact ⟨by decide,by decide⟩
 | some v =>
  show -1≤v.sign∧v.sign≤1
  rcases Int.lt_trichotomy v 0 with h|h|h
  ·rw [Int.sign_eq_neg_one_of_neg h];decide
  ·subst h;decide
  rw [Int.sign_eq_one_of_pos h];decide
def pw (d:I):Nat→I
 | 0=>E (Z.of 1)
 | k+1=>E (Z.mul (pw d k).dec d.dec)
theorem R3 (n:Nat) (f:Nat→I):(List.range (n+1)).map f=(List.range n).map f++[f n]:=by rw [List.range_succ,List.map_append];rfl
theorem I9 (d:I) (n:Int):∀ (k m:Nat),n.toNat - (m+1)<k→gH d n k ((List.range (m+1)).map (pw d))=(List.range (max n.toNat (m+1))).map (pw d)
 | 0,m,h=>absurd h (Nat.not_lt_zero _)
 | k+1,m,h=>by
  unfold gH
  have hl:((List.range (m+1)).map (pw d)).length=m+1:=by simp
  by_cases hc:((m+1:Nat):Int)<n
  ·rw [hl,decide_eq_true hc,cond_true]
   have e1:((List.range (m+1)).map (pw d)).getD (m+1 - 1) I0=pw d m:=by simp [List.getD]
   rw [e1,show E (Z.mul (pw d m).dec d.dec)=pw d (m+1) from rfl,← R3,I9 d n k (m+1) oo_];rw [show max n.toNat (m+1+1)=max n.toNat (m+1) by omega]
  rw [hl,decide_eq_false hc,cond_false,show max n.toNat (m+1)=m+1 by omega]
theorem VV (d:I) (n:Int):dE d n=(List.range (max n.toNat 1)).map (pw d):=I9 d n _ 0 oo_
theorem tR (d:I) (n:Int) {k:Nat} (h:k<max n.toNat 1):(dE d n).getD k I0=pw d k:=by
 rw [VV];simp [List.getD,h]
theorem YN (x:Rt):gS [x]=bD x:=by
 unfold gS mT mJ
 have e:jA [x] (fun y=>iZ y) ([x].length+1) 0=bif bD x then .inl 1 else .inr (W.cv 0):=by
  show (bif iZ x then _ else _)=_
  unfold iZ
  cases bD x<;>rfl
 rw [e]
 cases bD x<;>rfl
end Go.Num
