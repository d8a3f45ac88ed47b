/- Lemmas: what they ask stands in their statements. -/
import Derived.Test.YtbjlhfochebmiaaGreatDoorMQa
set_option linter.unusedSimpArgs false
set_option linter.unusedVariables false
set_option maxHeartbeats 8000000
set_option maxRecDepth 20000
namespace Go.Num
open Go Go.Kn
theorem Z.cases (z:Z):z=Z.bad ∨ ∃ v:Int,v.natAbs<4294967296 ^ 16∧z=Z.of v∧z.o=some v:=by
 cases h:z.o with
 | none=>exact .inl (Z.eq_bad h)
 | some v=>exact .inr ⟨v,z.h v h,Z.eq_of h,rfl⟩
theorem Z.zero_add (z:Z):Z.add (Z.of 0) z=z:=by
 rcases Z.cases z with rfl|⟨v,_,rfl,hv⟩
 ·rfl
 rw [Z.add,dZ (Z.of_some dd_) hv,Int.zero_add]
theorem W.ext {a b:W} (h:a.1=b.1):a=b:=Subtype.ext h
structure PrimOk (a:A3 I) (p:A3 W) (x y z g:Int):Prop where
 ax:a.x.dec.o=some x
 ay:a.y.dec.o=some y
 az:a.z.dec.o=some z
 gd:g=((Int.gcd (Int.gcd (Int.gcd 0 x:Nat) y:Nat) z:Nat):Int)
 g0:0<g
 px:g*p.x.1=x
 py:g*p.y.1=y
 pz:g*p.z.1=z
 bx:-2305843009213693952<p.x.1∧p.x.1<2305843009213693952
 bY:-2305843009213693952<p.y.1∧p.y.1<2305843009213693952
 bz:-2305843009213693952<p.z.1∧p.z.1<2305843009213693952
def Z.Is (z:Z) (v:Int):Prop:=z.o=none∨z.o=some v
theorem Z.Is.sign {z:Z} {v:Int} (h:z.Is v):z.o=none∨z.sign=v.sign:=by
 rcases h with h|h
 ·exact .inl h
 right;unfold Z.sign;rw [h]
structure Fit (z:Z) (v:Int) (k:Nat):Prop where
 eq:z=Z.of v
 lt:v.natAbs<2 ^ k
theorem gl_ {k:Nat} (hk:k≤511) {n:Nat} (h:n<2 ^ k):n<4294967296 ^ 16:=by
 have e:(2:Nat) ^ (32*16)=(2 ^ 32) ^ 16:=Nat.pow_mul 2 32 16;exact Nat.lt_of_lt_of_le h (Nat.le_trans (Nat.pow_le_pow_right dd_ (show k≤32*16 by omega)) (Nat.le_of_eq e))
theorem Fit.o {z:Z} {v:Int} {k:Nat} (h:Fit z v k) (hk:k≤511):z.o=some v:=by rw [h.eq];exact Z.of_some (gl_ hk h.lt)
theorem Fit.mono {z:Z} {v:Int} {k k':Nat} (h:Fit z v k) (hk:k≤k'):Fit z v k':=⟨h.eq,Nat.lt_of_lt_of_le h.lt (Nat.pow_le_pow_right dd_ hk)⟩
theorem Fit.mul {a b:Z} {x y:Int} {k l:Nat} (ha:Fit a x k) (hb:Fit b y l) (hk:k≤511∧l≤511):Fit (Z.mul a b) (x*y) (k+l) :=
 ⟨by rw [Z.mul,dZ (ha.o hk.1) (hb.o hk.2)],by rw [Int.natAbs_mul,Nat.pow_add];exact Nat.mul_lt_mul_of_lt_of_lt ha.lt hb.lt⟩
theorem Fit.add {a b:Z} {x y:Int} {k l:Nat} (ha:Fit a x k) (hb:Fit b y l) (hk:k≤511∧l≤511):Fit (Z.add a b) (x+y) (max k l+1):=by
 refine ⟨by rw [Z.add,dZ (ha.o hk.1) (hb.o hk.2)],?_⟩;have h1:=(ha.mono (Nat.le_max_left k l)).lt;have h2:=(hb.mono (Nat.le_max_right k l)).lt;rw [Nat.pow_succ];omega
theorem Fit.neg {a:Z} {x:Int} {k:Nat} (ha:Fit a x k) (hk:k≤511):Fit (Z.neg a) (-x) k:=⟨by rw [Z.neg,kR (ha.o hk)],by rw [Int.natAbs_neg];exact ha.lt⟩
theorem Fit.sub {a b:Z} {x y:Int} {k l:Nat} (ha:Fit a x k) (hb:Fit b y l) (hk:k≤511∧l≤511):Fit (Z.sub a b) (x - y) (max k l+1):=by
 rw [Int.sub_eq_add_neg];exact ha.add (hb.neg hk.2) hk
theorem Fit.sign {z:Z} {v:Int} {k:Nat} (h:Fit z v k) (hk:k≤511):z.sign=v.sign:=by unfold Z.sign;rw [h.o hk]
theorem D0 {L:Nat→List I→Nat→List I×Nat} {n:Nat} {g:Nat→I} (h1:∀ k out i,i<n→L (k+1) out i=L k (out++[g i]) (i+1)) (h2:∀ k out i,¬ i<n→L (k+1) out i=(out,i)) :
  ∀ (k:Nat) (out:List I) (i:Nat),n - i<k→(L k out i).1=out++(List.range' i (n - i)).map g
 | 0,out,i,h=>absurd h (Nat.not_lt_zero _)
 | k+1,out,i,h=>by
  by_cases hi:i<n
  ·obtain ⟨m,hm⟩:∃ m,n - i=m+1:=⟨n - i - 1,by omega⟩
   rw [h1 _ _ _ hi,D0 h1 h2 k _ _ oo_,hm,HH,show n - (i+1)=m by omega]
   simp
  rw [h2 _ _ _ hi,show n - i=0 by omega];simp
theorem JJ (l:List I) (f:I→Bool):∀ (k i:Nat),l.length - i<k→(∃ j:Nat,j<l.length∧mF l f k i = .inr (W.cv (j:Int))∧(l.drop i).any f=true)∨(∃ j,mF l f k i = .inl j∧(l.drop i).any f=false)
 | 0,i,h=>absurd h (Nat.not_lt_zero _)
 | k+1,i,h=>by
  unfold mF
  by_cases hi:i<l.length
  ·rw [decide_eq_true oo_,cond_true,E3 l hi,List.any_cons]
   cases hf:f (l.getD i I0)
   ·simp only [cond_false,Bool.false_or]
    exact JJ l f k (i+1) oo_
   exact .inl ⟨i,hi,rfl,rfl⟩
  rw [decide_eq_false oo_,cond_false,List.drop_of_length_le oo_];exact .inr ⟨i,rfl,rfl⟩
theorem P5 (l:List I) (f:I→Bool) (hl:l.length≤1000):tR l f=l.any f:=by
 unfold tR vK;rcases JJ l f (l.length+1) 0 oo_ with ⟨j,hj,h1,h2⟩|⟨j,h1,h2⟩
 ·rw [h1]
  show decide (0≤(W.cv (j:Int)).1)=_
  rw [cvE oo_,decide_eq_true oo_];rw [List.drop_zero] at h2;exact h2.symm
 rw [h1];rw [List.drop_zero] at h2;rw [h2];rfl
theorem aX_ (l:List I):(l.any fun y=>!gdI y) = !l.all gdI:=by
 induction l with
 | nil=>rfl
 | cons x l ih =>
  rw [List.any_cons,List.all_cons,ih]
  cases gdI x<;>rfl
theorem BT {p:List I} (h:p.length≤1000):gY p = !p.all gdI:=by
 unfold gY;rw [P5 _ _ h];exact aX_ p
theorem JL (p:List I):∀ (k i:Nat),p.length - i<k→(∃ j,gU p k i = .inl j∧(p.drop i).all gdI=true)∨(gU p k i = .inr true∧(p.drop i).all gdI=false)
 | 0,i,h=>absurd h (Nat.not_lt_zero _)
 | k+1,i,h=>by
  unfold gU
  by_cases hi:i<p.length
  ·rw [decide_eq_true oo_,cond_true,E3 p hi,List.all_cons]
   show (∃ j,(bif gdI (p.getD i I0) then _ else _)=_∧_)∨((bif gdI (p.getD i I0) then _ else _)=_∧_)
   cases gdI (p.getD i I0)
   ·exact .inr ⟨rfl,rfl⟩
   simp only [cond_true,Bool.true_and];exact JL p k (i+1) oo_
  rw [decide_eq_false oo_,cond_false,List.drop_of_length_le oo_];exact .inl ⟨i,rfl,rfl⟩
theorem yI (p:List I):bX p = !p.all gdI:=by
 unfold bX;rcases JL p (p.length+1) 0 oo_ with ⟨j,h1,h2⟩|⟨h1,h2⟩
 ·rw [h1];rw [List.drop_zero] at h2;rw [h2];rfl
 rw [h1];rw [List.drop_zero] at h2;rw [h2];rfl
theorem T3 (p:List I) (k:Int):dK p k=nX p k:=rfl
theorem yL {l:List I} {k:Nat} (h:l.length≤k):l.getD k I0=I0:=by simp [List.getD,List.getElem?_eq_none h]
theorem GJ (p:List I) (k:Nat):nX p (k:Int)=p.getD k I0:=by
 unfold nX;rw [decide_eq_false oo_,Bool.false_or,Int.toNat_natCast]
 by_cases h:p.length≤k
 ·rw [decide_eq_true oo_,cond_true,yL h]
 rw [decide_eq_false oo_,cond_false]
theorem OZ (n:Nat):List.range n=List.range' 0 n:=List.range_eq_range'
theorem IK {p q:List I} (f:I→I→I) (hp:p.length≤1000) (hq:q.length≤1000):k8 p q f=bif (p.all gdI&&q.all gdI) then mkP ((List.range (max p.length q.length)).map fun k=>f (p.getD k I0) (q.getD k I0)) else badp:=by
 unfold k8;rw [BT hp,BT hq,zA,Int.toNat_natCast]
 have e:((List.range (max p.length q.length)).map fun j=>nZ (tH j f p q))=(List.range (max p.length q.length)).map fun k=>f (p.getD k I0) (q.getD k I0):=List.map_congr_left fun k _=>by
  show f (nX p (k:Int)) (nX q (k:Int))=_
  rw [GJ,GJ]
 rw [e]
 cases p.all gdI<;>cases q.all gdI<;>rfl
theorem aL_ {p q:List I} (hp:p.length≤1000) (hq:q.length≤1000):bL p q=aP p q:=by
 unfold bL aP;rw [IK _ hp hq,yI,yI];have e:=D0 (L:=iS p q) (n:=max p.length q.length) (g:=fun k=>E (Z.add (p.getD k I0).dec (q.getD k I0).dec))
  (fun k out i h=>by (conv=>lhs;unfold iS);rw [decide_eq_true oo_,T3,T3,GJ,GJ];rfl) (fun k out i h=>by unfold iS;rw [decide_eq_false oo_];rfl) (max p.length q.length+1) [] 0 oo_
 rw [List.nil_append,Nat.sub_zero,← OZ] at e;simp only [ap,e,A0]
 cases p.all gdI<;>cases q.all gdI<;>rfl
theorem aN_ {p q:List I} (hp:p.length≤1000) (hq:q.length≤1000):pX p q=jO p q:=by
 unfold pX jO;rw [IK _ hp hq,yI,yI];have e:=D0 (L:=iU p q) (n:=max p.length q.length) (g:=fun k=>E (Z.sub (p.getD k I0).dec (q.getD k I0).dec))
  (fun k out i h=>by (conv=>lhs;unfold iU);rw [decide_eq_true oo_,T3,T3,GJ,GJ];rfl) (fun k out i h=>by unfold iU;rw [decide_eq_false oo_];rfl) (max p.length q.length+1) [] 0 oo_
 rw [List.nil_append,Nat.sub_zero,← OZ] at e;simp only [ap,e,A0]
 cases p.all gdI<;>cases q.all gdI<;>rfl
theorem VO {p:List I} (n:I) (hp:p.length≤1000):cX p n=bG p n:=by
 unfold cX bG;rw [IK _ hp dd_,yI];have e:=D0 (L:=gV p n) (n:=p.length) (g:=fun k=>E (Z.mul (p.getD k I0).dec n.dec))
  (fun k out i h=>by (conv=>lhs;unfold gV);rw [decide_eq_true oo_];rfl) (fun k out i h=>by unfold gV;rw [decide_eq_false oo_];rfl) (p.length+1) [] 0 oo_
 rw [List.nil_append,Nat.sub_zero,← OZ] at e;simp only [ap,e,A0,List.length_nil,Nat.max_zero,List.all_nil,Bool.and_true]
 show (bif gdI n then _ else _)=(bif (_ || !gdI n) then _ else _)
 cases p.all gdI<;>cases gdI n<;>rfl
theorem MY (p q out:List I) (k t i:Nat) (m:I) (hi:i≤k) (h:q.length≤k - i∨p.length≤i):dE p q out k (t+1) i m=dE p q out k t (i+1) m:=by
 conv=>lhs;unfold dE
 rw [decide_eq_true oo_,cond_true]
 have e:(decide ((i:Int)<(p.length:Int))&&decide ((k:Int) - (i:Int)<(q.length:Int)))=false:=by
  rcases h with h|h
  ·rw [decide_eq_false (p:=(k:Int) - (i:Int)<(q.length:Int)) oo_,Bool.and_false]
  rw [decide_eq_false oo_,Bool.false_and]
 rw [e,cond_false]
theorem MZ (p q out:List I) (k:Nat):∀ (t i:Nat) (m:I),p.length≤i→(dE p q out k t i m).2=m
 | 0,i,m,h=>rfl
 | t+1,i,m,h=>by
  by_cases hi:i≤k
  ·rw [MY p q out k t i m hi (.inr h),MZ p q out k t _ _ oo_]
  unfold dE;rw [decide_eq_false oo_,cond_false]
theorem MT (p q out:List I) (k:Nat):∀ (t t' i:Nat) (m:I),k+1 - i<t→k+1 - i<t'→k+1≤i+q.length→(iK k q p t i m).2=(dE p q out k t' i m).2
 | 0,_,i,m,h,_,_=>absurd h (Nat.not_lt_zero _)
 | t+1,0,i,m,_,h,_=>absurd h (Nat.not_lt_zero _)
 | t+1,t'+1,i,m,h,h',hq=>by
  by_cases hp:i<p.length
  ·by_cases hi:i≤k
   ·unfold iK dE
    rw [decide_eq_true (p:=(i:Int)≤min (k:Int) ((p.length:Nat) - 1)) oo_,decide_eq_true (p:=(i:Int)≤(k:Int)) oo_,decide_eq_true (p:=(i:Int)<(p.length:Int)) oo_,decide_eq_true (p:=(k:Int) - (i:Int)<(q.length:Int)) oo_];exact MT p q out k t t' _ _ oo_ oo_ oo_
   unfold iK dE;rw [decide_eq_false (p:=(i:Int)≤min (k:Int) ((p.length:Nat) - 1)) oo_,decide_eq_false (p:=(i:Int)≤(k:Int)) oo_];rfl
  rw [MZ p q out k _ _ _ oo_];unfold iK;rw [decide_eq_false oo_];rfl
theorem MX (p q out:List I) (k:Nat) (m:I):∀ (n t i:Nat),i+n=k+1 - q.length→k+1 - i<t→dE p q out k t i m=dE p q out k (t - n) (i+n) m
 | 0,t,i,_,_=>rfl
 | n+1,t,i,h,ht=>by
  obtain ⟨t,rfl⟩:∃ t',t=t'+1:=⟨t - 1,by omega⟩;rw [MY p q out k t i m oo_ (.inl oo_),MX p q out k m n t (i+1) oo_ oo_];rw [show t+1 - (n+1)=t - n by omega,show i+1+n=i+(n+1) by omega]
theorem a7_ (p q out:List I) (k:Nat):nJ k q p=(dE p q out k (k+2) 0 I0).2:=by
 unfold nJ;simp only [ap];rw [MX p q out k I0 (k+1 - q.length) (k+2) 0 oo_ oo_,Nat.zero_add];rw [show ((k:Int) - (q.length:Int)+1).toNat=k+1 - q.length by omega];exact MT p q out k _ _ _ _ oo_ oo_ oo_
theorem aM_ {p q:List I} (hp:p.length≤1000) (hq:q.length≤1000):bF p q=bO p q:=by
 unfold bF bO;rw [BT hp,BT hq,yI,yI,zA]
 cases h0:((p.length:Int)==0)||((q.length:Int)==0)
 ·have h1:p.length≠0∧q.length≠0:=by
   have:=Bool.or_eq_false_iff.1 h0;exact ⟨fun h=>by rw [h] at this;exact absurd this.1 dd_,fun h=>by rw [h] at this;exact absurd this.2 dd_⟩
  have e:=D0 (L:=iT p q) (n:=p.length+q.length - 1) (g:=fun k=>nJ k q p)
   (fun k out i h=>by (conv=>lhs;unfold iT);rw [decide_eq_true oo_];simp only [cond_true,ap];rw [← a7_]) (fun k out i h=>by unfold iT;rw [decide_eq_false oo_];rfl) (p.length+q.length) [] 0 oo_
  rw [List.nil_append,Nat.sub_zero,← OZ] at e;simp only [ap,e,A0];rw [show (((p.length+q.length:Nat):Int) - 1).toNat=p.length+q.length - 1 by omega];rfl
 rfl
theorem zr0:zrI I0=true:=by decide +kernel
def ez_ (n:Nat) (r:List I):Prop:=∀ j:Nat,n≤j→zrI (r.getD j I0)=true
theorem HP {n:Nat}:∀ (m:Nat) (r:List I),r.length≤m→ez_ n r→(oA r).length≤n
 | 0,r,h,_=>by
  have:r=[]:=List.eq_nil_of_length_eq_zero oo_;rw [this];exact Nat.zero_le _
 | m+1,r,h,hz=>by
  by_cases hn:r.length≤n
  ·exact Nat.le_trans (KR r) hn
  rcases zK r with rfl|⟨s,x,rfl⟩
  ·exact Nat.zero_le _
  simp only [List.length_append,List.length_cons,List.length_nil] at hn h;have hx:=hz s.length oo_;rw [show (s++[x]).getD s.length I0=x by simp] at hx;rw [xI,hx,cond_true];refine HP m s oo_ (fun j hj=>?_)
  by_cases hjs:j<s.length
  ·have:=hz j hj
   rwa [show (s++[x]).getD j I0=s.getD j I0 by simp [List.getD,List.getElem?_append_left hjs]] at this
  rw [yL oo_];exact zr0
theorem OJ (l:List I):xV l=mkP l:=by
 unfold xV;rw [zA,Int.toNat_natCast]
 congr 1
 refine List.ext_getElem? fun k=>?_
 by_cases h:k<l.length
 ·simp [h,nZ,EN]
 simp [h]
abbrev iE (v:Int):Prop:=v.natAbs<4294967296 ^ 16
theorem VY {x:I} (h:x.1.good=true):E x.dec=x:=Subtype.ext (IL x.2 h)
theorem SN {x:I} (h:x.1.good=true):∃ v:Int,iE v∧x=E (Z.of v):=by
 have h1:=cU x.2 h;refine ⟨_,x.dec.h _ h1,?_⟩;rw [← Z.eq_of h1];exact (VY h).symm
theorem DE {v:Int} (h:iE v):(E (Z.of v)).1.good=true:=by
 show (Z.of v).enc.good=true
 rw [Z.enc_good,Z.of_some h];rfl
theorem XZ {v:Int} (h:iE v):(E (Z.of v)).1.bad=false:=by
 have:=DE h;unfold R.good at this;simp only [Bool.and_eq_true,Bool.not_eq_true'] at this;exact this.1
theorem c8_:(E Z.bad).1.bad=true:=rfl
theorem QG:(E Z.bad).1.good=false:=rfl
theorem bY_ {v:Int} (h:iE v):(Z.of v).sign=v.sign:=by unfold Z.sign;rw [Z.of_some h]
theorem uI {v:Int} (h:iE v):(Z.signW (Z.of v)).1=v.sign:=bY_ h
theorem JF {u v:Int} (hu:iE u) (hv:iE v):Z.gcd (Z.of u) (Z.of v)=Z.of (Int.gcd u v):=by rw [Z.gcd,dZ (Z.of_some hu) (Z.of_some hv)]
theorem KA {u v:Int} (hu:iE u) (hv:iE v) (h:v≠0):Z.quo (Z.of u) (Z.of v)=Z.of (u.fdiv v):=by rw [Z.quo,dZ (Z.of_some hu) (Z.of_some hv),if_neg h]
theorem BX {u v:Int} (hu:iE u) (hv:iE v):Z.mul (Z.of u) (Z.of v)=Z.of (u*v):=by rw [Z.mul,dZ (Z.of_some hu) (Z.of_some hv)]
theorem NX {u v:Int} (hu:iE u) (hv:iE v):Z.add (Z.of u) (Z.of v)=Z.of (u+v):=by rw [Z.add,dZ (Z.of_some hu) (Z.of_some hv)]
theorem ZL {u:Int} (hu:iE u):Z.neg (Z.of u)=Z.of (-u):=by rw [Z.neg,kR (Z.of_some hu)]
theorem ZN {v:Int} (h:¬ iE v):Z.of v=Z.bad:=by unfold Z.of;rw [dif_neg h]
theorem B1:iE 1:=by decide
theorem B0:iE 0:=by decide
theorem YT {u v:Int} (hv:iE v) (h:v≠0):iE (Int.gcd u v:Nat):=by
 have:Int.gcd u v≤v.natAbs:=Nat.le_of_dvd oo_ (Int.gcd_dvd_natAbs_right u v)
 show ((Int.gcd u v:Nat):Int).natAbs<_
 rw [Int.natAbs_natCast];exact Nat.lt_of_le_of_lt this hv
theorem SX {u v:Int} (hu:iE u) (hv:iE v) (h:Z.of u=Z.of v):u=v:=by
 have:=congrArg Z.o h;rw [Z.of_some hu,Z.of_some hv] at this;exact Option.some.inj this
structure Rt.Is (a:Rt) (n d:Int):Prop where
 en:a.n=E (Z.of n)
 ed:a.d=E (Z.of d)
 hn:iE n
 hd:iE d
 pos:0<d
 cop:Int.gcd n d=1
theorem Rt.ext {a b:Rt} (h:a.n=b.n) (k:a.d=b.d):a=b:=by cases a;cases b;simp_all
theorem dH_:F_skewbackref04_one=E (Z.of 1):=rfl
theorem eZ_:F_ratio_one=E (Z.of 1):=rfl
theorem NS:tT=j9:=rfl
theorem YX (a:I):mQ a=a.1.good:=rfl
theorem vD (a:Rt):eE a=aT a:=by
 unfold eE aT;rw [YX,YX,dH_,eZ_]
 cases a.n.1.good<;>cases a.d.1.good<;>rfl
theorem FE (a b:I):cV a b=aW a b:=rfl
theorem er_ (a:W):fI a=cM a:=rfl
theorem XK (a:Rt):n5 a=dM a:=by unfold n5 dM;rw [vD,NS]
theorem R0 (a b:Rt):pN a b=cN a b:=by unfold pN cN;rw [vD,vD,NS];rfl
theorem ep_ {a:Rt}:aT a=true ↔ ∃ n d,Rt.Is a n d:=by
 unfold aT
 constructor
 ·intro h
  cases gn:a.n.1.good<;>cases gd:a.d.1.good<;>simp only [gn,gd,Bool.not_true,Bool.not_false,Bool.or_true,Bool.true_or,Bool.or_false,cond_true,cond_false,Bool.false_eq_true] at h
  obtain ⟨n,hn,en⟩:=SN gn;obtain ⟨d,hd,ed⟩:=SN gd;rw [en,ed] at h;simp only [fA,Bool.and_eq_true,decide_eq_true_eq,uI hd] at h;obtain ⟨h1,h2⟩:=h;have hp:0<d:=Int.sign_pos_iff.1 h1;rw [JF hn hd,dH_] at h2;have h3:=SX (YT hd oo_) B1 (XJ h2);exact ⟨n,d,en,ed,hn,hd,hp,by exact_mod_cast h3⟩
 rintro ⟨n,d,h⟩;rw [h.en,h.ed,DE h.hn,DE h.hd];simp only [Bool.not_true,Bool.or_false,cond_false,fA,Bool.and_eq_true,decide_eq_true_eq,uI h.hd];refine ⟨Int.sign_pos_iff.2 h.pos,?_⟩;rw [JF h.hn h.hd,h.cop];rfl
theorem MJ (v:Int):v.fdiv 1=v:=by rw [Int.fdiv_eq_ediv_of_nonneg _ dd_];exact Int.ediv_one v
theorem br_ {n d:Int} (hn:iE n) (hd:iE d) (hp:0<d) (hc:Int.gcd n d=1):aW (E (Z.of n)) (E (Z.of d))=⟨E (Z.of n),E (Z.of d)⟩:=by
 unfold aW
 have h1:((Z.signW (E (Z.of d)).dec).1==0)=false:=by rw [fA,uI hd,Int.sign_eq_one_of_pos hp];rfl
 have h2:decide ((Z.signW (E (Z.of d)).dec).1<0)=false:=by rw [fA,uI hd,Int.sign_eq_one_of_pos hp];rfl
 rw [DE hn,DE hd,h1,h2,fA,fA,JF hn hd,hc];simp only [Bool.not_true,Bool.or_false,cond_false];rw [show ((1:Nat):Int)=1 from rfl,KA hn B1 dd_,KA hd B1 dd_,MJ,MJ]
theorem GS (b:I):aW (E Z.bad) b=j9:=by unfold aW;rw [QG];rfl
theorem WI (a:I):aW a (E Z.bad)=j9:=by
 unfold aW;rw [QG]
 cases a.1.good<;>rfl
theorem JC {u g:Int} (hg:0<g):u.fdiv g=u / g:=Int.fdiv_eq_ediv_of_nonneg _ (Int.le_of_lt hg)
theorem cg_ {u g:Int} (hu:iE u) (hg:0<g) (hd:g ∣ u):iE (u / g):=by
 obtain ⟨k,rfl⟩:=hd;rw [Int.mul_ediv_cancel_left _ oo_];refine Nat.lt_of_le_of_lt ?_ hu;rw [Int.natAbs_mul];exact Nat.le_mul_of_pos_left _ oo_
theorem ZB {n d:Int} (hn:iE n) (hd:iE d) (hp:0<d) :
  aW (E (Z.of n)) (E (Z.of d))=⟨E (Z.of (n / (Int.gcd n d:Nat))),E (Z.of (d / (Int.gcd n d:Nat)))⟩:=by
 unfold aW
 have h1:((Z.signW (E (Z.of d)).dec).1==0)=false:=by rw [fA,uI hd,Int.sign_eq_one_of_pos hp];rfl
 have h2:decide ((Z.signW (E (Z.of d)).dec).1<0)=false:=by rw [fA,uI hd,Int.sign_eq_one_of_pos hp];rfl
 have hg:0<((Int.gcd n d:Nat):Int):=by
  have:=Int.gcd_pos_of_ne_zero_right n (show d≠0 by omega);omega
 have hb:=YT (u:=n) hd oo_;rw [DE hn,DE hd,h1,h2,fA,fA,JF hn hd];simp only [Bool.not_true,Bool.or_false,cond_false];rw [KA hn hb oo_,KA hd hb oo_,JC hg,JC hg]
theorem DM {n d:Int} (hn:iE n) (hd:iE d) (hp:0<d):Rt.Is (aW (E (Z.of n)) (E (Z.of d))) (n / (Int.gcd n d:Nat)) (d / (Int.gcd n d:Nat)):=by
 have hg:0<((Int.gcd n d:Nat):Int):=by
  have:=Int.gcd_pos_of_ne_zero_right n (show d≠0 by omega);omega
 have d1:((Int.gcd n d:Nat):Int) ∣ n:=Int.gcd_dvd_left ..;have d2:((Int.gcd n d:Nat):Int) ∣ d:=Int.gcd_dvd_right ..;rw [ZB hn hd hp];refine ⟨rfl,rfl,cg_ hn hg d1,cg_ hd hg d2,Int.ediv_pos_of_pos_of_dvd hp oo_ d2,?_⟩;rw [Int.gcd_ediv d1 d2,Int.natAbs_natCast,Nat.div_self oo_]
theorem PN {a b:Rt} {n d m e:Int} (ha:a.Is n d) (hb:b.Is m e) :
  ∃ p q r s:Int,aW a.n b.d=⟨E (Z.of p),E (Z.of q)⟩∧aW b.n a.d=⟨E (Z.of r),E (Z.of s)⟩∧iE p∧iE q∧iE r∧iE s∧0<q∧0<s∧Int.gcd (p*r) (q*s)=1∧n*m*(q*s)=p*r*(d*e):=by
 have h1:=DM ha.hn hb.hd hb.pos;have h2:=DM hb.hn ha.hd ha.pos;have g1:((Int.gcd n e:Nat):Int) ∣ n:=Int.gcd_dvd_left ..;have g2:((Int.gcd n e:Nat):Int) ∣ e:=Int.gcd_dvd_right ..;have g3:((Int.gcd m d:Nat):Int) ∣ m:=Int.gcd_dvd_left ..;have g4:((Int.gcd m d:Nat):Int) ∣ d:=Int.gcd_dvd_right ..;refine ⟨n / (Int.gcd n e:Nat),e / (Int.gcd n e:Nat),m / (Int.gcd m d:Nat),d / (Int.gcd m d:Nat),?_,?_,h1.hn,h1.hd,h2.hn,h2.hd,h1.pos,h2.pos,?_,?_⟩
 ·rw [ha.en,hb.ed];exact Rt.ext h1.en h1.ed
 ·rw [hb.en,ha.ed];exact Rt.ext h2.en h2.ed
 ·generalize hG:((Int.gcd n e:Nat):Int)=G at *
  generalize hH:((Int.gcd m d:Nat):Int)=H at *;have c1:Nat.Coprime (n / G).natAbs (e / G).natAbs:=h1.cop;have c2:Nat.Coprime (m / H).natAbs (d / H).natAbs:=h2.cop;have k1:Nat.Coprime n.natAbs d.natAbs:=ha.cop;have k2:Nat.Coprime m.natAbs e.natAbs:=hb.cop;have d1:(n / G).natAbs ∣ n.natAbs:=Int.natAbs_dvd_natAbs.2 (Int.ediv_dvd_of_dvd g1);have d2:(e / G).natAbs ∣ e.natAbs:=Int.natAbs_dvd_natAbs.2 (Int.ediv_dvd_of_dvd g2);have d3:(m / H).natAbs ∣ m.natAbs:=Int.natAbs_dvd_natAbs.2 (Int.ediv_dvd_of_dvd g3);have d4:(d / H).natAbs ∣ d.natAbs:=Int.natAbs_dvd_natAbs.2 (Int.ediv_dvd_of_dvd g4)
  show Nat.gcd (n / G*(m / H)).natAbs (e / G*(d / H)).natAbs=1
  rw [Int.natAbs_mul,Int.natAbs_mul];have x1:Nat.Coprime (n / G).natAbs (d / H).natAbs:=(k1.coprime_dvd_left d1).coprime_dvd_right d4;have x2:Nat.Coprime (m / H).natAbs (e / G).natAbs:=(k2.coprime_dvd_left d3).coprime_dvd_right d2;exact (Nat.Coprime.mul_right c1 x1).mul_left (Nat.Coprime.mul_right x2 c2)
 obtain ⟨x,hx⟩:=g1;obtain ⟨y,hy⟩:=g2;obtain ⟨z,hz⟩:=g3;obtain ⟨t,ht⟩:=g4
 have p1:0<((Int.gcd n e:Nat):Int):=by have:=Int.gcd_pos_of_ne_zero_right n (show e≠0 by have:=hb.pos;omega);omega
 have p2:0<((Int.gcd m d:Nat):Int):=by have:=Int.gcd_pos_of_ne_zero_right m (show d≠0 by have:=ha.pos;omega);omega
 generalize ((Int.gcd n e:Nat):Int)=G at *;generalize ((Int.gcd m d:Nat):Int)=H at *
 have q1:n / G=x:=by rw [hx];exact Int.mul_ediv_cancel_left _ oo_
 have q2:e / G=y:=by rw [hy];exact Int.mul_ediv_cancel_left _ oo_
 have q3:m / H=z:=by rw [hz];exact Int.mul_ediv_cancel_left _ oo_
 have q4:d / H=t:=by rw [ht];exact Int.mul_ediv_cancel_left _ oo_
 rw [q1,q2,q3,q4,hx,hy,hz,ht];grind
theorem NT (a b:Rt):j4 a b=fJ a b:=by
 unfold j4 fJ;rw [vD,vD,NS,FE,FE]
 cases hga:aT a<;>cases hgb:aT b<;>simp only [Bool.not_true,Bool.not_false,Bool.or_true,Bool.true_or,Bool.or_false,cond_true,cond_false]
 obtain ⟨n,d,ha⟩:=ep_.1 hga;obtain ⟨m,e,hb⟩:=ep_.1 hgb;obtain ⟨p,q,r,s,e1,e2,hp,hq,hr,hs,q0,s0,hc,_⟩:=PN ha hb;rw [e1,e2];simp only [fA,BX hp hr,BX hq hs]
 by_cases b1:iE (p*r)
 ·by_cases b2:iE (q*s)
  ·rw [br_ b1 b2 (Int.mul_pos q0 s0) hc,XZ b1,XZ b2];rfl
  rw [ZN b2,WI,c8_,Bool.or_true];rfl
 rw [ZN b1,GS];rfl
theorem f9_ {x:I} (h:gdI x=true):∃ v:Int,iE v∧x=E (Z.of v):=SN (by unfold R.good;exact h)
theorem dm_ {v:Int} (h:iE v):gdI (E (Z.of v))=true:=by have:=DE h;unfold R.good at this;exact this
def vI (x:I):Int:=x.dec.o.getD 0
theorem el_ {v:Int} (h:iE v):vI (E (Z.of v))=v:=by unfold vI;rw [fA,Z.of_some h];rfl
theorem ck_ {x:I} (h:gdI x=true):x=E (Z.of (vI x))∧iE (vI x):=by
 obtain ⟨v,hv,rfl⟩:=f9_ h;rw [el_ hv];exact ⟨rfl,hv⟩
theorem fU_ {v:Int} (h:iE v):zrI (E (Z.of v))=decide (v=0):=by
 unfold zrI;rw [fA,uI h]
 by_cases h0:v=0
 ·subst h0;rfl
 rw [decide_eq_false h0];exact beq_eq_false_iff_ne.2 (fun hs=>h0 (Int.sign_eq_zero_iff_zero.1 hs))
def Rgt (p:List I):Prop:=p=badp∨(p.all gdI=true∧oA p=p∧p.length≤25)
theorem KQ (l:List I):oA (oA l)=oA l:=by
 suffices ∀ n (l:List I),l.length≤n→oA (oA l)=oA l from this _ l (Nat.le_refl _)
 intro n
 induction n with
 | zero=>intro l h;rw [List.eq_nil_of_length_eq_zero (show l.length=0 by omega)];rfl
 | succ n ih =>
  intro l h;rcases zK l with rfl|⟨m,x,rfl⟩
  ·rfl
  have hs:=xI m x
  cases hx:zrI x
  ·rw [hx,cond_false] at hs;rw [hs,hs]
  rw [hx,cond_true] at hs;rw [hs];exact ih m (by simp only [List.length_append,List.length_cons,List.length_nil] at h;omega)
theorem ND {l:List I} (h:l.all gdI=true):(oA l).all gdI=true:=by
 rw [yU];rw [List.all_eq_true] at h ⊢;exact fun x hx=>h x (List.mem_of_mem_take hx)
theorem UL (l:List I):Rgt (mkP l):=by
 unfold mkP
 cases h:l.all gdI
 ·exact .inl O
 simp only [cond_true]
 split
 ·rename_i h2;exact .inr ⟨ND h,KQ l,h2⟩
 exact .inl O
theorem TQ {m:List I} {x:I} (h:oA (m++[x])=m++[x]):zrI x=false:=by
 cases hx:zrI x
 ·rfl
 rw [xI,hx,cond_true] at h;have:=KR m;rw [h] at this;simp only [List.length_append,List.length_cons,List.length_nil] at this;omega
theorem oQ (l:List W):Rgt (dN l):=by unfold dN;rw [GM];exact UL _
theorem pJ (p q:List I):Rgt (bF p q):=by
 unfold bF
 cases (gY p||gY q)
 ·simp only [cond_false]
  cases (((p.length:Int)==0)||((q.length:Int)==0))
  ·rw [cond_false,zA];exact UL _
  exact .inr ⟨rfl,rfl,Nat.zero_le _⟩
 exact .inl O
theorem M8 (a:List I):∀ (k i:Nat),∃ j,jG a a k i = .inl j
 | 0,i=>⟨i,rfl⟩
 | k+1,i=>by
  unfold jG;rw [decide_eq_true O]
  cases decide ((i:Int)<(a.length:Int))
  ·exact ⟨i,rfl⟩
  exact M8 a k (i+1)
theorem VQ (a:List I):kJ a a=true:=by
 unfold kJ;obtain ⟨j,h⟩:=M8 a (a.length+1) 0;rw [h,bne_self_eq_false];rfl
end Go.Num
namespace Go.Proofs.YtbjlhfochebmiaaGreatDoor
open Go.Kn Go.Num Tryz
attribute [local irreducible] Go.Kn.W WL PL OpQ OpR OpS
theorem CN (p:Pose) (p_c:Option Addr) (c_c:Nat) (c:(List (A3 W))) (w:World) (hc:Slr w elV (.slice p_c c.length c_c) c) (hpre:c.length≤1000) :
    Calls prog 23 [AV [cw p.x.x.1,cw p.x.y.1,cw p.x.z.1,cw p.q.x.1,cw p.q.y.1,cw p.q.z.1,cw p.q.t.1],AV [csl p_c c.length c_c]].toArray w (fun e w'=>∃ v,e = .returned (v)∧Ext w w'∧Slo w.heap.size w' 42 oO v (aA p c)):=by
 refine eQ (n:=23) (fun v=>v) func23 O O zz_ ?_;obtain ⟨w0,rfl⟩:=nm w;have Hc:=hc.old;have hm_c:=hc.max;refine giI ?_;refine go2 ?_;intro b1 hb1;refine go_ ?_;intro b2 hb2;refine go9 ?_;refine sQ (dV iV O (SLe.sub Hc sn)) O (go2 ?_);refine gJ3 (rg [5,7] 11 11) (fun g M=>∃ (out:List (A3 Rt)) (p_out:Option Addr) (c_out:Nat) (L_out:List Blk),(k9 p c c ([]:List (A3 Rt)))=out∧(g 5 = .slice p_out out.length c_out∧OwnG w0 42 oO (.slice p_out out.length c_out) out L_out)∧M=(L_out++(⟨b2,52,bB [csl p_c c.length c_c]⟩::(⟨b1,27,bB [cw p.x.x.1,cw p.x.y.1,cw p.x.z.1,cw p.q.x.1,cw p.q.y.1,cw p.q.z.1,cw p.q.t.1]⟩::[])))) (fun K_u3 hK_u3=>?_) ?_
 ·refine go_ ?_;have hmx0:(c).length≤9223372036854775807:=hm_c;refine cE (rg [5,7] 11 11) (fun g nn M=>∃ (i0:Nat) (l0:List (A3 W)) (out:List (A3 Rt)) (p_out:Option Addr) (c_out:Nat) (L_out:List Blk),(k9 p c l0 out)=(k9 p c c ([]:List (A3 Rt)))∧(c).drop i0=l0∧l0.length=nn∧g 11 = .int .i64 (i0:Int)∧(out.length=i0)∧(g 5 = .slice p_out out.length c_out∧OwnG w0 42 oO (.slice p_out out.length c_out) out L_out)∧M=(L_out++(⟨b2,52,bB [csl p_c c.length c_c]⟩::(⟨b1,27,bB [cw p.x.x.1,cw p.x.y.1,cw p.x.z.1,cw p.q.x.1,cw p.q.y.1,cw p.q.z.1,cw p.q.t.1]⟩::[])))) c.length ?start ?round
  case start=>exact ⟨_,s0,0,c,([]:List (A3 Rt)),none,0,[],rfl,rfl,rfl,rfl,rfl,⟨rfl,OwnG.nil⟩,rfl⟩
  case round =>
   rintro nn g M ⟨i0,l0,out,p_out,c_out,L_out,hT0,hr0,rfl,hgi,hli0,⟨hg5,hO_out⟩,rfl⟩;refine gS2 hgi hg5 ?_;clear hgi hg5;have hm_out:=OwnG.max hO_out;refine go4 ?_;rcases l0 with _|⟨x0,l0⟩
   ·have h14:=FM hr0;refine W_f h14 O (go_ ?_);refine hK_u3 _ _ pp_ ⟨_,s0,out,p_out,c_out,L_out,(by exact hT0.symm.trans (Eq.symm rfl)),⟨rfl,hO_out⟩,rfl⟩
   have h15:=DB hr0;have g16:=yX hr0;refine W_t h15 O (go4 ?_);refine sQ (aM (v':=.pointer (some (slb (.slice p_c c.length c_c) (i0*3+0)))) (eD (e:=elV) (l:=c) (k:=i0) iV O O (SLe.sub Hc sn) g16.2.1) O) O (sQ (gE (e:=elV) (l:=c) (k:=i0) (o:=0) tyT O (SLe.sub Hc sn) g16.1 O) O (go_ ?_));intro b17 hb17;refine go6 ?_;obtain ⟨r18,hr18⟩:=nm ((cQ p x0):(A3 Rt));refine sC (AV [pI r18.x.n,pI r18.x.d,pI r18.y.n,pI r18.y.d,pI r18.z.n,pI r18.z.d]) aE (zC p x0) O O (by rw [hr18]) (aY O (cA [[pI r18.x.n,pI r18.x.d,pI r18.y.n,pI r18.y.d,pI r18.z.n,pI r18.z.d]] [pI r18.x.n,pI r18.x.d,pI r18.y.n,pI r18.y.d,pI r18.z.n,pI r18.z.d] VJ fT_ cG_ O dd_ O O ⟨rfl,rfl,rfl,trivial⟩ O (fun b19 hb19=>aY O (kG (e:=oO) (l:=out) (m:=[r18]) 408 VJ (by kernel_rfl) dd_ O O hO_out (SLe.lit (e:=oO) (l:=[r18]) m0 O (Nat.le_of_ble_eq_true O) O) (rY (rY nH)) (by show (out.length+1)*408≤_;(try simp only [List.length_append,List.length_cons,List.length_nil]);omega) dd_ (fun p20 c21 L22 hO23=>go3 ?_)))));refine sV (.int .i64 ((i0+1:Nat):Int)) O (congrArg (Value.int .i64) (nxt g16.2.1 hmx0)) (go2 ?_);refine ⟨pp_,_,_,(sA (sd (sd s0))),(Nat.lt_succ_self _),i0+1,l0,(out++[r18]),p20,c21,L22,(by obtain rfl:=hr18.symm;exact (hT0.symm.trans (Eq.symm rfl)).symm),g16.2.2,rfl,rfl,(by rw [List.length_append];show _+1=_;omega),⟨rfl,hO23⟩,rfl⟩
 rintro g M ⟨out,p_out,c_out,L_out,hCu3,⟨hg5,hO_out⟩,rfl⟩;refine gS1 hg5 ?_;clear hg5;have hm_out:=OwnG.max hO_out;refine go5 ?_;refine rt1 ?_
 have hE:(out:(List (A3 Rt)))=(aA p c):=by exact (by unfold aA;exact trs (Eq.symm (apS hCu3)) O)
 rw [← hE];exact ⟨_,rfl,⟨L_out,lZ,hO_out⟩⟩
end Go.Proofs.YtbjlhfochebmiaaGreatDoor
namespace Go.Num
open Go Go.Kn
theorem WW {a:Rt} (h:aT a=true):cfP (cfN a.d) a.d:=by
 unfold aT at h
 cases h1:(!a.n.1.good||(!a.d.1.good))
 ·rw [h1,cond_false] at h
  simp only [Bool.and_eq_true,decide_eq_true_eq] at h;exact VV h.1
 rw [h1,cond_true] at h;cases h
theorem by_ {a b:Bool} (h:(!a || !b)=false):a=true:=by cases a with|true=>rfl|false=>cases h
theorem QC (n m:Bool) {x y:Nat} (hy:0<y):(sgn n x).fmod (sgn m y)=if n≠m∧x % y≠0 then sgn m (y - x % y) else sgn m (x % y):=by
 rw [Int.fmod_def,JD n m hy];have h1:=Nat.div_add_mod x y;have h2:=Nat.mod_lt x hy
 have e:(x:Int)=(y:Int)*((x / y:Nat):Int)+((x % y:Nat):Int):=by exact_mod_cast h1.symm
 have e2:(y:Int)*(-((x / y:Nat):Int) - 1) = -((y:Int)*((x / y:Nat):Int)) - y:=by grind
 have e3:(y:Int)*(-((x / y:Nat):Int)) = -((y:Int)*((x / y:Nat):Int)):=by grind
 have e4:(-(y:Int))*(-((x / y:Nat):Int) - 1)=((y:Int)*((x / y:Nat):Int))+y:=by grind
 have e5:(-(y:Int))*(-((x / y:Nat):Int))=((y:Int)*((x / y:Nat):Int)):=by grind
 have e6:(-(y:Int))*((x / y:Nat):Int) = -((y:Int)*((x / y:Nat):Int)):=by grind
 cases n<;>cases m<;>by_cases h0:x % y=0<;>simp only [u7,uU,reduceIte,Bool.false_eq_true,Bool.true_eq_false,reduceCtorEq,ne_eq,not_true_eq_false,not_false_eq_true,false_and,true_and,and_self,h0]<;>omega
theorem dV_ {x y:W} (hx:-4611686018427387904<x.1∧x.1<4611686018427387904) (hy:-4611686018427387904<y.1∧y.1<4611686018427387904) (h0:y.1≠0) (hf:x.1.fdiv y.1=(W.fdiv x y).1) :
  (W.sub x (W.mul y (W.fdiv x y))).1=x.1.fmod y.1:=by
 have e:x.1.fmod y.1=x.1 - y.1*x.1.fdiv y.1:=Int.fmod_def ..
 have hb:(x.1.fmod y.1).natAbs<y.1.natAbs:=by
  rcases Int.lt_or_gt_of_ne h0 with h|h
  ·have h1:=Int.fmod_nonneg_of_pos (-x.1) (show 0 < -y.1 by omega)
   have h2:=Int.fmod_lt_of_pos (-x.1) (show 0 < -y.1 by omega);rw [Int.neg_fmod_neg] at h1 h2;omega
  have h1:=Int.fmod_nonneg_of_pos x.1 h;have h2:=Int.fmod_lt_of_pos x.1 h;omega
 show IntKind.i64.wrap (x.1 - IntKind.i64.wrap (y.1*(W.fdiv x y).1))=_
 rw [← hf,cL (n:=y.1*x.1.fdiv y.1) (by unfold I64;omega),← e,cL (by unfold I64;omega)]
theorem WX {a b:R} (ha:a.Ok) (hb:b.Ok) (h:jQ a=true) (k:jQ b=true) (h0:lM b≠0):Z.of ((lM a).fmod (lM b))=Z.rem a.dec b.dec:=by
 rw [Z.rem,dZ (nW ha h).1 (nW hb k).1,if_neg h0]
theorem cA_ {a b:R} (h:a.good=false∨b.good=false):Z.bad=Z.rem a.dec b.dec:=by
 rw [Z.rem,o0 (h.imp HU HU)]
theorem ff_ {a b:R} (ha:a.Ok) (hb:b.Ok) (ga:a.good=true) (gb:b.good=true) (h:val b.w=0):Z.bad=Z.rem a.dec b.dec:=by
 rw [Z.rem,dZ (cU ha ga) (cU hb gb),if_pos (by rw [h];cases b.neg<;>rfl)]
theorem dT_ {a b:R} (ha:a.Ok) (hb:b.Ok) (ga:a.good=true) (gb:b.good=true) (h0:val b.w≠0) (h:a.neg=b.neg∨val a.w % val b.w=0):Z.of (sgn b.neg (val a.w % val b.w))=Z.rem a.dec b.dec:=by
 have hp:0<val b.w:=Nat.pos_of_ne_zero h0;rw [Z.rem,dZ (cU ha ga) (cU hb gb),if_neg (GY hp),QC _ _ hp,if_neg];rintro ⟨h1,h2⟩;exact h.elim h1 h2
theorem bN_ {a b:R} (ha:a.Ok) (hb:b.Ok) (ga:a.good=true) (gb:b.good=true) (h0:val b.w≠0) (hn:a.neg≠b.neg) (h:val a.w % val b.w≠0):Z.of (sgn b.neg (val b.w - val a.w % val b.w))=Z.rem a.dec b.dec:=by
 have hp:0<val b.w:=Nat.pos_of_ne_zero h0;rw [Z.rem,dZ (cU ha ga) (cU hb gb),if_neg (GY hp),QC _ _ hp,if_pos ⟨hn,h⟩]
theorem BR (a b:I):mD a b=E (Z.rem a.dec b.dec):=by
 unfold mD;rw [dv_]
 show _=E (Z.rem a.1.dec b.1.dec)
 cases hw:(jQ a.1&&(jQ b.1&&((eK b).1 != 0)))
 ·rw [cond_false]
  cases hg:(!a.1.good||(!b.1.good||(val b.1.w==0)))
  ·rw [cond_false]
   simp only [Bool.or_eq_false_iff,Bool.not_eq_false',beq_eq_false_iff_ne] at hg;obtain ⟨ga,gb,h0⟩:=hg
   cases hc:((a.1.neg != b.1.neg)&&decide ((0:Int)<((dl (val a.1.w % val b.1.w)).length:Int)))
   ·rw [cond_false,dT_ a.2 b.2 ga gb h0]
    rw [Bool.and_eq_false_iff] at hc;rcases hc with hc|hc
    ·exact .inl (by simpa using hc)
    right
    have:=of_decide_eq_false hc;exact N6.1 oo_
   rw [cond_true,bN_ a.2 b.2 ga gb h0]
   ·rw [Bool.and_eq_true] at hc;simpa using hc.1
   rw [Bool.and_eq_true] at hc;have:=of_decide_eq_true hc.2;intro h;rw [h,rQ] at this;exact absurd this dd_
  rw [cond_true]
  cases ga:a.1.good
  ·rw [cA_ (.inl ga)]
  ·cases gb:b.1.good
   ·rw [cA_ (.inr gb)]
   rw [ga,gb] at hg;rw [ff_ a.2 b.2 ga gb (by simpa using hg)]
 rw [cond_true];have hf:=OH hw;rw [Bool.and_eq_true,Bool.and_eq_true] at hw
 show E (Z.of (W.sub (eK a) (W.mul (eK b) (W.fdiv (eK a) (eK b)))).1)=_
 rw [dV_ (nW a.2 hw.1).2.2.2 (nW b.2 hw.2.1).2.2.2 hf.2.1 hf.2.2];exact congrArg E (WX a.2 b.2 hw.1 hw.2.1 hf.2.1)
end Go.Num
namespace Go.Proofs.YtbjlhfochebmiaaGreatDoor
open Go.Kn Go.Num Tryz
attribute [local irreducible] Go.Kn.W WL PL OpQ OpR OpS
theorem CY (a:I) (b:I) :
    Ret prog 112 [AV [pI a],AV [pI b]] (AV [pI (mD a b)]):=by
 refine bA (N:=78) func112 O O zz_ (fun w0=>?_);refine giI ?_;refine go2 ?_;intro b1 hb1;refine go_ ?_;intro b2 hb2;refine go_ ?_;intro b3 hb3;refine go3 ?_;refine sC (.tuple #[.int .i64 ((eK a).1),.bool (jQ a.1)]) aE (hJ a.1 a.2) O O O (go8 ?_);refine sC (.tuple #[.int .i64 ((eK b).1),.bool (jQ b.1)]) aE (hJ b.1 b.2) O O O (go7 ?_);refine gJv (rg [] 21 8) [(28,.bool ((jQ a.1)&&((jQ b.1)&&((eK b).1 != 0))))] (fun K2 J2=>?_) ?_
 ·refine go2 ?_;refine sBB O (fun h6=>?_) (fun h6=>?_)
  ·refine go2 ?_;refine sBB O (fun h7=>?_) (fun h7=>?_)
   ·refine go4 ?_;refine J2 _ _ pp_ s0 (bQ (lS h6 (lS h7 O)))
   refine go4 ?_;refine J2 _ _ pp_ s0 (bQ (lS h6 (oY h7)))
  refine go7 ?_;refine J2 _ _ pp_ s0 (bQ (oY h6))
 intro g8;refine aL _ O (fun h9=>?_) (fun h9=>?_)
 ·refine go3 ?_;have hfl:=OH h9;refine go2 ?_;refine sC (.int .i64 ((W.fdiv (eK a) (eK b)).1)) aE (vQ (eK a).1 (eK b).1 (eK a).2 hfl.1 hfl.2.1) O O (congrArg (Value.int .i64) hfl.2.2) (sV (.int .i64 ((W.mul (eK b) (W.fdiv (eK a) (eK b))).1)) O O (sV (.int .i64 ((W.sub (eK a) (W.mul (eK b) (W.fdiv (eK a) (eK b)))).1)) O O ?_));obtain ⟨r10,hr10⟩:=nm ((E (Z.of (W.sub (eK a) (W.mul (eK b) (W.fdiv (eK a) (eK b)))).1)):I);refine sC (AV [pI r10]) aE (bW (W.sub (eK a) (W.mul (eK b) (W.fdiv (eK a) (eK b)))).1 (W.sub (eK a) (W.mul (eK b) (W.fdiv (eK a) (eK b)))).2) O O (by subst hr10;rfl) (go3 ?_);refine rtX O (eR O m0 tyT O) ?_;exact (by subst hr10;exact congrArg vS4 (show _=(mD a b) from aQ h9 O))
 refine go2 ?_;refine gJv (rg [] 37 14) [(50,.bool (!a.1.good||(!b.1.good||(((dl (val b.1.w)).length:Int)==0))))] (fun K4 J4=>?_) ?_
 ·refine go2 ?_;refine sC (.bool a.1.good) aE (cB a.1 a.2) O O O (go_ ?_);rcases bt a.1.good with h14|h14
  ·refine sB (gG h14) O (go_ ?_);refine sC (.bool b.1.good) aE (cB b.1 b.2) O O O (go2 ?_);rcases bt b.1.good with h15|h15
   ·refine sB (gG h15) O (go_ ?_);refine aY O (fL aE O (fun w hw=>cC b.1 b.2 w) (fun vl16 Ll16 kl16=>?_))
    try simp only [gB,nM] at kl16
    refine sQ (aM (v':=.int .i64 ((dl (val b.1.w)).length:Int)) (oT j7 O (SL.sub kl16.sl lZ)) O) O (go3 ?_);refine J4 _ _ pp_ (sR s0) (bQ (nO h14 (nO h15 O)))
   refine sB (gD h15) O (go6 ?_);refine J4 _ _ pp_ s0 (bQ (nO h14 (rZ h15)))
  refine sB (gD h14) O (wH ?_);refine J4 _ _ pp_ s0 (bQ (rZ h14))
 intro g17;refine aL _ O (fun h18=>?_) (fun h18=>?_)
 ·refine go_ ?_;refine sC (AV [pI (E Z.bad)]) aE dS O O O (go3 ?_);refine rtX O (eR O m0 tyT O) ?_;exact congrArg vS4 (show _=(mD a b) from aN h9 (aQ h18 O))
 refine go_ ?_;refine gds sn [0,8,5,13,17,20,24,28,32,36] [] mix (by kernel_rfl) (go2 ?_);refine cJ O O (fL aE O (fun w hw=>cC a.1 a.2 w) (fun vl19 Ll19 kl19=>⟨(fun _=>sR s0),sn,?_⟩))
 try simp only [gB,nM] at kl19
 refine cJ O O (fL aE O (fun w hw=>cC b.1 b.2 w) (fun vl20 Ll20 kl20=>⟨(fun _=>sR s0),sn,?_⟩))
 try simp only [gB,nM] at kl20
 have hB:=cm_ h18;refine cJ O O (EG aE O (fun w hw=>oJ vl19 vl20 (val a.1.w) (val b.1.w) hB (Nat.le_trans (iC (k:=32) (tK a.2)) dd_) (Nat.le_trans (iC (k:=32) (tK b.2)) dd_) w (SL.sl (SL.sub kl19.sl (sR lZ)) hw) (SL.sl (SL.sub kl20.sl lZ) hw)) (fun vl21_0 vl21_1 Ll21 kl21_0 kl21_1=>⟨(fun _=>sR s0),sn,?_⟩))
 try simp only [gB,nM] at kl21_0 kl21_1
 refine go7 ?_;refine gJv (rg [] 60 10) [(69,.bool ((a.1.neg != b.1.neg)&&decide (0<((dl ((val a.1.w) % (val b.1.w))).length:Int))))] (fun K6 J6=>?_) ?_
 ·refine go5 ?_;refine sQ (aM (v':=.bool (a.1.neg != b.1.neg)) (xF E0 O O) O) O ?_;refine sBB O (fun h23=>?_) (fun h23=>?_)
  ·refine go_ ?_;refine sQ (aM (v':=.int .i64 ((dl ((val a.1.w) % (val b.1.w))).length:Int)) (oT j7 O (SL.sub kl21_1 lZ)) O) O (go3 ?_);refine J6 _ _ pp_ s0 (bQ (lS h23 O))
  refine go5 ?_;refine J6 _ _ pp_ s0 (bQ (oY h23))
 intro g24;refine aL _ O (fun h25=>?_) (fun h25=>?_)
 ·refine go2 ?_;refine aY O (fL aE O (fun w hw=>cC b.1 b.2 w) (fun vl26 Ll26 kl26=>?_))
  try simp only [gB,nM] at kl26
  refine go_ ?_;refine aY O (fL aE O (fun w hw=>nD vl26 vl21_1 (dl (val b.1.w)) (dl ((val a.1.w) % (val b.1.w))) (kV _) (kV _) (Nat.le_trans (iC (k:=32) (tK b.2)) dd_) (Nat.le_trans (iC (k:=32) (eH_ (tK a.2))) dd_) (by simp only [gB,nM];exact (Nat.le_of_lt (Nat.mod_lt _ hB))) w (SL.sl (SL.sub kl26.sl lZ) hw) (SL.sl (SL.sub kl21_1 (sR lZ)) hw)) (fun vl27 Ll27 kl27=>?_))
  try simp only [gB,nM] at kl27
  refine go6 ?_;refine sQ (aM (v':=AV [pI (E (Z.of (sgn b.1.neg ((val b.1.w) - ((val a.1.w) % (val b.1.w))))))]) (dF aE O (fun w hw=>eA b.1.neg vl27 (dl ((val b.1.w) - ((val a.1.w) % (val b.1.w)))) (kV _) (Nat.le_trans (iC (k:=32) (dj_ (tK b.2))) dd_) w (SL.sl (SL.sub kl27.sl lZ) hw))) (by rw [(gB _)];rfl)) O (go3 ?_);refine rtX O (eR O (mA (mA (mA (mA (mA mZ))))) tyT O) ?_;exact congrArg vS4 (show _=(mD a b) from aN h9 (aN h18 (aQ h25 O)))
 refine go5 ?_;refine sQ (aM (v':=AV [pI (E (Z.of (sgn b.1.neg ((val a.1.w) % (val b.1.w)))))]) (dF aE O (fun w hw=>eA b.1.neg vl21_1 (dl ((val a.1.w) % (val b.1.w))) (kV _) (Nat.le_trans (iC (k:=32) (eH_ (tK a.2))) dd_) w (SL.sl (SL.sub kl21_1 lZ) hw))) (by rw [(gB _)];rfl)) O (go3 ?_);refine rtX O (eR O (mA (mA (mA mZ))) tyT O) ?_;exact congrArg vS4 (show _=(mD a b) from aN h9 (aN h18 (aN h25 O)))
theorem wZ (a b:R) (ha:a.Ok) (hb:b.Ok):Ret prog 112 [RV a,RV b] (RV (Z.rem a.dec b.dec).enc):=by
 have h:=CY ⟨a,ha⟩ ⟨b,hb⟩;rw [BR] at h;exact h
theorem w4 (a:Rt) (b:Rt) :
    Ret prog 46 [AV [pI a.n,pI a.d],AV [pI b.n,pI b.d]] (.int .i64 ((kA a b).1)):=by
 refine bA (N:=95) func46 O O zz_ (fun w0=>?_);refine giI ?_;refine go2 ?_;intro b1 hb1;refine go_ ?_;intro b2 hb2;refine go4 ?_;refine sQ (aX aE (fD a) O) O (go4 ?_);refine sQ (aX aE (fD b) O) O (go3 ?_);refine gJv [17,18,19,20,21,22] [(22,.bool (!(aT a)||(!(aT b))))] (fun K2 J2=>?_) ?_
 ·refine go3 ?_;rcases bt (aT a) with h4|h4
  ·refine sB (gG h4) O (go4 ?_);refine J2 _ _ pp_ s0 (bQ (nO h4 O))
  refine sB (gD h4) O (go4 ?_);refine J2 _ _ pp_ s0 (bQ (rZ h4))
 intro g5;refine aL _ O (fun h6=>?_) (fun h6=>?_)
 ·refine mS (sk (sk s0)) 8 [] [] (go2 ?_);refine pQ O (aX aE (wS a (aT a)) O) (go2 ?_);refine pQ O (aX aE (wS b (aT b)) O) ?_;obtain ⟨r7,hr7⟩:=nm ((Z.cmpW (gJ a (aT a)).dec (gJ b (aT b)).dec):W);refine pC (.int .i64 r7.1) aE (qN (gJ a (aT a)).1 (gJ b (aT b)).1 (gJ a (aT a)).2 (gJ b (aT b)).2) O O (by rw [hr7];first|done|rfl) (go3 ?_);refine rt1 ?_;exact (by subst hr7;exact congrArg vS7 (show _=(kA a b) from aQ h6 O))
 refine wH ?_;intro b8 hb8;refine go9 ?_;intro b9 hb9;refine go3 ?_;refine cE (rg [4,7,10,11,12] 40 55) (fun g nn M=>∃ (o:W) (x:(A2 I)) (y:(A2 I)) (k:Nat),(g 7 = .int .i64 o.1)∧M=[⟨b9,124,bB [pI y.x,pI y.y]⟩,⟨b8,124,bB [pI x.x,pI x.y]⟩,⟨b2,35,bB [pI b.n,pI b.d]⟩,⟨b1,35,bB [pI a.n,pI a.d]⟩]∧nn=k∧(cf k o x.x x.y y.x y.y=cf (cfN a.d) (wl 1) a.n a.d b.n b.d∧cfP k x.y)) (cfN a.d) ?start ?round
 case start =>
  refine ⟨_,s0,(wl 1),(⟨a.n,a.d⟩:(A2 I)),(⟨b.n,b.d⟩:(A2 I)),(cfN a.d),?a7,rfl,rfl,⟨rfl,WW (by_ h6)⟩⟩
  case a7=>rfl
 case round =>
  rintro nn g M ⟨o,x,y,k,hg7,rfl,hmeas,hinv⟩;subst nn;refine gS1 hg7 ?_;clear hg7;obtain ⟨m,rfl⟩:=X3 hinv.2;refine go6 ?_;refine sC (AV [pI (E (Z.quo x.x.dec x.y.dec))]) aE (fY x.x.1 x.y.1 x.x.2 x.y.2) O O O (go_ ?_);intro b10 hb10;refine go7 ?_;refine sC (AV [pI (E (Z.quo y.x.dec y.y.dec))]) aE (fY y.x.1 y.y.1 y.x.2 y.y.2) O O O (go_ ?_);intro b11 hb11;refine go5 ?_;refine sC (.int .i64 ((Z.cmpW (Z.quo x.x.dec x.y.dec) (Z.quo y.x.dec y.y.dec)).1)) aE (qN (E (Z.quo x.x.dec x.y.dec)).1 (E (Z.quo y.x.dec y.y.dec)).1 (E (Z.quo x.x.dec x.y.dec)).2 (E (Z.quo y.x.dec y.y.dec)).2) O O (cg2 (fun p q=>Value.int .i64 (Z.cmpW p q).1) (fA _) (fA _)) (go7 ?_);refine aL _ O (fun h12=>?_) (fun h12=>?_)
  ·refine go3 ?_;refine sV (.int .i64 ((W.mul o (Z.cmpW (Z.quo x.x.dec x.y.dec) (Z.quo y.x.dec y.y.dec))).1)) O O (go3 ?_);refine rt1 ?_;exact congrArg vS7 (show _=(kA a b) from aN h6 (f4_ hinv.1 h12))
  refine go_ ?_;refine gds (sk (sk (sk (sd (sk (sk s0)))))) [0,4,8,12,16,20,24,28,33] [8] mix (by kernel_rfl) (go6 ?_);refine pC (AV [pI (E (Z.rem x.x.dec x.y.dec))]) aE (wZ x.x.1 x.y.1 x.x.2 x.y.2) O O O (pQ O (o4 zpT arT O (.cons [pI x.y] [pI x.y,pI I0] O O O O (.cons [pI (E (Z.rem x.x.dec x.y.dec))] [pI x.y,pI (E (Z.rem x.x.dec x.y.dec))] O O O O (.nil _)))) (go2 ?_));refine gds (sk (sk (sd (sk (sk (sk s0)))))) [0,4,8,12,16,20,24,28,33] [8] mix (by kernel_rfl) (go6 ?_);refine pC (AV [pI (E (Z.rem y.x.dec y.y.dec))]) aE (wZ y.x.1 y.y.1 y.x.2 y.y.2) O O O (pQ O (o4 zpT arT O (.cons [pI y.y] [pI y.y,pI I0] O O O O (.cons [pI (E (Z.rem y.x.dec y.y.dec))] [pI y.y,pI (E (Z.rem y.x.dec y.y.dec))] O O O O (.nil _)))) (go3 ?_));refine gJv (rg [] 74 10) [(83,.bool (((Z.signW (Z.rem x.x.dec x.y.dec)).1==0)||((Z.signW (Z.rem y.x.dec y.y.dec)).1==0)))] (fun K5 J5=>?_) ?_
  ·refine go3 ?_;refine sC (.int .i64 ((Z.signW (Z.rem x.x.dec x.y.dec)).1)) aE (gH (E (Z.rem x.x.dec x.y.dec)).1 (E (Z.rem x.x.dec x.y.dec)).2) O O (cg1 (fun p=>Value.int .i64 (Z.signW p).1) (fA _)) (go_ ?_);refine sBB O (fun h14=>?_) (fun h14=>?_)
   ·refine go6 ?_;refine J5 _ _ pp_ s0 (bQ (o9 h14))
   refine go2 ?_;refine sC (.int .i64 ((Z.signW (Z.rem y.x.dec y.y.dec)).1)) aE (gH (E (Z.rem y.x.dec y.y.dec)).1 (E (Z.rem y.x.dec y.y.dec)).2) O O (cg1 (fun p=>Value.int .i64 (Z.signW p).1) (fA _)) (go3 ?_);refine J5 _ _ pp_ s0 (bQ (nA h14 O))
  intro g15;refine aL _ O (fun h16=>?_) (fun h16=>?_)
  ·refine gds (sk (sk (sk (sk (sk (sk s0)))))) [0,4,8,12,16,20,24,28,32,36] [] mix (by kernel_rfl) (go3 ?_);refine pC (.int .i64 ((Z.signW (Z.rem x.x.dec x.y.dec)).1)) aE (gH (E (Z.rem x.x.dec x.y.dec)).1 (E (Z.rem x.x.dec x.y.dec)).2) O O (cg1 (fun p=>Value.int .i64 (Z.signW p).1) (fA _)) (go2 ?_);refine pC (.int .i64 ((Z.signW (Z.rem y.x.dec y.y.dec)).1)) aE (gH (E (Z.rem y.x.dec y.y.dec)).1 (E (Z.rem y.x.dec y.y.dec)).2) O O (cg1 (fun p=>Value.int .i64 (Z.signW p).1) (fA _)) (pV (.int .i64 ((W.sub (Z.signW (Z.rem x.x.dec x.y.dec)) (Z.signW (Z.rem y.x.dec y.y.dec))).1)) O O (pV (.int .i64 ((W.mul o (W.sub (Z.signW (Z.rem x.x.dec x.y.dec)) (Z.signW (Z.rem y.x.dec y.y.dec)))).1)) O O (go3 ?_)));refine rt1 ?_;exact congrArg vS7 (show _=(kA a b) from aN h6 (f6_ hinv.1 h12 h16))
  refine go3 ?_;refine sV (.int .i64 ((W.neg o).1)) O O (go2 ?_);refine ⟨pp_,_,_,(sd (sd s0)),(Nat.lt_succ_self m),(W.neg o),(⟨x.y,(E (Z.rem x.x.dec x.y.dec))⟩:(A2 I)),(⟨y.y,(E (Z.rem y.x.dec y.y.dec))⟩:(A2 I)),m,?s7,rfl,rfl,f5_ hinv h12 h16⟩
  case s7=>rfl
theorem vE (a:Rt) :
   Ret prog 93 [AV [pI a.n,pI a.d]] (AV [pI (bE a)]):=by
 refine bA (N:=12) func93 O O zz_ (fun w0=>?_);refine giI ?_;refine go2 ?_;intro b1 hb1;refine go_ ?_;intro b2 hb2;refine go4 ?_;refine sQ (aX aE (oU a) O) O (go2 ?_);rcases bt (eE a) with h3|h3
 ·refine W_f (gG h3) O (go6 ?_);refine sC (AV [pI (E (Z.quo a.n.dec a.d.dec))]) aE (pU a.n.1 a.d.1 a.n.2 a.d.2) O O O (go3 ?_);refine rtX O (eR O m0 tyT O) ?_;exact congrArg vS4 (show _=(bE a) from aQ h3 O)
 refine W_t (gD h3) O (go_ ?_);refine sC (AV [pI (E Z.bad)]) aE gQ O O O (go3 ?_);refine rtX O (eR O m0 tyT O) ?_;exact congrArg vS4 (show _=(bE a) from aN h3 O)
theorem o5 (a:Rt) :
   Ret prog 97 [AV [pI a.n,pI a.d]] (AV [pI (bU a)]):=by
 refine bA (N:=12) func97 O O zz_ (fun w0=>?_);refine giI ?_;refine go2 ?_;intro b1 hb1;refine go_ ?_;intro b2 hb2;refine go4 ?_;refine sQ (aX aE (fD a) O) O (go2 ?_);rcases bt (aT a) with h3|h3
 ·refine W_f (gG h3) O (go6 ?_);refine sC (AV [pI (E (Z.quo a.n.dec a.d.dec))]) aE (fY a.n.1 a.d.1 a.n.2 a.d.2) O O O (go3 ?_);refine rtX O (eR O m0 tyT O) ?_;exact congrArg vS4 (show _=(bU a) from aQ h3 O)
 refine W_t (gD h3) O (go_ ?_);refine sC (AV [pI (E Z.bad)]) aE dS O O O (go3 ?_);refine rtX O (eR O m0 tyT O) ?_;exact congrArg vS4 (show _=(bU a) from aN h3 O)
theorem zH (a:Rt) :
  Ret prog 94 [AV [pI a.n,pI a.d]] (AV [pI (bC a)]):=by
 refine bA (N:=7) func94 O O zz_ (fun w0=>?_);refine giI ?_;refine go2 ?_;intro b1 hb1;refine go_ ?_;intro b2 hb2;refine go3 ?_;refine sQ (aX aE (LP a) O) O (sQ (aX aE (vE (n5 a)) O) O (sC (AV [pI (E (Z.neg (bE (n5 a)).dec))]) aE (xU (bE (n5 a)).1 (bE (n5 a)).2) O O O (go3 ?_)));refine rtX O (eR O m0 tyT O) ?_;exact (by rfl)
theorem qP (a:Rt) (b:Rt) :
    Ret prog 95 [AV [pI a.n,pI a.d],AV [pI b.n,pI b.d]] (AV [pI ((eO a b).n),pI ((eO a b).d)]):=by
 refine bA (N:=20) func95 O O zz_ (fun w0=>?_);refine giI ?_;refine go2 ?_;intro b1 hb1;refine go_ ?_;intro b2 hb2;refine go_ ?_;intro b3 hb3;refine go2 ?_;refine gJv (rg [] 5 8) [(12,.bool (!(aT a)||(!(aT b))))] (fun K2 J2=>?_) ?_
 ·refine go2 ?_;refine sQ (aX aE (fD a) O) O (go_ ?_);rcases bt (aT a) with h5|h5
  ·refine sB (gG h5) O (go_ ?_);refine sQ (aX aE (fD b) O) O (go3 ?_);refine J2 _ _ pp_ s0 (bQ (nO h5 O))
  refine sB (gD h5) O (go5 ?_);refine J2 _ _ pp_ s0 (bQ (rZ h5))
 intro g6;refine aL _ O (fun h7=>?_) (fun h7=>?_)
 ·refine go_ ?_;refine sQ (aX aE mJ  rfl) O (go3 ?_);refine rtX O (eR O m0 tyT O) ?_;exact congrArg vS6 (show _=(eO a b) from aQ h7 O)
 refine go5 ?_;refine sQ (aX aE (w4 a b) O) O (go2 ?_);refine aL _ O (fun h8=>?_) (fun h8=>?_)
 ·refine go5 ?_;refine rtX O (eR O m0 tyT O) ?_;exact congrArg vS6 (show _=(eO a b) from aN h7 (aQ h8 O))
 refine go6 ?_;refine rtX O (eR O m0 tyT O) ?_;exact congrArg vS6 (show _=(eO a b) from aN h7 (aN h8 O))
theorem tN (a:Rt) (b:Rt) :
  Ret prog 96 [AV [pI a.n,pI a.d],AV [pI b.n,pI b.d]] (AV [pI ((iY a b).n),pI ((iY a b).d)]):=by
 refine bA (N:=11) func96 O O zz_ (fun w0=>?_);refine giI ?_;refine go2 ?_;intro b1 hb1;refine go_ ?_;intro b2 hb2;refine go_ ?_;intro b3 hb3;refine go_ ?_;refine mS (sd (sk (sk s0))) 7 [6] [6] (go_ ?_);refine pQ O (aX aE (qQ a) O) (go_ ?_);refine pQ O (aX aE (qQ b) O) ?_;obtain ⟨r4,hr4⟩:=nm ((eO (dM a) (dM b)):Rt);refine pC (AV [pI r4.n,pI r4.d]) aE (qP (dM a) (dM b)) O O (by rw [hr4]) (pQ O (aX aE (qQ r4) O) (go3 ?_));refine rtX O (eR O m0 tyT O) ?_;exact (by subst hr4;rfl)
theorem tC (a:Rt) :
  Ret prog 98 [AV [pI a.n,pI a.d]] (AV [pI (cT a)]):=by
 refine bA (N:=7) func98 O O zz_ (fun w0=>?_);refine giI ?_;refine go2 ?_;intro b1 hb1;refine go_ ?_;intro b2 hb2;refine go3 ?_;refine sQ (aX aE (qQ a) O) O (sQ (aX aE (o5 (dM a)) O) O (sC (AV [pI (E (Z.neg (bU (dM a)).dec))]) aE (qO (bU (dM a)).1 (bU (dM a)).2) O O O (go3 ?_)));refine rtX O (eR O m0 tyT O) ?_;exact (by rfl)
end Go.Proofs.YtbjlhfochebmiaaGreatDoor
