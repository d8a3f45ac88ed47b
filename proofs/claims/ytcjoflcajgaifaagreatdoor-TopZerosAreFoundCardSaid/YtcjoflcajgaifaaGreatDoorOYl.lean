/- Lemmas: what they ask stands in their statements. -/
import Derived.Test.YtcjoflcajgaifaaGreatDoorOGE
set_option linter.unusedSimpArgs false
set_option linter.unusedVariables false
namespace Go.Num
open Go Go.Kn
def zrI (x:I):Bool:=(Z.signW x.dec).1==0
def jM (l:List I):List I:=(l.reverse.dropWhile zrI).reverse
def badp:List I:=[E Z.bad]
def mkP (l:List I):List I:=bif l.all gdI then (if (jM l).length≤25 then jM l else badp) else badp
theorem oS (l:List I) (x:I):jM (l++[x])=bif zrI x then jM l else l++[x]:=by
 unfold jM;rw [List.reverse_append]
 show (List.dropWhile zrI (x::l.reverse)).reverse=_
 rw [List.dropWhile_cons]
 cases zrI x
 ·show (x::l.reverse).reverse=_
  simp
 rfl
theorem vZ (l:List I):jM l=l.take (jM l).length:=by
 have h:jM l <+: l:=by
  unfold jM;have:=List.dropWhile_suffix zrI (l:=l.reverse);have h2:=List.reverse_prefix.2 this
  rwa [List.reverse_reverse] at h2
 obtain ⟨r,hr⟩:=h;have h3:(jM l++r).take (jM l).length=jM l:=List.take_left;rw [hr] at h3;exact h3.symm
theorem u9 (l:List I):(jM l).length≤l.length:=by
 rw [vZ,List.length_take];omega
theorem TD (l:List I):(mkP l).length≤25:=by
 unfold mkP
 cases l.all gdI
 ·exact Nat.le_of_ble_eq_true O
 simp only [cond_true]
 split
 ·assumption
 exact Nat.le_of_ble_eq_true O
theorem nF {α:Type} (l:List α):l=[] ∨ ∃ m x,l=m++[x]:=by
 rcases List.eq_nil_or_concat l with h|⟨m,x,h⟩
 ·exact .inl h
 exact .inr ⟨m,x,by rw [h];simp⟩
theorem C3:F_poly_bad=badp:=rfl
theorem AS (n:Int) (f:Nat→I) (o:I→I) (out:List I) (i:Nat):∀ (k:Nat) (cut:List I),cut.length<k→gG n f o out i k cut=jM cut
 | 0,cut,h=>absurd h (Nat.not_lt_zero _)
 | k+1,cut,h=>by
  unfold gG;rcases nF cut with rfl|⟨m,x,rfl⟩
  ·rfl
  rw [oS];have e1:decide (0<((m++[x]).length:Int))=true:=decide_eq_true (by simp only [List.length_append,List.length_cons,List.length_nil];omega)
  have e2:(m++[x]).length - 1=m.length:=by simp
  rw [e1,e2]
  have e3:(m++[x]).getD m.length I0=x:=by simp
  have e4:(m++[x]).take m.length=m:=by simp
  rw [e3,e4,Bool.true_and]
  show (bif zrI x then _ else _)=_
  rw [AS n f o out i k m (by simp only [List.length_append,List.length_cons,List.length_nil] at h;omega)]
theorem O8 (i m:Nat):List.range' i (m+1)=i::List.range' (i+1) m:=rfl
theorem C5 (n:Int) (f:Nat→I) (o:I→I):∀ (k:Nat) (out:List I) (i:Nat),n.toNat - i<k →
  gF n f o k out i=bif ((List.range' i (n.toNat - i)).map fun j=>o (f j)).all gdI then .inl (out++(List.range' i (n.toNat - i)).map fun j=>o (f j),i+(n.toNat - i)) else .inr badp
 | 0,out,i,h=>absurd h (Nat.not_lt_zero _)
 | k+1,out,i,h=>by
  unfold gF
  by_cases hi:i<n.toNat
  ·rw [decide_eq_true oo_,cond_true]
   obtain ⟨m,hm⟩:∃ m,n.toNat - i=m+1:=⟨n.toNat - i - 1,by omega⟩
   have hm':n.toNat - (i+1)=m:=by omega
   rw [hm,O8,List.map_cons,List.all_cons,C5 n f o k _ _ oo_,hm']
   show (bif gdI (o (f i)) then _ else _)=_
   cases gdI (o (f i))
   ·rfl
   simp only [cond_true,Bool.true_and,List.append_assoc,List.cons_append,List.nil_append];rw [show i+1+m=i+(m+1) by omega]
  rw [decide_eq_false oo_,cond_false,show n.toNat - i=0 by omega]
  simp
theorem n7 (n:Int) (f:Nat→I) (o:I→I):e6 n f o=mkP ((List.range n.toNat).map fun j=>o (f j)):=by
 unfold e6 mkP;rw [C5 n f o _ _ _ oo_,Nat.sub_zero,← List.range_eq_range']
 cases ((List.range n.toNat).map fun j=>o (f j)).all gdI
 ·rfl
 simp only [cond_true,sm,ap,List.nil_append];rw [AS _ _ _ _ _ _ _ (Nat.lt_succ_self _)]
 by_cases h:(jM ((List.range n.toNat).map fun j=>o (f j))).length≤25
 ·rw [if_pos h,decide_eq_false oo_,cond_false]
 rw [if_neg h,decide_eq_true oo_,cond_true];rfl
theorem IM (n:Int) (f:Nat→Go.Num.W) (o:Go.Num.W→I) (out:List I) (i:Nat):∀ (k:Nat) (cut:List I),iE n f o out i k cut=gG n (fun _=>I0) (fun x=>x) out i k cut
 | 0,cut=>rfl
 | k+1,cut=>by unfold iE gG;rw [IM n f o out i k]
theorem AM (n:Int) (f:Nat→Go.Num.W) (o:Go.Num.W→I):∀ (k:Nat) (out:List I) (i:Nat),iD n f o k out i=gF n (fun j=>o (f j)) (fun x=>x) k out i
 | 0,out,i=>rfl
 | k+1,out,i=>by unfold iD gF;rw [AM n f o k]
theorem IG (n:Int) (f:Nat→Go.Num.W) (o:Go.Num.W→I):j4 n f o=mkP ((List.range n.toNat).map fun j=>o (f j)):=by
 rw [← n7 n (fun j=>o (f j)) (fun x=>x)];unfold j4 e6;rw [AM]
 congr 1
 funext s
 simp only [ap];rw [IM,AS _ _ _ _ _ _ _ (Nat.lt_succ_self _),AS _ _ _ _ _ _ _ (Nat.lt_succ_self _)]
theorem ex_ (x:I):((Z.signW x.dec).1 != 0) = !zrI x:=rfl
theorem FH (l:List I) {i:Nat} (h:i<l.length):l.drop i=l.getD i I0::l.drop (i+1):=by
 rw [List.drop_eq_getElem_cons h]
 simp [List.getD,List.getElem?_eq_getElem h]
theorem qQ {c:Bool} {x y:List I} (h:x.length≤25) (k:y.length≤25):(bif c then x else y).length≤25:=by cases c<;>assumption
theorem m8:badp.length≤25:=Nat.le_of_ble_eq_true O
theorem yO (n:Int) (f:Nat→I) (o:I→I):(e6 n f o).length≤25:=by rw [n7];exact TD _
theorem oB (l:List I):(bD l).length≤25:=yO _ _ _
theorem OW (l:List W):(jE l).length≤25:=by unfold jE;rw [IG];exact TD _
theorem oC (p q:List I) (f:I→I→I):(eM p q f).length≤25:=qQ m8 (yO _ _ _)
theorem LR (p q:List I):(sF p q).length≤25:=oC _ _ _
theorem BG (p q:List I):(fR p q).length≤25:=qQ m8 (qQ (Nat.zero_le _) (yO _ _ _))
theorem sK (p:List I) (n:I):(bL p n).length≤25:=qQ (oC _ _ _) m8
theorem mD (p:List I):(aD p).length≤25:=qQ m8 (yO _ _ _)
theorem cF (p:List I):(aC p).length≤25:=oC _ _ _
theorem eA_ {σ:Type} {f:σ→List I} {x:σ ⊕ List I} (h:∀ s,(f s).length≤25) (k:∀ r,x = .inr r→r=badp):(sm f (fun r=>r) x).length≤25:=by
 cases x with
 | inl s=>exact h s
 | inr r=>show r.length≤25;rw [k r O];exact m8
theorem DK (d:I) (n:Int):∀ (k:Nat) (out:List I),n.toNat - out.length<k→1≤out.length→(fW d n k out).length=max n.toNat out.length
 | 0,out,h,_=>absurd h (Nat.not_lt_zero _)
 | k+1,out,h,h1=>by
  unfold fW
  by_cases hc:(out.length:Int)<n
  ·rw [decide_eq_true hc,cond_true,DK d n k _ (by simp only [List.length_append,List.length_cons,List.length_nil];omega) (by simp)]
   simp only [List.length_append,List.length_cons,List.length_nil];omega
  rw [decide_eq_false hc,cond_false];omega
theorem D5 (d:I) (n:Int):(eR d n).length=max n.toNat 1:=DK d n _ _ (by simp only [List.length_cons,List.length_nil];omega) (by simp)
theorem Z.cases (z:Z):z=Z.bad ∨ ∃ v:Int,v.natAbs<4294967296 ^ 16∧z=Z.of v∧z.o=some v:=by
 cases h:z.o with
 | none=>exact .inl (Z.eq_bad h)
 | some v=>exact .inr ⟨v,z.h v h,Z.eq_of h,rfl⟩
theorem Z.zero_add (z:Z):Z.add (Z.of 0) z=z:=by
 rcases Z.cases z with rfl|⟨v,_,rfl,hv⟩
 ·rfl
 rw [Z.add,eG (Z.of_some dd_) hv,Int.zero_add]
theorem W.ext {a b:W} (h:a.1=b.1):a=b:=Subtype.ext h
theorem sign0 (z:Z):((Z.signW z).1==0)=decide (z.sign=0):=by
 show (z.sign==0)=_
 rfl
structure PrimOk (a:A3 I) (p:A3 W) (x y z g:Int):Prop where
 ax:a.x.dec.o=some x
 ay:a.y.dec.o=some y
 az:a.z.dec.o=some z
 gd:g=((Int.gcd (Int.gcd (Int.gcd 0 x:Nat) y:Nat) z:Nat):Int)
 g0:0<g
 px:g*p.x.1=x
 py:g*p.y.1=y
 pz:g*p.z.1=z
 bx:-2305843009213693952<p.x.1∧p.x.1<2305843009213693952
 bY:-2305843009213693952<p.y.1∧p.y.1<2305843009213693952
 bz:-2305843009213693952<p.z.1∧p.z.1<2305843009213693952
theorem FL {x g:Int} (h:g ∣ x):g*x.fdiv g=x:=Int.mul_fdiv_cancel' h
def Z.Is (z:Z) (v:Int):Prop:=z.o=none∨z.o=some v
theorem SZ (v:Int):(Z.of v).Is v:=by unfold Z.Is;rw [Z.of_o];split<;>simp
theorem OE {f:Int→Int→Int} {a b:Z} {x y:Int} (ha:a.Is x) (hb:b.Is y):(xE (fun x y=>Z.of (f x y)) a b).Is (f x y):=by
 rcases ha with ha|ha
 ·left;rw [jH (.inl ha)];rfl
 rcases hb with hb|hb
 ·left;rw [jH (.inr hb)];rfl
 rw [eG ha hb];exact SZ _
theorem dX_ {a b:Z} {x y:Int} (ha:a.Is x) (hb:b.Is y):(Z.add a b).Is (x+y):=OE ha hb
theorem FU {a b:Z} {x y:Int} (ha:a.Is x) (hb:b.Is y):(Z.mul a b).Is (x*y):=OE ha hb
theorem dY_ {a:Z} {x:Int} (ha:a.Is x):(Z.neg a).Is (-x):=by
 rcases ha with ha|ha
 ·left;rw [Z.neg,qG ha];rfl
 rw [Z.neg,kG ha];exact SZ _
theorem YW {a b:Z} {x y:Int} (ha:a.Is x) (hb:b.Is y):(Z.sub a b).Is (x - y):=by
 rw [Int.sub_eq_add_neg];exact dX_ ha (dY_ hb)
theorem Z.Is.sign {z:Z} {v:Int} (h:z.Is v):z.o=none∨z.sign=v.sign:=by
 rcases h with h|h
 ·exact .inl h
 right;unfold Z.sign;rw [h]
theorem Z.Is.sign0 {z:Z} (h:z.Is 0):z.sign=0:=by
 unfold Z.sign;rcases h with h|h<;>rw [h]<;>rfl
structure Fit (z:Z) (v:Int) (k:Nat):Prop where
 eq:z=Z.of v
 lt:v.natAbs<2 ^ k
theorem gR_ {k:Nat} (hk:k≤511) {n:Nat} (h:n<2 ^ k):n<4294967296 ^ 16:=by
 have e:(2:Nat) ^ (32*16)=(2 ^ 32) ^ 16:=Nat.pow_mul 2 32 16;exact Nat.lt_of_lt_of_le h (Nat.le_trans (Nat.pow_le_pow_right dd_ (show k≤32*16 by omega)) (Nat.le_of_eq e))
theorem Fit.o {z:Z} {v:Int} {k:Nat} (h:Fit z v k) (hk:k≤511):z.o=some v:=by rw [h.eq];exact Z.of_some (gR_ hk h.lt)
theorem Fit.mono {z:Z} {v:Int} {k k':Nat} (h:Fit z v k) (hk:k≤k'):Fit z v k':=⟨h.eq,Nat.lt_of_lt_of_le h.lt (Nat.pow_le_pow_right dd_ hk)⟩
theorem Fit.mul {a b:Z} {x y:Int} {k l:Nat} (ha:Fit a x k) (hb:Fit b y l) (hk:k≤511∧l≤511):Fit (Z.mul a b) (x*y) (k+l) :=
 ⟨by rw [Z.mul,eG (ha.o hk.1) (hb.o hk.2)],by rw [Int.natAbs_mul,Nat.pow_add];exact Nat.mul_lt_mul_of_lt_of_lt ha.lt hb.lt⟩
theorem Fit.add {a b:Z} {x y:Int} {k l:Nat} (ha:Fit a x k) (hb:Fit b y l) (hk:k≤511∧l≤511):Fit (Z.add a b) (x+y) (max k l+1):=by
 refine ⟨by rw [Z.add,eG (ha.o hk.1) (hb.o hk.2)],?_⟩;have h1:=(ha.mono (Nat.le_max_left k l)).lt;have h2:=(hb.mono (Nat.le_max_right k l)).lt;rw [Nat.pow_succ];omega
theorem Fit.neg {a:Z} {x:Int} {k:Nat} (ha:Fit a x k) (hk:k≤511):Fit (Z.neg a) (-x) k:=⟨by rw [Z.neg,kG (ha.o hk)],by rw [Int.natAbs_neg];exact ha.lt⟩
theorem Fit.sub {a b:Z} {x y:Int} {k l:Nat} (ha:Fit a x k) (hb:Fit b y l) (hk:k≤511∧l≤511):Fit (Z.sub a b) (x - y) (max k l+1):=by
 rw [Int.sub_eq_add_neg];exact ha.add (hb.neg hk.2) hk
theorem Fit.sign {z:Z} {v:Int} {k:Nat} (h:Fit z v k) (hk:k≤511):z.sign=v.sign:=by unfold Z.sign;rw [h.o hk]
theorem FT (l:List I) (f:I→Bool):∀ (k i:Nat),l.length - i<k→(∃ j:Nat,j<l.length∧iI l f k i = .inr (W.cv (j:Int))∧(l.drop i).any f=true)∨(∃ j,iI l f k i = .inl j∧(l.drop i).any f=false)
 | 0,i,h=>absurd h (Nat.not_lt_zero _)
 | k+1,i,h=>by
  unfold iI
  by_cases hi:i<l.length
  ·rw [decide_eq_true oo_,cond_true,FH l hi,List.any_cons]
   cases hf:f (l.getD i I0)
   ·simp only [cond_false,Bool.false_or]
    exact FT l f k (i+1) oo_
   exact .inl ⟨i,hi,rfl,rfl⟩
  rw [decide_eq_false oo_,cond_false,List.drop_of_length_le oo_];exact .inr ⟨i,rfl,rfl⟩
theorem NP (l:List I) (f:I→Bool) (hl:l.length≤1000):mS l f=l.any f:=by
 unfold mS oU;rcases FT l f (l.length+1) 0 oo_ with ⟨j,hj,h1,h2⟩|⟨j,h1,h2⟩
 ·rw [h1]
  show decide (0≤(W.cv (j:Int)).1)=_
  rw [cvE oo_,decide_eq_true oo_];rw [List.drop_zero] at h2;exact h2.symm
 rw [h1];rw [List.drop_zero] at h2;rw [h2];rfl
theorem a5_ (l:List I):(l.any fun y=>!gdI y) = !l.all gdI:=by
 induction l with
 | nil=>rfl
 | cons x l ih =>
  rw [List.any_cons,List.all_cons,ih]
  cases gdI x<;>rfl
theorem nK {p:List I} (h:p.length≤1000):aS p = !p.all gdI:=by
 unfold aS;rw [NP _ _ h];exact a5_ p
theorem FV (p:List I):∀ (k i:Nat),p.length - i<k→(∃ j,gP p k i = .inl j∧(p.drop i).all gdI=true)∨(gP p k i = .inr true∧(p.drop i).all gdI=false)
 | 0,i,h=>absurd h (Nat.not_lt_zero _)
 | k+1,i,h=>by
  unfold gP
  by_cases hi:i<p.length
  ·rw [decide_eq_true oo_,cond_true,FH p hi,List.all_cons]
   show (∃ j,(bif gdI (p.getD i I0) then _ else _)=_∧_)∨((bif gdI (p.getD i I0) then _ else _)=_∧_)
   cases gdI (p.getD i I0)
   ·exact .inr ⟨rfl,rfl⟩
   simp only [cond_true,Bool.true_and];exact FV p k (i+1) oo_
  rw [decide_eq_false oo_,cond_false,List.drop_of_length_le oo_];exact .inl ⟨i,rfl,rfl⟩
theorem aV_ (p:List I):mJ p = !p.all gdI:=by
 unfold mJ;rcases FV p (p.length+1) 0 oo_ with ⟨j,h1,h2⟩|⟨h1,h2⟩
 ·rw [h1];rw [List.drop_zero] at h2;rw [h2];rfl
 rw [h1];rw [List.drop_zero] at h2;rw [h2];rfl
theorem lF {l:List I} {k:Nat} (h:l.length≤k):l.getD k I0=I0:=by simp [List.getD,List.getElem?_eq_none h]
theorem E5 (p:List I) (k:Nat):eK p (k:Int)=p.getD k I0:=by
 unfold eK;rw [decide_eq_false oo_,Bool.false_or,Int.toNat_natCast]
 by_cases h:p.length≤k
 ·rw [decide_eq_true oo_,cond_true,lF h]
 rw [decide_eq_false oo_,cond_false]
theorem qS {p q:List I} (f:I→I→I) (hp:p.length≤1000) (hq:q.length≤1000):eM p q f=bif (p.all gdI&&q.all gdI) then mkP ((List.range (max p.length q.length)).map fun k=>f (p.getD k I0) (q.getD k I0)) else badp:=by
 unfold eM;rw [nK hp,nK hq,n7,Int.toNat_natCast]
 have e:((List.range (max p.length q.length)).map fun j=>fC (mH j f p q))=(List.range (max p.length q.length)).map fun k=>f (p.getD k I0) (q.getD k I0):=List.map_congr_left fun k _=>by
  show f (eK p (k:Int)) (eK q (k:Int))=_
  rw [E5,E5]
 rw [e]
 cases p.all gdI<;>cases q.all gdI<;>rfl
theorem nE (t:List I) (k j:Nat) (x:I) (h:j≠k):(t.set k x).getD j I0=t.getD j I0:=by
 simp [List.getD,List.getElem?_set_ne (Ne.symm h)]
theorem jL (t:List I) (k:Nat) (x:I) (h:k<t.length):(t.set k x).getD k I0=x:=by
 simp [List.getD,List.getElem?_set_self h]
theorem gl_ {x:I} (h:x.dec.Is 0):zrI x=true:=by
 unfold zrI;have:=h.sign0
 show (x.dec.sign==0)=true
 rw [this];rfl
theorem cJ_ {x:I} (h:zrI x=true):x.dec.Is 0:=by
 have h1:x.dec.sign=0:=by unfold zrI at h;exact (by simpa using h:(Z.signW x.dec).1=0)
 cases ho:x.dec.o with
 | none=>exact .inl ho
 | some v =>
  unfold Z.sign at h1;rw [ho] at h1;have:v=0:=Int.sign_eq_zero_iff_zero.1 h1;rw [this] at ho;exact .inr ho
theorem zr0:zrI I0=true:=by decide +kernel
theorem Q2 (z:Z):∃ v:Int,z.Is v:=by
 cases h:z.o with
 | none=>exact ⟨0,.inl h⟩
 | some v=>exact ⟨v,.inr h⟩
theorem YV {z:Z} {v:Int} (h:z.Is v):(Z.abs z).Is (v.natAbs:Int):=by
 rcases h with h|h
 ·left;rw [Z.abs,qG h];rfl
 rw [Z.abs,kG h];exact SZ _
def WP (n:Nat) (r:List I):Prop:=∀ j:Nat,n≤j→zrI (r.getD j I0)=true
theorem yD {n:Nat}:∀ (m:Nat) (r:List I),r.length≤m→WP n r→(jM r).length≤n
 | 0,r,h,_=>by
  have:r=[]:=List.eq_nil_of_length_eq_zero oo_;rw [this];exact Nat.zero_le _
 | m+1,r,h,hz=>by
  by_cases hn:r.length≤n
  ·exact Nat.le_trans (u9 r) hn
  rcases nF r with rfl|⟨s,x,rfl⟩
  ·exact Nat.zero_le _
  simp only [List.length_append,List.length_cons,List.length_nil] at hn h;have hx:=hz s.length oo_;rw [show (s++[x]).getD s.length I0=x by simp] at hx;rw [oS,hx,cond_true];refine yD m s oo_ (fun j hj=>?_)
  by_cases hjs:j<s.length
  ·have:=hz j hj
   rwa [show (s++[x]).getD j I0=s.getD j I0 by simp [List.getD,List.getElem?_append_left hjs]] at this
  rw [lF oo_];exact zr0
theorem VD {n:Nat} {r:List I} (h:WP n r):mkP r=badp∨(mkP r).length≤n:=by
 unfold mkP
 cases r.all gdI
 ·exact .inl O
 simp only [cond_true]
 split
 ·exact .inr (yD _ r (Nat.le_refl _) h)
 exact .inl O
def H1 (q:List I) (i:Int) (c:I) (k:Nat) (x:I):I:=E (Z.sub (Z.mul (Z.abs (q.getD (q.length - 1) I0).dec) x.dec) (Z.mul c.dec (eK q ((k:Int) - i)).dec))
theorem ab_ (q:List I) (i:Int) (c:I) (k:Nat) (x:I):(H1 q i c k x).dec=Z.sub (Z.mul (Z.abs (q.getD (q.length - 1) I0).dec) x.dec) (Z.mul c.dec (eK q ((k:Int) - i)).dec):=by
 unfold H1;rw [bW]
theorem CQ (p q r:List I) (i:Int) (c:I):∀ (f k:Nat) (t:List I),r.length - k<f→t.length=r.length →
  (∃ t' k',eT p q i r c f k t = .inl (k',t')∧t'.length=r.length∧∀ j,t'.getD j I0=if k≤j∧j<r.length then H1 q i c j (t.getD j I0) else t.getD j I0)∨eT p q i r c f k t = .inr badp
 | 0,k,t,h,_=>absurd h (Nat.not_lt_zero _)
 | f+1,k,t,h,hl=>by
  unfold eT
  by_cases hk:k<r.length
  ·rw [decide_eq_true oo_,cond_true]
   show (∃ t' k',(bif ((t.set k (H1 q i c k (t.getD k I0))).getD k I0).1.bad then _ else eT p q i r c f (k+1) (t.set k (H1 q i c k (t.getD k I0))))=_∧_)∨(bif ((t.set k (H1 q i c k (t.getD k I0))).getD k I0).1.bad then _ else eT p q i r c f (k+1) (t.set k (H1 q i c k (t.getD k I0))))=_
   cases ((t.set k (H1 q i c k (t.getD k I0))).getD k I0).1.bad
   ·simp only [cond_false]
    rcases CQ p q r i c f (k+1) (t.set k (H1 q i c k (t.getD k I0))) oo_ (by rw [List.length_set];exact hl) with ⟨t',k',h1,h2,h3⟩|h1
    ·refine .inl ⟨t',k',h1,h2,fun j=>?_⟩
     rw [h3 j]
     by_cases hj:j=k
     ·subst hj
      rw [if_neg oo_,if_pos oo_,jL _ _ _ oo_]
     rw [nE _ _ _ _ hj]
     by_cases hj2:k+1≤j∧j<r.length
     ·rw [if_pos hj2,if_pos oo_]
     rw [if_neg hj2,if_neg oo_]
    exact .inr h1
   exact .inr O
  rw [decide_eq_false oo_,cond_false];exact .inl ⟨t,k,rfl,hl,fun j=>by rw [if_neg oo_]⟩
theorem VO {q r t:List I} {i n:Nat} {c:I} (hn:q.length=n+1) (hc:c.dec=Z.mul (Z.of (Z.signW (q.getD n I0).dec).1) (r.getD (i+n) I0).dec) (hz:∀ j,i+n<j→zrI (r.getD j I0)=true)
  (ht:∀ j,t.getD j I0=if 0≤j∧j<r.length then H1 q i c j (r.getD j I0) else r.getD j I0) (j:Nat) (hj:i+n≤j):zrI (t.getD j I0)=true:=by
 rw [ht j]
 by_cases hlt:j<r.length
 ·rw [if_pos ⟨Nat.zero_le _,hlt⟩]
  refine gl_ ?_;rw [ab_,hn,Nat.add_sub_cancel];obtain ⟨a,ha⟩:=Q2 (q.getD n I0).dec
  by_cases he:j=i+n
  ·subst he
   have e1:eK q (((i+n:Nat):Int) - (i:Int))=q.getD n I0:=by
    rw [show (((i+n:Nat):Int) - (i:Int))=(n:Int) by omega,E5]
   rw [e1,hc];obtain ⟨v,hv⟩:=Q2 (r.getD (i+n) I0).dec
   have hs:(Z.of (Z.signW (q.getD n I0).dec).1).Is (a.sign)∨(q.getD n I0).dec.o=none:=by
    rcases ha with h|h
    ·exact .inr h
    left
    have:(Z.signW (q.getD n I0).dec).1=a.sign:=by show (q.getD n I0).dec.sign=_;unfold Z.sign;rw [h]
    rw [this];exact SZ _
   rcases hs with hs|hs
   ·have h1:=YW (FU (YV ha) hv) (FU (FU hs hv) ha)
    have e2:(a.natAbs:Int)*v - a.sign*v*a=0:=by
     have h3:a.sign*a=(a.natAbs:Int):=by rcases Int.lt_trichotomy a 0 with h|h|h<;>first|(rw [Int.sign_eq_neg_one_of_neg h];omega)|(rw [Int.sign_eq_one_of_pos h];omega)|(subst h;rfl)
     have h4:a.sign*v*a=(a.sign*a)*v:=by rw [Int.mul_assoc,Int.mul_comm v a,Int.mul_assoc]
     rw [h4,h3];omega
    rw [e2] at h1;exact h1
   left
   have hb:∀ z:Z,(Z.mul z (q.getD n I0).dec).o=none:=fun z=>by rw [Z.mul,jH (.inr hs)];rfl
   have h2:=hb (Z.mul (Z.of (Z.signW (q.getD n I0).dec).1) (r.getD (i+n) I0).dec)
   have h3:(Z.neg (Z.mul (Z.mul (Z.of (Z.signW (q.getD n I0).dec).1) (r.getD (i+n) I0).dec) (q.getD n I0).dec)).o=none:=by rw [Z.neg,qG h2];rfl
   show (Z.add _ (Z.neg _)).o=none
   rw [Z.add,jH (.inr h3)];rfl
  have hzj:=cJ_ (hz j oo_)
  have e1:eK q ((j:Int) - (i:Int))=I0:=by
   unfold eK;rw [decide_eq_true (p:=(q.length:Int)≤(j:Int) - (i:Int)) oo_,Bool.or_true,cond_true]
  obtain ⟨w,hw⟩:=Q2 c.dec;rw [e1];have h1:=YW (FU (YV ha) hzj) (FU hw (cJ_ zr0))
  simpa using h1
 rw [if_neg oo_,lF oo_];exact zr0
theorem PA (p q:List I) {n:Nat} (hn:q.length=n+1):∀ (f:Nat) (i:Int) (r:List I),(i+1).toNat<f→(∀ j:Nat,n≤j→i+n<(j:Int)→zrI (r.getD j I0)=true) →
  (∃ i' r',cX p q f i r = .inl (i',r')∧WP n r')∨cX p q f i r = .inr badp
 | 0,i,r,h,_=>absurd h (Nat.not_lt_zero _)
 | f+1,i,r,h,hz=>by
  unfold cX
  by_cases hi:0≤i
  ·obtain ⟨m,rfl⟩:∃ m:Nat,i=(m:Int):=⟨i.toNat,by omega⟩
   rw [decide_eq_true hi,cond_true];simp only;rcases CQ p q r (m:Int) (E (Z.mul (Z.of (Z.signW (q.getD (q.length - 1) I0).dec).1) (r.getD ((m:Int).toNat+(q.length - 1)) I0).dec)) (r.length+1) 0 r oo_ O with ⟨t',k',h1,h2,h3⟩|h1
   ·rw [h1]
    refine PA p q hn f ((m:Int) - 1) t' oo_ (fun j hj1 hj2=>?_);refine VO (i:=m) hn ?_ (fun j' hj'=>hz j' oo_ oo_) h3 j oo_;rw [bW,hn,Nat.add_sub_cancel,Int.toNat_natCast]
   rw [h1];exact .inr O
  rw [decide_eq_false hi,cond_false];exact .inl ⟨i,r,rfl,fun j hj=>hz j hj oo_⟩
theorem vO (l:List I):bD l=mkP l:=by
 unfold bD;rw [n7,Int.toNat_natCast]
 congr 1
 refine List.ext_getElem? fun k=>?_
 by_cases h:k<l.length
 ·simp [h,fC,mG]
 simp [h]
theorem CR (p q:List I) (hq:0<q.length):aX p q=badp∨(aX p q).length<q.length:=by
 obtain ⟨n,hn⟩:∃ n,q.length=n+1:=⟨q.length - 1,by omega⟩;unfold aX
 cases (aS p||(aS q||((q.length:Int)==0)))
 ·simp only [cond_false]
  rcases PA p q hn (p.length+1) ((p.length:Int) - 1 - ((q.length:Int) - 1)) ([]++p) oo_ (fun j hj1 hj2=>by rw [List.nil_append,lF oo_];exact zr0) with ⟨i',r',h1,h2⟩|h1
  ·rw [h1]
   show bD r'=badp∨(bD r').length<_
   rw [vO];rcases VD h2 with h3|h3
   ·exact .inl h3
   exact .inr oo_
  rw [h1];exact .inl O
 exact .inl O
theorem b6_ (p q:List I):∀ (f:Nat) (i:Int) (r:List I) (y:List I),cX p q f i r = .inr y→y=badp:=by
 intro f
 induction f with
 | zero=>intro i r y hy;cases hy
 | succ f ih =>
  intro i r y hy;unfold cX at hy
  cases hd:decide (0≤i)
  ·rw [hd] at hy;cases hy
  rw [hd] at hy;simp only [cond_true] at hy;rcases CQ p q r i (E (Z.mul (Z.of (Z.signW (q.getD (q.length - 1) I0).dec).1) (r.getD (i.toNat+(q.length - 1)) I0).dec)) (r.length+1) 0 r oo_ O with ⟨t',k',h1,h2,h3⟩|h1
  ·rw [h1] at hy;exact ih _ _ _ hy
  rw [h1] at hy;exact (Sum.inr.inj hy).symm
theorem nP (p q:List I):(aX p q).length≤25:=by
 unfold aX;exact qQ m8 (eA_ (fun s=>oB _) (fun r h=>b6_ p q _ _ _ _ h))
theorem dZ:badp.all gdI=false:=by decide +kernel
theorem F4 {l:List I} (h:(mkP l).all gdI=true):mkP l=jM l:=by
 unfold mkP at h ⊢
 cases hl:l.all gdI
 ·rw [hl] at h;rw [cond_false,dZ] at h;cases h
 simp only [hl,cond_true] at h ⊢
 split
 ·rfl
 rename_i hs;rw [if_neg hs,dZ] at h;cases h
theorem u3 {p:List I} (hp:p.length≤1000) (h:(aC p).all gdI=true):p.all gdI=true∧(aC p).length≤p.length:=by
 unfold aC at h ⊢;rw [qS _ hp dd_] at h ⊢;simp only [List.length_nil,Nat.max_zero,List.all_nil,Bool.and_true] at h ⊢
 cases hg:p.all gdI
 ·rw [hg,cond_false,dZ] at h;cases h
 rw [hg] at h;simp only [cond_true] at h ⊢;rw [F4 h];refine ⟨trivial,Nat.le_trans (u9 _) ?_⟩
 simp
theorem EE {a b:List I} (hl:a.length≤25∧b.length≤25) (h:(aS a||aS b)=false) (h0:decide (0<(b.length:Int))=true):gmP (aC (aX a b))<gmP b:=by
 have hb:=(Bool.or_eq_false_iff.1 h).2;rw [nK oo_] at hb
 have hbg:b.all gdI=true:=by simpa using hb
 have hpos:=of_decide_eq_true h0
 have e1:gmP b=2*b.length:=by unfold gmP;rw [hbg];rfl
 rw [e1];unfold gmP
 cases hg:(aC (aX a b)).all gdI
 ·rw [cond_false];omega
 rw [cond_true];have h1:=nP a b;obtain ⟨h2,h3⟩:=u3 oo_ hg;rcases CR a b oo_ with h4|h4
 ·rw [h4,dZ] at h2;cases h2
 omega
theorem ST (p q:List I):∀ (k:Nat) (a b y:List I),cT p q k a b = .inr y→y=badp
 | 0,a,b,y,h=>by cases h
 | k+1,a,b,y,h=>by
  unfold cT at h
  cases h1:decide (0<(b.length:Int))
  ·rw [h1] at h;cases h
  rw [h1] at h
  cases h2:(aS a||aS b)
  ·rw [h2] at h;exact ST p q k _ _ _ h
  rw [h2] at h;exact (Sum.inr.inj h).symm
theorem SS (p q:List I):∀ (k:Nat) (a b:List I) (s:List I×List I),a.length≤25→b.length≤25→cT p q k a b = .inl s→s.1.length≤25
 | 0,a,b,s,ha,hb,h=>by cases h;exact ha
 | k+1,a,b,s,ha,hb,h=>by
  unfold cT at h
  cases h1:decide (0<(b.length:Int))
  ·rw [h1] at h;cases h;exact ha
  rw [h1] at h
  cases h2:(aS a||aS b)
  ·rw [h2] at h;exact SS p q k _ _ _ hb (cF _) h
  rw [h2] at h;cases h
theorem BF (p q:List I):(aM p q).length≤25:=by
 unfold aM
 cases h:cT p q (gmP (aC q)+1) (aC p) (aC q) with
 | inl s=>exact qQ (SS p q _ _ _ s (cF _) (cF _) h) (oC _ _ _)
 | inr y=>rw [ST p q _ _ _ _ h];exact m8
abbrev B512 (v:Int):Prop:=v.natAbs<4294967296 ^ 16
theorem UX {x:I} (h:x.1.good=true):E x.dec=x:=Subtype.ext (bs_ x.2 h)
theorem QX {x:I} (h:x.1.good=true):∃ v:Int,B512 v∧x=E (Z.of v):=by
 have h1:=dQ x.2 h;refine ⟨_,x.dec.h _ h1,?_⟩;rw [← Z.eq_of h1];exact (UX h).symm
theorem uB {v:Int} (h:B512 v):(E (Z.of v)).1.good=true:=by
 show (Z.of v).enc.good=true
 rw [Z.enc_good,Z.of_some h];rfl
theorem E7 {v:Int} (h:B512 v):(E (Z.of v)).1.bad=false:=by
 have:=uB h;unfold R.good at this;simp only [Bool.and_eq_true,Bool.not_eq_true'] at this;exact this.1
theorem dx_:(E Z.bad).1.bad=true:=rfl
theorem OB:(E Z.bad).1.good=false:=rfl
theorem ce_ {v:Int} (h:B512 v):(Z.of v).sign=v.sign:=by unfold Z.sign;rw [Z.of_some h]
theorem i6 {v:Int} (h:B512 v):(Z.signW (Z.of v)).1=v.sign:=ce_ h
theorem xB {u v:Int} (hu:B512 u) (hv:B512 v):Z.gcd (Z.of u) (Z.of v)=Z.of (Int.gcd u v):=by rw [Z.gcd,eG (Z.of_some hu) (Z.of_some hv)]
theorem xR {u v:Int} (hu:B512 u) (hv:B512 v) (h:v≠0):Z.quo (Z.of u) (Z.of v)=Z.of (u.fdiv v):=by rw [Z.quo,eG (Z.of_some hu) (Z.of_some hv),if_neg h]
theorem mK {u v:Int} (hu:B512 u) (hv:B512 v):Z.mul (Z.of u) (Z.of v)=Z.of (u*v):=by rw [Z.mul,eG (Z.of_some hu) (Z.of_some hv)]
theorem E3 {u v:Int} (hu:B512 u) (hv:B512 v):Z.add (Z.of u) (Z.of v)=Z.of (u+v):=by rw [Z.add,eG (Z.of_some hu) (Z.of_some hv)]
theorem CI {u:Int} (hu:B512 u):Z.neg (Z.of u)=Z.of (-u):=by rw [Z.neg,kG (Z.of_some hu)]
theorem ZL {v:Int} (h:¬ B512 v):Z.of v=Z.bad:=by unfold Z.of;rw [dif_neg h]
theorem B1:B512 1:=by decide
theorem B0:B512 0:=by decide
theorem IY {u v:Int} (hv:B512 v) (h:v≠0):B512 (Int.gcd u v:Nat):=by
 have:Int.gcd u v≤v.natAbs:=Nat.le_of_dvd oo_ (Int.gcd_dvd_natAbs_right u v)
 show ((Int.gcd u v:Nat):Int).natAbs<_
 rw [Int.natAbs_natCast];exact Nat.lt_of_le_of_lt this hv
theorem RG {u v:Int} (hu:B512 u) (hv:B512 v) (h:Z.of u=Z.of v):u=v:=by
 have:=congrArg Z.o h;rw [Z.of_some hu,Z.of_some hv] at this;exact Option.some.inj this
structure Rt.Is (a:Rt) (n d:Int):Prop where
 en:a.n=E (Z.of n)
 ed:a.d=E (Z.of d)
 hn:B512 n
 hd:B512 d
 pos:0<d
 cop:Int.gcd n d=1
theorem Rt.ext {a b:Rt} (h:a.n=b.n) (k:a.d=b.d):a=b:=by cases a;cases b;simp_all
theorem ea_:iH=E (Z.of 1):=rfl
theorem fB_:F_ratio_one=E (Z.of 1):=rfl
theorem JZ:F_ratio_Bad=fJ:=rfl
theorem YJ (a:I):iR a=a.1.good:=rfl
theorem i7 (a:Rt):aU a=bA a:=by
 unfold aU bA;rw [YJ,YJ,ea_,fB_]
 cases a.n.1.good<;>cases a.d.1.good<;>rfl
theorem yM (a b:I):bN a b=bM a b:=rfl
theorem NA (a:W):aP a=oR a:=rfl
theorem zP (a:Rt):dW a=iF a:=by unfold dW iF;rw [i7,JZ]
theorem JY (a b:Rt):iZ a b=fA a b:=by unfold iZ fA;rw [i7,i7,JZ];rfl
theorem QC (a b:Rt):gD a b=iG a b:=by unfold gD iG;rw [zP,JY]
theorem eV_ {a:Rt}:bA a=true ↔ ∃ n d,Rt.Is a n d:=by
 unfold bA
 constructor
 ·intro h
  cases gn:a.n.1.good<;>cases gd:a.d.1.good<;>simp only [gn,gd,Bool.not_true,Bool.not_false,Bool.or_true,Bool.true_or,Bool.or_false,cond_true,cond_false,Bool.false_eq_true] at h
  obtain ⟨n,hn,en⟩:=QX gn;obtain ⟨d,hd,ed⟩:=QX gd;rw [en,ed] at h;simp only [bW,Bool.and_eq_true,decide_eq_true_eq,i6 hd] at h;obtain ⟨h1,h2⟩:=h;have hp:0<d:=Int.sign_pos_iff.1 h1;rw [xB hn hd,ea_] at h2;have h3:=RG (IY hd oo_) B1 (R6 h2);exact ⟨n,d,en,ed,hn,hd,hp,by exact_mod_cast h3⟩
 rintro ⟨n,d,h⟩;rw [h.en,h.ed,uB h.hn,uB h.hd];simp only [Bool.not_true,Bool.or_false,cond_false,bW,Bool.and_eq_true,decide_eq_true_eq,i6 h.hd];refine ⟨Int.sign_pos_iff.2 h.pos,?_⟩;rw [xB h.hn h.hd,h.cop];rfl
theorem IR (v:Int):v.fdiv 1=v:=by rw [Int.fdiv_eq_ediv_of_nonneg _ dd_];exact Int.ediv_one v
theorem bL_ {n d:Int} (hn:B512 n) (hd:B512 d) (hp:0<d) (hc:Int.gcd n d=1):bM (E (Z.of n)) (E (Z.of d))=⟨E (Z.of n),E (Z.of d)⟩:=by
 unfold bM
 have h1:((Z.signW (E (Z.of d)).dec).1==0)=false:=by rw [bW,i6 hd,Int.sign_eq_one_of_pos hp];rfl
 have h2:decide ((Z.signW (E (Z.of d)).dec).1<0)=false:=by rw [bW,i6 hd,Int.sign_eq_one_of_pos hp];rfl
 rw [uB hn,uB hd,h1,h2,bW,bW,xB hn hd,hc];simp only [Bool.not_true,Bool.or_false,cond_false];rw [show ((1:Nat):Int)=1 from rfl,xR hn B1 dd_,xR hd B1 dd_,IR,IR]
theorem CF (b:I):bM (E Z.bad) b=fJ:=by unfold bM;rw [OB];rfl
theorem CG (a:I):bM a (E Z.bad)=fJ:=by
 unfold bM;rw [OB]
 cases a.1.good<;>rfl
theorem AX {u g:Int} (hg:0<g):u.fdiv g=u / g:=Int.fdiv_eq_ediv_of_nonneg _ (Int.le_of_lt hg)
theorem cE_ {u g:Int} (hu:B512 u) (hg:0<g) (hd:g ∣ u):B512 (u / g):=by
 obtain ⟨k,rfl⟩:=hd;rw [Int.mul_ediv_cancel_left _ oo_];refine Nat.lt_of_le_of_lt ?_ hu;rw [Int.natAbs_mul];exact Nat.le_mul_of_pos_left _ oo_
theorem OK {n d:Int} (hn:B512 n) (hd:B512 d) (hp:0<d) :
  bM (E (Z.of n)) (E (Z.of d))=⟨E (Z.of (n / (Int.gcd n d:Nat))),E (Z.of (d / (Int.gcd n d:Nat)))⟩:=by
 unfold bM
 have h1:((Z.signW (E (Z.of d)).dec).1==0)=false:=by rw [bW,i6 hd,Int.sign_eq_one_of_pos hp];rfl
 have h2:decide ((Z.signW (E (Z.of d)).dec).1<0)=false:=by rw [bW,i6 hd,Int.sign_eq_one_of_pos hp];rfl
 have hg:0<((Int.gcd n d:Nat):Int):=by
  have:=Int.gcd_pos_of_ne_zero_right n (show d≠0 by omega);omega
 have hb:=IY (u:=n) hd oo_;rw [uB hn,uB hd,h1,h2,bW,bW,xB hn hd];simp only [Bool.not_true,Bool.or_false,cond_false];rw [xR hn hb oo_,xR hd hb oo_,AX hg,AX hg]
theorem xG {n d:Int} (hn:B512 n) (hd:B512 d) (hp:0<d):Rt.Is (bM (E (Z.of n)) (E (Z.of d))) (n / (Int.gcd n d:Nat)) (d / (Int.gcd n d:Nat)):=by
 have hg:0<((Int.gcd n d:Nat):Int):=by
  have:=Int.gcd_pos_of_ne_zero_right n (show d≠0 by omega);omega
 have d1:((Int.gcd n d:Nat):Int) ∣ n:=Int.gcd_dvd_left ..;have d2:((Int.gcd n d:Nat):Int) ∣ d:=Int.gcd_dvd_right ..;rw [OK hn hd hp];refine ⟨rfl,rfl,cE_ hn hg d1,cE_ hd hg d2,Int.ediv_pos_of_pos_of_dvd hp oo_ d2,?_⟩;rw [Int.gcd_ediv d1 d2,Int.natAbs_natCast,Nat.div_self oo_]
theorem EY {a b:Rt} {n d m e:Int} (ha:a.Is n d) (hb:b.Is m e) :
  ∃ p q r s:Int,bM a.n b.d=⟨E (Z.of p),E (Z.of q)⟩∧bM b.n a.d=⟨E (Z.of r),E (Z.of s)⟩∧B512 p∧B512 q∧B512 r∧B512 s∧0<q∧0<s∧Int.gcd (p*r) (q*s)=1∧n*m*(q*s)=p*r*(d*e):=by
 have h1:=xG ha.hn hb.hd hb.pos;have h2:=xG hb.hn ha.hd ha.pos;have g1:((Int.gcd n e:Nat):Int) ∣ n:=Int.gcd_dvd_left ..;have g2:((Int.gcd n e:Nat):Int) ∣ e:=Int.gcd_dvd_right ..;have g3:((Int.gcd m d:Nat):Int) ∣ m:=Int.gcd_dvd_left ..;have g4:((Int.gcd m d:Nat):Int) ∣ d:=Int.gcd_dvd_right ..;refine ⟨n / (Int.gcd n e:Nat),e / (Int.gcd n e:Nat),m / (Int.gcd m d:Nat),d / (Int.gcd m d:Nat),?_,?_,h1.hn,h1.hd,h2.hn,h2.hd,h1.pos,h2.pos,?_,?_⟩
 ·rw [ha.en,hb.ed];exact Rt.ext h1.en h1.ed
 ·rw [hb.en,ha.ed];exact Rt.ext h2.en h2.ed
 ·generalize hG:((Int.gcd n e:Nat):Int)=G at *
  generalize hH:((Int.gcd m d:Nat):Int)=H at *;have c1:Nat.Coprime (n / G).natAbs (e / G).natAbs:=h1.cop;have c2:Nat.Coprime (m / H).natAbs (d / H).natAbs:=h2.cop;have k1:Nat.Coprime n.natAbs d.natAbs:=ha.cop;have k2:Nat.Coprime m.natAbs e.natAbs:=hb.cop;have d1:(n / G).natAbs ∣ n.natAbs:=Int.natAbs_dvd_natAbs.2 (Int.ediv_dvd_of_dvd g1);have d2:(e / G).natAbs ∣ e.natAbs:=Int.natAbs_dvd_natAbs.2 (Int.ediv_dvd_of_dvd g2);have d3:(m / H).natAbs ∣ m.natAbs:=Int.natAbs_dvd_natAbs.2 (Int.ediv_dvd_of_dvd g3);have d4:(d / H).natAbs ∣ d.natAbs:=Int.natAbs_dvd_natAbs.2 (Int.ediv_dvd_of_dvd g4)
  show Nat.gcd (n / G*(m / H)).natAbs (e / G*(d / H)).natAbs=1
  rw [Int.natAbs_mul,Int.natAbs_mul];have x1:Nat.Coprime (n / G).natAbs (d / H).natAbs:=(k1.coprime_dvd_left d1).coprime_dvd_right d4;have x2:Nat.Coprime (m / H).natAbs (e / G).natAbs:=(k2.coprime_dvd_left d3).coprime_dvd_right d2;exact (Nat.Coprime.mul_right c1 x1).mul_left (Nat.Coprime.mul_right x2 c2)
 obtain ⟨x,hx⟩:=g1;obtain ⟨y,hy⟩:=g2;obtain ⟨z,hz⟩:=g3;obtain ⟨t,ht⟩:=g4
 have p1:0<((Int.gcd n e:Nat):Int):=by have:=Int.gcd_pos_of_ne_zero_right n (show e≠0 by have:=hb.pos;omega);omega
 have p2:0<((Int.gcd m d:Nat):Int):=by have:=Int.gcd_pos_of_ne_zero_right m (show d≠0 by have:=ha.pos;omega);omega
 generalize ((Int.gcd n e:Nat):Int)=G at *;generalize ((Int.gcd m d:Nat):Int)=H at *
 have q1:n / G=x:=by rw [hx];exact Int.mul_ediv_cancel_left _ oo_
 have q2:e / G=y:=by rw [hy];exact Int.mul_ediv_cancel_left _ oo_
 have q3:m / H=z:=by rw [hz];exact Int.mul_ediv_cancel_left _ oo_
 have q4:d / H=t:=by rw [ht];exact Int.mul_ediv_cancel_left _ oo_
 rw [q1,q2,q3,q4,hx,hy,hz,ht];grind
theorem KC (a b:Rt):gA a b=fK a b:=by
 unfold gA fK;rw [i7,i7,JZ,yM,yM]
 cases hga:bA a<;>cases hgb:bA b<;>simp only [Bool.not_true,Bool.not_false,Bool.or_true,Bool.true_or,Bool.or_false,cond_true,cond_false]
 obtain ⟨n,d,ha⟩:=eV_.1 hga;obtain ⟨m,e,hb⟩:=eV_.1 hgb;obtain ⟨p,q,r,s,e1,e2,hp,hq,hr,hs,q0,s0,hc,_⟩:=EY ha hb;rw [e1,e2];simp only [bW,mK hp hr,mK hq hs]
 by_cases b1:B512 (p*r)
 ·by_cases b2:B512 (q*s)
  ·rw [bL_ b1 b2 (Int.mul_pos q0 s0) hc,E7 b1,E7 b2];rfl
  rw [ZL b2,CG,dx_,Bool.or_true];rfl
 rw [ZL b1,CF];rfl
theorem fm_ {x:I} (h:gdI x=true):∃ v:Int,B512 v∧x=E (Z.of v):=QX (by unfold R.good;exact h)
theorem QT {v:Int} (h:B512 v):gdI (E (Z.of v))=true:=by have:=uB h;unfold R.good at this;exact this
def vI (x:I):Int:=x.dec.o.getD 0
theorem cl_ {v:Int} (h:B512 v):vI (E (Z.of v))=v:=by unfold vI;rw [bW,Z.of_some h];rfl
theorem zG {x:I} (h:gdI x=true):x=E (Z.of (vI x))∧B512 (vI x):=by
 obtain ⟨v,hv,rfl⟩:=fm_ h;rw [cl_ hv];exact ⟨rfl,hv⟩
theorem QU {x:I} (h:gdI x=true):x.dec=Z.of (vI x):=by
 conv=>lhs;rw [(zG h).1,bW]
theorem aO_ {v:Int} (h:B512 v):zrI (E (Z.of v))=decide (v=0):=by
 unfold zrI;rw [bW,i6 h]
 by_cases h0:v=0
 ·subst h0;rfl
 rw [decide_eq_false h0];exact beq_eq_false_iff_ne.2 (fun hs=>h0 (Int.sign_eq_zero_iff_zero.1 hs))
theorem eO_ {x:I} (h:gdI x=true):zrI x=decide (vI x=0):=by
 conv=>lhs;rw [(zG h).1]
 exact aO_ (zG h).2
def fg (g:Nat) (x:I):Nat:=Int.gcd g (vI x)
theorem eR_ {g:Nat} {v:Int} (hg:B512 (g:Int)) (hv:B512 v):B512 ((Int.gcd g v:Nat):Int):=by
 by_cases h:v=0
 ·subst h
  rw [Int.gcd_zero_right,Int.natAbs_natCast];exact hg
 exact IY hv h
theorem FB (l0:List I):∀ (r:List I) (g:Nat),r.all gdI=true→B512 (g:Int)→gS l0 r (E (Z.of (g:Int)))=E (Z.of ((r.foldl fg g:Nat):Int))∧B512 ((r.foldl fg g:Nat):Int)
 | [],g,_,hg=>⟨rfl,hg⟩
 | x::r,g,h,hg=>by
  rw [List.all_cons,Bool.and_eq_true] at h;have hx:=zG h.1
  have e:E (Z.gcd (E (Z.of (g:Int))).dec x.dec)=E (Z.of ((fg g x:Nat):Int)):=by
   rw [bW,QU h.1,xB hg hx.2];rfl
  unfold gS;rw [e];exact FB l0 r _ h.2 (eR_ hg hx.2)
def cN (l:List I):Nat:=l.foldl fg 0
theorem NQ {l:List I} (h:l.all gdI=true):gK l=E (Z.of ((cN l:Nat):Int))∧B512 ((cN l:Nat):Int):=FB l l 0 h B0
theorem N4:∀ (l:List I) (g:Nat),l.foldl fg g ∣ g∧∀ x∈l,((l.foldl fg g:Nat):Int) ∣ vI x
 | [],g=>⟨Nat.dvd_refl _,fun x hx=>by cases hx⟩
 | y::l,g=>by
  obtain ⟨h1,h2⟩:=N4 l (fg g y)
  have h3:fg g y ∣ g:=by have:=Int.gcd_dvd_natAbs_left (g:Int) (vI y);simpa [fg] using this
  have h4:((fg g y:Nat):Int) ∣ vI y:=Int.gcd_dvd_right ..;refine ⟨Nat.dvd_trans h1 h3,fun x hx=>?_⟩;rcases List.mem_cons.1 hx with rfl|hx
  ·exact Int.dvd_trans (Int.natCast_dvd_natCast.2 h1) h4
  exact h2 x hx
theorem KM {l:List I} {x:I} (h:x∈l):((cN l:Nat):Int) ∣ vI x:=(N4 l 0).2 x h
theorem OL {α:Type} (f:I→α) (l:List I):(List.range l.length).map (fun k=>f (l.getD k I0))=l.map f:=by
 refine List.ext_getElem? fun k=>?_
 by_cases h:k<l.length
 ·simp [h]
 simp [h]
def Rgt (p:List I):Prop:=p=badp∨(p.all gdI=true∧jM p=p∧p.length≤25)
theorem G5 (l:List I):jM (jM l)=jM l:=by
 suffices ∀ n (l:List I),l.length≤n→jM (jM l)=jM l from this _ l (Nat.le_refl _)
 intro n
 induction n with
 | zero=>intro l h;rw [List.eq_nil_of_length_eq_zero (show l.length=0 by omega)];rfl
 | succ n ih =>
  intro l h;rcases nF l with rfl|⟨m,x,rfl⟩
  ·rfl
  have hs:=oS m x
  cases hx:zrI x
  ·rw [hx,cond_false] at hs;rw [hs,hs]
  rw [hx,cond_true] at hs;rw [hs];exact ih m (by simp only [List.length_append,List.length_cons,List.length_nil] at h;omega)
theorem JK {l:List I} (h:l.all gdI=true):(jM l).all gdI=true:=by
 rw [vZ];rw [List.all_eq_true] at h ⊢;exact fun x hx=>h x (List.mem_of_mem_take hx)
theorem EL (l:List I):Rgt (mkP l):=by
 unfold mkP
 cases h:l.all gdI
 ·exact .inl O
 simp only [cond_true]
 split
 ·rename_i h2;exact .inr ⟨JK h,G5 l,h2⟩
 exact .inl O
theorem ZG {l:List I} (h:l.all gdI=true) (h2:jM l=l) (h3:l.length≤25):mkP l=l:=by
 unfold mkP;rw [h,cond_true,h2,if_pos h3]
theorem AA {m:List I} {x:I} (h:jM (m++[x])=m++[x]):zrI x=false:=by
 cases hx:zrI x
 ·rfl
 rw [oS,hx,cond_true] at h;have:=u9 m;rw [h] at this;simp only [List.length_append,List.length_cons,List.length_nil] at this;omega
theorem JL {l:List I} (f:I→I) (h:jM l=l) (hf:∀ x∈l,zrI x=false→zrI (f x)=false):jM (l.map f)=l.map f:=by
 rcases nF l with rfl|⟨m,x,rfl⟩
 ·rfl
 rw [List.map_append,List.map_cons,List.map_nil,oS,hf x (by simp) (AA h),cond_false]
theorem O0 {p:List I} (h:p.all gdI=true) (hs:jM p=p) (hl:p.length≤25):aC p=p.map fun x=>E (Z.of ((vI x).fdiv (cN p))):=by
 unfold aC;rw [qS _ oo_ dd_];simp only [List.length_nil,Nat.max_zero,List.all_nil,Bool.and_true,h,cond_true];have hc:=NQ h
 have e:(List.range p.length).map (fun k=>jT (p.getD k I0) (([]:List I).getD k I0) (gK p))=p.map fun x=>E (Z.quo x.dec (Z.of ((cN p:Nat):Int))):=by
  rw [← OL (fun x=>E (Z.quo x.dec (Z.of ((cN p:Nat):Int))))];refine List.map_congr_left fun k _=>?_
  show E (Z.quo (p.getD k I0).dec (gK p).dec)=_
  rw [hc.1,bW]
 rw [e];rcases nF p with rfl|⟨m,x,rfl⟩
 ·rfl
 have hx:gdI x=true:=List.all_eq_true.1 h x (by simp);have hz:=AA hs;rw [eO_ hx] at hz;have hv0:vI x≠0:=of_decide_eq_false hz
 have hc0:((cN (m++[x]):Nat):Int)≠0:=fun h0=>by
  have:=KM (l:=m++[x]) (x:=x) (by simp);rw [h0] at this;exact hv0 (Int.zero_dvd.1 this)
 have e2:(m++[x]).map (fun x'=>E (Z.quo x'.dec (Z.of ((cN (m++[x]):Nat):Int))))=(m++[x]).map fun x'=>E (Z.of ((vI x').fdiv (cN (m++[x])))):=by
  refine List.map_congr_left fun y hy=>?_;have hy':=zG (List.all_eq_true.1 h y hy);rw [QU (List.all_eq_true.1 h y hy),xR hy'.2 hc.2 hc0]
 rw [e2]
 have hB:∀ y∈m++[x],B512 ((vI y).fdiv (cN (m++[x]))):=fun y hy=>by
  have hy':=zG (List.all_eq_true.1 h y hy);have hd:=FL (KM hy)
  have hle:((vI y).fdiv (cN (m++[x]))).natAbs≤(vI y).natAbs:=by
   conv=>rhs;rw [← hd]
   rw [Int.natAbs_mul];exact Nat.le_mul_of_pos_left _ oo_
  exact Nat.lt_of_le_of_lt hle hy'.2
 refine ZG ?_ (JL _ hs fun y hy hzy=>?_) (by rw [List.length_map];exact hl)
 ·rw [List.all_eq_true]
  intro z hz;obtain ⟨y,hy,rfl⟩:=List.mem_map.1 hz;exact QT (hB y hy)
 rw [eO_ (List.all_eq_true.1 h y hy)] at hzy;rw [aO_ (hB y hy)];refine decide_eq_false fun h0=>of_decide_eq_false hzy ?_;have hd:=FL (KM hy);rw [h0,Int.mul_zero] at hd;exact hd.symm
theorem NH:badp.length=1:=rfl
theorem y3 {p:List I} (h:Rgt p) (hg:p.all gdI=false):p=badp:=by
 rcases h with h|h
 ·exact h
 rw [h.1] at hg;cases hg
theorem xP (p:List I) (hp:p.length≤1000):Rgt (aC p):=by
 unfold aC;rw [qS _ hp dd_]
 cases (p.all gdI&&List.all [] gdI)
 ·exact .inl O
 exact EL _
theorem N7 (p q:List I) {n:Nat} (hn:1≤n):∀ (k:Nat) (a b:List I),gmP b<k→a≠[]→Rgt a→Rgt b→a.length≤n→b.length≤n→a.length≤25→b.length≤25 →
  (∃ s,cT p q k a b = .inl s∧s.1≠[]∧Rgt s.1∧s.1.length≤n)∨cT p q k a b = .inr badp
 | 0,a,b,h,_,_,_,_,_,_,_=>absurd h (Nat.not_lt_zero _)
 | k+1,a,b,h,ha,ra,rb,la,lb,ka,kb=>by
  unfold cT
  cases h1:decide (0<(b.length:Int))
  ·exact .inl ⟨_,rfl,ha,ra,la⟩
  ·cases h2:(aS a||aS b)
   ·simp only [cond_true,cond_false]
    have hd:=EE ⟨ka,kb⟩ h2 h1;have hpos:=of_decide_eq_true h1;have hrl:=nP a b;have rr:=xP (aX a b) oo_;refine N7 p q hn k b _ oo_ (fun e=>by rw [e] at hpos;exact absurd hpos dd_) rb rr lb ?_ kb (cF _)
    cases hg:(aC (aX a b)).all gdI
    ·rw [y3 rr hg,NH];exact hn
    obtain ⟨h4,h5⟩:=u3 oo_ hg;rcases CR a b oo_ with h6|h6
    ·rw [h6,dZ] at h4;cases h4
    omega
   exact .inr O
theorem bQ_ {a:List I} (h:a.all gdI=true) (hs:jM a=a) (hl:a.length≤25):eM [] a (fun y z=>E (Z.sub y.dec z.dec))=a.map fun x=>E (Z.of (-(vI x))):=by
 rw [qS _ dd_ oo_];simp only [List.length_nil,Nat.zero_max,List.all_nil,Bool.true_and,h,cond_true]
 have e:(List.range a.length).map (fun k=>E (Z.sub (([]:List I).getD k I0).dec (a.getD k I0).dec))=a.map fun x=>E (Z.of (-(vI x))):=by
  have e1:(List.range a.length).map (fun k=>E (Z.sub (([]:List I).getD k I0).dec (a.getD k I0).dec))=a.map fun x=>E (Z.sub (Z.of 0) x.dec):=by
   rw [← OL (fun x=>E (Z.sub (Z.of 0) x.dec))];refine List.map_congr_left fun k _=>?_;rfl
  rw [e1];refine List.map_congr_left fun y hy=>?_;have hy':=zG (List.all_eq_true.1 h y hy)
  have hB:B512 (-(vI y)):=by unfold B512;rw [Int.natAbs_neg];exact hy'.2
  rw [QU (List.all_eq_true.1 h y hy)]
  show E (Z.add (Z.of 0) (Z.neg (Z.of (vI y))))=_
  rw [CI hy'.2,E3 B0 hB,Int.zero_add]
 rw [e]
 have hB:∀ y∈a,B512 (-(vI y)):=fun y hy=>by unfold B512;rw [Int.natAbs_neg];exact (zG (List.all_eq_true.1 h y hy)).2
 refine ZG ?_ (JL _ hs fun y hy hzy=>?_) (by rw [List.length_map];exact hl)
 ·rw [List.all_eq_true]
  intro z hz;obtain ⟨y,hy,rfl⟩:=List.mem_map.1 hz;exact QT (hB y hy)
 rw [eO_ (List.all_eq_true.1 h y hy)] at hzy;rw [aO_ (hB y hy)];exact decide_eq_false fun h0=>of_decide_eq_false hzy oo_
theorem QL {p:List I} (hp:p.length≤1000) (h:(aD p).all gdI=true):(aD p).length≤p.length - 1:=by
 unfold aD at h ⊢;rw [nK hp,n7] at h ⊢
 cases hg:p.all gdI
 ·rw [hg] at h;simp only [Bool.not_false,cond_true] at h;rw [C3,dZ] at h;cases h
 rw [hg] at h;simp only [Bool.not_true,cond_false] at h ⊢;rw [F4 h];refine Nat.le_trans (u9 _) ?_;rw [List.length_map,List.length_range];omega
theorem bw_ {p:List I} (hp:Rgt p) (h:(aS (aM p (aD p))||aS (aC p))=false) (h0:((aC p).length:Int)≠0) :
  1≤(aM p (aD p)).length∧(aM p (aD p)).length≤(aC p).length:=by
 have hpl:p.length≤25:=by
  rcases hp with h1|h1
  ·rw [h1];exact m8
  exact h1.2.2
 obtain ⟨hg,hr⟩:=Bool.or_eq_false_iff.1 h;rw [nK (Nat.le_trans (BF _ _) dd_)] at hg;rw [nK (Nat.le_trans (cF _) dd_)] at hr
 have hr':(aC p).all gdI=true:=by simpa using hr
 have hg':(aM p (aD p)).all gdI=true:=by simpa using hg
 have hpg:=(u3 oo_ hr').1
 obtain ⟨_,hs,_⟩:p.all gdI=true∧jM p=p∧p.length≤25:=by
  rcases hp with h1|h1
  ·rw [h1,dZ] at hpg;cases hpg
  exact h1
 have hpv:=O0 hpg hs hpl
 have hrl:(aC p).length=p.length:=by rw [hpv,List.length_map]
 have hp1:1≤p.length:=by omega
 have hdl:(aC (aD p)).length≤p.length:=by
  have rd:=xP (aD p) (Nat.le_trans (mD _) dd_)
  cases hd:(aC (aD p)).all gdI
  ·rw [y3 rd hd,NH];exact hp1
  obtain ⟨h4,h5⟩:=u3 (Nat.le_trans (mD _) dd_) hd;have:=QL oo_ h4;omega
 rw [hrl];unfold aM at hg' ⊢;rcases N7 p (aD p) hp1 (gmP (aC (aD p))+1) (aC p) (aC (aD p)) (Nat.lt_succ_self _) (fun e=>by rw [e] at hrl;simp at hrl;omega) (xP _ oo_) (xP _ (Nat.le_trans (mD _) dd_)) oo_ hdl (cF _) (cF _) with ⟨s,h1,h2,h3,h4⟩|h1
 ·rw [h1] at hg' ⊢
  have hs1:1≤s.1.length:=by
   rcases Nat.eq_zero_or_pos s.1.length with h|h
   ·exact absurd (List.eq_nil_of_length_eq_zero h) h2
   exact h
  simp only [sm] at hg' ⊢
  cases hc:((s.1.length:Int)==0)||decide (0<(Z.signW (s.1.getD (s.1.length - 1) I0).dec).1)
  ·rw [hc] at hg'
   simp only [cond_false] at hg' ⊢
   have hsl:s.1.length≤25:=by omega
   cases hsg:s.1.all gdI
   ·have hb:=y3 h3 hsg
    rw [hb,qS _ dd_ dd_,dZ] at hg';rw [Bool.and_false,cond_false,dZ] at hg';cases hg'
   rcases h3 with h3|h3
   ·rw [h3,dZ] at hsg;cases hsg
   rw [bQ_ h3.1 h3.2.1 h3.2.2,List.length_map];exact ⟨hs1,h4⟩
  exact ⟨hs1,h4⟩
 rw [h1] at hg';simp only [sm] at hg';rw [dZ] at hg';cases hg'
theorem MC {p:List I} (h:Rgt p):p.length≤25:=by
 rcases h with h|h
 ·rw [h];exact m8
 exact h.2.2
theorem DJ (l:List W):Rgt (jE l):=by unfold jE;rw [IG];exact EL _
theorem vP (p q:List I):Rgt (fR p q):=by
 unfold fR
 cases (aS p||aS q)
 ·simp only [cond_false]
  cases (((p.length:Int)==0)||((q.length:Int)==0))
  ·rw [cond_false,n7];exact EL _
  exact .inr ⟨rfl,rfl,Nat.zero_le _⟩
 exact .inl O
theorem VQ {p:List I} (h:jQ p=true):Rgt p:=by
 unfold jQ at h
 cases h1:(((p.length:Int)==1)&&decide ((p.getD 0 I0)=(E Z.bad)))
 ·rw [h1,cond_false,aV_] at h
  cases hg:p.all gdI
  ·rw [hg] at h;cases h
  rw [hg] at h
  by_cases hl:(25:Int)<(p.length:Int)
  ·rw [decide_eq_true hl] at h;cases h
  rw [decide_eq_false hl] at h;refine .inr ⟨hg,?_,by omega⟩;rcases nF p with rfl|⟨m,x,rfl⟩
  ·rfl
  simp only [Bool.not_true,Bool.or_false,cond_false,Bool.or_eq_true] at h;rcases h with h|h
  ·simp at h;omega
  rw [show (m++[x]).length - 1=m.length by simp,show (m++[x]).getD m.length I0=x by simp,ex_] at h;rw [oS]
  have:zrI x=false:=by simpa using h
  rw [this];rfl
 rw [Bool.and_eq_true] at h1
 have hl:p.length=1:=by have:=h1.1;simp at this;omega
 obtain ⟨x,rfl⟩:∃ x,p=[x]:=List.length_eq_one_iff.1 hl;have hx:x=E Z.bad:=of_decide_eq_true h1.2;exact .inl (by rw [hx];rfl)
theorem IS {p:List I} {d b:Int} (h:jG p d b=true):jQ p=true∧(p.length:Int)≤d+1:=by
 unfold jG at h
 cases h1:(!jQ p)||decide (d+1<(p.length:Int))
 ·rw [Bool.or_eq_false_iff] at h1
  exact ⟨by simpa using h1.1,by have:=of_decide_eq_false h1.2;omega⟩
 rw [h1] at h;cases h
theorem fj_ {p:List I} {d b:Int} (h:(!jG p d b)=false):Rgt p∧p.length≤25:=by
 have h1:=VQ (IS (p:=p) (d:=d) (b:=b) (by simpa using h)).1;exact ⟨h1,MC h1⟩
theorem IW (p:List I) (i:Int) (r f:List I) (x:I):∀ (k n:Nat) (t y:List I),fN p i r f x k n t = .inr y→y=badp
 | 0,n,t,y,h=>by cases h
 | k+1,n,t,y,h=>by
  unfold fN at h
  revert h
  cases decide ((n:Int)<((aM p (aD p)).length:Int))
  ·intro h;cases h
  simp only [cond_true];intro h;rw [Bool.cond_eq_ite] at h
  revert h
  split
  ·intro h;cases h;exact C3
  exact fun h=>IW p i r f x k _ _ y h
theorem IU (p:List I):∀ (k:Nat) (i:Int) (r f y:List I),eB p k i r f = .inr y→y=badp
 | 0,i,r,f,y,h=>by cases h
 | k+1,i,r,f,y,h=>by
  unfold eB at h
  revert h
  cases decide (0≤i)
  ·intro h;cases h
  simp only [cond_true];generalize hx:fN p i r f _ _ 0 r=X
  cases X with
  | inl s=>exact fun h=>IU p k _ _ _ y h
  | inr z=>intro h;cases h;exact IW p i r f _ _ _ _ _ hx
theorem qU (p:List I):(aN p).length≤25:=by
 unfold aN;refine qQ m8 (qQ (Nat.zero_le _) ?_);generalize hx:eB p _ _ _ _=X
 cases X with
 | inl s=>exact qQ (oB _) (oC _ _ _)
 | inr z=>rw [show z=badp from IU p _ _ _ _ _ hx];exact m8
theorem sgW (z:Z):-1≤(Z.signW z).1∧(Z.signW z).1≤1:=by
 show -1≤z.sign∧z.sign≤1
 unfold Z.sign
 cases z.o with
 | none=>exact ⟨by decide,by decide⟩
 | some v =>
  show -1≤v.sign∧v.sign≤1
  rcases Int.lt_trichotomy v 0 with h|h|h
  ·rw [Int.sign_eq_neg_one_of_neg h];decide
  ·subst h;decide
  rw [Int.sign_eq_one_of_pos h];decide
def pw (d:I):Nat→I
 | 0=>E (Z.of 1)
 | k+1=>E (Z.mul (pw d k).dec d.dec)
theorem RR (n:Nat) (f:Nat→I):(List.range (n+1)).map f=(List.range n).map f++[f n]:=by rw [List.range_succ,List.map_append];rfl
theorem I6 (d:I) (n:Int):∀ (k m:Nat),n.toNat - (m+1)<k→fW d n k ((List.range (m+1)).map (pw d))=(List.range (max n.toNat (m+1))).map (pw d)
 | 0,m,h=>absurd h (Nat.not_lt_zero _)
 | k+1,m,h=>by
  unfold fW
  have hl:((List.range (m+1)).map (pw d)).length=m+1:=by simp
  by_cases hc:((m+1:Nat):Int)<n
  ·rw [hl,decide_eq_true hc,cond_true]
   have e1:((List.range (m+1)).map (pw d)).getD (m+1 - 1) I0=pw d m:=by simp [List.getD]
   rw [e1,show E (Z.mul (pw d m).dec d.dec)=pw d (m+1) from rfl,← RR,I6 d n k (m+1) oo_];rw [show max n.toNat (m+1+1)=max n.toNat (m+1) by omega]
  rw [hl,decide_eq_false hc,cond_false,show max n.toNat (m+1)=m+1 by omega]
theorem VI (d:I) (n:Int):eR d n=(List.range (max n.toNat 1)).map (pw d):=I6 d n _ 0 oo_
theorem z4 (d:I) (n:Int) {k:Nat} (h:k<max n.toNat 1):(eR d n).getD k I0=pw d k:=by
 rw [VI];simp [List.getD,h]
theorem YB (x:Rt):oV [x]=aU x:=by
 unfold oV oM nI
 have e:jS [x] (fun y=>lI y) ([x].length+1) 0=bif aU x then .inl 1 else .inr (W.cv 0):=by
  show (bif lI x then _ else _)=_
  unfold lI
  cases aU x<;>rfl
 rw [e]
 cases aU x<;>rfl
def frE (g r:List I) (i:Nat) (c:Z) (j:Nat):I:=E (Z.sub (r.getD j I0).dec (Z.mul c (eK g ((j:Int) - (i:Int))).dec))
theorem LD (p:List I) (i:Int) (r f:List I) (x:I) {g:List I} (hg:aM p (aD p)=g) {n:Nat} (hi:i=(n:Int)):∀ (fu k:Nat) (t:List I),g.length - k<fu→k≤g.length→t.length=r.length→n+g.length≤r.length→(∀ j,n+k≤j→t.getD j I0=r.getD j I0) →
  (∃ t' k',fN p i r f x fu k t = .inl (k',t')∧t'.length=r.length∧(∀ j,t'.getD j I0=if n+k≤j∧j<n+g.length then frE g r n ((f.set i.toNat x).getD i.toNat I0).dec j else t.getD j I0)∧∀ j,n+k≤j→j<n+g.length→(frE g r n ((f.set i.toNat x).getD i.toNat I0).dec j).1.bad=false)
  ∨ (fN p i r f x fu k t = .inr badp∧∃ j,n+k≤j∧j<n+g.length∧(frE g r n ((f.set i.toNat x).getD i.toNat I0).dec j).1.bad=true)
 | 0,k,t,h,_,_,_,_=>absurd h (Nat.not_lt_zero _)
 | fu+1,k,t,h,hk,hl,hm,ht=>by
  unfold fN;rw [hg]
  have hn:i.toNat=n:=by omega
  generalize hc:((f.set i.toNat x).getD i.toNat I0).dec=c at *;rw [hn] at hc ⊢
  by_cases h1:k<g.length
  ·rw [decide_eq_true oo_,cond_true]
   have hv:E (Z.sub (t.getD (n+k) I0).dec (E (Z.mul c (g.getD k I0).dec)).dec)=frE g r n c (n+k):=by
    unfold frE;rw [ht (n+k) (Nat.le_refl _),bW,show ((n+k:Nat):Int) - (n:Int)=(k:Int) by omega,E5]
   simp only;rw [hv,jL _ _ _ oo_]
   cases hb:(frE g r n c (n+k)).1.bad
   ·rw [cond_false]
    rcases LD p i r f x hg hi fu (k+1) (t.set (n+k) (frE g r n c (n+k))) oo_ oo_ (by rw [List.length_set];exact hl) hm (fun j hj=>by rw [nE _ _ _ _ oo_];exact ht j oo_) with ⟨t',k',e1,e2,e3,e4⟩|⟨e1,j,j1,j2,j3⟩
    ·rw [hn,hc] at e3 e4
     refine .inl ⟨t',k',e1,e2,fun j=>?_,fun j j1 j2=>?_⟩
     ·rw [e3 j]
      by_cases hj:j=n+k
      ·subst hj
       rw [if_neg oo_,if_pos oo_,jL _ _ _ oo_]
      rw [nE _ _ _ _ hj]
      by_cases hj2:n+(k+1)≤j∧j<n+g.length
      ·rw [if_pos hj2,if_pos oo_]
      rw [if_neg hj2,if_neg oo_]
     by_cases hj:j=n+k
     ·subst hj;exact hb
     exact e4 j oo_ j2
    rw [hn,hc] at j3;exact .inr ⟨e1,j,by omega,j2,j3⟩
   exact .inr ⟨rfl,n+k,Nat.le_refl _,by omega,hb⟩
  rw [decide_eq_false oo_,cond_false];exact .inl ⟨t,k,rfl,hl,fun j=>by rw [if_neg oo_],fun j j1 j2=>absurd j2 oo_⟩
end Go.Num
