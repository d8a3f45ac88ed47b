/- Lemmas: what they ask stands in their statements. -/
import Derived.Test.YtbjlhfochebmiaaGreatDoorNYa
import Derived.Test.YtbjlhfochebmiaaGreatDoorNQa
set_option linter.unusedSimpArgs false
set_option linter.unusedVariables false
set_option maxHeartbeats 8000000
set_option maxRecDepth 20000
namespace Go.Num
open Go Go.Kn
theorem Z.cases (z:Z):z=Z.bad ∨ ∃ v:Int,v.natAbs<4294967296 ^ 16∧z=Z.of v∧z.o=some v:=by
 cases h:z.o with
 | none=>exact .inl (Z.eq_bad h)
 | some v=>exact .inr ⟨v,z.h v h,Z.eq_of h,rfl⟩
theorem Z.zero_add (z:Z):Z.add (Z.of 0) z=z:=by
 rcases Z.cases z with rfl|⟨v,_,rfl,hv⟩
 ·rfl
 rw [Z.add,dH (Z.of_some dd_) hv,Int.zero_add]
theorem W.ext {a b:W} (h:a.1=b.1):a=b:=Subtype.ext h
structure PrimOk (a:A3 I) (p:A3 W) (x y z g:Int):Prop where
 ax:a.x.dec.o=some x
 ay:a.y.dec.o=some y
 az:a.z.dec.o=some z
 gd:g=((Int.gcd (Int.gcd (Int.gcd 0 x:Nat) y:Nat) z:Nat):Int)
 g0:0<g
 px:g*p.x.1=x
 py:g*p.y.1=y
 pz:g*p.z.1=z
 bx:-2305843009213693952<p.x.1∧p.x.1<2305843009213693952
 bY:-2305843009213693952<p.y.1∧p.y.1<2305843009213693952
 bz:-2305843009213693952<p.z.1∧p.z.1<2305843009213693952
def Z.Is (z:Z) (v:Int):Prop:=z.o=none∨z.o=some v
theorem Z.Is.sign {z:Z} {v:Int} (h:z.Is v):z.o=none∨z.sign=v.sign:=by
 rcases h with h|h
 ·exact .inl h
 right;unfold Z.sign;rw [h]
structure Fit (z:Z) (v:Int) (k:Nat):Prop where
 eq:z=Z.of v
 lt:v.natAbs<2 ^ k
theorem fM_ {k:Nat} (hk:k≤511) {n:Nat} (h:n<2 ^ k):n<4294967296 ^ 16:=by
 have e:(2:Nat) ^ (32*16)=(2 ^ 32) ^ 16:=Nat.pow_mul 2 32 16;exact Nat.lt_of_lt_of_le h (Nat.le_trans (Nat.pow_le_pow_right dd_ (show k≤32*16 by omega)) (Nat.le_of_eq e))
theorem Fit.o {z:Z} {v:Int} {k:Nat} (h:Fit z v k) (hk:k≤511):z.o=some v:=by rw [h.eq];exact Z.of_some (fM_ hk h.lt)
theorem Fit.mono {z:Z} {v:Int} {k k':Nat} (h:Fit z v k) (hk:k≤k'):Fit z v k':=⟨h.eq,Nat.lt_of_lt_of_le h.lt (Nat.pow_le_pow_right dd_ hk)⟩
theorem Fit.mul {a b:Z} {x y:Int} {k l:Nat} (ha:Fit a x k) (hb:Fit b y l) (hk:k≤511∧l≤511):Fit (Z.mul a b) (x*y) (k+l) :=
 ⟨by rw [Z.mul,dH (ha.o hk.1) (hb.o hk.2)],by rw [Int.natAbs_mul,Nat.pow_add];exact Nat.mul_lt_mul_of_lt_of_lt ha.lt hb.lt⟩
theorem Fit.add {a b:Z} {x y:Int} {k l:Nat} (ha:Fit a x k) (hb:Fit b y l) (hk:k≤511∧l≤511):Fit (Z.add a b) (x+y) (max k l+1):=by
 refine ⟨by rw [Z.add,dH (ha.o hk.1) (hb.o hk.2)],?_⟩;have h1:=(ha.mono (Nat.le_max_left k l)).lt;have h2:=(hb.mono (Nat.le_max_right k l)).lt;rw [Nat.pow_succ];omega
theorem Fit.neg {a:Z} {x:Int} {k:Nat} (ha:Fit a x k) (hk:k≤511):Fit (Z.neg a) (-x) k:=⟨by rw [Z.neg,jL (ha.o hk)],by rw [Int.natAbs_neg];exact ha.lt⟩
theorem Fit.sub {a b:Z} {x y:Int} {k l:Nat} (ha:Fit a x k) (hb:Fit b y l) (hk:k≤511∧l≤511):Fit (Z.sub a b) (x - y) (max k l+1):=by
 rw [Int.sub_eq_add_neg];exact ha.add (hb.neg hk.2) hk
theorem Fit.sign {z:Z} {v:Int} {k:Nat} (h:Fit z v k) (hk:k≤511):z.sign=v.sign:=by unfold Z.sign;rw [h.o hk]
theorem H4 (l:List I) (f:I→Bool):∀ (k i:Nat),l.length - i<k→(∃ j:Nat,j<l.length∧kZ l f k i = .inr (W.cv (j:Int))∧(l.drop i).any f=true)∨(∃ j,kZ l f k i = .inl j∧(l.drop i).any f=false)
 | 0,i,h=>absurd h (Nat.not_lt_zero _)
 | k+1,i,h=>by
  unfold kZ
  by_cases hi:i<l.length
  ·rw [decide_eq_true oo_,cond_true,DY l hi,List.any_cons]
   cases hf:f (l.getD i I0)
   ·simp only [cond_false,Bool.false_or]
    exact H4 l f k (i+1) oo_
   exact .inl ⟨i,hi,rfl,rfl⟩
  rw [decide_eq_false oo_,cond_false,List.drop_of_length_le oo_];exact .inr ⟨i,rfl,rfl⟩
theorem OI (l:List I) (f:I→Bool) (hl:l.length≤1000):rN l f=l.any f:=by
 unfold rN tT;rcases H4 l f (l.length+1) 0 oo_ with ⟨j,hj,h1,h2⟩|⟨j,h1,h2⟩
 ·rw [h1]
  show decide (0≤(W.cv (j:Int)).1)=_
  rw [cvE oo_,decide_eq_true oo_];rw [List.drop_zero] at h2;exact h2.symm
 rw [h1];rw [List.drop_zero] at h2;rw [h2];rfl
theorem av_ (l:List I):(l.any fun y=>!gdI y) = !l.all gdI:=by
 induction l with
 | nil=>rfl
 | cons x l ih =>
  rw [List.any_cons,List.all_cons,ih]
  cases gdI x<;>rfl
theorem EA {p:List I} (h:p.length≤1000):gB p = !p.all gdI:=by
 unfold gB;rw [OI _ _ h];exact av_ p
theorem wV {l:List I} {k:Nat} (h:l.length≤k):l.getD k I0=I0:=by simp [List.getD,List.getElem?_eq_none h]
theorem WY (p:List I) (k:Nat):mU p (k:Int)=p.getD k I0:=by
 unfold mU;rw [decide_eq_false oo_,Bool.false_or,Int.toNat_natCast]
 by_cases h:p.length≤k
 ·rw [decide_eq_true oo_,cond_true,wV h]
 rw [decide_eq_false oo_,cond_false]
theorem aO_ {p q:List I} (f:I→I→I) (hp:p.length≤1000) (hq:q.length≤1000):jU p q f=bif (p.all gdI&&q.all gdI) then mkP ((List.range (max p.length q.length)).map fun k=>f (p.getD k I0) (q.getD k I0)) else badp:=by
 unfold jU;rw [EA hp,EA hq,zB,Int.toNat_natCast]
 have e:((List.range (max p.length q.length)).map fun j=>mM (rB j f p q))=(List.range (max p.length q.length)).map fun k=>f (p.getD k I0) (q.getD k I0):=List.map_congr_left fun k _=>by
  show f (mU p (k:Int)) (mU q (k:Int))=_
  rw [WY,WY]
 rw [e]
 cases p.all gdI<;>cases q.all gdI<;>rfl
theorem zr0:zrI I0=true:=by decide +kernel
def ea_ (n:Nat) (r:List I):Prop:=∀ j:Nat,n≤j→zrI (r.getD j I0)=true
theorem F9 {n:Nat}:∀ (m:Nat) (r:List I),r.length≤m→ea_ n r→(mR r).length≤n
 | 0,r,h,_=>by
  have:r=[]:=List.eq_nil_of_length_eq_zero oo_;rw [this];exact Nat.zero_le _
 | m+1,r,h,hz=>by
  by_cases hn:r.length≤n
  ·exact Nat.le_trans (I9 r) hn
  rcases xR r with rfl|⟨s,x,rfl⟩
  ·exact Nat.zero_le _
  simp only [List.length_append,List.length_cons,List.length_nil] at hn h;have hx:=hz s.length oo_;rw [show (s++[x]).getD s.length I0=x by simp] at hx;rw [vR,hx,cond_true];refine F9 m s oo_ (fun j hj=>?_)
  by_cases hjs:j<s.length
  ·have:=hz j hj
   rwa [show (s++[x]).getD j I0=s.getD j I0 by simp [List.getD,List.getElem?_append_left hjs]] at this
  rw [wV oo_];exact zr0
abbrev e9 (v:Int):Prop:=v.natAbs<4294967296 ^ 16
theorem UQ {x:I} (h:x.1.good=true):E x.dec=x:=Subtype.ext (G1 x.2 h)
theorem Q5 {x:I} (h:x.1.good=true):∃ v:Int,e9 v∧x=E (Z.of v):=by
 have h1:=cJ x.2 h;refine ⟨_,x.dec.h _ h1,?_⟩;rw [← Z.eq_of h1];exact (UQ h).symm
theorem yQ {v:Int} (h:e9 v):(E (Z.of v)).1.good=true:=by
 show (Z.of v).enc.good=true
 rw [Z.enc_good,Z.of_some h];rfl
theorem bx_ {v:Int} (h:e9 v):(Z.of v).sign=v.sign:=by unfold Z.sign;rw [Z.of_some h]
theorem pA {v:Int} (h:e9 v):(Z.signW (Z.of v)).1=v.sign:=bx_ h
theorem B9 {u v:Int} (hu:e9 u) (hv:e9 v):Z.gcd (Z.of u) (Z.of v)=Z.of (Int.gcd u v):=by rw [Z.gcd,dH (Z.of_some hu) (Z.of_some hv)]
theorem AN {u v:Int} (hu:e9 u) (hv:e9 v) (h:v≠0):Z.quo (Z.of u) (Z.of v)=Z.of (u.fdiv v):=by rw [Z.quo,dH (Z.of_some hu) (Z.of_some hv),if_neg h]
theorem qE {u v:Int} (hu:e9 u) (hv:e9 v):Z.mul (Z.of u) (Z.of v)=Z.of (u*v):=by rw [Z.mul,dH (Z.of_some hu) (Z.of_some hv)]
theorem DS {u v:Int} (hu:e9 u) (hv:e9 v):Z.add (Z.of u) (Z.of v)=Z.of (u+v):=by rw [Z.add,dH (Z.of_some hu) (Z.of_some hv)]
theorem RD {u:Int} (hu:e9 u):Z.neg (Z.of u)=Z.of (-u):=by rw [Z.neg,jL (Z.of_some hu)]
theorem MZ {v:Int} (h:¬ e9 v):Z.of v=Z.bad:=by unfold Z.of;rw [dif_neg h]
theorem B1:e9 1:=by decide
theorem B0:e9 0:=by decide
theorem OR {u v:Int} (hv:e9 v) (h:v≠0):e9 (Int.gcd u v:Nat):=by
 have:Int.gcd u v≤v.natAbs:=Nat.le_of_dvd oo_ (Int.gcd_dvd_natAbs_right u v)
 show ((Int.gcd u v:Nat):Int).natAbs<_
 rw [Int.natAbs_natCast];exact Nat.lt_of_le_of_lt this hv
theorem RJ {u v:Int} (hu:e9 u) (hv:e9 v) (h:Z.of u=Z.of v):u=v:=by
 have:=congrArg Z.o h;rw [Z.of_some hu,Z.of_some hv] at this;exact Option.some.inj this
structure Rt.Is (a:Rt) (n d:Int):Prop where
 en:a.n=E (Z.of n)
 ed:a.d=E (Z.of d)
 hn:e9 n
 hd:e9 d
 pos:0<d
 cop:Int.gcd n d=1
theorem Rt.ext {a b:Rt} (h:a.n=b.n) (k:a.d=b.d):a=b:=by cases a;cases b;simp_all
theorem a9_:F_skewbackref04_one=E (Z.of 1):=rfl
theorem eA_:F_ratio_one=E (Z.of 1):=rfl
theorem QJ:rR=jY:=rfl
theorem XX (a:I):lF a=a.1.good:=rfl
theorem sH (a:Rt):cQ a=aV a:=by
 unfold cQ aV;rw [XX,XX,a9_,eA_]
 cases a.n.1.good<;>cases a.d.1.good<;>rfl
theorem CV (a b:I):cK a b=bR a b:=rfl
theorem N1 (a:W):aJ a=fI a:=rfl
theorem WF (a:Rt):k5 a=kX a:=by unfold k5 kX;rw [sH,QJ]
theorem HG (a b:Rt):jD a b=e7 a b:=by unfold jD e7;rw [sH,sH,QJ];rfl
theorem HJ (a b:Rt):bQ a b=i7 a b:=by unfold bQ i7;rw [WF,HG]
theorem d2_ {a:Rt}:aV a=true ↔ ∃ n d,Rt.Is a n d:=by
 unfold aV
 constructor
 ·intro h
  cases gn:a.n.1.good<;>cases gd:a.d.1.good<;>simp only [gn,gd,Bool.not_true,Bool.not_false,Bool.or_true,Bool.true_or,Bool.or_false,cond_true,cond_false,Bool.false_eq_true] at h
  obtain ⟨n,hn,en⟩:=Q5 gn;obtain ⟨d,hd,ed⟩:=Q5 gd;rw [en,ed] at h;simp only [dQ,Bool.and_eq_true,decide_eq_true_eq,pA hd] at h;obtain ⟨h1,h2⟩:=h;have hp:0<d:=Int.sign_pos_iff.1 h1;rw [B9 hn hd,a9_] at h2;have h3:=RJ (OR hd oo_) B1 (WC h2);exact ⟨n,d,en,ed,hn,hd,hp,by exact_mod_cast h3⟩
 rintro ⟨n,d,h⟩;rw [h.en,h.ed,yQ h.hn,yQ h.hd];simp only [Bool.not_true,Bool.or_false,cond_false,dQ,Bool.and_eq_true,decide_eq_true_eq,pA h.hd];refine ⟨Int.sign_pos_iff.2 h.pos,?_⟩;rw [B9 h.hn h.hd,h.cop];rfl
theorem EL {u g:Int} (hg:0<g):u.fdiv g=u / g:=Int.fdiv_eq_ediv_of_nonneg _ (Int.le_of_lt hg)
theorem bQ_ {u g:Int} (hu:e9 u) (hg:0<g) (hd:g ∣ u):e9 (u / g):=by
 obtain ⟨k,rfl⟩:=hd;rw [Int.mul_ediv_cancel_left _ oo_];refine Nat.lt_of_le_of_lt ?_ hu;rw [Int.natAbs_mul];exact Nat.le_mul_of_pos_left _ oo_
theorem O7 {n d:Int} (hn:e9 n) (hd:e9 d) (hp:0<d) :
  bR (E (Z.of n)) (E (Z.of d))=⟨E (Z.of (n / (Int.gcd n d:Nat))),E (Z.of (d / (Int.gcd n d:Nat)))⟩:=by
 unfold bR
 have h1:((Z.signW (E (Z.of d)).dec).1==0)=false:=by rw [dQ,pA hd,Int.sign_eq_one_of_pos hp];rfl
 have h2:decide ((Z.signW (E (Z.of d)).dec).1<0)=false:=by rw [dQ,pA hd,Int.sign_eq_one_of_pos hp];rfl
 have hg:0<((Int.gcd n d:Nat):Int):=by
  have:=Int.gcd_pos_of_ne_zero_right n (show d≠0 by omega);omega
 have hb:=OR (u:=n) hd oo_;rw [yQ hn,yQ hd,h1,h2,dQ,dQ,B9 hn hd];simp only [Bool.not_true,Bool.or_false,cond_false];rw [AN hn hb oo_,AN hd hb oo_,EL hg,EL hg]
theorem CE {n d:Int} (hn:e9 n) (hd:e9 d) (hp:0<d):Rt.Is (bR (E (Z.of n)) (E (Z.of d))) (n / (Int.gcd n d:Nat)) (d / (Int.gcd n d:Nat)):=by
 have hg:0<((Int.gcd n d:Nat):Int):=by
  have:=Int.gcd_pos_of_ne_zero_right n (show d≠0 by omega);omega
 have d1:((Int.gcd n d:Nat):Int) ∣ n:=Int.gcd_dvd_left ..;have d2:((Int.gcd n d:Nat):Int) ∣ d:=Int.gcd_dvd_right ..;rw [O7 hn hd hp];refine ⟨rfl,rfl,bQ_ hn hg d1,bQ_ hd hg d2,Int.ediv_pos_of_pos_of_dvd hp oo_ d2,?_⟩;rw [Int.gcd_ediv d1 d2,Int.natAbs_natCast,Nat.div_self oo_]
theorem fH_ {x:I} (h:gdI x=true):∃ v:Int,e9 v∧x=E (Z.of v):=Q5 (by unfold R.good;exact h)
theorem cY_ {v:Int} (h:e9 v):gdI (E (Z.of v))=true:=by have:=yQ h;unfold R.good at this;exact this
def vI (x:I):Int:=x.dec.o.getD 0
theorem dW_ {v:Int} (h:e9 v):vI (E (Z.of v))=v:=by unfold vI;rw [dQ,Z.of_some h];rfl
theorem bS_ {x:I} (h:gdI x=true):x=E (Z.of (vI x))∧e9 (vI x):=by
 obtain ⟨v,hv,rfl⟩:=fH_ h;rw [dW_ hv];exact ⟨rfl,hv⟩
theorem fu_ {v:Int} (h:e9 v):zrI (E (Z.of v))=decide (v=0):=by
 unfold zrI;rw [dQ,pA h]
 by_cases h0:v=0
 ·subst h0;rfl
 rw [decide_eq_false h0];exact beq_eq_false_iff_ne.2 (fun hs=>h0 (Int.sign_eq_zero_iff_zero.1 hs))
def Rgt (p:List I):Prop:=p=badp∨(p.all gdI=true∧mR p=p∧p.length≤25)
theorem I8 (l:List I):mR (mR l)=mR l:=by
 suffices ∀ n (l:List I),l.length≤n→mR (mR l)=mR l from this _ l (Nat.le_refl _)
 intro n
 induction n with
 | zero=>intro l h;rw [List.eq_nil_of_length_eq_zero (show l.length=0 by omega)];rfl
 | succ n ih =>
  intro l h;rcases xR l with rfl|⟨m,x,rfl⟩
  ·rfl
  have hs:=vR m x
  cases hx:zrI x
  ·rw [hx,cond_false] at hs;rw [hs,hs]
  rw [hx,cond_true] at hs;rw [hs];exact ih m (by simp only [List.length_append,List.length_cons,List.length_nil] at h;omega)
theorem LH {l:List I} (h:l.all gdI=true):(mR l).all gdI=true:=by
 rw [w8];rw [List.all_eq_true] at h ⊢;exact fun x hx=>h x (List.mem_of_mem_take hx)
theorem TA (l:List I):Rgt (mkP l):=by
 unfold mkP
 cases h:l.all gdI
 ·exact .inl O
 simp only [cond_true]
 split
 ·rename_i h2;exact .inr ⟨LH h,I8 l,h2⟩
 exact .inl O
theorem SD {m:List I} {x:I} (h:mR (m++[x])=m++[x]):zrI x=false:=by
 cases hx:zrI x
 ·rfl
 rw [vR,hx,cond_true] at h;have:=I9 m;rw [h] at this;simp only [List.length_append,List.length_cons,List.length_nil] at this;omega
theorem nM (l:List W):Rgt (dA l):=by unfold dA;rw [FB];exact TA _
theorem n6 (p q:List I):Rgt (bE p q):=by
 unfold bE
 cases (gB p||gB q)
 ·simp only [cond_false]
  cases (((p.length:Int)==0)||((q.length:Int)==0))
  ·rw [cond_false,zB];exact TA _
  exact .inr ⟨rfl,rfl,Nat.zero_le _⟩
 exact .inl O
end Go.Num
namespace Go.Proofs.YtbjlhfochebmiaaGreatDoor
open Go.Kn Go.Num Tryz
attribute [local irreducible] Go.Kn.W WL PL OpQ OpR OpS
theorem yV (h:Path) (w:World)  :
   Calls prog 20 [AV [cw h.from_.x.x.1,cw h.from_.x.y.1,cw h.from_.x.z.1,cw h.from_.q.x.1,cw h.from_.q.y.1,cw h.from_.q.z.1,cw h.from_.q.t.1,cw h.to_.x.x.1,cw h.to_.x.y.1,cw h.to_.x.z.1,cw h.to_.q.x.1,cw h.to_.q.y.1,cw h.to_.q.z.1,cw h.to_.q.t.1]].toArray w (fun e w'=>∃ v1 v2 v3 v4,e = .returned (.agg #[v1,v2,v3,v4])∧Ext w w'∧SloN w w' 33 elI [v1,v2,v3,v4] [(aM h).x,(aM h).y,(aM h).z,(aM h).t]):=by
 refine FV (n:=38) (fun v1 v2 v3 v4=>.agg #[v1,v2,v3,v4]) func20 O O zz_ ?_;obtain ⟨w0,rfl⟩:=nm w;refine giI ?_;refine go2 ?_;intro b1 hb1;refine go_ ?_;intro b2 hb2;refine yP ?_;refine sQ (aX aE (CJ h.from_.q h.to_.q) O) O (go2 ?_);refine aN _ O (fun h3=>?_) (fun h3=>?_)
 ·have ph3:=of_decide_eq_true h3;refine go5 ?_;intro b4 hb4;refine go9 ?_;refine rM 6 (go2 ?_);refine sV (.bool true) O O (H2 ?_);refine sV (.int .i64 ((W.mul (wl (-1)) h.to_.q.x).1)) O O ?_;refine go_ ?_;refine sV (.int .i64 ((W.sub (W.mul (wl (-1)) h.to_.q.x) h.from_.q.x).1)) O O ?_;refine bI O (cO [[cw h.from_.q.x.1],[cw ((W.sub (W.mul (wl (-1)) h.to_.q.x) h.from_.q.x).1)]] [cw h.from_.q.x.1,cw ((W.sub (W.mul (wl (-1)) h.to_.q.x) h.from_.q.x).1)] j4 z_3 pR O dd_ O O ⟨rfl,rfl,rfl,rfl,rfl,rfl,trivial⟩ O (fun b5 hb5=>?_));refine bI O (cG (E:=33) (e:=elI) (l:=(dA [h.from_.q.x,(W.sub (W.mul (wl (-1)) h.to_.q.x) h.from_.q.x)])) (fun v=>v) aE O (fun w hw=>nL _ [h.from_.q.x,(W.sub (W.mul (wl (-1)) h.to_.q.x) h.from_.q.x)] w (SLe.ap hw (SLe.lit (e:=elW) (l:=[h.from_.q.x,(W.sub (W.mul (wl (-1)) h.to_.q.x) h.from_.q.x)]) m0 O (Nat.le_of_ble_eq_true O) O)) o3_) (fun p6 c7 L8 hF9=>?_));have hb10:=(kH [h.from_.q.x,(W.sub (W.mul (wl (-1)) h.to_.q.x) h.from_.q.x)]);have hr11:=(nM [h.from_.q.x,(W.sub (W.mul (wl (-1)) h.to_.q.x) h.from_.q.x)]);refine go4 ?_;refine sV (.int .i64 1) O O (go4 ?_);refine sV (.bool true) O O (H2 ?_);refine sV (.int .i64 ((W.mul (wl (-1)) h.to_.q.y).1)) O O ?_;refine go_ ?_;refine sV (.int .i64 ((W.sub (W.mul (wl (-1)) h.to_.q.y) h.from_.q.y).1)) O O ?_;refine bI O (cO [[cw h.from_.q.y.1],[cw ((W.sub (W.mul (wl (-1)) h.to_.q.y) h.from_.q.y).1)]] [cw h.from_.q.y.1,cw ((W.sub (W.mul (wl (-1)) h.to_.q.y) h.from_.q.y).1)] j4 z_3 pR O dd_ O O ⟨rfl,rfl,rfl,rfl,rfl,rfl,trivial⟩ O (fun b12 hb12=>?_));refine bI O (cG (E:=33) (e:=elI) (l:=(dA [h.from_.q.y,(W.sub (W.mul (wl (-1)) h.to_.q.y) h.from_.q.y)])) (fun v=>v) aE O (fun w hw=>nL _ [h.from_.q.y,(W.sub (W.mul (wl (-1)) h.to_.q.y) h.from_.q.y)] w (SLe.ap hw (SLe.lit (e:=elW) (l:=[h.from_.q.y,(W.sub (W.mul (wl (-1)) h.to_.q.y) h.from_.q.y)]) m0 O (Nat.le_of_ble_eq_true O) O)) o3_) (fun p13 c14 L15 hF16=>?_));have hb17:=(kH [h.from_.q.y,(W.sub (W.mul (wl (-1)) h.to_.q.y) h.from_.q.y)]);have hr18:=(nM [h.from_.q.y,(W.sub (W.mul (wl (-1)) h.to_.q.y) h.from_.q.y)]);refine go4 ?_;refine sV (.int .i64 2) O O (go4 ?_);refine sV (.bool true) O O (H2 ?_);refine sV (.int .i64 ((W.mul (wl (-1)) h.to_.q.z).1)) O O ?_;refine go_ ?_;refine sV (.int .i64 ((W.sub (W.mul (wl (-1)) h.to_.q.z) h.from_.q.z).1)) O O ?_;refine bI O (cO [[cw h.from_.q.z.1],[cw ((W.sub (W.mul (wl (-1)) h.to_.q.z) h.from_.q.z).1)]] [cw h.from_.q.z.1,cw ((W.sub (W.mul (wl (-1)) h.to_.q.z) h.from_.q.z).1)] j4 z_3 pR O dd_ O O ⟨rfl,rfl,rfl,rfl,rfl,rfl,trivial⟩ O (fun b19 hb19=>?_));refine bI O (cG (E:=33) (e:=elI) (l:=(dA [h.from_.q.z,(W.sub (W.mul (wl (-1)) h.to_.q.z) h.from_.q.z)])) (fun v=>v) aE O (fun w hw=>nL _ [h.from_.q.z,(W.sub (W.mul (wl (-1)) h.to_.q.z) h.from_.q.z)] w (SLe.ap hw (SLe.lit (e:=elW) (l:=[h.from_.q.z,(W.sub (W.mul (wl (-1)) h.to_.q.z) h.from_.q.z)]) m0 O (Nat.le_of_ble_eq_true O) O)) o3_) (fun p20 c21 L22 hF23=>?_));have hb24:=(kH [h.from_.q.z,(W.sub (W.mul (wl (-1)) h.to_.q.z) h.from_.q.z)]);have hr25:=(nM [h.from_.q.z,(W.sub (W.mul (wl (-1)) h.to_.q.z) h.from_.q.z)]);refine go4 ?_;refine sV (.int .i64 3) O O (go3 ?_);refine oA (sA (sk (sA (sd (sA (sd s0)))))) ?_;refine go_ ?_;refine sV (.bool true) O O (H2 ?_);refine sV (.int .i64 ((W.mul (wl (-1)) h.to_.q.t).1)) O O ?_;refine go_ ?_;refine sV (.int .i64 ((W.sub (W.mul (wl (-1)) h.to_.q.t) h.from_.q.t).1)) O O ?_;refine bI O (cO [[cw h.from_.q.t.1],[cw ((W.sub (W.mul (wl (-1)) h.to_.q.t) h.from_.q.t).1)]] [cw h.from_.q.t.1,cw ((W.sub (W.mul (wl (-1)) h.to_.q.t) h.from_.q.t).1)] j4 z_3 pR O dd_ O O ⟨rfl,rfl,rfl,rfl,rfl,rfl,trivial⟩ O (fun b26 hb26=>?_));refine bI O (cG (E:=33) (e:=elI) (l:=(dA [h.from_.q.t,(W.sub (W.mul (wl (-1)) h.to_.q.t) h.from_.q.t)])) (fun v=>v) aE O (fun w hw=>nL _ [h.from_.q.t,(W.sub (W.mul (wl (-1)) h.to_.q.t) h.from_.q.t)] w (SLe.ap hw (SLe.lit (e:=elW) (l:=[h.from_.q.t,(W.sub (W.mul (wl (-1)) h.to_.q.t) h.from_.q.t)]) m0 O (Nat.le_of_ble_eq_true O) O)) o3_) (fun p27 c28 L29 hF30=>?_));have hb31:=(kH [h.from_.q.t,(W.sub (W.mul (wl (-1)) h.to_.q.t) h.from_.q.t)]);have hr32:=(nM [h.from_.q.t,(W.sub (W.mul (wl (-1)) h.to_.q.t) h.from_.q.t)]);refine go4 ?_;refine sV (.int .i64 4) O O (go4 ?_);refine sV (.bool false) O O (go4 ?_);refine oA (sA (sd (sA (sd (sA (sA (sk (sk (sd s0))))))))) ?_;refine go5 ?_;refine rtX O (fF O (mA (mA (mA (mA (mC mZ))))) tyT O) ?_
  have hE:((⟨(dA [h.from_.q.x,(W.sub (W.mul (wl (-1)) h.to_.q.x) h.from_.q.x)]),(dA [h.from_.q.y,(W.sub (W.mul (wl (-1)) h.to_.q.y) h.from_.q.y)]),(dA [h.from_.q.z,(W.sub (W.mul (wl (-1)) h.to_.q.z) h.from_.q.z)]),(dA [h.from_.q.t,(W.sub (W.mul (wl (-1)) h.to_.q.t) h.from_.q.t)])⟩:(A4 (List I))):(A4 (List I)))=(aM h):=by exact aC h3 O
  rw [← hE];exact ⟨_,_,_,_,rfl,dk_ hF9 hF16 hF23 hF30 (rK (rK (rK rE))) (rK (rK rE)) (rK rE) rE⟩
 have ph3:=of_decide_eq_false h3;refine go3 ?_;intro b33 hb33;refine go9 ?_;refine rM 6 (go2 ?_);refine sV (.bool true) O O (H2 ?_);refine sV (.int .i64 ((W.mul (wl 1) h.to_.q.x).1)) O O ?_;refine go_ ?_;refine sV (.int .i64 ((W.sub (W.mul (wl 1) h.to_.q.x) h.from_.q.x).1)) O O ?_;refine bI O (cO [[cw h.from_.q.x.1],[cw ((W.sub (W.mul (wl 1) h.to_.q.x) h.from_.q.x).1)]] [cw h.from_.q.x.1,cw ((W.sub (W.mul (wl 1) h.to_.q.x) h.from_.q.x).1)] j4 z_3 pR O dd_ O O ⟨rfl,rfl,rfl,rfl,rfl,rfl,trivial⟩ O (fun b34 hb34=>?_));refine bI O (cG (E:=33) (e:=elI) (l:=(dA [h.from_.q.x,(W.sub (W.mul (wl 1) h.to_.q.x) h.from_.q.x)])) (fun v=>v) aE O (fun w hw=>nL _ [h.from_.q.x,(W.sub (W.mul (wl 1) h.to_.q.x) h.from_.q.x)] w (SLe.ap hw (SLe.lit (e:=elW) (l:=[h.from_.q.x,(W.sub (W.mul (wl 1) h.to_.q.x) h.from_.q.x)]) m0 O (Nat.le_of_ble_eq_true O) O)) o3_) (fun p35 c36 L37 hF38=>?_));have hb39:=(kH [h.from_.q.x,(W.sub (W.mul (wl 1) h.to_.q.x) h.from_.q.x)]);have hr40:=(nM [h.from_.q.x,(W.sub (W.mul (wl 1) h.to_.q.x) h.from_.q.x)]);refine go4 ?_;refine sV (.int .i64 1) O O (go4 ?_);refine sV (.bool true) O O (H2 ?_);refine sV (.int .i64 ((W.mul (wl 1) h.to_.q.y).1)) O O ?_;refine go_ ?_;refine sV (.int .i64 ((W.sub (W.mul (wl 1) h.to_.q.y) h.from_.q.y).1)) O O ?_;refine bI O (cO [[cw h.from_.q.y.1],[cw ((W.sub (W.mul (wl 1) h.to_.q.y) h.from_.q.y).1)]] [cw h.from_.q.y.1,cw ((W.sub (W.mul (wl 1) h.to_.q.y) h.from_.q.y).1)] j4 z_3 pR O dd_ O O ⟨rfl,rfl,rfl,rfl,rfl,rfl,trivial⟩ O (fun b41 hb41=>?_));refine bI O (cG (E:=33) (e:=elI) (l:=(dA [h.from_.q.y,(W.sub (W.mul (wl 1) h.to_.q.y) h.from_.q.y)])) (fun v=>v) aE O (fun w hw=>nL _ [h.from_.q.y,(W.sub (W.mul (wl 1) h.to_.q.y) h.from_.q.y)] w (SLe.ap hw (SLe.lit (e:=elW) (l:=[h.from_.q.y,(W.sub (W.mul (wl 1) h.to_.q.y) h.from_.q.y)]) m0 O (Nat.le_of_ble_eq_true O) O)) o3_) (fun p42 c43 L44 hF45=>?_));have hb46:=(kH [h.from_.q.y,(W.sub (W.mul (wl 1) h.to_.q.y) h.from_.q.y)]);have hr47:=(nM [h.from_.q.y,(W.sub (W.mul (wl 1) h.to_.q.y) h.from_.q.y)]);refine go4 ?_;refine sV (.int .i64 2) O O (go4 ?_);refine sV (.bool true) O O (H2 ?_);refine sV (.int .i64 ((W.mul (wl 1) h.to_.q.z).1)) O O ?_;refine go_ ?_;refine sV (.int .i64 ((W.sub (W.mul (wl 1) h.to_.q.z) h.from_.q.z).1)) O O ?_;refine bI O (cO [[cw h.from_.q.z.1],[cw ((W.sub (W.mul (wl 1) h.to_.q.z) h.from_.q.z).1)]] [cw h.from_.q.z.1,cw ((W.sub (W.mul (wl 1) h.to_.q.z) h.from_.q.z).1)] j4 z_3 pR O dd_ O O ⟨rfl,rfl,rfl,rfl,rfl,rfl,trivial⟩ O (fun b48 hb48=>?_));refine bI O (cG (E:=33) (e:=elI) (l:=(dA [h.from_.q.z,(W.sub (W.mul (wl 1) h.to_.q.z) h.from_.q.z)])) (fun v=>v) aE O (fun w hw=>nL _ [h.from_.q.z,(W.sub (W.mul (wl 1) h.to_.q.z) h.from_.q.z)] w (SLe.ap hw (SLe.lit (e:=elW) (l:=[h.from_.q.z,(W.sub (W.mul (wl 1) h.to_.q.z) h.from_.q.z)]) m0 O (Nat.le_of_ble_eq_true O) O)) o3_) (fun p49 c50 L51 hF52=>?_));have hb53:=(kH [h.from_.q.z,(W.sub (W.mul (wl 1) h.to_.q.z) h.from_.q.z)]);have hr54:=(nM [h.from_.q.z,(W.sub (W.mul (wl 1) h.to_.q.z) h.from_.q.z)]);refine go4 ?_;refine sV (.int .i64 3) O O (go3 ?_);refine oA (sA (sk (sA (sd (sA (sd s0)))))) ?_;refine go_ ?_;refine sV (.bool true) O O (H2 ?_);refine sV (.int .i64 ((W.mul (wl 1) h.to_.q.t).1)) O O ?_;refine go_ ?_;refine sV (.int .i64 ((W.sub (W.mul (wl 1) h.to_.q.t) h.from_.q.t).1)) O O ?_;refine bI O (cO [[cw h.from_.q.t.1],[cw ((W.sub (W.mul (wl 1) h.to_.q.t) h.from_.q.t).1)]] [cw h.from_.q.t.1,cw ((W.sub (W.mul (wl 1) h.to_.q.t) h.from_.q.t).1)] j4 z_3 pR O dd_ O O ⟨rfl,rfl,rfl,rfl,rfl,rfl,trivial⟩ O (fun b55 hb55=>?_));refine bI O (cG (E:=33) (e:=elI) (l:=(dA [h.from_.q.t,(W.sub (W.mul (wl 1) h.to_.q.t) h.from_.q.t)])) (fun v=>v) aE O (fun w hw=>nL _ [h.from_.q.t,(W.sub (W.mul (wl 1) h.to_.q.t) h.from_.q.t)] w (SLe.ap hw (SLe.lit (e:=elW) (l:=[h.from_.q.t,(W.sub (W.mul (wl 1) h.to_.q.t) h.from_.q.t)]) m0 O (Nat.le_of_ble_eq_true O) O)) o3_) (fun p56 c57 L58 hF59=>?_));have hb60:=(kH [h.from_.q.t,(W.sub (W.mul (wl 1) h.to_.q.t) h.from_.q.t)]);have hr61:=(nM [h.from_.q.t,(W.sub (W.mul (wl 1) h.to_.q.t) h.from_.q.t)]);refine go4 ?_;refine sV (.int .i64 4) O O (go4 ?_);refine sV (.bool false) O O (go4 ?_);refine oA (sA (sd (sA (sd (sA (sA (sk (sk (sd s0))))))))) ?_;refine go5 ?_;refine rtX O (fF O (mA (mA (mA (mA (mC mZ))))) tyT O) ?_
 have hE:((⟨(dA [h.from_.q.x,(W.sub (W.mul (wl 1) h.to_.q.x) h.from_.q.x)]),(dA [h.from_.q.y,(W.sub (W.mul (wl 1) h.to_.q.y) h.from_.q.y)]),(dA [h.from_.q.z,(W.sub (W.mul (wl 1) h.to_.q.z) h.from_.q.z)]),(dA [h.from_.q.t,(W.sub (W.mul (wl 1) h.to_.q.t) h.from_.q.t)])⟩:(A4 (List I))):(A4 (List I)))=(aM h):=by exact aH h3 O
 rw [← hE];exact ⟨_,_,_,_,rfl,dk_ hF38 hF45 hF52 hF59 (rK (rK (rK rE))) (rK (rK rE)) (rK rE) rE⟩
theorem nO (n:W) (bl Tl:Nat) (p_l0:Option Addr) (c_l0:Nat) (l0:(List I)) (p_l1:Option Addr) (c_l1:Nat) (l1:(List I)) (p_l2:Option Addr) (c_l2:Nat) (l2:(List I)) (p_l3:Option Addr) (c_l3:Nat) (l3:(List I)) (w:World) (hbl:w.heap[bl]? = some (.cells (aU [csl p_l0 l0.length c_l0,csl p_l1 l1.length c_l1,csl p_l2 l2.length c_l2,csl p_l3 l3.length c_l3]).toArray Tl (0,0))) (hl0:Slr w elI (.slice p_l0 l0.length c_l0) l0) (hl1:Slr w elI (.slice p_l1 l1.length c_l1) l1) (hl2:Slr w elI (.slice p_l2 l2.length c_l2) l2) (hl3:Slr w elI (.slice p_l3 l3.length c_l3) l3) (hpre:l0.length≤100∧l1.length≤100∧l2.length≤100∧l3.length≤100) :
  Calls prog 66 [.int .i64 n.1,.slice (some ⟨bl,0,none⟩) 4 4].toArray w (fun e w'=>∃ v,e = .returned (v)∧Ext w w'∧Slo w.heap.size w' 33 elI v (cX n l0 l1 l2 l3)):=by
 refine gQ (n:=30) (fun v=>v) func66 O O zz_ ?_;obtain ⟨w0,rfl⟩:=nm w;have Hl0:=hl0.old;have hm_l0:=hl0.max;have Hl1:=hl1.old;have hm_l1:=hl1.max;have Hl2:=hl2.old;have hm_l2:=hl2.max;have Hl3:=hl3.old;have hm_l3:=hl3.max;refine giI ?_;refine wN ?_;refine rM 4 (go4 ?_);refine sV (.int .i64 1) O O (go_ ?_);refine sQ (aS (v':=.int .i64 4) (BI qO O) O) O (sV (.bool true) O O (go5 ?_));refine mB sn 13 [10,11] [] (go3 ?_);refine pQ O (qZ (off':=0) (qX qO O O dd_ dd_) O) (pQ O (lN (v:=.slice p_l0 l0.length c_l0) tyT O hbl zz_ O) ?_);refine go2 ?_;refine pV (.int .i64 1) O O (pQ O (qZ (off':=1) (qX qO O O dd_ dd_) O) (pQ O (lN (v:=.slice p_l1 l1.length c_l1) tyT O hbl zz_ O) ?_));refine dF O O (cG (E:=33) (e:=elI) (l:=(bE l0 l1)) (fun v=>v) aE O (fun w hw=>n5 _ l0 _ l1 w (aR hw Hl0 sn) (aR hw Hl1 sn) oo_) (fun p1 c2 L3 hF4=>⟨(fun _=>sR s0),sn,?_⟩));have hb5:=(n4 l0 l1);have hr6:=(n6 l0 l1);refine dF O O (cG (E:=33) (e:=elI) (l:=(bP ([]:List I) (bE l0 l1))) (fun v=>v) aE O (fun w hw=>jM _ ([]:List I) _ (bE l0 l1) w (SLe.ap hw (SLfe.sle SLfe.nil)) (aO hw hF4 lZ) o3_) (fun p7 c8 L9 hF10=>⟨(fun _=>sR s0),sn,?_⟩));have hb11:=(hS ([]:List I) (bE l0 l1));refine go4 ?_;refine sV (.int .i64 2) O O (go6 ?_);refine sV (.int .i64 3) O O (go_ ?_);refine sQ (aS (v':=.int .i64 4) (BI qO O) O) O (sV (.bool true) O O (go5 ?_));refine mB s0 13 [10,11] [] (go3 ?_);refine pQ O (qZ (off':=2) (qX qO O O dd_ dd_) O) (pQ O (lN (v:=.slice p_l2 l2.length c_l2) tyT O hbl zz_ O) ?_);refine go2 ?_;refine pV (.int .i64 3) O O (pQ O (qZ (off':=3) (qX qO O O dd_ dd_) O) (pQ O (lN (v:=.slice p_l3 l3.length c_l3) tyT O hbl zz_ O) ?_));refine dF O O (cG (E:=33) (e:=elI) (l:=(bE l2 l3)) (fun v=>v) aE O (fun w hw=>n5 _ l2 _ l3 w (aR hw Hl2 sn) (aR hw Hl3 sn) oo_) (fun p12 c13 L14 hF15=>⟨(fun _=>sR s0),(sR s0),?_⟩));have hb16:=(n4 l2 l3);have hr17:=(n6 l2 l3);refine dF O O (cG (E:=33) (e:=elI) (l:=(bP (bP ([]:List I) (bE l0 l1)) (bE l2 l3))) (fun v=>v) aE O (fun w hw=>jM _ (bP ([]:List I) (bE l0 l1)) _ (bE l2 l3) w (aO hw hF10 (sR lZ)) (aO hw hF15 lZ) o3_) (fun p18 c19 L20 hF21=>⟨(fun _=>sR s0),(sR (sR s0)),?_⟩));have hb22:=(hS (bP ([]:List I) (bE l0 l1)) (bE l2 l3));refine go4 ?_;refine sV (.int .i64 4) O O (go6 ?_);refine sV (.int .i64 5) O O (go_ ?_);refine sQ (aS (v':=.int .i64 4) (BI qO O) O) O (sV (.bool false) O O (go3 ?_));refine oA (sA (sR (sR (sR s0)))) ?_;refine go3 ?_;refine sC (AV [pI (E (Z.of n.1))]) aE (eG n.1 n.2) O O O (bI O (cG (E:=33) (e:=elI) (l:=(cS (bP (bP ([]:List I) (bE l0 l1)) (bE l2 l3)) (E (Z.of n.1)))) (fun v=>v) aE O (fun w hw=>jR _ (bP (bP ([]:List I) (bE l0 l1)) (bE l2 l3)) (E (Z.of n.1)) w (aO hw hF21 lZ) o3_) (fun p23 c24 L25 hF26=>?_)));have hb27:=(iM (bP (bP ([]:List I) (bE l0 l1)) (bE l2 l3)) (E (Z.of n.1)));refine go3 ?_;refine rt1 ?_
 have hE:((cS (bP (bP ([]:List I) (bE l0 l1)) (bE l2 l3)) (E (Z.of n.1))):(List I))=(cX n l0 l1 l2 l3):=by exact rfl
 rw [← hE];exact ⟨_,rfl,⟨L25,lZ,hF26⟩⟩
theorem IL (n:W) (bl Tl:Nat) (p_l0:Option Addr) (c_l0:Nat) (l0:(List I)) (p_l1:Option Addr) (c_l1:Nat) (l1:(List I)) (p_l2:Option Addr) (c_l2:Nat) (l2:(List I)) (p_l3:Option Addr) (c_l3:Nat) (l3:(List I)) (p_l4:Option Addr) (c_l4:Nat) (l4:(List I)) (p_l5:Option Addr) (c_l5:Nat) (l5:(List I)) (p_l6:Option Addr) (c_l6:Nat) (l6:(List I)) (p_l7:Option Addr) (c_l7:Nat) (l7:(List I)) (w:World) (hbl:w.heap[bl]? = some (.cells (aU [csl p_l0 l0.length c_l0,csl p_l1 l1.length c_l1,csl p_l2 l2.length c_l2,csl p_l3 l3.length c_l3,csl p_l4 l4.length c_l4,csl p_l5 l5.length c_l5,csl p_l6 l6.length c_l6,csl p_l7 l7.length c_l7]).toArray Tl (0,0))) (hl0:Slr w elI (.slice p_l0 l0.length c_l0) l0) (hl1:Slr w elI (.slice p_l1 l1.length c_l1) l1) (hl2:Slr w elI (.slice p_l2 l2.length c_l2) l2) (hl3:Slr w elI (.slice p_l3 l3.length c_l3) l3) (hl4:Slr w elI (.slice p_l4 l4.length c_l4) l4) (hl5:Slr w elI (.slice p_l5 l5.length c_l5) l5) (hl6:Slr w elI (.slice p_l6 l6.length c_l6) l6) (hl7:Slr w elI (.slice p_l7 l7.length c_l7) l7) (hpre:l0.length≤100∧l1.length≤100∧l2.length≤100∧l3.length≤100∧l4.length≤100∧l5.length≤100∧l6.length≤100∧l7.length≤100) :
  Calls prog 66 [.int .i64 n.1,.slice (some ⟨bl,0,none⟩) 8 8].toArray w (fun e w'=>∃ v,e = .returned (v)∧Ext w w'∧Slo w.heap.size w' 33 elI v (nY n l0 l1 l2 l3 l4 l5 l6 l7)):=by
 refine gQ (n:=30) (fun v=>v) func66 O O zz_ ?_;obtain ⟨w0,rfl⟩:=nm w;have Hl0:=hl0.old;have hm_l0:=hl0.max;have Hl1:=hl1.old;have hm_l1:=hl1.max;have Hl2:=hl2.old;have hm_l2:=hl2.max;have Hl3:=hl3.old;have hm_l3:=hl3.max;have Hl4:=hl4.old;have hm_l4:=hl4.max;have Hl5:=hl5.old;have hm_l5:=hl5.max;have Hl6:=hl6.old;have hm_l6:=hl6.max;have Hl7:=hl7.old;have hm_l7:=hl7.max;refine giI ?_;refine wN ?_;refine rM 6 (go4 ?_);refine sV (.int .i64 1) O O (go_ ?_);refine sQ (aS (v':=.int .i64 8) (BI qO O) O) O (sV (.bool true) O O (go5 ?_));refine mB sn 13 [10,11] [] (go3 ?_);refine pQ O (qZ (off':=0) (qX qO O O dd_ dd_) O) (pQ O (lN (v:=.slice p_l0 l0.length c_l0) tyT O hbl zz_ O) ?_);refine go2 ?_;refine pV (.int .i64 1) O O (pQ O (qZ (off':=1) (qX qO O O dd_ dd_) O) (pQ O (lN (v:=.slice p_l1 l1.length c_l1) tyT O hbl zz_ O) ?_));refine dF O O (cG (E:=33) (e:=elI) (l:=(bE l0 l1)) (fun v=>v) aE O (fun w hw=>n5 _ l0 _ l1 w (aR hw Hl0 sn) (aR hw Hl1 sn) oo_) (fun p1 c2 L3 hF4=>⟨(fun _=>sR s0),sn,?_⟩));have hb5:=(n4 l0 l1);have hr6:=(n6 l0 l1);refine dF O O (cG (E:=33) (e:=elI) (l:=(bP ([]:List I) (bE l0 l1))) (fun v=>v) aE O (fun w hw=>jM _ ([]:List I) _ (bE l0 l1) w (SLe.ap hw (SLfe.sle SLfe.nil)) (aO hw hF4 lZ) o3_) (fun p7 c8 L9 hF10=>⟨(fun _=>sR s0),sn,?_⟩));have hb11:=(hS ([]:List I) (bE l0 l1));refine go4 ?_;refine sV (.int .i64 2) O O (go6 ?_);refine sV (.int .i64 3) O O (go_ ?_);refine sQ (aS (v':=.int .i64 8) (BI qO O) O) O (sV (.bool true) O O (go5 ?_));refine mB s0 13 [10,11] [] (go3 ?_);refine pQ O (qZ (off':=2) (qX qO O O dd_ dd_) O) (pQ O (lN (v:=.slice p_l2 l2.length c_l2) tyT O hbl zz_ O) ?_);refine go2 ?_;refine pV (.int .i64 3) O O (pQ O (qZ (off':=3) (qX qO O O dd_ dd_) O) (pQ O (lN (v:=.slice p_l3 l3.length c_l3) tyT O hbl zz_ O) ?_));refine dF O O (cG (E:=33) (e:=elI) (l:=(bE l2 l3)) (fun v=>v) aE O (fun w hw=>n5 _ l2 _ l3 w (aR hw Hl2 sn) (aR hw Hl3 sn) oo_) (fun p12 c13 L14 hF15=>⟨(fun _=>sR s0),(sR s0),?_⟩));have hb16:=(n4 l2 l3);have hr17:=(n6 l2 l3);refine dF O O (cG (E:=33) (e:=elI) (l:=(bP (bP ([]:List I) (bE l0 l1)) (bE l2 l3))) (fun v=>v) aE O (fun w hw=>jM _ (bP ([]:List I) (bE l0 l1)) _ (bE l2 l3) w (aO hw hF10 (sR lZ)) (aO hw hF15 lZ) o3_) (fun p18 c19 L20 hF21=>⟨(fun _=>sR s0),(sR (sR s0)),?_⟩));have hb22:=(hS (bP ([]:List I) (bE l0 l1)) (bE l2 l3));refine go4 ?_;refine sV (.int .i64 4) O O (go6 ?_);refine sV (.int .i64 5) O O (go_ ?_);refine sQ (aS (v':=.int .i64 8) (BI qO O) O) O (sV (.bool true) O O (go5 ?_));refine mB s0 13 [10,11] [] (go3 ?_);refine pQ O (qZ (off':=4) (qX qO O O dd_ dd_) O) (pQ O (lN (v:=.slice p_l4 l4.length c_l4) tyT O hbl zz_ O) ?_);refine go2 ?_;refine pV (.int .i64 5) O O (pQ O (qZ (off':=5) (qX qO O O dd_ dd_) O) (pQ O (lN (v:=.slice p_l5 l5.length c_l5) tyT O hbl zz_ O) ?_));refine dF O O (cG (E:=33) (e:=elI) (l:=(bE l4 l5)) (fun v=>v) aE O (fun w hw=>n5 _ l4 _ l5 w (aR hw Hl4 sn) (aR hw Hl5 sn) oo_) (fun p23 c24 L25 hF26=>⟨(fun _=>sR s0),(sR s0),?_⟩));have hb27:=(n4 l4 l5);have hr28:=(n6 l4 l5);refine dF O O (cG (E:=33) (e:=elI) (l:=(bP (bP (bP ([]:List I) (bE l0 l1)) (bE l2 l3)) (bE l4 l5))) (fun v=>v) aE O (fun w hw=>jM _ (bP (bP ([]:List I) (bE l0 l1)) (bE l2 l3)) _ (bE l4 l5) w (aO hw hF21 (sR lZ)) (aO hw hF26 lZ) o3_) (fun p29 c30 L31 hF32=>⟨(fun _=>sR s0),(sR (sR s0)),?_⟩));have hb33:=(hS (bP (bP ([]:List I) (bE l0 l1)) (bE l2 l3)) (bE l4 l5));refine go4 ?_;refine sV (.int .i64 6) O O (go3 ?_);refine oA (sA (sA (sA (sR (sR (sR s0)))))) ?_;refine go3 ?_;refine sV (.int .i64 7) O O (go_ ?_);refine sQ (aS (v':=.int .i64 8) (BI qO O) O) O (sV (.bool true) O O (go5 ?_));refine mB s0 13 [10,11] [] (go3 ?_);refine pQ O (qZ (off':=6) (qX qO O O dd_ dd_) O) (pQ O (lN (v:=.slice p_l6 l6.length c_l6) tyT O hbl zz_ O) ?_);refine go2 ?_;refine pV (.int .i64 7) O O (pQ O (qZ (off':=7) (qX qO O O dd_ dd_) O) (pQ O (lN (v:=.slice p_l7 l7.length c_l7) tyT O hbl zz_ O) ?_));refine dF O O (cG (E:=33) (e:=elI) (l:=(bE l6 l7)) (fun v=>v) aE O (fun w hw=>n5 _ l6 _ l7 w (aR hw Hl6 sn) (aR hw Hl7 sn) oo_) (fun p34 c35 L36 hF37=>⟨(fun _=>sR s0),(sR s0),?_⟩));have hb38:=(n4 l6 l7);have hr39:=(n6 l6 l7);refine dF O O (cG (E:=33) (e:=elI) (l:=(bP (bP (bP (bP ([]:List I) (bE l0 l1)) (bE l2 l3)) (bE l4 l5)) (bE l6 l7))) (fun v=>v) aE O (fun w hw=>jM _ (bP (bP (bP ([]:List I) (bE l0 l1)) (bE l2 l3)) (bE l4 l5)) _ (bE l6 l7) w (aO hw hF32 (sR lZ)) (aO hw hF37 lZ) o3_) (fun p40 c41 L42 hF43=>⟨(fun _=>sR s0),(sR (sR s0)),?_⟩));have hb44:=(hS (bP (bP (bP ([]:List I) (bE l0 l1)) (bE l2 l3)) (bE l4 l5)) (bE l6 l7));refine go4 ?_;refine sV (.int .i64 8) O O (go3 ?_);refine oA (sA (sA (sA (sR (sR s0))))) ?_;refine go3 ?_;refine sV (.int .i64 9) O O (go_ ?_);refine sQ (aS (v':=.int .i64 8) (BI qO O) O) O (sV (.bool false) O O (go6 ?_));refine sC (AV [pI (E (Z.of n.1))]) aE (eG n.1 n.2) O O O (bI O (cG (E:=33) (e:=elI) (l:=(cS (bP (bP (bP (bP ([]:List I) (bE l0 l1)) (bE l2 l3)) (bE l4 l5)) (bE l6 l7)) (E (Z.of n.1)))) (fun v=>v) aE O (fun w hw=>jR _ (bP (bP (bP (bP ([]:List I) (bE l0 l1)) (bE l2 l3)) (bE l4 l5)) (bE l6 l7)) (E (Z.of n.1)) w (aO hw hF43 lZ) o3_) (fun p45 c46 L47 hF48=>?_)));have hb49:=(iM (bP (bP (bP (bP ([]:List I) (bE l0 l1)) (bE l2 l3)) (bE l4 l5)) (bE l6 l7)) (E (Z.of n.1)));refine go3 ?_;refine rt1 ?_
 have hE:((cS (bP (bP (bP (bP ([]:List I) (bE l0 l1)) (bE l2 l3)) (bE l4 l5)) (bE l6 l7)) (E (Z.of n.1))):(List I))=(nY n l0 l1 l2 l3 l4 l5 l6 l7):=by exact rfl
 rw [← hE];exact ⟨_,rfl,⟨L47,lZ,hF48⟩⟩
end Go.Proofs.YtbjlhfochebmiaaGreatDoor
namespace Go.Num
open Go Go.Kn
theorem uX (a:Path):(aM a).x.length≤25:=by unfold aM;cases decide ((mY a.from_.q a.to_.q).1<0)<;>exact kH _
theorem uY (a:Path):(aM a).y.length≤25:=by unfold aM;cases decide ((mY a.from_.q a.to_.q).1<0)<;>exact kH _
theorem uZ (a:Path):(aM a).z.length≤25:=by unfold aM;cases decide ((mY a.from_.q a.to_.q).1<0)<;>exact kH _
theorem uW (a:Path):(aM a).t.length≤25:=by unfold aM;cases decide ((mY a.from_.q a.to_.q).1<0)<;>exact kH _
theorem oF (n:W) (a b c d:List I):(cX n a b c d).length≤25:=by unfold cX;exact iM _ _
theorem DI (n:W) (a b c d e f g h:List I):(nY n a b c d e f g h).length≤25:=by unfold nY;exact iM _ _
end Go.Num
namespace Go.Proofs.YtbjlhfochebmiaaGreatDoor
open Go.Kn Go.Num Tryz
attribute [local irreducible] Go.Kn.W WL PL OpQ OpR OpS
theorem nN (h:Path) (w:World)  :
  Calls prog 25 [AV [cw h.from_.x.x.1,cw h.from_.x.y.1,cw h.from_.x.z.1,cw h.from_.q.x.1,cw h.from_.q.y.1,cw h.from_.q.z.1,cw h.from_.q.t.1,cw h.to_.x.x.1,cw h.to_.x.y.1,cw h.to_.x.z.1,cw h.to_.q.x.1,cw h.to_.q.y.1,cw h.to_.q.z.1,cw h.to_.q.t.1]].toArray w (fun e w'=>∃ v,e = .returned (v)∧Ext w w'∧Slo w.heap.size w' 33 elI v (eT h)):=by
 refine gQ (n:=24) (fun v=>v) func25 O O zz_ ?_;obtain ⟨w0,rfl⟩:=nm w;refine giI ?_;refine go2 ?_;intro b1 hb1;refine go4 ?_;refine bI O (EW (E:=33) (e:=elI) (l1:=(aM h).x) (l2:=(aM h).y) (l3:=(aM h).z) (l4:=(aM h).t) (fun v1 v2 v3 v4=>.agg #[v1,v2,v3,v4]) aE O (fun w hw=>yV h w) (fun p2 c3 L4 p6 c7 L8 p10 c11 L12 p14 c15 L16 hF5 hF9 hF13 hF17=>?_));have hb18:((aM h).x).length≤25:=(uX h);have hb19:((aM h).y).length≤25:=(uY h);have hb20:((aM h).z).length≤25:=(uZ h);have hb21:((aM h).t).length≤25:=(uW h);refine go_ ?_;intro b22 hb22;refine aT_ ?_;refine bI O (cO [[csl p2 ((aM h).x).length c3],[csl p2 ((aM h).x).length c3],[csl p6 ((aM h).y).length c7],[csl p6 ((aM h).y).length c7],[csl p10 ((aM h).z).length c11],[csl p10 ((aM h).z).length c11],[csl p14 ((aM h).t).length c15],[csl p14 ((aM h).t).length c15]] [csl p2 ((aM h).x).length c3,csl p2 ((aM h).x).length c3,csl p6 ((aM h).y).length c7,csl p6 ((aM h).y).length c7,csl p10 ((aM h).z).length c11,csl p10 ((aM h).z).length c11,csl p14 ((aM h).t).length c15,csl p14 ((aM h).t).length c15] BC NY E4 O dd_ O O ⟨rfl,rfl,rfl,rfl,rfl,rfl,rfl,rfl,rfl,rfl,rfl,rfl,rfl,rfl,rfl,rfl,rfl,rfl,rfl,rfl,rfl,rfl,rfl,rfl,trivial⟩ O (fun b23 hb23=>bI O (cG (E:=33) (e:=elI) (l:=(nY (wl 1) ((aM h).x) ((aM h).x) ((aM h).y) ((aM h).y) ((aM h).z) ((aM h).z) ((aM h).t) ((aM h).t))) (fun v=>v) aE O (fun w hw=>IL (wl 1) _ _ _ _ ((aM h).x) _ _ ((aM h).x) _ _ ((aM h).y) _ _ ((aM h).y) _ _ ((aM h).z) _ _ ((aM h).z) _ _ ((aM h).t) _ _ ((aM h).t) w (hw.mem _ m0) (aO hw hF5 (sd (sd lZ))) (aO hw hF5 (sd (sd lZ))) (aO hw hF9 (sd (sd (sR lZ)))) (aO hw hF9 (sd (sd (sR lZ)))) (aO hw hF13 (sd (sd (sR (sR lZ))))) (aO hw hF13 (sd (sd (sR (sR lZ))))) (aO hw hF17 (sd (sd (sR (sR (sR lZ)))))) (aO hw hF17 (sd (sd (sR (sR (sR lZ)))))) oo_) (fun p24 c25 L26 hF27=>?_))));have hb28:=(DI (wl 1) ((aM h).x) ((aM h).x) ((aM h).y) ((aM h).y) ((aM h).z) ((aM h).z) ((aM h).t) ((aM h).t));refine go3 ?_;refine rt1 ?_
 have hE:((nY (wl 1) ((aM h).x) ((aM h).x) ((aM h).y) ((aM h).y) ((aM h).z) ((aM h).z) ((aM h).t) ((aM h).t)):(List I))=(eT h):=by exact rfl
 rw [← hE];exact ⟨_,rfl,⟨L26,lZ,hF27⟩⟩
theorem u3 (vx:Value) (x:(List I)) (vy:Value) (y:(List I)) (vz:Value) (z:(List I)) (vu:Value) (u:(List I)) (w:World) (hx:Slr w elI vx x) (hy:Slr w elI vy y) (hz:Slr w elI vz z) (hu:Slr w elI vu u) (hpre:(x.length≤100∧y.length≤100)∧z.length≤100∧u.length≤100) :
  Calls prog 64 [vx,vy,vz,vu].toArray w (fun e w'=>∃ v,e = .returned (v)∧Ext w w'∧Slo w.heap.size w' 33 elI v (gP x y z u)):=by
 obtain ⟨p_x,c_x,rfl⟩:=hx.form;obtain ⟨p_y,c_y,rfl⟩:=hy.form;obtain ⟨p_z,c_z,rfl⟩:=hz.form;obtain ⟨p_u,c_u,rfl⟩:=hu.form;refine gQ (n:=22) (fun v=>v) func64 O O zz_ ?_;obtain ⟨w0,rfl⟩:=nm w;have Hx:=hx.old;have hm_x:=hx.max;have Hy:=hy.old;have hm_y:=hy.max;have Hz:=hz.old;have hm_z:=hz.max;have Hu:=hu.old;have hm_u:=hu.max;refine giI ?_;refine go8 ?_;refine bI O (cO [[csl p_x x.length c_x],[csl p_x x.length c_x],[csl p_y y.length c_y],[csl p_y y.length c_y]] [csl p_x x.length c_x,csl p_x x.length c_x,csl p_y y.length c_y,csl p_y y.length c_y] BC NY E4 O dd_ O O ⟨rfl,rfl,rfl,rfl,rfl,rfl,rfl,rfl,rfl,rfl,rfl,rfl,trivial⟩ O (fun b1 hb1=>bI O (cG (E:=33) (e:=elI) (l:=(cX (wl 1) x x y y)) (fun v=>v) aE O (fun w hw=>nO (wl 1) _ _ _ _ x _ _ x _ _ y _ _ y w (hw.mem _ m0) (aR hw Hx sn) (aR hw Hx sn) (aR hw Hy sn) (aR hw Hy sn) oo_) (fun p2 c3 L4 hF5=>?_))));have hb6:=(oF (wl 1) x x y y);refine go4 ?_;refine bI O (cO [[csl p_z z.length c_z],[csl p_z z.length c_z],[csl p_u u.length c_u],[csl p_u u.length c_u]] [csl p_z z.length c_z,csl p_z z.length c_z,csl p_u u.length c_u,csl p_u u.length c_u] BC NY E4 O dd_ O O ⟨rfl,rfl,rfl,rfl,rfl,rfl,rfl,rfl,rfl,rfl,rfl,rfl,trivial⟩ O (fun b7 hb7=>bI O (cG (E:=33) (e:=elI) (l:=(cX (wl 1) z z u u)) (fun v=>v) aE O (fun w hw=>nO (wl 1) _ _ _ _ z _ _ z _ _ u _ _ u w (hw.mem _ m0) (aR hw Hz sn) (aR hw Hz sn) (aR hw Hu sn) (aR hw Hu sn) oo_) (fun p8 c9 L10 hF11=>?_))));have hb12:=(oF (wl 1) z z u u);refine bI O (cG (E:=33) (e:=elI) (l:=(rP (cX (wl 1) x x y y) (cX (wl 1) z z u u))) (fun v=>v) aE O (fun w hw=>M6 _ (cX (wl 1) x x y y) _ (cX (wl 1) z z u u) w (aO hw hF5 (sR (sd lZ))) (aO hw hF11 lZ) oo_) (fun p13 c14 L15 hF16=>?_));have hb17:=(ET (cX (wl 1) x x y y) (cX (wl 1) z z u u));refine go3 ?_;refine rt1 ?_
 have hE:((rP (cX (wl 1) x x y y) (cX (wl 1) z z u u)):(List I))=(gP x y z u):=by exact rfl
 rw [← hE];exact ⟨_,rfl,⟨L15,lZ,hF16⟩⟩
end Go.Proofs.YtbjlhfochebmiaaGreatDoor
namespace Go.Num
open Go Go.Kn
theorem lD (h:Path):(eT h).length≤25:=by unfold eT;exact DI _ _ _ _ _ _ _ _ _
theorem vP (x y z w:List I):(gP x y z w).length≤25:=by unfold gP;exact ET _ _
end Go.Num
