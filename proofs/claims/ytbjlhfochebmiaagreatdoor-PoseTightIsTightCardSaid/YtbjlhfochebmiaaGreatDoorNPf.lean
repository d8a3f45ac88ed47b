/- Lemmas: what they ask stands in their statements. -/
import Derived.Test.YtbjlhfochebmiaaGreatDoorNQr
set_option linter.unusedSimpArgs false
set_option linter.unusedVariables false
namespace Go.Num
open Go Go.Kn
theorem WN (a:A3 W):kG a=tP a:=rfl
structure Z4 where
 x:Int
 y:Int
 z:Int
 t:Int
deriving DecidableEq
def Z4.g (a:Z4):Nat:=Int.gcd (Int.gcd (Int.gcd (Int.gcd (0:Nat) a.x:Nat) a.y:Nat) a.z:Nat) a.t
def Z4.lead (a:Z4):Int:=if a.x≠0 then a.x else if a.y≠0 then a.y else if a.z≠0 then a.z else a.t
def Z4.m (a:Z4):Int:=a.lead.sign*a.g
def Z4.zero (a:Z4):Prop:=a.x=0∧a.y=0∧a.z=0∧a.t=0
theorem Z4.ext {a b:Z4} (h1:a.x=b.x) (h2:a.y=b.y) (h3:a.z=b.z) (h4:a.t=b.t):a=b:=by cases a;cases b;simp_all
def A4.i (a:A4 W):Z4:=⟨a.x.1,a.y.1,a.z.1,a.t.1⟩
theorem A4.i_inj {a b:A4 W} (h:a.i=b.i):a=b:=by
 cases a;cases b
 simp only [A4.i,Z4.mk.injEq] at h;obtain ⟨h1,h2,h3,h4⟩:=h;simp only [A4.mk.injEq];exact ⟨Subtype.ext h1,Subtype.ext h2,Subtype.ext h3,Subtype.ext h4⟩
theorem ey_ {a:W} (h:a.1 ≠ -9223372036854775808):(W.neg a).1 = -a.1:=by
 have h2:=a.2;unfold I64 at h2
 show IntKind.i64.wrap (0 - a.1)=_
 rw [wi oo_];omega
theorem MO {u g:Int} (hu:e9 u) (hg:0<g):e9 (u / g):=by
 unfold e9 at *;have h1:=Int.mul_ediv_add_emod u g;have h2:=Int.emod_nonneg u (by omega:g≠0);have h3:=Int.emod_lt_of_pos u hg
 have h4:(u / g).natAbs≤u.natAbs:=by
  rcases Int.lt_or_le u 0 with h|h
  ·have h5:u / g<0:=Int.ediv_neg_of_neg_of_pos h hg
   have h6:u≤u / g:=by
    have h7:g*(u / g)≤u / g:=by
     have:=Int.mul_le_mul_of_nonpos_right (show (1:Int)≤g by omega) (Int.le_of_lt h5);omega
    have h8:u<g*(u / g)+g:=by omega
    rcases Int.lt_or_le u (g*(u / g)) with h9|h9
    ·omega
    have h10:(g - 1)*(u / g) ≤ -(g - 1):=by
     have:=Int.mul_le_mul_of_nonneg_left (show u / g ≤ -1 by omega) (show 0≤g - 1 by omega);omega
    have h11:g*(u / g)=(g - 1)*(u / g)+u / g:=by rw [Int.sub_mul];omega
    omega
   omega
  have h5:0≤u / g:=Int.ediv_nonneg h oo_;have h6:u / g≤u:=Int.ediv_le_self _ h;omega
 omega
theorem MP {u g:Int} (hg:0<g) (hb:e9 g):e9 (u % g):=by
 unfold e9 at *;have h2:=Int.emod_nonneg u (by omega:g≠0);have h3:=Int.emod_lt_of_pos u hg;omega
theorem TP {u v:Int} (hu:e9 u) (hv:e9 v) (h:0<v):Z.rem (Z.of u) (Z.of v)=Z.of (u % v):=by
 rw [Z.rem,dH (Z.of_some hu) (Z.of_some hv),if_neg oo_,Int.fmod_eq_emod_of_nonneg _ oo_]
theorem AO {u v:Int} (hu:e9 u) (hv:e9 v) (h:0<v):Z.quo (Z.of u) (Z.of v)=Z.of (u / v):=by
 rw [AN hu hv oo_,EL h]
theorem MG {u v:Int} (hu:e9 u) (hv:e9 v):(Z.cmpW (Z.of u) (Z.of v)).1=(u - v).sign:=by
 show Z.cmp _ _=_
 unfold Z.cmp;rw [Z.of_some hu,Z.of_some hv];simp only;rcases Int.lt_trichotomy u v with h|h|h
 ·rw [yB h,Int.sign_eq_neg_one_of_neg oo_]
 ·subst h;rw [EE,Int.sub_self];rfl
 rw [yA h,Int.sign_eq_one_of_pos oo_]
theorem D8 {n:Int} (h:-4≤n∧n≤4):IntKind.i64.wrap n=n:=wi ⟨by omega,by omega⟩
theorem I3 (x:Int):-1≤x.sign∧x.sign≤1:=by
 rcases Int.lt_trichotomy x 0 with h|h|h
 ·rw [Int.sign_eq_neg_one_of_neg h];omega
 ·subst h;decide
 rw [Int.sign_eq_one_of_pos h];omega
theorem b1_ {o x:W} (ho:o.1=1∨o.1 = -1) (hx:-2≤x.1∧x.1≤2):(W.mul o x).1=o.1*x.1:=by
 show IntKind.i64.wrap (o.1*x.1)=_
 refine D8 ?_;rcases ho with h|h<;>rw [h]<;>omega
theorem b4_ {o:W} (ho:o.1=1∨o.1 = -1):(W.neg o).1 = -o.1:=by
 show IntKind.i64.wrap (0 - o.1)=_
 rw [D8 oo_];omega
theorem ZL {b d p r s:Int} (hb:0<b) (hd:0<d) (h0:p≠0) (hr:0≤r) (hrb:r<b) (hs:0≤s) (hsd:s<d):(b*d*p+(r*d - s*b)).sign=p.sign:=by
 have hbd:0<b*d:=Int.mul_pos hb hd;have h1:r*d<b*d:=Int.mul_lt_mul_of_pos_right hrb hd;have h2:s*b<d*b:=Int.mul_lt_mul_of_pos_right hsd hb;have h3:0≤r*d:=Int.mul_nonneg hr oo_;have h4:0≤s*b:=Int.mul_nonneg hs oo_;rw [Int.mul_comm d b] at h2;rcases Int.lt_trichotomy p 0 with h|h|h
 ·rw [Int.sign_eq_neg_one_of_neg h,Int.sign_eq_neg_one_of_neg]
  have:b*d*p≤b*d*(-1):=Int.mul_le_mul_of_nonneg_left oo_ oo_;omega
 ·exact absurd h h0
 rw [Int.sign_eq_one_of_pos h,Int.sign_eq_one_of_pos];have:b*d*1≤b*d*p:=Int.mul_le_mul_of_nonneg_left oo_ oo_;omega
theorem aE_:∀ (k:Nat) (o:W) (a b c d:Int),b.toNat≤k→0<b→0<d→e9 a→e9 b→e9 c→e9 d→(o.1=1∨o.1 = -1) →
  (cf k o (E (Z.of a)) (E (Z.of b)) (E (Z.of c)) (E (Z.of d))).1=o.1*(a*d - c*b).sign:=by
 intro k
 induction k with
 | zero=>intro o a b c d hk hb;omega
 | succ k ih =>
  intro o a b c d hk hb hd ha hb' hc hd' ho;unfold cf;simp only [dQ];rw [AO ha hb' hb,AO hc hd' hd,TP ha hb' hb,TP hc hd' hd,pA (MP hb hb'),pA (MP hd hd'),MG (MO ha hb) (MO hc hd)];have e1:=Int.mul_ediv_add_emod a b;have e2:=Int.mul_ediv_add_emod c d;have r1:=Int.emod_nonneg a (by omega:b≠0);have r2:=Int.emod_lt_of_pos a hb;have s1:=Int.emod_nonneg c (by omega:d≠0);have s2:=Int.emod_lt_of_pos c hd;have hrB:=MP (u:=a) hb hb';have hsB:=MP (u:=c) hd hd';have hpB:=MO ha hb;have hqB:=MO hc hd;generalize hp:a / b=p at *;generalize hr:a % b=r at *;generalize hq:c / d=q at *;generalize hs:c % d=s at *
  have key:a*d - c*b=b*d*(p - q)+(r*d - s*b):=by
   rw [← e1,← e2];grind
  rw [key]
  by_cases hpq:p=q
  ·have h1:(p - q).sign=0:=by rw [hpq,Int.sub_self];rfl
   have h2:b*d*(p - q)+(r*d - s*b)=r*d - s*b:=by rw [hpq];grind
   rw [h1,h2];have h3:((0:Int) != 0)=false:=rfl;rw [h3];simp only [cond_false]
   by_cases h0:r=0∨s=0
   ·have h4:((r.sign==0)||(s.sign==0))=true:=by
     rcases h0 with h|h<;>subst h<;>simp
    rw [h4];simp only [cond_true];have h5:=I3 r;have h6:=I3 s
    have e5:(W.sub (Z.signW (Z.of r)) (Z.signW (Z.of s))).1=r.sign - s.sign:=by
     show IntKind.i64.wrap ((Z.signW (Z.of r)).1 - (Z.signW (Z.of s)).1)=_
     rw [pA hrB,pA hsB];exact D8 oo_
    rw [b1_ ho (by rw [e5];omega),e5]
    congr 1
    rcases h0 with h|h
    ·subst h
     rw [Int.zero_mul,Int.zero_sub,Int.sign_neg,Int.sign_mul,Int.sign_eq_one_of_pos hb];simp
    subst h;rw [Int.zero_mul,Int.sub_zero,Int.sign_mul,Int.sign_eq_one_of_pos hd];simp
   have hr0:0<r:=by omega
   have hs0:0<s:=by omega
   have h4:((r.sign==0)||(s.sign==0))=false:=by
    rw [Int.sign_eq_one_of_pos hr0,Int.sign_eq_one_of_pos hs0];rfl
   rw [h4];simp only [cond_false];rw [ih _ _ _ _ _ oo_ hr0 hs0 hb' hrB hd' hsB (by rw [b4_ ho];omega),b4_ ho]
   have:b*s - d*r = -(r*d - s*b):=by grind
   rw [this,Int.sign_neg,Int.neg_mul_neg]
  have h1:((p - q).sign != 0)=true:=by
   rcases Int.lt_trichotomy (p - q) 0 with h|h|h
   ·rw [Int.sign_eq_neg_one_of_neg h];rfl
   ·omega
   rw [Int.sign_eq_one_of_pos h];rfl
  rw [h1];simp only [cond_true];rw [b1_ ho (by rw [MG hpB hqB];have:=I3 (p - q);omega),MG hpB hqB];rw [ZL hb hd oo_ r1 r2 s1 s2]
theorem cN_ {d:Int} (h:e9 d):cfN (E (Z.of d))=d.toNat:=by
 unfold cfN;rw [dQ,Z.of_some h]
theorem D9 {a:Rt} {n d:Int} (h:a.Is n d):aV a=true:=d2_.2 ⟨n,d,h⟩
theorem cn_ {a b:Rt} {n d m e:Int} (ha:a.Is n d) (hb:b.Is m e):(cH a b).1=(n*e - m*d).sign:=by
 unfold cH;rw [sH,sH,D9 ha,D9 hb];simp only [Bool.not_true,Bool.and_false,cond_true,cond_false];rw [ha.en,ha.ed,hb.en,hb.ed,cN_ ha.hd,aE_ _ _ _ _ _ _ (Nat.le_refl _) ha.pos hb.pos ha.hn ha.hd hb.hn hb.hd (.inl O)];exact Int.one_mul _
theorem cu_ {a:Rt} {n d:Int} (h:a.Is n d):Rt.Is (kX a) (-n) d:=by
 have e:kX a=⟨E (Z.of (-n)),E (Z.of d)⟩:=by
  unfold kX;rw [D9 h,h.en,h.ed,dQ,RD h.hn];rfl
 rw [e];refine ⟨rfl,rfl,?_,h.hd,h.pos,by rw [Int.neg_gcd];exact h.cop⟩;have:=h.hn;unfold e9 at *;rw [Int.natAbs_neg];exact this
structure Iv.Is (a:Iv) (n d m e:Int):Prop where
 lo:a.lo.Is n d
 hi:a.hi.Is m e
 le:n*e≤m*d
def Rt.At (a:Rt) (q:Rat):Prop:=a.Is q.num (q.den:Int)
theorem bL_ {a:Rt} {n d:Int} (h:a.Is n d):∃ q:Rat,a.At q∧q.num=n∧(q.den:Int)=d:=by
 have hd:(d.toNat:Int)=d:=Int.toNat_of_nonneg (Int.le_of_lt h.pos)
 have hc:n.natAbs.Coprime d.toNat:=by
  have:=h.cop;unfold Int.gcd at this;rw [show d.natAbs=d.toNat by omega] at this;exact this
 refine ⟨⟨n,d.toNat,by have:=h.pos;omega,hc⟩,?_,rfl,hd⟩
 show a.Is n (d.toNat:Int)
 rw [hd];exact h
theorem wT {a:Rt} {q:Rat} (h:a.At q):aV a=true:=D9 h
theorem LX {a b:Rt} {q:Rat} (ha:a.At q) (hb:b.At q):a=b:=Rt.ext (ha.en.trans hb.en.symm) (ha.ed.trans hb.ed.symm)
theorem QK {a b:Rt} {p q:Rat} (ha:a.At p) (hb:b.At q):(cH a b).1=(p.num*q.den - q.num*p.den).sign:=cn_ ha hb
structure Iv.At (a:Iv) (p q:Rat):Prop where
 lo:a.lo.At p
 hi:a.hi.At q
 le:p≤q
structure Sz (q:Rat) (k:Nat):Prop where
 n:q.num.natAbs<2 ^ k
 d:q.den<2 ^ k
theorem wO {a b:Nat} (h:a≤b):(2:Nat) ^ a≤2 ^ b:=Nat.pow_le_pow_right dd_ h
theorem cm_ {v:Int} {k:Nat} (m:Nat) (hm:4294967296 ^ 16=2 ^ m) (h:v.natAbs<2 ^ k) (hk:k≤m):e9 v:=by
 unfold e9;rw [hm];exact Nat.lt_of_lt_of_le h (wO hk)
theorem uI {v:Int} {k:Nat} (h:v.natAbs<2 ^ k) (hk:k≤512):e9 v:=cm_ 512 DA h hk
theorem Sz.mono {q:Rat} {j k:Nat} (h:Sz q j) (hk:j≤k):Sz q k:=⟨Nat.lt_of_lt_of_le h.n (wO hk),Nat.lt_of_lt_of_le h.d (wO hk)⟩
theorem Sz.bd {q:Rat} {k:Nat} (h:Sz q k) (hk:k≤512):e9 (q.den:Int):=uI (by simpa using h.d) hk
theorem pT {a b j k:Nat} (h:a<2 ^ j) (g:b<2 ^ k):a*b<2 ^ (j+k):=by
 rw [Nat.pow_add];exact Nat.mul_lt_mul_of_lt_of_le h (Nat.le_of_lt g) (Nat.pow_pos dd_)
theorem Sz.mul {p q:Rat} {j k:Nat} (h:Sz p j) (g:Sz q k):Sz (p*q) (j+k):=by
 constructor
 ·rw [Rat.num_mul]
  refine Nat.lt_of_le_of_lt (Int.natAbs_ediv_le_natAbs _ _) ?_;rw [Int.natAbs_mul];exact pT h.n g.n
 rw [Rat.den_mul];exact Nat.lt_of_le_of_lt (Nat.div_le_self _ _) (pT h.d g.d)
theorem Sz.neg {p:Rat} {k:Nat} (h:Sz p k):Sz (-p) k:=⟨by rw [Rat.neg_num,Int.natAbs_neg];exact h.n,h.d⟩
theorem QP {n m:Int} {d e j k:Nat} (h1:n.natAbs<2 ^ j) (h2:e<2 ^ k) (h3:m.natAbs<2 ^ k) (h4:d<2 ^ j):(n*e+m*d).natAbs<2 ^ (j+k+1):=by
 have a:=pT h1 h2;have b:=pT h4 h3;have c:=Int.natAbs_add_le (n*e) (m*d);rw [Int.natAbs_mul,Int.natAbs_mul,Int.natAbs_natCast,Int.natAbs_natCast] at c;rw [Nat.pow_succ];rw [Nat.mul_comm d] at b;omega
theorem Sz.add {p q:Rat} {j k:Nat} (h:Sz p j) (g:Sz q k):Sz (p+q) (j+k+1):=by
 constructor
 ·rw [Rat.num_add]
  exact Nat.lt_of_le_of_lt (Int.natAbs_ediv_le_natAbs _ _) (QP h.n g.d g.n h.d)
 rw [Rat.den_add];exact Nat.lt_of_le_of_lt (Nat.div_le_self _ _) (Nat.lt_of_lt_of_le (pT h.d g.d) (wO oo_))
theorem Sz.int {n:Int} {k:Nat} (h:n.natAbs<2 ^ k) (hk:0<k):Sz (n:Rat) k:=⟨h,Nat.one_lt_two_pow oo_⟩
theorem d1_ {a:Rt} {n d:Int} {q:Rat} (h:a.Is n d) (he:q.num*d=n*q.den):a.At q:=by
 obtain ⟨p,hp,h1,h2⟩:=bL_ h;have:p=q:=Rat.eq_iff_mul_eq_mul.2 (by rw [h1,h2];exact he.symm);rw [← this];exact hp
theorem At.is {a:Rt} {q:Rat} (h:a.At q):a.Is q.num (q.den:Int):=h
theorem x9 {n d:Int} {q:Rat} (hn:e9 n) (hd:e9 d) (hp:0<d) (he:q.num*d=n*q.den):(bR (E (Z.of n)) (E (Z.of d))).At q:=by
 refine d1_ (CE hn hd hp) ?_;have g1:((Int.gcd n d:Nat):Int) ∣ n:=Int.gcd_dvd_left ..;have g2:((Int.gcd n d:Nat):Int) ∣ d:=Int.gcd_dvd_right ..
 have p1:0<((Int.gcd n d:Nat):Int):=by have:=Int.gcd_pos_of_ne_zero_right n (show d≠0 by omega);omega
 obtain ⟨x,hx⟩:=g1;obtain ⟨y,hy⟩:=g2;generalize ((Int.gcd n d:Nat):Int)=G at *
 have q1:n / G=x:=by rw [hx];exact Int.mul_ediv_cancel_left _ oo_
 have q2:d / G=y:=by rw [hy];exact Int.mul_ediv_cancel_left _ oo_
 rw [q1,q2];rw [hx,hy] at he;exact Int.eq_of_mul_eq_mul_left (show G≠0 by omega) (by grind)
theorem FQ (c:W):(fI c).At (c.1:Rat):=by
 unfold fI;rw [a9_];have:=c.2;unfold I64 at this;exact x9 (uI (k:=64) oo_ dd_) B1 dd_ (by simp)
theorem QL {a:Rt} {p:Rat} (h:a.At p):(kX a).At (-p):=cu_ h
theorem uT {q:Rat}:(0:Int)<q.den:=by have:=q.den_nz;omega
theorem L0 {a:Rt} {p:Rat} (h:a.At p):(gW a).1=p.num.sign:=by
 unfold gW;rw [wT h,(At.is h).en,dQ];exact pA (At.is h).hn
theorem sB {v:Int} (h:v.natAbs<2 ^ 64):e9 v:=Nat.lt_of_lt_of_le h dd_
def W.b (a:W):BitVec 64:=BitVec.ofInt 64 a.1
theorem eZ_ (a b c d e f g h:W):dD [a,b,c,d,e,f,g,h]=W.add (W.add (W.add (W.add (wl 0) (W.mul a b)) (W.mul c d)) (W.mul e f)) (W.mul g h):=rfl
def Z4.Lw (v:Z4) (n:Nat):Prop:=v.x.natAbs<n∧v.y.natAbs<n∧v.z.natAbs<n∧v.t.natAbs<n
theorem a0_ {a:A4 W} (h:gR a=true):a.i.Lw 65:=by
 unfold gR at h
 have g:∀ {c:Bool} {y:Bool},(bif c then false else y)=true→c=false∧y=true:=fun {c y} h=>by cases c<;>simp_all
 obtain ⟨h1,h⟩:=g h;obtain ⟨h2,h⟩:=g h;obtain ⟨h3,h⟩:=g h;obtain ⟨h4,h⟩:=g h;simp only [Bool.or_eq_false_iff,decide_eq_false_iff_not] at h1 h2 h3 h4;refine ⟨?_,?_,?_,?_⟩
 ·show a.x.1.natAbs<65;omega
 ·show a.y.1.natAbs<65;omega
 ·show a.z.1.natAbs<65;omega
 show a.t.1.natAbs<65;omega
theorem bJ_ {a:A4 W} (h:a.i.zero):a=⟨wl 0,wl 0,wl 0,wl 0⟩:=A4.i_inj (Z4.ext h.1 h.2.1 h.2.2.1 h.2.2.2)
theorem FO {a:A4 W} (h:fD a=true):a.i.Lw 65∧¬ a.i.zero:=by
 unfold fD at h
 cases hl:gR a
 ·rw [hl] at h;cases h
 refine ⟨a0_ hl,fun hz=>?_⟩;rw [bJ_ hz] at h
 have:fD ⟨wl 0,wl 0,wl 0,wl 0⟩ = false:=by kernel_rfl
 unfold fD at this;rw [this] at h;cases h
class Rg (α:Type) [Add α] [Mul α] [OfNat α 0]:Prop where
 aa:∀ a b c:α,a+b+c=a+(b+c)
 ac:∀ a b:α,a+b=b+a
 a0:∀ a:α,a+0=a
 ma:∀ a b c:α,a*b*c=a*(b*c)
 mc:∀ a b:α,a*b=b*a
 md:∀ a b c:α,a*(b+c)=a*b+a*c
 m0:∀ a:α,a*0=0
instance:Rg Int:=⟨Int.add_assoc,Int.add_comm,Int.add_zero,Int.mul_assoc,Int.mul_comm,Int.mul_add,Int.mul_zero⟩
instance:Rg Rat:=⟨Rat.add_assoc,Rat.add_comm,Rat.add_zero,Rat.mul_assoc,Rat.mul_comm,Rat.mul_add,Rat.mul_zero⟩
theorem Rg.zm {α:Type} [Add α] [Mul α] [OfNat α 0] [Rg α] (a:α):0*a=0:=by rw [Rg.mc,Rg.m0]
def mS {α:Type} [Add α] [OfNat α 0] (f:Nat→α):Nat→α
 | 0=>0
 | n+1=>mS f n+f n
theorem xE {α:Type} [Add α] [Mul α] [OfNat α 0] [Rg α] {f:Nat→α}:∀ {n:Nat},(∀ i,i<n→f i=0)→mS f n=0
 | 0,_=>rfl
 | n+1,h=>by simp only [mS];rw [xE fun i hi=>h i (by omega),h n (by omega),Rg.a0]
theorem xD {α:Type} [Add α] [Mul α] [OfNat α 0] [Rg α] {f:Nat→α} {n:Nat} (h:∀ i,n≤i→f i=0):∀ m:Nat,n≤m→mS f m=mS f n
 | 0,hm=>by rw [show n=0 by omega]
 | m+1,hm=>by
  rcases Nat.lt_or_ge n (m+1) with g|g
  ·rw [mS,h m (by omega),Rg.a0,xD h m (by omega)]
  rw [show n=m+1 by omega]
def conv {α:Type} [Add α] [Mul α] [OfNat α 0] (c d:Nat→α) (k:Nat):α:=mS (fun i=>c i*d (k - i)) (k+1)
theorem KI {α:Type} [Add α] [Mul α] [OfNat α 0] [Rg α] {c d:Nat→α} {n m:Nat} (hc:∀ i,n≤i→c i=0) (hd:∀ i,m≤i→d i=0) (k:Nat) (hk:n+m≤k+1):conv c d k=0:=by
 refine xE fun i hi=>?_;rcases Nat.lt_or_ge i n with h|h
 ·rw [hd _ (by omega),Rg.m0]
 rw [hc _ h,Rg.zm]
def cR (c:Nat→Int) (i:Nat):Rat:=(c i:Rat)
theorem vI0:vI I0=0:=dW_ B0
theorem dH_ {u v:Int} (hu:e9 u) (hv:e9 v):Z.sub (Z.of u) (Z.of v)=Z.of (u - v):=by
 rw [Z.sub,RD hv,DS hu (show (-v).natAbs<_ by rw [Int.natAbs_neg];exact hv),Int.sub_eq_add_neg]
structure Po (p:List I) (c:Nat→Int):Prop where
 g:p.all gdI=true
 s:mR p=p
 l:p.length≤25
 c:∀ k,vI (p.getD k I0)=c k
section
variable {p q:List I} {c d:Nat→Int}
theorem SW (h:p.all gdI=true) (k:Nat):gdI (p.getD k I0)=true:=by
 by_cases hk:k<p.length
 ·rw [show p.getD k I0=p[k] by simp [List.getD,hk]]
  exact List.all_eq_true.1 h _ (List.getElem_mem hk)
 rw [wV oo_];exact cY_ B0
theorem Po.get (h:Po p c) (k:Nat):p.getD k I0=E (Z.of (c k)):=by rw [← h.c k];exact (bS_ (SW h.g k)).1
theorem Po.B (h:Po p c) (k:Nat):e9 (c k):=by rw [← h.c k];exact (bS_ (SW h.g k)).2
theorem Po.zero (h:Po p c) {k:Nat} (hk:p.length≤k):c k=0:=by rw [← h.c k,wV hk,vI0]
theorem Po.last (h:Po p c) {n:Nat} (hn:p.length=n+1):c n≠0:=by
 rcases xR p with rfl|⟨m,x,rfl⟩
 ·cases hn
 have h1:=SD h.s
 have h2:n=m.length:=by simp at hn;omega
 have h3:=h.get n;rw [show (m++[x]).getD n I0=x by simp [h2]] at h3;rw [h3,fu_ (h.B n)] at h1;exact of_decide_eq_false h1
theorem Po.short (h:Po p c) {n:Nat} (hz:∀ k,n≤k→c k=0):p.length≤n:=by
 rcases Nat.lt_or_ge n p.length with g|g
 ·exact absurd (hz (p.length - 1) oo_) (h.last oo_)
 exact g
theorem Po.eq (h:Po p c) (g:Po q c):p=q:=by
 have e:p.length=q.length:=Nat.le_antisymm (h.short fun k hk=>g.zero hk) (g.short fun k hk=>h.zero hk);refine List.ext_getElem e fun k h1 h2=>?_;have a:=h.get k;rw [← g.get k] at a
 simpa [List.getD,h1,h2] using a
theorem Po.cast (h:Po p c) (e:∀ k,c k=d k):Po p d:=⟨h.g,h.s,h.l,fun k=>(h.c k).trans (e k)⟩
theorem QM:Po [] (fun _=>0):=⟨rfl,rfl,by decide,fun k=>by rw [show ([]:List I).getD k I0=I0 by simp];exact vI0⟩
theorem Po.nil (h:Po p c) (hz:∀ k,c k=0):p=[]:=(h.cast hz).eq QM
theorem E2:∀ (n:Nat) (l:List I),l.length≤n→∀ k,(mR l).length≤k→zrI (l.getD k I0)=true
 | 0,l,h,k,_=>by
  rw [wV oo_];exact zr0
 | n+1,l,h,k,hk=>by
  rcases xR l with rfl|⟨m,x,rfl⟩
  ·rw [show ([]:List I).getD k I0=I0 by simp];exact zr0
  rw [vR] at hk
  cases hx:zrI x
  ·rw [hx,cond_false] at hk
   rw [wV hk];exact zr0
  rw [hx,cond_true] at hk;rcases Nat.lt_trichotomy k m.length with g|g|g
  ·rw [show (m++[x]).getD k I0=m.getD k I0 by simp [List.getD,List.getElem?_append_left g]]
   exact E2 n m (by simp at h;omega) k hk
  ·rw [show (m++[x]).getD k I0=x by simp [g]];exact hx
  rw [wV (by simp;omega)];exact zr0
theorem YJ {l:List I} (h:∀ k,l.getD k I0=E (Z.of (c k))) (hB:∀ k,e9 (c k)) (hz:∀ k,25≤k→c k=0):Po (mkP l) c:=by
 have hg:l.all gdI=true:=List.all_eq_true.2 fun x hx=>by
  obtain ⟨k,hk,rfl⟩:=List.getElem_of_mem hx;have e:=h k;rw [show l.getD k I0=l[k] by simp [List.getD,hk]] at e;rw [e];exact cY_ (hB k)
 have hl:(mR l).length≤25:=F9 _ l (Nat.le_refl _) fun j hj=>by rw [h j,hz j hj];exact zr0
 have e:mkP l=mR l:=by unfold mkP;rw [hg,cond_true,if_pos hl]
 rw [e];refine ⟨LH hg,I8 l,hl,fun k=>?_⟩
 by_cases hk:k<(mR l).length
 ·have e2:(mR l).getD k I0=l.getD k I0:=by
   rw [w8 l];simp only [List.getD,List.getElem?_take,hk,if_true]
  rw [e2,h k,dW_ (hB k)]
 have:=E2 _ l (Nat.le_refl _) k oo_;rw [h k,fu_ (hB k)] at this;rw [wV oo_,vI0,of_decide_eq_true this]
theorem ZV (f:Nat→I) (n k:Nat):((List.range n).map f).getD k I0=if k<n then f k else I0:=by
 by_cases h:k<n<;>simp [List.getD,h]
theorem ZU {f:Nat→I} {n:Nat} (h:∀ k,k<n→f k=E (Z.of (c k))) (h0:∀ k,n≤k→c k=0) (hB:∀ k,e9 (c k)) (hz:∀ k,25≤k→c k=0):Po (mkP ((List.range n).map f)) c:=by
 refine YJ (fun k=>?_) hB hz;rw [ZV]
 split
 ·exact h k ‹_›
 rw [h0 k oo_];rfl
theorem Po.l3 (h:Po p c):p.length≤1000:=Nat.le_trans h.l dd_
theorem Po.nb (h:Po p c):gB p=false:=by rw [EA h.l3,h.g];rfl
theorem MN {e:Nat→Int} {f:I→I→I} (h:Po p c) (g:Po q d) (hf:∀ k,f (E (Z.of (c k))) (E (Z.of (d k)))=E (Z.of (e k))) (hB:∀ k,e9 (e k)) (h0:∀ k,c k=0→d k=0→e k=0):Po (jU p q f) e:=by
 rw [aO_ f h.l3 g.l3,h.g,g.g,Bool.and_true,cond_true];have hl:=h.l;have gl:=g.l;refine ZU (fun k _=>?_) (fun k hk=>?_) hB (fun k hk=>?_)
 ·rw [h.get,g.get,hf]
 ·exact h0 k (h.zero oo_) (g.zero oo_)
 exact h0 k (h.zero oo_) (g.zero oo_)
theorem ck_ (h:Po p c) (g:Po q d) (hB:∀ k,e9 (c k+d k)):Po (bP p q) (fun k=>c k+d k) :=
 MN h g (fun k=>by rw [dQ,dQ,DS (h.B k) (g.B k)]) hB (fun k h1 h2=>by rw [h1,h2];rfl)
theorem cv_ (h:Po p c) (g:Po q d) (hB:∀ k,e9 (c k - d k)):Po (rP p q) (fun k=>c k - d k) :=
 MN h g (fun k=>by rw [dQ,dQ,dH_ (h.B k) (g.B k)]) hB (fun k h1 h2=>by rw [h1,h2];rfl)
theorem YK (h:Po p c) (g:Po q d) (k:Nat) (hs:∀ t,e9 (mS (fun i=>c i*d (k - i)) t)) (hm:∀ i j,e9 (c i*d j)) :
  ∀ (t i:Nat),k+1 - i<t→i≤k+1→(j9 k q p t i (E (Z.of (mS (fun i=>c i*d (k - i)) i)))).2=E (Z.of (conv c d k))
 | 0,i,ht,_=>absurd ht (Nat.not_lt_zero _)
 | t+1,i,ht,hi=>by
  unfold j9;have e:∀ a b,a≤b→p.length≤a→mS (fun i=>c i*d (k - i)) b=mS (fun i=>c i*d (k - i)) a:=fun a b hab hpa =>
   xD (fun j hj=>by rw [h.zero oo_,Int.zero_mul]) b hab
  by_cases hk:(i:Int)≤min (k:Int) ((p.length:Int) - 1)
  ·rw [decide_eq_true hk,cond_true,h.get,g.get,dQ,dQ,dQ,qE (h.B _) (g.B _),DS (hs _) (hm _ _)]
   exact YK h g k hs hm t (i+1) oo_ oo_
  rw [decide_eq_false hk,cond_false]
  show E (Z.of _)=E (Z.of (mS _ (k+1)))
  rcases Nat.lt_or_ge i (k+1) with h1|h1
  ·rw [← e i (k+1) oo_ oo_]
  rw [show i=k+1 by omega]
theorem ct_ (h:Po p c) (g:Po q d) (hs:∀ k t,e9 (mS (fun i=>c i*d (k - i)) t)) (hm:∀ i j,e9 (c i*d j)) (hl:p.length+q.length≤26):Po (bE p q) (conv c d):=by
 unfold bE;rw [h.nb,g.nb,Bool.or_false,cond_false]
 by_cases h0:p=[]
 ·subst h0
  rw [show (((([]:List I).length:Int)==0)||((q.length:Int)==0))=true by simp,cond_true];exact QM.cast fun k=>Eq.symm (xE fun i _=>by rw [h.zero (Nat.zero_le _),Int.zero_mul])
 by_cases g0:q=[]
 ·subst g0
  rw [show (((p.length:Int)==0)||((([]:List I).length:Int)==0))=true by simp,cond_true];refine QM.cast fun k=>Eq.symm (xE fun i _=>?_);rw [g.zero (Nat.zero_le _),Int.mul_zero]
 have h1:0<p.length:=List.length_pos_iff.2 h0;have h2:0<q.length:=List.length_pos_iff.2 g0
 rw [show (((p.length:Int)==0)||((q.length:Int)==0))=false by
  rw [Bool.or_eq_false_iff];exact ⟨beq_eq_false_iff_ne.2 oo_,beq_eq_false_iff_ne.2 oo_⟩,cond_false,zB]
 have hz:∀ k,p.length+q.length≤k+1→conv c d k=0:=fun k hk=>KI (fun i hi=>h.zero hi) (fun i hi=>g.zero hi) k hk;refine ZU (fun k _=>?_) (fun k hk=>hz k oo_) (fun k=>hs k (k+1)) (fun k hk=>hz k oo_);unfold o0
 show (j9 _ _ _ _ _ _).2=_
 rw [show I0=E (Z.of (mS (fun i=>c i*d (k - i)) ((k:Int) - (q.length:Int)+1).toNat)) by
  rw [xE fun i hi=>by rw [g.zero oo_,Int.mul_zero]];rfl]
 exact YK h g k (hs k) hm _ _ oo_ oo_
theorem ah_ {v:Int} {k:Nat} (m:Nat) (hm:4294967296 ^ 16=2 ^ m) (h:v.natAbs<2 ^ k) (hk:k≤m):e9 v:=by
 unfold e9;rw [hm];exact Nat.lt_of_lt_of_le h (Nat.pow_le_pow_right dd_ hk)
theorem xG {v:Int} {k:Nat} (h:v.natAbs<2 ^ k) (hk:k≤512):e9 v:=ah_ 512 DA h hk
structure Bd (c:Nat→Int) (n b:Nat):Prop where
 z:∀ k,n≤k→c k=0
 b:∀ k,(c k).natAbs<2 ^ b
variable {n m b b':Nat}
theorem Bd.mono (h:Bd c n b) {n' b1:Nat} (hn:n≤n') (hb:b≤b1):Bd c n' b1:=⟨fun k hk=>h.z k oo_,fun k=>Nat.lt_of_lt_of_le (h.b k) (Nat.pow_le_pow_right dd_ hb)⟩
theorem Bd.B (h:Bd c n b) (hb:b≤512) (k:Nat):e9 (c k):=xG (h.b k) hb
theorem Bd.add (h:Bd c n b) (g:Bd d m b):Bd (fun k=>c k+d k) (max n m) (b+1) :=
 ⟨fun k hk=>by show c k+d k=0;rw [h.z k oo_,g.z k oo_];rfl,fun k=>by
  show (c k+d k).natAbs<_
  have h1:=h.b k;have h2:=g.b k;have h3:=Int.natAbs_add_le (c k) (d k)
  rw [Nat.pow_succ];omega⟩
theorem o7 {u v:Int} (h:u.natAbs<2 ^ b) (g:v.natAbs<2 ^ b'):(u*v).natAbs<2 ^ (b+b'):=by
 rw [Int.natAbs_mul,Nat.pow_add];exact Nat.mul_lt_mul_of_lt_of_le h (Nat.le_of_lt g) (Nat.pow_pos dd_)
theorem ZT {f:Nat→Int} {A:Nat} (h:∀ i,(f i).natAbs≤A):∀ t:Nat,(mS f t).natAbs≤t*A
 | 0=>by simp [mS]
 | t+1=>by
  have h1:=ZT h t;have h2:=h t;have h3:=Int.natAbs_add_le (mS f t) (f t);rw [Nat.succ_mul];show (mS f t+f t).natAbs≤_;omega
theorem ZS {f:Nat→Int} {e:Nat} (h:∀ i,(f i).natAbs<2 ^ b) (hz:∀ i,n≤i→f i=0) (hn:n≤2 ^ e) (t:Nat):(mS f t).natAbs<2 ^ (b+e):=by
 have hb:0<2 ^ b:=Nat.pow_pos dd_
 have k1:∀ t,t≤n→(mS f t).natAbs<2 ^ (b+e):=fun t ht=>by
  have h1:=ZT (f:=f) (A:=2 ^ b - 1) (fun i=>by have:=h i;omega) t;have h2:t*(2 ^ b - 1)≤2 ^ e*(2 ^ b - 1):=Nat.mul_le_mul_right _ oo_;have h3:2 ^ e*(2 ^ b - 1)<2 ^ e*2 ^ b:=Nat.mul_lt_mul_of_pos_left oo_ (Nat.pow_pos dd_);rw [Nat.pow_add,Nat.mul_comm (2 ^ b)];omega
 rcases Nat.lt_or_ge n t with g|g
 ·rw [xD hz t oo_];exact k1 n (Nat.le_refl _)
 exact k1 t g
theorem KH (h:Bd c n b) (g:Bd d m b') {e:Nat} (hn:n≤2 ^ e) (k t:Nat):(mS (fun i=>c i*d (k - i)) t).natAbs<2 ^ (b+b'+e) :=
 ZS (n:=n) (fun i=>o7 (h.b _) (g.b _)) (fun i hi=>by rw [h.z i hi,Int.zero_mul]) hn t
theorem Bd.conv (h:Bd c n b) (g:Bd d m b') {e:Nat} (hn:n≤2 ^ e):Bd (conv c d) (n+m - 1) (b+b'+e) :=
 ⟨fun k hk=>KI h.z g.z k oo_,fun k=>KH h g hn k (k+1)⟩
theorem Po.len (h:Po p c) (hb:Bd c n b):p.length≤n:=h.short hb.z
theorem cs_ (h:Po p c) (g:Po q d) (hb:Bd c n b) (gb:Bd d m b') {e:Nat} (hn:n≤2 ^ e) (hl:n+m≤26) (hk:b+b'+e≤512):Po (bE p q) (conv c d) :=
 ct_ h g (fun k t=>xG (KH hb gb hn k t) hk) (fun i j=>xG (o7 (hb.b i) (gb.b j)) oo_) (by have:=h.len hb;have:=g.len gb;omega)
theorem cj_ (h:Po p c) (g:Po q d) (hb:Bd c n b) (gb:Bd d m b) (hk:b+1≤512):Po (bP p q) (fun k=>c k+d k) :=
 ck_ h g fun k=>xG ((hb.add gb).b k) hk
end
open Go Go.Kn
def vl (c:Nat→Rat) (x:Rat) (n:Nat):Rat:=mS (fun i=>c i*x ^ i) n
def hv (c:Nat→Int) (N D:Int) (L:Nat):Nat→Int
 | 0=>0
 | t+1=>hv c N D L t*N+c (L - 1 - t)*D ^ t
section
variable {c:Nat→Int} {N D:Int} {L:Nat}
theorem O1 {b s:Nat} (hc:∀ k,(c k).natAbs<2 ^ b) (hN:N.natAbs<2 ^ s) (hD:D.natAbs<2 ^ s):∀ t:Nat,(hv c N D L t).natAbs≤t*2 ^ (b+s*t)
 | 0=>by simp [hv]
 | t+1=>by
  have ih:=O1 hc hN hD t
  have h1:(hv c N D L t*N).natAbs≤t*2 ^ (b+s*t)*2 ^ s:=by
   rw [Int.natAbs_mul];exact Nat.mul_le_mul ih (Nat.le_of_lt hN)
  have h2:(c (L - 1 - t)*D ^ t).natAbs≤2 ^ b*2 ^ (s*t):=by
   rw [Int.natAbs_mul,Int.natAbs_pow,Nat.pow_mul];exact Nat.mul_le_mul (Nat.le_of_lt (hc _)) (Nat.pow_le_pow_left (Nat.le_of_lt hD) t)
  have h3:=Int.natAbs_add_le (hv c N D L t*N) (c (L - 1 - t)*D ^ t)
  have h4:(2:Nat) ^ b*2 ^ (s*t)≤2 ^ (b+s*(t+1)):=by
   rw [← Nat.pow_add];exact Nat.pow_le_pow_right dd_ (by rw [Nat.mul_succ];omega)
  have h5:t*2 ^ (b+s*t)*2 ^ s=t*2 ^ (b+s*(t+1)):=by
   rw [Nat.mul_assoc,← Nat.pow_add,Nat.mul_succ,Nat.add_assoc]
  rw [Nat.succ_mul];show (hv c N D L t*N+c (L - 1 - t)*D ^ t).natAbs≤_;omega
structure Room (c:Nat→Int) (N D:Int) (L:Nat):Prop where
 h:∀ t,t≤L→e9 (hv c N D L t)
 m:∀ t,t<L→e9 (hv c N D L t*N)
 p:∀ t,t<L→e9 (D ^ t)
 q:∀ t,t<L→e9 (c (L - 1 - t)*D ^ t)
theorem eS_ {b s n e:Nat} (hc:∀ k,(c k).natAbs<2 ^ b) (hN:N.natAbs<2 ^ s) (hD:D.natAbs<2 ^ s) (hL:L≤n) (hn:n≤2 ^ e) (h:b+s*n+e+1≤512):Room c N D L:=by
 have hp:(2:Nat) ^ (b+s*n+e+1)=2*(2 ^ e*2 ^ (b+s*n)):=by rw [Nat.pow_succ,Nat.add_comm _ e,Nat.pow_add];omega
 have h0:0<2 ^ e*2 ^ (b+s*n):=Nat.mul_pos (Nat.pow_pos dd_) (Nat.pow_pos dd_);have k1:∀ t,t≤n→t*2 ^ (b+s*t)≤2 ^ e*2 ^ (b+s*n):=fun t ht =>
  Nat.mul_le_mul oo_ (Nat.pow_le_pow_right dd_ (by have:=Nat.mul_le_mul_left s ht;omega))
 have k2:∀ t,t<n→(2:Nat) ^ (s*t)≤2 ^ (b+s*n):=fun t ht=>Nat.pow_le_pow_right dd_ (by have:=Nat.mul_le_mul_left s (Nat.le_of_lt ht);omega);have he:1≤2 ^ e:=Nat.pow_pos dd_
 have kD:∀ t,(D ^ t).natAbs≤2 ^ (s*t):=fun t=>by rw [Int.natAbs_pow,Nat.pow_mul];exact Nat.pow_le_pow_left (Nat.le_of_lt hD) t
 have k0:2 ^ (b+s*n)≤2 ^ e*2 ^ (b+s*n):=Nat.le_mul_of_pos_left _ he;refine ⟨fun t ht=>xG (k:=b+s*n+e+1) ?_ h,fun t ht=>xG (k:=b+s*n+e+1) ?_ h,fun t ht=>xG (k:=b+s*n+e+1) ?_ h,fun t ht=>xG (k:=b+s*n+e+1) ?_ h⟩
 ·have:=O1 (L:=L) hc hN hD t
  have:=k1 t oo_;omega
 ·have h1:=O1 (L:=L) hc hN hD t
  have h2:=k1 (t+1) oo_
  have h3:(hv c N D L t*N).natAbs≤t*2 ^ (b+s*t)*2 ^ s:=by
   rw [Int.natAbs_mul];exact Nat.mul_le_mul h1 (Nat.le_of_lt hN)
  have h5:t*2 ^ (b+s*t)*2 ^ s=t*2 ^ (b+s*(t+1)):=by
   rw [Nat.mul_assoc,← Nat.pow_add,Nat.mul_succ,Nat.add_assoc]
  rw [Nat.succ_mul] at h2;have h6:0<2 ^ (b+s*(t+1)):=Nat.pow_pos dd_;omega
 ·have:=kD t
  have:=k2 t oo_;omega
 have h2:(c (L - 1 - t)*D ^ t).natAbs≤2 ^ b*2 ^ (s*t):=by
  rw [Int.natAbs_mul];exact Nat.mul_le_mul (Nat.le_of_lt (hc _)) (kD t)
 have h3:(2:Nat) ^ b*2 ^ (s*t)≤2 ^ (b+s*n):=by
  rw [← Nat.pow_add];exact Nat.pow_le_pow_right dd_ (by have:=Nat.mul_le_mul_left s (Nat.le_of_lt (show t<n by omega));omega)
 omega
variable {p:List I} {x:Rt}
end
open Go Go.Kn
section
variable {p q:List I} {c d:Nat→Int}
theorem Po.mem (h:Po p c) {x:I} (hx:x∈p):∃ k,vI x=c k:=by
 obtain ⟨k,hk,rfl⟩:=List.getElem_of_mem hx;refine ⟨k,?_⟩;rw [← h.c k]
 simp [List.getD,hk]
def lin (u v:Int) (k:Nat):Int:=if k=0 then u else if k=1 then v else 0
variable {u v W:Int} {L:Nat}
end
open Go Go.Kn
structure PB (p:List I) (c:Nat→Int) (n b:Nat):Prop where
 po:Po p c
 bd:Bd c n b
section
variable {p q:List I} {c d:Nat→Int} {n m b b':Nat}
theorem PB.mono (h:PB p c n b) {n' b1:Nat} (hn:n≤n') (hb:b≤b1):PB p c n' b1:=⟨h.po,h.bd.mono hn hb⟩
theorem PB.cast (h:PB p c n b) (e:∀ k,c k=d k):PB p d n b:=by
 have:c=d:=funext e;subst this;exact h
theorem PB.mul (h:PB p c n b) (g:PB q d m b') {e:Nat} (hn:n≤2 ^ e) (hl:n+m≤26) (hk:b+b'+e≤512):PB (bE p q) (conv c d) (n+m - 1) (b+b'+e):=⟨cs_ h.po g.po h.bd g.bd hn hl hk,h.bd.conv g.bd hn⟩
theorem PB.add (h:PB p c n b) (g:PB q d n b) (hk:b+1≤512):PB (bP p q) (fun k=>c k+d k) n (b+1):=⟨cj_ h.po g.po h.bd g.bd hk,by have:=h.bd.add g.bd;rwa [Nat.max_self] at this⟩
theorem Bd.sub (h:Bd c n b) (g:Bd d n b):Bd (fun k=>c k - d k) n (b+1) :=
 ⟨fun k hk=>by show c k - d k=0;rw [h.z k hk,g.z k hk];rfl,fun k=>by
  have h1:=h.b k;have h2:=g.b k
  show (c k - d k).natAbs<2 ^ (b+1)
  rw [Nat.pow_succ];omega⟩
theorem PB.sub (h:PB p c n b) (g:PB q d n b) (hk:b+1≤512):PB (rP p q) (fun k=>c k - d k) n (b+1):=⟨cv_ h.po g.po fun k=>(h.bd.sub g.bd).B hk k,h.bd.sub g.bd⟩
theorem PB.nil (n b:Nat):PB [] (fun _=>0) n b:=⟨QM,⟨fun _ _=>rfl,fun _=>Nat.pow_pos dd_⟩⟩
end
def scC (A B C D:Nat→Int) (k:Nat):Int:=conv A A k+conv B B k+(conv C C k+conv D D k)
def dgC (A B C D:Nat→Int) (k:Nat):Int:=conv A A k+conv B B k - (conv C C k+conv D D k)
def twC (A B C D:Nat→Int) (s:Int) (k:Nat):Int:=(conv A B k+conv C D k*s)*2
def nuC (S X m0 m1 m2:Nat→Int) (v:A3 W) (k:Nat):Int:=conv S X k+m0 k*v.x.1+m1 k*v.y.1+m2 k*v.z.1
section
variable {a b c d:List I} {A B C D:Nat→Int}
def Vin (v:A3 W):Prop:=v.x.1.natAbs<2 ^ 19∧v.y.1.natAbs<2 ^ 19∧v.z.1.natAbs<2 ^ 19
end
structure Tq (h:Path) (s:Int):Prop where
 sg:s=1∨s = -1
 x:PB (aM h).x (lin h.from_.q.x.1 (s*h.to_.q.x.1 - h.from_.q.x.1)) 2 8
 y:PB (aM h).y (lin h.from_.q.y.1 (s*h.to_.q.y.1 - h.from_.q.y.1)) 2 8
 z:PB (aM h).z (lin h.from_.q.z.1 (s*h.to_.q.z.1 - h.from_.q.z.1)) 2 8
 t:PB (aM h).t (lin h.from_.q.t.1 (s*h.to_.q.t.1 - h.from_.q.t.1)) 2 8
structure Hv (h:Path):Prop where
 fq:h.from_.q.i.Lw 65∧¬ h.from_.q.i.zero
 tq:h.to_.q.i.Lw 65∧¬ h.to_.q.i.zero
 fx:h.from_.x.x.1.natAbs<2 ^ 47∧h.from_.x.y.1.natAbs<2 ^ 47∧h.from_.x.z.1.natAbs<2 ^ 47
 tx:h.to_.x.x.1.natAbs<2 ^ 47∧h.to_.x.y.1.natAbs<2 ^ 47∧h.to_.x.z.1.natAbs<2 ^ 47
theorem M7 {a:Pose} (h:(cZ a).1=0):fD a.q=true∧a.x.x.1.natAbs<2 ^ 47∧a.x.y.1.natAbs<2 ^ 47∧a.x.z.1.natAbs<2 ^ 47:=by
 unfold cZ at h
 cases h1:(decide (140737488355328≤a.x.x.1)||decide (a.x.x.1≤(-140737488355328)))
 ·cases h2:(decide (140737488355328≤a.x.y.1)||decide (a.x.y.1≤(-140737488355328)))
  ·cases h3:(decide (140737488355328≤a.x.z.1)||decide (a.x.z.1≤(-140737488355328)))
   ·cases h4:fD a.q
    ·rw [h1,h2,h3,h4] at h;exact absurd h (show ¬ (1:Int)=0 by decide)
    simp only [Bool.or_eq_false_iff,decide_eq_false_iff_not] at h1 h2 h3;exact ⟨rfl,by omega,by omega,by omega⟩
   rw [h1,h2,h3] at h;exact absurd h (show ¬ (1:Int)=0 by decide)
  rw [h1,h2] at h;exact absurd h (show ¬ (1:Int)=0 by decide)
 rw [h1] at h;exact absurd h (show ¬ (1:Int)=0 by decide)
structure Vx (h:Path) (v:A3 W) (A B C D:Nat→Int):Prop where
 s:PB (eT h) (scC A B C D) 3 22
 s2:(bL h v).2=eT h
 x:PB (bL h v).1.x (nuC (scC A B C D) (lin h.from_.x.x.1 (h.to_.x.x.1 - h.from_.x.x.1)) (dgC A B C D) (twC B C A D (-1)) (twC B D A C 1) v) 4 76
 y:PB (bL h v).1.y (nuC (scC A B C D) (lin h.from_.x.y.1 (h.to_.x.y.1 - h.from_.x.y.1)) (twC B C A D 1) (dgC A C B D) (twC C D A B (-1)) v) 4 76
 z:PB (bL h v).1.z (nuC (scC A B C D) (lin h.from_.x.z.1 (h.to_.x.z.1 - h.from_.x.z.1)) (twC B D A C (-1)) (twC C D A B 1) (dgC A D B C) v) 4 76
 r:AE h v=⟨(bL h v).1,eT h⟩
section
variable {a b c d:List I} {A B C D:Nat→Int}
end
open Go Go.Kn
theorem IF {a b:A4 W} (ha:a.i.Lw 65) (hb:b.i.Lw 65):(mY a b).1=a.x.1*b.x.1+a.y.1*b.y.1+a.z.1*b.z.1+a.t.1*b.t.1:=by
 obtain ⟨h1,h2,h3,h4⟩:=ha;obtain ⟨g1,g2,g3,g4⟩:=hb
 have u:∀ {p q:W},p.1.natAbs<65→q.1.natAbs<65→(p.1*q.1).natAbs<2 ^ 14∧(W.mul p q).1=p.1*q.1:=fun {p q} hp hq=>by
  have:=o7 (b:=7) (b':=7) (u:=p.1) (v:=q.1) oo_ oo_;exact ⟨this,wi ⟨by omega,by omega⟩⟩
 obtain ⟨k1,e1⟩:=u h1 g1;obtain ⟨k2,e2⟩:=u h2 g2;obtain ⟨k3,e3⟩:=u h3 g3;obtain ⟨k4,e4⟩:=u h4 g4;have ad:∀ {p q:W},p.1.natAbs<2 ^ 60→q.1.natAbs<2 ^ 60→(W.add p q).1=p.1+q.1:=fun {p q} hp hq=>wi ⟨by omega,by omega⟩;unfold mY;rw [eZ_];have e0:(wl 0).1=0:=rfl;have s0:=ad (p:=wl 0) (q:=W.mul a.x b.x) (by rw [e0];omega) (by rw [e1];omega);have s1:=ad (p:=W.add (wl 0) (W.mul a.x b.x)) (q:=W.mul a.y b.y) (by rw [s0,e0,e1];omega) (by rw [e2];omega);have s2:=ad (p:=W.add (W.add (wl 0) (W.mul a.x b.x)) (W.mul a.y b.y)) (q:=W.mul a.z b.z) (by rw [s1,s0,e0,e1,e2];omega) (by rw [e3];omega);have s3:=ad (p:=W.add (W.add (W.add (wl 0) (W.mul a.x b.x)) (W.mul a.y b.y)) (W.mul a.z b.z)) (q:=W.mul a.t b.t) (by rw [s2,s1,s0,e0,e1,e2,e3];omega) (by rw [e4];omega);rw [s3,s2,s1,s0,e0,e1,e2,e3,e4];omega
structure Vp (h:Path) (v:A3 W) (A B C D:Nat→Int):Prop where
 s:PB (eT h) (scC A B C D) 3 22
 s2:(bL h v).2=eT h
 x:PB (bL h v).1.x (nuC (scC A B C D) (lin h.from_.x.x.1 (h.to_.x.x.1 - h.from_.x.x.1)) (dgC A B C D) (twC B C A D (-1)) (twC B D A C 1) v) 4 76
 y:PB (bL h v).1.y (nuC (scC A B C D) (lin h.from_.x.y.1 (h.to_.x.y.1 - h.from_.x.y.1)) (twC B C A D 1) (dgC A C B D) (twC C D A B (-1)) v) 4 76
 z:PB (bL h v).1.z (nuC (scC A B C D) (lin h.from_.x.z.1 (h.to_.x.z.1 - h.from_.x.z.1)) (twC B D A C (-1)) (twC C D A B 1) (dgC A D B C) v) 4 76
 a:PB (aM h).x A 2 8
 b:PB (aM h).y B 2 8
 c:PB (aM h).z C 2 8
 d:PB (aM h).t D 2 8
structure Az (q:Rat) (a b:Nat):Prop where
 n:q.num.natAbs<2 ^ a
 d:q.den<2 ^ b
theorem Sz.az {q:Rat} {k:Nat} (h:Sz q k):Az q k k:=⟨h.n,h.d⟩
theorem Az.sz {q:Rat} {a b k:Nat} (h:Az q a b) (h1:a≤k) (h2:b≤k):Sz q k:=⟨Nat.lt_of_lt_of_le h.n (wO h1),Nat.lt_of_lt_of_le h.d (wO h2)⟩
section
variable {p q:Rat} {a b a' b':Nat}
theorem Az.mono (h:Az q a b) (h1:a≤a') (h2:b≤b'):Az q a' b':=⟨Nat.lt_of_lt_of_le h.n (wO h1),Nat.lt_of_lt_of_le h.d (wO h2)⟩
theorem Az.bd (h:Az q a b) (hk:b≤512):e9 (q.den:Int):=uI (by simpa using h.d) hk
theorem TF {q:Rat} {n d:Int} (h:(n:Rat)=(d:Rat)*q):q.num*d=n*q.den:=by
 have h1:=Rat.num_divInt_den q;have hd:=@uT q
 by_cases h0:d=0
 ·subst h0
  have:n=0:=Rat.intCast_eq_zero_iff.1 (by rw [h];exact Rat.zero_mul _);rw [this];omega
 have e:q=Rat.divInt n d:=by
  rw [Rat.divInt_eq_div,h,Rat.div_def,Rat.mul_comm,← Rat.mul_assoc,Rat.inv_mul_cancel _ (fun e=>h0 (Rat.intCast_eq_zero_iff.1 e)),Rat.one_mul]
 rw [e] at h1
 conv at h1=>lhs;rw [← e]
 exact (Rat.divInt_eq_divInt_iff oo_ h0).1 h1
theorem SJ {n d:Int} (h:(n:Rat)=(d:Rat)*q) (h0:0<d) (hn:n.natAbs<2 ^ a) (hd:d.natAbs<2 ^ b):Az q a b:=by
 have e:=congrArg Int.natAbs (TF h);rw [Int.natAbs_mul,Int.natAbs_mul,Int.natAbs_natCast] at e;have hr:=q.reduced;have k1:q.den ∣ d.natAbs:=(Nat.Coprime.symm hr).dvd_of_dvd_mul_left (by rw [e];exact Nat.dvd_mul_left ..);have k2:q.num.natAbs ∣ n.natAbs:=Nat.Coprime.dvd_of_dvd_mul_right hr (by rw [← e];exact Nat.dvd_mul_right ..);refine ⟨?_,Nat.lt_of_le_of_lt (Nat.le_of_dvd oo_ k1) hd⟩
 by_cases hz:n.natAbs=0
 ·rw [hz,Nat.zero_mul] at e
  rcases Nat.mul_eq_zero.1 e with h1|h1
  ·rw [h1];exact Nat.pow_pos dd_
  omega
 exact Nat.lt_of_le_of_lt (Nat.le_of_dvd oo_ k2) hn
theorem Az.mul (h:Az p a b) (g:Az q a' b'):Az (p*q) (a+a') (b+b'):=by
 constructor
 ·rw [Rat.num_mul]
  refine Nat.lt_of_le_of_lt (Int.natAbs_ediv_le_natAbs _ _) ?_;rw [Int.natAbs_mul];exact pT h.n g.n
 rw [Rat.den_mul];exact Nat.lt_of_le_of_lt (Nat.div_le_self _ _) (pT h.d g.d)
theorem Az.neg (h:Az p a b):Az (-p) a b:=⟨by rw [Rat.neg_num,Int.natAbs_neg];exact h.n,h.d⟩
theorem N4 {n m:Int} {d e c:Nat} (h1:n.natAbs<2 ^ a) (h2:e<2 ^ b') (h3:m.natAbs<2 ^ a') (h4:d<2 ^ b) (k1:a+b'<c) (k2:a'+b<c):(n*e+m*d).natAbs<2 ^ c:=by
 obtain ⟨c,rfl⟩:∃ k,c=k+1:=⟨c - 1,by omega⟩;have x:=Nat.lt_of_lt_of_le (pT h1 h2) (wO (show a+b'≤c by omega));have y:=Nat.lt_of_lt_of_le (pT h3 h4) (wO (show a'+b≤c by omega));have z:=Int.natAbs_add_le (n*e) (m*d);rw [Int.natAbs_mul,Int.natAbs_mul,Int.natAbs_natCast,Int.natAbs_natCast] at z;rw [Nat.pow_succ];omega
theorem Az.add {c:Nat} (h:Az p a b) (g:Az q a' b') (k1:a+b'<c) (k2:a'+b<c):Az (p+q) c (b+b'):=by
 constructor
 ·rw [Rat.num_add]
  exact Nat.lt_of_le_of_lt (Int.natAbs_ediv_le_natAbs _ _) (N4 h.n g.d g.n h.d k1 k2)
 rw [Rat.den_add];exact Nat.lt_of_le_of_lt (Nat.div_le_self _ _) (pT h.d g.d)
theorem Az.sub {c:Nat} (h:Az p a b) (g:Az q a' b') (k1:a+b'<c) (k2:a'+b<c):Az (p - q) c (b+b'):=by rw [Rat.sub_eq_add_neg];exact h.add g.neg k1 k2
theorem Az.int {n:Int} (h:n.natAbs<2 ^ a):Az (n:Rat) a 1:=⟨h,(by show 1<2 ^ 1;decide)⟩
theorem E8 {x' y':Rt} (ha:x'.At p) (hb:y'.At q) (hp:Az p a b) (hq:Az q a' b') (h1:a+b'<512) (h2:a'+b<512) (h3:b+b'≤512):(e7 x' y').At (p+q):=by
 unfold e7;rw [wT ha,wT hb];simp only [Bool.not_true,Bool.or_false,cond_false];have ia:=At.is ha;have ib:=At.is hb;rw [ia.en,ia.ed,ib.en,ib.ed];simp only [dQ];have hdp:=@uT p;have hdq:=@uT q
 have hg:0<((Int.gcd (p.den:Int) (q.den:Int):Nat):Int):=by
  have:=Int.gcd_pos_of_ne_zero_right (p.den:Int) (show (q.den:Int)≠0 by omega);omega
 have hbg:=OR (u:=(p.den:Int)) ib.hd oo_;have g1:((Int.gcd (p.den:Int) (q.den:Int):Nat):Int) ∣ (p.den:Int):=Int.gcd_dvd_left ..;have g2:((Int.gcd (p.den:Int) (q.den:Int):Nat):Int) ∣ (q.den:Int):=Int.gcd_dvd_right ..;rw [B9 ia.hd ib.hd,AO ib.hd hbg hg,AO ia.hd hbg hg];generalize ((Int.gcd (p.den:Int) (q.den:Int):Nat):Int)=G at *;obtain ⟨x,hx⟩:=g1;obtain ⟨y,hy⟩:=g2
 have q1:(p.den:Int) / G=x:=by rw [hx];exact Int.mul_ediv_cancel_left _ oo_
 have q2:(q.den:Int) / G=y:=by rw [hy];exact Int.mul_ediv_cancel_left _ oo_
 rw [q1,q2]
 have x0:0<x:=by rw [hx] at hdp;exact Int.pos_of_mul_pos_right hdp hg
 have y0:0<y:=by rw [hy] at hdq;exact Int.pos_of_mul_pos_right hdq hg
 have xl:x≤p.den:=by rw [hx];have:=Int.mul_le_mul_of_nonneg_right (show (1:Int)≤G by omega) (Int.le_of_lt x0);omega
 have yl:y≤q.den:=by rw [hy];have:=Int.mul_le_mul_of_nonneg_right (show (1:Int)≤G by omega) (Int.le_of_lt y0);omega
 have x1:x.toNat<2 ^ b:=Nat.lt_of_le_of_lt oo_ hp.d;have y1:y.toNat<2 ^ b':=Nat.lt_of_le_of_lt oo_ hq.d
 have xe:x=(x.toNat:Int):=by omega
 have ye:y=(y.toNat:Int):=by omega
 have bx:e9 x:=uI (k:=b) (by rw [xe,Int.natAbs_natCast];exact x1) oo_
 have by':e9 y:=uI (k:=b') (by rw [ye,Int.natAbs_natCast];exact y1) oo_
 rw [qE ia.hn by',qE ib.hn bx,qE bx ib.hd]
 have t1:(p.num*y).natAbs<2 ^ (a+b'):=by rw [Int.natAbs_mul];exact pT hp.n oo_
 have t2:(q.num*x).natAbs<2 ^ (a'+b):=by rw [Int.natAbs_mul];exact pT hq.n oo_
 have t3:(x*(q.den:Int)).natAbs<2 ^ (b+b'):=by rw [Int.natAbs_mul];exact pT oo_ (by simpa using hq.d)
 rw [DS (uI t1 oo_) (uI t2 oo_)]
 have t4:(p.num*y+q.num*x).natAbs<2 ^ (max (a+b') (a'+b)+1):=by
  have u1:=Nat.lt_of_lt_of_le t1 (wO (show a+b'≤max (a+b') (a'+b) by omega));have u2:=Nat.lt_of_lt_of_le t2 (wO (show a'+b≤max (a+b') (a'+b) by omega));rw [Nat.pow_succ];omega
 refine x9 (uI t4 oo_) (uI t3 h3) (Int.mul_pos x0 hdq) ?_
 have key:p+q=Rat.divInt (p.num*y+q.num*x) (x*q.den):=by
  conv=>lhs;rw [← Rat.num_divInt_den p,← Rat.num_divInt_den q,Rat.divInt_add_divInt _ _ oo_ oo_]
  refine (Rat.divInt_eq_divInt_iff (Int.mul_ne_zero oo_ oo_) (Int.mul_ne_zero oo_ oo_)).2 ?_;rw [hx,hy];grind
 have h3:=Rat.num_divInt_den (p+q);rw [key] at h3 ⊢;have h4:=(Rat.divInt_eq_divInt_iff (by have:=@uT (Rat.divInt (p.num*y+q.num*x) (x*q.den));omega) (Int.mul_ne_zero oo_ oo_)).1 h3;exact h4
end
open Go Go.Kn
def shf (d:Nat→Int) (i k:Nat):Int:=if i≤k then d (k - i) else 0
def eT_ (a o:Int) (d:Nat→Int) (n i:Nat) (r:Nat→Int) (k:Nat):Int:=a*r k - o*r (i+n)*shf d i k
def RemB (a o:Int) (d:Nat→Int) (n:Nat):Nat→(Nat→Int)→Prop
 | 0,r=>∀ k,e9 (r k)
 | m+1,r=>(∀ k,e9 (r k))∧e9 (o*r (m+n))∧(∀ k,e9 (a*r k))∧(∀ k,e9 (o*r (m+n)*d k))∧RemB a o d n m (eT_ a o d n m r)
theorem RemB.B {a o:Int} {d:Nat→Int} {n:Nat}:∀ {m:Nat} {r:Nat→Int},RemB a o d n m r→∀ k,e9 (r k)
 | 0,_,h=>h
 | _+1,_,h=>h.1
theorem fv_ {u:Int} {b b':Nat} (h:u.natAbs<2 ^ b) (hb:b≤b'):u.natAbs<2 ^ b':=Nat.lt_of_lt_of_le h (Nat.pow_le_pow_right dd_ hb)
section
variable {p q:List I} {c d:Nat→Int} {n:Nat}
end
open Go Go.Kn
def ff (i:Int):Nat→Int
 | 0=>1
 | k+1=>ff i k*(i - k)
def fac:Nat→Int
 | 0=>1
 | n+1=>fac n*((n+1:Nat):Int)
def wt (n i k:Nat):Int:=ff i k*fac (n - k)
def bs (γ:Nat→Int) (n i:Nat):Int:=mS (fun k=>wt n i k*γ k) (i+1)
section
variable {p:List I} {a b:Rt} {γ:Nat→Int} {n B:Nat}
end
open Go Go.Kn
def e26 (c:Nat→Int) (y:Rat):Rat:=vl (cR c) y 26
section
variable {c d:Nat→Int} {n m b b':Nat}
end
theorem H7 (a:Int):0≤a*a:=by rw [← Int.natAbs_mul_self];exact Int.natCast_nonneg _
theorem G4 {a:Int} (h:a≠0):1≤a*a:=by
 have:=H7 a;have:a*a≠0:=Int.mul_ne_zero h h;omega
theorem sq4 {a b c d:Int} (h:¬ (a=0∧b=0∧c=0∧d=0)):1≤a*a+b*b+c*c+d*d:=by
 have h1:=H7 a;have h2:=H7 b;have h3:=H7 c;have h4:=H7 d
 by_cases ha:a=0
 ·by_cases hb:b=0
  ·by_cases hc:c=0
   ·have:=G4 fun hd=>h ⟨ha,hb,hc,hd⟩
    omega
   have:=G4 hc;omega
  have:=G4 hb;omega
 have:=G4 ha;omega
structure Clm (h:Path) (v:A3 W) (X Y Z S:Nat→Int):Prop where
 s:PB (bL h v).2 S 3 22
 x:PB (bL h v).1.x X 4 49
 y:PB (bL h v).1.y Y 4 49
 z:PB (bL h v).1.z Z 4 49
 pos:∀ t:Rat,0≤t→t≤1→0<e26 S t
open Go Go.Kn
def rqn (a b c d:Rat):Rat:=a*a+b*b+(c*c+d*d)
def rqx (a b c d x y z:Rat):Rat:=(a*a+b*b - (c*c+d*d))*x+(b*c+a*d * -1)*2*y+(b*d+a*c*1)*2*z
def rqy (a b c d x y z:Rat):Rat:=(b*c+a*d*1)*2*x+(a*a+c*c - (b*b+d*d))*y+(c*d+a*b * -1)*2*z
def rqz (a b c d x y z:Rat):Rat:=(b*d+a*c * -1)*2*x+(c*d+a*b*1)*2*y+(a*a+d*d - (b*b+c*c))*z
section
variable {A B C D:Nat→Int}
end
def CI (s u w:Int) (q:Rat):Rat:=(u:Rat)+((s*w - u:Int):Rat)*q
structure Pq (s:Int) (h:Path) (q a b c d:Rat):Prop where
 a:a=CI s h.from_.q.x.1 h.to_.q.x.1 q
 b:b=CI s h.from_.q.y.1 h.to_.q.y.1 q
 c:c=CI s h.from_.q.z.1 h.to_.q.z.1 q
 d:d=CI s h.from_.q.t.1 h.to_.q.t.1 q
structure Pv (a:A3 Rt) (x y z:Rat):Prop where
 x:a.x.At x
 y:a.y.At y
 z:a.z.At z
structure Pz (x y z:Rat):Prop where
 x:Az x 153 99
 y:Az y 153 99
 z:Az z 153 99
theorem Pv.eq {a b:A3 Rt} {x y z u v w:Rat} (h:Pv a x y z) (k:Pv b u v w) (e1:x=u) (e2:y=v) (e3:z=w):a=b:=by
 subst e1;subst e2;subst e3;have e1:=LX h.x k.x;have e2:=LX h.y k.y;have e3:=LX h.z k.z
 cases a;cases b
 simp only at e1 e2 e3;rw [e1,e2,e3]
open Go Go.Kn
structure Tg (n t u:A3 W):Prop where
 o1:n.x.1*t.x.1+n.y.1*t.y.1+n.z.1*t.z.1=0
 o2:n.x.1*u.x.1+n.y.1*u.y.1+n.z.1*u.z.1=0
 o3:t.x.1*u.x.1+t.y.1*u.y.1+t.z.1*u.z.1=0
 t0:¬ (t.x.1=0∧t.y.1=0∧t.z.1=0)
 u0:¬ (u.x.1=0∧u.y.1=0∧u.z.1=0)
 tb:∀ A:Nat,1≤A→n.x.1.natAbs<2 ^ A→n.y.1.natAbs<2 ^ A→n.z.1.natAbs<2 ^ A→t.x.1.natAbs<2 ^ A∧t.y.1.natAbs<2 ^ A∧t.z.1.natAbs<2 ^ A
 ub:∀ A:Nat,1≤A→n.x.1.natAbs<2 ^ A→n.y.1.natAbs<2 ^ A→n.z.1.natAbs<2 ^ A→u.x.1.natAbs<2 ^ (2*A+1)∧u.y.1.natAbs<2 ^ (2*A+1)∧u.z.1.natAbs<2 ^ (2*A+1)
 full:∀ f g h:Rat,let nn:Rat:=(n.x.1:Rat)*n.x.1+n.y.1*n.y.1+n.z.1*n.z.1
  let tt:Rat:=(t.x.1:Rat)*t.x.1+t.y.1*t.y.1+t.z.1*t.z.1
  let uu:Rat:=(u.x.1:Rat)*u.x.1+u.y.1*u.y.1+u.z.1*u.z.1
  let fn:Rat:=(n.x.1:Rat)*f+n.y.1*g+n.z.1*h
  let ft:Rat:=(t.x.1:Rat)*f+t.y.1*g+t.z.1*h
  let fu:Rat:=(u.x.1:Rat)*f+u.y.1*g+u.z.1*h
  f*(nn*tt*uu)=fn*n.x.1*(tt*uu)+ft*t.x.1*(nn*uu)+fu*u.x.1*(nn*tt) ∧
  g*(nn*tt*uu)=fn*n.y.1*(tt*uu)+ft*t.y.1*(nn*uu)+fu*u.y.1*(nn*tt) ∧
  h*(nn*tt*uu)=fn*n.z.1*(tt*uu)+ft*t.z.1*(nn*uu)+fu*u.z.1*(nn*tt)
section
variable {n t:A3 W} {b c:Int}
end
structure V3 (a:A3 Rt) (x y z:Rat) (A B:Nat):Prop where
 hx:a.x.At x
 hy:a.y.At y
 hz:a.z.At z
 sx:Az x A B
 sy:Az y A B
 sz:Az z A B
section
variable {a b:A3 Rt} {x y z u v w:Rat} {A B C D:Nat}
theorem V3.mono (h:V3 a x y z A B) {A' B':Nat} (h1:A≤A') (h2:B≤B'):V3 a x y z A' B':=⟨h.hx,h.hy,h.hz,h.sx.mono h1 h2,h.sy.mono h1 h2,h.sz.mono h1 h2⟩
theorem of3 {n:A3 W} (hx:n.x.1.natAbs<2 ^ A) (hy:n.y.1.natAbs<2 ^ A) (hz:n.z.1.natAbs<2 ^ A):V3 (tP n) n.x.1 n.y.1 n.z.1 A 1:=⟨FQ _,FQ _,FQ _,.int hx,.int hy,.int hz⟩
end
open Go Go.Kn
def Wv (w:W) (v:Int) (b:Nat):Prop:=w.1=v∧v.natAbs<2 ^ b
section
variable {w w':W} {v v':Int} {b b':Nat}
theorem Wv.mono (h:Wv w v b) (k:b≤b'):Wv w v b':=⟨h.1,Nat.lt_of_lt_of_le h.2 (Nat.pow_le_pow_right dd_ k)⟩
theorem Wv.add (h:Wv w v b) (g:Wv w' v' b) (k:b≤61):Wv (W.add w w') (v+v') (b+1):=by
 have h1:=h.2;have g1:=g.2
 have h2:(v+v').natAbs<2 ^ (b+1):=by rw [Nat.pow_succ];omega
 have h3:(v+v').natAbs<2 ^ 62:=Nat.lt_of_lt_of_le h2 (Nat.pow_le_pow_right dd_ oo_);refine ⟨?_,h2⟩
 show IntKind.i64.wrap (w.1+w'.1)=_
 rw [h.1,g.1];exact wi ⟨by omega,by omega⟩
theorem Wv.sub (h:Wv w v b) (g:Wv w' v' b) (k:b≤61):Wv (W.sub w w') (v - v') (b+1):=by
 have h1:=h.2;have g1:=g.2
 have h2:(v - v').natAbs<2 ^ (b+1):=by rw [Nat.pow_succ];omega
 have h3:(v - v').natAbs<2 ^ 62:=Nat.lt_of_lt_of_le h2 (Nat.pow_le_pow_right dd_ oo_);refine ⟨?_,h2⟩
 show IntKind.i64.wrap (w.1 - w'.1)=_
 rw [h.1,g.1];exact wi ⟨by omega,by omega⟩
theorem Wv.mul (h:Wv w v b) (g:Wv w' v' b') (k:b+b'≤62):Wv (W.mul w w') (v*v') (b+b'):=by
 have h2:=o7 h.2 g.2;have h3:(v*v').natAbs<2 ^ 62:=Nat.lt_of_lt_of_le h2 (Nat.pow_le_pow_right dd_ k);refine ⟨?_,h2⟩
 show IntKind.i64.wrap (w.1*w'.1)=_
 rw [h.1,g.1];exact wi ⟨by omega,by omega⟩
end
theorem Wv.neg {w:W} {v:Int} {b:Nat} (h:Wv w v b) (k:b≤61):Wv (W.neg w) (-v) b:=by
 have h1:=h.2;have h3:v.natAbs<2 ^ 62:=Nat.lt_of_lt_of_le h1 (Nat.pow_le_pow_right dd_ oo_);exact ⟨by rw [ey_ (by rw [h.1];omega),h.1],by rw [Int.natAbs_neg];exact h1⟩
theorem Wv.zero (b:Nat):Wv (wl 0) 0 b:=⟨rfl,Nat.pow_pos dd_⟩
structure Mv (q:A4 W) (v:A3 W):Prop where
 x:Wv (jW q v).x (0+(0+q.x.1*q.x.1+q.y.1*q.y.1 + -q.z.1*q.z.1 + -q.t.1*q.t.1)*v.x.1+2*(0+q.y.1*q.z.1 + -q.x.1*q.t.1)*v.y.1+2*(0+q.y.1*q.t.1+q.x.1*q.z.1)*v.z.1) 40
 y:Wv (jW q v).y (0+2*(0+q.y.1*q.z.1+q.x.1*q.t.1)*v.x.1+(0+q.x.1*q.x.1 + -q.y.1*q.y.1+q.z.1*q.z.1 + -q.t.1*q.t.1)*v.y.1+2*(0+q.z.1*q.t.1 + -q.x.1*q.y.1)*v.z.1) 40
 z:Wv (jW q v).z (0+2*(0+q.y.1*q.t.1 + -q.x.1*q.z.1)*v.x.1+2*(0+q.z.1*q.t.1+q.x.1*q.y.1)*v.y.1+(0+q.x.1*q.x.1 + -q.y.1*q.y.1 + -q.z.1*q.z.1+q.t.1*q.t.1)*v.z.1) 40
variable {h:Path} {v:A3 W} {t:Rt} {q:Rat}
end Go.Num
