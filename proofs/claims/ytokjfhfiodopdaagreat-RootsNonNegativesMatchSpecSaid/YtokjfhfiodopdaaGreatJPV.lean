/- Lemmas: what they ask stands in their statements. -/
import Derived.Test.YtokjfhfiodopdaaGreatJYt
set_option linter.unusedSimpArgs false
set_option linter.unusedVariables false
namespace Go.Num
open Go Go.Kn
theorem N1 {u g:Int} (hu:dR u) (hg:0<g):dR (u / g):=by
 unfold dR at *;have h1:=Int.mul_ediv_add_emod u g;have h2:=Int.emod_nonneg u (by omega:g≠0);have h3:=Int.emod_lt_of_pos u hg
 have h4:(u / g).natAbs≤u.natAbs:=by
  rcases Int.lt_or_le u 0 with h|h
  ·have h5:u / g<0:=Int.ediv_neg_of_neg_of_pos h hg
   have h6:u≤u / g:=by
    have h7:g*(u / g)≤u / g:=by
     have:=Int.mul_le_mul_of_nonpos_right (show (1:Int)≤g by omega) (Int.le_of_lt h5);omega
    have h8:u<g*(u / g)+g:=by omega
    rcases Int.lt_or_le u (g*(u / g)) with h9|h9
    ·omega
    have h10:(g - 1)*(u / g) ≤ -(g - 1):=by
     have:=Int.mul_le_mul_of_nonneg_left (show u / g ≤ -1 by omega) (show 0≤g - 1 by omega);omega
    have h11:g*(u / g)=(g - 1)*(u / g)+u / g:=by rw [Int.sub_mul];omega
    omega
   omega
  have h5:0≤u / g:=Int.ediv_nonneg h oo_;have h6:u / g≤u:=Int.ediv_le_self _ h;omega
 omega
theorem N2 {u g:Int} (hg:0<g) (hb:dR g):dR (u % g):=by
 unfold dR at *;have h2:=Int.emod_nonneg u (by omega:g≠0);have h3:=Int.emod_lt_of_pos u hg;omega
theorem WK {u v:Int} (hu:dR u) (hv:dR v) (h:0<v):Z.rem (Z.of u) (Z.of v)=Z.of (u % v):=by
 rw [Z.rem,dQ (Z.of_some hu) (Z.of_some hv),if_neg oo_,Int.fmod_eq_emod_of_nonneg _ oo_]
theorem zJ {u v:Int} (hu:dR u) (hv:dR v) (h:0<v):Z.quo (Z.of u) (Z.of v)=Z.of (u / v):=by
 rw [FW hu hv oo_,IG h]
theorem NV {u v:Int} (hu:dR u) (hv:dR v):(Z.cmpW (Z.of u) (Z.of v)).1=(u - v).sign:=by
 show Z.cmp _ _=_
 unfold Z.cmp;rw [Z.of_some hu,Z.of_some hv];simp only;rcases Int.lt_trichotomy u v with h|h|h
 ·rw [xF h,Int.sign_eq_neg_one_of_neg oo_]
 ·subst h;rw [DU,Int.sub_self];rfl
 rw [xE h,Int.sign_eq_one_of_pos oo_]
theorem DK {n:Int} (h:-4≤n∧n≤4):IntKind.i64.wrap n=n:=wi ⟨by omega,by omega⟩
theorem ER (x:Int):-1≤x.sign∧x.sign≤1:=by
 rcases Int.lt_trichotomy x 0 with h|h|h
 ·rw [Int.sign_eq_neg_one_of_neg h];omega
 ·subst h;decide
 rw [Int.sign_eq_one_of_pos h];omega
theorem ef_ {o x:W} (ho:o.1=1∨o.1 = -1) (hx:-2≤x.1∧x.1≤2):(W.mul o x).1=o.1*x.1:=by
 show IntKind.i64.wrap (o.1*x.1)=_
 refine DK ?_;rcases ho with h|h<;>rw [h]<;>omega
theorem eg_ {o:W} (ho:o.1=1∨o.1 = -1):(W.neg o).1 = -o.1:=by
 show IntKind.i64.wrap (0 - o.1)=_
 rw [DK oo_];omega
theorem bT_ {b d p r s:Int} (hb:0<b) (hd:0<d) (h0:p≠0) (hr:0≤r) (hrb:r<b) (hs:0≤s) (hsd:s<d):(b*d*p+(r*d - s*b)).sign=p.sign:=by
 have hbd:0<b*d:=Int.mul_pos hb hd;have h1:r*d<b*d:=Int.mul_lt_mul_of_pos_right hrb hd;have h2:s*b<d*b:=Int.mul_lt_mul_of_pos_right hsd hb;have h3:0≤r*d:=Int.mul_nonneg hr oo_;have h4:0≤s*b:=Int.mul_nonneg hs oo_;rw [Int.mul_comm d b] at h2;rcases Int.lt_trichotomy p 0 with h|h|h
 ·rw [Int.sign_eq_neg_one_of_neg h,Int.sign_eq_neg_one_of_neg]
  have:b*d*p≤b*d*(-1):=Int.mul_le_mul_of_nonneg_left oo_ oo_;omega
 ·exact absurd h h0
 rw [Int.sign_eq_one_of_pos h,Int.sign_eq_one_of_pos];have:b*d*1≤b*d*p:=Int.mul_le_mul_of_nonneg_left oo_ oo_;omega
theorem cK_:∀ (k:Nat) (o:W) (a b c d:Int),b.toNat≤k→0<b→0<d→dR a→dR b→dR c→dR d→(o.1=1∨o.1 = -1) →
  (cf k o (E (Z.of a)) (E (Z.of b)) (E (Z.of c)) (E (Z.of d))).1=o.1*(a*d - c*b).sign:=by
 intro k
 induction k with
 | zero=>intro o a b c d hk hb;omega
 | succ k ih =>
  intro o a b c d hk hb hd ha hb' hc hd' ho;unfold cf;simp only [cP];rw [zJ ha hb' hb,zJ hc hd' hd,WK ha hb' hb,WK hc hd' hd,lW (N2 hb hb'),lW (N2 hd hd'),NV (N1 ha hb) (N1 hc hd)];have e1:=Int.mul_ediv_add_emod a b;have e2:=Int.mul_ediv_add_emod c d;have r1:=Int.emod_nonneg a (by omega:b≠0);have r2:=Int.emod_lt_of_pos a hb;have s1:=Int.emod_nonneg c (by omega:d≠0);have s2:=Int.emod_lt_of_pos c hd;have hrB:=N2 (u:=a) hb hb';have hsB:=N2 (u:=c) hd hd';have hpB:=N1 ha hb;have hqB:=N1 hc hd;generalize hp:a / b=p at *;generalize hr:a % b=r at *;generalize hq:c / d=q at *;generalize hs:c % d=s at *
  have key:a*d - c*b=b*d*(p - q)+(r*d - s*b):=by
   rw [← e1,← e2];grind
  rw [key]
  by_cases hpq:p=q
  ·have h1:(p - q).sign=0:=by rw [hpq,Int.sub_self];rfl
   have h2:b*d*(p - q)+(r*d - s*b)=r*d - s*b:=by rw [hpq];grind
   rw [h1,h2];have h3:((0:Int) != 0)=false:=rfl;rw [h3];simp only [cond_false]
   by_cases h0:r=0∨s=0
   ·have h4:((r.sign==0)||(s.sign==0))=true:=by
     rcases h0 with h|h<;>subst h<;>simp
    rw [h4];simp only [cond_true];have h5:=ER r;have h6:=ER s
    have e5:(W.sub (Z.signW (Z.of r)) (Z.signW (Z.of s))).1=r.sign - s.sign:=by
     show IntKind.i64.wrap ((Z.signW (Z.of r)).1 - (Z.signW (Z.of s)).1)=_
     rw [lW hrB,lW hsB];exact DK oo_
    rw [ef_ ho (by rw [e5];omega),e5]
    congr 1
    rcases h0 with h|h
    ·subst h
     rw [Int.zero_mul,Int.zero_sub,Int.sign_neg,Int.sign_mul,Int.sign_eq_one_of_pos hb];simp
    subst h;rw [Int.zero_mul,Int.sub_zero,Int.sign_mul,Int.sign_eq_one_of_pos hd];simp
   have hr0:0<r:=by omega
   have hs0:0<s:=by omega
   have h4:((r.sign==0)||(s.sign==0))=false:=by
    rw [Int.sign_eq_one_of_pos hr0,Int.sign_eq_one_of_pos hs0];rfl
   rw [h4];simp only [cond_false];rw [ih _ _ _ _ _ oo_ hr0 hs0 hb' hrB hd' hsB (by rw [eg_ ho];omega),eg_ ho]
   have:b*s - d*r = -(r*d - s*b):=by grind
   rw [this,Int.sign_neg,Int.neg_mul_neg]
  have h1:((p - q).sign != 0)=true:=by
   rcases Int.lt_trichotomy (p - q) 0 with h|h|h
   ·rw [Int.sign_eq_neg_one_of_neg h];rfl
   ·omega
   rw [Int.sign_eq_one_of_pos h];rfl
  rw [h1];simp only [cond_true];rw [ef_ ho (by rw [NV hpB hqB];have:=ER (p - q);omega),NV hpB hqB];rw [bT_ hb hd oo_ r1 r2 s1 s2]
theorem e5_ {d:Int} (h:dR d):cfN (E (Z.of d))=d.toNat:=by
 unfold cfN;rw [cP,Z.of_some h]
theorem BU {a:Rt} {n d:Int} (h:a.Is n d):bB a=true:=gx_.2 ⟨n,d,h⟩
theorem eD_ {a b:Rt} {n d m e:Int} (ha:a.Is n d) (hb:b.Is m e):(kB a b).1=(n*e - m*d).sign:=by
 unfold kB;rw [nZ,nZ,BU ha,BU hb];simp only [Bool.not_true,Bool.and_false,cond_true,cond_false];rw [ha.en,ha.ed,hb.en,hb.ed,e5_ ha.hd,cK_ _ _ _ _ _ _ (Nat.le_refl _) ha.pos hb.pos ha.hn ha.hd hb.hn hb.hd (.inl O)];exact Int.one_mul _
theorem co_ (a b:Rt):kB a b=jF a b:=by
 unfold kB jF fX;rw [nZ,nZ]
 cases bB a<;>cases bB b<;>simp only [Bool.not_true,Bool.not_false,Bool.or_true,Bool.true_or,Bool.or_false,Bool.and_true,Bool.and_false,Bool.false_and,Bool.true_and,cond_true,cond_false,cP]<;>rfl
theorem UQ (a b:W):qX a b=fW a b:=rfl
theorem AS (a b:Rt):aG a b=aI a b:=by unfold aG aI;rw [SX,Y8,UQ]
theorem eM_ {a:Rt} {n d:Int} (h:a.Is n d):Rt.Is (kT a) (-n) d:=by
 have e:kT a=⟨E (Z.of (-n)),E (Z.of d)⟩:=by
  unfold kT;rw [BU h,h.en,h.ed,cP,I8 h.hn];rfl
 rw [e];refine ⟨rfl,rfl,?_,h.hd,h.pos,by rw [Int.neg_gcd];exact h.cop⟩;have:=h.hn;unfold dR at *;rw [Int.natAbs_neg];exact this
theorem gy_ {a:Rt} (h:bB a=true):∃ n d,Rt.Is a n d:=gx_.1 h
theorem bU_ {x:Int}:x.sign≤0 ↔ x≤0:=Int.sign_nonpos_iff
structure Iv.Is (a:Iv) (n d m e:Int):Prop where
 lo:a.lo.Is n d
 hi:a.hi.Is m e
 le:n*e≤m*d
def Rt.At (a:Rt) (q:Rat):Prop:=a.Is q.num (q.den:Int)
theorem dV_ {a:Rt} {n d:Int} (h:a.Is n d):∃ q:Rat,a.At q∧q.num=n∧(q.den:Int)=d:=by
 have hd:(d.toNat:Int)=d:=Int.toNat_of_nonneg (Int.le_of_lt h.pos)
 have hc:n.natAbs.Coprime d.toNat:=by
  have:=h.cop;unfold Int.gcd at this;rw [show d.natAbs=d.toNat by omega] at this;exact this
 refine ⟨⟨n,d.toNat,by have:=h.pos;omega,hc⟩,?_,rfl,hd⟩
 show a.Is n (d.toNat:Int)
 rw [hd];exact h
theorem HI {a:Rt} (h:bB a=true):∃ q,a.At q:=by
 obtain ⟨n,d,h1⟩:=gy_ h;obtain ⟨q,h2,_⟩:=dV_ h1;exact ⟨q,h2⟩
theorem nK {a:Rt} {q:Rat} (h:a.At q):bB a=true:=BU h
theorem SY {a b:Rt} {q:Rat} (ha:a.At q) (hb:b.At q):a=b:=Rt.ext (ha.en.trans hb.en.symm) (ha.ed.trans hb.ed.symm)
theorem n9 {a:Rt} {p q:Rat} (ha:a.At p) (hb:a.At q):p=q:=by
 have h1:=TY ha.hn hb.hn (Y5 (ha.en.symm.trans hb.en));have h2:=TY ha.hd hb.hd (Y5 (ha.ed.symm.trans hb.ed));exact Rat.ext h1 oo_
theorem eC_ {a b:Rt} {p q:Rat} (ha:a.At p) (hb:b.At q):(kB a b).1=(p.num*q.den - q.num*p.den).sign:=eD_ ha hb
theorem eE_ {a b:Rt} {p q:Rat} (ha:a.At p) (hb:b.At q):(kB a b).1≤0 ↔ p≤q:=by
 rw [eC_ ha hb,bU_,Rat.le_iff];omega
structure Iv.At (a:Iv) (p q:Rat):Prop where
 lo:a.lo.At p
 hi:a.hi.At q
 le:p≤q
def mn (p q:Rat):Rat:=if p≤q then p else q
structure Sz (q:Rat) (k:Nat):Prop where
 n:q.num.natAbs<2 ^ k
 d:q.den<2 ^ k
theorem OV {a b:Nat} (h:a≤b):(2:Nat) ^ a≤2 ^ b:=Nat.pow_le_pow_right dd_ h
theorem eA_ {v:Int} {k:Nat} (m:Nat) (hm:4294967296 ^ 16=2 ^ m) (h:v.natAbs<2 ^ k) (hk:k≤m):dR v:=by
 unfold dR;rw [hm];exact Nat.lt_of_lt_of_le h (OV hk)
theorem GB {v:Int} {k:Nat} (h:v.natAbs<2 ^ k) (hk:k≤512):dR v:=eA_ 512 PO h hk
theorem Sz.mono {q:Rat} {j k:Nat} (h:Sz q j) (hk:j≤k):Sz q k:=⟨Nat.lt_of_lt_of_le h.n (OV hk),Nat.lt_of_lt_of_le h.d (OV hk)⟩
theorem Sz.bn {q:Rat} {k:Nat} (h:Sz q k) (hk:k≤512):dR q.num:=GB h.n hk
theorem Sz.bd {q:Rat} {k:Nat} (h:Sz q k) (hk:k≤512):dR (q.den:Int):=GB (by simpa using h.d) hk
theorem xK {a b j k:Nat} (h:a<2 ^ j) (g:b<2 ^ k):a*b<2 ^ (j+k):=by
 rw [Nat.pow_add];exact Nat.mul_lt_mul_of_lt_of_le h (Nat.le_of_lt g) (Nat.pow_pos dd_)
theorem Sz.mul {p q:Rat} {j k:Nat} (h:Sz p j) (g:Sz q k):Sz (p*q) (j+k):=by
 constructor
 ·rw [Rat.num_mul]
  refine Nat.lt_of_le_of_lt (Int.natAbs_ediv_le_natAbs _ _) ?_;rw [Int.natAbs_mul];exact xK h.n g.n
 rw [Rat.den_mul];exact Nat.lt_of_le_of_lt (Nat.div_le_self _ _) (xK h.d g.d)
theorem Sz.neg {p:Rat} {k:Nat} (h:Sz p k):Sz (-p) k:=⟨by rw [Rat.neg_num,Int.natAbs_neg];exact h.n,h.d⟩
theorem S6 {n m:Int} {d e j k:Nat} (h1:n.natAbs<2 ^ j) (h2:e<2 ^ k) (h3:m.natAbs<2 ^ k) (h4:d<2 ^ j):(n*e+m*d).natAbs<2 ^ (j+k+1):=by
 have a:=xK h1 h2;have b:=xK h4 h3;have c:=Int.natAbs_add_le (n*e) (m*d);rw [Int.natAbs_mul,Int.natAbs_mul,Int.natAbs_natCast,Int.natAbs_natCast] at c;rw [Nat.pow_succ];rw [Nat.mul_comm d] at b;omega
theorem Sz.add {p q:Rat} {j k:Nat} (h:Sz p j) (g:Sz q k):Sz (p+q) (j+k+1):=by
 constructor
 ·rw [Rat.num_add]
  exact Nat.lt_of_le_of_lt (Int.natAbs_ediv_le_natAbs _ _) (S6 h.n g.d g.n h.d)
 rw [Rat.den_add];exact Nat.lt_of_le_of_lt (Nat.div_le_self _ _) (Nat.lt_of_lt_of_le (xK h.d g.d) (OV oo_))
theorem Sz.int {n:Int} {k:Nat} (h:n.natAbs<2 ^ k) (hk:0<k):Sz (n:Rat) k:=⟨h,Nat.one_lt_two_pow oo_⟩
theorem gs_ {a:Rt} {n d:Int} {q:Rat} (h:a.Is n d) (he:q.num*d=n*q.den):a.At q:=by
 obtain ⟨p,hp,h1,h2⟩:=dV_ h;have:p=q:=Rat.eq_iff_mul_eq_mul.2 (by rw [h1,h2];exact he.symm);rw [← this];exact hp
theorem At.is {a:Rt} {q:Rat} (h:a.At q):a.Is q.num (q.den:Int):=h
theorem DM {n d:Int} {q:Rat} (hn:dR n) (hd:dR d) (hp:0<d) (he:q.num*d=n*q.den):(bM (E (Z.of n)) (E (Z.of d))).At q:=by
 refine gs_ (A8 hn hd hp) ?_;have g1:((Int.gcd n d:Nat):Int) ∣ n:=Int.gcd_dvd_left ..;have g2:((Int.gcd n d:Nat):Int) ∣ d:=Int.gcd_dvd_right ..
 have p1:0<((Int.gcd n d:Nat):Int):=by have:=Int.gcd_pos_of_ne_zero_right n (show d≠0 by omega);omega
 obtain ⟨x,hx⟩:=g1;obtain ⟨y,hy⟩:=g2;generalize ((Int.gcd n d:Nat):Int)=G at *
 have q1:n / G=x:=by rw [hx];exact Int.mul_ediv_cancel_left _ oo_
 have q2:d / G=y:=by rw [hy];exact Int.mul_ediv_cancel_left _ oo_
 rw [q1,q2];rw [hx,hy] at he;exact Int.eq_of_mul_eq_mul_left (show G≠0 by omega) (by grind)
theorem eK_ {a:Rt} {p:Rat} (h:a.At p):(kT a).At (-p):=eM_ h
theorem nU {q:Rat}:(0:Int)<q.den:=by have:=q.den_nz;omega
theorem eI_ {a b:Rt} {p q:Rat} (ha:a.At p) (hb:b.At q) (hn:dR (p*q).num) (hd:dR ((p*q).den:Int)):(fD a b).At (p*q):=by
 unfold fD;rw [nK ha,nK hb];obtain ⟨x,y,r,s,e1,e2,b1,b2,b3,b4,h1,h2,hc,he⟩:=HS ha hb;simp only [Bool.not_true,Bool.or_false,cond_false,e1,e2,cP];rw [pF b1 b3,pF b2 b4];have hps:0<y*s:=Int.mul_pos h1 h2
 have hpq:p*q=Rat.divInt (x*r) (y*s):=by
  rw [← Rat.num_divInt_den p,← Rat.num_divInt_den q,Rat.divInt_mul_divInt];exact (Rat.divInt_eq_divInt_iff (by have:=@nU p;have:=@nU q;exact Int.mul_ne_zero oo_ oo_) oo_).2 (by rw [he])
 have hnum:(p*q).num=x*r:=by
  rw [hpq,Rat.num_divInt,Int.gcd_comm,hc,Int.sign_eq_one_of_pos hps];simp
 have hden:((p*q).den:Int)=y*s:=by
  rw [hpq,Rat.den_divInt,if_neg oo_,Int.gcd_comm,hc,Nat.div_one];omega
 rw [hnum] at hn;rw [hden] at hd;exact DM hn hd hps (by rw [hnum,hden])
theorem eJ_ {a b:Rt} {p q:Rat} {j k:Nat} (ha:a.At p) (hb:b.At q) (hp:Sz p j) (hq:Sz q k) (h:j+k≤512):(fD a b).At (p*q) :=
 eI_ ha hb ((hp.mul hq).bn h) ((hp.mul hq).bd h)
theorem ey_ {a b:Rt} {p q:Rat} {j k:Nat} (ha:a.At p) (hb:b.At q) (hp:Sz p j) (hq:Sz q k) (h:j+k+1≤512):(eO a b).At (p+q):=by
 unfold eO;rw [nK ha,nK hb];simp only [Bool.not_true,Bool.or_false,cond_false];have ia:=At.is ha;have ib:=At.is hb;rw [ia.en,ia.ed,ib.en,ib.ed];simp only [cP];have hdp:=@nU p;have hdq:=@nU q
 have hg:0<((Int.gcd (p.den:Int) (q.den:Int):Nat):Int):=by
  have:=Int.gcd_pos_of_ne_zero_right (p.den:Int) (show (q.den:Int)≠0 by omega);omega
 have hbg:=QX (u:=(p.den:Int)) ib.hd oo_;have g1:((Int.gcd (p.den:Int) (q.den:Int):Nat):Int) ∣ (p.den:Int):=Int.gcd_dvd_left ..;have g2:((Int.gcd (p.den:Int) (q.den:Int):Nat):Int) ∣ (q.den:Int):=Int.gcd_dvd_right ..;rw [C5 ia.hd ib.hd,zJ ib.hd hbg hg,zJ ia.hd hbg hg];generalize ((Int.gcd (p.den:Int) (q.den:Int):Nat):Int)=G at *;obtain ⟨x,hx⟩:=g1;obtain ⟨y,hy⟩:=g2
 have q1:(p.den:Int) / G=x:=by rw [hx];exact Int.mul_ediv_cancel_left _ oo_
 have q2:(q.den:Int) / G=y:=by rw [hy];exact Int.mul_ediv_cancel_left _ oo_
 rw [q1,q2]
 have x0:0<x:=by rw [hx] at hdp;exact Int.pos_of_mul_pos_right hdp hg
 have y0:0<y:=by rw [hy] at hdq;exact Int.pos_of_mul_pos_right hdq hg
 have xl:x≤p.den:=by rw [hx];have:=Int.mul_le_mul_of_nonneg_right (show (1:Int)≤G by omega) (Int.le_of_lt x0);omega
 have yl:y≤q.den:=by rw [hy];have:=Int.mul_le_mul_of_nonneg_right (show (1:Int)≤G by omega) (Int.le_of_lt y0);omega
 have x1:x.toNat<2 ^ j:=Nat.lt_of_le_of_lt oo_ hp.d;have y1:y.toNat<2 ^ k:=Nat.lt_of_le_of_lt oo_ hq.d
 have xe:x=(x.toNat:Int):=by omega
 have ye:y=(y.toNat:Int):=by omega
 have bx:dR x:=GB (k:=j) (by rw [xe,Int.natAbs_natCast];exact x1) oo_
 have by':dR y:=GB (k:=k) (by rw [ye,Int.natAbs_natCast];exact y1) oo_
 rw [pF ia.hn by',pF ib.hn bx,pF bx ib.hd]
 have t1:(p.num*y).natAbs<2 ^ (j+k):=by rw [Int.natAbs_mul];exact xK hp.n oo_
 have t2:(q.num*x).natAbs<2 ^ (j+k):=by rw [Int.natAbs_mul,Nat.mul_comm];exact xK oo_ hq.n
 have t3:(x*(q.den:Int)).natAbs<2 ^ (j+k):=by rw [Int.natAbs_mul];exact xK oo_ (by simpa using hq.d)
 rw [E7 (GB t1 oo_) (GB t2 oo_)]
 have t4:(p.num*y+q.num*x).natAbs<2 ^ (j+k+1):=by rw [Nat.pow_succ];omega
 refine DM (GB t4 h) (GB t3 oo_) (Int.mul_pos x0 hdq) ?_
 have key:p+q=Rat.divInt (p.num*y+q.num*x) (x*q.den):=by
  conv=>lhs;rw [← Rat.num_divInt_den p,← Rat.num_divInt_den q,Rat.divInt_add_divInt _ _ oo_ oo_]
  refine (Rat.divInt_eq_divInt_iff (Int.mul_ne_zero oo_ oo_) (Int.mul_ne_zero oo_ oo_)).2 ?_;rw [hx,hy];grind
 have h3:=Rat.num_divInt_den (p+q);rw [key] at h3 ⊢;have h4:=(Rat.divInt_eq_divInt_iff (by have:=@nU (Rat.divInt (p.num*y+q.num*x) (x*q.den));omega) (Int.mul_ne_zero oo_ oo_)).1 h3;exact h4
def vl (c:Nat→Rat) (x:Rat) (n:Nat):Rat:=jA (fun i=>c i*x ^ i) n
theorem R6 (x:Rat) (m:Nat):∀ n:Nat,x ^ (m+n)=x ^ m*x ^ n
 | 0=>by rw [Rat.pow_zero,Rat.mul_one];rfl
 | n+1=>by rw [← Nat.add_assoc,Rat.pow_succ,R6 x m n,Rat.pow_succ,Rat.mul_assoc]
theorem CF {c:Nat→Rat} {x:Rat} {n:Nat} (h:∀ i,n≤i→c i=0) {m:Nat} (hm:n≤m):vl c x m=vl c x n :=
 rJ (fun i hi=>by rw [h i hi,Rat.zero_mul]) m hm
theorem cf_ (c d:Nat→Rat) (x:Rat) (n:Nat):vl (fun i=>c i+d i) x n=vl c x n+vl d x n:=by
 unfold vl;rw [← BP];exact iK fun i _=>Rat.add_mul _ _ _
theorem gn_ (a:Rat) (c:Nat→Rat) (x:Rat) (n:Nat):vl (fun i=>a*c i) x n=a*vl c x n:=by
 unfold vl;rw [← uD];exact iK fun i _=>Rat.mul_assoc _ _ _
theorem SQ (c:Nat→Rat) (x:Rat) (n:Nat):vl c x (n+1)=c 0+x*vl (fun i=>c (i+1)) x n:=by
 unfold vl;rw [zQ,Rat.pow_zero,Rat.mul_one,← uD]
 congr 1
 refine iK fun i _=>?_;rw [Rat.pow_succ];grind
theorem XB {c d:Nat→Rat} {x:Rat} {n m:Nat} (hc:∀ i,n≤i→c i=0) (hd:∀ i,m≤i→d i=0) {K:Nat} (hK:n+m≤K):vl (conv c d) x K=vl c x n*vl d x m:=by
 have h:=KC (fun i j=>c i*x ^ i*(d j*x ^ j)) K
 have e1:vl (conv c d) x K=jA (fun k=>jA (fun i=>c i*x ^ i*(d (k - i)*x ^ (k - i))) (k+1)) K:=by
  refine iK fun k _=>?_
  show jA _ _*_=_
  rw [← F9];refine iK fun i hi=>?_
  have:x ^ k=x ^ i*x ^ (k - i):=by rw [← R6];congr 1;omega
  rw [this];grind
 rw [e1,h];unfold vl;rw [← F9];rw [rJ (n:=n) (fun i hi=>by rw [hc i hi];exact nA fun j _=>by rw [Rat.zero_mul,Rat.zero_mul]) K oo_];refine iK fun i hi=>?_;rw [uD]
 congr 1
 exact rJ (fun j hj=>by rw [hd j hj,Rat.zero_mul]) _ oo_
def hv (c:Nat→Int) (N D:Int) (L:Nat):Nat→Int
 | 0=>0
 | t+1=>hv c N D L t*N+c (L - 1 - t)*D ^ t
section
variable {c:Nat→Int} {N D:Int} {L:Nat}
theorem aR_ {x:Rat} (hx:(D:Rat)*x=N):∀ t:Nat,t≤L→((hv c N D L t:Int):Rat)*D=(D:Rat) ^ t*vl (fun j=>cR c (L - t+j)) x t
 | 0,_=>by show ((0:Int):Rat)*D=_*(0:Rat);rw [Rat.mul_zero];exact Rat.zero_mul _
 | t+1,ht=>by
  rw [SQ,hv,Rat.intCast_add,Rat.intCast_mul,Rat.intCast_mul,Rat.intCast_pow,Rat.pow_succ];have ih:=aR_ hx t oo_;rw [show (fun i=>(fun j=>cR c (L - (t+1)+j)) (i+1))=fun j=>cR c (L - t+j) from funext fun j=>by show cR c _=cR c _;congr 1;omega];rw [show L - (t+1)+0=L - 1 - t by omega]
  show _=_*(((c (L - 1 - t):Int):Rat)+_)
  generalize vl (fun j=>cR c (L - t+j)) x t=S at *;generalize ((hv c N D L t:Int):Rat)=H at *;rw [← hx]
  grind
theorem TO {x:Rat} (hx:(D:Rat)*x=N) (hD:0<D):((hv c N D L L:Int):Rat)=(D:Rat) ^ (L - 1)*vl (cR c) x L:=by
 have hd:(D:Rat)≠0:=fun h=>by have:=Rat.intCast_eq_zero_iff.1 h;omega
 cases L with
 | zero=>show ((0:Int):Rat)=_*(0:Rat);rw [Rat.mul_zero];rfl
 | succ n =>
  have h:=aR_ (c:=c) (L:=n+1) hx (n+1) (Nat.le_refl _);rw [show (fun j=>cR c (n+1 - (n+1)+j))=cR c from funext fun j=>by congr 1;omega,Rat.pow_succ] at h;rw [Nat.add_sub_cancel]
  have:(((hv c N D (n+1) (n+1):Int):Rat) - (D:Rat) ^ n*vl (cR c) x (n+1))*D=0:=by grind
  rcases Rat.mul_eq_zero.1 this with h|h
  ·grind
  exact absurd h hd
theorem aP_ {b s:Nat} (hc:∀ k,(c k).natAbs<2 ^ b) (hN:N.natAbs<2 ^ s) (hD:D.natAbs<2 ^ s):∀ t:Nat,(hv c N D L t).natAbs≤t*2 ^ (b+s*t)
 | 0=>by simp [hv]
 | t+1=>by
  have ih:=aP_ hc hN hD t
  have h1:(hv c N D L t*N).natAbs≤t*2 ^ (b+s*t)*2 ^ s:=by
   rw [Int.natAbs_mul];exact Nat.mul_le_mul ih (Nat.le_of_lt hN)
  have h2:(c (L - 1 - t)*D ^ t).natAbs≤2 ^ b*2 ^ (s*t):=by
   rw [Int.natAbs_mul,Int.natAbs_pow,Nat.pow_mul];exact Nat.mul_le_mul (Nat.le_of_lt (hc _)) (Nat.pow_le_pow_left (Nat.le_of_lt hD) t)
  have h3:=Int.natAbs_add_le (hv c N D L t*N) (c (L - 1 - t)*D ^ t)
  have h4:(2:Nat) ^ b*2 ^ (s*t)≤2 ^ (b+s*(t+1)):=by
   rw [← Nat.pow_add];exact Nat.pow_le_pow_right dd_ (by rw [Nat.mul_succ];omega)
  have h5:t*2 ^ (b+s*t)*2 ^ s=t*2 ^ (b+s*(t+1)):=by
   rw [Nat.mul_assoc,← Nat.pow_add,Nat.mul_succ,Nat.add_assoc]
  rw [Nat.succ_mul];show (hv c N D L t*N+c (L - 1 - t)*D ^ t).natAbs≤_;omega
structure Room (c:Nat→Int) (N D:Int) (L:Nat):Prop where
 h:∀ t,t≤L→dR (hv c N D L t)
 m:∀ t,t<L→dR (hv c N D L t*N)
 p:∀ t,t<L→dR (D ^ t)
 q:∀ t,t<L→dR (c (L - 1 - t)*D ^ t)
theorem f7_ {b s n e:Nat} (hc:∀ k,(c k).natAbs<2 ^ b) (hN:N.natAbs<2 ^ s) (hD:D.natAbs<2 ^ s) (hL:L≤n) (hn:n≤2 ^ e) (h:b+s*n+e+1≤512):Room c N D L:=by
 have hp:(2:Nat) ^ (b+s*n+e+1)=2*(2 ^ e*2 ^ (b+s*n)):=by rw [Nat.pow_succ,Nat.add_comm _ e,Nat.pow_add];omega
 have h0:0<2 ^ e*2 ^ (b+s*n):=Nat.mul_pos (Nat.pow_pos dd_) (Nat.pow_pos dd_);have k1:∀ t,t≤n→t*2 ^ (b+s*t)≤2 ^ e*2 ^ (b+s*n):=fun t ht =>
  Nat.mul_le_mul oo_ (Nat.pow_le_pow_right dd_ (by have:=Nat.mul_le_mul_left s ht;omega))
 have k2:∀ t,t<n→(2:Nat) ^ (s*t)≤2 ^ (b+s*n):=fun t ht=>Nat.pow_le_pow_right dd_ (by have:=Nat.mul_le_mul_left s (Nat.le_of_lt ht);omega);have he:1≤2 ^ e:=Nat.pow_pos dd_
 have kD:∀ t,(D ^ t).natAbs≤2 ^ (s*t):=fun t=>by rw [Int.natAbs_pow,Nat.pow_mul];exact Nat.pow_le_pow_left (Nat.le_of_lt hD) t
 have k0:2 ^ (b+s*n)≤2 ^ e*2 ^ (b+s*n):=Nat.le_mul_of_pos_left _ he;refine ⟨fun t ht=>CT (k:=b+s*n+e+1) ?_ h,fun t ht=>CT (k:=b+s*n+e+1) ?_ h,fun t ht=>CT (k:=b+s*n+e+1) ?_ h,fun t ht=>CT (k:=b+s*n+e+1) ?_ h⟩
 ·have:=aP_ (L:=L) hc hN hD t
  have:=k1 t oo_;omega
 ·have h1:=aP_ (L:=L) hc hN hD t
  have h2:=k1 (t+1) oo_
  have h3:(hv c N D L t*N).natAbs≤t*2 ^ (b+s*t)*2 ^ s:=by
   rw [Int.natAbs_mul];exact Nat.mul_le_mul h1 (Nat.le_of_lt hN)
  have h5:t*2 ^ (b+s*t)*2 ^ s=t*2 ^ (b+s*(t+1)):=by
   rw [Nat.mul_assoc,← Nat.pow_add,Nat.mul_succ,Nat.add_assoc]
  rw [Nat.succ_mul] at h2;have h6:0<2 ^ (b+s*(t+1)):=Nat.pow_pos dd_;omega
 ·have:=kD t
  have:=k2 t oo_;omega
 have h2:(c (L - 1 - t)*D ^ t).natAbs≤2 ^ b*2 ^ (s*t):=by
  rw [Int.natAbs_mul];exact Nat.mul_le_mul (Nat.le_of_lt (hc _)) (kD t)
 have h3:(2:Nat) ^ b*2 ^ (s*t)≤2 ^ (b+s*n):=by
  rw [← Nat.pow_add];exact Nat.pow_le_pow_right dd_ (by have:=Nat.mul_le_mul_left s (Nat.le_of_lt (show t<n by omega));omega)
 omega
theorem T8 {D:Int}:∀ {k:Nat},(∀ j,j≤k→dR (D ^ j))→pw (E (Z.of D)) k=E (Z.of (D ^ k))
 | 0,_=>by rw [Int.pow_zero];rfl
 | k+1,h=>by
  rw [pw,T8 fun j hj=>h j oo_,cP,cP,pF (h k oo_) (by have:=h 1 oo_;rwa [Int.pow_one] at this:dR D),Int.pow_succ]
variable {p:List I} {x:Rt}
theorem ce_ (h:Po p c) (hx:x.Is N D) (r:Room c N D p.length):∀ (f t:Nat) (i:Int),t≤p.length→i=(p.length:Int) - 1 - t→p.length - t<f →
  (fN p x f i (E (Z.of (hv c N D p.length t)))).2=E (Z.of (hv c N D p.length p.length))
 | 0,t,i,_,_,hf=>absurd hf (Nat.not_lt_zero _)
 | f+1,t,i,ht,hi,hf=>by
  unfold fN
  by_cases h0:0≤i
  ·rw [decide_eq_true h0,cond_true]
   have hl:t<p.length:=by omega
   have e1:i.toNat=p.length - 1 - t:=by omega
   have e2:p.length - 1 - i.toNat=t:=by omega
   simp only
   rw [e2,uV _ _ (show t<max (p.length:Int).toNat 1 by omega),hx.ed,T8 fun j hj=>r.p j oo_,e1,h.get,hx.en,cP,cP,cP,cP,cP,
    pF (h.B _) (r.p t hl),pF (r.h t ht) hx.hn,E7 (r.m t hl) (r.q t hl)]
   exact ce_ h hx r f (t+1) _ oo_ oo_ oo_
  rw [decide_eq_false h0,cond_false,show t=p.length by omega]
theorem Y0 (h:Po p c) (hx:x.Is N D) (r:Room c N D p.length):iB p x=(E (Z.of (hv c N D p.length p.length)),E (Z.of (D ^ (p.length - 1)))):=by
 unfold iB;rw [h.nb,VG,nZ,BU hx]
 show ((fN p x (p.length+1) ((p.length:Int) - 1) I0).2,_)=_
 congr 1
 ·have e:=ce_ h hx r (p.length+1) 0 ((p.length:Int) - 1) (Nat.zero_le _) oo_ oo_
  rw [show hv c N D p.length 0=0 from rfl,← I0_E] at e;exact e
 rw [show ((p.length:Int) - 1).toNat=p.length - 1 by omega,uV _ _ oo_,hx.ed]
 cases hl:p.length with
 | zero=>show pw _ 0=E (Z.of (D ^ 0));rw [Int.pow_zero];rfl
 | succ n=>exact T8 fun j hj=>r.p j oo_
theorem bj_ {q:Rat} {n d:Int} (h:(n:Rat)=(d:Rat)*q):q.num*d=n*q.den:=by
 have h1:=xJ q
 have h2:((n*q.den:Int):Rat)=((q.num*d:Int):Rat):=by
  rw [Rat.intCast_mul,Rat.intCast_mul,h,← h1];grind
 exact (Rat.intCast_inj.1 h2).symm
theorem IA {q:Rat}:((q.den:Int):Rat)*q=((q.num:Int):Rat):=by
 rw [Rat.mul_comm];exact xJ q
theorem ZF {q:Rat} {n b s e:Nat} (h:Po p c) (hb:Bd c n b) (hx:x.At q) (hs:Sz q s) (hn:n≤2 ^ e) (hk:b+s*n+e+1≤512):(aH p x).2=true∧(aH p x).1.1=(vl (cR c) q n).num.sign:=by
 have ix:=At.is hx;have hl:=h.len hb;have r:=f7_ (L:=p.length) hb.b hs.n (show (q.den:Int).natAbs<2 ^ s by rw [Int.natAbs_natCast];exact hs.d) hl hn hk;unfold aH;rw [Y0 h ix r];have hp:=@nU q;have hv:=TO (c:=c) (L:=p.length) (N:=q.num) (D:=(q.den:Int)) IA hp;rw [CF (n:=p.length) (fun i hi=>by unfold cR;rw [h.zero hi];rfl) hl];refine ⟨by show (!(E (Z.of _)).1.bad)=true;rw [H0 (r.h _ (Nat.le_refl _))];rfl,?_⟩
 show (Z.signW (E (Z.of _)).dec).1=_
 rw [cP,lW (r.h _ (Nat.le_refl _))];have e:=bj_ (n:=Go.Num.hv c q.num (q.den:Int) p.length p.length) (d:=(q.den:Int) ^ (p.length - 1)) (by rw [hv,Rat.intCast_pow]);have e2:=congrArg Int.sign e;rw [Int.sign_mul,Int.sign_mul,Int.sign_eq_one_of_pos (Int.pow_pos hp),Int.sign_eq_one_of_pos (@nU _),Int.mul_one,Int.mul_one] at e2;exact e2.symm
end
open Go Go.Kn
theorem C3 {u:Int}:∀ (l:List I) (g:Nat),u ∣ (g:Int)→(∀ x∈l,u ∣ vI x)→u ∣ ((l.foldl fg g:Nat):Int)
 | [],g,h,_=>h
 | y::l,g,h,hx=>C3 l (fg g y) (Int.dvd_coe_gcd h (hx y List.mem_cons_self)) fun x hm=>hx x (List.mem_cons_of_mem _ hm)
def Prm (c:Nat→Int):Prop:=∀ u:Int,(∀ k,u ∣ c k)→u ∣ 1
theorem VF {u:Int} {g:Nat} (h:0<g) (hd:(g:Int) ∣ u):(u.fdiv g).natAbs≤u.natAbs:=by
 obtain ⟨x,rfl⟩:=hd;rw [Int.mul_fdiv_cancel_left _ oo_,Int.natAbs_mul,Int.natAbs_natCast];exact Nat.le_mul_of_pos_left _ h
section
variable {p q:List I} {c d:Nat→Int}
theorem Po.mem (h:Po p c) {x:I} (hx:x∈p):∃ k,vI x=c k:=by
 obtain ⟨k,hk,rfl⟩:=List.getElem_of_mem hx;refine ⟨k,?_⟩;rw [← h.c k]
 simp [List.getD,hk]
theorem Po.dvd (h:Po p c) (k:Nat):((cN p:Nat):Int) ∣ c k:=by
 by_cases hk:k<p.length
 ·rw [← h.c k,show p.getD k I0=p[k] by simp [List.getD,hk]]
  exact H3 (List.getElem_mem hk)
 rw [h.zero oo_];exact Int.dvd_zero _
theorem Po.cpos (h:Po p c) (h0:p≠[]):0<cN p:=by
 obtain ⟨n,hn⟩:∃ n,p.length=n+1:=⟨p.length - 1,by have:=List.length_pos_iff.2 h0;omega⟩;rcases Nat.eq_zero_or_pos (cN p) with e|e
 ·have h1:=h.dvd n
  rw [e] at h1;exact absurd (Int.zero_dvd.1 h1) (h.last hn)
 exact e
theorem vV (h:Po p c):Po (aC p) (fun k=>(c k).fdiv (cN p)):=by
 have e:=RR h.g h.s h.l
 have hB:∀ x∈p,dR ((vI x).fdiv (cN p)):=fun x hx=>by
  obtain ⟨k,hk⟩:=h.mem hx;rw [hk];exact Nat.lt_of_le_of_lt (VF (h.cpos (List.ne_nil_of_mem hx)) (h.dvd k)) (h.B k)
 have hg:(aC p).all gdI=true:=by
  rw [e];refine List.all_eq_true.2 fun y hy=>?_;obtain ⟨x,hx,rfl⟩:=List.mem_map.1 hy;exact OB (hB x hx)
 refine (xU (pM p h.l3) hg).cast fun k=>?_;rw [e]
 by_cases hk:k<p.length
 ·have e2:(p.map fun x=>E (Z.of ((vI x).fdiv (cN p)))).getD k I0=E (Z.of ((vI p[k]).fdiv (cN p))):=by simp [List.getD,hk]
  rw [e2,cd_ (hB _ (List.getElem_mem hk)),← h.c k,show p.getD k I0=p[k] by simp [List.getD,hk]]
 rw [oL (by rw [List.length_map];omega),vI0,h.zero oo_,Int.zero_fdiv]
theorem yL (h:Po p c) (k:Nat):((cN p:Nat):Int)*(c k).fdiv (cN p)=c k:=by
 by_cases h0:p=[]
 ·subst h0;rw [h.zero (Nat.zero_le k),Int.zero_fdiv,Int.mul_zero]
 have hp:=h.cpos h0;obtain ⟨x,hx⟩:=h.dvd k;rw [hx,Int.mul_fdiv_cancel_left _ oo_]
theorem JF (h:Po p c) (h0:p≠[]):Prm (fun k=>(c k).fdiv (cN p)):=fun u hu=>by
 have hp:=h.cpos h0
 have h1:((cN p:Nat):Int)*u ∣ ((cN p:Nat):Int):=C3 p 0 (Int.dvd_zero _) fun x hx=>by
  obtain ⟨k,hk⟩:=h.mem hx;rw [hk,← yL h k];exact Int.mul_dvd_mul_left _ (hu k)
 obtain ⟨y,hy⟩:=h1;refine ⟨y,?_⟩
 have:((cN p:Nat):Int)*1=((cN p:Nat):Int)*(u*y):=by rw [Int.mul_one,← Int.mul_assoc];exact hy
 exact Int.eq_of_mul_eq_mul_left oo_ this
def lin (u v:Int) (k:Nat):Int:=if k=0 then u else if k=1 then v else 0
theorem fA_ {u v:Int} (hu:dR u) (hv:dR v):Po (bQ [E (Z.of u),E (Z.of v)]) (lin u v):=by
 rw [rD];refine DA (fun k=>?_) (fun k=>?_) fun k hk=>?_
 ·match k with
  | 0=>rfl
  | 1=>rfl
  | k+2=>rw [oL (by simp)];unfold lin;rw [if_neg oo_,if_neg oo_];rfl
 ·unfold lin;split
  ·exact hu
  split
  ·exact hv
  exact B0
 unfold lin;rw [if_neg oo_,if_neg oo_]
theorem fN_ {u:Int} (hu:dR u):Po (bQ [E (Z.of u)]) (lin u 0):=by
 rw [rD];refine DA (fun k=>?_) (fun k=>?_) fun k hk=>?_
 ·match k with
  | 0=>rfl
  | k+1=>rw [oL (by simp)];unfold lin;rw [if_neg oo_,ite_self];rfl
 ·unfold lin;split
  ·exact hu
  rw [ite_self];exact B0
 unfold lin;rw [if_neg oo_,ite_self]
def sb (c:Nat→Int) (u v W:Int) (L:Nat):Nat→Nat→Int
 | 0=>fun _=>0
 | t+1=>fun k=>conv (sb c u v W L t) (lin u v) k+lin (c (L - 1 - t)*W ^ t) 0 k
variable {u v W:Int} {L:Nat}
theorem cg_ (u v:Int) (y:Rat) {K:Nat} (hK:2≤K):vl (cR (lin u v)) y K=(u:Rat)+(v:Rat)*y:=by
 rw [CF (n:=2) (fun i hi=>by unfold cR lin;rw [if_neg oo_,if_neg oo_];rfl) hK]
 show (0+((u:Int):Rat)*y ^ 0)+((v:Int):Rat)*y ^ 1=_
 rw [Rat.pow_zero,Rat.pow_one,Rat.zero_add,Rat.mul_one]
theorem bP_ {y z:Rat} (hz:(u:Rat)+(v:Rat)*y=(W:Rat)*z) (hs:∀ t,t≤L→∀ k,t≤k→sb c u v W L t k=0) (hL:L≤24):∀ t:Nat,t≤L→vl (cR (sb c u v W L t)) y 26*(W:Rat)=(W:Rat) ^ t*vl (fun j=>cR c (L - t+j)) z t
 | 0,_=>by
  show jA _ _*_=_*(0:Rat)
  rw [nA fun i _=>by show ((0:Int):Rat)*_=0;exact Rat.zero_mul _,Rat.mul_zero,Rat.zero_mul]
 | t+1,ht=>by
  have ih:=bP_ hz hs hL t oo_
  have e1:cR (sb c u v W L (t+1))=fun k=>conv (cR (sb c u v W L t)) (cR (lin u v)) k+cR (lin (c (L - 1 - t)*W ^ t) 0) k:=by
   rw [← FD];funext k;exact Rat.intCast_add ..
  rw [e1,cf_,XB (n:=t) (m:=2) (fun i hi=>by unfold cR;rw [hs t oo_ i hi];rfl) (fun i hi=>by unfold cR lin;rw [if_neg oo_,if_neg oo_];rfl) oo_,cg_ _ _ _ (Nat.le_refl _),cg_ _ _ _ dd_,hz,
   ← CF (n:=t) (m:=26) (fun i hi=>by unfold cR;rw [hs t oo_ i hi];rfl) oo_]
  generalize vl (cR (sb c u v W L t)) y 26=H at *;rw [SQ,Rat.pow_succ,Rat.intCast_mul,Rat.intCast_pow];rw [show (fun i=>(fun j=>cR c (L - (t+1)+j)) (i+1))=fun j=>cR c (L - t+j) from funext fun j=>by show cR c _=cR c _;congr 1;omega];rw [show L - (t+1)+0=L - 1 - t by omega]
  show _=_*(((c (L - 1 - t):Int):Rat)+_)
  generalize vl (fun j=>cR c (L - t+j)) z t=S at *;rw [show ((0:Int):Rat)=0 from rfl]
  grind
theorem ga_ {y z:Rat} (hz:(u:Rat)+(v:Rat)*y=(W:Rat)*z) (hW:0<W) (hs:∀ t,t≤L→∀ k,t≤k→sb c u v W L t k=0) (hL:L≤24):vl (cR (sb c u v W L L)) y 26=(W:Rat) ^ (L - 1)*vl (cR c) z L:=by
 have hd:(W:Rat)≠0:=fun h=>by have:=Rat.intCast_eq_zero_iff.1 h;omega
 have h:=bP_ (c:=c) hz hs hL L (Nat.le_refl _);rw [show (fun j=>cR c (L - L+j))=cR c from funext fun j=>by congr 1;omega] at h
 cases L with
 | zero =>
  show _=_*(0:Rat)
  rw [Rat.mul_zero]
  exact nA fun i _=>by show ((0:Int):Rat)*_=0;exact Rat.zero_mul _
 | succ n =>
  rw [Rat.pow_succ] at h;rw [Nat.add_sub_cancel]
  have:(vl (cR (sb c u v W (n+1) (n+1))) y 26 - (W:Rat) ^ n*vl (cR c) z (n+1))*W=0:=by grind
  rcases Rat.mul_eq_zero.1 this with h|h
  ·grind
  exact absurd h hd
end
open Go Go.Kn
theorem k25 {l:List I} (h:l.length≤25):l.length≤1000:=Nat.le_trans h dd_
theorem OL (l:List I):(mkP l).length≤max l.length 1:=by
 unfold mkP
 cases l.all gdI
 ·exact Nat.le_max_right _ _
 simp only [cond_true]
 split
 ·exact Nat.le_trans (wY l) (Nat.le_max_left _ _)
 exact Nat.le_max_right _ _
theorem NT {c:Bool} {x y:List I} {n:Nat} (h:x.length≤n) (k:y.length≤n):(bif c then x else y).length≤n:=by cases c<;>assumption
theorem cT_ {p q:List I} (f:I→I→I) {n:Nat} (hp:p.length≤n) (hq:q.length≤n) (h1:1≤n) (h2:n≤1000):(fE p q f).length≤n:=by
 rw [qG f oo_ oo_];refine NT (Nat.le_trans (OL _) ?_) h1;rw [List.length_map,List.length_range];omega
theorem cx_ {p q:List I} {n:Nat} (hp:p.length≤n) (hq:q.length≤n) (h1:1≤n) (h2:n≤1000):(nR p q).length≤n:=cT_ _ hp hq h1 h2
theorem dc_ {p q:List I} {n m:Nat} (hp:p.length≤n) (hq:q.length≤m) (h1:1≤n+m - 1):(jQ p q).length≤n+m - 1:=by
 unfold jQ;refine NT h1 (NT (Nat.zero_le _) ?_);rw [pK];refine Nat.le_trans (OL _) ?_;rw [List.length_map,List.length_range];omega
def Zx (z:Z) (v:Int):Prop:=z.o=none∨(z=Z.of v∧dR v)
theorem Zx.of (v:Int):Zx (Z.of v) v:=by
 by_cases h:dR v
 ·exact .inr ⟨rfl,h⟩
 refine .inl ?_;rw [Z.of_o,if_neg h]
theorem Zx.lift {f:Int→Int→Z} {a b:Z} {u v r:Int} (ha:Zx a u) (hb:Zx b v) (hf:Zx (f u v) r):Zx (yG f a b) r:=by
 rcases ha with h|⟨h,h1⟩
 ·left;rw [jO (.inl h)];rfl
 rcases hb with k|⟨k,h2⟩
 ·left;rw [jO (.inr k)];rfl
 subst h;subst k;rw [dQ (Z.of_some h1) (Z.of_some h2)];exact hf
theorem Zx.add {a b:Z} {u v:Int} (ha:Zx a u) (hb:Zx b v):Zx (Z.add a b) (u+v):=ha.lift hb (.of _)
theorem Zx.mul {a b:Z} {u v:Int} (ha:Zx a u) (hb:Zx b v):Zx (Z.mul a b) (u*v):=ha.lift hb (.of _)
def Ix (x:I) (v:Int):Prop:=Zx x.dec v
theorem NI {z:Z} {v:Int} (h:Zx z v):Ix (E z) v:=by unfold Ix;rw [cP];exact h
theorem Ix.of (v:Int):Ix (E (Z.of v)) v:=NI (.of v)
theorem Ix.gd {x:I} {v:Int} (h:Ix x v) (g:gdI x=true):x=E (Z.of v)∧dR v:=by
 obtain ⟨w,hw,e⟩:=gY_ g;subst e;unfold Ix at h;rw [cP] at h;rcases h with h|⟨h,b⟩
 ·rw [Z.of_some hw] at h;cases h
 exact ⟨by rw [h],b⟩
theorem OK {l:List I} (h:(mkP l).all gdI=true):l.all gdI=true:=by
 unfold mkP at h
 cases hl:l.all gdI
 ·rw [hl,cond_false,e9] at h;cases h
 rfl
def Px (p:List I) (c:Nat→Int):Prop:=p.length≤1000∧(p.all gdI=true→Po p c)
section
variable {p q:List I} {c d:Nat→Int}
theorem Po.px (h:Po p c):Px p c:=⟨h.l3,fun _=>h⟩
theorem UI {f:Nat→I} {n:Nat} (h:∀ k,k<n→Ix (f k) (c k)) (h0:∀ k,n≤k→c k=0) (hn:n≤25) (hg:(mkP ((List.range n).map f)).all gdI=true):Po (mkP ((List.range n).map f)) c:=by
 have hall:=OK hg;have hgd:∀ k,k<n→gdI (f k)=true:=fun k hk=>List.all_eq_true.1 hall _ (List.mem_map.2 ⟨k,List.mem_range.2 hk,rfl⟩);refine UH (fun k hk=>((h k hk).gd (hgd k hk)).1) h0 (fun k=>?_) (fun k hk=>h0 k oo_)
 by_cases hk:k<n
 ·exact ((h k hk).gd (hgd k hk)).2
 rw [h0 k oo_];exact B0
theorem V3 (h:Po p c) (g:Po q d) (k:Nat) :
  ∀ (t i:Nat) (m:I),k+1 - i<t→i≤k+1→Ix m (jA (fun i=>c i*d (k - i)) i)→Ix (kA k q p t i m).2 (conv c d k)
 | 0,i,m,ht,_,_=>absurd ht (Nat.not_lt_zero _)
 | t+1,i,m,ht,hi,hm=>by
  unfold kA;have e:∀ a b,a≤b→p.length≤a→jA (fun i=>c i*d (k - i)) b=jA (fun i=>c i*d (k - i)) a:=fun a b hab hpa =>
   rJ (fun j hj=>by rw [h.zero oo_,Int.zero_mul]) b hab
  by_cases hk:(i:Int)≤min (k:Int) ((p.length:Int) - 1)
  ·rw [decide_eq_true hk,cond_true,h.get,g.get,cP,cP]
   exact V3 h g k t (i+1) _ oo_ oo_ (NI (Zx.add hm (Zx.mul (.of _) (.of _))))
  rw [decide_eq_false hk,cond_false]
  show Ix m (jA _ (k+1))
  rcases Nat.lt_or_ge i (k+1) with h1|h1
  ·rw [e i (k+1) oo_ oo_];exact hm
  rw [show k+1=i by omega];exact hm
theorem Px.mul (hp:Px p c) (hq:Px q d) (hl:p.length+q.length≤26):Px (jQ p q) (conv c d):=by
 refine ⟨k25 (EI _ _),fun hg=>?_⟩
 have gp:p.all gdI=true:=by
  cases hc:p.all gdI
  ·rw [US hp.1 hq.1 (.inl hc),e9] at hg;cases hg
  rfl
 have gq:q.all gdI=true:=by
  cases hc:q.all gdI
  ·rw [US hp.1 hq.1 (.inr hc),e9] at hg;cases hg
  rfl
 have h:=hp.2 gp;have g:=hq.2 gq;unfold jQ at hg ⊢;rw [h.nb,g.nb,Bool.or_false,cond_false] at hg ⊢
 by_cases h0:p=[]
 ·subst h0
  rw [show (((([]:List I).length:Int)==0)||((q.length:Int)==0))=true by simp,cond_true];exact E6.cast fun k=>Eq.symm (nA fun i _=>by rw [h.zero (Nat.zero_le _),Int.zero_mul])
 by_cases g0:q=[]
 ·subst g0
  rw [show (((p.length:Int)==0)||((([]:List I).length:Int)==0))=true by simp,cond_true];refine E6.cast fun k=>Eq.symm (nA fun i _=>?_);rw [g.zero (Nat.zero_le _),Int.mul_zero]
 have h1:0<p.length:=List.length_pos_iff.2 h0;have h2:0<q.length:=List.length_pos_iff.2 g0
 rw [show (((p.length:Int)==0)||((q.length:Int)==0))=false by
  rw [Bool.or_eq_false_iff];exact ⟨beq_eq_false_iff_ne.2 oo_,beq_eq_false_iff_ne.2 oo_⟩,cond_false,pK] at hg ⊢
 have hz:∀ k,p.length+q.length≤k+1→conv c d k=0:=fun k hk=>oC (fun i hi=>h.zero hi) (fun i hi=>g.zero hi) k hk;refine UI (fun k _=>?_) (fun k hk=>hz k oo_) oo_ hg;unfold oH
 show Ix (kA _ _ _ _ _ _).2 _
 refine V3 h g k _ _ _ oo_ oo_ ?_;rw [nA fun i hi=>by rw [g.zero oo_,Int.mul_zero]];exact .of 0
theorem Px.add (hp:Px p c) (hq:Px q d):Px (nR p q) (fun k=>c k+d k):=by
 refine ⟨k25 (zG _ _),fun hg=>?_⟩
 have gp:p.all gdI=true:=by
  cases hc:p.all gdI
  ·rw [UO hp.1 hq.1 (.inl hc),e9] at hg;cases hg
  rfl
 have gq:q.all gdI=true:=by
  cases hc:q.all gdI
  ·rw [UO hp.1 hq.1 (.inr hc),e9] at hg;cases hg
  rfl
 have h:=hp.2 gp;have g:=hq.2 gq;unfold nR at hg ⊢;rw [qG _ h.l3 g.l3,h.g,g.g,Bool.and_true,cond_true] at hg ⊢;have hl:=h.l;have gl:=g.l;refine UI (fun k _=>?_) (fun k hk=>by rw [h.zero oo_,g.zero oo_];rfl) oo_ hg;rw [h.get,g.get];exact NI (by rw [cP,cP];exact Zx.add (.of _) (.of _))
theorem fB_ {x y:I} {u v:Int} (hx:Ix x u) (hy:Ix y v):Px (bQ [x,y]) (lin u v):=by
 refine ⟨k25 (nO _),fun hg=>?_⟩;rw [rD] at hg;have:=OK hg;obtain ⟨e1,b1⟩:=hx.gd (List.all_eq_true.1 this x (by simp));obtain ⟨e2,b2⟩:=hy.gd (List.all_eq_true.1 this y (by simp));rw [e1,e2];exact fA_ b1 b2
theorem fO_ {x:I} {u:Int} (hx:Ix x u):Px (bQ [x]) (lin u 0):=by
 refine ⟨k25 (nO _),fun hg=>?_⟩;rw [rD] at hg;have:=OK hg;obtain ⟨e1,b1⟩:=hx.gd (List.all_eq_true.1 this x (by simp));rw [e1];exact fN_ b1
theorem dr_ {x:I} {D:Int} (hx:Ix x D):∀ k,Ix (pw x k) (D ^ k)
 | 0=>by rw [Int.pow_zero];exact .of 1
 | k+1=>by rw [pw,Int.pow_succ];exact NI (Zx.mul (dr_ hx k) hx)
end
theorem gb_ (c:Nat→Int) (u v W:Int) (L:Nat):∀ t k,t≤k→sb c u v W L t k=0
 | 0,k,_=>rfl
 | t+1,k,h=>by
  show conv (sb c u v W L t) (lin u v) k+lin (c (L - 1 - t)*W ^ t) 0 k=0
  rw [oC (n:=t) (m:=2) (gb_ c u v W L t) (fun i hi=>by unfold lin;rw [if_neg oo_,if_neg oo_]) k oo_];unfold lin;rw [if_neg oo_,ite_self];rfl
theorem X6 (x y:I):(bQ [x,y]).length≤2:=by
 rw [rD];exact OL _
section
variable {p:List I} {c:Nat→Int} {a b:Rt} {N D M F:Int}
theorem WT (h:Po p c) (h7:p.length≤20) (ia:a.Is N D) (ib:b.Is M F) :
  ∀ (f t:Nat) (i:Int) (r:List I),t≤p.length→i=(p.length:Int) - 1 - t→p.length - t<f→r.length≤t→Px r (sb c (N*F) (M*D) (D*F) p.length t) →
  Px (gQ p a b f r i).1 (sb c (N*F) (M*D) (D*F) p.length p.length)
 | 0,t,i,r,_,_,hf,_,_=>absurd hf (Nat.not_lt_zero _)
 | f+1,t,i,r,ht,hi,hf,hrl,hr=>by
  unfold gQ
  by_cases h0:0≤i
  ·rw [decide_eq_true h0,cond_true]
   have htl:t<p.length:=by omega
   have e1:i.toNat=p.length - 1 - t:=by omega
   have e2:p.length - 1 - i.toNat=t:=by omega
   simp only;rw [e2,uV _ _ (show t<max (p.length:Int).toNat 1 by omega),ia.ed,ia.en,ib.ed,ib.en,e1,h.get];have ml:=X6 (E (Z.mul (E (Z.of N)).dec (E (Z.of F)).dec)) (E (Z.mul (E (Z.of M)).dec (E (Z.of D)).dec));have m1:=Px.mul hr (fB_ (x:=E (Z.mul (E (Z.of N)).dec (E (Z.of F)).dec)) (y:=E (Z.mul (E (Z.of M)).dec (E (Z.of D)).dec)) (NI (Zx.mul (Ix.of N) (Ix.of F))) (NI (Zx.mul (Ix.of M) (Ix.of D)))) oo_;have m2:=m1.add (fO_ (x:=E (Z.mul (E (Z.of (c (p.length - 1 - t)))).dec (pw (E (Z.mul (E (Z.of D)).dec (E (Z.of F)).dec)) t).dec)) (u:=c (p.length - 1 - t)*(D*F) ^ t) (NI (Zx.mul (Ix.of _) (dr_ (NI (Zx.mul (Ix.of D) (Ix.of F))) t))));refine WT h h7 ia ib f (t+1) _ _ oo_ oo_ oo_ ?_ m2;have k1:=dc_ hrl ml oo_;refine cx_ (n:=t+1) (Nat.le_trans k1 oo_) ?_ oo_ oo_;rw [rD];exact Nat.le_trans (OL _) (by simp)
  rw [decide_eq_false h0,cond_false]
  have:t=p.length:=by omega
  rw [← this];rw [← this] at hr;exact hr
end
open Go Go.Kn
def shf (d:Nat→Int) (i k:Nat):Int:=if i≤k then d (k - i) else 0
def mM (a o:Int) (d:Nat→Int) (n i:Nat) (r:Nat→Int) (k:Nat):Int:=a*r k - o*r (i+n)*shf d i k
def uF (a o:Int) (d:Nat→Int) (n:Nat):Nat→(Nat→Int)→Nat→Int
 | 0,r=>r
 | m+1,r=>uF a o d n m (mM a o d n m r)
def RemB (a o:Int) (d:Nat→Int) (n:Nat):Nat→(Nat→Int)→Prop
 | 0,r=>∀ k,dR (r k)
 | m+1,r=>(∀ k,dR (r k))∧dR (o*r (m+n))∧(∀ k,dR (a*r k))∧(∀ k,dR (o*r (m+n)*d k))∧RemB a o d n m (mM a o d n m r)
theorem RemB.B {a o:Int} {d:Nat→Int} {n:Nat}:∀ {m:Nat} {r:Nat→Int},RemB a o d n m r→∀ k,dR (r k)
 | 0,_,h=>h
 | _+1,_,h=>h.1
theorem h3_ {u:Int} {b b':Nat} (h:u.natAbs<2 ^ b) (hb:b≤b'):u.natAbs<2 ^ b':=Nat.lt_of_lt_of_le h (Nat.pow_le_pow_right dd_ hb)
section
variable {p q:List I} {c d:Nat→Int} {n:Nat}
theorem NS (g:Po q d) (i k:Nat):eX q ((k:Int) - (i:Int))=E (Z.of (shf d i k)):=by
 unfold shf
 by_cases h:i≤k
 ·rw [if_pos h,show (k:Int) - (i:Int)=((k - i:Nat):Int) by omega,CX,g.get]
 rw [if_neg h];unfold eX;rw [decide_eq_true oo_,Bool.true_or,cond_true];rfl
theorem er_ (g:Po q d) (i k:Nat):dR (shf d i k):=by
 unfold shf;split
 ·exact g.B _
 exact B0
theorem WI (g:Po q d) (hn:q.length=n+1) {r:Nat→Int} {i:Nat} (l:List I) (h1:dR (d n).natAbs) (h2:∀ k,dR (r k)) (h3:dR ((d n).sign*r (i+n))) (h4:∀ k,dR (((d n).natAbs:Int)*r k)) (h5:∀ k,dR ((d n).sign*r (i+n)*d k))
  (h6:∀ k,dR (mM (d n).natAbs (d n).sign d n i r k)):∀ (f k:Nat) (t:List I),l.length - k<f→k≤l.length→t.length=l.length →
  (∀ j,t.getD j I0=E (Z.of (if j<k then mM (d n).natAbs (d n).sign d n i r j else r j))) →
  ∃ t',fG p q (i:Int) l (E (Z.of ((d n).sign*r (i+n)))) f k t = .inl (l.length,t')∧t'.length=l.length∧∀ j,t'.getD j I0=E (Z.of (if j<l.length then mM (d n).natAbs (d n).sign d n i r j else r j))
 | 0,k,t,hf,_,_,_=>absurd hf (Nat.not_lt_zero _)
 | f+1,k,t,hf,hk,ht,hv=>by
  unfold fG
  by_cases hl:k<l.length
  ·rw [decide_eq_true oo_,cond_true]
   have e:=hv k;rw [if_neg (Nat.lt_irrefl k)] at e
   have h5':dR ((d n).sign*r (i+n)*shf d i k):=by
    unfold shf;split
    ·exact h5 _
    rw [Int.mul_zero];exact B0
   have e2:E (Z.sub (Z.mul (Z.abs (q.getD (q.length - 1) I0).dec) (t.getD k I0).dec) (Z.mul (E (Z.of ((d n).sign*r (i+n)))).dec (eX q ((k:Int) - (i:Int))).dec))=E (Z.of (mM (d n).natAbs (d n).sign d n i r k)):=by
    rw [hn,Nat.add_sub_cancel,g.get,e,NS g,cP,cP,cP,cP,UZ (g.B _),pF h1 (h2 k),pF h3 (er_ g i k),PG (h4 k) h5'];rfl
   simp only;rw [e2,kW t k _ oo_,H0 (h6 k),cond_false];refine WI g hn l h1 h2 h3 h4 h5 h6 f (k+1) _ oo_ oo_ (by rw [List.length_set];exact ht) fun j=>?_
   by_cases hj:j=k
   ·subst hj;rw [kW t j _ oo_,if_pos oo_]
   rw [oP t k j _ hj,hv j]
   by_cases hjk:j<k
   ·rw [if_pos hjk,if_pos oo_]
   rw [if_neg hjk,if_neg oo_]
  rw [decide_eq_false oo_,cond_false]
  have:k=l.length:=by omega
  subst this;exact ⟨t,rfl,ht,hv⟩
theorem wW (g:Po q d) (hn:q.length=n+1) {r:Nat→Int} {i L j:Nat} (hz:∀ k,L≤k→r k=0) (hi:i+n<L) (hj:L≤j):mM (d n).natAbs (d n).sign d n i r j=0:=by
 unfold mM
 have e:shf d i j=0:=by
  unfold shf;rw [if_pos oo_];exact g.zero oo_
 rw [hz j hj,e,Int.mul_zero,Int.mul_zero];rfl
theorem gH_ {v:Int} (h:dR v):dR (v.natAbs:Int):=by unfold dR at *;rw [Int.natAbs_natCast];exact h
theorem WH (g:Po q d) (hn:q.length=n+1):∀ (m f:Nat) (i:Int) (l:List I) (r:Nat→Int),i=(m:Int) - 1→m<f→(m≤l.length - n)→(∀ j,l.getD j I0=E (Z.of (r j)))→(∀ k,l.length≤k→r k=0) →
  RemB (d n).natAbs (d n).sign d n m r→∃ i' l',dH p q f i l = .inl (i',l')∧l'.length=l.length∧(∀ j,l'.getD j I0=E (Z.of (uF (d n).natAbs (d n).sign d n m r j)))∧(∀ k,l.length≤k→uF (d n).natAbs (d n).sign d n m r k=0)∧∀ k,dR (uF (d n).natAbs (d n).sign d n m r k)
 | m,0,i,l,r,_,hf,_,_,_,_=>absurd hf (Nat.not_lt_zero _)
 | 0,f+1,i,l,r,hi,hf,hm,hl,hz,hB=>by
  unfold dH;rw [decide_eq_false oo_,cond_false];exact ⟨i,l,rfl,rfl,hl,hz,hB⟩
 | m+1,f+1,i,l,r,hi,hf,hm,hl,hz,hB=>by
  unfold dH;rw [decide_eq_true oo_,cond_true];obtain ⟨b1,b2,b3,b4,b5⟩:=hB
  have e:E (Z.mul (Z.of (Z.signW (q.getD (q.length - 1) I0).dec).1) (l.getD (i.toNat+(q.length - 1)) I0).dec)=E (Z.of ((d n).sign*r (m+n))):=by
   have hs:dR (d n).sign:=by
    rcases Int.lt_trichotomy (d n) 0 with h|h|h
    ·rw [Int.sign_eq_neg_one_of_neg h];decide
    ·rw [h];decide
    rw [Int.sign_eq_one_of_pos h];decide
   rw [hn,Nat.add_sub_cancel,g.get,hl,cP,cP,lW (g.B n),show i.toNat=m by omega,pF hs (b1 _)]
  obtain ⟨t,h1,h2,h3⟩:=WI (p:=p) g hn (i:=m) l (gH_ (g.B n)) b1 b2 b3 b4 b5.B (l.length+1) 0 l oo_ (Nat.zero_le _) O (fun j=>by rw [if_neg (Nat.not_lt_zero _)];exact hl j);simp only;rw [e,show i=(m:Int) by omega,h1]
  have k1:∀ j,t.getD j I0=E (Z.of (mM (d n).natAbs (d n).sign d n m r j)):=fun j=>by
   rw [h3 j]
   split
   ·rfl
   rw [hz j oo_,wW g hn hz oo_ oo_]
  obtain ⟨i',l',a1,a2,a3,a4,a5⟩:=WH g hn m f ((m:Int) - 1) t _ O oo_ oo_ k1 (fun k hk=>wW g hn hz oo_ oo_) b5;exact ⟨i',l',a1,a2.trans h2,a3,fun k hk=>a4 k oo_,a5⟩
theorem ZD (h:Po p c) (g:Po q d) (hn:q.length=n+1) (hB:RemB (d n).natAbs (d n).sign d n (p.length - n) c):Po (bN p q) (uF (d n).natAbs (d n).sign d n (p.length - n) c):=by
 unfold bN;rw [h.nb,g.nb,show ((q.length:Int)==0)=false from beq_eq_false_iff_ne.2 oo_,Bool.false_or,Bool.false_or,cond_false,List.nil_append,hn];have hl:=h.l
 have go:∀ i:Int,i=(p.length:Int) - 1 - (((n+1:Nat):Int) - 1)→∃ i' l',dH p q (p.length+1) i p = .inl (i',l')∧l'.length=p.length∧(∀ j,l'.getD j I0=E (Z.of (uF (d n).natAbs (d n).sign d n (p.length - n) c j)))∧(∀ k,p.length≤k→uF (d n).natAbs (d n).sign d n (p.length - n) c k=0)∧∀ k,dR (uF (d n).natAbs (d n).sign d n (p.length - n) c k):=fun i hi=>by
  by_cases hs:n≤p.length
  ·exact WH g hn (p.length - n) (p.length+1) i p c oo_ oo_ (Nat.le_refl _) h.get (fun k hk=>h.zero hk) hB
  have e0:p.length - n=0:=by omega
  rw [e0] at hB ⊢;unfold dH;rw [decide_eq_false oo_,cond_false];exact ⟨i,p,rfl,rfl,h.get,fun k hk=>h.zero hk,h.B⟩
 obtain ⟨i',l',a1,a2,a3,a4,a5⟩:=go _ O;rw [a1]
 show Po (bQ l') _
 rw [rD];exact DA a3 a5 fun k hk=>a4 k oo_
end
open Go Go.Kn
theorem y8 (d:Nat→Int) (m k:Nat):conv d (fun i=>if i=m then 1 else 0) k=shf d m k:=by
 rw [uS];unfold conv shf
 by_cases h:m≤k
 ·rw [if_pos h,KB (a:=m) (fun i hi=>?_) oo_]
  ·show (if m=m then 1 else 0)*d (k - m)=_
   rw [if_pos O,Int.one_mul]
  show (if i=m then 1 else 0)*d (k - i)=_
  rw [if_neg hi,Int.zero_mul]
 rw [if_neg h];refine nA fun i hi=>?_
 show (if i=m then 1 else 0)*d (k - i)=_
 rw [if_neg oo_,Int.zero_mul]
theorem TD (d S:Nat→Int) (m k:Nat) (hS:∀ i,m<i→S i=0):conv d S k=conv d (fun i=>if i<m then S i else 0) k+S m*shf d m k:=by
 have e:conv d (fun i=>S m*(if i=m then 1 else 0)) k=S m*shf d m k:=by rw [← y8,tN]
 rw [← e]
 rw [show conv d S=fun k=>conv d (fun i=>if i<m then S i else 0) k+conv d (fun i=>S m*(if i=m then 1 else 0)) k by
  rw [← DY]
  congr 1
  funext i
  rcases Nat.lt_trichotomy i m with h|h|h
  ·rw [if_pos h,if_neg oo_,Int.mul_zero,Int.add_zero]
  ·rw [if_neg oo_,if_pos h,h,Int.mul_one,Int.zero_add]
  rw [if_neg oo_,if_neg oo_,hS i h,Int.mul_zero];rfl]
theorem JR (v:Int):v.sign*v=(v.natAbs:Int):=by
 rcases Int.lt_trichotomy v 0 with h|h|h
 ·rw [Int.sign_eq_neg_one_of_neg h];omega
 ·subst h;rfl
 rw [Int.sign_eq_one_of_pos h];omega
theorem SB (v:Int):v.sign.natAbs≤1:=by
 rcases Int.lt_trichotomy v 0 with h|h|h
 ·rw [Int.sign_eq_neg_one_of_neg h];decide
 ·subst h;decide
 rw [Int.sign_eq_one_of_pos h];decide
end Go.Num
