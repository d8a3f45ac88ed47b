/- Lemmas: what they ask stands in their statements. -/
import Derived.Test.YtbjlhfochebmiaaGreatDoorXQc
set_option linter.unusedSimpArgs false
set_option linter.unusedVariables false

namespace Go.Num
open Go Go.Kn
structure Az (q:Rat) (a b:Nat):Prop where
  n:q.num.natAbs<2 ^ a
  d:q.den<2 ^ b
theorem Sz.az {q:Rat} {k:Nat} (h:Sz q k):Az q k k:=⟨h.n,h.d⟩
theorem Az.sz {q:Rat} {a b k:Nat} (h:Az q a b) (h1:a≤k) (h2:b≤k):Sz q k:=⟨Nat.lt_of_lt_of_le h.n (qS h1),Nat.lt_of_lt_of_le h.d (qS h2)⟩
section
variable {p q:Rat} {a b a' b':Nat}
theorem Az.mono (h:Az q a b) (h1:a≤a') (h2:b≤b'):Az q a' b':=⟨Nat.lt_of_lt_of_le h.n (qS h1),Nat.lt_of_lt_of_le h.d (qS h2)⟩
theorem Az.bn (h:Az q a b) (hk:a≤512):dF q.num:=oN h.n hk
theorem Az.bd (h:Az q a b) (hk:b≤512):dF (q.den:Int):=oN (by simpa using h.d) hk
theorem NR {q:Rat} {n d:Int} (h:(n:Rat)=(d:Rat) * q):q.num * d=n * q.den:=by
  have h1:=Rat.num_divInt_den q;have hd:=@pS q
  by_cases h0:d=0
  · subst h0
    have:n=0:=Rat.intCast_eq_zero_iff.1 (by rw [h];exact Rat.zero_mul _);rw [this];omega
  have e:q=Rat.divInt n d:=by
    rw [Rat.divInt_eq_div,h,Rat.div_def,Rat.mul_comm,← Rat.mul_assoc,Rat.inv_mul_cancel _ (fun e=>h0 (Rat.intCast_eq_zero_iff.1 e)),Rat.one_mul]
  rw [e] at h1
  conv at h1=>lhs;rw [← e]
  exact (Rat.divInt_eq_divInt_iff oo_ h0).1 h1
theorem MX {n d:Int} (h:(n:Rat)=(d:Rat) * q) (h0:0<d) (hn:n.natAbs<2 ^ a) (hd:d.natAbs<2 ^ b):Az q a b:=by
  have e:=congrArg Int.natAbs (NR h);rw [Int.natAbs_mul,Int.natAbs_mul,Int.natAbs_natCast] at e;have hr:=q.reduced;have k1:q.den ∣ d.natAbs:=(Nat.Coprime.symm hr).dvd_of_dvd_mul_left (by rw [e];exact Nat.dvd_mul_left ..);have k2:q.num.natAbs ∣ n.natAbs:=Nat.Coprime.dvd_of_dvd_mul_right hr (by rw [← e];exact Nat.dvd_mul_right ..);refine ⟨?_,Nat.lt_of_le_of_lt (Nat.le_of_dvd oo_ k1) hd⟩
  by_cases hz:n.natAbs=0
  · rw [hz,Nat.zero_mul] at e
    rcases Nat.mul_eq_zero.1 e with h1 | h1
    · rw [h1];exact Nat.pow_pos dd_
    omega
  exact Nat.lt_of_le_of_lt (Nat.le_of_dvd oo_ k2) hn
theorem Az.mul (h:Az p a b) (g:Az q a' b'):Az (p * q) (a+a') (b+b'):=by
  constructor
  · rw [Rat.num_mul]
    refine Nat.lt_of_le_of_lt (Int.natAbs_ediv_le_natAbs _ _) ?_;rw [Int.natAbs_mul];exact kZ h.n g.n
  rw [Rat.den_mul];exact Nat.lt_of_le_of_lt (Nat.div_le_self _ _) (kZ h.d g.d)
theorem Az.neg (h:Az p a b):Az (-p) a b:=⟨by rw [Rat.neg_num,Int.natAbs_neg];exact h.n,h.d⟩
theorem H7 {n m:Int} {d e c:Nat} (h1:n.natAbs<2 ^ a) (h2:e<2 ^ b') (h3:m.natAbs<2 ^ a') (h4:d<2 ^ b) (k1:a+b'<c) (k2:a'+b<c):(n * e+m * d).natAbs<2 ^ c:=by
  obtain ⟨c,rfl⟩:∃ k,c=k+1:=⟨c - 1,by omega⟩;have x:=Nat.lt_of_lt_of_le (kZ h1 h2) (qS (show a+b'≤c by omega));have y:=Nat.lt_of_lt_of_le (kZ h3 h4) (qS (show a'+b≤c by omega));have z:=Int.natAbs_add_le (n * e) (m * d);rw [Int.natAbs_mul,Int.natAbs_mul,Int.natAbs_natCast,Int.natAbs_natCast] at z;rw [Nat.pow_succ];omega
theorem Az.add {c:Nat} (h:Az p a b) (g:Az q a' b') (k1:a+b'<c) (k2:a'+b<c):Az (p+q) c (b+b'):=by
  constructor
  · rw [Rat.num_add]
    exact Nat.lt_of_le_of_lt (Int.natAbs_ediv_le_natAbs _ _) (H7 h.n g.d g.n h.d k1 k2)
  rw [Rat.den_add];exact Nat.lt_of_le_of_lt (Nat.div_le_self _ _) (kZ h.d g.d)
theorem Az.sub {c:Nat} (h:Az p a b) (g:Az q a' b') (k1:a+b'<c) (k2:a'+b<c):Az (p - q) c (b+b'):=by rw [Rat.sub_eq_add_neg];exact h.add g.neg k1 k2
theorem Az.inv (h:Az p a b) (h0:p≠0):Az p⁻¹ b a:=by
  have hn:p.num≠0:=fun h=>h0 (Rat.num_eq_zero.1 h)
  constructor
  · rw [Rat.num_inv,Int.natAbs_mul,Int.natAbs_sign_of_ne_zero hn,Nat.one_mul,Int.natAbs_natCast];exact h.d
  rw [Rat.den_inv,if_neg hn];exact h.n
theorem Az.div (h:Az p a b) (g:Az q a' b') (h0:q≠0):Az (p / q) (a+b') (b+a'):=by rw [Rat.div_def];exact h.mul (g.inv h0)
theorem Az.int {n:Int} (h:n.natAbs<2 ^ a):Az (n:Rat) a 1:=⟨h,(by show 1<2 ^ 1;decide)⟩
theorem X2 {x y:Rt} (hx:x.At p) (hy:y.At q) (hp:Az p a b) (hq:Az q a' b') (h:a+a'≤512) (h':b+b'≤512):(jL x y).At (p * q) :=
  X1 hx hy ((hp.mul hq).bn h) ((hp.mul hq).bd h')
theorem KN {x' y':Rt} (ha:x'.At p) (hb:y'.At q) (hp:Az p a b) (hq:Az q a' b') (h1:a+b'<512) (h2:a'+b<512) (h3:b+b'≤512):(eH x' y').At (p+q):=by
  unfold eH;rw [sM ha,sM hb];simp only [Bool.not_true,Bool.or_false,cond_false];have ia:=At.is ha;have ib:=At.is hb;rw [ia.en,ia.ed,ib.en,ib.ed];simp only [dB];have hdp:=@pS p;have hdq:=@pS q
  have hg:0<((Int.gcd (p.den:Int) (q.den:Int):Nat):Int):=by
    have:=Int.gcd_pos_of_ne_zero_right (p.den:Int) (show (q.den:Int)≠0 by omega);omega
  have hbg:=IP (u:=(p.den:Int)) ib.hd oo_;have g1:((Int.gcd (p.den:Int) (q.den:Int):Nat):Int) ∣ (p.den:Int):=Int.gcd_dvd_left ..;have g2:((Int.gcd (p.den:Int) (q.den:Int):Nat):Int) ∣ (q.den:Int):=Int.gcd_dvd_right ..;rw [yS ia.hd ib.hd,xP ib.hd hbg hg,xP ia.hd hbg hg];generalize ((Int.gcd (p.den:Int) (q.den:Int):Nat):Int)=G at *;obtain ⟨x,hx⟩:=g1;obtain ⟨y,hy⟩:=g2
  have q1:(p.den:Int) / G=x:=by rw [hx];exact Int.mul_ediv_cancel_left _ oo_
  have q2:(q.den:Int) / G=y:=by rw [hy];exact Int.mul_ediv_cancel_left _ oo_
  rw [q1,q2]
  have x0:0<x:=by rw [hx] at hdp;exact Int.pos_of_mul_pos_right hdp hg
  have y0:0<y:=by rw [hy] at hdq;exact Int.pos_of_mul_pos_right hdq hg
  have xl:x≤p.den:=by rw [hx];have:=Int.mul_le_mul_of_nonneg_right (show (1:Int)≤G by omega) (Int.le_of_lt x0);omega
  have yl:y≤q.den:=by rw [hy];have:=Int.mul_le_mul_of_nonneg_right (show (1:Int)≤G by omega) (Int.le_of_lt y0);omega
  have x1:x.toNat<2 ^ b:=Nat.lt_of_le_of_lt oo_ hp.d;have y1:y.toNat<2 ^ b':=Nat.lt_of_le_of_lt oo_ hq.d
  have xe:x=(x.toNat:Int):=by omega
  have ye:y=(y.toNat:Int):=by omega
  have bx:dF x:=oN (k:=b) (by rw [xe,Int.natAbs_natCast];exact x1) oo_
  have by':dF y:=oN (k:=b') (by rw [ye,Int.natAbs_natCast];exact y1) oo_
  rw [n7 ia.hn by',n7 ib.hn bx,n7 bx ib.hd]
  have t1:(p.num * y).natAbs<2 ^ (a+b'):=by rw [Int.natAbs_mul];exact kZ hp.n oo_
  have t2:(q.num * x).natAbs<2 ^ (a'+b):=by rw [Int.natAbs_mul];exact kZ hq.n oo_
  have t3:(x * (q.den:Int)).natAbs<2 ^ (b+b'):=by rw [Int.natAbs_mul];exact kZ oo_ (by simpa using hq.d)
  rw [z9 (oN t1 oo_) (oN t2 oo_)]
  have t4:(p.num * y+q.num * x).natAbs<2 ^ (max (a+b') (a'+b)+1):=by
    have u1:=Nat.lt_of_lt_of_le t1 (qS (show a+b'≤max (a+b') (a'+b) by omega));have u2:=Nat.lt_of_lt_of_le t2 (qS (show a'+b≤max (a+b') (a'+b) by omega));rw [Nat.pow_succ];omega
  refine sP (oN t4 oo_) (oN t3 h3) (Int.mul_pos x0 hdq) ?_
  have key:p+q=Rat.divInt (p.num * y+q.num * x) (x * q.den):=by
    conv=>lhs;rw [← Rat.num_divInt_den p,← Rat.num_divInt_den q,Rat.divInt_add_divInt _ _ oo_ oo_]
    refine (Rat.divInt_eq_divInt_iff (Int.mul_ne_zero oo_ oo_) (Int.mul_ne_zero oo_ oo_)).2 ?_;rw [hx,hy];grind
  have h3:=Rat.num_divInt_den (p+q);rw [key] at h3 ⊢;have h4:=(Rat.divInt_eq_divInt_iff (by have:=@pS (Rat.divInt (p.num * y+q.num * x) (x * q.den));omega) (Int.mul_ne_zero oo_ oo_)).1 h3;exact h4
end
end Go.Num


namespace Go.Num
open Go Go.Kn
def shf (d:Nat→Int) (i k:Nat):Int:=if i≤k then d (k - i) else 0
def cg_ (a o:Int) (d:Nat→Int) (n i:Nat) (r:Nat→Int) (k:Nat):Int:=a * r k - o * r (i+n) * shf d i k
def RemB (a o:Int) (d:Nat→Int) (n:Nat):Nat→(Nat→Int)→Prop
  | 0,r=>∀ k,dF (r k)
  | m+1,r=>(∀ k,dF (r k))∧dF (o * r (m+n))∧(∀ k,dF (a * r k))∧(∀ k,dF (o * r (m+n) * d k))∧RemB a o d n m (cg_ a o d n m r)
theorem RemB.B {a o:Int} {d:Nat→Int} {n:Nat}:∀ {m:Nat} {r:Nat→Int},RemB a o d n m r→∀ k,dF (r k)
  | 0,_,h=>h
  | _+1,_,h=>h.1
theorem cQ_ {u:Int} {b b':Nat} (h:u.natAbs<2 ^ b) (hb:b≤b'):u.natAbs<2 ^ b':=Nat.lt_of_lt_of_le h (Nat.pow_le_pow_right dd_ hb)
section
variable {p q:List I} {c d:Nat→Int} {n:Nat}
end
end Go.Num


namespace Go.Num
open Go Go.Kn
def ff (i:Int):Nat→Int
  | 0=>1
  | k+1=>ff i k * (i - k)
def fac:Nat→Int
  | 0=>1
  | n+1=>fac n * ((n+1:Nat):Int)
def wt (n i k:Nat):Int:=ff i k * fac (n - k)
def bs (γ:Nat→Int) (n i:Nat):Int:=i1 (fun k=>wt n i k * γ k) (i+1)
section
variable {p:List I} {a b:Rt} {γ:Nat→Int} {n B:Nat}
end
end Go.Num


namespace Go.Num
open Go Go.Kn
def e26 (c:Nat→Int) (y:Rat):Rat:=vl (cR c) y 26
section
variable {c d:Nat→Int} {n m b b':Nat}
theorem FG (h:Bd c n b) (hn:n≤26) (y:Rat):vl (cR c) y n=e26 c y:=(H1 (fun i hi=>by unfold cR;rw [h.z i hi];rfl) hn).symm
theorem pZ (c d:Nat→Int) (y:Rat):e26 (fun k=>c k+d k) y=e26 c y+e26 d y:=by
  unfold e26;rw [← a2_]
  congr 1
  funext i
  exact Rat.intCast_add _ _
theorem uA (c:Nat→Int) (a:Int) (y:Rat):e26 (fun k=>c k * a) y=e26 c y * (a:Rat):=by
  unfold e26;rw [Rat.mul_comm,← a4_]
  congr 1
  funext i
  show ((c i * a:Int):Rat)=(a:Rat) * ((c i:Int):Rat)
  rw [Rat.intCast_mul,Rat.mul_comm]
theorem U8 (c d:Nat→Int) (y:Rat):e26 (fun k=>c k - d k) y=e26 c y - e26 d y:=by
  have:=pZ (fun k=>c k - d k) d y;simp only [Int.sub_add_cancel] at this
  grind
theorem mW (hc:Bd c n b) (hd:Bd d m b') (h:n+m≤26) (y:Rat):e26 (conv c d) y=e26 c y * e26 d y:=by
  rw [← FG hc oo_,← FG hd oo_];unfold e26;rw [OR,WS (n:=n) (m:=m) (fun i hi=>by unfold cR;rw [hc.z i hi];rfl) (fun i hi=>by unfold cR;rw [hd.z i hi];rfl) h]
theorem rC (u v:Int) (y:Rat):e26 (lin u v) y=(u:Rat)+(v:Rat) * y:=a3_ u v y dd_
end
theorem WA {A B C D:Nat→Int} (hA:Bd A 2 8) (hB:Bd B 2 8) (hC:Bd C 2 8) (hD:Bd D 2 8) (y:Rat):e26 (scC A B C D) y=e26 A y * e26 A y+e26 B y * e26 B y+(e26 C y * e26 C y+e26 D y * e26 D y):=by
  show e26 (fun k=>(fun k=>conv A A k+conv B B k) k+(fun k=>conv C C k+conv D D k) k) y=_
  rw [pZ,pZ,pZ,mW hA hA dd_,mW hB hB dd_,mW hC hC dd_,mW hD hD dd_]
theorem C7 (a:Int):0≤a * a:=by rw [← Int.natAbs_mul_self];exact Int.natCast_nonneg _
theorem B8 {a:Int} (h:a≠0):1≤a * a:=by
  have:=C7 a;have:a * a≠0:=Int.mul_ne_zero h h;omega
theorem sq4 {a b c d:Int} (h:¬ (a=0∧b=0∧c=0∧d=0)):1≤a * a+b * b+c * c+d * d:=by
  have h1:=C7 a;have h2:=C7 b;have h3:=C7 c;have h4:=C7 d
  by_cases ha:a=0
  · by_cases hb:b=0
    · by_cases hc:c=0
      · have:=B8 fun hd=>h ⟨ha,hb,hc,hd⟩
        omega
      have:=B8 hc;omega
    have:=B8 hb;omega
  have:=B8 ha;omega
theorem VH {P R T y:Rat} (hP:1≤P) (hT:1≤T) (hR:0≤R) (y0:0≤y) (y1:y≤1):0<(1 - y) * (1 - y) * P+2 * (y * (1 - y) * R)+y * y * T:=by
  have k1:0≤1 - y:=by grind
  have k2:=Rat.mul_nonneg (Rat.mul_nonneg k1 k1) (show (0:Rat)≤P by grind);have k3:=Rat.mul_nonneg (Rat.mul_nonneg y0 k1) hR;have k4:=Rat.mul_nonneg (Rat.mul_nonneg y0 y0) (show (0:Rat)≤T by grind)
  by_cases h:y=0
  · subst h;grind
  have yp:0<y:=by grind
  have:=Rat.mul_pos (Rat.mul_pos yp yp) (show (0:Rat)<T by grind)
  grind
theorem TX {s x y z t u v w r:Int} (h0:¬ (x=0∧y=0∧z=0∧t=0)) (h1:¬ (u=0∧v=0∧w=0∧r=0)) (hs:s=if x * u+y * v+z * w+t * r<0 then -1 else 1) {q:Rat} (q0:0≤q) (q1:q≤1) :
    0<((x:Rat)+((s * u - x:Int):Rat) * q) * ((x:Rat)+((s * u - x:Int):Rat) * q)+((y:Rat)+((s * v - y:Int):Rat) * q) * ((y:Rat)+((s * v - y:Int):Rat) * q)+(((z:Rat)+((s * w - z:Int):Rat) * q) * ((z:Rat)+((s * w - z:Int):Rat) * q)+((t:Rat)+((s * r - t:Int):Rat) * q) * ((t:Rat)+((s * r - t:Int):Rat) * q)):=by
  have p0:=Rat.intCast_le_intCast.2 (sq4 h0);have p1:=Rat.intCast_le_intCast.2 (sq4 h1)
  have hr:0≤s * (x * u+y * v+z * w+t * r):=by
    rw [hs];split <;> omega
  have hss:s * s=1:=by rw [hs];split <;> rfl
  have p2:=Rat.intCast_le_intCast.2 hr;have p3:=congrArg (fun t:Int=>(t:Rat)) hss;have L:=VH p0 p1 p2 q0 q1;simp only [Rat.intCast_add,Rat.intCast_mul,Rat.intCast_sub] at L p3 ⊢;rw [show (((1:Int)):Rat)=1 from rfl] at p3;generalize (s:Rat)=S at *;generalize (x:Rat)=a1 at *;generalize (y:Rat)=a2 at *;generalize (z:Rat)=a3 at *;generalize (t:Rat)=a4 at *;generalize (u:Rat)=b1 at *;generalize (v:Rat)=b2 at *;generalize (w:Rat)=b3 at *;generalize (r:Rat)=b4 at *;refine Rat.not_le.1 fun h=>Rat.not_le.2 L ?_
  have e:∀ {m n:Rat},(m+(S * n - m) * q) * (m+(S * n - m) * q)=(1 - q) * (1 - q) * (m * m)+2 * (q * (1 - q) * (S * (m * n)))+q * q * (n * n):=fun {m n}=>by
    have:(S * n) * (S * n)=n * n:=by rw [show (S * n) * (S * n)=(S * S) * (n * n) by grind,p3,Rat.one_mul]
    grind
  rw [e,e,e,e] at h
  grind
structure Clm (h:Path) (v:A3 W) (X Y Z S:Nat→Int):Prop where
  s:PB (aQ h v).2 S 3 22
  x:PB (aQ h v).1.x X 4 49
  y:PB (aQ h v).1.y Y 4 49
  z:PB (aQ h v).1.z Z 4 49
  pos:∀ t:Rat,0≤t→t≤1→0<e26 S t
end Go.Num


namespace Go.Num
open Go Go.Kn
theorem YV {a b a' b':Nat} {p q:Rat} {x y:Rt} (hx:x.At p) (hy:y.At q) (h0:q≠0) (hp:Az p a b) (hq:Az q a' b') (h:a+b'≤512) (h':b+a'≤512):(gZ x y).At (p / q):=by
  unfold gZ;rw [oR,sM hy,Rat.div_def,y8,X5];exact X2 hx (X0 hy h0) hp (hq.inv h0) h h'
theorem YL (h:Path) (v:A3 W) (t:Rt):eL h v t=⟨gZ (dP (aQ h v).1.x t) (dP (aQ h v).2 t),gZ (dP (aQ h v).1.y t) (dP (aQ h v).2 t),gZ (dP (aQ h v).1.z t) (dP (aQ h v).2 t)⟩:=rfl
def rqn (a b c d:Rat):Rat:=a * a+b * b+(c * c+d * d)
def rqx (a b c d x y z:Rat):Rat:=(a * a+b * b - (c * c+d * d)) * x+(b * c+a * d * -1) * 2 * y+(b * d+a * c * 1) * 2 * z
def rqy (a b c d x y z:Rat):Rat:=(b * c+a * d * 1) * 2 * x+(a * a+c * c - (b * b+d * d)) * y+(c * d+a * b * -1) * 2 * z
def rqz (a b c d x y z:Rat):Rat:=(b * d+a * c * -1) * 2 * x+(c * d+a * b * 1) * 2 * y+(a * a+d * d - (b * b+c * c)) * z
theorem cf_ {s a b c d x y z:Rat} (h:s * s=1):rqn (s * a) (s * b) (s * c) (s * d)=rqn a b c d∧rqx (s * a) (s * b) (s * c) (s * d) x y z=rqx a b c d x y z∧rqy (s * a) (s * b) (s * c) (s * d) x y z=rqy a b c d x y z∧rqz (s * a) (s * b) (s * c) (s * d) x y z=rqz a b c d x y z:=by
  have e:∀ {m n:Rat},(s * m) * (s * n)=m * n:=fun {m n}=>by rw [show (s * m) * (s * n)=(s * s) * (m * n) by grind,h,Rat.one_mul]
  unfold rqn rqx rqy rqz;simp only [e,and_self]
section
variable {A B C D:Nat→Int}
theorem GK (hA:Bd A 2 8) (hB:Bd B 2 8) (hC:Bd C 2 8) (hD:Bd D 2 8) (y:Rat):e26 (dgC A B C D) y=e26 A y * e26 A y+e26 B y * e26 B y - (e26 C y * e26 C y+e26 D y * e26 D y):=by
  show e26 (fun k=>(fun k=>conv A A k+conv B B k) k - (fun k=>conv C C k+conv D D k) k) y=_
  rw [U8,pZ,pZ,mW hA hA dd_,mW hB hB dd_,mW hC hC dd_,mW hD hD dd_]
theorem xV (hA:Bd A 2 8) (hB:Bd B 2 8) (hC:Bd C 2 8) (hD:Bd D 2 8) (s:Int) (y:Rat):e26 (twC A B C D s) y=(e26 A y * e26 B y+e26 C y * e26 D y * (s:Rat)) * 2:=by
  show e26 (fun k=>(fun k=>(fun k=>conv A B k) k+(fun k=>conv C D k * s) k) k * 2) y=_
  rw [uA,pZ,uA,mW hA hB dd_,mW hC hD dd_];rfl
end
theorem HA {S X M0 M1 M2:Nat→Int} {v:A3 W} {n m f g:Nat} (hs:Bd S n f) (hx:Bd X m g) (hn:n+m≤26) (y:Rat):e26 (nuC S X M0 M1 M2 v) y=e26 S y * e26 X y+e26 M0 y * (v.x.1:Rat)+e26 M1 y * (v.y.1:Rat)+e26 M2 y * (v.z.1:Rat):=by
  show e26 (fun k=>(fun k=>(fun k=>(fun k=>conv S X k) k+(fun k=>M0 k * v.x.1) k) k+(fun k=>M1 k * v.y.1) k) k+(fun k=>M2 k * v.z.1) k) y=_
  rw [pZ,pZ,pZ,uA,uA,uA,mW hs hx hn]
def tL (s u w:Int) (q:Rat):Rat:=(u:Rat)+((s * w - u:Int):Rat) * q
structure Pq (s:Int) (h:Path) (q a b c d:Rat):Prop where
  a:a=tL s h.from_.q.x.1 h.to_.q.x.1 q
  b:b=tL s h.from_.q.y.1 h.to_.q.y.1 q
  c:c=tL s h.from_.q.z.1 h.to_.q.z.1 q
  d:d=tL s h.from_.q.t.1 h.to_.q.t.1 q
structure Pv (a:A3 Rt) (x y z:Rat):Prop where
  x:a.x.At x
  y:a.y.At y
  z:a.z.At z
structure Pz (x y z:Rat):Prop where
  x:Az x 153 99
  y:Az y 153 99
  z:Az z 153 99
theorem Pv.eq {a b:A3 Rt} {x y z u v w:Rat} (h:Pv a x y z) (k:Pv b u v w) (e1:x=u) (e2:y=v) (e3:z=w):a=b:=by
  subst e1;subst e2;subst e3;have e1:=KP h.x k.x;have e2:=KP h.y k.y;have e3:=KP h.z k.z
  cases a;cases b
  simp only at e1 e2 e3;rw [e1,e2,e3]
theorem K0 {n s:List I} {X S:Nat→Int} {t:Rt} {q:Rat} (hn:PB n X 4 76) (hs:PB s S 3 22) (ht:t.At q) (sq:Sz q 12) (pos:0<e26 S q):(gZ (dP n t) (dP s t)).At (e26 X q / e26 S q)∧Az (e26 X q / e26 S q) 153 99:=by
  have dd:((q.den:Int)).natAbs<2 ^ 12:=by rw [Int.natAbs_natCast];exact sq.d
  have hx:=@KY q;have dp:(0:Int)<q.den:=pS;have tS:=LR (c:=S) (L:=3) hx dp;have tX:=LR (c:=X) (L:=4) hx dp;rw [FG hs.bd dd_,show 3 - 1=2 from rfl] at tS;rw [FG hn.bd dd_,show 4 - 1=3 from rfl] at tX;have lS:=I1 (c:=S) (N:=q.num) (D:=q.den) (L:=3) hs.bd.b sq.n dd 3;have lX:=I1 (c:=X) (N:=q.num) (D:=q.den) (L:=4) hn.bd.b sq.n dd 4
  have hs0:e26 S q≠0:=by grind
  have vX:=MY (e:=2) hn.po hn.bd ht sq dd_ dd_;have vS:=MY (e:=2) hs.po hs.bd ht sq dd_ dd_;rw [FG hn.bd dd_] at vX;rw [FG hs.bd dd_] at vS
  have zX:Az (e26 X q) 128 37:=MX (n:=Go.Num.hv X q.num q.den 4 4) (d:=(q.den:Int) ^ 3) (by rw [tX,Rat.intCast_pow]) (Int.pow_pos dp) (Nat.lt_of_le_of_lt lX dd_) (by
    rw [Int.natAbs_pow]
    exact Nat.lt_of_lt_of_le (Nat.pow_lt_pow_left dd dd_) dd_)
  have zS:Az (e26 S q) 62 25:=MX (n:=Go.Num.hv S q.num q.den 3 3) (d:=(q.den:Int) ^ 2) (by rw [tS,Rat.intCast_pow]) (Int.pow_pos dp) (Nat.lt_of_le_of_lt lS dd_) (by
    rw [Int.natAbs_pow]
    exact Nat.lt_of_lt_of_le (Nat.pow_lt_pow_left dd dd_) dd_)
  exact ⟨YV vX vS hs0 zX zS dd_ dd_,zX.div zS hs0⟩
theorem DI {h:Path} (hh:Hv h) {v:A3 W} (hv:Vin v) {t:Rt} {q:Rat} (ht:t.At q) (sq:Sz q 12) (q0:0≤q) (q1:q≤1):∃ a b c d,Pq (yA h) h q a b c d∧0<rqn a b c d ∧
    Pv (eL h v t) (tL 1 h.from_.x.x.1 h.to_.x.x.1 q+rqx a b c d v.x.1 v.y.1 v.z.1 / rqn a b c d) (tL 1 h.from_.x.y.1 h.to_.x.y.1 q+rqy a b c d v.x.1 v.y.1 v.z.1 / rqn a b c d) (tL 1 h.from_.x.z.1 h.to_.x.z.1 q+rqz a b c d v.x.1 v.y.1 v.z.1 / rqn a b c d) ∧
    Pz (tL 1 h.from_.x.x.1 h.to_.x.x.1 q+rqx a b c d v.x.1 v.y.1 v.z.1 / rqn a b c d) (tL 1 h.from_.x.y.1 h.to_.x.y.1 q+rqy a b c d v.x.1 v.y.1 v.z.1 / rqn a b c d) (tL 1 h.from_.x.z.1 h.to_.x.z.1 q+rqz a b c d v.x.1 v.y.1 v.z.1 / rqn a b c d):=by
  obtain ⟨A,B,C,D,hA,hB,hC,hD,hx⟩:=H6 hh hv;have tx:=hx.a;have ty:=hx.b;have tz:=hx.c;have tt:=hx.d;have sc:=WA tx.bd ty.bd tz.bd tt.bd q
  have es:yA h=if h.from_.q.x.1 * h.to_.q.x.1+h.from_.q.y.1 * h.to_.q.y.1+h.from_.q.z.1 * h.to_.q.z.1+h.from_.q.t.1 * h.to_.q.t.1<0 then -1 else 1:=rfl
  have pos:0<e26 (scC A B C D) q:=by
    rw [sc,hA,hB,hC,hD,rC,rC,rC,rC];exact TX hh.fq.2 hh.tq.2 es q0 q1
  have lb:∀ {u w:Int},u.natAbs<2 ^ 47→w.natAbs<2 ^ 47→Bd (lin u (w - u)) 2 49:=fun hu hw=>SA oo_ oo_
  have hs2:PB (aQ h v).2 (scC A B C D) 3 22:=by rw [hx.s2];exact hx.s
  obtain ⟨d1,z1⟩:=K0 hx.x hs2 ht sq pos;obtain ⟨d2,z2⟩:=K0 hx.y hs2 ht sq pos;obtain ⟨d3,z3⟩:=K0 hx.z hs2 ht sq pos;rw [HA hx.s.bd (lb hh.fx.1 hh.tx.1) dd_,GK tx.bd ty.bd tz.bd tt.bd,xV ty.bd tz.bd tx.bd tt.bd,xV ty.bd tt.bd tx.bd tz.bd] at d1 z1;rw [HA hx.s.bd (lb hh.fx.2.1 hh.tx.2.1) dd_,GK tx.bd tz.bd ty.bd tt.bd,xV ty.bd tz.bd tx.bd tt.bd,xV tz.bd tt.bd tx.bd ty.bd] at d2 z2;rw [HA hx.s.bd (lb hh.fx.2.2 hh.tx.2.2) dd_,GK tx.bd tt.bd ty.bd tz.bd,xV ty.bd tt.bd tx.bd tz.bd,xV tz.bd tt.bd tx.bd ty.bd] at d3 z3;rw [rC] at d1 d2 d3 z1 z2 z3
  have hs0:e26 (scC A B C D) q≠0:=by grind
  have eS:e26 (scC A B C D) q=rqn (e26 A q) (e26 B q) (e26 C q) (e26 D q):=sc;rw [eS] at d1 d2 d3 z1 z2 z3 hs0 pos
  have fr:∀ {n x r:Rat},n≠0→(n * x+r) / n=x+r / n:=fun {n x r} h=>by
    have e1:r / n * n=r:=Rat.div_mul_cancel h;have e2:(n * x+r) / n * n=n * x+r:=Rat.div_mul_cancel h
    have:((n * x+r) / n - (x+r / n)) * n=0:=by grind
    rcases Rat.mul_eq_zero.1 this with k | k
    · grind
    exact absurd k h
  have asc:∀ {n x r1 r2 r3:Rat},n * x+r1+r2+r3=n * x+(r1+r2+r3):=by grind
  rw [asc,fr hs0] at d1 d2 d3 z1 z2 z3
  have eq1:∀ {u w:Int},(u:Rat)+((w - u:Int):Rat) * q=tL 1 u w q:=fun {u w}=>by unfold tL;rw [Int.one_mul]
  rw [eq1] at d1 d2 d3 z1 z2 z3;have c1:(((1:Int)):Rat)=1:=rfl;have c2:(((-1:Int)):Rat) = -1:=rfl;rw [c1,c2] at d1 d2 d3 z1 z2 z3;refine ⟨e26 A q,e26 B q,e26 C q,e26 D q,⟨by rw [hA,rC];rfl,by rw [hB,rC];rfl,by rw [hC,rC];rfl,by rw [hD,rC];rfl⟩,pos,?_,z1,z2,z3⟩;rw [YL];refine ⟨?_,?_,?_⟩
  · dsimp only;exact d1
  · dsimp only;exact d2
  dsimp only;exact d3
end Go.Num


namespace Go.Num
open Go Go.Kn
structure Tg (n t u:A3 W):Prop where
  o1:n.x.1 * t.x.1+n.y.1 * t.y.1+n.z.1 * t.z.1=0
  o2:n.x.1 * u.x.1+n.y.1 * u.y.1+n.z.1 * u.z.1=0
  o3:t.x.1 * u.x.1+t.y.1 * u.y.1+t.z.1 * u.z.1=0
  t0:¬ (t.x.1=0∧t.y.1=0∧t.z.1=0)
  u0:¬ (u.x.1=0∧u.y.1=0∧u.z.1=0)
  tb:∀ A:Nat,1≤A→n.x.1.natAbs<2 ^ A→n.y.1.natAbs<2 ^ A→n.z.1.natAbs<2 ^ A→t.x.1.natAbs<2 ^ A∧t.y.1.natAbs<2 ^ A∧t.z.1.natAbs<2 ^ A
  ub:∀ A:Nat,1≤A→n.x.1.natAbs<2 ^ A→n.y.1.natAbs<2 ^ A→n.z.1.natAbs<2 ^ A→u.x.1.natAbs<2 ^ (2 * A+1)∧u.y.1.natAbs<2 ^ (2 * A+1)∧u.z.1.natAbs<2 ^ (2 * A+1)
  full:∀ f g h:Rat,let nn:Rat:=(n.x.1:Rat) * n.x.1+n.y.1 * n.y.1+n.z.1 * n.z.1
    let tt:Rat:=(t.x.1:Rat) * t.x.1+t.y.1 * t.y.1+t.z.1 * t.z.1
    let uu:Rat:=(u.x.1:Rat) * u.x.1+u.y.1 * u.y.1+u.z.1 * u.z.1
    let fn:Rat:=(n.x.1:Rat) * f+n.y.1 * g+n.z.1 * h
    let ft:Rat:=(t.x.1:Rat) * f+t.y.1 * g+t.z.1 * h
    let fu:Rat:=(u.x.1:Rat) * f+u.y.1 * g+u.z.1 * h
    f * (nn * tt * uu)=fn * n.x.1 * (tt * uu)+ft * t.x.1 * (nn * uu)+fu * u.x.1 * (nn * tt) ∧
    g * (nn * tt * uu)=fn * n.y.1 * (tt * uu)+ft * t.y.1 * (nn * uu)+fu * u.y.1 * (nn * tt) ∧
    h * (nn * tt * uu)=fn * n.z.1 * (tt * uu)+ft * t.z.1 * (nn * uu)+fu * u.z.1 * (nn * tt)
section
variable {n t:A3 W} {b c:Int}
end
structure V3 (a:A3 Rt) (x y z:Rat) (A B:Nat):Prop where
  hx:a.x.At x
  hy:a.y.At y
  hz:a.z.At z
  sx:Az x A B
  sy:Az y A B
  sz:Az z A B
section
variable {a b:A3 Rt} {x y z u v w:Rat} {A B C D:Nat}
theorem V3.mono (h:V3 a x y z A B) {A' B':Nat} (h1:A≤A') (h2:B≤B'):V3 a x y z A' B':=⟨h.hx,h.hy,h.hz,h.sx.mono h1 h2,h.sy.mono h1 h2,h.sz.mono h1 h2⟩
theorem of3 {n:A3 W} (hx:n.x.1.natAbs<2 ^ A) (hy:n.y.1.natAbs<2 ^ A) (hz:n.z.1.natAbs<2 ^ A):V3 (n5 n) n.x.1 n.y.1 n.z.1 A 1:=⟨CF _,CF _,CF _,.int hx,.int hy,.int hz⟩
theorem b1_ {E:Nat} (ha:V3 a x y z A B) (hb:V3 b u v w C D) (h1:A+D<E) (h2:C+B<E) (hE:E≤512) (h3:B+D≤512):V3 (kJ a b) (x+u) (y+v) (z+w) E (B+D) :=
  ⟨KN ha.hx hb.hx ha.sx hb.sx oo_ oo_ h3,KN ha.hy hb.hy ha.sy hb.sy oo_ oo_ h3,KN ha.hz hb.hz ha.sz hb.sz oo_ oo_ h3,ha.sx.add hb.sx h1 h2,ha.sy.add hb.sy h1 h2,ha.sz.add hb.sz h1 h2⟩
end
end Go.Num


namespace Go.Num
open Go Go.Kn
def Wv (w:W) (v:Int) (b:Nat):Prop:=w.1=v∧v.natAbs<2 ^ b
section
variable {w w':W} {v v':Int} {b b':Nat}
theorem Wv.mono (h:Wv w v b) (k:b≤b'):Wv w v b':=⟨h.1,Nat.lt_of_lt_of_le h.2 (Nat.pow_le_pow_right dd_ k)⟩
theorem Wv.add (h:Wv w v b) (g:Wv w' v' b) (k:b≤61):Wv (W.add w w') (v+v') (b+1):=by
  have h1:=h.2;have g1:=g.2
  have h2:(v+v').natAbs<2 ^ (b+1):=by rw [Nat.pow_succ];omega
  have h3:(v+v').natAbs<2 ^ 62:=Nat.lt_of_lt_of_le h2 (Nat.pow_le_pow_right dd_ oo_);refine ⟨?_,h2⟩
  show IntKind.i64.wrap (w.1+w'.1)=_
  rw [h.1,g.1];exact wi ⟨by omega,by omega⟩
theorem Wv.sub (h:Wv w v b) (g:Wv w' v' b) (k:b≤61):Wv (W.sub w w') (v - v') (b+1):=by
  have h1:=h.2;have g1:=g.2
  have h2:(v - v').natAbs<2 ^ (b+1):=by rw [Nat.pow_succ];omega
  have h3:(v - v').natAbs<2 ^ 62:=Nat.lt_of_lt_of_le h2 (Nat.pow_le_pow_right dd_ oo_);refine ⟨?_,h2⟩
  show IntKind.i64.wrap (w.1 - w'.1)=_
  rw [h.1,g.1];exact wi ⟨by omega,by omega⟩
theorem Wv.mul (h:Wv w v b) (g:Wv w' v' b') (k:b+b'≤62):Wv (W.mul w w') (v * v') (b+b'):=by
  have h2:=oW h.2 g.2;have h3:(v * v').natAbs<2 ^ 62:=Nat.lt_of_lt_of_le h2 (Nat.pow_le_pow_right dd_ k);refine ⟨?_,h2⟩
  show IntKind.i64.wrap (w.1 * w'.1)=_
  rw [h.1,g.1];exact wi ⟨by omega,by omega⟩
theorem Wv.self (h:w.1.natAbs<2 ^ b):Wv w w.1 b:=⟨rfl,h⟩
end
theorem Wv.neg {w:W} {v:Int} {b:Nat} (h:Wv w v b) (k:b≤61):Wv (W.neg w) (-v) b:=by
  have h1:=h.2;have h3:v.natAbs<2 ^ 62:=Nat.lt_of_lt_of_le h1 (Nat.pow_le_pow_right dd_ oo_);exact ⟨by rw [bX_ (by rw [h.1];omega),h.1],by rw [Int.natAbs_neg];exact h1⟩
theorem Wv.zero (b:Nat):Wv (wl 0) 0 b:=⟨rfl,Nat.pow_pos dd_⟩
structure Mv (q:A4 W) (v:A3 W):Prop where
  x:Wv (fO q v).x (0+(0+q.x.1 * q.x.1+q.y.1 * q.y.1 + -q.z.1 * q.z.1 + -q.t.1 * q.t.1) * v.x.1+2 * (0+q.y.1 * q.z.1 + -q.x.1 * q.t.1) * v.y.1+2 * (0+q.y.1 * q.t.1+q.x.1 * q.z.1) * v.z.1) 40
  y:Wv (fO q v).y (0+2 * (0+q.y.1 * q.z.1+q.x.1 * q.t.1) * v.x.1+(0+q.x.1 * q.x.1 + -q.y.1 * q.y.1+q.z.1 * q.z.1 + -q.t.1 * q.t.1) * v.y.1+2 * (0+q.z.1 * q.t.1 + -q.x.1 * q.y.1) * v.z.1) 40
  z:Wv (fO q v).z (0+2 * (0+q.y.1 * q.t.1 + -q.x.1 * q.z.1) * v.x.1+2 * (0+q.z.1 * q.t.1+q.x.1 * q.y.1) * v.y.1+(0+q.x.1 * q.x.1 + -q.y.1 * q.y.1 + -q.z.1 * q.z.1+q.t.1 * q.t.1) * v.z.1) 40
theorem TY (q:A4 W) (v:A3 W):fO q v=⟨bV [(dL q).x0,v.x,(dL q).x1,v.y,(dL q).x2,v.z],bV [(dL q).x3,v.x,(dL q).x4,v.y,(dL q).x5,v.z],bV [(dL q).x6,v.x,(dL q).x7,v.y,(dL q).x8,v.z]⟩:=rfl
theorem WO {q:A4 W} (hq:q.i.Lw 65) {v:A3 W} (hv:Vin v):Mv q v:=by
  obtain ⟨h1,h2,h3,h4⟩:=hq;have g1:q.x.1.natAbs<65:=h1;have g2:q.y.1.natAbs<65:=h2;have g3:q.z.1.natAbs<65:=h3;have g4:q.t.1.natAbs<65:=h4;have x:=Wv.self (w:=q.x) (b:=7) oo_;have y:=Wv.self (w:=q.y) (b:=7) oo_;have z:=Wv.self (w:=q.z) (b:=7) oo_;have t:=Wv.self (w:=q.t) (b:=7) oo_;have nx:=x.neg dd_;have ny:=y.neg dd_;have nz:=z.neg dd_;have nt:=t.neg dd_;have vx:=Wv.self hv.1;have vy:=Wv.self hv.2.1;have vz:=Wv.self hv.2.2;have two:Wv (wl 2) 2 2:=⟨rfl,by decide⟩;have m:∀ {p r:W} {u w:Int},Wv p u 7→Wv r w 7→Wv (W.mul p r) (u * w) 14:=fun h g=>h.mul g dd_
  have s4:∀ {a b c d:W} {i j k l:Int},Wv a i 7→Wv b j 7→Wv c k 7→Wv d l 7→Wv (W.mul (wl 2) (bV [a,b,c,d])) (2 * (0+i * j+k * l)) 18:=fun h g k l=>by
    rw [dl_];exact two.mul (((Wv.zero 14).add (m h g) dd_).add ((m k l).mono dd_) dd_) dd_
  have s8:∀ {a b c d e f g h:W} {i j k l n o r s:Int},Wv a i 7→Wv b j 7→Wv c k 7→Wv d l 7→Wv e n 7→Wv f o 7→Wv g r 7→Wv h s 7→Wv (bV [a,b,c,d,e,f,g,h]) (0+i * j+k * l+n * o+r * s) 18:=fun a b c d e f g h=>by
    rw [cl_];exact ((((Wv.zero 14).add (m a b) dd_).add ((m c d).mono dd_) dd_).add ((m e f).mono dd_) dd_).add ((m g h).mono dd_) dd_
  have ro:∀ {a b c:W} {u w i:Int},Wv a u 18→Wv b w 18→Wv c i 18→Wv (bV [a,v.x,b,v.y,c,v.z]) (0+u * v.x.1+w * v.y.1+i * v.z.1) 40:=fun h g k=>by
    rw [dm_];exact (((Wv.zero 37).add (h.mul vx dd_) dd_).add ((g.mul vy dd_).mono dd_) dd_).add ((k.mul vz dd_).mono dd_) dd_
  have M:=TY q v;refine ⟨?_,?_,?_⟩ <;> rw [M]
  · exact ro (s8 x x y y nz z nt t) (s4 y z nx t) (s4 y t x z)
  · exact ro (s4 y z x t) (s8 x x ny y z z nt t) (s4 z t nx y)
  exact ro (s4 y t nx z) (s4 z t x y) (s8 x x ny y nz z t t)
theorem JT {q:A4 W} (hq:q.i.Lw 65) (h0:¬ q.i.zero):Wv (iH q) (q.x.1 * q.x.1+q.y.1 * q.y.1+q.z.1 * q.z.1+q.t.1 * q.t.1) 17∧0<q.x.1 * q.x.1+q.y.1 * q.y.1+q.z.1 * q.z.1+q.t.1 * q.t.1:=by
  have e:=DE hq hq;obtain ⟨h1,h2,h3,h4⟩:=hq;have g1:q.x.1.natAbs<65:=h1;have g2:q.y.1.natAbs<65:=h2;have g3:q.z.1.natAbs<65:=h3;have g4:q.t.1.natAbs<65:=h4;have m1:=oW (u:=q.x.1) (v:=q.x.1) (b:=7) (b':=7) oo_ oo_;have m2:=oW (u:=q.y.1) (v:=q.y.1) (b:=7) (b':=7) oo_ oo_;have m3:=oW (u:=q.z.1) (v:=q.z.1) (b:=7) (b':=7) oo_ oo_;have m4:=oW (u:=q.t.1) (v:=q.t.1) (b:=7) (b':=7) oo_ oo_;have p':1≤q.x.1 * q.x.1+q.y.1 * q.y.1+q.z.1 * q.z.1+q.t.1 * q.t.1:=sq4 h0;exact ⟨⟨e,by omega⟩,by omega⟩
theorem LO {u w:W} {a b:Int} {k j:Nat} (hu:Wv u a k) (hw:Wv w b j) (h0:0<b) (hk:k≤512) (hj:j≤512):(e7 u w).At ((a:Rat) / (b:Rat))∧Az ((a:Rat) / (b:Rat)) k j:=by
  have b0:(b:Rat)≠0:=fun e=>by have:=Rat.intCast_eq_zero_iff.1 e;omega
  have e:(a:Rat)=(b:Rat) * ((a:Rat) / (b:Rat)):=by rw [Rat.mul_comm];exact (Rat.div_mul_cancel b0).symm
  refine ⟨?_,MX e h0 hu.2 hw.2⟩;unfold e7;simp only;rw [y8,hu.1,hw.1];exact sP (oN hu.2 hk) (oN hw.2 hj) h0 (NR e)
theorem CJ {p:Pose} (hq:p.q.i.Lw 65∧¬ p.q.i.zero) (hx:p.x.x.1.natAbs<2 ^ 47∧p.x.y.1.natAbs<2 ^ 47∧p.x.z.1.natAbs<2 ^ 47) {v:A3 W} (hv:Vin v) :
    Pv (eC p v) ((p.x.x.1:Rat)+rqx p.q.x.1 p.q.y.1 p.q.z.1 p.q.t.1 v.x.1 v.y.1 v.z.1 / rqn p.q.x.1 p.q.y.1 p.q.z.1 p.q.t.1) ((p.x.y.1:Rat)+rqy p.q.x.1 p.q.y.1 p.q.z.1 p.q.t.1 v.x.1 v.y.1 v.z.1 / rqn p.q.x.1 p.q.y.1 p.q.z.1 p.q.t.1) ((p.x.z.1:Rat)+rqz p.q.x.1 p.q.y.1 p.q.z.1 p.q.t.1 v.x.1 v.y.1 v.z.1 / rqn p.q.x.1 p.q.y.1 p.q.z.1 p.q.t.1):=by
  obtain ⟨sc,sp⟩:=JT hq.1 hq.2;have tm:=WO hq.1 hv;obtain ⟨a1,z1⟩:=LO tm.x sc sp dd_ dd_;obtain ⟨a2,z2⟩:=LO tm.y sc sp dd_ dd_;obtain ⟨a3,z3⟩:=LO tm.z sc sp dd_ dd_;have c2:(((2:Int)):Rat)=2:=rfl
  have eN:((p.q.x.1 * p.q.x.1+p.q.y.1 * p.q.y.1+p.q.z.1 * p.q.z.1+p.q.t.1 * p.q.t.1:Int):Rat)=rqn p.q.x.1 p.q.y.1 p.q.z.1 p.q.t.1:=by
    unfold rqn;simp only [Rat.intCast_add,Rat.intCast_mul];grind
  have c0:(((0:Int)):Rat)=0:=rfl
  have e1:((0+(0+p.q.x.1 * p.q.x.1+p.q.y.1 * p.q.y.1 + -p.q.z.1 * p.q.z.1 + -p.q.t.1 * p.q.t.1) * v.x.1+2 * (0+p.q.y.1 * p.q.z.1 + -p.q.x.1 * p.q.t.1) * v.y.1+2 * (0+p.q.y.1 * p.q.t.1+p.q.x.1 * p.q.z.1) * v.z.1:Int):Rat)=rqx p.q.x.1 p.q.y.1 p.q.z.1 p.q.t.1 v.x.1 v.y.1 v.z.1:=by
    unfold rqx;simp only [Rat.intCast_add,Rat.intCast_mul,Rat.intCast_neg,c0,c2];grind
  have e2:((0+2 * (0+p.q.y.1 * p.q.z.1+p.q.x.1 * p.q.t.1) * v.x.1+(0+p.q.x.1 * p.q.x.1 + -p.q.y.1 * p.q.y.1+p.q.z.1 * p.q.z.1 + -p.q.t.1 * p.q.t.1) * v.y.1+2 * (0+p.q.z.1 * p.q.t.1 + -p.q.x.1 * p.q.y.1) * v.z.1:Int):Rat)=rqy p.q.x.1 p.q.y.1 p.q.z.1 p.q.t.1 v.x.1 v.y.1 v.z.1:=by
    unfold rqy;simp only [Rat.intCast_add,Rat.intCast_mul,Rat.intCast_neg,c0,c2];grind
  have e3:((0+2 * (0+p.q.y.1 * p.q.t.1 + -p.q.x.1 * p.q.z.1) * v.x.1+2 * (0+p.q.z.1 * p.q.t.1+p.q.x.1 * p.q.y.1) * v.y.1+(0+p.q.x.1 * p.q.x.1 + -p.q.y.1 * p.q.y.1 + -p.q.z.1 * p.q.z.1+p.q.t.1 * p.q.t.1) * v.z.1:Int):Rat)=rqz p.q.x.1 p.q.y.1 p.q.z.1 p.q.t.1 v.x.1 v.y.1 v.z.1:=by
    unfold rqz;simp only [Rat.intCast_add,Rat.intCast_mul,Rat.intCast_neg,c0,c2];grind
  rw [e1,eN] at a1 z1;rw [e2,eN] at a2 z2;rw [e3,eN] at a3 z3;generalize rqx (p.q.x.1:Rat) p.q.y.1 p.q.z.1 p.q.t.1 v.x.1 v.y.1 v.z.1 / rqn (p.q.x.1:Rat) p.q.y.1 p.q.z.1 p.q.t.1=rx at a1 z1 ⊢;generalize rqy (p.q.x.1:Rat) p.q.y.1 p.q.z.1 p.q.t.1 v.x.1 v.y.1 v.z.1 / rqn (p.q.x.1:Rat) p.q.y.1 p.q.z.1 p.q.t.1=ry at a2 z2 ⊢;generalize rqz (p.q.x.1:Rat) p.q.y.1 p.q.z.1 p.q.t.1 v.x.1 v.y.1 v.z.1 / rqn (p.q.x.1:Rat) p.q.y.1 p.q.z.1 p.q.t.1=rz at a3 z3 ⊢
  have R:V3 (gS p.q v) rx ry rz 40 17:=by
    unfold gS;refine ⟨?_,?_,?_,z1,z2,z3⟩
    · dsimp only;exact a1
    · dsimp only;exact a2
    dsimp only;exact a3
  have P:=b1_ (E:=70) (of3 (n:=p.x) hx.1 hx.2.1 hx.2.2) R dd_ dd_ dd_ dd_
  have e:eC p v=kJ (n5 p.x) (gS p.q v):=by
    unfold eC;simp only [YC,UF]
  rw [e];exact ⟨P.hx,P.hy,P.hz⟩
theorem HH (s u w:Int):tL s u w 0=u:=by unfold tL;rw [Rat.mul_zero,Rat.add_zero]
theorem HI (s u w:Int):tL s u w 1=(s:Rat) * (w:Rat):=by
  unfold tL;rw [Rat.intCast_sub,Rat.intCast_mul];grind
theorem HJ {s u w:Int} {q:Rat} (h:s * s=1):tL s w u (1 - q)=(s:Rat) * tL s u w q:=by
  have e:=congrArg (fun t:Int=>(t:Rat)) h;rw [Rat.intCast_mul,show (((1:Int)):Rat)=1 from rfl] at e;unfold tL;rw [Rat.intCast_sub,Rat.intCast_mul,Rat.intCast_sub,Rat.intCast_mul]
  have:(s:Rat) * ((s:Rat) * (w:Rat))=(w:Rat):=by rw [← Rat.mul_assoc,e,Rat.one_mul]
  grind
theorem PG (u:Int) (q:Rat):tL 1 u u q=u:=by
  unfold tL;rw [Int.one_mul,Int.sub_self];show (u:Rat)+0 * q=u;grind
theorem MP (h:Path):yA h * yA h=1:=by unfold yA;split <;> rfl
variable {h:Path} {v:A3 W} {t:Rt} {q:Rat}
theorem Z3 (hh:Hv h) (hv:Vin v) {t:Rt} (ht:t.At 0):eL h v t=eC h.from_ v:=by
  obtain ⟨a,b,c,d,pq,_,P,_⟩:=DI hh hv ht ⟨by decide,by decide⟩ Rat.le_refl (by decide +kernel);have ea:=pq.a;have eb:=pq.b;have ec:=pq.c;have ed:=pq.d;rw [HH] at ea eb ec ed;rw [ea,eb,ec,ed,HH,HH,HH] at P;exact P.eq (CJ hh.fq hh.fx hv) rfl rfl rfl
theorem Z5 (hh:Hv h) (hv:Vin v) {t:Rt} (ht:t.At 1):eL h v t=eC h.to_ v:=by
  obtain ⟨a,b,c,d,pq,_,P,_⟩:=DI hh hv ht ⟨by decide,by decide⟩ (by decide +kernel) Rat.le_refl;have ea:=pq.a;have eb:=pq.b;have ec:=pq.c;have ed:=pq.d;rw [HI] at ea eb ec ed;have e:=congrArg (fun t:Int=>(t:Rat)) (MP h);rw [Rat.intCast_mul,show (((1:Int)):Rat)=1 from rfl] at e;obtain ⟨r1,r2,r3,r4⟩:=cf_ (a:=h.to_.q.x.1) (b:=h.to_.q.y.1) (c:=h.to_.q.z.1) (d:=h.to_.q.t.1) (x:=v.x.1) (y:=v.y.1) (z:=v.z.1) e;rw [ea,eb,ec,ed,HI,HI,HI,r1,r2,r3,r4,show (((1:Int)):Rat)=1 from rfl,Rat.one_mul,Rat.one_mul,Rat.one_mul] at P;exact P.eq (CJ hh.tq hh.tx hv) rfl rfl rfl
theorem WB (h:Path):yA ⟨h.to_,h.from_⟩ = yA h:=by
  unfold yA;simp only [Int.mul_comm]
theorem ai_ (hh:Hv h):Hv ⟨h.to_,h.from_⟩:=⟨hh.tq,hh.fq,hh.tx,hh.fx⟩
theorem Z6 (hh:Hv h) (hv:Vin v) {t t':Rt} (ht:t.At q) (ht':t'.At (1 - q)) (sq:Sz q 12) (sq':Sz (1 - q) 12) (q0:0≤q) (q1:q≤1):eL ⟨h.to_,h.from_⟩ v t'=eL h v t:=by
  obtain ⟨a,b,c,d,pq,_,P,_⟩:=DI hh hv ht sq q0 q1;obtain ⟨a',b',c',d',pq',_,P',_⟩:=DI (ai_ hh) hv ht' sq' (by grind) (by grind);have ea:=pq'.a;have eb:=pq'.b;have ec:=pq'.c;have ed:=pq'.d;rw [WB] at ea eb ec ed;simp only at ea eb ec ed P';rw [HJ (MP h)] at ea eb ec ed;rw [← pq.a] at ea;rw [← pq.b] at eb;rw [← pq.c] at ec;rw [← pq.d] at ed;have e:=congrArg (fun t:Int=>(t:Rat)) (MP h);rw [Rat.intCast_mul,show (((1:Int)):Rat)=1 from rfl] at e;obtain ⟨r1,r2,r3,r4⟩:=cf_ (a:=a) (b:=b) (c:=c) (d:=d) (x:=v.x.1) (y:=v.y.1) (z:=v.z.1) e;rw [ea,eb,ec,ed,r1,r2,r3,r4,HJ (by rfl),HJ (by rfl),HJ (by rfl),show (((1:Int)):Rat)=1 from rfl,Rat.one_mul,Rat.one_mul,Rat.one_mul] at P';exact P'.eq P rfl rfl rfl
theorem Z7 {p:Pose} (hq:p.q.i.Lw 65∧¬ p.q.i.zero) (hx:p.x.x.1.natAbs<2 ^ 47∧p.x.y.1.natAbs<2 ^ 47∧p.x.z.1.natAbs<2 ^ 47) (hv:Vin v) (ht:t.At q) (sq:Sz q 12) (q0:0≤q) (q1:q≤1):eL ⟨p,p⟩ v t=eC p v:=by
  obtain ⟨a,b,c,d,pq,_,P,_⟩:=DI (h:=⟨p,p⟩) ⟨hq,hq,hx,hx⟩ hv ht sq q0 q1
  have es:yA ⟨p,p⟩ = 1:=by
    have:=(JT hq.1 hq.2).2;unfold yA;rw [if_neg (by simp only;omega)]
  have ea:=pq.a;have eb:=pq.b;have ec:=pq.c;have ed:=pq.d;rw [es] at ea eb ec ed;simp only [PG] at ea eb ec ed P;rw [ea,eb,ec,ed] at P;exact P.eq (CJ hq hx hv) rfl rfl rfl
end Go.Num


namespace Go.Num
open Go Go.Kn
theorem DD {q:Rat} (q0:0≤q) (q1:q≤1):0≤q.num∧q.num≤q.den:=by
  refine ⟨Rat.num_nonneg.2 q0,?_⟩;have:=(Rat.le_iff _ _).1 q1
  simpa using this
theorem MB {q:Rat} (sq:Sz q 12) (q0:0≤q) (q1:q≤1):Sz (1 - q) 12:=by
  obtain ⟨n0,n1⟩:=DD q0 q1;have hd:=sq.d;have dp:=@pS q;have e:=@KY q;have z:Az (1 - q) 12 12:=MX (n:=(q.den:Int) - q.num) (d:=(q.den:Int)) (by rw [Rat.intCast_sub,← e];grind) dp oo_ oo_;exact z.sz (Nat.le_refl _) (Nat.le_refl _)
theorem MU {x:Rt} (h:gD x=true):∃ q,x.At q∧Sz q 12∧0≤q∧q≤1:=by
  unfold gD at h;simp only [Bool.and_eq_true,decide_eq_true_eq] at h;obtain ⟨g,h1,h2,h3⟩:=h;obtain ⟨q,hq⟩:=VE g;have i:=At.is hq
  have q0:0≤q:=by
    rw [UG hq] at h1;exact Rat.num_nonneg.1 (Int.sign_nonneg_iff.1 h1)
  have q1:q≤1:=by
    rw [← UE,XY hq (CF (wl 1))] at h2;exact h2
  rw [i.ed,dB] at h3;have hd:=UT i.hd h3;rw [Int.natAbs_natCast] at hd;have hd:q.den<2 ^ 12:=hd;obtain ⟨n0,n1⟩:=DD q0 q1;exact ⟨q,hq,⟨by omega,hd⟩,q0,q1⟩
theorem cM_ {v:A3 W} (h:dX v=true):Vin v:=by
  unfold dX at h
  cases h1:(decide (262144<v.x.1)||decide (v.x.1<(-262144)))
  · cases h2:(decide (262144<v.y.1)||decide (v.y.1<(-262144)))
    · cases h3:(decide (262144<v.z.1)||decide (v.z.1<(-262144)))
      · simp only [Bool.or_eq_false_iff,decide_eq_false_iff_not] at h1 h2 h3
        exact ⟨by omega,by omega,by omega⟩
      rw [h1,h2,h3] at h;cases h
    rw [h1,h2] at h;cases h
  rw [h1] at h;cases h
theorem UC (hs:F_skewbacklaw14_sanity=true) (h:Path) (b:A3 W) (x:Rt):gT h b x=true:=by
  unfold gT
  dsimp only
  cases hc:(((dM h).1 != 0)||(!(dX b)||(!(gD x))))
  case true=>rw [cond_true];exact hs
  simp only [Bool.or_eq_false_iff,Bool.not_eq_false'] at hc;obtain ⟨c1,c2,c3⟩:=hc
  have c0:(dM h).1=0:=by simpa using c1
  have hh:=bN_ c0;have hv:=cM_ c2;obtain ⟨q,hx,sq,q0,q1⟩:=MU c3;have e0:=Z3 hh hv (t:=cG (wl 0)) (by rw [P1];exact CF (wl 0));have e1:=Z5 hh hv (t:=cG (wl 1)) (by rw [P1];exact CF (wl 1));have a1:(dZ (wl 1)).At 1:=CF (wl 1)
  have hs1:(mS (cG (wl 1)) x).At (1 - q):=by
    rw [YB,P1];exact X9 (j:=1) a1 hx ⟨by decide,by decide⟩ sq dd_
  have er:=Z6 hh hv hx hs1 sq (MB sq q0 q1) q0 q1;have es:=Z7 hh.fq hh.fx hv hx sq q0 q1;have eR:dS h=⟨h.to_,h.from_⟩:=rfl;have eS:eO h.from_=⟨h.from_,h.from_⟩:=rfl;rw [cond_false,hs,eR,eS];simp only [e0,e1,er,es,decide_true,Bool.and_self]
theorem ch_:F_skewbacklaw14_sanity=true:=by kernel_rfl
end Go.Num

