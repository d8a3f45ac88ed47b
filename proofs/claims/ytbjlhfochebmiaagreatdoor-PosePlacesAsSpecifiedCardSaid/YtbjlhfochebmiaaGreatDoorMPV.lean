/- Lemmas: what they ask stands in their statements. -/
import Derived.Test.YtbjlhfochebmiaaGreatDoorML3
set_option linter.unusedSimpArgs false
set_option linter.unusedVariables false
namespace Go.Num
open Go Go.Kn
theorem OA {u g:Int} (hu:iE u) (hg:0<g):iE (u / g):=by
 unfold iE at *;have h1:=Int.mul_ediv_add_emod u g;have h2:=Int.emod_nonneg u (by omega:g≠0);have h3:=Int.emod_lt_of_pos u hg
 have h4:(u / g).natAbs≤u.natAbs:=by
  rcases Int.lt_or_le u 0 with h|h
  ·have h5:u / g<0:=Int.ediv_neg_of_neg_of_pos h hg
   have h6:u≤u / g:=by
    have h7:g*(u / g)≤u / g:=by
     have:=Int.mul_le_mul_of_nonpos_right (show (1:Int)≤g by omega) (Int.le_of_lt h5);omega
    have h8:u<g*(u / g)+g:=by omega
    rcases Int.lt_or_le u (g*(u / g)) with h9|h9
    ·omega
    have h10:(g - 1)*(u / g) ≤ -(g - 1):=by
     have:=Int.mul_le_mul_of_nonneg_left (show u / g ≤ -1 by omega) (show 0≤g - 1 by omega);omega
    have h11:g*(u / g)=(g - 1)*(u / g)+u / g:=by rw [Int.sub_mul];omega
    omega
   omega
  have h5:0≤u / g:=Int.ediv_nonneg h oo_;have h6:u / g≤u:=Int.ediv_le_self _ h;omega
 omega
theorem OB {u g:Int} (hg:0<g) (hb:iE g):iE (u % g):=by
 unfold iE at *;have h2:=Int.emod_nonneg u (by omega:g≠0);have h3:=Int.emod_lt_of_pos u hg;omega
theorem U0 {u v:Int} (hu:iE u) (hv:iE v) (h:0<v):Z.rem (Z.of u) (Z.of v)=Z.of (u % v):=by
 rw [Z.rem,dZ (Z.of_some hu) (Z.of_some hv),if_neg oo_,Int.fmod_eq_emod_of_nonneg _ oo_]
theorem FZ {u v:Int} (hu:iE u) (hv:iE v) (h:0<v):Z.quo (Z.of u) (Z.of v)=Z.of (u / v):=by
 rw [KA hu hv oo_,JC h]
theorem N0 {u v:Int} (hu:iE u) (hv:iE v):(Z.cmpW (Z.of u) (Z.of v)).1=(u - v).sign:=by
 show Z.cmp _ _=_
 unfold Z.cmp;rw [Z.of_some hu,Z.of_some hv];simp only;rcases Int.lt_trichotomy u v with h|h|h
 ·rw [zV h,Int.sign_eq_neg_one_of_neg oo_]
 ·subst h;rw [FI,Int.sub_self];rfl
 rw [zU h,Int.sign_eq_one_of_pos oo_]
theorem FD {n:Int} (h:-4≤n∧n≤4):IntKind.i64.wrap n=n:=wi ⟨by omega,by omega⟩
theorem KJ (x:Int):-1≤x.sign∧x.sign≤1:=by
 rcases Int.lt_trichotomy x 0 with h|h|h
 ·rw [Int.sign_eq_neg_one_of_neg h];omega
 ·subst h;decide
 rw [Int.sign_eq_one_of_pos h];omega
theorem ct_ {o x:W} (ho:o.1=1∨o.1 = -1) (hx:-2≤x.1∧x.1≤2):(W.mul o x).1=o.1*x.1:=by
 show IntKind.i64.wrap (o.1*x.1)=_
 refine FD ?_;rcases ho with h|h<;>rw [h]<;>omega
theorem cu_ {o:W} (ho:o.1=1∨o.1 = -1):(W.neg o).1 = -o.1:=by
 show IntKind.i64.wrap (0 - o.1)=_
 rw [FD oo_];omega
theorem ak_ {b d p r s:Int} (hb:0<b) (hd:0<d) (h0:p≠0) (hr:0≤r) (hrb:r<b) (hs:0≤s) (hsd:s<d):(b*d*p+(r*d - s*b)).sign=p.sign:=by
 have hbd:0<b*d:=Int.mul_pos hb hd;have h1:r*d<b*d:=Int.mul_lt_mul_of_pos_right hrb hd;have h2:s*b<d*b:=Int.mul_lt_mul_of_pos_right hsd hb;have h3:0≤r*d:=Int.mul_nonneg hr oo_;have h4:0≤s*b:=Int.mul_nonneg hs oo_;rw [Int.mul_comm d b] at h2;rcases Int.lt_trichotomy p 0 with h|h|h
 ·rw [Int.sign_eq_neg_one_of_neg h,Int.sign_eq_neg_one_of_neg]
  have:b*d*p≤b*d*(-1):=Int.mul_le_mul_of_nonneg_left oo_ oo_;omega
 ·exact absurd h h0
 rw [Int.sign_eq_one_of_pos h,Int.sign_eq_one_of_pos];have:b*d*1≤b*d*p:=Int.mul_le_mul_of_nonneg_left oo_ oo_;omega
theorem a5_:∀ (k:Nat) (o:W) (a b c d:Int),b.toNat≤k→0<b→0<d→iE a→iE b→iE c→iE d→(o.1=1∨o.1 = -1) →
  (cf k o (E (Z.of a)) (E (Z.of b)) (E (Z.of c)) (E (Z.of d))).1=o.1*(a*d - c*b).sign:=by
 intro k
 induction k with
 | zero=>intro o a b c d hk hb;omega
 | succ k ih =>
  intro o a b c d hk hb hd ha hb' hc hd' ho;unfold cf;simp only [fA];rw [FZ ha hb' hb,FZ hc hd' hd,U0 ha hb' hb,U0 hc hd' hd,uI (OB hb hb'),uI (OB hd hd'),N0 (OA ha hb) (OA hc hd)];have e1:=Int.mul_ediv_add_emod a b;have e2:=Int.mul_ediv_add_emod c d;have r1:=Int.emod_nonneg a (by omega:b≠0);have r2:=Int.emod_lt_of_pos a hb;have s1:=Int.emod_nonneg c (by omega:d≠0);have s2:=Int.emod_lt_of_pos c hd;have hrB:=OB (u:=a) hb hb';have hsB:=OB (u:=c) hd hd';have hpB:=OA ha hb;have hqB:=OA hc hd;generalize hp:a / b=p at *;generalize hr:a % b=r at *;generalize hq:c / d=q at *;generalize hs:c % d=s at *
  have key:a*d - c*b=b*d*(p - q)+(r*d - s*b):=by
   rw [← e1,← e2];grind
  rw [key]
  by_cases hpq:p=q
  ·have h1:(p - q).sign=0:=by rw [hpq,Int.sub_self];rfl
   have h2:b*d*(p - q)+(r*d - s*b)=r*d - s*b:=by rw [hpq];grind
   rw [h1,h2];have h3:((0:Int) != 0)=false:=rfl;rw [h3];simp only [cond_false]
   by_cases h0:r=0∨s=0
   ·have h4:((r.sign==0)||(s.sign==0))=true:=by
     rcases h0 with h|h<;>subst h<;>simp
    rw [h4];simp only [cond_true];have h5:=KJ r;have h6:=KJ s
    have e5:(W.sub (Z.signW (Z.of r)) (Z.signW (Z.of s))).1=r.sign - s.sign:=by
     show IntKind.i64.wrap ((Z.signW (Z.of r)).1 - (Z.signW (Z.of s)).1)=_
     rw [uI hrB,uI hsB];exact FD oo_
    rw [ct_ ho (by rw [e5];omega),e5]
    congr 1
    rcases h0 with h|h
    ·subst h
     rw [Int.zero_mul,Int.zero_sub,Int.sign_neg,Int.sign_mul,Int.sign_eq_one_of_pos hb];simp
    subst h;rw [Int.zero_mul,Int.sub_zero,Int.sign_mul,Int.sign_eq_one_of_pos hd];simp
   have hr0:0<r:=by omega
   have hs0:0<s:=by omega
   have h4:((r.sign==0)||(s.sign==0))=false:=by
    rw [Int.sign_eq_one_of_pos hr0,Int.sign_eq_one_of_pos hs0];rfl
   rw [h4];simp only [cond_false];rw [ih _ _ _ _ _ oo_ hr0 hs0 hb' hrB hd' hsB (by rw [cu_ ho];omega),cu_ ho]
   have:b*s - d*r = -(r*d - s*b):=by grind
   rw [this,Int.sign_neg,Int.neg_mul_neg]
  have h1:((p - q).sign != 0)=true:=by
   rcases Int.lt_trichotomy (p - q) 0 with h|h|h
   ·rw [Int.sign_eq_neg_one_of_neg h];rfl
   ·omega
   rw [Int.sign_eq_one_of_pos h];rfl
  rw [h1];simp only [cond_true];rw [ct_ ho (by rw [N0 hpB hqB];have:=KJ (p - q);omega),N0 hpB hqB];rw [ak_ hb hd oo_ r1 r2 s1 s2]
theorem de_ {d:Int} (h:iE d):cfN (E (Z.of d))=d.toNat:=by
 unfold cfN;rw [fA,Z.of_some h]
theorem IC {a:Rt} {n d:Int} (h:a.Is n d):aT a=true:=ep_.2 ⟨n,d,h⟩
theorem cO_ {a b:Rt} {n d m e:Int} (ha:a.Is n d) (hb:b.Is m e):(vM a b).1=(n*e - m*d).sign:=by
 unfold vM;rw [vD,vD,IC ha,IC hb];simp only [Bool.not_true,Bool.and_false,cond_true,cond_false];rw [ha.en,ha.ed,hb.en,hb.ed,de_ ha.hd,a5_ _ _ _ _ _ _ (Nat.le_refl _) ha.pos hb.pos ha.hn ha.hd hb.hn hb.hd (.inl O)];exact Int.one_mul _
theorem aJ_ (a b:Rt):vM a b=kA a b:=by
 unfold vM kA gJ;rw [vD,vD]
 cases aT a<;>cases aT b<;>simp only [Bool.not_true,Bool.not_false,Bool.or_true,Bool.true_or,Bool.or_false,Bool.and_true,Bool.and_false,Bool.false_and,Bool.true_and,cond_true,cond_false,fA]<;>rfl
theorem aK_ (a b:W):jS a b=jT a b:=rfl
theorem cP_ (a b:Rt):n4 a b=kB a b:=by unfold n4 kB;rw [vD,FE,NT,NS]
theorem cV_ {a:Rt} {n d:Int} (h:a.Is n d):Rt.Is (dM a) (-n) d:=by
 have e:dM a=⟨E (Z.of (-n)),E (Z.of d)⟩:=by
  unfold dM;rw [IC h,h.en,h.ed,fA,ZL h.hn];rfl
 rw [e];refine ⟨rfl,rfl,?_,h.hd,h.pos,by rw [Int.neg_gcd];exact h.cop⟩;have:=h.hn;unfold iE at *;rw [Int.natAbs_neg];exact this
theorem al_ {x:Int}:x.sign≤0 ↔ x≤0:=Int.sign_nonpos_iff
structure Iv.Is (a:Iv) (n d m e:Int):Prop where
 lo:a.lo.Is n d
 hi:a.hi.Is m e
 le:n*e≤m*d
def Rt.At (a:Rt) (q:Rat):Prop:=a.Is q.num (q.den:Int)
theorem eq_ {a:Rt} {n d:Int} (h:a.Is n d):∃ q:Rat,a.At q∧q.num=n∧(q.den:Int)=d:=by
 have hd:(d.toNat:Int)=d:=Int.toNat_of_nonneg (Int.le_of_lt h.pos)
 have hc:n.natAbs.Coprime d.toNat:=by
  have:=h.cop;unfold Int.gcd at this;rw [show d.natAbs=d.toNat by omega] at this;exact this
 refine ⟨⟨n,d.toNat,by have:=h.pos;omega,hc⟩,?_,rfl,hd⟩
 show a.Is n (d.toNat:Int)
 rw [hd];exact h
theorem BK {a:Rt} {q:Rat} (h:a.At q):aT a=true:=IC h
theorem NR {a b:Rt} {q:Rat} (ha:a.At q) (hb:b.At q):a=b:=Rt.ext (ha.en.trans hb.en.symm) (ha.ed.trans hb.ed.symm)
theorem R1 {a:Rt} {p q:Rat} (ha:a.At p) (hb:a.At q):p=q:=by
 have h1:=SX ha.hn hb.hn (XJ (ha.en.symm.trans hb.en));have h2:=SX ha.hd hb.hd (XJ (ha.ed.symm.trans hb.ed));exact Rat.ext h1 oo_
theorem cN_ {a b:Rt} {p q:Rat} (ha:a.At p) (hb:b.At q):(vM a b).1=(p.num*q.den - q.num*p.den).sign:=cO_ ha hb
theorem XI {a b:Rt} {p q:Rat} (ha:a.At p) (hb:b.At q):(vM a b).1≤0 ↔ p≤q:=by
 rw [cN_ ha hb,al_,Rat.le_iff];omega
structure Iv.At (a:Iv) (p q:Rat):Prop where
 lo:a.lo.At p
 hi:a.hi.At q
 le:p≤q
structure Sz (q:Rat) (k:Nat):Prop where
 n:q.num.natAbs<2 ^ k
 d:q.den<2 ^ k
theorem yC {a b:Nat} (h:a≤b):(2:Nat) ^ a≤2 ^ b:=Nat.pow_le_pow_right dd_ h
theorem cM_ {v:Int} {k:Nat} (m:Nat) (hm:4294967296 ^ 16=2 ^ m) (h:v.natAbs<2 ^ k) (hk:k≤m):iE v:=by
 unfold iE;rw [hm];exact Nat.lt_of_lt_of_le h (yC hk)
theorem AO {v:Int} {k:Nat} (h:v.natAbs<2 ^ k) (hk:k≤512):iE v:=cM_ 512 EK h hk
theorem Sz.mono {q:Rat} {j k:Nat} (h:Sz q j) (hk:j≤k):Sz q k:=⟨Nat.lt_of_lt_of_le h.n (yC hk),Nat.lt_of_lt_of_le h.d (yC hk)⟩
theorem Sz.bn {q:Rat} {k:Nat} (h:Sz q k) (hk:k≤512):iE q.num:=AO h.n hk
theorem Sz.bd {q:Rat} {k:Nat} (h:Sz q k) (hk:k≤512):iE (q.den:Int):=AO (by simpa using h.d) hk
theorem uQ {a b j k:Nat} (h:a<2 ^ j) (g:b<2 ^ k):a*b<2 ^ (j+k):=by
 rw [Nat.pow_add];exact Nat.mul_lt_mul_of_lt_of_le h (Nat.le_of_lt g) (Nat.pow_pos dd_)
theorem Sz.mul {p q:Rat} {j k:Nat} (h:Sz p j) (g:Sz q k):Sz (p*q) (j+k):=by
 constructor
 ·rw [Rat.num_mul]
  refine Nat.lt_of_le_of_lt (Int.natAbs_ediv_le_natAbs _ _) ?_;rw [Int.natAbs_mul];exact uQ h.n g.n
 rw [Rat.den_mul];exact Nat.lt_of_le_of_lt (Nat.div_le_self _ _) (uQ h.d g.d)
theorem Sz.neg {p:Rat} {k:Nat} (h:Sz p k):Sz (-p) k:=⟨by rw [Rat.neg_num,Int.natAbs_neg];exact h.n,h.d⟩
theorem R8 {n m:Int} {d e j k:Nat} (h1:n.natAbs<2 ^ j) (h2:e<2 ^ k) (h3:m.natAbs<2 ^ k) (h4:d<2 ^ j):(n*e+m*d).natAbs<2 ^ (j+k+1):=by
 have a:=uQ h1 h2;have b:=uQ h4 h3;have c:=Int.natAbs_add_le (n*e) (m*d);rw [Int.natAbs_mul,Int.natAbs_mul,Int.natAbs_natCast,Int.natAbs_natCast] at c;rw [Nat.pow_succ];rw [Nat.mul_comm d] at b;omega
theorem Sz.add {p q:Rat} {j k:Nat} (h:Sz p j) (g:Sz q k):Sz (p+q) (j+k+1):=by
 constructor
 ·rw [Rat.num_add]
  exact Nat.lt_of_le_of_lt (Int.natAbs_ediv_le_natAbs _ _) (R8 h.n g.d g.n h.d)
 rw [Rat.den_add];exact Nat.lt_of_le_of_lt (Nat.div_le_self _ _) (Nat.lt_of_lt_of_le (uQ h.d g.d) (yC oo_))
theorem Sz.int {n:Int} {k:Nat} (h:n.natAbs<2 ^ k) (hk:0<k):Sz (n:Rat) k:=⟨h,Nat.one_lt_two_pow oo_⟩
theorem en_ {a:Rt} {n d:Int} {q:Rat} (h:a.Is n d) (he:q.num*d=n*q.den):a.At q:=by
 obtain ⟨p,hp,h1,h2⟩:=eq_ h;have:p=q:=Rat.eq_iff_mul_eq_mul.2 (by rw [h1,h2];exact he.symm);rw [← this];exact hp
theorem At.is {a:Rt} {q:Rat} (h:a.At q):a.Is q.num (q.den:Int):=h
theorem ID {n d:Int} {q:Rat} (hn:iE n) (hd:iE d) (hp:0<d) (he:q.num*d=n*q.den):(aW (E (Z.of n)) (E (Z.of d))).At q:=by
 refine en_ (DM hn hd hp) ?_;have g1:((Int.gcd n d:Nat):Int) ∣ n:=Int.gcd_dvd_left ..;have g2:((Int.gcd n d:Nat):Int) ∣ d:=Int.gcd_dvd_right ..
 have p1:0<((Int.gcd n d:Nat):Int):=by have:=Int.gcd_pos_of_ne_zero_right n (show d≠0 by omega);omega
 obtain ⟨x,hx⟩:=g1;obtain ⟨y,hy⟩:=g2;generalize ((Int.gcd n d:Nat):Int)=G at *
 have q1:n / G=x:=by rw [hx];exact Int.mul_ediv_cancel_left _ oo_
 have q2:d / G=y:=by rw [hy];exact Int.mul_ediv_cancel_left _ oo_
 rw [q1,q2];rw [hx,hy] at he;exact Int.eq_of_mul_eq_mul_left (show G≠0 by omega) (by grind)
theorem PO (c:W):(cM c).At (c.1:Rat):=by
 unfold cM;rw [dH_];have:=c.2;unfold I64 at this;exact ID (AO (k:=64) oo_ dd_) B1 dd_ (by simp)
theorem NU {a:Rt} {p:Rat} (h:a.At p):(dM a).At (-p):=cV_ h
theorem E8 {q:Rat}:(0:Int)<q.den:=by have:=q.den_nz;omega
theorem cR_ {a b:Rt} {p q:Rat} (ha:a.At p) (hb:b.At q) (hn:iE (p*q).num) (hd:iE ((p*q).den:Int)):(fJ a b).At (p*q):=by
 unfold fJ;rw [BK ha,BK hb];obtain ⟨x,y,r,s,e1,e2,b1,b2,b3,b4,h1,h2,hc,he⟩:=PN ha hb;simp only [Bool.not_true,Bool.or_false,cond_false,e1,e2,fA];rw [BX b1 b3,BX b2 b4];have hps:0<y*s:=Int.mul_pos h1 h2
 have hpq:p*q=Rat.divInt (x*r) (y*s):=by
  rw [← Rat.num_divInt_den p,← Rat.num_divInt_den q,Rat.divInt_mul_divInt];exact (Rat.divInt_eq_divInt_iff (by have:=@E8 p;have:=@E8 q;exact Int.mul_ne_zero oo_ oo_) oo_).2 (by rw [he])
 have hnum:(p*q).num=x*r:=by
  rw [hpq,Rat.num_divInt,Int.gcd_comm,hc,Int.sign_eq_one_of_pos hps];simp
 have hden:((p*q).den:Int)=y*s:=by
  rw [hpq,Rat.den_divInt,if_neg oo_,Int.gcd_comm,hc,Nat.div_one];omega
 rw [hnum] at hn;rw [hden] at hd;exact ID hn hd hps (by rw [hnum,hden])
theorem sB {v:Int} (h:v.natAbs<2 ^ 64):iE v:=Nat.lt_of_lt_of_le h dd_
def W.b (a:W):BitVec 64:=BitVec.ofInt 64 a.1
theorem W.b_inj {a b:W} (h:a.b=b.b):a=b:=by
 have h1:=congrArg BitVec.toInt h;unfold W.b at h1;rw [BitVec.toInt_ofInt,BitVec.toInt_ofInt] at h1;have ha:=a.2;have hb:=b.2;unfold I64 at ha hb
 have e:a.1=b.1:=by
  rw [Int.bmod_eq_of_le (by simp;omega) (by simp;omega),Int.bmod_eq_of_le (by simp;omega) (by simp;omega)] at h1;exact h1
 exact Subtype.ext e
theorem PI (x:Int):BitVec.ofInt 64 (IntKind.i64.wrap x)=BitVec.ofInt 64 x:=by
 apply BitVec.eq_of_toInt_eq
 rw [BitVec.toInt_ofInt,BitVec.toInt_ofInt]
 have h:∃ k:Int,IntKind.i64.wrap x=x+k*(2 ^ 64:Nat):=by
  refine ⟨-((x+9223372036854775808) / 18446744073709551616),?_⟩;unfold IntKind.wrap;simp only [IntKind.bits,IntKind.signed]
  simp
  omega
 obtain ⟨k,hk⟩:=h;rw [hk,Int.add_mul_bmod_self_right]
theorem W.b_add (a b:W):(W.add a b).b=a.b+b.b:=by
 show BitVec.ofInt 64 (IntKind.i64.wrap (a.1+b.1))=_
 rw [PI,BitVec.ofInt_add];rfl
theorem W.b_mul (a b:W):(W.mul a b).b=a.b*b.b:=by
 show BitVec.ofInt 64 (IntKind.i64.wrap (a.1*b.1))=_
 rw [PI,BitVec.ofInt_mul];rfl
theorem W.b_sub (a b:W):(W.sub a b).b=a.b - b.b:=by
 show BitVec.ofInt 64 (IntKind.i64.wrap (a.1 - b.1))=_
 rw [PI,Int.sub_eq_add_neg,BitVec.ofInt_add,BitVec.ofInt_neg,BitVec.sub_eq_add_neg];rfl
theorem W.b_neg (a:W):(W.neg a).b = -a.b:=by
 show BitVec.ofInt 64 (IntKind.i64.wrap (0 - a.1))=_
 rw [PI,Int.zero_sub,BitVec.ofInt_neg];rfl
theorem W.b_0:(wl 0).b=0:=rfl
theorem W.b_2:(wl 2).b=2:=rfl
theorem fn_ (a b c d:W):dU [a,b,c,d]=W.add (W.add (wl 0) (W.mul a b)) (W.mul c d):=rfl
theorem fo_ (a b c d e f:W):dU [a,b,c,d,e,f]=W.add (W.add (W.add (wl 0) (W.mul a b)) (W.mul c d)) (W.mul e f):=rfl
theorem b2_ (a b c d e f g h:W):dU [a,b,c,d,e,f,g,h]=W.add (W.add (W.add (W.add (wl 0) (W.mul a b)) (W.mul c d)) (W.mul e f)) (W.mul g h):=rfl
theorem D8 (a b:A4 W):nK a b=fV a b:=by
 unfold nK fV;rw [b2_]
 apply W.b_inj
 simp only [W.b_add,W.b_mul,W.b_0]
 grind
theorem GG (a:A4 W):cS a=aZ a:=D8 a a
theorem R3 (a:A4 W):fS a=fC a:=by
 unfold fS fC;simp only [b2_,fn_]
 congr 1<;>(apply W.b_inj;simp only [W.b_add,W.b_mul,W.b_sub,W.b_neg,W.b_0,W.b_2];grind)
theorem PR (a:A4 W) (b:A3 W):dD a b=gM a b:=by
 unfold dD gM;simp only [fo_,R3]
 congr 1<;>(apply W.b_inj;simp only [W.b_add,W.b_mul,W.b_0];grind)
theorem R4 (a:A4 W) (b:A3 W):k6 a b=gZ a b:=by
 unfold k6 gZ;simp only [PR,GG,aK_]
def Z4.Lw (v:Z4) (n:Nat):Prop:=v.x.natAbs<n∧v.y.natAbs<n∧v.z.natAbs<n∧v.t.natAbs<n
theorem bo_ {a:A4 W} (h:iZ a=true):a.i.Lw 65:=by
 unfold iZ at h
 have g:∀ {c:Bool} {y:Bool},(bif c then false else y)=true→c=false∧y=true:=fun {c y} h=>by cases c<;>simp_all
 obtain ⟨h1,h⟩:=g h;obtain ⟨h2,h⟩:=g h;obtain ⟨h3,h⟩:=g h;obtain ⟨h4,h⟩:=g h;simp only [Bool.or_eq_false_iff,decide_eq_false_iff_not] at h1 h2 h3 h4;refine ⟨?_,?_,?_,?_⟩
 ·show a.x.1.natAbs<65;omega
 ·show a.y.1.natAbs<65;omega
 ·show a.z.1.natAbs<65;omega
 show a.t.1.natAbs<65;omega
theorem ca_ {a:A4 W} (h:a.i.zero):a=⟨wl 0,wl 0,wl 0,wl 0⟩:=A4.i_inj (Z4.ext h.1 h.2.1 h.2.2.1 h.2.2.2)
theorem NM {a:A4 W} (h:fW a=true):a.i.Lw 65∧¬ a.i.zero:=by
 unfold fW at h
 cases hl:iZ a
 ·rw [hl] at h;cases h
 refine ⟨bo_ hl,fun hz=>?_⟩;rw [ca_ hz] at h
 have:fW ⟨wl 0,wl 0,wl 0,wl 0⟩ = false:=by kernel_rfl
 unfold fW at this;rw [this] at h;cases h
theorem VN (a:Pose):eU a=wl 0∨eU a=wl 1:=by
 unfold eU
 repeat' (rename_i x;revert x)
 generalize (decide (140737488355328≤a.x.x.1)||decide (a.x.x.1≤(-140737488355328)))=c1;generalize (decide (140737488355328≤a.x.y.1)||decide (a.x.y.1≤(-140737488355328)))=c2;generalize (decide (140737488355328≤a.x.z.1)||decide (a.x.z.1≤(-140737488355328)))=c3;generalize fW a.q=c4
 cases c1<;>cases c2<;>cases c3<;>cases c4<;>first|exact .inl O|exact .inr O
theorem LW (a:Pose) (b:A3 W):cQ a b=bM a b:=by
 unfold cQ bM;simp only [R4,R5,TW]
theorem gz {a n:Int} {u:Bool} (h:(a==0)=true):(decide (a<0)||(decide ((n.toNat:Int)<a) || !u)) = !u:=by
 have:a=0:=by simpa using h
 subst this
 cases u
 ·simp
 rw [Bool.eq_iff_iff];simp;omega
theorem PK (a:Rt):bE a=bU a:=by unfold bE bU;rw [vD]
class Rg (α:Type) [Add α] [Mul α] [OfNat α 0]:Prop where
 aa:∀ a b c:α,a+b+c=a+(b+c)
 ac:∀ a b:α,a+b=b+a
 a0:∀ a:α,a+0=a
 ma:∀ a b c:α,a*b*c=a*(b*c)
 mc:∀ a b:α,a*b=b*a
 md:∀ a b c:α,a*(b+c)=a*b+a*c
 m0:∀ a:α,a*0=0
instance:Rg Int:=⟨Int.add_assoc,Int.add_comm,Int.add_zero,Int.mul_assoc,Int.mul_comm,Int.mul_add,Int.mul_zero⟩
instance:Rg Rat:=⟨Rat.add_assoc,Rat.add_comm,Rat.add_zero,Rat.mul_assoc,Rat.mul_comm,Rat.mul_add,Rat.mul_zero⟩
theorem Rg.zm {α:Type} [Add α] [Mul α] [OfNat α 0] [Rg α] (a:α):0*a=0:=by rw [Rg.mc,Rg.m0]
def wW {α:Type} [Add α] [OfNat α 0] (f:Nat→α):Nat→α
 | 0=>0
 | n+1=>wW f n+f n
theorem KT {α:Type} [Add α] [OfNat α 0] {f g:Nat→α}:∀ {n:Nat},(∀ i,i<n→f i=g i)→wW f n=wW g n
 | 0,_=>rfl
 | n+1,h=>by simp only [wW];rw [KT fun i hi=>h i (by omega),h n (by omega)]
theorem BG {α:Type} [Add α] [Mul α] [OfNat α 0] [Rg α] {f:Nat→α}:∀ {n:Nat},(∀ i,i<n→f i=0)→wW f n=0
 | 0,_=>rfl
 | n+1,h=>by simp only [wW];rw [BG fun i hi=>h i (by omega),h n (by omega),Rg.a0]
theorem RN {α:Type} [Add α] [Mul α] [OfNat α 0] [Rg α] (c:α) (f:Nat→α):∀ n:Nat,wW (fun i=>c*f i) n=c*wW f n
 | 0=>(Rg.m0 _).symm
 | n+1=>by simp only [wW];rw [RN c f n,Rg.md]
theorem G0 {α:Type} [Add α] [Mul α] [OfNat α 0] [Rg α] {f:Nat→α} {n:Nat} (h:∀ i,n≤i→f i=0):∀ m:Nat,n≤m→wW f m=wW f n
 | 0,hm=>by rw [show n=0 by omega]
 | m+1,hm=>by
  rcases Nat.lt_or_ge n (m+1) with g|g
  ·rw [wW,h m (by omega),Rg.a0,G0 h m (by omega)]
  rw [show n=m+1 by omega]
def conv {α:Type} [Add α] [Mul α] [OfNat α 0] (c d:Nat→α) (k:Nat):α:=wW (fun i=>c i*d (k - i)) (k+1)
theorem YB {α:Type} [Add α] [Mul α] [OfNat α 0] [Rg α] (a:α) (c d:Nat→α):conv (fun i=>a*c i) d=fun k=>a*conv c d k:=by
 funext k
 unfold conv;rw [← RN];exact KT fun i _=>Rg.ma _ _ _
theorem MC {α:Type} [Add α] [Mul α] [OfNat α 0] [Rg α] {c d:Nat→α} {n m:Nat} (hc:∀ i,n≤i→c i=0) (hd:∀ i,m≤i→d i=0) (k:Nat) (hk:n+m≤k+1):conv c d k=0:=by
 refine BG fun i hi=>?_;rcases Nat.lt_or_ge i n with h|h
 ·rw [hd _ (by omega),Rg.m0]
 rw [hc _ h,Rg.zm]
def cR (c:Nat→Int) (i:Nat):Rat:=(c i:Rat)
theorem vI0:vI I0=0:=el_ B0
theorem d5_ {u v:Int} (hu:iE u) (hv:iE v):Z.sub (Z.of u) (Z.of v)=Z.of (u - v):=by
 rw [Z.sub,ZL hv,NX hu (show (-v).natAbs<_ by rw [Int.natAbs_neg];exact hv),Int.sub_eq_add_neg]
structure Po (p:List I) (c:Nat→Int):Prop where
 g:p.all gdI=true
 s:oA p=p
 l:p.length≤25
 c:∀ k,vI (p.getD k I0)=c k
section
variable {p q:List I} {c d:Nat→Int}
theorem UB (h:p.all gdI=true) (k:Nat):gdI (p.getD k I0)=true:=by
 by_cases hk:k<p.length
 ·rw [show p.getD k I0=p[k] by simp [List.getD,hk]]
  exact List.all_eq_true.1 h _ (List.getElem_mem hk)
 rw [yL oo_];exact dm_ B0
theorem Po.get (h:Po p c) (k:Nat):p.getD k I0=E (Z.of (c k)):=by rw [← h.c k];exact (ck_ (UB h.g k)).1
theorem Po.B (h:Po p c) (k:Nat):iE (c k):=by rw [← h.c k];exact (ck_ (UB h.g k)).2
theorem Po.zero (h:Po p c) {k:Nat} (hk:p.length≤k):c k=0:=by rw [← h.c k,yL hk,vI0]
theorem Po.last (h:Po p c) {n:Nat} (hn:p.length=n+1):c n≠0:=by
 rcases zK p with rfl|⟨m,x,rfl⟩
 ·cases hn
 have h1:=TQ h.s
 have h2:n=m.length:=by simp at hn;omega
 have h3:=h.get n;rw [show (m++[x]).getD n I0=x by simp [h2]] at h3;rw [h3,fU_ (h.B n)] at h1;exact of_decide_eq_false h1
theorem Po.short (h:Po p c) {n:Nat} (hz:∀ k,n≤k→c k=0):p.length≤n:=by
 rcases Nat.lt_or_ge n p.length with g|g
 ·exact absurd (hz (p.length - 1) oo_) (h.last oo_)
 exact g
theorem Po.eq (h:Po p c) (g:Po q c):p=q:=by
 have e:p.length=q.length:=Nat.le_antisymm (h.short fun k hk=>g.zero hk) (g.short fun k hk=>h.zero hk);refine List.ext_getElem e fun k h1 h2=>?_;have a:=h.get k;rw [← g.get k] at a
 simpa [List.getD,h1,h2] using a
theorem Po.cast (h:Po p c) (e:∀ k,c k=d k):Po p d:=⟨h.g,h.s,h.l,fun k=>(h.c k).trans (e k)⟩
theorem R2:Po [] (fun _=>0):=⟨rfl,rfl,by decide,fun k=>by rw [show ([]:List I).getD k I0=I0 by simp];exact vI0⟩
theorem Po.nil (h:Po p c) (hz:∀ k,c k=0):p=[]:=(h.cast hz).eq R2
theorem F9:∀ (n:Nat) (l:List I),l.length≤n→∀ k,(oA l).length≤k→zrI (l.getD k I0)=true
 | 0,l,h,k,_=>by
  rw [yL oo_];exact zr0
 | n+1,l,h,k,hk=>by
  rcases zK l with rfl|⟨m,x,rfl⟩
  ·rw [show ([]:List I).getD k I0=I0 by simp];exact zr0
  rw [xI] at hk
  cases hx:zrI x
  ·rw [hx,cond_false] at hk
   rw [yL hk];exact zr0
  rw [hx,cond_true] at hk;rcases Nat.lt_trichotomy k m.length with g|g|g
  ·rw [show (m++[x]).getD k I0=m.getD k I0 by simp [List.getD,List.getElem?_append_left g]]
   exact F9 n m (by simp at h;omega) k hk
  ·rw [show (m++[x]).getD k I0=x by simp [g]];exact hx
  rw [yL (by simp;omega)];exact zr0
theorem ZI {l:List I} (h:∀ k,l.getD k I0=E (Z.of (c k))) (hB:∀ k,iE (c k)) (hz:∀ k,25≤k→c k=0):Po (mkP l) c:=by
 have hg:l.all gdI=true:=List.all_eq_true.2 fun x hx=>by
  obtain ⟨k,hk,rfl⟩:=List.getElem_of_mem hx;have e:=h k;rw [show l.getD k I0=l[k] by simp [List.getD,hk]] at e;rw [e];exact dm_ (hB k)
 have hl:(oA l).length≤25:=HP _ l (Nat.le_refl _) fun j hj=>by rw [h j,hz j hj];exact zr0
 have e:mkP l=oA l:=by unfold mkP;rw [hg,cond_true,if_pos hl]
 rw [e];refine ⟨ND hg,KQ l,hl,fun k=>?_⟩
 by_cases hk:k<(oA l).length
 ·have e2:(oA l).getD k I0=l.getD k I0:=by
   rw [yU l];simp only [List.getD,List.getElem?_take,hk,if_true]
  rw [e2,h k,el_ (hB k)]
 have:=F9 _ l (Nat.le_refl _) k oo_;rw [h k,fU_ (hB k)] at this;rw [yL oo_,vI0,of_decide_eq_true this]
theorem at_ (f:Nat→I) (n k:Nat):((List.range n).map f).getD k I0=if k<n then f k else I0:=by
 by_cases h:k<n<;>simp [List.getD,h]
theorem as_ {f:Nat→I} {n:Nat} (h:∀ k,k<n→f k=E (Z.of (c k))) (h0:∀ k,n≤k→c k=0) (hB:∀ k,iE (c k)) (hz:∀ k,25≤k→c k=0):Po (mkP ((List.range n).map f)) c:=by
 refine ZI (fun k=>?_) hB hz;rw [at_]
 split
 ·exact h k ‹_›
 rw [h0 k oo_];rfl
theorem Po.l3 (h:Po p c):p.length≤1000:=Nat.le_trans h.l dd_
theorem Po.nb (h:Po p c):gY p=false:=by rw [BT h.l3,h.g];rfl
theorem N9 {e:Nat→Int} {f:I→I→I} (h:Po p c) (g:Po q d) (hf:∀ k,f (E (Z.of (c k))) (E (Z.of (d k)))=E (Z.of (e k))) (hB:∀ k,iE (e k)) (h0:∀ k,c k=0→d k=0→e k=0):Po (k8 p q f) e:=by
 rw [IK f h.l3 g.l3,h.g,g.g,Bool.and_true,cond_true];have hl:=h.l;have gl:=g.l;refine as_ (fun k _=>?_) (fun k hk=>?_) hB (fun k hk=>?_)
 ·rw [h.get,g.get,hf]
 ·exact h0 k (h.zero oo_) (g.zero oo_)
 exact h0 k (h.zero oo_) (g.zero oo_)
theorem cK_ (h:Po p c) (g:Po q d) (hB:∀ k,iE (c k+d k)):Po (bL p q) (fun k=>c k+d k) :=
 N9 h g (fun k=>by rw [fA,fA,NX (h.B k) (g.B k)]) hB (fun k h1 h2=>by rw [h1,h2];rfl)
theorem cW_ (h:Po p c) (g:Po q d) (hB:∀ k,iE (c k - d k)):Po (pX p q) (fun k=>c k - d k) :=
 N9 h g (fun k=>by rw [fA,fA,d5_ (h.B k) (g.B k)]) hB (fun k h1 h2=>by rw [h1,h2];rfl)
theorem XN {a:Int} (h:Po p c) (ha:iE a) (hB:∀ k,iE (c k*a)):Po (cX p (E (Z.of a))) (fun k=>c k*a):=by
 unfold cX;rw [show rB (E (Z.of a))=true from dm_ ha,cond_true];exact N9 h R2 (fun k=>by unfold rS;rw [fA,fA,BX (h.B k) ha]) hB (fun k h1 _=>by rw [h1,Int.zero_mul])
theorem ZJ (h:Po p c) (g:Po q d) (k:Nat) (hs:∀ t,iE (wW (fun i=>c i*d (k - i)) t)) (hm:∀ i j,iE (c i*d j)) :
  ∀ (t i:Nat),k+1 - i<t→i≤k+1→(iK k q p t i (E (Z.of (wW (fun i=>c i*d (k - i)) i)))).2=E (Z.of (conv c d k))
 | 0,i,ht,_=>absurd ht (Nat.not_lt_zero _)
 | t+1,i,ht,hi=>by
  unfold iK;have e:∀ a b,a≤b→p.length≤a→wW (fun i=>c i*d (k - i)) b=wW (fun i=>c i*d (k - i)) a:=fun a b hab hpa =>
   G0 (fun j hj=>by rw [h.zero oo_,Int.zero_mul]) b hab
  by_cases hk:(i:Int)≤min (k:Int) ((p.length:Int) - 1)
  ·rw [decide_eq_true hk,cond_true,h.get,g.get,fA,fA,fA,BX (h.B _) (g.B _),NX (hs _) (hm _ _)]
   exact ZJ h g k hs hm t (i+1) oo_ oo_
  rw [decide_eq_false hk,cond_false]
  show E (Z.of _)=E (Z.of (wW _ (k+1)))
  rcases Nat.lt_or_ge i (k+1) with h1|h1
  ·rw [← e i (k+1) oo_ oo_]
  rw [show i=k+1 by omega]
theorem cU_ (h:Po p c) (g:Po q d) (hs:∀ k t,iE (wW (fun i=>c i*d (k - i)) t)) (hm:∀ i j,iE (c i*d j)) (hl:p.length+q.length≤26):Po (bF p q) (conv c d):=by
 unfold bF;rw [h.nb,g.nb,Bool.or_false,cond_false]
 by_cases h0:p=[]
 ·subst h0
  rw [show (((([]:List I).length:Int)==0)||((q.length:Int)==0))=true by simp,cond_true];exact R2.cast fun k=>Eq.symm (BG fun i _=>by rw [h.zero (Nat.zero_le _),Int.zero_mul])
 by_cases g0:q=[]
 ·subst g0
  rw [show (((p.length:Int)==0)||((([]:List I).length:Int)==0))=true by simp,cond_true];refine R2.cast fun k=>Eq.symm (BG fun i _=>?_);rw [g.zero (Nat.zero_le _),Int.mul_zero]
 have h1:0<p.length:=List.length_pos_iff.2 h0;have h2:0<q.length:=List.length_pos_iff.2 g0
 rw [show (((p.length:Int)==0)||((q.length:Int)==0))=false by
  rw [Bool.or_eq_false_iff];exact ⟨beq_eq_false_iff_ne.2 oo_,beq_eq_false_iff_ne.2 oo_⟩,cond_false,zA]
 have hz:∀ k,p.length+q.length≤k+1→conv c d k=0:=fun k hk=>MC (fun i hi=>h.zero hi) (fun i hi=>g.zero hi) k hk;refine as_ (fun k _=>?_) (fun k hk=>hz k oo_) (fun k=>hs k (k+1)) (fun k hk=>hz k oo_);unfold nJ
 show (iK _ _ _ _ _ _).2=_
 rw [show I0=E (Z.of (wW (fun i=>c i*d (k - i)) ((k:Int) - (q.length:Int)+1).toNat)) by
  rw [BG fun i hi=>by rw [g.zero oo_,Int.mul_zero]];rfl]
 exact ZJ h g k (hs k) hm _ _ oo_ oo_
theorem aI_ {v:Int} {k:Nat} (m:Nat) (hm:4294967296 ^ 16=2 ^ m) (h:v.natAbs<2 ^ k) (hk:k≤m):iE v:=by
 unfold iE;rw [hm];exact Nat.lt_of_lt_of_le h (Nat.pow_le_pow_right dd_ hk)
theorem y5 {v:Int} {k:Nat} (h:v.natAbs<2 ^ k) (hk:k≤512):iE v:=aI_ 512 EK h hk
structure Bd (c:Nat→Int) (n b:Nat):Prop where
 z:∀ k,n≤k→c k=0
 b:∀ k,(c k).natAbs<2 ^ b
variable {n m b b':Nat}
theorem Bd.mono (h:Bd c n b) {n' b1:Nat} (hn:n≤n') (hb:b≤b1):Bd c n' b1:=⟨fun k hk=>h.z k oo_,fun k=>Nat.lt_of_lt_of_le (h.b k) (Nat.pow_le_pow_right dd_ hb)⟩
theorem Bd.B (h:Bd c n b) (hb:b≤512) (k:Nat):iE (c k):=y5 (h.b k) hb
theorem Bd.add (h:Bd c n b) (g:Bd d m b):Bd (fun k=>c k+d k) (max n m) (b+1) :=
 ⟨fun k hk=>by show c k+d k=0;rw [h.z k oo_,g.z k oo_];rfl,fun k=>by
  show (c k+d k).natAbs<_
  have h1:=h.b k;have h2:=g.b k;have h3:=Int.natAbs_add_le (c k) (d k)
  rw [Nat.pow_succ];omega⟩
theorem wM {u v:Int} (h:u.natAbs<2 ^ b) (g:v.natAbs<2 ^ b'):(u*v).natAbs<2 ^ (b+b'):=by
 rw [Int.natAbs_mul,Nat.pow_add];exact Nat.mul_lt_mul_of_lt_of_le h (Nat.le_of_lt g) (Nat.pow_pos dd_)
theorem aq_ {f:Nat→Int} {A:Nat} (h:∀ i,(f i).natAbs≤A):∀ t:Nat,(wW f t).natAbs≤t*A
 | 0=>by simp [wW]
 | t+1=>by
  have h1:=aq_ h t;have h2:=h t;have h3:=Int.natAbs_add_le (wW f t) (f t);rw [Nat.succ_mul];show (wW f t+f t).natAbs≤_;omega
theorem ap_ {f:Nat→Int} {e:Nat} (h:∀ i,(f i).natAbs<2 ^ b) (hz:∀ i,n≤i→f i=0) (hn:n≤2 ^ e) (t:Nat):(wW f t).natAbs<2 ^ (b+e):=by
 have hb:0<2 ^ b:=Nat.pow_pos dd_
 have k1:∀ t,t≤n→(wW f t).natAbs<2 ^ (b+e):=fun t ht=>by
  have h1:=aq_ (f:=f) (A:=2 ^ b - 1) (fun i=>by have:=h i;omega) t;have h2:t*(2 ^ b - 1)≤2 ^ e*(2 ^ b - 1):=Nat.mul_le_mul_right _ oo_;have h3:2 ^ e*(2 ^ b - 1)<2 ^ e*2 ^ b:=Nat.mul_lt_mul_of_pos_left oo_ (Nat.pow_pos dd_);rw [Nat.pow_add,Nat.mul_comm (2 ^ b)];omega
 rcases Nat.lt_or_ge n t with g|g
 ·rw [G0 hz t oo_];exact k1 n (Nat.le_refl _)
 exact k1 t g
theorem MB (h:Bd c n b) (g:Bd d m b') {e:Nat} (hn:n≤2 ^ e) (k t:Nat):(wW (fun i=>c i*d (k - i)) t).natAbs<2 ^ (b+b'+e) :=
 ap_ (n:=n) (fun i=>wM (h.b _) (g.b _)) (fun i hi=>by rw [h.z i hi,Int.zero_mul]) hn t
theorem Bd.conv (h:Bd c n b) (g:Bd d m b') {e:Nat} (hn:n≤2 ^ e):Bd (conv c d) (n+m - 1) (b+b'+e) :=
 ⟨fun k hk=>MC h.z g.z k oo_,fun k=>MB h g hn k (k+1)⟩
theorem Po.len (h:Po p c) (hb:Bd c n b):p.length≤n:=h.short hb.z
theorem cT_ (h:Po p c) (g:Po q d) (hb:Bd c n b) (gb:Bd d m b') {e:Nat} (hn:n≤2 ^ e) (hl:n+m≤26) (hk:b+b'+e≤512):Po (bF p q) (conv c d) :=
 cU_ h g (fun k t=>y5 (MB hb gb hn k t) hk) (fun i j=>y5 (wM (hb.b i) (gb.b j)) oo_) (by have:=h.len hb;have:=g.len gb;omega)
theorem cJ_ (h:Po p c) (g:Po q d) (hb:Bd c n b) (gb:Bd d m b) (hk:b+1≤512):Po (bL p q) (fun k=>c k+d k) :=
 cK_ h g fun k=>y5 ((hb.add gb).b k) hk
end
open Go Go.Kn
theorem XL (l:List I):xV l=cY l:=by rw [OJ,A0]
def pw (d:I):Nat→I
 | 0=>E (Z.of 1)
 | k+1=>E (Z.mul (pw d k).dec d.dec)
theorem TD (n:Nat) (f:Nat→I):(List.range (n+1)).map f=(List.range n).map f++[f n]:=by rw [List.range_succ,List.map_append];rfl
theorem MU (d:I) (n:Int):∀ (k m:Nat),n.toNat - (m+1)<k→j8 d n k ((List.range (m+1)).map (pw d))=(List.range (max n.toNat (m+1))).map (pw d)
 | 0,m,h=>absurd h (Nat.not_lt_zero _)
 | k+1,m,h=>by
  unfold j8
  have hl:((List.range (m+1)).map (pw d)).length=m+1:=by simp
  by_cases hc:((m+1:Nat):Int)<n
  ·rw [hl,decide_eq_true hc,cond_true]
   have e1:((List.range (m+1)).map (pw d)).getD (m+1 - 1) I0=pw d m:=by simp [List.getD]
   rw [e1,show E (Z.mul (pw d m).dec d.dec)=pw d (m+1) from rfl,← TD,MU d n k (m+1) oo_];rw [show max n.toNat (m+1+1)=max n.toNat (m+1) by omega]
  rw [hl,decide_eq_false hc,cond_false,show max n.toNat (m+1)=m+1 by omega]
theorem WP (d:I) (n:Int):gO d n=(List.range (max n.toNat 1)).map (pw d):=MU d n _ 0 oo_
theorem Q2 (d:I) (k:Int):∀ (f i:Nat),k.toNat - i<f→i≤k.toNat→(i5 d k f i (pw d i)).2=pw d k.toNat
 | 0,i,h,_=>absurd h (Nat.not_lt_zero _)
 | f+1,i,h,hi=>by
  unfold i5
  by_cases hc:(i:Int)<k
  ·rw [decide_eq_true hc,cond_true]
   exact Q2 d k f (i+1) oo_ oo_
  rw [decide_eq_false hc,cond_false,show k.toNat=i by omega]
theorem PQ (d:I) (k:Int):gS d k=pw d k.toNat:=Q2 d k _ 0 oo_ (Nat.zero_le _)
theorem JY (d:I) (n:Int) {k:Nat} (h:k<max n.toNat 1):(gO d n).getD k I0=pw d k:=by
 rw [WP];simp [List.getD,h]
theorem K0 (p:List I) (x:Rt):∀ (f:Nat) (i:Int) (m:I),i<(p.length:Int)→(mU p x f i m).2=(i6 p x f i m).2
 | 0,i,m,h=>rfl
 | f+1,i,m,h=>by
  unfold mU i6
  by_cases hi:0≤i
  ·rw [decide_eq_true hi]
   simp only [cond_true];rw [JY _ _ (show p.length - 1 - i.toNat<max (p.length:Int).toNat 1 by omega),PQ,show ((p.length:Int) - 1 - i).toNat=p.length - 1 - i.toNat by omega];exact K0 p x f (i - 1) _ oo_
  rw [decide_eq_false hi];rfl
theorem cj_ (x:Rt):vL [x]=eE x:=by
 unfold vL vC uK
 have e:oB [x] (fun y=>rJ y) ([x].length+1) 0=bif eE x then .inl 1 else .inr (W.cv 0):=by
  show (bif rJ x then _ else _)=_
  unfold rJ
  cases eE x<;>rfl
 rw [e]
 cases eE x<;>rfl
theorem cC_ (x:Rt):lN x=eE x:=by
 unfold lN eE
 show (bif (!gdI x.n||(!gdI x.d||_)) then _ else _)=(gdI x.n&&(gdI x.d&&_))
 cases gdI x.n
 ·rfl
 ·cases gdI x.d
  ·rfl
  by_cases h:(Z.signW x.d.dec).1≤0
  ·rw [decide_eq_true h,decide_eq_false (show ¬ 0<(Z.signW x.d.dec).1 by omega)];rfl
  rw [decide_eq_false h,decide_eq_true (show 0<(Z.signW x.d.dec).1 by omega)];simp only [Bool.not_true,Bool.or_self,cond_false,Bool.true_and];rfl
theorem VP {p:List I} (x:Rt) (hp:p.length≤1000):(kP p x).1=iG p x:=by
 unfold kP iG;rw [BT hp,yI,cj_,cC_]
 cases (!p.all gdI || !eE x)
 ·simp only [cond_false,ap]
  exact K0 p x _ _ _ oo_
 rfl
theorem FF {p:List I} (x:Rt) (hp:p.length≤1000):iR p x=gL p x:=by
 unfold iR gL;rw [VP x hp];simp only;rw [FE,PQ,Int.toNat_natCast];unfold kP iG;rw [BT hp,yI,cj_,cC_]
 cases (!p.all gdI || !eE x)
 ·simp only [cond_false,ap]
  rw [JY _ _ oo_]
 simp only [cond_true];rw [GS,GS]
def vl (c:Nat→Rat) (x:Rat) (n:Nat):Rat:=wW (fun i=>c i*x ^ i) n
def hv (c:Nat→Int) (N D:Int) (L:Nat):Nat→Int
 | 0=>0
 | t+1=>hv c N D L t*N+c (L - 1 - t)*D ^ t
section
variable {c:Nat→Int} {N D:Int} {L:Nat}
theorem Y0 {b s:Nat} (hc:∀ k,(c k).natAbs<2 ^ b) (hN:N.natAbs<2 ^ s) (hD:D.natAbs<2 ^ s):∀ t:Nat,(hv c N D L t).natAbs≤t*2 ^ (b+s*t)
 | 0=>by simp [hv]
 | t+1=>by
  have ih:=Y0 hc hN hD t
  have h1:(hv c N D L t*N).natAbs≤t*2 ^ (b+s*t)*2 ^ s:=by
   rw [Int.natAbs_mul];exact Nat.mul_le_mul ih (Nat.le_of_lt hN)
  have h2:(c (L - 1 - t)*D ^ t).natAbs≤2 ^ b*2 ^ (s*t):=by
   rw [Int.natAbs_mul,Int.natAbs_pow,Nat.pow_mul];exact Nat.mul_le_mul (Nat.le_of_lt (hc _)) (Nat.pow_le_pow_left (Nat.le_of_lt hD) t)
  have h3:=Int.natAbs_add_le (hv c N D L t*N) (c (L - 1 - t)*D ^ t)
  have h4:(2:Nat) ^ b*2 ^ (s*t)≤2 ^ (b+s*(t+1)):=by
   rw [← Nat.pow_add];exact Nat.pow_le_pow_right dd_ (by rw [Nat.mul_succ];omega)
  have h5:t*2 ^ (b+s*t)*2 ^ s=t*2 ^ (b+s*(t+1)):=by
   rw [Nat.mul_assoc,← Nat.pow_add,Nat.mul_succ,Nat.add_assoc]
  rw [Nat.succ_mul];show (hv c N D L t*N+c (L - 1 - t)*D ^ t).natAbs≤_;omega
structure Room (c:Nat→Int) (N D:Int) (L:Nat):Prop where
 h:∀ t,t≤L→iE (hv c N D L t)
 m:∀ t,t<L→iE (hv c N D L t*N)
 p:∀ t,t<L→iE (D ^ t)
 q:∀ t,t<L→iE (c (L - 1 - t)*D ^ t)
theorem gr_ {b s n e:Nat} (hc:∀ k,(c k).natAbs<2 ^ b) (hN:N.natAbs<2 ^ s) (hD:D.natAbs<2 ^ s) (hL:L≤n) (hn:n≤2 ^ e) (h:b+s*n+e+1≤512):Room c N D L:=by
 have hp:(2:Nat) ^ (b+s*n+e+1)=2*(2 ^ e*2 ^ (b+s*n)):=by rw [Nat.pow_succ,Nat.add_comm _ e,Nat.pow_add];omega
 have h0:0<2 ^ e*2 ^ (b+s*n):=Nat.mul_pos (Nat.pow_pos dd_) (Nat.pow_pos dd_);have k1:∀ t,t≤n→t*2 ^ (b+s*t)≤2 ^ e*2 ^ (b+s*n):=fun t ht =>
  Nat.mul_le_mul oo_ (Nat.pow_le_pow_right dd_ (by have:=Nat.mul_le_mul_left s ht;omega))
 have k2:∀ t,t<n→(2:Nat) ^ (s*t)≤2 ^ (b+s*n):=fun t ht=>Nat.pow_le_pow_right dd_ (by have:=Nat.mul_le_mul_left s (Nat.le_of_lt ht);omega);have he:1≤2 ^ e:=Nat.pow_pos dd_
 have kD:∀ t,(D ^ t).natAbs≤2 ^ (s*t):=fun t=>by rw [Int.natAbs_pow,Nat.pow_mul];exact Nat.pow_le_pow_left (Nat.le_of_lt hD) t
 have k0:2 ^ (b+s*n)≤2 ^ e*2 ^ (b+s*n):=Nat.le_mul_of_pos_left _ he;refine ⟨fun t ht=>y5 (k:=b+s*n+e+1) ?_ h,fun t ht=>y5 (k:=b+s*n+e+1) ?_ h,fun t ht=>y5 (k:=b+s*n+e+1) ?_ h,fun t ht=>y5 (k:=b+s*n+e+1) ?_ h⟩
 ·have:=Y0 (L:=L) hc hN hD t
  have:=k1 t oo_;omega
 ·have h1:=Y0 (L:=L) hc hN hD t
  have h2:=k1 (t+1) oo_
  have h3:(hv c N D L t*N).natAbs≤t*2 ^ (b+s*t)*2 ^ s:=by
   rw [Int.natAbs_mul];exact Nat.mul_le_mul h1 (Nat.le_of_lt hN)
  have h5:t*2 ^ (b+s*t)*2 ^ s=t*2 ^ (b+s*(t+1)):=by
   rw [Nat.mul_assoc,← Nat.pow_add,Nat.mul_succ,Nat.add_assoc]
  rw [Nat.succ_mul] at h2;have h6:0<2 ^ (b+s*(t+1)):=Nat.pow_pos dd_;omega
 ·have:=kD t
  have:=k2 t oo_;omega
 have h2:(c (L - 1 - t)*D ^ t).natAbs≤2 ^ b*2 ^ (s*t):=by
  rw [Int.natAbs_mul];exact Nat.mul_le_mul (Nat.le_of_lt (hc _)) (kD t)
 have h3:(2:Nat) ^ b*2 ^ (s*t)≤2 ^ (b+s*n):=by
  rw [← Nat.pow_add];exact Nat.pow_le_pow_right dd_ (by have:=Nat.mul_le_mul_left s (Nat.le_of_lt (show t<n by omega));omega)
 omega
variable {p:List I} {x:Rt}
end
open Go Go.Kn
section
variable {p q:List I} {c d:Nat→Int}
theorem Po.mem (h:Po p c) {x:I} (hx:x∈p):∃ k,vI x=c k:=by
 obtain ⟨k,hk,rfl⟩:=List.getElem_of_mem hx;refine ⟨k,?_⟩;rw [← h.c k]
 simp [List.getD,hk]
def lin (u v:Int) (k:Nat):Int:=if k=0 then u else if k=1 then v else 0
theorem dx_ {u v:Int} (hu:iE u) (hv:iE v):Po (xV [E (Z.of u),E (Z.of v)]) (lin u v):=by
 rw [OJ];refine ZI (fun k=>?_) (fun k=>?_) fun k hk=>?_
 ·match k with
  | 0=>rfl
  | 1=>rfl
  | k+2=>rw [yL (by simp)];unfold lin;rw [if_neg oo_,if_neg oo_];rfl
 ·unfold lin;split
  ·exact hu
  split
  ·exact hv
  exact B0
 unfold lin;rw [if_neg oo_,if_neg oo_]
theorem dw_ {u v:Int} {b:Nat} (hu:u.natAbs<2 ^ b) (hv:v.natAbs<2 ^ b):Bd (lin u v) 2 b :=
 ⟨fun k hk=>by unfold lin;rw [if_neg oo_,if_neg oo_],fun k=>by
  unfold lin;split
  ·exact hu
  split
  ·exact hv
  exact Nat.pow_pos dd_⟩
variable {u v W:Int} {L:Nat}
end
end Go.Num
