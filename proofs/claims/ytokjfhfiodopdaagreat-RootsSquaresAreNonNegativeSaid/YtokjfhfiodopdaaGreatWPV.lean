/- Lemmas: what they ask stands in their statements. -/
import Derived.Test.YtokjfhfiodopdaaGreatWYu
set_option linter.unusedSimpArgs false
set_option linter.unusedVariables false
namespace Go.Num
open Go Go.Kn
theorem KK {u g:Int} (hu:cZ u) (hg:0<g):cZ (u / g):=by
  unfold cZ at *;have h1:=Int.mul_ediv_add_emod u g;have h2:=Int.emod_nonneg u (by omega:g≠0);have h3:=Int.emod_lt_of_pos u hg
  have h4:(u / g).natAbs≤u.natAbs:=by
    rcases Int.lt_or_le u 0 with h | h
    · have h5:u / g<0:=Int.ediv_neg_of_neg_of_pos h hg
      have h6:u≤u / g:=by
        have h7:g * (u / g)≤u / g:=by
          have:=Int.mul_le_mul_of_nonpos_right (show (1:Int)≤g by omega) (Int.le_of_lt h5);omega
        have h8:u<g * (u / g)+g:=by omega
        rcases Int.lt_or_le u (g * (u / g)) with h9 | h9
        · omega
        have h10:(g - 1) * (u / g) ≤ -(g - 1):=by
          have:=Int.mul_le_mul_of_nonneg_left (show u / g ≤ -1 by omega) (show 0≤g - 1 by omega);omega
        have h11:g * (u / g)=(g - 1) * (u / g)+u / g:=by rw [Int.sub_mul];omega
        omega
      omega
    have h5:0≤u / g:=Int.ediv_nonneg h oo_;have h6:u / g≤u:=Int.ediv_le_self _ h;omega
  omega
theorem KM {u g:Int} (hg:0<g) (hb:cZ g):cZ (u % g):=by
  unfold cZ at *;have h2:=Int.emod_nonneg u (by omega:g≠0);have h3:=Int.emod_lt_of_pos u hg;omega
theorem TF {u v:Int} (hu:cZ u) (hv:cZ v) (h:0<v):Z.rem (Z.of u) (Z.of v)=Z.of (u % v):=by
  rw [Z.rem,cY (Z.of_some hu) (Z.of_some hv),if_neg oo_,Int.fmod_eq_emod_of_nonneg _ oo_]
theorem xB {u v:Int} (hu:cZ u) (hv:cZ v) (h:0<v):Z.quo (Z.of u) (Z.of v)=Z.of (u / v):=by
  rw [C8 hu hv oo_,FO h]
theorem KE {u v:Int} (hu:cZ u) (hv:cZ v):(Z.cmpW (Z.of u) (Z.of v)).1=(u - v).sign:=by
  show Z.cmp _ _=_
  unfold Z.cmp;rw [Z.of_some hu,Z.of_some hv];simp only;rcases Int.lt_trichotomy u v with h | h | h
  · rw [u6 h,Int.sign_eq_neg_one_of_neg oo_]
  · subst h;rw [BH,Int.sub_self];rfl
  rw [u5 h,Int.sign_eq_one_of_pos oo_]
theorem BD {n:Int} (h:-4≤n∧n≤4):IntKind.i64.wrap n=n:=wi ⟨by omega,by omega⟩
theorem CC (x:Int):-1≤x.sign∧x.sign≤1:=by
  rcases Int.lt_trichotomy x 0 with h | h | h
  · rw [Int.sign_eq_neg_one_of_neg h];omega
  · subst h;decide
  rw [Int.sign_eq_one_of_pos h];omega
theorem ce_ {o x:W} (ho:o.1=1∨o.1 = -1) (hx:-2≤x.1∧x.1≤2):(W.mul o x).1=o.1 * x.1:=by
  show IntKind.i64.wrap (o.1 * x.1)=_
  refine BD ?_;rcases ho with h | h <;> rw [h] <;> omega
theorem cf_ {o:W} (ho:o.1=1∨o.1 = -1):(W.neg o).1 = -o.1:=by
  show IntKind.i64.wrap (0 - o.1)=_
  rw [BD oo_];omega
theorem ZT {b d p r s:Int} (hb:0<b) (hd:0<d) (h0:p≠0) (hr:0≤r) (hrb:r<b) (hs:0≤s) (hsd:s<d):(b * d * p+(r * d - s * b)).sign=p.sign:=by
  have hbd:0<b * d:=Int.mul_pos hb hd;have h1:r * d<b * d:=Int.mul_lt_mul_of_pos_right hrb hd;have h2:s * b<d * b:=Int.mul_lt_mul_of_pos_right hsd hb;have h3:0≤r * d:=Int.mul_nonneg hr oo_;have h4:0≤s * b:=Int.mul_nonneg hs oo_;rw [Int.mul_comm d b] at h2;rcases Int.lt_trichotomy p 0 with h | h | h
  · rw [Int.sign_eq_neg_one_of_neg h,Int.sign_eq_neg_one_of_neg]
    have:b * d * p≤b * d * (-1):=Int.mul_le_mul_of_nonneg_left oo_ oo_;omega
  · exact absurd h h0
  rw [Int.sign_eq_one_of_pos h,Int.sign_eq_one_of_pos];have:b * d * 1≤b * d * p:=Int.mul_le_mul_of_nonneg_left oo_ oo_;omega
theorem aK_:∀ (k:Nat) (o:W) (a b c d:Int),b.toNat≤k→0<b→0<d→cZ a→cZ b→cZ c→cZ d→(o.1=1∨o.1 = -1) →
    (cf k o (E (Z.of a)) (E (Z.of b)) (E (Z.of c)) (E (Z.of d))).1=o.1 * (a * d - c * b).sign:=by
  intro k
  induction k with
  | zero=>intro o a b c d hk hb;omega
  | succ k ih =>
    intro o a b c d hk hb hd ha hb' hc hd' ho;unfold cf;simp only [bZ];rw [xB ha hb' hb,xB hc hd' hd,TF ha hb' hb,TF hc hd' hd,kN (KM hb hb'),kN (KM hd hd'),KE (KK ha hb) (KK hc hd)];have e1:=Int.mul_ediv_add_emod a b;have e2:=Int.mul_ediv_add_emod c d;have r1:=Int.emod_nonneg a (by omega:b≠0);have r2:=Int.emod_lt_of_pos a hb;have s1:=Int.emod_nonneg c (by omega:d≠0);have s2:=Int.emod_lt_of_pos c hd;have hrB:=KM (u:=a) hb hb';have hsB:=KM (u:=c) hd hd';have hpB:=KK ha hb;have hqB:=KK hc hd;generalize hp:a / b=p at *;generalize hr:a % b=r at *;generalize hq:c / d=q at *;generalize hs:c % d=s at *
    have key:a * d - c * b=b * d * (p - q)+(r * d - s * b):=by
      rw [← e1,← e2];grind
    rw [key]
    by_cases hpq:p=q
    · have h1:(p - q).sign=0:=by rw [hpq,Int.sub_self];rfl
      have h2:b * d * (p - q)+(r * d - s * b)=r * d - s * b:=by rw [hpq];grind
      rw [h1,h2];have h3:((0:Int) != 0)=false:=rfl;rw [h3];simp only [cond_false]
      by_cases h0:r=0∨s=0
      · have h4:((r.sign==0)||(s.sign==0))=true:=by
          rcases h0 with h | h <;> subst h <;> simp
        rw [h4];simp only [cond_true];have h5:=CC r;have h6:=CC s
        have e5:(W.sub (Z.signW (Z.of r)) (Z.signW (Z.of s))).1=r.sign - s.sign:=by
          show IntKind.i64.wrap ((Z.signW (Z.of r)).1 - (Z.signW (Z.of s)).1)=_
          rw [kN hrB,kN hsB];exact BD oo_
        rw [ce_ ho (by rw [e5];omega),e5]
        congr 1
        rcases h0 with h | h
        · subst h
          rw [Int.zero_mul,Int.zero_sub,Int.sign_neg,Int.sign_mul,Int.sign_eq_one_of_pos hb];simp
        subst h;rw [Int.zero_mul,Int.sub_zero,Int.sign_mul,Int.sign_eq_one_of_pos hd];simp
      have hr0:0<r:=by omega
      have hs0:0<s:=by omega
      have h4:((r.sign==0)||(s.sign==0))=false:=by
        rw [Int.sign_eq_one_of_pos hr0,Int.sign_eq_one_of_pos hs0];rfl
      rw [h4];simp only [cond_false];rw [ih _ _ _ _ _ oo_ hr0 hs0 hb' hrB hd' hsB (by rw [cf_ ho];omega),cf_ ho]
      have:b * s - d * r = -(r * d - s * b):=by grind
      rw [this,Int.sign_neg,Int.neg_mul_neg]
    have h1:((p - q).sign != 0)=true:=by
      rcases Int.lt_trichotomy (p - q) 0 with h | h | h
      · rw [Int.sign_eq_neg_one_of_neg h];rfl
      · omega
      rw [Int.sign_eq_one_of_pos h];rfl
    rw [h1];simp only [cond_true];rw [ce_ ho (by rw [KE hpB hqB];have:=CC (p - q);omega),KE hpB hqB];rw [ZT hb hd oo_ r1 r2 s1 s2]
theorem c2_ {d:Int} (h:cZ d):cfN (E (Z.of d))=d.toNat:=by
  unfold cfN;rw [bZ,Z.of_some h]
theorem zC {a:Rt} {n d:Int} (h:a.Is n d):aP a=true:=er_.2 ⟨n,d,h⟩
theorem cD_ {a b:Rt} {n d m e:Int} (ha:a.Is n d) (hb:b.Is m e):(i6 a b).1=(n * e - m * d).sign:=by
  unfold i6;rw [mM,mM,zC ha,zC hb];simp only [Bool.not_true,Bool.and_false,cond_true,cond_false];rw [ha.en,ha.ed,hb.en,hb.ed,c2_ ha.hd,aK_ _ _ _ _ _ _ (Nat.le_refl _) ha.pos hb.pos ha.hn ha.hd hb.hn hb.hd (.inl rfl)];exact Int.one_mul _
theorem JP (a b:Rt):i6 a b=eC a b:=by
  unfold i6 eC fC;rw [mM,mM]
  cases aP a <;> cases aP b <;> simp only [Bool.not_true,Bool.not_false,Bool.or_true,Bool.true_or,Bool.or_false,Bool.and_true,Bool.and_false,Bool.false_and,Bool.true_and,cond_true,cond_false,bZ] <;> rfl
theorem RH (a b:W):pJ a b=d6 a b:=rfl
theorem JR (a b:Rt):aE a b=kQ a b:=by unfold aE kQ;rw [PN,VU,RH]
theorem cL_ {a:Rt} {n d:Int} (h:a.Is n d):Rt.Is (fA a) (-n) d:=by
  have e:fA a=⟨E (Z.of (-n)),E (Z.of d)⟩:=by
    unfold fA;rw [zC h,h.en,h.ed,bZ,QL h.hn];rfl
  rw [e];refine ⟨rfl,rfl,?_,h.hd,h.pos,by rw [Int.neg_gcd];exact h.cop⟩;have:=h.hn;unfold cZ at *;rw [Int.natAbs_neg];exact this
theorem es_ {a:Rt} (h:aP a=true):∃ n d,Rt.Is a n d:=er_.1 h
theorem ZV {x:Int}:x.sign≤0 ↔ x≤0:=Int.sign_nonpos_iff
theorem ZU {x:Int}:0<x.sign ↔ 0<x:=Int.sign_pos_iff
structure Iv.Is (a:Iv) (n d m e:Int):Prop where
  lo:a.lo.Is n d
  hi:a.hi.Is m e
  le:n * e≤m * d
def Rt.At (a:Rt) (q:Rat):Prop:=a.Is q.num (q.den:Int)
theorem bR_ {a:Rt} {n d:Int} (h:a.Is n d):∃ q:Rat,a.At q∧q.num=n∧(q.den:Int)=d:=by
  have hd:(d.toNat:Int)=d:=Int.toNat_of_nonneg (Int.le_of_lt h.pos)
  have hc:n.natAbs.Coprime d.toNat:=by
    have:=h.cop;unfold Int.gcd at this;rw [show d.natAbs=d.toNat by omega] at this;exact this
  refine ⟨⟨n,d.toNat,by have:=h.pos;omega,hc⟩,?_,rfl,hd⟩
  show a.Is n (d.toNat:Int)
  rw [hd];exact h
theorem SD {a:Rt} (h:aP a=true):∃ q,a.At q:=by
  obtain ⟨n,d,h1⟩:=es_ h;obtain ⟨q,h2,_⟩:=bR_ h1;exact ⟨q,h2⟩
theorem nZ {a:Rt} {q:Rat} (h:a.At q):aP a=true:=zC h
theorem JO {a b:Rt} {q:Rat} (ha:a.At q) (hb:b.At q):a=b:=Rt.ext (ha.en.trans hb.en.symm) (ha.ed.trans hb.ed.symm)
theorem yH {a:Rt} {p q:Rat} (ha:a.At p) (hb:a.At q):p=q:=by
  have h1:=QR ha.hn hb.hn (VS (ha.en.symm.trans hb.en));have h2:=QR ha.hd hb.hd (VS (ha.ed.symm.trans hb.ed));exact Rat.ext h1 oo_
theorem VR {a b:Rt} {p q:Rat} (ha:a.At p) (hb:b.At q):(i6 a b).1=(p.num * q.den - q.num * p.den).sign:=cD_ ha hb
theorem PP {a b:Rt} {p q:Rat} (ha:a.At p) (hb:b.At q):0<(i6 a b).1 ↔ q<p:=by
  rw [VR ha hb,ZU,Rat.lt_iff];omega
theorem cE_ {a b:Rt} {p q:Rat} (ha:a.At p) (hb:b.At q):(i6 a b).1≤0 ↔ p≤q:=by
  rw [VR ha hb,ZV,Rat.le_iff];omega
structure Iv.At (a:Iv) (p q:Rat):Prop where
  lo:a.lo.At p
  hi:a.hi.At q
  le:p≤q
def mn (p q:Rat):Rat:=if p≤q then p else q
structure Sz (q:Rat) (k:Nat):Prop where
  n:q.num.natAbs<2 ^ k
  d:q.den<2 ^ k
theorem LN {a b:Nat} (h:a≤b):(2:Nat) ^ a≤2 ^ b:=Nat.pow_le_pow_right dd_ h
theorem cA_ {v:Int} {k:Nat} (m:Nat) (hm:4294967296 ^ 16=2 ^ m) (h:v.natAbs<2 ^ k) (hk:k≤m):cZ v:=by
  unfold cZ;rw [hm];exact Nat.lt_of_lt_of_le h (LN hk)
theorem BE {v:Int} {k:Nat} (h:v.natAbs<2 ^ k) (hk:k≤512):cZ v:=cA_ 512 MO h hk
theorem Sz.mono {q:Rat} {j k:Nat} (h:Sz q j) (hk:j≤k):Sz q k:=⟨Nat.lt_of_lt_of_le h.n (LN hk),Nat.lt_of_lt_of_le h.d (LN hk)⟩
theorem Sz.bn {q:Rat} {k:Nat} (h:Sz q k) (hk:k≤512):cZ q.num:=BE h.n hk
theorem Sz.bd {q:Rat} {k:Nat} (h:Sz q k) (hk:k≤512):cZ (q.den:Int):=BE (by simpa using h.d) hk
theorem vA {a b j k:Nat} (h:a<2 ^ j) (g:b<2 ^ k):a * b<2 ^ (j+k):=by
  rw [Nat.pow_add];exact Nat.mul_lt_mul_of_lt_of_le h (Nat.le_of_lt g) (Nat.pow_pos dd_)
theorem Sz.mul {p q:Rat} {j k:Nat} (h:Sz p j) (g:Sz q k):Sz (p * q) (j+k):=by
  constructor
  · rw [Rat.num_mul]
    refine Nat.lt_of_le_of_lt (Int.natAbs_ediv_le_natAbs _ _) ?_;rw [Int.natAbs_mul];exact vA h.n g.n
  rw [Rat.den_mul];exact Nat.lt_of_le_of_lt (Nat.div_le_self _ _) (vA h.d g.d)
theorem Sz.neg {p:Rat} {k:Nat} (h:Sz p k):Sz (-p) k:=⟨by rw [Rat.neg_num,Int.natAbs_neg];exact h.n,h.d⟩
theorem PU {n m:Int} {d e j k:Nat} (h1:n.natAbs<2 ^ j) (h2:e<2 ^ k) (h3:m.natAbs<2 ^ k) (h4:d<2 ^ j):(n * e+m * d).natAbs<2 ^ (j+k+1):=by
  have a:=vA h1 h2;have b:=vA h4 h3;have c:=Int.natAbs_add_le (n * e) (m * d);rw [Int.natAbs_mul,Int.natAbs_mul,Int.natAbs_natCast,Int.natAbs_natCast] at c;rw [Nat.pow_succ];rw [Nat.mul_comm d] at b;omega
theorem Sz.add {p q:Rat} {j k:Nat} (h:Sz p j) (g:Sz q k):Sz (p+q) (j+k+1):=by
  constructor
  · rw [Rat.num_add]
    exact Nat.lt_of_le_of_lt (Int.natAbs_ediv_le_natAbs _ _) (PU h.n g.d g.n h.d)
  rw [Rat.den_add];exact Nat.lt_of_le_of_lt (Nat.div_le_self _ _) (Nat.lt_of_lt_of_le (vA h.d g.d) (LN oo_))
theorem Sz.int {n:Int} {k:Nat} (h:n.natAbs<2 ^ k) (hk:0<k):Sz (n:Rat) k:=⟨h,Nat.one_lt_two_pow oo_⟩
theorem em_ {a:Rt} {n d:Int} {q:Rat} (h:a.Is n d) (he:q.num * d=n * q.den):a.At q:=by
  obtain ⟨p,hp,h1,h2⟩:=bR_ h;have:p=q:=Rat.eq_iff_mul_eq_mul.2 (by rw [h1,h2];exact he.symm);rw [← this];exact hp
theorem At.is {a:Rt} {q:Rat} (h:a.At q):a.Is q.num (q.den:Int):=h
theorem zD {n d:Int} {q:Rat} (hn:cZ n) (hd:cZ d) (hp:0<d) (he:q.num * d=n * q.den):(aY (E (Z.of n)) (E (Z.of d))).At q:=by
  refine em_ (yQ hn hd hp) ?_;have g1:((Int.gcd n d:Nat):Int) ∣ n:=Int.gcd_dvd_left ..;have g2:((Int.gcd n d:Nat):Int) ∣ d:=Int.gcd_dvd_right ..
  have p1:0<((Int.gcd n d:Nat):Int):=by have:=Int.gcd_pos_of_ne_zero_right n (show d≠0 by omega);omega
  obtain ⟨x,hx⟩:=g1;obtain ⟨y,hy⟩:=g2;generalize ((Int.gcd n d:Nat):Int)=G at *
  have q1:n / G=x:=by rw [hx];exact Int.mul_ediv_cancel_left _ oo_
  have q2:d / G=y:=by rw [hy];exact Int.mul_ediv_cancel_left _ oo_
  rw [q1,q2];rw [hx,hy] at he;exact Int.eq_of_mul_eq_mul_left (show G≠0 by omega) (by grind)
theorem VW {a:Rt} {p:Rat} (h:a.At p):(fA a).At (-p):=cL_ h
theorem oS {q:Rat}:(0:Int)<q.den:=by have:=q.den_nz;omega
theorem cI_ {a b:Rt} {p q:Rat} (ha:a.At p) (hb:b.At q) (hn:cZ (p * q).num) (hd:cZ ((p * q).den:Int)):(d5 a b).At (p * q):=by
  unfold d5;rw [nZ ha,nZ hb];obtain ⟨x,y,r,s,e1,e2,b1,b2,b3,b4,h1,h2,hc,he⟩:=E4 ha hb;simp only [Bool.not_true,Bool.or_false,cond_false,e1,e2,bZ];rw [oR b1 b3,oR b2 b4];have hps:0<y * s:=Int.mul_pos h1 h2
  have hpq:p * q=Rat.divInt (x * r) (y * s):=by
    rw [← Rat.num_divInt_den p,← Rat.num_divInt_den q,Rat.divInt_mul_divInt];exact (Rat.divInt_eq_divInt_iff (by have:=@oS p;have:=@oS q;exact Int.mul_ne_zero oo_ oo_) oo_).2 (by rw [he])
  have hnum:(p * q).num=x * r:=by
    rw [hpq,Rat.num_divInt,Int.gcd_comm,hc,Int.sign_eq_one_of_pos hps];simp
  have hden:((p * q).den:Int)=y * s:=by
    rw [hpq,Rat.den_divInt,if_neg oo_,Int.gcd_comm,hc,Nat.div_one];omega
  rw [hnum] at hn;rw [hden] at hd;exact zD hn hd hps (by rw [hnum,hden])
theorem VV {a b:Rt} {p q:Rat} {j k:Nat} (ha:a.At p) (hb:b.At q) (hp:Sz p j) (hq:Sz q k) (h:j+k≤512):(d5 a b).At (p * q) :=
  cI_ ha hb ((hp.mul hq).bn h) ((hp.mul hq).bd h)
theorem VP {a b:Rt} {p q:Rat} {j k:Nat} (ha:a.At p) (hb:b.At q) (hp:Sz p j) (hq:Sz q k) (h:j+k+1≤512):(dZ a b).At (p+q):=by
  unfold dZ;rw [nZ ha,nZ hb];simp only [Bool.not_true,Bool.or_false,cond_false];have ia:=At.is ha;have ib:=At.is hb;rw [ia.en,ia.ed,ib.en,ib.ed];simp only [bZ];have hdp:=@oS p;have hdq:=@oS q
  have hg:0<((Int.gcd (p.den:Int) (q.den:Int):Nat):Int):=by
    have:=Int.gcd_pos_of_ne_zero_right (p.den:Int) (show (q.den:Int)≠0 by omega);omega
  have hbg:=NV (u:=(p.den:Int)) ib.hd oo_;have g1:((Int.gcd (p.den:Int) (q.den:Int):Nat):Int) ∣ (p.den:Int):=Int.gcd_dvd_left ..;have g2:((Int.gcd (p.den:Int) (q.den:Int):Nat):Int) ∣ (q.den:Int):=Int.gcd_dvd_right ..;rw [AS ia.hd ib.hd,xB ib.hd hbg hg,xB ia.hd hbg hg];generalize ((Int.gcd (p.den:Int) (q.den:Int):Nat):Int)=G at *;obtain ⟨x,hx⟩:=g1;obtain ⟨y,hy⟩:=g2
  have q1:(p.den:Int) / G=x:=by rw [hx];exact Int.mul_ediv_cancel_left _ oo_
  have q2:(q.den:Int) / G=y:=by rw [hy];exact Int.mul_ediv_cancel_left _ oo_
  rw [q1,q2]
  have x0:0<x:=by rw [hx] at hdp;exact Int.pos_of_mul_pos_right hdp hg
  have y0:0<y:=by rw [hy] at hdq;exact Int.pos_of_mul_pos_right hdq hg
  have xl:x≤p.den:=by rw [hx];have:=Int.mul_le_mul_of_nonneg_right (show (1:Int)≤G by omega) (Int.le_of_lt x0);omega
  have yl:y≤q.den:=by rw [hy];have:=Int.mul_le_mul_of_nonneg_right (show (1:Int)≤G by omega) (Int.le_of_lt y0);omega
  have x1:x.toNat<2 ^ j:=Nat.lt_of_le_of_lt oo_ hp.d;have y1:y.toNat<2 ^ k:=Nat.lt_of_le_of_lt oo_ hq.d
  have xe:x=(x.toNat:Int):=by omega
  have ye:y=(y.toNat:Int):=by omega
  have bx:cZ x:=BE (k:=j) (by rw [xe,Int.natAbs_natCast];exact x1) oo_
  have by':cZ y:=BE (k:=k) (by rw [ye,Int.natAbs_natCast];exact y1) oo_
  rw [oR ia.hn by',oR ib.hn bx,oR bx ib.hd]
  have t1:(p.num * y).natAbs<2 ^ (j+k):=by rw [Int.natAbs_mul];exact vA hp.n oo_
  have t2:(q.num * x).natAbs<2 ^ (j+k):=by rw [Int.natAbs_mul,Nat.mul_comm];exact vA oo_ hq.n
  have t3:(x * (q.den:Int)).natAbs<2 ^ (j+k):=by rw [Int.natAbs_mul];exact vA oo_ (by simpa using hq.d)
  rw [CN (BE t1 oo_) (BE t2 oo_)]
  have t4:(p.num * y+q.num * x).natAbs<2 ^ (j+k+1):=by rw [Nat.pow_succ];omega
  refine zD (BE t4 h) (BE t3 oo_) (Int.mul_pos x0 hdq) ?_
  have key:p+q=Rat.divInt (p.num * y+q.num * x) (x * q.den):=by
    conv=>lhs;rw [← Rat.num_divInt_den p,← Rat.num_divInt_den q,Rat.divInt_add_divInt _ _ oo_ oo_]
    refine (Rat.divInt_eq_divInt_iff (Int.mul_ne_zero oo_ oo_) (Int.mul_ne_zero oo_ oo_)).2 ?_;rw [hx,hy];grind
  have h3:=Rat.num_divInt_den (p+q);rw [key] at h3 ⊢;have h4:=(Rat.divInt_eq_divInt_iff (by have:=@oS (Rat.divInt (p.num * y+q.num * x) (x * q.den));omega) (Int.mul_ne_zero oo_ oo_)).1 h3;exact h4
def vl (c:Nat→Rat) (x:Rat) (n:Nat):Rat:=iF (fun i=>c i * x ^ i) n
theorem OY (x:Rat) (m:Nat):∀ n:Nat,x ^ (m+n)=x ^ m * x ^ n
  | 0=>by rw [Rat.pow_zero,Rat.mul_one];rfl
  | n+1=>by rw [← Nat.add_assoc,Rat.pow_succ,OY x m n,Rat.pow_succ,Rat.mul_assoc]
theorem zY {c:Nat→Rat} {x:Rat} {n:Nat} (h:∀ i,n≤i→c i=0) {m:Nat} (hm:n≤m):vl c x m=vl c x n :=
  pT (fun i hi=>by rw [h i hi,Rat.zero_mul]) m hm
theorem af_ (c d:Nat→Rat) (x:Rat) (n:Nat):vl (fun i=>c i+d i) x n=vl c x n+vl d x n:=by
  unfold vl;rw [← y7];exact iE fun i _=>Rat.add_mul _ _ _
theorem ej_ (a:Rat) (c:Nat→Rat) (x:Rat) (n:Nat):vl (fun i=>a * c i) x n=a * vl c x n:=by
  unfold vl;rw [← tO];exact iE fun i _=>Rat.mul_assoc _ _ _
theorem PE (c:Nat→Rat) (x:Rat) (n:Nat):vl c x (n+1)=c 0+x * vl (fun i=>c (i+1)) x n:=by
  unfold vl;rw [xF,Rat.pow_zero,Rat.mul_one,← tO]
  congr 1
  refine iE fun i _=>?_;rw [Rat.pow_succ];grind
theorem T3 {c d:Nat→Rat} {x:Rat} {n m:Nat} (hc:∀ i,n≤i→c i=0) (hd:∀ i,m≤i→d i=0) {K:Nat} (hK:n+m≤K):vl (conv c d) x K=vl c x n * vl d x m:=by
  have h:=G5 (fun i j=>c i * x ^ i * (d j * x ^ j)) K
  have e1:vl (conv c d) x K=iF (fun k=>iF (fun i=>c i * x ^ i * (d (k - i) * x ^ (k - i))) (k+1)) K:=by
    refine iE fun k _=>?_
    show iF _ _ * _=_
    rw [← DI];refine iE fun i hi=>?_
    have:x ^ k=x ^ i * x ^ (k - i):=by rw [← OY];congr 1;omega
    rw [this];grind
  rw [e1,h];unfold vl;rw [← DI];rw [pT (n:=n) (fun i hi=>by rw [hc i hi];exact kG fun j _=>by rw [Rat.zero_mul,Rat.zero_mul]) K oo_];refine iE fun i hi=>?_;rw [tO]
  congr 1
  exact pT (fun j hj=>by rw [hd j hj,Rat.zero_mul]) _ oo_
def hv (c:Nat→Int) (N D:Int) (L:Nat):Nat→Int
  | 0=>0
  | t+1=>hv c N D L t * N+c (L - 1 - t) * D ^ t
section
variable {c:Nat→Int} {N D:Int} {L:Nat}
theorem XX {x:Rat} (hx:(D:Rat) * x=N):∀ t:Nat,t≤L→((hv c N D L t:Int):Rat) * D=(D:Rat) ^ t * vl (fun j=>cR c (L - t+j)) x t
  | 0,_=>by show ((0:Int):Rat) * D=_ * (0:Rat);rw [Rat.mul_zero];exact Rat.zero_mul _
  | t+1,ht=>by
    rw [PE,hv,Rat.intCast_add,Rat.intCast_mul,Rat.intCast_mul,Rat.intCast_pow,Rat.pow_succ];have ih:=XX hx t oo_;rw [show (fun i=>(fun j=>cR c (L - (t+1)+j)) (i+1))=fun j=>cR c (L - t+j) from funext fun j=>by show cR c _=cR c _;congr 1;omega];rw [show L - (t+1)+0=L - 1 - t by omega]
    show _=_ * (((c (L - 1 - t):Int):Rat)+_)
    generalize vl (fun j=>cR c (L - t+j)) x t=S at *;generalize ((hv c N D L t:Int):Rat)=H at *;rw [← hx]
    grind
theorem XW {x:Rat} (hx:(D:Rat) * x=N) (hD:0<D):((hv c N D L L:Int):Rat)=(D:Rat) ^ (L - 1) * vl (cR c) x L:=by
  have hd:(D:Rat)≠0:=fun h=>by have:=Rat.intCast_eq_zero_iff.1 h;omega
  cases L with
  | zero=>show ((0:Int):Rat)=_ * (0:Rat);rw [Rat.mul_zero];rfl
  | succ n =>
    have h:=XX (c:=c) (L:=n+1) hx (n+1) (Nat.le_refl _);rw [show (fun j=>cR c (n+1 - (n+1)+j))=cR c from funext fun j=>by congr 1;omega,Rat.pow_succ] at h;rw [Nat.add_sub_cancel]
    have:(((hv c N D (n+1) (n+1):Int):Rat) - (D:Rat) ^ n * vl (cR c) x (n+1)) * D=0:=by grind
    rcases Rat.mul_eq_zero.1 this with h | h
    · grind
    exact absurd h hd
theorem XV {b s:Nat} (hc:∀ k,(c k).natAbs<2 ^ b) (hN:N.natAbs<2 ^ s) (hD:D.natAbs<2 ^ s):∀ t:Nat,(hv c N D L t).natAbs≤t * 2 ^ (b+s * t)
  | 0=>by simp [hv]
  | t+1=>by
    have ih:=XV hc hN hD t
    have h1:(hv c N D L t * N).natAbs≤t * 2 ^ (b+s * t) * 2 ^ s:=by
      rw [Int.natAbs_mul];exact Nat.mul_le_mul ih (Nat.le_of_lt hN)
    have h2:(c (L - 1 - t) * D ^ t).natAbs≤2 ^ b * 2 ^ (s * t):=by
      rw [Int.natAbs_mul,Int.natAbs_pow,Nat.pow_mul];exact Nat.mul_le_mul (Nat.le_of_lt (hc _)) (Nat.pow_le_pow_left (Nat.le_of_lt hD) t)
    have h3:=Int.natAbs_add_le (hv c N D L t * N) (c (L - 1 - t) * D ^ t)
    have h4:(2:Nat) ^ b * 2 ^ (s * t)≤2 ^ (b+s * (t+1)):=by
      rw [← Nat.pow_add];exact Nat.pow_le_pow_right dd_ (by rw [Nat.mul_succ];omega)
    have h5:t * 2 ^ (b+s * t) * 2 ^ s=t * 2 ^ (b+s * (t+1)):=by
      rw [Nat.mul_assoc,← Nat.pow_add,Nat.mul_succ,Nat.add_assoc]
    rw [Nat.succ_mul];show (hv c N D L t * N+c (L - 1 - t) * D ^ t).natAbs≤_;omega
structure Room (c:Nat→Int) (N D:Int) (L:Nat):Prop where
  h:∀ t,t≤L→cZ (hv c N D L t)
  m:∀ t,t<L→cZ (hv c N D L t * N)
  p:∀ t,t<L→cZ (D ^ t)
  q:∀ t,t<L→cZ (c (L - 1 - t) * D ^ t)
theorem d1_ {b s n e:Nat} (hc:∀ k,(c k).natAbs<2 ^ b) (hN:N.natAbs<2 ^ s) (hD:D.natAbs<2 ^ s) (hL:L≤n) (hn:n≤2 ^ e) (h:b+s * n+e+1≤512):Room c N D L:=by
  have hp:(2:Nat) ^ (b+s * n+e+1)=2 * (2 ^ e * 2 ^ (b+s * n)):=by rw [Nat.pow_succ,Nat.add_comm _ e,Nat.pow_add];omega
  have h0:0<2 ^ e * 2 ^ (b+s * n):=Nat.mul_pos (Nat.pow_pos dd_) (Nat.pow_pos dd_);have k1:∀ t,t≤n→t * 2 ^ (b+s * t)≤2 ^ e * 2 ^ (b+s * n):=fun t ht =>
    Nat.mul_le_mul oo_ (Nat.pow_le_pow_right dd_ (by have:=Nat.mul_le_mul_left s ht;omega))
  have k2:∀ t,t<n→(2:Nat) ^ (s * t)≤2 ^ (b+s * n):=fun t ht=>Nat.pow_le_pow_right dd_ (by have:=Nat.mul_le_mul_left s (Nat.le_of_lt ht);omega);have he:1≤2 ^ e:=Nat.pow_pos dd_
  have kD:∀ t,(D ^ t).natAbs≤2 ^ (s * t):=fun t=>by rw [Int.natAbs_pow,Nat.pow_mul];exact Nat.pow_le_pow_left (Nat.le_of_lt hD) t
  have k0:2 ^ (b+s * n)≤2 ^ e * 2 ^ (b+s * n):=Nat.le_mul_of_pos_left _ he;refine ⟨fun t ht=>vJ (k:=b+s * n+e+1) ?_ h,fun t ht=>vJ (k:=b+s * n+e+1) ?_ h,fun t ht=>vJ (k:=b+s * n+e+1) ?_ h,fun t ht=>vJ (k:=b+s * n+e+1) ?_ h⟩
  · have:=XV (L:=L) hc hN hD t
    have:=k1 t oo_;omega
  · have h1:=XV (L:=L) hc hN hD t
    have h2:=k1 (t+1) oo_
    have h3:(hv c N D L t * N).natAbs≤t * 2 ^ (b+s * t) * 2 ^ s:=by
      rw [Int.natAbs_mul];exact Nat.mul_le_mul h1 (Nat.le_of_lt hN)
    have h5:t * 2 ^ (b+s * t) * 2 ^ s=t * 2 ^ (b+s * (t+1)):=by
      rw [Nat.mul_assoc,← Nat.pow_add,Nat.mul_succ,Nat.add_assoc]
    rw [Nat.succ_mul] at h2;have h6:0<2 ^ (b+s * (t+1)):=Nat.pow_pos dd_;omega
  · have:=kD t
    have:=k2 t oo_;omega
  have h2:(c (L - 1 - t) * D ^ t).natAbs≤2 ^ b * 2 ^ (s * t):=by
    rw [Int.natAbs_mul];exact Nat.mul_le_mul (Nat.le_of_lt (hc _)) (kD t)
  have h3:(2:Nat) ^ b * 2 ^ (s * t)≤2 ^ (b+s * n):=by
    rw [← Nat.pow_add];exact Nat.pow_le_pow_right dd_ (by have:=Nat.mul_le_mul_left s (Nat.le_of_lt (show t<n by omega));omega)
  omega
theorem QY {D:Int}:∀ {k:Nat},(∀ j,j≤k→cZ (D ^ j))→pw (E (Z.of D)) k=E (Z.of (D ^ k))
  | 0,_=>by rw [Int.pow_zero];rfl
  | k+1,h=>by
    rw [pw,QY fun j hj=>h j oo_,bZ,bZ,oR (h k oo_) (by have:=h 1 oo_;rwa [Int.pow_one] at this:cZ D),Int.pow_succ]
variable {p:List I} {x:Rt}
theorem ae_ (h:Po p c) (hx:x.Is N D) (r:Room c N D p.length):∀ (f t:Nat) (i:Int),t≤p.length→i=((p.length:Nat):Int) - 1 - t→p.length - t<f →
    (fT p x f i (E (Z.of (hv c N D p.length t)))).2=E (Z.of (hv c N D p.length p.length))
  | 0,t,i,_,_,hf=>absurd hf (Nat.not_lt_zero _)
  | f+1,t,i,ht,hi,hf=>by
    unfold fT
    by_cases h0:0≤i
    · rw [decide_eq_true h0,cond_true]
      have hl:t<p.length:=by omega
      have e1:i.toNat=p.length - 1 - t:=by omega
      have e2:p.length - 1 - i.toNat=t:=by omega
      simp only
      rw [e2,uN _ _ (show t<max (((p.length:Nat):Int)).toNat 1 by omega),hx.ed,QY fun j hj=>r.p j oo_,e1,h.get,hx.en,bZ,bZ,bZ,bZ,bZ,
        oR (h.B _) (r.p t hl),oR (r.h t ht) hx.hn,CN (r.m t hl) (r.q t hl)]
      exact ae_ h hx r f (t+1) _ oo_ oo_ oo_
    rw [decide_eq_false h0,cond_false,show t=p.length by omega]
theorem VK (h:Po p c) (hx:x.Is N D) (r:Room c N D p.length):gN p x=(E (Z.of (hv c N D p.length p.length)),E (Z.of (D ^ (p.length - 1)))):=by
  unfold gN;rw [h.nb,R5,mM,zC hx]
  show ((fT p x (p.length+1) (((p.length:Nat):Int) - 1) I0).2,_)=_
  congr 1
  · have e:=ae_ h hx r (p.length+1) 0 (((p.length:Nat):Int) - 1) (Nat.zero_le _) oo_ oo_
    rw [show hv c N D p.length 0=0 from rfl,← I0_E] at e;exact e
  rw [show ((((p.length:Nat):Int) - 1)).toNat=p.length - 1 by omega,uN _ _ oo_,hx.ed]
  cases hl:p.length with
  | zero=>show pw _ 0=E (Z.of (D ^ 0));rw [Int.pow_zero];rfl
  | succ n=>exact QY fun j hj=>r.p j oo_
theorem QN {q:Rat} {n d:Int} (h:(n:Rat)=(d:Rat) * q):q.num * d=n * q.den:=by
  have h1:=zO q
  have h2:(((n * q.den:Int)):Rat)=((q.num * d:Int):Rat):=by
    rw [Rat.intCast_mul,Rat.intCast_mul,h,← h1];grind
  exact (Rat.intCast_inj.1 h2).symm
theorem KG {q:Rat}:((q.den:Int):Rat) * q=((q.num:Int):Rat):=by
  rw [Rat.mul_comm];exact zO q
theorem V0 {q:Rat} {n b s e:Nat} (h:Po p c) (hb:Bd c n b) (hx:x.At q) (hs:Sz q s) (hn:n≤2 ^ e) (hk:b+s * n+e+1≤512):(aG p x).2=true∧(aG p x).1.1=(vl (cR c) q n).num.sign:=by
  have ix:=At.is hx;have hl:=h.len hb;have r:=d1_ (L:=p.length) hb.b hs.n (show ((q.den:Int)).natAbs<2 ^ s by rw [Int.natAbs_natCast];exact hs.d) hl hn hk;unfold aG;rw [VK h ix r];have hp:=@oS q;have hv:=XW (c:=c) (L:=p.length) (N:=q.num) (D:=(q.den:Int)) KG hp;rw [zY (n:=p.length) (fun i hi=>by unfold cR;rw [h.zero hi];rfl) hl];refine ⟨by show (!(E (Z.of _)).1.bad)=true;rw [FA (r.h _ (Nat.le_refl _))];rfl,?_⟩
  show (Z.signW (E (Z.of _)).dec).1=_
  rw [bZ,kN (r.h _ (Nat.le_refl _))];have e:=QN (n:=Go.Num.hv c q.num (q.den:Int) p.length p.length) (d:=(q.den:Int) ^ (p.length - 1)) (by rw [hv,Rat.intCast_pow]);have e2:=congrArg Int.sign e;rw [Int.sign_mul,Int.sign_mul,Int.sign_eq_one_of_pos (Int.pow_pos hp),Int.sign_eq_one_of_pos (@oS _),Int.mul_one,Int.mul_one] at e2;exact e2.symm
end
open Go Go.Kn
theorem AQ {u:Int}:∀ (l:List I) (g:Nat),u ∣ (g:Int)→(∀ x∈l,u ∣ vI x)→u ∣ ((l.foldl fg g:Nat):Int)
  | [],g,h,_=>h
  | y :: l,g,h,hx=>AQ l (fg g y) (Int.dvd_coe_gcd h (hx y List.mem_cons_self)) fun x hm=>hx x (List.mem_cons_of_mem _ hm)
def Prm (c:Nat→Int):Prop:=∀ u:Int,(∀ k,u ∣ c k)→u ∣ 1
theorem R4 {u:Int} {g:Nat} (h:0<g) (hd:(g:Int) ∣ u):(u.fdiv g).natAbs≤u.natAbs:=by
  obtain ⟨x,rfl⟩:=hd;rw [Int.mul_fdiv_cancel_left _ oo_,Int.natAbs_mul,Int.natAbs_natCast];exact Nat.le_mul_of_pos_left _ h
section
variable {p q:List I} {c d:Nat→Int}
theorem Po.mem (h:Po p c) {x:I} (hx:x∈p):∃ k,vI x=c k:=by
  obtain ⟨k,hk,rfl⟩:=List.getElem_of_mem hx;refine ⟨k,?_⟩;rw [← h.c k]
  simp [List.getD,hk]
theorem Po.dvd (h:Po p c) (k:Nat):((cN p:Nat):Int) ∣ c k:=by
  by_cases hk:k<p.length
  · rw [← h.c k,show p.getD k I0=p[k] by simp [List.getD,hk]]
    exact FE (List.getElem_mem hk)
  rw [h.zero oo_];exact Int.dvd_zero _
theorem Po.cpos (h:Po p c) (h0:p≠[]):0<cN p:=by
  obtain ⟨n,hn⟩:∃ n,p.length=n+1:=⟨p.length - 1,by have:=List.length_pos_iff.2 h0;omega⟩;rcases Nat.eq_zero_or_pos (cN p) with e | e
  · have h1:=h.dvd n
    rw [e] at h1;exact absurd (Int.zero_dvd.1 h1) (h.last hn)
  exact e
theorem tY (h:Po p c):Po (aC p) (fun k=>(c k).fdiv (cN p)):=by
  have e:=OM h.g h.s h.l
  have hB:∀ x∈p,cZ ((vI x).fdiv (cN p)):=fun x hx=>by
    obtain ⟨k,hk⟩:=h.mem hx;rw [hk];exact Nat.lt_of_le_of_lt (R4 (h.cpos (List.ne_nil_of_mem hx)) (h.dvd k)) (h.B k)
  have hg:(aC p).all gdI=true:=by
    rw [e];refine List.all_eq_true.2 fun y hy=>?_;obtain ⟨x,hx,rfl⟩:=List.mem_map.1 hy;exact NZ (hB x hx)
  refine (A7 (tI p h.l3) hg).cast fun k=>?_;rw [e]
  by_cases hk:k<p.length
  · have e2:(p.map fun x=>E (Z.of ((vI x).fdiv (cN p)))).getD k I0=E (Z.of ((vI p[k]).fdiv (cN p))):=by simp [List.getD,hk]
    rw [e2,ad_ (hB _ (List.getElem_mem hk)),← h.c k,show p.getD k I0=p[k] by simp [List.getD,hk]]
  rw [nC (by rw [List.length_map];omega),vI0,h.zero oo_,Int.zero_fdiv]
theorem wE (h:Po p c) (k:Nat):((cN p:Nat):Int) * (c k).fdiv (cN p)=c k:=by
  by_cases h0:p=[]
  · subst h0;rw [h.zero (Nat.zero_le k),Int.zero_fdiv,Int.mul_zero]
  have hp:=h.cpos h0;obtain ⟨x,hx⟩:=h.dvd k;rw [hx,Int.mul_fdiv_cancel_left _ oo_]
theorem GK (h:Po p c) (h0:p≠[]):Prm (fun k=>(c k).fdiv (cN p)):=fun u hu=>by
  have hp:=h.cpos h0
  have h1:((cN p:Nat):Int) * u ∣ ((cN p:Nat):Int):=AQ p 0 (Int.dvd_zero _) fun x hx=>by
    obtain ⟨k,hk⟩:=h.mem hx;rw [hk,← wE h k];exact Int.mul_dvd_mul_left _ (hu k)
  obtain ⟨y,hy⟩:=h1;refine ⟨y,?_⟩
  have:((cN p:Nat):Int) * 1=((cN p:Nat):Int) * (u * y):=by rw [Int.mul_one,← Int.mul_assoc];exact hy
  exact Int.eq_of_mul_eq_mul_left oo_ this
def lin (u v:Int) (k:Nat):Int:=if k=0 then u else if k=1 then v else 0
theorem dt_ {u v:Int} (hu:cZ u) (hv:cZ v):Po (bH [E (Z.of u),E (Z.of v)]) (lin u v):=by
  rw [rM];refine AW (fun k=>?_) (fun k=>?_) fun k hk=>?_
  · match k with
    | 0=>rfl
    | 1=>rfl
    | k+2=>rw [nC (by simp)];unfold lin;rw [if_neg oo_,if_neg oo_];rfl
  · unfold lin;split
    · exact hu
    split
    · exact hv
    exact B0
  unfold lin;rw [if_neg oo_,if_neg oo_]
theorem dG_ {u:Int} (hu:cZ u):Po (bH [E (Z.of u)]) (lin u 0):=by
  rw [rM];refine AW (fun k=>?_) (fun k=>?_) fun k hk=>?_
  · match k with
    | 0=>rfl
    | k+1=>rw [nC (by simp)];unfold lin;rw [if_neg oo_,ite_self];rfl
  · unfold lin;split
    · exact hu
    rw [ite_self];exact B0
  unfold lin;rw [if_neg oo_,ite_self]
def sb (c:Nat→Int) (u v W:Int) (L:Nat):Nat→Nat→Int
  | 0=>fun _=>0
  | t+1=>fun k=>conv (sb c u v W L t) (lin u v) k+lin (c (L - 1 - t) * W ^ t) 0 k
variable {u v W:Int} {L:Nat}
theorem ag_ (u v:Int) (y:Rat) {K:Nat} (hK:2≤K):vl (cR (lin u v)) y K=(u:Rat)+(v:Rat) * y:=by
  rw [zY (n:=2) (fun i hi=>by unfold cR lin;rw [if_neg oo_,if_neg oo_];rfl) hK]
  show (0+((u:Int):Rat) * y ^ 0)+((v:Int):Rat) * y ^ 1=_
  rw [Rat.pow_zero,Rat.pow_one,Rat.zero_add,Rat.mul_one]
theorem ZO {y z:Rat} (hz:(u:Rat)+(v:Rat) * y=(W:Rat) * z) (hs:∀ t,t≤L→∀ k,t≤k→sb c u v W L t k=0) (hL:L≤24):∀ t:Nat,t≤L→vl (cR (sb c u v W L t)) y 26 * (W:Rat)=(W:Rat) ^ t * vl (fun j=>cR c (L - t+j)) z t
  | 0,_=>by
    show iF _ _ * _=_ * (0:Rat)
    rw [kG fun i _=>by show ((0:Int):Rat) * _=0;exact Rat.zero_mul _,Rat.mul_zero,Rat.zero_mul]
  | t+1,ht=>by
    have ih:=ZO hz hs hL t oo_
    have e1:cR (sb c u v W L (t+1))=fun k=>conv (cR (sb c u v W L t)) (cR (lin u v)) k+cR (lin (c (L - 1 - t) * W ^ t) 0) k:=by
      rw [← CR];funext k;exact Rat.intCast_add ..
    rw [e1,af_,T3 (n:=t) (m:=2) (fun i hi=>by unfold cR;rw [hs t oo_ i hi];rfl) (fun i hi=>by unfold cR lin;rw [if_neg oo_,if_neg oo_];rfl) oo_,ag_ _ _ _ (Nat.le_refl _),ag_ _ _ _ dd_,hz,
      ← zY (n:=t) (m:=26) (fun i hi=>by unfold cR;rw [hs t oo_ i hi];rfl) oo_]
    generalize vl (cR (sb c u v W L t)) y 26=H at *;rw [PE,Rat.pow_succ,Rat.intCast_mul,Rat.intCast_pow];rw [show (fun i=>(fun j=>cR c (L - (t+1)+j)) (i+1))=fun j=>cR c (L - t+j) from funext fun j=>by show cR c _=cR c _;congr 1;omega];rw [show L - (t+1)+0=L - 1 - t by omega]
    show _=_ * (((c (L - 1 - t):Int):Rat)+_)
    generalize vl (fun j=>cR c (L - t+j)) z t=S at *;rw [show ((0:Int):Rat)=0 from rfl]
    grind
theorem d4_ {y z:Rat} (hz:(u:Rat)+(v:Rat) * y=(W:Rat) * z) (hW:0<W) (hs:∀ t,t≤L→∀ k,t≤k→sb c u v W L t k=0) (hL:L≤24):vl (cR (sb c u v W L L)) y 26=(W:Rat) ^ (L - 1) * vl (cR c) z L:=by
  have hd:(W:Rat)≠0:=fun h=>by have:=Rat.intCast_eq_zero_iff.1 h;omega
  have h:=ZO (c:=c) hz hs hL L (Nat.le_refl _);rw [show (fun j=>cR c (L - L+j))=cR c from funext fun j=>by congr 1;omega] at h
  cases L with
  | zero =>
    show _=_ * (0:Rat)
    rw [Rat.mul_zero]
    exact kG fun i _=>by show ((0:Int):Rat) * _=0;exact Rat.zero_mul _
  | succ n =>
    rw [Rat.pow_succ] at h;rw [Nat.add_sub_cancel]
    have:(vl (cR (sb c u v W (n+1) (n+1))) y 26 - (W:Rat) ^ n * vl (cR c) z (n+1)) * W=0:=by grind
    rcases Rat.mul_eq_zero.1 this with h | h
    · grind
    exact absurd h hd
end
open Go Go.Kn
theorem k25 {l:List I} (h:l.length≤25):l.length≤1000:=Nat.le_trans h dd_
theorem LB (l:List I):(mkP l).length≤max l.length 1:=by
  unfold mkP
  cases l.all gdI
  · exact Nat.le_max_right _ _
  simp only [cond_true]
  split
  · exact Nat.le_trans (uY l) (Nat.le_max_left _ _)
  exact Nat.le_max_right _ _
theorem KC {c:Bool} {x y:List I} {n:Nat} (h:x.length≤n) (k:y.length≤n):(bif c then x else y).length≤n:=by cases c <;> assumption
theorem aU_ {p q:List I} (f:I→I→I) {n:Nat} (hp:p.length≤n) (hq:q.length≤n) (h1:1≤n) (h2:n≤1000):(eJ p q f).length≤n:=by
  rw [rH f oo_ oo_];refine KC (Nat.le_trans (LB _) ?_) h1;rw [List.length_map,List.length_range];omega
theorem ay_ {p q:List I} {n:Nat} (hp:p.length≤n) (hq:q.length≤n) (h1:1≤n) (h2:n≤1000):(gK p q).length≤n:=aU_ _ hp hq h1 h2
theorem bf_ {p q:List I} {n m:Nat} (hp:p.length≤n) (hq:q.length≤m) (h1:1≤n+m - 1):(dO p q).length≤n+m - 1:=by
  unfold dO;refine KC h1 (KC (Nat.zero_le _) ?_);rw [oH];refine Nat.le_trans (LB _) ?_;rw [List.length_map,List.length_range];omega
end Go.Num
