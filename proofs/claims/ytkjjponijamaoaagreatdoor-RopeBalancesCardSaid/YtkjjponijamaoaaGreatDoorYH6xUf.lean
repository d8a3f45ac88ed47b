/- Lemmas: what they ask stands in their statements. -/
import Derived.Test.YtkjjponijamaoaaGreatDoorYH6xSk
set_option linter.unusedSimpArgs false
set_option linter.unusedVariables false

namespace Go.Num
open Go Go.Kn
def g3 (x y z:Int):Nat:=Int.gcd (Int.gcd (Int.gcd 0 x:Nat) y:Nat) z
theorem jk_ (x y z:Int):((g3 x y z:Nat):Int) ∣ x∧((g3 x y z:Nat):Int) ∣ y∧((g3 x y z:Nat):Int) ∣ z:=by
  unfold g3;have h1:((Int.gcd (Int.gcd (Int.gcd 0 x:Nat) y:Nat) z:Nat):Int) ∣ ((Int.gcd (Int.gcd 0 x:Nat) y:Nat):Int):=Int.gcd_dvd_left ..;have h2:((Int.gcd (Int.gcd 0 x:Nat) y:Nat):Int) ∣ ((Int.gcd 0 x:Nat):Int):=Int.gcd_dvd_left ..;have h3:((Int.gcd 0 x:Nat):Int) ∣ x:=Int.gcd_dvd_right ..;exact ⟨Int.dvd_trans h1 (Int.dvd_trans h2 h3),Int.dvd_trans h1 (Int.gcd_dvd_right ..),Int.gcd_dvd_right ..⟩
theorem ft_ {x y z:Int} (h:g3 x y z=0):x=0∧y=0∧z=0:=by
  obtain ⟨h1,h2,h3⟩:=jk_ x y z;rw [h] at h1 h2 h3;exact ⟨Int.zero_dvd.1 h1,Int.zero_dvd.1 h2,Int.zero_dvd.1 h3⟩
theorem jl_ (m:Nat) (x y z:Int):g3 ((m:Int) * x) ((m:Int) * y) ((m:Int) * z)=m * g3 x y z:=by
  unfold g3
  have e0:Int.gcd 0 ((m:Int) * x)=m * Int.gcd 0 x:=by rw [Int.gcd_zero_left,Int.gcd_zero_left,Int.natAbs_mul,Int.natAbs_natCast]
  rw [e0,Int.natCast_mul,Int.gcd_mul_left,Int.natAbs_natCast,Int.natCast_mul,Int.gcd_mul_left,Int.natAbs_natCast]
theorem RY {u v:Int} (hu:gR u) (hv:gR v):gR ((Int.gcd u v:Nat):Int):=by
  unfold gR at *;rw [Int.natAbs_natCast]
  by_cases h:u=0
  · subst h;rw [Int.gcd_zero_left];exact hv
  exact Nat.lt_of_le_of_lt (Nat.le_of_dvd oo_ (Nat.gcd_dvd_left _ _)) hu
theorem he_ {v:Int} (h1:-9223372036854775808≤v) (h2:v≤9223372036854775807):(Z.smallW (Z.of v)).1=v:=by
  show (Z.of v).small.1=v
  unfold Z.small;rw [Z.of_some (sB oo_)];simp only;rw [if_pos oo_]
theorem fR_ {x y z a b c:Int} (hx:gR x) (hy:gR y) (hz:gR z) (h0:0<g3 x y z) (ea:x=(g3 x y z:Int) * a) (eb:y=(g3 x y z:Int) * b) (ec:z=(g3 x y z:Int) * c) (ba:a.natAbs<2 ^ 61) (bb:b.natAbs<2 ^ 61) (bc:c.natAbs<2 ^ 61) :
    cR_ ⟨E (Z.of x),E (Z.of y),E (Z.of z)⟩ = (⟨W.cv a,W.cv b,W.cv c⟩,wl 0):=by
  have hg:D9 ⟨E (Z.of x),E (Z.of y),E (Z.of z)⟩ = Z.of ((g3 x y z:Nat):Int):=by
    unfold D9 g3;simp only [eD];rw [EA B0 hx,EA (RY B0 hx) hy,EA (RY (RY B0 hx) hy) hz]
  have BG:gR ((g3 x y z:Nat):Int):=RY (RY (RY B0 hx) hy) hz;generalize g3 x y z=G at *
  have hq:∀ (v t:Int),gR v→v=(G:Int) * t→t.natAbs<2 ^ 61→okW (Z.quo (Z.of v) (Z.of (G:Int)))=true∧Z.smallW (Z.quo (Z.of v) (Z.of (G:Int)))=W.cv t:=fun v t hv e ht=>by
    rw [DD hv BG oo_,e,Int.mul_ediv_cancel_left t oo_];refine ⟨rG_ oo_,W.ext ?_⟩;rw [he_ oo_ oo_,cvE oo_]
  obtain ⟨k1,s1⟩:=hq x a hx ea ba;obtain ⟨k2,s2⟩:=hq y b hy eb bb;obtain ⟨k3,s3⟩:=hq z c hz ec bc;unfold cR_;rw [hg,Z.of_some BG,if_neg (by simp)]
  have hs:(Z.of (G:Int)).sign≠0:=by
    rw [f8_ BG,Int.sign_eq_one_of_pos oo_];omega
  rw [if_neg hs];simp only [eD];rw [k1,k2,k3,s1,s2,s3];rfl
theorem g3_:cR_ ⟨E (Z.of 0),E (Z.of 0),E (Z.of 0)⟩ = (VW0,wl 31):=by kernel_rfl
def nX (x y z:Rat):Int:=x.num * y.den * z.den
def nY (x y z:Rat):Int:=x.den * y.num * z.den
def nZ (x y z:Rat):Int:=x.den * y.den * z.num
def dD (x y z:Rat):Int:=x.den * y.den * z.den
theorem ih_ (x y z:Rat):0<dD x y z:=by
  have:=x.den_pos;have:=y.den_pos;have:=z.den_pos;exact Int.mul_pos (Int.mul_pos oo_ oo_) oo_
theorem nG_ (x y z:Rat):((nX x y z:Int):Rat)=(dD x y z:Rat) * x∧((nY x y z:Int):Rat)=(dD x y z:Rat) * y∧((nZ x y z:Int):Rat)=(dD x y z:Rat) * z:=by
  have hx:=QX x;have hy:=QX y;have hz:=QX z;unfold nX nY nZ dD;simp only [Rat.intCast_mul];rw [← hx,← hy,← hz];refine ⟨?_,?_,?_⟩ <;> grind
section
variable {d:A3 Rt} {x y z:Rat} {A B:Nat}
theorem jK_ {u v w:Int} {a b c:Nat} (hu:u.natAbs<2 ^ a) (hv:v.natAbs<2 ^ b) (hw:w.natAbs<2 ^ c) (h:a+b+c≤512):eY (E (Z.of u)) (E (Z.of v)) (E (Z.of w))=E (Z.of (u * v * w))∧(u * v * w).natAbs<2 ^ (a+b+c):=by
  have h1:=nC_ hu hv;refine ⟨?_,nC_ h1 hw⟩;unfold eY;simp only [eD];rw [qV (vF hu oo_) (vF hv oo_),qV (vF h1 oo_) (vF hw oo_)]
theorem qZ_ (h:V3 d x y z A B) (hAB:A+B+B≤512) :
    (⟨eY d.x.n d.y.d d.z.d,eY d.x.d d.y.n d.z.d,eY d.x.d d.y.d d.z.n⟩:A3 I)=⟨E (Z.of (nX x y z)),E (Z.of (nY x y z)),E (Z.of (nZ x y z))⟩∧(nX x y z).natAbs<2 ^ (A+B+B)∧(nY x y z).natAbs<2 ^ (A+B+B)∧(nZ x y z).natAbs<2 ^ (A+B+B):=by
  have ix:=At.is h.hx;have iy:=At.is h.hy;have iz:=At.is h.hz
  have dx:(x.den:Int).natAbs<2 ^ B:=by rw [Int.natAbs_natCast];exact h.sx.d
  have dy:(y.den:Int).natAbs<2 ^ B:=by rw [Int.natAbs_natCast];exact h.sy.d
  have dz:(z.den:Int).natAbs<2 ^ B:=by rw [Int.natAbs_natCast];exact h.sz.d
  rw [ix.en,ix.ed,iy.en,iy.ed,iz.en,iz.ed];obtain ⟨e1,b1⟩:=jK_ h.sx.n dy dz oo_;obtain ⟨e2,b2⟩:=jK_ dx h.sy.n dz oo_;obtain ⟨e3,b3⟩:=jK_ dx dy h.sz.n oo_;rw [e1,e2,e3];refine ⟨rfl,b1,?_,?_⟩
  · rw [show A+B+B=B+A+B by omega];exact b2
  rw [show A+B+B=B+B+A by omega];exact b3
end
theorem kw_ {x y z u v w:Int} {m n:Nat} (hm:0<m) (hn:0<n) (e1:(m:Int) * x=n * u) (e2:(m:Int) * y=n * v) (e3:(m:Int) * z=n * w) {a b c:Int} (ea:x=(g3 x y z:Int) * a) (eb:y=(g3 x y z:Int) * b) (ec:z=(g3 x y z:Int) * c) :
    u=(g3 u v w:Int) * a∧v=(g3 u v w:Int) * b∧w=(g3 u v w:Int) * c:=by
  have hg:m * g3 x y z=n * g3 u v w:=by rw [← jl_,← jl_,e1,e2,e3]
  have hg':(m:Int) * (g3 x y z:Int)=(n:Int) * (g3 u v w:Int):=by exact_mod_cast hg
  have key:∀ {p q t:Int},(m:Int) * p=n * q→p=(g3 x y z:Int) * t→q=(g3 u v w:Int) * t:=fun {p q t} h1 h2=>by
    have:(n:Int) * q=n * ((g3 u v w:Int) * t):=by rw [← h1,h2,← Int.mul_assoc,hg',Int.mul_assoc]
    exact Int.eq_of_mul_eq_mul_left oo_ this
  exact ⟨key e1 ea,key e2 eb,key e3 ec⟩
theorem mj_ {q:Rat} (h:0<q):0<q.num.sign:=by
  rw [Int.sign_pos_iff];have h1:=Rat.num_nonneg.2 (Rat.le_of_lt h);rcases Int.lt_or_eq_of_le h1 with k | k
  · exact k
  exfalso
  have:=Rat.num_eq_zero.1 k.symm
  grind
theorem qa_:V3 (cZ (wl 0) (wl 0) (wl 0)) 0 0 0 1 1:=of3 (n:=⟨wl 0,wl 0,wl 0⟩) (A:=1) dd_ dd_ dd_
theorem eq3 {a b:A3 Rt} {x y z:Rat} {A B C D:Nat} (ha:V3 a x y z A B) (hb:V3 b x y z C D):a=b:=by
  obtain ⟨a1,a2,a3⟩:=a;obtain ⟨b1,b2,b3⟩:=b;have h1:a1=b1:=PH ha.hx hb.hx;have h2:a2=b2:=PH ha.hy hb.hy;have h3:a3=b3:=PH ha.hz hb.hz;rw [h1,h2,h3]
theorem lI_ {p:Pull} {V:A3 W} (hd:gC p=⟨V,wl 0⟩) {x y z A B:Nat} {f1 f2 f3 g1 g2 g3:Rat} {F1 F2 F3 F4:Nat} (h1:V3 (fM V) f1 f2 f3 F1 F2) (h2:V3 (jE (aE (wl (-1))) (fM V)) g1 g2 g3 F3 F4)
    {m1 m2 m3 n1 n2 n3:Rat} {M1 M2 M3 M4:Nat} (h3:V3 (j8 p.p (fM V)) m1 m2 m3 M1 M2) (h4:V3 (j8 p.q (jE (aE (wl (-1))) (fM V))) n1 n2 n3 M3 M4) :
    cU p=⟨bM p.p (fM V),bM p.q (jE (aE (wl (-1))) (fM V)),wl 0⟩:=by
  unfold cU;rw [hd];simp only [bM];rw [nR h1.hx,nR h1.hy,nR h1.hz,nR h2.hx,nR h2.hy,nR h2.hz,nR h3.hx,nR h3.hy,nR h3.hz,nR h4.hx,nR h4.hy,nR h4.hz];rfl
theorem nT_ {a:Rt} {q:Rat} (ha:a.At q):(jK a).1=q.num.sign:=by
  unfold jK;rw [pA,nR ha,(At.is ha).en,eD];exact tT (At.is ha).hn
theorem eX_ (p:Pull) (k:Int) (hk:0≤k∧k≤255) (hs:F_skewbacklaw26_sanity=true):gK p k=true:=by
  unfold gK;rw [hs]
  cases hc:(!(dY p.p (wl 9))||(!(dY p.q (wl 9))||(k==0)))
  · simp only [Bool.or_eq_false_iff,Bool.not_eq_false',beq_eq_false_iff_ne] at hc
    obtain ⟨x,y,z,hp⟩:=cl_ hc.1;obtain ⟨u,v,w,hq⟩:=cl_ hc.2.1;have hk0:k≠0:=hc.2.2;have hp9:V3 p.p x y z 9 9:=hp;have hq9:V3 p.q u v w 9 9:=hq;have hd:=aN_ (E:=19) hq9 hp9 oo_ oo_ oo_ oo_;obtain ⟨en,b1,b2,b3⟩:=qZ_ hd oo_
    have hdir:gC p=WF (cR_ ⟨E (Z.of (nX (u - x) (v - y) (w - z))),E (Z.of (nY (u - x) (v - y) (w - z))),E (Z.of (nZ (u - x) (v - y) (w - z)))⟩):=by
      unfold gC;simp only;rw [en,WW]
    simp only [YE,JQ,QD,bD_,UW,eW_,bJ_,IA,PG,cond_false]
    by_cases hsame:x=u∧y=v∧z=w
    · -- both ends are one point
      obtain ⟨rfl,rfl,rfl⟩:=hsame;have e1:=PH hp9.hx hq9.hx;have e2:=PH hp9.hy hq9.hy;have e3:=PH hp9.hz hq9.hz
      have z0:(x:Rat) - x=0:=by grind
      have z1:(y:Rat) - y=0:=by grind
      have z2:(z:Rat) - z=0:=by grind
      rw [z0,z1,z2] at hdir
      have:gC p=WF (VW0,wl 31):=by rw [hdir];exact congrArg WF g3_
      have hcol:(cU p).e=wl 31:=by unfold cU;rw [this];rfl
      rw [e1,e2,e3,hcol]
      simp
    have hne:(decide (p.p.x.n=p.q.x.n)&&(decide (p.p.x.d=p.q.x.d)&&(decide (p.p.y.n=p.q.y.n)&&(decide (p.p.y.d=p.q.y.d)&&(decide (p.p.z.n=p.q.z.n)&&decide (p.p.z.d=p.q.z.d))))))=false:=by
      rw [Bool.eq_false_iff];intro h;simp only [Bool.and_eq_true,decide_eq_true_eq] at h;have e1:p.p.x=p.q.x:=Rt.ext h.1 h.2.1;have e2:p.p.y=p.q.y:=Rt.ext h.2.2.1 h.2.2.2.1;have e3:p.p.z=p.q.z:=Rt.ext h.2.2.2.2.1 h.2.2.2.2.2;exact hsame ⟨UU hp9.hx (e1 ▸ hq9.hx),UU hp9.hy (e2 ▸ hq9.hy),UU hp9.hz (e3 ▸ hq9.hz)⟩
    rw [hne];generalize hδ1:u - x=d1 at *;generalize hδ2:v - y=d2 at *;generalize hδ3:w - z=d3 at *;have hnz:¬ (d1=0∧d2=0∧d3=0):=fun h=>hsame ⟨by grind,by grind,by grind⟩;obtain ⟨v1,v2,v3⟩:=nG_ d1 d2 d3;have hD:=ih_ d1 d2 d3;have hDR:(0:Rat)<(dD d1 d2 d3:Rat):=Rat.intCast_pos.2 hD
    have hG:0<g3 (nX d1 d2 d3) (nY d1 d2 d3) (nZ d1 d2 d3):=by
      rcases Nat.eq_zero_or_pos (g3 (nX d1 d2 d3) (nY d1 d2 d3) (nZ d1 d2 d3)) with h | h
      · obtain ⟨h1,h2,h3⟩:=ft_ h
        rw [h1] at v1;rw [h2] at v2;rw [h3] at v3;have z0:((0:Int):Rat)=0:=rfl;rw [z0] at v1 v2 v3
        have key:∀ {t:Rat},0=(dD d1 d2 d3:Rat) * t→t=0:=fun {t} h=>by
          rcases Rat.mul_eq_zero.1 h.symm with k | k
          · grind
          exact k
        exact absurd ⟨key v1,key v2,key v3⟩ hnz
      exact h
    obtain ⟨⟨a,ea⟩,⟨b,eb⟩,⟨c,ec⟩⟩:=jk_ (nX d1 d2 d3) (nY d1 d2 d3) (nZ d1 d2 d3)
    have small:∀ {n t:Int},n.natAbs<2 ^ (19+(9+9)+(9+9))→n=(g3 (nX d1 d2 d3) (nY d1 d2 d3) (nZ d1 d2 d3):Int) * t→t.natAbs<2 ^ 56:=fun {n t} h e=>by
      rw [e,Int.natAbs_mul,Int.natAbs_natCast] at h;have:=Nat.le_mul_of_pos_left t.natAbs hG;omega
    have sa:=small b1 ea;have sb:=small b2 eb;have sc:=small b3 ec;have hprim:=fR_ (vF b1 oo_) (vF b2 oo_) (vF b3 oo_) hG ea eb ec oo_ oo_ oo_;rw [hprim] at hdir
    -- the force
    have ca:(W.cv a).1=a:=cvE oo_;have cb:(W.cv b).1=b:=cvE oo_;have cc:(W.cv c).1=c:=cvE oo_;have hf:=of3 (n:=⟨W.cv a,W.cv b,W.cv c⟩) (A:=56) (by rw [ca];exact sa) (by rw [cb];exact sb) (by rw [cc];exact sc);simp only [ca,cb,cc] at hf
    have hm1:(aE (wl (-1))).At (-1):=by have:=O0 (wl (-1));exact this
    have hg:=kW_ (C:=1) (D:=1) hm1 ⟨by decide,by decide⟩ hf oo_ oo_;have ho:=ev_ hp9 hf oo_ oo_;have ho2:=ev_ hq9 hg oo_ oo_;have hcol:=lI_ (x:=0) (y:=0) (z:=0) (A:=0) (B:=0) hdir hf hg ho ho2
    -- the force is along the rope
    obtain ⟨G,hGe⟩:∃ G,G=g3 (nX d1 d2 d3) (nY d1 d2 d3) (nZ d1 d2 d3):=⟨_,rfl⟩;rw [← hGe] at ea eb ec hG
    have ra:(G:Rat) * (a:Rat)=(dD d1 d2 d3:Rat) * d1:=by rw [← v1,ea,Rat.intCast_mul,Rat.intCast_natCast]
    have rb:(G:Rat) * (b:Rat)=(dD d1 d2 d3:Rat) * d2:=by rw [← v2,eb,Rat.intCast_mul,Rat.intCast_natCast]
    have rc:(G:Rat) * (c:Rat)=(dD d1 d2 d3:Rat) * d3:=by rw [← v3,ec,Rat.intCast_mul,Rat.intCast_natCast]
    have hGR:(0:Rat)<(G:Rat):=Rat.natCast_pos.2 hG
    have cross:∀ {s t:Rat} {m n:Int},(G:Rat) * (m:Rat)=(dD d1 d2 d3:Rat) * s→(G:Rat) * (n:Rat)=(dD d1 d2 d3:Rat) * t→s * (n:Rat) - t * (m:Rat)=0:=fun {s t m n} h1 h2=>by
      have:(G:Rat) * (s * (n:Rat) - t * (m:Rat))=0:=by grind
      rcases Rat.mul_eq_zero.1 this with k | k
      · grind
      exact k
    have x1:=cross rb rc;have x2:=cross rc ra;have x3:=cross ra rb;have hod:=ev_ hd hf oo_ oo_;rw [x1,x2,x3] at hod;obtain ⟨hin,sin⟩:=jx_ hd hf oo_ oo_
    have hinpos:0<d1 * (a:Rat)+d2 * (b:Rat)+d3 * (c:Rat):=by
      have k1:(G:Rat) * (d1 * (a:Rat)+d2 * (b:Rat)+d3 * (c:Rat))=(dD d1 d2 d3:Rat) * (d1 * d1+d2 * d2+d3 * d3):=by grind
      have k2:0<d1 * d1+d2 * d2+d3 * d3:=by
        have s1:=SC d1;have s2:=SC d2;have s3:=SC d3
        apply Classical.byContradiction
        intro hn;refine hnz ⟨?_,?_,?_⟩
        · have:d1 * d1=0:=by grind
          rcases Rat.mul_eq_zero.1 this with k | k <;> exact k
        · have:d2 * d2=0:=by grind
          rcases Rat.mul_eq_zero.1 this with k | k <;> exact k
        have:d3 * d3=0:=by grind
        rcases Rat.mul_eq_zero.1 this with k | k <;> exact k
      have k3:=Rat.mul_pos hDR k2;rw [← k1] at k3;exact (Rat.mul_pos_iff_of_pos_left hGR).1 k3
    -- the longer rope
    have ck:(W.cv k).1=k:=cvE oo_
    have hkA:(aE (W.cv k)).At (k:Rat):=by have:=O0 (W.cv k);rwa [ck] at this
    have ht:=kW_ (C:=9) (D:=1) hkA (.int (show k.natAbs<2 ^ 9 by omega)) hd oo_ oo_;have hpl:=rL_ (E:=38) hp9 ht oo_ oo_ oo_ oo_;have hd2:=aN_ (E:=48) hpl hp9 oo_ oo_ oo_ oo_
    have r1:x+(k:Rat) * d1 - x=(k:Rat) * d1:=by grind
    have r2:y+(k:Rat) * d2 - y=(k:Rat) * d2:=by grind
    have r3:z+(k:Rat) * d3 - z=(k:Rat) * d3:=by grind
    rw [r1,r2,r3] at hd2;obtain ⟨en2,c1,c2,c3⟩:=qZ_ hd2 oo_;obtain ⟨w1,w2,w3⟩:=nG_ ((k:Rat) * d1) ((k:Rat) * d2) ((k:Rat) * d3);have hD2:=ih_ ((k:Rat) * d1) ((k:Rat) * d2) ((k:Rat) * d3);have par:∀ {n n':Int} {t:Rat},(n:Rat)=(dD d1 d2 d3:Rat) * t→(n':Rat)=(dD ((k:Rat) * d1) ((k:Rat) * d2) ((k:Rat) * d3):Rat) * ((k:Rat) * t) →
        (((dD ((k:Rat) * d1) ((k:Rat) * d2) ((k:Rat) * d3) * k).toNat:Nat):Int) * n=((dD d1 d2 d3).toNat:Nat) * n':=fun {n n' t} h1 h2=>by
      rw [Int.toNat_of_nonneg (Int.le_of_lt (Int.mul_pos hD2 oo_)),Int.toNat_of_nonneg (Int.le_of_lt hD)]
      have:((dD ((k:Rat) * d1) ((k:Rat) * d2) ((k:Rat) * d3) * k * n:Int):Rat)=((dD d1 d2 d3 * n':Int):Rat):=by
        simp only [Rat.intCast_mul];rw [h1,h2];grind
      exact Rat.intCast_inj.1 this
    have hmk:0<(dD ((k:Rat) * d1) ((k:Rat) * d2) ((k:Rat) * d3) * k).toNat:=by have:=Int.mul_pos hD2 (show 0<k by omega);omega
    have hnk:0<(dD d1 d2 d3).toNat:=by omega
    rw [hGe] at ea eb ec;obtain ⟨f1,f2,f3⟩:=kw_ hmk hnk (par v1 w1) (par v2 w2) (par v3 w3) ea eb ec
    have hG2:0<g3 (nX ((k:Rat) * d1) ((k:Rat) * d2) ((k:Rat) * d3)) (nY ((k:Rat) * d1) ((k:Rat) * d2) ((k:Rat) * d3)) (nZ ((k:Rat) * d1) ((k:Rat) * d2) ((k:Rat) * d3)):=by
      rcases Nat.eq_zero_or_pos (g3 (nX ((k:Rat) * d1) ((k:Rat) * d2) ((k:Rat) * d3)) (nY ((k:Rat) * d1) ((k:Rat) * d2) ((k:Rat) * d3)) (nZ ((k:Rat) * d1) ((k:Rat) * d2) ((k:Rat) * d3))) with h | h
      · obtain ⟨h1,h2,h3⟩:=ft_ h
        rw [h1] at w1;rw [h2] at w2;rw [h3] at w3;have z0:((0:Int):Rat)=0:=rfl;rw [z0] at w1 w2 w3;have hD2R:(0:Rat)<(dD ((k:Rat) * d1) ((k:Rat) * d2) ((k:Rat) * d3):Rat):=Rat.intCast_pos.2 hD2;have hkR:(0:Rat)<(k:Rat):=Rat.intCast_pos.2 oo_
        have key:∀ {t:Rat},0=(dD ((k:Rat) * d1) ((k:Rat) * d2) ((k:Rat) * d3):Rat) * ((k:Rat) * t)→t=0:=fun {t} h=>by
          rcases Rat.mul_eq_zero.1 h.symm with k | k
          · grind
          rcases Rat.mul_eq_zero.1 k with k | k
          · grind
          exact k
        exact absurd ⟨key w1,key w2,key w3⟩ hnz
      exact h
    have hprim2:=fR_ (vF c1 oo_) (vF c2 oo_) (vF c3 oo_) hG2 f1 f2 f3 oo_ oo_ oo_
    have hdir2:gC ⟨p.a,p.b,p.p,lG p.p (jE (aE (W.cv k)) (jD p.q p.p))⟩ = WF (⟨W.cv a,W.cv b,W.cv c⟩,wl 0):=by
      unfold gC;simp only;rw [en2,WW,hprim2]
    rw [hcol,hdir,hdir2];simp only [bM,cond_false]
    -- the sums
    have s1:=CN hf.hx hg.hx hf.sx hg.sx oo_ oo_ oo_;have s2:=CN hf.hy hg.hy hf.sy hg.sy oo_ oo_ oo_;have s3:=CN hf.hz hg.hz hf.sz hg.sz oo_ oo_ oo_;have s4:=CN ho.hx ho2.hx ho.sx ho2.sx oo_ oo_ oo_;have s5:=CN ho.hy ho2.hy ho.sy ho2.sy oo_ oo_ oo_;have s6:=CN ho.hz ho2.hz ho.sz ho2.sz oo_ oo_ oo_
    have zs:∀ {L:Rt} {q:Rat},L.At q→q=0→((jK L).1 != 0)=false:=fun {L q} h h0=>by rw [nT_ h,h0];rfl
    rw [zs s1 (by grind),zs s2 (by grind),zs s3 (by grind),zs s4 (by grind),zs s5 (by grind),zs s6 (by grind)];have hpt:=eq3 hod qa_
    have hsg:decide ((jK (nE (jD p.q p.p) (fM ⟨W.cv a,W.cv b,W.cv c⟩))).1≤0)=false:=by
      rw [nT_ hin];have:=mj_ hinpos;exact decide_eq_false oo_
    have ex:(⟨(fM ⟨W.cv a,W.cv b,W.cv c⟩).x,(fM ⟨W.cv a,W.cv b,W.cv c⟩).y,(fM ⟨W.cv a,W.cv b,W.cv c⟩).z⟩:A3 Rt)=fM ⟨W.cv a,W.cv b,W.cv c⟩:=rfl;simp only [ex,hpt,hsg]
    simp [WF]
  rfl
end Go.Num

