/- Lemmas: what they ask stands in their statements. -/
import Derived.Test.YtcjoflcajgaifaaGreatDoorMAl
set_option linter.unusedSimpArgs false
set_option linter.unusedVariables false
namespace Go.Num
namespace QP
theorem Rb.mono {c d c' d':Rat} {f:QP} (h:Rb c d f) (h1:c≤c') (h2:d'≤d):Rb c' d' f:=by
 obtain ⟨η,hη,h|h⟩:=h
 ·exact ⟨η,hη,.inl fun x a b=>h x (by grind) (by grind)⟩
 exact ⟨η,hη,.inr fun x a b=>h x (by grind) (by grind)⟩
theorem Y2 {f:QP} {c d η:Rat} (hη:0<η) (h:∀ x,c≤x→x≤d→η≤(D f).ev x) (hl:c<d):f.ev c<f.ev d:=by
 obtain ⟨A,hA,ha⟩:=Ab.self c;obtain ⟨B,hB,hb⟩:=Ab.self d
 have iA:∀ x,c≤x→x≤d→Ab x (A+B):=fun x p q=>by unfold Ab at ha hb ⊢;grind
 obtain ⟨K,hK,hk⟩:=tay (A+B) f;obtain ⟨δ,hδ,h1⟩:=oK hK (A:=η*(1 / 2)) (by grind);refine sub (P:=fun a b=>f.ev a<f.ev b) hδ (fun a b p q r s=>?_) (fun a m b _ _ _ _ p q=>by grind) hl;have k:=hk a b (iA a p (by grind)) (iA b (by grind) r) (by grind);have h2:K*(b - a)≤η*(1 / 2):=Rat.le_trans (Rat.mul_le_mul_of_nonneg_left (b:=δ) s hK) h1;have h3:=Rat.mul_le_mul_of_nonneg_left h2 (show (0:Rat)≤b - a by grind);have h4:=Rat.mul_le_mul_of_nonneg_left (h a p (by grind)) (show (0:Rat)≤b - a by grind);have h5:=Rat.mul_pos (show (0:Rat)<b - a by grind) hη;unfold Ab at k
 grind
theorem d3_ {f:QP} {c d η:Rat} (hη:0<η) (h:∀ x,c≤x→x≤d→(D f).ev x ≤ -η) (hl:c<d):f.ev d<f.ev c:=by
 have e:∀ x,(D (C (-1)*f)).ev x = -(D f).ev x:=fun x=>by rw [M5,D_C,zV,zT,ev_mul,ev_C];grind
 have:=Y2 (f:=C (-1)*f) hη (fun x a b=>by rw [e];have:=h x a b;grind) hl;rw [ev_mul,ev_mul,ev_C,ev_C] at this
 grind
section
variable {f g:QP} {l:List QP} {κ c d:Rat}
theorem e6_ (hc:Chain (f::g::l)) (hκ:0<κ) (hD:∀ x,g.ev x=κ*(D f).ev x) (hr:Rb c d (D f)) (hl:c<d) :
  V (f::g::l) c+(if f.ev d<0 then 1 else 0)=V (f::g::l) d+(if f.ev c<0 then 1 else 0)∨V (f::g::l) c+(if 0<f.ev d then 1 else 0)=V (f::g::l) d+(if 0<f.ev c then 1 else 0):=by
 obtain ⟨η,hη,hr|hr⟩:=hr
 ·left
  refine MN hc hκ hD (P:=fun c d=>(∀ x,c≤x→x≤d→η≤(D f).ev x)→V (f::g::l) c+(if f.ev d<0 then 1 else 0)=V (f::g::l) d+(if f.ev c<0 then 1 else 0)) (fun c d hl h hr=>?_) (fun c m d h1 h2 p q hr=>?_) hl hr
  ·have hcd:=Y2 hη hr hl
   rcases h with ⟨h1,h2⟩|⟨W,h1,h2⟩|⟨W,h1,h2⟩
   ·obtain ⟨e,he,h1|h1⟩:=h1
    ·have a:=h1 c Rat.le_refl (by grind);have b:=h1 d (by grind) Rat.le_refl
     rw [if_neg (by grind),if_neg (by grind),h2]
    have a:=h1 c Rat.le_refl (by grind);have b:=h1 d (by grind) Rat.le_refl;rw [if_pos (by grind),if_pos (by grind),h2]
   ·rw [h2 c Rat.le_refl (by grind),h2 d (by grind) Rat.le_refl];omega
   have:=h1 c d Rat.le_refl hl Rat.le_refl;grind
  have a:=p fun x a b=>hr x a (by grind);have b:=q fun x a b=>hr x (by grind) b;omega
 right
 refine MN hc hκ hD (P:=fun c d=>(∀ x,c≤x→x≤d→(D f).ev x ≤ -η)→V (f::g::l) c+(if 0<f.ev d then 1 else 0)=V (f::g::l) d+(if 0<f.ev c then 1 else 0)) (fun c d hl h hr=>?_) (fun c m d h1 h2 p q hr=>?_) hl hr
 ·have hcd:=d3_ hη hr hl
  rcases h with ⟨h1,h2⟩|⟨W,h1,h2⟩|⟨W,h1,h2⟩
  ·obtain ⟨e,he,h1|h1⟩:=h1
   ·have a:=h1 c Rat.le_refl (by grind);have b:=h1 d (by grind) Rat.le_refl
    rw [if_pos (by grind),if_pos (by grind),h2]
   have a:=h1 c Rat.le_refl (by grind);have b:=h1 d (by grind) Rat.le_refl;rw [if_neg (by grind),if_neg (by grind),h2]
  ·have:=h1 c d Rat.le_refl hl Rat.le_refl;grind
  rw [h2 c Rat.le_refl (by grind),h2 d (by grind) Rat.le_refl];omega
 have a:=p fun x a b=>hr x a (by grind);have b:=q fun x a b=>hr x (by grind) b;omega
def Two (f:QP) (L:List QP) (c d:Rat):Prop:=V L d+2≤V L c∨(V L d+1≤V L c∧f.ev c=0)
theorem two_nD (hc:Chain (f::g::l)) (hκ:0<κ) (hD:∀ x,g.ev x=κ*(D f).ev x) (hl:c<d) (h:Two f (f::g::l) c d):¬ Rb c d (D f):=fun hr=>by
 have k:=e6_ hc hκ hD hr hl;unfold Two at h;rcases h with h|⟨h,h0⟩
 ·rcases k with k|k<;>(repeat' split at k)<;>omega
 rw [h0] at k;rcases k with k|k
 ·rw [if_neg (show ¬ (0:Rat)<0 by grind)] at k;split at k<;>omega
 rw [if_neg (show ¬ (0:Rat)<0 by grind)] at k;split at k<;>omega
theorem st_rb (hc:Chain (f::g::l)) (hκ:0<κ) (hD:∀ x,g.ev x=κ*(D f).ev x) (hl:c<d) (hr:Rb c d f):V (f::g::l) c=V (f::g::l) d:=by
 refine MN hc hκ hD (P:=fun c d=>Rb c d f→V (f::g::l) c=V (f::g::l) d) (fun c d hl h hr=>?_) (fun c m d h1 h2 p q hr=>?_) hl hr
 ·rcases h with ⟨h1,h2⟩|⟨W,h1,h2⟩|⟨W,h1,h2⟩
  ·exact h2
  ·rw [h2 c Rat.le_refl (by grind),h2 d (by grind) Rat.le_refl]
   obtain ⟨e,he,hr|hr⟩:=hr
   ·have a:=hr c Rat.le_refl (by grind);have b:=hr d (by grind) Rat.le_refl
    rw [if_neg (by grind),if_neg (by grind)]
   have a:=hr c Rat.le_refl (by grind);have b:=hr d (by grind) Rat.le_refl;rw [if_pos (by grind),if_pos (by grind)]
  rw [h2 c Rat.le_refl (by grind),h2 d (by grind) Rat.le_refl];obtain ⟨e,he,hr|hr⟩:=hr
  ·have a:=hr c Rat.le_refl (by grind);have b:=hr d (by grind) Rat.le_refl
   rw [if_pos (by grind),if_pos (by grind)]
  have a:=hr c Rat.le_refl (by grind);have b:=hr d (by grind) Rat.le_refl;rw [if_neg (by grind),if_neg (by grind)]
 rw [p (hr.mono Rat.le_refl (by grind)),q (hr.mono (by grind) Rat.le_refl)]
theorem small_at {p:QP} (hl:c≤d) (h:¬ Rb c d p) {ε:Rat} (hε:0<ε):∃ z,c≤z∧z≤d∧Ab (p.ev z) ε:=by
 apply Classical.byContradiction
 intro hn;refine h (Aw.rb ⟨ε,hε,fun x a b=>?_⟩ hl)
 by_cases k1:ε≤p.ev x
 ·exact .inl k1
 by_cases k2:p.ev x ≤ -ε
 ·exact .inr k2
 exact absurd ⟨x,a,b,by unfold Ab;grind⟩ hn
end
structure Cub (f:QP) (a b c e:Int):Prop where
 v:∀ x,f.ev x=(a:Rat)*(x*x*x)+(b:Rat)*(x*x)+(c:Rat)*x+(e:Rat)
 d:∀ x,(D f).ev x=3*(a:Rat)*(x*x)+2*(b:Rat)*x+(c:Rat)
theorem TI {n:Int} (h:n≠0) {x:Rat} (hx:Ab ((n:Int):Rat) x):1≤x:=by
 unfold Ab at hx;rcases Int.lt_or_gt_of_ne h with k|k
 ·have:(n:Rat)≤((-1:Int):Rat):=Rat.intCast_le_intCast.2 (by omega)
  have e:((-1:Int):Rat) = -1:=rfl
  grind
 have:((1:Int):Rat)≤(n:Rat):=Rat.intCast_le_intCast.2 (by omega);have e:((1:Int):Rat)=1:=rfl
 grind
theorem Ab.int {n:Int} {B:Nat} (h:n.natAbs≤B):Ab (n:Rat) (B:Rat):=by
 constructor
 ·have:((-(B:Int):Int):Rat)≤(n:Rat):=Rat.intCast_le_intCast.2 (by omega)
  rwa [Rat.intCast_neg,Rat.intCast_natCast] at this
 have:(n:Rat)≤(((B:Int):Int):Rat):=Rat.intCast_le_intCast.2 (by omega)
 rwa [Rat.intCast_natCast] at this
section
variable {f:QP} {a b c e:Int}
def VA (a b c e:Int):Int:=b*b*c*c - 4*a*c*c*c - 4*b*b*b*e - 27*a*a*e*e+18*a*b*c*e
theorem bA_ (h:Cub f a b c e) (ha:a≠0) (hz:∀ x,¬ (f.ev x=0∧(D f).ev x=0)):VA a b c e≠0:=fun h0=>by
 have a0:(a:Rat)≠0:=fun e=>ha (Rat.intCast_eq_zero_iff.1 e)
 have hq:(b:Rat)*b*c*c - 4*a*c*c*c - 4*b*b*b*e - 27*a*a*e*e+18*a*b*c*e=0:=by
  have:((VA a b c e:Int):Rat)=0:=by rw [h0];rfl
  unfold VA at this;simp only [Rat.intCast_add,Rat.intCast_sub,Rat.intCast_mul] at this;exact this
 by_cases hp:6*(a:Rat)*c - 2*b*b=0
 ·-- a triple zero
  refine hz (-(b:Rat)*(3*(a:Rat))⁻¹) ⟨?_,?_⟩
  ·rw [h.v]
   have i:(3*(a:Rat))*(3*(a:Rat))⁻¹=1:=Rat.mul_inv_cancel _ (by grind);generalize (3*(a:Rat))⁻¹=v at *
   have hqq:9*(a:Rat)*e - b*c=0:=by
    have:(9*(a:Rat)*e - b*c)*(9*(a:Rat)*e - b*c)=0:=by grind
    rcases Rat.mul_eq_zero.1 this with k|k<;>exact k
   grind
  rw [h.d];have i:(3*(a:Rat))*(3*(a:Rat))⁻¹=1:=Rat.mul_inv_cancel _ (by grind);generalize (3*(a:Rat))⁻¹=v at *
  grind
 refine hz (-(9*(a:Rat)*e - b*c)*(6*(a:Rat)*c - 2*b*b)⁻¹) ?_;have i:(6*(a:Rat)*c - 2*b*b)*(6*(a:Rat)*c - 2*b*b)⁻¹=1:=Rat.mul_inv_cancel _ hp;have h1:=h.v (-(9*(a:Rat)*e - b*c)*(6*(a:Rat)*c - 2*b*b)⁻¹);have h2:=h.d (-(9*(a:Rat)*e - b*c)*(6*(a:Rat)*c - 2*b*b)⁻¹);generalize (6*(a:Rat)*c - 2*b*b)⁻¹=v at *
 have d0:(D f).ev (-(9*(a:Rat)*e - b*c)*v)=0:=by
  have key:(6*(a:Rat)*c - 2*b*b)*((6*(a:Rat)*c - 2*b*b)*(D f).ev (-(9*(a:Rat)*e - b*c)*v))=0:=by rw [h2];grind
  rcases Rat.mul_eq_zero.1 key with k|k
  ·exact absurd k hp
  rcases Rat.mul_eq_zero.1 k with k|k
  ·exact absurd k hp
  exact k
 refine ⟨?_,d0⟩
 have key:9*(a:Rat)*f.ev (-(9*(a:Rat)*e - b*c)*v)=0:=by rw [h1];rw [h2] at d0;grind
 rcases Rat.mul_eq_zero.1 key with k|k
 ·grind
 exact k
theorem Ab.sub_le {x y A:Rat} (h:Ab (x - y) A) {B:Rat} (g:Ab y B):Ab x (A+B):=by unfold Ab at *;grind
def sepC (B M:Rat):Rat:=(24*(B*B*B*M)+46*(B*B*B))*(B*(1+3*M))
theorem far3 (h:Cub f a b c e) (ha:a≠0) (hz:∀ x,¬ (f.ev x=0∧(D f).ev x=0)) {B M l r:Rat} (hB:0≤B) (hM:0≤M) (ba:Ab (a:Rat) B) (bb:Ab (b:Rat) B) (bc:Ab (c:Rat) B) (be:Ab (e:Rat) B) (hl:Ab l M) (hr:Ab r M) (hlr:l≤r)
  (h1:∀ ε:Rat,0<ε→∃ z,l≤z∧z≤r∧Ab ((D f).ev z) ε) (h2:∀ ε:Rat,0<ε→∃ w,l≤w∧w≤r∧Ab (f.ev w) ε):1≤sepC B M*((r - l)*(r - l)):=by
 have hd:=bA_ h ha hz;have a0:(a:Rat)≠0:=fun e=>ha (Rat.intCast_eq_zero_iff.1 e)
 have hid:∀ z:Rat,9*(a:Rat)*((VA a b c e:Int):Rat)=9*(a:Rat)*((3*a*(6*a*c - 2*b*b)*z+2*b*(6*a*c - 2*b*b) - 3*a*(9*a*e - b*c))*f.ev z) - ((6*a*c - 2*b*b)*(6*a*c - 2*b*b)+(3*a*(6*a*c - 2*b*b)*z+2*b*(6*a*c - 2*b*b) - 3*a*(9*a*e - b*c))*(3*a*z+b))*(D f).ev z:=fun z=>by
  rw [h.v,h.d];unfold VA;simp only [Rat.intCast_add,Rat.intCast_sub,Rat.intCast_mul];have e4:((4:Int):Rat)=4:=rfl;have e27:((27:Int):Rat)=27:=rfl;have e18:((18:Int):Rat)=18:=rfl;rw [e4,e27,e18]
  grind
 generalize hdd:VA a b c e=dd at *
 have bp:Ab (6*(a:Rat)*c - 2*b*b) (8*(B*B)):=by
  have k1:=ba.mul bc;have k2:=bb.mul bb;unfold Ab at *;grind
 have bq:Ab (9*(a:Rat)*e - b*c) (10*(B*B)):=by
  have k1:=ba.mul be;have k2:=bb.mul bc;unfold Ab at *;grind
 generalize hp:6*(a:Rat)*c - 2*b*b=p at *;generalize hq:9*(a:Rat)*e - b*c=q at *;have hin:∀ z,l≤z→z≤r→Ab z M:=fun z u v=>FS hl hr u v
 have bw:∀ z,l≤z→z≤r→Ab (3*a*p*z+2*b*p - 3*a*q) (24*(B*B*B*M)+46*(B*B*B)):=fun z u v=>by
  have k1:=(ba.mul bp).mul (hin z u v);have k2:=bb.mul bp;have k3:=ba.mul bq;unfold Ab at *;grind
 have bv:∃ V,0≤V∧∀ z,l≤z→z≤r→Ab (p*p+(3*a*p*z+2*b*p - 3*a*q)*(3*a*z+b)) V:=by
  have b3:∀ z,l≤z→z≤r→Ab (3*a*z+b) (3*(B*M)+B):=fun z u v=>by
   have k1:=ba.mul (hin z u v);unfold Ab at *;grind
  refine ⟨_,?_,fun z u v=>(bp.mul bp).add ((bw z u v).mul (b3 z u v))⟩;exact ((bp.mul bp).add ((bw l Rat.le_refl hlr).mul (b3 l Rat.le_refl hlr))).nn
 obtain ⟨V,hV,bv⟩:=bv;have hW:0≤24*(B*B*B*M)+46*(B*B*B):=(bw l Rat.le_refl hlr).nn;unfold sepC;generalize 24*(B*B*B*M)+46*(B*B*B)=W at *;have hK:0≤B*(1+3*M):=Rat.mul_nonneg hB (by grind);generalize hKe:B*(1+3*M)=K at *
 have hL:0≤r - l:=by grind
 -- the contrary jW cr_ for small numbers
 apply Classical.byContradiction
 intro hn
 have hgap:0<1 - W*K*((r - l)*(r - l)):=by grind
 obtain ⟨ε,hε,hs⟩:=oK (K:=W+W*(r - l)+V) (by have:=Rat.mul_nonneg hW hL;grind) (A:=(1 - W*K*((r - l)*(r - l)))*(1 / 2)) (by grind);obtain ⟨z,z1,z2,hz1⟩:=h1 ε hε;obtain ⟨w,w1,w2,hw1⟩:=h2 ε hε
 have hwz:Ab (w - z) (r - l):=by unfold Ab;grind
 have hfz:Ab (f.ev z) (ε+(r - l)*ε+(r - l)*(r - l)*K):=by
  have k1:f.ev z=f.ev w - (w - z)*(D f).ev z - (w - z)*(w - z)*(b+a*(w+2*z)):=by rw [h.v,h.v,h.d];grind
  have k2:Ab ((b:Rat)+a*(w+2*z)) K:=by
   have m1:=ba.mul (hin w w1 w2);have m2:=ba.mul (hin z z1 z2);rw [← hKe];unfold Ab at *;grind
  rw [k1];exact (hw1.sub (hwz.mul hz1)).sub ((hwz.mul hwz).mul k2)
 have k3:=(bw z z1 z2).mul hfz;have k4:=(bv z z1 z2).mul hz1;have k5:=hid z;generalize (3*a*p*z+2*b*p - 3*a*q)=ww at *;generalize p*p+ww*(3*a*z+b)=vv at *
 have k6:Ab (dd:Rat) (W*(ε+(r - l)*ε+(r - l)*(r - l)*K)+V*ε):=by
  have i:(9*(a:Rat))*(9*(a:Rat))⁻¹=1:=Rat.mul_inv_cancel _ (by grind)
  have k7:(dd:Rat)=ww*f.ev z - (9*(a:Rat))⁻¹*(vv*(D f).ev z):=by
   generalize (9*(a:Rat))⁻¹=ii at *
   have:(9*(a:Rat)*ii)*(dd:Rat)=(9*(a:Rat)*ii)*(ww*f.ev z) - ii*(vv*(D f).ev z):=by grind
   rw [i] at this
   grind
  have k8:Ab (9*(a:Rat))⁻¹ 1:=by
   rcases Int.lt_or_gt_of_ne ha with s|s
   ·have m:(a:Rat) ≤ -1:=by
     have:=Rat.intCast_le_intCast.2 (show a ≤ -1 by omega);exact this
    generalize (9*(a:Rat))⁻¹=ii at *;unfold Ab
    constructor
    ·apply Classical.byContradiction
     intro hc;have:=Rat.mul_le_mul_of_nonneg_left (a:=1) (b:=-ii) (c:=-(9*(a:Rat))) (by grind) (by grind)
     grind
    apply Classical.byContradiction
    intro hc;have:=Rat.mul_le_mul_of_nonneg_left (a:=1) (b:=ii) (c:=-(9*(a:Rat))) (by grind) (by grind)
    grind
   have m:1≤(a:Rat):=by
    have:=Rat.intCast_le_intCast.2 (show 1≤a by omega);exact this
   generalize (9*(a:Rat))⁻¹=ii at *;unfold Ab
   constructor
   ·apply Classical.byContradiction
    intro hc;have:=Rat.mul_le_mul_of_nonneg_left (a:=1) (b:=-ii) (c:=(9*(a:Rat))) (by grind) (by grind)
    grind
   apply Classical.byContradiction
   intro hc;have:=Rat.mul_le_mul_of_nonneg_left (a:=1) (b:=ii) (c:=(9*(a:Rat))) (by grind) (by grind)
   grind
  rw [k7];have:=k8.mul k4;rw [Rat.one_mul] at this;exact k3.sub this
 have k9:=TI hd k6
 grind
theorem far2 (h:Cub f 0 b c e) (hb:b≠0) (hz:∀ x,¬ (f.ev x=0∧(D f).ev x=0)) {B M l r:Rat} (hB:1≤B) (hM:0≤M) (bb:Ab (b:Rat) B) (hl:Ab l M) (hr:Ab r M) (hlr:l≤r)
  (h1:∀ ε:Rat,0<ε→∃ z,l≤z∧z≤r∧Ab ((D f).ev z) ε) (h2:∀ ε:Rat,0<ε→∃ w,l≤w∧w≤r∧Ab (f.ev w) ε):1≤4*B*B*((r - l)*(r - l)):=by
 have b0:(b:Rat)≠0:=fun e=>hb (Rat.intCast_eq_zero_iff.1 e);have z0:((0:Int):Rat)=0:=rfl
 have hid:∀ z:Rat,((c*c - 4*b*e:Int):Rat)=(D f).ev z*(D f).ev z - 4*b*f.ev z:=fun z=>by
  rw [h.v,h.d];simp only [Rat.intCast_add,Rat.intCast_sub,Rat.intCast_mul];have e4:((4:Int):Rat)=4:=rfl;rw [e4,z0]
  grind
 have hd:c*c - 4*b*e≠0:=fun hd=>by
  rw [hd,z0] at hid;have i:(2*(b:Rat))*(2*(b:Rat))⁻¹=1:=Rat.mul_inv_cancel _ (by grind);have hx:=hid (-(c:Rat)*(2*(b:Rat))⁻¹)
  have d0:(D f).ev (-(c:Rat)*(2*(b:Rat))⁻¹)=0:=by rw [h.d,z0];generalize (2*(b:Rat))⁻¹=ii at *;grind
  refine hz _ ⟨?_,d0⟩;rw [d0] at hx
  have:4*(b:Rat)*f.ev (-(c:Rat)*(2*(b:Rat))⁻¹)=0:=by grind
  rcases Rat.mul_eq_zero.1 this with k|k
  ·grind
  exact k
 generalize c*c - 4*b*e=dd at *
 have hL:0≤r - l:=by grind
 apply Classical.byContradiction
 intro hn;obtain ⟨ε,hε,hs⟩:=oK (K:=1+4*B+4*B*(r - l)) (by have:=Rat.mul_nonneg (show (0:Rat)≤4*B by grind) hL;grind) (A:=(1 - 4*B*B*((r - l)*(r - l)))*(1 / 2)) (by grind);obtain ⟨ε',hε',hs1,hs2⟩:=G2 hε (show (0:Rat)<1 by decide);obtain ⟨z,z1,z2,hz1⟩:=h1 ε' hε';obtain ⟨w,w1,w2,hw1⟩:=h2 ε' hε'
 have hwz:Ab (w - z) (r - l):=by unfold Ab;grind
 have hfz:Ab (f.ev z) (ε'+(r - l)*ε'+(r - l)*(r - l)*B):=by
  have k1:f.ev z=f.ev w - (w - z)*(D f).ev z - (w - z)*(w - z)*b:=by rw [h.v,h.v,h.d,z0];grind
  rw [k1];exact (hw1.sub (hwz.mul hz1)).sub ((hwz.mul hwz).mul bb)
 have k3:=bb.mul hfz;have k4:=hz1.mul hz1;have k5:=hid z
 have k6:Ab (dd:Rat) (ε'*ε'+4*(B*(ε'+(r - l)*ε'+(r - l)*(r - l)*B))):=by
  rw [k5];unfold Ab at *;grind
 have k9:=TI hd k6;have k10:=Rat.mul_le_mul_of_nonneg_left hs2 (Rat.le_of_lt hε');have k11:=Rat.mul_le_mul_of_nonneg_left hs1 (show (0:Rat)≤1+4*B+4*B*(r - l) by have:=Rat.mul_nonneg (show (0:Rat)≤4*B by grind) hL;grind)
 grind
end
end QP
open Go Go.Kn
open QP (Dv Dg Irr Chain Sf)
theorem ci_ (p:List I):lF (fun k=>vI (p.getD k I0)):=⟨p.length,fun i hi=>by show vI (p.getD i I0)=0;rw [lO hi,vI0]⟩
noncomputable def qp (p:List I):QP:=ZP (fun k=>vI (p.getD k I0)) (ci_ p)
theorem tW {p:List I} {c:Nat→Int} (h:Po p c) (e:lF c):qp p=ZP c e:=QP.ex fun k=>by unfold qp;rw [kT,kT,h.c k]
theorem R2:qp []=QP.C 0:=QP.ex fun k=>by
 rw [tW B9 B9.ends,kT,QP.C0_c];rfl
def Gp (p:List I):Prop:=Rgt p∧p.all gdI=true∧p≠[]
theorem Gp.po {p:List I} (h:Gp p):∃ c,Po p c:=⟨_,GS h.1 h.2.1⟩
theorem Gp.ne {p:List I} (h:Gp p):qp p≠QP.C 0:=by
 obtain ⟨c,hc⟩:=h.po;rw [tW hc hc.ends];exact UZ hc.ends (hc.ne_nil h.2.2)
inductive RL:List QP→Prop
 | one (a:QP):RL [a]
 | two (b a:QP):RL [b,a]
 | step (c b a q:QP) (l:List QP) (s t:Rat) (hs:0<s) (ht:0<t) (h:QP.C s*a+QP.C t*c=q*b) (hr:RL (b::a::l)):RL (c::b::a::l)
theorem RL.tail {c b:QP} {l:List QP} (h:RL (c::b::l)):RL (b::l):=by
 cases h with
 | two=>exact .one _
 | step _ _ _ q l s t hs ht h hr=>exact hr
theorem PX:∀ (R:List QP) (b c:QP) (l:List QP),RL (c::b::R)→Chain (b::c::l)→Chain (R.reverse++(b::c::l))
 | [],b,c,l,_,h=>h
 | a::R,b,c,l,hr,h=>by
  cases hr with
  | step _ _ _ q _ s t hs ht e hr =>
   rw [List.reverse_cons,List.append_assoc];refine PX R a b (c::l) hr (.step a b c q l s t hs ht (fun x=>?_) h);have:=congrArg (fun y:QP=>y.ev x) e;simp only [QP.ev_add,QP.ev_mul,QP.ev_C] at this;exact this
theorem RL.dv {d:QP}:∀ (l:List QP) (b a:QP),RL (b::a::l)→Dv d b→Dv d a→∀ e∈l,Dv d e
 | [],_,_,_,_,_,e,he=>by cases he
 | x::l,b,a,hr,hb,ha,e,he=>by
  cases hr with
  | step _ _ _ q _ s t hs ht h hr =>
   have hx:Dv d x:=by
    have s0:s≠0:=by grind
    refine QP.Dv.scale s0 ?_
    have h1:QP.C s*x=q*a+QP.C (-1)*(QP.C t*b):=by
     rw [← h];exact QP.ex fun k=>by simp only [QP.add_c,QP.C_mul];grind
    rw [h1];exact (ha.mul_l _).add ((hb.mul_l _).mul_l _)
   rcases List.mem_cons.1 he with rfl|he
   ·exact hx
   exact RL.dv l a x hr ha hx e he
theorem AO:bP badp (E (Z.of (-1)))=badp:=by kernel_rfl
theorem e7_ {a b:List I} {α β:Nat→Int} (ha:Po a α) (hb:Po b β) (h0:b≠[]) (hg:(aC (bP (aZ a b) (E (Z.of (-1))))).all gdI=true) :
  ∃ γ:Nat→Int,Po (aC (bP (aZ a b) (E (Z.of (-1))))) γ∧∃ (s t:Rat) (q:QP),0<s∧0<t∧QP.C s*qp a+QP.C t*qp (aC (bP (aZ a b) (E (Z.of (-1)))))=q*qp b:=by
 obtain ⟨n,n1,n2,n3⟩:=hb.top h0;rcases cQ_ ha hb n1 with hr|hr
 ·rw [hr,AO,rL,eE] at hg;cases hg
 have hs:Po (bP (aZ a b) (E (Z.of (-1)))) _:=NA hr dd_ (fun k=>by have:=hr.B k;unfold cM at *;rwa [Int.mul_neg_one,Int.natAbs_neg]);obtain ⟨γ,t,_,t0,hγ,e1,_⟩:=tT hs;obtain ⟨Q,hQ,hq⟩:=EX (a:=((β n).natAbs:Int)) (o:=(β n).sign) (d:=β) (n:=n) (a.length - n) α;refine ⟨γ,hγ,((((β n).natAbs:Int) ^ (a.length - n):Int):Rat),(t:Rat),ZP Q hQ,?_,?_,?_⟩
 ·exact Rat.intCast_pos.2 (Int.pow_pos oo_)
 ·exact Rat.intCast_pos.2 t0
 rw [tW ha ha.ends,tW hγ hγ.ends,tW hb hb.ends,QP.mul_comm' (ZP Q hQ),← pW hb.ends hQ];refine QP.ex fun k=>?_;rw [QP.add_c,QP.C_mul,QP.C_mul,kT,kT,kT,← Rat.intCast_mul,← Rat.intCast_mul,← Rat.intCast_add]
 congr 1
 have h1:=hq k;have h2:=e1 k;rw [← h2,h1];omega
theorem FP (pre:List (List I)) (x y:List I):((pre++[x])++[y]).getD (((pre++[x])++[y]).length - 2) []=x:=by
 simp [List.getD_eq_getElem?_getD]
theorem du_ (p:List I):∀ (k:Nat) (pre:List (List I)) (last next:List I),(∀ x∈pre++[last],Gp x)→Rgt next→RL (qp next::qp last::pre.reverse.map qp)→gmP next<k →
  cQ p k (pre++[last]) next = .inr ([],false) ∨ ∃ (pre':List (List I)) (last':List I),cQ p k (pre++[last]) next = .inl (pre'++[last'],[])∧(∀ x∈pre'++[last'],Gp x)∧RL (qp []::qp last'::pre'.reverse.map qp)∧∃ t,pre'++[last']=pre++[last]++t∧(next≠[]→∃ t',t=next::t')∧(next=[]→t=[])
 | 0,pre,last,next,_,_,_,hk=>absurd hk (Nat.not_lt_zero _)
 | k+1,pre,last,next,hG,hR,hr,hk=>by
  unfold cQ
  by_cases h0:next=[]
  ·subst h0
   exact .inr ⟨pre,last,rfl,hG,hr,[],by simp,fun h=>absurd O h,fun _=>rfl⟩
  have hl:0<next.length:=List.length_pos_iff.2 h0
  rw [decide_eq_true (show 0<(next.length:Int) by omega),cond_true,FP,zH]
  cases hn:next.all gdI
  ·have hb:next=badp:=zP hR hn
   left
   have hrem:aZ last next=badp:=GR _ _ (MC hR) hn
   rw [hrem,AO,rL,wM,cond_true]
  have hGn:Gp next:=⟨hR,hn,h0⟩
  obtain ⟨β,hβ⟩:=hGn.po;obtain ⟨α,hα⟩:=(hG last (by simp)).po;have hlen:=cG (bP (aZ last next) (E (Z.of (-1))))
  cases hb:aP (aC (bP (aZ last next) (E (Z.of (-1)))))
  ·rw [lY oo_] at hb
   have hg:(aC (bP (aZ last next) (E (Z.of (-1))))).all gdI=true:=by simpa using hb
   obtain ⟨γ,hγ,s,t,q,hs,ht,e⟩:=e7_ hα hβ h0 hg
   have hd:gmP (aC (bP (aZ last next) (E (Z.of (-1)))))<gmP next:=by
    have h1:=(MO (ME hR) hg).2;unfold gmP;rw [hg,hn,cond_true,cond_true];omega
   rw [cond_false]
   rcases du_ p k (pre++[last]) next _ (fun x hx=>by
    rcases List.mem_append.1 hx with hx|hx
    ·exact hG x hx
    rw [List.mem_singleton.1 hx];exact hGn) hγ.rgt (by
    rw [List.reverse_append]
    exact .step _ _ _ q _ s t hs ht e hr) oo_ with h1|⟨pre',last',h1,h2,h3,u,h4,_,_⟩
   ·exact .inl h1
   exact .inr ⟨pre',last',h1,h2,h3,next::u,by rw [h4];simp,fun _=>⟨u,rfl⟩,fun h=>absurd h h0⟩
  exact .inl O
theorem IJ (p:List I) (out:List (List I)) (next:List I):∀ l:List (List I),(∀ x∈l,Gp x)→cW p out next l = .inl ()
 | [],_=>rfl
 | x::l,h=>by
  unfold cW;obtain ⟨c,hc⟩:=(h x (List.mem_cons_self)).po;rw [hc.nb,cond_false]
  exact IJ p out next l fun y hy=>h y (List.mem_cons_of_mem _ hy)
structure St (p:List I) (L:List (List I)):Prop where
 g:∀ x∈L,Gp x
 s:∃ f l,(L=f::l∧f=aT p)∧Rad (qp p) (qp f)∧Sf (qp p) (qp f) (L.map qp)∧(l=[] ∨ ∃ (g:List I) (l':List (List I)) (κ:Rat),l=g::l'∧Chain (L.map qp)∧0<κ∧∀ x,(qp g).ev x=κ*(QP.D (qp f)).ev x)
theorem cC_ {p:List I} (hp:Gp p):aV p=([],false)∨((aV p).2=true∧St p (aV p).1):=by
 obtain ⟨c,hc⟩:=hp.po
 have bad_next:∀ (f next:List I),next=badp→cQ p (gmP next+1) [f] next = .inr ([],false):=fun f next h=>by
  subst h
  have h1:gmP badp+1=1+1:=by unfold gmP;rw [eE];rfl
  rw [h1];unfold cQ;rw [show decide (0<(badp.length:Int))=true from by kernel_rfl,cond_true,zH,GR _ _ dd_ eE,AO,rL,wM,cond_true]
 unfold aV;rcases dH_ hc hp.2.2 with hf|⟨F,hF,hR⟩
 ·left
  rw [hf,show aC (aD badp)=badp by kernel_rfl,bad_next _ _ O];rfl
 have hpq:ZP c hc.ends=qp p:=(tW hc _).symm;have hfq:ZP F hF.ends=qp (aT p):=(tW hF _).symm;rw [hpq,hfq] at hR;have hf0:aT p≠[]:=fun e=>hR.ne (by rw [e];exact R2);have hGf:Gp (aT p):=⟨hF.rgt,hF.g,hf0⟩;rcases M6 hF with hd|hd
 ·left
  rw [hd,rL,bad_next _ _ O];rfl
 obtain ⟨γ,t,_,t0,hγ,e1,_⟩:=tT hd;have tq:0<(t:Rat):=Rat.intCast_pos.2 t0
 have hgD:∀ x,(qp (aC (aD (aT p)))).ev x=(t:Rat)⁻¹*(QP.D (qp (aT p))).ev x:=fun x=>by
  have e2:QP.D (qp (aT p))=QP.C (t:Rat)*qp (aC (aD (aT p))):=QP.ex fun k=>by
   rw [tW hF hF.ends,tW hγ hγ.ends,← cT_,kT,QP.C_mul,kT,e1 k,Rat.intCast_mul]
  rw [e2,QP.ev_mul,QP.ev_C,← Rat.mul_assoc,Rat.inv_mul_cancel _ (by grind),Rat.one_mul]
 rcases du_ p (gmP (aC (aD (aT p)))+1) [] (aT p) (aC (aD (aT p))) (fun x hx=>by rw [List.mem_singleton.1 hx];exact hGf) hγ.rgt (.two _ _) (Nat.lt_succ_self _) with h1|⟨pre,last,h1,h2,h3,u,h4,h5,h6⟩
 ·left
  rw [List.nil_append] at h1;rw [h1];rfl
 right
 rw [List.nil_append] at h1 h4;rw [h1]
 show (sm (fun (_:Unit)=>(pre++[last],true)) (fun r=>r) (cW p (pre++[last]) [] (pre++[last]))).2=true∧St p (sm (fun (_:Unit)=>(pre++[last],true)) (fun r=>r) (cW p (pre++[last]) [] (pre++[last]))).1
 rw [IJ p _ _ _ h2];refine ⟨rfl,h2,?_⟩
 show ∃ f l,(pre++[last]=f::l∧f=aT p)∧_
 obtain ⟨n,hn⟩:=hR.up
 by_cases hnx:aC (aD (aT p))=[]
 ·have hu:=h6 hnx
  subst hu;rw [List.append_nil] at h4;rw [h4];refine ⟨_,[],⟨rfl,rfl⟩,hR,?_,.inl O⟩
  -- a constant
  have hz:∀ k,dI F k=0:=fun k=>by rw [e1 k,BL hγ hnx k,Int.mul_zero]
  have hC:qp (aT p)=QP.C ((qp (aT p)).c 0):=by
   obtain ⟨m,hm⟩:=QP.ex_dg hR.ne
   cases m with
   | zero=>exact QP.dg_C hm
   | succ m =>
    exfalso
    have:=hz m;unfold dI at this
    have h7:F (m+1)=0:=by
     rcases Int.mul_eq_zero.1 this with h|h
     ·omega
     exact h
    refine hm.1 ?_;rw [tW hF hF.ends,kT,h7];rfl
  have hc0:(qp (aT p)).c 0≠0:=fun e=>hR.ne (by rw [hC,e])
  show Sf (qp p) (qp (aT p)) [qp (aT p)]
  rw [hC] at hn ⊢;exact Sf.one hc0 hn
 obtain ⟨u',hu⟩:=h5 hnx;subst hu;rw [h4]
 have hL:pre≠[]:=fun e=>by
  rw [e,List.nil_append] at h4;have:=congrArg List.length h4
  simp at this
 obtain ⟨pr,a,hpa⟩:∃ pr a,pre=pr++[a]:=⟨pre.dropLast,pre.getLast hL,(List.dropLast_concat_getLast hL).symm⟩;subst hpa;rw [List.reverse_append,R2] at h3;have h3':RL (QP.C 0::qp last::qp a::pr.reverse.map qp):=h3
 -- the last one divides all
 have hlast:Dv (qp last) (qp a):=by
  cases h3' with
  | step _ _ _ q _ s t hs ht e hr =>
   refine QP.Dv.scale (show s≠0 by grind) ⟨q,?_⟩;rw [QP.mul_zero',QP.add_zero'] at e;rw [e,QP.mul_comm']
 have hall:=RL.dv (d:=qp last) _ _ _ h3'.tail (.refl _) hlast
 have hmem:∀ x∈(aT p)::aC (aD (aT p))::u',Dv (qp last) (qp x):=fun x hx=>by
  have hx':x∈pr++[a]++[last]:=by rw [h4];simpa using hx
  rcases List.mem_append.1 hx' with hx'|hx'
  ·rcases List.mem_append.1 hx' with hx'|hx'
   ·exact hall _ (List.mem_map_of_mem (List.mem_reverse.2 hx'))
   rw [List.mem_singleton.1 hx'];exact hlast
  rw [List.mem_singleton.1 hx'];exact .refl _
 have d1:=hmem _ (List.mem_cons_self)
 have d2:Dv (qp last) (QP.D (qp (aT p))):=by
  have:=hmem (aC (aD (aT p))) (by simp);rw [tW hF hF.ends,← cT_]
  have e2:ZP (dI F) (SW hF.ends)=QP.C (t:Rat)*qp (aC (aD (aT p))):=QP.ex fun k=>by rw [QP.C_mul,tW hγ hγ.ends,kT,kT,e1 k,Rat.intCast_mul]
  rw [e2];exact this.mul_l _
 have hln:=(h2 last (by simp)).ne;obtain ⟨m,hm⟩:=QP.ex_dg hln;have hm0:=QP.sqf_co hR.sq d1 d2 hm;subst hm0;have hC:=QP.dg_C hm;have ht0:(qp last).c 0≠0:=hm.1
 have hch:Chain ((pr++[a]++[last]).map qp):=by
  have h7:=PX (pr.reverse.map qp) (qp a) (qp last) [] h3'.tail (by rw [hC];exact .one _ _ ht0);rw [← List.map_reverse,List.reverse_reverse] at h7
  simpa using h7
 refine ⟨_,aC (aD (aT p))::u',⟨rfl,rfl⟩,hR,?_,.inr ⟨_,u',(t:Rat)⁻¹,rfl,?_,Rat.inv_pos.2 tq,hgD⟩⟩
 ·rw [h4] at hch
  exact Sf.of hch (Rat.inv_pos.2 tq) hgD hn hR.dv
 rw [h4] at hch;exact hch
open QP (sg sgs vr V sg_three as_ Dv Chain Sf)
def Ex (m:I) (v:Int):Prop:=∃ z,m=E z∧Zx z v
theorem gq_ {v:Int} {d q:Rat} (hd:0<d) (h:(v:Rat)=d*q):sg q=v.sign:=by
 rcases sg_three q with ⟨e,k⟩|⟨e,k⟩|⟨e,k⟩
 ·have h1:(0:Rat)<(v:Rat):=by rw [h];exact Rat.mul_pos hd k
  rw [e,Int.sign_eq_one_of_pos (Rat.intCast_pos.1 h1)]
 ·have h1:(0:Rat)<((-v:Int):Rat):=by
   have:=Rat.mul_pos hd (show (0:Rat) < -q by grind);rw [Rat.intCast_neg,h];grind
  have:=Rat.intCast_pos.1 h1;rw [e,Int.sign_eq_neg_one_of_neg oo_]
 have h1:(v:Rat)=((0:Int):Rat):=by rw [h,k,Rat.mul_zero];rfl
 rw [e,Rat.intCast_inj.1 h1];rfl
section
variable {p:List I} {c:Nat→Int} {x:Rt} {N D:Int}
theorem UT (h:Po p c) (hx:x.Is N D):∀ (f t:Nat) (i:Int) (m:I),t≤p.length→i=(p.length:Int) - 1 - t→p.length - t<f→Ex m (Go.Num.hv c N D p.length t) →
  Ex (gE p x f i m).2 (Go.Num.hv c N D p.length p.length)
 | 0,t,i,m,_,_,hf,_=>absurd hf (Nat.not_lt_zero _)
 | f+1,t,i,m,ht,hi,hf,hm=>by
  unfold gE
  by_cases h0:0≤i
  ·rw [decide_eq_true h0,cond_true]
   have hl:t<p.length:=by omega
   have e1:i.toNat=p.length - 1 - t:=by omega
   have e2:p.length - 1 - i.toNat=t:=by omega
   simp only;refine UT h hx f (t+1) _ _ oo_ oo_ oo_ ⟨_,rfl,?_⟩;obtain ⟨z,rfl,hz⟩:=hm;rw [e2,tR _ _ (show t<max (p.length:Int).toNat 1 by omega),hx.ed,e1,h.get,hx.en,bR,bR,bR,bR];have h1:Zx (pw (E (Z.of D)) t).dec (D ^ t):=eJ_ (x:=E (Z.of D)) (.of D) t;exact (hz.mul (.of N)).add ((Zx.of _).mul h1)
  rw [decide_eq_false h0,cond_false]
  obtain rfl:t=p.length:=by omega
  exact hm
theorem cI_ (h:Po p c) (hx:x.Is N D):Ex (eD p x).1 (Go.Num.hv c N D p.length p.length):=by
 unfold eD;rw [h.nb,YN,hJ,y9 hx];exact UT h hx (p.length+1) 0 ((p.length:Int) - 1) I0 (Nat.zero_le _) oo_ oo_ ⟨Z.of 0,I0_E,.of 0⟩
theorem KD {q:Rat} (h:Po p c) (hx:x.At q) (hs:(aG p x).2=true):(aG p x).1.1=sg ((qp p).ev q):=by
 have ix:=At.is hx;obtain ⟨z,hz,hv⟩:=cI_ h ix;unfold aG at hs ⊢;rw [hz] at hs ⊢;rcases hv.cases with hb|⟨he,hB⟩
 ·have hs:(!(E z).1.bad)=true:=hs
  rw [hb] at hs;cases hs
 show (Z.signW (E z).dec).1=_
 rw [he,bR,iQ hB];have hp:=@lS q;have hv:=RA (c:=c) (L:=p.length) (N:=q.num) (D:=(q.den:Int)) AD hp;rw [tW h h.ends,QP.ev_vl (n:=p.length) (fun i hi=>by rw [kT,h.zero hi];rfl)];exact (gq_ (d:=((q.den:Int):Rat) ^ (p.length - 1)) (by rw [← Rat.intCast_pow];exact Rat.intCast_pos.2 (Int.pow_pos hp)) hv).symm
end
theorem IE {p:List I} {x:Rt} (hs:(aG p x).2=true):∃ q,x.At q:=by
 refine EQ ?_
 cases hg:bH x
 ·exfalso
  unfold aG eD at hs;rw [YN,hJ,hg,show (aP p || !false)=true by simp,cond_true] at hs;exact absurd hs (by decide +kernel)
 rfl
theorem NB (p:List I) (x:Rt):-1≤(aG p x).1.1∧(aG p x).1.1≤1:=sgW _
theorem SR (c:List (List I)) (x:Rt) {q:Rat} (hx:x.At q):∀ (l:List (List I)) (s n:W),(∀ f∈l,Gp f)→0≤n.1→n.1+l.length≤1000 →
  dW c x l s n = .inr (wl 0,false)∨((∀ f∈l,(aG f x).2=true)∧∃ s' n':W,dW c x l s n = .inl (s',n')∧n'.1=n.1+(vr s.1 (sgs (l.map qp) q):Nat))
 | [],s,n,_,_,_=>.inr ⟨fun f hf=>(by cases hf),s,n,rfl,(Int.add_zero _).symm⟩
 | f::l,s,n,hl,h0,h1=>by
  unfold dW
  cases hs:(aG f x).2
  ·exact .inl O
  rw [cond_true];obtain ⟨c0,hc⟩:=(hl f (List.mem_cons_self)).po;have hv:=KD hc hx hs;have hr:=NB f x;have hl':∀ g∈l,Gp g:=fun g hg=>hl g (List.mem_cons_of_mem _ hg);have e1:sgs ((f::l).map qp) q=sg ((qp f).ev q)::sgs (l.map qp) q:=rfl;rw [e1,← hv]
  have hln:((f::l).length:Int)=(l.length:Int)+1:=by simp
  have both:∀ {P:W→Prop},(∀ g∈l,(aG g x).2=true)→∀ g∈f::l,(aG g x).2=true:=fun h g hg=>by
   rcases List.mem_cons.1 hg with rfl|hg
   ·exact hs
   exact h g hg
  by_cases z0:(aG f x).1.1=0
  ·rw [show ((aG f x).1.1 != 0)=false by simp [z0],cond_false]
   rcases SR c x hx l s n hl' h0 oo_ with h|⟨ha,s',n',h,hn⟩
   ·exact .inl h
   refine .inr ⟨both (P:=fun _=>True) ha,s',n',h,?_⟩;rw [vr,if_pos z0];exact hn
  rw [show ((aG f x).1.1 != 0)=true by simp [z0],cond_true,show ((aG f x).1.1==(-2))=false by simp;omega,cond_false];rw [vr,if_neg z0]
  by_cases z1:s.1≠0∧(aG f x).1.1≠s.1
  ·rw [show ((s.1 != 0)&&((aG f x).1.1 != s.1))=true by simp [z1.1,z1.2],cond_true,if_pos z1]
   have en:(W.add n (wl 1)).1=n.1+1:=by
    show IntKind.i64.wrap (n.1+1)=n.1+1
    rw [wi oo_]
   rcases SR c x hx l (aG f x).1 (W.add n (wl 1)) hl' oo_ oo_ with h|⟨ha,s',n',h,hn⟩
   ·exact .inl h
   exact .inr ⟨both (P:=fun _=>True) ha,s',n',h,by omega⟩
  rw [show ((s.1 != 0)&&((aG f x).1.1 != s.1))=false by
   rcases Decidable.not_and_iff_or_not.1 z1 with k|k
   ·simp at k;simp [k]
   simp at k;simp [k],cond_false,if_neg z1]
  rcases SR c x hx l (aG f x).1 n hl' h0 oo_ with h|⟨ha,s',n',h,hn⟩
  ·exact .inl h
  exact .inr ⟨both (P:=fun _=>True) ha,s',n',h,by omega⟩
theorem IN {L:List (List I)} {x:Rt} (hL:∀ f∈L,Gp f) (hl:L.length≤100) (h0:L≠[]) (hs:(cI L x).2=true) :
  (∀ f∈L,(aG f x).2=true)∧∃ q,x.At q∧(cI L x).1.1=(V (L.map qp) q:Nat):=by
 obtain ⟨f,l,rfl⟩:∃ f l,L=f::l:=by
  cases L with
  | nil=>exact absurd O h0
  | cons f l=>exact ⟨f,l,rfl⟩
 have hg:(aG f x).2=true:=by
  cases hs0:(aG f x).2
  ·unfold cI dW at hs
   rw [hs0] at hs;cases hs
  rfl
 obtain ⟨q,hq⟩:=IE hg;rcases SR (f::l) x hq (f::l) (wl 0) (wl 0) hL dd_ (by show (0:Int)+_≤_;omega) with h|⟨ha,s',n',h,hn⟩
 ·unfold cI at hs
  rw [h] at hs;cases hs
 refine ⟨ha,q,hq,?_⟩;unfold cI;rw [h]
 show n'.1=_
 rw [hn]
 show (0:Int)+_=_
 rw [Int.zero_add];rfl
theorem aU_:∀ (l:List Int) (s:Int),vr s l≤l.length
 | [],s=>Nat.le_refl _
 | x::l,s=>by
  have h1:=aU_ l s;have h2:=aU_ l x;rw [vr];simp only [List.length_cons]
  split
  ·omega
  split<;>omega
theorem a8_ (L:List QP) (q:Rat):V L q≤L.length:=by
 have:=aU_ (sgs L q) 0;unfold sgs at this
 rwa [List.length_map] at this
theorem aA_ (p:List I):∀ (k:Nat) (out:List (List I)) (next:List I) (s:List (List I)×List I),cQ p k out next = .inl s→s.1.length≤out.length+k
 | 0,out,next,s,h=>by cases h;exact Nat.le_refl _
 | k+1,out,next,s,h=>by
  unfold cQ at h
  cases h0:decide (0<(next.length:Int))
  ·rw [h0,cond_false] at h;cases h;exact Nat.le_add_right _ _
  rw [h0,cond_true] at h
  cases hb:aP (aC (bP (aZ ((out++[next]).getD ((out++[next]).length - 2) []) ((out++[next]).getD ((out++[next]).length - 1) [])) (E (Z.of (-1)))))
  ·rw [hb,cond_false] at h
   have:=aA_ p k _ _ s h;rw [List.length_append] at this;simp only [List.length_singleton] at this;omega
  rw [hb,cond_true] at h;cases h
theorem JM (p:List I):(aV p).1.length≤100:=by
 unfold aV;have hk:gmP (aC (aD (aT p)))+1≤51:=Nat.succ_le_succ (YS (cG (aD (aT p))));generalize gmP (aC (aD (aT p)))+1=K at hk ⊢
 cases h1:cQ p K [aT p] (aC (aD (aT p))) with
 | inr r =>
  have h0:=G4 p K [aT p] (aC (aD (aT p))) (QD (u5 p)) (cG _)
  show r.1.length≤100
  rw [h0.2 r h1];exact Nat.zero_le _
 | inl s =>
  have h2:=aA_ p _ _ _ s h1
  show (sm (fun (_:Unit)=>(s.1,true)) (fun r=>r) (cW p s.1 s.2 s.1)).1.length≤100
  cases h3:cW p s.1 s.2 s.1 with
  | inr r =>
   show r.1.length≤100
   rw [G5 _ _ _ _ r h3];exact Nat.zero_le _
  | inl u =>
   show s.1.length≤100
   simp only [List.length_singleton] at h2;omega
theorem St.ne {p:List I} {L:List (List I)} (h:St p L):L≠[]:=by
 obtain ⟨f,l,e,_⟩:=h.s;rw [e.1];exact List.cons_ne_nil _ _
structure Cx (L:List (List I)) (a b:Rt) (n:Int) (qa qb:Rat):Prop where
 a:a.At qa
 b:b.At qb
 n:n=(V (L.map qp) qa:Int) - (V (L.map qp) qb:Int)
theorem SV {p:List I} {L:List (List I)} {a b:Rt} (h:St p L) (hl:L.length≤100) (hs:(aU L a b).2=true):∃ qa qb,Cx L a b (aU L a b).1.1 qa qb:=by
 unfold aU at hs ⊢;have hs:=Bool.and_eq_true_iff.1 hs;obtain ⟨_,qa,ha,va⟩:=IN h.g hl h.ne hs.1;obtain ⟨_,qb,hb,vb⟩:=IN h.g hl h.ne hs.2;refine ⟨qa,qb,ha,hb,?_⟩
 show IntKind.i64.wrap ((cI L a).1.1 - (cI L b).1.1)=_
 have h1:=a8_ (L.map qp) qa;have h2:=a8_ (L.map qp) qb;rw [List.length_map] at h1 h2;rw [va,vb,wi oo_]
theorem St.anti {p:List I} {L:List (List I)} (h:St p L) {a b:Rat} (hl:a≤b):V (L.map qp) b≤V (L.map qp) a:=by
 obtain ⟨f,l,_,_,hs,_⟩:=h.s;exact hs.anti a b hl
theorem PT {p:List I} (hp:Rgt p) (hok:(aV p).2=true):p=[]∨St p (aV p).1:=by
 by_cases h0:p=[]
 ·exact .inl h0
 cases hg:p.all gdI
 ·exfalso
  have hb:=zP hp hg;subst hb;rw [show aV badp=([],false) by kernel_rfl] at hok
  cases hok
 rcases cC_ ⟨hp,hg,h0⟩ with h|h
 ·rw [h] at hok;cases hok
 exact .inr h.2
open Go Go.Kn
open QP (V)
def nxt (out:List (List I)) (next:List I):List I:=aC (bP (aZ ((out++[next]).getD ((out++[next]).length - 2) []) next) (E (Z.of (-1))))
theorem OO (p:List I) (out:List (List I)) (next:List I):∀ l:List (List I),(∀ x∈l,aP x=false)→cW p out next l = .inl ()
 | [],_=>rfl
 | x::l,h=>by
  unfold cW;rw [h x (List.mem_cons_self),cond_false]
  exact OO p out next l fun y hy=>h y (List.mem_cons_of_mem _ hy)
theorem XG:∀ n,bin n 0=1
 | 0=>rfl
 | n+1=>rfl
theorem KM:∀ {n i:Nat},n<i→bin n i=0
 | _,0,h=>absurd h (Nat.not_lt_zero _)
 | 0,i+1,_=>rfl
 | n+1,i+1,h=>by show bin n i+bin n (i+1)=0;rw [KM (show n<i by omega),KM (show n<i+1 by omega)]
theorem fS_ (i:Int):ff i 0=1:=rfl
theorem c2_ (i:Int):∀ k:Nat,ff (i+1) (k+1)=ff i (k+1)+((k+1:Nat):Int)*ff i k
 | 0=>by show ff (i+1) 0*(i+1 - ((0:Nat):Int))=ff i 0*(i - ((0:Nat):Int))+_;simp only [ff];omega
 | k+1=>by
  have h:=c2_ i k
  show ff (i+1) (k+1)*(i+1 - ((k+1:Nat):Int))=ff i (k+1)*(i - ((k+1:Nat):Int))+((k+1+1:Nat):Int)*ff i (k+1)
  rw [h];have e:ff i (k+1)=ff i k*(i - (k:Int)):=rfl;rw [e];have:((k+1:Nat):Int)=(k:Int)+1:=rfl;have:((k+1+1:Nat):Int)=(k:Int)+2:=rfl
  grind
theorem YI:∀ {i k:Nat},i<k→ff (i:Int) k=0
 | i,k+1,h=>by
  show ff (i:Int) k*((i:Int) - (k:Int))=0
  by_cases e:i=k
  ·subst e;rw [Int.sub_self,Int.mul_zero]
  rw [YI (show i<k by omega),Int.zero_mul]
theorem YH:∀ {n k:Nat},k≤n→ff (n:Int) k*fac (n - k)=fac n
 | n,0,_=>by rw [fS_,Int.one_mul];rfl
 | n,k+1,h=>by
  have h1:=YH (n:=n) (k:=k) oo_;rw [← h1,show n - k=n - (k+1)+1 by omega]
  show ff (n:Int) k*((n:Int) - (k:Int))*fac (n - (k+1))=ff (n:Int) k*(fac (n - (k+1))*((n - (k+1)+1:Nat):Int))
  rw [show ((n - (k+1)+1:Nat):Int)=(n:Int) - (k:Int) by omega]
  grind
def brw (f:Nat→Rat) (t:Rat) (n m:Nat):Rat:=fF (fun i=>f i*((bin n i:Nat):Rat)*(t ^ i*(1 - t) ^ (n - i))) m
theorem NK (f:Nat→Rat) (t:Rat) (n:Nat):∀ m,m≤n+1→brw f t (n+1) (m+1)=(1 - t)*brw f t n (m+1)+t*brw (fun i=>f (i+1)) t n m
 | 0,_=>by
  unfold brw;simp only [fF];rw [XG,XG,Nat.sub_zero,Nat.sub_zero,Rat.pow_succ];grind
 | m+1,h=>by
  have ih:=NK f t n m oo_;have e1:brw f t (n+1) (m+1+1)=brw f t (n+1) (m+1)+f (m+1)*((bin (n+1) (m+1):Nat):Rat)*(t ^ (m+1)*(1 - t) ^ (n+1 - (m+1))):=rfl;have e2:brw f t n (m+1+1)=brw f t n (m+1)+f (m+1)*((bin n (m+1):Nat):Rat)*(t ^ (m+1)*(1 - t) ^ (n - (m+1))):=rfl;have e3:brw (fun i=>f (i+1)) t n (m+1)=brw (fun i=>f (i+1)) t n m+f (m+1)*((bin n m:Nat):Rat)*(t ^ m*(1 - t) ^ (n - m)):=rfl;have e4:bin (n+1) (m+1)=bin n m+bin n (m+1):=rfl;rw [e1,e2,e3,ih,e4,Rat.natCast_add,show n+1 - (m+1)=n - m by omega,Rat.pow_succ]
  by_cases hm:m<n
  ·rw [show n - m=n - (m+1)+1 by omega,Rat.pow_succ (1 - t)];grind
  rw [KM (show n<m+1 by omega)];have:((0:Nat):Rat)=0:=rfl;rw [this];grind
theorem br_ (f:Nat→Rat) (t:Rat) (n:Nat):brw f t n (n+2)=brw f t n (n+1):=by
 show brw f t n (n+1)+f (n+1)*((bin n (n+1):Nat):Rat)*_=_
 rw [KM (Nat.lt_succ_self n)];have:((0:Nat):Rat)=0:=rfl;rw [this];grind
theorem EI (f g:Nat→Rat) (t:Rat) (n:Nat) (c:Rat):∀ m,brw (fun i=>f i+c*g i) t n m=brw f t n m+c*brw g t n m
 | 0=>by unfold brw;simp only [fF];grind
 | m+1=>by
  have ih:=EI f g t n c m
  show brw (fun i=>f i+c*g i) t n m+(f m+c*g m)*((bin n m:Nat):Rat)*(t ^ m*(1 - t) ^ (n - m))=(brw f t n m+f m*((bin n m:Nat):Rat)*(t ^ m*(1 - t) ^ (n - m)))+c*(brw g t n m+g m*((bin n m:Nat):Rat)*(t ^ m*(1 - t) ^ (n - m)))
  rw [ih];grind
theorem AZ {f g:Nat→Rat} (t:Rat) (n m:Nat) (h:∀ i,f i=g i):brw f t n m=brw g t n m:=by rw [show f=g from funext h]
theorem FA (t:Rat):∀ (n k:Nat),brw (fun i=>((ff (i:Int) k:Int):Rat)) t n (n+1)=((ff (n:Int) k:Int):Rat)*t ^ k
 | 0,k=>by
  unfold brw;simp only [fF];rw [XG]
  cases k with
  | zero=>simp [ff,Rat.pow_zero];grind
  | succ k =>
   rw [show ff ((0:Nat):Int) (k+1)=0 from YI (Nat.succ_pos k)];have:((0:Int):Rat)=0:=rfl;rw [this];grind
 | n+1,k=>by
  rw [NK _ t n (n+1) (Nat.le_refl _),br_,FA t n k]
  cases k with
  | zero =>
   have h0:=FA t n 0;simp only [fS_,Rat.pow_zero] at h0 ⊢;rw [h0]
   grind
  | succ k =>
   have h1:∀ i:Nat,((ff ((i+1:Nat):Int) (k+1):Int):Rat)=((ff (i:Int) (k+1):Int):Rat)+(((k+1:Nat):Int):Rat)*((ff (i:Int) k:Int):Rat):=fun i=>by
    rw [show ((i+1:Nat):Int)=(i:Int)+1 from rfl,c2_,Rat.intCast_add,Rat.intCast_mul]
   rw [AZ (g:=fun i=>((ff (i:Int) (k+1):Int):Rat)+(((k+1:Nat):Int):Rat)*((ff (i:Int) k:Int):Rat)) t n (n+1) h1,EI,FA t n (k+1),FA t n k,h1 n,Rat.pow_succ]
   grind
theorem IM (f:Nat→Rat) (t c:Rat) (n:Nat) (m:Nat):brw (fun i=>f i*c) t n m=c*brw f t n m:=by
 have:=EI (fun _=>0) f t n c m
 have e:∀ m,brw (fun _=>0) t n m=0:=fun m=>by
  induction m with
  | zero=>rfl
  | succ m ih=>show brw (fun _=>0) t n m+(0:Rat)*_*_=0;rw [ih];grind
 rw [e] at this;rw [AZ (g:=fun i=>0+c*f i) t n m fun i=>by grind,this];grind
theorem SO (g:Nat→Nat→Rat) (t:Rat) (n m:Nat):∀ j,brw (fun i=>fF (fun k=>g i k) j) t n m=fF (fun k=>brw (fun i=>g i k) t n m) j
 | 0=>by
  show brw (fun _=>0) t n m=0
  have:=IM (fun _=>0) t 0 n m;rw [AZ (g:=fun _=>(0:Rat)*0) t n m fun i=>by grind,this];grind
 | j+1=>by
  show brw (fun i=>fF (fun k=>g i k) j+g i j) t n m=fF (fun k=>brw (fun i=>g i k) t n m) j+brw (fun i=>g i j) t n m
  rw [AZ (g:=fun i=>fF (fun k=>g i k) j+1*g i j) t n m fun i=>by grind,EI,SO g t n m j];grind
theorem NH (n:Nat) (γ:Nat→Int) (t:Rat):fF (fun i=>(bs γ n i:Rat)*((bin n i:Nat):Rat)*(t ^ i*(1 - t) ^ (n - i))) (n+1)=((fac n:Int):Rat)*fF (fun k=>(γ k:Rat)*t ^ k) (n+1):=by
 have e:∀ i,i<n+1→(bs γ n i:Rat)=fF (fun k=>((ff (i:Int) k:Int):Rat)*((fac (n - k)*γ k:Int):Rat)) (n+1):=fun i hi=>by
  unfold bs
  have a:=nB (f:=fun k=>((ff (i:Int) k:Int):Rat)*((fac (n - k)*γ k:Int):Rat)) (n:=i+1) (fun k hk=>by
   show ((ff (i:Int) k:Int):Rat)*_=0
   rw [YI (show i<k by omega)];exact Rat.zero_mul _) (n+1) oo_
  rw [a,HB];refine fO fun k _=>?_
  show ((wt n i k*γ k:Int):Rat)=_
  unfold wt;rw [Int.mul_assoc,Rat.intCast_mul]
 have h1:fF (fun i=>(bs γ n i:Rat)*((bin n i:Nat):Rat)*(t ^ i*(1 - t) ^ (n - i))) (n+1)=brw (fun i=>fF (fun k=>((ff (i:Int) k:Int):Rat)*((fac (n - k)*γ k:Int):Rat)) (n+1)) t n (n+1):=fO fun i hi=>by rw [e i hi]
 rw [h1,SO,← qY];refine fO fun k hk=>?_;rw [IM,FA,← YH (show k≤n by omega),Rat.intCast_mul,Rat.intCast_mul]
 grind
def w11 (n i:Nat):Bool:=decide (dL (n:Int) (i:Int)=(List.range (i+1)).map fun k=>E (Z.of (wt n i k)))
theorem HO {n i:Nat} (hn:n≤11) (hi:i≤n):dL (n:Int) (i:Int)=(List.range (i+1)).map fun k=>E (Z.of (wt n i k)):=by
 have h:((List.range 12).all fun n=>(List.range (n+1)).all fun i=>w11 n i)=true:=by kernel_rfl
 have h1:=List.all_eq_true.1 h n (List.mem_range.2 oo_);exact of_decide_eq_true (List.all_eq_true.1 h1 i (List.mem_range.2 oo_))
end Go.Num
