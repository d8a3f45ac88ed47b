/- Lemmas: what they ask stands in their statements. -/
import Derived.Test.YtokjfhfiodopdaaGreatJRri
set_option linter.unusedSimpArgs false
set_option linter.unusedVariables false
namespace Go.Num
namespace QP
def Aw (c d:Rat) (f:QP):Prop:=∃ θ,0<θ∧∀ x,c≤x→x≤d→θ≤f.ev x∨f.ev x ≤ -θ
section
variable {c d:Rat} {f g p w:QP}
theorem Rb.aw (h:Rb c d f):Aw c d f:=by
 obtain ⟨η,hη,h|h⟩:=h
 ·exact ⟨η,hη,fun x a b=>.inl (h x a b)⟩
 exact ⟨η,hη,fun x a b=>.inr (h x a b)⟩
theorem Aw.mul (h:Aw c d f) (k:Aw c d g):Aw c d (f*g):=by
 obtain ⟨s,hs,h⟩:=h;obtain ⟨t,ht,k⟩:=k;refine ⟨s*t,Rat.mul_pos hs ht,fun x a b=>?_⟩;rw [ev_mul];rcases h x a b with h|h<;>rcases k x a b with k|k
 ·left;exact HL h k (by grind) (by grind)
 ·right
  have:=HL h (show t ≤ -g.ev x by grind) (by grind) (by grind)
  grind
 ·right
  have:=HL (show s ≤ -f.ev x by grind) k (by grind) (by grind)
  grind
 left
 have:=HL (show s ≤ -f.ev x by grind) (show t ≤ -g.ev x by grind) (by grind) (by grind)
 grind
theorem Aw.left (h:Aw c d (p*w)):Aw c d p:=by
 obtain ⟨θ,hθ,h⟩:=h;obtain ⟨A,hA,ha⟩:=Ab.self c;obtain ⟨B,hB,hb⟩:=Ab.self d;obtain ⟨W,hW,hw⟩:=bd (A+B) w;obtain ⟨η,hη,h1⟩:=rI hW (A:=θ*(1 / 2)) (by grind);refine ⟨η,hη,fun x a b=>?_⟩
 by_cases k1:η≤p.ev x
 ·exact .inl k1
 by_cases k2:p.ev x ≤ -η
 ·exact .inr k2
 exfalso
 have k3:=(hw x (by unfold Ab at *;grind)).mul (show Ab (p.ev x) η by unfold Ab;grind);have k4:=h x a b;rw [ev_mul] at k4;unfold Ab at k3
 grind
theorem Aw.rb (h:Aw c d p) (hl:c≤d):Rb c d p:=by
 obtain ⟨θ,hθ,h⟩:=h
 by_cases hcd:c=d
 ·subst hcd
  rcases h c Rat.le_refl Rat.le_refl with k|k
  ·exact ⟨θ,hθ,.inl fun x a b=>by rw [show x=c by grind];exact k⟩
  exact ⟨θ,hθ,.inr fun x a b=>by rw [show x=c by grind];exact k⟩
 obtain ⟨A,hA,ha⟩:=Ab.self c;obtain ⟨B,hB,hb⟩:=Ab.self d;obtain ⟨δ,hδ,hn⟩:=de_ (A+B) p (ε:=θ*(1 / 2)) (by grind);refine sub (P:=fun a b=>Rb a b p) hδ (fun a b h1 h2 h3 h4=>?_) (fun a m b _ h1 h2 _ p1 p2=>p1.join (by grind) (by grind) p2) (show c<d by grind);rcases hn a b (by unfold Ab at *;grind) (by unfold Ab at *;grind) (by grind) h4 with k|k
 ·exact k
 exfalso
 have k1:=k a Rat.le_refl (by grind);have k2:=h a h1 (by grind);unfold Ab at k1
 grind
theorem Aw.pow (h:Aw c d f):∀ n,Aw c d (pow f n)
 | 0=>⟨1,by decide,fun x _ _=>.inl (by show (1:Rat)≤(C 1).ev x;rw [ev_C];exact Rat.le_refl)⟩
 | n+1=>h.mul (Aw.pow h n)
theorem em_ (h:Rb c d f) (hl:c≤d) {n:Nat} (hd:Dv p (QP.pow f n)):Rb c d p:=by
 obtain ⟨w,hw⟩:=hd;have k:=h.aw.pow n;rw [hw] at k;exact k.left.rb hl
theorem f1_ {x:Rat} (h:f.ev x≠0):Rb x x f:=by
 rcases sg_three (f.ev x) with k|k|k
 ·exact ⟨f.ev x,k.2,.inl fun y a b=>by rw [show y=x by grind];exact Rat.le_refl⟩
 ·exact ⟨-f.ev x,by have:=k.2;grind,.inr fun y a b=>by rw [show y=x by grind];grind⟩
 exact absurd k.2 h
theorem Rb.ne (h:Rb c d f) {x:Rat} (a:c≤x) (b:x≤d):f.ev x≠0:=by
 obtain ⟨η,hη,h|h⟩:=h
 ·have:=h x a b;grind
 have:=h x a b;grind
theorem Rb.pos (h:Rb c d f) {x y:Rat} (a:c≤x) (b:x≤d) (a':c≤y) (b':y≤d) (hp:0<f.ev x):0<f.ev y:=by
 obtain ⟨η,hη,h|h⟩:=h
 ·have:=h y a' b';grind
 have:=h x a b;grind
end
def NN (p:QP) (a b:Rat):Prop:=∀ x,a≤x→x≤b→0≤p.ev x
theorem NN.halves {p:QP} {a m b:Rat} (h1:a≤m) (h2:m≤b):NN p a b ↔ NN p a m∧NN p m b :=
 ⟨fun h=>⟨fun x a b=>h x a (by grind),fun x a b=>h x (by grind) b⟩,fun h x a b=>by
  rcases Rat.le_total (a:=x) (b:=m) with k|k
  ·exact h.1 x a k
  exact h.2 x k b⟩
structure Sf (p f:QP) (L:List QP):Prop where
 anti:∀ a b,a≤b→V L b≤V L a
 eq:∀ a b,a<b→V L a=V L b→f.ev b≠0∧(f.ev a≠0→Rb a b f)
 dv:∃ n,Dv p (pow f n)
 z:∀ x,f.ev x=0→p.ev x=0
theorem Sf.of {p f g:QP} {l:List QP} (hc:Chain (f::g::l)) {κ:Rat} (hκ:0<κ) (hD:∀ x,g.ev x=κ*(D f).ev x) {n:Nat} (hd:Dv p (pow f n)) (hf:Dv f p):Sf p f (f::g::l) where
 anti a b h:=by
  by_cases e:a=b
  ·subst e;exact Nat.le_refl _
  exact (et_ hc hκ hD (show a<b by grind)).1
 eq a b h:=(et_ hc hκ hD h).2
 dv:=⟨n,hd⟩
 z x h:=by obtain ⟨w,rfl⟩:=hf;rw [ev_mul,h,Rat.zero_mul]
theorem V_one (f:QP) (x:Rat):V [f] x=0:=by
 show vr 0 [sg (f.ev x)]=0
 rcases bQ_ (f.ev x) with h|h|h<;>rw [h]<;>simp [vr]
theorem Sf.one {p:QP} {t:Rat} (ht:t≠0) {n:Nat} (hd:Dv p (pow (C t) n)):Sf p (C t) [C t] where
 anti a b h:=by rw [V_one,V_one];exact Nat.le_refl _
 eq a b h _:=⟨by rw [ev_C];exact ht,fun _=>by
  rcases Rat.le_total (a:=0) (b:=t) with h0|h0
  ·exact ⟨t,by grind,.inl fun x _ _=>by rw [ev_C];grind⟩
  exact ⟨-t,by grind,.inr fun x _ _=>by rw [ev_C];grind⟩⟩
 dv:=⟨n,hd⟩
 z x h:=by rw [ev_C] at h;exact absurd h ht
section
variable {p f:QP} {L:List QP} {a b m:Rat}
theorem Sf.ne (h:Sf p f L) {x:Rat} (hx:f.ev x≠0):p.ev x≠0:=by
 obtain ⟨n,hd⟩:=h.dv;exact (em_ (f1_ hx) Rat.le_refl hd).ne Rat.le_refl Rat.le_refl
theorem Sf.pos (h:Sf p f L) (hab:a<b) (hV:V L a=V L b):p.ev b≠0∧(p.ev a≠0→Rb a b p):=by
 obtain ⟨n,hd⟩:=h.dv;obtain ⟨h1,h2⟩:=h.eq a b hab hV;exact ⟨h.ne h1,fun k=>em_ (h2 fun e=>k (h.z a e)) (by grind) hd⟩
theorem Sf.nn0 (h:Sf p f L) (hab:a<b) (hV:V L a=V L b) (pa:0≤p.ev a) (pb:0≤p.ev b):NN p a b:=fun x ax xb=>by
 by_cases e1:x=a
 ·rw [e1];exact pa
 by_cases e2:x=b
 ·rw [e2];exact pb
 have v1:=h.anti a x ax;have v2:=h.anti x b xb;have h1:=(h.pos (show a<x by grind) (by omega)).1;have h2:=h.pos (show x<b by grind) (by omega);have h3:=(h2.2 h1).pos xb Rat.le_refl Rat.le_refl xb (by have:=h2.1;grind)
 grind
theorem Sf.nn0r (h:Sf p f L) (am:a<m) (mb:m<b) (hV:V L a=V L b+1) (pa:0≤p.ev a) (pm:0≤p.ev m) (pb:p.ev b=0):NN p a b:=fun x ax xb=>by
 by_cases e1:x=a
 ·rw [e1];exact pa
 by_cases e2:x=b
 ·rw [e2,pb];exact Rat.le_refl
 have key:∀ y,a<y→y<b→V L y=V L a∧p.ev y≠0:=fun y ay yb=>by
  have v1:=h.anti a y (by grind);have v2:=h.anti y b (by grind);have v3:V L y≠V L b:=fun e=>(h.pos yb e).1 pb;exact ⟨by omega,(h.pos ay (by omega)).1⟩
 have kx:=key x (by grind) (by grind);have km:=key m am mb
 have pm':0<p.ev m:=by have:=km.2;grind
 by_cases e3:x=m
 ·rw [e3];exact pm
 rcases Rat.le_total (a:=x) (b:=m) with k|k
 ·have h3:=((h.pos (show x<m by grind) (by rw [kx.1,km.1])).2 kx.2).pos k Rat.le_refl Rat.le_refl k pm'
  grind
 have h3:=((h.pos (show m<x by grind) (by rw [kx.1,km.1])).2 km.2).pos Rat.le_refl k k Rat.le_refl pm'
 grind
theorem Sf.nn1 (h:Sf p f L) (hV:V L a=V L b+1) (pa:0<p.ev a) (pb:0<p.ev b):NN p a b:=fun x ax xb=>by
 by_cases e1:x=a
 ·rw [e1];grind
 by_cases e2:x=b
 ·rw [e2];grind
 have v1:=h.anti a x ax;have v2:=h.anti x b xb
 by_cases e3:V L a=V L x
 ·have h3:=((h.pos (show a<x by grind) e3).2 (by grind)).pos Rat.le_refl ax ax Rat.le_refl pa
  grind
 by_cases e4:p.ev x=0
 ·rw [e4];exact Rat.le_refl
 have h3:=((h.pos (show x<b by grind) (by omega)).2 e4).pos xb Rat.le_refl Rat.le_refl xb pb
 grind
end
theorem Rb.mono {c d c' d':Rat} {f:QP} (h:Rb c d f) (h1:c≤c') (h2:d'≤d):Rb c' d' f:=by
 obtain ⟨η,hη,h|h⟩:=h
 ·exact ⟨η,hη,.inl fun x a b=>h x (by grind) (by grind)⟩
 exact ⟨η,hη,.inr fun x a b=>h x (by grind) (by grind)⟩
theorem aT_ {f:QP} {c d η:Rat} (hη:0<η) (h:∀ x,c≤x→x≤d→η≤(D f).ev x) (hl:c<d):f.ev c<f.ev d:=by
 obtain ⟨A,hA,ha⟩:=Ab.self c;obtain ⟨B,hB,hb⟩:=Ab.self d
 have iA:∀ x,c≤x→x≤d→Ab x (A+B):=fun x p q=>by unfold Ab at ha hb ⊢;grind
 obtain ⟨K,hK,hk⟩:=tay (A+B) f;obtain ⟨δ,hδ,h1⟩:=rI hK (A:=η*(1 / 2)) (by grind);refine sub (P:=fun a b=>f.ev a<f.ev b) hδ (fun a b p q r s=>?_) (fun a m b _ _ _ _ p q=>by grind) hl;have k:=hk a b (iA a p (by grind)) (iA b (by grind) r) (by grind);have h2:K*(b - a)≤η*(1 / 2):=Rat.le_trans (Rat.mul_le_mul_of_nonneg_left (b:=δ) s hK) h1;have h3:=Rat.mul_le_mul_of_nonneg_left h2 (show (0:Rat)≤b - a by grind);have h4:=Rat.mul_le_mul_of_nonneg_left (h a p (by grind)) (show (0:Rat)≤b - a by grind);have h5:=Rat.mul_pos (show (0:Rat)<b - a by grind) hη;unfold Ab at k
 grind
theorem fb_ {f:QP} {c d η:Rat} (hη:0<η) (h:∀ x,c≤x→x≤d→(D f).ev x ≤ -η) (hl:c<d):f.ev d<f.ev c:=by
 have e:∀ x,(D (C (-1)*f)).ev x = -(D f).ev x:=fun x=>by rw [PR,D_C,CI,CG,ev_mul,ev_C];grind
 have:=aT_ (f:=C (-1)*f) hη (fun x a b=>by rw [e];have:=h x a b;grind) hl;rw [ev_mul,ev_mul,ev_C,ev_C] at this
 grind
section
variable {f g:QP} {l:List QP} {κ c d:Rat}
theorem ge_ (hc:Chain (f::g::l)) (hκ:0<κ) (hD:∀ x,g.ev x=κ*(D f).ev x) (hr:Rb c d (D f)) (hl:c<d) :
  V (f::g::l) c+(if f.ev d<0 then 1 else 0)=V (f::g::l) d+(if f.ev c<0 then 1 else 0)∨V (f::g::l) c+(if 0<f.ev d then 1 else 0)=V (f::g::l) d+(if 0<f.ev c then 1 else 0):=by
 obtain ⟨η,hη,hr|hr⟩:=hr
 ·left
  refine PF hc hκ hD (P:=fun c d=>(∀ x,c≤x→x≤d→η≤(D f).ev x)→V (f::g::l) c+(if f.ev d<0 then 1 else 0)=V (f::g::l) d+(if f.ev c<0 then 1 else 0)) (fun c d hl h hr=>?_) (fun c m d h1 h2 p q hr=>?_) hl hr
  ·have hcd:=aT_ hη hr hl
   rcases h with ⟨h1,h2⟩|⟨W,h1,h2⟩|⟨W,h1,h2⟩
   ·obtain ⟨e,he,h1|h1⟩:=h1
    ·have a:=h1 c Rat.le_refl (by grind);have b:=h1 d (by grind) Rat.le_refl
     rw [if_neg (by grind),if_neg (by grind),h2]
    have a:=h1 c Rat.le_refl (by grind);have b:=h1 d (by grind) Rat.le_refl;rw [if_pos (by grind),if_pos (by grind),h2]
   ·rw [h2 c Rat.le_refl (by grind),h2 d (by grind) Rat.le_refl];omega
   have:=h1 c d Rat.le_refl hl Rat.le_refl;grind
  have a:=p fun x a b=>hr x a (by grind);have b:=q fun x a b=>hr x (by grind) b;omega
 right
 refine PF hc hκ hD (P:=fun c d=>(∀ x,c≤x→x≤d→(D f).ev x ≤ -η)→V (f::g::l) c+(if 0<f.ev d then 1 else 0)=V (f::g::l) d+(if 0<f.ev c then 1 else 0)) (fun c d hl h hr=>?_) (fun c m d h1 h2 p q hr=>?_) hl hr
 ·have hcd:=fb_ hη hr hl
  rcases h with ⟨h1,h2⟩|⟨W,h1,h2⟩|⟨W,h1,h2⟩
  ·obtain ⟨e,he,h1|h1⟩:=h1
   ·have a:=h1 c Rat.le_refl (by grind);have b:=h1 d (by grind) Rat.le_refl
    rw [if_pos (by grind),if_pos (by grind),h2]
   have a:=h1 c Rat.le_refl (by grind);have b:=h1 d (by grind) Rat.le_refl;rw [if_neg (by grind),if_neg (by grind),h2]
  ·have:=h1 c d Rat.le_refl hl Rat.le_refl;grind
  rw [h2 c Rat.le_refl (by grind),h2 d (by grind) Rat.le_refl];omega
 have a:=p fun x a b=>hr x a (by grind);have b:=q fun x a b=>hr x (by grind) b;omega
def Two (f:QP) (L:List QP) (c d:Rat):Prop:=V L d+2≤V L c∨(V L d+1≤V L c∧f.ev c=0)
theorem two_nD (hc:Chain (f::g::l)) (hκ:0<κ) (hD:∀ x,g.ev x=κ*(D f).ev x) (hl:c<d) (h:Two f (f::g::l) c d):¬ Rb c d (D f):=fun hr=>by
 have k:=ge_ hc hκ hD hr hl;unfold Two at h;rcases h with h|⟨h,h0⟩
 ·rcases k with k|k<;>(repeat' split at k)<;>omega
 rw [h0] at k;rcases k with k|k
 ·rw [if_neg (show ¬ (0:Rat)<0 by grind)] at k;split at k<;>omega
 rw [if_neg (show ¬ (0:Rat)<0 by grind)] at k;split at k<;>omega
theorem st_rb (hc:Chain (f::g::l)) (hκ:0<κ) (hD:∀ x,g.ev x=κ*(D f).ev x) (hl:c<d) (hr:Rb c d f):V (f::g::l) c=V (f::g::l) d:=by
 refine PF hc hκ hD (P:=fun c d=>Rb c d f→V (f::g::l) c=V (f::g::l) d) (fun c d hl h hr=>?_) (fun c m d h1 h2 p q hr=>?_) hl hr
 ·rcases h with ⟨h1,h2⟩|⟨W,h1,h2⟩|⟨W,h1,h2⟩
  ·exact h2
  ·rw [h2 c Rat.le_refl (by grind),h2 d (by grind) Rat.le_refl]
   obtain ⟨e,he,hr|hr⟩:=hr
   ·have a:=hr c Rat.le_refl (by grind);have b:=hr d (by grind) Rat.le_refl
    rw [if_neg (by grind),if_neg (by grind)]
   have a:=hr c Rat.le_refl (by grind);have b:=hr d (by grind) Rat.le_refl;rw [if_pos (by grind),if_pos (by grind)]
  rw [h2 c Rat.le_refl (by grind),h2 d (by grind) Rat.le_refl];obtain ⟨e,he,hr|hr⟩:=hr
  ·have a:=hr c Rat.le_refl (by grind);have b:=hr d (by grind) Rat.le_refl
   rw [if_pos (by grind),if_pos (by grind)]
  have a:=hr c Rat.le_refl (by grind);have b:=hr d (by grind) Rat.le_refl;rw [if_neg (by grind),if_neg (by grind)]
 rw [p (hr.mono Rat.le_refl (by grind)),q (hr.mono (by grind) Rat.le_refl)]
theorem small_at {p:QP} (hl:c≤d) (h:¬ Rb c d p) {ε:Rat} (hε:0<ε):∃ z,c≤z∧z≤d∧Ab (p.ev z) ε:=by
 apply Classical.byContradiction
 intro hn;refine h (Aw.rb ⟨ε,hε,fun x a b=>?_⟩ hl)
 by_cases k1:ε≤p.ev x
 ·exact .inl k1
 by_cases k2:p.ev x ≤ -ε
 ·exact .inr k2
 exact absurd ⟨x,a,b,by unfold Ab;grind⟩ hn
end
structure Cub (f:QP) (a b c e:Int):Prop where
 v:∀ x,f.ev x=(a:Rat)*(x*x*x)+(b:Rat)*(x*x)+(c:Rat)*x+(e:Rat)
 d:∀ x,(D f).ev x=3*(a:Rat)*(x*x)+2*(b:Rat)*x+(c:Rat)
theorem VP {n:Int} (h:n≠0) {x:Rat} (hx:Ab ((n:Int):Rat) x):1≤x:=by
 unfold Ab at hx;rcases Int.lt_or_gt_of_ne h with k|k
 ·have:(n:Rat)≤((-1:Int):Rat):=Rat.intCast_le_intCast.2 (by omega)
  have e:((-1:Int):Rat) = -1:=rfl
  grind
 have:((1:Int):Rat)≤(n:Rat):=Rat.intCast_le_intCast.2 (by omega);have e:((1:Int):Rat)=1:=rfl
 grind
theorem Ab.int {n:Int} {B:Nat} (h:n.natAbs≤B):Ab (n:Rat) (B:Rat):=by
 constructor
 ·have:((-(B:Int):Int):Rat)≤(n:Rat):=Rat.intCast_le_intCast.2 (by omega)
  rwa [Rat.intCast_neg,Rat.intCast_natCast] at this
 have:(n:Rat)≤(((B:Int):Int):Rat):=Rat.intCast_le_intCast.2 (by omega)
 rwa [Rat.intCast_natCast] at this
section
variable {f:QP} {a b c e:Int}
def XQ (a b c e:Int):Int:=b*b*c*c - 4*a*c*c*c - 4*b*b*b*e - 27*a*a*e*e+18*a*b*c*e
theorem cO_ (h:Cub f a b c e) (ha:a≠0) (hz:∀ x,¬ (f.ev x=0∧(D f).ev x=0)):XQ a b c e≠0:=fun h0=>by
 have a0:(a:Rat)≠0:=fun e=>ha (Rat.intCast_eq_zero_iff.1 e)
 have hq:(b:Rat)*b*c*c - 4*a*c*c*c - 4*b*b*b*e - 27*a*a*e*e+18*a*b*c*e=0:=by
  have:((XQ a b c e:Int):Rat)=0:=by rw [h0];rfl
  unfold XQ at this;simp only [Rat.intCast_add,Rat.intCast_sub,Rat.intCast_mul] at this;exact this
 by_cases hp:6*(a:Rat)*c - 2*b*b=0
 ·-- a triple zero
  refine hz (-(b:Rat)*(3*(a:Rat))⁻¹) ⟨?_,?_⟩
  ·rw [h.v]
   have i:(3*(a:Rat))*(3*(a:Rat))⁻¹=1:=Rat.mul_inv_cancel _ (by grind);generalize (3*(a:Rat))⁻¹=v at *
   have hqq:9*(a:Rat)*e - b*c=0:=by
    have:(9*(a:Rat)*e - b*c)*(9*(a:Rat)*e - b*c)=0:=by grind
    rcases Rat.mul_eq_zero.1 this with k|k<;>exact k
   grind
  rw [h.d];have i:(3*(a:Rat))*(3*(a:Rat))⁻¹=1:=Rat.mul_inv_cancel _ (by grind);generalize (3*(a:Rat))⁻¹=v at *
  grind
 refine hz (-(9*(a:Rat)*e - b*c)*(6*(a:Rat)*c - 2*b*b)⁻¹) ?_;have i:(6*(a:Rat)*c - 2*b*b)*(6*(a:Rat)*c - 2*b*b)⁻¹=1:=Rat.mul_inv_cancel _ hp;have h1:=h.v (-(9*(a:Rat)*e - b*c)*(6*(a:Rat)*c - 2*b*b)⁻¹);have h2:=h.d (-(9*(a:Rat)*e - b*c)*(6*(a:Rat)*c - 2*b*b)⁻¹);generalize (6*(a:Rat)*c - 2*b*b)⁻¹=v at *
 have d0:(D f).ev (-(9*(a:Rat)*e - b*c)*v)=0:=by
  have key:(6*(a:Rat)*c - 2*b*b)*((6*(a:Rat)*c - 2*b*b)*(D f).ev (-(9*(a:Rat)*e - b*c)*v))=0:=by rw [h2];grind
  rcases Rat.mul_eq_zero.1 key with k|k
  ·exact absurd k hp
  rcases Rat.mul_eq_zero.1 k with k|k
  ·exact absurd k hp
  exact k
 refine ⟨?_,d0⟩
 have key:9*(a:Rat)*f.ev (-(9*(a:Rat)*e - b*c)*v)=0:=by rw [h1];rw [h2] at d0;grind
 rcases Rat.mul_eq_zero.1 key with k|k
 ·grind
 exact k
theorem Ab.sub_le {x y A:Rat} (h:Ab (x - y) A) {B:Rat} (g:Ab y B):Ab x (A+B):=by unfold Ab at *;grind
def sepC (B M:Rat):Rat:=(24*(B*B*B*M)+46*(B*B*B))*(B*(1+3*M))
theorem far3 (h:Cub f a b c e) (ha:a≠0) (hz:∀ x,¬ (f.ev x=0∧(D f).ev x=0)) {B M l r:Rat} (hB:0≤B) (hM:0≤M) (ba:Ab (a:Rat) B) (bb:Ab (b:Rat) B) (bc:Ab (c:Rat) B) (be:Ab (e:Rat) B) (hl:Ab l M) (hr:Ab r M) (hlr:l≤r)
  (h1:∀ ε:Rat,0<ε→∃ z,l≤z∧z≤r∧Ab ((D f).ev z) ε) (h2:∀ ε:Rat,0<ε→∃ w,l≤w∧w≤r∧Ab (f.ev w) ε):1≤sepC B M*((r - l)*(r - l)):=by
 have hd:=cO_ h ha hz;have a0:(a:Rat)≠0:=fun e=>ha (Rat.intCast_eq_zero_iff.1 e)
 have hid:∀ z:Rat,9*(a:Rat)*((XQ a b c e:Int):Rat)=9*(a:Rat)*((3*a*(6*a*c - 2*b*b)*z+2*b*(6*a*c - 2*b*b) - 3*a*(9*a*e - b*c))*f.ev z) - ((6*a*c - 2*b*b)*(6*a*c - 2*b*b)+(3*a*(6*a*c - 2*b*b)*z+2*b*(6*a*c - 2*b*b) - 3*a*(9*a*e - b*c))*(3*a*z+b))*(D f).ev z:=fun z=>by
  rw [h.v,h.d];unfold XQ;simp only [Rat.intCast_add,Rat.intCast_sub,Rat.intCast_mul];have e4:((4:Int):Rat)=4:=rfl;have e27:((27:Int):Rat)=27:=rfl;have e18:((18:Int):Rat)=18:=rfl;rw [e4,e27,e18]
  grind
 generalize hdd:XQ a b c e=dd at *
 have bp:Ab (6*(a:Rat)*c - 2*b*b) (8*(B*B)):=by
  have k1:=ba.mul bc;have k2:=bb.mul bb;unfold Ab at *;grind
 have bq:Ab (9*(a:Rat)*e - b*c) (10*(B*B)):=by
  have k1:=ba.mul be;have k2:=bb.mul bc;unfold Ab at *;grind
 generalize hp:6*(a:Rat)*c - 2*b*b=p at *;generalize hq:9*(a:Rat)*e - b*c=q at *;have hin:∀ z,l≤z→z≤r→Ab z M:=fun z u v=>IR hl hr u v
 have bw:∀ z,l≤z→z≤r→Ab (3*a*p*z+2*b*p - 3*a*q) (24*(B*B*B*M)+46*(B*B*B)):=fun z u v=>by
  have k1:=(ba.mul bp).mul (hin z u v);have k2:=bb.mul bp;have k3:=ba.mul bq;unfold Ab at *;grind
 have bv:∃ V,0≤V∧∀ z,l≤z→z≤r→Ab (p*p+(3*a*p*z+2*b*p - 3*a*q)*(3*a*z+b)) V:=by
  have b3:∀ z,l≤z→z≤r→Ab (3*a*z+b) (3*(B*M)+B):=fun z u v=>by
   have k1:=ba.mul (hin z u v);unfold Ab at *;grind
  refine ⟨_,?_,fun z u v=>(bp.mul bp).add ((bw z u v).mul (b3 z u v))⟩;exact ((bp.mul bp).add ((bw l Rat.le_refl hlr).mul (b3 l Rat.le_refl hlr))).nn
 obtain ⟨V,hV,bv⟩:=bv;have hW:0≤24*(B*B*B*M)+46*(B*B*B):=(bw l Rat.le_refl hlr).nn;unfold sepC;generalize 24*(B*B*B*M)+46*(B*B*B)=W at *;have hK:0≤B*(1+3*M):=Rat.mul_nonneg hB (by grind);generalize hKe:B*(1+3*M)=K at *
 have hL:0≤r - l:=by grind
 -- the contrary mJ f7_ for small numbers
 apply Classical.byContradiction
 intro hn
 have hgap:0<1 - W*K*((r - l)*(r - l)):=by grind
 obtain ⟨ε,hε,hs⟩:=rI (K:=W+W*(r - l)+V) (by have:=Rat.mul_nonneg hW hL;grind) (A:=(1 - W*K*((r - l)*(r - l)))*(1 / 2)) (by grind);obtain ⟨z,z1,z2,hz1⟩:=h1 ε hε;obtain ⟨w,w1,w2,hw1⟩:=h2 ε hε
 have hwz:Ab (w - z) (r - l):=by unfold Ab;grind
 have hfz:Ab (f.ev z) (ε+(r - l)*ε+(r - l)*(r - l)*K):=by
  have k1:f.ev z=f.ev w - (w - z)*(D f).ev z - (w - z)*(w - z)*(b+a*(w+2*z)):=by rw [h.v,h.v,h.d];grind
  have k2:Ab ((b:Rat)+a*(w+2*z)) K:=by
   have m1:=ba.mul (hin w w1 w2);have m2:=ba.mul (hin z z1 z2);rw [← hKe];unfold Ab at *;grind
  rw [k1];exact (hw1.sub (hwz.mul hz1)).sub ((hwz.mul hwz).mul k2)
 have k3:=(bw z z1 z2).mul hfz;have k4:=(bv z z1 z2).mul hz1;have k5:=hid z;generalize (3*a*p*z+2*b*p - 3*a*q)=ww at *;generalize p*p+ww*(3*a*z+b)=vv at *
 have k6:Ab (dd:Rat) (W*(ε+(r - l)*ε+(r - l)*(r - l)*K)+V*ε):=by
  have i:(9*(a:Rat))*(9*(a:Rat))⁻¹=1:=Rat.mul_inv_cancel _ (by grind)
  have k7:(dd:Rat)=ww*f.ev z - (9*(a:Rat))⁻¹*(vv*(D f).ev z):=by
   generalize (9*(a:Rat))⁻¹=ii at *
   have:(9*(a:Rat)*ii)*(dd:Rat)=(9*(a:Rat)*ii)*(ww*f.ev z) - ii*(vv*(D f).ev z):=by grind
   rw [i] at this
   grind
  have k8:Ab (9*(a:Rat))⁻¹ 1:=by
   rcases Int.lt_or_gt_of_ne ha with s|s
   ·have m:(a:Rat) ≤ -1:=by
     have:=Rat.intCast_le_intCast.2 (show a ≤ -1 by omega);exact this
    generalize (9*(a:Rat))⁻¹=ii at *;unfold Ab
    constructor
    ·apply Classical.byContradiction
     intro hc;have:=Rat.mul_le_mul_of_nonneg_left (a:=1) (b:=-ii) (c:=-(9*(a:Rat))) (by grind) (by grind)
     grind
    apply Classical.byContradiction
    intro hc;have:=Rat.mul_le_mul_of_nonneg_left (a:=1) (b:=ii) (c:=-(9*(a:Rat))) (by grind) (by grind)
    grind
   have m:1≤(a:Rat):=by
    have:=Rat.intCast_le_intCast.2 (show 1≤a by omega);exact this
   generalize (9*(a:Rat))⁻¹=ii at *;unfold Ab
   constructor
   ·apply Classical.byContradiction
    intro hc;have:=Rat.mul_le_mul_of_nonneg_left (a:=1) (b:=-ii) (c:=(9*(a:Rat))) (by grind) (by grind)
    grind
   apply Classical.byContradiction
   intro hc;have:=Rat.mul_le_mul_of_nonneg_left (a:=1) (b:=ii) (c:=(9*(a:Rat))) (by grind) (by grind)
   grind
  rw [k7];have:=k8.mul k4;rw [Rat.one_mul] at this;exact k3.sub this
 have k9:=VP hd k6
 grind
theorem far2 (h:Cub f 0 b c e) (hb:b≠0) (hz:∀ x,¬ (f.ev x=0∧(D f).ev x=0)) {B M l r:Rat} (hB:1≤B) (hM:0≤M) (bb:Ab (b:Rat) B) (hl:Ab l M) (hr:Ab r M) (hlr:l≤r)
  (h1:∀ ε:Rat,0<ε→∃ z,l≤z∧z≤r∧Ab ((D f).ev z) ε) (h2:∀ ε:Rat,0<ε→∃ w,l≤w∧w≤r∧Ab (f.ev w) ε):1≤4*B*B*((r - l)*(r - l)):=by
 have b0:(b:Rat)≠0:=fun e=>hb (Rat.intCast_eq_zero_iff.1 e);have z0:((0:Int):Rat)=0:=rfl
 have hid:∀ z:Rat,((c*c - 4*b*e:Int):Rat)=(D f).ev z*(D f).ev z - 4*b*f.ev z:=fun z=>by
  rw [h.v,h.d];simp only [Rat.intCast_add,Rat.intCast_sub,Rat.intCast_mul];have e4:((4:Int):Rat)=4:=rfl;rw [e4,z0]
  grind
 have hd:c*c - 4*b*e≠0:=fun hd=>by
  rw [hd,z0] at hid;have i:(2*(b:Rat))*(2*(b:Rat))⁻¹=1:=Rat.mul_inv_cancel _ (by grind);have hx:=hid (-(c:Rat)*(2*(b:Rat))⁻¹)
  have d0:(D f).ev (-(c:Rat)*(2*(b:Rat))⁻¹)=0:=by rw [h.d,z0];generalize (2*(b:Rat))⁻¹=ii at *;grind
  refine hz _ ⟨?_,d0⟩;rw [d0] at hx
  have:4*(b:Rat)*f.ev (-(c:Rat)*(2*(b:Rat))⁻¹)=0:=by grind
  rcases Rat.mul_eq_zero.1 this with k|k
  ·grind
  exact k
 generalize c*c - 4*b*e=dd at *
 have hL:0≤r - l:=by grind
 apply Classical.byContradiction
 intro hn;obtain ⟨ε,hε,hs⟩:=rI (K:=1+4*B+4*B*(r - l)) (by have:=Rat.mul_nonneg (show (0:Rat)≤4*B by grind) hL;grind) (A:=(1 - 4*B*B*((r - l)*(r - l)))*(1 / 2)) (by grind);obtain ⟨ε',hε',hs1,hs2⟩:=JT hε (show (0:Rat)<1 by decide);obtain ⟨z,z1,z2,hz1⟩:=h1 ε' hε';obtain ⟨w,w1,w2,hw1⟩:=h2 ε' hε'
 have hwz:Ab (w - z) (r - l):=by unfold Ab;grind
 have hfz:Ab (f.ev z) (ε'+(r - l)*ε'+(r - l)*(r - l)*B):=by
  have k1:f.ev z=f.ev w - (w - z)*(D f).ev z - (w - z)*(w - z)*b:=by rw [h.v,h.v,h.d,z0];grind
  rw [k1];exact (hw1.sub (hwz.mul hz1)).sub ((hwz.mul hwz).mul bb)
 have k3:=bb.mul hfz;have k4:=hz1.mul hz1;have k5:=hid z
 have k6:Ab (dd:Rat) (ε'*ε'+4*(B*(ε'+(r - l)*ε'+(r - l)*(r - l)*B))):=by
  rw [k5];unfold Ab at *;grind
 have k9:=VP hd k6;have k10:=Rat.mul_le_mul_of_nonneg_left hs2 (Rat.le_of_lt hε');have k11:=Rat.mul_le_mul_of_nonneg_left hs1 (show (0:Rat)≤1+4*B+4*B*(r - l) by have:=Rat.mul_nonneg (show (0:Rat)≤4*B by grind) hL;grind)
 grind
end
end QP
open Go Go.Kn
open QP (Dv Dg Irr Chain Sf)
theorem du_ (p:List I):oA (fun k=>vI (p.getD k I0)):=⟨p.length,fun i hi=>by show vI (p.getD i I0)=0;rw [oL hi,vI0]⟩
noncomputable def qp (p:List I):QP:=ZP (fun k=>vI (p.getD k I0)) (du_ p)
theorem vF {p:List I} {c:Nat→Int} (h:Po p c) (e:oA c):qp p=ZP c e:=QP.ex fun k=>by unfold qp;rw [nI,nI,h.c k]
theorem DD:qp []=QP.C 0:=QP.ex fun k=>by
 rw [vF E6 E6.ends,nI,QP.C0_c];rfl
def Gp (p:List I):Prop:=Rgt p∧p.all gdI=true∧p≠[]
theorem Gp.po {p:List I} (h:Gp p):∃ c,Po p c:=⟨_,xU h.1 h.2.1⟩
theorem Gp.ne {p:List I} (h:Gp p):qp p≠QP.C 0:=by
 obtain ⟨c,hc⟩:=h.po;rw [vF hc hc.ends];exact XD hc.ends (hc.ne_nil h.2.2)
inductive RL:List QP→Prop
 | one (a:QP):RL [a]
 | two (b a:QP):RL [b,a]
 | step (c b a q:QP) (l:List QP) (s t:Rat) (hs:0<s) (ht:0<t) (h:QP.C s*a+QP.C t*c=q*b) (hr:RL (b::a::l)):RL (c::b::a::l)
theorem RL.tail {c b:QP} {l:List QP} (h:RL (c::b::l)):RL (b::l):=by
 cases h with
 | two=>exact .one _
 | step _ _ _ q l s t hs ht h hr=>exact hr
theorem SN:∀ (R:List QP) (b c:QP) (l:List QP),RL (c::b::R)→Chain (b::c::l)→Chain (R.reverse++(b::c::l))
 | [],b,c,l,_,h=>h
 | a::R,b,c,l,hr,h=>by
  cases hr with
  | step _ _ _ q _ s t hs ht e hr =>
   rw [List.reverse_cons,List.append_assoc];refine SN R a b (c::l) hr (.step a b c q l s t hs ht (fun x=>?_) h);have:=congrArg (fun y:QP=>y.ev x) e;simp only [QP.ev_add,QP.ev_mul,QP.ev_C] at this;exact this
theorem RL.dv {d:QP}:∀ (l:List QP) (b a:QP),RL (b::a::l)→Dv d b→Dv d a→∀ e∈l,Dv d e
 | [],_,_,_,_,_,e,he=>by cases he
 | x::l,b,a,hr,hb,ha,e,he=>by
  cases hr with
  | step _ _ _ q _ s t hs ht h hr =>
   have hx:Dv d x:=by
    have s0:s≠0:=by grind
    refine QP.Dv.scale s0 ?_
    have h1:QP.C s*x=q*a+QP.C (-1)*(QP.C t*b):=by
     rw [← h];exact QP.ex fun k=>by simp only [QP.add_c,QP.C_mul];grind
    rw [h1];exact (ha.mul_l _).add ((hb.mul_l _).mul_l _)
   rcases List.mem_cons.1 he with rfl|he
   ·exact hx
   exact RL.dv l a x hr ha hx e he
theorem zK:cE badp (E (Z.of (-1)))=badp:=by kernel_rfl
theorem gf_ {a b:List I} {α β:Nat→Int} (ha:Po a α) (hb:Po b β) (h0:b≠[]) (hg:(aC (cE (bN a b) (E (Z.of (-1))))).all gdI=true) :
  ∃ γ:Nat→Int,Po (aC (cE (bN a b) (E (Z.of (-1))))) γ∧∃ (s t:Rat) (q:QP),0<s∧0<t∧QP.C s*qp a+QP.C t*qp (aC (cE (bN a b) (E (Z.of (-1)))))=q*qp b:=by
 obtain ⟨n,n1,n2,n3⟩:=hb.top h0;rcases dW_ ha hb n1 with hr|hr
 ·rw [hr,zK,rE,e9] at hg;cases hg
 have hs:Po (cE (bN a b) (E (Z.of (-1)))) _:=PY hr dd_ (fun k=>by have:=hr.B k;unfold dR at *;rwa [Int.mul_neg_one,Int.natAbs_neg]);obtain ⟨γ,t,_,t0,hγ,e1,_⟩:=wO hs;obtain ⟨Q,hQ,hq⟩:=HP (a:=((β n).natAbs:Int)) (o:=(β n).sign) (d:=β) (n:=n) (a.length - n) α;refine ⟨γ,hγ,((((β n).natAbs:Int) ^ (a.length - n):Int):Rat),(t:Rat),ZP Q hQ,?_,?_,?_⟩
 ·exact Rat.intCast_pos.2 (Int.pow_pos oo_)
 ·exact Rat.intCast_pos.2 t0
 rw [vF ha ha.ends,vF hγ hγ.ends,vF hb hb.ends,QP.mul_comm' (ZP Q hQ),← tG hb.ends hQ];refine QP.ex fun k=>?_;rw [QP.add_c,QP.C_mul,QP.C_mul,nI,nI,nI,← Rat.intCast_mul,← Rat.intCast_mul,← Rat.intCast_add]
 congr 1
 have h1:=hq k;have h2:=e1 k;rw [← h2,h1];omega
theorem IM (pre:List (List I)) (x y:List I):((pre++[x])++[y]).getD (((pre++[x])++[y]).length - 2) []=x:=by
 simp [List.getD_eq_getElem?_getD]
theorem eu_ (p:List I):∀ (k:Nat) (pre:List (List I)) (last next:List I),(∀ x∈pre++[last],Gp x)→Rgt next→RL (qp next::qp last::pre.reverse.map qp)→gmP next<k →
  cF p k (pre++[last]) next = .inr ([],false) ∨ ∃ (pre':List (List I)) (last':List I),cF p k (pre++[last]) next = .inl (pre'++[last'],[])∧(∀ x∈pre'++[last'],Gp x)∧RL (qp []::qp last'::pre'.reverse.map qp)∧∃ t,pre'++[last']=pre++[last]++t∧(next≠[]→∃ t',t=next::t')∧(next=[]→t=[])
 | 0,pre,last,next,_,_,_,hk=>absurd hk (Nat.not_lt_zero _)
 | k+1,pre,last,next,hG,hR,hr,hk=>by
  unfold cF
  by_cases h0:next=[]
  ·subst h0
   exact .inr ⟨pre,last,rfl,hG,hr,[],by simp,fun h=>absurd O h,fun _=>rfl⟩
  have hl:0<next.length:=List.length_pos_iff.2 h0
  rw [decide_eq_true (show 0<(next.length:Int) by omega),cond_true,IM,wC]
  cases hn:next.all gdI
  ·have hb:next=badp:=vY hR hn
   left
   have hrem:bN last next=badp:=EL _ _ (DF hR) hn
   rw [hrem,zK,rE,wM,cond_true]
  have hGn:Gp next:=⟨hR,hn,h0⟩
  obtain ⟨β,hβ⟩:=hGn.po;obtain ⟨α,hα⟩:=(hG last (by simp)).po;have hlen:=bU (cE (bN last next) (E (Z.of (-1))))
  cases hb:aY (aC (cE (bN last next) (E (Z.of (-1)))))
  ·rw [iX oo_] at hb
   have hg:(aC (cE (bN last next) (E (Z.of (-1))))).all gdI=true:=by simpa using hb
   obtain ⟨γ,hγ,s,t,q,hs,ht,e⟩:=gf_ hα hβ h0 hg
   have hd:gmP (aC (cE (bN last next) (E (Z.of (-1)))))<gmP next:=by
    have h1:=(HQ (vZ hR) hg).2;unfold gmP;rw [hg,hn,cond_true,cond_true];omega
   rw [cond_false]
   rcases eu_ p k (pre++[last]) next _ (fun x hx=>by
    rcases List.mem_append.1 hx with hx|hx
    ·exact hG x hx
    rw [List.mem_singleton.1 hx];exact hGn) hγ.rgt (by
    rw [List.reverse_append]
    exact .step _ _ _ q _ s t hs ht e hr) oo_ with h1|⟨pre',last',h1,h2,h3,u,h4,_,_⟩
   ·exact .inl h1
   exact .inr ⟨pre',last',h1,h2,h3,next::u,by rw [h4];simp,fun _=>⟨u,rfl⟩,fun h=>absurd h h0⟩
  exact .inl O
theorem LR (p:List I) (out:List (List I)) (next:List I):∀ l:List (List I),(∀ x∈l,Gp x)→dN p out next l = .inl ()
 | [],_=>rfl
 | x::l,h=>by
  unfold dN;obtain ⟨c,hc⟩:=(h x (List.mem_cons_self)).po;rw [hc.nb,cond_false]
  exact LR p out next l fun y hy=>h y (List.mem_cons_of_mem _ hy)
structure St (p:List I) (L:List (List I)):Prop where
 g:∀ x∈L,Gp x
 s:∃ f l,(L=f::l∧f=bD p)∧Rad (qp p) (qp f)∧Sf (qp p) (qp f) (L.map qp)∧(l=[] ∨ ∃ (g:List I) (l':List (List I)) (κ:Rat),l=g::l'∧Chain (L.map qp)∧0<κ∧∀ x,(qp g).ev x=κ*(QP.D (qp f)).ev x)
theorem dH_ {p:List I} (hp:Gp p):aL p=([],false)∨((aL p).2=true∧St p (aL p).1):=by
 obtain ⟨c,hc⟩:=hp.po
 have bad_next:∀ (f next:List I),next=badp→cF p (gmP next+1) [f] next = .inr ([],false):=fun f next h=>by
  subst h
  have h1:gmP badp+1=1+1:=by unfold gmP;rw [e9];rfl
  rw [h1];unfold cF;rw [show decide (0<(badp.length:Int))=true from by kernel_rfl,cond_true,wC,EL _ _ dd_ e9,zK,rE,wM,cond_true]
 unfold aL;rcases eH_ hc hp.2.2 with hf|⟨F,hF,hR⟩
 ·left
  rw [hf,show aC (aE badp)=badp by kernel_rfl,bad_next _ _ O];rfl
 have hpq:ZP c hc.ends=qp p:=(vF hc _).symm;have hfq:ZP F hF.ends=qp (bD p):=(vF hF _).symm;rw [hpq,hfq] at hR;have hf0:bD p≠[]:=fun e=>hR.ne (by rw [e];exact DD);have hGf:Gp (bD p):=⟨hF.rgt,hF.g,hf0⟩;rcases PS hF with hd|hd
 ·left
  rw [hd,rE,bad_next _ _ O];rfl
 obtain ⟨γ,t,_,t0,hγ,e1,_⟩:=wO hd;have tq:0<(t:Rat):=Rat.intCast_pos.2 t0
 have hgD:∀ x,(qp (aC (aE (bD p)))).ev x=(t:Rat)⁻¹*(QP.D (qp (bD p))).ev x:=fun x=>by
  have e2:QP.D (qp (bD p))=QP.C (t:Rat)*qp (aC (aE (bD p))):=QP.ex fun k=>by
   rw [vF hF hF.ends,vF hγ hγ.ends,← dZ_,nI,QP.C_mul,nI,e1 k,Rat.intCast_mul]
  rw [e2,QP.ev_mul,QP.ev_C,← Rat.mul_assoc,Rat.inv_mul_cancel _ (by grind),Rat.one_mul]
 rcases eu_ p (gmP (aC (aE (bD p)))+1) [] (bD p) (aC (aE (bD p))) (fun x hx=>by rw [List.mem_singleton.1 hx];exact hGf) hγ.rgt (.two _ _) (Nat.lt_succ_self _) with h1|⟨pre,last,h1,h2,h3,u,h4,h5,h6⟩
 ·left
  rw [List.nil_append] at h1;rw [h1];rfl
 right
 rw [List.nil_append] at h1 h4;rw [h1]
 show (sm (fun (_:Unit)=>(pre++[last],true)) (fun r=>r) (dN p (pre++[last]) [] (pre++[last]))).2=true∧St p (sm (fun (_:Unit)=>(pre++[last],true)) (fun r=>r) (dN p (pre++[last]) [] (pre++[last]))).1
 rw [LR p _ _ _ h2];refine ⟨rfl,h2,?_⟩
 show ∃ f l,(pre++[last]=f::l∧f=bD p)∧_
 obtain ⟨n,hn⟩:=hR.up
 by_cases hnx:aC (aE (bD p))=[]
 ·have hu:=h6 hnx
  subst hu;rw [List.append_nil] at h4;rw [h4];refine ⟨_,[],⟨rfl,rfl⟩,hR,?_,.inl O⟩
  -- a constant
  have hz:∀ k,dI F k=0:=fun k=>by rw [e1 k,ED hγ hnx k,Int.mul_zero]
  have hC:qp (bD p)=QP.C ((qp (bD p)).c 0):=by
   obtain ⟨m,hm⟩:=QP.ex_dg hR.ne
   cases m with
   | zero=>exact QP.dg_C hm
   | succ m =>
    exfalso
    have:=hz m;unfold dI at this
    have h7:F (m+1)=0:=by
     rcases Int.mul_eq_zero.1 this with h|h
     ·omega
     exact h
    refine hm.1 ?_;rw [vF hF hF.ends,nI,h7];rfl
  have hc0:(qp (bD p)).c 0≠0:=fun e=>hR.ne (by rw [hC,e])
  show Sf (qp p) (qp (bD p)) [qp (bD p)]
  rw [hC] at hn ⊢;exact Sf.one hc0 hn
 obtain ⟨u',hu⟩:=h5 hnx;subst hu;rw [h4]
 have hL:pre≠[]:=fun e=>by
  rw [e,List.nil_append] at h4;have:=congrArg List.length h4
  simp at this
 obtain ⟨pr,a,hpa⟩:∃ pr a,pre=pr++[a]:=⟨pre.dropLast,pre.getLast hL,(List.dropLast_concat_getLast hL).symm⟩;subst hpa;rw [List.reverse_append,DD] at h3;have h3':RL (QP.C 0::qp last::qp a::pr.reverse.map qp):=h3
 -- the last one divides all
 have hlast:Dv (qp last) (qp a):=by
  cases h3' with
  | step _ _ _ q _ s t hs ht e hr =>
   refine QP.Dv.scale (show s≠0 by grind) ⟨q,?_⟩;rw [QP.mul_zero',QP.add_zero'] at e;rw [e,QP.mul_comm']
 have hall:=RL.dv (d:=qp last) _ _ _ h3'.tail (.refl _) hlast
 have hmem:∀ x∈(bD p)::aC (aE (bD p))::u',Dv (qp last) (qp x):=fun x hx=>by
  have hx':x∈pr++[a]++[last]:=by rw [h4];simpa using hx
  rcases List.mem_append.1 hx' with hx'|hx'
  ·rcases List.mem_append.1 hx' with hx'|hx'
   ·exact hall _ (List.mem_map_of_mem (List.mem_reverse.2 hx'))
   rw [List.mem_singleton.1 hx'];exact hlast
  rw [List.mem_singleton.1 hx'];exact .refl _
 have d1:=hmem _ (List.mem_cons_self)
 have d2:Dv (qp last) (QP.D (qp (bD p))):=by
  have:=hmem (aC (aE (bD p))) (by simp);rw [vF hF hF.ends,← dZ_]
  have e2:ZP (dI F) (U9 hF.ends)=QP.C (t:Rat)*qp (aC (aE (bD p))):=QP.ex fun k=>by rw [QP.C_mul,vF hγ hγ.ends,nI,nI,e1 k,Rat.intCast_mul]
  rw [e2];exact this.mul_l _
 have hln:=(h2 last (by simp)).ne;obtain ⟨m,hm⟩:=QP.ex_dg hln;have hm0:=QP.sqf_co hR.sq d1 d2 hm;subst hm0;have hC:=QP.dg_C hm;have ht0:(qp last).c 0≠0:=hm.1
 have hch:Chain ((pr++[a]++[last]).map qp):=by
  have h7:=SN (pr.reverse.map qp) (qp a) (qp last) [] h3'.tail (by rw [hC];exact .one _ _ ht0);rw [← List.map_reverse,List.reverse_reverse] at h7
  simpa using h7
 refine ⟨_,aC (aE (bD p))::u',⟨rfl,rfl⟩,hR,?_,.inr ⟨_,u',(t:Rat)⁻¹,rfl,?_,Rat.inv_pos.2 tq,hgD⟩⟩
 ·rw [h4] at hch
  exact Sf.of hch (Rat.inv_pos.2 tq) hgD hn hR.dv
 rw [h4] at hch;exact hch
open QP (sg sgs vr V sg_three bQ_ Dv Chain Sf)
def Ex (m:I) (v:Int):Prop:=∃ z,m=E z∧Zx z v
theorem hA_ {v:Int} {d q:Rat} (hd:0<d) (h:(v:Rat)=d*q):sg q=v.sign:=by
 rcases sg_three q with ⟨e,k⟩|⟨e,k⟩|⟨e,k⟩
 ·have h1:(0:Rat)<(v:Rat):=by rw [h];exact Rat.mul_pos hd k
  rw [e,Int.sign_eq_one_of_pos (Rat.intCast_pos.1 h1)]
 ·have h1:(0:Rat)<((-v:Int):Rat):=by
   have:=Rat.mul_pos hd (show (0:Rat) < -q by grind);rw [Rat.intCast_neg,h];grind
  have:=Rat.intCast_pos.1 h1;rw [e,Int.sign_eq_neg_one_of_neg oo_]
 have h1:(v:Rat)=((0:Int):Rat):=by rw [h,k,Rat.mul_zero];rfl
 rw [e,Rat.intCast_inj.1 h1];rfl
section
variable {p:List I} {c:Nat→Int} {x:Rt} {N D:Int}
theorem W8 (h:Po p c) (hx:x.Is N D):∀ (f t:Nat) (i:Int) (m:I),t≤p.length→i=(p.length:Int) - 1 - t→p.length - t<f→Ex m (Go.Num.hv c N D p.length t) →
  Ex (fN p x f i m).2 (Go.Num.hv c N D p.length p.length)
 | 0,t,i,m,_,_,hf,_=>absurd hf (Nat.not_lt_zero _)
 | f+1,t,i,m,ht,hi,hf,hm=>by
  unfold fN
  by_cases h0:0≤i
  ·rw [decide_eq_true h0,cond_true]
   have hl:t<p.length:=by omega
   have e1:i.toNat=p.length - 1 - t:=by omega
   have e2:p.length - 1 - i.toNat=t:=by omega
   simp only;refine W8 h hx f (t+1) _ _ oo_ oo_ oo_ ⟨_,rfl,?_⟩;obtain ⟨z,rfl,hz⟩:=hm;rw [e2,uV _ _ (show t<max (p.length:Int).toNat 1 by omega),hx.ed,e1,h.get,hx.en,cP,cP,cP,cP];have h1:Zx (pw (E (Z.of D)) t).dec (D ^ t):=dr_ (x:=E (Z.of D)) (.of D) t;exact (hz.mul (.of N)).add ((Zx.of _).mul h1)
  rw [decide_eq_false h0,cond_false]
  obtain rfl:t=p.length:=by omega
  exact hm
theorem dP_ (h:Po p c) (hx:x.Is N D):Ex (iB p x).1 (Go.Num.hv c N D p.length p.length):=by
 unfold iB;rw [h.nb,VG,nZ,BU hx];exact W8 h hx (p.length+1) 0 ((p.length:Int) - 1) I0 (Nat.zero_le _) oo_ oo_ ⟨Z.of 0,I0_E,.of 0⟩
theorem rN {q:Rat} (h:Po p c) (hx:x.At q) (hs:(aH p x).2=true):(aH p x).1.1=sg ((qp p).ev q):=by
 have ix:=At.is hx;obtain ⟨z,hz,hv⟩:=dP_ h ix;unfold aH at hs ⊢;rw [hz] at hs ⊢;rcases hv.cases with hb|⟨he,hB⟩
 ·have hs:(!(E z).1.bad)=true:=hs
  rw [hb] at hs;cases hs
 show (Z.signW (E z).dec).1=_
 rw [he,cP,lW hB];have hp:=@nU q;have hv:=TO (c:=c) (L:=p.length) (N:=q.num) (D:=(q.den:Int)) IA hp;rw [vF h h.ends,QP.ev_vl (n:=p.length) (fun i hi=>by rw [nI,h.zero hi];rfl)];exact (hA_ (d:=((q.den:Int):Rat) ^ (p.length - 1)) (by rw [← Rat.intCast_pow];exact Rat.intCast_pos.2 (Int.pow_pos hp)) hv).symm
end
theorem BV {p:List I} {x:Rt} (hs:(aH p x).2=true):∃ q,x.At q:=by
 refine HI ?_
 cases hg:bB x
 ·exfalso
  unfold aH iB at hs;rw [VG,nZ,hg,show (aY p || !false)=true by simp,cond_true] at hs;exact absurd hs (by decide +kernel)
 rfl
theorem HY (p:List I) (x:Rt):-1≤(aH p x).1.1∧(aH p x).1.1≤1:=sgW _
theorem U3 (c:List (List I)) (x:Rt) {q:Rat} (hx:x.At q):∀ (l:List (List I)) (s n:W),(∀ f∈l,Gp f)→0≤n.1→n.1+l.length≤1000 →
  eB c x l s n = .inr (wl 0,false)∨((∀ f∈l,(aH f x).2=true)∧∃ s' n':W,eB c x l s n = .inl (s',n')∧n'.1=n.1+(vr s.1 (sgs (l.map qp) q):Nat))
 | [],s,n,_,_,_=>.inr ⟨fun f hf=>(by cases hf),s,n,rfl,(Int.add_zero _).symm⟩
 | f::l,s,n,hl,h0,h1=>by
  unfold eB
  cases hs:(aH f x).2
  ·exact .inl O
  rw [cond_true];obtain ⟨c0,hc⟩:=(hl f (List.mem_cons_self)).po;have hv:=rN hc hx hs;have hr:=HY f x;have hl':∀ g∈l,Gp g:=fun g hg=>hl g (List.mem_cons_of_mem _ hg);have e1:sgs ((f::l).map qp) q=sg ((qp f).ev q)::sgs (l.map qp) q:=rfl;rw [e1,← hv]
  have hln:((f::l).length:Int)=(l.length:Int)+1:=by simp
  have both:∀ {P:W→Prop},(∀ g∈l,(aH g x).2=true)→∀ g∈f::l,(aH g x).2=true:=fun h g hg=>by
   rcases List.mem_cons.1 hg with rfl|hg
   ·exact hs
   exact h g hg
  by_cases z0:(aH f x).1.1=0
  ·rw [show ((aH f x).1.1 != 0)=false by simp [z0],cond_false]
   rcases U3 c x hx l s n hl' h0 oo_ with h|⟨ha,s',n',h,hn⟩
   ·exact .inl h
   refine .inr ⟨both (P:=fun _=>True) ha,s',n',h,?_⟩;rw [vr,if_pos z0];exact hn
  rw [show ((aH f x).1.1 != 0)=true by simp [z0],cond_true,show ((aH f x).1.1==(-2))=false by simp;omega,cond_false];rw [vr,if_neg z0]
  by_cases z1:s.1≠0∧(aH f x).1.1≠s.1
  ·rw [show ((s.1 != 0)&&((aH f x).1.1 != s.1))=true by simp [z1.1,z1.2],cond_true,if_pos z1]
   have en:(W.add n (wl 1)).1=n.1+1:=by
    show IntKind.i64.wrap (n.1+1)=n.1+1
    rw [wi oo_]
   rcases U3 c x hx l (aH f x).1 (W.add n (wl 1)) hl' oo_ oo_ with h|⟨ha,s',n',h,hn⟩
   ·exact .inl h
   exact .inr ⟨both (P:=fun _=>True) ha,s',n',h,by omega⟩
  rw [show ((s.1 != 0)&&((aH f x).1.1 != s.1))=false by
   rcases Decidable.not_and_iff_or_not.1 z1 with k|k
   ·simp at k;simp [k]
   simp at k;simp [k],cond_false,if_neg z1]
  rcases U3 c x hx l (aH f x).1 n hl' h0 oo_ with h|⟨ha,s',n',h,hn⟩
  ·exact .inl h
  exact .inr ⟨both (P:=fun _=>True) ha,s',n',h,by omega⟩
theorem FA {L:List (List I)} {x:Rt} (hL:∀ f∈L,Gp f) (hl:L.length≤100) (h0:L≠[]) (hs:(cV L x).2=true) :
  (∀ f∈L,(aH f x).2=true)∧∃ q,x.At q∧(cV L x).1.1=(V (L.map qp) q:Nat):=by
 obtain ⟨f,l,rfl⟩:∃ f l,L=f::l:=by
  cases L with
  | nil=>exact absurd O h0
  | cons f l=>exact ⟨f,l,rfl⟩
 have hg:(aH f x).2=true:=by
  cases hs0:(aH f x).2
  ·unfold cV eB at hs
   rw [hs0] at hs;cases hs
  rfl
 obtain ⟨q,hq⟩:=BV hg;rcases U3 (f::l) x hq (f::l) (wl 0) (wl 0) hL dd_ (by show (0:Int)+_≤_;omega) with h|⟨ha,s',n',h,hn⟩
 ·unfold cV at hs
  rw [h] at hs;cases hs
 refine ⟨ha,q,hq,?_⟩;unfold cV;rw [h]
 show n'.1=_
 rw [hn]
 show (0:Int)+_=_
 rw [Int.zero_add];rfl
theorem ch_:∀ (l:List Int) (s:Int),vr s l≤l.length
 | [],s=>Nat.le_refl _
 | x::l,s=>by
  have h1:=ch_ l s;have h2:=ch_ l x;rw [vr];simp only [List.length_cons]
  split
  ·omega
  split<;>omega
theorem XH (L:List QP) (q:Rat):V L q≤L.length:=by
 have:=ch_ (sgs L q) 0;unfold sgs at this
 rwa [List.length_map] at this
theorem bY_ (p:List I):∀ (k:Nat) (out:List (List I)) (next:List I) (s:List (List I)×List I),cF p k out next = .inl s→s.1.length≤out.length+k
 | 0,out,next,s,h=>by cases h;exact Nat.le_refl _
 | k+1,out,next,s,h=>by
  unfold cF at h
  cases h0:decide (0<(next.length:Int))
  ·rw [h0,cond_false] at h;cases h;exact Nat.le_add_right _ _
  rw [h0,cond_true] at h
  cases hb:aY (aC (cE (bN ((out++[next]).getD ((out++[next]).length - 2) []) ((out++[next]).getD ((out++[next]).length - 1) [])) (E (Z.of (-1)))))
  ·rw [hb,cond_false] at h
   have:=bY_ p k _ _ s h;rw [List.length_append] at this;simp only [List.length_singleton] at this;omega
  rw [hb,cond_true] at h;cases h
theorem pS (p:List I):(aL p).1.length≤100:=by
 unfold aL;have hk:gmP (aC (aE (bD p)))+1≤51:=Nat.succ_le_succ (TM (bU (aE (bD p))));generalize gmP (aC (aE (bD p)))+1=K at hk ⊢
 cases h1:cF p K [bD p] (aC (aE (bD p))) with
 | inr r =>
  have h0:=JW p K [bD p] (aC (aE (bD p))) (E3 (rU p)) (bU _)
  show r.1.length≤100
  rw [h0.2 r h1];exact Nat.zero_le _
 | inl s =>
  have h2:=bY_ p _ _ _ s h1
  show (sm (fun (_:Unit)=>(s.1,true)) (fun r=>r) (dN p s.1 s.2 s.1)).1.length≤100
  cases h3:dN p s.1 s.2 s.1 with
  | inr r =>
   show r.1.length≤100
   rw [JY _ _ _ _ r h3];exact Nat.zero_le _
  | inl u =>
   show s.1.length≤100
   simp only [List.length_singleton] at h2;omega
theorem St.ne {p:List I} {L:List (List I)} (h:St p L):L≠[]:=by
 obtain ⟨f,l,e,_⟩:=h.s;rw [e.1];exact List.cons_ne_nil _ _
structure Cx (L:List (List I)) (a b:Rt) (n:Int) (qa qb:Rat):Prop where
 a:a.At qa
 b:b.At qb
 n:n=(V (L.map qp) qa:Int) - (V (L.map qp) qb:Int)
theorem xG {p:List I} {L:List (List I)} {a b:Rt} (h:St p L) (hl:L.length≤100) (hs:(aJ L a b).2=true):∃ qa qb,Cx L a b (aJ L a b).1.1 qa qb:=by
 unfold aJ at hs ⊢;have hs:=Bool.and_eq_true_iff.1 hs;obtain ⟨_,qa,ha,va⟩:=FA h.g hl h.ne hs.1;obtain ⟨_,qb,hb,vb⟩:=FA h.g hl h.ne hs.2;refine ⟨qa,qb,ha,hb,?_⟩
 show IntKind.i64.wrap ((cV L a).1.1 - (cV L b).1.1)=_
 have h1:=XH (L.map qp) qa;have h2:=XH (L.map qp) qb;rw [List.length_map] at h1 h2;rw [va,vb,wi oo_]
theorem St.anti {p:List I} {L:List (List I)} (h:St p L) {a b:Rat} (hl:a≤b):V (L.map qp) b≤V (L.map qp) a:=by
 obtain ⟨f,l,_,_,hs,_⟩:=h.s;exact hs.anti a b hl
theorem yU {p:List I} (hp:Rgt p) (hok:(aL p).2=true):p=[]∨St p (aL p).1:=by
 by_cases h0:p=[]
 ·exact .inl h0
 cases hg:p.all gdI
 ·exfalso
  have hb:=vY hp hg;subst hb;rw [show aL badp=([],false) by kernel_rfl] at hok
  cases hok
 rcases dH_ ⟨hp,hg,h0⟩ with h|h
 ·rw [h] at hok;cases hok
 exact .inr h.2
open Go Go.Kn
open QP (V)
def nxt (out:List (List I)) (next:List I):List I:=aC (cE (bN ((out++[next]).getD ((out++[next]).length - 2) []) next) (E (Z.of (-1))))
theorem ei_ {out:List (List I)} {next:List I} (ho:AL out) (hn:next.length≤25):aD (cT (cM ((out++[next]).getD ((out++[next]).length - 2) []) next) (E (Z.of (-1))))=nxt out next:=by
 have ha:=vS (k:=(out++[next]).length - 2) (vL ho hn);unfold nxt;generalize (out++[next]).getD ((out++[next]).length - 2) []=a at *
 have hr:=lU a next
 have hs:=oX (bN a next) (E (Z.of (-1)));rw [tF oo_,E5 _ oo_,G9 oo_ oo_]
theorem fJ_ {out:List (List I)} {next:List I} (ho:AL out) (hn:next.length≤25) (h1:1≤out.length) (hl:out.length+gmP next≤60) (h0:0<next.length) (hg:next.all gdI=true):gmP (nxt out next)<gmP next:=by
 rw [← ei_ ho hn];exact JV (vS (vL ho hn)) ⟨⟨hl,h1⟩,hn,ho⟩ (decide_eq_true oo_) (by rw [mE,hg];rfl)
theorem dk_ (out:List (List I)) (next:List I):Rgt (nxt out next):=pM _ (l25 (oX _ _))
theorem MU (p:List I) (k:Nat) (out:List (List I)) (next:List I) (hb:next=badp):dS p (k+1) out next = .inr ([],false):=by
 subst hb;unfold dS;rw [show decide (0<(badp.length:Int))=true from by kernel_rfl,cond_true,show aW badp=true from by kernel_rfl];rfl
theorem CR (p:List I):∀ (k:Nat) (out:List (List I)) (next:List I),AL out→Rgt next→next.all gdI=true→1≤out.length→out.length+gmP next≤60→gmP next<k→(∀ x∈out,aY x=false) →
  cF p k out next=dS p k out next∧∀ s,cF p k out next = .inl s→∀ x∈s.1,aY x=false
 | 0,out,next,_,_,_,_,_,hk,_=>absurd hk (Nat.not_lt_zero _)
 | k+1,out,next,ho,hr,hg,h1,hl,hk,ha=>by
  have hn:=vZ hr;unfold cF dS
  cases h0:decide (0<(next.length:Int))
  ·exact ⟨rfl,fun s h=>by cases h;exact ha⟩
  have h0':0<next.length:=by have:=of_decide_eq_true h0;omega
  rw [cond_true,cond_true,show aW next=false by rw [mE,hg];rfl,cond_false,wC,ei_ ho hn]
  show (bif aY (nxt out next) then .inr ([],false) else cF p k (out++[next]) (nxt out next))=_∧_
  have hgm:=fJ_ ho hn h1 hl h0' hg
  have hR:=dk_ out next
  have hlen:(out++[next]).length=out.length+1:=by simp
  have ha':∀ x∈out++[next],aY x=false:=fun x hx=>by
   rcases List.mem_append.1 hx with hx|hx
   ·exact ha x hx
   rw [List.mem_singleton.1 hx,iX (l25 hn),hg];rfl
  cases hb:(nxt out next).all gdI
  ·have e:=vY hR hb
   obtain ⟨k,rfl⟩:∃ j,k=j+1:=⟨k - 1,by omega⟩;rw [MU p k _ _ e,show aY (nxt out next)=true by rw [e];kernel_rfl];refine ⟨rfl,fun s h=>?_⟩;have h:(bif aY (nxt out next) then .inr ([],false) else cF p (k+1) (out++[next]) (nxt out next):(List (List I)×List I) ⊕ ((List (List I))×Bool)) = .inl s:=h;rw [show aY (nxt out next)=true by rw [e];kernel_rfl,cond_true] at h;cases h
  have hnb:aY (nxt out next)=false:=by rw [iX (l25 (vZ hR)),hb];rfl
  obtain ⟨i1,i2⟩:=CR p k (out++[next]) (nxt out next) (vL ho hn) hR hb oo_ oo_ oo_ ha';rw [hnb,cond_false];refine ⟨i1,fun s h=>?_⟩;have h:(bif aY (nxt out next) then .inr ([],false) else cF p k (out++[next]) (nxt out next):(List (List I)×List I) ⊕ ((List (List I))×Bool)) = .inl s:=h;rw [hnb,cond_false] at h;exact i2 s h
theorem I1 (p:List I) (out:List (List I)) (next:List I):∀ l:List (List I),(∀ x∈l,aY x=false)→dN p out next l = .inl ()
 | [],_=>rfl
 | x::l,h=>by
  unfold dN;rw [h x (List.mem_cons_self),cond_false]
  exact I1 p out next l fun y hy=>h y (List.mem_cons_of_mem _ hy)
theorem XK (p f next:List I) (h:next=badp):cF p (gmP next+1) [f] next = .inr ([],false):=by
 subst h
 have h1:gmP badp+1=1+1:=by unfold gmP;rw [e9];rfl
 rw [h1];unfold cF;rw [show decide (0<(badp.length:Int))=true from by kernel_rfl,cond_true,wC,EL _ _ dd_ e9,zK,rE,wM,cond_true]
theorem Y9 (p:List I) (hp:p.length≤1000):aE p=aK p:=by exact CV hp
theorem BN {p:List I} (hp:Rgt p):aL p=bO p:=by
 unfold aL bO;have hfl:=rU p;have hdl:=l9 (bD p);rw [← PX hp,← Y9 _ (l25 hfl),← tF (l25 hdl)];have hR:Rgt (aC (aE (bD p))):=pM _ (l25 hdl);have hgm:=TM (bU (aE (bD p)))
 cases hb:(aC (aE (bD p))).all gdI
 ·have e:=vY hR hb
  rw [XK p _ _ e,MU p _ _ _ e];rfl
 have hfb:aY (bD p)=false:=by
  cases hf:aY (bD p)
  ·rfl
  exfalso
  rw [iX (l25 hfl)] at hf
  have h1:aE (bD p)=badp:=by
   unfold aE;rw [iX (l25 hfl),hf,cond_true,DR]
  rw [h1,rE,e9] at hb;cases hb
 obtain ⟨i1,i2⟩:=CR p (gmP (aC (aE (bD p)))+1) [bD p] _ (E3 hfl) hR hb (Nat.le_refl 1) (by simp only [List.length_singleton];omega) (Nat.lt_succ_self _) (fun x hx=>by rw [List.mem_singleton.1 hx];exact hfb);rw [← i1]
 cases hl:cF p (gmP (aC (aE (bD p)))+1) [bD p] (aC (aE (bD p))) with
 | inr r=>rfl
 | inl s =>
  show sm (fun (_:Unit)=>(s.1,true)) (fun r=>r) (dN p s.1 s.2 s.1)=(s.1,!aW (bD p))
  rw [I1 p s.1 s.2 s.1 (i2 s hl)];rw [iX (l25 hfl)] at hfb;rw [mE,hfb];rfl
theorem HX {p:List I} (l1:p.length≤1000) (x:Rt):aH p x=((aF p x).s,(aF p x).ok):=by
 unfold aH aF;rw [XG x l1]
 cases hb:(eT p x).1.bad
 ·rfl
 have h0:Z.signW (eT p x).dec=wl 0:=W.ext (by
  show (eT p x).dec.sign=0
  have hn:(eT p x).dec.o=none:=by rw [I.dec,tI (by unfold R.good;rw [hb];rfl)];rfl
  unfold Z.sign;rw [hn])
 rw [h0];rfl
theorem fe_ (l:List (List I)) {i:Nat} (h:i<l.length):l.drop i=l.getD i []::l.drop (i+1):=by
 rw [List.drop_eq_getElem_cons h,List.getD_eq_getElem?_getD,List.getElem?_eq_getElem h];rfl
theorem H6 (c:List (List I)) (x:Rt) (hc:AL c):∀ (k i:Nat) (n last:W),c.length - i<k→i≤c.length →
  sm (fun (s:W×W×Nat)=>(s.1,true)) (fun r=>r) (gL c x k n last i)=sm (fun (s:W×W)=>(s.2,true)) (fun r=>r) (eB c x (c.drop i) last n)
 | 0,i,n,last,h,_=>absurd h (Nat.not_lt_zero _)
 | k+1,i,n,last,h,hi=>by
  unfold gL
  by_cases hlt:i<c.length
  ·rw [decide_eq_true (show (i:Int)<(c.length:Int) by omega),cond_true,fe_ c hlt]
   unfold eB;have hl:=vS (k:=i) hc;generalize c.getD i []=f at *;have hr:=HY f x;rw [HX (l25 hl) x] at hr ⊢
   dsimp only at hr ⊢
   generalize aF f x=S at *;obtain ⟨s,ok⟩:=S
   dsimp only at hr ⊢
   cases ok
   ·rfl
   rw [cond_true,cond_true]
   by_cases z0:s.1=0
   ·rw [show (s.1 != 0)=false by simp [z0]]
    simp only [cond_false];exact H6 c x hc k (i+1) _ _ oo_ oo_
   rw [show (s.1 != 0)=true by simp [z0],show (s.1==(-2))=false by simp;omega];simp only [cond_true,cond_false]
   cases z1:(last.1 != 0)
   ·simp only [cond_false,Bool.false_and]
    exact H6 c x hc k (i+1) _ _ oo_ oo_
   ·cases z2:(s.1 != last.1)
    ·simp only [cond_false,cond_true,Bool.true_and]
     exact H6 c x hc k (i+1) _ _ oo_ oo_
    simp only [cond_false,cond_true,Bool.true_and];exact H6 c x hc k (i+1) _ _ oo_ oo_
  rw [decide_eq_false (show ¬ (i:Int)<(c.length:Int) by omega),cond_false,List.drop_eq_nil_of_le oo_];rfl
theorem H4 {c:List (List I)} (hc:AL c) (x:Rt):cV c x=dC c x:=(H6 c x hc (c.length+1) 0 (wl 0) (wl 0) oo_ (Nat.zero_le _)).symm
theorem rQ {c:List (List I)} (hc:AL c) (a b:Rt):aJ c a b=bP c a b:=by
 unfold aJ bP;rw [H4 hc,H4 hc]
theorem IQ (p:List I) (hp:p.length≤1000) (a b:Rt):fT p a b=(aY p || !iO a b):=by
 unfold fT iO;rw [iX hp,mE,co_];generalize (jF a b).1=t
 cases (p.all gdI)<;>cases a.n.1.bad<;>cases b.n.1.bad<;>simp
 by_cases h:t≤0
 ·rw [decide_eq_true h,decide_eq_false oo_];rfl
 rw [decide_eq_false h,decide_eq_true oo_];rfl
theorem ZY:∀ n,bin n 0=1
 | 0=>rfl
 | n+1=>rfl
theorem NU:∀ {n i:Nat},n<i→bin n i=0
 | _,0,h=>absurd h (Nat.not_lt_zero _)
 | 0,i+1,_=>rfl
 | n+1,i+1,h=>by show bin n i+bin n (i+1)=0;rw [NU (show n<i by omega),NU (show n<i+1 by omega)]
theorem gV_ (i:Int):ff i 0=1:=rfl
theorem d5_ (i:Int):∀ k:Nat,ff (i+1) (k+1)=ff i (k+1)+((k+1:Nat):Int)*ff i k
 | 0=>by show ff (i+1) 0*(i+1 - ((0:Nat):Int))=ff i 0*(i - ((0:Nat):Int))+_;simp only [ff];omega
 | k+1=>by
  have h:=d5_ i k
  show ff (i+1) (k+1)*(i+1 - ((k+1:Nat):Int))=ff i (k+1)*(i - ((k+1:Nat):Int))+((k+1+1:Nat):Int)*ff i (k+1)
  rw [h];have e:ff i (k+1)=ff i k*(i - (k:Int)):=rfl;rw [e];have:((k+1:Nat):Int)=(k:Int)+1:=rfl;have:((k+1+1:Nat):Int)=(k:Int)+2:=rfl
  grind
theorem aB_:∀ {i k:Nat},i<k→ff (i:Int) k=0
 | i,k+1,h=>by
  show ff (i:Int) k*((i:Int) - (k:Int))=0
  by_cases e:i=k
  ·subst e;rw [Int.sub_self,Int.mul_zero]
  rw [aB_ (show i<k by omega),Int.zero_mul]
theorem aA_:∀ {n k:Nat},k≤n→ff (n:Int) k*fac (n - k)=fac n
 | n,0,_=>by rw [gV_,Int.one_mul];rfl
 | n,k+1,h=>by
  have h1:=aA_ (n:=n) (k:=k) oo_;rw [← h1,show n - k=n - (k+1)+1 by omega]
  show ff (n:Int) k*((n:Int) - (k:Int))*fac (n - (k+1))=ff (n:Int) k*(fac (n - (k+1))*((n - (k+1)+1:Nat):Int))
  rw [show ((n - (k+1)+1:Nat):Int)=(n:Int) - (k:Int) by omega]
  grind
def brw (f:Nat→Rat) (t:Rat) (n m:Nat):Rat:=jA (fun i=>f i*((bin n i:Nat):Rat)*(t ^ i*(1 - t) ^ (n - i))) m
theorem P8 (f:Nat→Rat) (t:Rat) (n:Nat):∀ m,m≤n+1→brw f t (n+1) (m+1)=(1 - t)*brw f t n (m+1)+t*brw (fun i=>f (i+1)) t n m
 | 0,_=>by
  unfold brw;simp only [jA];rw [ZY,ZY,Nat.sub_zero,Nat.sub_zero,Rat.pow_succ];grind
 | m+1,h=>by
  have ih:=P8 f t n m oo_;have e1:brw f t (n+1) (m+1+1)=brw f t (n+1) (m+1)+f (m+1)*((bin (n+1) (m+1):Nat):Rat)*(t ^ (m+1)*(1 - t) ^ (n+1 - (m+1))):=rfl;have e2:brw f t n (m+1+1)=brw f t n (m+1)+f (m+1)*((bin n (m+1):Nat):Rat)*(t ^ (m+1)*(1 - t) ^ (n - (m+1))):=rfl;have e3:brw (fun i=>f (i+1)) t n (m+1)=brw (fun i=>f (i+1)) t n m+f (m+1)*((bin n m:Nat):Rat)*(t ^ m*(1 - t) ^ (n - m)):=rfl;have e4:bin (n+1) (m+1)=bin n m+bin n (m+1):=rfl;rw [e1,e2,e3,ih,e4,Rat.natCast_add,show n+1 - (m+1)=n - m by omega,Rat.pow_succ]
  by_cases hm:m<n
  ·rw [show n - m=n - (m+1)+1 by omega,Rat.pow_succ (1 - t)];grind
  rw [NU (show n<m+1 by omega)];have:((0:Nat):Rat)=0:=rfl;rw [this];grind
theorem cH_ (f:Nat→Rat) (t:Rat) (n:Nat):brw f t n (n+2)=brw f t n (n+1):=by
 show brw f t n (n+1)+f (n+1)*((bin n (n+1):Nat):Rat)*_=_
 rw [NU (Nat.lt_succ_self n)];have:((0:Nat):Rat)=0:=rfl;rw [this];grind
theorem HB (f g:Nat→Rat) (t:Rat) (n:Nat) (c:Rat):∀ m,brw (fun i=>f i+c*g i) t n m=brw f t n m+c*brw g t n m
 | 0=>by unfold brw;simp only [jA];grind
 | m+1=>by
  have ih:=HB f g t n c m
  show brw (fun i=>f i+c*g i) t n m+(f m+c*g m)*((bin n m:Nat):Rat)*(t ^ m*(1 - t) ^ (n - m))=(brw f t n m+f m*((bin n m:Nat):Rat)*(t ^ m*(1 - t) ^ (n - m)))+c*(brw g t n m+g m*((bin n m:Nat):Rat)*(t ^ m*(1 - t) ^ (n - m)))
  rw [ih];grind
theorem DT {f g:Nat→Rat} (t:Rat) (n m:Nat) (h:∀ i,f i=g i):brw f t n m=brw g t n m:=by rw [show f=g from funext h]
theorem H2 (t:Rat):∀ (n k:Nat),brw (fun i=>((ff (i:Int) k:Int):Rat)) t n (n+1)=((ff (n:Int) k:Int):Rat)*t ^ k
 | 0,k=>by
  unfold brw;simp only [jA];rw [ZY]
  cases k with
  | zero=>simp [ff,Rat.pow_zero];grind
  | succ k =>
   rw [show ff ((0:Nat):Int) (k+1)=0 from aB_ (Nat.succ_pos k)];have:((0:Int):Rat)=0:=rfl;rw [this];grind
 | n+1,k=>by
  rw [P8 _ t n (n+1) (Nat.le_refl _),cH_,H2 t n k]
  cases k with
  | zero =>
   have h0:=H2 t n 0;simp only [gV_,Rat.pow_zero] at h0 ⊢;rw [h0]
   grind
  | succ k =>
   have h1:∀ i:Nat,((ff ((i+1:Nat):Int) (k+1):Int):Rat)=((ff (i:Int) (k+1):Int):Rat)+(((k+1:Nat):Int):Rat)*((ff (i:Int) k:Int):Rat):=fun i=>by
    rw [show ((i+1:Nat):Int)=(i:Int)+1 from rfl,d5_,Rat.intCast_add,Rat.intCast_mul]
   rw [DT (g:=fun i=>((ff (i:Int) (k+1):Int):Rat)+(((k+1:Nat):Int):Rat)*((ff (i:Int) k:Int):Rat)) t n (n+1) h1,HB,H2 t n (k+1),H2 t n k,h1 n,Rat.pow_succ]
   grind
theorem LU (f:Nat→Rat) (t c:Rat) (n:Nat) (m:Nat):brw (fun i=>f i*c) t n m=c*brw f t n m:=by
 have:=HB (fun _=>0) f t n c m
 have e:∀ m,brw (fun _=>0) t n m=0:=fun m=>by
  induction m with
  | zero=>rfl
  | succ m ih=>show brw (fun _=>0) t n m+(0:Rat)*_*_=0;rw [ih];grind
 rw [e] at this;rw [DT (g:=fun i=>0+c*f i) t n m fun i=>by grind,this];grind
theorem U2 (g:Nat→Nat→Rat) (t:Rat) (n m:Nat):∀ j,brw (fun i=>jA (fun k=>g i k) j) t n m=jA (fun k=>brw (fun i=>g i k) t n m) j
 | 0=>by
  show brw (fun _=>0) t n m=0
  have:=LU (fun _=>0) t 0 n m;rw [DT (g:=fun _=>(0:Rat)*0) t n m fun i=>by grind,this];grind
 | j+1=>by
  show brw (fun i=>jA (fun k=>g i k) j+g i j) t n m=jA (fun k=>brw (fun i=>g i k) t n m) j+brw (fun i=>g i j) t n m
  rw [DT (g:=fun i=>jA (fun k=>g i k) j+1*g i j) t n m fun i=>by grind,HB,U2 g t n m j];grind
theorem ZX (n:Nat) (γ:Nat→Int) (t:Rat):jA (fun i=>(bs γ n i:Rat)*((bin n i:Nat):Rat)*(t ^ i*(1 - t) ^ (n - i))) (n+1)=((fac n:Int):Rat)*jA (fun k=>(γ k:Rat)*t ^ k) (n+1):=by
 have e:∀ i,i<n+1→(bs γ n i:Rat)=jA (fun k=>((ff (i:Int) k:Int):Rat)*((fac (n - k)*γ k:Int):Rat)) (n+1):=fun i hi=>by
  unfold bs
  have a:=rJ (f:=fun k=>((ff (i:Int) k:Int):Rat)*((fac (n - k)*γ k:Int):Rat)) (n:=i+1) (fun k hk=>by
   show ((ff (i:Int) k:Int):Rat)*_=0
   rw [aB_ (show i<k by omega)];exact Rat.zero_mul _) (n+1) oo_
  rw [a,KD];refine iK fun k _=>?_
  show ((wt n i k*γ k:Int):Rat)=_
  unfold wt;rw [Int.mul_assoc,Rat.intCast_mul]
 have h1:jA (fun i=>(bs γ n i:Rat)*((bin n i:Nat):Rat)*(t ^ i*(1 - t) ^ (n - i))) (n+1)=brw (fun i=>jA (fun k=>((ff (i:Int) k:Int):Rat)*((fac (n - k)*γ k:Int):Rat)) (n+1)) t n (n+1):=iK fun i hi=>by rw [e i hi]
 rw [h1,U2,← uD];refine iK fun k hk=>?_;rw [LU,H2,← aA_ (show k≤n by omega),Rat.intCast_mul,Rat.intCast_mul]
 grind
def w11 (n i:Nat):Bool:=decide (fB (n:Int) (i:Int)=(List.range (i+1)).map fun k=>E (Z.of (wt n i k)))
theorem KM {n i:Nat} (hn:n≤11) (hi:i≤n):fB (n:Int) (i:Int)=(List.range (i+1)).map fun k=>E (Z.of (wt n i k)):=by
 have h:((List.range 12).all fun n=>(List.range (n+1)).all fun i=>w11 n i)=true:=by kernel_rfl
 have h1:=List.all_eq_true.1 h n (List.mem_range.2 oo_);exact of_decide_eq_true (List.all_eq_true.1 h1 i (List.mem_range.2 oo_))
end Go.Num
