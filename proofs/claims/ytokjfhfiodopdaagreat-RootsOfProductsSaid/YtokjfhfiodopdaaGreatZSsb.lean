/- Lemmas: what they ask stands in their statements. -/
import Derived.Test.YtokjfhfiodopdaaGreatZRrd
set_option linter.unusedSimpArgs false
set_option linter.unusedVariables false
namespace Go.Num
namespace QP
inductive Chain:List QP→Prop
 | one (f:QP) (t:Rat) (h:t≠0):Chain [f,C t]
 | step (e f g q:QP) (l:List QP) (s t:Rat) (hs:0<s) (ht:0<t) (h:∀ x,s*e.ev x+t*g.ev x=q.ev x*f.ev x) (hc:Chain (f::g::l)):Chain (e::f::g::l)
theorem Chain.bez {L:List QP} (h:Chain L):∀ f g l,L=f::g::l→∃ u v:QP,∀ x,u.ev x*f.ev x+v.ev x*g.ev x=1:=by
 induction h with
 | one f t ht =>
  intro f' g' l' e
  injection e with e1 e2
  injection e2 with e2 e3
  subst e1 e2;refine ⟨C 0,C t⁻¹,fun x=>?_⟩;rw [ev_C,ev_C,ev_C,Rat.zero_mul,Rat.zero_add,Rat.inv_mul_cancel _ ht]
 | step e f g q l s t hs ht h hc ih =>
  intro f' g' l' e
  injection e with e1 e2
  injection e2 with e2 e3
  subst e1 e2;obtain ⟨u,v,huv⟩:=ih _ _ _ O;refine ⟨C (-(s*t⁻¹))*v,u+C t⁻¹*(v*q),fun x=>?_⟩;rw [ev_mul,ev_C,ev_add,ev_mul,ev_C,ev_mul];have h1:=h x;have h2:=huv x;have h3:t*t⁻¹=1:=Rat.mul_inv_cancel _ (by grind)
  grind
inductive G (c d:Rat):List QP→Prop
 | one {f:QP} (h:Rb c d f):G c d [f]
 | rob {f g:QP} {l:List QP} (h:Rb c d f) (hg:G c d (g::l)):G c d (f::g::l)
 | skip {f g h:QP} {l:List QP} (hf:(∀ x,c≤x→x≤d→0<f.ev x∧h.ev x<0) ∨ ∀ x,c≤x→x≤d→f.ev x<0∧0<h.ev x) (hr:Rb c d f) (hg:G c d (h::l)):G c d (f::g::h::l)
theorem G.head {c d:Rat} {f:QP} {l:List QP} (h:G c d (f::l)):Rb c d f:=by cases h<;>assumption
theorem low (M:Rat) {f g u v:QP} (h:∀ x,u.ev x*f.ev x+v.ev x*g.ev x=1):∃ ε η,0<ε∧0<η∧∀ x,Ab x M→Ab (f.ev x) ε→η≤g.ev x∨g.ev x ≤ -η:=by
 obtain ⟨U,hU,hu⟩:=bd M u;obtain ⟨V,hV,hv⟩:=bd M v;obtain ⟨ε,hε,h1⟩:=oX hU (A:=1 / 2) (by grind);obtain ⟨η,hη,h2⟩:=oX hV (A:=1 / 4) (by grind);refine ⟨ε,η,hε,hη,fun x hx hf=>?_⟩
 by_cases a:η≤g.ev x
 ·exact .inl a
 by_cases b:g.ev x ≤ -η
 ·exact .inr b
 exfalso
 have k1:=((hu x hx).mul hf).le h1;have k2:=((hv x hx).mul (show Ab (g.ev x) η by unfold Ab;grind)).le h2;have:=h x;unfold Ab at k1 k2
 grind
theorem WV {s a b:Rat} (hs:0<s) (h:s*a≤b):a≤s⁻¹*b:=by
 have h1:=Rat.mul_le_mul_of_nonneg_left h (Rat.le_of_lt (Rat.inv_pos.2 hs));have h2:s*s⁻¹=1:=Rat.mul_inv_cancel _ (by grind)
 have:s⁻¹*(s*a)=a:=by rw [← Rat.mul_assoc,Rat.mul_comm s⁻¹,h2,Rat.one_mul]
 grind
theorem loc (M:Rat) {L:List QP} (hL:Chain L):∀ f g l,L=f::g::l→∀ ε,0<ε→∃ δ,0<δ∧∀ c d,Ab c M→Ab d M→c≤d→d - c≤δ→G c d (f::g::l)∨((∀ x,c≤x→x≤d→Ab (f.ev x) ε)∧G c d (g::l)):=by
 induction hL with
 | one f t ht =>
  intro f' g' l' e ε hε
  injection e with e1 e2
  injection e2 with e2 e3
  subst e1 e2 e3;obtain ⟨δ,hδ,h⟩:=be_ M f hε;refine ⟨δ,hδ,fun c d hc hd hl hs=>?_⟩
  have hr:Rb c d (C t):=by
   rcases Rat.le_total (a:=0) (b:=t) with h0|h0
   ·exact ⟨t,by grind,.inl fun x _ _=>by rw [ev_C];grind⟩
   exact ⟨-t,by grind,.inr fun x _ _=>by rw [ev_C];grind⟩
  rcases h c d hc hd hl hs with h1|h1
  ·exact .inl (.rob h1 (.one hr))
  exact .inr ⟨h1,.one hr⟩
 | step e f g q l s t hs ht h hc ih =>
  intro e' f' l' eq ε hε
  injection eq with e1 e2
  injection e2 with e2 e3
  subst e1 e2 e3;obtain ⟨u,v,huv⟩:=hc.bez _ _ _ O;obtain ⟨ε0,η,hε0,hη,hlow⟩:=low M huv;obtain ⟨Q,hQ,hq⟩:=bd M q;have htη:=Rat.mul_pos ht hη;obtain ⟨ε1,hε1,h1⟩:=oX hQ (A:=t*η*(1 / 2)) (by grind);obtain ⟨ε2,hε2,l0,l1⟩:=yI hε0 hε1;obtain ⟨δ1,hδ1,d1⟩:=ih f g l O ε2 hε2;obtain ⟨δ2,hδ2,d2⟩:=be_ M e hε;obtain ⟨δ,hδ,m1,m2⟩:=yI hδ1 hδ2;refine ⟨δ,hδ,fun c d hc hd hl hsd=>?_⟩;rcases d1 c d hc hd hl (by grind) with g1|⟨g1,g2⟩
  ·rcases d2 c d hc hd hl (by grind) with k|k
   ·exact .inl (.rob k g1)
   exact .inr ⟨k,g1⟩
  left
  obtain ⟨η',hη',hg⟩:=g2.head;have key:∀ x,c≤x→x≤d→Ab (q.ev x*f.ev x) (t*η*(1 / 2)):=fun x a b =>
   ((hq x (FF hc hd a b)).mul ((g1 x a b).le l1)).le h1
  have hp:0<s⁻¹*(t*η*(1 / 2)):=Rat.mul_pos (Rat.inv_pos.2 hs) (by grind);have hlo:∀ x,c≤x→x≤d→η≤g.ev x∨g.ev x ≤ -η:=fun x a b=>hlow x (FF hc hd a b) ((g1 x a b).le l0);rcases hg with hg|hg
  ·have hge:∀ x,c≤x→x≤d→e.ev x ≤ -(s⁻¹*(t*η*(1 / 2))):=fun x a b=>by
    have h3:η≤g.ev x:=by have:=hlo x a b;have:=hg x a b;grind
    have h4:=Rat.mul_le_mul_of_nonneg_left h3 (Rat.le_of_lt ht);have h5:=key x a b;have h6:=h x;unfold Ab at h5;have h7:=WV hs (show s*e.ev x ≤ -(t*η*(1 / 2)) by grind)
    grind
   exact .skip (.inr fun x a b=>⟨by have:=hge x a b;grind,by have:=hg x a b;grind⟩) ⟨_,hp,.inr hge⟩ g2
  have hge:∀ x,c≤x→x≤d→s⁻¹*(t*η*(1 / 2))≤e.ev x:=fun x a b=>by
   have h3:g.ev x ≤ -η:=by have:=hlo x a b;have:=hg x a b;grind
   have h4:=Rat.mul_le_mul_of_nonneg_left h3 (Rat.le_of_lt ht);have h5:=key x a b;have h6:=h x;unfold Ab at h5;have h7:=WV hs (a:=-e.ev x) (show s * -e.ev x ≤ -(t*η*(1 / 2)) by grind)
   grind
  exact .skip (.inl fun x a b=>⟨by have:=hge x a b;grind,by have:=hg x a b;grind⟩) ⟨_,hp,.inl hge⟩ g2
def sg (x:Rat):Int:=if 0<x then 1 else if x<0 then -1 else 0
theorem GE {x:Rat} (h:0<x):sg x=1:=if_pos h
theorem GD {x:Rat} (h:x<0):sg x = -1:=by unfold sg;rw [if_neg (by grind),if_pos h]
theorem sg_zero:sg 0=0:=by unfold sg;rw [if_neg (by grind),if_neg (by grind)]
theorem sg_three (x:Rat):sg x=1∧0<x∨sg x = -1∧x<0∨sg x=0∧x=0:=by
 by_cases a:0<x
 ·exact .inl ⟨GE a,a⟩
 by_cases b:x<0
 ·exact .inr (.inl ⟨GD b,b⟩)
 have:x=0:=by grind
 subst this;exact .inr (.inr ⟨sg_zero,rfl⟩)
def vr:Int→List Int→Nat
 | _,[]=>0
 | s,x::l=>if x=0 then vr s l else (if s≠0∧x≠s then 1 else 0)+vr x l
noncomputable def sgs (l:List QP) (x:Rat):List Int:=l.map fun f=>sg (f.ev x)
theorem Rb.sg {c d:Rat} {f:QP} (h:Rb c d f):∃ σ:Int,(σ=1∨σ = -1)∧∀ x,c≤x→x≤d→sg (f.ev x)=σ:=by
 obtain ⟨η,hη,h|h⟩:=h
 ·exact ⟨1,.inl O,fun x a b=>GE (by have:=h x a b;grind)⟩
 exact ⟨-1,.inr O,fun x a b=>GD (by have:=h x a b;grind)⟩
theorem cw_ {σ γ:Int} (hσ:σ=1∨σ = -1) (hγ:γ=1∨γ = -1∨γ=0) (s:Int) (t:List Int):vr s (σ::γ :: -σ::t)=(if s≠0∧σ≠s then 1 else 0)+vr σ (-σ::t):=by
 rcases hσ with rfl|rfl<;>rcases hγ with rfl|rfl|rfl<;>simp [vr]
theorem ZK (x:Rat):sg x=1∨sg x = -1∨sg x=0:=by rcases sg_three x with h|h|h<;>simp [h.1]
theorem G.vr {c d:Rat} {L:List QP} (h:G c d L):∀ x y,c≤x→x≤d→c≤y→y≤d→∀ s,vr s (sgs L x)=vr s (sgs L y):=by
 induction h with
 | @one f h =>
  intro x y a b a' b' s;obtain ⟨σ,_,hs⟩:=h.sg;unfold sgs;rw [List.map_cons,List.map_cons,hs x a b,hs y a' b'];rfl
 | @rob f g l h hg ih =>
  intro x y a b a' b' s;obtain ⟨σ,h0,hs⟩:=h.sg;have e:∀ z,sgs (f::g::l) z=QP.sg (f.ev z)::sgs (g::l) z:=fun z=>rfl;rw [e,e,hs x a b,hs y a' b',QP.vr,QP.vr,ih x y a b a' b' s,ih x y a b a' b' σ]
 | @skip f g h l hf hr hg ih =>
  intro x y a b a' b' s;obtain ⟨σ,h0,hs⟩:=hr.sg;have e:∀ z,sgs (f::g::h::l) z=QP.sg (f.ev z)::QP.sg (g.ev z)::QP.sg (h.ev z)::sgs l z:=fun z=>rfl;have e':∀ z,sgs (h::l) z=QP.sg (h.ev z)::sgs l z:=fun z=>rfl
  have hm:∀ z,c≤z→z≤d→QP.sg (h.ev z) = -σ:=fun z p q=>by
   have h1:=hs z p q;rcases hf with hf|hf
   ·rw [GE (hf z p q).1] at h1
    rw [GD (hf z p q).2,← h1]
   rw [GD (hf z p q).1] at h1;rw [GE (hf z p q).2,← h1];rfl
  have i:=ih x y a b a' b' σ;rw [e',e',hm x a b,hm y a' b'] at i;rw [e,e,hs x a b,hs y a' b',hm x a b,hm y a' b',cw_ h0 (ZK _),cw_ h0 (ZK _),i]
noncomputable def V (L:List QP) (x:Rat):Nat:=vr 0 (sgs L x)
def Loc (f:QP) (L:List QP) (c d:Rat):Prop :=
 (Rb c d f∧V L c=V L d)∨(∃ W,(∀ x y,c≤x→x<y→y≤d→f.ev x<f.ev y)∧∀ x,c≤x→x≤d→V L x=(if f.ev x<0 then 1 else 0)+W) ∨
  ∃ W,(∀ x y,c≤x→x<y→y≤d→f.ev y<f.ev x)∧∀ x,c≤x→x≤d→V L x=(if 0<f.ev x then 1 else 0)+W
theorem a6_ {f g:QP} {l:List QP} (hc:Chain (f::g::l)) {κ:Rat} (hκ:0<κ) (hD:∀ x,g.ev x=κ*(D f).ev x) (M:Rat) :
  ∃ δ,0<δ∧∀ c d,Ab c M→Ab d M→c≤d→d - c≤δ→Loc f (f::g::l) c d:=by
 obtain ⟨u,v,huv⟩:=hc.bez _ _ _ O;obtain ⟨ε,η,hε,hη,hlow⟩:=low M huv;obtain ⟨δ1,hδ1,d1⟩:=loc M hc _ _ _ O ε hε;obtain ⟨K,hK,hk⟩:=tay M f;have hi:0<κ⁻¹:=Rat.inv_pos.2 hκ;have hiη:=Rat.mul_pos hi hη;obtain ⟨δ2,hδ2,d2⟩:=oX hK (A:=κ⁻¹*η*(1 / 2)) (by grind);obtain ⟨δ,hδ,m1,m2⟩:=yI hδ1 hδ2;refine ⟨δ,hδ,fun c d hc hd hl hs=>?_⟩;have hvx:∀ x,V (f::g::l) x=vr 0 (sg (f.ev x)::sgs (g::l) x):=fun x=>rfl;rcases d1 c d hc hd hl (by grind) with g1|⟨g1,g2⟩
 ·exact .inl ⟨g1.head,g1.vr c d Rat.le_refl hl hl Rat.le_refl 0⟩
 right
 have hlo:∀ x,c≤x→x≤d→η≤g.ev x∨g.ev x ≤ -η:=fun x a b=>hlow x (FF hc hd a b) (g1 x a b)
 have hst:∀ x y,c≤x→x<y→y≤d→Ab (f.ev y - f.ev x - (y - x)*(D f).ev x) ((y - x)*(κ⁻¹*η*(1 / 2))):=fun x y a b e=>by
  refine (hk x y (FF hc hd a (by grind)) (FF hc hd (by grind) e) (by grind)).le ?_;have h1:K*(y - x)≤κ⁻¹*η*(1 / 2):=Rat.le_trans (Rat.mul_le_mul_of_nonneg_left (b:=δ2) (by grind) hK) d2;have h2:=Rat.mul_le_mul_of_nonneg_left h1 (show (0:Rat)≤y - x by grind)
  grind
 have hκκ:κ*κ⁻¹=1:=Rat.mul_inv_cancel _ (by grind)
 have hDe:∀ x,(D f).ev x=κ⁻¹*g.ev x:=fun x=>by rw [hD x,← Rat.mul_assoc,Rat.mul_comm κ⁻¹,hκκ,Rat.one_mul]
 have key:=g2.vr;obtain ⟨η',hη',hg|hg⟩:=g2.head
 ·left
  refine ⟨vr 1 (sgs l c),fun x y a b e=>?_,fun x a b=>?_⟩
  ·have h3:η≤g.ev x:=by have:=hlo x a (by grind);have:=hg x a (by grind);grind
   have h4:=Rat.mul_le_mul_of_nonneg_left h3 (Rat.le_of_lt hi);have h5:=Rat.mul_le_mul_of_nonneg_left h4 (show (0:Rat)≤y - x by grind);have h6:=hst x y a b e;have h7:=Rat.mul_pos (show (0:Rat)<y - x by grind) hiη;rw [hDe] at h6;unfold Ab at h6
   grind
  have e1:∀ z,c≤z→z≤d→sgs (g::l) z=1::sgs l z:=fun z p q=>by
   show sg (g.ev z)::sgs l z=_
   rw [GE (by have:=hg z p q;grind)]
  have k:=key x c a b Rat.le_refl hl 0;rw [e1 x a b,e1 c Rat.le_refl hl] at k
  have k':vr 1 (sgs l x)=vr 1 (sgs l c):=by simpa [vr] using k
  rw [hvx,e1 x a b];rcases sg_three (f.ev x) with h|h|h
  ·rw [h.1,if_neg (by grind)];simp [vr,k']
  ·rw [h.1,if_pos h.2];simp [vr,k']
  rw [h.1,if_neg (by grind)];simp [vr,k']
 right
 refine ⟨vr (-1) (sgs l c),fun x y a b e=>?_,fun x a b=>?_⟩
 ·have h3:g.ev x ≤ -η:=by have:=hlo x a (by grind);have:=hg x a (by grind);grind
  have h4:=Rat.mul_le_mul_of_nonneg_left h3 (Rat.le_of_lt hi);have h5:=Rat.mul_le_mul_of_nonneg_left h4 (show (0:Rat)≤y - x by grind);have h6:=hst x y a b e;have h7:=Rat.mul_pos (show (0:Rat)<y - x by grind) hiη;rw [hDe] at h6;unfold Ab at h6
  grind
 have e1:∀ z,c≤z→z≤d→sgs (g::l) z = -1::sgs l z:=fun z p q=>by
  show sg (g.ev z)::sgs l z=_
  rw [GD (by have:=hg z p q;grind)]
 have k:=key x c a b Rat.le_refl hl 0;rw [e1 x a b,e1 c Rat.le_refl hl] at k
 have k':vr (-1) (sgs l x)=vr (-1) (sgs l c):=by simpa [vr] using k
 rw [hvx,e1 x a b];rcases sg_three (f.ev x) with h|h|h
 ·rw [h.1,if_pos h.2];simp [vr,k']
 ·rw [h.1,if_neg (by grind)];simp [vr,k']
 rw [h.1,if_neg (by grind)];simp [vr,k']
theorem du_ (x:Rat):∃ N:Nat,x≤(N:Rat):=by
 refine ⟨x.ceil.toNat,Rat.le_trans Rat.le_ceil ?_⟩
 have h:x.ceil≤(x.ceil.toNat:Int):=by omega
 have:=Rat.intCast_le_intCast.2 h
 rwa [Rat.intCast_natCast] at this
theorem sub {P:Rat→Rat→Prop} {a b δ:Rat} (hδ:0<δ) (h1:∀ c d,a≤c→c<d→d≤b→d - c≤δ→P c d) (h2:∀ c m d,a≤c→c<m→m<d→d≤b→P c m→P m d→P c d) (hab:a<b):P a b:=by
 have h:∀ n:Nat,∀ c d,a≤c→c<d→d≤b→d - c≤δ*((2 ^ n:Nat):Rat)→P c d:=by
  intro n
  induction n with
  | zero=>intro c d a1 a2 a3 a4;exact h1 c d a1 a2 a3 (by rw [show ((2 ^ 0:Nat):Rat)=1 from rfl,Rat.mul_one] at a4;exact a4)
  | succ n ih =>
   intro c d a1 a2 a3 a4
   have e:((2 ^ (n+1):Nat):Rat)=((2 ^ n:Nat):Rat)*2:=by rw [Nat.pow_succ,Rat.natCast_mul];rfl
   rw [e] at a4;exact h2 c ((c+d)*(1 / 2)) d a1 (by grind) (by grind) a3 (ih _ _ a1 (by grind) (by grind) (by grind)) (ih _ _ (by grind) (by grind) a3 (by grind))
 obtain ⟨N,hN⟩:=du_ ((b - a)*δ⁻¹);refine h N a b Rat.le_refl hab Rat.le_refl ?_;have h3:((N:Nat):Rat)≤((2 ^ N:Nat):Rat):=Rat.natCast_le_natCast.2 (Nat.le_of_lt Nat.lt_two_pow_self);have h4:=Rat.mul_le_mul_of_nonneg_left (Rat.le_trans hN h3) (Rat.le_of_lt hδ);have h5:δ*δ⁻¹=1:=Rat.mul_inv_cancel _ (by grind)
 have e:δ*((b - a)*δ⁻¹)=b - a:=by rw [Rat.mul_comm (b - a),← Rat.mul_assoc,h5,Rat.one_mul]
 rw [e] at h4;exact h4
theorem LP {f g:QP} {l:List QP} (hc:Chain (f::g::l)) {κ:Rat} (hκ:0<κ) (hD:∀ x,g.ev x=κ*(D f).ev x) {P:Rat→Rat→Prop} (h1:∀ c d,c<d→Loc f (f::g::l) c d→P c d) (h2:∀ c m d,c<m→m<d→P c m→P m d→P c d) {a b:Rat} (hab:a<b):P a b:=by
 obtain ⟨A,hA,ha⟩:=Ab.self a;obtain ⟨B,hB,hb⟩:=Ab.self b;obtain ⟨δ,hδ,h⟩:=a6_ hc hκ hD (A+B);refine sub hδ (fun c d a1 a2 a3 a4=>h1 c d a2 (h c d ?_ ?_ (by grind) a4)) (fun c m d _ a2 a3 _=>h2 c m d a2 a3) hab
 ·unfold Ab at *;grind
 unfold Ab at *;grind
theorem Rb.join {c m d:Rat} {f:QP} (h1:c≤m) (h2:m≤d) (a:Rb c m f) (b:Rb m d f):Rb c d f:=by
 obtain ⟨x,hx,a⟩:=a;obtain ⟨y,hy,b⟩:=b;obtain ⟨z,hz,zx,zy⟩:=yI hx hy;rcases a with a|a<;>rcases b with b|b
 ·exact ⟨z,hz,.inl fun t p q=>(Rat.le_total (a:=t) (b:=m)).elim (fun r=>by have:=a t p r;grind) (fun r=>by have:=b t r q;grind)⟩
 ·exfalso;have:=a m h1 Rat.le_refl;have:=b m Rat.le_refl h2;grind
 ·exfalso;have:=a m h1 Rat.le_refl;have:=b m Rat.le_refl h2;grind
 exact ⟨z,hz,.inr fun t p q=>(Rat.le_total (a:=t) (b:=m)).elim (fun r=>by have:=a t p r;grind) (fun r=>by have:=b t r q;grind)⟩
theorem IW {f g:QP} {l:List QP} (hc:Chain (f::g::l)) {κ:Rat} (hκ:0<κ) (hD:∀ x,g.ev x=κ*(D f).ev x) {a b:Rat} (hab:a<b) :
  V (f::g::l) b≤V (f::g::l) a∧(V (f::g::l) a=V (f::g::l) b→f.ev b≠0∧(f.ev a≠0→Rb a b f)):=by
 refine LP hc hκ hD (P:=fun a b=>V (f::g::l) b≤V (f::g::l) a∧(V (f::g::l) a=V (f::g::l) b→f.ev b≠0∧(f.ev a≠0→Rb a b f))) (fun c d hl h=>?_) (fun c m d h1 h2 p q=>?_) hab
 ·have hl':c≤d:=by grind
  rcases h with ⟨h1,h2⟩|⟨W,h1,h2⟩|⟨W,h1,h2⟩
  ·refine ⟨by omega,fun _=>⟨?_,fun _=>h1⟩⟩
   obtain ⟨η,hη,h|h⟩:=h1
   ·have:=h d hl' Rat.le_refl;grind
   have:=h d hl' Rat.le_refl;grind
  ·have hcd:=h1 c d Rat.le_refl hl Rat.le_refl
   have hx:∀ x,c≤x→x≤d→f.ev c≤f.ev x∧f.ev x≤f.ev d:=fun x p q=>by
    constructor
    ·by_cases e:c=x
     ·subst e;exact Rat.le_refl
     exact Rat.le_of_lt (h1 c x Rat.le_refl (by grind) q)
    by_cases e:x=d
    ·subst e;exact Rat.le_refl
    exact Rat.le_of_lt (h1 x d p (by grind) Rat.le_refl)
   rw [h2 c Rat.le_refl hl',h2 d hl' Rat.le_refl]
   by_cases k1:f.ev d<0
   ·rw [if_pos k1,if_pos (by grind)]
    exact ⟨Nat.le_refl _,fun _=>⟨by grind,fun _=>⟨-f.ev d,by grind,.inr fun x p q=>by have:=hx x p q;grind⟩⟩⟩
   rw [if_neg k1]
   by_cases k2:f.ev c<0
   ·rw [if_pos k2];exact ⟨by omega,fun e=>by omega⟩
   rw [if_neg k2];exact ⟨Nat.le_refl _,fun _=>⟨by grind,fun k3=>⟨f.ev c,by grind,.inl fun x p q=>(hx x p q).1⟩⟩⟩
  have hcd:=h1 c d Rat.le_refl hl Rat.le_refl
  have hx:∀ x,c≤x→x≤d→f.ev x≤f.ev c∧f.ev d≤f.ev x:=fun x p q=>by
   constructor
   ·by_cases e:c=x
    ·subst e;exact Rat.le_refl
    exact Rat.le_of_lt (h1 c x Rat.le_refl (by grind) q)
   by_cases e:x=d
   ·subst e;exact Rat.le_refl
   exact Rat.le_of_lt (h1 x d p (by grind) Rat.le_refl)
  rw [h2 c Rat.le_refl hl',h2 d hl' Rat.le_refl]
  by_cases k1:0<f.ev d
  ·rw [if_pos k1,if_pos (by grind)]
   exact ⟨Nat.le_refl _,fun _=>⟨by grind,fun _=>⟨f.ev d,by grind,.inl fun x p q=>by have:=hx x p q;grind⟩⟩⟩
  rw [if_neg k1]
  by_cases k2:0<f.ev c
  ·rw [if_pos k2];exact ⟨by omega,fun e=>by omega⟩
  rw [if_neg k2];exact ⟨Nat.le_refl _,fun _=>⟨by grind,fun k3=>⟨-f.ev c,by grind,.inr fun x p q=>by have:=(hx x p q).1;grind⟩⟩⟩
 obtain ⟨p1,p2⟩:=p;obtain ⟨q1,q2⟩:=q;refine ⟨by omega,fun e=>?_⟩;have r1:=p2 (by omega);have r2:=q2 (by omega);exact ⟨r2.1,fun h=>(r1.2 h).join (by grind) (by grind) (r2.2 r1.1)⟩
def Aw (c d:Rat) (f:QP):Prop:=∃ θ,0<θ∧∀ x,c≤x→x≤d→θ≤f.ev x∨f.ev x ≤ -θ
section
variable {c d:Rat} {f g p w:QP}
theorem Rb.aw (h:Rb c d f):Aw c d f:=by
 obtain ⟨η,hη,h|h⟩:=h
 ·exact ⟨η,hη,fun x a b=>.inl (h x a b)⟩
 exact ⟨η,hη,fun x a b=>.inr (h x a b)⟩
theorem Aw.mul (h:Aw c d f) (k:Aw c d g):Aw c d (f*g):=by
 obtain ⟨s,hs,h⟩:=h;obtain ⟨t,ht,k⟩:=k;refine ⟨s*t,Rat.mul_pos hs ht,fun x a b=>?_⟩;rw [ev_mul];rcases h x a b with h|h<;>rcases k x a b with k|k
 ·left;exact EC h k (by grind) (by grind)
 ·right
  have:=EC h (show t ≤ -g.ev x by grind) (by grind) (by grind)
  grind
 ·right
  have:=EC (show s ≤ -f.ev x by grind) k (by grind) (by grind)
  grind
 left
 have:=EC (show s ≤ -f.ev x by grind) (show t ≤ -g.ev x by grind) (by grind) (by grind)
 grind
theorem Aw.left (h:Aw c d (p*w)):Aw c d p:=by
 obtain ⟨θ,hθ,h⟩:=h;obtain ⟨A,hA,ha⟩:=Ab.self c;obtain ⟨B,hB,hb⟩:=Ab.self d;obtain ⟨W,hW,hw⟩:=bd (A+B) w;obtain ⟨η,hη,h1⟩:=oX hW (A:=θ*(1 / 2)) (by grind);refine ⟨η,hη,fun x a b=>?_⟩
 by_cases k1:η≤p.ev x
 ·exact .inl k1
 by_cases k2:p.ev x ≤ -η
 ·exact .inr k2
 exfalso
 have k3:=(hw x (by unfold Ab at *;grind)).mul (show Ab (p.ev x) η by unfold Ab;grind);have k4:=h x a b;rw [ev_mul] at k4;unfold Ab at k3
 grind
theorem Aw.rb (h:Aw c d p) (hl:c≤d):Rb c d p:=by
 obtain ⟨θ,hθ,h⟩:=h
 by_cases hcd:c=d
 ·subst hcd
  rcases h c Rat.le_refl Rat.le_refl with k|k
  ·exact ⟨θ,hθ,.inl fun x a b=>by rw [show x=c by grind];exact k⟩
  exact ⟨θ,hθ,.inr fun x a b=>by rw [show x=c by grind];exact k⟩
 obtain ⟨A,hA,ha⟩:=Ab.self c;obtain ⟨B,hB,hb⟩:=Ab.self d;obtain ⟨δ,hδ,hn⟩:=be_ (A+B) p (ε:=θ*(1 / 2)) (by grind);refine sub (P:=fun a b=>Rb a b p) hδ (fun a b h1 h2 h3 h4=>?_) (fun a m b _ h1 h2 _ p1 p2=>p1.join (by grind) (by grind) p2) (show c<d by grind);rcases hn a b (by unfold Ab at *;grind) (by unfold Ab at *;grind) (by grind) h4 with k|k
 ·exact k
 exfalso
 have k1:=k a Rat.le_refl (by grind);have k2:=h a h1 (by grind);unfold Ab at k1
 grind
theorem Aw.pow (h:Aw c d f):∀ n,Aw c d (pow f n)
 | 0=>⟨1,by decide,fun x _ _=>.inl (by show (1:Rat)≤(C 1).ev x;rw [ev_C];exact Rat.le_refl)⟩
 | n+1=>h.mul (Aw.pow h n)
theorem ck_ (h:Rb c d f) (hl:c≤d) {n:Nat} (hd:Dv p (QP.pow f n)):Rb c d p:=by
 obtain ⟨w,hw⟩:=hd;have k:=h.aw.pow n;rw [hw] at k;exact k.left.rb hl
theorem dX_ {x:Rat} (h:f.ev x≠0):Rb x x f:=by
 rcases sg_three (f.ev x) with k|k|k
 ·exact ⟨f.ev x,k.2,.inl fun y a b=>by rw [show y=x by grind];exact Rat.le_refl⟩
 ·exact ⟨-f.ev x,by have:=k.2;grind,.inr fun y a b=>by rw [show y=x by grind];grind⟩
 exact absurd k.2 h
theorem Rb.ne (h:Rb c d f) {x:Rat} (a:c≤x) (b:x≤d):f.ev x≠0:=by
 obtain ⟨η,hη,h|h⟩:=h
 ·have:=h x a b;grind
 have:=h x a b;grind
theorem Rb.pos (h:Rb c d f) {x y:Rat} (a:c≤x) (b:x≤d) (a':c≤y) (b':y≤d) (hp:0<f.ev x):0<f.ev y:=by
 obtain ⟨η,hη,h|h⟩:=h
 ·have:=h y a' b';grind
 have:=h x a b;grind
end
def NN (p:QP) (a b:Rat):Prop:=∀ x,a≤x→x≤b→0≤p.ev x
theorem NN.halves {p:QP} {a m b:Rat} (h1:a≤m) (h2:m≤b):NN p a b ↔ NN p a m∧NN p m b :=
 ⟨fun h=>⟨fun x a b=>h x a (by grind),fun x a b=>h x (by grind) b⟩,fun h x a b=>by
  rcases Rat.le_total (a:=x) (b:=m) with k|k
  ·exact h.1 x a k
  exact h.2 x k b⟩
structure Sf (p f:QP) (L:List QP):Prop where
 anti:∀ a b,a≤b→V L b≤V L a
 eq:∀ a b,a<b→V L a=V L b→f.ev b≠0∧(f.ev a≠0→Rb a b f)
 dv:∃ n,Dv p (pow f n)
 z:∀ x,f.ev x=0→p.ev x=0
theorem Sf.of {p f g:QP} {l:List QP} (hc:Chain (f::g::l)) {κ:Rat} (hκ:0<κ) (hD:∀ x,g.ev x=κ*(D f).ev x) {n:Nat} (hd:Dv p (pow f n)) (hf:Dv f p):Sf p f (f::g::l) where
 anti a b h:=by
  by_cases e:a=b
  ·subst e;exact Nat.le_refl _
  exact (IW hc hκ hD (show a<b by grind)).1
 eq a b h:=(IW hc hκ hD h).2
 dv:=⟨n,hd⟩
 z x h:=by obtain ⟨w,rfl⟩:=hf;rw [ev_mul,h,Rat.zero_mul]
theorem V_one (f:QP) (x:Rat):V [f] x=0:=by
 show vr 0 [sg (f.ev x)]=0
 rcases ZK (f.ev x) with h|h|h<;>rw [h]<;>simp [vr]
theorem Sf.one {p:QP} {t:Rat} (ht:t≠0) {n:Nat} (hd:Dv p (pow (C t) n)):Sf p (C t) [C t] where
 anti a b h:=by rw [V_one,V_one];exact Nat.le_refl _
 eq a b h _:=⟨by rw [ev_C];exact ht,fun _=>by
  rcases Rat.le_total (a:=0) (b:=t) with h0|h0
  ·exact ⟨t,by grind,.inl fun x _ _=>by rw [ev_C];grind⟩
  exact ⟨-t,by grind,.inr fun x _ _=>by rw [ev_C];grind⟩⟩
 dv:=⟨n,hd⟩
 z x h:=by rw [ev_C] at h;exact absurd h ht
section
variable {p f:QP} {L:List QP} {a b m:Rat}
theorem Sf.ne (h:Sf p f L) {x:Rat} (hx:f.ev x≠0):p.ev x≠0:=by
 obtain ⟨n,hd⟩:=h.dv;exact (ck_ (dX_ hx) Rat.le_refl hd).ne Rat.le_refl Rat.le_refl
theorem Sf.pos (h:Sf p f L) (hab:a<b) (hV:V L a=V L b):p.ev b≠0∧(p.ev a≠0→Rb a b p):=by
 obtain ⟨n,hd⟩:=h.dv;obtain ⟨h1,h2⟩:=h.eq a b hab hV;exact ⟨h.ne h1,fun k=>ck_ (h2 fun e=>k (h.z a e)) (by grind) hd⟩
theorem Sf.nn0 (h:Sf p f L) (hab:a<b) (hV:V L a=V L b) (pa:0≤p.ev a) (pb:0≤p.ev b):NN p a b:=fun x ax xb=>by
 by_cases e1:x=a
 ·rw [e1];exact pa
 by_cases e2:x=b
 ·rw [e2];exact pb
 have v1:=h.anti a x ax;have v2:=h.anti x b xb;have h1:=(h.pos (show a<x by grind) (by omega)).1;have h2:=h.pos (show x<b by grind) (by omega);have h3:=(h2.2 h1).pos xb Rat.le_refl Rat.le_refl xb (by have:=h2.1;grind)
 grind
theorem Sf.nn0r (h:Sf p f L) (am:a<m) (mb:m<b) (hV:V L a=V L b+1) (pa:0≤p.ev a) (pm:0≤p.ev m) (pb:p.ev b=0):NN p a b:=fun x ax xb=>by
 by_cases e1:x=a
 ·rw [e1];exact pa
 by_cases e2:x=b
 ·rw [e2,pb];exact Rat.le_refl
 have key:∀ y,a<y→y<b→V L y=V L a∧p.ev y≠0:=fun y ay yb=>by
  have v1:=h.anti a y (by grind);have v2:=h.anti y b (by grind);have v3:V L y≠V L b:=fun e=>(h.pos yb e).1 pb;exact ⟨by omega,(h.pos ay (by omega)).1⟩
 have kx:=key x (by grind) (by grind);have km:=key m am mb
 have pm':0<p.ev m:=by have:=km.2;grind
 by_cases e3:x=m
 ·rw [e3];exact pm
 rcases Rat.le_total (a:=x) (b:=m) with k|k
 ·have h3:=((h.pos (show x<m by grind) (by rw [kx.1,km.1])).2 kx.2).pos k Rat.le_refl Rat.le_refl k pm'
  grind
 have h3:=((h.pos (show m<x by grind) (by rw [kx.1,km.1])).2 km.2).pos Rat.le_refl k k Rat.le_refl pm'
 grind
theorem Sf.nn1 (h:Sf p f L) (hV:V L a=V L b+1) (pa:0<p.ev a) (pb:0<p.ev b):NN p a b:=fun x ax xb=>by
 by_cases e1:x=a
 ·rw [e1];grind
 by_cases e2:x=b
 ·rw [e2];grind
 have v1:=h.anti a x ax;have v2:=h.anti x b xb
 by_cases e3:V L a=V L x
 ·have h3:=((h.pos (show a<x by grind) e3).2 (by grind)).pos Rat.le_refl ax ax Rat.le_refl pa
  grind
 by_cases e4:p.ev x=0
 ·rw [e4];exact Rat.le_refl
 have h3:=((h.pos (show x<b by grind) (by omega)).2 e4).pos xb Rat.le_refl Rat.le_refl xb pb
 grind
end
theorem Rb.mono {c d c' d':Rat} {f:QP} (h:Rb c d f) (h1:c≤c') (h2:d'≤d):Rb c' d' f:=by
 obtain ⟨η,hη,h|h⟩:=h
 ·exact ⟨η,hη,.inl fun x a b=>h x (by grind) (by grind)⟩
 exact ⟨η,hη,.inr fun x a b=>h x (by grind) (by grind)⟩
theorem PY {f:QP} {c d η:Rat} (hη:0<η) (h:∀ x,c≤x→x≤d→η≤(D f).ev x) (hl:c<d):f.ev c<f.ev d:=by
 obtain ⟨A,hA,ha⟩:=Ab.self c;obtain ⟨B,hB,hb⟩:=Ab.self d
 have iA:∀ x,c≤x→x≤d→Ab x (A+B):=fun x p q=>by unfold Ab at ha hb ⊢;grind
 obtain ⟨K,hK,hk⟩:=tay (A+B) f;obtain ⟨δ,hδ,h1⟩:=oX hK (A:=η*(1 / 2)) (by grind);refine sub (P:=fun a b=>f.ev a<f.ev b) hδ (fun a b p q r s=>?_) (fun a m b _ _ _ _ p q=>by grind) hl;have k:=hk a b (iA a p (by grind)) (iA b (by grind) r) (by grind);have h2:K*(b - a)≤η*(1 / 2):=Rat.le_trans (Rat.mul_le_mul_of_nonneg_left (b:=δ) s hK) h1;have h3:=Rat.mul_le_mul_of_nonneg_left h2 (show (0:Rat)≤b - a by grind);have h4:=Rat.mul_le_mul_of_nonneg_left (h a p (by grind)) (show (0:Rat)≤b - a by grind);have h5:=Rat.mul_pos (show (0:Rat)<b - a by grind) hη;unfold Ab at k
 grind
theorem WS {f:QP} {c d η:Rat} (hη:0<η) (h:∀ x,c≤x→x≤d→(D f).ev x ≤ -η) (hl:c<d):f.ev d<f.ev c:=by
 have e:∀ x,(D (C (-1)*f)).ev x = -(D f).ev x:=fun x=>by rw [MA,D_C,zG,zD,ev_mul,ev_C];grind
 have:=PY (f:=C (-1)*f) hη (fun x a b=>by rw [e];have:=h x a b;grind) hl;rw [ev_mul,ev_mul,ev_C,ev_C] at this
 grind
section
variable {f g:QP} {l:List QP} {κ c d:Rat}
theorem QU (hc:Chain (f::g::l)) (hκ:0<κ) (hD:∀ x,g.ev x=κ*(D f).ev x) (hr:Rb c d (D f)) (hl:c<d) :
  V (f::g::l) c+(if f.ev d<0 then 1 else 0)=V (f::g::l) d+(if f.ev c<0 then 1 else 0)∨V (f::g::l) c+(if 0<f.ev d then 1 else 0)=V (f::g::l) d+(if 0<f.ev c then 1 else 0):=by
 obtain ⟨η,hη,hr|hr⟩:=hr
 ·left
  refine LP hc hκ hD (P:=fun c d=>(∀ x,c≤x→x≤d→η≤(D f).ev x)→V (f::g::l) c+(if f.ev d<0 then 1 else 0)=V (f::g::l) d+(if f.ev c<0 then 1 else 0)) (fun c d hl h hr=>?_) (fun c m d h1 h2 p q hr=>?_) hl hr
  ·have hcd:=PY hη hr hl
   rcases h with ⟨h1,h2⟩|⟨W,h1,h2⟩|⟨W,h1,h2⟩
   ·obtain ⟨e,he,h1|h1⟩:=h1
    ·have a:=h1 c Rat.le_refl (by grind);have b:=h1 d (by grind) Rat.le_refl
     rw [if_neg (by grind),if_neg (by grind),h2]
    have a:=h1 c Rat.le_refl (by grind);have b:=h1 d (by grind) Rat.le_refl;rw [if_pos (by grind),if_pos (by grind),h2]
   ·rw [h2 c Rat.le_refl (by grind),h2 d (by grind) Rat.le_refl];omega
   have:=h1 c d Rat.le_refl hl Rat.le_refl;grind
  have a:=p fun x a b=>hr x a (by grind);have b:=q fun x a b=>hr x (by grind) b;omega
 right
 refine LP hc hκ hD (P:=fun c d=>(∀ x,c≤x→x≤d→(D f).ev x ≤ -η)→V (f::g::l) c+(if 0<f.ev d then 1 else 0)=V (f::g::l) d+(if 0<f.ev c then 1 else 0)) (fun c d hl h hr=>?_) (fun c m d h1 h2 p q hr=>?_) hl hr
 ·have hcd:=WS hη hr hl
  rcases h with ⟨h1,h2⟩|⟨W,h1,h2⟩|⟨W,h1,h2⟩
  ·obtain ⟨e,he,h1|h1⟩:=h1
   ·have a:=h1 c Rat.le_refl (by grind);have b:=h1 d (by grind) Rat.le_refl
    rw [if_pos (by grind),if_pos (by grind),h2]
   have a:=h1 c Rat.le_refl (by grind);have b:=h1 d (by grind) Rat.le_refl;rw [if_neg (by grind),if_neg (by grind),h2]
  ·have:=h1 c d Rat.le_refl hl Rat.le_refl;grind
  rw [h2 c Rat.le_refl (by grind),h2 d (by grind) Rat.le_refl];omega
 have a:=p fun x a b=>hr x a (by grind);have b:=q fun x a b=>hr x (by grind) b;omega
def Two (f:QP) (L:List QP) (c d:Rat):Prop:=V L d+2≤V L c∨(V L d+1≤V L c∧f.ev c=0)
theorem two_nD (hc:Chain (f::g::l)) (hκ:0<κ) (hD:∀ x,g.ev x=κ*(D f).ev x) (hl:c<d) (h:Two f (f::g::l) c d):¬ Rb c d (D f):=fun hr=>by
 have k:=QU hc hκ hD hr hl;unfold Two at h;rcases h with h|⟨h,h0⟩
 ·rcases k with k|k<;>(repeat' split at k)<;>omega
 rw [h0] at k;rcases k with k|k
 ·rw [if_neg (show ¬ (0:Rat)<0 by grind)] at k;split at k<;>omega
 rw [if_neg (show ¬ (0:Rat)<0 by grind)] at k;split at k<;>omega
theorem st_rb (hc:Chain (f::g::l)) (hκ:0<κ) (hD:∀ x,g.ev x=κ*(D f).ev x) (hl:c<d) (hr:Rb c d f):V (f::g::l) c=V (f::g::l) d:=by
 refine LP hc hκ hD (P:=fun c d=>Rb c d f→V (f::g::l) c=V (f::g::l) d) (fun c d hl h hr=>?_) (fun c m d h1 h2 p q hr=>?_) hl hr
 ·rcases h with ⟨h1,h2⟩|⟨W,h1,h2⟩|⟨W,h1,h2⟩
  ·exact h2
  ·rw [h2 c Rat.le_refl (by grind),h2 d (by grind) Rat.le_refl]
   obtain ⟨e,he,hr|hr⟩:=hr
   ·have a:=hr c Rat.le_refl (by grind);have b:=hr d (by grind) Rat.le_refl
    rw [if_neg (by grind),if_neg (by grind)]
   have a:=hr c Rat.le_refl (by grind);have b:=hr d (by grind) Rat.le_refl;rw [if_pos (by grind),if_pos (by grind)]
  rw [h2 c Rat.le_refl (by grind),h2 d (by grind) Rat.le_refl];obtain ⟨e,he,hr|hr⟩:=hr
  ·have a:=hr c Rat.le_refl (by grind);have b:=hr d (by grind) Rat.le_refl
   rw [if_pos (by grind),if_pos (by grind)]
  have a:=hr c Rat.le_refl (by grind);have b:=hr d (by grind) Rat.le_refl;rw [if_neg (by grind),if_neg (by grind)]
 rw [p (hr.mono Rat.le_refl (by grind)),q (hr.mono (by grind) Rat.le_refl)]
theorem small_at {p:QP} (hl:c≤d) (h:¬ Rb c d p) {ε:Rat} (hε:0<ε):∃ z,c≤z∧z≤d∧Ab (p.ev z) ε:=by
 apply Classical.byContradiction
 intro hn;refine h (Aw.rb ⟨ε,hε,fun x a b=>?_⟩ hl)
 by_cases k1:ε≤p.ev x
 ·exact .inl k1
 by_cases k2:p.ev x ≤ -ε
 ·exact .inr k2
 exact absurd ⟨x,a,b,by unfold Ab;grind⟩ hn
end
structure Cub (f:QP) (a b c e:Int):Prop where
 v:∀ x,f.ev x=(a:Rat)*(x*x*x)+(b:Rat)*(x*x)+(c:Rat)*x+(e:Rat)
 d:∀ x,(D f).ev x=3*(a:Rat)*(x*x)+2*(b:Rat)*x+(c:Rat)
theorem RY {n:Int} (h:n≠0) {x:Rat} (hx:Ab ((n:Int):Rat) x):1≤x:=by
 unfold Ab at hx;rcases Int.lt_or_gt_of_ne h with k|k
 ·have:(n:Rat)≤((-1:Int):Rat):=Rat.intCast_le_intCast.2 (by omega)
  have e:((-1:Int):Rat) = -1:=rfl
  grind
 have:((1:Int):Rat)≤(n:Rat):=Rat.intCast_le_intCast.2 (by omega);have e:((1:Int):Rat)=1:=rfl
 grind
theorem Ab.int {n:Int} {B:Nat} (h:n.natAbs≤B):Ab (n:Rat) (B:Rat):=by
 constructor
 ·have:((-(B:Int):Int):Rat)≤(n:Rat):=Rat.intCast_le_intCast.2 (by omega)
  rwa [Rat.intCast_neg,Rat.intCast_natCast] at this
 have:(n:Rat)≤(((B:Int):Int):Rat):=Rat.intCast_le_intCast.2 (by omega)
 rwa [Rat.intCast_natCast] at this
section
variable {f:QP} {a b c e:Int}
def TX (a b c e:Int):Int:=b*b*c*c - 4*a*c*c*c - 4*b*b*b*e - 27*a*a*e*e+18*a*b*c*e
theorem aO_ (h:Cub f a b c e) (ha:a≠0) (hz:∀ x,¬ (f.ev x=0∧(D f).ev x=0)):TX a b c e≠0:=fun h0=>by
 have a0:(a:Rat)≠0:=fun e=>ha (Rat.intCast_eq_zero_iff.1 e)
 have hq:(b:Rat)*b*c*c - 4*a*c*c*c - 4*b*b*b*e - 27*a*a*e*e+18*a*b*c*e=0:=by
  have:((TX a b c e:Int):Rat)=0:=by rw [h0];rfl
  unfold TX at this;simp only [Rat.intCast_add,Rat.intCast_sub,Rat.intCast_mul] at this;exact this
 by_cases hp:6*(a:Rat)*c - 2*b*b=0
 ·-- a triple zero
  refine hz (-(b:Rat)*(3*(a:Rat))⁻¹) ⟨?_,?_⟩
  ·rw [h.v]
   have i:(3*(a:Rat))*(3*(a:Rat))⁻¹=1:=Rat.mul_inv_cancel _ (by grind);generalize (3*(a:Rat))⁻¹=v at *
   have hqq:9*(a:Rat)*e - b*c=0:=by
    have:(9*(a:Rat)*e - b*c)*(9*(a:Rat)*e - b*c)=0:=by grind
    rcases Rat.mul_eq_zero.1 this with k|k<;>exact k
   grind
  rw [h.d];have i:(3*(a:Rat))*(3*(a:Rat))⁻¹=1:=Rat.mul_inv_cancel _ (by grind);generalize (3*(a:Rat))⁻¹=v at *
  grind
 refine hz (-(9*(a:Rat)*e - b*c)*(6*(a:Rat)*c - 2*b*b)⁻¹) ?_;have i:(6*(a:Rat)*c - 2*b*b)*(6*(a:Rat)*c - 2*b*b)⁻¹=1:=Rat.mul_inv_cancel _ hp;have h1:=h.v (-(9*(a:Rat)*e - b*c)*(6*(a:Rat)*c - 2*b*b)⁻¹);have h2:=h.d (-(9*(a:Rat)*e - b*c)*(6*(a:Rat)*c - 2*b*b)⁻¹);generalize (6*(a:Rat)*c - 2*b*b)⁻¹=v at *
 have d0:(D f).ev (-(9*(a:Rat)*e - b*c)*v)=0:=by
  have key:(6*(a:Rat)*c - 2*b*b)*((6*(a:Rat)*c - 2*b*b)*(D f).ev (-(9*(a:Rat)*e - b*c)*v))=0:=by rw [h2];grind
  rcases Rat.mul_eq_zero.1 key with k|k
  ·exact absurd k hp
  rcases Rat.mul_eq_zero.1 k with k|k
  ·exact absurd k hp
  exact k
 refine ⟨?_,d0⟩
 have key:9*(a:Rat)*f.ev (-(9*(a:Rat)*e - b*c)*v)=0:=by rw [h1];rw [h2] at d0;grind
 rcases Rat.mul_eq_zero.1 key with k|k
 ·grind
 exact k
theorem Ab.sub_le {x y A:Rat} (h:Ab (x - y) A) {B:Rat} (g:Ab y B):Ab x (A+B):=by unfold Ab at *;grind
def sepC (B M:Rat):Rat:=(24*(B*B*B*M)+46*(B*B*B))*(B*(1+3*M))
theorem far3 (h:Cub f a b c e) (ha:a≠0) (hz:∀ x,¬ (f.ev x=0∧(D f).ev x=0)) {B M l r:Rat} (hB:0≤B) (hM:0≤M) (ba:Ab (a:Rat) B) (bb:Ab (b:Rat) B) (bc:Ab (c:Rat) B) (be:Ab (e:Rat) B) (hl:Ab l M) (hr:Ab r M) (hlr:l≤r)
  (h1:∀ ε:Rat,0<ε→∃ z,l≤z∧z≤r∧Ab ((D f).ev z) ε) (h2:∀ ε:Rat,0<ε→∃ w,l≤w∧w≤r∧Ab (f.ev w) ε):1≤sepC B M*((r - l)*(r - l)):=by
 have hd:=aO_ h ha hz;have a0:(a:Rat)≠0:=fun e=>ha (Rat.intCast_eq_zero_iff.1 e)
 have hid:∀ z:Rat,9*(a:Rat)*((TX a b c e:Int):Rat)=9*(a:Rat)*((3*a*(6*a*c - 2*b*b)*z+2*b*(6*a*c - 2*b*b) - 3*a*(9*a*e - b*c))*f.ev z) - ((6*a*c - 2*b*b)*(6*a*c - 2*b*b)+(3*a*(6*a*c - 2*b*b)*z+2*b*(6*a*c - 2*b*b) - 3*a*(9*a*e - b*c))*(3*a*z+b))*(D f).ev z:=fun z=>by
  rw [h.v,h.d];unfold TX;simp only [Rat.intCast_add,Rat.intCast_sub,Rat.intCast_mul];have e4:((4:Int):Rat)=4:=rfl;have e27:((27:Int):Rat)=27:=rfl;have e18:((18:Int):Rat)=18:=rfl;rw [e4,e27,e18]
  grind
 generalize hdd:TX a b c e=dd at *
 have bp:Ab (6*(a:Rat)*c - 2*b*b) (8*(B*B)):=by
  have k1:=ba.mul bc;have k2:=bb.mul bb;unfold Ab at *;grind
 have bq:Ab (9*(a:Rat)*e - b*c) (10*(B*B)):=by
  have k1:=ba.mul be;have k2:=bb.mul bc;unfold Ab at *;grind
 generalize hp:6*(a:Rat)*c - 2*b*b=p at *;generalize hq:9*(a:Rat)*e - b*c=q at *;have hin:∀ z,l≤z→z≤r→Ab z M:=fun z u v=>FF hl hr u v
 have bw:∀ z,l≤z→z≤r→Ab (3*a*p*z+2*b*p - 3*a*q) (24*(B*B*B*M)+46*(B*B*B)):=fun z u v=>by
  have k1:=(ba.mul bp).mul (hin z u v);have k2:=bb.mul bp;have k3:=ba.mul bq;unfold Ab at *;grind
 have bv:∃ V,0≤V∧∀ z,l≤z→z≤r→Ab (p*p+(3*a*p*z+2*b*p - 3*a*q)*(3*a*z+b)) V:=by
  have b3:∀ z,l≤z→z≤r→Ab (3*a*z+b) (3*(B*M)+B):=fun z u v=>by
   have k1:=ba.mul (hin z u v);unfold Ab at *;grind
  refine ⟨_,?_,fun z u v=>(bp.mul bp).add ((bw z u v).mul (b3 z u v))⟩;exact ((bp.mul bp).add ((bw l Rat.le_refl hlr).mul (b3 l Rat.le_refl hlr))).nn
 obtain ⟨V,hV,bv⟩:=bv;have hW:0≤24*(B*B*B*M)+46*(B*B*B):=(bw l Rat.le_refl hlr).nn;unfold sepC;generalize 24*(B*B*B*M)+46*(B*B*B)=W at *;have hK:0≤B*(1+3*M):=Rat.mul_nonneg hB (by grind);generalize hKe:B*(1+3*M)=K at *
 have hL:0≤r - l:=by grind
 -- the contrary kL d1_ for small numbers
 apply Classical.byContradiction
 intro hn
 have hgap:0<1 - W*K*((r - l)*(r - l)):=by grind
 obtain ⟨ε,hε,hs⟩:=oX (K:=W+W*(r - l)+V) (by have:=Rat.mul_nonneg hW hL;grind) (A:=(1 - W*K*((r - l)*(r - l)))*(1 / 2)) (by grind);obtain ⟨z,z1,z2,hz1⟩:=h1 ε hε;obtain ⟨w,w1,w2,hw1⟩:=h2 ε hε
 have hwz:Ab (w - z) (r - l):=by unfold Ab;grind
 have hfz:Ab (f.ev z) (ε+(r - l)*ε+(r - l)*(r - l)*K):=by
  have k1:f.ev z=f.ev w - (w - z)*(D f).ev z - (w - z)*(w - z)*(b+a*(w+2*z)):=by rw [h.v,h.v,h.d];grind
  have k2:Ab ((b:Rat)+a*(w+2*z)) K:=by
   have m1:=ba.mul (hin w w1 w2);have m2:=ba.mul (hin z z1 z2);rw [← hKe];unfold Ab at *;grind
  rw [k1];exact (hw1.sub (hwz.mul hz1)).sub ((hwz.mul hwz).mul k2)
 have k3:=(bw z z1 z2).mul hfz;have k4:=(bv z z1 z2).mul hz1;have k5:=hid z;generalize (3*a*p*z+2*b*p - 3*a*q)=ww at *;generalize p*p+ww*(3*a*z+b)=vv at *
 have k6:Ab (dd:Rat) (W*(ε+(r - l)*ε+(r - l)*(r - l)*K)+V*ε):=by
  have i:(9*(a:Rat))*(9*(a:Rat))⁻¹=1:=Rat.mul_inv_cancel _ (by grind)
  have k7:(dd:Rat)=ww*f.ev z - (9*(a:Rat))⁻¹*(vv*(D f).ev z):=by
   generalize (9*(a:Rat))⁻¹=ii at *
   have:(9*(a:Rat)*ii)*(dd:Rat)=(9*(a:Rat)*ii)*(ww*f.ev z) - ii*(vv*(D f).ev z):=by grind
   rw [i] at this
   grind
  have k8:Ab (9*(a:Rat))⁻¹ 1:=by
   rcases Int.lt_or_gt_of_ne ha with s|s
   ·have m:(a:Rat) ≤ -1:=by
     have:=Rat.intCast_le_intCast.2 (show a ≤ -1 by omega);exact this
    generalize (9*(a:Rat))⁻¹=ii at *;unfold Ab
    constructor
    ·apply Classical.byContradiction
     intro hc;have:=Rat.mul_le_mul_of_nonneg_left (a:=1) (b:=-ii) (c:=-(9*(a:Rat))) (by grind) (by grind)
     grind
    apply Classical.byContradiction
    intro hc;have:=Rat.mul_le_mul_of_nonneg_left (a:=1) (b:=ii) (c:=-(9*(a:Rat))) (by grind) (by grind)
    grind
   have m:1≤(a:Rat):=by
    have:=Rat.intCast_le_intCast.2 (show 1≤a by omega);exact this
   generalize (9*(a:Rat))⁻¹=ii at *;unfold Ab
   constructor
   ·apply Classical.byContradiction
    intro hc;have:=Rat.mul_le_mul_of_nonneg_left (a:=1) (b:=-ii) (c:=(9*(a:Rat))) (by grind) (by grind)
    grind
   apply Classical.byContradiction
   intro hc;have:=Rat.mul_le_mul_of_nonneg_left (a:=1) (b:=ii) (c:=(9*(a:Rat))) (by grind) (by grind)
   grind
  rw [k7];have:=k8.mul k4;rw [Rat.one_mul] at this;exact k3.sub this
 have k9:=RY hd k6
 grind
theorem far2 (h:Cub f 0 b c e) (hb:b≠0) (hz:∀ x,¬ (f.ev x=0∧(D f).ev x=0)) {B M l r:Rat} (hB:1≤B) (hM:0≤M) (bb:Ab (b:Rat) B) (hl:Ab l M) (hr:Ab r M) (hlr:l≤r)
  (h1:∀ ε:Rat,0<ε→∃ z,l≤z∧z≤r∧Ab ((D f).ev z) ε) (h2:∀ ε:Rat,0<ε→∃ w,l≤w∧w≤r∧Ab (f.ev w) ε):1≤4*B*B*((r - l)*(r - l)):=by
 have b0:(b:Rat)≠0:=fun e=>hb (Rat.intCast_eq_zero_iff.1 e);have z0:((0:Int):Rat)=0:=rfl
 have hid:∀ z:Rat,((c*c - 4*b*e:Int):Rat)=(D f).ev z*(D f).ev z - 4*b*f.ev z:=fun z=>by
  rw [h.v,h.d];simp only [Rat.intCast_add,Rat.intCast_sub,Rat.intCast_mul];have e4:((4:Int):Rat)=4:=rfl;rw [e4,z0]
  grind
 have hd:c*c - 4*b*e≠0:=fun hd=>by
  rw [hd,z0] at hid;have i:(2*(b:Rat))*(2*(b:Rat))⁻¹=1:=Rat.mul_inv_cancel _ (by grind);have hx:=hid (-(c:Rat)*(2*(b:Rat))⁻¹)
  have d0:(D f).ev (-(c:Rat)*(2*(b:Rat))⁻¹)=0:=by rw [h.d,z0];generalize (2*(b:Rat))⁻¹=ii at *;grind
  refine hz _ ⟨?_,d0⟩;rw [d0] at hx
  have:4*(b:Rat)*f.ev (-(c:Rat)*(2*(b:Rat))⁻¹)=0:=by grind
  rcases Rat.mul_eq_zero.1 this with k|k
  ·grind
  exact k
 generalize c*c - 4*b*e=dd at *
 have hL:0≤r - l:=by grind
 apply Classical.byContradiction
 intro hn;obtain ⟨ε,hε,hs⟩:=oX (K:=1+4*B+4*B*(r - l)) (by have:=Rat.mul_nonneg (show (0:Rat)≤4*B by grind) hL;grind) (A:=(1 - 4*B*B*((r - l)*(r - l)))*(1 / 2)) (by grind);obtain ⟨ε',hε',hs1,hs2⟩:=yI hε (show (0:Rat)<1 by decide);obtain ⟨z,z1,z2,hz1⟩:=h1 ε' hε';obtain ⟨w,w1,w2,hw1⟩:=h2 ε' hε'
 have hwz:Ab (w - z) (r - l):=by unfold Ab;grind
 have hfz:Ab (f.ev z) (ε'+(r - l)*ε'+(r - l)*(r - l)*B):=by
  have k1:f.ev z=f.ev w - (w - z)*(D f).ev z - (w - z)*(w - z)*b:=by rw [h.v,h.v,h.d,z0];grind
  rw [k1];exact (hw1.sub (hwz.mul hz1)).sub ((hwz.mul hwz).mul bb)
 have k3:=bb.mul hfz;have k4:=hz1.mul hz1;have k5:=hid z
 have k6:Ab (dd:Rat) (ε'*ε'+4*(B*(ε'+(r - l)*ε'+(r - l)*(r - l)*B))):=by
  rw [k5];unfold Ab at *;grind
 have k9:=RY hd k6;have k10:=Rat.mul_le_mul_of_nonneg_left hs2 (Rat.le_of_lt hε');have k11:=Rat.mul_le_mul_of_nonneg_left hs1 (show (0:Rat)≤1+4*B+4*B*(r - l) by have:=Rat.mul_nonneg (show (0:Rat)≤4*B by grind) hL;grind)
 grind
end
end QP
open Go Go.Kn
open QP (Dv Dg Irr Chain Sf)
theorem bp_ (p:List I):mE (fun k=>vI (p.getD k I0)):=⟨p.length,fun i hi=>by show vI (p.getD i I0)=0;rw [mK hi,vI0]⟩
noncomputable def qp (p:List I):QP:=ZP (fun k=>vI (p.getD k I0)) (bp_ p)
theorem oZ {p:List I} {c:Nat→Int} (h:Po p c) (e:mE c):qp p=ZP c e:=QP.ex fun k=>by unfold qp;rw [kU,kU,h.c k]
theorem F6:qp []=QP.C 0:=QP.ex fun k=>by
 rw [oZ B4 B4.ends,kU,QP.C0_c];rfl
def Gp (p:List I):Prop:=Rgt p∧p.all gdI=true∧p≠[]
theorem Gp.po {p:List I} (h:Gp p):∃ c,Po p c:=⟨_,AC h.1 h.2.1⟩
theorem Gp.ne {p:List I} (h:Gp p):qp p≠QP.C 0:=by
 obtain ⟨c,hc⟩:=h.po;rw [oZ hc hc.ends];exact TM hc.ends (hc.ne_nil h.2.2)
inductive RL:List QP→Prop
 | one (a:QP):RL [a]
 | two (b a:QP):RL [b,a]
 | step (c b a q:QP) (l:List QP) (s t:Rat) (hs:0<s) (ht:0<t) (h:QP.C s*a+QP.C t*c=q*b) (hr:RL (b::a::l)):RL (c::b::a::l)
theorem RL.tail {c b:QP} {l:List QP} (h:RL (c::b::l)):RL (b::l):=by
 cases h with
 | two=>exact .one _
 | step _ _ _ q l s t hs ht h hr=>exact hr
theorem O3:∀ (R:List QP) (b c:QP) (l:List QP),RL (c::b::R)→Chain (b::c::l)→Chain (R.reverse++(b::c::l))
 | [],b,c,l,_,h=>h
 | a::R,b,c,l,hr,h=>by
  cases hr with
  | step _ _ _ q _ s t hs ht e hr =>
   rw [List.reverse_cons,List.append_assoc];refine O3 R a b (c::l) hr (.step a b c q l s t hs ht (fun x=>?_) h);have:=congrArg (fun y:QP=>y.ev x) e;simp only [QP.ev_add,QP.ev_mul,QP.ev_C] at this;exact this
theorem RL.dv {d:QP}:∀ (l:List QP) (b a:QP),RL (b::a::l)→Dv d b→Dv d a→∀ e∈l,Dv d e
 | [],_,_,_,_,_,e,he=>by cases he
 | x::l,b,a,hr,hb,ha,e,he=>by
  cases hr with
  | step _ _ _ q _ s t hs ht h hr =>
   have hx:Dv d x:=by
    have s0:s≠0:=by grind
    refine QP.Dv.scale s0 ?_
    have h1:QP.C s*x=q*a+QP.C (-1)*(QP.C t*b):=by
     rw [← h];exact QP.ex fun k=>by simp only [QP.add_c,QP.C_mul];grind
    rw [h1];exact (ha.mul_l _).add ((hb.mul_l _).mul_l _)
   rcases List.mem_cons.1 he with rfl|he
   ·exact hx
   exact RL.dv l a x hr ha hx e he
theorem AD:bS badp (E (Z.of (-1)))=badp:=by kernel_rfl
theorem ea_ {a b:List I} {α β:Nat→Int} (ha:Po a α) (hb:Po b β) (h0:b≠[]) (hg:(aC (bS (bD a b) (E (Z.of (-1))))).all gdI=true) :
  ∃ γ:Nat→Int,Po (aC (bS (bD a b) (E (Z.of (-1))))) γ∧∃ (s t:Rat) (q:QP),0<s∧0<t∧QP.C s*qp a+QP.C t*qp (aC (bS (bD a b) (E (Z.of (-1)))))=q*qp b:=by
 obtain ⟨n,n1,n2,n3⟩:=hb.top h0;rcases bR_ ha hb n1 with hr|hr
 ·rw [hr,AD,rL,eS] at hg;cases hg
 have hs:Po (bS (bD a b) (E (Z.of (-1)))) _:=MH hr dd_ (fun k=>by have:=hr.B k;unfold cX at *;rwa [Int.mul_neg_one,Int.natAbs_neg]);obtain ⟨γ,t,_,t0,hγ,e1,_⟩:=tX hs;obtain ⟨Q,hQ,hq⟩:=EK (a:=((β n).natAbs:Int)) (o:=(β n).sign) (d:=β) (n:=n) (a.length - n) α;refine ⟨γ,hγ,((((β n).natAbs:Int) ^ (a.length - n):Int):Rat),(t:Rat),ZP Q hQ,?_,?_,?_⟩
 ·exact Rat.intCast_pos.2 (Int.pow_pos oo_)
 ·exact Rat.intCast_pos.2 t0
 rw [oZ ha ha.ends,oZ hγ hγ.ends,oZ hb hb.ends,QP.mul_comm' (ZP Q hQ),← pH hb.ends hQ];refine QP.ex fun k=>?_;rw [QP.add_c,QP.C_mul,QP.C_mul,kU,kU,kU,← Rat.intCast_mul,← Rat.intCast_mul,← Rat.intCast_add]
 congr 1
 have h1:=hq k;have h2:=e1 k;rw [← h2,h1];omega
theorem FB (pre:List (List I)) (x y:List I):((pre++[x])++[y]).getD (((pre++[x])++[y]).length - 2) []=x:=by
 simp [List.getD_eq_getElem?_getD]
theorem cq_ (p:List I):∀ (k:Nat) (pre:List (List I)) (last next:List I),(∀ x∈pre++[last],Gp x)→Rgt next→RL (qp next::qp last::pre.reverse.map qp)→gmP next<k →
  cT p k (pre++[last]) next = .inr ([],false) ∨ ∃ (pre':List (List I)) (last':List I),cT p k (pre++[last]) next = .inl (pre'++[last'],[])∧(∀ x∈pre'++[last'],Gp x)∧RL (qp []::qp last'::pre'.reverse.map qp)∧∃ t,pre'++[last']=pre++[last]++t∧(next≠[]→∃ t',t=next::t')∧(next=[]→t=[])
 | 0,pre,last,next,_,_,_,hk=>absurd hk (Nat.not_lt_zero _)
 | k+1,pre,last,next,hG,hR,hr,hk=>by
  unfold cT
  by_cases h0:next=[]
  ·subst h0
   exact .inr ⟨pre,last,rfl,hG,hr,[],by simp,fun h=>absurd O h,fun _=>rfl⟩
  have hl:0<next.length:=List.length_pos_iff.2 h0
  rw [decide_eq_true (show 0<(next.length:Int) by omega),cond_true,FB,yZ]
  cases hn:next.all gdI
  ·have hb:next=badp:=y8 hR hn
   left
   have hrem:bD last next=badp:=GA _ _ (CW hR) hn
   rw [hrem,AD,rL,wL,cond_true]
  have hGn:Gp next:=⟨hR,hn,h0⟩
  obtain ⟨β,hβ⟩:=hGn.po;obtain ⟨α,hα⟩:=(hG last (by simp)).po;have hlen:=cE (bS (bD last next) (E (Z.of (-1))))
  cases hb:aS (aC (bS (bD last next) (E (Z.of (-1)))))
  ·rw [kP oo_] at hb
   have hg:(aC (bS (bD last next) (E (Z.of (-1))))).all gdI=true:=by simpa using hb
   obtain ⟨γ,hγ,s,t,q,hs,ht,e⟩:=ea_ hα hβ h0 hg
   have hd:gmP (aC (bS (bD last next) (E (Z.of (-1)))))<gmP next:=by
    have h1:=(LQ (EL hR) hg).2;unfold gmP;rw [hg,hn,cond_true,cond_true];omega
   rw [cond_false]
   rcases cq_ p k (pre++[last]) next _ (fun x hx=>by
    rcases List.mem_append.1 hx with hx|hx
    ·exact hG x hx
    rw [List.mem_singleton.1 hx];exact hGn) hγ.rgt (by
    rw [List.reverse_append]
    exact .step _ _ _ q _ s t hs ht e hr) oo_ with h1|⟨pre',last',h1,h2,h3,u,h4,_,_⟩
   ·exact .inl h1
   exact .inr ⟨pre',last',h1,h2,h3,next::u,by rw [h4];simp,fun _=>⟨u,rfl⟩,fun h=>absurd h h0⟩
  exact .inl O
theorem HW (p:List I) (out:List (List I)) (next:List I):∀ l:List (List I),(∀ x∈l,Gp x)→cY p out next l = .inl ()
 | [],_=>rfl
 | x::l,h=>by
  unfold cY;obtain ⟨c,hc⟩:=(h x (List.mem_cons_self)).po;rw [hc.nb,cond_false]
  exact HW p out next l fun y hy=>h y (List.mem_cons_of_mem _ hy)
structure St (p:List I) (L:List (List I)):Prop where
 g:∀ x∈L,Gp x
 s:∃ f l,(L=f::l∧f=aV p)∧Rad (qp p) (qp f)∧Sf (qp p) (qp f) (L.map qp)∧(l=[] ∨ ∃ (g:List I) (l':List (List I)) (κ:Rat),l=g::l'∧Chain (L.map qp)∧0<κ∧∀ x,(qp g).ev x=κ*(QP.D (qp f)).ev x)
theorem bE_ {p:List I} (hp:Gp p):aH p=([],false)∨((aH p).2=true∧St p (aH p).1):=by
 obtain ⟨c,hc⟩:=hp.po
 have bad_next:∀ (f next:List I),next=badp→cT p (gmP next+1) [f] next = .inr ([],false):=fun f next h=>by
  subst h
  have h1:gmP badp+1=1+1:=by unfold gmP;rw [eS];rfl
  rw [h1];unfold cT;rw [show decide (0<(badp.length:Int))=true from by kernel_rfl,cond_true,yZ,GA _ _ dd_ eS,AD,rL,wL,cond_true]
 unfold aH;rcases cK_ hc hp.2.2 with hf|⟨F,hF,hR⟩
 ·left
  rw [hf,show aC (aE badp)=badp by kernel_rfl,bad_next _ _ O];rfl
 have hpq:ZP c hc.ends=qp p:=(oZ hc _).symm;have hfq:ZP F hF.ends=qp (aV p):=(oZ hF _).symm;rw [hpq,hfq] at hR;have hf0:aV p≠[]:=fun e=>hR.ne (by rw [e];exact F6);have hGf:Gp (aV p):=⟨hF.rgt,hF.g,hf0⟩;rcases MB hF with hd|hd
 ·left
  rw [hd,rL,bad_next _ _ O];rfl
 obtain ⟨γ,t,_,t0,hγ,e1,_⟩:=tX hd;have tq:0<(t:Rat):=Rat.intCast_pos.2 t0
 have hgD:∀ x,(qp (aC (aE (aV p)))).ev x=(t:Rat)⁻¹*(QP.D (qp (aV p))).ev x:=fun x=>by
  have e2:QP.D (qp (aV p))=QP.C (t:Rat)*qp (aC (aE (aV p))):=QP.ex fun k=>by
   rw [oZ hF hF.ends,oZ hγ hγ.ends,← bV_,kU,QP.C_mul,kU,e1 k,Rat.intCast_mul]
  rw [e2,QP.ev_mul,QP.ev_C,← Rat.mul_assoc,Rat.inv_mul_cancel _ (by grind),Rat.one_mul]
 rcases cq_ p (gmP (aC (aE (aV p)))+1) [] (aV p) (aC (aE (aV p))) (fun x hx=>by rw [List.mem_singleton.1 hx];exact hGf) hγ.rgt (.two _ _) (Nat.lt_succ_self _) with h1|⟨pre,last,h1,h2,h3,u,h4,h5,h6⟩
 ·left
  rw [List.nil_append] at h1;rw [h1];rfl
 right
 rw [List.nil_append] at h1 h4;rw [h1]
 show (sm (fun (_:Unit)=>(pre++[last],true)) (fun r=>r) (cY p (pre++[last]) [] (pre++[last]))).2=true∧St p (sm (fun (_:Unit)=>(pre++[last],true)) (fun r=>r) (cY p (pre++[last]) [] (pre++[last]))).1
 rw [HW p _ _ _ h2];refine ⟨rfl,h2,?_⟩
 show ∃ f l,(pre++[last]=f::l∧f=aV p)∧_
 obtain ⟨n,hn⟩:=hR.up
 by_cases hnx:aC (aE (aV p))=[]
 ·have hu:=h6 hnx
  subst hu;rw [List.append_nil] at h4;rw [h4];refine ⟨_,[],⟨rfl,rfl⟩,hR,?_,.inl O⟩
  -- a constant
  have hz:∀ k,dI F k=0:=fun k=>by rw [e1 k,BE hγ hnx k,Int.mul_zero]
  have hC:qp (aV p)=QP.C ((qp (aV p)).c 0):=by
   obtain ⟨m,hm⟩:=QP.ex_dg hR.ne
   cases m with
   | zero=>exact QP.dg_C hm
   | succ m =>
    exfalso
    have:=hz m;unfold dI at this
    have h7:F (m+1)=0:=by
     rcases Int.mul_eq_zero.1 this with h|h
     ·omega
     exact h
    refine hm.1 ?_;rw [oZ hF hF.ends,kU,h7];rfl
  have hc0:(qp (aV p)).c 0≠0:=fun e=>hR.ne (by rw [hC,e])
  show Sf (qp p) (qp (aV p)) [qp (aV p)]
  rw [hC] at hn ⊢;exact Sf.one hc0 hn
 obtain ⟨u',hu⟩:=h5 hnx;subst hu;rw [h4]
 have hL:pre≠[]:=fun e=>by
  rw [e,List.nil_append] at h4;have:=congrArg List.length h4
  simp at this
 obtain ⟨pr,a,hpa⟩:∃ pr a,pre=pr++[a]:=⟨pre.dropLast,pre.getLast hL,(List.dropLast_concat_getLast hL).symm⟩;subst hpa;rw [List.reverse_append,F6] at h3;have h3':RL (QP.C 0::qp last::qp a::pr.reverse.map qp):=h3
 -- the last one divides all
 have hlast:Dv (qp last) (qp a):=by
  cases h3' with
  | step _ _ _ q _ s t hs ht e hr =>
   refine QP.Dv.scale (show s≠0 by grind) ⟨q,?_⟩;rw [QP.mul_zero',QP.add_zero'] at e;rw [e,QP.mul_comm']
 have hall:=RL.dv (d:=qp last) _ _ _ h3'.tail (.refl _) hlast
 have hmem:∀ x∈(aV p)::aC (aE (aV p))::u',Dv (qp last) (qp x):=fun x hx=>by
  have hx':x∈pr++[a]++[last]:=by rw [h4];simpa using hx
  rcases List.mem_append.1 hx' with hx'|hx'
  ·rcases List.mem_append.1 hx' with hx'|hx'
   ·exact hall _ (List.mem_map_of_mem (List.mem_reverse.2 hx'))
   rw [List.mem_singleton.1 hx'];exact hlast
  rw [List.mem_singleton.1 hx'];exact .refl _
 have d1:=hmem _ (List.mem_cons_self)
 have d2:Dv (qp last) (QP.D (qp (aV p))):=by
  have:=hmem (aC (aE (aV p))) (by simp);rw [oZ hF hF.ends,← bV_]
  have e2:ZP (dI F) (RF hF.ends)=QP.C (t:Rat)*qp (aC (aE (aV p))):=QP.ex fun k=>by rw [QP.C_mul,oZ hγ hγ.ends,kU,kU,e1 k,Rat.intCast_mul]
  rw [e2];exact this.mul_l _
 have hln:=(h2 last (by simp)).ne;obtain ⟨m,hm⟩:=QP.ex_dg hln;have hm0:=QP.sqf_co hR.sq d1 d2 hm;subst hm0;have hC:=QP.dg_C hm;have ht0:(qp last).c 0≠0:=hm.1
 have hch:Chain ((pr++[a]++[last]).map qp):=by
  have h7:=O3 (pr.reverse.map qp) (qp a) (qp last) [] h3'.tail (by rw [hC];exact .one _ _ ht0);rw [← List.map_reverse,List.reverse_reverse] at h7
  simpa using h7
 refine ⟨_,aC (aE (aV p))::u',⟨rfl,rfl⟩,hR,?_,.inr ⟨_,u',(t:Rat)⁻¹,rfl,?_,Rat.inv_pos.2 tq,hgD⟩⟩
 ·rw [h4] at hch
  exact Sf.of hch (Rat.inv_pos.2 tq) hgD hn hR.dv
 rw [h4] at hch;exact hch
def dU (c:(List (List I))) (x:Rt):List (List I)→W→W→(W×W) ⊕ (W×Bool)
 | [],mb5,mb4=>.inl (mb5,mb4)
 | x0::l0,mb5,mb4=>bif (aF x0 x).2 then (bif (((aF x0 x).1).1 != 0) then (bif (((aF x0 x).1).1==(-2)) then (.inr ((wl 0),false)) else (bif ((mb5.1 != 0)&&(((aF x0 x).1).1 != mb5.1)) then (dU c x l0 ((aF x0 x).1) (W.add mb4 (wl 1))) else (dU c x l0 ((aF x0 x).1) mb4))) else (dU c x l0 mb5 mb4)) else (.inr ((wl 0),false))
def bZ (c:(List (List I))) (x:Rt):W×Bool :=
 sm (fun (s:W×W)=>let mb5:W:=s.1
 let mb4:W:=s.2
 (mb4,true)) (fun r=>r) (dU c x c (wl 0) (wl 0))
def aG (c:(List (List I))) (a:Rt) (b:Rt):W×Bool :=
 ((W.sub ((bZ c a).1) ((bZ c b).1)),((bZ c a).2&&(bZ c b).2))
def bI (p:(List I)) (a:Rt) (b:Rt):W×W :=
 bif ((aS p)||(((p.length:Int)==0)||(!(gG a b)))) then ((wl 0),(wl 1)) else (bif (aH p).2 then (bif (aG ((aH p).1) a b).2 then ((aG ((aH p).1) a b).1,(wl 0)) else ((wl 0),(wl 30))) else ((wl 0),(wl 30)))
end Go.Num
