/- Lemmas: what they ask stands in their statements. -/
import Derived.Test.YtcjoflcajgaifaaGreatDoorORrc
set_option linter.unusedSimpArgs false
set_option linter.unusedVariables false
namespace Go.Num
open Go Go.Kn
open QP (Dv Dg Irr)
structure Rad (p f:QP):Prop where
 ne:f≠QP.C 0
 up:∃ n,Dv p (QP.pow f n)
 dv:Dv f p
 sq:∀ h,Irr h→¬ Dv (h*h) f
theorem IX {p:List I} (h:aM p (aD p)=badp):aN p=badp:=by
 unfold aN;rw [h,vM,Bool.true_or,cond_true,C3]
theorem YF {p:List I} (hp:p.length≤25) (h:aD p=badp):aM p (aD p)=badp:=by
 unfold aM;rw [h,qM,AY p badp _ _ oo_];rfl
theorem Dv.cmul {a b:QP} {s t:Rat} (hs:s≠0) (ht:t≠0) (h:QP.C s*a=QP.C t*b) (x:QP):Dv x a ↔ Dv x b :=
 ⟨fun k=>QP.Dv.scale ht (by rw [← h];exact k.mul_l _),fun k=>QP.Dv.scale hs (by rw [h];exact k.mul_l _)⟩
theorem dj_ {p:List I} {c:Nat→Int} (h:Po p c) (h0:p≠[]):aN p=badp ∨ ∃ F:Nat→Int,∃ hF:Po (aN p) F,Rad (ZP c h.ends) (ZP F hF.ends):=by
 rcases M6 h with hd|hd
 ·exact .inl (IX (YF h.l hd))
 rcases eU_ h hd with hg|⟨α,β,g,s,t,ha,hb,hg,s0,t0,ea,eb,ca,cg,hG,hm⟩
 ·exact .inl (IX hg)
 have hc0:=h.ne_nil h0
 have hα0:¬ ∀ k,α k=0:=fun hz=>hc0 fun k=>by rw [ea k,hz k,Int.mul_zero]
 have hpr:aC p≠[]:=fun e=>hα0 fun k=>BC ha e k;have hα:Cop α:=ca hpr;obtain ⟨d1,d2⟩:=(hG (ZP g hg.ends)).2 (.refl _);have hα1:=UN ha.ends hα0
 have hg0:¬ ∀ k,g k=0:=fun hz=>hα1 (by
  have e0:ZP g hg.ends=QP.C 0:=QP.ex fun k=>by rw [j6,hz k,QP.C0_c];rfl
  rw [e0] at d1
  exact d1.of_zero)
 have hgn:aM p (aD p)≠[]:=fun e=>hg0 fun k=>BC hg e k;have hgc:=cg hgn;obtain ⟨n,n1,n2,n3⟩:=hg.top hgn;obtain ⟨F,eF,hF⟩:=zW hgc hg.ends ha.ends d1;have hFc:Cop F:=CA (s:=g) (by rw [← show α=conv g F from funext hF];exact hα);obtain ⟨m,m1,m2⟩:=(HD eF).resolve_left (B9 hFc)
 have hgp:0<g n:=by have:=hm n n3;omega
 rcases di_ hg n1 hgp ha hF m1 m2 with hf|⟨e,he,hP⟩
 ·exact .inl hf
 right
 have sq:(s:Rat)≠0:=fun e=>by have:=Rat.intCast_eq_zero_iff.1 e;omega
 have tq:(t:Rat)≠0:=fun e=>by have:=Rat.intCast_eq_zero_iff.1 e;omega
 have E1:ZP c h.ends=QP.C (s:Rat)*ZP α ha.ends:=QP.ex fun k=>by rw [QP.C_mul,j6,j6,ea k,Rat.intCast_mul]
 have E2:QP.C (s:Rat)*QP.D (ZP α ha.ends)=QP.C (t:Rat)*ZP β hb.ends:=QP.ex fun k=>by
  rw [QP.C_mul,QP.C_mul,QP.D_c,j6,j6,← Rat.intCast_mul t,← eb k];unfold dI;rw [ea (k+1),Rat.intCast_mul,Rat.intCast_mul]
  show _=((k+1:Nat):Rat)*_
  grind
 have hDv:=Dv.cmul sq tq E2
 have key:∀ x,Irr x→(Dv x (ZP α ha.ends)→Dv x (ZP F eF))∧¬ Dv (x*x) (ZP F eF):=fun x hx=>by
  refine QP.sqf_part (G:=ZP g hg.ends) hα1 ?_ ((hDv _).2 d2) (fun d h1 h2=>(hG d).1 ⟨h1,(hDv d).1 h2⟩) hx;rw [← oN hg.ends eF];exact NE _ _ hF
 have hF1:=UN eF (B9 hFc)
 have he0:(e:Rat)≠0:=by rcases he with rfl|rfl<;>decide
 have EF:ZP (fun k=>e*F k) hP.ends=QP.C (e:Rat)*ZP F eF:=QP.ex fun k=>by rw [QP.C_mul,j6,j6,Rat.intCast_mul]
 have toF:∀ x,Dv x (ZP (fun k=>e*F k) hP.ends) ↔ Dv x (ZP F eF):=fun x=>by
  rw [EF];exact ⟨fun k=>QP.Dv.scale he0 k,fun k=>k.mul_l _⟩
 refine ⟨_,hP,⟨fun e0=>?_,?_,?_,fun x hx k=>(key x hx).2 ((toF _).1 k)⟩⟩
 ·rw [EF] at e0
  exact QP.mul_ne (QP.C_dg he0).ne hF1 e0
 ·obtain ⟨N,hN⟩:=QP.ex_dg hα1
  refine ⟨N,?_⟩;have h1:Dv (ZP α ha.ends) (QP.pow (ZP (fun k=>e*F k) hP.ends) N):=QP.dvd_pow (fun x hx k=>(toF x).2 ((key x hx).1 k)) N _ hN (.refl _);rw [E1];exact (QP.C_dv sq _).trans h1
 rw [E1];have h1:Dv (ZP F eF) (ZP α ha.ends):=⟨ZP g hg.ends,by rw [QP.mul_comm',← oN hg.ends eF];exact NE _ _ hF⟩;refine QP.Dv.mul_l (QP.Dv.trans ?_ h1) _;rw [EF];exact QP.C_dv he0 _
def Ab (x B:Rat):Prop:=-B≤x∧x≤B
theorem Ab.nn {x B:Rat} (h:Ab x B):0≤B:=by unfold Ab at h;grind
theorem Ab.le {x A B:Rat} (h:Ab x A) (hl:A≤B):Ab x B:=by unfold Ab at *;grind
theorem Ab.add {x y A B:Rat} (h:Ab x A) (g:Ab y B):Ab (x+y) (A+B):=by unfold Ab at *;grind
theorem Ab.sub {x y A B:Rat} (h:Ab x A) (g:Ab y B):Ab (x - y) (A+B):=by unfold Ab at *;grind
theorem Ab.neg {x A:Rat} (h:Ab x A):Ab (-x) A:=by unfold Ab at *;grind
theorem Ab.mul {x y A B:Rat} (h:Ab x A) (g:Ab y B):Ab (x*y) (A*B):=by
 unfold Ab at *
 have h1:0≤A - x:=by grind
 have h2:0≤A+x:=by grind
 have h3:0≤B - y:=by grind
 have h4:0≤B+y:=by grind
 have p1:=Rat.mul_nonneg h1 h4;have p2:=Rat.mul_nonneg h2 h3;have p3:=Rat.mul_nonneg h1 h3;have p4:=Rat.mul_nonneg h2 h4
 constructor<;>grind
theorem Ab.self (x:Rat):∃ B,0≤B∧Ab x B:=by
 rcases Rat.le_total (a:=0) (b:=x) with h|h
 ·exact ⟨x,h,by unfold Ab;grind⟩
 exact ⟨-x,by grind,by unfold Ab;grind⟩
theorem Ab.pos {x:Rat} (h:0≤x):Ab x x:=by unfold Ab;grind
theorem yC {A B:Rat} (hA:0<A) (hB:0<B):∃ e,0<e∧e≤A∧e≤B:=by
 rcases Rat.le_total (a:=A) (b:=B) with h|h
 ·exact ⟨A,hA,Rat.le_refl,h⟩
 exact ⟨B,hB,h,Rat.le_refl⟩
theorem nR {K A:Rat} (hK:0≤K) (hA:0<A):∃ e,0<e∧K*e≤A:=by
 have h1:(0:Rat)<K+1:=by grind
 have hi:0<(K+1)⁻¹:=Rat.inv_pos.2 h1;refine ⟨A*(K+1)⁻¹,Rat.mul_pos hA hi,?_⟩;have e:(K+1)*(K+1)⁻¹=1:=Rat.mul_inv_cancel _ (by grind);have p:=Rat.mul_nonneg (Rat.le_of_lt hA) (Rat.le_of_lt hi)
 have:K*(A*(K+1)⁻¹)=A*((K+1)*(K+1)⁻¹) - A*(K+1)⁻¹:=by grind
 rw [this,e];grind
theorem EM {a b c d:Rat} (h:a≤b) (g:c≤d) (ha:0≤a) (hd:0≤d):a*c≤b*d :=
 Rat.le_trans (Rat.mul_le_mul_of_nonneg_left g ha) (Rat.mul_le_mul_of_nonneg_right h hd)
namespace QP
noncomputable def ev (a:QP) (x:Rat):Rat:=vl a.c x (Classical.choose a.fs)
theorem ev_vl {a:QP} {n:Nat} (h:∀ i,n≤i→a.c i=0) (x:Rat):a.ev x=vl a.c x n:=by
 have g:=Classical.choose_spec a.fs;unfold ev;rcases Nat.le_total n (Classical.choose a.fs) with k|k
 ·exact EV h k
 exact (EV g k).symm
theorem ev_add (a b:QP) (x:Rat):(a+b).ev x=a.ev x+b.ev x:=by
 obtain ⟨n,h⟩:=a.fs;obtain ⟨m,g⟩:=b.fs;rw [ev_vl (a:=a+b) (n:=max n m) (fun i hi=>by rw [add_c,h i (by omega),g i (by omega),Rat.add_zero]),ev_vl (a:=a) (n:=max n m) (fun i hi=>h i (by omega)),ev_vl (a:=b) (n:=max n m) (fun i hi=>g i (by omega))];exact eM_ a.c b.c x _
theorem ev_mul (a b:QP) (x:Rat):(a*b).ev x=a.ev x*b.ev x:=by
 obtain ⟨n,h⟩:=a.fs;obtain ⟨m,g⟩:=b.fs;rw [ev_vl (a:=a*b) (n:=n+m) (fun i hi=>lB h g i (by omega)),ev_vl h,ev_vl g];exact cp_ h g (Nat.le_refl _)
theorem ev_C (t x:Rat):(C t).ev x=t:=by
 rw [ev_vl (n:=1) (fun i hi=>by rw [C_c,if_neg (by omega)])];unfold vl;simp only [gN];rw [C_c,if_pos O,Rat.pow_zero,Rat.mul_one,Rat.zero_add]
def X:QP:=M 1 1
theorem a2_ (s:QP) (k:Nat):(X*s).c k=if 1≤k then s.c (k - 1) else 0:=by unfold X;rw [M8];split<;>simp [Rat.one_mul]
theorem dJ_ (x:Rat):X.ev x=x:=by
 rw [ev_vl (n:=2) (fun i hi=>by show (if i=1 then (1:Rat) else 0)=0;rw [if_neg (by omega)])];unfold vl;simp only [gN]
 show (0:Rat)+(if 0=1 then (1:Rat) else 0)*x ^ 0+(if 1=1 then (1:Rat) else 0)*x ^ 1=x
 rw [if_neg (by omega),if_pos O,Rat.pow_succ,Rat.pow_zero];grind
theorem ind {P:QP→Prop} (h0:P (C 0)) (h1:∀ t s,P s→P (C t+X*s)) (a:QP):P a:=by
 obtain ⟨n,h⟩:=a.fs
 induction n generalizing a with
 | zero=>rw [show a=C 0 from ex fun k=>by rw [h k (Nat.zero_le _),C0_c]];exact h0
 | succ n ih =>
  have e:a=C (a.c 0)+X*⟨fun k=>a.c (k+1),⟨n,fun i hi=>h _ (by omega)⟩⟩:=ex fun k=>by
   rw [add_c,a2_,C_c];rcases Nat.eq_zero_or_pos k with hk|hk
   ·subst hk;rw [if_pos O,if_neg (by omega),Rat.add_zero]
   rw [if_neg (by omega),if_pos (show 1≤k from hk),Rat.zero_add]
   show _=a.c (k - 1+1)
   rw [show k - 1+1=k by omega]
  rw [e];exact h1 _ _ (ih _ fun i hi=>h _ (by omega))
theorem NZ (t:Rat) (s:QP) (x:Rat):(C t+X*s).ev x=t+x*s.ev x:=by rw [ev_add,ev_mul,ev_C,dJ_]
theorem eS_ (a b:QP):D (a+b)=D a+D b:=ex fun k=>by rw [D_c,add_c,add_c,D_c,D_c,Rat.mul_add]
theorem D_C (t:Rat):D (C t)=C 0:=ex fun k=>by rw [D_c,C_c,if_neg (by omega),Rat.mul_zero,C0_c]
theorem D_X:D X=C 1:=ex fun k=>by
 rw [D_c,C_c]
 show ((k+1:Nat):Rat)*(if k+1=1 then (1:Rat) else 0)=_
 rcases Nat.eq_zero_or_pos k with hk|hk
 ·subst hk;rw [if_pos O,if_pos O,Rat.mul_one];rfl
 rw [if_neg (by omega),if_neg (by omega),Rat.mul_zero]
theorem gq_ (t:Rat) (s:QP) (x:Rat):(D (C t+X*s)).ev x=s.ev x+x*(D s).ev x:=by
 rw [eS_,D_C,y6,M5,D_X,nC,ev_add,ev_mul,dJ_]
theorem bd (M:Rat) (a:QP):∃ B,0≤B∧∀ x,Ab x M→Ab (a.ev x) B:=by
 refine ind (P:=fun a=>∃ B,0≤B∧∀ x,Ab x M→Ab (a.ev x) B) ⟨0,Rat.le_refl,fun x _=>by rw [ev_C];unfold Ab;grind⟩ (fun t s ⟨B,hB,h⟩=>?_) a;obtain ⟨T,hT,ht⟩:=Ab.self t
 by_cases hM:0≤M
 ·refine ⟨T+M*B,Rat.add_nonneg hT (Rat.mul_nonneg hM hB),fun x hx=>?_⟩
  rw [NZ];exact ht.add (hx.mul (h x hx))
 exact ⟨0,Rat.le_refl,fun x hx=>absurd hx.nn hM⟩
theorem lip (M:Rat) (a:QP):∃ K,0≤K∧∀ x y,Ab x M→Ab y M→x≤y→Ab (a.ev y - a.ev x) (K*(y - x)):=by
 refine ind (P:=fun a=>∃ K,0≤K∧∀ x y,Ab x M→Ab y M→x≤y→Ab (a.ev y - a.ev x) (K*(y - x))) ⟨0,Rat.le_refl,fun x y _ _ _=>by rw [ev_C,ev_C];unfold Ab;grind⟩ (fun t s ⟨K,hK,h⟩=>?_) a;obtain ⟨B,hB,hb⟩:=bd M s
 by_cases hM:0≤M
 ·refine ⟨M*K+B,Rat.add_nonneg (Rat.mul_nonneg hM hK) hB,fun x y hx hy hl=>?_⟩
  rw [NZ,NZ]
  have e:t+y*s.ev y - (t+x*s.ev x)=x*(s.ev y - s.ev x)+s.ev y*(y - x):=by grind
  have hd:Ab (y - x) (y - x):=Ab.pos (by grind);rw [e,show (M*K+B)*(y - x)=M*(K*(y - x))+B*(y - x) by grind];exact (hx.mul (h x y hx hy hl)).add ((hb y hy).mul hd)
 exact ⟨0,Rat.le_refl,fun x y hx=>absurd hx.nn hM⟩
theorem tay (M:Rat) (a:QP):∃ K,0≤K∧∀ x y,Ab x M→Ab y M→x≤y→Ab (a.ev y - a.ev x - (y - x)*(D a).ev x) (K*((y - x)*(y - x))):=by
 refine ind (P:=fun a=>∃ K,0≤K∧∀ x y,Ab x M→Ab y M→x≤y→Ab (a.ev y - a.ev x - (y - x)*(D a).ev x) (K*((y - x)*(y - x)))) ⟨0,Rat.le_refl,fun x y _ _ _=>by rw [ev_C,ev_C,D_C,ev_C];unfold Ab;grind⟩ (fun t s ⟨K,hK,h⟩=>?_) a;obtain ⟨B,hB,hb⟩:=lip M s
 by_cases hM:0≤M
 ·refine ⟨M*K+B,Rat.add_nonneg (Rat.mul_nonneg hM hK) hB,fun x y hx hy hl=>?_⟩
  rw [NZ,NZ,gq_]
  have e:t+y*s.ev y - (t+x*s.ev x) - (y - x)*(s.ev x+x*(D s).ev x)=x*(s.ev y - s.ev x - (y - x)*(D s).ev x)+(s.ev y - s.ev x)*(y - x):=by grind
  have hd:Ab (y - x) (y - x):=Ab.pos (by grind);rw [e,show (M*K+B)*((y - x)*(y - x))=M*(K*((y - x)*(y - x)))+B*(y - x)*(y - x) by grind];exact (hx.mul (h x y hx hy hl)).add ((hb x y hx hy hl).mul hd)
 exact ⟨0,Rat.le_refl,fun x y hx=>absurd hx.nn hM⟩
def Rb (c d:Rat) (f:QP):Prop:=∃ η,0<η∧((∀ x,c≤x→x≤d→η≤f.ev x) ∨ ∀ x,c≤x→x≤d→f.ev x ≤ -η)
theorem FR {M c d x:Rat} (hc:Ab c M) (hd:Ab d M) (h1:c≤x) (h2:x≤d):Ab x M:=by unfold Ab at *;grind
theorem ZJ (M:Rat) (f:QP) {ε:Rat} (hε:0<ε):∃ δ,0<δ∧∀ c d,Ab c M→Ab d M→c≤d→d - c≤δ→Rb c d f ∨ ∀ x,c≤x→x≤d→Ab (f.ev x) ε:=by
 obtain ⟨K,hK,hk⟩:=lip M f;obtain ⟨δ,hδ,h1⟩:=nR hK (A:=ε*(1 / 4)) (by grind);refine ⟨δ,hδ,fun c d hc hd hl hs=>?_⟩
 have hch:∀ x,c≤x→x≤d→Ab (f.ev x - f.ev c) (ε*(1 / 4)):=fun x h2 h3=>by
  refine (hk c x hc (FR hc hd h2 h3) h2).le (Rat.le_trans (Rat.mul_le_mul_of_nonneg_left (b:=δ) (by grind) hK) h1)
 by_cases a1:ε*(1 / 2)<f.ev c
 ·exact .inl ⟨ε*(1 / 4),by grind,.inl fun x h2 h3=>by have:=hch x h2 h3;unfold Ab at this;grind⟩
 by_cases a2:f.ev c < -(ε*(1 / 2))
 ·exact .inl ⟨ε*(1 / 4),by grind,.inr fun x h2 h3=>by have:=hch x h2 h3;unfold Ab at this;grind⟩
 exact .inr fun x h2 h3=>by have:=hch x h2 h3;unfold Ab at *;grind
inductive Chain:List QP→Prop
 | one (f:QP) (t:Rat) (h:t≠0):Chain [f,C t]
 | step (e f g q:QP) (l:List QP) (s t:Rat) (hs:0<s) (ht:0<t) (h:∀ x,s*e.ev x+t*g.ev x=q.ev x*f.ev x) (hc:Chain (f::g::l)):Chain (e::f::g::l)
theorem Chain.bez {L:List QP} (h:Chain L):∀ f g l,L=f::g::l→∃ u v:QP,∀ x,u.ev x*f.ev x+v.ev x*g.ev x=1:=by
 induction h with
 | one f t ht =>
  intro f' g' l' e
  injection e with e1 e2
  injection e2 with e2 e3
  subst e1 e2;refine ⟨C 0,C t⁻¹,fun x=>?_⟩;rw [ev_C,ev_C,ev_C,Rat.zero_mul,Rat.zero_add,Rat.inv_mul_cancel _ ht]
 | step e f g q l s t hs ht h hc ih =>
  intro f' g' l' e
  injection e with e1 e2
  injection e2 with e2 e3
  subst e1 e2;obtain ⟨u,v,huv⟩:=ih _ _ _ O;refine ⟨C (-(s*t⁻¹))*v,u+C t⁻¹*(v*q),fun x=>?_⟩;rw [ev_mul,ev_C,ev_add,ev_mul,ev_C,ev_mul];have h1:=h x;have h2:=huv x;have h3:t*t⁻¹=1:=Rat.mul_inv_cancel _ (by grind)
  grind
inductive G (c d:Rat):List QP→Prop
 | one {f:QP} (h:Rb c d f):G c d [f]
 | rob {f g:QP} {l:List QP} (h:Rb c d f) (hg:G c d (g::l)):G c d (f::g::l)
 | skip {f g h:QP} {l:List QP} (hf:(∀ x,c≤x→x≤d→0<f.ev x∧h.ev x<0) ∨ ∀ x,c≤x→x≤d→f.ev x<0∧0<h.ev x) (hr:Rb c d f) (hg:G c d (h::l)):G c d (f::g::h::l)
theorem G.head {c d:Rat} {f:QP} {l:List QP} (h:G c d (f::l)):Rb c d f:=by cases h<;>assumption
theorem low (M:Rat) {f g u v:QP} (h:∀ x,u.ev x*f.ev x+v.ev x*g.ev x=1):∃ ε η,0<ε∧0<η∧∀ x,Ab x M→Ab (f.ev x) ε→η≤g.ev x∨g.ev x ≤ -η:=by
 obtain ⟨U,hU,hu⟩:=bd M u;obtain ⟨V,hV,hv⟩:=bd M v;obtain ⟨ε,hε,h1⟩:=nR hU (A:=1 / 2) (by grind);obtain ⟨η,hη,h2⟩:=nR hV (A:=1 / 4) (by grind);refine ⟨ε,η,hε,hη,fun x hx hf=>?_⟩
 by_cases a:η≤g.ev x
 ·exact .inl a
 by_cases b:g.ev x ≤ -η
 ·exact .inr b
 exfalso
 have k1:=((hu x hx).mul hf).le h1;have k2:=((hv x hx).mul (show Ab (g.ev x) η by unfold Ab;grind)).le h2;have:=h x;unfold Ab at k1 k2
 grind
theorem XU {s a b:Rat} (hs:0<s) (h:s*a≤b):a≤s⁻¹*b:=by
 have h1:=Rat.mul_le_mul_of_nonneg_left h (Rat.le_of_lt (Rat.inv_pos.2 hs));have h2:s*s⁻¹=1:=Rat.mul_inv_cancel _ (by grind)
 have:s⁻¹*(s*a)=a:=by rw [← Rat.mul_assoc,Rat.mul_comm s⁻¹,h2,Rat.one_mul]
 grind
theorem loc (M:Rat) {L:List QP} (hL:Chain L):∀ f g l,L=f::g::l→∀ ε,0<ε→∃ δ,0<δ∧∀ c d,Ab c M→Ab d M→c≤d→d - c≤δ→G c d (f::g::l)∨((∀ x,c≤x→x≤d→Ab (f.ev x) ε)∧G c d (g::l)):=by
 induction hL with
 | one f t ht =>
  intro f' g' l' e ε hε
  injection e with e1 e2
  injection e2 with e2 e3
  subst e1 e2 e3;obtain ⟨δ,hδ,h⟩:=ZJ M f hε;refine ⟨δ,hδ,fun c d hc hd hl hs=>?_⟩
  have hr:Rb c d (C t):=by
   rcases Rat.le_total (a:=0) (b:=t) with h0|h0
   ·exact ⟨t,by grind,.inl fun x _ _=>by rw [ev_C];grind⟩
   exact ⟨-t,by grind,.inr fun x _ _=>by rw [ev_C];grind⟩
  rcases h c d hc hd hl hs with h1|h1
  ·exact .inl (.rob h1 (.one hr))
  exact .inr ⟨h1,.one hr⟩
 | step e f g q l s t hs ht h hc ih =>
  intro e' f' l' eq ε hε
  injection eq with e1 e2
  injection e2 with e2 e3
  subst e1 e2 e3;obtain ⟨u,v,huv⟩:=hc.bez _ _ _ O;obtain ⟨ε0,η,hε0,hη,hlow⟩:=low M huv;obtain ⟨Q,hQ,hq⟩:=bd M q;have htη:=Rat.mul_pos ht hη;obtain ⟨ε1,hε1,h1⟩:=nR hQ (A:=t*η*(1 / 2)) (by grind);obtain ⟨ε2,hε2,l0,l1⟩:=yC hε0 hε1;obtain ⟨δ1,hδ1,d1⟩:=ih f g l O ε2 hε2;obtain ⟨δ2,hδ2,d2⟩:=ZJ M e hε;obtain ⟨δ,hδ,m1,m2⟩:=yC hδ1 hδ2;refine ⟨δ,hδ,fun c d hc hd hl hsd=>?_⟩;rcases d1 c d hc hd hl (by grind) with g1|⟨g1,g2⟩
  ·rcases d2 c d hc hd hl (by grind) with k|k
   ·exact .inl (.rob k g1)
   exact .inr ⟨k,g1⟩
  left
  obtain ⟨η',hη',hg⟩:=g2.head;have key:∀ x,c≤x→x≤d→Ab (q.ev x*f.ev x) (t*η*(1 / 2)):=fun x a b =>
   ((hq x (FR hc hd a b)).mul ((g1 x a b).le l1)).le h1
  have hp:0<s⁻¹*(t*η*(1 / 2)):=Rat.mul_pos (Rat.inv_pos.2 hs) (by grind);have hlo:∀ x,c≤x→x≤d→η≤g.ev x∨g.ev x ≤ -η:=fun x a b=>hlow x (FR hc hd a b) ((g1 x a b).le l0);rcases hg with hg|hg
  ·have hge:∀ x,c≤x→x≤d→e.ev x ≤ -(s⁻¹*(t*η*(1 / 2))):=fun x a b=>by
    have h3:η≤g.ev x:=by have:=hlo x a b;have:=hg x a b;grind
    have h4:=Rat.mul_le_mul_of_nonneg_left h3 (Rat.le_of_lt ht);have h5:=key x a b;have h6:=h x;unfold Ab at h5;have h7:=XU hs (show s*e.ev x ≤ -(t*η*(1 / 2)) by grind)
    grind
   exact .skip (.inr fun x a b=>⟨by have:=hge x a b;grind,by have:=hg x a b;grind⟩) ⟨_,hp,.inr hge⟩ g2
  have hge:∀ x,c≤x→x≤d→s⁻¹*(t*η*(1 / 2))≤e.ev x:=fun x a b=>by
   have h3:g.ev x ≤ -η:=by have:=hlo x a b;have:=hg x a b;grind
   have h4:=Rat.mul_le_mul_of_nonneg_left h3 (Rat.le_of_lt ht);have h5:=key x a b;have h6:=h x;unfold Ab at h5;have h7:=XU hs (a:=-e.ev x) (show s * -e.ev x ≤ -(t*η*(1 / 2)) by grind)
   grind
  exact .skip (.inl fun x a b=>⟨by have:=hge x a b;grind,by have:=hg x a b;grind⟩) ⟨_,hp,.inl hge⟩ g2
def sg (x:Rat):Int:=if 0<x then 1 else if x<0 then -1 else 0
theorem GX {x:Rat} (h:0<x):sg x=1:=if_pos h
theorem GW {x:Rat} (h:x<0):sg x = -1:=by unfold sg;rw [if_neg (by grind),if_pos h]
theorem sg_zero:sg 0=0:=by unfold sg;rw [if_neg (by grind),if_neg (by grind)]
theorem xZ (x:Rat):sg x=1∧0<x∨sg x = -1∧x<0∨sg x=0∧x=0:=by
 by_cases a:0<x
 ·exact .inl ⟨GX a,a⟩
 by_cases b:x<0
 ·exact .inr (.inl ⟨GW b,b⟩)
 have:x=0:=by grind
 subst this;exact .inr (.inr ⟨sg_zero,rfl⟩)
def vr:Int→List Int→Nat
 | _,[]=>0
 | s,x::l=>if x=0 then vr s l else (if s≠0∧x≠s then 1 else 0)+vr x l
noncomputable def sgs (l:List QP) (x:Rat):List Int:=l.map fun f=>sg (f.ev x)
theorem Rb.sg {c d:Rat} {f:QP} (h:Rb c d f):∃ σ:Int,(σ=1∨σ = -1)∧∀ x,c≤x→x≤d→sg (f.ev x)=σ:=by
 obtain ⟨η,hη,h|h⟩:=h
 ·exact ⟨1,.inl O,fun x a b=>GX (by have:=h x a b;grind)⟩
 exact ⟨-1,.inr O,fun x a b=>GW (by have:=h x a b;grind)⟩
theorem da_ {σ γ:Int} (hσ:σ=1∨σ = -1) (hγ:γ=1∨γ = -1∨γ=0) (s:Int) (t:List Int):vr s (σ::γ :: -σ::t)=(if s≠0∧σ≠s then 1 else 0)+vr σ (-σ::t):=by
 rcases hσ with rfl|rfl<;>rcases hγ with rfl|rfl|rfl<;>simp [vr]
theorem ai_ (x:Rat):sg x=1∨sg x = -1∨sg x=0:=by rcases xZ x with h|h|h<;>simp [h.1]
theorem G.vr {c d:Rat} {L:List QP} (h:G c d L):∀ x y,c≤x→x≤d→c≤y→y≤d→∀ s,vr s (sgs L x)=vr s (sgs L y):=by
 induction h with
 | @one f h =>
  intro x y a b a' b' s;obtain ⟨σ,_,hs⟩:=h.sg;unfold sgs;rw [List.map_cons,List.map_cons,hs x a b,hs y a' b'];rfl
 | @rob f g l h hg ih =>
  intro x y a b a' b' s;obtain ⟨σ,h0,hs⟩:=h.sg;have e:∀ z,sgs (f::g::l) z=QP.sg (f.ev z)::sgs (g::l) z:=fun z=>rfl;rw [e,e,hs x a b,hs y a' b',QP.vr,QP.vr,ih x y a b a' b' s,ih x y a b a' b' σ]
 | @skip f g h l hf hr hg ih =>
  intro x y a b a' b' s;obtain ⟨σ,h0,hs⟩:=hr.sg;have e:∀ z,sgs (f::g::h::l) z=QP.sg (f.ev z)::QP.sg (g.ev z)::QP.sg (h.ev z)::sgs l z:=fun z=>rfl;have e':∀ z,sgs (h::l) z=QP.sg (h.ev z)::sgs l z:=fun z=>rfl
  have hm:∀ z,c≤z→z≤d→QP.sg (h.ev z) = -σ:=fun z p q=>by
   have h1:=hs z p q;rcases hf with hf|hf
   ·rw [GX (hf z p q).1] at h1
    rw [GW (hf z p q).2,← h1]
   rw [GW (hf z p q).1] at h1;rw [GX (hf z p q).2,← h1];rfl
  have i:=ih x y a b a' b' σ;rw [e',e',hm x a b,hm y a' b'] at i;rw [e,e,hs x a b,hs y a' b',hm x a b,hm y a' b',da_ h0 (ai_ _),da_ h0 (ai_ _),i]
noncomputable def V (L:List QP) (x:Rat):Nat:=vr 0 (sgs L x)
def Loc (f:QP) (L:List QP) (c d:Rat):Prop :=
 (Rb c d f∧V L c=V L d)∨(∃ W,(∀ x y,c≤x→x<y→y≤d→f.ev x<f.ev y)∧∀ x,c≤x→x≤d→V L x=(if f.ev x<0 then 1 else 0)+W) ∨
  ∃ W,(∀ x y,c≤x→x<y→y≤d→f.ev y<f.ev x)∧∀ x,c≤x→x≤d→V L x=(if 0<f.ev x then 1 else 0)+W
theorem bI_ {f g:QP} {l:List QP} (hc:Chain (f::g::l)) {κ:Rat} (hκ:0<κ) (hD:∀ x,g.ev x=κ*(D f).ev x) (M:Rat) :
  ∃ δ,0<δ∧∀ c d,Ab c M→Ab d M→c≤d→d - c≤δ→Loc f (f::g::l) c d:=by
 obtain ⟨u,v,huv⟩:=hc.bez _ _ _ O;obtain ⟨ε,η,hε,hη,hlow⟩:=low M huv;obtain ⟨δ1,hδ1,d1⟩:=loc M hc _ _ _ O ε hε;obtain ⟨K,hK,hk⟩:=tay M f;have hi:0<κ⁻¹:=Rat.inv_pos.2 hκ;have hiη:=Rat.mul_pos hi hη;obtain ⟨δ2,hδ2,d2⟩:=nR hK (A:=κ⁻¹*η*(1 / 2)) (by grind);obtain ⟨δ,hδ,m1,m2⟩:=yC hδ1 hδ2;refine ⟨δ,hδ,fun c d hc hd hl hs=>?_⟩;have hvx:∀ x,V (f::g::l) x=vr 0 (sg (f.ev x)::sgs (g::l) x):=fun x=>rfl;rcases d1 c d hc hd hl (by grind) with g1|⟨g1,g2⟩
 ·exact .inl ⟨g1.head,g1.vr c d Rat.le_refl hl hl Rat.le_refl 0⟩
 right
 have hlo:∀ x,c≤x→x≤d→η≤g.ev x∨g.ev x ≤ -η:=fun x a b=>hlow x (FR hc hd a b) (g1 x a b)
 have hst:∀ x y,c≤x→x<y→y≤d→Ab (f.ev y - f.ev x - (y - x)*(D f).ev x) ((y - x)*(κ⁻¹*η*(1 / 2))):=fun x y a b e=>by
  refine (hk x y (FR hc hd a (by grind)) (FR hc hd (by grind) e) (by grind)).le ?_;have h1:K*(y - x)≤κ⁻¹*η*(1 / 2):=Rat.le_trans (Rat.mul_le_mul_of_nonneg_left (b:=δ2) (by grind) hK) d2;have h2:=Rat.mul_le_mul_of_nonneg_left h1 (show (0:Rat)≤y - x by grind)
  grind
 have hκκ:κ*κ⁻¹=1:=Rat.mul_inv_cancel _ (by grind)
 have hDe:∀ x,(D f).ev x=κ⁻¹*g.ev x:=fun x=>by rw [hD x,← Rat.mul_assoc,Rat.mul_comm κ⁻¹,hκκ,Rat.one_mul]
 have key:=g2.vr;obtain ⟨η',hη',hg|hg⟩:=g2.head
 ·left
  refine ⟨vr 1 (sgs l c),fun x y a b e=>?_,fun x a b=>?_⟩
  ·have h3:η≤g.ev x:=by have:=hlo x a (by grind);have:=hg x a (by grind);grind
   have h4:=Rat.mul_le_mul_of_nonneg_left h3 (Rat.le_of_lt hi);have h5:=Rat.mul_le_mul_of_nonneg_left h4 (show (0:Rat)≤y - x by grind);have h6:=hst x y a b e;have h7:=Rat.mul_pos (show (0:Rat)<y - x by grind) hiη;rw [hDe] at h6;unfold Ab at h6
   grind
  have e1:∀ z,c≤z→z≤d→sgs (g::l) z=1::sgs l z:=fun z p q=>by
   show sg (g.ev z)::sgs l z=_
   rw [GX (by have:=hg z p q;grind)]
  have k:=key x c a b Rat.le_refl hl 0;rw [e1 x a b,e1 c Rat.le_refl hl] at k
  have k':vr 1 (sgs l x)=vr 1 (sgs l c):=by simpa [vr] using k
  rw [hvx,e1 x a b];rcases xZ (f.ev x) with h|h|h
  ·rw [h.1,if_neg (by grind)];simp [vr,k']
  ·rw [h.1,if_pos h.2];simp [vr,k']
  rw [h.1,if_neg (by grind)];simp [vr,k']
 right
 refine ⟨vr (-1) (sgs l c),fun x y a b e=>?_,fun x a b=>?_⟩
 ·have h3:g.ev x ≤ -η:=by have:=hlo x a (by grind);have:=hg x a (by grind);grind
  have h4:=Rat.mul_le_mul_of_nonneg_left h3 (Rat.le_of_lt hi);have h5:=Rat.mul_le_mul_of_nonneg_left h4 (show (0:Rat)≤y - x by grind);have h6:=hst x y a b e;have h7:=Rat.mul_pos (show (0:Rat)<y - x by grind) hiη;rw [hDe] at h6;unfold Ab at h6
  grind
 have e1:∀ z,c≤z→z≤d→sgs (g::l) z = -1::sgs l z:=fun z p q=>by
  show sg (g.ev z)::sgs l z=_
  rw [GW (by have:=hg z p q;grind)]
 have k:=key x c a b Rat.le_refl hl 0;rw [e1 x a b,e1 c Rat.le_refl hl] at k
 have k':vr (-1) (sgs l x)=vr (-1) (sgs l c):=by simpa [vr] using k
 rw [hvx,e1 x a b];rcases xZ (f.ev x) with h|h|h
 ·rw [h.1,if_pos h.2];simp [vr,k']
 ·rw [h.1,if_neg (by grind)];simp [vr,k']
 rw [h.1,if_neg (by grind)];simp [vr,k']
theorem d0_ (x:Rat):∃ N:Nat,x≤(N:Rat):=by
 refine ⟨x.ceil.toNat,Rat.le_trans Rat.le_ceil ?_⟩
 have h:x.ceil≤(x.ceil.toNat:Int):=by omega
 have:=Rat.intCast_le_intCast.2 h
 rwa [Rat.intCast_natCast] at this
theorem sub {P:Rat→Rat→Prop} {a b δ:Rat} (hδ:0<δ) (h1:∀ c d,a≤c→c<d→d≤b→d - c≤δ→P c d) (h2:∀ c m d,a≤c→c<m→m<d→d≤b→P c m→P m d→P c d) (hab:a<b):P a b:=by
 have h:∀ n:Nat,∀ c d,a≤c→c<d→d≤b→d - c≤δ*((2 ^ n:Nat):Rat)→P c d:=by
  intro n
  induction n with
  | zero=>intro c d a1 a2 a3 a4;exact h1 c d a1 a2 a3 (by rw [show ((2 ^ 0:Nat):Rat)=1 from rfl,Rat.mul_one] at a4;exact a4)
  | succ n ih =>
   intro c d a1 a2 a3 a4
   have e:((2 ^ (n+1):Nat):Rat)=((2 ^ n:Nat):Rat)*2:=by rw [Nat.pow_succ,Rat.natCast_mul];rfl
   rw [e] at a4;exact h2 c ((c+d)*(1 / 2)) d a1 (by grind) (by grind) a3 (ih _ _ a1 (by grind) (by grind) (by grind)) (ih _ _ (by grind) (by grind) a3 (by grind))
 obtain ⟨N,hN⟩:=d0_ ((b - a)*δ⁻¹);refine h N a b Rat.le_refl hab Rat.le_refl ?_;have h3:((N:Nat):Rat)≤((2 ^ N:Nat):Rat):=Rat.natCast_le_natCast.2 (Nat.le_of_lt Nat.lt_two_pow_self);have h4:=Rat.mul_le_mul_of_nonneg_left (Rat.le_trans hN h3) (Rat.le_of_lt hδ);have h5:δ*δ⁻¹=1:=Rat.mul_inv_cancel _ (by grind)
 have e:δ*((b - a)*δ⁻¹)=b - a:=by rw [Rat.mul_comm (b - a),← Rat.mul_assoc,h5,Rat.one_mul]
 rw [e] at h4;exact h4
theorem MN {f g:QP} {l:List QP} (hc:Chain (f::g::l)) {κ:Rat} (hκ:0<κ) (hD:∀ x,g.ev x=κ*(D f).ev x) {P:Rat→Rat→Prop} (h1:∀ c d,c<d→Loc f (f::g::l) c d→P c d) (h2:∀ c m d,c<m→m<d→P c m→P m d→P c d) {a b:Rat} (hab:a<b):P a b:=by
 obtain ⟨A,hA,ha⟩:=Ab.self a;obtain ⟨B,hB,hb⟩:=Ab.self b;obtain ⟨δ,hδ,h⟩:=bI_ hc hκ hD (A+B);refine sub hδ (fun c d a1 a2 a3 a4=>h1 c d a2 (h c d ?_ ?_ (by grind) a4)) (fun c m d _ a2 a3 _=>h2 c m d a2 a3) hab
 ·unfold Ab at *;grind
 unfold Ab at *;grind
theorem Rb.join {c m d:Rat} {f:QP} (h1:c≤m) (h2:m≤d) (a:Rb c m f) (b:Rb m d f):Rb c d f:=by
 obtain ⟨x,hx,a⟩:=a;obtain ⟨y,hy,b⟩:=b;obtain ⟨z,hz,zx,zy⟩:=yC hx hy;rcases a with a|a<;>rcases b with b|b
 ·exact ⟨z,hz,.inl fun t p q=>(Rat.le_total (a:=t) (b:=m)).elim (fun r=>by have:=a t p r;grind) (fun r=>by have:=b t r q;grind)⟩
 ·exfalso;have:=a m h1 Rat.le_refl;have:=b m Rat.le_refl h2;grind
 ·exfalso;have:=a m h1 Rat.le_refl;have:=b m Rat.le_refl h2;grind
 exact ⟨z,hz,.inr fun t p q=>(Rat.le_total (a:=t) (b:=m)).elim (fun r=>by have:=a t p r;grind) (fun r=>by have:=b t r q;grind)⟩
theorem JJ {f g:QP} {l:List QP} (hc:Chain (f::g::l)) {κ:Rat} (hκ:0<κ) (hD:∀ x,g.ev x=κ*(D f).ev x) {a b:Rat} (hab:a<b) :
  V (f::g::l) b≤V (f::g::l) a∧(V (f::g::l) a=V (f::g::l) b→f.ev b≠0∧(f.ev a≠0→Rb a b f)):=by
 refine MN hc hκ hD (P:=fun a b=>V (f::g::l) b≤V (f::g::l) a∧(V (f::g::l) a=V (f::g::l) b→f.ev b≠0∧(f.ev a≠0→Rb a b f))) (fun c d hl h=>?_) (fun c m d h1 h2 p q=>?_) hab
 ·have hl':c≤d:=by grind
  rcases h with ⟨h1,h2⟩|⟨W,h1,h2⟩|⟨W,h1,h2⟩
  ·refine ⟨by omega,fun _=>⟨?_,fun _=>h1⟩⟩
   obtain ⟨η,hη,h|h⟩:=h1
   ·have:=h d hl' Rat.le_refl;grind
   have:=h d hl' Rat.le_refl;grind
  ·have hcd:=h1 c d Rat.le_refl hl Rat.le_refl
   have hx:∀ x,c≤x→x≤d→f.ev c≤f.ev x∧f.ev x≤f.ev d:=fun x p q=>by
    constructor
    ·by_cases e:c=x
     ·subst e;exact Rat.le_refl
     exact Rat.le_of_lt (h1 c x Rat.le_refl (by grind) q)
    by_cases e:x=d
    ·subst e;exact Rat.le_refl
    exact Rat.le_of_lt (h1 x d p (by grind) Rat.le_refl)
   rw [h2 c Rat.le_refl hl',h2 d hl' Rat.le_refl]
   by_cases k1:f.ev d<0
   ·rw [if_pos k1,if_pos (by grind)]
    exact ⟨Nat.le_refl _,fun _=>⟨by grind,fun _=>⟨-f.ev d,by grind,.inr fun x p q=>by have:=hx x p q;grind⟩⟩⟩
   rw [if_neg k1]
   by_cases k2:f.ev c<0
   ·rw [if_pos k2];exact ⟨by omega,fun e=>by omega⟩
   rw [if_neg k2];exact ⟨Nat.le_refl _,fun _=>⟨by grind,fun k3=>⟨f.ev c,by grind,.inl fun x p q=>(hx x p q).1⟩⟩⟩
  have hcd:=h1 c d Rat.le_refl hl Rat.le_refl
  have hx:∀ x,c≤x→x≤d→f.ev x≤f.ev c∧f.ev d≤f.ev x:=fun x p q=>by
   constructor
   ·by_cases e:c=x
    ·subst e;exact Rat.le_refl
    exact Rat.le_of_lt (h1 c x Rat.le_refl (by grind) q)
   by_cases e:x=d
   ·subst e;exact Rat.le_refl
   exact Rat.le_of_lt (h1 x d p (by grind) Rat.le_refl)
  rw [h2 c Rat.le_refl hl',h2 d hl' Rat.le_refl]
  by_cases k1:0<f.ev d
  ·rw [if_pos k1,if_pos (by grind)]
   exact ⟨Nat.le_refl _,fun _=>⟨by grind,fun _=>⟨f.ev d,by grind,.inl fun x p q=>by have:=hx x p q;grind⟩⟩⟩
  rw [if_neg k1]
  by_cases k2:0<f.ev c
  ·rw [if_pos k2];exact ⟨by omega,fun e=>by omega⟩
  rw [if_neg k2];exact ⟨Nat.le_refl _,fun _=>⟨by grind,fun k3=>⟨-f.ev c,by grind,.inr fun x p q=>by have:=(hx x p q).1;grind⟩⟩⟩
 obtain ⟨p1,p2⟩:=p;obtain ⟨q1,q2⟩:=q;refine ⟨by omega,fun e=>?_⟩;have r1:=p2 (by omega);have r2:=q2 (by omega);exact ⟨r2.1,fun h=>(r1.2 h).join (by grind) (by grind) (r2.2 r1.1)⟩
def Aw (c d:Rat) (f:QP):Prop:=∃ θ,0<θ∧∀ x,c≤x→x≤d→θ≤f.ev x∨f.ev x ≤ -θ
section
variable {c d:Rat} {f g p w:QP}
theorem Rb.aw (h:Rb c d f):Aw c d f:=by
 obtain ⟨η,hη,h|h⟩:=h
 ·exact ⟨η,hη,fun x a b=>.inl (h x a b)⟩
 exact ⟨η,hη,fun x a b=>.inr (h x a b)⟩
theorem Aw.mul (h:Aw c d f) (k:Aw c d g):Aw c d (f*g):=by
 obtain ⟨s,hs,h⟩:=h;obtain ⟨t,ht,k⟩:=k;refine ⟨s*t,Rat.mul_pos hs ht,fun x a b=>?_⟩;rw [ev_mul];rcases h x a b with h|h<;>rcases k x a b with k|k
 ·left;exact EM h k (by grind) (by grind)
 ·right
  have:=EM h (show t ≤ -g.ev x by grind) (by grind) (by grind)
  grind
 ·right
  have:=EM (show s ≤ -f.ev x by grind) k (by grind) (by grind)
  grind
 left
 have:=EM (show s ≤ -f.ev x by grind) (show t ≤ -g.ev x by grind) (by grind) (by grind)
 grind
theorem Aw.left (h:Aw c d (p*w)):Aw c d p:=by
 obtain ⟨θ,hθ,h⟩:=h;obtain ⟨A,hA,ha⟩:=Ab.self c;obtain ⟨B,hB,hb⟩:=Ab.self d;obtain ⟨W,hW,hw⟩:=bd (A+B) w;obtain ⟨η,hη,h1⟩:=nR hW (A:=θ*(1 / 2)) (by grind);refine ⟨η,hη,fun x a b=>?_⟩
 by_cases k1:η≤p.ev x
 ·exact .inl k1
 by_cases k2:p.ev x ≤ -η
 ·exact .inr k2
 exfalso
 have k3:=(hw x (by unfold Ab at *;grind)).mul (show Ab (p.ev x) η by unfold Ab;grind);have k4:=h x a b;rw [ev_mul] at k4;unfold Ab at k3
 grind
theorem Aw.rb (h:Aw c d p) (hl:c≤d):Rb c d p:=by
 obtain ⟨θ,hθ,h⟩:=h
 by_cases hcd:c=d
 ·subst hcd
  rcases h c Rat.le_refl Rat.le_refl with k|k
  ·exact ⟨θ,hθ,.inl fun x a b=>by rw [show x=c by grind];exact k⟩
  exact ⟨θ,hθ,.inr fun x a b=>by rw [show x=c by grind];exact k⟩
 obtain ⟨A,hA,ha⟩:=Ab.self c;obtain ⟨B,hB,hb⟩:=Ab.self d;obtain ⟨δ,hδ,hn⟩:=ZJ (A+B) p (ε:=θ*(1 / 2)) (by grind);refine sub (P:=fun a b=>Rb a b p) hδ (fun a b h1 h2 h3 h4=>?_) (fun a m b _ h1 h2 _ p1 p2=>p1.join (by grind) (by grind) p2) (show c<d by grind);rcases hn a b (by unfold Ab at *;grind) (by unfold Ab at *;grind) (by grind) h4 with k|k
 ·exact k
 exfalso
 have k1:=k a Rat.le_refl (by grind);have k2:=h a h1 (by grind);unfold Ab at k1
 grind
theorem Aw.pow (h:Aw c d f):∀ n,Aw c d (pow f n)
 | 0=>⟨1,by decide,fun x _ _=>.inl (by show (1:Rat)≤(C 1).ev x;rw [ev_C];exact Rat.le_refl)⟩
 | n+1=>h.mul (Aw.pow h n)
theorem rb_dv (h:Rb c d f) (hl:c≤d) {n:Nat} (hd:Dv p (QP.pow f n)):Rb c d p:=by
 obtain ⟨w,hw⟩:=hd;have k:=h.aw.pow n;rw [hw] at k;exact k.left.rb hl
theorem rb_one {x:Rat} (h:f.ev x≠0):Rb x x f:=by
 rcases xZ (f.ev x) with k|k|k
 ·exact ⟨f.ev x,k.2,.inl fun y a b=>by rw [show y=x by grind];exact Rat.le_refl⟩
 ·exact ⟨-f.ev x,by have:=k.2;grind,.inr fun y a b=>by rw [show y=x by grind];grind⟩
 exact absurd k.2 h
theorem Rb.ne (h:Rb c d f) {x:Rat} (a:c≤x) (b:x≤d):f.ev x≠0:=by
 obtain ⟨η,hη,h|h⟩:=h
 ·have:=h x a b;grind
 have:=h x a b;grind
theorem Rb.pos (h:Rb c d f) {x y:Rat} (a:c≤x) (b:x≤d) (a':c≤y) (b':y≤d) (hp:0<f.ev x):0<f.ev y:=by
 obtain ⟨η,hη,h|h⟩:=h
 ·have:=h y a' b';grind
 have:=h x a b;grind
end
structure Sf (p f:QP) (L:List QP):Prop where
 anti:∀ a b,a≤b→V L b≤V L a
 eq:∀ a b,a<b→V L a=V L b→f.ev b≠0∧(f.ev a≠0→Rb a b f)
 dv:∃ n,Dv p (pow f n)
 z:∀ x,f.ev x=0→p.ev x=0
theorem Sf.of {p f g:QP} {l:List QP} (hc:Chain (f::g::l)) {κ:Rat} (hκ:0<κ) (hD:∀ x,g.ev x=κ*(D f).ev x) {n:Nat} (hd:Dv p (pow f n)) (hf:Dv f p):Sf p f (f::g::l) where
 anti a b h:=by
  by_cases e:a=b
  ·subst e;exact Nat.le_refl _
  exact (JJ hc hκ hD (show a<b by grind)).1
 eq a b h:=(JJ hc hκ hD h).2
 dv:=⟨n,hd⟩
 z x h:=by obtain ⟨w,rfl⟩:=hf;rw [ev_mul,h,Rat.zero_mul]
theorem V_one (f:QP) (x:Rat):V [f] x=0:=by
 show vr 0 [sg (f.ev x)]=0
 rcases ai_ (f.ev x) with h|h|h<;>rw [h]<;>simp [vr]
theorem Sf.one {p:QP} {t:Rat} (ht:t≠0) {n:Nat} (hd:Dv p (pow (C t) n)):Sf p (C t) [C t] where
 anti a b h:=by rw [V_one,V_one];exact Nat.le_refl _
 eq a b h _:=⟨by rw [ev_C];exact ht,fun _=>by
  rcases Rat.le_total (a:=0) (b:=t) with h0|h0
  ·exact ⟨t,by grind,.inl fun x _ _=>by rw [ev_C];grind⟩
  exact ⟨-t,by grind,.inr fun x _ _=>by rw [ev_C];grind⟩⟩
 dv:=⟨n,hd⟩
 z x h:=by rw [ev_C] at h;exact absurd h ht
section
variable {p f:QP} {L:List QP} {a b m:Rat}
theorem Sf.ne (h:Sf p f L) {x:Rat} (hx:f.ev x≠0):p.ev x≠0:=by
 obtain ⟨n,hd⟩:=h.dv;exact (rb_dv (rb_one hx) Rat.le_refl hd).ne Rat.le_refl Rat.le_refl
theorem Sf.pos (h:Sf p f L) (hab:a<b) (hV:V L a=V L b):p.ev b≠0∧(p.ev a≠0→Rb a b p):=by
 obtain ⟨n,hd⟩:=h.dv;obtain ⟨h1,h2⟩:=h.eq a b hab hV;exact ⟨h.ne h1,fun k=>rb_dv (h2 fun e=>k (h.z a e)) (by grind) hd⟩
end
theorem Rb.mono {c d c' d':Rat} {f:QP} (h:Rb c d f) (h1:c≤c') (h2:d'≤d):Rb c' d' f:=by
 obtain ⟨η,hη,h|h⟩:=h
 ·exact ⟨η,hη,.inl fun x a b=>h x (by grind) (by grind)⟩
 exact ⟨η,hη,.inr fun x a b=>h x (by grind) (by grind)⟩
theorem Q1 {f:QP} {c d η:Rat} (hη:0<η) (h:∀ x,c≤x→x≤d→η≤(D f).ev x) (hl:c<d):f.ev c<f.ev d:=by
 obtain ⟨A,hA,ha⟩:=Ab.self c;obtain ⟨B,hB,hb⟩:=Ab.self d
 have iA:∀ x,c≤x→x≤d→Ab x (A+B):=fun x p q=>by unfold Ab at ha hb ⊢;grind
 obtain ⟨K,hK,hk⟩:=tay (A+B) f;obtain ⟨δ,hδ,h1⟩:=nR hK (A:=η*(1 / 2)) (by grind);refine sub (P:=fun a b=>f.ev a<f.ev b) hδ (fun a b p q r s=>?_) (fun a m b _ _ _ _ p q=>by grind) hl;have k:=hk a b (iA a p (by grind)) (iA b (by grind) r) (by grind);have h2:K*(b - a)≤η*(1 / 2):=Rat.le_trans (Rat.mul_le_mul_of_nonneg_left (b:=δ) s hK) h1;have h3:=Rat.mul_le_mul_of_nonneg_left h2 (show (0:Rat)≤b - a by grind);have h4:=Rat.mul_le_mul_of_nonneg_left (h a p (by grind)) (show (0:Rat)≤b - a by grind);have h5:=Rat.mul_pos (show (0:Rat)<b - a by grind) hη;unfold Ab at k
 grind
theorem XN {f:QP} {c d η:Rat} (hη:0<η) (h:∀ x,c≤x→x≤d→(D f).ev x ≤ -η) (hl:c<d):f.ev d<f.ev c:=by
 have e:∀ x,(D (C (-1)*f)).ev x = -(D f).ev x:=fun x=>by rw [M5,D_C,y8,y6,ev_mul,ev_C];grind
 have:=Q1 (f:=C (-1)*f) hη (fun x a b=>by rw [e];have:=h x a b;grind) hl;rw [ev_mul,ev_mul,ev_C,ev_C] at this
 grind
section
variable {f g:QP} {l:List QP} {κ c d:Rat}
theorem RY (hc:Chain (f::g::l)) (hκ:0<κ) (hD:∀ x,g.ev x=κ*(D f).ev x) (hr:Rb c d (D f)) (hl:c<d) :
  V (f::g::l) c+(if f.ev d<0 then 1 else 0)=V (f::g::l) d+(if f.ev c<0 then 1 else 0)∨V (f::g::l) c+(if 0<f.ev d then 1 else 0)=V (f::g::l) d+(if 0<f.ev c then 1 else 0):=by
 obtain ⟨η,hη,hr|hr⟩:=hr
 ·left
  refine MN hc hκ hD (P:=fun c d=>(∀ x,c≤x→x≤d→η≤(D f).ev x)→V (f::g::l) c+(if f.ev d<0 then 1 else 0)=V (f::g::l) d+(if f.ev c<0 then 1 else 0)) (fun c d hl h hr=>?_) (fun c m d h1 h2 p q hr=>?_) hl hr
  ·have hcd:=Q1 hη hr hl
   rcases h with ⟨h1,h2⟩|⟨W,h1,h2⟩|⟨W,h1,h2⟩
   ·obtain ⟨e,he,h1|h1⟩:=h1
    ·have a:=h1 c Rat.le_refl (by grind);have b:=h1 d (by grind) Rat.le_refl
     rw [if_neg (by grind),if_neg (by grind),h2]
    have a:=h1 c Rat.le_refl (by grind);have b:=h1 d (by grind) Rat.le_refl;rw [if_pos (by grind),if_pos (by grind),h2]
   ·rw [h2 c Rat.le_refl (by grind),h2 d (by grind) Rat.le_refl];omega
   have:=h1 c d Rat.le_refl hl Rat.le_refl;grind
  have a:=p fun x a b=>hr x a (by grind);have b:=q fun x a b=>hr x (by grind) b;omega
 right
 refine MN hc hκ hD (P:=fun c d=>(∀ x,c≤x→x≤d→(D f).ev x ≤ -η)→V (f::g::l) c+(if 0<f.ev d then 1 else 0)=V (f::g::l) d+(if 0<f.ev c then 1 else 0)) (fun c d hl h hr=>?_) (fun c m d h1 h2 p q hr=>?_) hl hr
 ·have hcd:=XN hη hr hl
  rcases h with ⟨h1,h2⟩|⟨W,h1,h2⟩|⟨W,h1,h2⟩
  ·obtain ⟨e,he,h1|h1⟩:=h1
   ·have a:=h1 c Rat.le_refl (by grind);have b:=h1 d (by grind) Rat.le_refl
    rw [if_pos (by grind),if_pos (by grind),h2]
   have a:=h1 c Rat.le_refl (by grind);have b:=h1 d (by grind) Rat.le_refl;rw [if_neg (by grind),if_neg (by grind),h2]
  ·have:=h1 c d Rat.le_refl hl Rat.le_refl;grind
  rw [h2 c Rat.le_refl (by grind),h2 d (by grind) Rat.le_refl];omega
 have a:=p fun x a b=>hr x a (by grind);have b:=q fun x a b=>hr x (by grind) b;omega
def Two (f:QP) (L:List QP) (c d:Rat):Prop:=V L d+2≤V L c∨(V L d+1≤V L c∧f.ev c=0)
theorem two_nD (hc:Chain (f::g::l)) (hκ:0<κ) (hD:∀ x,g.ev x=κ*(D f).ev x) (hl:c<d) (h:Two f (f::g::l) c d):¬ Rb c d (D f):=fun hr=>by
 have k:=RY hc hκ hD hr hl;unfold Two at h;rcases h with h|⟨h,h0⟩
 ·rcases k with k|k<;>(repeat' split at k)<;>omega
 rw [h0] at k;rcases k with k|k
 ·rw [if_neg (show ¬ (0:Rat)<0 by grind)] at k;split at k<;>omega
 rw [if_neg (show ¬ (0:Rat)<0 by grind)] at k;split at k<;>omega
theorem st_rb (hc:Chain (f::g::l)) (hκ:0<κ) (hD:∀ x,g.ev x=κ*(D f).ev x) (hl:c<d) (hr:Rb c d f):V (f::g::l) c=V (f::g::l) d:=by
 refine MN hc hκ hD (P:=fun c d=>Rb c d f→V (f::g::l) c=V (f::g::l) d) (fun c d hl h hr=>?_) (fun c m d h1 h2 p q hr=>?_) hl hr
 ·rcases h with ⟨h1,h2⟩|⟨W,h1,h2⟩|⟨W,h1,h2⟩
  ·exact h2
  ·rw [h2 c Rat.le_refl (by grind),h2 d (by grind) Rat.le_refl]
   obtain ⟨e,he,hr|hr⟩:=hr
   ·have a:=hr c Rat.le_refl (by grind);have b:=hr d (by grind) Rat.le_refl
    rw [if_neg (by grind),if_neg (by grind)]
   have a:=hr c Rat.le_refl (by grind);have b:=hr d (by grind) Rat.le_refl;rw [if_pos (by grind),if_pos (by grind)]
  rw [h2 c Rat.le_refl (by grind),h2 d (by grind) Rat.le_refl];obtain ⟨e,he,hr|hr⟩:=hr
  ·have a:=hr c Rat.le_refl (by grind);have b:=hr d (by grind) Rat.le_refl
   rw [if_pos (by grind),if_pos (by grind)]
  have a:=hr c Rat.le_refl (by grind);have b:=hr d (by grind) Rat.le_refl;rw [if_neg (by grind),if_neg (by grind)]
 rw [p (hr.mono Rat.le_refl (by grind)),q (hr.mono (by grind) Rat.le_refl)]
theorem small_at {p:QP} (hl:c≤d) (h:¬ Rb c d p) {ε:Rat} (hε:0<ε):∃ z,c≤z∧z≤d∧Ab (p.ev z) ε:=by
 apply Classical.byContradiction
 intro hn;refine h (Aw.rb ⟨ε,hε,fun x a b=>?_⟩ hl)
 by_cases k1:ε≤p.ev x
 ·exact .inl k1
 by_cases k2:p.ev x ≤ -ε
 ·exact .inr k2
 exact absurd ⟨x,a,b,by unfold Ab;grind⟩ hn
end
structure Cub (f:QP) (a b c e:Int):Prop where
 v:∀ x,f.ev x=(a:Rat)*(x*x*x)+(b:Rat)*(x*x)+(c:Rat)*x+(e:Rat)
 d:∀ x,(D f).ev x=3*(a:Rat)*(x*x)+2*(b:Rat)*x+(c:Rat)
theorem SY {n:Int} (h:n≠0) {x:Rat} (hx:Ab ((n:Int):Rat) x):1≤x:=by
 unfold Ab at hx;rcases Int.lt_or_gt_of_ne h with k|k
 ·have:(n:Rat)≤((-1:Int):Rat):=Rat.intCast_le_intCast.2 (by omega)
  have e:((-1:Int):Rat) = -1:=rfl
  grind
 have:((1:Int):Rat)≤(n:Rat):=Rat.intCast_le_intCast.2 (by omega);have e:((1:Int):Rat)=1:=rfl
 grind
theorem Ab.int {n:Int} {B:Nat} (h:n.natAbs≤B):Ab (n:Rat) (B:Rat):=by
 constructor
 ·have:((-(B:Int):Int):Rat)≤(n:Rat):=Rat.intCast_le_intCast.2 (by omega)
  rwa [Rat.intCast_neg,Rat.intCast_natCast] at this
 have:(n:Rat)≤(((B:Int):Int):Rat):=Rat.intCast_le_intCast.2 (by omega)
 rwa [Rat.intCast_natCast] at this
section
variable {f:QP} {a b c e:Int}
def UW (a b c e:Int):Int:=b*b*c*c - 4*a*c*c*c - 4*b*b*b*e - 27*a*a*e*e+18*a*b*c*e
theorem bm_ (h:Cub f a b c e) (ha:a≠0) (hz:∀ x,¬ (f.ev x=0∧(D f).ev x=0)):UW a b c e≠0:=fun h0=>by
 have a0:(a:Rat)≠0:=fun e=>ha (Rat.intCast_eq_zero_iff.1 e)
 have hq:(b:Rat)*b*c*c - 4*a*c*c*c - 4*b*b*b*e - 27*a*a*e*e+18*a*b*c*e=0:=by
  have:((UW a b c e:Int):Rat)=0:=by rw [h0];rfl
  unfold UW at this;simp only [Rat.intCast_add,Rat.intCast_sub,Rat.intCast_mul] at this;exact this
 by_cases hp:6*(a:Rat)*c - 2*b*b=0
 ·-- a triple zero
  refine hz (-(b:Rat)*(3*(a:Rat))⁻¹) ⟨?_,?_⟩
  ·rw [h.v]
   have i:(3*(a:Rat))*(3*(a:Rat))⁻¹=1:=Rat.mul_inv_cancel _ (by grind);generalize (3*(a:Rat))⁻¹=v at *
   have hqq:9*(a:Rat)*e - b*c=0:=by
    have:(9*(a:Rat)*e - b*c)*(9*(a:Rat)*e - b*c)=0:=by grind
    rcases Rat.mul_eq_zero.1 this with k|k<;>exact k
   grind
  rw [h.d];have i:(3*(a:Rat))*(3*(a:Rat))⁻¹=1:=Rat.mul_inv_cancel _ (by grind);generalize (3*(a:Rat))⁻¹=v at *
  grind
 refine hz (-(9*(a:Rat)*e - b*c)*(6*(a:Rat)*c - 2*b*b)⁻¹) ?_;have i:(6*(a:Rat)*c - 2*b*b)*(6*(a:Rat)*c - 2*b*b)⁻¹=1:=Rat.mul_inv_cancel _ hp;have h1:=h.v (-(9*(a:Rat)*e - b*c)*(6*(a:Rat)*c - 2*b*b)⁻¹);have h2:=h.d (-(9*(a:Rat)*e - b*c)*(6*(a:Rat)*c - 2*b*b)⁻¹);generalize (6*(a:Rat)*c - 2*b*b)⁻¹=v at *
 have d0:(D f).ev (-(9*(a:Rat)*e - b*c)*v)=0:=by
  have key:(6*(a:Rat)*c - 2*b*b)*((6*(a:Rat)*c - 2*b*b)*(D f).ev (-(9*(a:Rat)*e - b*c)*v))=0:=by rw [h2];grind
  rcases Rat.mul_eq_zero.1 key with k|k
  ·exact absurd k hp
  rcases Rat.mul_eq_zero.1 k with k|k
  ·exact absurd k hp
  exact k
 refine ⟨?_,d0⟩
 have key:9*(a:Rat)*f.ev (-(9*(a:Rat)*e - b*c)*v)=0:=by rw [h1];rw [h2] at d0;grind
 rcases Rat.mul_eq_zero.1 key with k|k
 ·grind
 exact k
theorem Ab.sub_le {x y A:Rat} (h:Ab (x - y) A) {B:Rat} (g:Ab y B):Ab x (A+B):=by unfold Ab at *;grind
def sepC (B M:Rat):Rat:=(24*(B*B*B*M)+46*(B*B*B))*(B*(1+3*M))
theorem far3 (h:Cub f a b c e) (ha:a≠0) (hz:∀ x,¬ (f.ev x=0∧(D f).ev x=0)) {B M l r:Rat} (hB:0≤B) (hM:0≤M) (ba:Ab (a:Rat) B) (bb:Ab (b:Rat) B) (bc:Ab (c:Rat) B) (be:Ab (e:Rat) B) (hl:Ab l M) (hr:Ab r M) (hlr:l≤r)
  (h1:∀ ε:Rat,0<ε→∃ z,l≤z∧z≤r∧Ab ((D f).ev z) ε) (h2:∀ ε:Rat,0<ε→∃ w,l≤w∧w≤r∧Ab (f.ev w) ε):1≤sepC B M*((r - l)*(r - l)):=by
 have hd:=bm_ h ha hz;have a0:(a:Rat)≠0:=fun e=>ha (Rat.intCast_eq_zero_iff.1 e)
 have hid:∀ z:Rat,9*(a:Rat)*((UW a b c e:Int):Rat)=9*(a:Rat)*((3*a*(6*a*c - 2*b*b)*z+2*b*(6*a*c - 2*b*b) - 3*a*(9*a*e - b*c))*f.ev z) - ((6*a*c - 2*b*b)*(6*a*c - 2*b*b)+(3*a*(6*a*c - 2*b*b)*z+2*b*(6*a*c - 2*b*b) - 3*a*(9*a*e - b*c))*(3*a*z+b))*(D f).ev z:=fun z=>by
  rw [h.v,h.d];unfold UW;simp only [Rat.intCast_add,Rat.intCast_sub,Rat.intCast_mul];have e4:((4:Int):Rat)=4:=rfl;have e27:((27:Int):Rat)=27:=rfl;have e18:((18:Int):Rat)=18:=rfl;rw [e4,e27,e18]
  grind
 generalize hdd:UW a b c e=dd at *
 have bp:Ab (6*(a:Rat)*c - 2*b*b) (8*(B*B)):=by
  have k1:=ba.mul bc;have k2:=bb.mul bb;unfold Ab at *;grind
 have bq:Ab (9*(a:Rat)*e - b*c) (10*(B*B)):=by
  have k1:=ba.mul be;have k2:=bb.mul bc;unfold Ab at *;grind
 generalize hp:6*(a:Rat)*c - 2*b*b=p at *;generalize hq:9*(a:Rat)*e - b*c=q at *;have hin:∀ z,l≤z→z≤r→Ab z M:=fun z u v=>FR hl hr u v
 have bw:∀ z,l≤z→z≤r→Ab (3*a*p*z+2*b*p - 3*a*q) (24*(B*B*B*M)+46*(B*B*B)):=fun z u v=>by
  have k1:=(ba.mul bp).mul (hin z u v);have k2:=bb.mul bp;have k3:=ba.mul bq;unfold Ab at *;grind
 have bv:∃ V,0≤V∧∀ z,l≤z→z≤r→Ab (p*p+(3*a*p*z+2*b*p - 3*a*q)*(3*a*z+b)) V:=by
  have b3:∀ z,l≤z→z≤r→Ab (3*a*z+b) (3*(B*M)+B):=fun z u v=>by
   have k1:=ba.mul (hin z u v);unfold Ab at *;grind
  refine ⟨_,?_,fun z u v=>(bp.mul bp).add ((bw z u v).mul (b3 z u v))⟩;exact ((bp.mul bp).add ((bw l Rat.le_refl hlr).mul (b3 l Rat.le_refl hlr))).nn
 obtain ⟨V,hV,bv⟩:=bv;have hW:0≤24*(B*B*B*M)+46*(B*B*B):=(bw l Rat.le_refl hlr).nn;unfold sepC;generalize 24*(B*B*B*M)+46*(B*B*B)=W at *;have hK:0≤B*(1+3*M):=Rat.mul_nonneg hB (by grind);generalize hKe:B*(1+3*M)=K at *
 have hL:0≤r - l:=by grind
 -- the contrary jV b7_ for small numbers
 apply Classical.byContradiction
 intro hn
 have hgap:0<1 - W*K*((r - l)*(r - l)):=by grind
 obtain ⟨ε,hε,hs⟩:=nR (K:=W+W*(r - l)+V) (by have:=Rat.mul_nonneg hW hL;grind) (A:=(1 - W*K*((r - l)*(r - l)))*(1 / 2)) (by grind);obtain ⟨z,z1,z2,hz1⟩:=h1 ε hε;obtain ⟨w,w1,w2,hw1⟩:=h2 ε hε
 have hwz:Ab (w - z) (r - l):=by unfold Ab;grind
 have hfz:Ab (f.ev z) (ε+(r - l)*ε+(r - l)*(r - l)*K):=by
  have k1:f.ev z=f.ev w - (w - z)*(D f).ev z - (w - z)*(w - z)*(b+a*(w+2*z)):=by rw [h.v,h.v,h.d];grind
  have k2:Ab ((b:Rat)+a*(w+2*z)) K:=by
   have m1:=ba.mul (hin w w1 w2);have m2:=ba.mul (hin z z1 z2);rw [← hKe];unfold Ab at *;grind
  rw [k1];exact (hw1.sub (hwz.mul hz1)).sub ((hwz.mul hwz).mul k2)
 have k3:=(bw z z1 z2).mul hfz;have k4:=(bv z z1 z2).mul hz1;have k5:=hid z;generalize (3*a*p*z+2*b*p - 3*a*q)=ww at *;generalize p*p+ww*(3*a*z+b)=vv at *
 have k6:Ab (dd:Rat) (W*(ε+(r - l)*ε+(r - l)*(r - l)*K)+V*ε):=by
  have i:(9*(a:Rat))*(9*(a:Rat))⁻¹=1:=Rat.mul_inv_cancel _ (by grind)
  have k7:(dd:Rat)=ww*f.ev z - (9*(a:Rat))⁻¹*(vv*(D f).ev z):=by
   generalize (9*(a:Rat))⁻¹=ii at *
   have:(9*(a:Rat)*ii)*(dd:Rat)=(9*(a:Rat)*ii)*(ww*f.ev z) - ii*(vv*(D f).ev z):=by grind
   rw [i] at this
   grind
  have k8:Ab (9*(a:Rat))⁻¹ 1:=by
   rcases Int.lt_or_gt_of_ne ha with s|s
   ·have m:(a:Rat) ≤ -1:=by
     have:=Rat.intCast_le_intCast.2 (show a ≤ -1 by omega);exact this
    generalize (9*(a:Rat))⁻¹=ii at *;unfold Ab
    constructor
    ·apply Classical.byContradiction
     intro hc;have:=Rat.mul_le_mul_of_nonneg_left (a:=1) (b:=-ii) (c:=-(9*(a:Rat))) (by grind) (by grind)
     grind
    apply Classical.byContradiction
    intro hc;have:=Rat.mul_le_mul_of_nonneg_left (a:=1) (b:=ii) (c:=-(9*(a:Rat))) (by grind) (by grind)
    grind
   have m:1≤(a:Rat):=by
    have:=Rat.intCast_le_intCast.2 (show 1≤a by omega);exact this
   generalize (9*(a:Rat))⁻¹=ii at *;unfold Ab
   constructor
   ·apply Classical.byContradiction
    intro hc;have:=Rat.mul_le_mul_of_nonneg_left (a:=1) (b:=-ii) (c:=(9*(a:Rat))) (by grind) (by grind)
    grind
   apply Classical.byContradiction
   intro hc;have:=Rat.mul_le_mul_of_nonneg_left (a:=1) (b:=ii) (c:=(9*(a:Rat))) (by grind) (by grind)
   grind
  rw [k7];have:=k8.mul k4;rw [Rat.one_mul] at this;exact k3.sub this
 have k9:=SY hd k6
 grind
theorem far2 (h:Cub f 0 b c e) (hb:b≠0) (hz:∀ x,¬ (f.ev x=0∧(D f).ev x=0)) {B M l r:Rat} (hB:1≤B) (hM:0≤M) (bb:Ab (b:Rat) B) (hl:Ab l M) (hr:Ab r M) (hlr:l≤r)
  (h1:∀ ε:Rat,0<ε→∃ z,l≤z∧z≤r∧Ab ((D f).ev z) ε) (h2:∀ ε:Rat,0<ε→∃ w,l≤w∧w≤r∧Ab (f.ev w) ε):1≤4*B*B*((r - l)*(r - l)):=by
 have b0:(b:Rat)≠0:=fun e=>hb (Rat.intCast_eq_zero_iff.1 e);have z0:((0:Int):Rat)=0:=rfl
 have hid:∀ z:Rat,((c*c - 4*b*e:Int):Rat)=(D f).ev z*(D f).ev z - 4*b*f.ev z:=fun z=>by
  rw [h.v,h.d];simp only [Rat.intCast_add,Rat.intCast_sub,Rat.intCast_mul];have e4:((4:Int):Rat)=4:=rfl;rw [e4,z0]
  grind
 have hd:c*c - 4*b*e≠0:=fun hd=>by
  rw [hd,z0] at hid;have i:(2*(b:Rat))*(2*(b:Rat))⁻¹=1:=Rat.mul_inv_cancel _ (by grind);have hx:=hid (-(c:Rat)*(2*(b:Rat))⁻¹)
  have d0:(D f).ev (-(c:Rat)*(2*(b:Rat))⁻¹)=0:=by rw [h.d,z0];generalize (2*(b:Rat))⁻¹=ii at *;grind
  refine hz _ ⟨?_,d0⟩;rw [d0] at hx
  have:4*(b:Rat)*f.ev (-(c:Rat)*(2*(b:Rat))⁻¹)=0:=by grind
  rcases Rat.mul_eq_zero.1 this with k|k
  ·grind
  exact k
 generalize c*c - 4*b*e=dd at *
 have hL:0≤r - l:=by grind
 apply Classical.byContradiction
 intro hn;obtain ⟨ε,hε,hs⟩:=nR (K:=1+4*B+4*B*(r - l)) (by have:=Rat.mul_nonneg (show (0:Rat)≤4*B by grind) hL;grind) (A:=(1 - 4*B*B*((r - l)*(r - l)))*(1 / 2)) (by grind);obtain ⟨ε',hε',hs1,hs2⟩:=yC hε (show (0:Rat)<1 by decide);obtain ⟨z,z1,z2,hz1⟩:=h1 ε' hε';obtain ⟨w,w1,w2,hw1⟩:=h2 ε' hε'
 have hwz:Ab (w - z) (r - l):=by unfold Ab;grind
 have hfz:Ab (f.ev z) (ε'+(r - l)*ε'+(r - l)*(r - l)*B):=by
  have k1:f.ev z=f.ev w - (w - z)*(D f).ev z - (w - z)*(w - z)*b:=by rw [h.v,h.v,h.d,z0];grind
  rw [k1];exact (hw1.sub (hwz.mul hz1)).sub ((hwz.mul hwz).mul bb)
 have k3:=bb.mul hfz;have k4:=hz1.mul hz1;have k5:=hid z
 have k6:Ab (dd:Rat) (ε'*ε'+4*(B*(ε'+(r - l)*ε'+(r - l)*(r - l)*B))):=by
  rw [k5];unfold Ab at *;grind
 have k9:=SY hd k6;have k10:=Rat.mul_le_mul_of_nonneg_left hs2 (Rat.le_of_lt hε');have k11:=Rat.mul_le_mul_of_nonneg_left hs1 (show (0:Rat)≤1+4*B+4*B*(r - l) by have:=Rat.mul_nonneg (show (0:Rat)≤4*B by grind) hL;grind)
 grind
end
end QP
end Go.Num
