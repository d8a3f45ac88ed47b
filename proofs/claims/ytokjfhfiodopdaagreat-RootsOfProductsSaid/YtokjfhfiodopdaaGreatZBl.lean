/- Lemmas: what they ask stands in their statements. -/
import Derived.Test.YtokjfhfiodopdaaGreatZAt
import Derived.ChangeArms
set_option linter.unusedSimpArgs false
set_option linter.unusedVariables false
namespace Go.Num
open Go Go.Kn
open QP (V Fp lf Aw Rb Sf Dv)
theorem da_ {p:List I} {L:List (List I)} (h:St p L) {u v:Rat} (huv:u<v) (hin:∀ c d,u<c→c≤d→d<v→Aw c d (qp p)) :
  V (L.map qp) u=V (L.map qp) v+(if (qp p).ev v=0 then 1 else 0):=by
 obtain ⟨f,l,⟨e1,e2⟩,hR,hS,hl⟩:=h.s;have hiff:(qp p).ev v=0 ↔ (qp f).ev v=0:=⟨fun e=>Classical.byContradiction fun hf=>hS.ne hf e,fun e=>hS.z v e⟩;rcases hl with hl|⟨g,l',κ,hg,hc,hκ,hD⟩
 ·subst hl
  have hv:∀ x,V (L.map qp) x=0:=fun x=>by
   have:=ex_ (qp f) [] x;rw [e1];exact Nat.le_zero.1 this
  have:=hS.eq u v huv (by rw [hv,hv]);rw [if_neg (fun e=>this.1 (hiff.1 e)),hv,hv]
 rw [e1,hg] at hc ⊢;simp only [List.map_cons] at hc ⊢;obtain ⟨w,hw⟩:=hR.dv
 have hz:∀ x,¬ ((qp f).ev x=0∧(QP.D (qp f)).ev x=0):=fun x ⟨h1,h2⟩=>by
  obtain ⟨s,t,hst⟩:=hc.bez _ _ _ O;have:=hst x;rw [h1,hD,h2,Rat.mul_zero,Rat.mul_zero,Rat.mul_zero] at this
  have:(0:Rat)=1:=by rw [← this];grind
  exact absurd this dd_
 have:=QP.cnt hc hκ hD hz huv (fun c d a b e=>by
  have k:=hin c d a b e;rw [hw] at k
  exact (k.left).rb b)
 rw [this];simp only [hiff]
theorem aX_ {l:List Int} {f:QP} (h:Fp l f) {n:Int} {v:Rat} (hv:8*v=(n:Rat)):f.ev v=0 ↔ n∈l:=by
 refine ⟨fun e=>Classical.byContradiction fun hn=>?_,fun hn=>h.zero hn hv⟩
 obtain ⟨θ,t0,ht⟩:=h.aw (c:=v) (d:=v) Rat.le_refl fun m hm=>by
  rw [hv];rcases (show m<n∨n<m∨m=n by omega) with k|k|k
  ·exact .inl (Rat.intCast_lt_intCast.2 k)
  ·exact .inr (Rat.intCast_lt_intCast.2 k)
  subst k;exact absurd hm hn
 rcases ht v Rat.le_refl Rat.le_refl with k|k<;>rw [e] at k<;>grind
theorem WJ {p:List I} {L:List (List I)} {l:List Int} (h:St p L) (hF:Fp l (qp p)) {n:Int} {u v:Rat} (hu:8*u=((n - 1:Int):Rat)) (hv:8*v=(n:Rat)) :
  V (L.map qp) u=V (L.map qp) v+(if n∈l then 1 else 0):=by
 have e1:((n - 1:Int):Rat)=(n:Rat) - 1:=by rw [Rat.intCast_sub];rfl
 rw [da_ h (show u<v by grind) fun c d a b e=>hF.aw b fun m _=>QP.int_gap (k:=n - 1) (by grind) (by rw [show n - 1+1=n by omega];grind)];simp only [aX_ hF hv]
theorem Pr9.one {x:W} (hx:x=wl 1∨x=wl (-1)):Pr9 (aK [x]) [] 1 1:=by
 have h1:x.1=1∨x.1 = -1:=by rcases hx with rfl|rfl<;>decide
 have hp:Po (aK [x]) (lin x.1 0):=by
  have e:aK [x]=bE [E (Z.of x.1)]:=by rcases hx with rfl|rfl<;>kernel_rfl
  rw [e];exact YU (n4 (v:=x.1) (k:=8) (by rcases h1 with e|e<;>rw [e]<;>decide) dd_)
 refine ⟨_,hp,⟨fun k hk=>?_,fun k=>?_⟩,?_⟩
 ·unfold lin;rw [if_neg oo_,ite_self]
 ·unfold lin;split
  ·rcases h1 with e|e<;>rw [e]<;>decide
  split<;>decide
 have e:qp (aK [x])=QP.C (x.1:Rat):=by
  rw [oZ hp hp.ends];refine QP.ex fun k=>?_;rw [kU,QP.C_c];unfold lin
  by_cases h0:k=0
  ·rw [if_pos h0,if_pos h0]
  rw [if_neg h0,if_neg h0,ite_self];rfl
 rw [e];refine .one _ ?_;rcases h1 with e|e<;>rw [e]<;>decide
theorem Pr9.wide:Pr9 (aK [wl 1,wl 0,wl 1]) [] 3 1:=by
 have hp:Po (aK [wl 1,wl 0,wl 1]) (fun k=>if k=0 then 1 else if k=2 then 1 else 0):=by
  have h:=GR (n:=3) (c:=fun k=>if k=0 then 1 else if k=2 then 1 else 0) (f:=fun k=>E (Z.of (if k=0 then 1 else if k=2 then 1 else 0))) (fun k hk=>rfl) (fun k hk=>by rw [if_neg oo_,if_neg oo_]) (fun k=>by
   by_cases h0:k=0
   ·subst h0;exact n4 (v:=1) (k:=8) dd_ dd_
   by_cases h2:k=2
   ·subst h2;exact n4 (v:=1) (k:=8) dd_ dd_
   simp only [if_neg h0,if_neg h2];exact B0) (fun k hk=>by rw [if_neg oo_,if_neg oo_])
  have e:aK [wl 1,wl 0,wl 1]=mkP ((List.range 3).map fun k=>E (Z.of (if k=0 then 1 else if k=2 then 1 else 0))):=by kernel_rfl
  rw [e];exact h
 refine ⟨_,hp,⟨fun k hk=>by rw [if_neg oo_,if_neg oo_],fun k=>?_⟩,?_⟩
 ·split
  ·decide
  split<;>decide
 have e:qp (aK [wl 1,wl 0,wl 1])=QP.C 1+QP.X*QP.X:=by
  rw [oZ hp hp.ends];refine QP.ex fun k=>?_;rw [kU,QP.add_c,QP.C_c,QP.X_mul_c]
  have hX:QP.X.c (k - 1)=if k - 1=1 then 1 else 0:=rfl
  rw [hX]
  by_cases h0:k=0
  ·subst h0
   rw [if_pos O,if_pos O,if_neg dd_,Rat.add_zero];rfl
  rw [if_neg h0,if_neg h0]
  by_cases h2:k=2
  ·subst h2
   rw [if_pos O,if_pos dd_,if_pos O,Rat.zero_add];rfl
  rw [if_neg h2,if_neg (show ¬ k - 1=1 by omega),ite_self,Rat.add_zero];rfl
 rw [e];exact .wide
open QP (V Rb Two NN sg Sf)
section
variable {p:List I} {c:Nat→Int} {x:Rt} {D:Int}
end
theorem XR (c:Nat→Int) (N D:Int) (L:Nat):∀ t:Nat,∃ k:Int,Go.Num.hv c N D L (t+1)=c (L - 1)*N ^ t+D*k
 | 0=>⟨0,by rw [Go.Num.hv,Go.Num.hv,Int.pow_zero,Int.pow_zero];simp⟩
 | t+1=>by
  obtain ⟨k,hk⟩:=XR c N D L t;refine ⟨k*N+c (L - 1 - (t+1))*D ^ t,?_⟩;rw [Go.Num.hv,hk,Int.pow_succ,Int.pow_succ]
  grind
theorem ZH {p:List I} {c:Nat→Int} {q:Rat} (h:Po p c) (h0:p≠[]) (hz:(qp p).ev q=0):(q.den:Int) ∣ c (p.length - 1):=by
 have hl:1≤p.length:=List.length_pos_iff.2 h0;have hp:=@mY q;have ht:=PX (c:=c) (L:=p.length) (N:=q.num) (D:=(q.den:Int)) E3 hp;rw [ci_ h] at hz;rw [hz,Rat.mul_zero] at ht;have ht:Go.Num.hv c q.num (q.den:Int) p.length p.length=0:=Rat.intCast_eq_zero_iff.1 ht;obtain ⟨k,hk⟩:=XR c q.num (q.den:Int) p.length (p.length - 1);rw [show p.length - 1+1=p.length by omega,ht] at hk;have hd:(q.den:Int) ∣ c (p.length - 1)*q.num ^ (p.length - 1):=⟨-k,by rw [Int.mul_neg];omega⟩;have hn:=Int.natAbs_dvd_natAbs.2 hd;rw [Int.natAbs_mul,Int.natAbs_pow,Int.natAbs_natCast] at hn;have hco:Nat.Coprime q.den (q.num.natAbs ^ (p.length - 1)):=Nat.Coprime.pow_right _ q.reduced.symm;have:=hco.dvd_of_dvd_mul_right hn;exact Int.natAbs_dvd_natAbs.1 (by rw [Int.natAbs_natCast];exact this)
open Go Go.Kn
open QP (V Rb Two NN sg Sf)
theorem gs_ {p:List I} (hp:p.length≤1000) (x:Rt):(eA p x).s=(aF p x).1:=by rw [VI hp]
structure Nq (p:List I) (c:Nat→Int) (A B:Rat):Prop where
 po:Po p c
 ne:p≠[]
 b:∀ k,(c k).natAbs≤2 ^ 64
 ok:(aH p).2=true
 w:B - A≤(((2 ^ 121:Nat):Int):Rat)
 le:A≤B
theorem Nq.st {p:List I} {c:Nat→Int} {A B:Rat} (h:Nq p c A B):St p (aH p).1:=(yK h.po.rgt h.ok).resolve_left h.ne
theorem Nq.den {p:List I} {c:Nat→Int} {A B:Rat} (h:Nq p c A B) {q:Rat} (hz:(qp p).ev q=0):q.den≤2 ^ 64:=by
 have hd:=ZH h.po h.ne hz;obtain ⟨n,n1,n2,_⟩:=h.po.top h.ne;rw [n1,show n+1 - 1=n by omega] at hd;have h1:=Int.natAbs_dvd_natAbs.2 hd;rw [Int.natAbs_natCast] at h1;exact Nat.le_trans (Nat.le_of_dvd oo_ h1) (h.b n)
open QP (V Fp lf Aw Rb Sf Dv)
theorem SE {q:Rat} {n d:Int} (h:(n:Rat)=(d:Rat)*q):q.num*d=n*q.den:=by
 have h1:=Rat.num_divInt_den q;have hd:=@mY q
 by_cases h0:d=0
 ·subst h0
  have:n=0:=Rat.intCast_eq_zero_iff.1 (by rw [h];exact Rat.zero_mul _);rw [this];omega
 have e:q=Rat.divInt n d:=by
  rw [Rat.divInt_eq_div,h,Rat.div_def,Rat.mul_comm,← Rat.mul_assoc,Rat.inv_mul_cancel _ (fun e=>h0 (Rat.intCast_eq_zero_iff.1 e)),Rat.one_mul]
 rw [e] at h1
 conv at h1=>lhs;rw [← e]
 exact (Rat.divInt_eq_divInt_iff oo_ h0).1 h1
noncomputable def SF (P:Prop):Int:=@ite Int P (Classical.propDecidable P) 1 0
theorem EG {P:Prop} (h:P):SF P=1:=@if_pos P (Classical.propDecidable P) h Int 1 0
theorem EE {P:Prop} (h:¬P):SF P=0:=@if_neg P (Classical.propDecidable P) h Int 1 0
def Zr (z:Zero9):Prop:=(-128≤z.n∧z.n≤127)∧(-128≤z.times∧z.times≤127)
section
variable {l:List Zero9} {neg wide:Bool}
theorem cf_ (p:List I) (k:Nat) (hz:Zr (l.getD k cO)) {T:Nat} (hT:(bA (l.getD k cO)).1=(T:Int)):∀ (f:Nat) (q:List I) (i:Nat) (zs:List Int) (n b:Nat),Pr9 q zs n b→i≤T→T - i<f→n+(T - i)≤16→b+12*(T - i)≤512 →
  ∃ zs',Pr9 (bL l neg wide p k f q i).1 zs' (n+(T - i)) (b+12*(T - i))∧∀ m,m∈zs' ↔ m∈zs∨(m=(l.getD k cO).n∧i<T)
 | 0,_,_,_,_,_,_,_,hf,_,_=>absurd hf (Nat.not_lt_zero _)
 | f+1,q,i,zs,n,b,hq,hi,hf,hn,hb=>by
  unfold bL;rw [hT]
  by_cases h:i<T
  ·rw [decide_eq_true oo_,cond_true]
   have hs:=hq.step hz.1 oo_ oo_;obtain ⟨zs',h1,h2⟩:=cf_ p k hz hT f _ (i+1) _ (n+1) (b+12) hs oo_ oo_ oo_ oo_;refine ⟨zs',?_,fun m=>?_⟩
   ·rw [show n+(T - i)=n+1+(T - (i+1)) by omega,show b+12*(T - i)=b+12+12*(T - (i+1)) by omega]
    exact h1
   rw [h2,List.mem_cons]
   constructor
   ·rintro ((e|e)|e)
    ·exact .inr ⟨e,h⟩
    ·exact .inl e
    exact .inr ⟨e.1,h⟩
   rintro (e|e)
   ·exact .inl (.inr e)
   exact .inl (.inl e.1)
  rw [decide_eq_false oo_,cond_false]
  have e:T - i=0:=by omega
  rw [e];exact ⟨zs,hq,fun m=>⟨.inl,fun e=>e.elim id fun e=>absurd e.2 h⟩⟩
theorem cg_ (hz:∀ k,Zr (l.getD k cO)) (hl:l.length≤3):∀ (f:Nat) (p:List I) (k:Nat) (zs:List Int) (n b:Nat),Pr9 p zs n b→k≤l.length→l.length - k<f→n+3*(l.length - k)≤16→b+36*(l.length - k)≤512 →
  ∃ zs',Pr9 (bC l neg wide f p k).1 zs' (n+3*(l.length - k)) (b+36*(l.length - k))∧∀ m,m∈zs' ↔ m∈zs ∨ ∃ j,k≤j∧j<l.length∧(l.getD j cO).n=m
 | 0,_,_,_,_,_,_,_,hf,_,_=>absurd hf (Nat.not_lt_zero _)
 | f+1,p,k,zs,n,b,hp,hk,hf,hn,hb=>by
  unfold bC
  by_cases h:k<l.length
  ·rw [decide_eq_true oo_,cond_true]
   have ht:=U4 (l.getD k cO) (hz k).2;obtain ⟨T,hT⟩:∃ T:Nat,(bA (l.getD k cO)).1=(T:Int):=⟨(bA (l.getD k cO)).1.toNat,by omega⟩;obtain ⟨zs1,a1,a2⟩:=cf_ (neg:=neg) (wide:=wide) p k (hz k) hT ((bA (l.getD k cO)).1.toNat+1) p 0 zs n b hp (Nat.zero_le _) oo_ oo_ oo_;simp only [ap]
   obtain ⟨zs',b1,b2⟩:=cg_ hz hl f _ (k+1) zs1 (n+3) (b+36) (by
    obtain ⟨c,hc,bd,hF⟩:=a1
    exact ⟨c,hc,bd.mono oo_ oo_,hF⟩) oo_ oo_ oo_ oo_
   refine ⟨zs',?_,fun m=>?_⟩
   ·rw [show n+3*(l.length - k)=n+3+3*(l.length - (k+1)) by omega,show b+36*(l.length - k)=b+36+36*(l.length - (k+1)) by omega]
    exact b1
   rw [b2,a2]
   constructor
   ·rintro ((e|e)|⟨j,j1,j2,j3⟩)
    ·exact .inl e
    ·exact .inr ⟨k,Nat.le_refl _,h,e.1.symm⟩
    exact .inr ⟨j,by omega,j2,j3⟩
   rintro (e|⟨j,j1,j2,j3⟩)
   ·exact .inl (.inl e)
   by_cases e:j=k
   ·subst e;exact .inl (.inr ⟨j3.symm,by omega⟩)
   exact .inr ⟨j,by omega,j2,j3⟩
  rw [decide_eq_false oo_,cond_false]
  have e:l.length - k=0:=by omega
  rw [e];exact ⟨zs,hp,fun m=>⟨.inl,fun e=>e.elim id fun ⟨j,j1,j2,_⟩=>absurd j2 oo_⟩⟩
def Zin (l:List Zero9) (m:Int):Prop:=∃ j,j<l.length∧(l.getD j cO).n=m
theorem QK (hz:∀ k,Zr (l.getD k cO)) (hl:l.length≤3):∃ zs,Pr9 (aP l neg wide) zs 12 110∧∀ m,m∈zs ↔ Zin l m:=by
 have go:∀ p n b,Pr9 p [] n b→n≤3→b≤1→∃ zs,Pr9 (bC l neg wide (l.length+1) p 0).1 zs 12 110∧∀ m,m∈zs ↔ Zin l m:=fun p n b hp hn hb=>by
  obtain ⟨zs,h1,h2⟩:=cg_ (neg:=neg) (wide:=wide) hz hl (l.length+1) p 0 [] n b hp (Nat.zero_le _) oo_ oo_ oo_;refine ⟨zs,?_,fun m=>?_⟩
  ·obtain ⟨c,hc,bd,hF⟩:=h1
   exact ⟨c,hc,bd.mono oo_ oo_,hF⟩
  rw [h2]
  constructor
  ·rintro (e|⟨j,_,j2,j3⟩)
   ·cases e
   exact ⟨j,j2,j3⟩
  rintro ⟨j,j2,j3⟩;exact .inr ⟨j,Nat.zero_le _,j2,j3⟩
 unfold aP
 cases neg<;>cases wide<;>simp only [cond_true,cond_false,ap]
 ·exact go _ 1 1 (Pr9.one (.inl O)) dd_ dd_
 ·exact go _ 3 1 Pr9.wide dd_ dd_
 ·exact go _ 1 1 (Pr9.one (.inr O)) dd_ dd_
 exact go _ 3 1 Pr9.wide dd_ dd_
theorem cz_ (a b:Int) (x y:Rt) (want n:W) (hz:∀ k,Zr (l.getD k cO)):∀ (f:Nat) (wn:W) (k:Nat),l.length - k<f→0≤wn.1→wn.1≤500 →
  ((dL l neg wide a b x y want n x y f wn k).1).1=wn.1+SF (∃ j,k≤j∧j<l.length∧(l.getD j cO).n=n.1)
 | 0,_,_,hf,_,_=>absurd hf (Nat.not_lt_zero _)
 | f+1,wn,k,hf,h0,h1=>by
  unfold dL
  by_cases h:k<l.length
  ·rw [decide_eq_true oo_,cond_true,cv8 (hz k).1]
   by_cases e:(l.getD k cO).n=n.1
   ·rw [show ((l.getD k cO).n==n.1)=true by simpa using e,cond_true,EG ⟨k,Nat.le_refl _,h,e⟩]
    show (W.add wn (wl 1)).1=_
    exact TL O ⟨by show -1000≤wn.1+1;omega,by show wn.1+1≤1000;omega⟩
   rw [show ((l.getD k cO).n==n.1)=false by simpa using e,cond_false,cz_ a b x y want n hz f wn (k+1) oo_ h0 h1]
   congr 1
   by_cases hx:∃ j,k+1≤j∧j<l.length∧(l.getD j cO).n=n.1
   ·rw [EG hx,EG]
    obtain ⟨j,j1,j2,j3⟩:=hx;exact ⟨j,by omega,j2,j3⟩
   rw [EE hx,EE];rintro ⟨j,j1,j2,j3⟩
   by_cases ej:j=k
   ·subst ej;exact e j3
   exact hx ⟨j,by omega,j2,j3⟩
  rw [decide_eq_false oo_,cond_false,EE]
  ·exact (Int.add_zero _).symm
  rintro ⟨j,j1,j2,_⟩;omega
theorem cy_ {p:List I} {L:List (List I)} {zs:List Int} (h:St p L) (hF:Fp zs (qp p)) (hm:∀ m,m∈zs ↔ Zin l m) (a b:Int) (hb:-128≤b∧b≤127) (x y:Rt) (hz:∀ k,Zr (l.getD k cO)) {v:Rat} (hv:8*v=(b:Rat)):∀ (f:Nat) (want n:W) (u:Rat),-128≤n.1→n.1≤b+1→(b+1 - n.1).toNat<f→0≤want.1→want.1+(b+1 - n.1)≤400→8*u=((n.1 - 1:Int):Rat) →
  ((dK l neg wide a b x y f want n).1).1+V (L.map qp) v=want.1+V (L.map qp) u
 | 0,_,_,_,_,_,hf,_,_,_=>absurd hf (Nat.not_lt_zero _)
 | f+1,want,n,u,n0,n1,hf,h0,h1,hu=>by
  unfold dK;rw [cv8 hb]
  by_cases hn:n.1≤b
  ·rw [decide_eq_true hn,cond_true]
   simp only [ap];have e1:=cz_ (neg:=neg) (wide:=wide) a b x y want n hz (l.length+1) want 0 oo_ h0 oo_;generalize (dL l neg wide a b x y want n x y (l.length+1) want 0).1=wn at *;have en:(W.add n (wl 1)).1=n.1+1:=TL O ⟨by show -1000≤n.1+1;omega,by show n.1+1≤1000;omega⟩;obtain ⟨t,ht⟩:∃ t:Rat,8*t=(n.1:Rat):=⟨(n.1:Rat)*(1 / 8),by grind⟩;have hc:=WJ h hF hu ht
   have e2:SF (∃ j,0≤j∧j<l.length∧(l.getD j cO).n=n.1)=((if n.1∈zs then 1 else 0:Nat):Int):=by
    by_cases hx:n.1∈zs
    ·rw [if_pos hx,EG]
     ·rfl
     obtain ⟨j,j2,j3⟩:=(hm _).1 hx;exact ⟨j,Nat.zero_le _,j2,j3⟩
    rw [if_neg hx,EE]
    ·rfl
    rintro ⟨j,_,j2,j3⟩;exact hx ((hm _).2 ⟨j,j2,j3⟩)
   rw [e2] at e1
   have hle:(if n.1∈zs then 1 else 0:Nat)≤1:=by split<;>omega
   have ih:=cy_ h hF hm a b hb x y hz hv f wn (W.add n (wl 1)) t oo_ oo_ oo_ oo_ oo_ (by rw [en,show n.1+1 - 1=n.1 by omega];exact ht);omega
  rw [decide_eq_false hn,cond_false]
  have e:n.1 - 1=b:=by omega
  rw [e] at hu
  have:u=v:=by grind
  rw [this]
theorem YL {p:List I} (hp:p=aP l neg wide) {c:Nat→Int} (hc:Po p c) (bd:Bd c 12 110) (a b:Int) (hb:-128≤b∧b≤127) (x y:Rt) (want n:W):∀ (f:Nat) (never:Bool) (m:W),-256≤m.1→m.1≤2*b+1→(2*b+1 - m.1).toNat<f →
  ((dM l neg wide a b x y want n x y f never m).1=true ↔ never=true∧∀ k:Int,m.1≤k→k≤2*b→∀ q:Rat,16*q=(k:Rat)→0≤(qp p).ev q)
 | 0,_,_,_,_,hf=>absurd hf (Nat.not_lt_zero _)
 | f+1,never,m,m0,m1,hf=>by
  unfold dM
  have eb:(W.mul (wl 2) (W.cv b)).1=2*b:=by
   show IntKind.i64.wrap (2*(W.cv b).1)=2*b
   rw [cv8 hb,wi oo_]
  rw [eb]
  by_cases hm:m.1≤2*b
  ·rw [decide_eq_true hm,cond_true]
   have en:(W.add m (wl 1)).1=m.1+1:=TL O ⟨by show -1000≤m.1+1;omega,by show m.1+1≤1000;omega⟩;obtain ⟨t,ht⟩:∃ t:Rat,16*t=(m.1:Rat):=⟨(m.1:Rat)*(1 / 16),by grind⟩
   have hs:(eA (aP l neg wide) (bB m (wl 16))).s.1=QP.sg ((qp p).ev t):=by
    rw [← hp,gs_ hc.l3]
    have hx:(bB m (wl 16)).At t:=by
     unfold bB;exact wC (n:=m.1) (d:=16) (n4 (k:=9) oo_ dd_) (n4 (v:=16) (k:=8) dd_ dd_) dd_ (SE (by rw [← ht];rfl))
    have sz:Sz t 9:=by
     exact bS_ (n:=m.1) (d:=16) (k:=9) (by rw [← ht];rfl) dd_ oo_ dd_
    exact wE hc hx (MJ hc bd hx sz (e:=4) dd_ dd_).1
   rw [YL hp hc bd a b hb x y want n f _ (W.add m (wl 1)) oo_ oo_ oo_,hs,Bool.and_eq_true,decide_eq_true_eq,fs_,en]
   constructor
   ·rintro ⟨⟨h1,h2⟩,h3⟩
    refine ⟨h1,fun k k1 k2 q hq=>?_⟩
    by_cases e:k=m.1
    ·subst e
     rw [show q=t by grind];exact h2
    exact h3 k oo_ k2 q hq
   rintro ⟨h1,h3⟩;exact ⟨⟨h1,h3 _ (Int.le_refl _) hm t ht⟩,fun k k1 k2 q hq=>h3 k oo_ k2 q hq⟩
  rw [decide_eq_false hm,cond_false];exact ⟨fun h=>⟨h,fun k k1 k2=>by omega⟩,fun h=>h.1⟩
end
open Go Go.Kn
open QP (V Fp lf Aw Rb Sf Dv NN)
theorem b3_ {a:Int} (ha:-128≤a∧a≤127) {q:Rat} (hq:8*q=(a:Rat)):(bB (W.cv a) (wl 8)).At q:=by
 unfold bB;have e:(W.cv a).1=a:=cv8 ha;rw [e];exact wC (n:=a) (d:=8) (n4 (k:=9) oo_ dd_) (n4 (v:=8) (k:=8) dd_ dd_) dd_ (SE (by rw [← hq];rfl))
theorem eQ_ {p:List I} {zs:List Int} (hF:Fp zs (qp p)) (h:∀ m∈zs,m≤127):p≠[]:=fun e=>by
 subst e;rw [F6] at hF
 obtain ⟨θ,t0,ht⟩:=hF.aw (c:=100) (d:=100) Rat.le_refl fun m hm=>.inl (by
  have h1:(m:Rat)≤((127:Int):Rat):=Rat.intCast_le_intCast.2 (h m hm);have:((127:Int):Rat)=127:=rfl
  grind)
 rcases ht 100 Rat.le_refl Rat.le_refl with k|k<;>rw [QP.ev_C] at k<;>grind
theorem ak_ {p:List I} (hp:Rgt p) (hg:p.all gdI=true) (h0:p≠[]) {a b:Rt} (hab:gG a b=true):(bI p a b).2.1=0∨(bI p a b).2.1=30:=by
 unfold bI;rw [kP (CW hp),hg,NS,decide_eq_false h0,hab]
 cases (aH p).2
 ·exact .inr O
 ·cases (aG (aH p).1 a b).2
  ·exact .inr O
  exact .inl O
theorem an_ {p:List I} (h0:p≠[]) (hg:p.all gdI=true) {a b:Rt} {A B:Rat} (ha:a.At A) (hb:b.At B) (hAB:A≤B) {k:W} (hS:eC p a b k=true):(aN p a b).2.1=0:=by
 obtain ⟨hf,⟨A',hA,sA⟩,⟨B',hB,sB⟩,_⟩:=MK hS;obtain rfl:=sH ha hA;obtain rfl:=sH hb hB;exact VG (Sp.of hf hg h0 sA sB) hAB (K:=0) dd_ ha hb (It.one _ _)
theorem in8 {a b k:Int} {A B q:Rat} (hA:8*A=(a:Rat)) (hB:8*B=(b:Rat)) (k1:2*a≤k) (k2:k≤2*b) (hq:16*q=(k:Rat)):A≤q∧q≤B:=by
 have r1:((2*a:Int):Rat)≤(k:Rat):=Rat.intCast_le_intCast.2 k1;have r2:(k:Rat)≤((2*b:Int):Rat):=Rat.intCast_le_intCast.2 k2;rw [Rat.intCast_mul] at r1 r2;have:((2:Int):Rat)=2:=rfl
 constructor<;>grind
theorem MG (l:List Zero9) (neg wide:Bool) (a b:Int) (hz:∀ k,Zr (l.getD k cO)) (ha:-128≤a∧a≤127) (hb:-128≤b∧b≤127):eG l neg wide a b=true:=by
 unfold eG
 cases hc0:(decide (3<(l.length:Int))||decide (b<a))
 case true=>rw [cond_true];exact BP
 rw [cond_false];simp only [Bool.or_eq_false_iff,decide_eq_false_iff_not] at hc0;obtain ⟨c1,c2⟩:=hc0;obtain ⟨zs,⟨c,hc,bd,hF⟩,hm⟩:=QK (neg:=neg) (wide:=wide) hz oo_;obtain ⟨A,hA⟩:∃ A:Rat,8*A=(a:Rat):=⟨(a:Rat)*(1 / 8),by grind⟩;obtain ⟨B,hB⟩:∃ B:Rat,8*B=(b:Rat):=⟨(b:Rat)*(1 / 8),by grind⟩;have hx:=b3_ ha hA;have hy:=b3_ hb hB;have hab:(a:Rat)≤(b:Rat):=Rat.intCast_le_intCast.2 oo_
 have hAB:A≤B:=by grind
 have eb:=cv8 hb;have ea:=cv8 ha
 have h0:aP l neg wide≠[]:=eQ_ hF fun m hm'=>by
  obtain ⟨j,_,e⟩:=(hm m).1 hm';have:=(hz j).1;omega
 have en:(W.add (W.cv a) (wl 1)).1=a+1:=TL (by rw [ea]) oo_
 have em:(W.mul (wl 2) (W.cv a)).1=2*a:=by
  show IntKind.i64.wrap (2*(W.cv a).1)=2*a
  rw [ea,wi oo_]
 have hg:gG (bB (W.cv a) (wl 8)) (bB (W.cv b) (wl 8))=true:=by rw [D9 hx hy];exact decide_eq_true hAB
 have hN:=fun h=>an_ (k:=wl 0) h0 hc.g hx hy hAB h;have hC:=fun h=>L0 (p:=aP l neg wide) (a:=bB (W.cv a) (wl 8)) (b:=bB (W.cv b) (wl 8)) (k:=wl 0) h;have l2:=fun want n=>YL O hc bd a b hb (bB (W.cv a) (wl 8)) (bB (W.cv b) (wl 8)) want n 800 true (W.mul (wl 2) (W.cv a)) oo_ oo_ oo_;have l1:=fun (L:List (List I)) (h:St (aP l neg wide) L)=>cy_ (neg:=neg) (wide:=wide) h hF hm a b hb (bB (W.cv a) (wl 8)) (bB (W.cv b) (wl 8)) hz hB 400 (wl 0) (W.add (W.cv a) (wl 1)) A oo_ oo_ oo_ dd_ (by show (0:Int)+_≤_;omega) (by rw [en,hA];congr 1;omega);generalize bB (W.cv a) (wl 8)=x at *;generalize bB (W.cv b) (wl 8)=y at *;simp only [ap];generalize dK l neg wide a b x y 400 (wl 0) (W.add (W.cv a) (wl 1))=R at *;obtain ⟨want,n⟩:=R;have l2:=l2 want n;simp only;generalize dM l neg wide a b x y want n x y 800 true (W.mul (wl 2) (W.cv a))=T at *;obtain ⟨never,m⟩:=T;simp only at l2 ⊢;generalize aP l neg wide=p at *;rcases ak_ hc.rgt hc.g h0 hg with e|e
 ·rw [show ((bI p x y).2.1==30)=false by rw [e];rfl,cond_false]
  obtain ⟨_,_,_,_,g1,g2,g3⟩:=VC hc.rgt e;obtain ⟨u',v',cx⟩:=AS g3 (tL p) g1;obtain rfl:=sH hx cx.a;obtain rfl:=sH hy cx.b;have hn:=cx.n;have hw:=l1 _ g3
  have e1:(bI p x y).1.1=want.1:=by
   rw [g2,hn];have:(wl 0).1=0:=rfl;simp only [this] at hw;omega
  rw [show (((bI p x y).1.1 != want.1)||((bI p x y).2.1 != 0))=false by rw [e1,e];simp,cond_false];rcases f0_ hc.nb hx hy hAB with e2|e2
  ·rw [show ((aN p x y).2.1==30)=false by rw [e2];rfl,cond_false,BP,e2]
   simp only [Bool.true_and,beq_self_eq_true,Bool.and_true];have hp12:p.length≤12:=hc.len bd;obtain ⟨_,_,hs⟩:=TO hc.rgt hp12 hx hy e2
   have key:(aN p x y).1=true ↔ never=true:=by
    rw [hs,l2,em];refine ⟨fun h=>⟨trivial,fun k k1 k2 q hq=>?_⟩,fun h=>hF.nn (a:=a) (b:=b) (fun m m1 m2 q hq=>h.2 m m1 m2 q hq) hA hB⟩;have r:=in8 hA hB k1 k2 hq;exact h q r.1 r.2
   cases h1:(aN p x y).1<;>cases h2:never
   ·rfl
   ·rw [h1,h2] at key;exact absurd (key.2 O) dd_
   ·rw [h1,h2] at key;exact absurd (key.1 O) dd_
   rfl
  rw [show ((aN p x y).2.1==30)=true by rw [e2];rfl,cond_true,BP]
  cases hS:eC p x y (wl 0)
  ·rfl
  rw [hN hS] at e2;cases e2
 rw [show ((bI p x y).2.1==30)=true by rw [e];rfl,cond_true,BP]
 cases hS:eC p x y (wl 0)
 ·rfl
 exact absurd e (hC hS)
open Go Go.Kn Go.RowKit Go.ChangeShapes Go.WideShapes
section
variable {H:Type} {enc:TypeId×Value→H} {P:Program} {w:World} {base:Nat} {spare:Nat→Bool} {held:Bool} {α:Type} {e:El α}
theorem Rd.app {a:Addr} {A B:List Value} (h:Rd w a A) (k:Rd w (a.add A.length) B):Rd w a (A++B):=fun j v hj=>by
 rcases Nat.lt_or_ge j A.length with h'|h'
 ·rw [List.getElem?_append_left h'] at hj;exact h j v hj
 rw [List.getElem?_append_right h'] at hj;have:=k _ _ hj;rw [JI,Nat.add_sub_cancel' h'] at this;exact this
theorem Rd.of_cells {a:Addr} {n:Nat} {cs:List Value} (h:w.cells? base a n=some cs):Rd w a cs:=fun j v hj=>by
 obtain ⟨_,hl,hc⟩:=World.cells?_some h;have hj':j<cs.length:=(List.getElem?_eq_some_iff.1 hj).1;have h1:=hc j oo_;rw [hj] at h1;exact h1
theorem SQ {a:Addr} {len:Nat} (h:∀ i,i<len→∃ x:α,w.cells? base (a.add (i*e.n)) e.n=some (e.cs x)):∀ k,k≤len→∃ l:List α,l.length=k∧Rd w a (rows e l)
 | 0,_=>⟨[],rfl,fun j v hj=>by simp [rows] at hj⟩
 | k+1,hk=>by
  obtain ⟨l,hl,hr⟩:=SQ h k oo_;obtain ⟨x,hx⟩:=h k oo_;refine ⟨l++[x],by simp [hl],?_⟩;rw [r8];refine Rd.app hr ?_;rw [kH,hl];have:=Rd.of_cells hx
  simpa [rows] using this
theorem dJ_ {T E:TypeId} {ls:List o0} {v:Value} {d:DataW H} {p:List MemPlace} {b0:Nat} {r:Reach} (hT:P.underlying T=some (.slice E)) (hl:lz P 8 E=some ls) (hn:P.cellsOf E=e.n)
  (op:∀ cs,LWF cs ls→∃ x:α,cs=e.cs x) (hv:Value.okWide P w r b0 T v) (ht:DataW.Trod enc P w base spare held T v d p):∃ l:List α,Slr w e v l:=by
 obtain ⟨fuel,hf⟩:=ht
 have hv':∃ a n c,v = .slice a n c:=by
  unfold Value.okWide at hv;rw [hT] at hv;unfold Cell.okWide at hv;rw [hT] at hv
  cases v<;>simp_all [Cell.ok]
 obtain ⟨a,n,c,rfl⟩:=hv';have e1:(Value.slice a n c).cells.toList=[.slice a n c]:=rfl;rw [e1] at hf;rcases DataW.trod_slice hT hf with ⟨h,_⟩|⟨a',len,cap,elems,rest,m,_,h,_,_,hlc,hc,hel,hall,_⟩
 ·cases h
  exact ⟨[],none,0,rfl,Nat.le_refl _,by decide,.inl ⟨rfl,rfl,rfl⟩⟩
 ·cases h
  have hx:∀ i,i<n→∃ x:α,w.cells? base (a'.add (i*e.n)) e.n=some (e.cs x):=fun i hi=>by
   have h1:=hall i hi;rw [List.getElem?_eq_getElem oo_,hn] at h1
   cases hc':w.cells? base (a'.add (i*e.n)) e.n with
   | none=>rw [hc'] at h1;cases h1
   | some cs =>
    rw [hc'] at h1;obtain ⟨x,hx⟩:=op cs (xX 8 hl h1);exact ⟨x,by rw [hx]⟩
  obtain ⟨l,hl',hr⟩:=SQ hx n (Nat.le_refl _);exact ⟨l,some a',c,by rw [hl'],by omega,hc,.inr ⟨a',rfl,hr⟩⟩
end
open Go Go.Kn Go.RowKit Go.ChangeShapes Go.WideShapes
def Z8:Type:={ z:Zero9 // Zr z }
def elZ8:El Z8:=⟨2,fun x=>lU.ps x.1,fun x=>lU.len x.1⟩
theorem gn_ {cs:List Value} (h:LWF cs ([some .i8]++[some .i8])):∃ x:Z8,cs=elZ8.cs x:=by
 match cs,h with
 | [.int k n,.int k' n'],h =>
  obtain ⟨⟨rfl,hw⟩,⟨rfl,hw'⟩,_⟩:=h;have hb:-128≤n∧n≤127:=bounds_i8 hw;have hb':-128≤n'∧n'≤127:=bounds_i8 hw';exact ⟨⟨⟨n,n'⟩,⟨hb,hb'⟩⟩,rfl⟩
theorem SW:∀ l:List Z8,rows elZ8 l=rows lU (l.map (·.1))
 | []=>rfl
 | x::l=>by
  show elZ8.cs x++rows elZ8 l=lU.cs x.1++rows lU (l.map (·.1))
  rw [SW l];rfl
theorem gB_ {w:World} {v:Value} {l:List Z8} (h:Slr w elZ8 v l):Slr w lU v (l.map (·.1)):=by
 obtain ⟨p,c,h1,h2,h3,h4⟩:=h;refine ⟨p,c,by rw [List.length_map];exact h1,by rw [List.length_map];exact h2,h3,?_⟩;rcases h4 with ⟨a,b,d⟩|⟨a,b,d⟩
 ·exact .inl ⟨a,by rw [b];rfl,d⟩
 exact .inr ⟨a,b,by rw [← SW];exact d⟩
theorem zr8 (l:List Z8) (k:Nat):Zr ((l.map (·.1)).getD k cO):=by
 rw [List.getD_eq_getElem?_getD,List.getElem?_map]
 cases l[k]? with
 | none=>exact ⟨⟨by decide,by decide⟩,by decide,by decide⟩
 | some z=>exact z.2
theorem dG_ {P:Program} {w:World} {base:Nat} {r:Reach} {T:TypeId} {v:Value} (hu:P.underlying T=some .bool) (hv:Value.okWide P w r base T v):∃ b,v = .bool b:=by
 unfold Value.okWide at hv;rw [hu] at hv;unfold Cell.okWide at hv;rw [hu] at hv;unfold Cell.ok at hv;rw [hu] at hv
 cases v<;>simp_all
end Go.Num
