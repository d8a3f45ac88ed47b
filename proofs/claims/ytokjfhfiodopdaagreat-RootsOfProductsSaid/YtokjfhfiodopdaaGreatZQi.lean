/- Lemmas: what they ask stands in their statements. -/
import Derived.Test.YtokjfhfiodopdaaGreatZAa
set_option linter.unusedSimpArgs false
set_option linter.unusedVariables false
namespace Go.Num
open Go Go.Kn
theorem zX {u:Int}:∀ (l:List I) (g:Nat),u ∣ (g:Int)→(∀ x∈l,u ∣ vI x)→u ∣ ((l.foldl fg g:Nat):Int)
 | [],g,h,_=>h
 | y::l,g,h,hx=>zX l (fg g y) (Int.dvd_coe_gcd h (hx y List.mem_cons_self)) fun x hm=>hx x (List.mem_cons_of_mem _ hm)
def Prm (c:Nat→Int):Prop:=∀ u:Int,(∀ k,u ∣ c k)→u ∣ 1
theorem RK {u:Int} {g:Nat} (h:0<g) (hd:(g:Int) ∣ u):(u.fdiv g).natAbs≤u.natAbs:=by
 obtain ⟨x,rfl⟩:=hd;rw [Int.mul_fdiv_cancel_left _ oo_,Int.natAbs_mul,Int.natAbs_natCast];exact Nat.le_mul_of_pos_left _ h
section
variable {p q:List I} {c d:Nat→Int}
theorem Po.mem (h:Po p c) {x:I} (hx:x∈p):∃ k,vI x=c k:=by
 obtain ⟨k,hk,rfl⟩:=List.getElem_of_mem hx;refine ⟨k,?_⟩;rw [← h.c k]
 simp [List.getD,hk]
theorem Po.dvd (h:Po p c) (k:Nat):((cN p:Nat):Int) ∣ c k:=by
 by_cases hk:k<p.length
 ·rw [← h.c k,show p.getD k I0=p[k] by simp [List.getD,hk]]
  exact EX (List.getElem_mem hk)
 rw [h.zero oo_];exact Int.dvd_zero _
theorem Po.cpos (h:Po p c) (h0:p≠[]):0<cN p:=by
 obtain ⟨n,hn⟩:∃ n,p.length=n+1:=⟨p.length - 1,by have:=List.length_pos_iff.2 h0;omega⟩;rcases Nat.eq_zero_or_pos (cN p) with e|e
 ·have h1:=h.dvd n
  rw [e] at h1;exact absurd (Int.zero_dvd.1 h1) (h.last hn)
 exact e
theorem tB (h:Po p c):Po (aC p) (fun k=>(c k).fdiv (cN p)):=by
 have e:=N9 h.g h.s h.l
 have hB:∀ x∈p,cX ((vI x).fdiv (cN p)):=fun x hx=>by
  obtain ⟨k,hk⟩:=h.mem hx;rw [hk];exact Nat.lt_of_le_of_lt (RK (h.cpos (List.ne_nil_of_mem hx)) (h.dvd k)) (h.B k)
 have hg:(aC p).all gdI=true:=by
  rw [e];refine List.all_eq_true.2 fun y hy=>?_;obtain ⟨x,hx,rfl⟩:=List.mem_map.1 hy;exact NK (hB x hx)
 refine (AC (r6 p h.l3) hg).cast fun k=>?_;rw [e]
 by_cases hk:k<p.length
 ·have e2:(p.map fun x=>E (Z.of ((vI x).fdiv (cN p)))).getD k I0=E (Z.of ((vI p[k]).fdiv (cN p))):=by simp [List.getD,hk]
  rw [e2,aa_ (hB _ (List.getElem_mem hk)),← h.c k,show p.getD k I0=p[k] by simp [List.getD,hk]]
 rw [mK (by rw [List.length_map];omega),vI0,h.zero oo_,Int.zero_fdiv]
theorem vQ (h:Po p c) (k:Nat):((cN p:Nat):Int)*(c k).fdiv (cN p)=c k:=by
 by_cases h0:p=[]
 ·subst h0;rw [h.zero (Nat.zero_le k),Int.zero_fdiv,Int.mul_zero]
 have hp:=h.cpos h0;obtain ⟨x,hx⟩:=h.dvd k;rw [hx,Int.mul_fdiv_cancel_left _ oo_]
theorem FY (h:Po p c) (h0:p≠[]):Prm (fun k=>(c k).fdiv (cN p)):=fun u hu=>by
 have hp:=h.cpos h0
 have h1:((cN p:Nat):Int)*u ∣ ((cN p:Nat):Int):=zX p 0 (Int.dvd_zero _) fun x hx=>by
  obtain ⟨k,hk⟩:=h.mem hx;rw [hk,← vQ h k];exact Int.mul_dvd_mul_left _ (hu k)
 obtain ⟨y,hy⟩:=h1;refine ⟨y,?_⟩
 have:((cN p:Nat):Int)*1=((cN p:Nat):Int)*(u*y):=by rw [Int.mul_one,← Int.mul_assoc];exact hy
 exact Int.eq_of_mul_eq_mul_left oo_ this
def lin (u v:Int) (k:Nat):Int:=if k=0 then u else if k=1 then v else 0
theorem X4 {u v:Int} (hu:cX u) (hv:cX v):Po (bE [E (Z.of u),E (Z.of v)]) (lin u v):=by
 rw [pJ];refine z6 (fun k=>?_) (fun k=>?_) fun k hk=>?_
 ·match k with
  | 0=>rfl
  | 1=>rfl
  | k+2=>rw [mK (by simp)];unfold lin;rw [if_neg oo_,if_neg oo_];rfl
 ·unfold lin;split
  ·exact hu
  split
  ·exact hv
  exact B0
 unfold lin;rw [if_neg oo_,if_neg oo_]
theorem YU {u:Int} (hu:cX u):Po (bE [E (Z.of u)]) (lin u 0):=by
 rw [pJ];refine z6 (fun k=>?_) (fun k=>?_) fun k hk=>?_
 ·match k with
  | 0=>rfl
  | k+1=>rw [mK (by simp)];unfold lin;rw [if_neg oo_,ite_self];rfl
 ·unfold lin;split
  ·exact hu
  rw [ite_self];exact B0
 unfold lin;rw [if_neg oo_,ite_self]
def sb (c:Nat→Int) (u v W:Int) (L:Nat):Nat→Nat→Int
 | 0=>fun _=>0
 | t+1=>fun k=>conv (sb c u v W L t) (lin u v) k+lin (c (L - 1 - t)*W ^ t) 0 k
variable {u v W:Int} {L:Nat}
theorem ad_ (u v:Int) (y:Rat) {K:Nat} (hK:2≤K):vl (cR (lin u v)) y K=(u:Rat)+(v:Rat)*y:=by
 rw [zC (n:=2) (fun i hi=>by unfold cR lin;rw [if_neg oo_,if_neg oo_];rfl) hK]
 show (0+((u:Int):Rat)*y ^ 0)+((v:Int):Rat)*y ^ 1=_
 rw [Rat.pow_zero,Rat.pow_one,Rat.zero_add,Rat.mul_one]
theorem ZJ {y z:Rat} (hz:(u:Rat)+(v:Rat)*y=(W:Rat)*z) (hs:∀ t,t≤L→∀ k,t≤k→sb c u v W L t k=0) (hL:L≤24):∀ t:Nat,t≤L→vl (cR (sb c u v W L t)) y 26*(W:Rat)=(W:Rat) ^ t*vl (fun j=>cR c (L - t+j)) z t
 | 0,_=>by
  show fY _ _*_=_*(0:Rat)
  rw [jY fun i _=>by show ((0:Int):Rat)*_=0;exact Rat.zero_mul _,Rat.mul_zero,Rat.zero_mul]
 | t+1,ht=>by
  have ih:=ZJ hz hs hL t oo_
  have e1:cR (sb c u v W L (t+1))=fun k=>conv (cR (sb c u v W L t)) (cR (lin u v)) k+cR (lin (c (L - 1 - t)*W ^ t) 0) k:=by
   rw [← CA];funext k;exact Rat.intCast_add ..
  rw [e1,ac_,TI (n:=t) (m:=2) (fun i hi=>by unfold cR;rw [hs t oo_ i hi];rfl) (fun i hi=>by unfold cR lin;rw [if_neg oo_,if_neg oo_];rfl) oo_,ad_ _ _ _ (Nat.le_refl _),ad_ _ _ _ dd_,hz,
   ← zC (n:=t) (m:=26) (fun i hi=>by unfold cR;rw [hs t oo_ i hi];rfl) oo_]
  generalize vl (cR (sb c u v W L t)) y 26=H at *;rw [O5,Rat.pow_succ,Rat.intCast_mul,Rat.intCast_pow];rw [show (fun i=>(fun j=>cR c (L - (t+1)+j)) (i+1))=fun j=>cR c (L - t+j) from funext fun j=>by show cR c _=cR c _;congr 1;omega];rw [show L - (t+1)+0=L - 1 - t by omega]
  show _=_*(((c (L - 1 - t):Int):Rat)+_)
  generalize vl (fun j=>cR c (L - t+j)) z t=S at *;rw [show ((0:Int):Rat)=0 from rfl]
  grind
theorem d4_ {y z:Rat} (hz:(u:Rat)+(v:Rat)*y=(W:Rat)*z) (hW:0<W) (hs:∀ t,t≤L→∀ k,t≤k→sb c u v W L t k=0) (hL:L≤24):vl (cR (sb c u v W L L)) y 26=(W:Rat) ^ (L - 1)*vl (cR c) z L:=by
 have hd:(W:Rat)≠0:=fun h=>by have:=Rat.intCast_eq_zero_iff.1 h;omega
 have h:=ZJ (c:=c) hz hs hL L (Nat.le_refl _);rw [show (fun j=>cR c (L - L+j))=cR c from funext fun j=>by congr 1;omega] at h
 cases L with
 | zero =>
  show _=_*(0:Rat)
  rw [Rat.mul_zero]
  exact jY fun i _=>by show ((0:Int):Rat)*_=0;exact Rat.zero_mul _
 | succ n =>
  rw [Rat.pow_succ] at h;rw [Nat.add_sub_cancel]
  have:(vl (cR (sb c u v W (n+1) (n+1))) y 26 - (W:Rat) ^ n*vl (cR c) z (n+1))*W=0:=by grind
  rcases Rat.mul_eq_zero.1 this with h|h
  ·grind
  exact absurd h hd
end
open Go Go.Kn
theorem k25 {l:List I} (h:l.length≤25):l.length≤1000:=Nat.le_trans h dd_
theorem KL (l:List I):(mkP l).length≤max l.length 1:=by
 unfold mkP
 cases l.all gdI
 ·exact Nat.le_max_right _ _
 simp only [cond_true]
 split
 ·exact Nat.le_trans (uI l) (Nat.le_max_left _ _)
 exact Nat.le_max_right _ _
theorem JM {c:Bool} {x y:List I} {n:Nat} (h:x.length≤n) (k:y.length≤n):(bif c then x else y).length≤n:=by cases c<;>assumption
theorem aS_ {p q:List I} (f:I→I→I) {n:Nat} (hp:p.length≤n) (hq:q.length≤n) (h1:1≤n) (h2:n≤1000):(eE p q f).length≤n:=by
 rw [rQ f oo_ oo_];refine JM (Nat.le_trans (KL _) ?_) h1;rw [List.length_map,List.length_range];omega
theorem aw_ {p q:List I} {n:Nat} (hp:p.length≤n) (hq:q.length≤n) (h1:1≤n) (h2:n≤1000):(lS p q).length≤n:=aS_ _ hp hq h1 h2
theorem bd_ {p q:List I} {n m:Nat} (hp:p.length≤n) (hq:q.length≤m) (h1:1≤n+m - 1):(fK p q).length≤n+m - 1:=by
 unfold fK;refine JM h1 (JM (Nat.zero_le _) ?_);rw [nQ];refine Nat.le_trans (KL _) ?_;rw [List.length_map,List.length_range];omega
def Zx (z:Z) (v:Int):Prop:=z.o=none∨(z=Z.of v∧cX v)
theorem Zx.of (v:Int):Zx (Z.of v) v:=by
 by_cases h:cX v
 ·exact .inr ⟨rfl,h⟩
 refine .inl ?_;rw [Z.of_o,if_neg h]
theorem Zx.lift {f:Int→Int→Z} {a b:Z} {u v r:Int} (ha:Zx a u) (hb:Zx b v) (hf:Zx (f u v) r):Zx (xV f a b) r:=by
 rcases ha with h|⟨h,h1⟩
 ·left;rw [i9 (.inl h)];rfl
 rcases hb with k|⟨k,h2⟩
 ·left;rw [i9 (.inr k)];rfl
 subst h;subst k;rw [dG (Z.of_some h1) (Z.of_some h2)];exact hf
theorem Zx.add {a b:Z} {u v:Int} (ha:Zx a u) (hb:Zx b v):Zx (Z.add a b) (u+v):=ha.lift hb (.of _)
theorem Zx.mul {a b:Z} {u v:Int} (ha:Zx a u) (hb:Zx b v):Zx (Z.mul a b) (u*v):=ha.lift hb (.of _)
def Ix (x:I) (v:Int):Prop:=Zx x.dec v
theorem JC {z:Z} {v:Int} (h:Zx z v):Ix (E z) v:=by unfold Ix;rw [cJ];exact h
theorem Ix.of (v:Int):Ix (E (Z.of v)) v:=JC (.of v)
theorem Ix.gd {x:I} {v:Int} (h:Ix x v) (g:gdI x=true):x=E (Z.of v)∧cX v:=by
 obtain ⟨w,hw,e⟩:=eS_ g;subst e;unfold Ix at h;rw [cJ] at h;rcases h with h|⟨h,b⟩
 ·rw [Z.of_some hw] at h;cases h
 exact ⟨by rw [h],b⟩
theorem KK {l:List I} (h:(mkP l).all gdI=true):l.all gdI=true:=by
 unfold mkP at h
 cases hl:l.all gdI
 ·rw [hl,cond_false,eS] at h;cases h
 rfl
def Px (p:List I) (c:Nat→Int):Prop:=p.length≤1000∧(p.all gdI=true→Po p c)
section
variable {p q:List I} {c d:Nat→Int}
theorem Po.px (h:Po p c):Px p c:=⟨h.l3,fun _=>h⟩
theorem QV {f:Nat→I} {n:Nat} (h:∀ k,k<n→Ix (f k) (c k)) (h0:∀ k,n≤k→c k=0) (hn:n≤25) (hg:(mkP ((List.range n).map f)).all gdI=true):Po (mkP ((List.range n).map f)) c:=by
 have hall:=KK hg;have hgd:∀ k,k<n→gdI (f k)=true:=fun k hk=>List.all_eq_true.1 hall _ (List.mem_map.2 ⟨k,List.mem_range.2 hk,rfl⟩);refine GR (fun k hk=>((h k hk).gd (hgd k hk)).1) h0 (fun k=>?_) (fun k hk=>h0 k oo_)
 by_cases hk:k<n
 ·exact ((h k hk).gd (hgd k hk)).2
 rw [h0 k oo_];exact B0
theorem SA (h:Po p c) (g:Po q d) (k:Nat) :
  ∀ (t i:Nat) (m:I),k+1 - i<t→i≤k+1→Ix m (fY (fun i=>c i*d (k - i)) i)→Ix (eO k q p t i m).2 (conv c d k)
 | 0,i,m,ht,_,_=>absurd ht (Nat.not_lt_zero _)
 | t+1,i,m,ht,hi,hm=>by
  unfold eO;have e:∀ a b,a≤b→p.length≤a→fY (fun i=>c i*d (k - i)) b=fY (fun i=>c i*d (k - i)) a:=fun a b hab hpa =>
   nY (fun j hj=>by rw [h.zero oo_,Int.zero_mul]) b hab
  by_cases hk:(i:Int)≤min (k:Int) ((p.length:Int) - 1)
  ·rw [decide_eq_true hk,cond_true,h.get,g.get,cJ,cJ]
   exact SA h g k t (i+1) _ oo_ oo_ (JC (Zx.add hm (Zx.mul (.of _) (.of _))))
  rw [decide_eq_false hk,cond_false]
  show Ix m (fY _ (k+1))
  rcases Nat.lt_or_ge i (k+1) with h1|h1
  ·rw [e i (k+1) oo_ oo_];exact hm
  rw [show k+1=i by omega];exact hm
theorem Px.mul (hp:Px p c) (hq:Px q d) (hl:p.length+q.length≤26):Px (fK p q) (conv c d):=by
 refine ⟨k25 (BI _ _),fun hg=>?_⟩
 have gp:p.all gdI=true:=by
  cases hc:p.all gdI
  ·rw [Q5 hp.1 hq.1 (.inl hc),eS] at hg;cases hg
  rfl
 have gq:q.all gdI=true:=by
  cases hc:q.all gdI
  ·rw [Q5 hp.1 hq.1 (.inr hc),eS] at hg;cases hg
  rfl
 have h:=hp.2 gp;have g:=hq.2 gq;unfold fK at hg ⊢;rw [h.nb,g.nb,Bool.or_false,cond_false] at hg ⊢
 by_cases h0:p=[]
 ·subst h0
  rw [show (((([]:List I).length:Int)==0)||((q.length:Int)==0))=true by simp,cond_true];exact B4.cast fun k=>Eq.symm (jY fun i _=>by rw [h.zero (Nat.zero_le _),Int.zero_mul])
 by_cases g0:q=[]
 ·subst g0
  rw [show (((p.length:Int)==0)||((([]:List I).length:Int)==0))=true by simp,cond_true];refine B4.cast fun k=>Eq.symm (jY fun i _=>?_);rw [g.zero (Nat.zero_le _),Int.mul_zero]
 have h1:0<p.length:=List.length_pos_iff.2 h0;have h2:0<q.length:=List.length_pos_iff.2 g0
 rw [show (((p.length:Int)==0)||((q.length:Int)==0))=false by
  rw [Bool.or_eq_false_iff];exact ⟨beq_eq_false_iff_ne.2 oo_,beq_eq_false_iff_ne.2 oo_⟩,cond_false,nQ] at hg ⊢
 have hz:∀ k,p.length+q.length≤k+1→conv c d k=0:=fun k hk=>lQ (fun i hi=>h.zero hi) (fun i hi=>g.zero hi) k hk;refine QV (fun k _=>?_) (fun k hk=>hz k oo_) oo_ hg;unfold jM
 show Ix (eO _ _ _ _ _ _).2 _
 refine SA h g k _ _ _ oo_ oo_ ?_;rw [jY fun i hi=>by rw [g.zero oo_,Int.mul_zero]];exact .of 0
theorem Px.add (hp:Px p c) (hq:Px q d):Px (lS p q) (fun k=>c k+d k):=by
 refine ⟨k25 (wM _ _),fun hg=>?_⟩
 have gp:p.all gdI=true:=by
  cases hc:p.all gdI
  ·rw [Q2 hp.1 hq.1 (.inl hc),eS] at hg;cases hg
  rfl
 have gq:q.all gdI=true:=by
  cases hc:q.all gdI
  ·rw [Q2 hp.1 hq.1 (.inr hc),eS] at hg;cases hg
  rfl
 have h:=hp.2 gp;have g:=hq.2 gq;unfold lS at hg ⊢;rw [rQ _ h.l3 g.l3,h.g,g.g,Bool.and_true,cond_true] at hg ⊢;have hl:=h.l;have gl:=g.l;refine QV (fun k _=>?_) (fun k hk=>by rw [h.zero oo_,g.zero oo_];rfl) oo_ hg;rw [h.get,g.get];exact JC (by rw [cJ,cJ];exact Zx.add (.of _) (.of _))
theorem dv_ {x y:I} {u v:Int} (hx:Ix x u) (hy:Ix y v):Px (bE [x,y]) (lin u v):=by
 refine ⟨k25 (lO _),fun hg=>?_⟩;rw [pJ] at hg;have:=KK hg;obtain ⟨e1,b1⟩:=hx.gd (List.all_eq_true.1 this x (by simp));obtain ⟨e2,b2⟩:=hy.gd (List.all_eq_true.1 this y (by simp));rw [e1,e2];exact X4 b1 b2
theorem dH_ {x:I} {u:Int} (hx:Ix x u):Px (bE [x]) (lin u 0):=by
 refine ⟨k25 (lO _),fun hg=>?_⟩;rw [pJ] at hg;have:=KK hg;obtain ⟨e1,b1⟩:=hx.gd (List.all_eq_true.1 this x (by simp));rw [e1];exact YU b1
theorem dM_ {x:I} {D:Int} (hx:Ix x D):∀ k,Ix (pw x k) (D ^ k)
 | 0=>by rw [Int.pow_zero];exact .of 1
 | k+1=>by rw [pw,Int.pow_succ];exact JC (Zx.mul (dM_ hx k) hx)
end
theorem d5_ (c:Nat→Int) (u v W:Int) (L:Nat):∀ t k,t≤k→sb c u v W L t k=0
 | 0,k,_=>rfl
 | t+1,k,h=>by
  show conv (sb c u v W L t) (lin u v) k+lin (c (L - 1 - t)*W ^ t) 0 k=0
  rw [lQ (n:=t) (m:=2) (d5_ c u v W L t) (fun i hi=>by unfold lin;rw [if_neg oo_,if_neg oo_]) k oo_];unfold lin;rw [if_neg oo_,ite_self];rfl
theorem UE (x y:I):(bE [x,y]).length≤2:=by
 rw [pJ];exact KL _
section
variable {p:List I} {c:Nat→Int} {a b:Rt} {N D M F:Int}
theorem S4 (h:Po p c) (h7:p.length≤20) (ia:a.Is N D) (ib:b.Is M F) :
  ∀ (f t:Nat) (i:Int) (r:List I),t≤p.length→i=(p.length:Int) - 1 - t→p.length - t<f→r.length≤t→Px r (sb c (N*F) (M*D) (D*F) p.length t) →
  Px (fB p a b f r i).1 (sb c (N*F) (M*D) (D*F) p.length p.length)
 | 0,t,i,r,_,_,hf,_,_=>absurd hf (Nat.not_lt_zero _)
 | f+1,t,i,r,ht,hi,hf,hrl,hr=>by
  unfold fB
  by_cases h0:0≤i
  ·rw [decide_eq_true h0,cond_true]
   have htl:t<p.length:=by omega
   have e1:i.toNat=p.length - 1 - t:=by omega
   have e2:p.length - 1 - i.toNat=t:=by omega
   simp only;rw [e2,tU _ _ (show t<max (p.length:Int).toNat 1 by omega),ia.ed,ia.en,ib.ed,ib.en,e1,h.get];have ml:=UE (E (Z.mul (E (Z.of N)).dec (E (Z.of F)).dec)) (E (Z.mul (E (Z.of M)).dec (E (Z.of D)).dec));have m1:=Px.mul hr (dv_ (x:=E (Z.mul (E (Z.of N)).dec (E (Z.of F)).dec)) (y:=E (Z.mul (E (Z.of M)).dec (E (Z.of D)).dec)) (JC (Zx.mul (Ix.of N) (Ix.of F))) (JC (Zx.mul (Ix.of M) (Ix.of D)))) oo_;have m2:=m1.add (dH_ (x:=E (Z.mul (E (Z.of (c (p.length - 1 - t)))).dec (pw (E (Z.mul (E (Z.of D)).dec (E (Z.of F)).dec)) t).dec)) (u:=c (p.length - 1 - t)*(D*F) ^ t) (JC (Zx.mul (Ix.of _) (dM_ (JC (Zx.mul (Ix.of D) (Ix.of F))) t))));refine S4 h h7 ia ib f (t+1) _ _ oo_ oo_ oo_ ?_ m2;have k1:=bd_ hrl ml oo_;refine aw_ (n:=t+1) (Nat.le_trans k1 oo_) ?_ oo_ oo_;rw [pJ];exact Nat.le_trans (KL _) (by simp)
  rw [decide_eq_false h0,cond_false]
  have:t=p.length:=by omega
  rw [← this];rw [← this] at hr;exact hr
end
open Go Go.Kn
def shf (d:Nat→Int) (i k:Nat):Int:=if i≤k then d (k - i) else 0
def kO (a o:Int) (d:Nat→Int) (n i:Nat) (r:Nat→Int) (k:Nat):Int:=a*r k - o*r (i+n)*shf d i k
def rD (a o:Int) (d:Nat→Int) (n:Nat):Nat→(Nat→Int)→Nat→Int
 | 0,r=>r
 | m+1,r=>rD a o d n m (kO a o d n m r)
def RemB (a o:Int) (d:Nat→Int) (n:Nat):Nat→(Nat→Int)→Prop
 | 0,r=>∀ k,cX (r k)
 | m+1,r=>(∀ k,cX (r k))∧cX (o*r (m+n))∧(∀ k,cX (a*r k))∧(∀ k,cX (o*r (m+n)*d k))∧RemB a o d n m (kO a o d n m r)
theorem RemB.B {a o:Int} {d:Nat→Int} {n:Nat}:∀ {m:Nat} {r:Nat→Int},RemB a o d n m r→∀ k,cX (r k)
 | 0,_,h=>h
 | _+1,_,h=>h.1
theorem fW_ {u:Int} {b b':Nat} (h:u.natAbs<2 ^ b) (hb:b≤b'):u.natAbs<2 ^ b':=Nat.lt_of_lt_of_le h (Nat.pow_le_pow_right dd_ hb)
section
variable {p q:List I} {c d:Nat→Int} {n:Nat}
theorem JL (g:Po q d) (i k:Nat):dX q ((k:Int) - (i:Int))=E (Z.of (shf d i k)):=by
 unfold shf
 by_cases h:i≤k
 ·rw [if_pos h,show (k:Int) - (i:Int)=((k - i:Nat):Int) by omega,B6,g.get]
 rw [if_neg h];unfold dX;rw [decide_eq_true oo_,Bool.true_or,cond_true];rfl
theorem co_ (g:Po q d) (i k:Nat):cX (shf d i k):=by
 unfold shf;split
 ·exact g.B _
 exact B0
theorem SS (g:Po q d) (hn:q.length=n+1) {r:Nat→Int} {i:Nat} (l:List I) (h1:cX (d n).natAbs) (h2:∀ k,cX (r k)) (h3:cX ((d n).sign*r (i+n))) (h4:∀ k,cX (((d n).natAbs:Int)*r k)) (h5:∀ k,cX ((d n).sign*r (i+n)*d k))
  (h6:∀ k,cX (kO (d n).natAbs (d n).sign d n i r k)):∀ (f k:Nat) (t:List I),l.length - k<f→k≤l.length→t.length=l.length →
  (∀ j,t.getD j I0=E (Z.of (if j<k then kO (d n).natAbs (d n).sign d n i r j else r j))) →
  ∃ t',eY p q (i:Int) l (E (Z.of ((d n).sign*r (i+n)))) f k t = .inl (l.length,t')∧t'.length=l.length∧∀ j,t'.getD j I0=E (Z.of (if j<l.length then kO (d n).natAbs (d n).sign d n i r j else r j))
 | 0,k,t,hf,_,_,_=>absurd hf (Nat.not_lt_zero _)
 | f+1,k,t,hf,hk,ht,hv=>by
  unfold eY
  by_cases hl:k<l.length
  ·rw [decide_eq_true oo_,cond_true]
   have e:=hv k;rw [if_neg (Nat.lt_irrefl k)] at e
   have h5':cX ((d n).sign*r (i+n)*shf d i k):=by
    unfold shf;split
    ·exact h5 _
    rw [Int.mul_zero];exact B0
   have e2:E (Z.sub (Z.mul (Z.abs (q.getD (q.length - 1) I0).dec) (t.getD k I0).dec) (Z.mul (E (Z.of ((d n).sign*r (i+n)))).dec (dX q ((k:Int) - (i:Int))).dec))=E (Z.of (kO (d n).natAbs (d n).sign d n i r k)):=by
    rw [hn,Nat.add_sub_cancel,g.get,e,JL g,cJ,cJ,cJ,cJ,Q8 (g.B _),n6 h1 (h2 k),n6 h3 (co_ g i k),LR (h4 k) h5'];rfl
   simp only;rw [e2,kE t k _ oo_,ET (h6 k),cond_false];refine SS g hn l h1 h2 h3 h4 h5 h6 f (k+1) _ oo_ oo_ (by rw [List.length_set];exact ht) fun j=>?_
   by_cases hj:j=k
   ·subst hj;rw [kE t j _ oo_,if_pos oo_]
   rw [oK t k j _ hj,hv j]
   by_cases hjk:j<k
   ·rw [if_pos hjk,if_pos oo_]
   rw [if_neg hjk,if_neg oo_]
  rw [decide_eq_false oo_,cond_false]
  have:k=l.length:=by omega
  subst this;exact ⟨t,rfl,ht,hv⟩
theorem uD (g:Po q d) (hn:q.length=n+1) {r:Nat→Int} {i L j:Nat} (hz:∀ k,L≤k→r k=0) (hi:i+n<L) (hj:L≤j):kO (d n).natAbs (d n).sign d n i r j=0:=by
 unfold kO
 have e:shf d i j=0:=by
  unfold shf;rw [if_pos oo_];exact g.zero oo_
 rw [hz j hj,e,Int.mul_zero,Int.mul_zero];rfl
theorem eA_ {v:Int} (h:cX v):cX (v.natAbs:Int):=by unfold cX at *;rw [Int.natAbs_natCast];exact h
theorem SR (g:Po q d) (hn:q.length=n+1):∀ (m f:Nat) (i:Int) (l:List I) (r:Nat→Int),i=(m:Int) - 1→m<f→(m≤l.length - n)→(∀ j,l.getD j I0=E (Z.of (r j)))→(∀ k,l.length≤k→r k=0) →
  RemB (d n).natAbs (d n).sign d n m r→∃ i' l',dF p q f i l = .inl (i',l')∧l'.length=l.length∧(∀ j,l'.getD j I0=E (Z.of (rD (d n).natAbs (d n).sign d n m r j)))∧(∀ k,l.length≤k→rD (d n).natAbs (d n).sign d n m r k=0)∧∀ k,cX (rD (d n).natAbs (d n).sign d n m r k)
 | m,0,i,l,r,_,hf,_,_,_,_=>absurd hf (Nat.not_lt_zero _)
 | 0,f+1,i,l,r,hi,hf,hm,hl,hz,hB=>by
  unfold dF;rw [decide_eq_false oo_,cond_false];exact ⟨i,l,rfl,rfl,hl,hz,hB⟩
 | m+1,f+1,i,l,r,hi,hf,hm,hl,hz,hB=>by
  unfold dF;rw [decide_eq_true oo_,cond_true];obtain ⟨b1,b2,b3,b4,b5⟩:=hB
  have e:E (Z.mul (Z.of (Z.signW (q.getD (q.length - 1) I0).dec).1) (l.getD (i.toNat+(q.length - 1)) I0).dec)=E (Z.of ((d n).sign*r (m+n))):=by
   have hs:cX (d n).sign:=by
    rcases Int.lt_trichotomy (d n) 0 with h|h|h
    ·rw [Int.sign_eq_neg_one_of_neg h];decide
    ·rw [h];decide
    rw [Int.sign_eq_one_of_pos h];decide
   rw [hn,Nat.add_sub_cancel,g.get,hl,cJ,cJ,j7 (g.B n),show i.toNat=m by omega,n6 hs (b1 _)]
  obtain ⟨t,h1,h2,h3⟩:=SS (p:=p) g hn (i:=m) l (eA_ (g.B n)) b1 b2 b3 b4 b5.B (l.length+1) 0 l oo_ (Nat.zero_le _) O (fun j=>by rw [if_neg (Nat.not_lt_zero _)];exact hl j);simp only;rw [e,show i=(m:Int) by omega,h1]
  have k1:∀ j,t.getD j I0=E (Z.of (kO (d n).natAbs (d n).sign d n m r j)):=fun j=>by
   rw [h3 j]
   split
   ·rfl
   rw [hz j oo_,uD g hn hz oo_ oo_]
  obtain ⟨i',l',a1,a2,a3,a4,a5⟩:=SR g hn m f ((m:Int) - 1) t _ O oo_ oo_ k1 (fun k hk=>uD g hn hz oo_ oo_) b5;exact ⟨i',l',a1,a2.trans h2,a3,fun k hk=>a4 k oo_,a5⟩
theorem VL (h:Po p c) (g:Po q d) (hn:q.length=n+1) (hB:RemB (d n).natAbs (d n).sign d n (p.length - n) c):Po (bD p q) (rD (d n).natAbs (d n).sign d n (p.length - n) c):=by
 unfold bD;rw [h.nb,g.nb,show ((q.length:Int)==0)=false from beq_eq_false_iff_ne.2 oo_,Bool.false_or,Bool.false_or,cond_false,List.nil_append,hn];have hl:=h.l
 have go:∀ i:Int,i=(p.length:Int) - 1 - (((n+1:Nat):Int) - 1)→∃ i' l',dF p q (p.length+1) i p = .inl (i',l')∧l'.length=p.length∧(∀ j,l'.getD j I0=E (Z.of (rD (d n).natAbs (d n).sign d n (p.length - n) c j)))∧(∀ k,p.length≤k→rD (d n).natAbs (d n).sign d n (p.length - n) c k=0)∧∀ k,cX (rD (d n).natAbs (d n).sign d n (p.length - n) c k):=fun i hi=>by
  by_cases hs:n≤p.length
  ·exact SR g hn (p.length - n) (p.length+1) i p c oo_ oo_ (Nat.le_refl _) h.get (fun k hk=>h.zero hk) hB
  have e0:p.length - n=0:=by omega
  rw [e0] at hB ⊢;unfold dF;rw [decide_eq_false oo_,cond_false];exact ⟨i,p,rfl,rfl,h.get,fun k hk=>h.zero hk,h.B⟩
 obtain ⟨i',l',a1,a2,a3,a4,a5⟩:=go _ O;rw [a1]
 show Po (bE l') _
 rw [pJ];exact z6 a3 a5 fun k hk=>a4 k oo_
end
open Go Go.Kn
theorem wF (d:Nat→Int) (m k:Nat):conv d (fun i=>if i=m then 1 else 0) k=shf d m k:=by
 rw [rH];unfold conv shf
 by_cases h:m≤k
 ·rw [if_pos h,GO (a:=m) (fun i hi=>?_) oo_]
  ·show (if m=m then 1 else 0)*d (k - m)=_
   rw [if_pos O,Int.one_mul]
  show (if i=m then 1 else 0)*d (k - i)=_
  rw [if_neg hi,Int.zero_mul]
 rw [if_neg h];refine jY fun i hi=>?_
 show (if i=m then 1 else 0)*d (k - i)=_
 rw [if_neg oo_,Int.zero_mul]
theorem PM (d S:Nat→Int) (m k:Nat) (hS:∀ i,m<i→S i=0):conv d S k=conv d (fun i=>if i<m then S i else 0) k+S m*shf d m k:=by
 have e:conv d (fun i=>S m*(if i=m then 1 else 0)) k=S m*shf d m k:=by rw [← wF,qN]
 rw [← e]
 rw [show conv d S=fun k=>conv d (fun i=>if i<m then S i else 0) k+conv d (fun i=>S m*(if i=m then 1 else 0)) k by
  rw [← AR]
  congr 1
  funext i
  rcases Nat.lt_trichotomy i m with h|h|h
  ·rw [if_pos h,if_neg oo_,Int.mul_zero,Int.add_zero]
  ·rw [if_neg oo_,if_pos h,h,Int.mul_one,Int.zero_add]
  rw [if_neg oo_,if_neg oo_,hS i h,Int.mul_zero];rfl]
theorem GF (v:Int):v.sign*v=(v.natAbs:Int):=by
 rcases Int.lt_trichotomy v 0 with h|h|h
 ·rw [Int.sign_eq_neg_one_of_neg h];omega
 ·subst h;rfl
 rw [Int.sign_eq_one_of_pos h];omega
theorem OQ (v:Int):v.sign.natAbs≤1:=by
 rcases Int.lt_trichotomy v 0 with h|h|h
 ·rw [Int.sign_eq_neg_one_of_neg h];decide
 ·subst h;decide
 rw [Int.sign_eq_one_of_pos h];decide
structure QP where
 c:Nat→Rat
 fs:∃ n,∀ i,n≤i→c i=0
namespace QP
theorem ex {a b:QP} (h:∀ k,a.c k=b.c k):a=b:=by
 obtain ⟨c,_⟩:=a;obtain ⟨d,_⟩:=b;have e:c=d:=funext h;subst e;rfl
instance:Add QP:=⟨fun a b=>⟨fun k=>a.c k+b.c k,by
 obtain ⟨n,h⟩:=a.fs;obtain ⟨m,g⟩:=b.fs
 exact ⟨max n m,fun i hi=>by show a.c i+b.c i=0;rw [h i (by omega),g i (by omega),Rat.add_zero]⟩⟩⟩
instance:Mul QP:=⟨fun a b=>⟨conv a.c b.c,by
 obtain ⟨n,h⟩:=a.fs;obtain ⟨m,g⟩:=b.fs
 exact ⟨n+m,fun i hi=>lQ h g i (by omega)⟩⟩⟩
def M (t:Rat) (j:Nat):QP:=⟨fun k=>if k=j then t else 0,⟨j+1,fun i hi=>if_neg (by omega)⟩⟩
def C (t:Rat):QP:=M t 0
theorem SU {a b:Rat} (ha:a≠0) (hb:b≠0):a*b≠0:=fun h=>by
 rcases Rat.mul_eq_zero.1 h with h1|h1
 ·exact ha h1
 exact hb h1
theorem add_c (a b:QP) (k:Nat):(a+b).c k=a.c k+b.c k:=rfl
theorem mul_c (a b:QP) (k:Nat):(a*b).c k=conv a.c b.c k:=rfl
theorem ME (t:Rat) (j:Nat) (a:QP) (k:Nat):(M t j*a).c k=if j≤k then t*a.c (k - j) else 0:=by
 rw [mul_c];unfold conv
 by_cases h:j≤k
 ·rw [if_pos h,GO (a:=j) (fun i hi=>by show (if i=j then t else 0)*_=0;rw [if_neg hi];exact Rat.zero_mul _) (by omega)]
  show (if j=j then t else 0)*_=_
  rw [if_pos O]
 rw [if_neg h]
 exact jY fun i hi=>by show (if i=j then t else 0)*_=0;rw [if_neg (by omega)];exact Rat.zero_mul _
theorem C_mul (t:Rat) (a:QP) (k:Nat):(C t*a).c k=t*a.c k:=by unfold C;rw [ME,if_pos (Nat.zero_le _),Nat.sub_zero]
theorem C_c (t:Rat) (k:Nat):(C t).c k=if k=0 then t else 0:=rfl
theorem TQ (a b:QP):a+b=b+a:=ex fun k=>Rat.add_comm _ _
theorem mul_comm' (a b:QP):a*b=b*a:=ex fun k=>congrFun (rH a.c b.c) k
theorem mul_assoc' (a b c:QP):a*b*c=a*(b*c):=ex fun k=>congrFun (E0 a.c b.c c.c) k
theorem mul_add' (a b c:QP):a*(b+c)=a*b+a*c:=ex fun k=>congrFun (AR a.c b.c c.c) k
theorem MM (a b c:QP):(a+b)*c=a*c+b*c:=by rw [mul_comm',mul_add',mul_comm' c a,mul_comm' c b]
theorem lc' (a b c:QP):a*(b*c)=b*(a*c):=by rw [← mul_assoc',mul_comm' a b,mul_assoc']
theorem C_C (s t:Rat):C s*C t=C (s*t):=ex fun k=>by
 rw [C_mul,C_c,C_c];split
 ·rfl
 exact Rat.mul_zero _
theorem o8 (a:QP):C 1*a=a:=ex fun k=>by rw [C_mul,Rat.one_mul]
theorem BD (a:QP):a*C 1=a:=by rw [mul_comm',o8]
theorem zG (a:QP):C 0*a=C 0:=ex fun k=>by rw [C_mul,Rat.zero_mul,C_c];split<;>rfl
theorem mul_zero' (a:QP):a*C 0=C 0:=by rw [mul_comm',zG]
theorem C0_c (k:Nat):(C 0).c k=0:=by rw [C_c];split<;>rfl
theorem add_zero' (a:QP):a+C 0=a:=ex fun k=>by rw [add_c,C0_c,Rat.add_zero]
theorem zD (a:QP):C 0+a=a:=by rw [TQ,add_zero']
theorem U3 {a b:QP} (h:a+C (-1)*b=C 0):a=b:=ex fun k=>by
 have e:=congrArg (fun x:QP=>x.c k) h;simp only [add_c,C_mul,C0_c] at e
 grind
def Dg (a:QP) (n:Nat):Prop:=a.c n≠0∧∀ i,n<i→a.c i=0
theorem WT (a:QP):∀ N:Nat,(∀ i,N≤i→a.c i=0)→a=C 0 ∨ ∃ n,n<N∧Dg a n
 | 0,h=>.inl (ex fun k=>by rw [h k (Nat.zero_le _),C0_c])
 | N+1,h=>by
  by_cases h0:a.c N=0
  ·rcases WT a N (fun i hi=>by rcases Nat.lt_or_eq_of_le hi with h1|h1;exact h i h1;rw [← h1];exact h0) with h1|⟨n,h1,h2⟩
   ·exact .inl h1
   exact .inr ⟨n,by omega,h2⟩
  exact .inr ⟨N,by omega,h0,fun i hi=>h i hi⟩
theorem ex_dg {a:QP} (h:a≠C 0):∃ n,Dg a n:=by
 obtain ⟨N,hN⟩:=a.fs;rcases WT a N hN with h1|⟨n,_,h2⟩
 ·exact absurd h1 h
 exact ⟨n,h2⟩
theorem Dg.ne {a:QP} {n:Nat} (h:Dg a n):a≠C 0:=fun e=>h.1 (by rw [e,C0_c])
theorem Dg.un {a:QP} {n m:Nat} (h:Dg a n) (g:Dg a m):n=m:=by
 rcases Nat.lt_trichotomy n m with h1|h1|h1
 ·exact absurd (h.2 _ h1) g.1
 ·exact h1
 exact absurd (g.2 _ h1) h.1
theorem Dg.mul {a b:QP} {n m:Nat} (h:Dg a n) (g:Dg b m):Dg (a*b) (n+m):=by
 refine ⟨?_,fun i hi=>lQ (n:=n+1) (m:=m+1) (fun j hj=>h.2 j hj) (fun j hj=>g.2 j hj) i (by omega)⟩;rw [mul_c,nR h.2 g.2];exact SU h.1 g.1
theorem C_dg {t:Rat} (h:t≠0):Dg (C t) 0:=⟨by rw [C_c,if_pos O];exact h,fun i hi=>by rw [C_c,if_neg (by omega)]⟩
theorem dg_C {a:QP} (h:Dg a 0):a=C (a.c 0):=ex fun k=>by
 rw [C_c];split
 ·next e=>rw [e]
 exact h.2 k (by omega)
theorem mul_ne {a b:QP} (ha:a≠C 0) (hb:b≠C 0):a*b≠C 0:=by
 obtain ⟨n,h⟩:=ex_dg ha;obtain ⟨m,g⟩:=ex_dg hb;exact (h.mul g).ne
theorem mul_can {a b c:QP} (ha:a≠C 0) (h:a*b=a*c):b=c:=by
 apply U3
 apply Classical.byContradiction
 intro hn;refine mul_ne ha hn ?_;rw [mul_add',lc' a (C (-1)),h]
 exact ex fun k=>by rw [add_c,C_mul,C0_c];grind
def Dv (a b:QP):Prop:=∃ h,b=a*h
theorem Dv.refl (a:QP):Dv a a:=⟨C 1,(BD a).symm⟩
theorem Dv.trans {a b c:QP} (h:Dv a b) (g:Dv b c):Dv a c:=by
 obtain ⟨x,hx⟩:=h;obtain ⟨y,hy⟩:=g;exact ⟨x*y,by rw [hy,hx,mul_assoc']⟩
theorem Dv.mul {a b:QP} (h:Dv a b) (c:QP):Dv a (b*c):=h.trans ⟨c,rfl⟩
theorem Dv.mul_l {a b:QP} (h:Dv a b) (c:QP):Dv a (c*b):=by rw [mul_comm'];exact h.mul c
theorem Dv.add {a b c:QP} (h:Dv a b) (g:Dv a c):Dv a (b+c):=by
 obtain ⟨x,hx⟩:=h;obtain ⟨y,hy⟩:=g;exact ⟨x+y,by rw [hx,hy,mul_add']⟩
theorem Dv.zero (a:QP):Dv a (C 0):=⟨C 0,(mul_zero' a).symm⟩
theorem Dv.of_zero {a:QP} (h:Dv (C 0) a):a=C 0:=by obtain ⟨x,hx⟩:=h;rw [hx,zG]
theorem Dv.both {a b:QP} (c:QP) (h:Dv a b):Dv (c*a) (c*b):=by obtain ⟨x,hx⟩:=h;exact ⟨x,by rw [hx,mul_assoc']⟩
theorem Dv.cancel {a b c:QP} (hc:c≠C 0) (h:Dv (c*a) (c*b)):Dv a b:=by
 obtain ⟨x,hx⟩:=h;exact ⟨x,QP.mul_can hc (by rw [hx,mul_assoc'])⟩
theorem Dv.ne {a b:QP} (h:Dv a b) (hb:b≠C 0):a≠C 0:=fun e=>hb (by rw [e] at h;exact h.of_zero)
theorem Dv.scale {a b:QP} {t:Rat} (ht:t≠0) (h:Dv a (C t*b)):Dv a b:=by
 obtain ⟨x,hx⟩:=h;refine ⟨C t⁻¹*x,?_⟩;rw [lc' a,← hx,← mul_assoc',C_C,Rat.inv_mul_cancel _ ht,o8]
theorem C_dv {t:Rat} (ht:t≠0) (a:QP):Dv (C t*a) a:=⟨C t⁻¹,by rw [mul_comm' _ (C t⁻¹),← mul_assoc',C_C,Rat.inv_mul_cancel _ ht,o8]⟩
theorem dI_ {a:QP} (h:Dg a 0) (b:QP):Dv a b:=by
 refine ⟨C (a.c 0)⁻¹*b,?_⟩
 conv=>rhs;rw [dg_C h]
 rw [show (C (a.c 0)).c 0=a.c 0 from rfl,← mul_assoc',C_C,Rat.mul_inv_cancel _ h.1,o8]
theorem Dv.dg {a b:QP} {n m:Nat} (h:Dv a b) (ha:Dg a n) (hb:Dg b m):n≤m:=by
 obtain ⟨x,hx⟩:=h;have h0:x≠C 0:=fun e=>hb.ne (by rw [hx,e,mul_zero']);obtain ⟨l,hl⟩:=ex_dg h0;have:=(ha.mul hl).un (hx ▸ hb);omega
theorem Dv.same {a b:QP} {n:Nat} (h:Dv a b) (ha:Dg a n) (hb:Dg b n):∃ t,t≠0∧b=C t*a:=by
 obtain ⟨x,hx⟩:=h;have h0:x≠C 0:=fun e=>hb.ne (by rw [hx,e,mul_zero']);obtain ⟨l,hl⟩:=ex_dg h0;have:=(ha.mul hl).un (hx ▸ hb)
 obtain rfl:l=0:=by omega
 exact ⟨x.c 0,hl.1,by rw [hx,mul_comm',dg_C hl];rfl⟩
theorem Dv.back {a b:QP} {n:Nat} (h:Dv a b) (ha:Dg a n) (hb:Dg b n):Dv b a:=by
 obtain ⟨t,ht,e⟩:=h.same ha hb;rw [e];exact C_dv ht a
theorem RG {b:QP} {n:Nat} (hb:Dg b n):∀ (N:Nat) (a:QP),(∀ i,N≤i→a.c i=0)→∃ q r:QP,a=b*q+r∧∀ i,n≤i→r.c i=0
 | 0,a,h=>⟨C 0,a,by rw [mul_zero',zD],fun i _=>h i (Nat.zero_le _)⟩
 | N+1,a,h=>by
  by_cases hn:N<n
  ·exact ⟨C 0,a,by rw [mul_zero',zD],fun i hi=>h i (by omega)⟩
  obtain ⟨q,r,h1,h2⟩:=RG hb N (a+M (-(a.c N / b.c n)) (N - n)*b) (fun i hi=>by
   rw [add_c,ME,if_pos (by omega)];rcases Nat.lt_or_eq_of_le hi with h3|h3
   ·rw [h i h3,hb.2 (i - (N - n)) (by omega)];grind
   rw [← h3,show N - (N - n)=n by omega];have:=hb.1
   grind)
  refine ⟨q+M (a.c N / b.c n) (N - n),r,?_,h2⟩;refine ex fun k=>?_;have e:=congrArg (fun x:QP=>x.c k) h1;simp only [add_c,ME] at e;rw [mul_add',mul_comm' b (M _ _),add_c,add_c,ME]
  split at e
  ·next h3=>rw [if_pos h3];grind
  ·next h3=>rw [if_neg h3];grind
theorem bez:∀ (N:Nat) (a b:QP),(∀ i,N≤i→b.c i=0)→∃ g u v:QP,g=u*a+v*b∧Dv g a∧Dv g b:=by
 intro N
 induction N using Nat.strongRecOn with
 | _ N ih =>
  intro a b h;rcases WT b N h with h0|⟨n,hn,hb⟩
  ·exact ⟨a,C 1,C 0,by rw [zG,add_zero',o8],.refl a,by rw [h0];exact .zero a⟩
  obtain ⟨M,hM⟩:=a.fs;obtain ⟨q,r,h1,h2⟩:=RG hb M a hM;obtain ⟨g,u,v,h3,h4,h5⟩:=ih n hn b r h2;refine ⟨g,v,u+C (-1)*(v*q),?_,by rw [h1];exact (h4.mul q).add h5,h4⟩;rw [h3,h1,mul_add',MM,mul_assoc' (C (-1)),mul_assoc' v q b,mul_comm' q b]
  exact ex fun k=>by simp only [add_c,C_mul];grind
theorem bezout (a b:QP):∃ g u v:QP,g=u*a+v*b∧Dv g a∧Dv g b:=by
 obtain ⟨N,hN⟩:=b.fs;exact bez N a b hN
def Irr (h:QP):Prop:=∃ n,1≤n∧Dg h n∧∀ d,Dv d h→Dg d 0∨Dg d n
theorem Irr.ne {h:QP} (i:Irr h):h≠C 0:=by obtain ⟨n,_,hd,_⟩:=i;exact hd.ne
theorem W7:∀ (n:Nat) (p:QP),Dg p n→1≤n→∃ h,Irr h∧Dv h p:=by
 intro n
 induction n using Nat.strongRecOn with
 | _ n ih =>
  intro p hp hn
  by_cases hx:∃ d,Dv d p∧¬ Dg d 0∧¬ Dg d n
  ·obtain ⟨d,h1,h2,h3⟩:=hx
   obtain ⟨m,hm⟩:=ex_dg (h1.ne hp.ne);have:=h1.dg hm hp;have m0:m≠0:=fun e=>h2 (e ▸ hm);have mn:m≠n:=fun e=>h3 (e ▸ hm);obtain ⟨h,hi,hd⟩:=ih m (by omega) d hm (by omega);exact ⟨h,hi,hd.trans h1⟩
  refine ⟨p,⟨n,hn,hp,fun d hd=>?_⟩,.refl p⟩
  apply Classical.byContradiction
  intro hc;exact hx ⟨d,hd,fun e=>hc (.inl e),fun e=>hc (.inr e)⟩
theorem Irr.prime {h a b:QP} (i:Irr h) (hd:Dv h (a*b)):Dv h a∨Dv h b:=by
 obtain ⟨n,hn,hh,hi⟩:=i;obtain ⟨g,u,v,h1,h2,h3⟩:=bezout h a;rcases hi g h2 with h4|h4
 ·right
  have e:C (g.c 0)*b=h*(u*b)+v*(a*b):=by
   rw [← dg_C h4,h1,MM,mul_assoc',mul_assoc',lc' u]
  refine Dv.scale h4.1 (t:=g.c 0) ?_;rw [e];exact (Dv.mul (.refl h) _).add (hd.mul_l v)
 exact .inl ((h2.back h4 hh).trans h3)
def D (a:QP):QP:=⟨fun k=>((k+1:Nat):Rat)*a.c (k+1),by
 obtain ⟨n,h⟩:=a.fs
 exact ⟨n,fun i hi=>by show _*a.c (i+1)=0;rw [h _ (by omega),Rat.mul_zero]⟩⟩
theorem D_c (a:QP) (k:Nat):(D a).c k=((k+1:Nat):Rat)*a.c (k+1):=rfl
theorem MA (a b:QP):D (a*b)=D a*b+a*D b:=ex fun k=>by
 rw [D_c,add_c,mul_c,mul_c,mul_c];unfold conv;rw [← rB]
 have e:fY (fun i=>((k+1:Nat):Rat)*(a.c i*b.c (k+1 - i))) (k+1+1)=fY (fun i=>(i:Rat)*(a.c i*b.c (k+1 - i))+((k+1 - i:Nat):Rat)*(a.c i*b.c (k+1 - i))) (k+1+1):=gA fun i hi=>by
  have:((k+1:Nat):Rat)=(i:Rat)+((k+1 - i:Nat):Rat):=by rw [← Rat.natCast_add];congr 1;omega
  rw [this,Rat.add_mul]
 rw [e,yM]
 congr 1
 ·rw [wW]
  rw [show ((0:Nat):Rat)=0 from rfl,Rat.zero_mul,Rat.zero_add]
  exact gA fun i hi=>by rw [D_c,show k+1 - (i+1)=k - i by omega,Rat.mul_assoc]
 show fY _ (k+1)+((k+1 - (k+1):Nat):Rat)*_=_
 rw [show k+1 - (k+1)=0 by omega,show ((0:Nat):Rat)=0 from rfl,Rat.zero_mul,Rat.add_zero]
 exact gA fun i hi=>by rw [D_c,show k+1 - i=k - i+1 by omega];grind
theorem fZ_ {a:QP} {n:Nat} (h:Dg a (n+1)):Dg (D a) n:=by
 refine ⟨?_,fun i hi=>by rw [D_c,h.2 _ (by omega),Rat.mul_zero]⟩;rw [D_c];refine SU (fun e=>?_) h.1;have:((n+1:Nat):Rat)=((0:Nat):Rat):=e;rw [Rat.natCast_inj] at this;omega
theorem Irr.nD {h:QP} (i:Irr h):¬ Dv h (D h):=by
 obtain ⟨n,hn,hh,_⟩:=i;obtain ⟨m,rfl⟩:∃ m,n=m+1:=⟨n - 1,by omega⟩;intro hd;have:=hd.dg hh (fZ_ hh);omega
def pow (a:QP):Nat→QP
 | 0=>C 1
 | n+1=>a*pow a n
theorem YW {a:QP} (h:a≠C 0):∀ n,pow a n≠C 0
 | 0=>(C_dg (by decide)).ne
 | n+1=>mul_ne h (YW h n)
theorem KV (a:QP) (m:Nat):∀ n,pow a (m+n)=pow a m*pow a n
 | 0=>(BD _).symm
 | n+1=>by show a*pow a (m+n)=pow a m*(a*pow a n);rw [KV a m n,lc']
theorem bO_ (h m:QP):∀ e:Nat,D (pow h (e+1)*m)=pow h e*(C ((e+1:Nat):Rat)*(D h*m)+h*D m)
 | 0=>by
  show D (h*C 1*m)=C 1*(C 1*(D h*m)+h*D m)
  rw [BD,MA,o8,o8]
 | e+1=>by
  rw [show pow h (e+1+1)*m=h*(pow h (e+1)*m) from mul_assoc' _ _ _,MA,bO_ h m e,lc' (D h),← mul_assoc' h (pow h e),show h*pow h e=pow h (e+1) from rfl,← mul_add']
  congr 1
  refine ex fun k=>?_;simp only [add_c,C_mul];rw [show ((e+1+1:Nat):Rat)=((e+1:Nat):Rat)+1 by rw [Rat.natCast_add];rfl]
  grind
theorem aV_ {h:QP} (i:Irr h):∀ (n:Nat) (P:QP),Dg P n→∃ e m,P=pow h e*m∧¬ Dv h m:=by
 intro n
 induction n using Nat.strongRecOn with
 | _ n ih =>
  intro P hP
  by_cases hd:Dv h P
  ·obtain ⟨x,hx⟩:=hd
   have x0:x≠C 0:=fun e=>hP.ne (by rw [hx,e,mul_zero']);obtain ⟨l,hl⟩:=ex_dg x0;obtain ⟨k,hk,hh,_⟩:=i;have:=(hh.mul hl).un (hx ▸ hP);obtain ⟨e,m,h1,h2⟩:=ih l (by omega) x hl;exact ⟨e+1,m,by rw [hx,h1];exact (mul_assoc' _ _ _).symm,h2⟩
  exact ⟨0,P,(o8 P).symm,hd⟩
theorem sqf_part {P G F:QP} (hP:P≠C 0) (hF:P=G*F) (hD:Dv G (D P)) (hG:∀ d,Dv d P→Dv d (D P)→Dv d G) {h:QP} (i:Irr h):(Dv h P→Dv h F)∧¬ Dv (h*h) F:=by
 obtain ⟨n,hn⟩:=ex_dg hP;obtain ⟨e,m,he,hm⟩:=aV_ i n P hn
 cases e with
 | zero =>
  have hnP:¬ Dv h P:=fun hd=>hm (by rw [he] at hd;rwa [show pow h 0*m=m from o8 m] at hd);refine ⟨fun hd=>absurd hd hnP,fun hd=>hnP ?_⟩;rw [hF];exact ((show Dv h (h*h) from ⟨h,rfl⟩).trans hd).mul_l G
 | succ e =>
  have e1:((e+1:Nat):Rat)≠0:=fun x=>by
   have:((e+1:Nat):Rat)=((0:Nat):Rat):=x;rw [Rat.natCast_inj] at this;omega
  have hK:¬ Dv h (C ((e+1:Nat):Rat)*(D h*m)+h*D m):=fun hd=>by
   have h1:Dv h (C ((e+1:Nat):Rat)*(D h*m)):=by
    obtain ⟨x,hx⟩:=hd;refine ⟨x+C (-1)*D m,?_⟩;rw [mul_add',← hx,lc' h]
    exact ex fun k=>by simp only [add_c,C_mul];grind
   rcases i.prime (h1.scale e1) with h2|h2
   ·exact i.nD h2
   exact hm h2
  have hDP:D P=pow h e*(C ((e+1:Nat):Rat)*(D h*m)+h*D m):=by rw [he,bO_]
  have hPe:P=pow h e*(h*m):=by rw [he];show h*pow h e*m=_;rw [mul_comm' h,mul_assoc']
  obtain ⟨G1,hG1⟩:=hG (pow h e) ⟨_,hPe⟩ ⟨_,hDP⟩;have p0:=YW i.ne e
  have nG:¬ Dv h G1:=fun hd=>hK (by
   refine Dv.cancel p0 ?_;rw [← hDP];refine Dv.trans (Dv.both _ hd) ?_
   rw [← hG1];exact hD)
  have hmF:h*m=G1*F:=mul_can p0 (by rw [← hPe,hF,hG1,mul_assoc'])
  have hF1:Dv h F:=by
   rcases i.prime (show Dv h (G1*F) from ⟨m,hmF.symm⟩) with h1|h1
   ·exact absurd h1 nG
   exact h1
  refine ⟨fun _=>hF1,fun hd=>?_⟩;obtain ⟨F2,hF2⟩:=hd;refine hm ⟨G1*F2,mul_can i.ne ?_⟩;rw [hmF,hF2,mul_assoc',lc' G1,lc' G1]
theorem dvd_pow {P F:QP} (hd:∀ h,Irr h→Dv h P→Dv h F):∀ (n:Nat) (R:QP),Dg R n→Dv R P→Dv R (pow F n):=by
 intro n
 induction n using Nat.strongRecOn with
 | _ n ih =>
  intro R hR hP
  cases n with
  | zero=>exact dI_ hR _
  | succ n =>
   obtain ⟨h,hi,hh⟩:=W7 _ R hR (by omega);obtain ⟨x,hx⟩:=hh;have x0:x≠C 0:=fun e=>hR.ne (by rw [hx,e,mul_zero']);obtain ⟨l,hl⟩:=ex_dg x0;have hi':=hi;obtain ⟨k,hk,hdk,_⟩:=hi';have hs:=(hdk.mul hl).un (hx ▸ hR);have h1:=ih l (by omega) x hl ((show Dv x R from ⟨h,by rw [hx,mul_comm']⟩).trans hP);have h2:Dv h F:=hd h hi ((show Dv h R from ⟨x,hx⟩).trans hP);obtain ⟨y,hy⟩:=h2;obtain ⟨z,hz⟩:=h1;rw [hx,show n+1=1+l+(n - l) by omega,KV,KV];refine Dv.mul ⟨y*z,?_⟩ _
   show F*C 1*pow F l=_
   rw [BD,hz,mul_assoc',lc' x]
   conv=>lhs;rw [hy]
   rw [mul_assoc']
theorem sqf_co {F:QP} (hs:∀ h,Irr h→¬ Dv (h*h) F) {d:QP} {n:Nat} (h1:Dv d F) (h2:Dv d (D F)) (hd:Dg d n):n=0:=by
 cases n with
 | zero=>rfl
 | succ n =>
  obtain ⟨h,hi,hh⟩:=W7 _ d hd (by omega);obtain ⟨x,hx⟩:=hh.trans h1;obtain ⟨y,hy⟩:=hh.trans h2
  have:Dv h (D h*x):=by
   refine ⟨y+C (-1)*D x,?_⟩
   have e:D F=D h*x+h*D x:=by rw [hx,MA]
   rw [mul_add',← hy,lc' h,e]
   exact ex fun k=>by simp only [add_c,C_mul];grind
  rcases hi.prime this with h3|h3
  ·exact absurd h3 hi.nD
  obtain ⟨z,hz⟩:=h3;exact absurd ⟨z,by rw [hx,hz,mul_assoc']⟩ (hs h hi)
end QP
def Cop (c:Nat→Int):Prop:=∀ u:Int,(∀ k,u ∣ c k)→u ∣ 1
theorem R2 {p:Nat→Prop} (h:∃ k,p k):∃ k,p k∧∀ j,j<k→¬ p j:=by
 obtain ⟨k,hk⟩:=h
 induction k using Nat.strongRecOn with
 | _ k ih =>
  by_cases hx:∃ j,j<k∧p j
  ·obtain ⟨j,h1,h2⟩:=hx
   exact ih j h1 h2
  exact ⟨k,hk,fun j h1 h2=>hx ⟨j,h1,h2⟩⟩
def Pri (u:Int):Prop:=∀ x y:Int,u ∣ x*y→u ∣ x∨u ∣ y
theorem dh_ {u:Nat} (h:2≤u):∃ p:Nat,2≤p∧p ∣ u∧Pri p:=by
 obtain ⟨p,⟨h1,h2⟩,h3⟩:=R2 (p:=fun k=>2≤k∧k ∣ u) ⟨u,h,Nat.dvd_refl u⟩;refine ⟨p,h1,h2,fun x y hd=>?_⟩
 have cd:∀ z:Int,(p:Int) ∣ z ↔ p ∣ z.natAbs:=fun z=>by rw [← Int.natAbs_dvd_natAbs,Int.natAbs_natCast]
 rw [cd] at hd ⊢;rw [cd];rw [Int.natAbs_mul] at hd;have g1:Nat.gcd p x.natAbs ∣ p:=Nat.gcd_dvd_left ..;have g2:Nat.gcd p x.natAbs ∣ x.natAbs:=Nat.gcd_dvd_right ..;have g3:0<Nat.gcd p x.natAbs:=Nat.gcd_pos_of_pos_left _ (by omega)
 by_cases hg:Nat.gcd p x.natAbs=1
 ·exact .inr (Nat.Coprime.dvd_of_dvd_mul_left hg hd)
 left
 have g4:=Nat.le_of_dvd (by omega) g1;have:¬ Nat.gcd p x.natAbs<p:=fun hl=>h3 _ hl ⟨by omega,Nat.dvd_trans g1 h2⟩
 rwa [show Nat.gcd p x.natAbs=p by omega] at g2
theorem gq_:Pri 0:=fun x y h=>by
 rw [Int.zero_dvd] at h ⊢;rw [Int.zero_dvd];exact Int.mul_eq_zero.1 h
theorem LS {u:Int} {f:Nat→Int}:∀ {n:Nat},(∀ t,t<n→u ∣ f t)→u ∣ fY f n
 | 0,_=>Int.dvd_zero u
 | n+1,h=>Int.dvd_add (LS fun t ht=>h t (by omega)) (h n (by omega))
theorem S6 {u:Int} {f:Nat→Int} {a:Nat}:∀ {n:Nat},(∀ t,t<n→t≠a→u ∣ f t)→a<n→u ∣ fY f n→u ∣ f a
 | 0,_,ha,_=>absurd ha (Nat.not_lt_zero _)
 | n+1,h,ha,hs=>by
  by_cases hn:n=a
  ·subst hn
   exact (Int.dvd_add_right (LS fun t ht=>h t (by omega) (by omega))).1 hs
  exact S6 (fun t ht=>h t (by omega)) (by omega) ((Int.dvd_add_left (h n (by omega) hn)).1 hs)
theorem SH {u:Int} (hu:Pri u) {c d:Nat→Int} (hc:¬ ∀ k,u ∣ c k) (h:∀ k,u ∣ conv c d k):∀ k,u ∣ d k:=by
 apply Classical.byContradiction
 intro hd;obtain ⟨i,hi,hi'⟩:=R2 (p:=fun k=>¬ u ∣ c k) (Classical.byContradiction fun hx=>hc fun k=>Classical.byContradiction fun hk=>hx ⟨k,hk⟩);obtain ⟨j,hj,hj'⟩:=R2 (p:=fun k=>¬ u ∣ d k) (Classical.byContradiction fun hx=>hd fun k=>Classical.byContradiction fun hk=>hx ⟨k,hk⟩)
 have h1:u ∣ c i*d (i+j - i):=S6 (f:=fun t=>c t*d (i+j - t)) (a:=i) (n:=i+j+1) (fun t ht hn=>by
  rcases Nat.lt_or_gt_of_ne hn with h2|h2
  ·exact Int.dvd_mul_of_dvd_left (Classical.not_not.1 (hi' t h2)) ..
  exact Int.dvd_mul_of_dvd_right (Classical.not_not.1 (hj' (i+j - t) (by omega))) ..) (by omega) (h (i+j))
 rw [show i+j - i=j by omega] at h1;rcases hu _ _ h1 with h2|h2
 ·exact hi h2
 exact hj h2
theorem RE {c:Nat→Int} (hc:Cop c):∀ (u:Nat) (d:Nat→Int),(∀ k,(u:Int) ∣ conv c d k)→∀ k,(u:Int) ∣ d k:=by
 intro u
 induction u using Nat.strongRecOn with
 | _ u ih =>
  intro d h
  by_cases h0:u=0
  ·subst h0
   exact SH gq_ (fun hx=>by have:=hc 0 hx;omega) h
  by_cases h1:u=1
  ·subst h1
   exact fun k=>Int.one_dvd _
  obtain ⟨p,hp,⟨v,hv⟩,hpp⟩:=dh_ (show 2≤u by omega);subst hv
  have v0:0<v:=by
   rcases Nat.eq_zero_or_pos v with h2|h2
   ·subst h2;omega
   exact h2
  have hlt:v<p*v:=by have:=Nat.mul_le_mul_right v hp;omega
  have hd:∀ k,(p:Int) ∣ d k:=SH hpp (fun hx=>by
   have h2:=hc p hx;have:=Int.le_of_dvd (by decide) h2
   omega) fun k=>Int.dvd_trans (by rw [Int.natCast_mul];exact Int.dvd_mul_right ..) (h k)
  have hd':∀ k,d k=(p:Int)*(d k / p):=fun k=>(Int.mul_ediv_cancel' (hd k)).symm
  have e:conv c d=fun k=>(p:Int)*conv c (fun i=>d i / p) k:=by
   rw [← qN];congr 1;exact funext hd'
  intro k;rw [hd' k,Int.natCast_mul];refine Int.mul_dvd_mul_left _ (ih v hlt (fun i=>d i / p) (fun k=>?_) k);have h3:=h k;rw [e,Int.natCast_mul] at h3;exact Int.dvd_of_mul_dvd_mul_left (by omega) h3
theorem WP {c d:Nat→Int} (hc:Cop c) {u:Int} (h:∀ k,u ∣ conv c d k):∀ k,u ∣ d k:=fun k=>by
 have:=RE hc u.natAbs d (fun k=>Int.natAbs_dvd.2 (h k)) k;exact Int.natAbs_dvd.1 this
theorem b4_ {c d:Nat→Int} (hc:Cop c) (hd:Cop d):Cop (conv c d):=fun u h=>hd u (WP hc h)
theorem WO (c:Nat→Int) (y:Int) (k:Nat):conv c (fun i=>if i=0 then y else 0) k=c k*y:=by
 unfold conv
 show fY _ k+c k*(if k - k=0 then y else 0)=_
 rw [jY fun i hi=>by show c i*(if k - i=0 then y else 0)=0;rw [if_neg (by omega),Int.mul_zero],Nat.sub_self,if_pos O,Int.zero_add]
def mE (c:Nat→Int):Prop:=∃ n,∀ i,n≤i→c i=0
def ZP (c:Nat→Int) (h:mE c):QP:=⟨cR c,by obtain ⟨n,h⟩:=h;exact ⟨n,fun i hi=>by unfold cR;rw [h i hi];rfl⟩⟩
theorem kU (c:Nat→Int) (h:mE c) (k:Nat):(ZP c h).c k=(c k:Rat):=rfl
theorem yX {c d:Nat→Int} (h:mE c) (g:mE d):mE (conv c d):=by
 obtain ⟨n,h⟩:=h;obtain ⟨m,g⟩:=g;exact ⟨n+m,fun i hi=>lQ h g i (by omega)⟩
theorem M7 {c:Nat→Int} (h:mE c) (t:Int):mE (fun k=>t*c k):=by
 obtain ⟨n,h⟩:=h;exact ⟨n,fun i hi=>by show t*c i=0;rw [h i hi,Int.mul_zero]⟩
theorem W4 {c d:Nat→Int} (h:mE c) (g:mE d):mE (fun k=>c k+d k):=by
 obtain ⟨n,h⟩:=h;obtain ⟨m,g⟩:=g;exact ⟨max n m,fun i hi=>by show c i+d i=0;rw [h i (by omega),g i (by omega)];rfl⟩
theorem pH {c d:Nat→Int} (h:mE c) (g:mE d):ZP (conv c d) (yX h g)=ZP c h*ZP d g:=QP.ex fun k=>congrFun (CA c d) k
theorem cY_ {c:Nat→Int} (h:mE c) (t:Int):ZP (fun k=>t*c k) (M7 h t)=QP.C t*ZP c h:=QP.ex fun k=>by rw [QP.C_mul,kU,kU,Rat.intCast_mul]
theorem ML {c d:Nat→Int} (h:mE c) (g:mE d) (e:∀ k,c k=d k):ZP c h=ZP d g:=QP.ex fun k=>by rw [kU,kU,e]
theorem eI_ {c:Nat→Int} {h:mE c} {n:Nat} (g:QP.Dg (ZP c h) n):c n≠0∧∀ i,n<i→c i=0 :=
 ⟨fun e=>g.1 (by rw [kU,e];rfl),fun i hi=>Rat.intCast_eq_zero_iff.1 (g.2 i hi)⟩
theorem WK (H:Nat→Rat):∀ n:Nat,∃ m:Nat,0<m∧∀ k,k<n→∃ t:Int,(t:Rat)=(m:Rat)*H k
 | 0=>⟨1,Nat.one_pos,fun k hk=>absurd hk (Nat.not_lt_zero _)⟩
 | n+1=>by
  obtain ⟨m,hm,h⟩:=WK H n;refine ⟨m*(H n).den,Nat.mul_pos hm (H n).den_pos,fun k hk=>?_⟩;rw [Rat.natCast_mul];rcases Nat.lt_or_eq_of_le (Nat.le_of_lt_succ hk) with h1|h1
  ·obtain ⟨t,ht⟩:=h k h1
   exact ⟨t*(H n).den,by rw [Rat.intCast_mul,ht];show _*(((H n).den:Nat):Rat)=_;grind⟩
  subst h1
  have e:(((H k).den:Nat):Rat)*H k=(((H k).num:Int):Rat):=by rw [Rat.mul_comm];exact y5 _
  exact ⟨m*(H k).num,by rw [Rat.intCast_mul,Rat.mul_assoc,e];rfl⟩
theorem zY {c a:Nat→Int} (hc:Cop c) (ec:mE c) (ea:mE a) (h:QP.Dv (ZP c ec) (ZP a ea)):∃ S:Nat→Int,mE S∧∀ k,a k=conv c S k:=by
 obtain ⟨H,hH⟩:=h;obtain ⟨n,hn⟩:=H.fs;obtain ⟨m,m0,hm⟩:=WK H.c n
 have hT:∀ k,∃ t:Int,(t:Rat)=(m:Rat)*H.c k:=fun k=>by
  by_cases hk:k<n
  ·exact hm k hk
  exact ⟨0,by rw [hn k (by omega),Rat.mul_zero];rfl⟩
 have hT':=Classical.axiomOfChoice hT;obtain ⟨T,hT'⟩:=hT'
 have e1:∀ k,(m:Int)*a k=conv c T k:=fun k=>by
  apply Rat.intCast_inj.1
  have e2:=congrArg (fun x:QP=>(m:Rat)*x.c k) hH;simp only [kU,QP.mul_c] at e2;rw [Rat.intCast_mul,show ((conv c T k:Int):Rat)=cR (conv c T) k from rfl,CA,show cR T=fun i=>(m:Rat)*H.c i from funext hT',qN];exact e2
 have e3:=RE hc m T (fun k=>⟨a k,(e1 k).symm⟩);refine ⟨fun k=>T k / m,⟨n,fun k hk=>?_⟩,fun k=>?_⟩
 ·have:T k=0:=Rat.intCast_inj.1 (by rw [hT',hn k hk,Rat.mul_zero];rfl)
  show T k / m=0
  rw [this,Int.zero_ediv]
 refine Int.eq_of_mul_eq_mul_left (show (m:Int)≠0 by omega) ?_;have e4:=congrFun (qN (m:Int) c (fun i=>T i / m)) k;rw [e1 k,← e4];exact congrFun (congrArg (conv c) (funext fun i=>(Int.mul_ediv_cancel' (e3 i)).symm)) k
open Go Go.Kn
section
variable {a o:Int} {d:Nat→Int} {n:Nat}
theorem UW (t:Int) (i:Nat) (r:Nat→Int):kO a o d n i (fun k=>t*r k)=fun k=>t*kO a o d n i r k:=funext fun k=>by unfold kO;grind
theorem OK (t:Int):∀ (m:Nat) (r:Nat→Int),rD a o d n m (fun k=>t*r k)=fun k=>t*rD a o d n m r k
 | 0,r=>rfl
 | m+1,r=>by
  show rD a o d n m (kO a o d n m fun k=>t*r k)=_
  rw [UW,OK t m];rfl
theorem IR (ho:o*d n=a) (hd:∀ i,n<i→d i=0) {m:Nat} {r:Nat→Int} (hr:∀ k,m+1+n≤k→r k=0):∀ k,m+n≤k→kO a o d n m r k=0:=fun k hk=>by
 unfold kO shf;rcases Nat.lt_or_eq_of_le hk with h|h
 ·rw [hr k oo_,if_pos oo_,hd (k - m) oo_];grind
 rw [← h,if_pos oo_,show m+n - m=n by omega,← ho];grind
theorem CV (ho:o*d n=a) (hd:∀ i,n<i→d i=0):∀ (m:Nat) (r:Nat→Int),(∀ k,m+n≤k→r k=0)→∀ k,n≤k→rD a o d n m r k=0
 | 0,r,h=>fun k hk=>h k oo_
 | m+1,r,h=>CV ho hd m _ (IR ho hd h)
theorem UY (d:Nat→Int) (m:Nat) (t:Int):conv d (fun i=>t*(if i=m then 1 else 0))=fun k=>t*shf d m k:=by
 rw [qN];exact funext fun k=>by rw [wF]
theorem EK:∀ (m:Nat) (r:Nat→Int),∃ Q,mE Q∧∀ k,a ^ m*r k=conv d Q k+rD a o d n m r k
 | 0,r=>⟨fun _=>0,⟨0,fun _ _=>rfl⟩,fun k=>by
  rw [show conv d (fun _=>0) k=0 from jY fun i _=>Int.mul_zero _,Int.pow_zero,Int.one_mul,Int.zero_add];rfl⟩
 | m+1,r=>by
  obtain ⟨Q,hQ,h⟩:=EK m (kO a o d n m r);refine ⟨fun i=>Q i+(a ^ m*o*r (m+n))*(if i=m then 1 else 0),W4 hQ ⟨m+1,fun i hi=>by show _*(if i=m then 1 else 0)=0;rw [if_neg oo_,Int.mul_zero]⟩,fun k=>?_⟩;have h1:=h k;rw [AR,UY]
  show _=_+rD a o d n m (kO a o d n m r) k
  unfold kO at h1 ⊢;rw [Int.pow_succ]
  grind
theorem PK (s:Nat→Int) (m:Nat) (ρ:Nat→Int) (k:Nat):conv s (kO a o d n m ρ) k=a*conv s ρ k + -(o*ρ (m+n))*conv s (shf d m) k:=by
 have e:kO a o d n m ρ=fun i=>(a*ρ i)+(-(o*ρ (m+n))*shf d m i):=funext fun i=>by unfold kO;grind
 rw [e,AR,qN,qN]
theorem IL {s:Nat→Int} {ds:Nat} {sa os:Int} (hs:∀ i,ds<i→s i=0) (hso:os*s ds=sa) (ho:o*d n=a) (hd:∀ i,n<i→d i=0) :
  ∀ (m:Nat) (ρ:Nat→Int),(∀ k,m+n≤k→ρ k=0)→rD (sa*a) (os*o) (conv s d) (ds+n) m (conv s ρ)=fun k=>sa ^ m*conv s (rD a o d n m ρ) k
 | 0,ρ,_=>funext fun k=>by rw [Int.pow_zero,Int.one_mul];rfl
 | m+1,ρ,h=>by
  have e:kO (sa*a) (os*o) (conv s d) (ds+n) m (conv s ρ)=fun k=>sa*conv s (kO a o d n m ρ) k:=funext fun k=>by
   rw [PK];unfold kO;rw [show m+(ds+n)=ds+(m+n) by omega,nR hs (m:=m+n) (fun i hi=>h i oo_),← wF (conv s d),E0,show conv d (fun i=>if i=m then 1 else 0)=shf d m from funext fun i=>wF d m i,← hso]
   grind
  show rD _ _ _ _ m (kO _ _ _ _ m _)=_
  rw [e,OK,IL hs hso ho hd m _ (IR ho hd h)]
  funext k
  show sa*(sa ^ m*conv s (rD a o d n m (kO a o d n m ρ)) k)=sa ^ (m+1)*conv s (rD a o d n m (kO a o d n m ρ)) k
  rw [Int.pow_succ];grind
theorem ON {B R:Nat} (ha:a.natAbs≤B) (ho:o.natAbs≤1) (hd:∀ k,(d k).natAbs≤B) {r:Nat→Int} (hr:∀ k,(r k).natAbs≤R) (i k:Nat):(kO a o d n i r k).natAbs≤2*B*R:=by
 unfold kO
 have h1:(a*r k).natAbs≤B*R:=by rw [Int.natAbs_mul];exact Nat.mul_le_mul ha (hr k)
 have h2:(o*r (i+n)*shf d i k).natAbs≤B*R:=by
  have h3:(shf d i k).natAbs≤B:=by
   unfold shf;split
   ·exact hd _
   exact Nat.zero_le _
  rw [Int.natAbs_mul,Int.natAbs_mul,Nat.mul_comm B];refine Nat.mul_le_mul ?_ h3;have:=Nat.mul_le_mul ho (hr (i+n));omega
 have e:2*B*R=B*R+B*R:=by rw [Nat.mul_assoc,Nat.two_mul]
 omega
theorem LA {B:Nat} (ha:a.natAbs≤B) (ho:o.natAbs≤1) (hd:∀ k,(d k).natAbs≤B):∀ (m R:Nat) (r:Nat→Int),(∀ k,(r k).natAbs≤R)→∀ k,(rD a o d n m r k).natAbs≤(2*B) ^ m*R
 | 0,R,r,h=>fun k=>by rw [Nat.pow_zero,Nat.one_mul];exact h k
 | m+1,R,r,h=>fun k=>by
  have:=LA ha ho hd m _ _ (ON (n:=n) ha ho hd h m) k;rw [Nat.pow_succ,Nat.mul_assoc];exact this
theorem JE {B:Nat} (hB:1≤B) (ha:a.natAbs≤B) (ho:o.natAbs≤1) (hd:∀ k,(d k).natAbs≤B):∀ (m R:Nat) (r:Nat→Int),(∀ k,(r k).natAbs≤R)→(2*B) ^ m*R<4294967296 ^ 16→RemB a o d n m r
 | 0,R,r,h,hb=>fun k=>Nat.lt_of_le_of_lt (h k) (by rwa [Nat.pow_zero,Nat.one_mul] at hb)
 | m+1,R,r,h,hb=>by
  rw [Nat.pow_succ,Nat.mul_assoc] at hb;have h1:1≤(2*B) ^ m:=Nat.pow_pos oo_;have h2:=Nat.mul_le_mul_right (2*B*R) h1;have h3:=Nat.mul_le_mul_right R hB
  have e:2*B*R=B*R+B*R:=by rw [Nat.mul_assoc,Nat.two_mul]
  have ho':(o*r (m+n)).natAbs≤R:=by
   rw [Int.natAbs_mul];have:=Nat.mul_le_mul ho (h (m+n));omega
  refine ⟨fun k=>?_,?_,fun k=>?_,fun k=>?_,JE hB ha ho hd m _ _ (ON ha ho hd h m) hb⟩
  ·have:=h k
   unfold cX;omega
  ·unfold cX;omega
  ·have:(a*r k).natAbs≤B*R:=by rw [Int.natAbs_mul];exact Nat.mul_le_mul ha (h k)
   unfold cX;omega
  have:(o*r (m+n)*d k).natAbs≤B*R:=by rw [Int.natAbs_mul,Nat.mul_comm B];exact Nat.mul_le_mul ho' (hd k)
  unfold cX;omega
theorem D4 {c e:Nat→Int} {N A B:Nat} (hc:∀ k,(c k).natAbs≤A) (he:∀ k,(e k).natAbs≤B) (hz:∀ i,N≤i→c i=0) (k:Nat):(conv c e k).natAbs≤N*(A*B):=by
 unfold conv
 have ht:∀ i,(c i*e (k - i)).natAbs≤A*B:=fun i=>by rw [Int.natAbs_mul];exact Nat.mul_le_mul (hc i) (he _)
 by_cases h:N≤k+1
 ·rw [nY (n:=N) (fun i hi=>by rw [hz i hi,Int.zero_mul]) (k+1) h]
  exact LT ht N
 exact Nat.le_trans (LT ht _) (Nat.mul_le_mul_right _ oo_)
theorem MX {c e:Nat→Int} {N M A B:Nat} (hc:∀ k,(c k).natAbs≤A) (he:∀ k,(e k).natAbs≤B) (hz:∀ i,N<i→c i=0) (hy:∀ i,M<i→e i=0) (k:Nat):(conv c e k).natAbs≤(min N M+1)*(A*B):=by
 by_cases h:N≤M
 ·rw [show min N M=N by omega]
  exact D4 hc he (fun i hi=>hz i oo_) k
 rw [show min N M=M by omega,rH,Nat.mul_comm A];exact D4 he hc (fun i hi=>hy i oo_) k
end
def okT (S ds G:Nat):Nat→Nat→Nat→Nat→Nat→Bool
 | 0,_,_,_,_=>false
 | f+1,n0,n1,M0,M1=>decide (M0≤G)&&decide (M1≤G)&&(List.range (n1+1)).all fun n =>
  decide (1≤(min ds n+1)*(S*(if n=0 then 1 else M1)))&&decide ((2*((min ds n+1)*(S*(if n=0 then 1 else M1)))) ^ (n0+1 - n)*((min ds n0+1)*(S*M0))<4294967296 ^ 16)&&(decide (n=0)||okT S ds G f n (n - 1) (if n=0 then 1 else M1) (if n=1 then 1 else (2*(if n=0 then 1 else M1)) ^ (n0+1 - n)*M0))
structure Pr (c:Nat→Int) (n M:Nat):Prop where
 z:∀ i,n<i→c i=0
 b:∀ k,(c k).natAbs≤M
 p:Cop c ∨ ∀ k,c k=0
theorem Pr.e {c:Nat→Int} {n M:Nat} (h:Pr c n M):mE c:=⟨n+1,fun i hi=>h.z i hi⟩
theorem Po.top {p:List I} {c:Nat→Int} (h:Po p c) (h0:p≠[]):∃ n,p.length=n+1∧c n≠0∧∀ i,n<i→c i=0:=by
 obtain ⟨n,hn⟩:∃ n,p.length=n+1:=⟨p.length - 1,by have:=List.length_pos_iff.2 h0;omega⟩;exact ⟨n,hn,h.last hn,fun i hi=>h.zero oo_⟩
theorem Po.ends {p:List I} {c:Nat→Int} (h:Po p c):mE c:=⟨p.length,fun i hi=>h.zero hi⟩
theorem GU {c:Nat→Int} (h:mE c):(∀ k,c k=0) ∨ ∃ n,c n≠0∧∀ i,n<i→c i=0:=by
 by_cases h0:ZP c h=QP.C 0
 ·left
  intro k;have e:=congrArg (fun x:QP=>x.c k) h0;simp only [kU,QP.C0_c] at e;exact Rat.intCast_eq_zero_iff.1 e
 obtain ⟨n,hn⟩:=QP.ex_dg h0;exact .inr ⟨n,eI_ hn⟩
theorem Po.len_top {p:List I} {c:Nat→Int} (h:Po p c) {n:Nat} (h0:c n≠0) (h1:∀ i,n<i→c i=0):p.length=n+1:=by
 have h2:p.length≤n+1:=h.short fun k hk=>h1 k hk;have h3:¬ p.length≤n:=fun hx=>h0 (h.zero hx);omega
theorem oF {c d:Nat→Int} (h:∀ k,d k=0) (k:Nat):conv c d k=0:=jY fun i _=>by rw [h,Int.mul_zero]
theorem CC {c:Nat→Int} (h:Cop c):¬ ∀ k,c k=0:=fun hz=>by
 have:=h 0 fun k=>by rw [hz];exact Int.dvd_refl 0
 exact absurd (Int.zero_dvd.1 this) dd_
theorem CB {c:Nat→Int} (h:Cop c) (hz:∀ i,0<i→c i=0):(c 0).natAbs=1:=by
 have:=h (c 0) fun k=>by
  rcases Nat.eq_zero_or_pos k with e|e
  ·rw [e];exact Int.dvd_refl _
  rw [hz k e];exact Int.dvd_zero _
 have h2:(c 0).natAbs ∣ 1:=Int.natAbs_dvd_natAbs.2 this;exact Nat.dvd_one.1 h2
theorem CD {s c:Nat→Int} (h:Cop (conv s c)):Cop c:=fun u hu=>h u fun k=>LS fun i _=>Int.dvd_trans (hu _) (Int.dvd_mul_left ..)
theorem DB {s c d:Nat→Int} (hs:Cop s) (es:mE s) (ec:mE c) (ed:mE d) (h:∀ k,conv s c k=conv s d k):∀ k,c k=d k:=by
 have hne:ZP s es≠QP.C 0:=fun e=>CC hs fun k=>by
  have e1:=congrArg (fun x:QP=>x.c k) e;simp only [kU,QP.C0_c] at e1;exact Rat.intCast_eq_zero_iff.1 e1
 have h1:ZP s es*ZP c ec=ZP s es*ZP d ed:=by rw [← pH,← pH];exact ML _ _ h
 intro k;have e1:=congrArg (fun x:QP=>x.c k) (QP.mul_can hne h1);simp only [kU] at e1;exact Rat.intCast_inj.1 e1
end Go.Num
