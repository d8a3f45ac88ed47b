/- Lemmas: what they ask stands in their statements. -/
import Derived.Test.YtcjoflcajgaifaaGreatDoorMGa
set_option linter.unusedSimpArgs false
set_option linter.unusedVariables false
namespace Go.Num
open Go Go.Kn
theorem I0_E:I0=E (Z.of 0):=rfl
theorem vI0:vI I0=0:=WJ B0
theorem MP {u v:Int} (hu:cM u) (hv:cM v):Z.sub (Z.of u) (Z.of v)=Z.of (u - v):=by
 rw [Z.sub,RO hv,z9 hu (show (-v).natAbs<_ by rw [Int.natAbs_neg];exact hv),Int.sub_eq_add_neg]
theorem SJ {u:Int} (hu:cM u):Z.abs (Z.of u)=Z.of (u.natAbs:Nat):=by rw [Z.abs,kI (Z.of_some hu)]
structure Po (p:List I) (c:Nat→Int):Prop where
 g:p.all gdI=true
 s:jV p=p
 l:p.length≤25
 c:∀ k,vI (p.getD k I0)=c k
section
variable {p q:List I} {c d:Nat→Int}
theorem Po.rgt (h:Po p c):Rgt p:=.inr ⟨h.g,h.s,h.l⟩
theorem GS (h:Rgt p) (hg:p.all gdI=true):Po p (fun k=>vI (p.getD k I0)):=by
 rcases h with rfl|h
 ·rw [eE] at hg;cases hg
 exact ⟨h.1,h.2.1,h.2.2,fun _=>rfl⟩
theorem TE (h:p.all gdI=true) (k:Nat):gdI (p.getD k I0)=true:=by
 by_cases hk:k<p.length
 ·rw [show p.getD k I0=p[k] by simp [List.getD,hk]]
  exact List.all_eq_true.1 h _ (List.getElem_mem hk)
 rw [lO oo_];exact LB B0
theorem Po.get (h:Po p c) (k:Nat):p.getD k I0=E (Z.of (c k)):=by rw [← h.c k];exact (z5 (TE h.g k)).1
theorem Po.B (h:Po p c) (k:Nat):cM (c k):=by rw [← h.c k];exact (z5 (TE h.g k)).2
theorem Po.zero (h:Po p c) {k:Nat} (hk:p.length≤k):c k=0:=by rw [← h.c k,lO hk,vI0]
theorem Po.last (h:Po p c) {n:Nat} (hn:p.length=n+1):c n≠0:=by
 rcases n4 p with rfl|⟨m,x,rfl⟩
 ·cases hn
 have h1:=AP h.s
 have h2:n=m.length:=by simp at hn;omega
 have h3:=h.get n;rw [show (m++[x]).getD n I0=x by simp [h2]] at h3;rw [h3,a1_ (h.B n)] at h1;exact of_decide_eq_false h1
theorem Po.short (h:Po p c) {n:Nat} (hz:∀ k,n≤k→c k=0):p.length≤n:=by
 rcases Nat.lt_or_ge n p.length with g|g
 ·exact absurd (hz (p.length - 1) oo_) (h.last oo_)
 exact g
theorem Po.eq (h:Po p c) (g:Po q c):p=q:=by
 have e:p.length=q.length:=Nat.le_antisymm (h.short fun k hk=>g.zero hk) (g.short fun k hk=>h.zero hk);refine List.ext_getElem e fun k h1 h2=>?_;have a:=h.get k;rw [← g.get k] at a
 simpa [List.getD,h1,h2] using a
theorem Po.cast (h:Po p c) (e:∀ k,c k=d k):Po p d:=⟨h.g,h.s,h.l,fun k=>(h.c k).trans (e k)⟩
theorem B9:Po [] (fun _=>0):=⟨rfl,rfl,by decide,fun k=>by rw [show ([]:List I).getD k I0=I0 by simp];exact vI0⟩
theorem Po.nil (h:Po p c) (hz:∀ k,c k=0):p=[]:=(h.cast hz).eq B9
theorem B2:∀ (n:Nat) (l:List I),l.length≤n→∀ k,(jV l).length≤k→zrI (l.getD k I0)=true
 | 0,l,h,k,_=>by
  rw [lO oo_];exact zr0
 | n+1,l,h,k,hk=>by
  rcases n4 l with rfl|⟨m,x,rfl⟩
  ·rw [show ([]:List I).getD k I0=I0 by simp];exact zr0
  rw [pG] at hk
  cases hx:zrI x
  ·rw [hx,cond_false] at hk
   rw [lO hk];exact zr0
  rw [hx,cond_true] at hk;rcases Nat.lt_trichotomy k m.length with g|g|g
  ·rw [show (m++[x]).getD k I0=m.getD k I0 by simp [List.getD,List.getElem?_append_left g]]
   exact B2 n m (by simp at h;omega) k hk
  ·rw [show (m++[x]).getD k I0=x by simp [g]];exact hx
  rw [lO (by simp;omega)];exact zr0
theorem AJ {l:List I} (h:∀ k,l.getD k I0=E (Z.of (c k))) (hB:∀ k,cM (c k)) (hz:∀ k,25≤k→c k=0):Po (mkP l) c:=by
 have hg:l.all gdI=true:=List.all_eq_true.2 fun x hx=>by
  obtain ⟨k,hk,rfl⟩:=List.getElem_of_mem hx;have e:=h k;rw [show l.getD k I0=l[k] by simp [List.getD,hk]] at e;rw [e];exact LB (hB k)
 have hl:(jV l).length≤25:=yX _ l (Nat.le_refl _) fun j hj=>by rw [h j,hz j hj];exact zr0
 have e:mkP l=jV l:=by unfold mkP;rw [hg,cond_true,if_pos hl]
 rw [e];refine ⟨JK hg,G6 l,hl,fun k=>?_⟩
 by_cases hk:k<(jV l).length
 ·have e2:(jV l).getD k I0=l.getD k I0:=by
   rw [wY l];simp only [List.getD,List.getElem?_take,hk,if_true]
  rw [e2,h k,WJ (hB k)]
 have:=B2 _ l (Nat.le_refl _) k oo_;rw [h k,a1_ (hB k)] at this;rw [lO oo_,vI0,of_decide_eq_true this]
theorem B4 (f:Nat→I) (n k:Nat):((List.range n).map f).getD k I0=if k<n then f k else I0:=by
 by_cases h:k<n<;>simp [List.getD,h]
theorem MW {f:Nat→I} {n:Nat} (h:∀ k,k<n→f k=E (Z.of (c k))) (h0:∀ k,n≤k→c k=0) (hB:∀ k,cM (c k)) (hz:∀ k,25≤k→c k=0):Po (mkP ((List.range n).map f)) c:=by
 refine AJ (fun k=>?_) hB hz;rw [B4]
 split
 ·exact h k ‹_›
 rw [h0 k oo_];rfl
theorem Po.l3 (h:Po p c):p.length≤1000:=Nat.le_trans h.l dd_
theorem MC (h:Rgt p):p.length≤1000:=Nat.le_trans (ME h) dd_
theorem Po.nb (h:Po p c):aP p=false:=by rw [lY h.l3,h.g];rfl
theorem EM {e:Nat→Int} {f:I→I→I} (h:Po p c) (g:Po q d) (hf:∀ k,f (E (Z.of (c k))) (E (Z.of (d k)))=E (Z.of (e k))) (hB:∀ k,cM (e k)) (h0:∀ k,c k=0→d k=0→e k=0):Po (eB p q f) e:=by
 rw [rP f h.l3 g.l3,h.g,g.g,Bool.and_true,cond_true];have hl:=h.l;have gl:=g.l;refine MW (fun k _=>?_) (fun k hk=>?_) hB (fun k hk=>?_)
 ·rw [h.get,g.get,hf]
 ·exact h0 k (h.zero oo_) (g.zero oo_)
 exact h0 k (h.zero oo_) (g.zero oo_)
theorem dA_ (h:Po p c) (g:Po q d) (hB:∀ k,cM (c k+d k)):Po (kF p q) (fun k=>c k+d k) :=
 EM h g (fun k=>by rw [bR,bR,z9 (h.B k) (g.B k)]) hB (fun k h1 h2=>by rw [h1,h2];rfl)
theorem NA {a:Int} (h:Po p c) (ha:cM a) (hB:∀ k,cM (c k*a)):Po (bP p (E (Z.of a))) (fun k=>c k*a):=by
 unfold bP;rw [show mF (E (Z.of a))=true from LB ha,cond_true];exact EM h B9 (fun k=>by unfold l6;rw [bR,bR,kY (h.B k) ha]) hB (fun k h1 _=>by rw [h1,Int.zero_mul])
theorem ID (h:Po p c) (hB:∀ k,cM (((k+1:Nat):Int)*c (k+1))):Po (aD p) (fun k=>((k+1:Nat):Int)*c (k+1)):=by
 have hl:=h.l;unfold aD;rw [h.nb,cond_false,oT];refine MW (fun k hk=>?_) (fun k hk=>?_) hB (fun k hk=>?_)
 ·unfold jS
  rw [h.get,bR,kY (show ((k+1:Nat):Int).natAbs<4294967296 ^ 16 from Nat.lt_of_lt_of_le (show _<4294967296 by omega) (Nat.le_self_pow dd_ _)) (h.B _)];rfl
 ·rw [h.zero oo_,Int.mul_zero]
 rw [h.zero oo_,Int.mul_zero]
theorem ZQ (h:Po p c) (g:Po q d) (k:Nat) (hs:∀ t,cM (fF (fun i=>c i*d (k - i)) t)) (hm:∀ i j,cM (c i*d j)) :
  ∀ (t i:Nat),k+1 - i<t→i≤k+1→(fN k q p t i (E (Z.of (fF (fun i=>c i*d (k - i)) i)))).2=E (Z.of (conv c d k))
 | 0,i,ht,_=>absurd ht (Nat.not_lt_zero _)
 | t+1,i,ht,hi=>by
  unfold fN;have e:∀ a b,a≤b→p.length≤a→fF (fun i=>c i*d (k - i)) b=fF (fun i=>c i*d (k - i)) a:=fun a b hab hpa =>
   nB (fun j hj=>by rw [h.zero oo_,Int.zero_mul]) b hab
  by_cases hk:(i:Int)≤min (k:Int) ((p.length:Int) - 1)
  ·rw [decide_eq_true hk,cond_true,h.get,g.get,bR,bR,bR,kY (h.B _) (g.B _),z9 (hs _) (hm _ _)]
   exact ZQ h g k hs hm t (i+1) oo_ oo_
  rw [decide_eq_false hk,cond_false]
  show E (Z.of _)=E (Z.of (fF _ (k+1)))
  rcases Nat.lt_or_ge i (k+1) with h1|h1
  ·rw [← e i (k+1) oo_ oo_]
  rw [show i=k+1 by omega]
theorem dK_ (h:Po p c) (g:Po q d) (hs:∀ k t,cM (fF (fun i=>c i*d (k - i)) t)) (hm:∀ i j,cM (c i*d j)) (hl:p.length+q.length≤26):Po (fV p q) (conv c d):=by
 unfold fV;rw [h.nb,g.nb,Bool.or_false,cond_false]
 by_cases h0:p=[]
 ·subst h0
  rw [show (((([]:List I).length:Int)==0)||((q.length:Int)==0))=true by simp,cond_true];exact B9.cast fun k=>Eq.symm (jL fun i _=>by rw [h.zero (Nat.zero_le _),Int.zero_mul])
 by_cases g0:q=[]
 ·subst g0
  rw [show (((p.length:Int)==0)||((([]:List I).length:Int)==0))=true by simp,cond_true];refine B9.cast fun k=>Eq.symm (jL fun i _=>?_);rw [g.zero (Nat.zero_le _),Int.mul_zero]
 have h1:0<p.length:=List.length_pos_iff.2 h0;have h2:0<q.length:=List.length_pos_iff.2 g0
 rw [show (((p.length:Int)==0)||((q.length:Int)==0))=false by
  rw [Bool.or_eq_false_iff];exact ⟨beq_eq_false_iff_ne.2 oo_,beq_eq_false_iff_ne.2 oo_⟩,cond_false,oT]
 have hz:∀ k,p.length+q.length≤k+1→conv c d k=0:=fun k hk=>kU (fun i hi=>h.zero hi) (fun i hi=>g.zero hi) k hk;refine MW (fun k _=>?_) (fun k hk=>hz k oo_) (fun k=>hs k (k+1)) (fun k hk=>hz k oo_);unfold kO
 show (fN _ _ _ _ _ _).2=_
 rw [show I0=E (Z.of (fF (fun i=>c i*d (k - i)) ((k:Int) - (q.length:Int)+1).toNat)) by
  rw [jL fun i hi=>by rw [g.zero oo_,Int.mul_zero]];rfl]
 exact ZQ h g k (hs k) hm _ _ oo_ oo_
theorem a2_ {v:Int} {k:Nat} (m:Nat) (hm:4294967296 ^ 16=2 ^ m) (h:v.natAbs<2 ^ k) (hk:k≤m):cM v:=by
 unfold cM;rw [hm];exact Nat.lt_of_lt_of_le h (Nat.pow_le_pow_right dd_ hk)
theorem pP {v:Int} {k:Nat} (h:v.natAbs<2 ^ k) (hk:k≤512):cM v:=a2_ 512 MY h hk
structure Bd (c:Nat→Int) (n b:Nat):Prop where
 z:∀ k,n≤k→c k=0
 b:∀ k,(c k).natAbs<2 ^ b
variable {n m b b':Nat}
theorem Bd.mono (h:Bd c n b) {n' b1:Nat} (hn:n≤n') (hb:b≤b1):Bd c n' b1:=⟨fun k hk=>h.z k oo_,fun k=>Nat.lt_of_lt_of_le (h.b k) (Nat.pow_le_pow_right dd_ hb)⟩
theorem Bd.B (h:Bd c n b) (hb:b≤512) (k:Nat):cM (c k):=pP (h.b k) hb
theorem Bd.add (h:Bd c n b) (g:Bd d m b):Bd (fun k=>c k+d k) (max n m) (b+1) :=
 ⟨fun k hk=>by show c k+d k=0;rw [h.z k oo_,g.z k oo_];rfl,fun k=>by
  show (c k+d k).natAbs<_
  have h1:=h.b k;have h2:=g.b k;have h3:=Int.natAbs_add_le (c k) (d k)
  rw [Nat.pow_succ];omega⟩
theorem oX {u v:Int} (h:u.natAbs<2 ^ b) (g:v.natAbs<2 ^ b'):(u*v).natAbs<2 ^ (b+b'):=by
 rw [Int.natAbs_mul,Nat.pow_add];exact Nat.mul_lt_mul_of_lt_of_le h (Nat.le_of_lt g) (Nat.pow_pos dd_)
theorem MR {f:Nat→Int} {A:Nat} (h:∀ i,(f i).natAbs≤A):∀ t:Nat,(fF f t).natAbs≤t*A
 | 0=>by simp [fF]
 | t+1=>by
  have h1:=MR h t;have h2:=h t;have h3:=Int.natAbs_add_le (fF f t) (f t);rw [Nat.succ_mul];show (fF f t+f t).natAbs≤_;omega
theorem aF_ {f:Nat→Int} {e:Nat} (h:∀ i,(f i).natAbs<2 ^ b) (hz:∀ i,n≤i→f i=0) (hn:n≤2 ^ e) (t:Nat):(fF f t).natAbs<2 ^ (b+e):=by
 have hb:0<2 ^ b:=Nat.pow_pos dd_
 have k1:∀ t,t≤n→(fF f t).natAbs<2 ^ (b+e):=fun t ht=>by
  have h1:=MR (f:=f) (A:=2 ^ b - 1) (fun i=>by have:=h i;omega) t;have h2:t*(2 ^ b - 1)≤2 ^ e*(2 ^ b - 1):=Nat.mul_le_mul_right _ oo_;have h3:2 ^ e*(2 ^ b - 1)<2 ^ e*2 ^ b:=Nat.mul_lt_mul_of_pos_left oo_ (Nat.pow_pos dd_);rw [Nat.pow_add,Nat.mul_comm (2 ^ b)];omega
 rcases Nat.lt_or_ge n t with g|g
 ·rw [nB hz t oo_];exact k1 n (Nat.le_refl _)
 exact k1 t g
theorem IO (h:Bd c n b) (g:Bd d m b') {e:Nat} (hn:n≤2 ^ e) (k t:Nat):(fF (fun i=>c i*d (k - i)) t).natAbs<2 ^ (b+b'+e) :=
 aF_ (n:=n) (fun i=>oX (h.b _) (g.b _)) (fun i hi=>by rw [h.z i hi,Int.zero_mul]) hn t
theorem Bd.conv (h:Bd c n b) (g:Bd d m b') {e:Nat} (hn:n≤2 ^ e):Bd (conv c d) (n+m - 1) (b+b'+e) :=
 ⟨fun k hk=>kU h.z g.z k oo_,fun k=>IO h g hn k (k+1)⟩
theorem Po.len (h:Po p c) (hb:Bd c n b):p.length≤n:=h.short hb.z
theorem dJ_ (h:Po p c) (g:Po q d) (hb:Bd c n b) (gb:Bd d m b') {e:Nat} (hn:n≤2 ^ e) (hl:n+m≤26) (hk:b+b'+e≤512):Po (fV p q) (conv c d) :=
 dK_ h g (fun k t=>pP (IO hb gb hn k t) hk) (fun i j=>pP (oX (hb.b i) (gb.b j)) oo_) (by have:=h.len hb;have:=g.len gb;omega)
theorem bo_ {v:Int} (hv:cM v) {b:Int} (h:(Z.bitsW (Z.of v)).1≤b):v.natAbs<2 ^ b.toNat:=by
 have h1:((Z.of v).bits:Int)≤b:=h;unfold Z.bits at h1;rw [Z.of_some hv] at h1;simp only at h1;exact Nat.lt_of_lt_of_le (E8 _) (Nat.pow_le_pow_right dd_ oo_)
theorem N8 (p:List I) (a b:Int):∀ (k i:Nat),p.length - i<k→(sm (fun _:Nat=>true) (fun r=>r) (fW p a b k i))=true→∀ j,i≤j→j<p.length→(Z.bitsW (p.getD j I0).dec).1≤b
 | 0,i,h,_,_,_,_=>absurd h (Nat.not_lt_zero _)
 | k+1,i,h,hs,j,hj,hl=>by
  unfold fW at hs;rw [decide_eq_true (show (i:Int)<(p.length:Int) by omega),cond_true] at hs
  by_cases hb:b<(Z.bitsW (p.getD i I0).dec).1
  ·rw [decide_eq_true hb] at hs;cases hs
  rw [decide_eq_false hb,cond_false] at hs;rcases Nat.lt_or_ge i j with g|g
  ·exact N8 p a b k (i+1) oo_ hs j oo_ hl
  rw [show j=i by omega];omega
theorem N7 {a b:Int} (h:dS p a b=true) (hg:p.all gdI=true):∃ c,Po p c∧Bd c (a+1).toNat b.toNat:=by
 have h1:=YG (p:=p) (d:=a) (b:=b) (by rw [h];rfl);have h2:=IX h;have hp:=GS h1.1 hg;refine ⟨_,hp,fun k hk=>hp.zero oo_,fun k=>?_⟩
 by_cases hk:k<p.length
 ·unfold dS at h
  rw [h2.1,decide_eq_false oo_] at h;have h3:=N8 p a b _ 0 oo_ h k oo_ hk;rw [hp.get k,bR] at h3;exact bo_ (hp.B k) h3
 show (vI (p.getD k I0)).natAbs<_
 rw [lO oo_,vI0];exact Nat.pow_pos dd_
theorem SE (hp:p.length≤1000) (hq:q.length≤1000) (h:p.all gdI=false∨q.all gdI=false):kF p q=badp:=by
 unfold kF;rw [rP _ hp hq,show (p.all gdI&&q.all gdI)=false by rcases h with h|h<;>simp [h]];rfl
theorem SH (hp:p.length≤1000) (hq:q.length≤1000) (h:p.all gdI=false∨q.all gdI=false):fV p q=badp:=by
 unfold fV;rw [lY hp,lY hq,show (!p.all gdI || !q.all gdI)=true by rcases h with h|h<;>simp [h]];rfl
end
open Go Go.Kn
theorem KU {u g:Int} (hu:cM u) (hg:0<g):cM (u / g):=by
 unfold cM at *;have h1:=Int.mul_ediv_add_emod u g;have h2:=Int.emod_nonneg u (by omega:g≠0);have h3:=Int.emod_lt_of_pos u hg
 have h4:(u / g).natAbs≤u.natAbs:=by
  rcases Int.lt_or_le u 0 with h|h
  ·have h5:u / g<0:=Int.ediv_neg_of_neg_of_pos h hg
   have h6:u≤u / g:=by
    have h7:g*(u / g)≤u / g:=by
     have:=Int.mul_le_mul_of_nonpos_right (show (1:Int)≤g by omega) (Int.le_of_lt h5);omega
    have h8:u<g*(u / g)+g:=by omega
    rcases Int.lt_or_le u (g*(u / g)) with h9|h9
    ·omega
    have h10:(g - 1)*(u / g) ≤ -(g - 1):=by
     have:=Int.mul_le_mul_of_nonneg_left (show u / g ≤ -1 by omega) (show 0≤g - 1 by omega);omega
    have h11:g*(u / g)=(g - 1)*(u / g)+u / g:=by rw [Int.sub_mul];omega
    omega
   omega
  have h5:0≤u / g:=Int.ediv_nonneg h oo_;have h6:u / g≤u:=Int.ediv_le_self _ h;omega
 omega
theorem KV {u g:Int} (hg:0<g) (hb:cM g):cM (u % g):=by
 unfold cM at *;have h2:=Int.emod_nonneg u (by omega:g≠0);have h3:=Int.emod_lt_of_pos u hg;omega
theorem UA {u v:Int} (hu:cM u) (hv:cM v) (h:0<v):Z.rem (Z.of u) (Z.of v)=Z.of (u % v):=by
 rw [Z.rem,eM (Z.of_some hu) (Z.of_some hv),if_neg oo_,Int.fmod_eq_emod_of_nonneg _ oo_]
theorem wQ {u v:Int} (hu:cM u) (hv:cM v) (h:0<v):Z.quo (Z.of u) (Z.of v)=Z.of (u / v):=by
 rw [C0 hu hv oo_,FN h]
theorem KP {u v:Int} (hu:cM u) (hv:cM v):(Z.cmpW (Z.of u) (Z.of v)).1=(u - v).sign:=by
 show Z.cmp _ _=_
 unfold Z.cmp;rw [Z.of_some hu,Z.of_some hv];simp only;rcases Int.lt_trichotomy u v with h|h|h
 ·rw [A6 h,Int.sign_eq_neg_one_of_neg oo_]
 ·subst h;rw [KN,Int.sub_self];rfl
 rw [A5 h,Int.sign_eq_one_of_pos oo_]
theorem AS {n:Int} (h:-4≤n∧n≤4):IntKind.i64.wrap n=n:=wi ⟨by omega,by omega⟩
theorem BY (x:Int):-1≤x.sign∧x.sign≤1:=by
 rcases Int.lt_trichotomy x 0 with h|h|h
 ·rw [Int.sign_eq_neg_one_of_neg h];omega
 ·subst h;decide
 rw [Int.sign_eq_one_of_pos h];omega
theorem dg_ {o x:W} (ho:o.1=1∨o.1 = -1) (hx:-2≤x.1∧x.1≤2):(W.mul o x).1=o.1*x.1:=by
 show IntKind.i64.wrap (o.1*x.1)=_
 refine AS ?_;rcases ho with h|h<;>rw [h]<;>omega
theorem dh_ {o:W} (ho:o.1=1∨o.1 = -1):(W.neg o).1 = -o.1:=by
 show IntKind.i64.wrap (0 - o.1)=_
 rw [AS oo_];omega
theorem av_ {b d p r s:Int} (hb:0<b) (hd:0<d) (h0:p≠0) (hr:0≤r) (hrb:r<b) (hs:0≤s) (hsd:s<d):(b*d*p+(r*d - s*b)).sign=p.sign:=by
 have hbd:0<b*d:=Int.mul_pos hb hd;have h1:r*d<b*d:=Int.mul_lt_mul_of_pos_right hrb hd;have h2:s*b<d*b:=Int.mul_lt_mul_of_pos_right hsd hb;have h3:0≤r*d:=Int.mul_nonneg hr oo_;have h4:0≤s*b:=Int.mul_nonneg hs oo_;rw [Int.mul_comm d b] at h2;rcases Int.lt_trichotomy p 0 with h|h|h
 ·rw [Int.sign_eq_neg_one_of_neg h,Int.sign_eq_neg_one_of_neg]
  have:b*d*p≤b*d*(-1):=Int.mul_le_mul_of_nonneg_left oo_ oo_;omega
 ·exact absurd h h0
 rw [Int.sign_eq_one_of_pos h,Int.sign_eq_one_of_pos];have:b*d*1≤b*d*p:=Int.mul_le_mul_of_nonneg_left oo_ oo_;omega
theorem bv_:∀ (k:Nat) (o:W) (a b c d:Int),b.toNat≤k→0<b→0<d→cM a→cM b→cM c→cM d→(o.1=1∨o.1 = -1) →
  (cf k o (E (Z.of a)) (E (Z.of b)) (E (Z.of c)) (E (Z.of d))).1=o.1*(a*d - c*b).sign:=by
 intro k
 induction k with
 | zero=>intro o a b c d hk hb;omega
 | succ k ih =>
  intro o a b c d hk hb hd ha hb' hc hd' ho;unfold cf;simp only [bR];rw [wQ ha hb' hb,wQ hc hd' hd,UA ha hb' hb,UA hc hd' hd,iQ (KV hb hb'),iQ (KV hd hd'),KP (KU ha hb) (KU hc hd)];have e1:=Int.mul_ediv_add_emod a b;have e2:=Int.mul_ediv_add_emod c d;have r1:=Int.emod_nonneg a (by omega:b≠0);have r2:=Int.emod_lt_of_pos a hb;have s1:=Int.emod_nonneg c (by omega:d≠0);have s2:=Int.emod_lt_of_pos c hd;have hrB:=KV (u:=a) hb hb';have hsB:=KV (u:=c) hd hd';have hpB:=KU ha hb;have hqB:=KU hc hd;generalize hp:a / b=p at *;generalize hr:a % b=r at *;generalize hq:c / d=q at *;generalize hs:c % d=s at *
  have key:a*d - c*b=b*d*(p - q)+(r*d - s*b):=by
   rw [← e1,← e2];grind
  rw [key]
  by_cases hpq:p=q
  ·have h1:(p - q).sign=0:=by rw [hpq,Int.sub_self];rfl
   have h2:b*d*(p - q)+(r*d - s*b)=r*d - s*b:=by rw [hpq];grind
   rw [h1,h2];have h3:((0:Int) != 0)=false:=rfl;rw [h3];simp only [cond_false]
   by_cases h0:r=0∨s=0
   ·have h4:((r.sign==0)||(s.sign==0))=true:=by
     rcases h0 with h|h<;>subst h<;>simp
    rw [h4];simp only [cond_true];have h5:=BY r;have h6:=BY s
    have e5:(W.sub (Z.signW (Z.of r)) (Z.signW (Z.of s))).1=r.sign - s.sign:=by
     show IntKind.i64.wrap ((Z.signW (Z.of r)).1 - (Z.signW (Z.of s)).1)=_
     rw [iQ hrB,iQ hsB];exact AS oo_
    rw [dg_ ho (by rw [e5];omega),e5]
    congr 1
    rcases h0 with h|h
    ·subst h
     rw [Int.zero_mul,Int.zero_sub,Int.sign_neg,Int.sign_mul,Int.sign_eq_one_of_pos hb];simp
    subst h;rw [Int.zero_mul,Int.sub_zero,Int.sign_mul,Int.sign_eq_one_of_pos hd];simp
   have hr0:0<r:=by omega
   have hs0:0<s:=by omega
   have h4:((r.sign==0)||(s.sign==0))=false:=by
    rw [Int.sign_eq_one_of_pos hr0,Int.sign_eq_one_of_pos hs0];rfl
   rw [h4];simp only [cond_false];rw [ih _ _ _ _ _ oo_ hr0 hs0 hb' hrB hd' hsB (by rw [dh_ ho];omega),dh_ ho]
   have:b*s - d*r = -(r*d - s*b):=by grind
   rw [this,Int.sign_neg,Int.neg_mul_neg]
  have h1:((p - q).sign != 0)=true:=by
   rcases Int.lt_trichotomy (p - q) 0 with h|h|h
   ·rw [Int.sign_eq_neg_one_of_neg h];rfl
   ·omega
   rw [Int.sign_eq_one_of_pos h];rfl
  rw [h1];simp only [cond_true];rw [dg_ ho (by rw [KP hpB hqB];have:=BY (p - q);omega),KP hpB hqB];rw [av_ hb hd oo_ r1 r2 s1 s2]
theorem d0_ {d:Int} (h:cM d):cfN (E (Z.of d))=d.toNat:=by
 unfold cfN;rw [bR,Z.of_some h]
theorem y9 {a:Rt} {n d:Int} (h:a.Is n d):bH a=true:=fq_.2 ⟨n,d,h⟩
theorem dE_ {a b:Rt} {n d m e:Int} (ha:a.Is n d) (hb:b.Is m e):(e9 a b).1=(n*e - m*d).sign:=by
 unfold e9;rw [hJ,hJ,y9 ha,y9 hb];simp only [Bool.not_true,Bool.and_false,cond_true,cond_false];rw [ha.en,ha.ed,hb.en,hb.ed,d0_ ha.hd,bv_ _ _ _ _ _ _ (Nat.le_refl _) ha.pos hb.pos ha.hn ha.hd hb.hn hb.hd (.inl O)];exact Int.one_mul _
theorem SG (a b:W):mK a b=nQ a b:=rfl
theorem WR (a b:Rt):aH a b=kK a b:=by unfold aH kK;rw [EZ,QO,SG]
theorem dM_ {a:Rt} {n d:Int} (h:a.Is n d):Rt.Is (iR a) (-n) d:=by
 have e:iR a=⟨E (Z.of (-n)),E (Z.of d)⟩:=by
  unfold iR;rw [y9 h,h.en,h.ed,bR,RO h.hn];rfl
 rw [e];refine ⟨rfl,rfl,?_,h.hd,h.pos,by rw [Int.neg_gcd];exact h.cop⟩;have:=h.hn;unfold cM at *;rw [Int.natAbs_neg];exact this
theorem fr_ {a:Rt} (h:bH a=true):∃ n d,Rt.Is a n d:=fq_.1 h
theorem ax_ {x:Int}:x.sign≤0 ↔ x≤0:=Int.sign_nonpos_iff
theorem ay_ {x:Int}:x.sign<0 ↔ x<0:=Int.sign_neg_iff
theorem aw_ {x:Int}:0<x.sign ↔ 0<x:=Int.sign_pos_iff
structure Iv.Is (a:Iv) (n d m e:Int):Prop where
 lo:a.lo.Is n d
 hi:a.hi.Is m e
 le:n*e≤m*d
def Rt.At (a:Rt) (q:Rat):Prop:=a.Is q.num (q.den:Int)
theorem cN_ {a:Rt} {n d:Int} (h:a.Is n d):∃ q:Rat,a.At q∧q.num=n∧(q.den:Int)=d:=by
 have hd:(d.toNat:Int)=d:=Int.toNat_of_nonneg (Int.le_of_lt h.pos)
 have hc:n.natAbs.Coprime d.toNat:=by
  have:=h.cop;unfold Int.gcd at this;rw [show d.natAbs=d.toNat by omega] at this;exact this
 refine ⟨⟨n,d.toNat,by have:=h.pos;omega,hc⟩,?_,rfl,hd⟩
 show a.Is n (d.toNat:Int)
 rw [hd];exact h
theorem EQ {a:Rt} (h:bH a=true):∃ q,a.At q:=by
 obtain ⟨n,d,h1⟩:=fr_ h;obtain ⟨q,h2,_⟩:=cN_ h1;exact ⟨q,h2⟩
theorem iT {a:Rt} {q:Rat} (h:a.At q):bH a=true:=y9 h
theorem dC_ {a b:Rt} {q:Rat} (ha:a.At q) (hb:b.At q):a=b:=Rt.ext (ha.en.trans hb.en.symm) (ha.ed.trans hb.ed.symm)
theorem xY {a:Rt} {p q:Rat} (ha:a.At p) (hb:a.At q):p=q:=by
 have h1:=RS ha.hn hb.hn (SF (ha.en.symm.trans hb.en));have h2:=RS ha.hd hb.hd (SF (ha.ed.symm.trans hb.ed));exact Rat.ext h1 oo_
theorem QF {a b:Rt} {p q:Rat} (ha:a.At p) (hb:b.At q):(e9 a b).1=(p.num*q.den - q.num*p.den).sign:=dE_ ha hb
theorem QK {a b:Rt} {p q:Rat} (ha:a.At p) (hb:b.At q):(e9 a b).1<0 ↔ p<q:=by
 rw [QF ha hb,ay_,Rat.lt_iff];omega
theorem QG {a b:Rt} {p q:Rat} (ha:a.At p) (hb:b.At q):0<(e9 a b).1 ↔ q<p:=by
 rw [QF ha hb,aw_,Rat.lt_iff];omega
theorem QJ {a b:Rt} {p q:Rat} (ha:a.At p) (hb:b.At q):(e9 a b).1≤0 ↔ p≤q:=by
 rw [QF ha hb,ax_,Rat.le_iff];omega
structure Iv.At (a:Iv) (p q:Rat):Prop where
 lo:a.lo.At p
 hi:a.hi.At q
 le:p≤q
def mn (p q:Rat):Rat:=if p≤q then p else q
def mx (p q:Rat):Rat:=if p≤q then q else p
structure Sz (q:Rat) (k:Nat):Prop where
 n:q.num.natAbs<2 ^ k
 d:q.den<2 ^ k
theorem AM {a b:Nat} (h:a≤b):(2:Nat) ^ a≤2 ^ b:=Nat.pow_le_pow_right dd_ h
theorem dD_ {v:Int} {k:Nat} (m:Nat) (hm:4294967296 ^ 16=2 ^ m) (h:v.natAbs<2 ^ k) (hk:k≤m):cM v:=by
 unfold cM;rw [hm];exact Nat.lt_of_lt_of_le h (AM hk)
theorem uJ {v:Int} {k:Nat} (h:v.natAbs<2 ^ k) (hk:k≤512):cM v:=dD_ 512 MY h hk
theorem Sz.mono {q:Rat} {j k:Nat} (h:Sz q j) (hk:j≤k):Sz q k:=⟨Nat.lt_of_lt_of_le h.n (AM hk),Nat.lt_of_lt_of_le h.d (AM hk)⟩
theorem Sz.bn {q:Rat} {k:Nat} (h:Sz q k) (hk:k≤512):cM q.num:=uJ h.n hk
theorem Sz.bd {q:Rat} {k:Nat} (h:Sz q k) (hk:k≤512):cM (q.den:Int):=uJ (by simpa using h.d) hk
theorem uV {a b j k:Nat} (h:a<2 ^ j) (g:b<2 ^ k):a*b<2 ^ (j+k):=by
 rw [Nat.pow_add];exact Nat.mul_lt_mul_of_lt_of_le h (Nat.le_of_lt g) (Nat.pow_pos dd_)
theorem Sz.mul {p q:Rat} {j k:Nat} (h:Sz p j) (g:Sz q k):Sz (p*q) (j+k):=by
 constructor
 ·rw [Rat.num_mul]
  refine Nat.lt_of_le_of_lt (Int.natAbs_ediv_le_natAbs _ _) ?_;rw [Int.natAbs_mul];exact uV h.n g.n
 rw [Rat.den_mul];exact Nat.lt_of_le_of_lt (Nat.div_le_self _ _) (uV h.d g.d)
theorem Sz.neg {p:Rat} {k:Nat} (h:Sz p k):Sz (-p) k:=⟨by rw [Rat.neg_num,Int.natAbs_neg];exact h.n,h.d⟩
theorem QS {n m:Int} {d e j k:Nat} (h1:n.natAbs<2 ^ j) (h2:e<2 ^ k) (h3:m.natAbs<2 ^ k) (h4:d<2 ^ j):(n*e+m*d).natAbs<2 ^ (j+k+1):=by
 have a:=uV h1 h2;have b:=uV h4 h3;have c:=Int.natAbs_add_le (n*e) (m*d);rw [Int.natAbs_mul,Int.natAbs_mul,Int.natAbs_natCast,Int.natAbs_natCast] at c;rw [Nat.pow_succ];rw [Nat.mul_comm d] at b;omega
theorem Sz.add {p q:Rat} {j k:Nat} (h:Sz p j) (g:Sz q k):Sz (p+q) (j+k+1):=by
 constructor
 ·rw [Rat.num_add]
  exact Nat.lt_of_le_of_lt (Int.natAbs_ediv_le_natAbs _ _) (QS h.n g.d g.n h.d)
 rw [Rat.den_add];exact Nat.lt_of_le_of_lt (Nat.div_le_self _ _) (Nat.lt_of_lt_of_le (uV h.d g.d) (AM oo_))
theorem Sz.int {n:Int} {k:Nat} (h:n.natAbs<2 ^ k) (hk:0<k):Sz (n:Rat) k:=⟨h,Nat.one_lt_two_pow oo_⟩
theorem fl_ {a:Rt} {n d:Int} {q:Rat} (h:a.Is n d) (he:q.num*d=n*q.den):a.At q:=by
 obtain ⟨p,hp,h1,h2⟩:=cN_ h;have:p=q:=Rat.eq_iff_mul_eq_mul.2 (by rw [h1,h2];exact he.symm);rw [← this];exact hp
theorem At.is {a:Rt} {q:Rat} (h:a.At q):a.Is q.num (q.den:Int):=h
theorem uM {n d:Int} {q:Rat} (hn:cM n) (hd:cM d) (hp:0<d) (he:q.num*d=n*q.den):(cJ (E (Z.of n)) (E (Z.of d))).At q:=by
 refine fl_ (yJ hn hd hp) ?_;have g1:((Int.gcd n d:Nat):Int) ∣ n:=Int.gcd_dvd_left ..;have g2:((Int.gcd n d:Nat):Int) ∣ d:=Int.gcd_dvd_right ..
 have p1:0<((Int.gcd n d:Nat):Int):=by have:=Int.gcd_pos_of_ne_zero_right n (show d≠0 by omega);omega
 obtain ⟨x,hx⟩:=g1;obtain ⟨y,hy⟩:=g2;generalize ((Int.gcd n d:Nat):Int)=G at *
 have q1:n / G=x:=by rw [hx];exact Int.mul_ediv_cancel_left _ oo_
 have q2:d / G=y:=by rw [hy];exact Int.mul_ediv_cancel_left _ oo_
 rw [q1,q2];rw [hx,hy] at he;exact Int.eq_of_mul_eq_mul_left (show G≠0 by omega) (by grind)
theorem fu_ (c:W):(pD c).At (c.1:Rat):=by
 unfold pD;rw [eE_];have:=c.2;unfold I64 at this;exact uM (uJ (k:=64) oo_ dd_) B1 dd_ (by simp)
theorem WT {a:Rt} {p:Rat} (h:a.At p):(iR a).At (-p):=dM_ h
theorem lS {q:Rat}:(0:Int)<q.den:=by have:=q.den_nz;omega
theorem dI_ {a b:Rt} {p q:Rat} (ha:a.At p) (hb:b.At q) (hn:cM (p*q).num) (hd:cM ((p*q).den:Int)):(fR a b).At (p*q):=by
 unfold fR;rw [iT ha,iT hb];obtain ⟨x,y,r,s,e1,e2,b1,b2,b3,b4,h1,h2,hc,he⟩:=E0 ha hb;simp only [Bool.not_true,Bool.or_false,cond_false,e1,e2,bR];rw [kY b1 b3,kY b2 b4];have hps:0<y*s:=Int.mul_pos h1 h2
 have hpq:p*q=Rat.divInt (x*r) (y*s):=by
  rw [← Rat.num_divInt_den p,← Rat.num_divInt_den q,Rat.divInt_mul_divInt];exact (Rat.divInt_eq_divInt_iff (by have:=@lS p;have:=@lS q;exact Int.mul_ne_zero oo_ oo_) oo_).2 (by rw [he])
 have hnum:(p*q).num=x*r:=by
  rw [hpq,Rat.num_divInt,Int.gcd_comm,hc,Int.sign_eq_one_of_pos hps];simp
 have hden:((p*q).den:Int)=y*s:=by
  rw [hpq,Rat.den_divInt,if_neg oo_,Int.gcd_comm,hc,Nat.div_one];omega
 rw [hnum] at hn;rw [hden] at hd;exact uM hn hd hps (by rw [hnum,hden])
theorem E3 {a b:Rt} {p q:Rat} {j k:Nat} (ha:a.At p) (hb:b.At q) (hp:Sz p j) (hq:Sz q k) (h:j+k≤512):(fR a b).At (p*q) :=
 dI_ ha hb ((hp.mul hq).bn h) ((hp.mul hq).bd h)
theorem JZ {a b:Rt} {p q:Rat} {j k:Nat} (ha:a.At p) (hb:b.At q) (hp:Sz p j) (hq:Sz q k) (h:j+k+1≤512):(fI a b).At (p+q):=by
 unfold fI;rw [iT ha,iT hb];simp only [Bool.not_true,Bool.or_false,cond_false];have ia:=At.is ha;have ib:=At.is hb;rw [ia.en,ia.ed,ib.en,ib.ed];simp only [bR];have hdp:=@lS p;have hdq:=@lS q
 have hg:0<((Int.gcd (p.den:Int) (q.den:Int):Nat):Int):=by
  have:=Int.gcd_pos_of_ne_zero_right (p.den:Int) (show (q.den:Int)≠0 by omega);omega
 have hbg:=OD (u:=(p.den:Int)) ib.hd oo_;have g1:((Int.gcd (p.den:Int) (q.den:Int):Nat):Int) ∣ (p.den:Int):=Int.gcd_dvd_left ..;have g2:((Int.gcd (p.den:Int) (q.den:Int):Nat):Int) ∣ (q.den:Int):=Int.gcd_dvd_right ..;rw [AH ia.hd ib.hd,wQ ib.hd hbg hg,wQ ia.hd hbg hg];generalize ((Int.gcd (p.den:Int) (q.den:Int):Nat):Int)=G at *;obtain ⟨x,hx⟩:=g1;obtain ⟨y,hy⟩:=g2
 have q1:(p.den:Int) / G=x:=by rw [hx];exact Int.mul_ediv_cancel_left _ oo_
 have q2:(q.den:Int) / G=y:=by rw [hy];exact Int.mul_ediv_cancel_left _ oo_
 rw [q1,q2]
 have x0:0<x:=by rw [hx] at hdp;exact Int.pos_of_mul_pos_right hdp hg
 have y0:0<y:=by rw [hy] at hdq;exact Int.pos_of_mul_pos_right hdq hg
 have xl:x≤p.den:=by rw [hx];have:=Int.mul_le_mul_of_nonneg_right (show (1:Int)≤G by omega) (Int.le_of_lt x0);omega
 have yl:y≤q.den:=by rw [hy];have:=Int.mul_le_mul_of_nonneg_right (show (1:Int)≤G by omega) (Int.le_of_lt y0);omega
 have x1:x.toNat<2 ^ j:=Nat.lt_of_le_of_lt oo_ hp.d;have y1:y.toNat<2 ^ k:=Nat.lt_of_le_of_lt oo_ hq.d
 have xe:x=(x.toNat:Int):=by omega
 have ye:y=(y.toNat:Int):=by omega
 have bx:cM x:=uJ (k:=j) (by rw [xe,Int.natAbs_natCast];exact x1) oo_
 have by':cM y:=uJ (k:=k) (by rw [ye,Int.natAbs_natCast];exact y1) oo_
 rw [kY ia.hn by',kY ib.hn bx,kY bx ib.hd]
 have t1:(p.num*y).natAbs<2 ^ (j+k):=by rw [Int.natAbs_mul];exact uV hp.n oo_
 have t2:(q.num*x).natAbs<2 ^ (j+k):=by rw [Int.natAbs_mul,Nat.mul_comm];exact uV oo_ hq.n
 have t3:(x*(q.den:Int)).natAbs<2 ^ (j+k):=by rw [Int.natAbs_mul];exact uV oo_ (by simpa using hq.d)
 rw [z9 (uJ t1 oo_) (uJ t2 oo_)]
 have t4:(p.num*y+q.num*x).natAbs<2 ^ (j+k+1):=by rw [Nat.pow_succ];omega
 refine uM (uJ t4 h) (uJ t3 oo_) (Int.mul_pos x0 hdq) ?_
 have key:p+q=Rat.divInt (p.num*y+q.num*x) (x*q.den):=by
  conv=>lhs;rw [← Rat.num_divInt_den p,← Rat.num_divInt_den q,Rat.divInt_add_divInt _ _ oo_ oo_]
  refine (Rat.divInt_eq_divInt_iff (Int.mul_ne_zero oo_ oo_) (Int.mul_ne_zero oo_ oo_)).2 ?_;rw [hx,hy];grind
 have h3:=Rat.num_divInt_den (p+q);rw [key] at h3 ⊢;have h4:=(Rat.divInt_eq_divInt_iff (by have:=@lS (Rat.divInt (p.num*y+q.num*x) (x*q.den));omega) (Int.mul_ne_zero oo_ oo_)).1 h3;exact h4
theorem dN_ {a b:Rt} {p q:Rat} {j k:Nat} (ha:a.At p) (hb:b.At q) (hp:Sz p j) (hq:Sz q k) (h:j+k+1≤512):(gK a b).At (p - q):=by
 unfold gK;rw [Rat.sub_eq_add_neg];exact JZ ha (WT hb) hp hq.neg h
theorem SM {v:Int} (h:cM v):(Z.of v).bits=bl v.natAbs:=by unfold Z.bits;rw [Z.of_some h]
def vl (c:Nat→Rat) (x:Rat) (n:Nat):Rat:=fF (fun i=>c i*x ^ i) n
theorem PG (x:Rat) (m:Nat):∀ n:Nat,x ^ (m+n)=x ^ m*x ^ n
 | 0=>by rw [Rat.pow_zero,Rat.mul_one];rfl
 | n+1=>by rw [← Nat.add_assoc,Rat.pow_succ,PG x m n,Rat.pow_succ,Rat.mul_assoc]
theorem rX {c:Nat→Rat} {x:Rat} {n:Nat} (h:∀ i,n≤i→c i=0) {m:Nat} (hm:n≤m):vl c x m=vl c x n :=
 nB (fun i hi=>by rw [h i hi,Rat.zero_mul]) m hm
theorem aR_ (c d:Nat→Rat) (x:Rat) (n:Nat):vl (fun i=>c i+d i) x n=vl c x n+vl d x n:=by
 unfold vl;rw [← yZ];exact fO fun i _=>Rat.add_mul _ _ _
theorem aT_ (a:Rat) (c:Nat→Rat) (x:Rat) (n:Nat):vl (fun i=>a*c i) x n=a*vl c x n:=by
 unfold vl;rw [← qY];exact fO fun i _=>Rat.mul_assoc _ _ _
theorem P2 (c:Nat→Rat) (x:Rat) (n:Nat):vl c x (n+1)=c 0+x*vl (fun i=>c (i+1)) x n:=by
 unfold vl;rw [wZ,Rat.pow_zero,Rat.mul_one,← qY]
 congr 1
 refine fO fun i _=>?_;rw [Rat.pow_succ];grind
theorem UW {c d:Nat→Rat} {x:Rat} {n m:Nat} (hc:∀ i,n≤i→c i=0) (hd:∀ i,m≤i→d i=0) {K:Nat} (hK:n+m≤K):vl (conv c d) x K=vl c x n*vl d x m:=by
 have h:=HA (fun i j=>c i*x ^ i*(d j*x ^ j)) K
 have e1:vl (conv c d) x K=fF (fun k=>fF (fun i=>c i*x ^ i*(d (k - i)*x ^ (k - i))) (k+1)) K:=by
  refine fO fun k _=>?_
  show fF _ _*_=_
  rw [← C9];refine fO fun i hi=>?_
  have:x ^ k=x ^ i*x ^ (k - i):=by rw [← PG];congr 1;omega
  rw [this];grind
 rw [e1,h];unfold vl;rw [← C9];rw [nB (n:=n) (fun i hi=>by rw [hc i hi];exact jL fun j _=>by rw [Rat.zero_mul,Rat.zero_mul]) K oo_];refine fO fun i hi=>?_;rw [qY]
 congr 1
 exact nB (fun j hj=>by rw [hd j hj,Rat.zero_mul]) _ oo_
def hv (c:Nat→Int) (N D:Int) (L:Nat):Nat→Int
 | 0=>0
 | t+1=>hv c N D L t*N+c (L - 1 - t)*D ^ t
section
variable {c:Nat→Int} {N D:Int} {L:Nat}
theorem YZ {x:Rat} (hx:(D:Rat)*x=N):∀ t:Nat,t≤L→((hv c N D L t:Int):Rat)*D=(D:Rat) ^ t*vl (fun j=>cR c (L - t+j)) x t
 | 0,_=>by show ((0:Int):Rat)*D=_*(0:Rat);rw [Rat.mul_zero];exact Rat.zero_mul _
 | t+1,ht=>by
  rw [P2,hv,Rat.intCast_add,Rat.intCast_mul,Rat.intCast_mul,Rat.intCast_pow,Rat.pow_succ];have ih:=YZ hx t oo_;rw [show (fun i=>(fun j=>cR c (L - (t+1)+j)) (i+1))=fun j=>cR c (L - t+j) from funext fun j=>by show cR c _=cR c _;congr 1;omega];rw [show L - (t+1)+0=L - 1 - t by omega]
  show _=_*(((c (L - 1 - t):Int):Rat)+_)
  generalize vl (fun j=>cR c (L - t+j)) x t=S at *;generalize ((hv c N D L t:Int):Rat)=H at *;rw [← hx]
  grind
theorem RA {x:Rat} (hx:(D:Rat)*x=N) (hD:0<D):((hv c N D L L:Int):Rat)=(D:Rat) ^ (L - 1)*vl (cR c) x L:=by
 have hd:(D:Rat)≠0:=fun h=>by have:=Rat.intCast_eq_zero_iff.1 h;omega
 cases L with
 | zero=>show ((0:Int):Rat)=_*(0:Rat);rw [Rat.mul_zero];rfl
 | succ n =>
  have h:=YZ (c:=c) (L:=n+1) hx (n+1) (Nat.le_refl _);rw [show (fun j=>cR c (n+1 - (n+1)+j))=cR c from funext fun j=>by congr 1;omega,Rat.pow_succ] at h;rw [Nat.add_sub_cancel]
  have:(((hv c N D (n+1) (n+1):Int):Rat) - (D:Rat) ^ n*vl (cR c) x (n+1))*D=0:=by grind
  rcases Rat.mul_eq_zero.1 this with h|h
  ·grind
  exact absurd h hd
theorem YY {b s:Nat} (hc:∀ k,(c k).natAbs<2 ^ b) (hN:N.natAbs<2 ^ s) (hD:D.natAbs<2 ^ s):∀ t:Nat,(hv c N D L t).natAbs≤t*2 ^ (b+s*t)
 | 0=>by simp [hv]
 | t+1=>by
  have ih:=YY hc hN hD t
  have h1:(hv c N D L t*N).natAbs≤t*2 ^ (b+s*t)*2 ^ s:=by
   rw [Int.natAbs_mul];exact Nat.mul_le_mul ih (Nat.le_of_lt hN)
  have h2:(c (L - 1 - t)*D ^ t).natAbs≤2 ^ b*2 ^ (s*t):=by
   rw [Int.natAbs_mul,Int.natAbs_pow,Nat.pow_mul];exact Nat.mul_le_mul (Nat.le_of_lt (hc _)) (Nat.pow_le_pow_left (Nat.le_of_lt hD) t)
  have h3:=Int.natAbs_add_le (hv c N D L t*N) (c (L - 1 - t)*D ^ t)
  have h4:(2:Nat) ^ b*2 ^ (s*t)≤2 ^ (b+s*(t+1)):=by
   rw [← Nat.pow_add];exact Nat.pow_le_pow_right dd_ (by rw [Nat.mul_succ];omega)
  have h5:t*2 ^ (b+s*t)*2 ^ s=t*2 ^ (b+s*(t+1)):=by
   rw [Nat.mul_assoc,← Nat.pow_add,Nat.mul_succ,Nat.add_assoc]
  rw [Nat.succ_mul];show (hv c N D L t*N+c (L - 1 - t)*D ^ t).natAbs≤_;omega
structure Room (c:Nat→Int) (N D:Int) (L:Nat):Prop where
 h:∀ t,t≤L→cM (hv c N D L t)
 m:∀ t,t<L→cM (hv c N D L t*N)
 p:∀ t,t<L→cM (D ^ t)
 q:∀ t,t<L→cM (c (L - 1 - t)*D ^ t)
theorem cr_ {b s n e:Nat} (hc:∀ k,(c k).natAbs<2 ^ b) (hN:N.natAbs<2 ^ s) (hD:D.natAbs<2 ^ s) (hL:L≤n) (hn:n≤2 ^ e) (h:b+s*n+e+1≤512):Room c N D L:=by
 have hp:(2:Nat) ^ (b+s*n+e+1)=2*(2 ^ e*2 ^ (b+s*n)):=by rw [Nat.pow_succ,Nat.add_comm _ e,Nat.pow_add];omega
 have h0:0<2 ^ e*2 ^ (b+s*n):=Nat.mul_pos (Nat.pow_pos dd_) (Nat.pow_pos dd_);have k1:∀ t,t≤n→t*2 ^ (b+s*t)≤2 ^ e*2 ^ (b+s*n):=fun t ht =>
  Nat.mul_le_mul oo_ (Nat.pow_le_pow_right dd_ (by have:=Nat.mul_le_mul_left s ht;omega))
 have k2:∀ t,t<n→(2:Nat) ^ (s*t)≤2 ^ (b+s*n):=fun t ht=>Nat.pow_le_pow_right dd_ (by have:=Nat.mul_le_mul_left s (Nat.le_of_lt ht);omega);have he:1≤2 ^ e:=Nat.pow_pos dd_
 have kD:∀ t,(D ^ t).natAbs≤2 ^ (s*t):=fun t=>by rw [Int.natAbs_pow,Nat.pow_mul];exact Nat.pow_le_pow_left (Nat.le_of_lt hD) t
 have k0:2 ^ (b+s*n)≤2 ^ e*2 ^ (b+s*n):=Nat.le_mul_of_pos_left _ he;refine ⟨fun t ht=>pP (k:=b+s*n+e+1) ?_ h,fun t ht=>pP (k:=b+s*n+e+1) ?_ h,fun t ht=>pP (k:=b+s*n+e+1) ?_ h,fun t ht=>pP (k:=b+s*n+e+1) ?_ h⟩
 ·have:=YY (L:=L) hc hN hD t
  have:=k1 t oo_;omega
 ·have h1:=YY (L:=L) hc hN hD t
  have h2:=k1 (t+1) oo_
  have h3:(hv c N D L t*N).natAbs≤t*2 ^ (b+s*t)*2 ^ s:=by
   rw [Int.natAbs_mul];exact Nat.mul_le_mul h1 (Nat.le_of_lt hN)
  have h5:t*2 ^ (b+s*t)*2 ^ s=t*2 ^ (b+s*(t+1)):=by
   rw [Nat.mul_assoc,← Nat.pow_add,Nat.mul_succ,Nat.add_assoc]
  rw [Nat.succ_mul] at h2;have h6:0<2 ^ (b+s*(t+1)):=Nat.pow_pos dd_;omega
 ·have:=kD t
  have:=k2 t oo_;omega
 have h2:(c (L - 1 - t)*D ^ t).natAbs≤2 ^ b*2 ^ (s*t):=by
  rw [Int.natAbs_mul];exact Nat.mul_le_mul (Nat.le_of_lt (hc _)) (kD t)
 have h3:(2:Nat) ^ b*2 ^ (s*t)≤2 ^ (b+s*n):=by
  rw [← Nat.pow_add];exact Nat.pow_le_pow_right dd_ (by have:=Nat.mul_le_mul_left s (Nat.le_of_lt (show t<n by omega));omega)
 omega
theorem LW {D:Int}:∀ {k:Nat},(∀ j,j≤k→cM (D ^ j))→pw (E (Z.of D)) k=E (Z.of (D ^ k))
 | 0,_=>by rw [Int.pow_zero];rfl
 | k+1,h=>by
  rw [pw,LW fun j hj=>h j oo_,bR,bR,kY (h k oo_) (by have:=h 1 oo_;rwa [Int.pow_one] at this:cM D),Int.pow_succ]
variable {p:List I} {x:Rt}
theorem aQ_ (h:Po p c) (hx:x.Is N D) (r:Room c N D p.length):∀ (f t:Nat) (i:Int),t≤p.length→i=(p.length:Int) - 1 - t→p.length - t<f →
  (gE p x f i (E (Z.of (hv c N D p.length t)))).2=E (Z.of (hv c N D p.length p.length))
 | 0,t,i,_,_,hf=>absurd hf (Nat.not_lt_zero _)
 | f+1,t,i,ht,hi,hf=>by
  unfold gE
  by_cases h0:0≤i
  ·rw [decide_eq_true h0,cond_true]
   have hl:t<p.length:=by omega
   have e1:i.toNat=p.length - 1 - t:=by omega
   have e2:p.length - 1 - i.toNat=t:=by omega
   simp only
   rw [e2,tR _ _ (show t<max (p.length:Int).toNat 1 by omega),hx.ed,LW fun j hj=>r.p j oo_,e1,h.get,hx.en,bR,bR,bR,bR,bR,
    kY (h.B _) (r.p t hl),kY (r.h t ht) hx.hn,z9 (r.m t hl) (r.q t hl)]
   exact aQ_ h hx r f (t+1) _ oo_ oo_ oo_
  rw [decide_eq_false h0,cond_false,show t=p.length by omega]
theorem JU (h:Po p c) (hx:x.Is N D) (r:Room c N D p.length):eD p x=(E (Z.of (hv c N D p.length p.length)),E (Z.of (D ^ (p.length - 1)))):=by
 unfold eD;rw [h.nb,YN,hJ,y9 hx]
 show ((gE p x (p.length+1) ((p.length:Int) - 1) I0).2,_)=_
 congr 1
 ·have e:=aQ_ h hx r (p.length+1) 0 ((p.length:Int) - 1) (Nat.zero_le _) oo_ oo_
  rw [show hv c N D p.length 0=0 from rfl,← I0_E] at e;exact e
 rw [show ((p.length:Int) - 1).toNat=p.length - 1 by omega,tR _ _ oo_,hx.ed]
 cases hl:p.length with
 | zero=>show pw _ 0=E (Z.of (D ^ 0));rw [Int.pow_zero];rfl
 | succ n=>exact LW fun j hj=>r.p j oo_
theorem RP {q:Rat} {n d:Int} (h:(n:Rat)=(d:Rat)*q):q.num*d=n*q.den:=by
 have h1:=zL q
 have h2:((n*q.den:Int):Rat)=((q.num*d:Int):Rat):=by
  rw [Rat.intCast_mul,Rat.intCast_mul,h,← h1];grind
 exact (Rat.intCast_inj.1 h2).symm
theorem AD {q:Rat}:((q.den:Int):Rat)*q=((q.num:Int):Rat):=by
 rw [Rat.mul_comm];exact zL q
theorem a3_ {q:Rat} {n b s e:Nat} (h:Po p c) (hb:Bd c n b) (hx:x.At q) (hs:Sz q s) (hn:n≤2 ^ e) (hk:b+s*n+e+1≤512):(lJ p x).At (vl (cR c) q n):=by
 have ix:=At.is hx;have hl:=h.len hb;have r:=cr_ (L:=p.length) hb.b hs.n (show (q.den:Int).natAbs<2 ^ s by rw [Int.natAbs_natCast];exact hs.d) hl hn hk;unfold lJ;rw [JU h ix r,EE];have hp:=@lS q;have hv:=RA (c:=c) (L:=p.length) (N:=q.num) (D:=(q.den:Int)) AD hp;rw [rX (n:=p.length) (fun i hi=>by unfold cR;rw [h.zero hi];rfl) hl];refine uM (r.h _ (Nat.le_refl _)) ?_ (Int.pow_pos hp) (RP ?_)
 ·cases hp:p.length with
  | zero=>exact B1
  | succ m=>exact r.p _ oo_
 rw [hv,Rat.intCast_pow]
theorem NC {q:Rat} {n b s e:Nat} (h:Po p c) (hb:Bd c n b) (hx:x.At q) (hs:Sz q s) (hn:n≤2 ^ e) (hk:b+s*n+e+1≤512):(aG p x).2=true∧(aG p x).1.1=(vl (cR c) q n).num.sign:=by
 have ix:=At.is hx;have hl:=h.len hb;have r:=cr_ (L:=p.length) hb.b hs.n (show (q.den:Int).natAbs<2 ^ s by rw [Int.natAbs_natCast];exact hs.d) hl hn hk;unfold aG;rw [JU h ix r];have hp:=@lS q;have hv:=RA (c:=c) (L:=p.length) (N:=q.num) (D:=(q.den:Int)) AD hp;rw [rX (n:=p.length) (fun i hi=>by unfold cR;rw [h.zero hi];rfl) hl];refine ⟨by show (!(E (Z.of _)).1.bad)=true;rw [E7 (r.h _ (Nat.le_refl _))];rfl,?_⟩
 show (Z.signW (E (Z.of _)).dec).1=_
 rw [bR,iQ (r.h _ (Nat.le_refl _))];have e:=RP (n:=Go.Num.hv c q.num (q.den:Int) p.length p.length) (d:=(q.den:Int) ^ (p.length - 1)) (by rw [hv,Rat.intCast_pow]);have e2:=congrArg Int.sign e;rw [Int.sign_mul,Int.sign_mul,Int.sign_eq_one_of_pos (Int.pow_pos hp),Int.sign_eq_one_of_pos (@lS _),Int.mul_one,Int.mul_one] at e2;exact e2.symm
end
open Go Go.Kn
theorem AF {u:Int}:∀ (l:List I) (g:Nat),u ∣ (g:Int)→(∀ x∈l,u ∣ vI x)→u ∣ ((l.foldl fg g:Nat):Int)
 | [],g,h,_=>h
 | y::l,g,h,hx=>AF l (fg g y) (Int.dvd_coe_gcd h (hx y List.mem_cons_self)) fun x hm=>hx x (List.mem_cons_of_mem _ hm)
def Prm (c:Nat→Int):Prop:=∀ u:Int,(∀ k,u ∣ c k)→u ∣ 1
theorem KX {u:Int} {g:Nat} (h:0<g) (hd:(g:Int) ∣ u):(u.fdiv g).natAbs≤u.natAbs:=by
 obtain ⟨x,rfl⟩:=hd;rw [Int.mul_fdiv_cancel_left _ oo_,Int.natAbs_mul,Int.natAbs_natCast];exact Nat.le_mul_of_pos_left _ h
section
variable {p q:List I} {c d:Nat→Int}
theorem Po.mem (h:Po p c) {x:I} (hx:x∈p):∃ k,vI x=c k:=by
 obtain ⟨k,hk,rfl⟩:=List.getElem_of_mem hx;refine ⟨k,?_⟩;rw [← h.c k]
 simp [List.getD,hk]
theorem Po.dvd (h:Po p c) (k:Nat):((cN p:Nat):Int) ∣ c k:=by
 by_cases hk:k<p.length
 ·rw [← h.c k,show p.getD k I0=p[k] by simp [List.getD,hk]]
  exact CD (List.getElem_mem hk)
 rw [h.zero oo_];exact Int.dvd_zero _
theorem Po.cpos (h:Po p c) (h0:p≠[]):0<cN p:=by
 obtain ⟨n,hn⟩:∃ n,p.length=n+1:=⟨p.length - 1,by have:=List.length_pos_iff.2 h0;omega⟩;rcases Nat.eq_zero_or_pos (cN p) with e|e
 ·have h1:=h.dvd n
  rw [e] at h1;exact absurd (Int.zero_dvd.1 h1) (h.last hn)
 exact e
theorem oI (h:Po p c):Po (aC p) (fun k=>(c k).fdiv (cN p)):=by
 have e:=O3 h.g h.s h.l
 have hB:∀ x∈p,cM ((vI x).fdiv (cN p)):=fun x hx=>by
  obtain ⟨k,hk⟩:=h.mem hx;rw [hk];exact Nat.lt_of_le_of_lt (KX (h.cpos (List.ne_nil_of_mem hx)) (h.dvd k)) (h.B k)
 have hg:(aC p).all gdI=true:=by
  rw [e];refine List.all_eq_true.2 fun y hy=>?_;obtain ⟨x,hx,rfl⟩:=List.mem_map.1 hy;exact LB (hB x hx)
 refine (GS (yP p h.l3) hg).cast fun k=>?_;rw [e]
 by_cases hk:k<p.length
 ·have e2:(p.map fun x=>E (Z.of ((vI x).fdiv (cN p)))).getD k I0=E (Z.of ((vI p[k]).fdiv (cN p))):=by simp [List.getD,hk]
  rw [e2,WJ (hB _ (List.getElem_mem hk)),← h.c k,show p.getD k I0=p[k] by simp [List.getD,hk]]
 rw [lO (by rw [List.length_map];omega),vI0,h.zero oo_,Int.zero_fdiv]
theorem r7 (h:Po p c) (k:Nat):((cN p:Nat):Int)*(c k).fdiv (cN p)=c k:=by
 by_cases h0:p=[]
 ·subst h0;rw [h.zero (Nat.zero_le k),Int.zero_fdiv,Int.mul_zero]
 have hp:=h.cpos h0;obtain ⟨x,hx⟩:=h.dvd k;rw [hx,Int.mul_fdiv_cancel_left _ oo_]
theorem BR (h:Po p c) (h0:p≠[]):Prm (fun k=>(c k).fdiv (cN p)):=fun u hu=>by
 have hp:=h.cpos h0
 have h1:((cN p:Nat):Int)*u ∣ ((cN p:Nat):Int):=AF p 0 (Int.dvd_zero _) fun x hx=>by
  obtain ⟨k,hk⟩:=h.mem hx;rw [hk,← r7 h k];exact Int.mul_dvd_mul_left _ (hu k)
 obtain ⟨y,hy⟩:=h1;refine ⟨y,?_⟩
 have:((cN p:Nat):Int)*1=((cN p:Nat):Int)*(u*y):=by rw [Int.mul_one,← Int.mul_assoc];exact hy
 exact Int.eq_of_mul_eq_mul_left oo_ this
theorem ce_ (h:Po p c) (hc:Prm c):aC p=p:=by
 have h1:=hc _ h.dvd
 have h2:cN p=1:=by
  have:=Int.le_of_dvd dd_ h1;rcases Nat.eq_zero_or_pos (cN p) with e|e
  ·rw [e] at h1;exact absurd (Int.zero_dvd.1 h1) dd_
  omega
 refine ((oI h).cast fun k=>?_).eq h;have:=r7 h k;rw [h2] at this ⊢
 show (c k).fdiv ((1:Nat):Int)=c k
 simp
theorem VW (h:Po p c):aC (aC p)=aC p:=by
 by_cases h0:p=[]
 ·subst h0
  have e:aC ([]:List I)=[]:=(oI h).nil fun k=>by rw [h.zero (Nat.zero_le k),Int.zero_fdiv]
  rw [e,e]
 exact ce_ (oI h) (BR h h0)
theorem cd_ {n b:Nat} (h:Po p c) (hb:Bd c n b):Bd (fun k=>(c k).fdiv (cN p)) n b :=
 ⟨fun k hk=>by show (c k).fdiv _=0;rw [hb.z k hk,Int.zero_fdiv],fun k=>by
  by_cases h0:p=[]
  ·subst h0;show ((c k).fdiv _).natAbs<_;rw [h.zero (Nat.zero_le k),Int.zero_fdiv];exact Nat.pow_pos dd_
  exact Nat.lt_of_le_of_lt (KX (h.cpos h0) (h.dvd k)) (hb.b k)⟩
def lin (u v:Int) (k:Nat):Int:=if k=0 then u else if k=1 then v else 0
theorem ZC {u v:Int} (hu:cM u) (hv:cM v):Po (bG [E (Z.of u),E (Z.of v)]) (lin u v):=by
 rw [qK];refine AJ (fun k=>?_) (fun k=>?_) fun k hk=>?_
 ·match k with
  | 0=>rfl
  | 1=>rfl
  | k+2=>rw [lO (by simp)];unfold lin;rw [if_neg oo_,if_neg oo_];rfl
 ·unfold lin;split
  ·exact hu
  split
  ·exact hv
  exact B0
 unfold lin;rw [if_neg oo_,if_neg oo_]
theorem ZZ {u:Int} (hu:cM u):Po (bG [E (Z.of u)]) (lin u 0):=by
 rw [qK];refine AJ (fun k=>?_) (fun k=>?_) fun k hk=>?_
 ·match k with
  | 0=>rfl
  | k+1=>rw [lO (by simp)];unfold lin;rw [if_neg oo_,ite_self];rfl
 ·unfold lin;split
  ·exact hu
  rw [ite_self];exact B0
 unfold lin;rw [if_neg oo_,ite_self]
theorem RG {u v:Int} {b:Nat} (hu:u.natAbs<2 ^ b) (hv:v.natAbs<2 ^ b):Bd (lin u v) 2 b :=
 ⟨fun k hk=>by unfold lin;rw [if_neg oo_,if_neg oo_],fun k=>by
  unfold lin;split
  ·exact hu
  split
  ·exact hv
  exact Nat.pow_pos dd_⟩
def sb (c:Nat→Int) (u v W:Int) (L:Nat):Nat→Nat→Int
 | 0=>fun _=>0
 | t+1=>fun k=>conv (sb c u v W L t) (lin u v) k+lin (c (L - 1 - t)*W ^ t) 0 k
variable {u v W:Int} {L:Nat}
theorem PI {b l e w n:Nat} (hc:∀ k,(c k).natAbs<2 ^ b) (hu:u.natAbs<2 ^ l) (hv:v.natAbs<2 ^ l) (hW:W.natAbs<2 ^ l) (hn:n≤2 ^ e) (h1:l+e+1≤w) (h2:b+1≤w):∀ t:Nat,t≤n→Bd (sb c u v W L t) t (w*t)
 | 0,_=>⟨fun _ _=>rfl,fun _=>Nat.pow_pos dd_⟩
 | t+1,ht=>by
  have ih:=PI hc hu hv hW hn h1 h2 t oo_;have k1:=(ih.conv (RG hu hv) (e:=e) oo_).mono (n':=t+1) (b1:=w*t+w - 1) oo_ oo_
  have k2:(c (L - 1 - t)*W ^ t).natAbs<2 ^ (w*t+w - 1):=by
   rw [Int.natAbs_mul,Int.natAbs_pow]
   have a1:W.natAbs ^ t≤2 ^ (l*t):=by rw [Nat.pow_mul];exact Nat.pow_le_pow_left (Nat.le_of_lt hW) t
   have a2:l*t≤w*t:=Nat.mul_le_mul_right t oo_
   have a3:(c (L - 1 - t)).natAbs*W.natAbs ^ t<2 ^ b*2 ^ (l*t):=by
    have:=Nat.mul_le_mul_left (c (L - 1 - t)).natAbs a1;have:=Nat.mul_lt_mul_of_pos_right (hc (L - 1 - t)) (Nat.pow_pos (n:=l*t) (show 0<2 by decide));omega
   rw [← Nat.pow_add] at a3;exact Nat.lt_of_lt_of_le a3 (Nat.pow_le_pow_right dd_ oo_)
  have k3:Bd (lin (c (L - 1 - t)*W ^ t) 0) 1 (w*t+w - 1):=⟨fun k hk=>by unfold lin;rw [if_neg oo_,ite_self],(RG k2 (Nat.pow_pos dd_)).b⟩;refine (k1.add k3).mono oo_ ?_;rw [Nat.mul_succ];omega
theorem aS_ (u v:Int) (y:Rat) {K:Nat} (hK:2≤K):vl (cR (lin u v)) y K=(u:Rat)+(v:Rat)*y:=by
 rw [rX (n:=2) (fun i hi=>by unfold cR lin;rw [if_neg oo_,if_neg oo_];rfl) hK]
 show (0+((u:Int):Rat)*y ^ 0)+((v:Int):Rat)*y ^ 1=_
 rw [Rat.pow_zero,Rat.pow_one,Rat.zero_add,Rat.mul_one]
theorem aq_ {y z:Rat} (hz:(u:Rat)+(v:Rat)*y=(W:Rat)*z) (hs:∀ t,t≤L→∀ k,t≤k→sb c u v W L t k=0) (hL:L≤24):∀ t:Nat,t≤L→vl (cR (sb c u v W L t)) y 26*(W:Rat)=(W:Rat) ^ t*vl (fun j=>cR c (L - t+j)) z t
 | 0,_=>by
  show fF _ _*_=_*(0:Rat)
  rw [jL fun i _=>by show ((0:Int):Rat)*_=0;exact Rat.zero_mul _,Rat.mul_zero,Rat.zero_mul]
 | t+1,ht=>by
  have ih:=aq_ hz hs hL t oo_
  have e1:cR (sb c u v W L (t+1))=fun k=>conv (cR (sb c u v W L t)) (cR (lin u v)) k+cR (lin (c (L - 1 - t)*W ^ t) 0) k:=by
   rw [← CF];funext k;exact Rat.intCast_add ..
  rw [e1,aR_,UW (n:=t) (m:=2) (fun i hi=>by unfold cR;rw [hs t oo_ i hi];rfl) (fun i hi=>by unfold cR lin;rw [if_neg oo_,if_neg oo_];rfl) oo_,aS_ _ _ _ (Nat.le_refl _),aS_ _ _ _ dd_,hz,
   ← rX (n:=t) (m:=26) (fun i hi=>by unfold cR;rw [hs t oo_ i hi];rfl) oo_]
  generalize vl (cR (sb c u v W L t)) y 26=H at *;rw [P2,Rat.pow_succ,Rat.intCast_mul,Rat.intCast_pow];rw [show (fun i=>(fun j=>cR c (L - (t+1)+j)) (i+1))=fun j=>cR c (L - t+j) from funext fun j=>by show cR c _=cR c _;congr 1;omega];rw [show L - (t+1)+0=L - 1 - t by omega]
  show _=_*(((c (L - 1 - t):Int):Rat)+_)
  generalize vl (fun j=>cR c (L - t+j)) z t=S at *;rw [show ((0:Int):Rat)=0 from rfl]
  grind
theorem ap_ {y z:Rat} (hz:(u:Rat)+(v:Rat)*y=(W:Rat)*z) (hW:0<W) (hs:∀ t,t≤L→∀ k,t≤k→sb c u v W L t k=0) (hL:L≤24):vl (cR (sb c u v W L L)) y 26=(W:Rat) ^ (L - 1)*vl (cR c) z L:=by
 have hd:(W:Rat)≠0:=fun h=>by have:=Rat.intCast_eq_zero_iff.1 h;omega
 have h:=aq_ (c:=c) hz hs hL L (Nat.le_refl _);rw [show (fun j=>cR c (L - L+j))=cR c from funext fun j=>by congr 1;omega] at h
 cases L with
 | zero =>
  show _=_*(0:Rat)
  rw [Rat.mul_zero]
  exact jL fun i _=>by show ((0:Int):Rat)*_=0;exact Rat.zero_mul _
 | succ n =>
  rw [Rat.pow_succ] at h;rw [Nat.add_sub_cancel]
  have:(vl (cR (sb c u v W (n+1) (n+1))) y 26 - (W:Rat) ^ n*vl (cR c) z (n+1))*W=0:=by grind
  rcases Rat.mul_eq_zero.1 this with h|h
  ·grind
  exact absurd h hd
end
open Go Go.Kn
theorem k25 {l:List I} (h:l.length≤25):l.length≤1000:=Nat.le_trans h dd_
theorem LK (l:List I):(mkP l).length≤max l.length 1:=by
 unfold mkP
 cases l.all gdI
 ·exact Nat.le_max_right _ _
 simp only [cond_true]
 split
 ·exact Nat.le_trans (wA l) (Nat.le_max_left _ _)
 exact Nat.le_max_right _ _
theorem KL {c:Bool} {x y:List I} {n:Nat} (h:x.length≤n) (k:y.length≤n):(bif c then x else y).length≤n:=by cases c<;>assumption
theorem SZ {p q:List I} (f:I→I→I) {n:Nat} (hp:p.length≤n) (hq:q.length≤n) (h1:1≤n) (h2:n≤1000):(eB p q f).length≤n:=by
 rw [rP f oo_ oo_];refine KL (Nat.le_trans (LK _) ?_) h1;rw [List.length_map,List.length_range];omega
theorem hx_ {p q:List I} {n:Nat} (hp:p.length≤n) (hq:q.length≤n) (h1:1≤n) (h2:n≤1000):(QM p q).length≤n:=SZ _ hp hq h1 h2
theorem bg_ {p q:List I} {n:Nat} (hp:p.length≤n) (hq:q.length≤n) (h1:1≤n) (h2:n≤1000):(kF p q).length≤n:=SZ _ hp hq h1 h2
theorem b2_ {p q:List I} {n m:Nat} (hp:p.length≤n) (hq:q.length≤m) (h1:1≤n+m - 1):(fV p q).length≤n+m - 1:=by
 unfold fV;refine KL h1 (KL (Nat.zero_le _) ?_);rw [oT];refine Nat.le_trans (LK _) ?_;rw [List.length_map,List.length_range];omega
end Go.Num
