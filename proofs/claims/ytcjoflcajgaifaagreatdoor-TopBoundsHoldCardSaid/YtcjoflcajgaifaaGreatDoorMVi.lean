/- Lemmas: what they ask stands in their statements. -/
import Derived.Test.YtcjoflcajgaifaaGreatDoorMQc
set_option linter.unusedSimpArgs false
set_option linter.unusedVariables false
namespace Go.Num
open Go Go.Kn
def Zx (z:Z) (v:Int):Prop:=z.o=none∨(z=Z.of v∧cM v)
theorem Zx.of (v:Int):Zx (Z.of v) v:=by
 by_cases h:cM v
 ·exact .inr ⟨rfl,h⟩
 refine .inl ?_;rw [Z.of_o,if_neg h]
theorem Zx.lift {f:Int→Int→Z} {a b:Z} {u v r:Int} (ha:Zx a u) (hb:Zx b v) (hf:Zx (f u v) r):Zx (yI f a b) r:=by
 rcases ha with h|⟨h,h1⟩
 ·left;rw [jQ (.inl h)];rfl
 rcases hb with k|⟨k,h2⟩
 ·left;rw [jQ (.inr k)];rfl
 subst h;subst k;rw [eM (Z.of_some h1) (Z.of_some h2)];exact hf
theorem Zx.add {a b:Z} {u v:Int} (ha:Zx a u) (hb:Zx b v):Zx (Z.add a b) (u+v):=ha.lift hb (.of _)
theorem Zx.mul {a b:Z} {u v:Int} (ha:Zx a u) (hb:Zx b v):Zx (Z.mul a b) (u*v):=ha.lift hb (.of _)
def Ix (x:I) (v:Int):Prop:=Zx x.dec v
theorem KB {z:Z} {v:Int} (h:Zx z v):Ix (E z) v:=by unfold Ix;rw [bR];exact h
theorem Ix.of (v:Int):Ix (E (Z.of v)) v:=KB (.of v)
theorem Ix.gd {x:I} {v:Int} (h:Ix x v) (g:gdI x=true):x=E (Z.of v)∧cM v:=by
 obtain ⟨w,hw,e⟩:=fU_ g;subst e;unfold Ix at h;rw [bR] at h;rcases h with h|⟨h,b⟩
 ·rw [Z.of_some hw] at h;cases h
 exact ⟨by rw [h],b⟩
theorem LJ {l:List I} (h:(mkP l).all gdI=true):l.all gdI=true:=by
 unfold mkP at h
 cases hl:l.all gdI
 ·rw [hl,cond_false,eE] at h;cases h
 rfl
def Px (p:List I) (c:Nat→Int):Prop:=p.length≤1000∧(p.all gdI=true→Po p c)
section
variable {p q:List I} {c d:Nat→Int}
theorem Po.px (h:Po p c):Px p c:=⟨h.l3,fun _=>h⟩
theorem R8 {f:Nat→I} {n:Nat} (h:∀ k,k<n→Ix (f k) (c k)) (h0:∀ k,n≤k→c k=0) (hn:n≤25) (hg:(mkP ((List.range n).map f)).all gdI=true):Po (mkP ((List.range n).map f)) c:=by
 have hall:=LJ hg;have hgd:∀ k,k<n→gdI (f k)=true:=fun k hk=>List.all_eq_true.1 hall _ (List.mem_map.2 ⟨k,List.mem_range.2 hk,rfl⟩);refine MW (fun k hk=>((h k hk).gd (hgd k hk)).1) h0 (fun k=>?_) (fun k hk=>h0 k oo_)
 by_cases hk:k<n
 ·exact ((h k hk).gd (hgd k hk)).2
 rw [h0 k oo_];exact B0
theorem TS (h:Po p c) (g:Po q d) (k:Nat) :
  ∀ (t i:Nat) (m:I),k+1 - i<t→i≤k+1→Ix m (fF (fun i=>c i*d (k - i)) i)→Ix (fN k q p t i m).2 (conv c d k)
 | 0,i,m,ht,_,_=>absurd ht (Nat.not_lt_zero _)
 | t+1,i,m,ht,hi,hm=>by
  unfold fN;have e:∀ a b,a≤b→p.length≤a→fF (fun i=>c i*d (k - i)) b=fF (fun i=>c i*d (k - i)) a:=fun a b hab hpa =>
   nB (fun j hj=>by rw [h.zero oo_,Int.zero_mul]) b hab
  by_cases hk:(i:Int)≤min (k:Int) ((p.length:Int) - 1)
  ·rw [decide_eq_true hk,cond_true,h.get,g.get,bR,bR]
   exact TS h g k t (i+1) _ oo_ oo_ (KB (Zx.add hm (Zx.mul (.of _) (.of _))))
  rw [decide_eq_false hk,cond_false]
  show Ix m (fF _ (k+1))
  rcases Nat.lt_or_ge i (k+1) with h1|h1
  ·rw [e i (k+1) oo_ oo_];exact hm
  rw [show k+1=i by omega];exact hm
theorem Px.mul (hp:Px p c) (hq:Px q d) (hl:p.length+q.length≤26):Px (fV p q) (conv c d):=by
 refine ⟨k25 (BP _ _),fun hg=>?_⟩
 have gp:p.all gdI=true:=by
  cases hc:p.all gdI
  ·rw [SH hp.1 hq.1 (.inl hc),eE] at hg;cases hg
  rfl
 have gq:q.all gdI=true:=by
  cases hc:q.all gdI
  ·rw [SH hp.1 hq.1 (.inr hc),eE] at hg;cases hg
  rfl
 have h:=hp.2 gp;have g:=hq.2 gq;unfold fV at hg ⊢;rw [h.nb,g.nb,Bool.or_false,cond_false] at hg ⊢
 by_cases h0:p=[]
 ·subst h0
  rw [show (((([]:List I).length:Int)==0)||((q.length:Int)==0))=true by simp,cond_true];exact B9.cast fun k=>Eq.symm (jL fun i _=>by rw [h.zero (Nat.zero_le _),Int.zero_mul])
 by_cases g0:q=[]
 ·subst g0
  rw [show (((p.length:Int)==0)||((([]:List I).length:Int)==0))=true by simp,cond_true];refine B9.cast fun k=>Eq.symm (jL fun i _=>?_);rw [g.zero (Nat.zero_le _),Int.mul_zero]
 have h1:0<p.length:=List.length_pos_iff.2 h0;have h2:0<q.length:=List.length_pos_iff.2 g0
 rw [show (((p.length:Int)==0)||((q.length:Int)==0))=false by
  rw [Bool.or_eq_false_iff];exact ⟨beq_eq_false_iff_ne.2 oo_,beq_eq_false_iff_ne.2 oo_⟩,cond_false,oT] at hg ⊢
 have hz:∀ k,p.length+q.length≤k+1→conv c d k=0:=fun k hk=>kU (fun i hi=>h.zero hi) (fun i hi=>g.zero hi) k hk;refine R8 (fun k _=>?_) (fun k hk=>hz k oo_) oo_ hg;unfold kO
 show Ix (fN _ _ _ _ _ _).2 _
 refine TS h g k _ _ _ oo_ oo_ ?_;rw [jL fun i hi=>by rw [g.zero oo_,Int.mul_zero]];exact .of 0
theorem Px.add (hp:Px p c) (hq:Px q d):Px (kF p q) (fun k=>c k+d k):=by
 refine ⟨k25 (wO _ _),fun hg=>?_⟩
 have gp:p.all gdI=true:=by
  cases hc:p.all gdI
  ·rw [SE hp.1 hq.1 (.inl hc),eE] at hg;cases hg
  rfl
 have gq:q.all gdI=true:=by
  cases hc:q.all gdI
  ·rw [SE hp.1 hq.1 (.inr hc),eE] at hg;cases hg
  rfl
 have h:=hp.2 gp;have g:=hq.2 gq;unfold kF at hg ⊢;rw [rP _ h.l3 g.l3,h.g,g.g,Bool.and_true,cond_true] at hg ⊢;have hl:=h.l;have gl:=g.l;refine R8 (fun k _=>?_) (fun k hk=>by rw [h.zero oo_,g.zero oo_];rfl) oo_ hg;rw [h.get,g.get];exact KB (by rw [bR,bR];exact Zx.add (.of _) (.of _))
theorem er_ {x y:I} {u v:Int} (hx:Ix x u) (hy:Ix y v):Px (bG [x,y]) (lin u v):=by
 refine ⟨k25 (kS _),fun hg=>?_⟩;rw [qK] at hg;have:=LJ hg;obtain ⟨e1,b1⟩:=hx.gd (List.all_eq_true.1 this x (by simp));obtain ⟨e2,b2⟩:=hy.gd (List.all_eq_true.1 this y (by simp));rw [e1,e2];exact ZC b1 b2
theorem eF_ {x:I} {u:Int} (hx:Ix x u):Px (bG [x]) (lin u 0):=by
 refine ⟨k25 (kS _),fun hg=>?_⟩;rw [qK] at hg;have:=LJ hg;obtain ⟨e1,b1⟩:=hx.gd (List.all_eq_true.1 this x (by simp));rw [e1];exact ZZ b1
theorem eJ_ {x:I} {D:Int} (hx:Ix x D):∀ k,Ix (pw x k) (D ^ k)
 | 0=>by rw [Int.pow_zero];exact .of 1
 | k+1=>by rw [pw,Int.pow_succ];exact KB (Zx.mul (eJ_ hx k) hx)
end
theorem e1_ (c:Nat→Int) (u v W:Int) (L:Nat):∀ t k,t≤k→sb c u v W L t k=0
 | 0,k,_=>rfl
 | t+1,k,h=>by
  show conv (sb c u v W L t) (lin u v) k+lin (c (L - 1 - t)*W ^ t) 0 k=0
  rw [kU (n:=t) (m:=2) (e1_ c u v W L t) (fun i hi=>by unfold lin;rw [if_neg oo_,if_neg oo_]) k oo_];unfold lin;rw [if_neg oo_,ite_self];rfl
theorem VP (x y:I):(bG [x,y]).length≤2:=by
 rw [qK];exact LK _
section
variable {p:List I} {c:Nat→Int} {a b:Rt} {N D M F:Int}
theorem UI (h:Po p c) (h7:p.length≤20) (ia:a.Is N D) (ib:b.Is M F) :
  ∀ (f t:Nat) (i:Int) (r:List I),t≤p.length→i=(p.length:Int) - 1 - t→p.length - t<f→r.length≤t→Px r (sb c (N*F) (M*D) (D*F) p.length t) →
  Px (eC p a b f r i).1 (sb c (N*F) (M*D) (D*F) p.length p.length)
 | 0,t,i,r,_,_,hf,_,_=>absurd hf (Nat.not_lt_zero _)
 | f+1,t,i,r,ht,hi,hf,hrl,hr=>by
  unfold eC
  by_cases h0:0≤i
  ·rw [decide_eq_true h0,cond_true]
   have htl:t<p.length:=by omega
   have e1:i.toNat=p.length - 1 - t:=by omega
   have e2:p.length - 1 - i.toNat=t:=by omega
   simp only;rw [e2,tR _ _ (show t<max (p.length:Int).toNat 1 by omega),ia.ed,ia.en,ib.ed,ib.en,e1,h.get];have ml:=VP (E (Z.mul (E (Z.of N)).dec (E (Z.of F)).dec)) (E (Z.mul (E (Z.of M)).dec (E (Z.of D)).dec));have m1:=Px.mul hr (er_ (x:=E (Z.mul (E (Z.of N)).dec (E (Z.of F)).dec)) (y:=E (Z.mul (E (Z.of M)).dec (E (Z.of D)).dec)) (KB (Zx.mul (Ix.of N) (Ix.of F))) (KB (Zx.mul (Ix.of M) (Ix.of D)))) oo_;have m2:=m1.add (eF_ (x:=E (Z.mul (E (Z.of (c (p.length - 1 - t)))).dec (pw (E (Z.mul (E (Z.of D)).dec (E (Z.of F)).dec)) t).dec)) (u:=c (p.length - 1 - t)*(D*F) ^ t) (KB (Zx.mul (Ix.of _) (eJ_ (KB (Zx.mul (Ix.of D) (Ix.of F))) t))));refine UI h h7 ia ib f (t+1) _ _ oo_ oo_ oo_ ?_ m2;have k1:=b2_ hrl ml oo_;refine bg_ (n:=t+1) (Nat.le_trans k1 oo_) ?_ oo_ oo_;rw [qK];exact Nat.le_trans (LK _) (by simp)
  rw [decide_eq_false h0,cond_false]
  have:t=p.length:=by omega
  rw [← this];rw [← this] at hr;exact hr
end
open Go Go.Kn
def shf (d:Nat→Int) (i k:Nat):Int:=if i≤k then d (k - i) else 0
def j9 (a o:Int) (d:Nat→Int) (n i:Nat) (r:Nat→Int) (k:Nat):Int:=a*r k - o*r (i+n)*shf d i k
def q7 (a o:Int) (d:Nat→Int) (n:Nat):Nat→(Nat→Int)→Nat→Int
 | 0,r=>r
 | m+1,r=>q7 a o d n m (j9 a o d n m r)
def RemB (a o:Int) (d:Nat→Int) (n:Nat):Nat→(Nat→Int)→Prop
 | 0,r=>∀ k,cM (r k)
 | m+1,r=>(∀ k,cM (r k))∧cM (o*r (m+n))∧(∀ k,cM (a*r k))∧(∀ k,cM (o*r (m+n)*d k))∧RemB a o d n m (j9 a o d n m r)
theorem RemB.B {a o:Int} {d:Nat→Int} {n:Nat}:∀ {m:Nat} {r:Nat→Int},RemB a o d n m r→∀ k,cM (r k)
 | 0,_,h=>h
 | _+1,_,h=>h.1
theorem gS_ {u:Int} {b b':Nat} (h:u.natAbs<2 ^ b) (hb:b≤b'):u.natAbs<2 ^ b':=Nat.lt_of_lt_of_le h (Nat.pow_le_pow_right dd_ hb)
section
variable {p q:List I} {c d:Nat→Int} {n:Nat}
theorem KK (g:Po q d) (i k:Nat):dR q ((k:Int) - (i:Int))=E (Z.of (shf d i k)):=by
 unfold shf
 by_cases h:i≤k
 ·rw [if_pos h,show (k:Int) - (i:Int)=((k - i:Nat):Int) by omega,AB,g.get]
 rw [if_neg h];unfold dR;rw [decide_eq_true oo_,Bool.true_or,cond_true];rfl
theorem dq_ (g:Po q d) (i k:Nat):cM (shf d i k):=by
 unfold shf;split
 ·exact g.B _
 exact B0
theorem T9 (g:Po q d) (hn:q.length=n+1) {r:Nat→Int} {i:Nat} (l:List I) (h1:cM (d n).natAbs) (h2:∀ k,cM (r k)) (h3:cM ((d n).sign*r (i+n))) (h4:∀ k,cM (((d n).natAbs:Int)*r k)) (h5:∀ k,cM ((d n).sign*r (i+n)*d k))
  (h6:∀ k,cM (j9 (d n).natAbs (d n).sign d n i r k)):∀ (f k:Nat) (t:List I),l.length - k<f→k≤l.length→t.length=l.length →
  (∀ j,t.getD j I0=E (Z.of (if j<k then j9 (d n).natAbs (d n).sign d n i r j else r j))) →
  ∃ t',eW p q (i:Int) l (E (Z.of ((d n).sign*r (i+n)))) f k t = .inl (l.length,t')∧t'.length=l.length∧∀ j,t'.getD j I0=E (Z.of (if j<l.length then j9 (d n).natAbs (d n).sign d n i r j else r j))
 | 0,k,t,hf,_,_,_=>absurd hf (Nat.not_lt_zero _)
 | f+1,k,t,hf,hk,ht,hv=>by
  unfold eW
  by_cases hl:k<l.length
  ·rw [decide_eq_true oo_,cond_true]
   have e:=hv k;rw [if_neg (Nat.lt_irrefl k)] at e
   have h5':cM ((d n).sign*r (i+n)*shf d i k):=by
    unfold shf;split
    ·exact h5 _
    rw [Int.mul_zero];exact B0
   have e2:E (Z.sub (Z.mul (Z.abs (q.getD (q.length - 1) I0).dec) (t.getD k I0).dec) (Z.mul (E (Z.of ((d n).sign*r (i+n)))).dec (dR q ((k:Int) - (i:Int))).dec))=E (Z.of (j9 (d n).natAbs (d n).sign d n i r k)):=by
    rw [hn,Nat.add_sub_cancel,g.get,e,KK g,bR,bR,bR,bR,SJ (g.B _),kY h1 (h2 k),kY h3 (dq_ g i k),MP (h4 k) h5'];rfl
   simp only;rw [e2,jU t k _ oo_,E7 (h6 k),cond_false];refine T9 g hn l h1 h2 h3 h4 h5 h6 f (k+1) _ oo_ oo_ (by rw [List.length_set];exact ht) fun j=>?_
   by_cases hj:j=k
   ·subst hj;rw [jU t j _ oo_,if_pos oo_]
   rw [nZ t k j _ hj,hv j]
   by_cases hjk:j<k
   ·rw [if_pos hjk,if_pos oo_]
   rw [if_neg hjk,if_neg oo_]
  rw [decide_eq_false oo_,cond_false]
  have:k=l.length:=by omega
  subst this;exact ⟨t,rfl,ht,hv⟩
theorem tY (g:Po q d) (hn:q.length=n+1) {r:Nat→Int} {i L j:Nat} (hz:∀ k,L≤k→r k=0) (hi:i+n<L) (hj:L≤j):j9 (d n).natAbs (d n).sign d n i r j=0:=by
 unfold j9
 have e:shf d i j=0:=by
  unfold shf;rw [if_pos oo_];exact g.zero oo_
 rw [hz j hj,e,Int.mul_zero,Int.mul_zero];rfl
theorem fF_ {v:Int} (h:cM v):cM (v.natAbs:Int):=by unfold cM at *;rw [Int.natAbs_natCast];exact h
theorem T8 (g:Po q d) (hn:q.length=n+1):∀ (m f:Nat) (i:Int) (l:List I) (r:Nat→Int),i=(m:Int) - 1→m<f→(m≤l.length - n)→(∀ j,l.getD j I0=E (Z.of (r j)))→(∀ k,l.length≤k→r k=0) →
  RemB (d n).natAbs (d n).sign d n m r→∃ i' l',dD p q f i l = .inl (i',l')∧l'.length=l.length∧(∀ j,l'.getD j I0=E (Z.of (q7 (d n).natAbs (d n).sign d n m r j)))∧(∀ k,l.length≤k→q7 (d n).natAbs (d n).sign d n m r k=0)∧∀ k,cM (q7 (d n).natAbs (d n).sign d n m r k)
 | m,0,i,l,r,_,hf,_,_,_,_=>absurd hf (Nat.not_lt_zero _)
 | 0,f+1,i,l,r,hi,hf,hm,hl,hz,hB=>by
  unfold dD;rw [decide_eq_false oo_,cond_false];exact ⟨i,l,rfl,rfl,hl,hz,hB⟩
 | m+1,f+1,i,l,r,hi,hf,hm,hl,hz,hB=>by
  unfold dD;rw [decide_eq_true oo_,cond_true];obtain ⟨b1,b2,b3,b4,b5⟩:=hB
  have e:E (Z.mul (Z.of (Z.signW (q.getD (q.length - 1) I0).dec).1) (l.getD (i.toNat+(q.length - 1)) I0).dec)=E (Z.of ((d n).sign*r (m+n))):=by
   have hs:cM (d n).sign:=by
    rcases Int.lt_trichotomy (d n) 0 with h|h|h
    ·rw [Int.sign_eq_neg_one_of_neg h];decide
    ·rw [h];decide
    rw [Int.sign_eq_one_of_pos h];decide
   rw [hn,Nat.add_sub_cancel,g.get,hl,bR,bR,iQ (g.B n),show i.toNat=m by omega,kY hs (b1 _)]
  obtain ⟨t,h1,h2,h3⟩:=T9 (p:=p) g hn (i:=m) l (fF_ (g.B n)) b1 b2 b3 b4 b5.B (l.length+1) 0 l oo_ (Nat.zero_le _) O (fun j=>by rw [if_neg (Nat.not_lt_zero _)];exact hl j);simp only;rw [e,show i=(m:Int) by omega,h1]
  have k1:∀ j,t.getD j I0=E (Z.of (j9 (d n).natAbs (d n).sign d n m r j)):=fun j=>by
   rw [h3 j]
   split
   ·rfl
   rw [hz j oo_,tY g hn hz oo_ oo_]
  obtain ⟨i',l',a1,a2,a3,a4,a5⟩:=T8 g hn m f ((m:Int) - 1) t _ O oo_ oo_ k1 (fun k hk=>tY g hn hz oo_ oo_) b5;exact ⟨i',l',a1,a2.trans h2,a3,fun k hk=>a4 k oo_,a5⟩
theorem WV (h:Po p c) (g:Po q d) (hn:q.length=n+1) (hB:RemB (d n).natAbs (d n).sign d n (p.length - n) c):Po (aZ p q) (q7 (d n).natAbs (d n).sign d n (p.length - n) c):=by
 unfold aZ;rw [h.nb,g.nb,show ((q.length:Int)==0)=false from beq_eq_false_iff_ne.2 oo_,Bool.false_or,Bool.false_or,cond_false,List.nil_append,hn];have hl:=h.l
 have go:∀ i:Int,i=(p.length:Int) - 1 - (((n+1:Nat):Int) - 1)→∃ i' l',dD p q (p.length+1) i p = .inl (i',l')∧l'.length=p.length∧(∀ j,l'.getD j I0=E (Z.of (q7 (d n).natAbs (d n).sign d n (p.length - n) c j)))∧(∀ k,p.length≤k→q7 (d n).natAbs (d n).sign d n (p.length - n) c k=0)∧∀ k,cM (q7 (d n).natAbs (d n).sign d n (p.length - n) c k):=fun i hi=>by
  by_cases hs:n≤p.length
  ·exact T8 g hn (p.length - n) (p.length+1) i p c oo_ oo_ (Nat.le_refl _) h.get (fun k hk=>h.zero hk) hB
  have e0:p.length - n=0:=by omega
  rw [e0] at hB ⊢;unfold dD;rw [decide_eq_false oo_,cond_false];exact ⟨i,p,rfl,rfl,h.get,fun k hk=>h.zero hk,h.B⟩
 obtain ⟨i',l',a1,a2,a3,a4,a5⟩:=go _ O;rw [a1]
 show Po (bG l') _
 rw [qK];exact AJ a3 a5 fun k hk=>a4 k oo_
end
open Go Go.Kn
theorem wJ (d:Nat→Int) (m k:Nat):conv d (fun i=>if i=m then 1 else 0) k=shf d m k:=by
 rw [rF];unfold conv shf
 by_cases h:m≤k
 ·rw [if_pos h,G9 (a:=m) (fun i hi=>?_) oo_]
  ·show (if m=m then 1 else 0)*d (k - m)=_
   rw [if_pos O,Int.one_mul]
  show (if i=m then 1 else 0)*d (k - i)=_
  rw [if_neg hi,Int.zero_mul]
 rw [if_neg h];refine jL fun i hi=>?_
 show (if i=m then 1 else 0)*d (k - i)=_
 rw [if_neg oo_,Int.zero_mul]
theorem QX (d S:Nat→Int) (m k:Nat) (hS:∀ i,m<i→S i=0):conv d S k=conv d (fun i=>if i<m then S i else 0) k+S m*shf d m k:=by
 have e:conv d (fun i=>S m*(if i=m then 1 else 0)) k=S m*shf d m k:=by rw [← wJ,qN]
 rw [← e]
 rw [show conv d S=fun k=>conv d (fun i=>if i<m then S i else 0) k+conv d (fun i=>S m*(if i=m then 1 else 0)) k by
  rw [← A8]
  congr 1
  funext i
  rcases Nat.lt_trichotomy i m with h|h|h
  ·rw [if_pos h,if_neg oo_,Int.mul_zero,Int.add_zero]
  ·rw [if_neg oo_,if_pos h,h,Int.mul_one,Int.zero_add]
  rw [if_neg oo_,if_neg oo_,hS i h,Int.mul_zero];rfl]
theorem GX (v:Int):v.sign*v=(v.natAbs:Int):=by
 rcases Int.lt_trichotomy v 0 with h|h|h
 ·rw [Int.sign_eq_neg_one_of_neg h];omega
 ·subst h;rfl
 rw [Int.sign_eq_one_of_pos h];omega
theorem PN (v:Int):v.sign.natAbs≤1:=by
 rcases Int.lt_trichotomy v 0 with h|h|h
 ·rw [Int.sign_eq_neg_one_of_neg h];decide
 ·subst h;decide
 rw [Int.sign_eq_one_of_pos h];decide
theorem b4_ {p:List I} (hl:p.length≤1000) (h:aP p=false):p.all gdI=true:=by
 rw [lY hl] at h;simpa using h
structure QP where
 c:Nat→Rat
 fs:∃ n,∀ i,n≤i→c i=0
namespace QP
theorem ex {a b:QP} (h:∀ k,a.c k=b.c k):a=b:=by
 obtain ⟨c,_⟩:=a;obtain ⟨d,_⟩:=b;have e:c=d:=funext h;subst e;rfl
instance:Add QP:=⟨fun a b=>⟨fun k=>a.c k+b.c k,by
 obtain ⟨n,h⟩:=a.fs;obtain ⟨m,g⟩:=b.fs
 exact ⟨max n m,fun i hi=>by show a.c i+b.c i=0;rw [h i (by omega),g i (by omega),Rat.add_zero]⟩⟩⟩
instance:Mul QP:=⟨fun a b=>⟨conv a.c b.c,by
 obtain ⟨n,h⟩:=a.fs;obtain ⟨m,g⟩:=b.fs
 exact ⟨n+m,fun i hi=>kU h g i (by omega)⟩⟩⟩
def M (t:Rat) (j:Nat):QP:=⟨fun k=>if k=j then t else 0,⟨j+1,fun i hi=>if_neg (by omega)⟩⟩
def C (t:Rat):QP:=M t 0
theorem UB {a b:Rat} (ha:a≠0) (hb:b≠0):a*b≠0:=fun h=>by
 rcases Rat.mul_eq_zero.1 h with h1|h1
 ·exact ha h1
 exact hb h1
theorem add_c (a b:QP) (k:Nat):(a+b).c k=a.c k+b.c k:=rfl
theorem mul_c (a b:QP) (k:Nat):(a*b).c k=conv a.c b.c k:=rfl
theorem M8 (t:Rat) (j:Nat) (a:QP) (k:Nat):(M t j*a).c k=if j≤k then t*a.c (k - j) else 0:=by
 rw [mul_c];unfold conv
 by_cases h:j≤k
 ·rw [if_pos h,G9 (a:=j) (fun i hi=>by show (if i=j then t else 0)*_=0;rw [if_neg hi];exact Rat.zero_mul _) (by omega)]
  show (if j=j then t else 0)*_=_
  rw [if_pos O]
 rw [if_neg h]
 exact jL fun i hi=>by show (if i=j then t else 0)*_=0;rw [if_neg (by omega)];exact Rat.zero_mul _
theorem C_mul (t:Rat) (a:QP) (k:Nat):(C t*a).c k=t*a.c k:=by unfold C;rw [M8,if_pos (Nat.zero_le _),Nat.sub_zero]
theorem C_c (t:Rat) (k:Nat):(C t).c k=if k=0 then t else 0:=rfl
theorem U3 (a b:QP):a+b=b+a:=ex fun k=>Rat.add_comm _ _
theorem mul_comm' (a b:QP):a*b=b*a:=ex fun k=>congrFun (rF a.c b.c) k
theorem mul_assoc' (a b c:QP):a*b*c=a*(b*c):=ex fun k=>congrFun (FE a.c b.c c.c) k
theorem mul_add' (a b c:QP):a*(b+c)=a*b+a*c:=ex fun k=>congrFun (A8 a.c b.c c.c) k
theorem NE (a b c:QP):(a+b)*c=a*c+b*c:=by rw [mul_comm',mul_add',mul_comm' c a,mul_comm' c b]
theorem lc' (a b c:QP):a*(b*c)=b*(a*c):=by rw [← mul_assoc',mul_comm' a b,mul_assoc']
theorem C_C (s t:Rat):C s*C t=C (s*t):=ex fun k=>by
 rw [C_mul,C_c,C_c];split
 ·rfl
 exact Rat.mul_zero _
theorem oY (a:QP):C 1*a=a:=ex fun k=>by rw [C_mul,Rat.one_mul]
theorem BK (a:QP):a*C 1=a:=by rw [mul_comm',oY]
theorem zV (a:QP):C 0*a=C 0:=ex fun k=>by rw [C_mul,Rat.zero_mul,C_c];split<;>rfl
theorem mul_zero' (a:QP):a*C 0=C 0:=by rw [mul_comm',zV]
theorem C0_c (k:Nat):(C 0).c k=0:=by rw [C_c];split<;>rfl
theorem add_zero' (a:QP):a+C 0=a:=ex fun k=>by rw [add_c,C0_c,Rat.add_zero]
theorem zT (a:QP):C 0+a=a:=by rw [U3,add_zero']
theorem WH {a b:QP} (h:a+C (-1)*b=C 0):a=b:=ex fun k=>by
 have e:=congrArg (fun x:QP=>x.c k) h;simp only [add_c,C_mul,C0_c] at e
 grind
def Dg (a:QP) (n:Nat):Prop:=a.c n≠0∧∀ i,n<i→a.c i=0
theorem X2 (a:QP):∀ N:Nat,(∀ i,N≤i→a.c i=0)→a=C 0 ∨ ∃ n,n<N∧Dg a n
 | 0,h=>.inl (ex fun k=>by rw [h k (Nat.zero_le _),C0_c])
 | N+1,h=>by
  by_cases h0:a.c N=0
  ·rcases X2 a N (fun i hi=>by rcases Nat.lt_or_eq_of_le hi with h1|h1;exact h i h1;rw [← h1];exact h0) with h1|⟨n,h1,h2⟩
   ·exact .inl h1
   exact .inr ⟨n,by omega,h2⟩
  exact .inr ⟨N,by omega,h0,fun i hi=>h i hi⟩
theorem ex_dg {a:QP} (h:a≠C 0):∃ n,Dg a n:=by
 obtain ⟨N,hN⟩:=a.fs;rcases X2 a N hN with h1|⟨n,_,h2⟩
 ·exact absurd h1 h
 exact ⟨n,h2⟩
theorem Dg.ne {a:QP} {n:Nat} (h:Dg a n):a≠C 0:=fun e=>h.1 (by rw [e,C0_c])
theorem Dg.un {a:QP} {n m:Nat} (h:Dg a n) (g:Dg a m):n=m:=by
 rcases Nat.lt_trichotomy n m with h1|h1|h1
 ·exact absurd (h.2 _ h1) g.1
 ·exact h1
 exact absurd (g.2 _ h1) h.1
theorem Dg.mul {a b:QP} {n m:Nat} (h:Dg a n) (g:Dg b m):Dg (a*b) (n+m):=by
 refine ⟨?_,fun i hi=>kU (n:=n+1) (m:=m+1) (fun j hj=>h.2 j hj) (fun j hj=>g.2 j hj) i (by omega)⟩;rw [mul_c,mW h.2 g.2];exact UB h.1 g.1
theorem C_dg {t:Rat} (h:t≠0):Dg (C t) 0:=⟨by rw [C_c,if_pos O];exact h,fun i hi=>by rw [C_c,if_neg (by omega)]⟩
theorem dg_C {a:QP} (h:Dg a 0):a=C (a.c 0):=ex fun k=>by
 rw [C_c];split
 ·next e=>rw [e]
 exact h.2 k (by omega)
theorem mul_ne {a b:QP} (ha:a≠C 0) (hb:b≠C 0):a*b≠C 0:=by
 obtain ⟨n,h⟩:=ex_dg ha;obtain ⟨m,g⟩:=ex_dg hb;exact (h.mul g).ne
theorem mul_can {a b c:QP} (ha:a≠C 0) (h:a*b=a*c):b=c:=by
 apply WH
 apply Classical.byContradiction
 intro hn;refine mul_ne ha hn ?_;rw [mul_add',lc' a (C (-1)),h]
 exact ex fun k=>by rw [add_c,C_mul,C0_c];grind
def Dv (a b:QP):Prop:=∃ h,b=a*h
theorem Dv.refl (a:QP):Dv a a:=⟨C 1,(BK a).symm⟩
theorem Dv.trans {a b c:QP} (h:Dv a b) (g:Dv b c):Dv a c:=by
 obtain ⟨x,hx⟩:=h;obtain ⟨y,hy⟩:=g;exact ⟨x*y,by rw [hy,hx,mul_assoc']⟩
theorem Dv.mul {a b:QP} (h:Dv a b) (c:QP):Dv a (b*c):=h.trans ⟨c,rfl⟩
theorem Dv.mul_l {a b:QP} (h:Dv a b) (c:QP):Dv a (c*b):=by rw [mul_comm'];exact h.mul c
theorem Dv.add {a b c:QP} (h:Dv a b) (g:Dv a c):Dv a (b+c):=by
 obtain ⟨x,hx⟩:=h;obtain ⟨y,hy⟩:=g;exact ⟨x+y,by rw [hx,hy,mul_add']⟩
theorem Dv.zero (a:QP):Dv a (C 0):=⟨C 0,(mul_zero' a).symm⟩
theorem Dv.of_zero {a:QP} (h:Dv (C 0) a):a=C 0:=by obtain ⟨x,hx⟩:=h;rw [hx,zV]
theorem Dv.both {a b:QP} (c:QP) (h:Dv a b):Dv (c*a) (c*b):=by obtain ⟨x,hx⟩:=h;exact ⟨x,by rw [hx,mul_assoc']⟩
theorem Dv.cancel {a b c:QP} (hc:c≠C 0) (h:Dv (c*a) (c*b)):Dv a b:=by
 obtain ⟨x,hx⟩:=h;exact ⟨x,QP.mul_can hc (by rw [hx,mul_assoc'])⟩
theorem Dv.ne {a b:QP} (h:Dv a b) (hb:b≠C 0):a≠C 0:=fun e=>hb (by rw [e] at h;exact h.of_zero)
theorem Dv.scale {a b:QP} {t:Rat} (ht:t≠0) (h:Dv a (C t*b)):Dv a b:=by
 obtain ⟨x,hx⟩:=h;refine ⟨C t⁻¹*x,?_⟩;rw [lc' a,← hx,← mul_assoc',C_C,Rat.inv_mul_cancel _ ht,oY]
theorem C_dv {t:Rat} (ht:t≠0) (a:QP):Dv (C t*a) a:=⟨C t⁻¹,by rw [mul_comm' _ (C t⁻¹),← mul_assoc',C_C,Rat.inv_mul_cancel _ ht,oY]⟩
theorem eG_ {a:QP} (h:Dg a 0) (b:QP):Dv a b:=by
 refine ⟨C (a.c 0)⁻¹*b,?_⟩
 conv=>rhs;rw [dg_C h]
 rw [show (C (a.c 0)).c 0=a.c 0 from rfl,← mul_assoc',C_C,Rat.mul_inv_cancel _ h.1,oY]
theorem Dv.dg {a b:QP} {n m:Nat} (h:Dv a b) (ha:Dg a n) (hb:Dg b m):n≤m:=by
 obtain ⟨x,hx⟩:=h;have h0:x≠C 0:=fun e=>hb.ne (by rw [hx,e,mul_zero']);obtain ⟨l,hl⟩:=ex_dg h0;have:=(ha.mul hl).un (hx ▸ hb);omega
theorem Dv.same {a b:QP} {n:Nat} (h:Dv a b) (ha:Dg a n) (hb:Dg b n):∃ t,t≠0∧b=C t*a:=by
 obtain ⟨x,hx⟩:=h;have h0:x≠C 0:=fun e=>hb.ne (by rw [hx,e,mul_zero']);obtain ⟨l,hl⟩:=ex_dg h0;have:=(ha.mul hl).un (hx ▸ hb)
 obtain rfl:l=0:=by omega
 exact ⟨x.c 0,hl.1,by rw [hx,mul_comm',dg_C hl];rfl⟩
theorem Dv.back {a b:QP} {n:Nat} (h:Dv a b) (ha:Dg a n) (hb:Dg b n):Dv b a:=by
 obtain ⟨t,ht,e⟩:=h.same ha hb;rw [e];exact C_dv ht a
theorem SX {b:QP} {n:Nat} (hb:Dg b n):∀ (N:Nat) (a:QP),(∀ i,N≤i→a.c i=0)→∃ q r:QP,a=b*q+r∧∀ i,n≤i→r.c i=0
 | 0,a,h=>⟨C 0,a,by rw [mul_zero',zT],fun i _=>h i (Nat.zero_le _)⟩
 | N+1,a,h=>by
  by_cases hn:N<n
  ·exact ⟨C 0,a,by rw [mul_zero',zT],fun i hi=>h i (by omega)⟩
  obtain ⟨q,r,h1,h2⟩:=SX hb N (a+M (-(a.c N / b.c n)) (N - n)*b) (fun i hi=>by
   rw [add_c,M8,if_pos (by omega)];rcases Nat.lt_or_eq_of_le hi with h3|h3
   ·rw [h i h3,hb.2 (i - (N - n)) (by omega)];grind
   rw [← h3,show N - (N - n)=n by omega];have:=hb.1
   grind)
  refine ⟨q+M (a.c N / b.c n) (N - n),r,?_,h2⟩;refine ex fun k=>?_;have e:=congrArg (fun x:QP=>x.c k) h1;simp only [add_c,M8] at e;rw [mul_add',mul_comm' b (M _ _),add_c,add_c,M8]
  split at e
  ·next h3=>rw [if_pos h3];grind
  ·next h3=>rw [if_neg h3];grind
theorem bez:∀ (N:Nat) (a b:QP),(∀ i,N≤i→b.c i=0)→∃ g u v:QP,g=u*a+v*b∧Dv g a∧Dv g b:=by
 intro N
 induction N using Nat.strongRecOn with
 | _ N ih =>
  intro a b h;rcases X2 b N h with h0|⟨n,hn,hb⟩
  ·exact ⟨a,C 1,C 0,by rw [zV,add_zero',oY],.refl a,by rw [h0];exact .zero a⟩
  obtain ⟨M,hM⟩:=a.fs;obtain ⟨q,r,h1,h2⟩:=SX hb M a hM;obtain ⟨g,u,v,h3,h4,h5⟩:=ih n hn b r h2;refine ⟨g,v,u+C (-1)*(v*q),?_,by rw [h1];exact (h4.mul q).add h5,h4⟩;rw [h3,h1,mul_add',NE,mul_assoc' (C (-1)),mul_assoc' v q b,mul_comm' q b]
  exact ex fun k=>by simp only [add_c,C_mul];grind
theorem bezout (a b:QP):∃ g u v:QP,g=u*a+v*b∧Dv g a∧Dv g b:=by
 obtain ⟨N,hN⟩:=b.fs;exact bez N a b hN
def Irr (h:QP):Prop:=∃ n,1≤n∧Dg h n∧∀ d,Dv d h→Dg d 0∨Dg d n
theorem Irr.ne {h:QP} (i:Irr h):h≠C 0:=by obtain ⟨n,_,hd,_⟩:=i;exact hd.ne
theorem YF:∀ (n:Nat) (p:QP),Dg p n→1≤n→∃ h,Irr h∧Dv h p:=by
 intro n
 induction n using Nat.strongRecOn with
 | _ n ih =>
  intro p hp hn
  by_cases hx:∃ d,Dv d p∧¬ Dg d 0∧¬ Dg d n
  ·obtain ⟨d,h1,h2,h3⟩:=hx
   obtain ⟨m,hm⟩:=ex_dg (h1.ne hp.ne);have:=h1.dg hm hp;have m0:m≠0:=fun e=>h2 (e ▸ hm);have mn:m≠n:=fun e=>h3 (e ▸ hm);obtain ⟨h,hi,hd⟩:=ih m (by omega) d hm (by omega);exact ⟨h,hi,hd.trans h1⟩
  refine ⟨p,⟨n,hn,hp,fun d hd=>?_⟩,.refl p⟩
  apply Classical.byContradiction
  intro hc;exact hx ⟨d,hd,fun e=>hc (.inl e),fun e=>hc (.inr e)⟩
theorem Irr.prime {h a b:QP} (i:Irr h) (hd:Dv h (a*b)):Dv h a∨Dv h b:=by
 obtain ⟨n,hn,hh,hi⟩:=i;obtain ⟨g,u,v,h1,h2,h3⟩:=bezout h a;rcases hi g h2 with h4|h4
 ·right
  have e:C (g.c 0)*b=h*(u*b)+v*(a*b):=by
   rw [← dg_C h4,h1,NE,mul_assoc',mul_assoc',lc' u]
  refine Dv.scale h4.1 (t:=g.c 0) ?_;rw [e];exact (Dv.mul (.refl h) _).add (hd.mul_l v)
 exact .inl ((h2.back h4 hh).trans h3)
def D (a:QP):QP:=⟨fun k=>((k+1:Nat):Rat)*a.c (k+1),by
 obtain ⟨n,h⟩:=a.fs
 exact ⟨n,fun i hi=>by show _*a.c (i+1)=0;rw [h _ (by omega),Rat.mul_zero]⟩⟩
theorem D_c (a:QP) (k:Nat):(D a).c k=((k+1:Nat):Rat)*a.c (k+1):=rfl
theorem M5 (a b:QP):D (a*b)=D a*b+a*D b:=ex fun k=>by
 rw [D_c,add_c,mul_c,mul_c,mul_c];unfold conv;rw [← qY]
 have e:fF (fun i=>((k+1:Nat):Rat)*(a.c i*b.c (k+1 - i))) (k+1+1)=fF (fun i=>(i:Rat)*(a.c i*b.c (k+1 - i))+((k+1 - i:Nat):Rat)*(a.c i*b.c (k+1 - i))) (k+1+1):=fO fun i hi=>by
  have:((k+1:Nat):Rat)=(i:Rat)+((k+1 - i:Nat):Rat):=by rw [← Rat.natCast_add];congr 1;omega
  rw [this,Rat.add_mul]
 rw [e,yZ]
 congr 1
 ·rw [wZ]
  rw [show ((0:Nat):Rat)=0 from rfl,Rat.zero_mul,Rat.zero_add]
  exact fO fun i hi=>by rw [D_c,show k+1 - (i+1)=k - i by omega,Rat.mul_assoc]
 show fF _ (k+1)+((k+1 - (k+1):Nat):Rat)*_=_
 rw [show k+1 - (k+1)=0 by omega,show ((0:Nat):Rat)=0 from rfl,Rat.zero_mul,Rat.add_zero]
 exact fO fun i hi=>by rw [D_c,show k+1 - i=k - i+1 by omega];grind
theorem gX_ {a:QP} {n:Nat} (h:Dg a (n+1)):Dg (D a) n:=by
 refine ⟨?_,fun i hi=>by rw [D_c,h.2 _ (by omega),Rat.mul_zero]⟩;rw [D_c];refine UB (fun e=>?_) h.1;have:((n+1:Nat):Rat)=((0:Nat):Rat):=e;rw [Rat.natCast_inj] at this;omega
theorem Irr.nD {h:QP} (i:Irr h):¬ Dv h (D h):=by
 obtain ⟨n,hn,hh,_⟩:=i;obtain ⟨m,rfl⟩:∃ m,n=m+1:=⟨n - 1,by omega⟩;intro hd;have:=hd.dg hh (gX_ hh);omega
def pow (a:QP):Nat→QP
 | 0=>C 1
 | n+1=>a*pow a n
theorem Z3 {a:QP} (h:a≠C 0):∀ n,pow a n≠C 0
 | 0=>(C_dg (by decide)).ne
 | n+1=>mul_ne h (Z3 h n)
theorem LV (a:QP) (m:Nat):∀ n,pow a (m+n)=pow a m*pow a n
 | 0=>(BK _).symm
 | n+1=>by show a*pow a (m+n)=pow a m*(a*pow a n);rw [LV a m n,lc']
theorem cM_ (h m:QP):∀ e:Nat,D (pow h (e+1)*m)=pow h e*(C ((e+1:Nat):Rat)*(D h*m)+h*D m)
 | 0=>by
  show D (h*C 1*m)=C 1*(C 1*(D h*m)+h*D m)
  rw [BK,M5,oY,oY]
 | e+1=>by
  rw [show pow h (e+1+1)*m=h*(pow h (e+1)*m) from mul_assoc' _ _ _,M5,cM_ h m e,lc' (D h),← mul_assoc' h (pow h e),show h*pow h e=pow h (e+1) from rfl,← mul_add']
  congr 1
  refine ex fun k=>?_;simp only [add_c,C_mul];rw [show ((e+1+1:Nat):Rat)=((e+1:Nat):Rat)+1 by rw [Rat.natCast_add];rfl]
  grind
theorem bG_ {h:QP} (i:Irr h):∀ (n:Nat) (P:QP),Dg P n→∃ e m,P=pow h e*m∧¬ Dv h m:=by
 intro n
 induction n using Nat.strongRecOn with
 | _ n ih =>
  intro P hP
  by_cases hd:Dv h P
  ·obtain ⟨x,hx⟩:=hd
   have x0:x≠C 0:=fun e=>hP.ne (by rw [hx,e,mul_zero']);obtain ⟨l,hl⟩:=ex_dg x0;obtain ⟨k,hk,hh,_⟩:=i;have:=(hh.mul hl).un (hx ▸ hP);obtain ⟨e,m,h1,h2⟩:=ih l (by omega) x hl;exact ⟨e+1,m,by rw [hx,h1];exact (mul_assoc' _ _ _).symm,h2⟩
  exact ⟨0,P,(oY P).symm,hd⟩
theorem sqf_part {P G F:QP} (hP:P≠C 0) (hF:P=G*F) (hD:Dv G (D P)) (hG:∀ d,Dv d P→Dv d (D P)→Dv d G) {h:QP} (i:Irr h):(Dv h P→Dv h F)∧¬ Dv (h*h) F:=by
 obtain ⟨n,hn⟩:=ex_dg hP;obtain ⟨e,m,he,hm⟩:=bG_ i n P hn
 cases e with
 | zero =>
  have hnP:¬ Dv h P:=fun hd=>hm (by rw [he] at hd;rwa [show pow h 0*m=m from oY m] at hd);refine ⟨fun hd=>absurd hd hnP,fun hd=>hnP ?_⟩;rw [hF];exact ((show Dv h (h*h) from ⟨h,rfl⟩).trans hd).mul_l G
 | succ e =>
  have e1:((e+1:Nat):Rat)≠0:=fun x=>by
   have:((e+1:Nat):Rat)=((0:Nat):Rat):=x;rw [Rat.natCast_inj] at this;omega
  have hK:¬ Dv h (C ((e+1:Nat):Rat)*(D h*m)+h*D m):=fun hd=>by
   have h1:Dv h (C ((e+1:Nat):Rat)*(D h*m)):=by
    obtain ⟨x,hx⟩:=hd;refine ⟨x+C (-1)*D m,?_⟩;rw [mul_add',← hx,lc' h]
    exact ex fun k=>by simp only [add_c,C_mul];grind
   rcases i.prime (h1.scale e1) with h2|h2
   ·exact i.nD h2
   exact hm h2
  have hDP:D P=pow h e*(C ((e+1:Nat):Rat)*(D h*m)+h*D m):=by rw [he,cM_]
  have hPe:P=pow h e*(h*m):=by rw [he];show h*pow h e*m=_;rw [mul_comm' h,mul_assoc']
  obtain ⟨G1,hG1⟩:=hG (pow h e) ⟨_,hPe⟩ ⟨_,hDP⟩;have p0:=Z3 i.ne e
  have nG:¬ Dv h G1:=fun hd=>hK (by
   refine Dv.cancel p0 ?_;rw [← hDP];refine Dv.trans (Dv.both _ hd) ?_
   rw [← hG1];exact hD)
  have hmF:h*m=G1*F:=mul_can p0 (by rw [← hPe,hF,hG1,mul_assoc'])
  have hF1:Dv h F:=by
   rcases i.prime (show Dv h (G1*F) from ⟨m,hmF.symm⟩) with h1|h1
   ·exact absurd h1 nG
   exact h1
  refine ⟨fun _=>hF1,fun hd=>?_⟩;obtain ⟨F2,hF2⟩:=hd;refine hm ⟨G1*F2,mul_can i.ne ?_⟩;rw [hmF,hF2,mul_assoc',lc' G1,lc' G1]
theorem dvd_pow {P F:QP} (hd:∀ h,Irr h→Dv h P→Dv h F):∀ (n:Nat) (R:QP),Dg R n→Dv R P→Dv R (pow F n):=by
 intro n
 induction n using Nat.strongRecOn with
 | _ n ih =>
  intro R hR hP
  cases n with
  | zero=>exact eG_ hR _
  | succ n =>
   obtain ⟨h,hi,hh⟩:=YF _ R hR (by omega);obtain ⟨x,hx⟩:=hh;have x0:x≠C 0:=fun e=>hR.ne (by rw [hx,e,mul_zero']);obtain ⟨l,hl⟩:=ex_dg x0;have hi':=hi;obtain ⟨k,hk,hdk,_⟩:=hi';have hs:=(hdk.mul hl).un (hx ▸ hR);have h1:=ih l (by omega) x hl ((show Dv x R from ⟨h,by rw [hx,mul_comm']⟩).trans hP);have h2:Dv h F:=hd h hi ((show Dv h R from ⟨x,hx⟩).trans hP);obtain ⟨y,hy⟩:=h2;obtain ⟨z,hz⟩:=h1;rw [hx,show n+1=1+l+(n - l) by omega,LV,LV];refine Dv.mul ⟨y*z,?_⟩ _
   show F*C 1*pow F l=_
   rw [BK,hz,mul_assoc',lc' x]
   conv=>lhs;rw [hy]
   rw [mul_assoc']
theorem sqf_co {F:QP} (hs:∀ h,Irr h→¬ Dv (h*h) F) {d:QP} {n:Nat} (h1:Dv d F) (h2:Dv d (D F)) (hd:Dg d n):n=0:=by
 cases n with
 | zero=>rfl
 | succ n =>
  obtain ⟨h,hi,hh⟩:=YF _ d hd (by omega);obtain ⟨x,hx⟩:=hh.trans h1;obtain ⟨y,hy⟩:=hh.trans h2
  have:Dv h (D h*x):=by
   refine ⟨y+C (-1)*D x,?_⟩
   have e:D F=D h*x+h*D x:=by rw [hx,M5]
   rw [mul_add',← hy,lc' h,e]
   exact ex fun k=>by simp only [add_c,C_mul];grind
  rcases hi.prime this with h3|h3
  ·exact absurd h3 hi.nD
  obtain ⟨z,hz⟩:=h3;exact absurd ⟨z,by rw [hx,hz,mul_assoc']⟩ (hs h hi)
end QP
def Cop (c:Nat→Int):Prop:=∀ u:Int,(∀ k,u ∣ c k)→u ∣ 1
theorem TM {p:Nat→Prop} (h:∃ k,p k):∃ k,p k∧∀ j,j<k→¬ p j:=by
 obtain ⟨k,hk⟩:=h
 induction k using Nat.strongRecOn with
 | _ k ih =>
  by_cases hx:∃ j,j<k∧p j
  ·obtain ⟨j,h1,h2⟩:=hx
   exact ih j h1 h2
  exact ⟨k,hk,fun j h1 h2=>hx ⟨j,h1,h2⟩⟩
def Pri (u:Int):Prop:=∀ x y:Int,u ∣ x*y→u ∣ x∨u ∣ y
theorem d7_ {u:Nat} (h:2≤u):∃ p:Nat,2≤p∧p ∣ u∧Pri p:=by
 obtain ⟨p,⟨h1,h2⟩,h3⟩:=TM (p:=fun k=>2≤k∧k ∣ u) ⟨u,h,Nat.dvd_refl u⟩;refine ⟨p,h1,h2,fun x y hd=>?_⟩
 have cd:∀ z:Int,(p:Int) ∣ z ↔ p ∣ z.natAbs:=fun z=>by rw [← Int.natAbs_dvd_natAbs,Int.natAbs_natCast]
 rw [cd] at hd ⊢;rw [cd];rw [Int.natAbs_mul] at hd;have g1:Nat.gcd p x.natAbs ∣ p:=Nat.gcd_dvd_left ..;have g2:Nat.gcd p x.natAbs ∣ x.natAbs:=Nat.gcd_dvd_right ..;have g3:0<Nat.gcd p x.natAbs:=Nat.gcd_pos_of_pos_left _ (by omega)
 by_cases hg:Nat.gcd p x.natAbs=1
 ·exact .inr (Nat.Coprime.dvd_of_dvd_mul_left hg hd)
 left
 have g4:=Nat.le_of_dvd (by omega) g1;have:¬ Nat.gcd p x.natAbs<p:=fun hl=>h3 _ hl ⟨by omega,Nat.dvd_trans g1 h2⟩
 rwa [show Nat.gcd p x.natAbs=p by omega] at g2
theorem hq_:Pri 0:=fun x y h=>by
 rw [Int.zero_dvd] at h ⊢;rw [Int.zero_dvd];exact Int.mul_eq_zero.1 h
theorem MQ {u:Int} {f:Nat→Int}:∀ {n:Nat},(∀ t,t<n→u ∣ f t)→u ∣ fF f n
 | 0,_=>Int.dvd_zero u
 | n+1,h=>Int.dvd_add (MQ fun t ht=>h t (by omega)) (h n (by omega))
theorem UJ {u:Int} {f:Nat→Int} {a:Nat}:∀ {n:Nat},(∀ t,t<n→t≠a→u ∣ f t)→a<n→u ∣ fF f n→u ∣ f a
 | 0,_,ha,_=>absurd ha (Nat.not_lt_zero _)
 | n+1,h,ha,hs=>by
  by_cases hn:n=a
  ·subst hn
   exact (Int.dvd_add_right (MQ fun t ht=>h t (by omega) (by omega))).1 hs
  exact UJ (fun t ht=>h t (by omega)) (by omega) ((Int.dvd_add_left (h n (by omega) hn)).1 hs)
theorem TX {u:Int} (hu:Pri u) {c d:Nat→Int} (hc:¬ ∀ k,u ∣ c k) (h:∀ k,u ∣ conv c d k):∀ k,u ∣ d k:=by
 apply Classical.byContradiction
 intro hd;obtain ⟨i,hi,hi'⟩:=TM (p:=fun k=>¬ u ∣ c k) (Classical.byContradiction fun hx=>hc fun k=>Classical.byContradiction fun hk=>hx ⟨k,hk⟩);obtain ⟨j,hj,hj'⟩:=TM (p:=fun k=>¬ u ∣ d k) (Classical.byContradiction fun hx=>hd fun k=>Classical.byContradiction fun hk=>hx ⟨k,hk⟩)
 have h1:u ∣ c i*d (i+j - i):=UJ (f:=fun t=>c t*d (i+j - t)) (a:=i) (n:=i+j+1) (fun t ht hn=>by
  rcases Nat.lt_or_gt_of_ne hn with h2|h2
  ·exact Int.dvd_mul_of_dvd_left (Classical.not_not.1 (hi' t h2)) ..
  exact Int.dvd_mul_of_dvd_right (Classical.not_not.1 (hj' (i+j - t) (by omega))) ..) (by omega) (h (i+j))
 rw [show i+j - i=j by omega] at h1;rcases hu _ _ h1 with h2|h2
 ·exact hi h2
 exact hj h2
theorem SU {c:Nat→Int} (hc:Cop c):∀ (u:Nat) (d:Nat→Int),(∀ k,(u:Int) ∣ conv c d k)→∀ k,(u:Int) ∣ d k:=by
 intro u
 induction u using Nat.strongRecOn with
 | _ u ih =>
  intro d h
  by_cases h0:u=0
  ·subst h0
   exact TX hq_ (fun hx=>by have:=hc 0 hx;omega) h
  by_cases h1:u=1
  ·subst h1
   exact fun k=>Int.one_dvd _
  obtain ⟨p,hp,⟨v,hv⟩,hpp⟩:=d7_ (show 2≤u by omega);subst hv
  have v0:0<v:=by
   rcases Nat.eq_zero_or_pos v with h2|h2
   ·subst h2;omega
   exact h2
  have hlt:v<p*v:=by have:=Nat.mul_le_mul_right v hp;omega
  have hd:∀ k,(p:Int) ∣ d k:=TX hpp (fun hx=>by
   have h2:=hc p hx;have:=Int.le_of_dvd (by decide) h2
   omega) fun k=>Int.dvd_trans (by rw [Int.natCast_mul];exact Int.dvd_mul_right ..) (h k)
  have hd':∀ k,d k=(p:Int)*(d k / p):=fun k=>(Int.mul_ediv_cancel' (hd k)).symm
  have e:conv c d=fun k=>(p:Int)*conv c (fun i=>d i / p) k:=by
   rw [← qN];congr 1;exact funext hd'
  intro k;rw [hd' k,Int.natCast_mul];refine Int.mul_dvd_mul_left _ (ih v hlt (fun i=>d i / p) (fun k=>?_) k);have h3:=h k;rw [e,Int.natCast_mul] at h3;exact Int.dvd_of_mul_dvd_mul_left (by omega) h3
theorem X0 {c d:Nat→Int} (hc:Cop c) {u:Int} (h:∀ k,u ∣ conv c d k):∀ k,u ∣ d k:=fun k=>by
 have:=SU hc u.natAbs d (fun k=>Int.natAbs_dvd.2 (h k)) k;exact Int.natAbs_dvd.1 this
theorem c3_ {c d:Nat→Int} (hc:Cop c) (hd:Cop d):Cop (conv c d):=fun u h=>hd u (X0 hc h)
theorem XZ (c:Nat→Int) (y:Int) (k:Nat):conv c (fun i=>if i=0 then y else 0) k=c k*y:=by
 unfold conv
 show fF _ k+c k*(if k - k=0 then y else 0)=_
 rw [jL fun i hi=>by show c i*(if k - i=0 then y else 0)=0;rw [if_neg (by omega),Int.mul_zero],Nat.sub_self,if_pos O,Int.zero_add]
def lF (c:Nat→Int):Prop:=∃ n,∀ i,n≤i→c i=0
def ZP (c:Nat→Int) (h:lF c):QP:=⟨cR c,by obtain ⟨n,h⟩:=h;exact ⟨n,fun i hi=>by unfold cR;rw [h i hi];rfl⟩⟩
theorem kT (c:Nat→Int) (h:lF c) (k:Nat):(ZP c h).c k=(c k:Rat):=rfl
theorem zG {c d:Nat→Int} (h:lF c) (g:lF d):lF (conv c d):=by
 obtain ⟨n,h⟩:=h;obtain ⟨m,g⟩:=g;exact ⟨n+m,fun i hi=>kU h g i (by omega)⟩
theorem NZ {c:Nat→Int} (h:lF c) (t:Int):lF (fun k=>t*c k):=by
 obtain ⟨n,h⟩:=h;exact ⟨n,fun i hi=>by show t*c i=0;rw [h i hi,Int.mul_zero]⟩
theorem YC {c d:Nat→Int} (h:lF c) (g:lF d):lF (fun k=>c k+d k):=by
 obtain ⟨n,h⟩:=h;obtain ⟨m,g⟩:=g;exact ⟨max n m,fun i hi=>by show c i+d i=0;rw [h i (by omega),g i (by omega)];rfl⟩
theorem pW {c d:Nat→Int} (h:lF c) (g:lF d):ZP (conv c d) (zG h g)=ZP c h*ZP d g:=QP.ex fun k=>congrFun (CF c d) k
theorem dS_ {c:Nat→Int} (h:lF c) (t:Int):ZP (fun k=>t*c k) (NZ h t)=QP.C t*ZP c h:=QP.ex fun k=>by rw [QP.C_mul,kT,kT,Rat.intCast_mul]
theorem ND {c d:Nat→Int} (h:lF c) (g:lF d) (e:∀ k,c k=d k):ZP c h=ZP d g:=QP.ex fun k=>by rw [kT,kT,e]
theorem fM_ {c:Nat→Int} {h:lF c} {n:Nat} (g:QP.Dg (ZP c h) n):c n≠0∧∀ i,n<i→c i=0 :=
 ⟨fun e=>g.1 (by rw [kT,e];rfl),fun i hi=>Rat.intCast_eq_zero_iff.1 (g.2 i hi)⟩
theorem XW (H:Nat→Rat):∀ n:Nat,∃ m:Nat,0<m∧∀ k,k<n→∃ t:Int,(t:Rat)=(m:Rat)*H k
 | 0=>⟨1,Nat.one_pos,fun k hk=>absurd hk (Nat.not_lt_zero _)⟩
 | n+1=>by
  obtain ⟨m,hm,h⟩:=XW H n;refine ⟨m*(H n).den,Nat.mul_pos hm (H n).den_pos,fun k hk=>?_⟩;rw [Rat.natCast_mul];rcases Nat.lt_or_eq_of_le (Nat.le_of_lt_succ hk) with h1|h1
  ·obtain ⟨t,ht⟩:=h k h1
   exact ⟨t*(H n).den,by rw [Rat.intCast_mul,ht];show _*(((H n).den:Nat):Rat)=_;grind⟩
  subst h1
  have e:(((H k).den:Nat):Rat)*H k=(((H k).num:Int):Rat):=by rw [Rat.mul_comm];exact zL _
  exact ⟨m*(H k).num,by rw [Rat.intCast_mul,Rat.mul_assoc,e];rfl⟩
theorem AG {c a:Nat→Int} (hc:Cop c) (ec:lF c) (ea:lF a) (h:QP.Dv (ZP c ec) (ZP a ea)):∃ S:Nat→Int,lF S∧∀ k,a k=conv c S k:=by
 obtain ⟨H,hH⟩:=h;obtain ⟨n,hn⟩:=H.fs;obtain ⟨m,m0,hm⟩:=XW H.c n
 have hT:∀ k,∃ t:Int,(t:Rat)=(m:Rat)*H.c k:=fun k=>by
  by_cases hk:k<n
  ·exact hm k hk
  exact ⟨0,by rw [hn k (by omega),Rat.mul_zero];rfl⟩
 have hT':=Classical.axiomOfChoice hT;obtain ⟨T,hT'⟩:=hT'
 have e1:∀ k,(m:Int)*a k=conv c T k:=fun k=>by
  apply Rat.intCast_inj.1
  have e2:=congrArg (fun x:QP=>(m:Rat)*x.c k) hH;simp only [kT,QP.mul_c] at e2;rw [Rat.intCast_mul,show ((conv c T k:Int):Rat)=cR (conv c T) k from rfl,CF,show cR T=fun i=>(m:Rat)*H.c i from funext hT',qN];exact e2
 have e3:=SU hc m T (fun k=>⟨a k,(e1 k).symm⟩);refine ⟨fun k=>T k / m,⟨n,fun k hk=>?_⟩,fun k=>?_⟩
 ·have:T k=0:=Rat.intCast_inj.1 (by rw [hT',hn k hk,Rat.mul_zero];rfl)
  show T k / m=0
  rw [this,Int.zero_ediv]
 refine Int.eq_of_mul_eq_mul_left (show (m:Int)≠0 by omega) ?_;have e4:=congrFun (qN (m:Int) c (fun i=>T i / m)) k;rw [e1 k,← e4];exact congrFun (congrArg (conv c) (funext fun i=>(Int.mul_ediv_cancel' (e3 i)).symm)) k
open Go Go.Kn
section
variable {a o:Int} {d:Nat→Int} {n:Nat}
theorem V6 (t:Int) (i:Nat) (r:Nat→Int):j9 a o d n i (fun k=>t*r k)=fun k=>t*j9 a o d n i r k:=funext fun k=>by unfold j9;grind
theorem PE (t:Int):∀ (m:Nat) (r:Nat→Int),q7 a o d n m (fun k=>t*r k)=fun k=>t*q7 a o d n m r k
 | 0,r=>rfl
 | m+1,r=>by
  show q7 a o d n m (j9 a o d n m fun k=>t*r k)=_
  rw [V6,PE t m];rfl
theorem JE (ho:o*d n=a) (hd:∀ i,n<i→d i=0) {m:Nat} {r:Nat→Int} (hr:∀ k,m+1+n≤k→r k=0):∀ k,m+n≤k→j9 a o d n m r k=0:=fun k hk=>by
 unfold j9 shf;rcases Nat.lt_or_eq_of_le hk with h|h
 ·rw [hr k oo_,if_pos oo_,hd (k - m) oo_];grind
 rw [← h,if_pos oo_,show m+n - m=n by omega,← ho];grind
theorem C3 (ho:o*d n=a) (hd:∀ i,n<i→d i=0):∀ (m:Nat) (r:Nat→Int),(∀ k,m+n≤k→r k=0)→∀ k,n≤k→q7 a o d n m r k=0
 | 0,r,h=>fun k hk=>h k oo_
 | m+1,r,h=>C3 ho hd m _ (JE ho hd h)
theorem WA (d:Nat→Int) (m:Nat) (t:Int):conv d (fun i=>t*(if i=m then 1 else 0))=fun k=>t*shf d m k:=by
 rw [qN];exact funext fun k=>by rw [wJ]
theorem EX:∀ (m:Nat) (r:Nat→Int),∃ Q,lF Q∧∀ k,a ^ m*r k=conv d Q k+q7 a o d n m r k
 | 0,r=>⟨fun _=>0,⟨0,fun _ _=>rfl⟩,fun k=>by
  rw [show conv d (fun _=>0) k=0 from jL fun i _=>Int.mul_zero _,Int.pow_zero,Int.one_mul,Int.zero_add];rfl⟩
 | m+1,r=>by
  obtain ⟨Q,hQ,h⟩:=EX m (j9 a o d n m r);refine ⟨fun i=>Q i+(a ^ m*o*r (m+n))*(if i=m then 1 else 0),YC hQ ⟨m+1,fun i hi=>by show _*(if i=m then 1 else 0)=0;rw [if_neg oo_,Int.mul_zero]⟩,fun k=>?_⟩;have h1:=h k;rw [A8,WA]
  show _=_+q7 a o d n m (j9 a o d n m r) k
  unfold j9 at h1 ⊢;rw [Int.pow_succ]
  grind
theorem QW (s:Nat→Int) (m:Nat) (ρ:Nat→Int) (k:Nat):conv s (j9 a o d n m ρ) k=a*conv s ρ k + -(o*ρ (m+n))*conv s (shf d m) k:=by
 have e:j9 a o d n m ρ=fun i=>(a*ρ i)+(-(o*ρ (m+n))*shf d m i):=funext fun i=>by unfold j9;grind
 rw [e,A8,qN,qN]
theorem JC {s:Nat→Int} {ds:Nat} {sa os:Int} (hs:∀ i,ds<i→s i=0) (hso:os*s ds=sa) (ho:o*d n=a) (hd:∀ i,n<i→d i=0) :
  ∀ (m:Nat) (ρ:Nat→Int),(∀ k,m+n≤k→ρ k=0)→q7 (sa*a) (os*o) (conv s d) (ds+n) m (conv s ρ)=fun k=>sa ^ m*conv s (q7 a o d n m ρ) k
 | 0,ρ,_=>funext fun k=>by rw [Int.pow_zero,Int.one_mul];rfl
 | m+1,ρ,h=>by
  have e:j9 (sa*a) (os*o) (conv s d) (ds+n) m (conv s ρ)=fun k=>sa*conv s (j9 a o d n m ρ) k:=funext fun k=>by
   rw [QW];unfold j9;rw [show m+(ds+n)=ds+(m+n) by omega,mW hs (m:=m+n) (fun i hi=>h i oo_),← wJ (conv s d),FE,show conv d (fun i=>if i=m then 1 else 0)=shf d m from funext fun i=>wJ d m i,← hso]
   grind
  show q7 _ _ _ _ m (j9 _ _ _ _ m _)=_
  rw [e,PE,JC hs hso ho hd m _ (JE ho hd h)]
  funext k
  show sa*(sa ^ m*conv s (q7 a o d n m (j9 a o d n m ρ)) k)=sa ^ (m+1)*conv s (q7 a o d n m (j9 a o d n m ρ)) k
  rw [Int.pow_succ];grind
theorem PH {B R:Nat} (ha:a.natAbs≤B) (ho:o.natAbs≤1) (hd:∀ k,(d k).natAbs≤B) {r:Nat→Int} (hr:∀ k,(r k).natAbs≤R) (i k:Nat):(j9 a o d n i r k).natAbs≤2*B*R:=by
 unfold j9
 have h1:(a*r k).natAbs≤B*R:=by rw [Int.natAbs_mul];exact Nat.mul_le_mul ha (hr k)
 have h2:(o*r (i+n)*shf d i k).natAbs≤B*R:=by
  have h3:(shf d i k).natAbs≤B:=by
   unfold shf;split
   ·exact hd _
   exact Nat.zero_le _
  rw [Int.natAbs_mul,Int.natAbs_mul,Nat.mul_comm B];refine Nat.mul_le_mul ?_ h3;have:=Nat.mul_le_mul ho (hr (i+n));omega
 have e:2*B*R=B*R+B*R:=by rw [Nat.mul_assoc,Nat.two_mul]
 omega
theorem MA {B:Nat} (ha:a.natAbs≤B) (ho:o.natAbs≤1) (hd:∀ k,(d k).natAbs≤B):∀ (m R:Nat) (r:Nat→Int),(∀ k,(r k).natAbs≤R)→∀ k,(q7 a o d n m r k).natAbs≤(2*B) ^ m*R
 | 0,R,r,h=>fun k=>by rw [Nat.pow_zero,Nat.one_mul];exact h k
 | m+1,R,r,h=>fun k=>by
  have:=MA ha ho hd m _ _ (PH (n:=n) ha ho hd h m) k;rw [Nat.pow_succ,Nat.mul_assoc];exact this
theorem KC {B:Nat} (hB:1≤B) (ha:a.natAbs≤B) (ho:o.natAbs≤1) (hd:∀ k,(d k).natAbs≤B):∀ (m R:Nat) (r:Nat→Int),(∀ k,(r k).natAbs≤R)→(2*B) ^ m*R<4294967296 ^ 16→RemB a o d n m r
 | 0,R,r,h,hb=>fun k=>Nat.lt_of_le_of_lt (h k) (by rwa [Nat.pow_zero,Nat.one_mul] at hb)
 | m+1,R,r,h,hb=>by
  rw [Nat.pow_succ,Nat.mul_assoc] at hb;have h1:1≤(2*B) ^ m:=Nat.pow_pos oo_;have h2:=Nat.mul_le_mul_right (2*B*R) h1;have h3:=Nat.mul_le_mul_right R hB
  have e:2*B*R=B*R+B*R:=by rw [Nat.mul_assoc,Nat.two_mul]
  have ho':(o*r (m+n)).natAbs≤R:=by
   rw [Int.natAbs_mul];have:=Nat.mul_le_mul ho (h (m+n));omega
  refine ⟨fun k=>?_,?_,fun k=>?_,fun k=>?_,KC hB ha ho hd m _ _ (PH ha ho hd h m) hb⟩
  ·have:=h k
   unfold cM;omega
  ·unfold cM;omega
  ·have:(a*r k).natAbs≤B*R:=by rw [Int.natAbs_mul];exact Nat.mul_le_mul ha (h k)
   unfold cM;omega
  have:(o*r (m+n)*d k).natAbs≤B*R:=by rw [Int.natAbs_mul,Nat.mul_comm B];exact Nat.mul_le_mul ho' (hd k)
  unfold cM;omega
theorem EK {c e:Nat→Int} {N A B:Nat} (hc:∀ k,(c k).natAbs≤A) (he:∀ k,(e k).natAbs≤B) (hz:∀ i,N≤i→c i=0) (k:Nat):(conv c e k).natAbs≤N*(A*B):=by
 unfold conv
 have ht:∀ i,(c i*e (k - i)).natAbs≤A*B:=fun i=>by rw [Int.natAbs_mul];exact Nat.mul_le_mul (hc i) (he _)
 by_cases h:N≤k+1
 ·rw [nB (n:=N) (fun i hi=>by rw [hz i hi,Int.zero_mul]) (k+1) h]
  exact MR ht N
 exact Nat.le_trans (MR ht _) (Nat.mul_le_mul_right _ oo_)
theorem NS {c e:Nat→Int} {N M A B:Nat} (hc:∀ k,(c k).natAbs≤A) (he:∀ k,(e k).natAbs≤B) (hz:∀ i,N<i→c i=0) (hy:∀ i,M<i→e i=0) (k:Nat):(conv c e k).natAbs≤(min N M+1)*(A*B):=by
 by_cases h:N≤M
 ·rw [show min N M=N by omega]
  exact EK hc he (fun i hi=>hz i oo_) k
 rw [show min N M=M by omega,rF,Nat.mul_comm A];exact EK he hc (fun i hi=>hy i oo_) k
end
def okT (S ds G:Nat):Nat→Nat→Nat→Nat→Nat→Bool
 | 0,_,_,_,_=>false
 | f+1,n0,n1,M0,M1=>decide (M0≤G)&&decide (M1≤G)&&(List.range (n1+1)).all fun n =>
  decide (1≤(min ds n+1)*(S*(if n=0 then 1 else M1)))&&decide ((2*((min ds n+1)*(S*(if n=0 then 1 else M1)))) ^ (n0+1 - n)*((min ds n0+1)*(S*M0))<4294967296 ^ 16)&&(decide (n=0)||okT S ds G f n (n - 1) (if n=0 then 1 else M1) (if n=1 then 1 else (2*(if n=0 then 1 else M1)) ^ (n0+1 - n)*M0))
structure Pr (c:Nat→Int) (n M:Nat):Prop where
 z:∀ i,n<i→c i=0
 b:∀ k,(c k).natAbs≤M
 p:Cop c ∨ ∀ k,c k=0
theorem Pr.e {c:Nat→Int} {n M:Nat} (h:Pr c n M):lF c:=⟨n+1,fun i hi=>h.z i hi⟩
theorem Po.top {p:List I} {c:Nat→Int} (h:Po p c) (h0:p≠[]):∃ n,p.length=n+1∧c n≠0∧∀ i,n<i→c i=0:=by
 obtain ⟨n,hn⟩:∃ n,p.length=n+1:=⟨p.length - 1,by have:=List.length_pos_iff.2 h0;omega⟩;exact ⟨n,hn,h.last hn,fun i hi=>h.zero oo_⟩
theorem Po.ends {p:List I} {c:Nat→Int} (h:Po p c):lF c:=⟨p.length,fun i hi=>h.zero hi⟩
theorem HF {c:Nat→Int} (h:lF c):(∀ k,c k=0) ∨ ∃ n,c n≠0∧∀ i,n<i→c i=0:=by
 by_cases h0:ZP c h=QP.C 0
 ·left
  intro k;have e:=congrArg (fun x:QP=>x.c k) h0;simp only [kT,QP.C0_c] at e;exact Rat.intCast_eq_zero_iff.1 e
 obtain ⟨n,hn⟩:=QP.ex_dg h0;exact .inr ⟨n,fM_ hn⟩
theorem Po.len_top {p:List I} {c:Nat→Int} (h:Po p c) {n:Nat} (h0:c n≠0) (h1:∀ i,n<i→c i=0):p.length=n+1:=by
 have h2:p.length≤n+1:=h.short fun k hk=>h1 k hk;have h3:¬ p.length≤n:=fun hx=>h0 (h.zero hx);omega
theorem nU {c d:Nat→Int} (h:∀ k,d k=0) (k:Nat):conv c d k=0:=jL fun i _=>by rw [h,Int.mul_zero]
theorem CH {c:Nat→Int} (h:Cop c):¬ ∀ k,c k=0:=fun hz=>by
 have:=h 0 fun k=>by rw [hz];exact Int.dvd_refl 0
 exact absurd (Int.zero_dvd.1 this) dd_
theorem CG {c:Nat→Int} (h:Cop c) (hz:∀ i,0<i→c i=0):(c 0).natAbs=1:=by
 have:=h (c 0) fun k=>by
  rcases Nat.eq_zero_or_pos k with e|e
  ·rw [e];exact Int.dvd_refl _
  rw [hz k e];exact Int.dvd_zero _
 have h2:(c 0).natAbs ∣ 1:=Int.natAbs_dvd_natAbs.2 this;exact Nat.dvd_one.1 h2
theorem CI {s c:Nat→Int} (h:Cop (conv s c)):Cop c:=fun u hu=>h u fun k=>MQ fun i _=>Int.dvd_trans (hu _) (Int.dvd_mul_left ..)
theorem DF {s c d:Nat→Int} (hs:Cop s) (es:lF s) (ec:lF c) (ed:lF d) (h:∀ k,conv s c k=conv s d k):∀ k,c k=d k:=by
 have hne:ZP s es≠QP.C 0:=fun e=>CH hs fun k=>by
  have e1:=congrArg (fun x:QP=>x.c k) e;simp only [kT,QP.C0_c] at e1;exact Rat.intCast_eq_zero_iff.1 e1
 have h1:ZP s es*ZP c ec=ZP s es*ZP d ed:=by rw [← pW,← pW];exact ND _ _ h
 intro k;have e1:=congrArg (fun x:QP=>x.c k) (QP.mul_can hne h1);simp only [kT] at e1;exact Rat.intCast_inj.1 e1
end Go.Num
