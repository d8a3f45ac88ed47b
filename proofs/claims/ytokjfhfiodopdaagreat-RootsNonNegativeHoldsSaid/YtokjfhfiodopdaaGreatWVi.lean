/- Lemmas: what they ask stands in their statements. -/
import Derived.Test.YtokjfhfiodopdaaGreatWPV
set_option linter.unusedSimpArgs false
set_option linter.unusedVariables false
namespace Go.Num
open Go Go.Kn
def Zx (z:Z) (v:Int):Prop:=z.o=none∨(z=Z.of v∧cZ v)
theorem Zx.of (v:Int):Zx (Z.of v) v:=by
  by_cases h:cZ v
  · exact .inr ⟨rfl,h⟩
  refine .inl ?_;rw [Z.of_o,if_neg h]
theorem Zx.lift {f:Int→Int→Z} {a b:Z} {u v r:Int} (ha:Zx a u) (hb:Zx b v) (hf:Zx (f u v) r):Zx (yO f a b) r:=by
  rcases ha with h | ⟨h,h1⟩
  · left;rw [jB (.inl h)];rfl
  rcases hb with k | ⟨k,h2⟩
  · left;rw [jB (.inr k)];rfl
  subst h;subst k;rw [cY (Z.of_some h1) (Z.of_some h2)];exact hf
theorem Zx.add {a b:Z} {u v:Int} (ha:Zx a u) (hb:Zx b v):Zx (Z.add a b) (u+v):=ha.lift hb (.of _)
theorem Zx.mul {a b:Z} {u v:Int} (ha:Zx a u) (hb:Zx b v):Zx (Z.mul a b) (u * v):=ha.lift hb (.of _)
def Ix (x:I) (v:Int):Prop:=Zx x.dec v
theorem JQ {z:Z} {v:Int} (h:Zx z v):Ix (E z) v:=by unfold Ix;rw [bZ];exact h
theorem Ix.of (v:Int):Ix (E (Z.of v)) v:=JQ (.of v)
theorem Ix.gd {x:I} {v:Int} (h:Ix x v) (g:gdI x=true):x=E (Z.of v)∧cZ v:=by
  obtain ⟨w,hw,e⟩:=eO_ g;subst e;unfold Ix at h;rw [bZ] at h;rcases h with h | ⟨h,b⟩
  · rw [Z.of_some hw] at h;cases h
  exact ⟨by rw [h],b⟩
theorem LA {l:List I} (h:(mkP l).all gdI=true):l.all gdI=true:=by
  unfold mkP at h
  cases hl:l.all gdI
  · rw [hl,cond_false,eW] at h;cases h
  rfl
def Px (p:List I) (c:Nat→Int):Prop:=p.length≤1000∧(p.all gdI=true→Po p c)
section
variable {p q:List I} {c d:Nat→Int}
theorem Po.px (h:Po p c):Px p c:=⟨h.l3,fun _=>h⟩
theorem RA {f:Nat→I} {n:Nat} (h:∀ k,k<n→Ix (f k) (c k)) (h0:∀ k,n≤k→c k=0) (hn:n≤25) (hg:(mkP ((List.range n).map f)).all gdI=true):Po (mkP ((List.range n).map f)) c:=by
  have hall:=LA hg;have hgd:∀ k,k<n→gdI (f k)=true:=fun k hk=>List.all_eq_true.1 hall _ (List.mem_map.2 ⟨k,List.mem_range.2 hk,rfl⟩);refine ML (fun k hk=>((h k hk).gd (hgd k hk)).1) h0 (fun k=>?_) (fun k hk=>h0 k oo_)
  by_cases hk:k<n
  · exact ((h k hk).gd (hgd k hk)).2
  rw [h0 k oo_];exact B0
theorem SV (h:Po p c) (g:Po q d) (k:Nat) :
    ∀ (t i:Nat) (m:I),k+1 - i<t→i≤k+1→Ix m (iF (fun i=>c i * d (k - i)) i)→Ix (eR k q p t i m).2 (conv c d k)
  | 0,i,m,ht,_,_=>absurd ht (Nat.not_lt_zero _)
  | t+1,i,m,ht,hi,hm=>by
    unfold eR;have e:∀ a b,a≤b→p.length≤a→iF (fun i=>c i * d (k - i)) b=iF (fun i=>c i * d (k - i)) a:=fun a b hab hpa =>
      pT (fun j hj=>by rw [h.zero oo_,Int.zero_mul]) b hab
    by_cases hk:((i:Nat):Int)≤min ((k:Nat):Int) (((p.length:Nat):Int) - 1)
    · rw [decide_eq_true hk,cond_true,h.get,g.get,bZ,bZ]
      exact SV h g k t (i+1) _ oo_ oo_ (JQ (Zx.add hm (Zx.mul (.of _) (.of _))))
    rw [decide_eq_false hk,cond_false]
    show Ix m (iF _ (k+1))
    rcases Nat.lt_or_ge i (k+1) with h1 | h1
    · rw [e i (k+1) oo_ oo_];exact hm
    rw [show k+1=i by omega];exact hm
theorem Px.mul (hp:Px p c) (hq:Px q d) (hl:p.length+q.length≤26):Px (dO p q) (conv c d):=by
  refine ⟨k25 (B3 _ _),fun hg=>?_⟩
  have gp:p.all gdI=true:=by
    cases hc:p.all gdI
    · rw [RJ hp.1 hq.1 (.inl hc),eW] at hg;cases hg
    rfl
  have gq:q.all gdI=true:=by
    cases hc:q.all gdI
    · rw [RJ hp.1 hq.1 (.inr hc),eW] at hg;cases hg
    rfl
  have h:=hp.2 gp;have g:=hq.2 gq;unfold dO at hg ⊢;rw [h.nb,g.nb,Bool.or_false,cond_false] at hg ⊢
  by_cases h0:p=[]
  · subst h0
    rw [show ((((([]:List I).length:Nat):Int)==0)||(((q.length:Nat):Int)==0))=true by simp,cond_true];exact CL.cast fun k=>Eq.symm (kG fun i _=>by rw [h.zero (Nat.zero_le _),Int.zero_mul])
  by_cases g0:q=[]
  · subst g0
    rw [show ((((p.length:Nat):Int)==0)||(((([]:List I).length:Nat):Int)==0))=true by simp,cond_true];refine CL.cast fun k=>Eq.symm (kG fun i _=>?_);rw [g.zero (Nat.zero_le _),Int.mul_zero]
  have h1:0<p.length:=List.length_pos_iff.2 h0;have h2:0<q.length:=List.length_pos_iff.2 g0
  rw [show ((((p.length:Nat):Int)==0)||(((q.length:Nat):Int)==0))=false by
    rw [Bool.or_eq_false_iff];exact ⟨beq_eq_false_iff_ne.2 oo_,beq_eq_false_iff_ne.2 oo_⟩,cond_false,oH] at hg ⊢
  have hz:∀ k,p.length+q.length≤k+1→conv c d k=0:=fun k hk=>mE (fun i hi=>h.zero hi) (fun i hi=>g.zero hi) k hk;refine RA (fun k _=>?_) (fun k hk=>hz k oo_) oo_ hg;unfold jZ
  show Ix (eR _ _ _ _ _ _).2 _
  refine SV h g k _ _ _ oo_ oo_ ?_;rw [kG fun i hi=>by rw [g.zero oo_,Int.mul_zero]];exact .of 0
theorem Px.add (hp:Px p c) (hq:Px q d):Px (gK p q) (fun k=>c k+d k):=by
  refine ⟨k25 (w7 _ _),fun hg=>?_⟩
  have gp:p.all gdI=true:=by
    cases hc:p.all gdI
    · rw [RG hp.1 hq.1 (.inl hc),eW] at hg;cases hg
    rfl
  have gq:q.all gdI=true:=by
    cases hc:q.all gdI
    · rw [RG hp.1 hq.1 (.inr hc),eW] at hg;cases hg
    rfl
  have h:=hp.2 gp;have g:=hq.2 gq;unfold gK at hg ⊢;rw [rH _ h.l3 g.l3,h.g,g.g,Bool.and_true,cond_true] at hg ⊢;have hl:=h.l;have gl:=g.l;refine RA (fun k _=>?_) (fun k hk=>by rw [h.zero oo_,g.zero oo_];rfl) oo_ hg;rw [h.get,g.get];exact JQ (by rw [bZ,bZ];exact Zx.add (.of _) (.of _))
theorem du_ {x y:I} {u v:Int} (hx:Ix x u) (hy:Ix y v):Px (bH [x,y]) (lin u v):=by
  refine ⟨k25 (mB _),fun hg=>?_⟩;rw [rM] at hg;have:=LA hg;obtain ⟨e1,b1⟩:=hx.gd (List.all_eq_true.1 this x (by simp));obtain ⟨e2,b2⟩:=hy.gd (List.all_eq_true.1 this y (by simp));rw [e1,e2];exact dt_ b1 b2
theorem dH_ {x:I} {u:Int} (hx:Ix x u):Px (bH [x]) (lin u 0):=by
  refine ⟨k25 (mB _),fun hg=>?_⟩;rw [rM] at hg;have:=LA hg;obtain ⟨e1,b1⟩:=hx.gd (List.all_eq_true.1 this x (by simp));rw [e1];exact dG_ b1
theorem dM_ {x:I} {D:Int} (hx:Ix x D):∀ k,Ix (pw x k) (D ^ k)
  | 0=>by rw [Int.pow_zero];exact .of 1
  | k+1=>by rw [pw,Int.pow_succ];exact JQ (Zx.mul (dM_ hx k) hx)
end
theorem d5_ (c:Nat→Int) (u v W:Int) (L:Nat):∀ t k,t≤k→sb c u v W L t k=0
  | 0,k,_=>rfl
  | t+1,k,h=>by
    show conv (sb c u v W L t) (lin u v) k+lin (c (L - 1 - t) * W ^ t) 0 k=0
    rw [mE (n:=t) (m:=2) (d5_ c u v W L t) (fun i hi=>by unfold lin;rw [if_neg oo_,if_neg oo_]) k oo_];unfold lin;rw [if_neg oo_,ite_self];rfl
theorem US (x y:I):(bH [x,y]).length≤2:=by
  rw [rM];exact LB _
section
variable {p:List I} {c:Nat→Int} {a b:Rt} {N D M F:Int}
theorem TM (h:Po p c) (h7:p.length≤7) (ia:a.Is N D) (ib:b.Is M F) :
    ∀ (f t:Nat) (i:Int) (r:List I),t≤p.length→i=((p.length:Nat):Int) - 1 - t→p.length - t<f→r.length≤t→Px r (sb c (N * F) (M * D) (D * F) p.length t) →
    Px (fO p a b f r i).1 (sb c (N * F) (M * D) (D * F) p.length p.length)
  | 0,t,i,r,_,_,hf,_,_=>absurd hf (Nat.not_lt_zero _)
  | f+1,t,i,r,ht,hi,hf,hrl,hr=>by
    unfold fO
    by_cases h0:0≤i
    · rw [decide_eq_true h0,cond_true]
      have htl:t<p.length:=by omega
      have e1:i.toNat=p.length - 1 - t:=by omega
      have e2:p.length - 1 - i.toNat=t:=by omega
      simp only;rw [e2,uN _ _ (show t<max (((p.length:Nat):Int)).toNat 1 by omega),ia.ed,ia.en,ib.ed,ib.en,e1,h.get];have ml:=US (E (Z.mul (E (Z.of N)).dec (E (Z.of F)).dec)) (E (Z.mul (E (Z.of M)).dec (E (Z.of D)).dec));have m1:=Px.mul hr (du_ (x:=E (Z.mul (E (Z.of N)).dec (E (Z.of F)).dec)) (y:=E (Z.mul (E (Z.of M)).dec (E (Z.of D)).dec)) (JQ (Zx.mul (Ix.of N) (Ix.of F))) (JQ (Zx.mul (Ix.of M) (Ix.of D)))) oo_;have m2:=m1.add (dH_ (x:=E (Z.mul (E (Z.of (c (p.length - 1 - t)))).dec (pw (E (Z.mul (E (Z.of D)).dec (E (Z.of F)).dec)) t).dec)) (u:=c (p.length - 1 - t) * (D * F) ^ t) (JQ (Zx.mul (Ix.of _) (dM_ (JQ (Zx.mul (Ix.of D) (Ix.of F))) t))));refine TM h h7 ia ib f (t+1) _ _ oo_ oo_ oo_ ?_ m2;have k1:=bf_ hrl ml oo_;refine ay_ (n:=t+1) (Nat.le_trans k1 oo_) ?_ oo_ oo_;rw [rM];exact Nat.le_trans (LB _) (by simp)
    rw [decide_eq_false h0,cond_false]
    have:t=p.length:=by omega
    rw [← this];rw [← this] at hr;exact hr
end
open Go Go.Kn
def shf (d:Nat→Int) (i k:Nat):Int:=if i≤k then d (k - i) else 0
def lA (a o:Int) (d:Nat→Int) (n i:Nat) (r:Nat→Int) (k:Nat):Int:=a * r k - o * r (i+n) * shf d i k
def r6 (a o:Int) (d:Nat→Int) (n:Nat):Nat→(Nat→Int)→Nat→Int
  | 0,r=>r
  | m+1,r=>r6 a o d n m (lA a o d n m r)
def RemB (a o:Int) (d:Nat→Int) (n:Nat):Nat→(Nat→Int)→Prop
  | 0,r=>∀ k,cZ (r k)
  | m+1,r=>(∀ k,cZ (r k))∧cZ (o * r (m+n))∧(∀ k,cZ (a * r k))∧(∀ k,cZ (o * r (m+n) * d k))∧RemB a o d n m (lA a o d n m r)
theorem RemB.B {a o:Int} {d:Nat→Int} {n:Nat}:∀ {m:Nat} {r:Nat→Int},RemB a o d n m r→∀ k,cZ (r k)
  | 0,_,h=>h
  | _+1,_,h=>h.1
theorem fS_ {u:Int} {b b':Nat} (h:u.natAbs<2 ^ b) (hb:b≤b'):u.natAbs<2 ^ b':=Nat.lt_of_lt_of_le h (Nat.pow_le_pow_right dd_ hb)
section
variable {p q:List I} {c d:Nat→Int} {n:Nat}
theorem KB (g:Po q d) (i k:Nat):eA q ((k:Int) - (i:Int))=E (Z.of (shf d i k)):=by
  unfold shf
  by_cases h:i≤k
  · rw [if_pos h,show (k:Int) - (i:Int)=((k - i:Nat):Int) by omega,yI,g.get]
  rw [if_neg h];unfold eA;rw [decide_eq_true oo_,Bool.true_or,cond_true];rfl
theorem co_ (g:Po q d) (i k:Nat):cZ (shf d i k):=by
  unfold shf;split
  · exact g.B _
  exact B0
theorem TE (g:Po q d) (hn:q.length=n+1) {r:Nat→Int} {i:Nat} (l:List I) (h1:cZ (d n).natAbs) (h2:∀ k,cZ (r k)) (h3:cZ ((d n).sign * r (i+n))) (h4:∀ k,cZ (((d n).natAbs:Int) * r k)) (h5:∀ k,cZ ((d n).sign * r (i+n) * d k))
    (h6:∀ k,cZ (lA (d n).natAbs (d n).sign d n i r k)):∀ (f k:Nat) (t:List I),l.length - k<f→k≤l.length→t.length=l.length →
    (∀ j,t.getD j I0=E (Z.of (if j<k then lA (d n).natAbs (d n).sign d n i r j else r j))) →
    ∃ t',fG p q (i:Int) l (E (Z.of ((d n).sign * r (i+n)))) f k t = .inl (l.length,t')∧t'.length=l.length∧∀ j,t'.getD j I0=E (Z.of (if j<l.length then lA (d n).natAbs (d n).sign d n i r j else r j))
  | 0,k,t,hf,_,_,_=>absurd hf (Nat.not_lt_zero _)
  | f+1,k,t,hf,hk,ht,hv=>by
    unfold fG
    by_cases hl:k<l.length
    · rw [decide_eq_true oo_,cond_true]
      have e:=hv k;rw [if_neg (Nat.lt_irrefl k)] at e
      have h5':cZ ((d n).sign * r (i+n) * shf d i k):=by
        unfold shf;split
        · exact h5 _
        rw [Int.mul_zero];exact B0
      have e2:E (Z.sub (Z.mul (Z.abs (q.getD (q.length - 1) I0).dec) (t.getD k I0).dec) (Z.mul (E (Z.of ((d n).sign * r (i+n)))).dec (eA q ((k:Int) - (i:Int))).dec))=E (Z.of (lA (d n).natAbs (d n).sign d n i r k)):=by
        rw [hn,Nat.add_sub_cancel,g.get,e,KB g,bZ,bZ,bZ,bZ,RP (g.B _),oR h1 (h2 k),oR h3 (co_ g i k),MG (h4 k) h5'];rfl
      simp only;rw [e2,kU t k _ oo_,FA (h6 k),cond_false];refine TE g hn l h1 h2 h3 h4 h5 h6 f (k+1) _ oo_ oo_ (by rw [List.length_set];exact ht) fun j=>?_
      by_cases hj:j=k
      · subst hj;rw [kU t j _ oo_,if_pos oo_]
      rw [pD t k j _ hj,hv j]
      by_cases hjk:j<k
      · rw [if_pos hjk,if_pos oo_]
      rw [if_neg hjk,if_neg oo_]
    rw [decide_eq_false oo_,cond_false]
    have:k=l.length:=by omega
    subst this;exact ⟨t,rfl,ht,hv⟩
theorem uV (g:Po q d) (hn:q.length=n+1) {r:Nat→Int} {i L j:Nat} (hz:∀ k,L≤k→r k=0) (hi:i+n<L) (hj:L≤j):lA (d n).natAbs (d n).sign d n i r j=0:=by
  unfold lA
  have e:shf d i j=0:=by
    unfold shf;rw [if_pos oo_];exact g.zero oo_
  rw [hz j hj,e,Int.mul_zero,Int.mul_zero];rfl
theorem eA_ {v:Int} (h:cZ v):cZ (v.natAbs:Int):=by unfold cZ at *;rw [Int.natAbs_natCast];exact h
theorem TD (g:Po q d) (hn:q.length=n+1):∀ (m f:Nat) (i:Int) (l:List I) (r:Nat→Int),i=(m:Int) - 1→m<f→(m≤l.length - n)→(∀ j,l.getD j I0=E (Z.of (r j)))→(∀ k,l.length≤k→r k=0) →
    RemB (d n).natAbs (d n).sign d n m r→∃ i' l',dM p q f i l = .inl (i',l')∧l'.length=l.length∧(∀ j,l'.getD j I0=E (Z.of (r6 (d n).natAbs (d n).sign d n m r j)))∧(∀ k,l.length≤k→r6 (d n).natAbs (d n).sign d n m r k=0)∧∀ k,cZ (r6 (d n).natAbs (d n).sign d n m r k)
  | m,0,i,l,r,_,hf,_,_,_,_=>absurd hf (Nat.not_lt_zero _)
  | 0,f+1,i,l,r,hi,hf,hm,hl,hz,hB=>by
    unfold dM;rw [decide_eq_false oo_,cond_false];exact ⟨i,l,rfl,rfl,hl,hz,hB⟩
  | m+1,f+1,i,l,r,hi,hf,hm,hl,hz,hB=>by
    unfold dM;rw [decide_eq_true oo_,cond_true];obtain ⟨b1,b2,b3,b4,b5⟩:=hB
    have e:E (Z.mul (Z.of (Z.signW (q.getD (q.length - 1) I0).dec).1) (l.getD (i.toNat+(q.length - 1)) I0).dec)=E (Z.of ((d n).sign * r (m+n))):=by
      have hs:cZ (d n).sign:=by
        rcases Int.lt_trichotomy (d n) 0 with h | h | h
        · rw [Int.sign_eq_neg_one_of_neg h];decide
        · rw [h];decide
        rw [Int.sign_eq_one_of_pos h];decide
      rw [hn,Nat.add_sub_cancel,g.get,hl,bZ,bZ,kN (g.B n),show i.toNat=m by omega,oR hs (b1 _)]
    obtain ⟨t,h1,h2,h3⟩:=TE (p:=p) g hn (i:=m) l (eA_ (g.B n)) b1 b2 b3 b4 b5.B (l.length+1) 0 l oo_ (Nat.zero_le _) rfl (fun j=>by rw [if_neg (Nat.not_lt_zero _)];exact hl j);simp only;rw [e,show i=(m:Int) by omega,h1]
    have k1:∀ j,t.getD j I0=E (Z.of (lA (d n).natAbs (d n).sign d n m r j)):=fun j=>by
      rw [h3 j]
      split
      · rfl
      rw [hz j oo_,uV g hn hz oo_ oo_]
    obtain ⟨i',l',a1,a2,a3,a4,a5⟩:=TD g hn m f ((m:Int) - 1) t _ rfl oo_ oo_ k1 (fun k hk=>uV g hn hz oo_ oo_) b5;exact ⟨i',l',a1,a2.trans h2,a3,fun k hk=>a4 k oo_,a5⟩
theorem VZ (h:Po p c) (g:Po q d) (hn:q.length=n+1) (hB:RemB (d n).natAbs (d n).sign d n (p.length - n) c):Po (bD p q) (r6 (d n).natAbs (d n).sign d n (p.length - n) c):=by
  unfold bD;rw [h.nb,g.nb,show ((((q.length:Nat):Int)==0))=false from beq_eq_false_iff_ne.2 oo_,Bool.false_or,Bool.false_or,cond_false,List.nil_append,hn];have hl:=h.l
  have go:∀ i:Int,i=((p.length:Nat):Int) - 1 - (((n+1:Nat):Int) - 1)→∃ i' l',dM p q (p.length+1) i p = .inl (i',l')∧l'.length=p.length∧(∀ j,l'.getD j I0=E (Z.of (r6 (d n).natAbs (d n).sign d n (p.length - n) c j)))∧(∀ k,p.length≤k→r6 (d n).natAbs (d n).sign d n (p.length - n) c k=0)∧∀ k,cZ (r6 (d n).natAbs (d n).sign d n (p.length - n) c k):=fun i hi=>by
    by_cases hs:n≤p.length
    · exact TD g hn (p.length - n) (p.length+1) i p c oo_ oo_ (Nat.le_refl _) h.get (fun k hk=>h.zero hk) hB
    have e0:p.length - n=0:=by omega
    rw [e0] at hB ⊢;unfold dM;rw [decide_eq_false oo_,cond_false];exact ⟨i,p,rfl,rfl,h.get,fun k hk=>h.zero hk,h.B⟩
  obtain ⟨i',l',a1,a2,a3,a4,a5⟩:=go _ rfl;rw [a1]
  show Po (bH l') _
  rw [rM];exact AW a3 a5 fun k hk=>a4 k oo_
end
open Go Go.Kn
theorem wV (d:Nat→Int) (m k:Nat):conv d (fun i=>if i=m then 1 else 0) k=shf d m k:=by
  rw [sK];unfold conv shf
  by_cases h:m≤k
  · rw [if_pos h,G4 (a:=m) (fun i hi=>?_) oo_]
    · show (if m=m then 1 else 0) * d (k - m)=_
      rw [if_pos rfl,Int.one_mul]
    show (if i=m then 1 else 0) * d (k - i)=_
    rw [if_neg hi,Int.zero_mul]
  rw [if_neg h];refine kG fun i hi=>?_
  show (if i=m then 1 else 0) * d (k - i)=_
  rw [if_neg oo_,Int.zero_mul]
theorem P1 (d S:Nat→Int) (m k:Nat) (hS:∀ i,m<i→S i=0):conv d S k=conv d (fun i=>if i<m then S i else 0) k+S m * shf d m k:=by
  have e:conv d (fun i=>S m * (if i=m then 1 else 0)) k=S m * shf d m k:=by rw [← wV,rP]
  rw [← e]
  rw [show conv d S=fun k=>conv d (fun i=>if i<m then S i else 0) k+conv d (fun i=>S m * (if i=m then 1 else 0)) k by
    rw [← BJ]
    congr 1
    funext i
    rcases Nat.lt_trichotomy i m with h | h | h
    · rw [if_pos h,if_neg oo_,Int.mul_zero,Int.add_zero]
    · rw [if_neg oo_,if_pos h,h,Int.mul_one,Int.zero_add]
    rw [if_neg oo_,if_neg oo_,hS i h,Int.mul_zero];rfl]
theorem GV (v:Int):v.sign * v=(v.natAbs:Int):=by
  rcases Int.lt_trichotomy v 0 with h | h | h
  · rw [Int.sign_eq_neg_one_of_neg h];omega
  · subst h;rfl
  rw [Int.sign_eq_one_of_pos h];omega
theorem O2 (v:Int):v.sign.natAbs≤1:=by
  rcases Int.lt_trichotomy v 0 with h | h | h
  · rw [Int.sign_eq_neg_one_of_neg h];decide
  · subst h;decide
  rw [Int.sign_eq_one_of_pos h];decide
structure QP where
  c:Nat→Rat
  fs:∃ n,∀ i,n≤i→c i=0
namespace QP
theorem ex {a b:QP} (h:∀ k,a.c k=b.c k):a=b:=by
  obtain ⟨c,_⟩:=a;obtain ⟨d,_⟩:=b;have e:c=d:=funext h;subst e;rfl
instance:Add QP:=⟨fun a b=>⟨fun k=>a.c k+b.c k,by
  obtain ⟨n,h⟩:=a.fs;obtain ⟨m,g⟩:=b.fs
  exact ⟨max n m,fun i hi=>by show a.c i+b.c i=0;rw [h i (by omega),g i (by omega),Rat.add_zero]⟩⟩⟩
instance:Mul QP:=⟨fun a b=>⟨conv a.c b.c,by
  obtain ⟨n,h⟩:=a.fs;obtain ⟨m,g⟩:=b.fs
  exact ⟨n+m,fun i hi=>mE h g i (by omega)⟩⟩⟩
def M (t:Rat) (j:Nat):QP:=⟨fun k=>if k=j then t else 0,⟨j+1,fun i hi=>if_neg (by omega)⟩⟩
def C (t:Rat):QP:=M t 0
theorem TG {a b:Rat} (ha:a≠0) (hb:b≠0):a * b≠0:=fun h=>by
  rcases Rat.mul_eq_zero.1 h with h1 | h1
  · exact ha h1
  exact hb h1
theorem add_c (a b:QP) (k:Nat):(a+b).c k=a.c k+b.c k:=rfl
theorem mul_c (a b:QP) (k:Nat):(a * b).c k=conv a.c b.c k:=rfl
theorem MT (t:Rat) (j:Nat) (a:QP) (k:Nat):(M t j * a).c k=if j≤k then t * a.c (k - j) else 0:=by
  rw [mul_c];unfold conv
  by_cases h:j≤k
  · rw [if_pos h,G4 (a:=j) (fun i hi=>by show (if i=j then t else 0) * _=0;rw [if_neg hi];exact Rat.zero_mul _) (by omega)]
    show (if j=j then t else 0) * _=_
    rw [if_pos rfl]
  rw [if_neg h]
  exact kG fun i hi=>by show (if i=j then t else 0) * _=0;rw [if_neg (by omega)];exact Rat.zero_mul _
theorem C_mul (t:Rat) (a:QP) (k:Nat):(C t * a).c k=t * a.c k:=by unfold C;rw [MT,if_pos (Nat.zero_le _),Nat.sub_zero]
theorem C_c (t:Rat) (k:Nat):(C t).c k=if k=0 then t else 0:=rfl
theorem T8 (a b:QP):a+b=b+a:=ex fun k=>Rat.add_comm _ _
theorem mul_comm' (a b:QP):a * b=b * a:=ex fun k=>congrFun (sK a.c b.c) k
theorem mul_assoc' (a b c:QP):a * b * c=a * (b * c):=ex fun k=>congrFun (FH a.c b.c c.c) k
theorem mul_add' (a b c:QP):a * (b+c)=a * b+a * c:=ex fun k=>congrFun (BJ a.c b.c c.c) k
theorem M4 (a b c:QP):(a+b) * c=a * c+b * c:=by rw [mul_comm',mul_add',mul_comm' c a,mul_comm' c b]
theorem lc' (a b c:QP):a * (b * c)=b * (a * c):=by rw [← mul_assoc',mul_comm' a b,mul_assoc']
theorem C_C (s t:Rat):C s * C t=C (s * t):=ex fun k=>by
  rw [C_mul,C_c,C_c];split
  · rfl
  exact Rat.mul_zero _
theorem qD (a:QP):C 1 * a=a:=ex fun k=>by rw [C_mul,Rat.one_mul]
theorem BW (a:QP):a * C 1=a:=by rw [mul_comm',qD]
theorem z5 (a:QP):C 0 * a=C 0:=ex fun k=>by rw [C_mul,Rat.zero_mul,C_c];split <;> rfl
theorem mul_zero' (a:QP):a * C 0=C 0:=by rw [mul_comm',z5]
theorem C0_c (k:Nat):(C 0).c k=0:=by rw [C_c];split <;> rfl
theorem add_zero' (a:QP):a+C 0=a:=ex fun k=>by rw [add_c,C0_c,Rat.add_zero]
theorem zZ (a:QP):C 0+a=a:=by rw [T8,add_zero']
theorem VI {a b:QP} (h:a+C (-1) * b=C 0):a=b:=ex fun k=>by
  have e:=congrArg (fun x:QP=>x.c k) h;simp only [add_c,C_mul,C0_c] at e
  grind
def Dg (a:QP) (n:Nat):Prop:=a.c n≠0∧∀ i,n<i→a.c i=0
theorem W4 (a:QP):∀ N:Nat,(∀ i,N≤i→a.c i=0)→a=C 0 ∨ ∃ n,n<N∧Dg a n
  | 0,h=>.inl (ex fun k=>by rw [h k (Nat.zero_le _),C0_c])
  | N+1,h=>by
    by_cases h0:a.c N=0
    · rcases W4 a N (fun i hi=>by rcases Nat.lt_or_eq_of_le hi with h1 | h1;exact h i h1;rw [← h1];exact h0) with h1 | ⟨n,h1,h2⟩
      · exact .inl h1
      exact .inr ⟨n,by omega,h2⟩
    exact .inr ⟨N,by omega,h0,fun i hi=>h i hi⟩
theorem ex_dg {a:QP} (h:a≠C 0):∃ n,Dg a n:=by
  obtain ⟨N,hN⟩:=a.fs;rcases W4 a N hN with h1 | ⟨n,_,h2⟩
  · exact absurd h1 h
  exact ⟨n,h2⟩
theorem Dg.ne {a:QP} {n:Nat} (h:Dg a n):a≠C 0:=fun e=>h.1 (by rw [e,C0_c])
theorem Dg.un {a:QP} {n m:Nat} (h:Dg a n) (g:Dg a m):n=m:=by
  rcases Nat.lt_trichotomy n m with h1 | h1 | h1
  · exact absurd (h.2 _ h1) g.1
  · exact h1
  exact absurd (g.2 _ h1) h.1
theorem Dg.mul {a b:QP} {n m:Nat} (h:Dg a n) (g:Dg b m):Dg (a * b) (n+m):=by
  refine ⟨?_,fun i hi=>mE (n:=n+1) (m:=m+1) (fun j hj=>h.2 j hj) (fun j hj=>g.2 j hj) i (by omega)⟩;rw [mul_c,oI h.2 g.2];exact TG h.1 g.1
theorem C_dg {t:Rat} (h:t≠0):Dg (C t) 0:=⟨by rw [C_c,if_pos rfl];exact h,fun i hi=>by rw [C_c,if_neg (by omega)]⟩
theorem dg_C {a:QP} (h:Dg a 0):a=C (a.c 0):=ex fun k=>by
  rw [C_c];split
  · next e=>rw [e]
  exact h.2 k (by omega)
theorem mul_ne {a b:QP} (ha:a≠C 0) (hb:b≠C 0):a * b≠C 0:=by
  obtain ⟨n,h⟩:=ex_dg ha;obtain ⟨m,g⟩:=ex_dg hb;exact (h.mul g).ne
theorem mul_can {a b c:QP} (ha:a≠C 0) (h:a * b=a * c):b=c:=by
  apply VI
  apply Classical.byContradiction
  intro hn;refine mul_ne ha hn ?_;rw [mul_add',lc' a (C (-1)),h]
  exact ex fun k=>by rw [add_c,C_mul,C0_c];grind
def Dv (a b:QP):Prop:=∃ h,b=a * h
theorem Dv.refl (a:QP):Dv a a:=⟨C 1,(BW a).symm⟩
theorem Dv.trans {a b c:QP} (h:Dv a b) (g:Dv b c):Dv a c:=by
  obtain ⟨x,hx⟩:=h;obtain ⟨y,hy⟩:=g;exact ⟨x * y,by rw [hy,hx,mul_assoc']⟩
theorem Dv.mul {a b:QP} (h:Dv a b) (c:QP):Dv a (b * c):=h.trans ⟨c,rfl⟩
theorem Dv.mul_l {a b:QP} (h:Dv a b) (c:QP):Dv a (c * b):=by rw [mul_comm'];exact h.mul c
theorem Dv.add {a b c:QP} (h:Dv a b) (g:Dv a c):Dv a (b+c):=by
  obtain ⟨x,hx⟩:=h;obtain ⟨y,hy⟩:=g;exact ⟨x+y,by rw [hx,hy,mul_add']⟩
theorem Dv.zero (a:QP):Dv a (C 0):=⟨C 0,(mul_zero' a).symm⟩
theorem Dv.of_zero {a:QP} (h:Dv (C 0) a):a=C 0:=by obtain ⟨x,hx⟩:=h;rw [hx,z5]
theorem Dv.both {a b:QP} (c:QP) (h:Dv a b):Dv (c * a) (c * b):=by obtain ⟨x,hx⟩:=h;exact ⟨x,by rw [hx,mul_assoc']⟩
theorem Dv.cancel {a b c:QP} (hc:c≠C 0) (h:Dv (c * a) (c * b)):Dv a b:=by
  obtain ⟨x,hx⟩:=h;exact ⟨x,QP.mul_can hc (by rw [hx,mul_assoc'])⟩
theorem Dv.ne {a b:QP} (h:Dv a b) (hb:b≠C 0):a≠C 0:=fun e=>hb (by rw [e] at h;exact h.of_zero)
theorem Dv.scale {a b:QP} {t:Rat} (ht:t≠0) (h:Dv a (C t * b)):Dv a b:=by
  obtain ⟨x,hx⟩:=h;refine ⟨C t⁻¹ * x,?_⟩;rw [lc' a,← hx,← mul_assoc',C_C,Rat.inv_mul_cancel _ ht,qD]
theorem C_dv {t:Rat} (ht:t≠0) (a:QP):Dv (C t * a) a:=⟨C t⁻¹,by rw [mul_comm' _ (C t⁻¹),← mul_assoc',C_C,Rat.inv_mul_cancel _ ht,qD]⟩
theorem dI_ {a:QP} (h:Dg a 0) (b:QP):Dv a b:=by
  refine ⟨C (a.c 0)⁻¹ * b,?_⟩
  conv=>rhs;rw [dg_C h]
  rw [show (C (a.c 0)).c 0=a.c 0 from rfl,← mul_assoc',C_C,Rat.mul_inv_cancel _ h.1,qD]
theorem Dv.dg {a b:QP} {n m:Nat} (h:Dv a b) (ha:Dg a n) (hb:Dg b m):n≤m:=by
  obtain ⟨x,hx⟩:=h;have h0:x≠C 0:=fun e=>hb.ne (by rw [hx,e,mul_zero']);obtain ⟨l,hl⟩:=ex_dg h0;have:=(ha.mul hl).un (hx ▸ hb);omega
theorem Dv.same {a b:QP} {n:Nat} (h:Dv a b) (ha:Dg a n) (hb:Dg b n):∃ t,t≠0∧b=C t * a:=by
  obtain ⟨x,hx⟩:=h;have h0:x≠C 0:=fun e=>hb.ne (by rw [hx,e,mul_zero']);obtain ⟨l,hl⟩:=ex_dg h0;have:=(ha.mul hl).un (hx ▸ hb)
  obtain rfl:l=0:=by omega
  exact ⟨x.c 0,hl.1,by rw [hx,mul_comm',dg_C hl];rfl⟩
theorem Dv.back {a b:QP} {n:Nat} (h:Dv a b) (ha:Dg a n) (hb:Dg b n):Dv b a:=by
  obtain ⟨t,ht,e⟩:=h.same ha hb;rw [e];exact C_dv ht a
theorem RY {b:QP} {n:Nat} (hb:Dg b n):∀ (N:Nat) (a:QP),(∀ i,N≤i→a.c i=0)→∃ q r:QP,a=b * q+r∧∀ i,n≤i→r.c i=0
  | 0,a,h=>⟨C 0,a,by rw [mul_zero',zZ],fun i _=>h i (Nat.zero_le _)⟩
  | N+1,a,h=>by
    by_cases hn:N<n
    · exact ⟨C 0,a,by rw [mul_zero',zZ],fun i hi=>h i (by omega)⟩
    obtain ⟨q,r,h1,h2⟩:=RY hb N (a+M (-(a.c N / b.c n)) (N - n) * b) (fun i hi=>by
      rw [add_c,MT,if_pos (by omega)];rcases Nat.lt_or_eq_of_le hi with h3 | h3
      · rw [h i h3,hb.2 (i - (N - n)) (by omega)];grind
      rw [← h3,show N - (N - n)=n by omega];have:=hb.1
      grind)
    refine ⟨q+M (a.c N / b.c n) (N - n),r,?_,h2⟩;refine ex fun k=>?_;have e:=congrArg (fun x:QP=>x.c k) h1;simp only [add_c,MT] at e;rw [mul_add',mul_comm' b (M _ _),add_c,add_c,MT]
    split at e
    · next h3=>rw [if_pos h3];grind
    · next h3=>rw [if_neg h3];grind
theorem bez:∀ (N:Nat) (a b:QP),(∀ i,N≤i→b.c i=0)→∃ g u v:QP,g=u * a+v * b∧Dv g a∧Dv g b:=by
  intro N
  induction N using Nat.strongRecOn with
  | _ N ih =>
    intro a b h;rcases W4 b N h with h0 | ⟨n,hn,hb⟩
    · exact ⟨a,C 1,C 0,by rw [z5,add_zero',qD],.refl a,by rw [h0];exact .zero a⟩
    obtain ⟨M,hM⟩:=a.fs;obtain ⟨q,r,h1,h2⟩:=RY hb M a hM;obtain ⟨g,u,v,h3,h4,h5⟩:=ih n hn b r h2;refine ⟨g,v,u+C (-1) * (v * q),?_,by rw [h1];exact (h4.mul q).add h5,h4⟩;rw [h3,h1,mul_add',M4,mul_assoc' (C (-1)),mul_assoc' v q b,mul_comm' q b]
    exact ex fun k=>by simp only [add_c,C_mul];grind
theorem bezout (a b:QP):∃ g u v:QP,g=u * a+v * b∧Dv g a∧Dv g b:=by
  obtain ⟨N,hN⟩:=b.fs;exact bez N a b hN
def Irr (h:QP):Prop:=∃ n,1≤n∧Dg h n∧∀ d,Dv d h→Dg d 0∨Dg d n
theorem Irr.ne {h:QP} (i:Irr h):h≠C 0:=by obtain ⟨n,_,hd,_⟩:=i;exact hd.ne
theorem XH:∀ (n:Nat) (p:QP),Dg p n→1≤n→∃ h,Irr h∧Dv h p:=by
  intro n
  induction n using Nat.strongRecOn with
  | _ n ih =>
    intro p hp hn
    by_cases hx:∃ d,Dv d p∧¬ Dg d 0∧¬ Dg d n
    · obtain ⟨d,h1,h2,h3⟩:=hx
      obtain ⟨m,hm⟩:=ex_dg (h1.ne hp.ne);have:=h1.dg hm hp;have m0:m≠0:=fun e=>h2 (e ▸ hm);have mn:m≠n:=fun e=>h3 (e ▸ hm);obtain ⟨h,hi,hd⟩:=ih m (by omega) d hm (by omega);exact ⟨h,hi,hd.trans h1⟩
    refine ⟨p,⟨n,hn,hp,fun d hd=>?_⟩,.refl p⟩
    apply Classical.byContradiction
    intro hc;exact hx ⟨d,hd,fun e=>hc (.inl e),fun e=>hc (.inr e)⟩
theorem Irr.prime {h a b:QP} (i:Irr h) (hd:Dv h (a * b)):Dv h a∨Dv h b:=by
  obtain ⟨n,hn,hh,hi⟩:=i;obtain ⟨g,u,v,h1,h2,h3⟩:=bezout h a;rcases hi g h2 with h4 | h4
  · right
    have e:C (g.c 0) * b=h * (u * b)+v * (a * b):=by
      rw [← dg_C h4,h1,M4,mul_assoc',mul_assoc',lc' u]
    refine Dv.scale h4.1 (t:=g.c 0) ?_;rw [e];exact (Dv.mul (.refl h) _).add (hd.mul_l v)
  exact .inl ((h2.back h4 hh).trans h3)
def D (a:QP):QP:=⟨fun k=>((k+1:Nat):Rat) * a.c (k+1),by
  obtain ⟨n,h⟩:=a.fs
  exact ⟨n,fun i hi=>by show _ * a.c (i+1)=0;rw [h _ (by omega),Rat.mul_zero]⟩⟩
theorem D_c (a:QP) (k:Nat):(D a).c k=((k+1:Nat):Rat) * a.c (k+1):=rfl
theorem MQ (a b:QP):D (a * b)=D a * b+a * D b:=ex fun k=>by
  rw [D_c,add_c,mul_c,mul_c,mul_c];unfold conv;rw [← tO]
  have e:iF (fun i=>((k+1:Nat):Rat) * (a.c i * b.c (k+1 - i))) (k+1+1)=iF (fun i=>(i:Rat) * (a.c i * b.c (k+1 - i))+((k+1 - i:Nat):Rat) * (a.c i * b.c (k+1 - i))) (k+1+1):=iE fun i hi=>by
    have:((k+1:Nat):Rat)=(i:Rat)+((k+1 - i:Nat):Rat):=by rw [← Rat.natCast_add];congr 1;omega
    rw [this,Rat.add_mul]
  rw [e,y7]
  congr 1
  · rw [xF]
    rw [show ((0:Nat):Rat)=0 from rfl,Rat.zero_mul,Rat.zero_add]
    exact iE fun i hi=>by rw [D_c,show k+1 - (i+1)=k - i by omega,Rat.mul_assoc]
  show iF _ (k+1)+((k+1 - (k+1):Nat):Rat) * _=_
  rw [show k+1 - (k+1)=0 by omega,show ((0:Nat):Rat)=0 from rfl,Rat.zero_mul,Rat.add_zero]
  exact iE fun i hi=>by rw [D_c,show k+1 - i=k - i+1 by omega];grind
theorem fW_ {a:QP} {n:Nat} (h:Dg a (n+1)):Dg (D a) n:=by
  refine ⟨?_,fun i hi=>by rw [D_c,h.2 _ (by omega),Rat.mul_zero]⟩;rw [D_c];refine TG (fun e=>?_) h.1;have:((n+1:Nat):Rat)=((0:Nat):Rat):=e;rw [Rat.natCast_inj] at this;omega
theorem Irr.nD {h:QP} (i:Irr h):¬ Dv h (D h):=by
  obtain ⟨n,hn,hh,_⟩:=i;obtain ⟨m,rfl⟩:∃ m,n=m+1:=⟨n - 1,by omega⟩;intro hd;have:=hd.dg hh (fW_ hh);omega
def pow (a:QP):Nat→QP
  | 0=>C 1
  | n+1=>a * pow a n
theorem YX {a:QP} (h:a≠C 0):∀ n,pow a n≠C 0
  | 0=>(C_dg (by decide)).ne
  | n+1=>mul_ne h (YX h n)
theorem LM (a:QP) (m:Nat):∀ n,pow a (m+n)=pow a m * pow a n
  | 0=>(BW _).symm
  | n+1=>by show a * pow a (m+n)=pow a m * (a * pow a n);rw [LM a m n,lc']
theorem bQ_ (h m:QP):∀ e:Nat,D (pow h (e+1) * m)=pow h e * (C ((e+1:Nat):Rat) * (D h * m)+h * D m)
  | 0=>by
    show D (h * C 1 * m)=C 1 * (C 1 * (D h * m)+h * D m)
    rw [BW,MQ,qD,qD]
  | e+1=>by
    rw [show pow h (e+1+1) * m=h * (pow h (e+1) * m) from mul_assoc' _ _ _,MQ,bQ_ h m e,lc' (D h),← mul_assoc' h (pow h e),show h * pow h e=pow h (e+1) from rfl,← mul_add']
    congr 1
    refine ex fun k=>?_;simp only [add_c,C_mul];rw [show ((e+1+1:Nat):Rat)=((e+1:Nat):Rat)+1 by rw [Rat.natCast_add];rfl]
    grind
theorem aW_ {h:QP} (i:Irr h):∀ (n:Nat) (P:QP),Dg P n→∃ e m,P=pow h e * m∧¬ Dv h m:=by
  intro n
  induction n using Nat.strongRecOn with
  | _ n ih =>
    intro P hP
    by_cases hd:Dv h P
    · obtain ⟨x,hx⟩:=hd
      have x0:x≠C 0:=fun e=>hP.ne (by rw [hx,e,mul_zero']);obtain ⟨l,hl⟩:=ex_dg x0;obtain ⟨k,hk,hh,_⟩:=i;have:=(hh.mul hl).un (hx ▸ hP);obtain ⟨e,m,h1,h2⟩:=ih l (by omega) x hl;exact ⟨e+1,m,by rw [hx,h1];exact (mul_assoc' _ _ _).symm,h2⟩
    exact ⟨0,P,(qD P).symm,hd⟩
theorem sqf_part {P G F:QP} (hP:P≠C 0) (hF:P=G * F) (hD:Dv G (D P)) (hG:∀ d,Dv d P→Dv d (D P)→Dv d G) {h:QP} (i:Irr h):(Dv h P→Dv h F)∧¬ Dv (h * h) F:=by
  obtain ⟨n,hn⟩:=ex_dg hP;obtain ⟨e,m,he,hm⟩:=aW_ i n P hn
  cases e with
  | zero =>
    have hnP:¬ Dv h P:=fun hd=>hm (by rw [he] at hd;rwa [show pow h 0 * m=m from qD m] at hd);refine ⟨fun hd=>absurd hd hnP,fun hd=>hnP ?_⟩;rw [hF];exact ((show Dv h (h * h) from ⟨h,rfl⟩).trans hd).mul_l G
  | succ e =>
    have e1:((e+1:Nat):Rat)≠0:=fun x=>by
      have:((e+1:Nat):Rat)=((0:Nat):Rat):=x;rw [Rat.natCast_inj] at this;omega
    have hK:¬ Dv h (C ((e+1:Nat):Rat) * (D h * m)+h * D m):=fun hd=>by
      have h1:Dv h (C ((e+1:Nat):Rat) * (D h * m)):=by
        obtain ⟨x,hx⟩:=hd;refine ⟨x+C (-1) * D m,?_⟩;rw [mul_add',← hx,lc' h]
        exact ex fun k=>by simp only [add_c,C_mul];grind
      rcases i.prime (h1.scale e1) with h2 | h2
      · exact i.nD h2
      exact hm h2
    have hDP:D P=pow h e * (C ((e+1:Nat):Rat) * (D h * m)+h * D m):=by rw [he,bQ_]
    have hPe:P=pow h e * (h * m):=by rw [he];show h * pow h e * m=_;rw [mul_comm' h,mul_assoc']
    obtain ⟨G1,hG1⟩:=hG (pow h e) ⟨_,hPe⟩ ⟨_,hDP⟩;have p0:=YX i.ne e
    have nG:¬ Dv h G1:=fun hd=>hK (by
      refine Dv.cancel p0 ?_;rw [← hDP];refine Dv.trans (Dv.both _ hd) ?_
      rw [← hG1];exact hD)
    have hmF:h * m=G1 * F:=mul_can p0 (by rw [← hPe,hF,hG1,mul_assoc'])
    have hF1:Dv h F:=by
      rcases i.prime (show Dv h (G1 * F) from ⟨m,hmF.symm⟩) with h1 | h1
      · exact absurd h1 nG
      exact h1
    refine ⟨fun _=>hF1,fun hd=>?_⟩;obtain ⟨F2,hF2⟩:=hd;refine hm ⟨G1 * F2,mul_can i.ne ?_⟩;rw [hmF,hF2,mul_assoc',lc' G1,lc' G1]
theorem dvd_pow {P F:QP} (hd:∀ h,Irr h→Dv h P→Dv h F):∀ (n:Nat) (R:QP),Dg R n→Dv R P→Dv R (pow F n):=by
  intro n
  induction n using Nat.strongRecOn with
  | _ n ih =>
    intro R hR hP
    cases n with
    | zero=>exact dI_ hR _
    | succ n =>
      obtain ⟨h,hi,hh⟩:=XH _ R hR (by omega);obtain ⟨x,hx⟩:=hh;have x0:x≠C 0:=fun e=>hR.ne (by rw [hx,e,mul_zero']);obtain ⟨l,hl⟩:=ex_dg x0;have hi':=hi;obtain ⟨k,hk,hdk,_⟩:=hi';have hs:=(hdk.mul hl).un (hx ▸ hR);have h1:=ih l (by omega) x hl ((show Dv x R from ⟨h,by rw [hx,mul_comm']⟩).trans hP);have h2:Dv h F:=hd h hi ((show Dv h R from ⟨x,hx⟩).trans hP);obtain ⟨y,hy⟩:=h2;obtain ⟨z,hz⟩:=h1;rw [hx,show n+1=1+l+(n - l) by omega,LM,LM];refine Dv.mul ⟨y * z,?_⟩ _
      show F * C 1 * pow F l=_
      rw [BW,hz,mul_assoc',lc' x]
      conv=>lhs;rw [hy]
      rw [mul_assoc']
theorem sqf_co {F:QP} (hs:∀ h,Irr h→¬ Dv (h * h) F) {d:QP} {n:Nat} (h1:Dv d F) (h2:Dv d (D F)) (hd:Dg d n):n=0:=by
  cases n with
  | zero=>rfl
  | succ n =>
    obtain ⟨h,hi,hh⟩:=XH _ d hd (by omega);obtain ⟨x,hx⟩:=hh.trans h1;obtain ⟨y,hy⟩:=hh.trans h2
    have:Dv h (D h * x):=by
      refine ⟨y+C (-1) * D x,?_⟩
      have e:D F=D h * x+h * D x:=by rw [hx,MQ]
      rw [mul_add',← hy,lc' h,e]
      exact ex fun k=>by simp only [add_c,C_mul];grind
    rcases hi.prime this with h3 | h3
    · exact absurd h3 hi.nD
    obtain ⟨z,hz⟩:=h3;exact absurd ⟨z,by rw [hx,hz,mul_assoc']⟩ (hs h hi)
end QP
end Go.Num
