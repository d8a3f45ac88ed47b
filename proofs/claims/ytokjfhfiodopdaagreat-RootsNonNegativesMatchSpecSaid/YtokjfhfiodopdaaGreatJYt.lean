/- Lemmas: what they ask stands in their statements. -/
import Derived.Test.YtokjfhfiodopdaaGreatJFp3
set_option linter.unusedSimpArgs false
set_option linter.unusedVariables false
namespace Go.Num
open Go Go.Kn
theorem OR (p q:List I):Rgt (jQ p q):=by
 unfold jQ
 cases (aY p||aY q)
 ·simp only [cond_false]
  cases (((p.length:Int)==0)||((q.length:Int)==0))
  ·rw [cond_false,pK];exact B8 _
  exact .inr ⟨rfl,rfl,Nat.zero_le _⟩
 exact .inl O
theorem MT {p:List I} (h:fS p=true):Rgt p:=by
 unfold fS at h
 cases h1:(((p.length:Int)==1)&&decide ((p.getD 0 I0)=(E Z.bad)))
 ·rw [h1,cond_false,mE] at h
  cases hg:p.all gdI
  ·rw [hg] at h;cases h
  rw [hg] at h
  by_cases hl:(25:Int)<(p.length:Int)
  ·rw [decide_eq_true hl] at h;cases h
  rw [decide_eq_false hl] at h;refine .inr ⟨hg,?_,by omega⟩;rcases qU p with rfl|⟨m,x,rfl⟩
  ·rfl
  simp only [Bool.not_true,Bool.or_false,cond_false,Bool.or_eq_true] at h;rcases h with h|h
  ·simp at h;omega
  rw [show (m++[x]).length - 1=m.length by simp,show (m++[x]).getD m.length I0=x by simp,bR_] at h;rw [qV]
  have:zrI x=false:=by simpa using h
  rw [this];rfl
 rw [Bool.and_eq_true] at h1
 have hl:p.length=1:=by have:=h1.1;simp at this;omega
 obtain ⟨x,rfl⟩:∃ x,p=[x]:=List.length_eq_one_iff.1 hl;have hx:x=E Z.bad:=of_decide_eq_true h1.2;exact .inl (by rw [hx];rfl)
theorem FH {p:List I} {d b:Int} (h:eC p d b=true):fS p=true∧(p.length:Int)≤d+1:=by
 unfold eC at h
 cases h1:(!fS p)||decide (d+1<(p.length:Int))
 ·rw [Bool.or_eq_false_iff] at h1
  exact ⟨by simpa using h1.1,by have:=of_decide_eq_false h1.2;omega⟩
 rw [h1] at h;cases h
theorem gU_ {p:List I} {d b:Int} (h:(!eC p d b)=false):Rgt p∧p.length≤25:=by
 have h1:=MT (FH (p:=p) (d:=d) (b:=b) (by simpa using h)).1;exact ⟨h1,vZ h1⟩
theorem MB (p:List I) (i:Int) (r f:List I) (x:I):∀ (k n:Nat) (t y:List I),gO p i r f x k n t = .inr y→y=badp
 | 0,n,t,y,h=>by cases h
 | k+1,n,t,y,h=>by
  unfold gO at h
  revert h
  cases decide ((n:Int)<((aX p (aE p)).length:Int))
  ·intro h;cases h
  simp only [cond_true];intro h;rw [Bool.cond_eq_ite] at h
  revert h
  split
  ·intro h;cases h;exact DR
  exact fun h=>MB p i r f x k _ _ y h
theorem MA (p:List I):∀ (k:Nat) (i:Int) (r f y:List I),eZ p k i r f = .inr y→y=badp
 | 0,i,r,f,y,h=>by cases h
 | k+1,i,r,f,y,h=>by
  unfold eZ at h
  revert h
  cases decide (0≤i)
  ·intro h;cases h
  simp only [cond_true];generalize hx:gO p i r f _ _ 0 r=X
  cases X with
  | inl s=>exact fun h=>MA p k _ _ _ y h
  | inr z=>intro h;cases h;exact MB p i r f _ _ _ _ _ hx
theorem rU (p:List I):(bD p).length≤25:=by
 unfold bD;refine oU mV (oU (Nat.zero_le _) ?_);generalize hx:eZ p _ _ _ _=X
 cases X with
 | inl s=>exact oU (nO _) (rW _ _ _)
 | inr z=>rw [show z=badp from MA p _ _ _ _ _ hx];exact mV
theorem ZA (l:List I):bQ l=bC l:=by rw [rD,wT]
theorem sgW (z:Z):-1≤(Z.signW z).1∧(Z.signW z).1≤1:=by
 show -1≤z.sign∧z.sign≤1
 unfold Z.sign
 cases z.o with
 | none=>exact ⟨by decide,by decide⟩
 | some v =>
  show -1≤v.sign∧v.sign≤1
  rcases Int.lt_trichotomy v 0 with h|h|h
  ·rw [Int.sign_eq_neg_one_of_neg h];decide
  ·subst h;decide
  rw [Int.sign_eq_one_of_pos h];decide
def pw (d:I):Nat→I
 | 0=>E (Z.of 1)
 | k+1=>E (Z.mul (pw d k).dec d.dec)
theorem UB (n:Nat) (f:Nat→I):(List.range (n+1)).map f=(List.range n).map f++[f n]:=by rw [List.range_succ,List.map_append];rfl
theorem MM (d:I) (n:Int):∀ (k m:Nat),n.toNat - (m+1)<k→jD d n k ((List.range (m+1)).map (pw d))=(List.range (max n.toNat (m+1))).map (pw d)
 | 0,m,h=>absurd h (Nat.not_lt_zero _)
 | k+1,m,h=>by
  unfold jD
  have hl:((List.range (m+1)).map (pw d)).length=m+1:=by simp
  by_cases hc:((m+1:Nat):Int)<n
  ·rw [hl,decide_eq_true hc,cond_true]
   have e1:((List.range (m+1)).map (pw d)).getD (m+1 - 1) I0=pw d m:=by simp [List.getD]
   rw [e1,show E (Z.mul (pw d m).dec d.dec)=pw d (m+1) from rfl,← UB,MM d n k (m+1) oo_];rw [show max n.toNat (m+1+1)=max n.toNat (m+1) by omega]
  rw [hl,decide_eq_false hc,cond_false,show max n.toNat (m+1)=m+1 by omega]
theorem YC (d:I) (n:Int):eE d n=(List.range (max n.toNat 1)).map (pw d):=MM d n _ 0 oo_
theorem RP (d:I) (k:Int):∀ (f i:Nat),k.toNat - i<f→i≤k.toNat→(iC d k f i (pw d i)).2=pw d k.toNat
 | 0,i,h,_=>absurd h (Nat.not_lt_zero _)
 | f+1,i,h,hi=>by
  unfold iC
  by_cases hc:(i:Int)<k
  ·rw [decide_eq_true hc,cond_true]
   exact RP d k f (i+1) oo_ oo_
  rw [decide_eq_false hc,cond_false,show k.toNat=i by omega]
theorem ZB (d:I) (k:Int):iR d k=pw d k.toNat:=RP d k _ 0 oo_ (Nat.zero_le _)
theorem uV (d:I) (n:Int) {k:Nat} (h:k<max n.toNat 1):(eE d n).getD k I0=pw d k:=by
 rw [YC];simp [List.getD,h]
theorem KL (p:List I) (x:Rt):∀ (f:Nat) (i:Int) (m:I),i<(p.length:Int)→(fN p x f i m).2=(iD p x f i m).2
 | 0,i,m,h=>rfl
 | f+1,i,m,h=>by
  unfold fN iD
  by_cases hi:0≤i
  ·rw [decide_eq_true hi]
   simp only [cond_true];rw [uV _ _ (show p.length - 1 - i.toNat<max (p.length:Int).toNat 1 by omega),ZB,show ((p.length:Int) - 1 - i).toNat=p.length - 1 - i.toNat by omega];exact KL p x f (i - 1) _ oo_
  rw [decide_eq_false hi];rfl
theorem VG (x:Rt):jZ [x]=dA x:=by
 unfold jZ pH o8
 have e:lH [x] (fun y=>lA y) ([x].length+1) 0=bif dA x then .inl 1 else .inr (W.cv 0):=by
  show (bif lA x then _ else _)=_
  unfold lA
  cases dA x<;>rfl
 rw [e]
 cases dA x<;>rfl
theorem hx_ (x:Rt):kF x=dA x:=by
 unfold kF dA
 show (bif (!gdI x.n||(!gdI x.d||_)) then _ else _)=(gdI x.n&&(gdI x.d&&_))
 cases gdI x.n
 ·rfl
 ·cases gdI x.d
  ·rfl
  by_cases h:(Z.signW x.d.dec).1≤0
  ·rw [decide_eq_true h,decide_eq_false (show ¬ 0<(Z.signW x.d.dec).1 by omega)];rfl
  rw [decide_eq_false h,decide_eq_true (show 0<(Z.signW x.d.dec).1 by omega)];simp only [Bool.not_true,Bool.or_self,cond_false,Bool.true_and];rfl
theorem XG {p:List I} (x:Rt) (hp:p.length≤1000):(iB p x).1=eT p x:=by
 unfold iB eT;rw [iX hp,mE,VG,hx_]
 cases (!p.all gdI || !dA x)
 ·simp only [cond_false,ap]
  exact KL p x _ _ _ oo_
 rfl
def frE (g r:List I) (i:Nat) (c:Z) (j:Nat):I:=E (Z.sub (r.getD j I0).dec (Z.mul c (eX g ((j:Int) - (i:Int))).dec))
theorem h9_ {z:Z} (h:(E z).1.bad=false):gdI (E z)=true:=by
 rw [dU_] at h;have h':z.o≠none:=of_decide_eq_false h
 cases hz:z.o with
 | none=>exact absurd hz h'
 | some v=>rw [Z.eq_of hz];exact OB (z.h v hz)
theorem fl_ {g r:List I} {i:Nat} {c:Z} (hc:c.o=none) (j:Nat):(frE g r i c j).1.bad=true:=by
 unfold frE;rw [dU_,Z.mul,jO (.inl hc),Z.sub,Z.neg,rC O,Z.add,jO (.inr O)];rfl
theorem e0_ {g:List I} {i j:Nat} (h:j<i∨i+g.length≤j):eX g ((j:Int) - (i:Int))=I0:=by
 unfold eX
 by_cases h1:j<i
 ·rw [decide_eq_true (show (j:Int) - (i:Int)<0 by omega)];rfl
 rw [decide_eq_false (show ¬ (j:Int) - (i:Int)<0 by omega),decide_eq_true (show (g.length:Int)≤(j:Int) - (i:Int) by omega)];rfl
theorem aH_ {g r:List I} {i:Nat} {c:Z} (hc:c.o≠none) {j:Nat} (hr:gdI (r.getD j I0)=true) (h:j<i∨i+g.length≤j):frE g r i c j=r.getD j I0:=by
 unfold frE;rw [e0_ h]
 cases hz:c.o with
 | none=>exact absurd hz hc
 | some v =>
  have hv:dR v:=c.h v hz
  have h0:I0.dec=Z.of 0:=by decide +kernel
  obtain ⟨e,hB⟩:=zZ hr;rw [Z.eq_of hz,h0,pF hv B0,Int.mul_zero,IL hr,Z.sub,I8 B0,Int.neg_zero,E7 hB B0,Int.add_zero];exact e.symm
theorem HG (p:List I) (i:Int) (r f:List I) (x:I) {g:List I} (hg:aX p (aE p)=g) {n:Nat} (hi:i=(n:Int)):∀ (fu k:Nat) (t:List I),g.length - k<fu→k≤g.length→t.length=r.length→n+g.length≤r.length→(∀ j,n+k≤j→t.getD j I0=r.getD j I0) →
  (∃ t' k',gO p i r f x fu k t = .inl (k',t')∧t'.length=r.length∧(∀ j,t'.getD j I0=if n+k≤j∧j<n+g.length then frE g r n ((f.set i.toNat x).getD i.toNat I0).dec j else t.getD j I0)∧∀ j,n+k≤j→j<n+g.length→(frE g r n ((f.set i.toNat x).getD i.toNat I0).dec j).1.bad=false)
  ∨ (gO p i r f x fu k t = .inr badp∧∃ j,n+k≤j∧j<n+g.length∧(frE g r n ((f.set i.toNat x).getD i.toNat I0).dec j).1.bad=true)
 | 0,k,t,h,_,_,_,_=>absurd h (Nat.not_lt_zero _)
 | fu+1,k,t,h,hk,hl,hm,ht=>by
  unfold gO;rw [hg]
  have hn:i.toNat=n:=by omega
  generalize hc:((f.set i.toNat x).getD i.toNat I0).dec=c at *;rw [hn] at hc ⊢
  by_cases h1:k<g.length
  ·rw [decide_eq_true oo_,cond_true]
   have hv:E (Z.sub (t.getD (n+k) I0).dec (E (Z.mul c (g.getD k I0).dec)).dec)=frE g r n c (n+k):=by
    unfold frE;rw [ht (n+k) (Nat.le_refl _),cP,show ((n+k:Nat):Int) - (n:Int)=(k:Int) by omega,CX]
   simp only;rw [hv,kW _ _ _ oo_]
   cases hb:(frE g r n c (n+k)).1.bad
   ·rw [cond_false]
    rcases HG p i r f x hg hi fu (k+1) (t.set (n+k) (frE g r n c (n+k))) oo_ oo_ (by rw [List.length_set];exact hl) hm (fun j hj=>by rw [oP _ _ _ _ oo_];exact ht j oo_) with ⟨t',k',e1,e2,e3,e4⟩|⟨e1,j,j1,j2,j3⟩
    ·rw [hn,hc] at e3 e4
     refine .inl ⟨t',k',e1,e2,fun j=>?_,fun j j1 j2=>?_⟩
     ·rw [e3 j]
      by_cases hj:j=n+k
      ·subst hj
       rw [if_neg oo_,if_pos oo_,kW _ _ _ oo_]
      rw [oP _ _ _ _ hj]
      by_cases hj2:n+(k+1)≤j∧j<n+g.length
      ·rw [if_pos hj2,if_pos oo_]
      rw [if_neg hj2,if_neg oo_]
     by_cases hj:j=n+k
     ·subst hj;exact hb
     exact e4 j oo_ j2
    rw [hn,hc] at j3;exact .inr ⟨e1,j,by omega,j2,j3⟩
   exact .inr ⟨rfl,n+k,Nat.le_refl _,by omega,hb⟩
  rw [decide_eq_false oo_,cond_false];exact .inl ⟨t,k,rfl,hl,fun j=>by rw [if_neg oo_],fun j j1 j2=>absurd j2 oo_⟩
theorem VI (p:List I) (i:Int) (r f:List I) (y x:I) {g:List I} (hg:bA p (aK p)=g) {n:Nat} (hi:i=(n:Int)):∀ (fu k:Nat) (t:List I),r.length - k<fu→t.length=r.length →
  (∃ t' k',fH p r i f y x fu k t = .inl (k',t')∧t'.length=r.length∧(∀ j,t'.getD j I0=if k≤j∧j<r.length then frE g r n ((f.set i.toNat x).getD i.toNat I0).dec j else t.getD j I0)∧∀ j,k≤j→j<r.length→(frE g r n ((f.set i.toNat x).getD i.toNat I0).dec j).1.bad=false)
  ∨ (fH p r i f y x fu k t = .inr badp∧∃ j,k≤j∧j<r.length∧(frE g r n ((f.set i.toNat x).getD i.toNat I0).dec j).1.bad=true)
 | 0,k,t,h,_=>absurd h (Nat.not_lt_zero _)
 | fu+1,k,t,h,hl=>by
  unfold fH;rw [hg]
  have hn:i.toNat=n:=by omega
  generalize hc:((f.set i.toNat x).getD i.toNat I0).dec=c at *
  by_cases h1:k<r.length
  ·rw [decide_eq_true oo_,cond_true]
   have hv:E (Z.sub (r.getD k I0).dec (Z.mul c (eS g ((k:Int) - i)).dec))=frE g r n c k:=by
    unfold frE;rw [ZU,hi]
   simp only;rw [hv,kW _ _ _ oo_]
   cases hb:(frE g r n c k).1.bad
   ·rw [cond_false]
    rcases VI p i r f y x hg hi fu (k+1) (t.set k (frE g r n c k)) oo_ (by rw [List.length_set];exact hl) with ⟨t',k',e1,e2,e3,e4⟩|⟨e1,j,j1,j2,j3⟩
    ·rw [hc] at e3 e4
     refine .inl ⟨t',k',e1,e2,fun j=>?_,fun j j1 j2=>?_⟩
     ·rw [e3 j]
      by_cases hj:j=k
      ·subst hj
       rw [if_neg oo_,if_pos oo_,kW _ _ _ oo_]
      rw [oP _ _ _ _ hj]
      by_cases hj2:k+1≤j∧j<r.length
      ·rw [if_pos hj2,if_pos oo_]
      rw [if_neg hj2,if_neg oo_]
     by_cases hj:j=k
     ·subst hj;exact hb
     exact e4 j oo_ j2
    rw [hc] at j3;exact .inr ⟨e1,j,by omega,j2,j3⟩
   exact .inr ⟨rfl,k,Nat.le_refl _,by omega,hb⟩
  rw [decide_eq_false oo_,cond_false];exact .inl ⟨t,k,rfl,hl,fun j=>by rw [if_neg oo_],fun j j1 j2=>absurd j2 oo_⟩
theorem P2 {r:List I} (h:r.all gdI=true) {j:Nat} (hj:j<r.length):gdI (r.getD j I0)=true:=by
 rw [List.getD_eq_getElem?_getD,List.getElem?_eq_getElem hj];exact List.all_eq_true.1 h _ (List.getElem_mem hj)
theorem aL_ {a b:List I} (hl:a.length=b.length) (h:∀ j,j<a.length→a.getD j I0=b.getD j I0):a=b:=by
 refine List.ext_getElem hl fun j h1 h2=>?_;have:=h j h1
 rwa [List.getD_eq_getElem?_getD,List.getElem?_eq_getElem h1,List.getD_eq_getElem?_getD,List.getElem?_eq_getElem h2] at this
theorem eY_ {r:List I} (h:∀ j,j<r.length→gdI (r.getD j I0)=true):r.all gdI=true:=by
 rw [List.all_eq_true];intro x hx;obtain ⟨j,hj,rfl⟩:=List.getElem_of_mem hx;have:=h j hj
 rwa [List.getD_eq_getElem?_getD,List.getElem?_eq_getElem hj] at this
theorem TK (p:List I) (i:Int) (r f:List I) (y x:I) {g:List I} (hg:aX p (aE p)=g) (hg':bA p (aK p)=g) {n:Nat} (hi:i=(n:Int)) (hr:r.all gdI=true) (hm:n+g.length≤r.length) (h1:1≤g.length) :
  (∃ t' k' k'',gO p i r f x (g.length+1) 0 r = .inl (k',t')∧fH p r i f y x (r.length+1) 0 ([]++r) = .inl (k'',t')∧t'.length=r.length∧t'.all gdI=true)
  ∨ (gO p i r f x (g.length+1) 0 r = .inr badp∧fH p r i f y x (r.length+1) 0 ([]++r) = .inr badp):=by
 have hP:=HG p i r f x hg hi (g.length+1) 0 r oo_ (Nat.zero_le _) O hm (fun _ _=>rfl);have hR:=VI p i r f y x hg' hi (r.length+1) 0 ([]++r) oo_ O;rw [List.nil_append] at hR ⊢;generalize hc:((f.set i.toNat x).getD i.toNat I0).dec=c at *;rcases hP with ⟨t',k',e1,e2,e3,e4⟩|⟨e1,j,j1,j2,j3⟩
 ·have hcn:c.o≠none:=fun h=>by
   have:=e4 n oo_ oo_;rw [fl_ h] at this;cases this
  rcases hR with ⟨t2,k2,d1,d2,d3,d4⟩|⟨d1,j,j1,j2,j3⟩
  ·have ht:t'=t2:=aL_ (by rw [e2,d2]) fun j hj=>by
    rw [e2] at hj;rw [d3 j,if_pos ⟨Nat.zero_le _,hj⟩,e3 j]
    by_cases h:n+0≤j∧j<n+g.length
    ·rw [if_pos h]
    rw [if_neg h,aH_ hcn (P2 hr hj) oo_]
   refine .inl ⟨t',k',k2,e1,by rw [ht];exact d1,e2,eY_ fun j hj=>?_⟩;rw [e2] at hj;rw [ht,d3 j,if_pos ⟨Nat.zero_le _,hj⟩];exact h9_ (d4 j (Nat.zero_le _) hj)
  exfalso
  by_cases h:n+0≤j∧j<n+g.length
  ·rw [e4 j h.1 h.2] at j3;cases j3
  have hgd:=P2 hr j2;rw [aH_ hcn hgd oo_] at j3;unfold gdI at hgd;rw [j3] at hgd;cases hgd
 rcases hR with ⟨t2,k2,d1,d2,d3,d4⟩|⟨d1,_⟩
 ·rw [d4 j (Nat.zero_le _) oo_] at j3;cases j3
 exact .inr ⟨e1,d1⟩
theorem IK (p:List I) {g:List I} (hg:aX p (aE p)=g) (hg':bA p (aK p)=g) (h1:1≤g.length) {m:Nat}:∀ (fu:Nat) (i:Int) (r f:List I),r.all gdI=true→r.length=m→i+g.length≤m →
  iH p fu r i f=(match eZ p fu i r f with|.inl (i,r,f)=>.inl (r,i,f)|.inr x=>.inr x)
 | 0,i,r,f,_,_,_=>rfl
 | fu+1,i,r,f,hr,hl,hm=>by
  unfold iH eZ
  by_cases h0:0≤i
  ·rw [decide_eq_true h0]
   simp only [cond_true];obtain ⟨n,rfl⟩:=Int.eq_ofNat_of_zero_le h0
   have hat:eS r ((n:Int)+(((bA p (aK p)).length:Int) - 1))=r.getD ((n:Int).toNat+((aX p (aE p)).length - 1)) I0:=by
    rw [hg,hg',ZU,show (n:Int)+((g.length:Int) - 1)=((n+(g.length - 1):Nat):Int) by omega,CX,Int.toNat_natCast]
   rw [hat,hg,hg'];generalize hx:E (Z.quo (r.getD ((n:Int).toNat+(g.length - 1)) I0).dec (g.getD (g.length - 1) I0).dec)=x;rcases TK p (n:Int) r f (r.getD ((n:Int).toNat+(g.length - 1)) I0) x hg hg' O hr oo_ h1 with ⟨t',k',k'',e1,e2,e3,e4⟩|⟨e1,e2⟩
   ·rw [e1,e2]
    exact IK p hg hg' h1 fu _ _ _ e4 (by rw [e3,hl]) oo_
   rw [e1,e2];rfl
  rw [decide_eq_false h0];rfl
theorem PX {p:List I} (hp:Rgt p):bD p=bI p:=by
 have hl:=vZ hp;have e1:aD p=aC p:=(tF oo_).symm
 have e2:bA p (aK p)=aX p (aE p):=by
  rw [← CV oo_,← UU oo_ (Nat.le_trans (l9 _) dd_)]
 unfold bD bI;rw [e1,e2]
 have hb:(aW (aX p (aE p))||aW (aC p))=(aY (aX p (aE p))||aY (aC p)):=by
  rw [mE,mE,iX (Nat.le_trans (tO _ _) dd_),iX (Nat.le_trans (bU _) dd_)]
 rw [hb]
 cases h:(aY (aX p (aE p))||aY (aC p))
 ·rw [cond_false,cond_false]
  by_cases h0:((aC p).length:Int)=0
  ·have:(((aC p).length:Int)==0)=true:=beq_iff_eq.2 h0
   rw [this];rfl
  have h0':(((aC p).length:Int)==0)=false:=beq_eq_false_iff_ne.2 h0;rw [h0',cond_false,cond_false];obtain ⟨g1,g2⟩:=N7 hp h h0
  have hpg:(aC p).all gdI=true:=by
   have:=(Bool.or_eq_false_iff.1 h).2;rw [iX (Nat.le_trans (bU _) dd_)] at this
   simpa using this
  rw [List.length_replicate,show (((aC p).length - ((aX p (aE p)).length - 1):Nat):Int) - 1=((aC p).length:Int) - 1 - (((aX p (aE p)).length:Int) - 1) by omega];rw [IK p (g:=aX p (aE p)) O e2 g1 (m:=(aC p).length) _ _ _ _ hpg O oo_]
  cases eZ p ((aC p).length+2) (((aC p).length:Int) - 1 - (((aX p (aE p)).length:Int) - 1)) (aC p) (List.replicate ((aC p).length - ((aX p (aE p)).length - 1)) I0) with
  | inr x=>rfl
  | inl s =>
   simp only [sm];rw [← ZA,mE];have hmk:bQ s.2.2=mkP s.2.2:=rD _;rcases B8 s.2.2 with hk|hk
   ·rw [hmk,hk];decide +kernel
   rw [hmk,hk.1,← MZ hk.1 hk.2.2];rfl
 rw [cond_true,cond_true];rfl
def AL (l:List (List I)):Prop:=∀ x∈l,x.length≤25
theorem E0:AL []:=fun x hx=>by cases hx
theorem vL {l:List (List I)} {x:List I} (h:AL l) (hx:x.length≤25):AL (l++[x]):=fun y hy=>by
 rcases List.mem_append.1 hy with hy|hy
 ·exact h y hy
 rw [List.mem_singleton.1 hy];exact hx
theorem E3 {x:List I} (hx:x.length≤25):AL [x]:=vL E0 hx
theorem Y4 {l:List (List I)} {k:Nat} {x:List I} (h:AL l) (hx:l[k]? = some x):x.length≤25:=h x (List.mem_of_getElem? hx)
theorem vS {l:List (List I)} {k:Nat} (h:AL l):(l.getD k []).length≤25:=by
 rw [List.getD_eq_getElem?_getD]
 cases hk:l[k]? with
 | none=>exact Nat.zero_le _
 | some x=>exact Y4 h hk
theorem TM {b:List I} (h:b.length≤25):gmP b≤50:=by
 unfold gmP
 cases b.all gdI
 ·rw [cond_false];omega
 rw [cond_true];omega
theorem wC (out:List (List I)) (next:List I):(out++[next]).getD ((out++[next]).length - 1) []=next:=by
 simp [List.getD_eq_getElem?_getD]
theorem MY {p:List I} {n:I} (hp:p.length≤1000) (h:(cE p n).all gdI=true):p.all gdI=true∧(cE p n).length≤p.length:=by
 unfold cE at h ⊢
 cases hc:oI n
 ·rw [hc,cond_false,DR,e9] at h;cases h
 rw [hc,cond_true] at h;rw [cond_true];rw [qG _ hp dd_] at h ⊢;simp only [List.length_nil,Nat.max_zero,List.all_nil,Bool.and_true] at h ⊢
 cases hg:p.all gdI
 ·rw [hg,cond_false,e9] at h;cases h
 rw [hg] at h;simp only [cond_true] at h ⊢;rw [I5 h];refine ⟨trivial,Nat.le_trans (wY _) ?_⟩
 simp
theorem EL (a b:List I) (hb:b.length≤1000) (h:b.all gdI=false):bN a b=badp:=by
 unfold bN;rw [iX hb,h,show ((aY a)||((!false)||((b.length:Int)==0)))=true by simp,cond_true,DR]
theorem bZ_ {a b:List I} {n:I} (hb:b.length≤25) (hg:(aC (cE (bN a b) n)).all gdI=true):bN a b=badp∨(aC (cE (bN a b) n)).length<b.length:=by
 have h1:=lU a b;have h2:=oX (bN a b) n;obtain ⟨h3,h4⟩:=wN oo_ hg;obtain ⟨h5,h6⟩:=MY oo_ h3
 by_cases h0:b.length=0
 ·left
  unfold bN;rw [show ((aY a)||((aY b)||((b.length:Int)==0)))=true by simp [h0],cond_true,DR]
 rcases FZ a b oo_ with h7|h7
 ·exact .inl h7
 exact .inr oo_
theorem HQ {a b:List I} {n:I} (hb:b.length≤25) (hg:(aC (cE (bN a b) n)).all gdI=true):b.all gdI=true∧(aC (cE (bN a b) n)).length<b.length:=by
 have h1:=lU a b;have h2:=oX (bN a b) n;obtain ⟨h3,h4⟩:=wN oo_ hg;obtain ⟨h5,h6⟩:=MY oo_ h3
 have hg2:b.all gdI=true:=by
  cases hb2:b.all gdI
  ·have:bN a b=badp:=EL a b oo_ hb2
   rw [this,e9] at h5;cases h5
  rfl
 refine ⟨hg2,?_⟩;rcases bZ_ hb hg with h|h
 ·rw [h,e9] at h5;cases h5
 exact h
theorem uA (p:List I) (hp:Rgt p):(bI p).length≤25:=by rw [← PX hp];exact rU p
theorem bX_ {out:List (List I)} {next a:List I} (h:(out.length+gmP next≤60∧1≤out.length)∧next.length≤25∧AL out) (h0:decide (0<(next.length:Int))=true)
  (hb:aY (aC (cE (bN a ((out++[next]).getD ((out++[next]).length - 1) [])) (E (Z.of (-1)))))=false) :
  gmP (aC (cE (bN a ((out++[next]).getD ((out++[next]).length - 1) [])) (E (Z.of (-1)))))<gmP next:=by
 rw [wC] at hb ⊢;have hl:=bU (cE (bN a next) (E (Z.of (-1))));rw [iX oo_] at hb
 have hg:(aC (cE (bN a next) (E (Z.of (-1))))).all gdI=true:=by simpa using hb
 obtain ⟨h1,h2⟩:=HQ h.2.1 hg;unfold gmP;rw [hg,h1,cond_true,cond_true];omega
theorem dG_ {out:List (List I)} {next a:List I} (h:(out.length+gmP next≤60∧1≤out.length)∧next.length≤25∧AL out) (h0:decide (0<(next.length:Int))=true)
  (hb:aY (aC (cE (bN a ((out++[next]).getD ((out++[next]).length - 1) [])) (E (Z.of (-1)))))=false) :
  ((out++[next]).length+gmP (aC (cE (bN a ((out++[next]).getD ((out++[next]).length - 1) [])) (E (Z.of (-1)))))≤60∧1≤(out++[next]).length)∧(aC (cE (bN a ((out++[next]).getD ((out++[next]).length - 1) [])) (E (Z.of (-1))))).length≤25∧AL (out++[next]):=by
 have h1:=bX_ h h0 hb
 have h2:(out++[next]).length=out.length+1:=by simp
 exact ⟨⟨by omega,by omega⟩,bU _,vL h.2.2 h.2.1⟩
theorem SH {f next:List I} (hf:f.length≤25) (hn:next.length≤25):(([f]:List (List I)).length+gmP next≤60∧1≤([f]:List (List I)).length)∧next.length≤25∧AL [f] :=
 ⟨⟨by have:=TM hn;simp only [List.length_singleton];omega,Nat.le_refl _⟩,hn,E3 hf⟩
theorem JV {out:List (List I)} {next a:List I} (ha:a.length≤25) (h:(out.length+gmP next≤60∧1≤out.length)∧next.length≤25∧AL out) (h0:decide (0<(next.length:Int))=true) (hb:aW next=false) :
  gmP (aD (cT (cM a next) (E (Z.of (-1)))))<gmP next:=by
 have hn:=h.2.1
 have hr:=lU a next
 have hs:=oX (bN a next) (E (Z.of (-1)));rw [← G9 oo_ oo_,← E5 _ oo_,← tF oo_];rw [mE] at hb
 have hg:next.all gdI=true:=by simpa using hb
 have h0:=of_decide_eq_true h0;unfold gmP;rw [hg,cond_true]
 cases hp:(aC (cE (bN a next) (E (Z.of (-1))))).all gdI
 ·rw [cond_false];omega
 obtain ⟨h1,h2⟩:=HQ hn hp;rw [cond_true];omega
theorem YW {out:List (List I)} {next:List I} {k:Nat} (h:(out.length+gmP next≤60∧1≤out.length)∧next.length≤25∧AL out) (h0:decide (0<(next.length:Int))=true) (hb:aW next=false) :
  ((out++[next]).length+gmP (aD (cT (cM ((out++[next]).getD k []) next) (E (Z.of (-1)))))≤60∧1≤(out++[next]).length)∧(aD (cT (cM ((out++[next]).getD k []) next) (E (Z.of (-1))))).length≤25∧AL (out++[next]):=by
 have h1:=JV (a:=(out++[next]).getD k []) (vS (vL h.2.2 h.2.1)) h h0 hb
 have h2:(out++[next]).length=out.length+1:=by simp
 exact ⟨⟨by omega,by omega⟩,dG _,vL h.2.2 h.2.1⟩
theorem as_ (p q:List I) (f:I→I→I):Rgt (fE p q f):=by
 unfold fE
 cases (aY p||aY q)
 ·rw [cond_false,pK];exact B8 _
 exact .inl O
theorem OP (p q:List I) (hp:p.length≤1000) (hq:q.length≤1000):Rgt (aX p q):=by
 unfold aX
 cases h:dB p q (gmP (aC q)+1) (aC p) (aC q) with
 | inr y=>rw [N8 p q _ _ _ _ h];exact .inl O
 | inl s =>
  have hr:=OA p q _ _ _ s (pM p hp) (pM q hq) h
  show Rgt (bif _ then _ else _)
  rw [Bool.cond_eq_ite]
  split
  ·exact hr
  exact as_ _ _ _
theorem JW (p:List I):∀ (k:Nat) (out:List (List I)) (next:List I),AL out→next.length≤25→(∀ s,cF p k out next = .inl s→AL s.1)∧∀ r,cF p k out next = .inr r→r.1=[]
 | 0,out,next,ho,hn=>⟨fun s h=>(by cases h;exact ho),fun r h=>(by cases h)⟩
 | k+1,out,next,ho,hn=>by
  unfold cF
  cases h0:decide (0<(next.length:Int))
  ·exact ⟨fun s h=>(by cases h;exact ho),fun r h=>(by cases h)⟩
  rw [cond_true]
  cases hb:aY (aC (cE (bN ((out++[next]).getD ((out++[next]).length - 2) []) ((out++[next]).getD ((out++[next]).length - 1) [])) (E (Z.of (-1)))))
  ·rw [cond_false];exact JW p k _ _ (vL ho hn) (bU _)
  exact ⟨fun s h=>(by cases h),fun r h=>(by cases h;rfl)⟩
theorem JY (p:List I) (out:List (List I)) (next:List I):∀ (l:List (List I)) (r:List (List I)×Bool),dN p out next l = .inr r→r.1=[]
 | [],r,h=>by cases h
 | x::l,r,h=>by
  unfold dN at h
  cases hb:aY x
  ·rw [hb,cond_false] at h;exact JY p out next l r h
  rw [hb,cond_true] at h;cases h;rfl
theorem iJ (p:List I):AL (aL p).1:=by
 unfold aL;have h0:=JW p (gmP (aC (aE (bD p)))+1) [bD p] (aC (aE (bD p))) (E3 (rU p)) (bU _)
 cases h1:cF p (gmP (aC (aE (bD p)))+1) [bD p] (aC (aE (bD p))) with
 | inr r =>
  show AL r.1
  rw [h0.2 r h1];exact E0
 | inl s =>
  show AL (sm (fun (_:Unit)=>(s.1,true)) (fun r=>r) (dN p s.1 s.2 s.1)).1
  cases h2:dN p s.1 s.2 s.1 with
  | inr r =>
   show AL r.1
   rw [JY _ _ _ _ r h2];exact E0
  | inl u=>exact h0.1 s h1
theorem JX (p:List I):∀ (k:Nat) (out:List (List I)) (next:List I),AL out→next.length≤25→(∀ s,dS p k out next = .inl s→AL s.1)∧∀ r,dS p k out next = .inr r→r.1=[]
 | 0,out,next,ho,hn=>⟨fun s h=>(by cases h;exact ho),fun r h=>(by cases h)⟩
 | k+1,out,next,ho,hn=>by
  unfold dS
  cases h0:decide (0<(next.length:Int))
  ·exact ⟨fun s h=>(by cases h;exact ho),fun r h=>(by cases h)⟩
  rw [cond_true]
  cases hb:aW next
  ·rw [cond_false];exact JX p k _ _ (vL ho hn) (dG _)
  exact ⟨fun s h=>(by cases h),fun r h=>(by cases h;rfl)⟩
theorem BF (p:List I) (hp:Rgt p):AL (bO p).1:=by
 unfold bO;have h0:=JX p (gmP (aD (aK (bI p)))+1) [bI p] (aD (aK (bI p))) (E3 (uA p hp)) (dG _)
 cases h1:dS p (gmP (aD (aK (bI p)))+1) [bI p] (aD (aK (bI p))) with
 | inr r =>
  show AL r.1
  rw [h0.2 r h1];exact E0
 | inl s=>exact h0.1 s h1
def eB (c:(List (List I))) (x:Rt):List (List I)→W→W→(W×W) ⊕ (W×Bool)
 | [],mb5,mb4=>.inl (mb5,mb4)
 | x0::l0,mb5,mb4=>bif (aH x0 x).2 then (bif (((aH x0 x).1).1 != 0) then (bif (((aH x0 x).1).1==(-2)) then (.inr ((wl 0),false)) else (bif ((mb5.1 != 0)&&(((aH x0 x).1).1 != mb5.1)) then (eB c x l0 ((aH x0 x).1) (W.add mb4 (wl 1))) else (eB c x l0 ((aH x0 x).1) mb4))) else (eB c x l0 mb5 mb4)) else (.inr ((wl 0),false))
def cV (c:(List (List I))) (x:Rt):W×Bool :=
 sm (fun (s:W×W)=>let mb5:W:=s.1
 let mb4:W:=s.2
 (mb4,true)) (fun r=>r) (eB c x c (wl 0) (wl 0))
def aJ (c:(List (List I))) (a:Rt) (b:Rt):W×Bool :=
 ((W.sub ((cV c a).1) ((cV c b).1)),((cV c a).2&&(cV c b).2))
def dX (p:(List I)) (a:Rt) (b:Rt):W×W :=
 bif ((aY p)||(((p.length:Int)==0)||(!(iO a b)))) then ((wl 0),(wl 1)) else (bif (aL p).2 then (bif (aJ ((aL p).1) a b).2 then ((aJ ((aL p).1) a b).1,(wl 0)) else ((wl 0),(wl 30))) else ((wl 0),(wl 30)))
def cX (p:(List I)) (x:Iv):(List (List I))×W :=
 bif (((dX p x.lo x.hi).2).1 != 0) then (([]:List (List I)),(dX p x.lo x.hi).2) else (bif (((dX p x.lo x.hi).1).1 != 1) then (([]:List (List I)),(wl 1)) else ((aL p).1,(wl 0)))
def iQ (c:(List (List I))) (x:Iv):Iv×Bool :=
 bif (!((aJ c x.lo (aG x.lo x.hi)).2)||((aG x.lo x.hi).n).1.bad) then (x,false) else (bif (((aJ c x.lo (aG x.lo x.hi)).1).1==1) then ((⟨x.lo,(aG x.lo x.hi)⟩:Iv),true) else ((⟨(aG x.lo x.hi),x.hi⟩:Iv),true))
theorem xN (p:List I) (x:Iv):AL (cX p x).1:=by
 unfold cX;generalize dX p x.lo x.hi=C;have hs:=iJ p;generalize (aL p).1=L at hs ⊢
 cases (C.2.1 != 0)
 ·cases (C.1.1 != 1)
  ·exact hs
  exact E0
 exact E0
def gL (c:(List (List I))) (x:Rt):Nat→W→W→Nat→(W×W×Nat) ⊕ (W×Bool)
 | 0,n,last,k=>.inl (n,last,k)
 | k0+1,n,last,k=>bif decide ((k:Int)<(c.length:Int)) then (let r34:Sgd:=(aF (c.getD k []) x)
 bif r34.ok then (let r43:W:=(bif (r34.s.1 != 0) then (bif (last.1 != 0) then (bif (r34.s.1 != last.1) then (W.add n (wl 1)) else n) else n) else n)
 (gL c x k0 r43 (bif (r34.s.1 != 0) then r34.s else last) (k+1))) else (.inr ((wl 0),false))) else (.inl (n,last,k))
def dC (c:(List (List I))) (x:Rt):W×Bool :=
 sm (fun (s:W×W×Nat)=>let n:W:=s.1
 let last:W:=s.2.1
 let k:Nat:=s.2.2
 (n,true)) (fun r=>r) (gL c x (c.length+1) (wl 0) (wl 0) 0)
def bP (c:(List (List I))) (a:Rt) (b:Rt):W×Bool :=
 ((W.sub ((dC c a).1) ((dC c b).1)),((dC c a).2&&(dC c b).2))
def fT (p:(List I)) (a:Rt) (b:Rt):Bool :=
 ((aW p)||(a.n.1.bad||(b.n.1.bad||decide (0<(jF a b).1))))
def eR (c:(List (List I))) (x:Iv):Iv×Bool :=
 bif (((bP c x.lo (aI x.lo x.hi)).1).1==1) then ((⟨x.lo,(aI x.lo x.hi)⟩:Iv),((bP c x.lo (aI x.lo x.hi)).2)) else ((⟨(aI x.lo x.hi),x.hi⟩:Iv),((bP c x.lo (aI x.lo x.hi)).2))
def j6 (x:Rt):Bool :=
 ((bB x)&&(decide ((Z.bitsW x.n.dec).1≤12)&&decide ((Z.bitsW x.d.dec).1≤12)))
def cL (p:(List I)) (a:Rt) (b:Rt) (k:W):Bool :=
 ((eC p 3 32)&&((j6 a)&&((j6 b)&&decide (k.1≤16))))
def jH (a:(List Iv)) (b:(List Iv)):Nat→Nat→(Nat) ⊕ (Bool)
 | 0,k=>.inl k
 | k0+1,k=>bif decide ((k:Int)<(a.length:Int)) then (bif (decide ((((a.getD k Iv0).lo).n)=(((b.getD k Iv0).lo).n))&&(decide ((((a.getD k Iv0).lo).d)=(((b.getD k Iv0).lo).d))&&(decide ((((a.getD k Iv0).hi).n)=(((b.getD k Iv0).hi).n))&&decide ((((a.getD k Iv0).hi).d)=(((b.getD k Iv0).hi).d))))) then (jH a b k0 (k+1)) else (.inr false)) else (.inl k)
def jX (a:(List Iv)) (b:(List Iv)):Bool :=
 bif ((a.length:Int) != (b.length:Int)) then false else (sm (fun (s:Nat)=>let k:Nat:=s
 true) (fun r=>r) (jH a b (a.length+1) 0))
def aM:Nat→(List (List I))→Rt→Rt→Int→Lst9
 | 0,_,_,_,_=>⟨[],wl 0⟩
 | n+1,c,a,b,k=>bif (!((bP c a b).2)||decide (500<k)) then (⟨([]:List Iv),(wl 30)⟩:Lst9) else (bif (((bP c a b).1).1==0) then (⟨([]:List Iv),(wl 0)⟩:Lst9) else (bif (((bP c a b).1).1==1) then (⟨[(⟨a,b⟩:Iv)],(wl 0)⟩:Lst9) else (bif (((aM n c a (aI a b) (k+1)).e).1 != 0) then (⟨(aM n c a (aI a b) (k+1)).l,(aM n c a (aI a b) (k+1)).e⟩:Lst9) else (bif (((aM n c (aI a b) b (k+1)).e).1 != 0) then (⟨(aM n c (aI a b) b (k+1)).l,(aM n c (aI a b) b (k+1)).e⟩:Lst9) else (⟨((aM n c a (aI a b) (k+1)).l++(aM n c (aI a b) b (k+1)).l),(wl 0)⟩:Lst9)))))
def gR (c:(List (List I))) (a:Rt) (b:Rt) (k:Int):Lst9:=aM ((502 - k).toNat+1) c a b k
def aU (p:(List I)) (a:Rt) (b:Rt):Lst9 :=
 bif ((fT p a b)||((p.length:Int)==0)) then (⟨([]:List Iv),(wl 1)⟩:Lst9) else (bif (bO p).2 then (⟨(gR ((bO p).1) a b 0).l,(gR ((bO p).1) a b 0).e⟩:Lst9) else (⟨([]:List Iv),(wl 30)⟩:Lst9))
def cY (p:(List I)) (a:Rt) (b:Rt) (i:Nat) (r48:Sgd):Nat→Nat→Sgd→Iv→(Nat×Sgd×Iv) ⊕ (Fnd9)
 | 0,m,mb49,mb47=>.inl (m,mb49,mb47)
 | k1+1,m,mb49,mb47=>bif (mb49.ok&&((mb49.s.1==0)&&decide ((m:Int)<500))) then (let r68:Iv:=(eR ((bO p).1) mb47).1
 bif (eR ((bO p).1) mb47).2 then (cY p a b i r48 k1 (m+1) (aF p r68.lo) r68) else (.inr (⟨(⟨(⟨I0,I0⟩:Rt),(⟨I0,I0⟩:Rt)⟩:Iv),false,(wl 30)⟩:Fnd9))) else (.inl (m,mb49,mb47))
def cK (p:(List I)) (a:Rt) (b:Rt):Nat→Nat→(Nat) ⊕ (Fnd9)
 | 0,i=>.inl i
 | k0+1,i=>bif decide ((i:Int)<(((aU p a b).l).length:Int)) then (bif (((i:Int)==0)&&decide (0<((aF p a).s).1)) then (cK p a b k0 (i+1)) else (let r48:Sgd:=(aF p ((((aU p a b).l).getD i Iv0).lo))
 sm (fun (s:Nat×Sgd×Iv)=>let m:Nat:=s.1
 let mb49:Sgd:=s.2.1
 let mb47:Iv:=s.2.2
 bif mb49.ok then (bif decide (mb49.s.1≤0) then (.inr (⟨(⟨(⟨I0,I0⟩:Rt),(⟨I0,I0⟩:Rt)⟩:Iv),false,(wl 0)⟩:Fnd9)) else (cK p a b k0 (i+1))) else (.inr (⟨(⟨(⟨I0,I0⟩:Rt),(⟨I0,I0⟩:Rt)⟩:Iv),false,(wl 30)⟩:Fnd9))) (fun r=>.inr r) (cY p a b i r48 (500+1) 0 r48 (((aU p a b).l).getD i Iv0)))) else (.inl i)
def aN (p:(List I)) (a:Rt) (b:Rt):Fnd9 :=
 bif (fT p a b) then (⟨(⟨(⟨I0,I0⟩:Rt),(⟨I0,I0⟩:Rt)⟩:Iv),false,(wl 1)⟩:Fnd9) else (bif ((p.length:Int)==0) then (⟨(⟨(⟨I0,I0⟩:Rt),(⟨I0,I0⟩:Rt)⟩:Iv),true,(wl 0)⟩:Fnd9) else (bif (!((aF p a).ok)||(!(aF p b).ok)) then (⟨(⟨(⟨I0,I0⟩:Rt),(⟨I0,I0⟩:Rt)⟩:Iv),false,(wl 30)⟩:Fnd9) else (bif (decide (((aF p a).s).1<0)||decide (((aF p b).s).1<0)) then (⟨(⟨(⟨I0,I0⟩:Rt),(⟨I0,I0⟩:Rt)⟩:Iv),false,(wl 0)⟩:Fnd9) else (bif (((aU p a b).e).1 != 0) then (⟨(⟨(⟨I0,I0⟩:Rt),(⟨I0,I0⟩:Rt)⟩:Iv),false,(aU p a b).e⟩:Fnd9) else (bif ((((aU p a b).l).length:Int)==0) then (⟨(⟨(⟨I0,I0⟩:Rt),(⟨I0,I0⟩:Rt)⟩:Iv),((decide (a.n=b.n)&&decide (a.d=b.d))||(decide (0<((aF p a).s).1)||decide (0<((aF p b).s).1))),(wl 0)⟩:Fnd9) else (sm (fun (s:Nat)=>let i:Nat:=s
 (⟨(⟨(⟨I0,I0⟩:Rt),(⟨I0,I0⟩:Rt)⟩:Iv),true,(wl 0)⟩:Fnd9)) (fun r=>r) (cK p a b (((aU p a b).l).length+1) 0)))))))
def eU (p:(List I)) (a:Rt) (b:Rt) (k:Int) (r10:Fnd9):Nat→Nat→Iv→(Nat×Iv) ⊕ (Fnd9)
 | 0,i,mb16=>.inl (i,mb16)
 | k0+1,i,mb16=>bif decide ((i:Int)<k) then (let r27:Fnd9:=(aN p mb16.lo (aI mb16.lo mb16.hi))
 bif (r27.e.1==1) then (.inr (⟨(⟨(⟨I0,I0⟩:Rt),(⟨I0,I0⟩:Rt)⟩:Iv),false,(wl 30)⟩:Fnd9)) else (bif (r27.e.1 != 0) then (.inr (⟨(⟨(⟨I0,I0⟩:Rt),(⟨I0,I0⟩:Rt)⟩:Iv),false,r27.e⟩:Fnd9)) else (bif r27.is then (eU p a b k r10 k0 (i+1) (⟨(aI mb16.lo mb16.hi),mb16.hi⟩:Iv)) else (eU p a b k r10 k0 (i+1) (⟨mb16.lo,(aI mb16.lo mb16.hi)⟩:Iv))))) else (.inl (i,mb16))
def bR (p:(List I)) (a:Rt) (b:Rt) (k:Int):Fnd9 :=
 bif (decide (k<0)||decide (64<k)) then (⟨(⟨(⟨I0,I0⟩:Rt),(⟨I0,I0⟩:Rt)⟩:Iv),false,(wl 1)⟩:Fnd9) else (let r10:Fnd9:=(aN p a b)
 bif ((r10.e.1 != 0)||r10.is) then (⟨(⟨(⟨I0,I0⟩:Rt),(⟨I0,I0⟩:Rt)⟩:Iv),false,r10.e⟩:Fnd9) else (sm (fun (s:Nat×Iv)=>let i:Nat:=s.1
 let mb16:Iv:=s.2
 (⟨mb16,true,(wl 0)⟩:Fnd9)) (fun r=>r) (eU p a b k r10 (k.toNat+1) 0 (⟨a,b⟩:Iv))))
class Rg (α:Type) [Add α] [Mul α] [OfNat α 0]:Prop where
 aa:∀ a b c:α,a+b+c=a+(b+c)
 ac:∀ a b:α,a+b=b+a
 a0:∀ a:α,a+0=a
 ma:∀ a b c:α,a*b*c=a*(b*c)
 mc:∀ a b:α,a*b=b*a
 md:∀ a b c:α,a*(b+c)=a*b+a*c
 m0:∀ a:α,a*0=0
instance:Rg Int:=⟨Int.add_assoc,Int.add_comm,Int.add_zero,Int.mul_assoc,Int.mul_comm,Int.mul_add,Int.mul_zero⟩
instance:Rg Rat:=⟨Rat.add_assoc,Rat.add_comm,Rat.add_zero,Rat.mul_assoc,Rat.mul_comm,Rat.mul_add,Rat.mul_zero⟩
theorem Rg.za {α:Type} [Add α] [Mul α] [OfNat α 0] [Rg α] (a:α):0+a=a:=by rw [Rg.ac,Rg.a0]
theorem Rg.zm {α:Type} [Add α] [Mul α] [OfNat α 0] [Rg α] (a:α):0*a=0:=by rw [Rg.mc,Rg.m0]
theorem Rg.dm {α:Type} [Add α] [Mul α] [OfNat α 0] [Rg α] (a b c:α):(a+b)*c=a*c+b*c:=by rw [Rg.mc,Rg.md,Rg.mc c,Rg.mc c]
def jA {α:Type} [Add α] [OfNat α 0] (f:Nat→α):Nat→α
 | 0=>0
 | n+1=>jA f n+f n
theorem iK {α:Type} [Add α] [OfNat α 0] {f g:Nat→α}:∀ {n:Nat},(∀ i,i<n→f i=g i)→jA f n=jA g n
 | 0,_=>rfl
 | n+1,h=>by simp only [jA];rw [iK fun i hi=>h i (by omega),h n (by omega)]
theorem nA {α:Type} [Add α] [Mul α] [OfNat α 0] [Rg α] {f:Nat→α}:∀ {n:Nat},(∀ i,i<n→f i=0)→jA f n=0
 | 0,_=>rfl
 | n+1,h=>by simp only [jA];rw [nA fun i hi=>h i (by omega),h n (by omega),Rg.a0]
theorem BP {α:Type} [Add α] [Mul α] [OfNat α 0] [Rg α] (f g:Nat→α):∀ n:Nat,jA (fun i=>f i+g i) n=jA f n+jA g n
 | 0=>(Rg.a0 _).symm
 | n+1=>by
  simp only [jA];rw [BP f g n,Rg.aa,Rg.aa,← Rg.aa (jA g n),Rg.ac (jA g n) (f n),Rg.aa]
theorem uD {α:Type} [Add α] [Mul α] [OfNat α 0] [Rg α] (c:α) (f:Nat→α):∀ n:Nat,jA (fun i=>c*f i) n=c*jA f n
 | 0=>(Rg.m0 _).symm
 | n+1=>by simp only [jA];rw [uD c f n,Rg.md]
theorem F9 {α:Type} [Add α] [Mul α] [OfNat α 0] [Rg α] (c:α) (f:Nat→α) (n:Nat):jA (fun i=>f i*c) n=jA f n*c:=by
 rw [Rg.mc _ c,← uD];exact iK fun i _=>Rg.mc _ _
theorem zQ {α:Type} [Add α] [Mul α] [OfNat α 0] [Rg α] (f:Nat→α):∀ n:Nat,jA f (n+1)=f 0+jA (fun i=>f (i+1)) n
 | 0=>by simp only [jA];rw [Rg.ac]
 | n+1=>by rw [jA,zQ f n,Rg.aa];rfl
theorem SK {α:Type} [Add α] [Mul α] [OfNat α 0] [Rg α] (f:Nat→α):∀ n:Nat,jA f n=jA (fun i=>f (n - 1 - i)) n
 | 0=>rfl
 | n+1=>by
  rw [zQ (fun i=>f (n+1 - 1 - i)),jA,Rg.ac,SK f n];rw [show n+1 - 1 - 0=n by omega]
  congr 1
  exact iK fun i hi=>congrArg f (by omega)
theorem rJ {α:Type} [Add α] [Mul α] [OfNat α 0] [Rg α] {f:Nat→α} {n:Nat} (h:∀ i,n≤i→f i=0):∀ m:Nat,n≤m→jA f m=jA f n
 | 0,hm=>by rw [show n=0 by omega]
 | m+1,hm=>by
  rcases Nat.lt_or_ge n (m+1) with g|g
  ·rw [jA,h m (by omega),Rg.a0,rJ h m (by omega)]
  rw [show n=m+1 by omega]
theorem KB {α:Type} [Add α] [Mul α] [OfNat α 0] [Rg α] {f:Nat→α} {a:Nat} (h:∀ i,i≠a→f i=0) {n:Nat} (hn:a<n):jA f n=f a:=by
 rw [rJ (n:=a+1) (fun i hi=>h i (by omega)) n hn,jA,nA fun i hi=>h i (by omega),Rg.za]
theorem KC {α:Type} [Add α] [Mul α] [OfNat α 0] [Rg α] (f:Nat→Nat→α):∀ n:Nat,jA (fun k=>jA (fun i=>f i (k - i)) (k+1)) n=jA (fun i=>jA (fun j=>f i j) (n - i)) n
 | 0=>rfl
 | n+1=>by
  rw [jA,KC f n]
  rw [iK (f:=fun i=>jA (fun j=>f i j) (n+1 - i)) (g:=fun i=>jA (fun j=>f i j) (n - i)+f i (n - i)) (fun i hi=>by
   rw [show n+1 - i=n - i+1 by omega];rfl)]
  rw [BP]
  congr 1
  rw [jA,Nat.sub_self,jA,Rg.a0]
def conv {α:Type} [Add α] [Mul α] [OfNat α 0] (c d:Nat→α) (k:Nat):α:=jA (fun i=>c i*d (k - i)) (k+1)
theorem uS {α:Type} [Add α] [Mul α] [OfNat α 0] [Rg α] (c d:Nat→α):conv c d=conv d c:=by
 funext k
 unfold conv;rw [SK];refine iK fun i hi=>?_;rw [Rg.mc,show k - (k+1 - 1 - i)=i by omega,show k+1 - 1 - i=k - i by omega]
theorem DY {α:Type} [Add α] [Mul α] [OfNat α 0] [Rg α] (c d e:Nat→α):conv c (fun i=>d i+e i)=fun k=>conv c d k+conv c e k:=by
 funext k
 unfold conv;rw [← BP];exact iK fun i _=>Rg.md _ _ _
theorem af_ {α:Type} [Add α] [Mul α] [OfNat α 0] [Rg α] (a:α) (c d:Nat→α):conv (fun i=>a*c i) d=fun k=>a*conv c d k:=by
 funext k
 unfold conv;rw [← uD];exact iK fun i _=>Rg.ma _ _ _
theorem tN {α:Type} [Add α] [Mul α] [OfNat α 0] [Rg α] (a:α) (c d:Nat→α):conv c (fun i=>a*d i)=fun k=>a*conv c d k:=by
 rw [uS,af_,uS]
theorem H8 {α:Type} [Add α] [Mul α] [OfNat α 0] [Rg α] (c d e:Nat→α):conv (conv c d) e=conv c (conv d e):=by
 funext k
 unfold conv;have h:=KC (fun j m=>c j*(d m*e (k - j - m))) (k+1);refine Eq.trans (iK fun i hi=>?_) (h.trans (iK fun i hi=>?_))
 ·rw [← F9]
  refine iK fun j hj=>?_;rw [Rg.ma,show k - j - (i - j)=k - i by omega]
 rw [uD,show k+1 - i=k - i+1 by omega]
theorem oC {α:Type} [Add α] [Mul α] [OfNat α 0] [Rg α] {c d:Nat→α} {n m:Nat} (hc:∀ i,n≤i→c i=0) (hd:∀ i,m≤i→d i=0) (k:Nat) (hk:n+m≤k+1):conv c d k=0:=by
 refine nA fun i hi=>?_;rcases Nat.lt_or_ge i n with h|h
 ·rw [hd _ (by omega),Rg.m0]
 rw [hc _ h,Rg.zm]
theorem pL {α:Type} [Add α] [Mul α] [OfNat α 0] [Rg α] {c d:Nat→α} {n m:Nat} (hc:∀ i,n<i→c i=0) (hd:∀ i,m<i→d i=0):conv c d (n+m)=c n*d m:=by
 unfold conv;rw [KB (a:=n) (fun i hi=>?_) (by omega),show n+m - n=m by omega];rcases Nat.lt_or_ge n i with h|h
 ·rw [hc _ h,Rg.zm]
 rw [hd _ (by omega),Rg.m0]
def cR (c:Nat→Int) (i:Nat):Rat:=(c i:Rat)
theorem KD (f:Nat→Int):∀ n:Nat,((jA f n:Int):Rat)=jA (fun i=>(f i:Rat)) n
 | 0=>rfl
 | n+1=>by simp only [jA];rw [Rat.intCast_add,KD f n]
theorem FD (c d:Nat→Int):cR (conv c d)=conv (cR c) (cR d):=by
 funext k
 unfold cR conv;rw [KD];exact iK fun i _=>Rat.intCast_mul ..
theorem xJ (q:Rat):q*((q.den:Int):Rat)=((q.num:Int):Rat):=by
 have h:=Rat.num_divInt_den q;rw [Rat.divInt_eq_div,Rat.div_def] at h;have h0:((q.den:Int):Rat)≠0:=fun h=>q.den_nz (by have:=Rat.intCast_eq_zero_iff.1 h;omega)
 have e:(((q.num:Int):Rat)*((q.den:Int):Rat)⁻¹)*((q.den:Int):Rat)=((q.num:Int):Rat):=by rw [Rat.mul_assoc,Rat.inv_mul_cancel _ h0,Rat.mul_one]
 rw [h] at e;exact e
theorem I0_E:I0=E (Z.of 0):=rfl
theorem vI0:vI I0=0:=cd_ B0
theorem PG {u v:Int} (hu:dR u) (hv:dR v):Z.sub (Z.of u) (Z.of v)=Z.of (u - v):=by
 rw [Z.sub,I8 hv,E7 hu (show (-v).natAbs<_ by rw [Int.natAbs_neg];exact hv),Int.sub_eq_add_neg]
theorem UZ {u:Int} (hu:dR u):Z.abs (Z.of u)=Z.of (u.natAbs:Nat):=by rw [Z.abs,mK (Z.of_some hu)]
structure Po (p:List I) (c:Nat→Int):Prop where
 g:p.all gdI=true
 s:kY p=p
 l:p.length≤25
 c:∀ k,vI (p.getD k I0)=c k
section
variable {p q:List I} {c d:Nat→Int}
theorem Po.rgt (h:Po p c):Rgt p:=.inr ⟨h.g,h.s,h.l⟩
theorem xU (h:Rgt p) (hg:p.all gdI=true):Po p (fun k=>vI (p.getD k I0)):=by
 rcases h with rfl|h
 ·rw [e9] at hg;cases hg
 exact ⟨h.1,h.2.1,h.2.2,fun _=>rfl⟩
theorem VM (h:p.all gdI=true) (k:Nat):gdI (p.getD k I0)=true:=by
 by_cases hk:k<p.length
 ·rw [show p.getD k I0=p[k] by simp [List.getD,hk]]
  exact List.all_eq_true.1 h _ (List.getElem_mem hk)
 rw [oL oo_];exact OB B0
theorem Po.get (h:Po p c) (k:Nat):p.getD k I0=E (Z.of (c k)):=by rw [← h.c k];exact (zZ (VM h.g k)).1
theorem Po.B (h:Po p c) (k:Nat):dR (c k):=by rw [← h.c k];exact (zZ (VM h.g k)).2
theorem Po.zero (h:Po p c) {k:Nat} (hk:p.length≤k):c k=0:=by rw [← h.c k,oL hk,vI0]
theorem Po.last (h:Po p c) {n:Nat} (hn:p.length=n+1):c n≠0:=by
 rcases qU p with rfl|⟨m,x,rfl⟩
 ·cases hn
 have h1:=DH h.s
 have h2:n=m.length:=by simp at hn;omega
 have h3:=h.get n;rw [show (m++[x]).getD n I0=x by simp [h2]] at h3;rw [h3,cm_ (h.B n)] at h1;exact of_decide_eq_false h1
theorem Po.short (h:Po p c) {n:Nat} (hz:∀ k,n≤k→c k=0):p.length≤n:=by
 rcases Nat.lt_or_ge n p.length with g|g
 ·exact absurd (hz (p.length - 1) oo_) (h.last oo_)
 exact g
theorem Po.eq (h:Po p c) (g:Po q c):p=q:=by
 have e:p.length=q.length:=Nat.le_antisymm (h.short fun k hk=>g.zero hk) (g.short fun k hk=>h.zero hk);refine List.ext_getElem e fun k h1 h2=>?_;have a:=h.get k;rw [← g.get k] at a
 simpa [List.getD,h1,h2] using a
theorem Po.cast (h:Po p c) (e:∀ k,c k=d k):Po p d:=⟨h.g,h.s,h.l,fun k=>(h.c k).trans (e k)⟩
theorem E6:Po [] (fun _=>0):=⟨rfl,rfl,by decide,fun k=>by rw [show ([]:List I).getD k I0=I0 by simp];exact vI0⟩
theorem Po.nil (h:Po p c) (hz:∀ k,c k=0):p=[]:=(h.cast hz).eq E6
theorem ET:∀ (n:Nat) (l:List I),l.length≤n→∀ k,(kY l).length≤k→zrI (l.getD k I0)=true
 | 0,l,h,k,_=>by
  rw [oL oo_];exact zr0
 | n+1,l,h,k,hk=>by
  rcases qU l with rfl|⟨m,x,rfl⟩
  ·rw [show ([]:List I).getD k I0=I0 by simp];exact zr0
  rw [qV] at hk
  cases hx:zrI x
  ·rw [hx,cond_false] at hk
   rw [oL hk];exact zr0
  rw [hx,cond_true] at hk;rcases Nat.lt_trichotomy k m.length with g|g|g
  ·rw [show (m++[x]).getD k I0=m.getD k I0 by simp [List.getD,List.getElem?_append_left g]]
   exact ET n m (by simp at h;omega) k hk
  ·rw [show (m++[x]).getD k I0=x by simp [g]];exact hx
  rw [oL (by simp;omega)];exact zr0
theorem DA {l:List I} (h:∀ k,l.getD k I0=E (Z.of (c k))) (hB:∀ k,dR (c k)) (hz:∀ k,25≤k→c k=0):Po (mkP l) c:=by
 have hg:l.all gdI=true:=List.all_eq_true.2 fun x hx=>by
  obtain ⟨k,hk,rfl⟩:=List.getElem_of_mem hx;have e:=h k;rw [show l.getD k I0=l[k] by simp [List.getD,hk]] at e;rw [e];exact OB (hB k)
 have hl:(kY l).length≤25:=BM _ l (Nat.le_refl _) fun j hj=>by rw [h j,hz j hj];exact zr0
 have e:mkP l=kY l:=by unfold mkP;rw [hg,cond_true,if_pos hl]
 rw [e];refine ⟨M5 hg,JZ l,hl,fun k=>?_⟩
 by_cases hk:k<(kY l).length
 ·have e2:(kY l).getD k I0=l.getD k I0:=by
   rw [v4 l];simp only [List.getD,List.getElem?_take,hk,if_true]
  rw [e2,h k,cd_ (hB k)]
 have:=ET _ l (Nat.le_refl _) k oo_;rw [h k,cm_ (hB k)] at this;rw [oL oo_,vI0,of_decide_eq_true this]
theorem KE (f:Nat→I) (n k:Nat):((List.range n).map f).getD k I0=if k<n then f k else I0:=by
 by_cases h:k<n<;>simp [List.getD,h]
theorem UH {f:Nat→I} {n:Nat} (h:∀ k,k<n→f k=E (Z.of (c k))) (h0:∀ k,n≤k→c k=0) (hB:∀ k,dR (c k)) (hz:∀ k,25≤k→c k=0):Po (mkP ((List.range n).map f)) c:=by
 refine DA (fun k=>?_) hB hz;rw [KE]
 split
 ·exact h k ‹_›
 rw [h0 k oo_];rfl
theorem Po.l3 (h:Po p c):p.length≤1000:=Nat.le_trans h.l dd_
theorem DF (h:Rgt p):p.length≤1000:=Nat.le_trans (vZ h) dd_
theorem Po.nb (h:Po p c):aY p=false:=by rw [iX h.l3,h.g];rfl
theorem N0 {e:Nat→Int} {f:I→I→I} (h:Po p c) (g:Po q d) (hf:∀ k,f (E (Z.of (c k))) (E (Z.of (d k)))=E (Z.of (e k))) (hB:∀ k,dR (e k)) (h0:∀ k,c k=0→d k=0→e k=0):Po (fE p q f) e:=by
 rw [qG f h.l3 g.l3,h.g,g.g,Bool.and_true,cond_true];have hl:=h.l;have gl:=g.l;refine UH (fun k _=>?_) (fun k hk=>?_) hB (fun k hk=>?_)
 ·rw [h.get,g.get,hf]
 ·exact h0 k (h.zero oo_) (g.zero oo_)
 exact h0 k (h.zero oo_) (g.zero oo_)
theorem PY {a:Int} (h:Po p c) (ha:dR a) (hB:∀ k,dR (c k*a)):Po (cE p (E (Z.of a))) (fun k=>c k*a):=by
 unfold cE;rw [show oI (E (Z.of a))=true from OB ha,cond_true];exact N0 h E6 (fun k=>by unfold oW;rw [cP,cP,pF (h.B k) ha]) hB (fun k h1 _=>by rw [h1,Int.zero_mul])
theorem LM (h:Po p c) (hB:∀ k,dR (((k+1:Nat):Int)*c (k+1))):Po (aE p) (fun k=>((k+1:Nat):Int)*c (k+1)):=by
 have hl:=h.l;unfold aE;rw [h.nb,cond_false,pK];refine UH (fun k hk=>?_) (fun k hk=>?_) hB (fun k hk=>?_)
 ·unfold lC
  rw [h.get,cP,pF (show ((k+1:Nat):Int).natAbs<4294967296 ^ 16 from Nat.lt_of_lt_of_le (show _<4294967296 by omega) (Nat.le_self_pow dd_ _)) (h.B _)];rfl
 ·rw [h.zero oo_,Int.mul_zero]
 rw [h.zero oo_,Int.mul_zero]
theorem cn_ {v:Int} {k:Nat} (m:Nat) (hm:4294967296 ^ 16=2 ^ m) (h:v.natAbs<2 ^ k) (hk:k≤m):dR v:=by
 unfold dR;rw [hm];exact Nat.lt_of_lt_of_le h (Nat.pow_le_pow_right dd_ hk)
theorem CT {v:Int} {k:Nat} (h:v.natAbs<2 ^ k) (hk:k≤512):dR v:=cn_ 512 PO h hk
structure Bd (c:Nat→Int) (n b:Nat):Prop where
 z:∀ k,n≤k→c k=0
 b:∀ k,(c k).natAbs<2 ^ b
variable {n m b b':Nat}
theorem Bd.mono (h:Bd c n b) {n' b1:Nat} (hn:n≤n') (hb:b≤b1):Bd c n' b1:=⟨fun k hk=>h.z k oo_,fun k=>Nat.lt_of_lt_of_le (h.b k) (Nat.pow_le_pow_right dd_ hb)⟩
theorem Bd.B (h:Bd c n b) (hb:b≤512) (k:Nat):dR (c k):=CT (h.b k) hb
theorem Bd.add (h:Bd c n b) (g:Bd d m b):Bd (fun k=>c k+d k) (max n m) (b+1) :=
 ⟨fun k hk=>by show c k+d k=0;rw [h.z k oo_,g.z k oo_];rfl,fun k=>by
  show (c k+d k).natAbs<_
  have h1:=h.b k;have h2:=g.b k;have h3:=Int.natAbs_add_le (c k) (d k)
  rw [Nat.pow_succ];omega⟩
theorem EB {u v:Int} (h:u.natAbs<2 ^ b) (g:v.natAbs<2 ^ b'):(u*v).natAbs<2 ^ (b+b'):=by
 rw [Int.natAbs_mul,Nat.pow_add];exact Nat.mul_lt_mul_of_lt_of_le h (Nat.le_of_lt g) (Nat.pow_pos dd_)
theorem PI {f:Nat→Int} {A:Nat} (h:∀ i,(f i).natAbs≤A):∀ t:Nat,(jA f t).natAbs≤t*A
 | 0=>by simp [jA]
 | t+1=>by
  have h1:=PI h t;have h2:=h t;have h3:=Int.natAbs_add_le (jA f t) (f t);rw [Nat.succ_mul];show (jA f t+f t).natAbs≤_;omega
theorem b1_ {f:Nat→Int} {e:Nat} (h:∀ i,(f i).natAbs<2 ^ b) (hz:∀ i,n≤i→f i=0) (hn:n≤2 ^ e) (t:Nat):(jA f t).natAbs<2 ^ (b+e):=by
 have hb:0<2 ^ b:=Nat.pow_pos dd_
 have k1:∀ t,t≤n→(jA f t).natAbs<2 ^ (b+e):=fun t ht=>by
  have h1:=PI (f:=f) (A:=2 ^ b - 1) (fun i=>by have:=h i;omega) t;have h2:t*(2 ^ b - 1)≤2 ^ e*(2 ^ b - 1):=Nat.mul_le_mul_right _ oo_;have h3:2 ^ e*(2 ^ b - 1)<2 ^ e*2 ^ b:=Nat.mul_lt_mul_of_pos_left oo_ (Nat.pow_pos dd_);rw [Nat.pow_add,Nat.mul_comm (2 ^ b)];omega
 rcases Nat.lt_or_ge n t with g|g
 ·rw [rJ hz t oo_];exact k1 n (Nat.le_refl _)
 exact k1 t g
theorem XP (h:Bd c n b) (g:Bd d m b') {e:Nat} (hn:n≤2 ^ e) (k t:Nat):(jA (fun i=>c i*d (k - i)) t).natAbs<2 ^ (b+b'+e) :=
 b1_ (n:=n) (fun i=>EB (h.b _) (g.b _)) (fun i hi=>by rw [h.z i hi,Int.zero_mul]) hn t
theorem Bd.conv (h:Bd c n b) (g:Bd d m b') {e:Nat} (hn:n≤2 ^ e):Bd (conv c d) (n+m - 1) (b+b'+e) :=
 ⟨fun k hk=>oC h.z g.z k oo_,fun k=>XP h g hn k (k+1)⟩
theorem Po.len (h:Po p c) (hb:Bd c n b):p.length≤n:=h.short hb.z
theorem y7 {v:Int} (hv:dR v) {b:Int} (h:(Z.bitsW (Z.of v)).1≤b):v.natAbs<2 ^ b.toNat:=by
 have h1:((Z.of v).bits:Int)≤b:=h;unfold Z.bits at h1;rw [Z.of_some hv] at h1;simp only at h1;exact Nat.lt_of_lt_of_le (P6 _) (Nat.pow_le_pow_right dd_ oo_)
theorem QT (p:List I) (a b:Int):∀ (k i:Nat),p.length - i<k→(sm (fun _:Nat=>true) (fun r=>r) (iY p a b k i))=true→∀ j,i≤j→j<p.length→(Z.bitsW (p.getD j I0).dec).1≤b
 | 0,i,h,_,_,_,_=>absurd h (Nat.not_lt_zero _)
 | k+1,i,h,hs,j,hj,hl=>by
  unfold iY at hs;rw [decide_eq_true (show (i:Int)<(p.length:Int) by omega),cond_true] at hs
  by_cases hb:b<(Z.bitsW (p.getD i I0).dec).1
  ·rw [decide_eq_true hb] at hs;cases hs
  rw [decide_eq_false hb,cond_false] at hs;rcases Nat.lt_or_ge i j with g|g
  ·exact QT p a b k (i+1) oo_ hs j oo_ hl
  rw [show j=i by omega];omega
theorem QS {a b:Int} (h:eC p a b=true) (hg:p.all gdI=true):∃ c,Po p c∧Bd c (a+1).toNat b.toNat:=by
 have h1:=gU_ (p:=p) (d:=a) (b:=b) (by rw [h];rfl);have h2:=FH h;have hp:=xU h1.1 hg;refine ⟨_,hp,fun k hk=>hp.zero oo_,fun k=>?_⟩
 by_cases hk:k<p.length
 ·unfold eC at h
  rw [h2.1,decide_eq_false oo_] at h;have h3:=QT p a b _ 0 oo_ h k oo_ hk;rw [hp.get k,cP] at h3;exact y7 (hp.B k) h3
 show (vI (p.getD k I0)).natAbs<_
 rw [oL oo_,vI0];exact Nat.pow_pos dd_
theorem UO (hp:p.length≤1000) (hq:q.length≤1000) (h:p.all gdI=false∨q.all gdI=false):nR p q=badp:=by
 unfold nR;rw [qG _ hp hq,show (p.all gdI&&q.all gdI)=false by rcases h with h|h<;>simp [h]];rfl
theorem US (hp:p.length≤1000) (hq:q.length≤1000) (h:p.all gdI=false∨q.all gdI=false):jQ p q=badp:=by
 unfold jQ;rw [iX hp,iX hq,show (!p.all gdI || !q.all gdI)=true by rcases h with h|h<;>simp [h]];rfl
end
end Go.Num
