/- Lemmas: what they ask stands in their statements. -/
import Derived.Test.YtbjlhfochebmiaaGreatDoorXL1
set_option linter.unusedSimpArgs false
set_option linter.unusedVariables false
set_option maxRecDepth 20000

namespace Go.Num
open Go Go.Kn
theorem cT_:I0=E (Z.of 0):=rfl
theorem vI0:vI I0=0:=a1_ B0
theorem aO_ {u v:Int} (hu:dF u) (hv:dF v):Z.sub (Z.of u) (Z.of v)=Z.of (u - v):=by
  rw [Z.sub,LW hv,z9 hu (show (-v).natAbs<_ by rw [Int.natAbs_neg];exact hv),Int.sub_eq_add_neg]
structure Po (p:List I) (c:Nat→Int):Prop where
  g:p.all gdI=true
  s:iZ p=p
  l:p.length≤25
  c:∀ k,vI (p.getD k I0)=c k
section
variable {p q:List I} {c d:Nat→Int}
theorem NF (h:p.all gdI=true) (k:Nat):gdI (p.getD k I0)=true:=by
  by_cases hk:k<p.length
  · rw [show p.getD k I0=p[k] by simp [List.getD,hk]]
    exact List.all_eq_true.1 h _ (List.getElem_mem hk)
  rw [rD oo_];exact aa_ B0
theorem Po.get (h:Po p c) (k:Nat):p.getD k I0=E (Z.of (c k)):=by rw [← h.c k];exact (W8 (NF h.g k)).1
theorem Po.B (h:Po p c) (k:Nat):dF (c k):=by rw [← h.c k];exact (W8 (NF h.g k)).2
theorem Po.zero (h:Po p c) {k:Nat} (hk:p.length≤k):c k=0:=by rw [← h.c k,rD hk,vI0]
theorem Po.last (h:Po p c) {n:Nat} (hn:p.length=n+1):c n≠0:=by
  rcases sF p with rfl | ⟨m,x,rfl⟩
  · cases hn
  have h1:=MS h.s
  have h2:n=m.length:=by simp at hn;omega
  have h3:=h.get n;rw [show (m ++ [x]).getD n I0=x by simp [h2]] at h3;rw [h3,cP_ (h.B n)] at h1;exact of_decide_eq_false h1
theorem Po.short (h:Po p c) {n:Nat} (hz:∀ k,n≤k→c k=0):p.length≤n:=by
  rcases Nat.lt_or_ge n p.length with g | g
  · exact absurd (hz (p.length - 1) oo_) (h.last oo_)
  exact g
theorem Po.eq (h:Po p c) (g:Po q c):p=q:=by
  have e:p.length=q.length:=Nat.le_antisymm (h.short fun k hk=>g.zero hk) (g.short fun k hk=>h.zero hk);refine List.ext_getElem e fun k h1 h2=>?_;have a:=h.get k;rw [← g.get k] at a
  simpa [List.getD,h1,h2] using a
theorem Po.cast (h:Po p c) (e:∀ k,c k=d k):Po p d:=⟨h.g,h.s,h.l,fun k=>(h.c k).trans (e k)⟩
theorem KR:Po [] (fun _=>0):=⟨rfl,rfl,by decide,fun k=>by rw [show ([]:List I).getD k I0=I0 by simp];exact vI0⟩
theorem Po.nil (h:Po p c) (hz:∀ k,c k=0):p=[]:=(h.cast hz).eq KR
theorem zZ:∀ (n:Nat) (l:List I),l.length≤n→∀ k,(iZ l).length≤k→zrI (l.getD k I0)=true
  | 0,l,h,k,_=>by
    rw [rD oo_];exact zr0
  | n+1,l,h,k,hk=>by
    rcases sF l with rfl | ⟨m,x,rfl⟩
    · rw [show ([]:List I).getD k I0=I0 by simp];exact zr0
    rw [pU] at hk
    cases hx:zrI x
    · rw [hx,cond_false] at hk
      rw [rD hk];exact zr0
    rw [hx,cond_true] at hk;rcases Nat.lt_trichotomy k m.length with g | g | g
    · rw [show (m ++ [x]).getD k I0=m.getD k I0 by simp [List.getD,List.getElem?_append_left g]]
      exact zZ n m (by simp at h;omega) k hk
    · rw [show (m ++ [x]).getD k I0=x by simp [g]];exact hx
    rw [rD (by simp;omega)];exact zr0
theorem SN {l:List I} (h:∀ k,l.getD k I0=E (Z.of (c k))) (hB:∀ k,dF (c k)) (hz:∀ k,25≤k→c k=0):Po (mkP l) c:=by
  have hg:l.all gdI=true:=List.all_eq_true.2 fun x hx=>by
    obtain ⟨k,hk,rfl⟩:=List.getElem_of_mem hx;have e:=h k;rw [show l.getD k I0=l[k] by simp [List.getD,hk]] at e;rw [e];exact aa_ (hB k)
  have hl:(iZ l).length≤25:=BG _ l (Nat.le_refl _) fun j hj=>by rw [h j,hz j hj];exact zr0
  have e:mkP l=iZ l:=by unfold mkP;rw [hg,cond_true,if_pos hl]
  rw [e];refine ⟨FX hg,D5 l,hl,fun k=>?_⟩
  by_cases hk:k<(iZ l).length
  · have e2:(iZ l).getD k I0=l.getD k I0:=by
      rw [rJ l];simp only [List.getD,List.getElem?_take,hk,if_true]
    rw [e2,h k,a1_ (hB k)]
  have:=zZ _ l (Nat.le_refl _) k oo_;rw [h k,cP_ (hB k)] at this;rw [rD oo_,vI0,of_decide_eq_true this]
theorem TS (f:Nat→I) (n k:Nat):((List.range n).map f).getD k I0=if k<n then f k else I0:=by
  by_cases h:k<n <;> simp [List.getD,h]
theorem TR {f:Nat→I} {n:Nat} (h:∀ k,k<n→f k=E (Z.of (c k))) (h0:∀ k,n≤k→c k=0) (hB:∀ k,dF (c k)) (hz:∀ k,25≤k→c k=0):Po (mkP ((List.range n).map f)) c:=by
  refine SN (fun k=>?_) hB hz;rw [TS]
  split
  · exact h k ‹_›
  rw [h0 k oo_];rfl
theorem Po.l3 (h:Po p c):p.length≤1000:=Nat.le_trans h.l dd_
theorem Po.nb (h:Po p c):dQ p=false:=by rw [GC h.l3,h.g];rfl
theorem GO {e:Nat→Int} {f:I→I→I} (h:Po p c) (g:Po q d) (hf:∀ k,f (E (Z.of (c k))) (E (Z.of (d k)))=E (Z.of (e k))) (hB:∀ k,dF (e k)) (h0:∀ k,c k=0→d k=0→e k=0):Po (fN p q f) e:=by
  rw [U9 f h.l3 g.l3,h.g,g.g,Bool.and_true,cond_true];have hl:=h.l;have gl:=g.l;refine TR (fun k _=>?_) (fun k hk=>?_) hB (fun k hk=>?_)
  · rw [h.get,g.get,hf]
  · exact h0 k (h.zero oo_) (g.zero oo_)
  exact h0 k (h.zero oo_) (g.zero oo_)
theorem XT (h:Po p c) (g:Po q d) (hB:∀ k,dF (c k+d k)):Po (aT p q) (fun k=>c k+d k) :=
  GO h g (fun k=>by rw [dB,dB,z9 (h.B k) (g.B k)]) hB (fun k h1 h2=>by rw [h1,h2];rfl)
theorem YA (h:Po p c) (g:Po q d) (hB:∀ k,dF (c k - d k)):Po (mO p q) (fun k=>c k - d k) :=
  GO h g (fun k=>by rw [dB,dB,aO_ (h.B k) (g.B k)]) hB (fun k h1 h2=>by rw [h1,h2];rfl)
theorem P3 {a:Int} (h:Po p c) (ha:dF a) (hB:∀ k,dF (c k * a)):Po (bO p (E (Z.of a))) (fun k=>c k * a):=by
  unfold bO;rw [show kI (E (Z.of a))=true from aa_ ha,cond_true];exact GO h KR (fun k=>by unfold k6;rw [dB,dB,n7 (h.B k) ha]) hB (fun k h1 _=>by rw [h1,Int.zero_mul])
theorem SO (h:Po p c) (g:Po q d) (k:Nat) (hs:∀ t,dF (i1 (fun i=>c i * d (k - i)) t)) (hm:∀ i j,dF (c i * d j)) :
    ∀ (t i:Nat),k+1 - i<t→i≤k+1→(fX k q p t i (E (Z.of (i1 (fun i=>c i * d (k - i)) i)))).2=E (Z.of (conv c d k))
  | 0,i,ht,_=>absurd ht (Nat.not_lt_zero _)
  | t+1,i,ht,hi=>by
    unfold fX;have e:∀ a b,a≤b→p.length≤a→i1 (fun i=>c i * d (k - i)) b=i1 (fun i=>c i * d (k - i)) a:=fun a b hab hpa =>
      rQ (fun j hj=>by rw [h.zero oo_,Int.zero_mul]) b hab
    by_cases hk:((i:Nat):Int)≤min ((k:Nat):Int) (((p.length:Nat):Int) - 1)
    · rw [decide_eq_true hk,cond_true,h.get,g.get,dB,dB,dB,n7 (h.B _) (g.B _),z9 (hs _) (hm _ _)]
      exact SO h g k hs hm t (i+1) oo_ oo_
    rw [decide_eq_false hk,cond_false]
    show E (Z.of _)=E (Z.of (i1 _ (k+1)))
    rcases Nat.lt_or_ge i (k+1) with h1 | h1
    · rw [← e i (k+1) oo_ oo_]
    rw [show i=k+1 by omega]
theorem X4 (h:Po p c) (g:Po q d) (hs:∀ k t,dF (i1 (fun i=>c i * d (k - i)) t)) (hm:∀ i j,dF (c i * d j)) (hl:p.length+q.length≤26):Po (aN p q) (conv c d):=by
  unfold aN;rw [h.nb,g.nb,Bool.or_false,cond_false]
  by_cases h0:p=[]
  · subst h0
    rw [show ((((([]:List I).length:Nat):Int)==0)||(((q.length:Nat):Int)==0))=true by simp,cond_true];exact KR.cast fun k=>Eq.symm (rR fun i _=>by rw [h.zero (Nat.zero_le _),Int.zero_mul])
  by_cases g0:q=[]
  · subst g0
    rw [show ((((p.length:Nat):Int)==0)||(((([]:List I).length:Nat):Int)==0))=true by simp,cond_true];refine KR.cast fun k=>Eq.symm (rR fun i _=>?_);rw [g.zero (Nat.zero_le _),Int.mul_zero]
  have h1:0<p.length:=List.length_pos_iff.2 h0;have h2:0<q.length:=List.length_pos_iff.2 g0
  rw [show ((((p.length:Nat):Int)==0)||(((q.length:Nat):Int)==0))=false by
    rw [Bool.or_eq_false_iff];exact ⟨beq_eq_false_iff_ne.2 oo_,beq_eq_false_iff_ne.2 oo_⟩,cond_false,tW]
  have hz:∀ k,p.length+q.length≤k+1→conv c d k=0:=fun k hk=>FA (fun i hi=>h.zero hi) (fun i hi=>g.zero hi) k hk;refine TR (fun k _=>?_) (fun k hk=>hz k oo_) (fun k=>hs k (k+1)) (fun k hk=>hz k oo_);unfold kH
  show (fX _ _ _ _ _ _).2=_
  rw [show I0=E (Z.of (i1 (fun i=>c i * d (k - i)) (((k:Nat):Int) - ((q.length:Nat):Int)+1).toNat)) by
    rw [rR fun i hi=>by rw [g.zero oo_,Int.mul_zero]];rfl]
  exact SO h g k (hs k) hm _ _ oo_ oo_
theorem UD {v:Int} {k:Nat} (m:Nat) (hm:4294967296 ^ 16=2 ^ m) (h:v.natAbs<2 ^ k) (hk:k≤m):dF v:=by
  unfold dF;rw [hm];exact Nat.lt_of_lt_of_le h (Nat.pow_le_pow_right dd_ hk)
theorem rT {v:Int} {k:Nat} (h:v.natAbs<2 ^ k) (hk:k≤512):dF v:=UD 512 xW h hk
structure Bd (c:Nat→Int) (n b:Nat):Prop where
  z:∀ k,n≤k→c k=0
  b:∀ k,(c k).natAbs<2 ^ b
variable {n m b b':Nat}
theorem Bd.mono (h:Bd c n b) {n' b1:Nat} (hn:n≤n') (hb:b≤b1):Bd c n' b1:=⟨fun k hk=>h.z k oo_,fun k=>Nat.lt_of_lt_of_le (h.b k) (Nat.pow_le_pow_right dd_ hb)⟩
theorem Bd.B (h:Bd c n b) (hb:b≤512) (k:Nat):dF (c k):=rT (h.b k) hb
theorem Bd.add (h:Bd c n b) (g:Bd d m b):Bd (fun k=>c k+d k) (max n m) (b+1) :=
  ⟨fun k hk=>by show c k+d k=0;rw [h.z k oo_,g.z k oo_];rfl,fun k=>by
    show (c k+d k).natAbs<_
    have h1:=h.b k;have h2:=g.b k;have h3:=Int.natAbs_add_le (c k) (d k)
    rw [Nat.pow_succ];omega⟩
theorem oW {u v:Int} (h:u.natAbs<2 ^ b) (g:v.natAbs<2 ^ b'):(u * v).natAbs<2 ^ (b+b'):=by
  rw [Int.natAbs_mul,Nat.pow_add];exact Nat.mul_lt_mul_of_lt_of_le h (Nat.le_of_lt g) (Nat.pow_pos dd_)
theorem TQ {f:Nat→Int} {A:Nat} (h:∀ i,(f i).natAbs≤A):∀ t:Nat,(i1 f t).natAbs≤t * A
  | 0=>by simp [i1]
  | t+1=>by
    have h1:=TQ h t;have h2:=h t;have h3:=Int.natAbs_add_le (i1 f t) (f t);rw [Nat.succ_mul];show (i1 f t+f t).natAbs≤_;omega
theorem TP {f:Nat→Int} {e:Nat} (h:∀ i,(f i).natAbs<2 ^ b) (hz:∀ i,n≤i→f i=0) (hn:n≤2 ^ e) (t:Nat):(i1 f t).natAbs<2 ^ (b+e):=by
  have hb:0<2 ^ b:=Nat.pow_pos dd_
  have k1:∀ t,t≤n→(i1 f t).natAbs<2 ^ (b+e):=fun t ht=>by
    have h1:=TQ (f:=f) (A:=2 ^ b - 1) (fun i=>by have:=h i;omega) t;have h2:t * (2 ^ b - 1)≤2 ^ e * (2 ^ b - 1):=Nat.mul_le_mul_right _ oo_;have h3:2 ^ e * (2 ^ b - 1)<2 ^ e * 2 ^ b:=Nat.mul_lt_mul_of_pos_left oo_ (Nat.pow_pos dd_);rw [Nat.pow_add,Nat.mul_comm (2 ^ b)];omega
  rcases Nat.lt_or_ge n t with g | g
  · rw [rQ hz t oo_];exact k1 n (Nat.le_refl _)
  exact k1 t g
theorem E9 (h:Bd c n b) (g:Bd d m b') {e:Nat} (hn:n≤2 ^ e) (k t:Nat):(i1 (fun i=>c i * d (k - i)) t).natAbs<2 ^ (b+b'+e) :=
  TP (n:=n) (fun i=>oW (h.b _) (g.b _)) (fun i hi=>by rw [h.z i hi,Int.zero_mul]) hn t
theorem Bd.conv (h:Bd c n b) (g:Bd d m b') {e:Nat} (hn:n≤2 ^ e):Bd (conv c d) (n+m - 1) (b+b'+e) :=
  ⟨fun k hk=>FA h.z g.z k oo_,fun k=>E9 h g hn k (k+1)⟩
theorem Po.len (h:Po p c) (hb:Bd c n b):p.length≤n:=h.short hb.z
theorem X3 (h:Po p c) (g:Po q d) (hb:Bd c n b) (gb:Bd d m b') {e:Nat} (hn:n≤2 ^ e) (hl:n+m≤26) (hk:b+b'+e≤512):Po (aN p q) (conv c d) :=
  X4 h g (fun k t=>rT (E9 hb gb hn k t) hk) (fun i j=>rT (oW (hb.b i) (gb.b j)) oo_) (by have:=h.len hb;have:=g.len gb;omega)
theorem XS (h:Po p c) (g:Po q d) (hb:Bd c n b) (gb:Bd d m b) (hk:b+1≤512):Po (aT p q) (fun k=>c k+d k) :=
  XT h g fun k=>rT ((hb.add gb).b k) hk
theorem UT {v:Int} (hv:dF v) {b:Int} (h:(Z.bitsW (Z.of v)).1≤b):v.natAbs<2 ^ b.toNat:=by
  have h1:((Z.of v).bits:Int)≤b:=h;unfold Z.bits at h1;rw [Z.of_some hv] at h1;simp only at h1;exact Nat.lt_of_lt_of_le (AW _) (Nat.pow_le_pow_right dd_ oo_)
end
end Go.Num


namespace Go.Num
open Go Go.Kn
def pw (d:I):Nat→I
  | 0=>E (Z.of 1)
  | k+1=>E (Z.mul (pw d k).dec d.dec)
theorem ML (n:Nat) (f:Nat→I):(List.range (n+1)).map f=(List.range n).map f ++ [f n]:=by rw [List.range_succ,List.map_append];rfl
theorem FS (d:I) (n:Int):∀ (k m:Nat),n.toNat - (m+1)<k→eZ d n k ((List.range (m+1)).map (pw d))=(List.range (max n.toNat (m+1))).map (pw d)
  | 0,m,h=>absurd h (Nat.not_lt_zero _)
  | k+1,m,h=>by
    unfold eZ
    have hl:((List.range (m+1)).map (pw d)).length=m+1:=by simp
    by_cases hc:((m+1:Nat):Int)<n
    · rw [hl,decide_eq_true hc,cond_true]
      have e1:((List.range (m+1)).map (pw d)).getD (m+1 - 1) I0=pw d m:=by simp [List.getD]
      rw [e1,show E (Z.mul (pw d m).dec d.dec)=pw d (m+1) from rfl,← ML,FS d n k (m+1) oo_];rw [show max n.toNat (m+1+1)=max n.toNat (m+1) by omega]
    rw [hl,decide_eq_false hc,cond_false,show max n.toNat (m+1)=m+1 by omega]
theorem PE (d:I) (n:Int):dK d n=(List.range (max n.toNat 1)).map (pw d):=FS d n _ 0 oo_
theorem DN (d:I) (n:Int) {k:Nat} (h:k<max n.toNat 1):(dK d n).getD k I0=pw d k:=by
  rw [PE];simp [List.getD,h]
theorem bI_ (x:Rt):oB [x]=cV x:=by
  unfold oB nY nE
  have e:i3 [x] (fun y=>kP y) ([x].length+1) 0=bif cV x then .inl 1 else .inr (W.cv 0):=by
    show (bif kP x then _ else _)=_
    unfold kP
    cases cV x <;> rfl
  rw [e]
  cases cV x <;> rfl
def vl (c:Nat→Rat) (x:Rat) (n:Nat):Rat:=i1 (fun i=>c i * x ^ i) n
theorem JS (x:Rat) (m:Nat):∀ n:Nat,x ^ (m+n)=x ^ m * x ^ n
  | 0=>by rw [Rat.pow_zero,Rat.mul_one];rfl
  | n+1=>by rw [← Nat.add_assoc,Rat.pow_succ,JS x m n,Rat.pow_succ,Rat.mul_assoc]
theorem H1 {c:Nat→Rat} {x:Rat} {n:Nat} (h:∀ i,n≤i→c i=0) {m:Nat} (hm:n≤m):vl c x m=vl c x n :=
  rQ (fun i hi=>by rw [h i hi,Rat.zero_mul]) m hm
theorem a2_ (c d:Nat→Rat) (x:Rat) (n:Nat):vl (fun i=>c i+d i) x n=vl c x n+vl d x n:=by
  unfold vl;rw [← D8];exact j5 fun i _=>Rat.add_mul _ _ _
theorem a4_ (a:Rat) (c:Nat→Rat) (x:Rat) (n:Nat):vl (fun i=>a * c i) x n=a * vl c x n:=by
  unfold vl;rw [← uQ];exact j5 fun i _=>Rat.mul_assoc _ _ _
theorem T7 (c:Nat→Rat) (x:Rat) (n:Nat):vl c x (n+1)=c 0+x * vl (fun i=>c (i+1)) x n:=by
  unfold vl;rw [D9,Rat.pow_zero,Rat.mul_one,← uQ]
  congr 1
  refine j5 fun i _=>?_;rw [Rat.pow_succ];grind
theorem WS {c d:Nat→Rat} {x:Rat} {n m:Nat} (hc:∀ i,n≤i→c i=0) (hd:∀ i,m≤i→d i=0) {K:Nat} (hK:n+m≤K):vl (conv c d) x K=vl c x n * vl d x m:=by
  have h:=KC (fun i j=>c i * x ^ i * (d j * x ^ j)) K
  have e1:vl (conv c d) x K=i1 (fun k=>i1 (fun i=>c i * x ^ i * (d (k - i) * x ^ (k - i))) (k+1)) K:=by
    refine j5 fun k _=>?_
    show i1 _ _ * _=_
    rw [← FY];refine j5 fun i hi=>?_
    have:x ^ k=x ^ i * x ^ (k - i):=by rw [← JS];congr 1;omega
    rw [this];grind
  rw [e1,h];unfold vl;rw [← FY];rw [rQ (n:=n) (fun i hi=>by rw [hc i hi];exact rR fun j _=>by rw [Rat.zero_mul,Rat.zero_mul]) K oo_];refine j5 fun i hi=>?_;rw [uQ]
  congr 1
  exact rQ (fun j hj=>by rw [hd j hj,Rat.zero_mul]) _ oo_
def hv (c:Nat→Int) (N D:Int) (L:Nat):Nat→Int
  | 0=>0
  | t+1=>hv c N D L t * N+c (L - 1 - t) * D ^ t
section
variable {c:Nat→Int} {N D:Int} {L:Nat}
theorem R3 {x:Rat} (hx:(D:Rat) * x=N):∀ t:Nat,t≤L→((hv c N D L t:Int):Rat) * D=(D:Rat) ^ t * vl (fun j=>cR c (L - t+j)) x t
  | 0,_=>by show ((0:Int):Rat) * D=_ * (0:Rat);rw [Rat.mul_zero];exact Rat.zero_mul _
  | t+1,ht=>by
    rw [T7,hv,Rat.intCast_add,Rat.intCast_mul,Rat.intCast_mul,Rat.intCast_pow,Rat.pow_succ];have ih:=R3 hx t oo_;rw [show (fun i=>(fun j=>cR c (L - (t+1)+j)) (i+1))=fun j=>cR c (L - t+j) from funext fun j=>by show cR c _=cR c _;congr 1;omega];rw [show L - (t+1)+0=L - 1 - t by omega]
    show _=_ * (((c (L - 1 - t):Int):Rat)+_)
    generalize vl (fun j=>cR c (L - t+j)) x t=S at *;generalize ((hv c N D L t:Int):Rat)=H at *;rw [← hx]
    grind
theorem LR {x:Rat} (hx:(D:Rat) * x=N) (hD:0<D):((hv c N D L L:Int):Rat)=(D:Rat) ^ (L - 1) * vl (cR c) x L:=by
  have hd:(D:Rat)≠0:=fun h=>by have:=Rat.intCast_eq_zero_iff.1 h;omega
  cases L with
  | zero=>show ((0:Int):Rat)=_ * (0:Rat);rw [Rat.mul_zero];rfl
  | succ n =>
    have h:=R3 (c:=c) (L:=n+1) hx (n+1) (Nat.le_refl _);rw [show (fun j=>cR c (n+1 - (n+1)+j))=cR c from funext fun j=>by congr 1;omega,Rat.pow_succ] at h;rw [Nat.add_sub_cancel]
    have:(((hv c N D (n+1) (n+1):Int):Rat) - (D:Rat) ^ n * vl (cR c) x (n+1)) * D=0:=by grind
    rcases Rat.mul_eq_zero.1 this with h | h
    · grind
    exact absurd h hd
theorem I1 {b s:Nat} (hc:∀ k,(c k).natAbs<2 ^ b) (hN:N.natAbs<2 ^ s) (hD:D.natAbs<2 ^ s):∀ t:Nat,(hv c N D L t).natAbs≤t * 2 ^ (b+s * t)
  | 0=>by simp [hv]
  | t+1=>by
    have ih:=I1 hc hN hD t
    have h1:(hv c N D L t * N).natAbs≤t * 2 ^ (b+s * t) * 2 ^ s:=by
      rw [Int.natAbs_mul];exact Nat.mul_le_mul ih (Nat.le_of_lt hN)
    have h2:(c (L - 1 - t) * D ^ t).natAbs≤2 ^ b * 2 ^ (s * t):=by
      rw [Int.natAbs_mul,Int.natAbs_pow,Nat.pow_mul];exact Nat.mul_le_mul (Nat.le_of_lt (hc _)) (Nat.pow_le_pow_left (Nat.le_of_lt hD) t)
    have h3:=Int.natAbs_add_le (hv c N D L t * N) (c (L - 1 - t) * D ^ t)
    have h4:(2:Nat) ^ b * 2 ^ (s * t)≤2 ^ (b+s * (t+1)):=by
      rw [← Nat.pow_add];exact Nat.pow_le_pow_right dd_ (by rw [Nat.mul_succ];omega)
    have h5:t * 2 ^ (b+s * t) * 2 ^ s=t * 2 ^ (b+s * (t+1)):=by
      rw [Nat.mul_assoc,← Nat.pow_add,Nat.mul_succ,Nat.add_assoc]
    rw [Nat.succ_mul];show (hv c N D L t * N+c (L - 1 - t) * D ^ t).natAbs≤_;omega
structure Room (c:Nat→Int) (N D:Int) (L:Nat):Prop where
  h:∀ t,t≤L→dF (hv c N D L t)
  m:∀ t,t<L→dF (hv c N D L t * N)
  p:∀ t,t<L→dF (D ^ t)
  q:∀ t,t<L→dF (c (L - 1 - t) * D ^ t)
theorem di_ {b s n e:Nat} (hc:∀ k,(c k).natAbs<2 ^ b) (hN:N.natAbs<2 ^ s) (hD:D.natAbs<2 ^ s) (hL:L≤n) (hn:n≤2 ^ e) (h:b+s * n+e+1≤512):Room c N D L:=by
  have hp:(2:Nat) ^ (b+s * n+e+1)=2 * (2 ^ e * 2 ^ (b+s * n)):=by rw [Nat.pow_succ,Nat.add_comm _ e,Nat.pow_add];omega
  have h0:0<2 ^ e * 2 ^ (b+s * n):=Nat.mul_pos (Nat.pow_pos dd_) (Nat.pow_pos dd_);have k1:∀ t,t≤n→t * 2 ^ (b+s * t)≤2 ^ e * 2 ^ (b+s * n):=fun t ht =>
    Nat.mul_le_mul oo_ (Nat.pow_le_pow_right dd_ (by have:=Nat.mul_le_mul_left s ht;omega))
  have k2:∀ t,t<n→(2:Nat) ^ (s * t)≤2 ^ (b+s * n):=fun t ht=>Nat.pow_le_pow_right dd_ (by have:=Nat.mul_le_mul_left s (Nat.le_of_lt ht);omega);have he:1≤2 ^ e:=Nat.pow_pos dd_
  have kD:∀ t,(D ^ t).natAbs≤2 ^ (s * t):=fun t=>by rw [Int.natAbs_pow,Nat.pow_mul];exact Nat.pow_le_pow_left (Nat.le_of_lt hD) t
  have k0:2 ^ (b+s * n)≤2 ^ e * 2 ^ (b+s * n):=Nat.le_mul_of_pos_left _ he;refine ⟨fun t ht=>rT (k:=b+s * n+e+1) ?_ h,fun t ht=>rT (k:=b+s * n+e+1) ?_ h,fun t ht=>rT (k:=b+s * n+e+1) ?_ h,fun t ht=>rT (k:=b+s * n+e+1) ?_ h⟩
  · have:=I1 (L:=L) hc hN hD t
    have:=k1 t oo_;omega
  · have h1:=I1 (L:=L) hc hN hD t
    have h2:=k1 (t+1) oo_
    have h3:(hv c N D L t * N).natAbs≤t * 2 ^ (b+s * t) * 2 ^ s:=by
      rw [Int.natAbs_mul];exact Nat.mul_le_mul h1 (Nat.le_of_lt hN)
    have h5:t * 2 ^ (b+s * t) * 2 ^ s=t * 2 ^ (b+s * (t+1)):=by
      rw [Nat.mul_assoc,← Nat.pow_add,Nat.mul_succ,Nat.add_assoc]
    rw [Nat.succ_mul] at h2;have h6:0<2 ^ (b+s * (t+1)):=Nat.pow_pos dd_;omega
  · have:=kD t
    have:=k2 t oo_;omega
  have h2:(c (L - 1 - t) * D ^ t).natAbs≤2 ^ b * 2 ^ (s * t):=by
    rw [Int.natAbs_mul];exact Nat.mul_le_mul (Nat.le_of_lt (hc _)) (kD t)
  have h3:(2:Nat) ^ b * 2 ^ (s * t)≤2 ^ (b+s * n):=by
    rw [← Nat.pow_add];exact Nat.pow_le_pow_right dd_ (by have:=Nat.mul_le_mul_left s (Nat.le_of_lt (show t<n by omega));omega)
  omega
theorem MI {D:Int}:∀ {k:Nat},(∀ j,j≤k→dF (D ^ j))→pw (E (Z.of D)) k=E (Z.of (D ^ k))
  | 0,_=>by rw [Int.pow_zero];rfl
  | k+1,h=>by
    rw [pw,MI fun j hj=>h j oo_,dB,dB,n7 (h k oo_) (by have:=h 1 oo_;rwa [Int.pow_one] at this:dF D),Int.pow_succ]
variable {p:List I} {x:Rt}
theorem T6 (h:Po p c) (hx:x.Is N D) (r:Room c N D p.length):∀ (f t:Nat) (i:Int),t≤p.length→i=((p.length:Nat):Int) - 1 - t→p.length - t<f →
    (fY p x f i (E (Z.of (hv c N D p.length t)))).2=E (Z.of (hv c N D p.length p.length))
  | 0,t,i,_,_,hf=>absurd hf (Nat.not_lt_zero _)
  | f+1,t,i,ht,hi,hf=>by
    unfold fY
    by_cases h0:0≤i
    · rw [decide_eq_true h0,cond_true]
      have hl:t<p.length:=by omega
      have e1:i.toNat=p.length - 1 - t:=by omega
      have e2:p.length - 1 - i.toNat=t:=by omega
      simp only
      rw [e2,DN _ _ (show t<max (((p.length:Nat):Int)).toNat 1 by omega),hx.ed,MI fun j hj=>r.p j oo_,e1,h.get,hx.en,dB,dB,dB,dB,dB,
        n7 (h.B _) (r.p t hl),n7 (r.h t ht) hx.hn,z9 (r.m t hl) (r.q t hl)]
      exact T6 h hx r f (t+1) _ oo_ oo_ oo_
    rw [decide_eq_false h0,cond_false,show t=p.length by omega]
theorem PX (h:Po p c) (hx:x.Is N D) (r:Room c N D p.length):fS p x=(E (Z.of (hv c N D p.length p.length)),E (Z.of (D ^ (p.length - 1)))):=by
  unfold fS;rw [h.nb,bI_,oR,y7 hx]
  show ((fY p x (p.length+1) (((p.length:Nat):Int) - 1) I0).2,_)=_
  congr 1
  · have e:=T6 h hx r (p.length+1) 0 (((p.length:Nat):Int) - 1) (Nat.zero_le _) oo_ oo_
    rw [show hv c N D p.length 0=0 from rfl,← cT_] at e;exact e
  rw [show ((((p.length:Nat):Int) - 1)).toNat=p.length - 1 by omega,DN _ _ oo_,hx.ed]
  cases hl:p.length with
  | zero=>show pw _ 0=E (Z.of (D ^ 0));rw [Int.pow_zero];rfl
  | succ n=>exact MI fun j hj=>r.p j oo_
theorem at_ {q:Rat} {n d:Int} (h:(n:Rat)=(d:Rat) * q):q.num * d=n * q.den:=by
  have h1:=NO q
  have h2:(((n * q.den:Int)):Rat)=((q.num * d:Int):Rat):=by
    rw [Rat.intCast_mul,Rat.intCast_mul,h,← h1];grind
  exact (Rat.intCast_inj.1 h2).symm
theorem KY {q:Rat}:((q.den:Int):Rat) * q=((q.num:Int):Rat):=by
  rw [Rat.mul_comm];exact NO q
theorem MY {q:Rat} {n b s e:Nat} (h:Po p c) (hb:Bd c n b) (hx:x.At q) (hs:Sz q s) (hn:n≤2 ^ e) (hk:b+s * n+e+1≤512):(dP p x).At (vl (cR c) q n):=by
  have ix:=At.is hx;have hl:=h.len hb;have r:=di_ (L:=p.length) hb.b hs.n (show ((q.den:Int)).natAbs<2 ^ s by rw [Int.natAbs_natCast];exact hs.d) hl hn hk;unfold dP;rw [PX h ix r,y8];have hp:=@pS q;have hv:=LR (c:=c) (L:=p.length) (N:=q.num) (D:=(q.den:Int)) KY hp;rw [H1 (n:=p.length) (fun i hi=>by unfold cR;rw [h.zero hi];rfl) hl];refine sP (r.h _ (Nat.le_refl _)) ?_ (Int.pow_pos hp) (at_ ?_)
  · cases hp:p.length with
    | zero=>exact B1
    | succ m=>exact r.p _ oo_
  rw [hv,Rat.intCast_pow]
end
end Go.Num


namespace Go.Num
open Go Go.Kn
section
variable {p q:List I} {c d:Nat→Int}
theorem Po.mem (h:Po p c) {x:I} (hx:x∈p):∃ k,vI x=c k:=by
  obtain ⟨k,hk,rfl⟩:=List.getElem_of_mem hx;refine ⟨k,?_⟩;rw [← h.c k]
  simp [List.getD,hk]
def lin (u v:Int) (k:Nat):Int:=if k=0 then u else if k=1 then v else 0
theorem am_ {u v:Int} (hu:dF u) (hv:dF v):Po (sO [E (Z.of u),E (Z.of v)]) (lin u v):=by
  rw [NK];refine SN (fun k=>?_) (fun k=>?_) fun k hk=>?_
  · match k with
    | 0=>rfl
    | 1=>rfl
    | k+2=>rw [rD (by simp)];unfold lin;rw [if_neg oo_,if_neg oo_];rfl
  · unfold lin;split
    · exact hu
    split
    · exact hv
    exact B0
  unfold lin;rw [if_neg oo_,if_neg oo_]
theorem SA {u v:Int} {b:Nat} (hu:u.natAbs<2 ^ b) (hv:v.natAbs<2 ^ b):Bd (lin u v) 2 b :=
  ⟨fun k hk=>by unfold lin;rw [if_neg oo_,if_neg oo_],fun k=>by
    unfold lin;split
    · exact hu
    split
    · exact hv
    exact Nat.pow_pos dd_⟩
variable {u v W:Int} {L:Nat}
theorem a3_ (u v:Int) (y:Rat) {K:Nat} (hK:2≤K):vl (cR (lin u v)) y K=(u:Rat)+(v:Rat) * y:=by
  rw [H1 (n:=2) (fun i hi=>by unfold cR lin;rw [if_neg oo_,if_neg oo_];rfl) hK]
  show (0+((u:Int):Rat) * y ^ 0)+((v:Int):Rat) * y ^ 1=_
  rw [Rat.pow_zero,Rat.pow_one,Rat.zero_add,Rat.mul_one]
end
end Go.Num


namespace Go.Num
open Go Go.Kn
structure PB (p:List I) (c:Nat→Int) (n b:Nat):Prop where
  po:Po p c
  bd:Bd c n b
section
variable {p q:List I} {c d:Nat→Int} {n m b b':Nat}
theorem PB.mono (h:PB p c n b) {n' b1:Nat} (hn:n≤n') (hb:b≤b1):PB p c n' b1:=⟨h.po,h.bd.mono hn hb⟩
theorem PB.cast (h:PB p c n b) (e:∀ k,c k=d k):PB p d n b:=by
  have:c=d:=funext e;subst this;exact h
theorem PB.mul (h:PB p c n b) (g:PB q d m b') {e:Nat} (hn:n≤2 ^ e) (hl:n+m≤26) (hk:b+b'+e≤512):PB (aN p q) (conv c d) (n+m - 1) (b+b'+e):=⟨X3 h.po g.po h.bd g.bd hn hl hk,h.bd.conv g.bd hn⟩
theorem PB.add (h:PB p c n b) (g:PB q d n b) (hk:b+1≤512):PB (aT p q) (fun k=>c k+d k) n (b+1):=⟨XS h.po g.po h.bd g.bd hk,by have:=h.bd.add g.bd;rwa [Nat.max_self] at this⟩
theorem Bd.sub (h:Bd c n b) (g:Bd d n b):Bd (fun k=>c k - d k) n (b+1) :=
  ⟨fun k hk=>by show c k - d k=0;rw [h.z k hk,g.z k hk];rfl,fun k=>by
    have h1:=h.b k;have h2:=g.b k
    show (c k - d k).natAbs<2 ^ (b+1)
    rw [Nat.pow_succ];omega⟩
theorem PB.sub (h:PB p c n b) (g:PB q d n b) (hk:b+1≤512):PB (mO p q) (fun k=>c k - d k) n (b+1):=⟨YA h.po g.po fun k=>(h.bd.sub g.bd).B hk k,h.bd.sub g.bd⟩
theorem PB.scale (h:PB p c n b) {v:Int} {s:Nat} (hv:v.natAbs<2 ^ s) (hk:b+s≤512):PB (bO p (E (Z.of v))) (fun k=>c k * v) n (b+s):=by
  have hb:Bd (fun k=>c k * v) n (b+s):=⟨fun k hk=>by show c k * v=0;rw [h.bd.z k hk,Int.zero_mul],fun k=>oW (h.bd.b k) hv⟩;exact ⟨P3 h.po (rT hv oo_) fun k=>hb.B hk k,hb⟩
theorem PB.nil (n b:Nat):PB [] (fun _=>0) n b:=⟨KR,⟨fun _ _=>rfl,fun _=>Nat.pow_pos dd_⟩⟩
theorem bY_ (u w:W):bU [u,w]=sO [E (Z.of u.1),E (Z.of w.1)]:=by
  unfold bU;rw [AD,NK];rfl
theorem PB.of2 {u w:W} {s:Nat} (hu:u.1.natAbs<2 ^ s) (hw:w.1.natAbs<2 ^ s) (hs:s≤512):PB (bU [u,w]) (lin u.1 w.1) 2 s:=by
  rw [bY_];exact ⟨am_ (rT hu hs) (rT hw hs),SA hu hw⟩
end
theorem U1 (s:Int) (c d:Nat→Int) (k:Nat):conv (fun i=>c i * s) d k=conv c d k * s:=by
  have:=congrFun (QU s c d) k;rw [Int.mul_comm,← this]
  congr 1
  funext i
  exact Int.mul_comm _ _
def scC (A B C D:Nat→Int) (k:Nat):Int:=conv A A k+conv B B k+(conv C C k+conv D D k)
def dgC (A B C D:Nat→Int) (k:Nat):Int:=conv A A k+conv B B k - (conv C C k+conv D D k)
def twC (A B C D:Nat→Int) (s:Int) (k:Nat):Int:=(conv A B k+conv C D k * s) * 2
def nuC (S X m0 m1 m2:Nat→Int) (v:A3 W) (k:Nat):Int:=conv S X k+m0 k * v.x.1+m1 k * v.y.1+m2 k * v.z.1
section
variable {a b c d:List I} {A B C D:Nat→Int}
theorem NN (ha:PB a A 2 8) (hb:PB b B 2 8):PB (aN a b) (conv A B) 3 17:=ha.mul hb (e:=1) dd_ dd_ dd_
theorem WJ (ha:PB a A 2 8) (hb:PB b B 2 8) (hc:PB c C 2 8) (hd:PB d D 2 8):PB (jP (wl 1) a a b b c c d d) (scC A B C D) 3 22:=by
  unfold jP;have h1:=(PB.nil 3 17).add (NN ha ha) dd_;have h2:=h1.add ((NN hb hb).mono (b1:=18) (Nat.le_refl _) dd_) dd_;have h3:=h2.add ((NN hc hc).mono (b1:=19) (Nat.le_refl _) dd_) dd_;have h4:=h3.add ((NN hd hd).mono (b1:=20) (Nat.le_refl _) dd_) dd_;refine (h4.scale (v:=1) (s:=1) dd_ dd_).cast fun k=>?_;unfold scC;omega
theorem CC (ha:PB a A 2 9) (hb:PB b B 2 8) (hc:PB c C 2 9) (hd:PB d D 2 8) (n:W) (hn:n.1.natAbs<2 ^ 2):PB (bS n a b c d) (fun k=>(conv A B k+conv C D k) * n.1) 3 22:=by
  unfold bS;have m1:=ha.mul hb (e:=1) dd_ dd_ dd_;have m2:=hc.mul hd (e:=1) dd_ dd_ dd_;have h1:=(PB.nil 3 18).add m1 dd_;have h2:=h1.add (m2.mono (b1:=19) (Nat.le_refl _) dd_) dd_;refine (h2.scale hn dd_).cast fun k=>?_;rw [Int.zero_add]
theorem P4 (ha:PB a A 2 8) (hb:PB b B 2 8) (hc:PB c C 2 8) (hd:PB d D 2 8):PB (dY a b c d) (dgC A B C D) 3 23:=by
  unfold dY;have u:∀ {p:List I} {P:Nat→Int},PB p P 2 8→PB p P 2 9:=fun h=>h.mono (Nat.le_refl _) dd_;refine ((CC (u ha) ha (u hb) hb (wl 1) dd_).sub (CC (u hc) hc (u hd) hd (wl 1) dd_) dd_).cast fun k=>?_
  show (conv A A k+conv B B k) * 1 - (conv C C k+conv D D k) * 1=_
  unfold dgC;omega
theorem TZ (ha:PB a A 2 8) (hb:PB b B 2 8) (hc:PB c C 2 8) (hd:PB d D 2 8):PB (bS (wl 2) a b c d) (twC A B C D 1) 3 23∧PB (bS (wl 2) a b (bO c (E (Z.of (-1)))) d) (twC A B C D (-1)) 3 23:=by
  have u:∀ {p:List I} {P:Nat→Int},PB p P 2 8→PB p P 2 9:=fun h=>h.mono (Nat.le_refl _) dd_
  constructor
  · refine ((CC (u ha) hb (u hc) hd (wl 2) dd_).mono (b1:=23) (Nat.le_refl _) dd_).cast fun k=>?_
    show (_+_) * 2=_
    unfold twC;omega
  have hm:=hc.scale (v:=-1) (s:=1) dd_ dd_;refine ((CC (u ha) hb hm hd (wl 2) dd_).mono (b1:=23) (Nat.le_refl _) dd_).cast fun k=>?_
  show (_+_) * 2=_
  rw [U1];rfl
def nuP (S X m0 m1 m2:List I) (v:A3 W):List I:=aT (aT (aT (aN S X) (bO m0 (E (Z.of v.x.1)))) (bO m1 (E (Z.of v.y.1)))) (bO m2 (E (Z.of v.z.1)))
def Vin (v:A3 W):Prop:=v.x.1.natAbs<2 ^ 19∧v.y.1.natAbs<2 ^ 19∧v.z.1.natAbs<2 ^ 19
end
theorem aS_ {a b:W} (ha:a.1.natAbs<65) (hb:b.1.natAbs<65):(W.sub (W.mul (wl 1) b) a).1=b.1 - a.1∧(W.sub (W.mul (wl (-1)) b) a).1 = -b.1 - a.1:=by
  have e1:(W.mul (wl 1) b).1=b.1:=by
    show IntKind.i64.wrap (1 * b.1)=_
    rw [Int.one_mul];exact wi oo_
  have e2:(W.mul (wl (-1)) b).1 = -b.1:=by
    show IntKind.i64.wrap (-1 * b.1)=_
    rw [show (-1:Int) * b.1 = -b.1 by omega];exact wi oo_
  constructor
  · show IntKind.i64.wrap ((W.mul (wl 1) b).1 - a.1)=_
    rw [e1];exact wi oo_
  show IntKind.i64.wrap ((W.mul (wl (-1)) b).1 - a.1)=_
  rw [e2];exact wi oo_
theorem CD {a b:W} (ha:a.1.natAbs<65) (hb:b.1.natAbs<65):PB (bU [a,W.sub (W.mul (wl 1) b) a]) (lin a.1 (1 * b.1 - a.1)) 2 8∧PB (bU [a,W.sub (W.mul (wl (-1)) b) a]) (lin a.1 (-1 * b.1 - a.1)) 2 8:=by
  obtain ⟨e1,e2⟩:=aS_ ha hb;have h1:=PB.of2 (u:=a) (w:=W.sub (W.mul (wl 1) b) a) (s:=8) oo_ (by rw [e1];omega) dd_;have h2:=PB.of2 (u:=a) (w:=W.sub (W.mul (wl (-1)) b) a) (s:=8) oo_ (by rw [e2];omega) dd_;rw [e1] at h1;rw [e2] at h2;exact ⟨by rw [show (1:Int) * b.1 - a.1=b.1 - a.1 by omega];exact h1,by rw [show (-1:Int) * b.1 - a.1 = -b.1 - a.1 by omega];exact h2⟩
structure Tq (h:Path) (s:Int):Prop where
  sg:s=1∨s = -1
  x:PB (aF h).x (lin h.from_.q.x.1 (s * h.to_.q.x.1 - h.from_.q.x.1)) 2 8
  y:PB (aF h).y (lin h.from_.q.y.1 (s * h.to_.q.y.1 - h.from_.q.y.1)) 2 8
  z:PB (aF h).z (lin h.from_.q.z.1 (s * h.to_.q.z.1 - h.from_.q.z.1)) 2 8
  t:PB (aF h).t (lin h.from_.q.t.1 (s * h.to_.q.t.1 - h.from_.q.t.1)) 2 8
structure Hv (h:Path):Prop where
  fq:h.from_.q.i.Lw 65∧¬ h.from_.q.i.zero
  tq:h.to_.q.i.Lw 65∧¬ h.to_.q.i.zero
  fx:h.from_.x.x.1.natAbs<2 ^ 47∧h.from_.x.y.1.natAbs<2 ^ 47∧h.from_.x.z.1.natAbs<2 ^ 47
  tx:h.to_.x.x.1.natAbs<2 ^ 47∧h.to_.x.y.1.natAbs<2 ^ 47∧h.to_.x.z.1.natAbs<2 ^ 47
theorem NU {a:Pose} (h:(cH a).1=0):dD a.q=true∧a.x.x.1.natAbs<2 ^ 47∧a.x.y.1.natAbs<2 ^ 47∧a.x.z.1.natAbs<2 ^ 47:=by
  unfold cH at h
  cases h1:(decide (140737488355328≤a.x.x.1)||decide (a.x.x.1≤(-140737488355328)))
  · cases h2:(decide (140737488355328≤a.x.y.1)||decide (a.x.y.1≤(-140737488355328)))
    · cases h3:(decide (140737488355328≤a.x.z.1)||decide (a.x.z.1≤(-140737488355328)))
      · cases h4:dD a.q
        · rw [h1,h2,h3,h4] at h;exact absurd h (show ¬ (1:Int)=0 by decide)
        simp only [Bool.or_eq_false_iff,decide_eq_false_iff_not] at h1 h2 h3;exact ⟨rfl,by omega,by omega,by omega⟩
      rw [h1,h2,h3] at h;exact absurd h (show ¬ (1:Int)=0 by decide)
    rw [h1,h2] at h;exact absurd h (show ¬ (1:Int)=0 by decide)
  rw [h1] at h;exact absurd h (show ¬ (1:Int)=0 by decide)
theorem bN_ {h:Path} (hc:(dM h).1=0):Hv h:=by
  unfold dM at hc;rcases OK h.from_ with k | k
  · rw [k] at hc
    have hc':(cH h.to_).1=0:=hc;obtain ⟨v1,x1⟩:=NU (a:=h.from_) (by rw [k]);obtain ⟨v2,x2⟩:=NU hc';exact ⟨F6 v1,F6 v2,x1,x2⟩
  rw [k] at hc;exact absurd hc (show ¬ (1:Int)=0 by decide)
structure Vx (h:Path) (v:A3 W) (A B C D:Nat→Int):Prop where
  s:PB (eE h) (scC A B C D) 3 22
  s2:(aQ h v).2=eE h
  x:PB (aQ h v).1.x (nuC (scC A B C D) (lin h.from_.x.x.1 (h.to_.x.x.1 - h.from_.x.x.1)) (dgC A B C D) (twC B C A D (-1)) (twC B D A C 1) v) 4 76
  y:PB (aQ h v).1.y (nuC (scC A B C D) (lin h.from_.x.y.1 (h.to_.x.y.1 - h.from_.x.y.1)) (twC B C A D 1) (dgC A C B D) (twC C D A B (-1)) v) 4 76
  z:PB (aQ h v).1.z (nuC (scC A B C D) (lin h.from_.x.z.1 (h.to_.x.z.1 - h.from_.x.z.1)) (twC B D A C (-1)) (twC C D A B 1) (dgC A D B C) v) 4 76
  r:uX h v=⟨(aQ h v).1,eE h⟩
theorem vP (h:Path) (v:A3 W):aQ h v =
    (⟨nuP (eE h) (bU [h.from_.x.x,W.sub h.to_.x.x h.from_.x.x]) (dY (aF h).x (aF h).y (aF h).z (aF h).t) (bS (wl 2) (aF h).y (aF h).z (bO (aF h).x (E (Z.of (-1)))) (aF h).t) (bS (wl 2) (aF h).y (aF h).t (aF h).x (aF h).z) v,
      nuP (eE h) (bU [h.from_.x.y,W.sub h.to_.x.y h.from_.x.y]) (bS (wl 2) (aF h).y (aF h).z (aF h).x (aF h).t) (dY (aF h).x (aF h).z (aF h).y (aF h).t) (bS (wl 2) (aF h).z (aF h).t (bO (aF h).x (E (Z.of (-1)))) (aF h).y) v,
      nuP (eE h) (bU [h.from_.x.z,W.sub h.to_.x.z h.from_.x.z]) (bS (wl 2) (aF h).y (aF h).t (bO (aF h).x (E (Z.of (-1)))) (aF h).z) (bS (wl 2) (aF h).z (aF h).t (aF h).x (aF h).y) (dY (aF h).x (aF h).t (aF h).y (aF h).z) v⟩,eE h):=rfl
section
variable {a b c d:List I} {A B C D:Nat→Int}
end
theorem aN_ {α β:Type} {p:α×β} {a:α} {b:β} (h:p=(a,b)):p.2=b:=by rw [h]
end Go.Num


namespace Go.Num
open Go Go.Kn
theorem DE {a b:A4 W} (ha:a.i.Lw 65) (hb:b.i.Lw 65):(i6 a b).1=a.x.1 * b.x.1+a.y.1 * b.y.1+a.z.1 * b.z.1+a.t.1 * b.t.1:=by
  obtain ⟨h1,h2,h3,h4⟩:=ha;obtain ⟨g1,g2,g3,g4⟩:=hb
  have u:∀ {p q:W},p.1.natAbs<65→q.1.natAbs<65→(p.1 * q.1).natAbs<2 ^ 14∧(W.mul p q).1=p.1 * q.1:=fun {p q} hp hq=>by
    have:=oW (b:=7) (b':=7) (u:=p.1) (v:=q.1) oo_ oo_;exact ⟨this,wi ⟨by omega,by omega⟩⟩
  obtain ⟨k1,e1⟩:=u h1 g1;obtain ⟨k2,e2⟩:=u h2 g2;obtain ⟨k3,e3⟩:=u h3 g3;obtain ⟨k4,e4⟩:=u h4 g4;have ad:∀ {p q:W},p.1.natAbs<2 ^ 60→q.1.natAbs<2 ^ 60→(W.add p q).1=p.1+q.1:=fun {p q} hp hq=>wi ⟨by omega,by omega⟩;unfold i6;rw [cl_];have e0:(wl 0).1=0:=rfl;have s0:=ad (p:=wl 0) (q:=W.mul a.x b.x) (by rw [e0];omega) (by rw [e1];omega);have s1:=ad (p:=W.add (wl 0) (W.mul a.x b.x)) (q:=W.mul a.y b.y) (by rw [s0,e0,e1];omega) (by rw [e2];omega);have s2:=ad (p:=W.add (W.add (wl 0) (W.mul a.x b.x)) (W.mul a.y b.y)) (q:=W.mul a.z b.z) (by rw [s1,s0,e0,e1,e2];omega) (by rw [e3];omega);have s3:=ad (p:=W.add (W.add (W.add (wl 0) (W.mul a.x b.x)) (W.mul a.y b.y)) (W.mul a.z b.z)) (q:=W.mul a.t b.t) (by rw [s2,s1,s0,e0,e1,e2,e3];omega) (by rw [e4];omega);rw [s3,s2,s1,s0,e0,e1,e2,e3,e4];omega
def yA (h:Path):Int:=if h.from_.q.x.1 * h.to_.q.x.1+h.from_.q.y.1 * h.to_.q.y.1+h.from_.q.z.1 * h.to_.q.z.1+h.from_.q.t.1 * h.to_.q.t.1<0 then -1 else 1
theorem OL {h:Path} (hf:h.from_.q.i.Lw 65) (ht:h.to_.q.i.Lw 65):Tq h (yA h):=by
  have hin:=DE hf ht;obtain ⟨a1,a2,a3,a4⟩:=hf;obtain ⟨b1,b2,b3,b4⟩:=ht;have k1:=CD (a:=h.from_.q.x) (b:=h.to_.q.x) a1 b1;have k2:=CD (a:=h.from_.q.y) (b:=h.to_.q.y) a2 b2;have k3:=CD (a:=h.from_.q.z) (b:=h.to_.q.z) a3 b3;have k4:=CD (a:=h.from_.q.t) (b:=h.to_.q.t) a4 b4;unfold yA;rw [← hin]
  by_cases hc:(i6 h.from_.q h.to_.q).1<0
  · rw [if_pos hc]
    have e:aF h=⟨bU [h.from_.q.x,W.sub (W.mul (wl (-1)) h.to_.q.x) h.from_.q.x],bU [h.from_.q.y,W.sub (W.mul (wl (-1)) h.to_.q.y) h.from_.q.y],bU [h.from_.q.z,W.sub (W.mul (wl (-1)) h.to_.q.z) h.from_.q.z],bU [h.from_.q.t,W.sub (W.mul (wl (-1)) h.to_.q.t) h.from_.q.t]⟩:=by
      unfold aF;rw [decide_eq_true hc];rfl
    exact ⟨.inr rfl,by rw [e];exact k1.2,by rw [e];exact k2.2,by rw [e];exact k3.2,by rw [e];exact k4.2⟩
  rw [if_neg hc]
  have e:aF h=⟨bU [h.from_.q.x,W.sub (W.mul (wl 1) h.to_.q.x) h.from_.q.x],bU [h.from_.q.y,W.sub (W.mul (wl 1) h.to_.q.y) h.from_.q.y],bU [h.from_.q.z,W.sub (W.mul (wl 1) h.to_.q.z) h.from_.q.z],bU [h.from_.q.t,W.sub (W.mul (wl 1) h.to_.q.t) h.from_.q.t]⟩:=by
    unfold aF;rw [decide_eq_false hc];rfl
  exact ⟨.inl rfl,by rw [e];exact k1.1,by rw [e];exact k2.1,by rw [e];exact k3.1,by rw [e];exact k4.1⟩
theorem LY {s x m0 m1 m2:List I} {S X M0 M1 M2:Nat→Int} {v:A3 W} (hv:Vin v) (hs:PB s S 3 22) (hx:PB x X 2 49) (h0:PB m0 M0 3 23) (h1:PB m1 M1 3 23) (h2:PB m2 M2 3 23):PB (nuP s x m0 m1 m2 v) (nuC S X M0 M1 M2 v) 4 76:=by
  have k0:=hs.mul hx (e:=2) dd_ dd_ dd_;have k1:=(h0.scale hv.1 dd_).mono (n':=4) (b1:=73) dd_ dd_;have k2:=(h1.scale hv.2.1 dd_).mono (n':=4) (b1:=74) dd_ dd_;have k3:=(h2.scale hv.2.2 dd_).mono (n':=4) (b1:=75) dd_ dd_;exact ((k0.add k1 dd_).add k2 dd_).add k3 dd_
structure Vp (h:Path) (v:A3 W) (A B C D:Nat→Int):Prop where
  s:PB (eE h) (scC A B C D) 3 22
  s2:(aQ h v).2=eE h
  x:PB (aQ h v).1.x (nuC (scC A B C D) (lin h.from_.x.x.1 (h.to_.x.x.1 - h.from_.x.x.1)) (dgC A B C D) (twC B C A D (-1)) (twC B D A C 1) v) 4 76
  y:PB (aQ h v).1.y (nuC (scC A B C D) (lin h.from_.x.y.1 (h.to_.x.y.1 - h.from_.x.y.1)) (twC B C A D 1) (dgC A C B D) (twC C D A B (-1)) v) 4 76
  z:PB (aQ h v).1.z (nuC (scC A B C D) (lin h.from_.x.z.1 (h.to_.x.z.1 - h.from_.x.z.1)) (twC B D A C (-1)) (twC C D A B 1) (dgC A D B C) v) 4 76
  a:PB (aF h).x A 2 8
  b:PB (aF h).y B 2 8
  c:PB (aF h).z C 2 8
  d:PB (aF h).t D 2 8
theorem H6 {h:Path} (hh:Hv h) {v:A3 W} (hv:Vin v):∃ A B C D,A=lin h.from_.q.x.1 (yA h * h.to_.q.x.1 - h.from_.q.x.1)∧B=lin h.from_.q.y.1 (yA h * h.to_.q.y.1 - h.from_.q.y.1)∧C=lin h.from_.q.z.1 (yA h * h.to_.q.z.1 - h.from_.q.z.1)∧D=lin h.from_.q.t.1 (yA h * h.to_.q.t.1 - h.from_.q.t.1)∧Vp h v A B C D:=by
  have tq:=OL hh.fq.1 hh.tq.1;refine ⟨_,_,_,_,rfl,rfl,rfl,rfl,?_⟩;have hx:=tq.x;have hy:=tq.y;have hz:=tq.z;have ht:=tq.t;generalize lin h.from_.q.x.1 _=A at *;generalize lin h.from_.q.y.1 _=B at *;generalize lin h.from_.q.z.1 _=C at *;generalize lin h.from_.q.t.1 _=D at *;have sc:PB (eE h) (scC A B C D) 3 22:=WJ hx hy hz ht
  have pos:∀ {a b:W},a.1.natAbs<2 ^ 47→b.1.natAbs<2 ^ 47→PB (bU [a,W.sub b a]) (lin a.1 (b.1 - a.1)) 2 49:=fun {a b} ha hb=>by
    have e:(W.sub b a).1=b.1 - a.1:=wi ⟨by show _≤b.1 - a.1;omega,by show b.1 - a.1≤_;omega⟩;have:=PB.of2 (u:=a) (w:=W.sub b a) (s:=49) oo_ (by rw [e];omega) dd_
    rwa [e] at this
  have px:=pos hh.fx.1 hh.tx.1;have py:=pos hh.fx.2.1 hh.tx.2.1;have pz:=pos hh.fx.2.2 hh.tx.2.2;have d1:=P4 hx hy hz ht;have d2:=P4 hx hz hy ht;have d3:=P4 hx ht hy hz;obtain ⟨t1,t2⟩:=TZ hy hz hx ht;obtain ⟨t3,t4⟩:=TZ hy ht hx hz;obtain ⟨t5,t6⟩:=TZ hz ht hx hy;have n1:=LY hv sc px d1 t2 t3;have n2:=LY hv sc py t1 d2 t6;have n3:=LY hv sc pz t4 t5 d3;have q1:=congrArg (fun t=>t.1.x) (vP h v);have q2:=congrArg (fun t=>t.1.y) (vP h v);have q3:=congrArg (fun t=>t.1.z) (vP h v)
  dsimp only at q1 q2 q3
  rw [← q1] at n1;rw [← q2] at n2;rw [← q3] at n3;exact ⟨sc,aN_ (vP h v),n1,n2,n3,hx,hy,hz,ht⟩
end Go.Num

