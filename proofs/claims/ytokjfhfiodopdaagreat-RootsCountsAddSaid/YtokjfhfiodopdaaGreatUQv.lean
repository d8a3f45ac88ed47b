/- Lemmas: what they ask stands in their statements. -/
import Derived.Test.YtokjfhfiodopdaaGreatUYu
set_option linter.unusedSimpArgs false
set_option linter.unusedVariables false
namespace Go.Num
open Go Go.Kn
def vl (c:Nat→Rat) (x:Rat) (n:Nat):Rat:=kJ (fun i=>c i * x ^ i) n
theorem QU (x:Rat) (m:Nat):∀ n:Nat,x ^ (m+n)=x ^ m * x ^ n
  | 0=>by rw [Rat.pow_zero,Rat.mul_one];rfl
  | n+1=>by rw [← Nat.add_assoc,Rat.pow_succ,QU x m n,Rat.pow_succ,Rat.mul_assoc]
theorem ON {c:Nat→Rat} {x:Rat} {n:Nat} (h:∀ i,n≤i→c i=0) {m:Nat} (hm:n≤m):vl c x m=vl c x n :=
  sU (fun i hi=>by rw [h i hi,Rat.zero_mul]) m hm
theorem e1_ (c d:Nat→Rat) (x:Rat) (n:Nat):vl (fun i=>c i+d i) x n=vl c x n+vl d x n:=by
  unfold vl;rw [← BA];exact jN fun i _=>Rat.add_mul _ _ _
theorem a6_ (c:Nat→Rat) (x:Rat) (n:Nat):vl c x (n+1)=c 0+x * vl (fun i=>c (i+1)) x n:=by
  unfold vl;rw [zB,Rat.pow_zero,Rat.mul_one,← wM]
  congr 1
  refine jN fun i _=>?_;rw [Rat.pow_succ];grind
theorem cz_ {c d:Nat→Rat} {x:Rat} {n m:Nat} (hc:∀ i,n≤i→c i=0) (hd:∀ i,m≤i→d i=0) {K:Nat} (hK:n+m≤K):vl (conv c d) x K=vl c x n * vl d x m:=by
  have h:=I8 (fun i j=>c i * x ^ i * (d j * x ^ j)) K
  have e1:vl (conv c d) x K=kJ (fun k=>kJ (fun i=>c i * x ^ i * (d (k - i) * x ^ (k - i))) (k+1)) K:=by
    refine jN fun k _=>?_
    show kJ _ _ * _=_
    rw [← FI];refine jN fun i hi=>?_
    have:x ^ k=x ^ i * x ^ (k - i):=by rw [← QU];congr 1;omega
    rw [this];grind
  rw [e1,h];unfold vl;rw [← FI];rw [sU (n:=n) (fun i hi=>by rw [hc i hi];exact nZ fun j _=>by rw [Rat.zero_mul,Rat.zero_mul]) K oo_];refine jN fun i hi=>?_;rw [wM]
  congr 1
  exact sU (fun j hj=>by rw [hd j hj,Rat.zero_mul]) _ oo_
def hv (c:Nat→Int) (N D:Int) (L:Nat):Nat→Int
  | 0=>0
  | t+1=>hv c N D L t * N+c (L - 1 - t) * D ^ t
section
variable {c:Nat→Int} {N D:Int} {L:Nat}
theorem ZL {x:Rat} (hx:(D:Rat) * x=N):∀ t:Nat,t≤L→((hv c N D L t:Int):Rat) * D=(D:Rat) ^ t * vl (fun j=>cR c (L - t+j)) x t
  | 0,_=>by show ((0:Int):Rat) * D=_ * (0:Rat);rw [Rat.mul_zero];exact Rat.zero_mul _
  | t+1,ht=>by
    rw [a6_,hv,Rat.intCast_add,Rat.intCast_mul,Rat.intCast_mul,Rat.intCast_pow,Rat.pow_succ];have ih:=ZL hx t oo_;rw [show (fun i=>(fun j=>cR c (L - (t+1)+j)) (i+1))=fun j=>cR c (L - t+j) from funext fun j=>by show cR c _=cR c _;congr 1;omega];rw [show L - (t+1)+0=L - 1 - t by omega]
    show _=_ * (((c (L - 1 - t):Int):Rat)+_)
    generalize vl (fun j=>cR c (L - t+j)) x t=S at *;generalize ((hv c N D L t:Int):Rat)=H at *;rw [← hx]
    grind
theorem ZK {x:Rat} (hx:(D:Rat) * x=N) (hD:0<D):((hv c N D L L:Int):Rat)=(D:Rat) ^ (L - 1) * vl (cR c) x L:=by
  have hd:(D:Rat)≠0:=fun h=>by have:=Rat.intCast_eq_zero_iff.1 h;omega
  cases L with
  | zero=>show ((0:Int):Rat)=_ * (0:Rat);rw [Rat.mul_zero];rfl
  | succ n =>
    have h:=ZL (c:=c) (L:=n+1) hx (n+1) (Nat.le_refl _);rw [show (fun j=>cR c (n+1 - (n+1)+j))=cR c from funext fun j=>by congr 1;omega,Rat.pow_succ] at h;rw [Nat.add_sub_cancel]
    have:(((hv c N D (n+1) (n+1):Int):Rat) - (D:Rat) ^ n * vl (cR c) x (n+1)) * D=0:=by grind
    rcases Rat.mul_eq_zero.1 this with h | h
    · grind
    exact absurd h hd
theorem ZJ {b s:Nat} (hc:∀ k,(c k).natAbs<2 ^ b) (hN:N.natAbs<2 ^ s) (hD:D.natAbs<2 ^ s):∀ t:Nat,(hv c N D L t).natAbs≤t * 2 ^ (b+s * t)
  | 0=>by simp [hv]
  | t+1=>by
    have ih:=ZJ hc hN hD t
    have h1:(hv c N D L t * N).natAbs≤t * 2 ^ (b+s * t) * 2 ^ s:=by
      rw [Int.natAbs_mul];exact Nat.mul_le_mul ih (Nat.le_of_lt hN)
    have h2:(c (L - 1 - t) * D ^ t).natAbs≤2 ^ b * 2 ^ (s * t):=by
      rw [Int.natAbs_mul,Int.natAbs_pow,Nat.pow_mul];exact Nat.mul_le_mul (Nat.le_of_lt (hc _)) (Nat.pow_le_pow_left (Nat.le_of_lt hD) t)
    have h3:=Int.natAbs_add_le (hv c N D L t * N) (c (L - 1 - t) * D ^ t)
    have h4:(2:Nat) ^ b * 2 ^ (s * t)≤2 ^ (b+s * (t+1)):=by
      rw [← Nat.pow_add];exact Nat.pow_le_pow_right dd_ (by rw [Nat.mul_succ];omega)
    have h5:t * 2 ^ (b+s * t) * 2 ^ s=t * 2 ^ (b+s * (t+1)):=by
      rw [Nat.mul_assoc,← Nat.pow_add,Nat.mul_succ,Nat.add_assoc]
    rw [Nat.succ_mul];show (hv c N D L t * N+c (L - 1 - t) * D ^ t).natAbs≤_;omega
structure Room (c:Nat→Int) (N D:Int) (L:Nat):Prop where
  h:∀ t,t≤L→d6 (hv c N D L t)
  m:∀ t,t<L→d6 (hv c N D L t * N)
  p:∀ t,t<L→d6 (D ^ t)
  q:∀ t,t<L→d6 (c (L - 1 - t) * D ^ t)
theorem eN_ {b s n e:Nat} (hc:∀ k,(c k).natAbs<2 ^ b) (hN:N.natAbs<2 ^ s) (hD:D.natAbs<2 ^ s) (hL:L≤n) (hn:n≤2 ^ e) (h:b+s * n+e+1≤512):Room c N D L:=by
  have hp:(2:Nat) ^ (b+s * n+e+1)=2 * (2 ^ e * 2 ^ (b+s * n)):=by rw [Nat.pow_succ,Nat.add_comm _ e,Nat.pow_add];omega
  have h0:0<2 ^ e * 2 ^ (b+s * n):=Nat.mul_pos (Nat.pow_pos dd_) (Nat.pow_pos dd_);have k1:∀ t,t≤n→t * 2 ^ (b+s * t)≤2 ^ e * 2 ^ (b+s * n):=fun t ht =>
    Nat.mul_le_mul oo_ (Nat.pow_le_pow_right dd_ (by have:=Nat.mul_le_mul_left s ht;omega))
  have k2:∀ t,t<n→(2:Nat) ^ (s * t)≤2 ^ (b+s * n):=fun t ht=>Nat.pow_le_pow_right dd_ (by have:=Nat.mul_le_mul_left s (Nat.le_of_lt ht);omega);have he:1≤2 ^ e:=Nat.pow_pos dd_
  have kD:∀ t,(D ^ t).natAbs≤2 ^ (s * t):=fun t=>by rw [Int.natAbs_pow,Nat.pow_mul];exact Nat.pow_le_pow_left (Nat.le_of_lt hD) t
  have k0:2 ^ (b+s * n)≤2 ^ e * 2 ^ (b+s * n):=Nat.le_mul_of_pos_left _ he;refine ⟨fun t ht=>B9 (k:=b+s * n+e+1) ?_ h,fun t ht=>B9 (k:=b+s * n+e+1) ?_ h,fun t ht=>B9 (k:=b+s * n+e+1) ?_ h,fun t ht=>B9 (k:=b+s * n+e+1) ?_ h⟩
  · have:=ZJ (L:=L) hc hN hD t
    have:=k1 t oo_;omega
  · have h1:=ZJ (L:=L) hc hN hD t
    have h2:=k1 (t+1) oo_
    have h3:(hv c N D L t * N).natAbs≤t * 2 ^ (b+s * t) * 2 ^ s:=by
      rw [Int.natAbs_mul];exact Nat.mul_le_mul h1 (Nat.le_of_lt hN)
    have h5:t * 2 ^ (b+s * t) * 2 ^ s=t * 2 ^ (b+s * (t+1)):=by
      rw [Nat.mul_assoc,← Nat.pow_add,Nat.mul_succ,Nat.add_assoc]
    rw [Nat.succ_mul] at h2;have h6:0<2 ^ (b+s * (t+1)):=Nat.pow_pos dd_;omega
  · have:=kD t
    have:=k2 t oo_;omega
  have h2:(c (L - 1 - t) * D ^ t).natAbs≤2 ^ b * 2 ^ (s * t):=by
    rw [Int.natAbs_mul];exact Nat.mul_le_mul (Nat.le_of_lt (hc _)) (kD t)
  have h3:(2:Nat) ^ b * 2 ^ (s * t)≤2 ^ (b+s * n):=by
    rw [← Nat.pow_add];exact Nat.pow_le_pow_right dd_ (by have:=Nat.mul_le_mul_left s (Nat.le_of_lt (show t<n by omega));omega)
  omega
theorem SP {D:Int}:∀ {k:Nat},(∀ j,j≤k→d6 (D ^ j))→pw (E (Z.of D)) k=E (Z.of (D ^ k))
  | 0,_=>by rw [Int.pow_zero];rfl
  | k+1,h=>by
    rw [pw,SP fun j hj=>h j oo_,cZ,cZ,o5 (h k oo_) (by have:=h 1 oo_;rwa [Int.pow_one] at this:d6 D),Int.pow_succ]
variable {p:List I} {x:Rt}
theorem a5_ (h:Po p c) (hx:x.Is N D) (r:Room c N D p.length):∀ (f t:Nat) (i:Int),t≤p.length→i=((p.length:Nat):Int) - 1 - t→p.length - t<f →
    (gU p x f i (E (Z.of (hv c N D p.length t)))).2=E (Z.of (hv c N D p.length p.length))
  | 0,t,i,_,_,hf=>absurd hf (Nat.not_lt_zero _)
  | f+1,t,i,ht,hi,hf=>by
    unfold gU
    by_cases h0:0≤i
    · rw [decide_eq_true h0,cond_true]
      have hl:t<p.length:=by omega
      have e1:i.toNat=p.length - 1 - t:=by omega
      have e2:p.length - 1 - i.toNat=t:=by omega
      simp only
      rw [e2,yZ _ _ (show t<max (((p.length:Nat):Int)).toNat 1 by omega),hx.ed,SP fun j hj=>r.p j oo_,e1,h.get,hx.en,cZ,cZ,cZ,cZ,cZ,
        o5 (h.B _) (r.p t hl),o5 (r.h t ht) hx.hn,EJ (r.m t hl) (r.q t hl)]
      exact a5_ h hx r f (t+1) _ oo_ oo_ oo_
    rw [decide_eq_false h0,cond_false,show t=p.length by omega]
theorem XB (h:Po p c) (hx:x.Is N D) (r:Room c N D p.length):iK p x=(E (Z.of (hv c N D p.length p.length)),E (Z.of (D ^ (p.length - 1)))):=by
  unfold iK;rw [h.nb,TX,sY,CV hx]
  show ((gU p x (p.length+1) (((p.length:Nat):Int) - 1) I0).2,_)=_
  congr 1
  · have e:=a5_ h hx r (p.length+1) 0 (((p.length:Nat):Int) - 1) (Nat.zero_le _) oo_ oo_
    rw [show hv c N D p.length 0=0 from rfl,← bh_] at e;exact e
  rw [show ((((p.length:Nat):Int) - 1)).toNat=p.length - 1 by omega,yZ _ _ oo_,hx.ed]
  cases hl:p.length with
  | zero=>show pw _ 0=E (Z.of (D ^ 0));rw [Int.pow_zero];rfl
  | succ n=>exact SP fun j hj=>r.p j oo_
theorem ac_ {q:Rat} {n d:Int} (h:(n:Rat)=(d:Rat) * q):q.num * d=n * q.den:=by
  have h1:=BO q
  have h2:(((n * q.den:Int)):Rat)=((q.num * d:Int):Rat):=by
    rw [Rat.intCast_mul,Rat.intCast_mul,h,← h1];grind
  exact (Rat.intCast_inj.1 h2).symm
theorem YR {q:Rat}:((q.den:Int):Rat) * q=((q.num:Int):Rat):=by
  rw [Rat.mul_comm];exact BO q
theorem XS {q:Rat} {n b s e:Nat} (h:Po p c) (hb:Bd c n b) (hx:x.At q) (hs:Sz q s) (hn:n≤2 ^ e) (hk:b+s * n+e+1≤512):(aL p x).2=true∧(aL p x).1.1=(vl (cR c) q n).num.sign:=by
  have ix:=At.is hx;have hl:=h.len hb;have r:=eN_ (L:=p.length) hb.b hs.n (show ((q.den:Int)).natAbs<2 ^ s by rw [Int.natAbs_natCast];exact hs.d) hl hn hk;unfold aL;rw [XB h ix r];have hp:=@rF q;have hv:=ZK (c:=c) (L:=p.length) (N:=q.num) (D:=(q.den:Int)) YR hp;rw [ON (n:=p.length) (fun i hi=>by unfold cR;rw [h.zero hi];rfl) hl];refine ⟨by show (!(E (Z.of _)).1.bad)=true;rw [HA (r.h _ (Nat.le_refl _))];rfl,?_⟩
  show (Z.signW (E (Z.of _)).dec).1=_
  rw [cZ,mU (r.h _ (Nat.le_refl _))];have e:=ac_ (n:=Go.Num.hv c q.num (q.den:Int) p.length p.length) (d:=(q.den:Int) ^ (p.length - 1)) (by rw [hv,Rat.intCast_pow]);have e2:=congrArg Int.sign e;rw [Int.sign_mul,Int.sign_mul,Int.sign_eq_one_of_pos (Int.pow_pos hp),Int.sign_eq_one_of_pos (@rF _),Int.mul_one,Int.mul_one] at e2;exact e2.symm
end
open Go Go.Kn
theorem CH {u:Int}:∀ (l:List I) (g:Nat),u ∣ (g:Int)→(∀ x∈l,u ∣ vI x)→u ∣ ((l.foldl fg g:Nat):Int)
  | [],g,h,_=>h
  | y :: l,g,h,hx=>CH l (fg g y) (Int.dvd_coe_gcd h (hx y List.mem_cons_self)) fun x hm=>hx x (List.mem_cons_of_mem _ hm)
def Prm (c:Nat→Int):Prop:=∀ u:Int,(∀ k,u ∣ c k)→u ∣ 1
theorem TV {u:Int} {g:Nat} (h:0<g) (hd:(g:Int) ∣ u):(u.fdiv g).natAbs≤u.natAbs:=by
  obtain ⟨x,rfl⟩:=hd;rw [Int.mul_fdiv_cancel_left _ oo_,Int.natAbs_mul,Int.natAbs_natCast];exact Nat.le_mul_of_pos_left _ h
section
variable {p q:List I} {c d:Nat→Int}
theorem Po.mem (h:Po p c) {x:I} (hx:x∈p):∃ k,vI x=c k:=by
  obtain ⟨k,hk,rfl⟩:=List.getElem_of_mem hx;refine ⟨k,?_⟩;rw [← h.c k]
  simp [List.getD,hk]
theorem Po.dvd (h:Po p c) (k:Nat):((cN p:Nat):Int) ∣ c k:=by
  by_cases hk:k<p.length
  · rw [← h.c k,show p.getD k I0=p[k] by simp [List.getD,hk]]
    exact MW (List.getElem_mem hk)
  rw [h.zero oo_];exact Int.dvd_zero _
theorem Po.cpos (h:Po p c) (h0:p≠[]):0<cN p:=by
  obtain ⟨n,hn⟩:∃ n,p.length=n+1:=⟨p.length - 1,by have:=List.length_pos_iff.2 h0;omega⟩;rcases Nat.eq_zero_or_pos (cN p) with e | e
  · have h1:=h.dvd n
    rw [e] at h1;exact absurd (Int.zero_dvd.1 h1) (h.last hn)
  exact e
theorem w7 (h:Po p c):Po (aC p) (fun k=>(c k).fdiv (cN p)):=by
  have e:=QF h.g h.s h.l
  have hB:∀ x∈p,d6 ((vI x).fdiv (cN p)):=fun x hx=>by
    obtain ⟨k,hk⟩:=h.mem hx;rw [hk];exact Nat.lt_of_le_of_lt (TV (h.cpos (List.ne_nil_of_mem hx)) (h.dvd k)) (h.B k)
  have hg:(aC p).all gdI=true:=by
    rw [e];refine List.all_eq_true.2 fun y hy=>?_;obtain ⟨x,hx,rfl⟩:=List.mem_map.1 hy;exact PS (hB x hx)
  refine (ST (pD p h.l3) hg).cast fun k=>?_;rw [e]
  by_cases hk:k<p.length
  · have e2:(p.map fun x=>E (Z.of ((vI x).fdiv (cN p)))).getD k I0=E (Z.of ((vI p[k]).fdiv (cN p))):=by simp [List.getD,hk]
    rw [e2,cv_ (hB _ (List.getElem_mem hk)),← h.c k,show p.getD k I0=p[k] by simp [List.getD,hk]]
  rw [o4 (by rw [List.length_map];omega),vI0,h.zero oo_,Int.zero_fdiv]
theorem AQ (h:Po p c) (k:Nat):((cN p:Nat):Int) * (c k).fdiv (cN p)=c k:=by
  by_cases h0:p=[]
  · subst h0;rw [h.zero (Nat.zero_le k),Int.zero_fdiv,Int.mul_zero]
  have hp:=h.cpos h0;obtain ⟨x,hx⟩:=h.dvd k;rw [hx,Int.mul_fdiv_cancel_left _ oo_]
theorem IJ (h:Po p c) (h0:p≠[]):Prm (fun k=>(c k).fdiv (cN p)):=fun u hu=>by
  have hp:=h.cpos h0
  have h1:((cN p:Nat):Int) * u ∣ ((cN p:Nat):Int):=CH p 0 (Int.dvd_zero _) fun x hx=>by
    obtain ⟨k,hk⟩:=h.mem hx;rw [hk,← AQ h k];exact Int.mul_dvd_mul_left _ (hu k)
  obtain ⟨y,hy⟩:=h1;refine ⟨y,?_⟩
  have:((cN p:Nat):Int) * 1=((cN p:Nat):Int) * (u * y):=by rw [Int.mul_one,← Int.mul_assoc];exact hy
  exact Int.eq_of_mul_eq_mul_left oo_ this
variable {u v W:Int} {L:Nat}
end
open Go Go.Kn
theorem k25 {l:List I} (h:l.length≤25):l.length≤1000:=Nat.le_trans h dd_
def Zx (z:Z) (v:Int):Prop:=z.o=none∨(z=Z.of v∧d6 v)
theorem Zx.of (v:Int):Zx (Z.of v) v:=by
  by_cases h:d6 v
  · exact .inr ⟨rfl,h⟩
  refine .inl ?_;rw [Z.of_o,if_neg h]
theorem Zx.lift {f:Int→Int→Z} {a b:Z} {u v r:Int} (ha:Zx a u) (hb:Zx b v) (hf:Zx (f u v) r):Zx (AJ f a b) r:=by
  rcases ha with h | ⟨h,h1⟩
  · left;rw [jJ (.inl h)];rfl
  rcases hb with k | ⟨k,h2⟩
  · left;rw [jJ (.inr k)];rfl
  subst h;subst k;rw [dR (Z.of_some h1) (Z.of_some h2)];exact hf
theorem Zx.add {a b:Z} {u v:Int} (ha:Zx a u) (hb:Zx b v):Zx (Z.add a b) (u+v):=ha.lift hb (.of _)
theorem Zx.mul {a b:Z} {u v:Int} (ha:Zx a u) (hb:Zx b v):Zx (Z.mul a b) (u * v):=ha.lift hb (.of _)
def Ix (x:I) (v:Int):Prop:=Zx x.dec v
theorem XK {z:Z} {v:Int} (h:Zx z v):Ix (E z) v:=by unfold Ix;rw [cZ];exact h
theorem Ix.of (v:Int):Ix (E (Z.of v)) v:=XK (.of v)
theorem Ix.gd {x:I} {v:Int} (h:Ix x v) (g:gdI x=true):x=E (Z.of v)∧d6 v:=by
  obtain ⟨w,hw,e⟩:=fz_ g;subst e;unfold Ix at h;rw [cZ] at h;rcases h with h | ⟨h,b⟩
  · rw [Z.of_some hw] at h;cases h
  exact ⟨by rw [h],b⟩
theorem bX_ {l:List I} (h:(mkP l).all gdI=true):l.all gdI=true:=by
  unfold mkP at h
  cases hl:l.all gdI
  · rw [hl,cond_false,e7] at h;cases h
  rfl
def Px (p:List I) (c:Nat→Int):Prop:=p.length≤1000∧(p.all gdI=true→Po p c)
section
variable {p q:List I} {c d:Nat→Int}
theorem Po.px (h:Po p c):Px p c:=⟨h.l3,fun _=>h⟩
theorem S2 {f:Nat→I} {n:Nat} (h:∀ k,k<n→Ix (f k) (c k)) (h0:∀ k,n≤k→c k=0) (hn:n≤25) (hg:(mkP ((List.range n).map f)).all gdI=true):Po (mkP ((List.range n).map f)) c:=by
  have hall:=bX_ hg;have hgd:∀ k,k<n→gdI (f k)=true:=fun k hk=>List.all_eq_true.1 hall _ (List.mem_map.2 ⟨k,List.mem_range.2 hk,rfl⟩);refine SZ (fun k hk=>((h k hk).gd (hgd k hk)).1) h0 (fun k=>?_) (fun k hk=>h0 k oo_)
  by_cases hk:k<n
  · exact ((h k hk).gd (hgd k hk)).2
  rw [h0 k oo_];exact B0
theorem UO (h:Po p c) (g:Po q d) (k:Nat) :
    ∀ (t i:Nat) (m:I),k+1 - i<t→i≤k+1→Ix m (kJ (fun i=>c i * d (k - i)) i)→Ix (jY k q p t i m).2 (conv c d k)
  | 0,i,m,ht,_,_=>absurd ht (Nat.not_lt_zero _)
  | t+1,i,m,ht,hi,hm=>by
    unfold jY;have e:∀ a b,a≤b→p.length≤a→kJ (fun i=>c i * d (k - i)) b=kJ (fun i=>c i * d (k - i)) a:=fun a b hab hpa =>
      sU (fun j hj=>by rw [h.zero oo_,Int.zero_mul]) b hab
    by_cases hk:((i:Nat):Int)≤min ((k:Nat):Int) (((p.length:Nat):Int) - 1)
    · rw [decide_eq_true hk,cond_true,h.get,g.get,cZ,cZ]
      exact UO h g k t (i+1) _ oo_ oo_ (XK (Zx.add hm (Zx.mul (.of _) (.of _))))
    rw [decide_eq_false hk,cond_false]
    show Ix m (kJ _ (k+1))
    rcases Nat.lt_or_ge i (k+1) with h1 | h1
    · rw [e i (k+1) oo_ oo_];exact hm
    rw [show k+1=i by omega];exact hm
theorem Px.mul (hp:Px p c) (hq:Px q d) (hl:p.length+q.length≤26):Px (jX p q) (conv c d):=by
  refine ⟨k25 (DS _ _),fun hg=>?_⟩
  have gp:p.all gdI=true:=by
    cases hc:p.all gdI
    · rw [TC hp.1 hq.1 (.inl hc),e7] at hg;cases hg
    rfl
  have gq:q.all gdI=true:=by
    cases hc:q.all gdI
    · rw [TC hp.1 hq.1 (.inr hc),e7] at hg;cases hg
    rfl
  have h:=hp.2 gp;have g:=hq.2 gq;unfold jX at hg ⊢;rw [h.nb,g.nb,Bool.or_false,cond_false] at hg ⊢
  by_cases h0:p=[]
  · subst h0
    rw [show ((((([]:List I).length:Nat):Int)==0)||(((q.length:Nat):Int)==0))=true by simp,cond_true];exact EI.cast fun k=>Eq.symm (nZ fun i _=>by rw [h.zero (Nat.zero_le _),Int.zero_mul])
  by_cases g0:q=[]
  · subst g0
    rw [show ((((p.length:Nat):Int)==0)||(((([]:List I).length:Nat):Int)==0))=true by simp,cond_true];refine EI.cast fun k=>Eq.symm (nZ fun i _=>?_);rw [g.zero (Nat.zero_le _),Int.mul_zero]
  have h1:0<p.length:=List.length_pos_iff.2 h0;have h2:0<q.length:=List.length_pos_iff.2 g0
  rw [show ((((p.length:Nat):Int)==0)||(((q.length:Nat):Int)==0))=false by
    rw [Bool.or_eq_false_iff];exact ⟨beq_eq_false_iff_ne.2 oo_,beq_eq_false_iff_ne.2 oo_⟩,cond_false,pY] at hg ⊢
  have hz:∀ k,p.length+q.length≤k+1→conv c d k=0:=fun k hk=>oR (fun i hi=>h.zero hi) (fun i hi=>g.zero hi) k hk;refine S2 (fun k _=>?_) (fun k hk=>hz k oo_) oo_ hg;unfold n6
  show Ix (jY _ _ _ _ _ _).2 _
  refine UO h g k _ _ _ oo_ oo_ ?_;rw [nZ fun i hi=>by rw [g.zero oo_,Int.mul_zero]];exact .of 0
theorem Px.add (hp:Px p c) (hq:Px q d):Px (oH p q) (fun k=>c k+d k):=by
  refine ⟨k25 (yX _ _),fun hg=>?_⟩
  have gp:p.all gdI=true:=by
    cases hc:p.all gdI
    · rw [S9 hp.1 hq.1 (.inl hc),e7] at hg;cases hg
    rfl
  have gq:q.all gdI=true:=by
    cases hc:q.all gdI
    · rw [S9 hp.1 hq.1 (.inr hc),e7] at hg;cases hg
    rfl
  have h:=hp.2 gp;have g:=hq.2 gq;unfold oH at hg ⊢;rw [qS _ h.l3 g.l3,h.g,g.g,Bool.and_true,cond_true] at hg ⊢;have hl:=h.l;have gl:=g.l;refine S2 (fun k _=>?_) (fun k hk=>by rw [h.zero oo_,g.zero oo_];rfl) oo_ hg;rw [h.get,g.get];exact XK (by rw [cZ,cZ];exact Zx.add (.of _) (.of _))
theorem fP_ {x:I} {D:Int} (hx:Ix x D):∀ k,Ix (pw x k) (D ^ k)
  | 0=>by rw [Int.pow_zero];exact .of 1
  | k+1=>by rw [pw,Int.pow_succ];exact XK (Zx.mul (fP_ hx k) hx)
end
section
variable {p:List I} {c:Nat→Int} {a b:Rt} {N D M F:Int}
end
open Go Go.Kn
def shf (d:Nat→Int) (i k:Nat):Int:=if i≤k then d (k - i) else 0
def mI (a o:Int) (d:Nat→Int) (n i:Nat) (r:Nat→Int) (k:Nat):Int:=a * r k - o * r (i+n) * shf d i k
def tY (a o:Int) (d:Nat→Int) (n:Nat):Nat→(Nat→Int)→Nat→Int
  | 0,r=>r
  | m+1,r=>tY a o d n m (mI a o d n m r)
def RemB (a o:Int) (d:Nat→Int) (n:Nat):Nat→(Nat→Int)→Prop
  | 0,r=>∀ k,d6 (r k)
  | m+1,r=>(∀ k,d6 (r k))∧d6 (o * r (m+n))∧(∀ k,d6 (a * r k))∧(∀ k,d6 (o * r (m+n) * d k))∧RemB a o d n m (mI a o d n m r)
theorem RemB.B {a o:Int} {d:Nat→Int} {n:Nat}:∀ {m:Nat} {r:Nat→Int},RemB a o d n m r→∀ k,d6 (r k)
  | 0,_,h=>h
  | _+1,_,h=>h.1
theorem gx_ {u:Int} {b b':Nat} (h:u.natAbs<2 ^ b) (hb:b≤b'):u.natAbs<2 ^ b':=Nat.lt_of_lt_of_le h (Nat.pow_le_pow_right dd_ hb)
section
variable {p q:List I} {c d:Nat→Int} {n:Nat}
theorem MU (g:Po q d) (i k:Nat):eV q ((k:Int) - (i:Int))=E (Z.of (shf d i k)):=by
  unfold shf
  by_cases h:i≤k
  · rw [if_pos h,show (k:Int) - (i:Int)=((k - i:Nat):Int) by omega,EK,g.get]
  rw [if_neg h];unfold eV;rw [decide_eq_true oo_,Bool.true_or,cond_true];rfl
theorem dc_ (g:Po q d) (i k:Nat):d6 (shf d i k):=by
  unfold shf;split
  · exact g.B _
  exact B0
theorem U1 (g:Po q d) (hn:q.length=n+1) {r:Nat→Int} {i:Nat} (l:List I) (h1:d6 (d n).natAbs) (h2:∀ k,d6 (r k)) (h3:d6 ((d n).sign * r (i+n))) (h4:∀ k,d6 (((d n).natAbs:Int) * r k)) (h5:∀ k,d6 ((d n).sign * r (i+n) * d k))
    (h6:∀ k,d6 (mI (d n).natAbs (d n).sign d n i r k)):∀ (f k:Nat) (t:List I),l.length - k<f→k≤l.length→t.length=l.length →
    (∀ j,t.getD j I0=E (Z.of (if j<k then mI (d n).natAbs (d n).sign d n i r j else r j))) →
    ∃ t',fC p q (i:Int) l (E (Z.of ((d n).sign * r (i+n)))) f k t = .inl (l.length,t')∧t'.length=l.length∧∀ j,t'.getD j I0=E (Z.of (if j<l.length then mI (d n).natAbs (d n).sign d n i r j else r j))
  | 0,k,t,hf,_,_,_=>absurd hf (Nat.not_lt_zero _)
  | f+1,k,t,hf,hk,ht,hv=>by
    unfold fC
    by_cases hl:k<l.length
    · rw [decide_eq_true oo_,cond_true]
      have e:=hv k;rw [if_neg (Nat.lt_irrefl k)] at e
      have h5':d6 ((d n).sign * r (i+n) * shf d i k):=by
        unfold shf;split
        · exact h5 _
        rw [Int.mul_zero];exact B0
      have e2:E (Z.sub (Z.mul (Z.abs (q.getD (q.length - 1) I0).dec) (t.getD k I0).dec) (Z.mul (E (Z.of ((d n).sign * r (i+n)))).dec (eV q ((k:Int) - (i:Int))).dec))=E (Z.of (mI (d n).natAbs (d n).sign d n i r k)):=by
        rw [hn,Nat.add_sub_cancel,g.get,e,MU g,cZ,cZ,cZ,cZ,TH (g.B _),o5 h1 (h2 k),o5 h3 (dc_ g i k),OE (h4 k) h5'];rfl
      simp only;rw [e2,kQ t k _ oo_,HA (h6 k),cond_false];refine U1 g hn l h1 h2 h3 h4 h5 h6 f (k+1) _ oo_ oo_ (by rw [List.length_set];exact ht) fun j=>?_
      by_cases hj:j=k
      · subst hj;rw [kQ t j _ oo_,if_pos oo_]
      rw [oF t k j _ hj,hv j]
      by_cases hjk:j<k
      · rw [if_pos hjk,if_pos oo_]
      rw [if_neg hjk,if_neg oo_]
    rw [decide_eq_false oo_,cond_false]
    have:k=l.length:=by omega
    subst this;exact ⟨t,rfl,ht,hv⟩
theorem wL (g:Po q d) (hn:q.length=n+1) {r:Nat→Int} {i L j:Nat} (hz:∀ k,L≤k→r k=0) (hi:i+n<L) (hj:L≤j):mI (d n).natAbs (d n).sign d n i r j=0:=by
  unfold mI
  have e:shf d i j=0:=by
    unfold shf;rw [if_pos oo_];exact g.zero oo_
  rw [hz j hj,e,Int.mul_zero,Int.mul_zero];rfl
theorem fk_ {v:Int} (h:d6 v):d6 (v.natAbs:Int):=by unfold d6 at *;rw [Int.natAbs_natCast];exact h
theorem U0 (g:Po q d) (hn:q.length=n+1):∀ (m f:Nat) (i:Int) (l:List I) (r:Nat→Int),i=(m:Int) - 1→m<f→(m≤l.length - n)→(∀ j,l.getD j I0=E (Z.of (r j)))→(∀ k,l.length≤k→r k=0) →
    RemB (d n).natAbs (d n).sign d n m r→∃ i' l',dL p q f i l = .inl (i',l')∧l'.length=l.length∧(∀ j,l'.getD j I0=E (Z.of (tY (d n).natAbs (d n).sign d n m r j)))∧(∀ k,l.length≤k→tY (d n).natAbs (d n).sign d n m r k=0)∧∀ k,d6 (tY (d n).natAbs (d n).sign d n m r k)
  | m,0,i,l,r,_,hf,_,_,_,_=>absurd hf (Nat.not_lt_zero _)
  | 0,f+1,i,l,r,hi,hf,hm,hl,hz,hB=>by
    unfold dL;rw [decide_eq_false oo_,cond_false];exact ⟨i,l,rfl,rfl,hl,hz,hB⟩
  | m+1,f+1,i,l,r,hi,hf,hm,hl,hz,hB=>by
    unfold dL;rw [decide_eq_true oo_,cond_true];obtain ⟨b1,b2,b3,b4,b5⟩:=hB
    have e:E (Z.mul (Z.of (Z.signW (q.getD (q.length - 1) I0).dec).1) (l.getD (i.toNat+(q.length - 1)) I0).dec)=E (Z.of ((d n).sign * r (m+n))):=by
      have hs:d6 (d n).sign:=by
        rcases Int.lt_trichotomy (d n) 0 with h | h | h
        · rw [Int.sign_eq_neg_one_of_neg h];decide
        · rw [h];decide
        rw [Int.sign_eq_one_of_pos h];decide
      rw [hn,Nat.add_sub_cancel,g.get,hl,cZ,cZ,mU (g.B n),show i.toNat=m by omega,o5 hs (b1 _)]
    obtain ⟨t,h1,h2,h3⟩:=U1 (p:=p) g hn (i:=m) l (fk_ (g.B n)) b1 b2 b3 b4 b5.B (l.length+1) 0 l oo_ (Nat.zero_le _) rfl (fun j=>by rw [if_neg (Nat.not_lt_zero _)];exact hl j);simp only;rw [e,show i=(m:Int) by omega,h1]
    have k1:∀ j,t.getD j I0=E (Z.of (mI (d n).natAbs (d n).sign d n m r j)):=fun j=>by
      rw [h3 j]
      split
      · rfl
      rw [hz j oo_,wL g hn hz oo_ oo_]
    obtain ⟨i',l',a1,a2,a3,a4,a5⟩:=U0 g hn m f ((m:Int) - 1) t _ rfl oo_ oo_ k1 (fun k hk=>wL g hn hz oo_ oo_) b5;exact ⟨i',l',a1,a2.trans h2,a3,fun k hk=>a4 k oo_,a5⟩
theorem XQ (h:Po p c) (g:Po q d) (hn:q.length=n+1) (hB:RemB (d n).natAbs (d n).sign d n (p.length - n) c):Po (bQ p q) (tY (d n).natAbs (d n).sign d n (p.length - n) c):=by
  unfold bQ;rw [h.nb,g.nb,show ((((q.length:Nat):Int)==0))=false from beq_eq_false_iff_ne.2 oo_,Bool.false_or,Bool.false_or,cond_false,List.nil_append,hn];have hl:=h.l
  have go:∀ i:Int,i=((p.length:Nat):Int) - 1 - (((n+1:Nat):Int) - 1)→∃ i' l',dL p q (p.length+1) i p = .inl (i',l')∧l'.length=p.length∧(∀ j,l'.getD j I0=E (Z.of (tY (d n).natAbs (d n).sign d n (p.length - n) c j)))∧(∀ k,p.length≤k→tY (d n).natAbs (d n).sign d n (p.length - n) c k=0)∧∀ k,d6 (tY (d n).natAbs (d n).sign d n (p.length - n) c k):=fun i hi=>by
    by_cases hs:n≤p.length
    · exact U0 g hn (p.length - n) (p.length+1) i p c oo_ oo_ (Nat.le_refl _) h.get (fun k hk=>h.zero hk) hB
    have e0:p.length - n=0:=by omega
    rw [e0] at hB ⊢;unfold dL;rw [decide_eq_false oo_,cond_false];exact ⟨i,p,rfl,rfl,h.get,fun k hk=>h.zero hk,h.B⟩
  obtain ⟨i',l',a1,a2,a3,a4,a5⟩:=go _ rfl;rw [a1]
  show Po (bT l') _
  rw [yW];exact H8 a3 a5 fun k hk=>a4 k oo_
end
open Go Go.Kn
theorem yO (d:Nat→Int) (m k:Nat):conv d (fun i=>if i=m then 1 else 0) k=shf d m k:=by
  rw [uI];unfold conv shf
  by_cases h:m≤k
  · rw [if_pos h,I7 (a:=m) (fun i hi=>?_) oo_]
    · show (if m=m then 1 else 0) * d (k - m)=_
      rw [if_pos rfl,Int.one_mul]
    show (if i=m then 1 else 0) * d (k - i)=_
    rw [if_neg hi,Int.zero_mul]
  rw [if_neg h];refine nZ fun i hi=>?_
  show (if i=m then 1 else 0) * d (k - i)=_
  rw [if_neg oo_,Int.zero_mul]
theorem RX (d S:Nat→Int) (m k:Nat) (hS:∀ i,m<i→S i=0):conv d S k=conv d (fun i=>if i<m then S i else 0) k+S m * shf d m k:=by
  have e:conv d (fun i=>S m * (if i=m then 1 else 0)) k=S m * shf d m k:=by rw [← yO,tH]
  rw [← e]
  rw [show conv d S=fun k=>conv d (fun i=>if i<m then S i else 0) k+conv d (fun i=>S m * (if i=m then 1 else 0)) k by
    rw [← C8]
    congr 1
    funext i
    rcases Nat.lt_trichotomy i m with h | h | h
    · rw [if_pos h,if_neg oo_,Int.mul_zero,Int.add_zero]
    · rw [if_neg oo_,if_pos h,h,Int.mul_one,Int.zero_add]
    rw [if_neg oo_,if_neg oo_,hS i h,Int.mul_zero];rfl]
theorem IW (v:Int):v.sign * v=(v.natAbs:Int):=by
  rcases Int.lt_trichotomy v 0 with h | h | h
  · rw [Int.sign_eq_neg_one_of_neg h];omega
  · subst h;rfl
  rw [Int.sign_eq_one_of_pos h];omega
theorem QY (v:Int):v.sign.natAbs≤1:=by
  rcases Int.lt_trichotomy v 0 with h | h | h
  · rw [Int.sign_eq_neg_one_of_neg h];decide
  · subst h;decide
  rw [Int.sign_eq_one_of_pos h];decide
end Go.Num
