/- Lemmas: what they ask stands in their statements. -/
import Derived.Test.YtcjoflcajgaifaaGreatDoorOAa
set_option linter.unusedSimpArgs false
set_option linter.unusedVariables false
namespace Go.Num
open Go Go.Kn
def hv (c:Nat→Int) (N D:Int) (L:Nat):Nat→Int
 | 0=>0
 | t+1=>hv c N D L t*N+c (L - 1 - t)*D ^ t
section
variable {c:Nat→Int} {N D:Int} {L:Nat}
theorem YR {x:Rat} (hx:(D:Rat)*x=N):∀ t:Nat,t≤L→((hv c N D L t:Int):Rat)*D=(D:Rat) ^ t*vl (fun j=>cR c (L - t+j)) x t
 | 0,_=>by show ((0:Int):Rat)*D=_*(0:Rat);rw [Rat.mul_zero];exact Rat.zero_mul _
 | t+1,ht=>by
  rw [aH_,hv,Rat.intCast_add,Rat.intCast_mul,Rat.intCast_mul,Rat.intCast_pow,Rat.pow_succ];have ih:=YR hx t oo_;rw [show (fun i=>(fun j=>cR c (L - (t+1)+j)) (i+1))=fun j=>cR c (L - t+j) from funext fun j=>by show cR c _=cR c _;congr 1;omega];rw [show L - (t+1)+0=L - 1 - t by omega]
  show _=_*(((c (L - 1 - t):Int):Rat)+_)
  generalize vl (fun j=>cR c (L - t+j)) x t=S at *;generalize ((hv c N D L t:Int):Rat)=H at *;rw [← hx]
  grind
theorem QZ {x:Rat} (hx:(D:Rat)*x=N) (hD:0<D):((hv c N D L L:Int):Rat)=(D:Rat) ^ (L - 1)*vl (cR c) x L:=by
 have hd:(D:Rat)≠0:=fun h=>by have:=Rat.intCast_eq_zero_iff.1 h;omega
 cases L with
 | zero=>show ((0:Int):Rat)=_*(0:Rat);rw [Rat.mul_zero];rfl
 | succ n =>
  have h:=YR (c:=c) (L:=n+1) hx (n+1) (Nat.le_refl _);rw [show (fun j=>cR c (n+1 - (n+1)+j))=cR c from funext fun j=>by congr 1;omega,Rat.pow_succ] at h;rw [Nat.add_sub_cancel]
  have:(((hv c N D (n+1) (n+1):Int):Rat) - (D:Rat) ^ n*vl (cR c) x (n+1))*D=0:=by grind
  rcases Rat.mul_eq_zero.1 this with h|h
  ·grind
  exact absurd h hd
theorem YP {b s:Nat} (hc:∀ k,(c k).natAbs<2 ^ b) (hN:N.natAbs<2 ^ s) (hD:D.natAbs<2 ^ s):∀ t:Nat,(hv c N D L t).natAbs≤t*2 ^ (b+s*t)
 | 0=>by simp [hv]
 | t+1=>by
  have ih:=YP hc hN hD t
  have h1:(hv c N D L t*N).natAbs≤t*2 ^ (b+s*t)*2 ^ s:=by
   rw [Int.natAbs_mul];exact Nat.mul_le_mul ih (Nat.le_of_lt hN)
  have h2:(c (L - 1 - t)*D ^ t).natAbs≤2 ^ b*2 ^ (s*t):=by
   rw [Int.natAbs_mul,Int.natAbs_pow,Nat.pow_mul];exact Nat.mul_le_mul (Nat.le_of_lt (hc _)) (Nat.pow_le_pow_left (Nat.le_of_lt hD) t)
  have h3:=Int.natAbs_add_le (hv c N D L t*N) (c (L - 1 - t)*D ^ t)
  have h4:(2:Nat) ^ b*2 ^ (s*t)≤2 ^ (b+s*(t+1)):=by
   rw [← Nat.pow_add];exact Nat.pow_le_pow_right dd_ (by rw [Nat.mul_succ];omega)
  have h5:t*2 ^ (b+s*t)*2 ^ s=t*2 ^ (b+s*(t+1)):=by
   rw [Nat.mul_assoc,← Nat.pow_add,Nat.mul_succ,Nat.add_assoc]
  rw [Nat.succ_mul];show (hv c N D L t*N+c (L - 1 - t)*D ^ t).natAbs≤_;omega
structure Room (c:Nat→Int) (N D:Int) (L:Nat):Prop where
 h:∀ t,t≤L→B512 (hv c N D L t)
 m:∀ t,t<L→B512 (hv c N D L t*N)
 p:∀ t,t<L→B512 (D ^ t)
 q:∀ t,t<L→B512 (c (L - 1 - t)*D ^ t)
theorem b7_ {b s n e:Nat} (hc:∀ k,(c k).natAbs<2 ^ b) (hN:N.natAbs<2 ^ s) (hD:D.natAbs<2 ^ s) (hL:L≤n) (hn:n≤2 ^ e) (h:b+s*n+e+1≤512):Room c N D L:=by
 have hp:(2:Nat) ^ (b+s*n+e+1)=2*(2 ^ e*2 ^ (b+s*n)):=by rw [Nat.pow_succ,Nat.add_comm _ e,Nat.pow_add];omega
 have h0:0<2 ^ e*2 ^ (b+s*n):=Nat.mul_pos (Nat.pow_pos dd_) (Nat.pow_pos dd_);have k1:∀ t,t≤n→t*2 ^ (b+s*t)≤2 ^ e*2 ^ (b+s*n):=fun t ht =>
  Nat.mul_le_mul oo_ (Nat.pow_le_pow_right dd_ (by have:=Nat.mul_le_mul_left s ht;omega))
 have k2:∀ t,t<n→(2:Nat) ^ (s*t)≤2 ^ (b+s*n):=fun t ht=>Nat.pow_le_pow_right dd_ (by have:=Nat.mul_le_mul_left s (Nat.le_of_lt ht);omega);have he:1≤2 ^ e:=Nat.pow_pos dd_
 have kD:∀ t,(D ^ t).natAbs≤2 ^ (s*t):=fun t=>by rw [Int.natAbs_pow,Nat.pow_mul];exact Nat.pow_le_pow_left (Nat.le_of_lt hD) t
 have k0:2 ^ (b+s*n)≤2 ^ e*2 ^ (b+s*n):=Nat.le_mul_of_pos_left _ he;refine ⟨fun t ht=>vD (k:=b+s*n+e+1) ?_ h,fun t ht=>vD (k:=b+s*n+e+1) ?_ h,fun t ht=>vD (k:=b+s*n+e+1) ?_ h,fun t ht=>vD (k:=b+s*n+e+1) ?_ h⟩
 ·have:=YP (L:=L) hc hN hD t
  have:=k1 t oo_;omega
 ·have h1:=YP (L:=L) hc hN hD t
  have h2:=k1 (t+1) oo_
  have h3:(hv c N D L t*N).natAbs≤t*2 ^ (b+s*t)*2 ^ s:=by
   rw [Int.natAbs_mul];exact Nat.mul_le_mul h1 (Nat.le_of_lt hN)
  have h5:t*2 ^ (b+s*t)*2 ^ s=t*2 ^ (b+s*(t+1)):=by
   rw [Nat.mul_assoc,← Nat.pow_add,Nat.mul_succ,Nat.add_assoc]
  rw [Nat.succ_mul] at h2;have h6:0<2 ^ (b+s*(t+1)):=Nat.pow_pos dd_;omega
 ·have:=kD t
  have:=k2 t oo_;omega
 have h2:(c (L - 1 - t)*D ^ t).natAbs≤2 ^ b*2 ^ (s*t):=by
  rw [Int.natAbs_mul];exact Nat.mul_le_mul (Nat.le_of_lt (hc _)) (kD t)
 have h3:(2:Nat) ^ b*2 ^ (s*t)≤2 ^ (b+s*n):=by
  rw [← Nat.pow_add];exact Nat.pow_le_pow_right dd_ (by have:=Nat.mul_le_mul_left s (Nat.le_of_lt (show t<n by omega));omega)
 omega
theorem RO {D:Int}:∀ {k:Nat},(∀ j,j≤k→B512 (D ^ j))→pw (E (Z.of D)) k=E (Z.of (D ^ k))
 | 0,_=>by rw [Int.pow_zero];rfl
 | k+1,h=>by
  rw [pw,RO fun j hj=>h j oo_,bW,bW,mK (h k oo_) (by have:=h 1 oo_;rwa [Int.pow_one] at this:B512 D),Int.pow_succ]
variable {p:List I} {x:Rt}
theorem aG_ (h:Po p c) (hx:x.Is N D) (r:Room c N D p.length):∀ (f t:Nat) (i:Int),t≤p.length→i=(p.length:Int) - 1 - t→p.length - t<f →
  (fS p x f i (E (Z.of (hv c N D p.length t)))).2=E (Z.of (hv c N D p.length p.length))
 | 0,t,i,_,_,hf=>absurd hf (Nat.not_lt_zero _)
 | f+1,t,i,ht,hi,hf=>by
  unfold fS
  by_cases h0:0≤i
  ·rw [decide_eq_true h0,cond_true]
   have hl:t<p.length:=by omega
   have e1:i.toNat=p.length - 1 - t:=by omega
   have e2:p.length - 1 - i.toNat=t:=by omega
   simp only
   rw [e2,z4 _ _ (show t<max (p.length:Int).toNat 1 by omega),hx.ed,RO fun j hj=>r.p j oo_,e1,h.get,hx.en,bW,bW,bW,bW,bW,
    mK (h.B _) (r.p t hl),mK (r.h t ht) hx.hn,E3 (r.m t hl) (r.q t hl)]
   exact aG_ h hx r f (t+1) _ oo_ oo_ oo_
  rw [decide_eq_false h0,cond_false,show t=p.length by omega]
theorem JT (h:Po p c) (hx:x.Is N D) (r:Room c N D p.length):dY p x=(E (Z.of (hv c N D p.length p.length)),E (Z.of (D ^ (p.length - 1)))):=by
 unfold dY;rw [h.nb,YB,i7,yL hx]
 show ((fS p x (p.length+1) ((p.length:Int) - 1) I0).2,_)=_
 congr 1
 ·have e:=aG_ h hx r (p.length+1) 0 ((p.length:Int) - 1) (Nat.zero_le _) oo_ oo_
  rw [show hv c N D p.length 0=0 from rfl,← aU_] at e;exact e
 rw [show ((p.length:Int) - 1).toNat=p.length - 1 by omega,z4 _ _ oo_,hx.ed]
 cases hl:p.length with
 | zero=>show pw _ 0=E (Z.of (D ^ 0));rw [Int.pow_zero];rfl
 | succ n=>exact RO fun j hj=>r.p j oo_
theorem CJ {q:Rat} {n d:Int} (h:(n:Rat)=(d:Rat)*q):q.num*d=n*q.den:=by
 have h1:=tQ q
 have h2:((n*q.den:Int):Rat)=((q.num*d:Int):Rat):=by
  rw [Rat.intCast_mul,Rat.intCast_mul,h,← h1];grind
 exact (Rat.intCast_inj.1 h2).symm
theorem vK {q:Rat}:((q.den:Int):Rat)*q=((q.num:Int):Rat):=by
 rw [Rat.mul_comm];exact tQ q
theorem aR_ {q:Rat} {n b s e:Nat} (h:Po p c) (hb:Bd c n b) (hx:x.At q) (hs:Sz q s) (hn:n≤2 ^ e) (hk:b+s*n+e+1≤512):(iY p x).At (vl (cR c) q n):=by
 have ix:=At.is hx;have hl:=h.len hb;have r:=b7_ (L:=p.length) hb.b hs.n (show (q.den:Int).natAbs<2 ^ s by rw [Int.natAbs_natCast];exact hs.d) hl hn hk;unfold iY;rw [JT h ix r,yM];have hp:=@jW q;have hv:=QZ (c:=c) (L:=p.length) (N:=q.num) (D:=(q.den:Int)) vK hp;rw [EV (n:=p.length) (fun i hi=>by unfold cR;rw [h.zero hi];rfl) hl];refine qP (r.h _ (Nat.le_refl _)) ?_ (Int.pow_pos hp) (CJ ?_)
 ·cases hp:p.length with
  | zero=>exact B1
  | succ m=>exact r.p _ oo_
 rw [hv,Rat.intCast_pow]
theorem WG {q:Rat} {n b s e:Nat} (h:Po p c) (hb:Bd c n b) (hx:x.At q) (hs:Sz q s) (hn:n≤2 ^ e) (hk:b+s*n+e+1≤512):(bP p x).2=true∧(bP p x).1.1=(vl (cR c) q n).num.sign:=by
 have ix:=At.is hx;have hl:=h.len hb;have r:=b7_ (L:=p.length) hb.b hs.n (show (q.den:Int).natAbs<2 ^ s by rw [Int.natAbs_natCast];exact hs.d) hl hn hk;unfold bP;rw [JT h ix r];have hp:=@jW q;have hv:=QZ (c:=c) (L:=p.length) (N:=q.num) (D:=(q.den:Int)) vK hp;rw [EV (n:=p.length) (fun i hi=>by unfold cR;rw [h.zero hi];rfl) hl];refine ⟨by show (!(E (Z.of _)).1.bad)=true;rw [E7 (r.h _ (Nat.le_refl _))];rfl,?_⟩
 show (Z.signW (E (Z.of _)).dec).1=_
 rw [bW,i6 (r.h _ (Nat.le_refl _))];have e:=CJ (n:=Go.Num.hv c q.num (q.den:Int) p.length p.length) (d:=(q.den:Int) ^ (p.length - 1)) (by rw [hv,Rat.intCast_pow]);have e2:=congrArg Int.sign e;rw [Int.sign_mul,Int.sign_mul,Int.sign_eq_one_of_pos (Int.pow_pos hp),Int.sign_eq_one_of_pos (@jW _),Int.mul_one,Int.mul_one] at e2;exact e2.symm
end
open Go Go.Kn
theorem zV {u:Int}:∀ (l:List I) (g:Nat),u ∣ (g:Int)→(∀ x∈l,u ∣ vI x)→u ∣ ((l.foldl fg g:Nat):Int)
 | [],g,h,_=>h
 | y::l,g,h,hx=>zV l (fg g y) (Int.dvd_coe_gcd h (hx y List.mem_cons_self)) fun x hm=>hx x (List.mem_cons_of_mem _ hm)
def Prm (c:Nat→Int):Prop:=∀ u:Int,(∀ k,u ∣ c k)→u ∣ 1
theorem SO {u:Int} {g:Nat} (h:0<g) (hd:(g:Int) ∣ u):(u.fdiv g).natAbs≤u.natAbs:=by
 obtain ⟨x,rfl⟩:=hd;rw [Int.mul_fdiv_cancel_left _ oo_,Int.natAbs_mul,Int.natAbs_natCast];exact Nat.le_mul_of_pos_left _ h
section
variable {p q:List I} {c d:Nat→Int}
theorem Po.mem (h:Po p c) {x:I} (hx:x∈p):∃ k,vI x=c k:=by
 obtain ⟨k,hk,rfl⟩:=List.getElem_of_mem hx;refine ⟨k,?_⟩;rw [← h.c k]
 simp [List.getD,hk]
theorem Po.dvd (h:Po p c) (k:Nat):((cN p:Nat):Int) ∣ c k:=by
 by_cases hk:k<p.length
 ·rw [← h.c k,show p.getD k I0=p[k] by simp [List.getD,hk]]
  exact KM (List.getElem_mem hk)
 rw [h.zero oo_];exact Int.dvd_zero _
theorem Po.cpos (h:Po p c) (h0:p≠[]):0<cN p:=by
 obtain ⟨n,hn⟩:∃ n,p.length=n+1:=⟨p.length - 1,by have:=List.length_pos_iff.2 h0;omega⟩;rcases Nat.eq_zero_or_pos (cN p) with e|e
 ·have h1:=h.dvd n
  rw [e] at h1;exact absurd (Int.zero_dvd.1 h1) (h.last hn)
 exact e
theorem tS (h:Po p c):Po (aC p) (fun k=>(c k).fdiv (cN p)):=by
 have e:=O0 h.g h.s h.l
 have hB:∀ x∈p,B512 ((vI x).fdiv (cN p)):=fun x hx=>by
  obtain ⟨k,hk⟩:=h.mem hx;rw [hk];exact Nat.lt_of_le_of_lt (SO (h.cpos (List.ne_nil_of_mem hx)) (h.dvd k)) (h.B k)
 have hg:(aC p).all gdI=true:=by
  rw [e];refine List.all_eq_true.2 fun y hy=>?_;obtain ⟨x,hx,rfl⟩:=List.mem_map.1 hy;exact QT (hB x hx)
 refine (RS (xP p h.l3) hg).cast fun k=>?_;rw [e]
 by_cases hk:k<p.length
 ·have e2:(p.map fun x=>E (Z.of ((vI x).fdiv (cN p)))).getD k I0=E (Z.of ((vI p[k]).fdiv (cN p))):=by simp [List.getD,hk]
  rw [e2,cl_ (hB _ (List.getElem_mem hk)),← h.c k,show p.getD k I0=p[k] by simp [List.getD,hk]]
 rw [lF (by rw [List.length_map];omega),vI0,h.zero oo_,Int.zero_fdiv]
theorem xO (h:Po p c) (k:Nat):((cN p:Nat):Int)*(c k).fdiv (cN p)=c k:=by
 by_cases h0:p=[]
 ·subst h0;rw [h.zero (Nat.zero_le k),Int.zero_fdiv,Int.mul_zero]
 have hp:=h.cpos h0;obtain ⟨x,hx⟩:=h.dvd k;rw [hx,Int.mul_fdiv_cancel_left _ oo_]
theorem GK (h:Po p c) (h0:p≠[]):Prm (fun k=>(c k).fdiv (cN p)):=fun u hu=>by
 have hp:=h.cpos h0
 have h1:((cN p:Nat):Int)*u ∣ ((cN p:Nat):Int):=zV p 0 (Int.dvd_zero _) fun x hx=>by
  obtain ⟨k,hk⟩:=h.mem hx;rw [hk,← xO h k];exact Int.mul_dvd_mul_left _ (hu k)
 obtain ⟨y,hy⟩:=h1;refine ⟨y,?_⟩
 have:((cN p:Nat):Int)*1=((cN p:Nat):Int)*(u*y):=by rw [Int.mul_one,← Int.mul_assoc];exact hy
 exact Int.eq_of_mul_eq_mul_left oo_ this
def lin (u v:Int) (k:Nat):Int:=if k=0 then u else if k=1 then v else 0
theorem d1_ {u v:Int} (hu:B512 u) (hv:B512 v):Po (bD [E (Z.of u),E (Z.of v)]) (lin u v):=by
 rw [vO];refine zZ (fun k=>?_) (fun k=>?_) fun k hk=>?_
 ·match k with
  | 0=>rfl
  | 1=>rfl
  | k+2=>rw [lF (by simp)];unfold lin;rw [if_neg oo_,if_neg oo_];rfl
 ·unfold lin;split
  ·exact hu
  split
  ·exact hv
  exact B0
 unfold lin;rw [if_neg oo_,if_neg oo_]
theorem eb_ {u:Int} (hu:B512 u):Po (bD [E (Z.of u)]) (lin u 0):=by
 rw [vO];refine zZ (fun k=>?_) (fun k=>?_) fun k hk=>?_
 ·match k with
  | 0=>rfl
  | k+1=>rw [lF (by simp)];unfold lin;rw [if_neg oo_,ite_self];rfl
 ·unfold lin;split
  ·exact hu
  rw [ite_self];exact B0
 unfold lin;rw [if_neg oo_,ite_self]
variable {u v W:Int} {L:Nat}
end
open Go Go.Kn
theorem k25 {l:List I} (h:l.length≤25):l.length≤1000:=Nat.le_trans h dd_
theorem d4_ (l:List I):(mkP l).length≤max l.length 1:=by
 unfold mkP
 cases l.all gdI
 ·exact Nat.le_max_right _ _
 simp only [cond_true]
 split
 ·exact Nat.le_trans (u9 l) (Nat.le_max_left _ _)
 exact Nat.le_max_right _ _
theorem a9_ {c:Bool} {x y:List I} {n:Nat} (h:x.length≤n) (k:y.length≤n):(bif c then x else y).length≤n:=by cases c<;>assumption
theorem br_ {p q:List I} (f:I→I→I) {n:Nat} (hp:p.length≤n) (hq:q.length≤n) (h1:1≤n) (h2:n≤1000):(eM p q f).length≤n:=by
 rw [qS f oo_ oo_];refine a9_ (Nat.le_trans (d4_ _) ?_) h1;rw [List.length_map,List.length_range];omega
theorem gY_ {p q:List I} {n:Nat} (hp:p.length≤n) (hq:q.length≤n) (h1:1≤n) (h2:n≤1000):(P9 p q).length≤n:=br_ _ hp hq h1 h2
def Zx (z:Z) (v:Int):Prop:=z.o=none∨(z=Z.of v∧B512 v)
theorem Zx.of (v:Int):Zx (Z.of v) v:=by
 by_cases h:B512 v
 ·exact .inr ⟨rfl,h⟩
 refine .inl ?_;rw [Z.of_o,if_neg h]
theorem Zx.lift {f:Int→Int→Z} {a b:Z} {u v r:Int} (ha:Zx a u) (hb:Zx b v) (hf:Zx (f u v) r):Zx (xE f a b) r:=by
 rcases ha with h|⟨h,h1⟩
 ·left;rw [jH (.inl h)];rfl
 rcases hb with k|⟨k,h2⟩
 ·left;rw [jH (.inr k)];rfl
 subst h;subst k;rw [eG (Z.of_some h1) (Z.of_some h2)];exact hf
theorem Zx.add {a b:Z} {u v:Int} (ha:Zx a u) (hb:Zx b v):Zx (Z.add a b) (u+v):=ha.lift hb (.of _)
theorem Zx.mul {a b:Z} {u v:Int} (ha:Zx a u) (hb:Zx b v):Zx (Z.mul a b) (u*v):=ha.lift hb (.of _)
def Ix (x:I) (v:Int):Prop:=Zx x.dec v
theorem WB {z:Z} {v:Int} (h:Zx z v):Ix (E z) v:=by unfold Ix;rw [bW];exact h
theorem Ix.of (v:Int):Ix (E (Z.of v)) v:=WB (.of v)
theorem Ix.gd {x:I} {v:Int} (h:Ix x v) (g:gdI x=true):x=E (Z.of v)∧B512 v:=by
 obtain ⟨w,hw,e⟩:=fm_ g;subst e;unfold Ix at h;rw [bW] at h;rcases h with h|⟨h,b⟩
 ·rw [Z.of_some hw] at h;cases h
 exact ⟨by rw [h],b⟩
theorem bN_ {l:List I} (h:(mkP l).all gdI=true):l.all gdI=true:=by
 unfold mkP at h
 cases hl:l.all gdI
 ·rw [hl,cond_false,dZ] at h;cases h
 rfl
def Px (p:List I) (c:Nat→Int):Prop:=p.length≤1000∧(p.all gdI=true→Po p c)
section
variable {p q:List I} {c d:Nat→Int}
theorem Po.px (h:Po p c):Px p c:=⟨h.l3,fun _=>h⟩
theorem RZ {f:Nat→I} {n:Nat} (h:∀ k,k<n→Ix (f k) (c k)) (h0:∀ k,n≤k→c k=0) (hn:n≤25) (hg:(mkP ((List.range n).map f)).all gdI=true):Po (mkP ((List.range n).map f)) c:=by
 have hall:=bN_ hg;have hgd:∀ k,k<n→gdI (f k)=true:=fun k hk=>List.all_eq_true.1 hall _ (List.mem_map.2 ⟨k,List.mem_range.2 hk,rfl⟩);refine MV (fun k hk=>((h k hk).gd (hgd k hk)).1) h0 (fun k=>?_) (fun k hk=>h0 k oo_)
 by_cases hk:k<n
 ·exact ((h k hk).gd (hgd k hk)).2
 rw [h0 k oo_];exact B0
theorem TF (h:Po p c) (g:Po q d) (k:Nat) :
  ∀ (t i:Nat) (m:I),k+1 - i<t→i≤k+1→Ix m (gN (fun i=>c i*d (k - i)) i)→Ix (fE k q p t i m).2 (conv c d k)
 | 0,i,m,ht,_,_=>absurd ht (Nat.not_lt_zero _)
 | t+1,i,m,ht,hi,hm=>by
  unfold fE;have e:∀ a b,a≤b→p.length≤a→gN (fun i=>c i*d (k - i)) b=gN (fun i=>c i*d (k - i)) a:=fun a b hab hpa =>
   nS (fun j hj=>by rw [h.zero oo_,Int.zero_mul]) b hab
  by_cases hk:(i:Int)≤min (k:Int) ((p.length:Int) - 1)
  ·rw [decide_eq_true hk,cond_true,h.get,g.get,bW,bW]
   exact TF h g k t (i+1) _ oo_ oo_ (WB (Zx.add hm (Zx.mul (.of _) (.of _))))
  rw [decide_eq_false hk,cond_false]
  show Ix m (gN _ (k+1))
  rcases Nat.lt_or_ge i (k+1) with h1|h1
  ·rw [e i (k+1) oo_ oo_];exact hm
  rw [show k+1=i by omega];exact hm
theorem Px.mul (hp:Px p c) (hq:Px q d) (hl:p.length+q.length≤26):Px (fR p q) (conv c d):=by
 refine ⟨k25 (BG _ _),fun hg=>?_⟩
 have gp:p.all gdI=true:=by
  cases hc:p.all gdI
  ·rw [R8 hp.1 hq.1 (.inl hc),dZ] at hg;cases hg
  rfl
 have gq:q.all gdI=true:=by
  cases hc:q.all gdI
  ·rw [R8 hp.1 hq.1 (.inr hc),dZ] at hg;cases hg
  rfl
 have h:=hp.2 gp;have g:=hq.2 gq;unfold fR at hg ⊢;rw [h.nb,g.nb,Bool.or_false,cond_false] at hg ⊢
 by_cases h0:p=[]
 ·subst h0
  rw [show (((([]:List I).length:Int)==0)||((q.length:Int)==0))=true by simp,cond_true];exact BY.cast fun k=>Eq.symm (jY fun i _=>by rw [h.zero (Nat.zero_le _),Int.zero_mul])
 by_cases g0:q=[]
 ·subst g0
  rw [show (((p.length:Int)==0)||((([]:List I).length:Int)==0))=true by simp,cond_true];refine BY.cast fun k=>Eq.symm (jY fun i _=>?_);rw [g.zero (Nat.zero_le _),Int.mul_zero]
 have h1:0<p.length:=List.length_pos_iff.2 h0;have h2:0<q.length:=List.length_pos_iff.2 g0
 rw [show (((p.length:Int)==0)||((q.length:Int)==0))=false by
  rw [Bool.or_eq_false_iff];exact ⟨beq_eq_false_iff_ne.2 oo_,beq_eq_false_iff_ne.2 oo_⟩,cond_false,n7] at hg ⊢
 have hz:∀ k,p.length+q.length≤k+1→conv c d k=0:=fun k hk=>lB (fun i hi=>h.zero hi) (fun i hi=>g.zero hi) k hk;refine RZ (fun k _=>?_) (fun k hk=>hz k oo_) oo_ hg;unfold kM
 show Ix (fE _ _ _ _ _ _).2 _
 refine TF h g k _ _ _ oo_ oo_ ?_;rw [jY fun i hi=>by rw [g.zero oo_,Int.mul_zero]];exact .of 0
theorem Px.add (hp:Px p c) (hq:Px q d):Px (sF p q) (fun k=>c k+d k):=by
 refine ⟨k25 (LR _ _),fun hg=>?_⟩
 have gp:p.all gdI=true:=by
  cases hc:p.all gdI
  ·rw [R5 hp.1 hq.1 (.inl hc),dZ] at hg;cases hg
  rfl
 have gq:q.all gdI=true:=by
  cases hc:q.all gdI
  ·rw [R5 hp.1 hq.1 (.inr hc),dZ] at hg;cases hg
  rfl
 have h:=hp.2 gp;have g:=hq.2 gq;unfold sF at hg ⊢;rw [qS _ h.l3 g.l3,h.g,g.g,Bool.and_true,cond_true] at hg ⊢;have hl:=h.l;have gl:=g.l;refine RZ (fun k _=>?_) (fun k hk=>by rw [h.zero oo_,g.zero oo_];rfl) oo_ hg;rw [h.get,g.get];exact WB (by rw [bW,bW];exact Zx.add (.of _) (.of _))
theorem fC_ {x:I} {D:Int} (hx:Ix x D):∀ k,Ix (pw x k) (D ^ k)
 | 0=>by rw [Int.pow_zero];exact .of 1
 | k+1=>by rw [pw,Int.pow_succ];exact WB (Zx.mul (fC_ hx k) hx)
end
section
variable {p:List I} {c:Nat→Int} {a b:Rt} {N D M F:Int}
end
open Go Go.Kn
def shf (d:Nat→Int) (i k:Nat):Int:=if i≤k then d (k - i) else 0
def jZ (a o:Int) (d:Nat→Int) (n i:Nat) (r:Nat→Int) (k:Nat):Int:=a*r k - o*r (i+n)*shf d i k
def pT (a o:Int) (d:Nat→Int) (n:Nat):Nat→(Nat→Int)→Nat→Int
 | 0,r=>r
 | m+1,r=>pT a o d n m (jZ a o d n m r)
def RemB (a o:Int) (d:Nat→Int) (n:Nat):Nat→(Nat→Int)→Prop
 | 0,r=>∀ k,B512 (r k)
 | m+1,r=>(∀ k,B512 (r k))∧B512 (o*r (m+n))∧(∀ k,B512 (a*r k))∧(∀ k,B512 (o*r (m+n)*d k))∧RemB a o d n m (jZ a o d n m r)
theorem RemB.B {a o:Int} {d:Nat→Int} {n:Nat}:∀ {m:Nat} {r:Nat→Int},RemB a o d n m r→∀ k,B512 (r k)
 | 0,_,h=>h
 | _+1,_,h=>h.1
theorem gm_ {u:Int} {b b':Nat} (h:u.natAbs<2 ^ b) (hb:b≤b'):u.natAbs<2 ^ b':=Nat.lt_of_lt_of_le h (Nat.pow_le_pow_right dd_ hb)
section
variable {p q:List I} {c d:Nat→Int} {n:Nat}
theorem KL (g:Po q d) (i k:Nat):eK q ((k:Int) - (i:Int))=E (Z.of (shf d i k)):=by
 unfold shf
 by_cases h:i≤k
 ·rw [if_pos h,show (k:Int) - (i:Int)=((k - i:Nat):Int) by omega,E5,g.get]
 rw [if_neg h];unfold eK;rw [decide_eq_true oo_,Bool.true_or,cond_true];rfl
theorem c3_ (g:Po q d) (i k:Nat):B512 (shf d i k):=by
 unfold shf;split
 ·exact g.B _
 exact B0
theorem TT (g:Po q d) (hn:q.length=n+1) {r:Nat→Int} {i:Nat} (l:List I) (h1:B512 (d n).natAbs) (h2:∀ k,B512 (r k)) (h3:B512 ((d n).sign*r (i+n))) (h4:∀ k,B512 (((d n).natAbs:Int)*r k)) (h5:∀ k,B512 ((d n).sign*r (i+n)*d k))
  (h6:∀ k,B512 (jZ (d n).natAbs (d n).sign d n i r k)):∀ (f k:Nat) (t:List I),l.length - k<f→k≤l.length→t.length=l.length →
  (∀ j,t.getD j I0=E (Z.of (if j<k then jZ (d n).natAbs (d n).sign d n i r j else r j))) →
  ∃ t',eT p q (i:Int) l (E (Z.of ((d n).sign*r (i+n)))) f k t = .inl (l.length,t')∧t'.length=l.length∧∀ j,t'.getD j I0=E (Z.of (if j<l.length then jZ (d n).natAbs (d n).sign d n i r j else r j))
 | 0,k,t,hf,_,_,_=>absurd hf (Nat.not_lt_zero _)
 | f+1,k,t,hf,hk,ht,hv=>by
  unfold eT
  by_cases hl:k<l.length
  ·rw [decide_eq_true oo_,cond_true]
   have e:=hv k;rw [if_neg (Nat.lt_irrefl k)] at e
   have h5':B512 ((d n).sign*r (i+n)*shf d i k):=by
    unfold shf;split
    ·exact h5 _
    rw [Int.mul_zero];exact B0
   have e2:E (Z.sub (Z.mul (Z.abs (q.getD (q.length - 1) I0).dec) (t.getD k I0).dec) (Z.mul (E (Z.of ((d n).sign*r (i+n)))).dec (eK q ((k:Int) - (i:Int))).dec))=E (Z.of (jZ (d n).natAbs (d n).sign d n i r k)):=by
    rw [hn,Nat.add_sub_cancel,g.get,e,KL g,bW,bW,bW,bW,SA (g.B _),mK h1 (h2 k),mK h3 (c3_ g i k),MP (h4 k) h5'];rfl
   simp only;rw [e2,jL t k _ oo_,E7 (h6 k),cond_false];refine TT g hn l h1 h2 h3 h4 h5 h6 f (k+1) _ oo_ oo_ (by rw [List.length_set];exact ht) fun j=>?_
   by_cases hj:j=k
   ·subst hj;rw [jL t j _ oo_,if_pos oo_]
   rw [nE t k j _ hj,hv j]
   by_cases hjk:j<k
   ·rw [if_pos hjk,if_pos oo_]
   rw [if_neg hjk,if_neg oo_]
  rw [decide_eq_false oo_,cond_false]
  have:k=l.length:=by omega
  subst this;exact ⟨t,rfl,ht,hv⟩
theorem sU (g:Po q d) (hn:q.length=n+1) {r:Nat→Int} {i L j:Nat} (hz:∀ k,L≤k→r k=0) (hi:i+n<L) (hj:L≤j):jZ (d n).natAbs (d n).sign d n i r j=0:=by
 unfold jZ
 have e:shf d i j=0:=by
  unfold shf;rw [if_pos oo_];exact g.zero oo_
 rw [hz j hj,e,Int.mul_zero,Int.mul_zero];rfl
theorem e8_ {v:Int} (h:B512 v):B512 (v.natAbs:Int):=by unfold B512 at *;rw [Int.natAbs_natCast];exact h
theorem TS (g:Po q d) (hn:q.length=n+1):∀ (m f:Nat) (i:Int) (l:List I) (r:Nat→Int),i=(m:Int) - 1→m<f→(m≤l.length - n)→(∀ j,l.getD j I0=E (Z.of (r j)))→(∀ k,l.length≤k→r k=0) →
  RemB (d n).natAbs (d n).sign d n m r→∃ i' l',cX p q f i l = .inl (i',l')∧l'.length=l.length∧(∀ j,l'.getD j I0=E (Z.of (pT (d n).natAbs (d n).sign d n m r j)))∧(∀ k,l.length≤k→pT (d n).natAbs (d n).sign d n m r k=0)∧∀ k,B512 (pT (d n).natAbs (d n).sign d n m r k)
 | m,0,i,l,r,_,hf,_,_,_,_=>absurd hf (Nat.not_lt_zero _)
 | 0,f+1,i,l,r,hi,hf,hm,hl,hz,hB=>by
  unfold cX;rw [decide_eq_false oo_,cond_false];exact ⟨i,l,rfl,rfl,hl,hz,hB⟩
 | m+1,f+1,i,l,r,hi,hf,hm,hl,hz,hB=>by
  unfold cX;rw [decide_eq_true oo_,cond_true];obtain ⟨b1,b2,b3,b4,b5⟩:=hB
  have e:E (Z.mul (Z.of (Z.signW (q.getD (q.length - 1) I0).dec).1) (l.getD (i.toNat+(q.length - 1)) I0).dec)=E (Z.of ((d n).sign*r (m+n))):=by
   have hs:B512 (d n).sign:=by
    rcases Int.lt_trichotomy (d n) 0 with h|h|h
    ·rw [Int.sign_eq_neg_one_of_neg h];decide
    ·rw [h];decide
    rw [Int.sign_eq_one_of_pos h];decide
   rw [hn,Nat.add_sub_cancel,g.get,hl,bW,bW,i6 (g.B n),show i.toNat=m by omega,mK hs (b1 _)]
  obtain ⟨t,h1,h2,h3⟩:=TT (p:=p) g hn (i:=m) l (e8_ (g.B n)) b1 b2 b3 b4 b5.B (l.length+1) 0 l oo_ (Nat.zero_le _) O (fun j=>by rw [if_neg (Nat.not_lt_zero _)];exact hl j);simp only;rw [e,show i=(m:Int) by omega,h1]
  have k1:∀ j,t.getD j I0=E (Z.of (jZ (d n).natAbs (d n).sign d n m r j)):=fun j=>by
   rw [h3 j]
   split
   ·rfl
   rw [hz j oo_,sU g hn hz oo_ oo_]
  obtain ⟨i',l',a1,a2,a3,a4,a5⟩:=TS g hn m f ((m:Int) - 1) t _ O oo_ oo_ k1 (fun k hk=>sU g hn hz oo_ oo_) b5;exact ⟨i',l',a1,a2.trans h2,a3,fun k hk=>a4 k oo_,a5⟩
theorem WF (h:Po p c) (g:Po q d) (hn:q.length=n+1) (hB:RemB (d n).natAbs (d n).sign d n (p.length - n) c):Po (aX p q) (pT (d n).natAbs (d n).sign d n (p.length - n) c):=by
 unfold aX;rw [h.nb,g.nb,show ((q.length:Int)==0)=false from beq_eq_false_iff_ne.2 oo_,Bool.false_or,Bool.false_or,cond_false,List.nil_append,hn];have hl:=h.l
 have go:∀ i:Int,i=(p.length:Int) - 1 - (((n+1:Nat):Int) - 1)→∃ i' l',cX p q (p.length+1) i p = .inl (i',l')∧l'.length=p.length∧(∀ j,l'.getD j I0=E (Z.of (pT (d n).natAbs (d n).sign d n (p.length - n) c j)))∧(∀ k,p.length≤k→pT (d n).natAbs (d n).sign d n (p.length - n) c k=0)∧∀ k,B512 (pT (d n).natAbs (d n).sign d n (p.length - n) c k):=fun i hi=>by
  by_cases hs:n≤p.length
  ·exact TS g hn (p.length - n) (p.length+1) i p c oo_ oo_ (Nat.le_refl _) h.get (fun k hk=>h.zero hk) hB
  have e0:p.length - n=0:=by omega
  rw [e0] at hB ⊢;unfold cX;rw [decide_eq_false oo_,cond_false];exact ⟨i,p,rfl,rfl,h.get,fun k hk=>h.zero hk,h.B⟩
 obtain ⟨i',l',a1,a2,a3,a4,a5⟩:=go _ O;rw [a1]
 show Po (bD l') _
 rw [vO];exact zZ a3 a5 fun k hk=>a4 k oo_
end
open Go Go.Kn
theorem vH (d:Nat→Int) (m k:Nat):conv d (fun i=>if i=m then 1 else 0) k=shf d m k:=by
 rw [qE];unfold conv shf
 by_cases h:m≤k
 ·rw [if_pos h,G9 (a:=m) (fun i hi=>?_) oo_]
  ·show (if m=m then 1 else 0)*d (k - m)=_
   rw [if_pos O,Int.one_mul]
  show (if i=m then 1 else 0)*d (k - i)=_
  rw [if_neg hi,Int.zero_mul]
 rw [if_neg h];refine jY fun i hi=>?_
 show (if i=m then 1 else 0)*d (k - i)=_
 rw [if_neg oo_,Int.zero_mul]
theorem QK (d S:Nat→Int) (m k:Nat) (hS:∀ i,m<i→S i=0):conv d S k=conv d (fun i=>if i<m then S i else 0) k+S m*shf d m k:=by
 have e:conv d (fun i=>S m*(if i=m then 1 else 0)) k=S m*shf d m k:=by rw [← vH,pH]
 rw [← e]
 rw [show conv d S=fun k=>conv d (fun i=>if i<m then S i else 0) k+conv d (fun i=>S m*(if i=m then 1 else 0)) k by
  rw [← AQ]
  congr 1
  funext i
  rcases Nat.lt_trichotomy i m with h|h|h
  ·rw [if_pos h,if_neg oo_,Int.mul_zero,Int.add_zero]
  ·rw [if_neg oo_,if_pos h,h,Int.mul_one,Int.zero_add]
  rw [if_neg oo_,if_neg oo_,hS i h,Int.mul_zero];rfl]
theorem GY (v:Int):v.sign*v=(v.natAbs:Int):=by
 rcases Int.lt_trichotomy v 0 with h|h|h
 ·rw [Int.sign_eq_neg_one_of_neg h];omega
 ·subst h;rfl
 rw [Int.sign_eq_one_of_pos h];omega
theorem PI (v:Int):v.sign.natAbs≤1:=by
 rcases Int.lt_trichotomy v 0 with h|h|h
 ·rw [Int.sign_eq_neg_one_of_neg h];decide
 ·subst h;decide
 rw [Int.sign_eq_one_of_pos h];decide
structure QP where
 c:Nat→Rat
 fs:∃ n,∀ i,n≤i→c i=0
namespace QP
theorem ex {a b:QP} (h:∀ k,a.c k=b.c k):a=b:=by
 obtain ⟨c,_⟩:=a;obtain ⟨d,_⟩:=b;have e:c=d:=funext h;subst e;rfl
instance:Add QP:=⟨fun a b=>⟨fun k=>a.c k+b.c k,by
 obtain ⟨n,h⟩:=a.fs;obtain ⟨m,g⟩:=b.fs
 exact ⟨max n m,fun i hi=>by show a.c i+b.c i=0;rw [h i (by omega),g i (by omega),Rat.add_zero]⟩⟩⟩
instance:Mul QP:=⟨fun a b=>⟨conv a.c b.c,by
 obtain ⟨n,h⟩:=a.fs;obtain ⟨m,g⟩:=b.fs
 exact ⟨n+m,fun i hi=>lB h g i (by omega)⟩⟩⟩
def M (t:Rat) (j:Nat):QP:=⟨fun k=>if k=j then t else 0,⟨j+1,fun i hi=>if_neg (by omega)⟩⟩
def C (t:Rat):QP:=M t 0
theorem TV {a b:Rat} (ha:a≠0) (hb:b≠0):a*b≠0:=fun h=>by
 rcases Rat.mul_eq_zero.1 h with h1|h1
 ·exact ha h1
 exact hb h1
theorem add_c (a b:QP) (k:Nat):(a+b).c k=a.c k+b.c k:=rfl
theorem mul_c (a b:QP) (k:Nat):(a*b).c k=conv a.c b.c k:=rfl
theorem M8 (t:Rat) (j:Nat) (a:QP) (k:Nat):(M t j*a).c k=if j≤k then t*a.c (k - j) else 0:=by
 rw [mul_c];unfold conv
 by_cases h:j≤k
 ·rw [if_pos h,G9 (a:=j) (fun i hi=>by show (if i=j then t else 0)*_=0;rw [if_neg hi];exact Rat.zero_mul _) (by omega)]
  show (if j=j then t else 0)*_=_
  rw [if_pos O]
 rw [if_neg h]
 exact jY fun i hi=>by show (if i=j then t else 0)*_=0;rw [if_neg (by omega)];exact Rat.zero_mul _
theorem C_mul (t:Rat) (a:QP) (k:Nat):(C t*a).c k=t*a.c k:=by unfold C;rw [M8,if_pos (Nat.zero_le _),Nat.sub_zero]
theorem C_c (t:Rat) (k:Nat):(C t).c k=if k=0 then t else 0:=rfl
theorem UP (a b:QP):a+b=b+a:=ex fun k=>Rat.add_comm _ _
theorem mul_comm' (a b:QP):a*b=b*a:=ex fun k=>congrFun (qE a.c b.c) k
theorem mul_assoc' (a b c:QP):a*b*c=a*(b*c):=ex fun k=>congrFun (FD a.c b.c c.c) k
theorem mul_add' (a b c:QP):a*(b+c)=a*b+a*c:=ex fun k=>congrFun (AQ a.c b.c c.c) k
theorem NF (a b c:QP):(a+b)*c=a*c+b*c:=by rw [mul_comm',mul_add',mul_comm' c a,mul_comm' c b]
theorem lc' (a b c:QP):a*(b*c)=b*(a*c):=by rw [← mul_assoc',mul_comm' a b,mul_assoc']
theorem C_C (s t:Rat):C s*C t=C (s*t):=ex fun k=>by
 rw [C_mul,C_c,C_c];split
 ·rfl
 exact Rat.mul_zero _
theorem nC (a:QP):C 1*a=a:=ex fun k=>by rw [C_mul,Rat.one_mul]
theorem BB (a:QP):a*C 1=a:=by rw [mul_comm',nC]
theorem y8 (a:QP):C 0*a=C 0:=ex fun k=>by rw [C_mul,Rat.zero_mul,C_c];split<;>rfl
theorem mul_zero' (a:QP):a*C 0=C 0:=by rw [mul_comm',y8]
theorem C0_c (k:Nat):(C 0).c k=0:=by rw [C_c];split<;>rfl
theorem add_zero' (a:QP):a+C 0=a:=ex fun k=>by rw [add_c,C0_c,Rat.add_zero]
theorem y6 (a:QP):C 0+a=a:=by rw [UP,add_zero']
theorem V2 {a b:QP} (h:a+C (-1)*b=C 0):a=b:=ex fun k=>by
 have e:=congrArg (fun x:QP=>x.c k) h;simp only [add_c,C_mul,C0_c] at e
 grind
def Dg (a:QP) (n:Nat):Prop:=a.c n≠0∧∀ i,n<i→a.c i=0
theorem XQ (a:QP):∀ N:Nat,(∀ i,N≤i→a.c i=0)→a=C 0 ∨ ∃ n,n<N∧Dg a n
 | 0,h=>.inl (ex fun k=>by rw [h k (Nat.zero_le _),C0_c])
 | N+1,h=>by
  by_cases h0:a.c N=0
  ·rcases XQ a N (fun i hi=>by rcases Nat.lt_or_eq_of_le hi with h1|h1;exact h i h1;rw [← h1];exact h0) with h1|⟨n,h1,h2⟩
   ·exact .inl h1
   exact .inr ⟨n,by omega,h2⟩
  exact .inr ⟨N,by omega,h0,fun i hi=>h i hi⟩
theorem ex_dg {a:QP} (h:a≠C 0):∃ n,Dg a n:=by
 obtain ⟨N,hN⟩:=a.fs;rcases XQ a N hN with h1|⟨n,_,h2⟩
 ·exact absurd h1 h
 exact ⟨n,h2⟩
theorem Dg.ne {a:QP} {n:Nat} (h:Dg a n):a≠C 0:=fun e=>h.1 (by rw [e,C0_c])
theorem Dg.un {a:QP} {n m:Nat} (h:Dg a n) (g:Dg a m):n=m:=by
 rcases Nat.lt_trichotomy n m with h1|h1|h1
 ·exact absurd (h.2 _ h1) g.1
 ·exact h1
 exact absurd (g.2 _ h1) h.1
theorem Dg.mul {a b:QP} {n m:Nat} (h:Dg a n) (g:Dg b m):Dg (a*b) (n+m):=by
 refine ⟨?_,fun i hi=>lB (n:=n+1) (m:=m+1) (fun j hj=>h.2 j hj) (fun j hj=>g.2 j hj) i (by omega)⟩;rw [mul_c,l9 h.2 g.2];exact TV h.1 g.1
theorem C_dg {t:Rat} (h:t≠0):Dg (C t) 0:=⟨by rw [C_c,if_pos O];exact h,fun i hi=>by rw [C_c,if_neg (by omega)]⟩
theorem dg_C {a:QP} (h:Dg a 0):a=C (a.c 0):=ex fun k=>by
 rw [C_c];split
 ·next e=>rw [e]
 exact h.2 k (by omega)
theorem mul_ne {a b:QP} (ha:a≠C 0) (hb:b≠C 0):a*b≠C 0:=by
 obtain ⟨n,h⟩:=ex_dg ha;obtain ⟨m,g⟩:=ex_dg hb;exact (h.mul g).ne
theorem mul_can {a b c:QP} (ha:a≠C 0) (h:a*b=a*c):b=c:=by
 apply V2
 apply Classical.byContradiction
 intro hn;refine mul_ne ha hn ?_;rw [mul_add',lc' a (C (-1)),h]
 exact ex fun k=>by rw [add_c,C_mul,C0_c];grind
def Dv (a b:QP):Prop:=∃ h,b=a*h
theorem Dv.refl (a:QP):Dv a a:=⟨C 1,(BB a).symm⟩
theorem Dv.trans {a b c:QP} (h:Dv a b) (g:Dv b c):Dv a c:=by
 obtain ⟨x,hx⟩:=h;obtain ⟨y,hy⟩:=g;exact ⟨x*y,by rw [hy,hx,mul_assoc']⟩
theorem Dv.mul {a b:QP} (h:Dv a b) (c:QP):Dv a (b*c):=h.trans ⟨c,rfl⟩
theorem Dv.mul_l {a b:QP} (h:Dv a b) (c:QP):Dv a (c*b):=by rw [mul_comm'];exact h.mul c
theorem Dv.add {a b c:QP} (h:Dv a b) (g:Dv a c):Dv a (b+c):=by
 obtain ⟨x,hx⟩:=h;obtain ⟨y,hy⟩:=g;exact ⟨x+y,by rw [hx,hy,mul_add']⟩
theorem Dv.zero (a:QP):Dv a (C 0):=⟨C 0,(mul_zero' a).symm⟩
theorem Dv.of_zero {a:QP} (h:Dv (C 0) a):a=C 0:=by obtain ⟨x,hx⟩:=h;rw [hx,y8]
theorem Dv.both {a b:QP} (c:QP) (h:Dv a b):Dv (c*a) (c*b):=by obtain ⟨x,hx⟩:=h;exact ⟨x,by rw [hx,mul_assoc']⟩
theorem Dv.cancel {a b c:QP} (hc:c≠C 0) (h:Dv (c*a) (c*b)):Dv a b:=by
 obtain ⟨x,hx⟩:=h;exact ⟨x,QP.mul_can hc (by rw [hx,mul_assoc'])⟩
theorem Dv.ne {a b:QP} (h:Dv a b) (hb:b≠C 0):a≠C 0:=fun e=>hb (by rw [e] at h;exact h.of_zero)
theorem Dv.scale {a b:QP} {t:Rat} (ht:t≠0) (h:Dv a (C t*b)):Dv a b:=by
 obtain ⟨x,hx⟩:=h;refine ⟨C t⁻¹*x,?_⟩;rw [lc' a,← hx,← mul_assoc',C_C,Rat.inv_mul_cancel _ ht,nC]
theorem C_dv {t:Rat} (ht:t≠0) (a:QP):Dv (C t*a) a:=⟨C t⁻¹,by rw [mul_comm' _ (C t⁻¹),← mul_assoc',C_C,Rat.inv_mul_cancel _ ht,nC]⟩
theorem ec_ {a:QP} (h:Dg a 0) (b:QP):Dv a b:=by
 refine ⟨C (a.c 0)⁻¹*b,?_⟩
 conv=>rhs;rw [dg_C h]
 rw [show (C (a.c 0)).c 0=a.c 0 from rfl,← mul_assoc',C_C,Rat.mul_inv_cancel _ h.1,nC]
theorem Dv.dg {a b:QP} {n m:Nat} (h:Dv a b) (ha:Dg a n) (hb:Dg b m):n≤m:=by
 obtain ⟨x,hx⟩:=h;have h0:x≠C 0:=fun e=>hb.ne (by rw [hx,e,mul_zero']);obtain ⟨l,hl⟩:=ex_dg h0;have:=(ha.mul hl).un (hx ▸ hb);omega
theorem Dv.same {a b:QP} {n:Nat} (h:Dv a b) (ha:Dg a n) (hb:Dg b n):∃ t,t≠0∧b=C t*a:=by
 obtain ⟨x,hx⟩:=h;have h0:x≠C 0:=fun e=>hb.ne (by rw [hx,e,mul_zero']);obtain ⟨l,hl⟩:=ex_dg h0;have:=(ha.mul hl).un (hx ▸ hb)
 obtain rfl:l=0:=by omega
 exact ⟨x.c 0,hl.1,by rw [hx,mul_comm',dg_C hl];rfl⟩
theorem Dv.back {a b:QP} {n:Nat} (h:Dv a b) (ha:Dg a n) (hb:Dg b n):Dv b a:=by
 obtain ⟨t,ht,e⟩:=h.same ha hb;rw [e];exact C_dv ht a
theorem KU {b:QP} {n:Nat} (hb:Dg b n):∀ (N:Nat) (a:QP),(∀ i,N≤i→a.c i=0)→∃ q r:QP,a=b*q+r∧∀ i,n≤i→r.c i=0
 | 0,a,h=>⟨C 0,a,by rw [mul_zero',y6],fun i _=>h i (Nat.zero_le _)⟩
 | N+1,a,h=>by
  by_cases hn:N<n
  ·exact ⟨C 0,a,by rw [mul_zero',y6],fun i hi=>h i (by omega)⟩
  obtain ⟨q,r,h1,h2⟩:=KU hb N (a+M (-(a.c N / b.c n)) (N - n)*b) (fun i hi=>by
   rw [add_c,M8,if_pos (by omega)];rcases Nat.lt_or_eq_of_le hi with h3|h3
   ·rw [h i h3,hb.2 (i - (N - n)) (by omega)];grind
   rw [← h3,show N - (N - n)=n by omega];have:=hb.1
   grind)
  refine ⟨q+M (a.c N / b.c n) (N - n),r,?_,h2⟩;refine ex fun k=>?_;have e:=congrArg (fun x:QP=>x.c k) h1;simp only [add_c,M8] at e;rw [mul_add',mul_comm' b (M _ _),add_c,add_c,M8]
  split at e
  ·next h3=>rw [if_pos h3];grind
  ·next h3=>rw [if_neg h3];grind
theorem bez:∀ (N:Nat) (a b:QP),(∀ i,N≤i→b.c i=0)→∃ g u v:QP,g=u*a+v*b∧Dv g a∧Dv g b:=by
 intro N
 induction N using Nat.strongRecOn with
 | _ N ih =>
  intro a b h;rcases XQ b N h with h0|⟨n,hn,hb⟩
  ·exact ⟨a,C 1,C 0,by rw [y8,add_zero',nC],.refl a,by rw [h0];exact .zero a⟩
  obtain ⟨M,hM⟩:=a.fs;obtain ⟨q,r,h1,h2⟩:=KU hb M a hM;obtain ⟨g,u,v,h3,h4,h5⟩:=ih n hn b r h2;refine ⟨g,v,u+C (-1)*(v*q),?_,by rw [h1];exact (h4.mul q).add h5,h4⟩;rw [h3,h1,mul_add',NF,mul_assoc' (C (-1)),mul_assoc' v q b,mul_comm' q b]
  exact ex fun k=>by simp only [add_c,C_mul];grind
theorem bezout (a b:QP):∃ g u v:QP,g=u*a+v*b∧Dv g a∧Dv g b:=by
 obtain ⟨N,hN⟩:=b.fs;exact bez N a b hN
def Irr (h:QP):Prop:=∃ n,1≤n∧Dg h n∧∀ d,Dv d h→Dg d 0∨Dg d n
theorem Irr.ne {h:QP} (i:Irr h):h≠C 0:=by obtain ⟨n,_,hd,_⟩:=i;exact hd.ne
theorem QQ:∀ (n:Nat) (p:QP),Dg p n→1≤n→∃ h,Irr h∧Dv h p:=by
 intro n
 induction n using Nat.strongRecOn with
 | _ n ih =>
  intro p hp hn
  by_cases hx:∃ d,Dv d p∧¬ Dg d 0∧¬ Dg d n
  ·obtain ⟨d,h1,h2,h3⟩:=hx
   obtain ⟨m,hm⟩:=ex_dg (h1.ne hp.ne);have:=h1.dg hm hp;have m0:m≠0:=fun e=>h2 (e ▸ hm);have mn:m≠n:=fun e=>h3 (e ▸ hm);obtain ⟨h,hi,hd⟩:=ih m (by omega) d hm (by omega);exact ⟨h,hi,hd.trans h1⟩
  refine ⟨p,⟨n,hn,hp,fun d hd=>?_⟩,.refl p⟩
  apply Classical.byContradiction
  intro hc;exact hx ⟨d,hd,fun e=>hc (.inl e),fun e=>hc (.inr e)⟩
theorem Irr.prime {h a b:QP} (i:Irr h) (hd:Dv h (a*b)):Dv h a∨Dv h b:=by
 obtain ⟨n,hn,hh,hi⟩:=i;obtain ⟨g,u,v,h1,h2,h3⟩:=bezout h a;rcases hi g h2 with h4|h4
 ·right
  have e:C (g.c 0)*b=h*(u*b)+v*(a*b):=by
   rw [← dg_C h4,h1,NF,mul_assoc',mul_assoc',lc' u]
  refine Dv.scale h4.1 (t:=g.c 0) ?_;rw [e];exact (Dv.mul (.refl h) _).add (hd.mul_l v)
 exact .inl ((h2.back h4 hh).trans h3)
def D (a:QP):QP:=⟨fun k=>((k+1:Nat):Rat)*a.c (k+1),by
 obtain ⟨n,h⟩:=a.fs
 exact ⟨n,fun i hi=>by show _*a.c (i+1)=0;rw [h _ (by omega),Rat.mul_zero]⟩⟩
theorem D_c (a:QP) (k:Nat):(D a).c k=((k+1:Nat):Rat)*a.c (k+1):=rfl
theorem M5 (a b:QP):D (a*b)=D a*b+a*D b:=ex fun k=>by
 rw [D_c,add_c,mul_c,mul_c,mul_c];unfold conv;rw [← sY]
 have e:gN (fun i=>((k+1:Nat):Rat)*(a.c i*b.c (k+1 - i))) (k+1+1)=gN (fun i=>(i:Rat)*(a.c i*b.c (k+1 - i))+((k+1 - i:Nat):Rat)*(a.c i*b.c (k+1 - i))) (k+1+1):=gJ fun i hi=>by
  have:((k+1:Nat):Rat)=(i:Rat)+((k+1 - i:Nat):Rat):=by rw [← Rat.natCast_add];congr 1;omega
  rw [this,Rat.add_mul]
 rw [e,yE]
 congr 1
 ·rw [v3]
  rw [show ((0:Nat):Rat)=0 from rfl,Rat.zero_mul,Rat.zero_add]
  exact gJ fun i hi=>by rw [D_c,show k+1 - (i+1)=k - i by omega,Rat.mul_assoc]
 show gN _ (k+1)+((k+1 - (k+1):Nat):Rat)*_=_
 rw [show k+1 - (k+1)=0 by omega,show ((0:Nat):Rat)=0 from rfl,Rat.zero_mul,Rat.add_zero]
 exact gJ fun i hi=>by rw [D_c,show k+1 - i=k - i+1 by omega];grind
theorem gr_ {a:QP} {n:Nat} (h:Dg a (n+1)):Dg (D a) n:=by
 refine ⟨?_,fun i hi=>by rw [D_c,h.2 _ (by omega),Rat.mul_zero]⟩;rw [D_c];refine TV (fun e=>?_) h.1;have:((n+1:Nat):Rat)=((0:Nat):Rat):=e;rw [Rat.natCast_inj] at this;omega
theorem Irr.nD {h:QP} (i:Irr h):¬ Dv h (D h):=by
 obtain ⟨n,hn,hh,_⟩:=i;obtain ⟨m,rfl⟩:∃ m,n=m+1:=⟨n - 1,by omega⟩;intro hd;have:=hd.dg hh (gr_ hh);omega
def pow (a:QP):Nat→QP
 | 0=>C 1
 | n+1=>a*pow a n
theorem ZV {a:QP} (h:a≠C 0):∀ n,pow a n≠C 0
 | 0=>(C_dg (by decide)).ne
 | n+1=>mul_ne h (ZV h n)
theorem LW (a:QP) (m:Nat):∀ n,pow a (m+n)=pow a m*pow a n
 | 0=>(BB _).symm
 | n+1=>by show a*pow a (m+n)=pow a m*(a*pow a n);rw [LW a m n,lc']
theorem cs_ (h m:QP):∀ e:Nat,D (pow h (e+1)*m)=pow h e*(C ((e+1:Nat):Rat)*(D h*m)+h*D m)
 | 0=>by
  show D (h*C 1*m)=C 1*(C 1*(D h*m)+h*D m)
  rw [BB,M5,nC,nC]
 | e+1=>by
  rw [show pow h (e+1+1)*m=h*(pow h (e+1)*m) from mul_assoc' _ _ _,M5,cs_ h m e,lc' (D h),← mul_assoc' h (pow h e),show h*pow h e=pow h (e+1) from rfl,← mul_add']
  congr 1
  refine ex fun k=>?_;simp only [add_c,C_mul];rw [show ((e+1+1:Nat):Rat)=((e+1:Nat):Rat)+1 by rw [Rat.natCast_add];rfl]
  grind
theorem bu_ {h:QP} (i:Irr h):∀ (n:Nat) (P:QP),Dg P n→∃ e m,P=pow h e*m∧¬ Dv h m:=by
 intro n
 induction n using Nat.strongRecOn with
 | _ n ih =>
  intro P hP
  by_cases hd:Dv h P
  ·obtain ⟨x,hx⟩:=hd
   have x0:x≠C 0:=fun e=>hP.ne (by rw [hx,e,mul_zero']);obtain ⟨l,hl⟩:=ex_dg x0;obtain ⟨k,hk,hh,_⟩:=i;have:=(hh.mul hl).un (hx ▸ hP);obtain ⟨e,m,h1,h2⟩:=ih l (by omega) x hl;exact ⟨e+1,m,by rw [hx,h1];exact (mul_assoc' _ _ _).symm,h2⟩
  exact ⟨0,P,(nC P).symm,hd⟩
theorem sqf_part {P G F:QP} (hP:P≠C 0) (hF:P=G*F) (hD:Dv G (D P)) (hG:∀ d,Dv d P→Dv d (D P)→Dv d G) {h:QP} (i:Irr h):(Dv h P→Dv h F)∧¬ Dv (h*h) F:=by
 obtain ⟨n,hn⟩:=ex_dg hP;obtain ⟨e,m,he,hm⟩:=bu_ i n P hn
 cases e with
 | zero =>
  have hnP:¬ Dv h P:=fun hd=>hm (by rw [he] at hd;rwa [show pow h 0*m=m from nC m] at hd);refine ⟨fun hd=>absurd hd hnP,fun hd=>hnP ?_⟩;rw [hF];exact ((show Dv h (h*h) from ⟨h,rfl⟩).trans hd).mul_l G
 | succ e =>
  have e1:((e+1:Nat):Rat)≠0:=fun x=>by
   have:((e+1:Nat):Rat)=((0:Nat):Rat):=x;rw [Rat.natCast_inj] at this;omega
  have hK:¬ Dv h (C ((e+1:Nat):Rat)*(D h*m)+h*D m):=fun hd=>by
   have h1:Dv h (C ((e+1:Nat):Rat)*(D h*m)):=by
    obtain ⟨x,hx⟩:=hd;refine ⟨x+C (-1)*D m,?_⟩;rw [mul_add',← hx,lc' h]
    exact ex fun k=>by simp only [add_c,C_mul];grind
   rcases i.prime (h1.scale e1) with h2|h2
   ·exact i.nD h2
   exact hm h2
  have hDP:D P=pow h e*(C ((e+1:Nat):Rat)*(D h*m)+h*D m):=by rw [he,cs_]
  have hPe:P=pow h e*(h*m):=by rw [he];show h*pow h e*m=_;rw [mul_comm' h,mul_assoc']
  obtain ⟨G1,hG1⟩:=hG (pow h e) ⟨_,hPe⟩ ⟨_,hDP⟩;have p0:=ZV i.ne e
  have nG:¬ Dv h G1:=fun hd=>hK (by
   refine Dv.cancel p0 ?_;rw [← hDP];refine Dv.trans (Dv.both _ hd) ?_
   rw [← hG1];exact hD)
  have hmF:h*m=G1*F:=mul_can p0 (by rw [← hPe,hF,hG1,mul_assoc'])
  have hF1:Dv h F:=by
   rcases i.prime (show Dv h (G1*F) from ⟨m,hmF.symm⟩) with h1|h1
   ·exact absurd h1 nG
   exact h1
  refine ⟨fun _=>hF1,fun hd=>?_⟩;obtain ⟨F2,hF2⟩:=hd;refine hm ⟨G1*F2,mul_can i.ne ?_⟩;rw [hmF,hF2,mul_assoc',lc' G1,lc' G1]
theorem sqf_dvd {F G:QP} (h0:F≠C 0) (hs:∀ h,Irr h→¬ Dv (h*h) F) (hd:∀ h,Irr h→Dv h F→Dv h G):Dv F G:=by
 obtain ⟨g,u,v,h1,h2,h3⟩:=bezout F G;obtain ⟨x,hx⟩:=h2;have x0:x≠C 0:=fun e=>h0 (by rw [hx,e,mul_zero']);obtain ⟨l,hl⟩:=ex_dg x0
 cases l with
 | zero =>
  have:F=C (x.c 0)*g:=by rw [mul_comm',← dg_C hl];exact hx
  rw [this];exact (C_dv hl.1 g).trans h3
 | succ l =>
  obtain ⟨h,hi,hh⟩:=QQ _ x hl (by omega)
  have hF:Dv h F:=by rw [hx];exact hh.mul_l g
  have hg:Dv h g:=by rw [h1];exact (hF.mul_l u).add ((hd h hi hF).mul_l v)
  obtain ⟨y,hy⟩:=hg;obtain ⟨z,hz⟩:=hh;exact absurd ⟨y*z,by rw [hx,hy,hz,mul_assoc',mul_assoc',lc' y]⟩ (hs h hi)
theorem dvd_pow {P F:QP} (hd:∀ h,Irr h→Dv h P→Dv h F):∀ (n:Nat) (R:QP),Dg R n→Dv R P→Dv R (pow F n):=by
 intro n
 induction n using Nat.strongRecOn with
 | _ n ih =>
  intro R hR hP
  cases n with
  | zero=>exact ec_ hR _
  | succ n =>
   obtain ⟨h,hi,hh⟩:=QQ _ R hR (by omega);obtain ⟨x,hx⟩:=hh;have x0:x≠C 0:=fun e=>hR.ne (by rw [hx,e,mul_zero']);obtain ⟨l,hl⟩:=ex_dg x0;have hi':=hi;obtain ⟨k,hk,hdk,_⟩:=hi';have hs:=(hdk.mul hl).un (hx ▸ hR);have h1:=ih l (by omega) x hl ((show Dv x R from ⟨h,by rw [hx,mul_comm']⟩).trans hP);have h2:Dv h F:=hd h hi ((show Dv h R from ⟨x,hx⟩).trans hP);obtain ⟨y,hy⟩:=h2;obtain ⟨z,hz⟩:=h1;rw [hx,show n+1=1+l+(n - l) by omega,LW,LW];refine Dv.mul ⟨y*z,?_⟩ _
   show F*C 1*pow F l=_
   rw [BB,hz,mul_assoc',lc' x]
   conv=>lhs;rw [hy]
   rw [mul_assoc']
theorem sqf_co {F:QP} (hs:∀ h,Irr h→¬ Dv (h*h) F) {d:QP} {n:Nat} (h1:Dv d F) (h2:Dv d (D F)) (hd:Dg d n):n=0:=by
 cases n with
 | zero=>rfl
 | succ n =>
  obtain ⟨h,hi,hh⟩:=QQ _ d hd (by omega);obtain ⟨x,hx⟩:=hh.trans h1;obtain ⟨y,hy⟩:=hh.trans h2
  have:Dv h (D h*x):=by
   refine ⟨y+C (-1)*D x,?_⟩
   have e:D F=D h*x+h*D x:=by rw [hx,M5]
   rw [mul_add',← hy,lc' h,e]
   exact ex fun k=>by simp only [add_c,C_mul];grind
  rcases hi.prime this with h3|h3
  ·exact absurd h3 hi.nD
  obtain ⟨z,hz⟩:=h3;exact absurd ⟨z,by rw [hx,hz,mul_assoc']⟩ (hs h hi)
end QP
def Cop (c:Nat→Int):Prop:=∀ u:Int,(∀ k,u ∣ c k)→u ∣ 1
theorem S6 {p:Nat→Prop} (h:∃ k,p k):∃ k,p k∧∀ j,j<k→¬ p j:=by
 obtain ⟨k,hk⟩:=h
 induction k using Nat.strongRecOn with
 | _ k ih =>
  by_cases hx:∃ j,j<k∧p j
  ·obtain ⟨j,h1,h2⟩:=hx
   exact ih j h1 h2
  exact ⟨k,hk,fun j h1 h2=>hx ⟨j,h1,h2⟩⟩
def Pri (u:Int):Prop:=∀ x y:Int,u ∣ x*y→u ∣ x∨u ∣ y
theorem dL_ {u:Nat} (h:2≤u):∃ p:Nat,2≤p∧p ∣ u∧Pri p:=by
 obtain ⟨p,⟨h1,h2⟩,h3⟩:=S6 (p:=fun k=>2≤k∧k ∣ u) ⟨u,h,Nat.dvd_refl u⟩;refine ⟨p,h1,h2,fun x y hd=>?_⟩
 have cd:∀ z:Int,(p:Int) ∣ z ↔ p ∣ z.natAbs:=fun z=>by rw [← Int.natAbs_dvd_natAbs,Int.natAbs_natCast]
 rw [cd] at hd ⊢;rw [cd];rw [Int.natAbs_mul] at hd;have g1:Nat.gcd p x.natAbs ∣ p:=Nat.gcd_dvd_left ..;have g2:Nat.gcd p x.natAbs ∣ x.natAbs:=Nat.gcd_dvd_right ..;have g3:0<Nat.gcd p x.natAbs:=Nat.gcd_pos_of_pos_left _ (by omega)
 by_cases hg:Nat.gcd p x.natAbs=1
 ·exact .inr (Nat.Coprime.dvd_of_dvd_mul_left hg hd)
 left
 have g4:=Nat.le_of_dvd (by omega) g1;have:¬ Nat.gcd p x.natAbs<p:=fun hl=>h3 _ hl ⟨by omega,Nat.dvd_trans g1 h2⟩
 rwa [show Nat.gcd p x.natAbs=p by omega] at g2
theorem gS_:Pri 0:=fun x y h=>by
 rw [Int.zero_dvd] at h ⊢;rw [Int.zero_dvd];exact Int.mul_eq_zero.1 h
theorem MQ {u:Int} {f:Nat→Int}:∀ {n:Nat},(∀ t,t<n→u ∣ f t)→u ∣ gN f n
 | 0,_=>Int.dvd_zero u
 | n+1,h=>Int.dvd_add (MQ fun t ht=>h t (by omega)) (h n (by omega))
theorem T8 {u:Int} {f:Nat→Int} {a:Nat}:∀ {n:Nat},(∀ t,t<n→t≠a→u ∣ f t)→a<n→u ∣ gN f n→u ∣ f a
 | 0,_,ha,_=>absurd ha (Nat.not_lt_zero _)
 | n+1,h,ha,hs=>by
  by_cases hn:n=a
  ·subst hn
   exact (Int.dvd_add_right (MQ fun t ht=>h t (by omega) (by omega))).1 hs
  exact T8 (fun t ht=>h t (by omega)) (by omega) ((Int.dvd_add_left (h n (by omega) hn)).1 hs)
theorem TL {u:Int} (hu:Pri u) {c d:Nat→Int} (hc:¬ ∀ k,u ∣ c k) (h:∀ k,u ∣ conv c d k):∀ k,u ∣ d k:=by
 apply Classical.byContradiction
 intro hd;obtain ⟨i,hi,hi'⟩:=S6 (p:=fun k=>¬ u ∣ c k) (Classical.byContradiction fun hx=>hc fun k=>Classical.byContradiction fun hk=>hx ⟨k,hk⟩);obtain ⟨j,hj,hj'⟩:=S6 (p:=fun k=>¬ u ∣ d k) (Classical.byContradiction fun hx=>hd fun k=>Classical.byContradiction fun hk=>hx ⟨k,hk⟩)
 have h1:u ∣ c i*d (i+j - i):=T8 (f:=fun t=>c t*d (i+j - t)) (a:=i) (n:=i+j+1) (fun t ht hn=>by
  rcases Nat.lt_or_gt_of_ne hn with h2|h2
  ·exact Int.dvd_mul_of_dvd_left (Classical.not_not.1 (hi' t h2)) ..
  exact Int.dvd_mul_of_dvd_right (Classical.not_not.1 (hj' (i+j - t) (by omega))) ..) (by omega) (h (i+j))
 rw [show i+j - i=j by omega] at h1;rcases hu _ _ h1 with h2|h2
 ·exact hi h2
 exact hj h2
theorem SH {c:Nat→Int} (hc:Cop c):∀ (u:Nat) (d:Nat→Int),(∀ k,(u:Int) ∣ conv c d k)→∀ k,(u:Int) ∣ d k:=by
 intro u
 induction u using Nat.strongRecOn with
 | _ u ih =>
  intro d h
  by_cases h0:u=0
  ·subst h0
   exact TL gS_ (fun hx=>by have:=hc 0 hx;omega) h
  by_cases h1:u=1
  ·subst h1
   exact fun k=>Int.one_dvd _
  obtain ⟨p,hp,⟨v,hv⟩,hpp⟩:=dL_ (show 2≤u by omega);subst hv
  have v0:0<v:=by
   rcases Nat.eq_zero_or_pos v with h2|h2
   ·subst h2;omega
   exact h2
  have hlt:v<p*v:=by have:=Nat.mul_le_mul_right v hp;omega
  have hd:∀ k,(p:Int) ∣ d k:=TL hpp (fun hx=>by
   have h2:=hc p hx;have:=Int.le_of_dvd (by decide) h2
   omega) fun k=>Int.dvd_trans (by rw [Int.natCast_mul];exact Int.dvd_mul_right ..) (h k)
  have hd':∀ k,d k=(p:Int)*(d k / p):=fun k=>(Int.mul_ediv_cancel' (hd k)).symm
  have e:conv c d=fun k=>(p:Int)*conv c (fun i=>d i / p) k:=by
   rw [← pH];congr 1;exact funext hd'
  intro k;rw [hd' k,Int.natCast_mul];refine Int.mul_dvd_mul_left _ (ih v hlt (fun i=>d i / p) (fun k=>?_) k);have h3:=h k;rw [e,Int.natCast_mul] at h3;exact Int.dvd_of_mul_dvd_mul_left (by omega) h3
theorem XK {c d:Nat→Int} (hc:Cop c) {u:Int} (h:∀ k,u ∣ conv c d k):∀ k,u ∣ d k:=fun k=>by
 have:=SH hc u.natAbs d (fun k=>Int.natAbs_dvd.2 (h k)) k;exact Int.natAbs_dvd.1 this
theorem cG_ {c d:Nat→Int} (hc:Cop c) (hd:Cop d):Cop (conv c d):=fun u h=>hd u (XK hc h)
theorem XJ (c:Nat→Int) (y:Int) (k:Nat):conv c (fun i=>if i=0 then y else 0) k=c k*y:=by
 unfold conv
 show gN _ k+c k*(if k - k=0 then y else 0)=_
 rw [jY fun i hi=>by show c i*(if k - i=0 then y else 0)=0;rw [if_neg (by omega),Int.mul_zero],Nat.sub_self,if_pos O,Int.zero_add]
def lA (c:Nat→Int):Prop:=∃ n,∀ i,n≤i→c i=0
def ZP (c:Nat→Int) (h:lA c):QP:=⟨cR c,by obtain ⟨n,h⟩:=h;exact ⟨n,fun i hi=>by unfold cR;rw [h i hi];rfl⟩⟩
theorem j6 (c:Nat→Int) (h:lA c) (k:Nat):(ZP c h).c k=(c k:Rat):=rfl
theorem yS {c d:Nat→Int} (h:lA c) (g:lA d):lA (conv c d):=by
 obtain ⟨n,h⟩:=h;obtain ⟨m,g⟩:=g;exact ⟨n+m,fun i hi=>lB h g i (by omega)⟩
theorem NV {c:Nat→Int} (h:lA c) (t:Int):lA (fun k=>t*c k):=by
 obtain ⟨n,h⟩:=h;exact ⟨n,fun i hi=>by show t*c i=0;rw [h i hi,Int.mul_zero]⟩
theorem X2 {c d:Nat→Int} (h:lA c) (g:lA d):lA (fun k=>c k+d k):=by
 obtain ⟨n,h⟩:=h;obtain ⟨m,g⟩:=g;exact ⟨max n m,fun i hi=>by show c i+d i=0;rw [h i (by omega),g i (by omega)];rfl⟩
theorem oN {c d:Nat→Int} (h:lA c) (g:lA d):ZP (conv c d) (yS h g)=ZP c h*ZP d g:=QP.ex fun k=>congrFun (IK c d) k
theorem dt_ {c:Nat→Int} (h:lA c) (t:Int):ZP (fun k=>t*c k) (NV h t)=QP.C t*ZP c h:=QP.ex fun k=>by rw [QP.C_mul,j6,j6,Rat.intCast_mul]
theorem NE {c d:Nat→Int} (h:lA c) (g:lA d) (e:∀ k,c k=d k):ZP c h=ZP d g:=QP.ex fun k=>by rw [j6,j6,e]
theorem ff_ {c:Nat→Int} {h:lA c} {n:Nat} (g:QP.Dg (ZP c h) n):c n≠0∧∀ i,n<i→c i=0 :=
 ⟨fun e=>g.1 (by rw [j6,e];rfl),fun i hi=>Rat.intCast_eq_zero_iff.1 (g.2 i hi)⟩
theorem XG (H:Nat→Rat):∀ n:Nat,∃ m:Nat,0<m∧∀ k,k<n→∃ t:Int,(t:Rat)=(m:Rat)*H k
 | 0=>⟨1,Nat.one_pos,fun k hk=>absurd hk (Nat.not_lt_zero _)⟩
 | n+1=>by
  obtain ⟨m,hm,h⟩:=XG H n;refine ⟨m*(H n).den,Nat.mul_pos hm (H n).den_pos,fun k hk=>?_⟩;rw [Rat.natCast_mul];rcases Nat.lt_or_eq_of_le (Nat.le_of_lt_succ hk) with h1|h1
  ·obtain ⟨t,ht⟩:=h k h1
   exact ⟨t*(H n).den,by rw [Rat.intCast_mul,ht];show _*(((H n).den:Nat):Rat)=_;grind⟩
  subst h1
  have e:(((H k).den:Nat):Rat)*H k=(((H k).num:Int):Rat):=by rw [Rat.mul_comm];exact tQ _
  exact ⟨m*(H k).num,by rw [Rat.intCast_mul,Rat.mul_assoc,e];rfl⟩
theorem zW {c a:Nat→Int} (hc:Cop c) (ec:lA c) (ea:lA a) (h:QP.Dv (ZP c ec) (ZP a ea)):∃ S:Nat→Int,lA S∧∀ k,a k=conv c S k:=by
 obtain ⟨H,hH⟩:=h;obtain ⟨n,hn⟩:=H.fs;obtain ⟨m,m0,hm⟩:=XG H.c n
 have hT:∀ k,∃ t:Int,(t:Rat)=(m:Rat)*H.c k:=fun k=>by
  by_cases hk:k<n
  ·exact hm k hk
  exact ⟨0,by rw [hn k (by omega),Rat.mul_zero];rfl⟩
 have hT':=Classical.axiomOfChoice hT;obtain ⟨T,hT'⟩:=hT'
 have e1:∀ k,(m:Int)*a k=conv c T k:=fun k=>by
  apply Rat.intCast_inj.1
  have e2:=congrArg (fun x:QP=>(m:Rat)*x.c k) hH;simp only [j6,QP.mul_c] at e2;rw [Rat.intCast_mul,show ((conv c T k:Int):Rat)=cR (conv c T) k from rfl,IK,show cR T=fun i=>(m:Rat)*H.c i from funext hT',pH];exact e2
 have e3:=SH hc m T (fun k=>⟨a k,(e1 k).symm⟩);refine ⟨fun k=>T k / m,⟨n,fun k hk=>?_⟩,fun k=>?_⟩
 ·have:T k=0:=Rat.intCast_inj.1 (by rw [hT',hn k hk,Rat.mul_zero];rfl)
  show T k / m=0
  rw [this,Int.zero_ediv]
 refine Int.eq_of_mul_eq_mul_left (show (m:Int)≠0 by omega) ?_;have e4:=congrFun (pH (m:Int) c (fun i=>T i / m)) k;rw [e1 k,← e4];exact congrFun (congrArg (conv c) (funext fun i=>(Int.mul_ediv_cancel' (e3 i)).symm)) k
end Go.Num
