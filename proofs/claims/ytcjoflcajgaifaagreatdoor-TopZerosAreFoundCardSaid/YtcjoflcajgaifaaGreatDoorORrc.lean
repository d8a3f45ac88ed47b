/- Lemmas: what they ask stands in their statements. -/
import Derived.Test.YtcjoflcajgaifaaGreatDoorOQe
set_option linter.unusedSimpArgs false
set_option linter.unusedVariables false
namespace Go.Num
open Go Go.Kn
section
variable {a o:Int} {d:Nat→Int} {n:Nat}
theorem VR (t:Int) (i:Nat) (r:Nat→Int):jZ a o d n i (fun k=>t*r k)=fun k=>t*jZ a o d n i r k:=funext fun k=>by unfold jZ;grind
theorem PB (t:Int):∀ (m:Nat) (r:Nat→Int),pT a o d n m (fun k=>t*r k)=fun k=>t*pT a o d n m r k
 | 0,r=>rfl
 | m+1,r=>by
  show pT a o d n m (jZ a o d n m fun k=>t*r k)=_
  rw [VR,PB t m];rfl
theorem JC (ho:o*d n=a) (hd:∀ i,n<i→d i=0) {m:Nat} {r:Nat→Int} (hr:∀ k,m+1+n≤k→r k=0):∀ k,m+n≤k→jZ a o d n m r k=0:=fun k hk=>by
 unfold jZ shf;rcases Nat.lt_or_eq_of_le hk with h|h
 ·rw [hr k oo_,if_pos oo_,hd (k - m) oo_];grind
 rw [← h,if_pos oo_,show m+n - m=n by omega,← ho];grind
theorem CS (ho:o*d n=a) (hd:∀ i,n<i→d i=0):∀ (m:Nat) (r:Nat→Int),(∀ k,m+n≤k→r k=0)→∀ k,n≤k→pT a o d n m r k=0
 | 0,r,h=>fun k hk=>h k oo_
 | m+1,r,h=>CS ho hd m _ (JC ho hd h)
theorem VV (d:Nat→Int) (m:Nat) (t:Int):conv d (fun i=>t*(if i=m then 1 else 0))=fun k=>t*shf d m k:=by
 rw [pH];exact funext fun k=>by rw [vH]
theorem EU:∀ (m:Nat) (r:Nat→Int),∃ Q,lA Q∧∀ k,a ^ m*r k=conv d Q k+pT a o d n m r k
 | 0,r=>⟨fun _=>0,⟨0,fun _ _=>rfl⟩,fun k=>by
  rw [show conv d (fun _=>0) k=0 from jY fun i _=>Int.mul_zero _,Int.pow_zero,Int.one_mul,Int.zero_add];rfl⟩
 | m+1,r=>by
  obtain ⟨Q,hQ,h⟩:=EU m (jZ a o d n m r);refine ⟨fun i=>Q i+(a ^ m*o*r (m+n))*(if i=m then 1 else 0),X2 hQ ⟨m+1,fun i hi=>by show _*(if i=m then 1 else 0)=0;rw [if_neg oo_,Int.mul_zero]⟩,fun k=>?_⟩;have h1:=h k;rw [AQ,VV]
  show _=_+pT a o d n m (jZ a o d n m r) k
  unfold jZ at h1 ⊢;rw [Int.pow_succ]
  grind
theorem QJ (s:Nat→Int) (m:Nat) (ρ:Nat→Int) (k:Nat):conv s (jZ a o d n m ρ) k=a*conv s ρ k + -(o*ρ (m+n))*conv s (shf d m) k:=by
 have e:jZ a o d n m ρ=fun i=>(a*ρ i)+(-(o*ρ (m+n))*shf d m i):=funext fun i=>by unfold jZ;grind
 rw [e,AQ,pH,pH]
theorem JA {s:Nat→Int} {ds:Nat} {sa os:Int} (hs:∀ i,ds<i→s i=0) (hso:os*s ds=sa) (ho:o*d n=a) (hd:∀ i,n<i→d i=0) :
  ∀ (m:Nat) (ρ:Nat→Int),(∀ k,m+n≤k→ρ k=0)→pT (sa*a) (os*o) (conv s d) (ds+n) m (conv s ρ)=fun k=>sa ^ m*conv s (pT a o d n m ρ) k
 | 0,ρ,_=>funext fun k=>by rw [Int.pow_zero,Int.one_mul];rfl
 | m+1,ρ,h=>by
  have e:jZ (sa*a) (os*o) (conv s d) (ds+n) m (conv s ρ)=fun k=>sa*conv s (jZ a o d n m ρ) k:=funext fun k=>by
   rw [QJ];unfold jZ;rw [show m+(ds+n)=ds+(m+n) by omega,l9 hs (m:=m+n) (fun i hi=>h i oo_),← vH (conv s d),FD,show conv d (fun i=>if i=m then 1 else 0)=shf d m from funext fun i=>vH d m i,← hso]
   grind
  show pT _ _ _ _ m (jZ _ _ _ _ m _)=_
  rw [e,PB,JA hs hso ho hd m _ (JC ho hd h)]
  funext k
  show sa*(sa ^ m*conv s (pT a o d n m (jZ a o d n m ρ)) k)=sa ^ (m+1)*conv s (pT a o d n m (jZ a o d n m ρ)) k
  rw [Int.pow_succ];grind
theorem PE {B R:Nat} (ha:a.natAbs≤B) (ho:o.natAbs≤1) (hd:∀ k,(d k).natAbs≤B) {r:Nat→Int} (hr:∀ k,(r k).natAbs≤R) (i k:Nat):(jZ a o d n i r k).natAbs≤2*B*R:=by
 unfold jZ
 have h1:(a*r k).natAbs≤B*R:=by rw [Int.natAbs_mul];exact Nat.mul_le_mul ha (hr k)
 have h2:(o*r (i+n)*shf d i k).natAbs≤B*R:=by
  have h3:(shf d i k).natAbs≤B:=by
   unfold shf;split
   ·exact hd _
   exact Nat.zero_le _
  rw [Int.natAbs_mul,Int.natAbs_mul,Nat.mul_comm B];refine Nat.mul_le_mul ?_ h3;have:=Nat.mul_le_mul ho (hr (i+n));omega
 have e:2*B*R=B*R+B*R:=by rw [Nat.mul_assoc,Nat.two_mul]
 omega
theorem MA {B:Nat} (ha:a.natAbs≤B) (ho:o.natAbs≤1) (hd:∀ k,(d k).natAbs≤B):∀ (m R:Nat) (r:Nat→Int),(∀ k,(r k).natAbs≤R)→∀ k,(pT a o d n m r k).natAbs≤(2*B) ^ m*R
 | 0,R,r,h=>fun k=>by rw [Nat.pow_zero,Nat.one_mul];exact h k
 | m+1,R,r,h=>fun k=>by
  have:=MA ha ho hd m _ _ (PE (n:=n) ha ho hd h m) k;rw [Nat.pow_succ,Nat.mul_assoc];exact this
theorem KD {B:Nat} (hB:1≤B) (ha:a.natAbs≤B) (ho:o.natAbs≤1) (hd:∀ k,(d k).natAbs≤B):∀ (m R:Nat) (r:Nat→Int),(∀ k,(r k).natAbs≤R)→(2*B) ^ m*R<4294967296 ^ 16→RemB a o d n m r
 | 0,R,r,h,hb=>fun k=>Nat.lt_of_le_of_lt (h k) (by rwa [Nat.pow_zero,Nat.one_mul] at hb)
 | m+1,R,r,h,hb=>by
  rw [Nat.pow_succ,Nat.mul_assoc] at hb;have h1:1≤(2*B) ^ m:=Nat.pow_pos oo_;have h2:=Nat.mul_le_mul_right (2*B*R) h1;have h3:=Nat.mul_le_mul_right R hB
  have e:2*B*R=B*R+B*R:=by rw [Nat.mul_assoc,Nat.two_mul]
  have ho':(o*r (m+n)).natAbs≤R:=by
   rw [Int.natAbs_mul];have:=Nat.mul_le_mul ho (h (m+n));omega
  refine ⟨fun k=>?_,?_,fun k=>?_,fun k=>?_,KD hB ha ho hd m _ _ (PE ha ho hd h m) hb⟩
  ·have:=h k
   unfold B512;omega
  ·unfold B512;omega
  ·have:(a*r k).natAbs≤B*R:=by rw [Int.natAbs_mul];exact Nat.mul_le_mul ha (h k)
   unfold B512;omega
  have:(o*r (m+n)*d k).natAbs≤B*R:=by rw [Int.natAbs_mul,Nat.mul_comm B];exact Nat.mul_le_mul ho' (hd k)
  unfold B512;omega
theorem EB {c e:Nat→Int} {N A B:Nat} (hc:∀ k,(c k).natAbs≤A) (he:∀ k,(e k).natAbs≤B) (hz:∀ i,N≤i→c i=0) (k:Nat):(conv c e k).natAbs≤N*(A*B):=by
 unfold conv
 have ht:∀ i,(c i*e (k - i)).natAbs≤A*B:=fun i=>by rw [Int.natAbs_mul];exact Nat.mul_le_mul (hc i) (he _)
 by_cases h:N≤k+1
 ·rw [nS (n:=N) (fun i hi=>by rw [hz i hi,Int.zero_mul]) (k+1) h]
  exact MR ht N
 exact Nat.le_trans (MR ht _) (Nat.mul_le_mul_right _ oo_)
theorem NR {c e:Nat→Int} {N M A B:Nat} (hc:∀ k,(c k).natAbs≤A) (he:∀ k,(e k).natAbs≤B) (hz:∀ i,N<i→c i=0) (hy:∀ i,M<i→e i=0) (k:Nat):(conv c e k).natAbs≤(min N M+1)*(A*B):=by
 by_cases h:N≤M
 ·rw [show min N M=N by omega]
  exact EB hc he (fun i hi=>hz i oo_) k
 rw [show min N M=M by omega,qE,Nat.mul_comm A];exact EB he hc (fun i hi=>hy i oo_) k
end
def okT (S ds G:Nat):Nat→Nat→Nat→Nat→Nat→Bool
 | 0,_,_,_,_=>false
 | f+1,n0,n1,M0,M1=>decide (M0≤G)&&decide (M1≤G)&&(List.range (n1+1)).all fun n =>
  decide (1≤(min ds n+1)*(S*(if n=0 then 1 else M1)))&&decide ((2*((min ds n+1)*(S*(if n=0 then 1 else M1)))) ^ (n0+1 - n)*((min ds n0+1)*(S*M0))<4294967296 ^ 16)&&(decide (n=0)||okT S ds G f n (n - 1) (if n=0 then 1 else M1) (if n=1 then 1 else (2*(if n=0 then 1 else M1)) ^ (n0+1 - n)*M0))
structure Pr (c:Nat→Int) (n M:Nat):Prop where
 z:∀ i,n<i→c i=0
 b:∀ k,(c k).natAbs≤M
 p:Cop c ∨ ∀ k,c k=0
theorem Pr.e {c:Nat→Int} {n M:Nat} (h:Pr c n M):lA c:=⟨n+1,fun i hi=>h.z i hi⟩
theorem Po.top {p:List I} {c:Nat→Int} (h:Po p c) (h0:p≠[]):∃ n,p.length=n+1∧c n≠0∧∀ i,n<i→c i=0:=by
 obtain ⟨n,hn⟩:∃ n,p.length=n+1:=⟨p.length - 1,by have:=List.length_pos_iff.2 h0;omega⟩;exact ⟨n,hn,h.last hn,fun i hi=>h.zero oo_⟩
theorem Po.ends {p:List I} {c:Nat→Int} (h:Po p c):lA c:=⟨p.length,fun i hi=>h.zero hi⟩
theorem HD {c:Nat→Int} (h:lA c):(∀ k,c k=0) ∨ ∃ n,c n≠0∧∀ i,n<i→c i=0:=by
 by_cases h0:ZP c h=QP.C 0
 ·left
  intro k;have e:=congrArg (fun x:QP=>x.c k) h0;simp only [j6,QP.C0_c] at e;exact Rat.intCast_eq_zero_iff.1 e
 obtain ⟨n,hn⟩:=QP.ex_dg h0;exact .inr ⟨n,ff_ hn⟩
theorem Po.len_top {p:List I} {c:Nat→Int} (h:Po p c) {n:Nat} (h0:c n≠0) (h1:∀ i,n<i→c i=0):p.length=n+1:=by
 have h2:p.length≤n+1:=h.short fun k hk=>h1 k hk;have h3:¬ p.length≤n:=fun hx=>h0 (h.zero hx);omega
theorem m9 {c d:Nat→Int} (h:∀ k,d k=0) (k:Nat):conv c d k=0:=jY fun i _=>by rw [h,Int.mul_zero]
theorem B9 {c:Nat→Int} (h:Cop c):¬ ∀ k,c k=0:=fun hz=>by
 have:=h 0 fun k=>by rw [hz];exact Int.dvd_refl 0
 exact absurd (Int.zero_dvd.1 this) dd_
theorem B8 {c:Nat→Int} (h:Cop c) (hz:∀ i,0<i→c i=0):(c 0).natAbs=1:=by
 have:=h (c 0) fun k=>by
  rcases Nat.eq_zero_or_pos k with e|e
  ·rw [e];exact Int.dvd_refl _
  rw [hz k e];exact Int.dvd_zero _
 have h2:(c 0).natAbs ∣ 1:=Int.natAbs_dvd_natAbs.2 this;exact Nat.dvd_one.1 h2
theorem CA {s c:Nat→Int} (h:Cop (conv s c)):Cop c:=fun u hu=>h u fun k=>MQ fun i _=>Int.dvd_trans (hu _) (Int.dvd_mul_left ..)
theorem C7 {s c d:Nat→Int} (hs:Cop s) (es:lA s) (ec:lA c) (ed:lA d) (h:∀ k,conv s c k=conv s d k):∀ k,c k=d k:=by
 have hne:ZP s es≠QP.C 0:=fun e=>B9 hs fun k=>by
  have e1:=congrArg (fun x:QP=>x.c k) e;simp only [j6,QP.C0_c] at e1;exact Rat.intCast_eq_zero_iff.1 e1
 have h1:ZP s es*ZP c ec=ZP s es*ZP d ed:=by rw [← oN,← oN];exact NE _ _ h
 intro k;have e1:=congrArg (fun x:QP=>x.c k) (QP.mul_can hne h1);simp only [j6] at e1;exact Rat.intCast_inj.1 e1
open Go Go.Kn
theorem KG (x y:Int):((x*y).natAbs:Int)=(x.natAbs:Int)*(y.natAbs:Int):=by rw [Int.natAbs_mul,Int.natCast_mul]
theorem W2 {p:List I} {c:Nat→Int} (h:Po p c) {u:Int} (hu:∀ k,u ∣ c k):u ∣ ((cN p:Nat):Int):=zV p 0 (Int.dvd_zero _) fun x hx=>by
 obtain ⟨k,hk⟩:=h.mem hx;rw [hk];exact hu k
theorem Pr.neg {c:Nat→Int} {n M:Nat} (h:Pr c n M):Pr (fun k=>-(c k)) n M:=⟨fun i hi=>by rw [h.z i hi];rfl,fun k=>by rw [Int.natAbs_neg];exact h.b k,by
 rcases h.p with h1|h1
 ·exact .inl fun u hu=>h1 u fun k=>Int.dvd_neg.1 (hu k)
 exact .inr fun k=>by rw [h1 k];rfl⟩
section
variable {σ:Nat→Int} {ds S G:Nat}
theorem UZ (hσ:Cop σ) (hs0:σ ds≠0) (hs:∀ i,ds<i→σ i=0) (hS:∀ k,(σ k).natAbs≤S) {a b:List I} {α β:Nat→Int} {n n0 M0 M1:Nat} (ha:Po a (conv σ α)) (hb:Po b (conv σ β)) (pa:Pr α n0 M0) (hβ0:β n≠0) (hβ:∀ i,n<i→β i=0) (hB:∀ k,(β k).natAbs≤M1)
  (h1:1≤(min ds n+1)*(S*M1)) (hd:(2*((min ds n+1)*(S*M1))) ^ (n0+1 - n)*((min ds n0+1)*(S*M0))<4294967296 ^ 16) :
  ∃ (γ:Nat→Int) (w t:Int) (Q:Nat→Int),Po (aC (aX a b)) (conv σ γ)∧Pr γ (n - 1) ((2*M1) ^ (n0+1 - n)*M0)∧(n=0→∀ k,γ k=0)∧lA Q∧w≠0∧t≠0∧∀ k,w*α k=conv β Q k+t*γ k:=by
 have es:lA σ:=⟨ds+1,fun i hi=>hs i hi⟩;have etop:conv σ β (ds+n)=σ ds*β n:=l9 hs hβ;have hbn:b.length=ds+n+1:=hb.len_top (by rw [etop];exact Int.mul_ne_zero hs0 hβ0) fun i hi=>lB (n:=ds+1) (m:=n+1) (fun j hj=>hs j hj) (fun j hj=>hβ j hj) i oo_
 obtain ⟨m,hm,hm0,hαm⟩:∃ m,a.length - (ds+n)=m∧m≤n0+1 - n∧∀ k,m+n≤k→α k=0:=by
  rcases HD pa.e with h0|⟨l,h0,h2⟩
  ·refine ⟨0,?_,Nat.zero_le _,fun k _=>h0 k⟩
   rw [ha.nil fun k=>m9 h0 k];exact Nat.zero_sub _
  have hl:l≤n0:=Nat.le_of_not_lt fun hx=>h0 (pa.z l hx);have:a.length=ds+l+1:=ha.len_top (by rw [l9 hs h2];exact Int.mul_ne_zero hs0 h0) fun i hi=>lB (n:=ds+1) (m:=l+1) (fun j hj=>hs j hj) (fun j hj=>h2 j hj) i oo_;exact ⟨l+1 - n,by omega,by omega,fun k hk=>h2 k oo_⟩
 have hM1:1≤M1:=by have:=hB n;omega
 have cB:∀ k,(conv σ β k).natAbs≤(min ds n+1)*(S*M1):=NR hS hB hs hβ;have cA:∀ k,(conv σ α k).natAbs≤(min ds n0+1)*(S*M0):=NR hS pa.b hs pa.z;have hRB:RemB ((conv σ β (ds+n)).natAbs:Int) (conv σ β (ds+n)).sign (conv σ β) (ds+n) m (conv σ α) :=
  KD h1 (by rw [Int.natAbs_natCast];exact cB _) (PI _) cB m _ _ cA (Nat.lt_of_le_of_lt (Nat.mul_le_mul_right _ (Nat.pow_le_pow_right oo_ hm0)) hd)
 have hR:=WF ha hb hbn (by rw [hm];exact hRB);rw [hm,etop,Int.sign_mul,KG] at hR;have hlc:(β n).sign*β n=((β n).natAbs:Int):=GY _;rw [JA (n:=n) hs (GY (σ ds)) hlc hβ m α hαm] at hR;obtain ⟨Q,hQ,hQe⟩:=EU (a:=((β n).natAbs:Int)) (o:=(β n).sign) (d:=β) (n:=n) m α;have hρz:=CS hlc hβ m α hαm;have hρb:=MA (n:=n) (a:=((β n).natAbs:Int)) (o:=(β n).sign) (d:=β) (by rw [Int.natAbs_natCast];exact hB n) (PI _) hB m M0 α pa.b;have hw:((β n).natAbs:Int) ^ m≠0:=Int.pow_ne_zero oo_;have hu:((σ ds).natAbs:Int) ^ m≠0:=Int.pow_ne_zero oo_;have hMm:(2*M1) ^ m*M0≤(2*M1) ^ (n0+1 - n)*M0:=Nat.mul_le_mul_right _ (Nat.pow_le_pow_right oo_ hm0);generalize pT ((β n).natAbs:Int) (β n).sign β n m α=ρ at *;have eρ:lA ρ:=⟨n,hρz⟩
 by_cases hz:aX a b=[]
 ·have hρ0:∀ k,ρ k=0:=by
   refine C7 hσ es eρ ⟨0,fun i _=>rfl⟩ (d:=fun _=>0) fun k=>?_;rw [m9 (fun _=>rfl)];have:=hR.zero (k:=k) (by rw [hz];exact Nat.zero_le _);exact (Int.mul_eq_zero.1 this).resolve_left hu
  refine ⟨fun _=>0,((β n).natAbs:Int) ^ m,1,Q,?_,⟨fun _ _=>rfl,fun _=>Nat.zero_le _,.inr fun _=>rfl⟩,fun _ _=>rfl,hQ,hw,by decide,fun k=>by rw [hQe k,hρ0 k];rfl⟩;refine (tS hR).cast fun k=>?_;rw [m9 (fun _=>rfl),hR.zero (k:=k) (by rw [hz];exact Nat.zero_le _),Int.zero_fdiv]
 obtain ⟨P,hP,hC,hE⟩:∃ P:Nat→Int,Po (aC (aX a b)) P∧Cop P∧∀ k,((cN (aX a b):Nat):Int)*P k=((σ ds).natAbs:Int) ^ m*conv σ ρ k:=⟨_,tS hR,GK hR hz,xO hR⟩;have hcp:=hR.cpos hz;obtain ⟨t,ht⟩:=W2 hR (u:=((σ ds).natAbs:Int) ^ m) fun k=>Int.dvd_mul_right ..
 have ht0:t≠0:=fun e=>by rw [e,Int.mul_zero] at ht;omega
 have hE':∀ k,t*P k=conv σ ρ k:=fun k=>by
  have:=hE k;rw [ht,Int.mul_assoc] at this;exact Int.eq_of_mul_eq_mul_left hu this
 have eP:=hP.ends
 obtain ⟨γ,eγ,hγ⟩:=zW hσ es eP (by
  refine QP.Dv.scale (t:=(t:Rat)) (fun e=>ht0 (Rat.intCast_eq_zero_iff.1 e)) ⟨ZP ρ eρ,?_⟩;rw [← dt_ eP,← oN es eρ]
  exact NE _ _ hE')
 have hPe:P=conv σ γ:=funext hγ
 have htγ:∀ k,t*γ k=ρ k:=C7 hσ es (NV eγ t) eρ fun k=>by rw [pH];show t*conv σ γ k=_;rw [← hγ,hE']
 refine ⟨γ,((β n).natAbs:Int) ^ m,t,Q,hP.cast hγ,⟨fun i hi=>?_,fun k=>?_,.inl (CA (hPe ▸ hC))⟩,fun hn k=>?_,hQ,hw,ht0,fun k=>by rw [hQe k,htγ k]⟩
 ·have:=hρz i oo_
  rw [← htγ] at this;exact (Int.mul_eq_zero.1 this).resolve_left ht0
 ·refine Nat.le_trans ?_ (Nat.le_trans (hρb k) hMm)
  rw [← htγ,Int.natAbs_mul];exact Nat.le_mul_of_pos_left _ oo_
 have:=hρz k oo_;rw [← htγ] at this;exact (Int.mul_eq_zero.1 this).resolve_left ht0
theorem SU (p q:List I) (k:Nat) (a:List I):cT p q k a [] = .inl (a,[]):=by cases k<;>rfl
def Gd (α β γ:QP):Prop:=∀ e,(QP.Dv e α∧QP.Dv e β) ↔ QP.Dv e γ
theorem LF {α β γ Q:Nat→Int} (ea:lA α) (eb:lA β) (ec:lA γ) (eQ:lA Q) {w t:Int} (hw:w≠0) (ht:t≠0) (h:∀ k,w*α k=conv β Q k+t*γ k) {δ:QP} (hg:Gd (ZP β eb) (ZP γ ec) δ):Gd (ZP α ea) (ZP β eb) δ:=fun e=>by
 have hw':(w:Rat)≠0:=fun e=>hw (Rat.intCast_eq_zero_iff.1 e);have ht':(t:Rat)≠0:=fun e=>ht (Rat.intCast_eq_zero_iff.1 e)
 have E1:QP.C w*ZP α ea=ZP β eb*ZP Q eQ+QP.C t*ZP γ ec:=QP.ex fun k=>by
  rw [QP.C_mul,QP.add_c,QP.C_mul,← oN,j6,j6,j6,← Rat.intCast_mul,← Rat.intCast_mul,h k,Rat.intCast_add]
 rw [← hg e]
 constructor
 ·rintro ⟨h1,h2⟩
  refine ⟨h2,QP.Dv.scale ht' ?_⟩
  have h3:QP.C t*ZP γ ec=QP.C w*ZP α ea+QP.C (-1)*(ZP β eb*ZP Q eQ):=by
   rw [E1];exact QP.ex fun k=>by simp only [QP.add_c,QP.C_mul];grind
  rw [h3];exact (h1.mul_l _).add ((h2.mul _).mul_l _)
 rintro ⟨h1,h2⟩;refine ⟨QP.Dv.scale hw' ?_,h1⟩;rw [E1];exact (h1.mul _).add (h2.mul_l _)
theorem LG {α β:Nat→Int} (ea:lA α) (eb:lA β) (h:∀ k,β k=0):Gd (ZP α ea) (ZP β eb) (ZP α ea):=fun e=>by
 have:ZP β eb=QP.C 0:=QP.ex fun k=>by rw [j6,h,QP.C0_c];rfl
 exact ⟨fun h=>h.1,fun h=>⟨h,by rw [this];exact .zero e⟩⟩
theorem ZQ {f n0 n1 M0 M1 n:Nat} (h:okT S ds G (f+1) n0 n1 M0 M1=true) (hn:n≤n1):M0≤G∧M1≤G∧1≤(min ds n+1)*(S*(if n=0 then 1 else M1))∧(2*((min ds n+1)*(S*(if n=0 then 1 else M1)))) ^ (n0+1 - n)*((min ds n0+1)*(S*M0))<4294967296 ^ 16∧(n=0∨okT S ds G f n (n - 1) (if n=0 then 1 else M1) (if n=1 then 1 else (2*(if n=0 then 1 else M1)) ^ (n0+1 - n)*M0)=true):=by
 unfold okT at h;rw [Bool.and_eq_true,Bool.and_eq_true,List.all_eq_true] at h;obtain ⟨⟨h1,h2⟩,h3⟩:=h;have h4:=h3 n (List.mem_range.2 oo_);rw [Bool.and_eq_true,Bool.and_eq_true,Bool.or_eq_true] at h4;obtain ⟨⟨h5,h6⟩,h7⟩:=h4;exact ⟨of_decide_eq_true h1,of_decide_eq_true h2,of_decide_eq_true h5,of_decide_eq_true h6,h7.imp of_decide_eq_true id⟩
theorem YH (hσ:Cop σ) (hs0:σ ds≠0) (hs:∀ i,ds<i→σ i=0) (hS:∀ k,(σ k).natAbs≤S) (p q:List I):∀ (f n0 n1 M0 M1 k:Nat) (a b:List I) (α β:Nat→Int) (pa:Pr α n0 M0) (pb:Pr β n1 M1),okT S ds G f n0 n1 M0 M1=true→Po a (conv σ α)→Po b (conv σ β)→gmP b<k →
  ∃ (a' b':List I) (γ:Nat→Int) (n:Nat) (pc:Pr γ n G),cT p q k a b = .inl (a',b')∧Po a' (conv σ γ)∧Gd (ZP α pa.e) (ZP β pb.e) (ZP γ pc.e)
 | 0,_,_,_,_,_,_,_,_,_,_,_,h,_,_,_=>absurd h (by unfold okT;decide)
 | f+1,n0,n1,M0,M1,0,a,b,α,β,pa,pb,h,ha,hb,hk=>absurd hk (Nat.not_lt_zero _)
 | f+1,n0,n1,M0,M1,k+1,a,b,α,β,pa,pb,h,ha,hb,hk=>by
  rcases HD pb.e with h0|⟨n,h0,h2⟩
  ·have:b=[]:=hb.nil fun k=>m9 h0 k
   subst this;obtain ⟨g1,g2,_⟩:=ZQ h (Nat.zero_le _);exact ⟨a,[],α,n0,⟨pa.z,fun k=>Nat.le_trans (pa.b k) g1,pa.p⟩,rfl,ha,LG _ _ h0⟩
  have hn1:n≤n1:=Nat.le_of_not_lt fun hx=>h0 (pb.z n hx);obtain ⟨g1,g2,g3,g4,g5⟩:=ZQ h hn1;have hcb:Cop β:=pb.p.resolve_right fun hx=>h0 (hx n)
  have hbb:∀ k,(β k).natAbs≤(if n=0 then 1 else M1):=fun k=>by
   split
   ·next e =>
    subst e;rcases Nat.eq_zero_or_pos k with e|e
    ·rw [e,B8 hcb h2];exact Nat.le_refl _
    rw [h2 k e];exact Nat.zero_le _
   exact pb.b k
  generalize (if n=0 then 1 else M1)=B at *;obtain ⟨γ,w,t,Q,c1,c2,c3,c4,c5,c6,c7⟩:=UZ hσ hs0 hs hS ha hb pa h0 h2 hbb g3 g4
  have hbl:0<b.length:=by
   rcases Nat.eq_zero_or_pos b.length with e|e
   ·exact absurd (hb.zero (k:=ds+n) oo_) (by rw [l9 hs h2];exact Int.mul_ne_zero hs0 h0)
   exact e
  have d1:decide (0<(b.length:Int))=true:=decide_eq_true oo_
  have d2:(aS a||aS b)=false:=by rw [ha.nb,hb.nb];rfl
  have d3:=EE ⟨ha.l,hb.l⟩ d2 d1
  have e1:cT p q (k+1) a b=cT p q k b (aC (aX a b)):=by
   conv=>lhs;unfold cT
   rw [d1,d2];rfl
  have hpb:Pr β n B:=⟨h2,hbb,.inl hcb⟩;rcases g5 with hn|g5
  ·have hz:=c3 hn
   have:aC (aX a b)=[]:=c1.nil fun k=>m9 hz k;rw [e1,this,SU];exact ⟨b,[],β,n1,⟨pb.z,fun k=>Nat.le_trans (pb.b k) g2,pb.p⟩,rfl,hb,LF pa.e pb.e c2.e c4 c5 c6 c7 (LG _ _ hz)⟩
  rw [e1]
  have c2':Pr γ (n - 1) (if n=1 then 1 else (2*B) ^ (n0+1 - n)*M0):=⟨c2.z,fun k=>by
   split
   ·next e =>
    subst e;rcases c2.p with h3|h3
    ·rcases Nat.eq_zero_or_pos k with e|e
     ·rw [e,B8 h3 c2.z];exact Nat.le_refl _
     rw [c2.z k e];exact Nat.zero_le _
    rw [h3 k];exact Nat.zero_le _
   exact c2.b k,c2.p⟩
  obtain ⟨a',b',γ',n',pc,r1,r2,r3⟩:=YH hσ hs0 hs hS p q f n (n - 1) B _ k b _ β γ hpb c2' g5 hb c1 oo_;exact ⟨a',b',γ',n',pc,r1,r2,LF pa.e pb.e c2.e c4 c5 c6 c7 r3⟩
theorem aT_ (hσ:Cop σ) (hs0:σ ds≠0) (hs:∀ i,ds<i→σ i=0) (hS:∀ k,(σ k).natAbs≤S) {p q:List I} {f n0 n1 M0 M1:Nat} {α β:Nat→Int} (pa:Pr α n0 M0) (pb:Pr β n1 M1) (h:okT S ds G f n0 n1 M0 M1=true) (ha:Po (aC p) (conv σ α)) (hb:Po (aC q) (conv σ β)) :
  ∃ (γ:Nat→Int) (n:Nat) (pc:Pr γ n G),Po (aM p q) (conv σ γ)∧Gd (ZP α pa.e) (ZP β pb.e) (ZP γ pc.e)∧∀ m,(∀ i,m<i→conv σ γ i=0)→0≤conv σ γ m:=by
 obtain ⟨a',b',γ,n,pc,r1,r2,r3⟩:=YH hσ hs0 hs hS p q f n0 n1 M0 M1 (gmP (aC q)+1) _ _ α β pa pb h ha hb (Nat.lt_succ_self _);unfold aM;rw [r1]
 show ∃ (γ:Nat→Int) (n:Nat) (pc:Pr γ n G),Po (bif (((a'.length:Int)==0)||decide (0<(Z.signW (a'.getD (a'.length - 1) I0).dec).1)) then a' else eM ([]:List I) a' (fun (y:I) (z:I)=>E (Z.sub y.dec z.dec))) (conv σ γ)∧_
 by_cases h0:a'=[]
 ·subst h0
  rw [show (([]:List I).length:Int)==0 from rfl,Bool.true_or,cond_true];exact ⟨γ,n,pc,r2,r3,fun m hm=>by rw [r2.zero (Nat.zero_le _)];exact Int.le_refl _⟩
 obtain ⟨t,t1,t2,t3⟩:=r2.top h0;rw [show ((a'.length:Int)==0)=false from beq_eq_false_iff_ne.2 oo_,Bool.false_or,t1,Nat.add_sub_cancel,r2.get,bW,i6 (r2.B t)]
 have key:∀ m,(∀ i,m<i→conv σ γ i=0)→conv σ γ m=0∨m=t:=fun m hm=>by
  rcases Nat.lt_trichotomy m t with h1|h1|h1
  ·exact absurd (hm t h1) t2
  ·exact .inr h1
  exact .inl (t3 m h1)
 by_cases hp:0<(conv σ γ t).sign
 ·rw [decide_eq_true hp,cond_true]
  refine ⟨γ,n,pc,r2,r3,fun m hm=>?_⟩;rcases key m hm with h1|h1
  ·rw [h1];exact Int.le_refl _
  rw [h1];have:=Int.sign_pos_iff.1 hp;omega
 rw [decide_eq_false hp,cond_false]
 have hn:conv σ (fun k=>-(γ k))=fun k=>-(conv σ γ k):=by
  have:=pH (-1:Int) σ γ;rw [show (fun k=>-(γ k))=fun k=>-1*γ k from funext fun k=>by rw [Int.neg_one_mul],this]
  exact funext fun k=>by rw [Int.neg_one_mul]
 refine ⟨fun k=>-(γ k),n,pc.neg,?_,fun e=>?_,fun m hm=>?_⟩
 ·rw [hn]
  exact KY BY r2 (fun k=>by rw [bW,bW,MP B0 (r2.B k),Int.zero_sub]) (fun k=>by have:=r2.B k;unfold B512 at *;rwa [Int.natAbs_neg]) (fun k _ h=>by rw [h];rfl)
 ·rw [r3 e]
  have e1:ZP (fun k=>-(γ k)) pc.neg.e=QP.C (-1)*ZP γ pc.e:=QP.ex fun k=>by rw [QP.C_mul,j6,j6,Rat.intCast_neg,Rat.neg_mul,Rat.one_mul]
  rw [e1];exact ⟨fun h=>h.mul_l _,fun h=>h.scale dd_⟩
 rw [hn] at hm ⊢
 show 0 ≤ -(conv σ γ m)
 rcases key m (fun i hi=>by have h:-(conv σ γ i)=0:=hm i hi;omega) with h1|h1
 ·rw [h1];decide
 rw [h1];have:¬ 0<conv σ γ t:=fun hx=>hp (Int.sign_pos_iff.2 hx);omega
end
open Go Go.Kn
theorem e2_ {q:Rat} {n d:Int} {k:Nat} (h:(n:Rat)=(d:Rat)*q) (h0:0<d) (hn:n.natAbs<2 ^ k) (hd:d.natAbs<2 ^ k):Sz q k:=by
 have e:=congrArg Int.natAbs (CJ h);rw [Int.natAbs_mul,Int.natAbs_mul,Int.natAbs_natCast] at e;have hr:=q.reduced;have k1:q.den ∣ d.natAbs:=(Nat.Coprime.symm hr).dvd_of_dvd_mul_left (by rw [e];exact Nat.dvd_mul_left ..);have k2:q.num.natAbs ∣ n.natAbs:=Nat.Coprime.dvd_of_dvd_mul_right hr (by rw [← e];exact Nat.dvd_mul_right ..);refine ⟨?_,Nat.lt_of_le_of_lt (Nat.le_of_dvd oo_ k1) hd⟩
 by_cases hz:n.natAbs=0
 ·rw [hz,Nat.zero_mul] at e
  rcases Nat.mul_eq_zero.1 e with h1|h1
  ·rw [h1];exact Nat.pow_pos dd_
  omega
 exact Nat.lt_of_le_of_lt (Nat.le_of_dvd oo_ k2) hn
def ff (i:Int):Nat→Int
 | 0=>1
 | k+1=>ff i k*(i - k)
def fac:Nat→Int
 | 0=>1
 | n+1=>fac n*((n+1:Nat):Int)
def wt (n i k:Nat):Int:=ff i k*fac (n - k)
def bs (γ:Nat→Int) (n i:Nat):Int:=gN (fun k=>wt n i k*γ k) (i+1)
section
variable {p:List I} {a b:Rt} {γ:Nat→Int} {n B:Nat}
theorem ZI {v:Int} (h:B512 v):(E (Z.of v)).1.bad=false:=by
 have:=QT h;unfold gdI at this;rw [Bool.and_eq_true] at this
 simpa using this.1
theorem I8 {u v G:Int} (hu:B512 u) (hG:B512 G) (h0:0<G) (h:G*v=u):Z.quo (Z.of u) (Z.of G)=Z.of v:=by
 rw [tT hu hG h0,← h,Int.mul_ediv_cancel_left _ oo_]
end
open Go Go.Kn
def cut (F:Nat→Int) (k i:Nat):Int:=if i<k then F i else 0
theorem AT (g F:Nat→Int) (k j:Nat):conv g (cut F (k+1)) j=conv g (cut F k) j+F k*shf g k j:=by
 have h:=QK g (cut F (k+1)) k j fun i hi=>by unfold cut;rw [if_neg oo_]
 rw [h]
 have e1:cut F (k+1) k=F k:=by unfold cut;rw [if_pos oo_]
 have e2:(fun i=>if i<k then cut F (k+1) i else 0)=cut F k:=funext fun i=>by
  unfold cut
  by_cases h:i<k
  ·rw [if_pos h,if_pos h,if_pos oo_]
  rw [if_neg h,if_neg h]
 rw [e1,e2]
theorem KR {F:Nat→Int} {m:Nat} (hF:∀ i,m<i→F i=0):cut F (m+1)=F:=funext fun i=>by
 unfold cut
 split
 ·rfl
 exact (hF i oo_).symm
theorem dF_ {F:Nat→Int} {A:Nat} (hA:∀ i,(F i).natAbs≤A) (k i:Nat):(cut F k i).natAbs≤A:=by
 unfold cut
 split
 ·exact hA i
 exact Nat.zero_le _
theorem LU {a:List I} {c:Nat→Int} (h:Po a c):∃ e:Int,(e=1∨e = -1)∧Po (bif (((a.length:Int)==0)||decide (0<(Z.signW (a.getD (a.length - 1) I0).dec).1)) then a else eM ([]:List I) a (fun (y:I) (z:I)=>E (Z.sub y.dec z.dec))) (fun k=>e*c k)∧∀ m,(∀ i,m<i→c i=0)→0≤e*c m:=by
 by_cases h0:a=[]
 ·subst h0
  rw [show (([]:List I).length:Int)==0 from rfl,Bool.true_or,cond_true];exact ⟨1,.inl O,h.cast fun k=>(Int.one_mul _).symm,fun m hm=>by rw [h.zero (Nat.zero_le _)];decide⟩
 obtain ⟨t,t1,t2,t3⟩:=h.top h0;rw [show ((a.length:Int)==0)=false from beq_eq_false_iff_ne.2 oo_,Bool.false_or,t1,Nat.add_sub_cancel,h.get,bW,i6 (h.B t)]
 have key:∀ m,(∀ i,m<i→c i=0)→c m=0∨m=t:=fun m hm=>by
  rcases Nat.lt_trichotomy m t with h1|h1|h1
  ·exact absurd (hm t h1) t2
  ·exact .inr h1
  exact .inl (t3 m h1)
 by_cases hp:0<(c t).sign
 ·rw [decide_eq_true hp,cond_true]
  refine ⟨1,.inl O,h.cast fun k=>(Int.one_mul _).symm,fun m hm=>?_⟩;rw [Int.one_mul];rcases key m hm with h1|h1
  ·rw [h1];exact Int.le_refl _
  rw [h1];have:=Int.sign_pos_iff.1 hp;omega
 rw [decide_eq_false hp,cond_false];refine ⟨-1,.inr O,?_,fun m hm=>?_⟩
 ·refine KY BY h (fun k=>by rw [bW,bW,MP B0 (h.B k),Int.zero_sub,Int.neg_one_mul]) (fun k=>by have:=h.B k;unfold B512 at *;rwa [Int.neg_one_mul,Int.natAbs_neg]) (fun k _ h=>by rw [h];rfl)
 rcases key m hm with h1|h1
 ·rw [h1];decide
 rw [h1];have:¬ 0<c t:=fun hx=>hp (Int.sign_pos_iff.2 hx);omega
section
variable {P:List I} {g F:Nat→Int} {n m A B:Nat}
theorem SQ (hG:Po (aM P (aD P)) g) (hn:(aM P (aD P)).length=n+1) (hg0:0<g n) (hA:∀ i,(F i).natAbs≤A) (hB:∀ i,(g i).natAbs≤B) (hAB:(n+1)*(B*A)<4294967296 ^ 16) :
  ∀ (k fu:Nat) (i:Int) (r f:List I),i=(k:Int) - 1→k<fu→k≤m+1→r.length=n+m+1→f.length=m+1→(∀ j,r.getD j I0=E (Z.of (conv g (cut F k) j)))→(∀ j,k≤j→f.getD j I0=E (Z.of (F j))) →
  ∃ i' r' f',eB P fu i r f = .inl (i',r',f')∧f'.length=m+1∧∀ j,f'.getD j I0=E (Z.of (F j))
 | _,0,_,_,_,_,h,_,_,_,_,_=>absurd h (Nat.not_lt_zero _)
 | 0,fu+1,i,r,f,hi,hk,hkm,hr,hf,hrv,hfv=>by
  unfold eB;rw [decide_eq_false oo_,cond_false];exact ⟨i,r,f,rfl,hf,fun j=>hfv j (Nat.zero_le _)⟩
 | k+1,fu+1,i,r,f,hi,hk,hkm,hr,hf,hrv,hfv=>by
  have hi':i=(k:Int):=by omega
  have hgz:∀ j,n<j→g j=0:=fun j hj=>hG.zero oo_;have hAB1:B*A<4294967296 ^ 16:=Nat.lt_of_le_of_lt (Nat.le_mul_of_pos_left _ (Nat.succ_pos n)) hAB;have bc:∀ k j,B512 (conv g (cut F k) j):=fun k j=>Nat.lt_of_le_of_lt (EB hB (dF_ hA k) (fun i hi=>hgz i oo_) j) hAB
  have hshf:∀ j,(shf g k j).natAbs≤B:=fun j=>by
   unfold shf;split
   ·exact hB _
   exact Nat.zero_le _
  have bm:∀ j,B512 (F k*shf g k j):=fun j=>by
   refine Nat.lt_of_le_of_lt ?_ hAB1;rw [Int.natAbs_mul,Nat.mul_comm B];exact Nat.mul_le_mul (hA k) (hshf j)
  have hB1:1≤B:=by have:=hB n;omega
  have bF:B512 (F k):=Nat.lt_of_le_of_lt (Nat.le_trans (hA k) (Nat.le_mul_of_pos_left _ hB1)) hAB1
  have htop:conv g (cut F (k+1)) (n+k)=g n*F k:=by
   rw [l9 hgz fun i hi=>by unfold cut;rw [if_neg oo_]]
   congr 1
   unfold cut;rw [if_pos oo_]
  have hq:(E (Z.quo (r.getD (i.toNat+((aM P (aD P)).length - 1)) I0).dec ((aM P (aD P)).getD ((aM P (aD P)).length - 1) I0).dec))=E (Z.of (F k)):=by
   rw [hn,Nat.add_sub_cancel,show i.toNat+n=n+k by omega,hrv,hG.get,bW,bW,I8 (bc (k+1) _) (hG.B n) hg0 (v:=F k) htop.symm]
  unfold eB;rw [decide_eq_true oo_,cond_true];simp only;rw [hq]
  have hx:((f.set i.toNat (E (Z.of (F k)))).getD i.toNat I0).dec=Z.of (F k):=by rw [jL _ _ _ oo_,bW]
  have hfr:∀ j,frE (aM P (aD P)) r k (Z.of (F k)) j=E (Z.of (conv g (cut F k) j)):=fun j=>by
   unfold frE
   have e:conv g (cut F k) j=conv g (cut F (k+1)) j - F k*shf g k j:=by rw [AT];omega
   rw [hrv,KL hG k j,bW,bW,mK bF (c3_ hG k j),MP (bc _ _) (bm j),← e]
  rcases LD P i r f (E (Z.of (F k))) (g:=aM P (aD P)) O hi' ((aM P (aD P)).length+1) 0 r oo_ (Nat.zero_le _) O oo_ (fun j _=>rfl) with ⟨t',k',e1,e2,e3,e4⟩|⟨e1,j,j1,j2,j3⟩
  ·rw [e1]
   simp only [sm];rw [hx] at e3;refine SQ hG hn hg0 hA hB hAB k fu (i - 1) t' _ oo_ oo_ oo_ oo_ (by rw [List.length_set];exact hf) (fun j=>?_) (fun j hj=>?_)
   ·rw [e3 j]
    by_cases hj:k+0≤j∧j<k+(aM P (aD P)).length
    ·rw [if_pos hj,hfr]
    rw [if_neg hj,hrv,AT]
    have:shf g k j=0:=by
     unfold shf
     split
     ·exact hgz _ oo_
     rfl
    rw [this,Int.mul_zero,Int.add_zero]
   rw [show i.toNat=k by omega]
   by_cases hjk:j=k
   ·subst hjk;exact jL _ _ _ oo_
   rw [nE _ _ _ _ hjk];exact hfv j oo_
  rw [hx,hfr j,ZI (bc k j)] at j3
  cases j3
theorem V9 (hG:Po (aM P (aD P)) g) (hn:(aM P (aD P)).length=n+1) (hg0:0<g n) (hA:∀ i,(F i).natAbs≤A) (hB:∀ i,(g i).natAbs≤B) (hAB:(n+1)*(B*A)<4294967296 ^ 16)
  {ρ:Nat→Int} (hR:Po (aC P) ρ) (hρ:∀ k,ρ k=conv g F k) (hF0:F m≠0) (hF:∀ i,m<i→F i=0):∃ e:Int,(e=1∨e = -1)∧Po (aN P) (fun k=>e*F k)∧∀ m,(∀ i,m<i→F i=0)→0≤e*F m:=by
 have hgz:∀ j,n<j→g j=0:=fun j hj=>hG.zero oo_
 have hRl:(aC P).length=n+m+1:=hR.len_top (by rw [hρ,l9 hgz hF];exact Int.mul_ne_zero oo_ hF0) fun i hi=>by rw [hρ];exact lB (n:=n+1) (m:=m+1) (fun j hj=>hgz j hj) (fun j hj=>hF j hj) i oo_
 have hB1:1≤B:=by have:=hB n;omega
 have hAB1:B*A<4294967296 ^ 16:=Nat.lt_of_le_of_lt (Nat.le_mul_of_pos_left _ (Nat.succ_pos n)) hAB;have bF:∀ k,B512 (F k):=fun k=>Nat.lt_of_le_of_lt (Nat.le_trans (hA k) (Nat.le_mul_of_pos_left _ hB1)) hAB1;have hlen:=hR.l;unfold aN;rw [hG.nb,hR.nb,Bool.or_false,cond_false,show (((aC P).length:Int)==0)=false from beq_eq_false_iff_ne.2 oo_,cond_false]
 obtain ⟨i',r',f',e1,e2,e3⟩:=SQ hG hn hg0 hA hB hAB (m:=m) (m+1) ((aC P).length+2) (((List.replicate ((aC P).length - ((aM P (aD P)).length - 1)) I0).length:Int) - 1) (aC P) (List.replicate ((aC P).length - ((aM P (aD P)).length - 1)) I0) (by rw [List.length_replicate];omega) oo_ (Nat.le_refl _) hRl (by rw [List.length_replicate];omega) (fun j=>by rw [hR.get,hρ,KR hF]) (fun j hj=>by
  rw [hF j oo_,← aU_]
  exact lF (by rw [List.length_replicate];omega))
 rw [e1];simp only [sm]
 have hM:Po (bD f') F:=by rw [vO];exact zZ e3 bF fun k hk=>hF k oo_
 exact LU hM
end
def dI (c:Nat→Int) (k:Nat):Int:=((k+1:Nat):Int)*c (k+1)
theorem SI {c:Nat→Int} (h:lA c):lA (dI c):=by
 obtain ⟨n,h⟩:=h;exact ⟨n,fun i hi=>by unfold dI;rw [h _ oo_,Int.mul_zero]⟩
theorem cz_ {c:Nat→Int} (h:lA c):ZP (dI c) (SI h)=QP.D (ZP c h):=QP.ex fun k=>by rw [QP.D_c,j6,j6];unfold dI;rw [Rat.intCast_mul];rfl
theorem dQ_ {A B C:QP} (S:QP) (h:Gd A B C):Gd (S*A) (S*B) (S*C):=fun d=>by
 obtain ⟨c1,c2⟩:=(h C).2 (.refl C);obtain ⟨g,u,v,h1,h2,h3⟩:=QP.bezout A B;obtain ⟨k,hk⟩:=(h g).1 ⟨h2,h3⟩
 constructor
 ·rintro ⟨d1,d2⟩
  rw [hk,← QP.mul_assoc',h1,QP.mul_add',QP.lc' S u,QP.lc' S v];exact ((d1.mul_l u).add (d2.mul_l v)).mul k
 exact fun d1=>⟨d1.trans (c1.both S),d1.trans (c2.both S)⟩
theorem UN {c:Nat→Int} (h:lA c) (h0:¬ ∀ k,c k=0):ZP c h≠QP.C 0:=fun e=>h0 fun k=>by
 have e1:=congrArg (fun x:QP=>x.c k) e;simp only [j6,QP.C0_c] at e1;exact Rat.intCast_eq_zero_iff.1 e1
section
variable {σ:Nat→Int} {ds S G:Nat}
theorem eq_ (hσ:Cop σ) (hs0:σ ds≠0) (hs:∀ i,ds<i→σ i=0) (hS:∀ k,(σ k).natAbs≤S) {P:List I} {c:Nat→Int} (hP:Po P c) (h0:P≠[]) (hD:Po (aD P) (dI c)) {f n0 n1 M0 M1:Nat} {α β:Nat→Int} (pa:Pr α n0 M0) (pb:Pr β n1 M1) (h:okT S ds G f n0 n1 M0 M1=true) (ha:Po (aC P) (conv σ α)) (hb:Po (aC (aD P)) (conv σ β)) :
  ∃ (g F:Nat→Int) (n:Nat) (eρ:lA (conv σ α)) (eF:lA F),Po (aM P (aD P)) g∧0<g n∧(∀ i,n<i→g i=0)∧(∀ i,(g i).natAbs≤(ds+1)*(S*G))∧Cop g∧Cop F∧(∀ k,conv σ α k=conv g F k)∧∀ h,QP.Irr h→(QP.Dv h (ZP (conv σ α) eρ)→QP.Dv h (ZP F eF))∧¬ QP.Dv (h*h) (ZP F eF):=by
 have es:lA σ:=⟨ds+1,fun i hi=>hs i hi⟩;obtain ⟨γ,_,pc,g1,g2,g3⟩:=aT_ hσ hs0 hs hS pa pb h ha hb
 have ea:∀ k,((cN P:Nat):Int)*conv σ α k=c k:=fun k=>by
  rw [← xO hP k]
  congr 1
  exact (ha.c k).symm.trans ((tS hP).c k)
 have eb:∀ k,((cN (aD P):Nat):Int)*conv σ β k=dI c k:=fun k=>by
  rw [← xO hD k]
  congr 1
  exact (hb.c k).symm.trans ((tS hD).c k)
 have hcP:=hP.cpos h0;have hc0:¬ ∀ k,c k=0:=fun hz=>h0 (hP.nil hz)
 have hα:Cop α:=pa.p.resolve_right fun hz=>hc0 fun k=>by rw [← ea k,m9 hz,Int.mul_zero]
 have hρ:Cop (conv σ α):=cG_ hσ hα;have eρ:=yS es pa.e;have eσβ:=yS es pb.e;have hG:=dQ_ (ZP σ es) g2;rw [← oN es pa.e,← oN es pb.e,← oN es pc.e] at hG;have eg:=yS es pc.e;have hρ0:=UN eρ (B9 hρ);obtain ⟨d1,d2⟩:=(hG (ZP (conv σ γ) eg)).2 (.refl _)
 have hγ:Cop γ:=pc.p.resolve_right fun hz=>hρ0 (by
  have e0:ZP (conv σ γ) eg=QP.C 0:=QP.ex fun k=>by rw [j6,m9 hz,QP.C0_c];rfl
  rw [e0] at d1
  exact d1.of_zero)
 have hg:Cop (conv σ γ):=cG_ hσ hγ;obtain ⟨F,eF,hF⟩:=zW hg eg eρ d1;obtain ⟨n,n1,n2⟩:=(HD eg).resolve_left (B9 hg);have hFc:Cop F:=CA (s:=conv σ γ) (by rw [← show conv σ α=conv (conv σ γ) F from funext hF];exact hρ)
 -- the derivative, up to a number
 have hDv:∀ x,QP.Dv x (QP.D (ZP (conv σ α) eρ)) ↔ QP.Dv x (ZP (conv σ β) eσβ):=fun x=>by
  have e1:QP.C (((cN P:Nat):Int):Rat)*QP.D (ZP (conv σ α) eρ)=QP.C (((cN (aD P):Nat):Int):Rat)*ZP (conv σ β) eσβ:=QP.ex fun k=>by
   rw [QP.C_mul,QP.C_mul,QP.D_c,j6,j6,← Rat.intCast_mul,eb k];unfold dI;rw [← ea (k+1),Rat.intCast_mul,Rat.intCast_mul]
   show _=((k+1:Nat):Rat)*_
   grind
  have hcP':(((cN P:Nat):Int):Rat)≠0:=fun e=>by have:=Rat.intCast_eq_zero_iff.1 e;omega
  by_cases hz:aD P=[]
  ·have z1:ZP (conv σ β) eσβ=QP.C 0:=QP.ex fun k=>by
    rw [j6,QP.C0_c,← show (0:Int)=conv σ β k from ?_]
    ·rfl
    have:=(hb.c k).symm.trans ((tS hD).c k);rw [hD.zero (k:=k) (by rw [hz];exact Nat.zero_le _),Int.zero_fdiv] at this;exact this.symm
   rw [z1,QP.mul_zero'] at e1
   have z2:QP.D (ZP (conv σ α) eρ)=QP.C 0:=by
    apply Classical.byContradiction
    intro hx;exact QP.mul_ne (QP.C_dg hcP').ne hx e1
   rw [z1,z2]
  have hcD:=hD.cpos hz
  have hcD':(((cN (aD P):Nat):Int):Rat)≠0:=fun e=>by have:=Rat.intCast_eq_zero_iff.1 e;omega
  exact ⟨fun h=>QP.Dv.scale hcD' (by rw [← e1];exact h.mul_l _),fun h=>QP.Dv.scale hcP' (by rw [e1];exact h.mul_l _)⟩
 refine ⟨conv σ γ,F,n,eρ,eF,g1,?_,n2,?_,hg,hFc,hF,fun h hi=>?_⟩
 ·have:=g3 n n2
  omega
 ·exact fun i=>EB hS pc.b (fun j hj=>hs j oo_) i
 refine QP.sqf_part (G:=ZP (conv σ γ) eg) hρ0 ?_ ((hDv _).2 d2) (fun d h1 h2=>(hG d).1 ⟨h1,(hDv d).1 h2⟩) hi;rw [← oN eg eF];exact NE _ _ hF
end
open Go Go.Kn
theorem Zx.neg {a:Z} {u:Int} (ha:Zx a u):Zx (Z.neg a) (-u):=by
 rcases ha with h|⟨h,h1⟩
 ·left;rw [Z.neg,qG h];rfl
 subst h;rw [Z.neg,kG (Z.of_some h1)];exact .of _
theorem Zx.sub {a b:Z} {u v:Int} (ha:Zx a u) (hb:Zx b v):Zx (Z.sub a b) (u - v):=by
 rw [Int.sub_eq_add_neg];exact ha.add hb.neg
theorem aS_ {z:Z} (h:z.o=none):(E z).1.bad=true:=by
 have:z=Z.bad:=by
  cases z with
  | mk o hb=>simp only at h;subst h;rfl
 rw [this];rfl
theorem Zx.cases {z:Z} {v:Int} (h:Zx z v):(E z).1.bad=true∨(E z=E (Z.of v)∧B512 v):=by
 rcases h with h|⟨h,b⟩
 ·exact .inl (aS_ h)
 exact .inr ⟨by rw [h],b⟩
section
variable {p q:List I} {c d:Nat→Int} {n:Nat}
theorem ey_ (v:Int):B512 v.sign:=by
 rcases Int.lt_trichotomy v 0 with h|h|h
 ·rw [Int.sign_eq_neg_one_of_neg h];decide
 ·rw [h];decide
 rw [Int.sign_eq_one_of_pos h];decide
theorem c0_ (g:Po q d) (hn:q.length=n+1) {r:Nat→Int} {i:Nat} (l:List I) (h2:∀ k,B512 (r k)):∀ (f k:Nat) (t:List I),l.length - k<f→k≤l.length→t.length=l.length →
  (∀ j,t.getD j I0=E (Z.of (if j<k then jZ (d n).natAbs (d n).sign d n i r j else r j)))→(∀ j,j<k→B512 (jZ (d n).natAbs (d n).sign d n i r j)) →
  eT p q (i:Int) l (E (Z.of ((d n).sign*r (i+n)))) f k t = .inr badp ∨
  ∃ t',eT p q (i:Int) l (E (Z.of ((d n).sign*r (i+n)))) f k t = .inl (l.length,t')∧t'.length=l.length∧(∀ j,t'.getD j I0=E (Z.of (if j<l.length then jZ (d n).natAbs (d n).sign d n i r j else r j)))∧∀ j,j<l.length→B512 (jZ (d n).natAbs (d n).sign d n i r j)
 | 0,k,t,hf,_,_,_,_=>absurd hf (Nat.not_lt_zero _)
 | f+1,k,t,hf,hk,ht,hv,hb=>by
  unfold eT
  by_cases hl:k<l.length
  ·rw [decide_eq_true oo_,cond_true]
   have e:=hv k;rw [if_neg (Nat.lt_irrefl k)] at e
   have hz:Zx (Z.sub (Z.mul (Z.abs (q.getD (q.length - 1) I0).dec) (t.getD k I0).dec) (Z.mul (E (Z.of ((d n).sign*r (i+n)))).dec (eK q ((k:Int) - (i:Int))).dec)) (jZ (d n).natAbs (d n).sign d n i r k):=by
    rw [hn,Nat.add_sub_cancel,g.get,e,KL g,bW,bW,bW,bW,SA (g.B _)];exact ((Zx.of _).mul (.of _)).sub ((Zx.of _).mul (.of _))
   simp only;rcases hz.cases with h|⟨h,b⟩
   ·left
    rw [jL t k _ oo_,h,cond_true,C3]
   rw [h,jL t k _ oo_,E7 b,cond_false];refine c0_ g hn l h2 f (k+1) _ oo_ oo_ (by rw [List.length_set];exact ht) (fun j=>?_) fun j hj=>?_
   ·by_cases hj:j=k
    ·subst hj;rw [jL t j _ oo_,if_pos oo_]
    rw [nE t k j _ hj,hv j]
    by_cases hjk:j<k
    ·rw [if_pos hjk,if_pos oo_]
    rw [if_neg hjk,if_neg oo_]
   by_cases hjk:j=k
   ·subst hjk;exact b
   exact hb j oo_
  rw [decide_eq_false oo_,cond_false]
  have:k=l.length:=by omega
  subst this;exact .inr ⟨t,rfl,ht,hv,hb⟩
theorem cZ_ (g:Po q d) (hn:q.length=n+1):∀ (m f:Nat) (i:Int) (l:List I) (r:Nat→Int),i=(m:Int) - 1→m<f→(m≤l.length - n)→(∀ j,l.getD j I0=E (Z.of (r j)))→(∀ k,l.length≤k→r k=0)→(∀ k,B512 (r k)) →
  cX p q f i l = .inr badp ∨ ∃ i' l',cX p q f i l = .inl (i',l')∧l'.length=l.length∧(∀ j,l'.getD j I0=E (Z.of (pT (d n).natAbs (d n).sign d n m r j)))∧(∀ k,l.length≤k→pT (d n).natAbs (d n).sign d n m r k=0)∧∀ k,B512 (pT (d n).natAbs (d n).sign d n m r k)
 | m,0,i,l,r,_,hf,_,_,_,_=>absurd hf (Nat.not_lt_zero _)
 | 0,f+1,i,l,r,hi,hf,hm,hl,hz,hB=>by
  unfold cX;rw [decide_eq_false oo_,cond_false];exact .inr ⟨i,l,rfl,rfl,hl,hz,hB⟩
 | m+1,f+1,i,l,r,hi,hf,hm,hl,hz,b1=>by
  unfold cX;rw [decide_eq_true oo_,cond_true]
  have e:E (Z.mul (Z.of (Z.signW (q.getD (q.length - 1) I0).dec).1) (l.getD (i.toNat+(q.length - 1)) I0).dec)=E (Z.of ((d n).sign*r (m+n))):=by
   rw [hn,Nat.add_sub_cancel,g.get,hl,bW,bW,i6 (g.B n),show i.toNat=m by omega,mK (ey_ _) (b1 _)]
  have h1:=c0_ (p:=p) g hn (i:=m) l b1 (l.length+1) 0 l oo_ (Nat.zero_le _) O (fun j=>by rw [if_neg (Nat.not_lt_zero _)];exact hl j) (fun j hj=>absurd hj (Nat.not_lt_zero _));simp only;rw [e,show i=(m:Int) by omega];rcases h1 with h1|⟨t,h1,h2,h3,h4⟩
  ·rw [h1];exact .inl O
  rw [h1]
  have k1:∀ j,t.getD j I0=E (Z.of (jZ (d n).natAbs (d n).sign d n m r j)):=fun j=>by
   rw [h3 j]
   split
   ·rfl
   rw [hz j oo_,sU g hn hz oo_ oo_]
  have k2:∀ j,B512 (jZ (d n).natAbs (d n).sign d n m r j):=fun j=>by
   by_cases hj:j<l.length
   ·exact h4 j hj
   rw [sU g hn hz oo_ oo_];exact B0
  rcases cZ_ g hn m f ((m:Int) - 1) t _ O oo_ oo_ k1 (fun k hk=>sU g hn hz oo_ oo_) k2 with h5|⟨i',l',a1,a2,a3,a4,a5⟩
  ·exact .inl h5
  exact .inr ⟨i',l',a1,a2.trans h2,a3,fun k hk=>a4 k oo_,a5⟩
theorem cw_ (h:Po p c) (g:Po q d) (hn:q.length=n+1):aX p q=badp∨Po (aX p q) (pT (d n).natAbs (d n).sign d n (p.length - n) c):=by
 unfold aX;rw [h.nb,g.nb,show ((q.length:Int)==0)=false from beq_eq_false_iff_ne.2 oo_,Bool.false_or,Bool.false_or,cond_false,List.nil_append,hn];have hl:=h.l
 have go:∀ i:Int,i=(p.length:Int) - 1 - (((n+1:Nat):Int) - 1)→cX p q (p.length+1) i p = .inr badp ∨ ∃ i' l',cX p q (p.length+1) i p = .inl (i',l')∧l'.length=p.length∧(∀ j,l'.getD j I0=E (Z.of (pT (d n).natAbs (d n).sign d n (p.length - n) c j)))∧(∀ k,p.length≤k→pT (d n).natAbs (d n).sign d n (p.length - n) c k=0)∧∀ k,B512 (pT (d n).natAbs (d n).sign d n (p.length - n) c k):=fun i hi=>by
  by_cases hs:n≤p.length
  ·exact cZ_ g hn (p.length - n) (p.length+1) i p c oo_ oo_ (Nat.le_refl _) h.get (fun k hk=>h.zero hk) h.B
  have e0:p.length - n=0:=by omega
  rw [e0];unfold cX;rw [decide_eq_false oo_,cond_false];exact .inr ⟨i,p,rfl,rfl,h.get,fun k hk=>h.zero hk,h.B⟩
 rcases go _ O with h0|⟨i',l',a1,a2,a3,a4,a5⟩
 ·rw [h0];exact .inl O
 rw [a1]
 show bD l'=badp∨Po (bD l') _
 rw [vO];exact .inr (zZ a3 a5 fun k hk=>a4 k oo_)
end
open Go Go.Kn
theorem qM:aC badp=badp:=by kernel_rfl
theorem vM:aS badp=true:=by kernel_rfl
theorem ZW:aC []=[]:=by kernel_rfl
theorem AY (p q a:List I) (k:Nat) (hk:1≤k):cT p q k a badp = .inr badp:=by
 obtain ⟨m,rfl⟩:∃ m,k=m+1:=⟨k - 1,by omega⟩;unfold cT;rw [vM,Bool.or_true,cond_true,C3,show decide (0<(badp.length:Int))=true from by kernel_rfl,cond_true]
theorem Po.ne_nil {p:List I} {c:Nat→Int} (h:Po p c) (h0:p≠[]):¬ ∀ k,c k=0:=fun hz=>h0 (h.nil hz)
theorem BC {p:List I} {c:Nat→Int} (h:Po p c) (h0:p=[]) (k:Nat):c k=0:=h.zero (by rw [h0];exact Nat.zero_le _)
theorem sL {p:List I} {c:Nat→Int} (h:Po p c):∃ (γ:Nat→Int) (t:Int),t≠0∧0<t∧Po (aC p) γ∧(∀ k,c k=t*γ k)∧(aC p≠[]→Cop γ):=by
 by_cases h0:p=[]
 ·subst h0
  rw [ZW];exact ⟨c,1,by decide,by decide,h,fun k=>(Int.one_mul _).symm,fun h=>absurd O h⟩
 refine ⟨_,((cN p:Nat):Int),?_,?_,tS h,fun k=>(xO h k).symm,fun _=>GK h h0⟩
 ·have:=h.cpos h0;omega
 have:=h.cpos h0;omega
theorem SR (p q:List I):∀ (k:Nat) (a b:List I) (α β:Nat→Int) (ha:Po a α) (hb:Po b β),(a≠[]→Cop α)→(b≠[]→Cop β)→gmP b<k →
  cT p q k a b = .inr badp ∨ ∃ (a' b':List I) (γ:Nat→Int) (hc:Po a' γ),cT p q k a b = .inl (a',b')∧(a'≠[]→Cop γ)∧Gd (ZP α ha.ends) (ZP β hb.ends) (ZP γ hc.ends)
 | 0,a,b,α,β,ha,hb,_,_,hk=>absurd hk (Nat.not_lt_zero _)
 | k+1,a,b,α,β,ha,hb,ca,cb,hk=>by
  by_cases h0:b=[]
  ·subst h0
   right
   rw [SU];exact ⟨a,[],α,ha,rfl,ca,LG _ _ fun k=>BC hb O k⟩
  obtain ⟨n,n1,n2,n3⟩:=hb.top h0;unfold cT;have hd:decide (0<(b.length:Int))=true:=decide_eq_true oo_;rw [hd,cond_true,ha.nb,hb.nb,Bool.or_false,cond_false];have hdec:=EE (a:=a) (b:=b) ⟨ha.l,hb.l⟩ (by rw [ha.nb,hb.nb];rfl) hd;rcases cw_ ha hb n1 with hr|hr
  ·rw [hr,qM]
   rw [hr,qM] at hdec;exact .inl (AY p q b k oo_)
  obtain ⟨γ,t,t0,_,hγ,e1,e2⟩:=sL hr;rcases SR p q k b (aC (aX a b)) β γ hb hγ cb e2 oo_ with h1|⟨a',b',δ,hc,r1,r2,r3⟩
  ·exact .inl h1
  refine .inr ⟨a',b',δ,hc,r1,r2,?_⟩;obtain ⟨Q,hQ,hq⟩:=EU (a:=((β n).natAbs:Int)) (o:=(β n).sign) (d:=β) (n:=n) (a.length - n) α;refine LF ha.ends hb.ends hγ.ends hQ (w:=((β n).natAbs:Int) ^ (a.length - n)) (t:=t) (Int.pow_ne_zero oo_) t0 (fun k=>?_) r3;rw [hq k,e1 k]
theorem eU_ {p q:List I} {c d:Nat→Int} (hp:Po p c) (hq:Po q d):aM p q=badp ∨ ∃ (α β g:Nat→Int) (s t:Int) (ha:Po (aC p) α) (hb:Po (aC q) β) (hg:Po (aM p q) g),
  0<s∧0<t∧(∀ k,c k=s*α k)∧(∀ k,d k=t*β k)∧(aC p≠[]→Cop α)∧(aM p q≠[]→Cop g)∧Gd (ZP α ha.ends) (ZP β hb.ends) (ZP g hg.ends)∧∀ m,(∀ i,m<i→g i=0)→0≤g m:=by
 obtain ⟨α,s,_,s0,ha,ea,ca⟩:=sL hp;obtain ⟨β,t,_,t0,hb,eb,cb⟩:=sL hq;unfold aM;rcases SR p q (gmP (aC q)+1) _ _ α β ha hb ca cb (Nat.lt_succ_self _) with h1|⟨a',b',γ,hc,r1,r2,r3⟩
 ·rw [h1];exact .inl O
 rw [r1];obtain ⟨e,he,hP,hm⟩:=LU hc
 right
 refine ⟨α,β,fun k=>e*γ k,s,t,ha,hb,hP,s0,t0,ea,eb,ca,fun hne=>?_,fun x=>?_,fun m h=>hm m fun i hi=>?_⟩
 ·have h0:a'≠[]:=fun h=>hne (by subst h;rfl)
  intro u hu;refine r2 h0 u fun k=>?_;have h1:u ∣ e*γ k:=hu k;rcases he with rfl|rfl
  ·rwa [Int.one_mul] at h1
  rw [Int.neg_one_mul] at h1;exact Int.dvd_neg.1 h1
 ·rw [r3 x]
  have hz:ZP (fun k=>e*γ k) hP.ends=QP.C (e:Rat)*ZP γ hc.ends:=QP.ex fun k=>by rw [QP.C_mul,j6,j6,Rat.intCast_mul]
  have he0:(e:Rat)≠0:=by rcases he with rfl|rfl<;>decide
  rw [hz];exact ⟨fun h=>h.mul_l _,fun h=>QP.Dv.scale he0 h⟩
 have h1:e*γ i=0:=h i hi;rcases he with rfl|rfl
 ·omega
 omega
theorem eQ_ {u v:Int} (h:B512 (u*v)) (hu:0<u):B512 v:=by
 unfold B512 at *;rw [Int.natAbs_mul] at h;have:=Nat.le_mul_of_pos_left v.natAbs (show 0<u.natAbs by omega);omega
section
variable {P:List I} {g F:Nat→Int} {n m:Nat}
theorem N6 (hG:Po (aM P (aD P)) g) (hn:(aM P (aD P)).length=n+1) (hg0:0<g n) :
  ∀ (k fu:Nat) (i:Int) (r f:List I),i=(k:Int) - 1→k<fu→k≤m+1→r.length=n+m+1→f.length=m+1→(∀ j,r.getD j I0=E (Z.of (conv g (cut F k) j)))→(∀ j,B512 (conv g (cut F k) j))→(∀ j,k≤j→f.getD j I0=E (Z.of (F j)))→(∀ j,k≤j→B512 (F j)) →
  eB P fu i r f = .inr badp ∨ ∃ i' r' f',eB P fu i r f = .inl (i',r',f')∧f'.length=m+1∧(∀ j,f'.getD j I0=E (Z.of (F j)))∧∀ j,B512 (F j)
 | _,0,_,_,_,_,h,_,_,_,_,_,_,_=>absurd h (Nat.not_lt_zero _)
 | 0,fu+1,i,r,f,hi,hk,hkm,hr,hf,hrv,hrb,hfv,hfb=>by
  unfold eB;rw [decide_eq_false oo_,cond_false];exact .inr ⟨i,r,f,rfl,hf,fun j=>hfv j (Nat.zero_le _),fun j=>hfb j (Nat.zero_le _)⟩
 | k+1,fu+1,i,r,f,hi,hk,hkm,hr,hf,hrv,hrb,hfv,hfb=>by
  have hi':i=(k:Int):=by omega
  have hgz:∀ j,n<j→g j=0:=fun j hj=>hG.zero oo_
  have htop:conv g (cut F (k+1)) (n+k)=g n*F k:=by
   rw [l9 hgz fun i hi=>by unfold cut;rw [if_neg oo_]]
   congr 1
   unfold cut;rw [if_pos oo_]
  have bF:B512 (F k):=eQ_ (u:=g n) (by rw [← htop];exact hrb _) hg0
  have hq:(E (Z.quo (r.getD (i.toNat+((aM P (aD P)).length - 1)) I0).dec ((aM P (aD P)).getD ((aM P (aD P)).length - 1) I0).dec))=E (Z.of (F k)):=by
   rw [hn,Nat.add_sub_cancel,show i.toNat+n=n+k by omega,hrv,hG.get,bW,bW,I8 (hrb _) (hG.B n) hg0 (v:=F k) htop.symm]
  unfold eB;rw [decide_eq_true oo_,cond_true];simp only;rw [hq]
  have hx:((f.set i.toNat (E (Z.of (F k)))).getD i.toNat I0).dec=Z.of (F k):=by rw [jL _ _ _ oo_,bW]
  have hfr:∀ j,(frE (aM P (aD P)) r k (Z.of (F k)) j).1.bad=true∨(frE (aM P (aD P)) r k (Z.of (F k)) j=E (Z.of (conv g (cut F k) j))∧B512 (conv g (cut F k) j)):=fun j=>by
   unfold frE;refine Zx.cases ?_
   have e:conv g (cut F k) j=conv g (cut F (k+1)) j - F k*shf g k j:=by rw [AT];omega
   rw [hrv,KL hG k j,bW,bW,e];exact (Zx.of _).sub ((Zx.of _).mul (.of _))
  rcases LD P i r f (E (Z.of (F k))) (g:=aM P (aD P)) O hi' ((aM P (aD P)).length+1) 0 r oo_ (Nat.zero_le _) O oo_ (fun j _=>rfl) with ⟨t',k',e1,e2,e3,e4⟩|⟨e1,j,j1,j2,j3⟩
  ·rw [e1]
   simp only [sm];rw [hx] at e3 e4
   have hin:∀ j,k+0≤j∧j<k+(aM P (aD P)).length→frE (aM P (aD P)) r k (Z.of (F k)) j=E (Z.of (conv g (cut F k) j))∧B512 (conv g (cut F k) j):=fun j hj=>by
    rcases hfr j with h1|h1
    ·rw [e4 j hj.1 hj.2] at h1;cases h1
    exact h1
   have hout:∀ j,¬ (k+0≤j∧j<k+(aM P (aD P)).length)→conv g (cut F (k+1)) j=conv g (cut F k) j:=fun j hj=>by
    rw [AT]
    have:shf g k j=0:=by
     unfold shf
     split
     ·exact hgz _ oo_
     rfl
    rw [this,Int.mul_zero,Int.add_zero]
   refine N6 hG hn hg0 k fu (i - 1) t' _ oo_ oo_ oo_ oo_ (by rw [List.length_set];exact hf) (fun j=>?_) (fun j=>?_) (fun j hj=>?_) (fun j hj=>?_)
   ·rw [e3 j]
    by_cases hj:k+0≤j∧j<k+(aM P (aD P)).length
    ·rw [if_pos hj,(hin j hj).1]
    rw [if_neg hj,hrv,hout j hj]
   ·by_cases hj:k+0≤j∧j<k+(aM P (aD P)).length
    ·exact (hin j hj).2
    rw [← hout j hj];exact hrb j
   ·rw [show i.toNat=k by omega]
    by_cases hjk:j=k
    ·subst hjk;exact jL _ _ _ oo_
    rw [nE _ _ _ _ hjk];exact hfv j oo_
   by_cases hjk:j=k
   ·subst hjk;exact bF
   exact hfb j oo_
  rw [e1];exact .inl O
theorem di_ (hG:Po (aM P (aD P)) g) (hn:(aM P (aD P)).length=n+1) (hg0:0<g n)
  {ρ:Nat→Int} (hR:Po (aC P) ρ) (hρ:∀ k,ρ k=conv g F k) (hF0:F m≠0) (hF:∀ i,m<i→F i=0):aN P=badp ∨ ∃ e:Int,(e=1∨e = -1)∧Po (aN P) (fun k=>e*F k):=by
 have hgz:∀ j,n<j→g j=0:=fun j hj=>hG.zero oo_
 have hRl:(aC P).length=n+m+1:=hR.len_top (by rw [hρ,l9 hgz hF];exact Int.mul_ne_zero oo_ hF0) fun i hi=>by rw [hρ];exact lB (n:=n+1) (m:=m+1) (fun j hj=>hgz j hj) (fun j hj=>hF j hj) i oo_
 have hlen:=hR.l;unfold aN;rw [hG.nb,hR.nb,Bool.or_false,cond_false,show (((aC P).length:Int)==0)=false from beq_eq_false_iff_ne.2 oo_,cond_false]
 rcases N6 hG hn hg0 (F:=F) (m:=m) (m+1) ((aC P).length+2) (((List.replicate ((aC P).length - ((aM P (aD P)).length - 1)) I0).length:Int) - 1) (aC P) (List.replicate ((aC P).length - ((aM P (aD P)).length - 1)) I0) (by rw [List.length_replicate];omega) oo_ (Nat.le_refl _) hRl (by rw [List.length_replicate];omega) (fun j=>by rw [hR.get,hρ,KR hF]) (fun j=>by rw [KR hF,← hρ];exact hR.B j) (fun j hj=>by
  rw [hF j oo_,← aU_]
  exact lF (by rw [List.length_replicate];omega)) (fun j hj=>by rw [hF j oo_];exact B0) with e1|⟨i',r',f',e1,e2,e3,bF⟩
 ·rw [e1];exact .inl O
 rw [e1];simp only [sm]
 have hM:Po (bD f') F:=by rw [vO];exact zZ e3 bF fun k hk=>hF k oo_
 obtain ⟨e,h1,h2,_⟩:=LU hM;exact .inr ⟨e,h1,h2⟩
end
theorem M6 {p:List I} {c:Nat→Int} (h:Po p c):aD p=badp∨Po (aD p) (dI c):=by
 have hl:=h.l;unfold aD;rw [h.nb,cond_false,n7];have hr:=EL ((List.range ((p.length:Int) - 1).toNat).map fun y=>fC (jJ y p))
 cases hg:(mkP ((List.range ((p.length:Int) - 1).toNat).map fun y=>fC (jJ y p))).all gdI
 ·exact .inl (y3 hr hg)
 right
 refine RZ (fun k hk=>?_) (fun k hk=>?_) oo_ hg
 ·show Ix (E (Z.mul (Z.of (((k+1):Nat):Int)) (p.getD (k+1) I0).dec)) (dI c k)
  rw [h.get,bW];exact WB ((Zx.of _).mul (.of _))
 unfold dI;rw [h.zero (show p.length≤k+1 by omega),Int.mul_zero]
end Go.Num
