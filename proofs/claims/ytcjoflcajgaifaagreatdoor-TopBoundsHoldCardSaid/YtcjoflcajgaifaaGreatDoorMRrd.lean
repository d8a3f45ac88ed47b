/- Lemmas: what they ask stands in their statements. -/
import Derived.Test.YtcjoflcajgaifaaGreatDoorMVi
set_option linter.unusedSimpArgs false
set_option linter.unusedVariables false
namespace Go.Num
open Go Go.Kn
theorem KF (x y:Int):((x*y).natAbs:Int)=(x.natAbs:Int)*(y.natAbs:Int):=by rw [Int.natAbs_mul,Int.natCast_mul]
theorem XK {p:List I} {c:Nat→Int} (h:Po p c) {u:Int} (hu:∀ k,u ∣ c k):u ∣ ((cN p:Nat):Int):=AF p 0 (Int.dvd_zero _) fun x hx=>by
 obtain ⟨k,hk⟩:=h.mem hx;rw [hk];exact hu k
theorem Pr.neg {c:Nat→Int} {n M:Nat} (h:Pr c n M):Pr (fun k=>-(c k)) n M:=⟨fun i hi=>by rw [h.z i hi];rfl,fun k=>by rw [Int.natAbs_neg];exact h.b k,by
 rcases h.p with h1|h1
 ·exact .inl fun u hu=>h1 u fun k=>Int.dvd_neg.1 (hu k)
 exact .inr fun k=>by rw [h1 k];rfl⟩
section
variable {σ:Nat→Int} {ds S G:Nat}
theorem VD (hσ:Cop σ) (hs0:σ ds≠0) (hs:∀ i,ds<i→σ i=0) (hS:∀ k,(σ k).natAbs≤S) {a b:List I} {α β:Nat→Int} {n n0 M0 M1:Nat} (ha:Po a (conv σ α)) (hb:Po b (conv σ β)) (pa:Pr α n0 M0) (hβ0:β n≠0) (hβ:∀ i,n<i→β i=0) (hB:∀ k,(β k).natAbs≤M1)
  (h1:1≤(min ds n+1)*(S*M1)) (hd:(2*((min ds n+1)*(S*M1))) ^ (n0+1 - n)*((min ds n0+1)*(S*M0))<4294967296 ^ 16) :
  ∃ (γ:Nat→Int) (w t:Int) (Q:Nat→Int),Po (aC (aZ a b)) (conv σ γ)∧Pr γ (n - 1) ((2*M1) ^ (n0+1 - n)*M0)∧(n=0→∀ k,γ k=0)∧lF Q∧w≠0∧t≠0∧∀ k,w*α k=conv β Q k+t*γ k:=by
 have es:lF σ:=⟨ds+1,fun i hi=>hs i hi⟩;have etop:conv σ β (ds+n)=σ ds*β n:=mW hs hβ;have hbn:b.length=ds+n+1:=hb.len_top (by rw [etop];exact Int.mul_ne_zero hs0 hβ0) fun i hi=>kU (n:=ds+1) (m:=n+1) (fun j hj=>hs j hj) (fun j hj=>hβ j hj) i oo_
 obtain ⟨m,hm,hm0,hαm⟩:∃ m,a.length - (ds+n)=m∧m≤n0+1 - n∧∀ k,m+n≤k→α k=0:=by
  rcases HF pa.e with h0|⟨l,h0,h2⟩
  ·refine ⟨0,?_,Nat.zero_le _,fun k _=>h0 k⟩
   rw [ha.nil fun k=>nU h0 k];exact Nat.zero_sub _
  have hl:l≤n0:=Nat.le_of_not_lt fun hx=>h0 (pa.z l hx);have:a.length=ds+l+1:=ha.len_top (by rw [mW hs h2];exact Int.mul_ne_zero hs0 h0) fun i hi=>kU (n:=ds+1) (m:=l+1) (fun j hj=>hs j hj) (fun j hj=>h2 j hj) i oo_;exact ⟨l+1 - n,by omega,by omega,fun k hk=>h2 k oo_⟩
 have hM1:1≤M1:=by have:=hB n;omega
 have cB:∀ k,(conv σ β k).natAbs≤(min ds n+1)*(S*M1):=NS hS hB hs hβ;have cA:∀ k,(conv σ α k).natAbs≤(min ds n0+1)*(S*M0):=NS hS pa.b hs pa.z;have hRB:RemB ((conv σ β (ds+n)).natAbs:Int) (conv σ β (ds+n)).sign (conv σ β) (ds+n) m (conv σ α) :=
  KC h1 (by rw [Int.natAbs_natCast];exact cB _) (PN _) cB m _ _ cA (Nat.lt_of_le_of_lt (Nat.mul_le_mul_right _ (Nat.pow_le_pow_right oo_ hm0)) hd)
 have hR:=WV ha hb hbn (by rw [hm];exact hRB);rw [hm,etop,Int.sign_mul,KF] at hR;have hlc:(β n).sign*β n=((β n).natAbs:Int):=GX _;rw [JC (n:=n) hs (GX (σ ds)) hlc hβ m α hαm] at hR;obtain ⟨Q,hQ,hQe⟩:=EX (a:=((β n).natAbs:Int)) (o:=(β n).sign) (d:=β) (n:=n) m α;have hρz:=C3 hlc hβ m α hαm;have hρb:=MA (n:=n) (a:=((β n).natAbs:Int)) (o:=(β n).sign) (d:=β) (by rw [Int.natAbs_natCast];exact hB n) (PN _) hB m M0 α pa.b;have hw:((β n).natAbs:Int) ^ m≠0:=Int.pow_ne_zero oo_;have hu:((σ ds).natAbs:Int) ^ m≠0:=Int.pow_ne_zero oo_;have hMm:(2*M1) ^ m*M0≤(2*M1) ^ (n0+1 - n)*M0:=Nat.mul_le_mul_right _ (Nat.pow_le_pow_right oo_ hm0);generalize q7 ((β n).natAbs:Int) (β n).sign β n m α=ρ at *;have eρ:lF ρ:=⟨n,hρz⟩
 by_cases hz:aZ a b=[]
 ·have hρ0:∀ k,ρ k=0:=by
   refine DF hσ es eρ ⟨0,fun i _=>rfl⟩ (d:=fun _=>0) fun k=>?_;rw [nU (fun _=>rfl)];have:=hR.zero (k:=k) (by rw [hz];exact Nat.zero_le _);exact (Int.mul_eq_zero.1 this).resolve_left hu
  refine ⟨fun _=>0,((β n).natAbs:Int) ^ m,1,Q,?_,⟨fun _ _=>rfl,fun _=>Nat.zero_le _,.inr fun _=>rfl⟩,fun _ _=>rfl,hQ,hw,by decide,fun k=>by rw [hQe k,hρ0 k];rfl⟩;refine (oI hR).cast fun k=>?_;rw [nU (fun _=>rfl),hR.zero (k:=k) (by rw [hz];exact Nat.zero_le _),Int.zero_fdiv]
 obtain ⟨P,hP,hC,hE⟩:∃ P:Nat→Int,Po (aC (aZ a b)) P∧Cop P∧∀ k,((cN (aZ a b):Nat):Int)*P k=((σ ds).natAbs:Int) ^ m*conv σ ρ k:=⟨_,oI hR,BR hR hz,r7 hR⟩;have hcp:=hR.cpos hz;obtain ⟨t,ht⟩:=XK hR (u:=((σ ds).natAbs:Int) ^ m) fun k=>Int.dvd_mul_right ..
 have ht0:t≠0:=fun e=>by rw [e,Int.mul_zero] at ht;omega
 have hE':∀ k,t*P k=conv σ ρ k:=fun k=>by
  have:=hE k;rw [ht,Int.mul_assoc] at this;exact Int.eq_of_mul_eq_mul_left hu this
 have eP:=hP.ends
 obtain ⟨γ,eγ,hγ⟩:=AG hσ es eP (by
  refine QP.Dv.scale (t:=(t:Rat)) (fun e=>ht0 (Rat.intCast_eq_zero_iff.1 e)) ⟨ZP ρ eρ,?_⟩;rw [← dS_ eP,← pW es eρ]
  exact ND _ _ hE')
 have hPe:P=conv σ γ:=funext hγ
 have htγ:∀ k,t*γ k=ρ k:=DF hσ es (NZ eγ t) eρ fun k=>by rw [qN];show t*conv σ γ k=_;rw [← hγ,hE']
 refine ⟨γ,((β n).natAbs:Int) ^ m,t,Q,hP.cast hγ,⟨fun i hi=>?_,fun k=>?_,.inl (CI (hPe ▸ hC))⟩,fun hn k=>?_,hQ,hw,ht0,fun k=>by rw [hQe k,htγ k]⟩
 ·have:=hρz i oo_
  rw [← htγ] at this;exact (Int.mul_eq_zero.1 this).resolve_left ht0
 ·refine Nat.le_trans ?_ (Nat.le_trans (hρb k) hMm)
  rw [← htγ,Int.natAbs_mul];exact Nat.le_mul_of_pos_left _ oo_
 have:=hρz k oo_;rw [← htγ] at this;exact (Int.mul_eq_zero.1 this).resolve_left ht0
theorem TC (p q:List I) (k:Nat) (a:List I):cX p q k a [] = .inl (a,[]):=by cases k<;>rfl
def Gd (α β γ:QP):Prop:=∀ e,(QP.Dv e α∧QP.Dv e β) ↔ QP.Dv e γ
theorem LC {α β γ Q:Nat→Int} (ea:lF α) (eb:lF β) (ec:lF γ) (eQ:lF Q) {w t:Int} (hw:w≠0) (ht:t≠0) (h:∀ k,w*α k=conv β Q k+t*γ k) {δ:QP} (hg:Gd (ZP β eb) (ZP γ ec) δ):Gd (ZP α ea) (ZP β eb) δ:=fun e=>by
 have hw':(w:Rat)≠0:=fun e=>hw (Rat.intCast_eq_zero_iff.1 e);have ht':(t:Rat)≠0:=fun e=>ht (Rat.intCast_eq_zero_iff.1 e)
 have E1:QP.C w*ZP α ea=ZP β eb*ZP Q eQ+QP.C t*ZP γ ec:=QP.ex fun k=>by
  rw [QP.C_mul,QP.add_c,QP.C_mul,← pW,kT,kT,kT,← Rat.intCast_mul,← Rat.intCast_mul,h k,Rat.intCast_add]
 rw [← hg e]
 constructor
 ·rintro ⟨h1,h2⟩
  refine ⟨h2,QP.Dv.scale ht' ?_⟩
  have h3:QP.C t*ZP γ ec=QP.C w*ZP α ea+QP.C (-1)*(ZP β eb*ZP Q eQ):=by
   rw [E1];exact QP.ex fun k=>by simp only [QP.add_c,QP.C_mul];grind
  rw [h3];exact (h1.mul_l _).add ((h2.mul _).mul_l _)
 rintro ⟨h1,h2⟩;refine ⟨QP.Dv.scale hw' ?_,h1⟩;rw [E1];exact (h1.mul _).add (h2.mul_l _)
theorem LD {α β:Nat→Int} (ea:lF α) (eb:lF β) (h:∀ k,β k=0):Gd (ZP α ea) (ZP β eb) (ZP α ea):=fun e=>by
 have:ZP β eb=QP.C 0:=QP.ex fun k=>by rw [kT,h,QP.C0_c];rfl
 exact ⟨fun h=>h.1,fun h=>⟨h,by rw [this];exact .zero e⟩⟩
theorem ZY {f n0 n1 M0 M1 n:Nat} (h:okT S ds G (f+1) n0 n1 M0 M1=true) (hn:n≤n1):M0≤G∧M1≤G∧1≤(min ds n+1)*(S*(if n=0 then 1 else M1))∧(2*((min ds n+1)*(S*(if n=0 then 1 else M1)))) ^ (n0+1 - n)*((min ds n0+1)*(S*M0))<4294967296 ^ 16∧(n=0∨okT S ds G f n (n - 1) (if n=0 then 1 else M1) (if n=1 then 1 else (2*(if n=0 then 1 else M1)) ^ (n0+1 - n)*M0)=true):=by
 unfold okT at h;rw [Bool.and_eq_true,Bool.and_eq_true,List.all_eq_true] at h;obtain ⟨⟨h1,h2⟩,h3⟩:=h;have h4:=h3 n (List.mem_range.2 oo_);rw [Bool.and_eq_true,Bool.and_eq_true,Bool.or_eq_true] at h4;obtain ⟨⟨h5,h6⟩,h7⟩:=h4;exact ⟨of_decide_eq_true h1,of_decide_eq_true h2,of_decide_eq_true h5,of_decide_eq_true h6,h7.imp of_decide_eq_true id⟩
theorem YR (hσ:Cop σ) (hs0:σ ds≠0) (hs:∀ i,ds<i→σ i=0) (hS:∀ k,(σ k).natAbs≤S) (p q:List I):∀ (f n0 n1 M0 M1 k:Nat) (a b:List I) (α β:Nat→Int) (pa:Pr α n0 M0) (pb:Pr β n1 M1),okT S ds G f n0 n1 M0 M1=true→Po a (conv σ α)→Po b (conv σ β)→gmP b<k →
  ∃ (a' b':List I) (γ:Nat→Int) (n:Nat) (pc:Pr γ n G),cX p q k a b = .inl (a',b')∧Po a' (conv σ γ)∧Gd (ZP α pa.e) (ZP β pb.e) (ZP γ pc.e)
 | 0,_,_,_,_,_,_,_,_,_,_,_,h,_,_,_=>absurd h (by unfold okT;decide)
 | f+1,n0,n1,M0,M1,0,a,b,α,β,pa,pb,h,ha,hb,hk=>absurd hk (Nat.not_lt_zero _)
 | f+1,n0,n1,M0,M1,k+1,a,b,α,β,pa,pb,h,ha,hb,hk=>by
  rcases HF pb.e with h0|⟨n,h0,h2⟩
  ·have:b=[]:=hb.nil fun k=>nU h0 k
   subst this;obtain ⟨g1,g2,_⟩:=ZY h (Nat.zero_le _);exact ⟨a,[],α,n0,⟨pa.z,fun k=>Nat.le_trans (pa.b k) g1,pa.p⟩,rfl,ha,LD _ _ h0⟩
  have hn1:n≤n1:=Nat.le_of_not_lt fun hx=>h0 (pb.z n hx);obtain ⟨g1,g2,g3,g4,g5⟩:=ZY h hn1;have hcb:Cop β:=pb.p.resolve_right fun hx=>h0 (hx n)
  have hbb:∀ k,(β k).natAbs≤(if n=0 then 1 else M1):=fun k=>by
   split
   ·next e =>
    subst e;rcases Nat.eq_zero_or_pos k with e|e
    ·rw [e,CG hcb h2];exact Nat.le_refl _
    rw [h2 k e];exact Nat.zero_le _
   exact pb.b k
  generalize (if n=0 then 1 else M1)=B at *;obtain ⟨γ,w,t,Q,c1,c2,c3,c4,c5,c6,c7⟩:=VD hσ hs0 hs hS ha hb pa h0 h2 hbb g3 g4
  have hbl:0<b.length:=by
   rcases Nat.eq_zero_or_pos b.length with e|e
   ·exact absurd (hb.zero (k:=ds+n) oo_) (by rw [mW hs h2];exact Int.mul_ne_zero hs0 h0)
   exact e
  have d1:decide (0<(b.length:Int))=true:=decide_eq_true oo_
  have d2:(aP a||aP b)=false:=by rw [ha.nb,hb.nb];rfl
  have d3:=EO ⟨ha.l,hb.l⟩ d2 d1
  have e1:cX p q (k+1) a b=cX p q k b (aC (aZ a b)):=by
   conv=>lhs;unfold cX
   rw [d1,d2];rfl
  have hpb:Pr β n B:=⟨h2,hbb,.inl hcb⟩;rcases g5 with hn|g5
  ·have hz:=c3 hn
   have:aC (aZ a b)=[]:=c1.nil fun k=>nU hz k;rw [e1,this,TC];exact ⟨b,[],β,n1,⟨pb.z,fun k=>Nat.le_trans (pb.b k) g2,pb.p⟩,rfl,hb,LC pa.e pb.e c2.e c4 c5 c6 c7 (LD _ _ hz)⟩
  rw [e1]
  have c2':Pr γ (n - 1) (if n=1 then 1 else (2*B) ^ (n0+1 - n)*M0):=⟨c2.z,fun k=>by
   split
   ·next e =>
    subst e;rcases c2.p with h3|h3
    ·rcases Nat.eq_zero_or_pos k with e|e
     ·rw [e,CG h3 c2.z];exact Nat.le_refl _
     rw [c2.z k e];exact Nat.zero_le _
    rw [h3 k];exact Nat.zero_le _
   exact c2.b k,c2.p⟩
  obtain ⟨a',b',γ',n',pc,r1,r2,r3⟩:=YR hσ hs0 hs hS p q f n (n - 1) B _ k b _ β γ hpb c2' g5 hb c1 oo_;exact ⟨a',b',γ',n',pc,r1,r2,LC pa.e pb.e c2.e c4 c5 c6 c7 r3⟩
theorem a5_ (hσ:Cop σ) (hs0:σ ds≠0) (hs:∀ i,ds<i→σ i=0) (hS:∀ k,(σ k).natAbs≤S) {p q:List I} {f n0 n1 M0 M1:Nat} {α β:Nat→Int} (pa:Pr α n0 M0) (pb:Pr β n1 M1) (h:okT S ds G f n0 n1 M0 M1=true) (ha:Po (aC p) (conv σ α)) (hb:Po (aC q) (conv σ β)) :
  ∃ (γ:Nat→Int) (n:Nat) (pc:Pr γ n G),Po (aN p q) (conv σ γ)∧Gd (ZP α pa.e) (ZP β pb.e) (ZP γ pc.e)∧∀ m,(∀ i,m<i→conv σ γ i=0)→0≤conv σ γ m:=by
 obtain ⟨a',b',γ,n,pc,r1,r2,r3⟩:=YR hσ hs0 hs hS p q f n0 n1 M0 M1 (gmP (aC q)+1) _ _ α β pa pb h ha hb (Nat.lt_succ_self _);unfold aN;rw [r1]
 show ∃ (γ:Nat→Int) (n:Nat) (pc:Pr γ n G),Po (bif (((a'.length:Int)==0)||decide (0<(Z.signW (a'.getD (a'.length - 1) I0).dec).1)) then a' else eB ([]:List I) a' (fun (y:I) (z:I)=>E (Z.sub y.dec z.dec))) (conv σ γ)∧_
 by_cases h0:a'=[]
 ·subst h0
  rw [show (([]:List I).length:Int)==0 from rfl,Bool.true_or,cond_true];exact ⟨γ,n,pc,r2,r3,fun m hm=>by rw [r2.zero (Nat.zero_le _)];exact Int.le_refl _⟩
 obtain ⟨t,t1,t2,t3⟩:=r2.top h0;rw [show ((a'.length:Int)==0)=false from beq_eq_false_iff_ne.2 oo_,Bool.false_or,t1,Nat.add_sub_cancel,r2.get,bR,iQ (r2.B t)]
 have key:∀ m,(∀ i,m<i→conv σ γ i=0)→conv σ γ m=0∨m=t:=fun m hm=>by
  rcases Nat.lt_trichotomy m t with h1|h1|h1
  ·exact absurd (hm t h1) t2
  ·exact .inr h1
  exact .inl (t3 m h1)
 by_cases hp:0<(conv σ γ t).sign
 ·rw [decide_eq_true hp,cond_true]
  refine ⟨γ,n,pc,r2,r3,fun m hm=>?_⟩;rcases key m hm with h1|h1
  ·rw [h1];exact Int.le_refl _
  rw [h1];have:=Int.sign_pos_iff.1 hp;omega
 rw [decide_eq_false hp,cond_false]
 have hn:conv σ (fun k=>-(γ k))=fun k=>-(conv σ γ k):=by
  have:=qN (-1:Int) σ γ;rw [show (fun k=>-(γ k))=fun k=>-1*γ k from funext fun k=>by rw [Int.neg_one_mul],this]
  exact funext fun k=>by rw [Int.neg_one_mul]
 refine ⟨fun k=>-(γ k),n,pc.neg,?_,fun e=>?_,fun m hm=>?_⟩
 ·rw [hn]
  exact EM B9 r2 (fun k=>by rw [bR,bR,MP B0 (r2.B k),Int.zero_sub]) (fun k=>by have:=r2.B k;unfold cM at *;rwa [Int.natAbs_neg]) (fun k _ h=>by rw [h];rfl)
 ·rw [r3 e]
  have e1:ZP (fun k=>-(γ k)) pc.neg.e=QP.C (-1)*ZP γ pc.e:=QP.ex fun k=>by rw [QP.C_mul,kT,kT,Rat.intCast_neg,Rat.neg_mul,Rat.one_mul]
  rw [e1];exact ⟨fun h=>h.mul_l _,fun h=>h.scale dd_⟩
 rw [hn] at hm ⊢
 show 0 ≤ -(conv σ γ m)
 rcases key m (fun i hi=>by have h:-(conv σ γ i)=0:=hm i hi;omega) with h1|h1
 ·rw [h1];decide
 rw [h1];have:¬ 0<conv σ γ t:=fun hx=>hp (Int.sign_pos_iff.2 hx);omega
end
open Go Go.Kn
theorem fA_ {q:Rat} {n d:Int} {k:Nat} (h:(n:Rat)=(d:Rat)*q) (h0:0<d) (hn:n.natAbs<2 ^ k) (hd:d.natAbs<2 ^ k):Sz q k:=by
 have e:=congrArg Int.natAbs (RP h);rw [Int.natAbs_mul,Int.natAbs_mul,Int.natAbs_natCast] at e;have hr:=q.reduced;have k1:q.den ∣ d.natAbs:=(Nat.Coprime.symm hr).dvd_of_dvd_mul_left (by rw [e];exact Nat.dvd_mul_left ..);have k2:q.num.natAbs ∣ n.natAbs:=Nat.Coprime.dvd_of_dvd_mul_right hr (by rw [← e];exact Nat.dvd_mul_right ..);refine ⟨?_,Nat.lt_of_le_of_lt (Nat.le_of_dvd oo_ k1) hd⟩
 by_cases hz:n.natAbs=0
 ·rw [hz,Nat.zero_mul] at e
  rcases Nat.mul_eq_zero.1 e with h1|h1
  ·rw [h1];exact Nat.pow_pos dd_
  omega
 exact Nat.lt_of_le_of_lt (Nat.le_of_dvd oo_ k2) hn
theorem N9 (x y:Rt):gS [x,y]=(bD x&&bD y):=by
 unfold gS mT mJ
 have e:jA [x,y] (fun y=>iZ y) ([x,y].length+1) 0=bif bD x then (bif bD y then .inl 2 else .inr (W.cv 1)) else .inr (W.cv 0):=by
  show (bif iZ x then _ else (bif iZ y then _ else _))=_
  unfold iZ
  cases bD x<;>cases bD y<;>rfl
 rw [e]
 cases bD x<;>cases bD y<;>rfl
theorem bu_ {c:Nat→Int} {W:Int} {b l t:Nat} {v:Int} (hc:v.natAbs<2 ^ b) (hW:W.natAbs<2 ^ l):(v*W ^ t).natAbs<2 ^ (b+l*t):=by
 rw [Int.natAbs_mul,Int.natAbs_pow,Nat.pow_add]
 have a1:W.natAbs ^ t≤2 ^ (l*t):=by rw [Nat.pow_mul];exact Nat.pow_le_pow_left (Nat.le_of_lt hW) t
 have:=Nat.mul_le_mul_left v.natAbs a1;have:=Nat.mul_lt_mul_of_pos_right hc (Nat.pow_pos (n:=l*t) (show 0<2 by decide));omega
section
variable {p:List I} {c:Nat→Int} {a b:Rt} {N D M F:Int}
theorem aE_ {bc l e w n:Nat} (h:Po p c) (hb:Bd c n bc) (ia:a.Is N D) (ib:b.Is M F) (hu:(N*F).natAbs<2 ^ l) (hv:(M*D).natAbs<2 ^ l) (hW:(D*F).natAbs<2 ^ l) (hn:n≤2 ^ e) (h24:n≤24) (h1:l+e+1≤w) (h2:bc+1≤w) (hw:w*n≤512) :
  ∀ (f t:Nat) (i:Int) (r:List I),t≤p.length→i=(p.length:Int) - 1 - t→p.length - t<f→Po r (sb c (N*F) (M*D) (D*F) p.length t) →
  Po (eC p a b f r i).1 (sb c (N*F) (M*D) (D*F) p.length p.length)
 | 0,t,i,r,_,_,hf,_=>absurd hf (Nat.not_lt_zero _)
 | f+1,t,i,r,ht,hi,hf,hr=>by
  have hl:=h.len hb;unfold eC
  by_cases h0:0≤i
  ·rw [decide_eq_true h0,cond_true]
   have htl:t<p.length:=by omega
   have e1:i.toNat=p.length - 1 - t:=by omega
   have e2:p.length - 1 - i.toNat=t:=by omega
   have wt:w*t+w≤w*n:=by have:=Nat.mul_le_mul_left w (show t+1≤n by omega);rw [Nat.mul_succ] at this;exact this
   have lt:l*t≤w*t:=Nat.mul_le_mul_right t oo_
   have hp:∀ j,j≤t→cM ((D*F) ^ j):=fun j hj=>by
    refine pP (k:=l*j+1) ?_ ?_
    ·rw [Int.natAbs_pow]
     have a1:(D*F).natAbs ^ j≤2 ^ (l*j):=by rw [Nat.pow_mul];exact Nat.pow_le_pow_left (Nat.le_of_lt hW) j
     have a2:(2:Nat) ^ (l*j)<2 ^ (l*j+1):=Nat.pow_lt_pow_right dd_ oo_;omega
    have:=Nat.mul_le_mul_left l hj;omega
   have hc:=bu_ (c:=c) (t:=t) (hb.b (p.length - 1 - t)) hW;have bc':cM (c (p.length - 1 - t)*(D*F) ^ t):=pP hc oo_;have bu:cM (N*F):=pP hu oo_;have bv:cM (M*D):=pP hv oo_;have bW:cM (D*F):=pP hW oo_;have bt:=PI (L:=p.length) hb.b hu hv hW hn h1 h2 t oo_;have bt1:=PI (L:=p.length) hb.b hu hv hW hn h1 h2 (t+1) oo_;simp only;rw [e2,tR _ _ (show t<max (p.length:Int).toNat 1 by omega),ia.ed,ia.en,ib.ed,ib.en,bR,bR,bR,bR,kY ia.hd ib.hd,kY ia.hn ib.hd,kY ib.hn ia.hd,LW hp,e1,h.get,bR,bR,kY (h.B _) (hp t (Nat.le_refl _))];refine aE_ h hb ia ib hu hv hW hn h24 h1 h2 hw f (t+1) _ _ oo_ oo_ oo_ ?_;have m1:=dJ_ hr (ZC bu bv) bt (RG hu hv) (e:=e) oo_ oo_ oo_;exact dA_ m1 (ZZ bc') fun k=>bt1.B (by rw [Nat.mul_succ];omega) k
  rw [decide_eq_false h0,cond_false]
  have:t=p.length:=by omega
  rw [← this];rw [← this] at hr;exact hr
end
theorem QL {p:List I} {c:Nat→Int} {a b:Rt} {qa qb:Rat} {bc s e w n:Nat} (h:Po p c) (hb:Bd c n bc) (ha:a.At qa) (hq:b.At qb) (sa:Sz qa s) (sq:Sz qb s) (hn:n≤2 ^ e) (h24:n≤24) (h1:s+s+e+1≤w) (h2:bc+1≤w) (hw:w*n≤512) :
  ∃ (g:Int) (γ:Nat→Int) (W:Int),0<g∧0<W∧Po (cP p a b) γ∧Bd γ n (w*n)∧aC (cP p a b)=cP p a b∧(∀ k,p.length≤k→γ k=0) ∧
   ∀ y:Rat,(g:Rat)*vl (cR γ) y 26=((W ^ (p.length - 1):Int):Rat)*vl (cR c) (qa+qb*y) n:=by
 have ia:=At.is ha;have ib:=At.is hq;have hl:=h.len hb
 have da:(qa.den:Int).natAbs<2 ^ s:=by rw [Int.natAbs_natCast];exact sa.d
 have db:(qb.den:Int).natAbs<2 ^ s:=by rw [Int.natAbs_natCast];exact sq.d
 have hu:=oX sa.n db;have hv:=oX sq.n da;have hW:=oX da db;have hs:∀ t,t≤p.length→∀ k,t≤k→sb c (qa.num*qb.den) (qb.num*qa.den) (qa.den*qb.den) p.length t k=0:=fun t ht=>(PI (L:=p.length) hb.b hu hv hW hn h1 h2 t oo_).z
 have hS:Po (dF p a b) (sb c (qa.num*qb.den) (qb.num*qa.den) (qa.den*qb.den) p.length p.length):=by
  unfold dF;rw [h.nb,N9,hJ,hJ,iT ha,iT hq];exact aE_ h hb ia ib hu hv hW hn h24 h1 h2 hw (p.length+1) 0 _ [] (Nat.zero_le _) oo_ oo_ B9
 have hP:=oI hS;have bS:=PI (L:=p.length) hb.b hu hv hW hn h1 h2 p.length hl;have hWp:(0:Int)<qa.den*qb.den:=Int.mul_pos lS lS
 have hval:∀ y:Rat,vl (cR (sb c (qa.num*qb.den) (qb.num*qa.den) (qa.den*qb.den) p.length p.length)) y 26=((((qa.den:Int)*(qb.den:Int)) ^ (p.length - 1):Int):Rat)*vl (cR c) (qa+qb*y) n:=fun y=>by
  have hz:((qa.num*qb.den:Int):Rat)+((qb.num*qa.den:Int):Rat)*y=((qa.den*qb.den:Int):Rat)*(qa+qb*y):=by
   have k1:=@AD qa;have k2:=@AD qb;rw [Rat.intCast_mul,Rat.intCast_mul,Rat.intCast_mul,← k1,← k2];grind
  have e1:=ap_ (c:=c) hz hWp hs oo_;rw [Rat.intCast_pow,e1,rX (n:=p.length) (fun i hi=>by unfold cR;rw [h.zero hi];rfl) hl]
 have e0:∀ k,((cN (dF p a b):Nat):Int)*((sb c (qa.num*qb.den) (qb.num*qa.den) (qa.den*qb.den) p.length p.length) k).fdiv (cN (dF p a b))=sb c (qa.num*qb.den) (qb.num*qa.den) (qa.den*qb.den) p.length p.length k:=r7 hS
 have id:aC (cP p a b)=cP p a b:=by unfold cP;exact VW hS
 have hbd:=(cd_ hS bS).mono hl (Nat.mul_le_mul_left w hl)
 have hz:∀ k,p.length≤k→(sb c (qa.num*qb.den) (qb.num*qa.den) (qa.den*qb.den) p.length p.length k).fdiv (cN (dF p a b))=0:=fun k hk=>by rw [bS.z k hk,Int.zero_fdiv]
 by_cases he:dF p a b=[]
 ·refine ⟨1,_,_,by decide,hWp,hP,hbd,id,hz,fun y=>?_⟩
  rw [← hval y,show ((1:Int):Rat)=1 from rfl,Rat.one_mul]
  congr 1
  funext k
  have z0:=hS.zero (k:=k) (by rw [he];exact Nat.zero_le k)
  show (((sb c _ _ _ _ _ k).fdiv _:Int):Rat)=((sb c _ _ _ _ _ k:Int):Rat)
  rw [z0,Int.zero_fdiv]
 refine ⟨((cN (dF p a b):Nat):Int),_,_,by have:=hS.cpos he;omega,hWp,hP,hbd,id,hz,fun y=>?_⟩;rw [← hval y,← aT_]
 congr 1
 funext k
 show _*_=((_:Int):Rat)
 rw [← e0 k,Rat.intCast_mul];rfl
open Go Go.Kn
def ff (i:Int):Nat→Int
 | 0=>1
 | k+1=>ff i k*(i - k)
def fac:Nat→Int
 | 0=>1
 | n+1=>fac n*((n+1:Nat):Int)
def wt (n i k:Nat):Int:=ff i k*fac (n - k)
def bs (γ:Nat→Int) (n i:Nat):Int:=fF (fun k=>wt n i k*γ k) (i+1)
def bin:Nat→Nat→Nat
 | _,0=>1
 | 0,_+1=>0
 | n+1,k+1=>bin n k+bin n (k+1)
theorem aY_ {n i k:Nat} (hn:n≤6) (hi:i≤n) (hk:k≤i):(wt n i k).natAbs<2 ^ 10:=by
 have h:∀ n,n<7→∀ i,i<7→∀ k,k<7→(wt n i k).natAbs<2 ^ 10:=by decide
 exact h n oo_ i oo_ k oo_
theorem DZ {n i:Nat} (hn:n≤6) (hi:i≤n):dL (n:Int) (i:Int)=(List.range (i+1)).map fun k=>E (Z.of (wt n i k)):=by
 rcases (show n=0∨n=1∨n=2∨n=3∨n=4∨n=5∨n=6 by omega) with rfl|rfl|rfl|rfl|rfl|rfl|rfl
 ·rcases (show i=0 by omega) with rfl;kernel_rfl
 ·rcases (show i=0∨i=1 by omega) with rfl|rfl<;>kernel_rfl
 ·rcases (show i=0∨i=1∨i=2 by omega) with rfl|rfl|rfl<;>kernel_rfl
 ·rcases (show i=0∨i=1∨i=2∨i=3 by omega) with rfl|rfl|rfl|rfl<;>kernel_rfl
 ·rcases (show i=0∨i=1∨i=2∨i=3∨i=4 by omega) with rfl|rfl|rfl|rfl|rfl<;>kernel_rfl
 ·rcases (show i=0∨i=1∨i=2∨i=3∨i=4∨i=5 by omega) with rfl|rfl|rfl|rfl|rfl|rfl<;>kernel_rfl
 rcases (show i=0∨i=1∨i=2∨i=3∨i=4∨i=5∨i=6 by omega) with rfl|rfl|rfl|rfl|rfl|rfl|rfl<;>kernel_rfl
section
variable {p:List I} {a b:Rt} {γ:Nat→Int} {n B:Nat}
theorem SQ (hn:n≤6) {i:Nat} (hi:i≤n) (hB:∀ k,(γ k).natAbs<2 ^ B):∀ j,j≤i+1→(fF (fun k=>wt n i k*γ k) j).natAbs≤j*2 ^ (10+B)
 | 0,_=>Nat.zero_le _
 | j+1,hj=>by
  have h1:=SQ hn hi hB j oo_;have h2:=oX (aY_ hn hi (show j≤i by omega)) (hB j);simp only [fF];rw [Nat.succ_mul];omega
theorem SP (hn:n≤6) {i:Nat} (hi:i≤n) (hB:∀ k,(γ k).natAbs<2 ^ B) {j:Nat} (hj:j≤i+1):(fF (fun k=>wt n i k*γ k) j).natAbs<2 ^ (B+13):=by
 have h:=SQ hn hi hB j hj
 have e:(2:Nat) ^ (B+13)=8*2 ^ (10+B):=by rw [show B+13=10+B+3 by omega,Nat.pow_add _ (10+B) 3,Nat.mul_comm]
 have:j*2 ^ (10+B)≤7*2 ^ (10+B):=Nat.mul_le_mul_right _ oo_;have:0<2 ^ (10+B):=Nat.pow_pos dd_;omega
theorem cW_ (hp:p.length=n+1) (hn:n≤6) (hC:Po (cP p a (fA b a)) γ) (hB:∀ k,(γ k).natAbs<2 ^ B) (hk:B+13≤512) (out:List I) {i:Nat} (hi:i≤n):∀ (f j:Nat),i+1 - j<f→j≤i+1 →
  (e7 p a b out i f j (E (Z.of (fF (fun k=>wt n i k*γ k) j)))).2=E (Z.of (bs γ n i))
 | 0,j,h,_=>absurd h (Nat.not_lt_zero _)
 | f+1,j,h,hj=>by
  unfold e7;rw [show (p.length:Int) - 1=(n:Int) by omega,DZ hn hi,List.length_map,List.length_range];rcases Nat.lt_or_eq_of_le hj with h1|h1
  ·rw [decide_eq_true oo_,cond_true]
   have e1:((List.range (i+1)).map fun k=>E (Z.of (wt n i k))).getD j I0=E (Z.of (wt n i j)):=by rw [B4,if_pos h1]
   have b1:cM (wt n i j):=uJ (k:=10) (aY_ hn hi oo_) dd_;have b2:(wt n i j*γ j).natAbs<2 ^ (10+B):=oX (aY_ hn hi oo_) (hB j);simp only;rw [e1,AB,hC.get];simp only [bR];rw [kY b1 (hC.B j),z9 (uJ (SP hn hi hB hj) hk) (uJ b2 oo_)];exact cW_ hp hn hC hB hk out hi f (j+1) oo_ h1
  subst h1;rw [decide_eq_false oo_,cond_false];rfl
theorem LN {v:Int} (h:cM v):(E (Z.of v)).1.bad=false:=by
 have:=LB h;unfold gdI at this;rw [Bool.and_eq_true] at this
 simpa using this.1
theorem cV_ (hp:p.length=n+1) (hn:n≤6) (hC:Po (cP p a (fA b a)) γ) (hB:∀ k,(γ k).natAbs<2 ^ B) (hk:B+13≤512):∀ (f i:Nat),n+1 - i<f→i≤n+1 →
  e6 p a b f ((List.range i).map fun i=>E (Z.of (bs γ n i))) i = .inl ((List.range (n+1)).map fun i=>E (Z.of (bs γ n i)),n+1)
 | 0,i,h,_=>absurd h (Nat.not_lt_zero _)
 | f+1,i,h,hi=>by
  unfold e6;rcases Nat.lt_or_eq_of_le hi with h1|h1
  ·rw [decide_eq_true oo_,cond_true,show (p.length:Int) - 1=(n:Int) by omega,DZ hn oo_,List.length_map,List.length_range]
   have e1:=cW_ hp hn hC hB hk ((List.range i).map fun i=>E (Z.of (bs γ n i))) (show i≤n by omega) (i+1+1) 0 oo_ (Nat.zero_le _);rw [show E (Z.of (fF (fun k=>wt n i k*γ k) 0))=I0 from I0_E.symm] at e1
   show (bif ((e7 p a b _ i (i+1+1) 0 I0).2).1.bad then _ else _)=_
   rw [e1,LN (v:=bs γ n i) (uJ (SP hn (show i≤n by omega) hB (Nat.le_refl _)) hk),cond_false]
   have e2:((List.range i).map fun i=>E (Z.of (bs γ n i)))++[E (Z.of (bs γ n i))]=(List.range (i+1)).map fun i=>E (Z.of (bs γ n i)):=by rw [List.range_succ,List.map_append];rfl
   rw [e2];exact cV_ hp hn hC hB hk f (i+1) oo_ h1
  subst h1;rw [decide_eq_false oo_,cond_false]
theorem CZ {u v G:Int} (hu:cM u) (hG:cM G) (h0:0<G) (h:G*v=u):Z.quo (Z.of u) (Z.of G)=Z.of v:=by
 rw [wQ hu hG h0,← h,Int.mul_ediv_cancel_left _ oo_]
theorem XF (out0:List I) (i0:Nat) {N:Nat} {G:Int} {v l:Nat→Int} (h0:0<G) (hG:cM G) (hv:∀ k,k<N→cM (v k)) (hl:∀ k,k<N→G*l k=v k) (hlen:out0.length=N) (hc:dB out0=E (Z.of G)):∀ (f k:Nat),N - k<f→k≤N →
  (fJ p a b out0 i0 f k ((List.range N).map fun i=>E (Z.of (if i<k then l i else v i)))).2=(List.range N).map fun i=>E (Z.of (l i))
 | 0,k,h,_=>absurd h (Nat.not_lt_zero _)
 | f+1,k,h,hk=>by
  unfold fJ;rw [hlen];rcases Nat.lt_or_eq_of_le hk with h1|h1
  ·rw [decide_eq_true oo_,cond_true,hc,B4,if_pos h1,if_neg (Nat.lt_irrefl _),bR,bR,CZ (hv k h1) hG h0 (hl k h1)]
   have e:((List.range N).map fun i=>E (Z.of (if i<k then l i else v i))).set k (E (Z.of (l k)))=(List.range N).map fun i=>E (Z.of (if i<k+1 then l i else v i)):=by
    apply List.ext_getElem
    ·simp
    intro j hj hj';simp only [List.length_set,List.length_map,List.length_range] at hj;rw [List.getElem_set];simp only [List.getElem_map,List.getElem_range]
    by_cases hjk:k=j
    ·subst hjk;rw [if_pos O,if_pos oo_]
    rw [if_neg hjk]
    by_cases h2:j<k
    ·rw [if_pos h2,if_pos oo_]
    rw [if_neg h2,if_neg oo_]
   rw [e];exact XF out0 i0 h0 hG hv hl hlen hc f (k+1) oo_ h1
  subst h1;rw [decide_eq_false oo_,cond_false]
  exact List.map_congr_left fun i hi=>by rw [if_pos (List.mem_range.1 hi)]
theorem WO (hp:p.length=n+1) (hn:n≤6) (nb:aP p=false) (hf:gS [a,b]=true) (hC:Po (cP p a (fA b a)) γ) (hB:∀ k,(γ k).natAbs<2 ^ B) (hk:B+13≤512) :
  ∃ (G:Int) (l:Nat→Int),0<G∧(∀ i,i≤n→G*l i=bs γ n i)∧(∀ i,i≤n→(l i).natAbs<2 ^ (B+13))∧aL p a b=((List.range (n+1)).map (fun i=>E (Z.of (l i))),true):=by
 have e0:=cV_ hp hn hC hB hk (p.length+1) 0 oo_ (Nat.zero_le _);rw [show ((List.range 0).map fun i=>E (Z.of (bs γ n i)))=([]:List I) from rfl] at e0;have hv:∀ i,i<n+1→cM (bs γ n i):=fun i hi=>uJ (SP hn oo_ hB (Nat.le_refl _)) hk
 have hall:((List.range (n+1)).map fun i=>E (Z.of (bs γ n i))).all gdI=true:=by
  rw [List.all_eq_true];intro x hx;obtain ⟨i,hi,rfl⟩:=List.mem_map.1 hx;exact LB (hv i (List.mem_range.1 hi))
 obtain ⟨c1,c2⟩:=yA hall
 have cd:∀ i,i<n+1→((cN ((List.range (n+1)).map fun i=>E (Z.of (bs γ n i))):Nat):Int) ∣ bs γ n i:=fun i hi=>by
  have:=CD (l:=(List.range (n+1)).map fun i=>E (Z.of (bs γ n i))) (x:=E (Z.of (bs γ n i))) (List.mem_map.2 ⟨i,List.mem_range.2 hi,rfl⟩)
  rwa [WJ (hv i hi)] at this
 have blt:∀ i,i≤n→(bs γ n i).natAbs<2 ^ (B+13):=fun i hi=>SP hn hi hB (Nat.le_refl _);unfold aL;rw [nb,hf,hC.nb,e0];simp only [sm,Bool.not_true,Bool.or_false,cond_false];rw [c1,bR,iQ c2];generalize hout:((List.range (n+1)).map fun i=>E (Z.of (bs γ n i)))=out at *
 have hlen:out.length=n+1:=by rw [← hout,List.length_map,List.length_range]
 rcases Nat.eq_zero_or_pos (cN out) with h0|h0
 ·rw [h0]
  refine ⟨1,bs γ n,by decide,fun i _=>Int.one_mul _,blt,?_⟩;rw [show ((((0:Nat):Int).sign) != 0)=false from rfl,cond_false,hout]
 rw [Int.sign_eq_one_of_pos oo_,show ((1:Int) != 0)=true from rfl,cond_true];have hl:∀ k,k<n+1→((cN out:Nat):Int)*(bs γ n k / (cN out:Nat))=bs γ n k:=fun k hk=>Int.mul_ediv_cancel' (cd k hk);refine ⟨(cN out:Nat),fun i=>bs γ n i / (cN out:Nat),by omega,fun i hi=>hl i oo_,fun i hi=>?_,?_⟩
 ·have h1:=hl i oo_
  refine Nat.lt_of_le_of_lt ?_ (blt i hi);rw [← h1,Int.natAbs_mul];rw [Int.natAbs_natCast];exact Nat.le_mul_of_pos_left _ h0
 have e2:=XF (p:=p) (a:=a) (b:=b) out (n+1) (v:=bs γ n) (l:=fun i=>bs γ n i / (cN out:Nat)) oo_ c2 hv hl hlen c1 (out.length+1) 0 oo_ (Nat.zero_le _);rw [show ((List.range (n+1)).map fun i=>E (Z.of (if i<0 then bs γ n i / (cN out:Nat) else bs γ n i)))=out from by rw [← hout];exact List.map_congr_left fun i _=>by rw [if_neg (Nat.not_lt_zero _)]] at e2
 show ((fJ p a b out (n+1) (out.length+1) 0 out).2,true)=_
 rw [e2]
end
open Go Go.Kn
def cut (F:Nat→Int) (k i:Nat):Int:=if i<k then F i else 0
theorem BB (g F:Nat→Int) (k j:Nat):conv g (cut F (k+1)) j=conv g (cut F k) j+F k*shf g k j:=by
 have h:=QX g (cut F (k+1)) k j fun i hi=>by unfold cut;rw [if_neg oo_]
 rw [h]
 have e1:cut F (k+1) k=F k:=by unfold cut;rw [if_pos oo_]
 have e2:(fun i=>if i<k then cut F (k+1) i else 0)=cut F k:=funext fun i=>by
  unfold cut
  by_cases h:i<k
  ·rw [if_pos h,if_pos h,if_pos oo_]
  rw [if_neg h,if_neg h]
 rw [e1,e2]
theorem KQ {F:Nat→Int} {m:Nat} (hF:∀ i,m<i→F i=0):cut F (m+1)=F:=funext fun i=>by
 unfold cut
 split
 ·rfl
 exact (hF i oo_).symm
theorem d2_ {F:Nat→Int} {A:Nat} (hA:∀ i,(F i).natAbs≤A) (k i:Nat):(cut F k i).natAbs≤A:=by
 unfold cut
 split
 ·exact hA i
 exact Nat.zero_le _
theorem LT {a:List I} {c:Nat→Int} (h:Po a c):∃ e:Int,(e=1∨e = -1)∧Po (bif (((a.length:Int)==0)||decide (0<(Z.signW (a.getD (a.length - 1) I0).dec).1)) then a else eB ([]:List I) a (fun (y:I) (z:I)=>E (Z.sub y.dec z.dec))) (fun k=>e*c k)∧∀ m,(∀ i,m<i→c i=0)→0≤e*c m:=by
 by_cases h0:a=[]
 ·subst h0
  rw [show (([]:List I).length:Int)==0 from rfl,Bool.true_or,cond_true];exact ⟨1,.inl O,h.cast fun k=>(Int.one_mul _).symm,fun m hm=>by rw [h.zero (Nat.zero_le _)];decide⟩
 obtain ⟨t,t1,t2,t3⟩:=h.top h0;rw [show ((a.length:Int)==0)=false from beq_eq_false_iff_ne.2 oo_,Bool.false_or,t1,Nat.add_sub_cancel,h.get,bR,iQ (h.B t)]
 have key:∀ m,(∀ i,m<i→c i=0)→c m=0∨m=t:=fun m hm=>by
  rcases Nat.lt_trichotomy m t with h1|h1|h1
  ·exact absurd (hm t h1) t2
  ·exact .inr h1
  exact .inl (t3 m h1)
 by_cases hp:0<(c t).sign
 ·rw [decide_eq_true hp,cond_true]
  refine ⟨1,.inl O,h.cast fun k=>(Int.one_mul _).symm,fun m hm=>?_⟩;rw [Int.one_mul];rcases key m hm with h1|h1
  ·rw [h1];exact Int.le_refl _
  rw [h1];have:=Int.sign_pos_iff.1 hp;omega
 rw [decide_eq_false hp,cond_false];refine ⟨-1,.inr O,?_,fun m hm=>?_⟩
 ·refine EM B9 h (fun k=>by rw [bR,bR,MP B0 (h.B k),Int.zero_sub,Int.neg_one_mul]) (fun k=>by have:=h.B k;unfold cM at *;rwa [Int.neg_one_mul,Int.natAbs_neg]) (fun k _ h=>by rw [h];rfl)
 rcases key m hm with h1|h1
 ·rw [h1];decide
 rw [h1];have:¬ 0<c t:=fun hx=>hp (Int.sign_pos_iff.2 hx);omega
section
variable {P:List I} {g F:Nat→Int} {n m A B:Nat}
theorem S8 (hG:Po (aN P (aD P)) g) (hn:(aN P (aD P)).length=n+1) (hg0:0<g n) (hA:∀ i,(F i).natAbs≤A) (hB:∀ i,(g i).natAbs≤B) (hAB:(n+1)*(B*A)<4294967296 ^ 16) :
  ∀ (k fu:Nat) (i:Int) (r f:List I),i=(k:Int) - 1→k<fu→k≤m+1→r.length=n+m+1→f.length=m+1→(∀ j,r.getD j I0=E (Z.of (conv g (cut F k) j)))→(∀ j,k≤j→f.getD j I0=E (Z.of (F j))) →
  ∃ i' r' f',eK P fu i r f = .inl (i',r',f')∧f'.length=m+1∧∀ j,f'.getD j I0=E (Z.of (F j))
 | _,0,_,_,_,_,h,_,_,_,_,_=>absurd h (Nat.not_lt_zero _)
 | 0,fu+1,i,r,f,hi,hk,hkm,hr,hf,hrv,hfv=>by
  unfold eK;rw [decide_eq_false oo_,cond_false];exact ⟨i,r,f,rfl,hf,fun j=>hfv j (Nat.zero_le _)⟩
 | k+1,fu+1,i,r,f,hi,hk,hkm,hr,hf,hrv,hfv=>by
  have hi':i=(k:Int):=by omega
  have hgz:∀ j,n<j→g j=0:=fun j hj=>hG.zero oo_;have hAB1:B*A<4294967296 ^ 16:=Nat.lt_of_le_of_lt (Nat.le_mul_of_pos_left _ (Nat.succ_pos n)) hAB;have bc:∀ k j,cM (conv g (cut F k) j):=fun k j=>Nat.lt_of_le_of_lt (EK hB (d2_ hA k) (fun i hi=>hgz i oo_) j) hAB
  have hshf:∀ j,(shf g k j).natAbs≤B:=fun j=>by
   unfold shf;split
   ·exact hB _
   exact Nat.zero_le _
  have bm:∀ j,cM (F k*shf g k j):=fun j=>by
   refine Nat.lt_of_le_of_lt ?_ hAB1;rw [Int.natAbs_mul,Nat.mul_comm B];exact Nat.mul_le_mul (hA k) (hshf j)
  have hB1:1≤B:=by have:=hB n;omega
  have bF:cM (F k):=Nat.lt_of_le_of_lt (Nat.le_trans (hA k) (Nat.le_mul_of_pos_left _ hB1)) hAB1
  have htop:conv g (cut F (k+1)) (n+k)=g n*F k:=by
   rw [mW hgz fun i hi=>by unfold cut;rw [if_neg oo_]]
   congr 1
   unfold cut;rw [if_pos oo_]
  have hq:(E (Z.quo (r.getD (i.toNat+((aN P (aD P)).length - 1)) I0).dec ((aN P (aD P)).getD ((aN P (aD P)).length - 1) I0).dec))=E (Z.of (F k)):=by
   rw [hn,Nat.add_sub_cancel,show i.toNat+n=n+k by omega,hrv,hG.get,bR,bR,CZ (bc (k+1) _) (hG.B n) hg0 (v:=F k) htop.symm]
  unfold eK;rw [decide_eq_true oo_,cond_true];simp only;rw [hq]
  have hx:((f.set i.toNat (E (Z.of (F k)))).getD i.toNat I0).dec=Z.of (F k):=by rw [jU _ _ _ oo_,bR]
  have hfr:∀ j,frE (aN P (aD P)) r k (Z.of (F k)) j=E (Z.of (conv g (cut F k) j)):=fun j=>by
   unfold frE
   have e:conv g (cut F k) j=conv g (cut F (k+1)) j - F k*shf g k j:=by rw [BB];omega
   rw [hrv,KK hG k j,bR,bR,kY bF (dq_ hG k j),MP (bc _ _) (bm j),← e]
  rcases K0 P i r f (E (Z.of (F k))) (g:=aN P (aD P)) O hi' ((aN P (aD P)).length+1) 0 r oo_ (Nat.zero_le _) O oo_ (fun j _=>rfl) with ⟨t',k',e1,e2,e3,e4⟩|⟨e1,j,j1,j2,j3⟩
  ·rw [e1]
   simp only [sm];rw [hx] at e3;refine S8 hG hn hg0 hA hB hAB k fu (i - 1) t' _ oo_ oo_ oo_ oo_ (by rw [List.length_set];exact hf) (fun j=>?_) (fun j hj=>?_)
   ·rw [e3 j]
    by_cases hj:k+0≤j∧j<k+(aN P (aD P)).length
    ·rw [if_pos hj,hfr]
    rw [if_neg hj,hrv,BB]
    have:shf g k j=0:=by
     unfold shf
     split
     ·exact hgz _ oo_
     rfl
    rw [this,Int.mul_zero,Int.add_zero]
   rw [show i.toNat=k by omega]
   by_cases hjk:j=k
   ·subst hjk;exact jU _ _ _ oo_
   rw [nZ _ _ _ _ hjk];exact hfv j oo_
  rw [hx,hfr j,LN (bc k j)] at j3
  cases j3
theorem WQ (hG:Po (aN P (aD P)) g) (hn:(aN P (aD P)).length=n+1) (hg0:0<g n) (hA:∀ i,(F i).natAbs≤A) (hB:∀ i,(g i).natAbs≤B) (hAB:(n+1)*(B*A)<4294967296 ^ 16)
  {ρ:Nat→Int} (hR:Po (aC P) ρ) (hρ:∀ k,ρ k=conv g F k) (hF0:F m≠0) (hF:∀ i,m<i→F i=0):∃ e:Int,(e=1∨e = -1)∧Po (aT P) (fun k=>e*F k)∧∀ m,(∀ i,m<i→F i=0)→0≤e*F m:=by
 have hgz:∀ j,n<j→g j=0:=fun j hj=>hG.zero oo_
 have hRl:(aC P).length=n+m+1:=hR.len_top (by rw [hρ,mW hgz hF];exact Int.mul_ne_zero oo_ hF0) fun i hi=>by rw [hρ];exact kU (n:=n+1) (m:=m+1) (fun j hj=>hgz j hj) (fun j hj=>hF j hj) i oo_
 have hB1:1≤B:=by have:=hB n;omega
 have hAB1:B*A<4294967296 ^ 16:=Nat.lt_of_le_of_lt (Nat.le_mul_of_pos_left _ (Nat.succ_pos n)) hAB;have bF:∀ k,cM (F k):=fun k=>Nat.lt_of_le_of_lt (Nat.le_trans (hA k) (Nat.le_mul_of_pos_left _ hB1)) hAB1;have hlen:=hR.l;unfold aT;rw [hG.nb,hR.nb,Bool.or_false,cond_false,show (((aC P).length:Int)==0)=false from beq_eq_false_iff_ne.2 oo_,cond_false]
 obtain ⟨i',r',f',e1,e2,e3⟩:=S8 hG hn hg0 hA hB hAB (m:=m) (m+1) ((aC P).length+2) (((List.replicate ((aC P).length - ((aN P (aD P)).length - 1)) I0).length:Int) - 1) (aC P) (List.replicate ((aC P).length - ((aN P (aD P)).length - 1)) I0) (by rw [List.length_replicate];omega) oo_ (Nat.le_refl _) hRl (by rw [List.length_replicate];omega) (fun j=>by rw [hR.get,hρ,KQ hF]) (fun j hj=>by
  rw [hF j oo_,← I0_E]
  exact lO (by rw [List.length_replicate];omega))
 rw [e1];simp only [sm]
 have hM:Po (bG f') F:=by rw [qK];exact AJ e3 bF fun k hk=>hF k oo_
 exact LT hM
end
def dI (c:Nat→Int) (k:Nat):Int:=((k+1:Nat):Int)*c (k+1)
theorem SW {c:Nat→Int} (h:lF c):lF (dI c):=by
 obtain ⟨n,h⟩:=h;exact ⟨n,fun i hi=>by unfold dI;rw [h _ oo_,Int.mul_zero]⟩
theorem cT_ {c:Nat→Int} (h:lF c):ZP (dI c) (SW h)=QP.D (ZP c h):=QP.ex fun k=>by rw [QP.D_c,kT,kT];unfold dI;rw [Rat.intCast_mul];rfl
theorem ec_ {A B C:QP} (S:QP) (h:Gd A B C):Gd (S*A) (S*B) (S*C):=fun d=>by
 obtain ⟨c1,c2⟩:=(h C).2 (.refl C);obtain ⟨g,u,v,h1,h2,h3⟩:=QP.bezout A B;obtain ⟨k,hk⟩:=(h g).1 ⟨h2,h3⟩
 constructor
 ·rintro ⟨d1,d2⟩
  rw [hk,← QP.mul_assoc',h1,QP.mul_add',QP.lc' S u,QP.lc' S v];exact ((d1.mul_l u).add (d2.mul_l v)).mul k
 exact fun d1=>⟨d1.trans (c1.both S),d1.trans (c2.both S)⟩
theorem UZ {c:Nat→Int} (h:lF c) (h0:¬ ∀ k,c k=0):ZP c h≠QP.C 0:=fun e=>h0 fun k=>by
 have e1:=congrArg (fun x:QP=>x.c k) e;simp only [kT,QP.C0_c] at e1;exact Rat.intCast_eq_zero_iff.1 e1
section
variable {σ:Nat→Int} {ds S G:Nat}
theorem eU_ (hσ:Cop σ) (hs0:σ ds≠0) (hs:∀ i,ds<i→σ i=0) (hS:∀ k,(σ k).natAbs≤S) {P:List I} {c:Nat→Int} (hP:Po P c) (h0:P≠[]) (hD:Po (aD P) (dI c)) {f n0 n1 M0 M1:Nat} {α β:Nat→Int} (pa:Pr α n0 M0) (pb:Pr β n1 M1) (h:okT S ds G f n0 n1 M0 M1=true) (ha:Po (aC P) (conv σ α)) (hb:Po (aC (aD P)) (conv σ β)) :
  ∃ (g F:Nat→Int) (n:Nat) (eρ:lF (conv σ α)) (eF:lF F),Po (aN P (aD P)) g∧0<g n∧(∀ i,n<i→g i=0)∧(∀ i,(g i).natAbs≤(ds+1)*(S*G))∧Cop g∧Cop F∧(∀ k,conv σ α k=conv g F k)∧∀ h,QP.Irr h→(QP.Dv h (ZP (conv σ α) eρ)→QP.Dv h (ZP F eF))∧¬ QP.Dv (h*h) (ZP F eF):=by
 have es:lF σ:=⟨ds+1,fun i hi=>hs i hi⟩;obtain ⟨γ,_,pc,g1,g2,g3⟩:=a5_ hσ hs0 hs hS pa pb h ha hb
 have ea:∀ k,((cN P:Nat):Int)*conv σ α k=c k:=fun k=>by
  rw [← r7 hP k]
  congr 1
  exact (ha.c k).symm.trans ((oI hP).c k)
 have eb:∀ k,((cN (aD P):Nat):Int)*conv σ β k=dI c k:=fun k=>by
  rw [← r7 hD k]
  congr 1
  exact (hb.c k).symm.trans ((oI hD).c k)
 have hcP:=hP.cpos h0;have hc0:¬ ∀ k,c k=0:=fun hz=>h0 (hP.nil hz)
 have hα:Cop α:=pa.p.resolve_right fun hz=>hc0 fun k=>by rw [← ea k,nU hz,Int.mul_zero]
 have hρ:Cop (conv σ α):=c3_ hσ hα;have eρ:=zG es pa.e;have eσβ:=zG es pb.e;have hG:=ec_ (ZP σ es) g2;rw [← pW es pa.e,← pW es pb.e,← pW es pc.e] at hG;have eg:=zG es pc.e;have hρ0:=UZ eρ (CH hρ);obtain ⟨d1,d2⟩:=(hG (ZP (conv σ γ) eg)).2 (.refl _)
 have hγ:Cop γ:=pc.p.resolve_right fun hz=>hρ0 (by
  have e0:ZP (conv σ γ) eg=QP.C 0:=QP.ex fun k=>by rw [kT,nU hz,QP.C0_c];rfl
  rw [e0] at d1
  exact d1.of_zero)
 have hg:Cop (conv σ γ):=c3_ hσ hγ;obtain ⟨F,eF,hF⟩:=AG hg eg eρ d1;obtain ⟨n,n1,n2⟩:=(HF eg).resolve_left (CH hg);have hFc:Cop F:=CI (s:=conv σ γ) (by rw [← show conv σ α=conv (conv σ γ) F from funext hF];exact hρ)
 -- the derivative, up to a number
 have hDv:∀ x,QP.Dv x (QP.D (ZP (conv σ α) eρ)) ↔ QP.Dv x (ZP (conv σ β) eσβ):=fun x=>by
  have e1:QP.C (((cN P:Nat):Int):Rat)*QP.D (ZP (conv σ α) eρ)=QP.C (((cN (aD P):Nat):Int):Rat)*ZP (conv σ β) eσβ:=QP.ex fun k=>by
   rw [QP.C_mul,QP.C_mul,QP.D_c,kT,kT,← Rat.intCast_mul,eb k];unfold dI;rw [← ea (k+1),Rat.intCast_mul,Rat.intCast_mul]
   show _=((k+1:Nat):Rat)*_
   grind
  have hcP':(((cN P:Nat):Int):Rat)≠0:=fun e=>by have:=Rat.intCast_eq_zero_iff.1 e;omega
  by_cases hz:aD P=[]
  ·have z1:ZP (conv σ β) eσβ=QP.C 0:=QP.ex fun k=>by
    rw [kT,QP.C0_c,← show (0:Int)=conv σ β k from ?_]
    ·rfl
    have:=(hb.c k).symm.trans ((oI hD).c k);rw [hD.zero (k:=k) (by rw [hz];exact Nat.zero_le _),Int.zero_fdiv] at this;exact this.symm
   rw [z1,QP.mul_zero'] at e1
   have z2:QP.D (ZP (conv σ α) eρ)=QP.C 0:=by
    apply Classical.byContradiction
    intro hx;exact QP.mul_ne (QP.C_dg hcP').ne hx e1
   rw [z1,z2]
  have hcD:=hD.cpos hz
  have hcD':(((cN (aD P):Nat):Int):Rat)≠0:=fun e=>by have:=Rat.intCast_eq_zero_iff.1 e;omega
  exact ⟨fun h=>QP.Dv.scale hcD' (by rw [← e1];exact h.mul_l _),fun h=>QP.Dv.scale hcP' (by rw [e1];exact h.mul_l _)⟩
 refine ⟨conv σ γ,F,n,eρ,eF,g1,?_,n2,?_,hg,hFc,hF,fun h hi=>?_⟩
 ·have:=g3 n n2
  omega
 ·exact fun i=>EK hS pc.b (fun j hj=>hs j oo_) i
 refine QP.sqf_part (G:=ZP (conv σ γ) eg) hρ0 ?_ ((hDv _).2 d2) (fun d h1 h2=>(hG d).1 ⟨h1,(hDv d).1 h2⟩) hi;rw [← pW eg eF];exact ND _ _ hF
end
open Go Go.Kn
theorem Zx.neg {a:Z} {u:Int} (ha:Zx a u):Zx (Z.neg a) (-u):=by
 rcases ha with h|⟨h,h1⟩
 ·left;rw [Z.neg,rH h];rfl
 subst h;rw [Z.neg,kI (Z.of_some h1)];exact .of _
theorem Zx.sub {a b:Z} {u v:Int} (ha:Zx a u) (hb:Zx b v):Zx (Z.sub a b) (u - v):=by
 rw [Int.sub_eq_add_neg];exact ha.add hb.neg
theorem a4_ {z:Z} (h:z.o=none):(E z).1.bad=true:=by
 have:z=Z.bad:=by
  cases z with
  | mk o hb=>simp only at h;subst h;rfl
 rw [this];rfl
theorem Zx.cases {z:Z} {v:Int} (h:Zx z v):(E z).1.bad=true∨(E z=E (Z.of v)∧cM v):=by
 rcases h with h|⟨h,b⟩
 ·exact .inl (a4_ h)
 exact .inr ⟨by rw [h],b⟩
section
variable {p q:List I} {c d:Nat→Int} {n:Nat}
theorem e3_ (v:Int):cM v.sign:=by
 rcases Int.lt_trichotomy v 0 with h|h|h
 ·rw [Int.sign_eq_neg_one_of_neg h];decide
 ·rw [h];decide
 rw [Int.sign_eq_one_of_pos h];decide
theorem dn_ (g:Po q d) (hn:q.length=n+1) {r:Nat→Int} {i:Nat} (l:List I) (h2:∀ k,cM (r k)):∀ (f k:Nat) (t:List I),l.length - k<f→k≤l.length→t.length=l.length →
  (∀ j,t.getD j I0=E (Z.of (if j<k then j9 (d n).natAbs (d n).sign d n i r j else r j)))→(∀ j,j<k→cM (j9 (d n).natAbs (d n).sign d n i r j)) →
  eW p q (i:Int) l (E (Z.of ((d n).sign*r (i+n)))) f k t = .inr badp ∨
  ∃ t',eW p q (i:Int) l (E (Z.of ((d n).sign*r (i+n)))) f k t = .inl (l.length,t')∧t'.length=l.length∧(∀ j,t'.getD j I0=E (Z.of (if j<l.length then j9 (d n).natAbs (d n).sign d n i r j else r j)))∧∀ j,j<l.length→cM (j9 (d n).natAbs (d n).sign d n i r j)
 | 0,k,t,hf,_,_,_,_=>absurd hf (Nat.not_lt_zero _)
 | f+1,k,t,hf,hk,ht,hv,hb=>by
  unfold eW
  by_cases hl:k<l.length
  ·rw [decide_eq_true oo_,cond_true]
   have e:=hv k;rw [if_neg (Nat.lt_irrefl k)] at e
   have hz:Zx (Z.sub (Z.mul (Z.abs (q.getD (q.length - 1) I0).dec) (t.getD k I0).dec) (Z.mul (E (Z.of ((d n).sign*r (i+n)))).dec (dR q ((k:Int) - (i:Int))).dec)) (j9 (d n).natAbs (d n).sign d n i r k):=by
    rw [hn,Nat.add_sub_cancel,g.get,e,KK g,bR,bR,bR,bR,SJ (g.B _)];exact ((Zx.of _).mul (.of _)).sub ((Zx.of _).mul (.of _))
   simp only;rcases hz.cases with h|⟨h,b⟩
   ·left
    rw [jU t k _ oo_,h,cond_true,DC]
   rw [h,jU t k _ oo_,E7 b,cond_false];refine dn_ g hn l h2 f (k+1) _ oo_ oo_ (by rw [List.length_set];exact ht) (fun j=>?_) fun j hj=>?_
   ·by_cases hj:j=k
    ·subst hj;rw [jU t j _ oo_,if_pos oo_]
    rw [nZ t k j _ hj,hv j]
    by_cases hjk:j<k
    ·rw [if_pos hjk,if_pos oo_]
    rw [if_neg hjk,if_neg oo_]
   by_cases hjk:j=k
   ·subst hjk;exact b
   exact hb j oo_
  rw [decide_eq_false oo_,cond_false]
  have:k=l.length:=by omega
  subst this;exact .inr ⟨t,rfl,ht,hv,hb⟩
theorem dm_ (g:Po q d) (hn:q.length=n+1):∀ (m f:Nat) (i:Int) (l:List I) (r:Nat→Int),i=(m:Int) - 1→m<f→(m≤l.length - n)→(∀ j,l.getD j I0=E (Z.of (r j)))→(∀ k,l.length≤k→r k=0)→(∀ k,cM (r k)) →
  dD p q f i l = .inr badp ∨ ∃ i' l',dD p q f i l = .inl (i',l')∧l'.length=l.length∧(∀ j,l'.getD j I0=E (Z.of (q7 (d n).natAbs (d n).sign d n m r j)))∧(∀ k,l.length≤k→q7 (d n).natAbs (d n).sign d n m r k=0)∧∀ k,cM (q7 (d n).natAbs (d n).sign d n m r k)
 | m,0,i,l,r,_,hf,_,_,_,_=>absurd hf (Nat.not_lt_zero _)
 | 0,f+1,i,l,r,hi,hf,hm,hl,hz,hB=>by
  unfold dD;rw [decide_eq_false oo_,cond_false];exact .inr ⟨i,l,rfl,rfl,hl,hz,hB⟩
 | m+1,f+1,i,l,r,hi,hf,hm,hl,hz,b1=>by
  unfold dD;rw [decide_eq_true oo_,cond_true]
  have e:E (Z.mul (Z.of (Z.signW (q.getD (q.length - 1) I0).dec).1) (l.getD (i.toNat+(q.length - 1)) I0).dec)=E (Z.of ((d n).sign*r (m+n))):=by
   rw [hn,Nat.add_sub_cancel,g.get,hl,bR,bR,iQ (g.B n),show i.toNat=m by omega,kY (e3_ _) (b1 _)]
  have h1:=dn_ (p:=p) g hn (i:=m) l b1 (l.length+1) 0 l oo_ (Nat.zero_le _) O (fun j=>by rw [if_neg (Nat.not_lt_zero _)];exact hl j) (fun j hj=>absurd hj (Nat.not_lt_zero _));simp only;rw [e,show i=(m:Int) by omega];rcases h1 with h1|⟨t,h1,h2,h3,h4⟩
  ·rw [h1];exact .inl O
  rw [h1]
  have k1:∀ j,t.getD j I0=E (Z.of (j9 (d n).natAbs (d n).sign d n m r j)):=fun j=>by
   rw [h3 j]
   split
   ·rfl
   rw [hz j oo_,tY g hn hz oo_ oo_]
  have k2:∀ j,cM (j9 (d n).natAbs (d n).sign d n m r j):=fun j=>by
   by_cases hj:j<l.length
   ·exact h4 j hj
   rw [tY g hn hz oo_ oo_];exact B0
  rcases dm_ g hn m f ((m:Int) - 1) t _ O oo_ oo_ k1 (fun k hk=>tY g hn hz oo_ oo_) k2 with h5|⟨i',l',a1,a2,a3,a4,a5⟩
  ·exact .inl h5
  exact .inr ⟨i',l',a1,a2.trans h2,a3,fun k hk=>a4 k oo_,a5⟩
theorem cQ_ (h:Po p c) (g:Po q d) (hn:q.length=n+1):aZ p q=badp∨Po (aZ p q) (q7 (d n).natAbs (d n).sign d n (p.length - n) c):=by
 unfold aZ;rw [h.nb,g.nb,show ((q.length:Int)==0)=false from beq_eq_false_iff_ne.2 oo_,Bool.false_or,Bool.false_or,cond_false,List.nil_append,hn];have hl:=h.l
 have go:∀ i:Int,i=(p.length:Int) - 1 - (((n+1:Nat):Int) - 1)→dD p q (p.length+1) i p = .inr badp ∨ ∃ i' l',dD p q (p.length+1) i p = .inl (i',l')∧l'.length=p.length∧(∀ j,l'.getD j I0=E (Z.of (q7 (d n).natAbs (d n).sign d n (p.length - n) c j)))∧(∀ k,p.length≤k→q7 (d n).natAbs (d n).sign d n (p.length - n) c k=0)∧∀ k,cM (q7 (d n).natAbs (d n).sign d n (p.length - n) c k):=fun i hi=>by
  by_cases hs:n≤p.length
  ·exact dm_ g hn (p.length - n) (p.length+1) i p c oo_ oo_ (Nat.le_refl _) h.get (fun k hk=>h.zero hk) h.B
  have e0:p.length - n=0:=by omega
  rw [e0];unfold dD;rw [decide_eq_false oo_,cond_false];exact .inr ⟨i,p,rfl,rfl,h.get,fun k hk=>h.zero hk,h.B⟩
 rcases go _ O with h0|⟨i',l',a1,a2,a3,a4,a5⟩
 ·rw [h0];exact .inl O
 rw [a1]
 show bG l'=badp∨Po (bG l') _
 rw [qK];exact .inr (AJ a3 a5 fun k hk=>a4 k oo_)
end
open Go Go.Kn
theorem rL:aC badp=badp:=by kernel_rfl
theorem wM:aP badp=true:=by kernel_rfl
theorem Z4:aC []=[]:=by kernel_rfl
theorem BF (p q a:List I) (k:Nat) (hk:1≤k):cX p q k a badp = .inr badp:=by
 obtain ⟨m,rfl⟩:∃ m,k=m+1:=⟨k - 1,by omega⟩;unfold cX;rw [wM,Bool.or_true,cond_true,DC,show decide (0<(badp.length:Int))=true from by kernel_rfl,cond_true]
theorem Po.ne_nil {p:List I} {c:Nat→Int} (h:Po p c) (h0:p≠[]):¬ ∀ k,c k=0:=fun hz=>h0 (h.nil hz)
theorem BL {p:List I} {c:Nat→Int} (h:Po p c) (h0:p=[]) (k:Nat):c k=0:=h.zero (by rw [h0];exact Nat.zero_le _)
theorem tT {p:List I} {c:Nat→Int} (h:Po p c):∃ (γ:Nat→Int) (t:Int),t≠0∧0<t∧Po (aC p) γ∧(∀ k,c k=t*γ k)∧(aC p≠[]→Cop γ):=by
 by_cases h0:p=[]
 ·subst h0
  rw [Z4];exact ⟨c,1,by decide,by decide,h,fun k=>(Int.one_mul _).symm,fun h=>absurd O h⟩
 refine ⟨_,((cN p:Nat):Int),?_,?_,oI h,fun k=>(r7 h k).symm,fun _=>BR h h0⟩
 ·have:=h.cpos h0;omega
 have:=h.cpos h0;omega
theorem S9 (p q:List I):∀ (k:Nat) (a b:List I) (α β:Nat→Int) (ha:Po a α) (hb:Po b β),(a≠[]→Cop α)→(b≠[]→Cop β)→gmP b<k →
  cX p q k a b = .inr badp ∨ ∃ (a' b':List I) (γ:Nat→Int) (hc:Po a' γ),cX p q k a b = .inl (a',b')∧(a'≠[]→Cop γ)∧Gd (ZP α ha.ends) (ZP β hb.ends) (ZP γ hc.ends)
 | 0,a,b,α,β,ha,hb,_,_,hk=>absurd hk (Nat.not_lt_zero _)
 | k+1,a,b,α,β,ha,hb,ca,cb,hk=>by
  by_cases h0:b=[]
  ·subst h0
   right
   rw [TC];exact ⟨a,[],α,ha,rfl,ca,LD _ _ fun k=>BL hb O k⟩
  obtain ⟨n,n1,n2,n3⟩:=hb.top h0;unfold cX;have hd:decide (0<(b.length:Int))=true:=decide_eq_true oo_;rw [hd,cond_true,ha.nb,hb.nb,Bool.or_false,cond_false];have hdec:=EO (a:=a) (b:=b) ⟨ha.l,hb.l⟩ (by rw [ha.nb,hb.nb];rfl) hd;rcases cQ_ ha hb n1 with hr|hr
  ·rw [hr,rL]
   rw [hr,rL] at hdec;exact .inl (BF p q b k oo_)
  obtain ⟨γ,t,t0,_,hγ,e1,e2⟩:=tT hr;rcases S9 p q k b (aC (aZ a b)) β γ hb hγ cb e2 oo_ with h1|⟨a',b',δ,hc,r1,r2,r3⟩
  ·exact .inl h1
  refine .inr ⟨a',b',δ,hc,r1,r2,?_⟩;obtain ⟨Q,hQ,hq⟩:=EX (a:=((β n).natAbs:Int)) (o:=(β n).sign) (d:=β) (n:=n) (a.length - n) α;refine LC ha.ends hb.ends hγ.ends hQ (w:=((β n).natAbs:Int) ^ (a.length - n)) (t:=t) (Int.pow_ne_zero oo_) t0 (fun k=>?_) r3;rw [hq k,e1 k]
theorem fp_ {p q:List I} {c d:Nat→Int} (hp:Po p c) (hq:Po q d):aN p q=badp ∨ ∃ (α β g:Nat→Int) (s t:Int) (ha:Po (aC p) α) (hb:Po (aC q) β) (hg:Po (aN p q) g),
  0<s∧0<t∧(∀ k,c k=s*α k)∧(∀ k,d k=t*β k)∧(aC p≠[]→Cop α)∧(aN p q≠[]→Cop g)∧Gd (ZP α ha.ends) (ZP β hb.ends) (ZP g hg.ends)∧∀ m,(∀ i,m<i→g i=0)→0≤g m:=by
 obtain ⟨α,s,_,s0,ha,ea,ca⟩:=tT hp;obtain ⟨β,t,_,t0,hb,eb,cb⟩:=tT hq;unfold aN;rcases S9 p q (gmP (aC q)+1) _ _ α β ha hb ca cb (Nat.lt_succ_self _) with h1|⟨a',b',γ,hc,r1,r2,r3⟩
 ·rw [h1];exact .inl O
 rw [r1];obtain ⟨e,he,hP,hm⟩:=LT hc
 right
 refine ⟨α,β,fun k=>e*γ k,s,t,ha,hb,hP,s0,t0,ea,eb,ca,fun hne=>?_,fun x=>?_,fun m h=>hm m fun i hi=>?_⟩
 ·have h0:a'≠[]:=fun h=>hne (by subst h;rfl)
  intro u hu;refine r2 h0 u fun k=>?_;have h1:u ∣ e*γ k:=hu k;rcases he with rfl|rfl
  ·rwa [Int.one_mul] at h1
  rw [Int.neg_one_mul] at h1;exact Int.dvd_neg.1 h1
 ·rw [r3 x]
  have hz:ZP (fun k=>e*γ k) hP.ends=QP.C (e:Rat)*ZP γ hc.ends:=QP.ex fun k=>by rw [QP.C_mul,kT,kT,Rat.intCast_mul]
  have he0:(e:Rat)≠0:=by rcases he with rfl|rfl<;>decide
  rw [hz];exact ⟨fun h=>h.mul_l _,fun h=>QP.Dv.scale he0 h⟩
 have h1:e*γ i=0:=h i hi;rcases he with rfl|rfl
 ·omega
 omega
end Go.Num
