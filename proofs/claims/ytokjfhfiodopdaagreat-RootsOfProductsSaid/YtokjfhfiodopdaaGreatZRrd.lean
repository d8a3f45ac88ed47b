/- Lemmas: what they ask stands in their statements. -/
import Derived.Test.YtokjfhfiodopdaaGreatZQi
set_option linter.unusedSimpArgs false
set_option linter.unusedVariables false
namespace Go.Num
open Go Go.Kn
theorem JH (x y:Int):((x*y).natAbs:Int)=(x.natAbs:Int)*(y.natAbs:Int):=by rw [Int.natAbs_mul,Int.natCast_mul]
theorem V5 {p:List I} {c:Nat→Int} (h:Po p c) {u:Int} (hu:∀ k,u ∣ c k):u ∣ ((cN p:Nat):Int):=zX p 0 (Int.dvd_zero _) fun x hx=>by
 obtain ⟨k,hk⟩:=h.mem hx;rw [hk];exact hu k
theorem Pr.neg {c:Nat→Int} {n M:Nat} (h:Pr c n M):Pr (fun k=>-(c k)) n M:=⟨fun i hi=>by rw [h.z i hi];rfl,fun k=>by rw [Int.natAbs_neg];exact h.b k,by
 rcases h.p with h1|h1
 ·exact .inl fun u hu=>h1 u fun k=>Int.dvd_neg.1 (hu k)
 exact .inr fun k=>by rw [h1 k];rfl⟩
section
variable {σ:Nat→Int} {ds S G:Nat}
theorem T3 (hσ:Cop σ) (hs0:σ ds≠0) (hs:∀ i,ds<i→σ i=0) (hS:∀ k,(σ k).natAbs≤S) {a b:List I} {α β:Nat→Int} {n n0 M0 M1:Nat} (ha:Po a (conv σ α)) (hb:Po b (conv σ β)) (pa:Pr α n0 M0) (hβ0:β n≠0) (hβ:∀ i,n<i→β i=0) (hB:∀ k,(β k).natAbs≤M1)
  (h1:1≤(min ds n+1)*(S*M1)) (hd:(2*((min ds n+1)*(S*M1))) ^ (n0+1 - n)*((min ds n0+1)*(S*M0))<4294967296 ^ 16) :
  ∃ (γ:Nat→Int) (w t:Int) (Q:Nat→Int),Po (aC (bD a b)) (conv σ γ)∧Pr γ (n - 1) ((2*M1) ^ (n0+1 - n)*M0)∧(n=0→∀ k,γ k=0)∧mE Q∧w≠0∧t≠0∧∀ k,w*α k=conv β Q k+t*γ k:=by
 have es:mE σ:=⟨ds+1,fun i hi=>hs i hi⟩;have etop:conv σ β (ds+n)=σ ds*β n:=nR hs hβ;have hbn:b.length=ds+n+1:=hb.len_top (by rw [etop];exact Int.mul_ne_zero hs0 hβ0) fun i hi=>lQ (n:=ds+1) (m:=n+1) (fun j hj=>hs j hj) (fun j hj=>hβ j hj) i oo_
 obtain ⟨m,hm,hm0,hαm⟩:∃ m,a.length - (ds+n)=m∧m≤n0+1 - n∧∀ k,m+n≤k→α k=0:=by
  rcases GU pa.e with h0|⟨l,h0,h2⟩
  ·refine ⟨0,?_,Nat.zero_le _,fun k _=>h0 k⟩
   rw [ha.nil fun k=>oF h0 k];exact Nat.zero_sub _
  have hl:l≤n0:=Nat.le_of_not_lt fun hx=>h0 (pa.z l hx);have:a.length=ds+l+1:=ha.len_top (by rw [nR hs h2];exact Int.mul_ne_zero hs0 h0) fun i hi=>lQ (n:=ds+1) (m:=l+1) (fun j hj=>hs j hj) (fun j hj=>h2 j hj) i oo_;exact ⟨l+1 - n,by omega,by omega,fun k hk=>h2 k oo_⟩
 have hM1:1≤M1:=by have:=hB n;omega
 have cB:∀ k,(conv σ β k).natAbs≤(min ds n+1)*(S*M1):=MX hS hB hs hβ;have cA:∀ k,(conv σ α k).natAbs≤(min ds n0+1)*(S*M0):=MX hS pa.b hs pa.z;have hRB:RemB ((conv σ β (ds+n)).natAbs:Int) (conv σ β (ds+n)).sign (conv σ β) (ds+n) m (conv σ α) :=
  JE h1 (by rw [Int.natAbs_natCast];exact cB _) (OQ _) cB m _ _ cA (Nat.lt_of_le_of_lt (Nat.mul_le_mul_right _ (Nat.pow_le_pow_right oo_ hm0)) hd)
 have hR:=VL ha hb hbn (by rw [hm];exact hRB);rw [hm,etop,Int.sign_mul,JH] at hR;have hlc:(β n).sign*β n=((β n).natAbs:Int):=GF _;rw [IL (n:=n) hs (GF (σ ds)) hlc hβ m α hαm] at hR;obtain ⟨Q,hQ,hQe⟩:=EK (a:=((β n).natAbs:Int)) (o:=(β n).sign) (d:=β) (n:=n) m α;have hρz:=CV hlc hβ m α hαm;have hρb:=LA (n:=n) (a:=((β n).natAbs:Int)) (o:=(β n).sign) (d:=β) (by rw [Int.natAbs_natCast];exact hB n) (OQ _) hB m M0 α pa.b;have hw:((β n).natAbs:Int) ^ m≠0:=Int.pow_ne_zero oo_;have hu:((σ ds).natAbs:Int) ^ m≠0:=Int.pow_ne_zero oo_;have hMm:(2*M1) ^ m*M0≤(2*M1) ^ (n0+1 - n)*M0:=Nat.mul_le_mul_right _ (Nat.pow_le_pow_right oo_ hm0);generalize rD ((β n).natAbs:Int) (β n).sign β n m α=ρ at *;have eρ:mE ρ:=⟨n,hρz⟩
 by_cases hz:bD a b=[]
 ·have hρ0:∀ k,ρ k=0:=by
   refine DB hσ es eρ ⟨0,fun i _=>rfl⟩ (d:=fun _=>0) fun k=>?_;rw [oF (fun _=>rfl)];have:=hR.zero (k:=k) (by rw [hz];exact Nat.zero_le _);exact (Int.mul_eq_zero.1 this).resolve_left hu
  refine ⟨fun _=>0,((β n).natAbs:Int) ^ m,1,Q,?_,⟨fun _ _=>rfl,fun _=>Nat.zero_le _,.inr fun _=>rfl⟩,fun _ _=>rfl,hQ,hw,by decide,fun k=>by rw [hQe k,hρ0 k];rfl⟩;refine (tB hR).cast fun k=>?_;rw [oF (fun _=>rfl),hR.zero (k:=k) (by rw [hz];exact Nat.zero_le _),Int.zero_fdiv]
 obtain ⟨P,hP,hC,hE⟩:∃ P:Nat→Int,Po (aC (bD a b)) P∧Cop P∧∀ k,((cN (bD a b):Nat):Int)*P k=((σ ds).natAbs:Int) ^ m*conv σ ρ k:=⟨_,tB hR,FY hR hz,vQ hR⟩;have hcp:=hR.cpos hz;obtain ⟨t,ht⟩:=V5 hR (u:=((σ ds).natAbs:Int) ^ m) fun k=>Int.dvd_mul_right ..
 have ht0:t≠0:=fun e=>by rw [e,Int.mul_zero] at ht;omega
 have hE':∀ k,t*P k=conv σ ρ k:=fun k=>by
  have:=hE k;rw [ht,Int.mul_assoc] at this;exact Int.eq_of_mul_eq_mul_left hu this
 have eP:=hP.ends
 obtain ⟨γ,eγ,hγ⟩:=zY hσ es eP (by
  refine QP.Dv.scale (t:=(t:Rat)) (fun e=>ht0 (Rat.intCast_eq_zero_iff.1 e)) ⟨ZP ρ eρ,?_⟩;rw [← cY_ eP,← pH es eρ]
  exact ML _ _ hE')
 have hPe:P=conv σ γ:=funext hγ
 have htγ:∀ k,t*γ k=ρ k:=DB hσ es (M7 eγ t) eρ fun k=>by rw [qN];show t*conv σ γ k=_;rw [← hγ,hE']
 refine ⟨γ,((β n).natAbs:Int) ^ m,t,Q,hP.cast hγ,⟨fun i hi=>?_,fun k=>?_,.inl (CD (hPe ▸ hC))⟩,fun hn k=>?_,hQ,hw,ht0,fun k=>by rw [hQe k,htγ k]⟩
 ·have:=hρz i oo_
  rw [← htγ] at this;exact (Int.mul_eq_zero.1 this).resolve_left ht0
 ·refine Nat.le_trans ?_ (Nat.le_trans (hρb k) hMm)
  rw [← htγ,Int.natAbs_mul];exact Nat.le_mul_of_pos_left _ oo_
 have:=hρz k oo_;rw [← htγ] at this;exact (Int.mul_eq_zero.1 this).resolve_left ht0
theorem RQ (p q:List I) (k:Nat) (a:List I):cM p q k a [] = .inl (a,[]):=by cases k<;>rfl
def Gd (α β γ:QP):Prop:=∀ e,(QP.Dv e α∧QP.Dv e β) ↔ QP.Dv e γ
theorem KD {α β γ Q:Nat→Int} (ea:mE α) (eb:mE β) (ec:mE γ) (eQ:mE Q) {w t:Int} (hw:w≠0) (ht:t≠0) (h:∀ k,w*α k=conv β Q k+t*γ k) {δ:QP} (hg:Gd (ZP β eb) (ZP γ ec) δ):Gd (ZP α ea) (ZP β eb) δ:=fun e=>by
 have hw':(w:Rat)≠0:=fun e=>hw (Rat.intCast_eq_zero_iff.1 e);have ht':(t:Rat)≠0:=fun e=>ht (Rat.intCast_eq_zero_iff.1 e)
 have E1:QP.C w*ZP α ea=ZP β eb*ZP Q eQ+QP.C t*ZP γ ec:=QP.ex fun k=>by
  rw [QP.C_mul,QP.add_c,QP.C_mul,← pH,kU,kU,kU,← Rat.intCast_mul,← Rat.intCast_mul,h k,Rat.intCast_add]
 rw [← hg e]
 constructor
 ·rintro ⟨h1,h2⟩
  refine ⟨h2,QP.Dv.scale ht' ?_⟩
  have h3:QP.C t*ZP γ ec=QP.C w*ZP α ea+QP.C (-1)*(ZP β eb*ZP Q eQ):=by
   rw [E1];exact QP.ex fun k=>by simp only [QP.add_c,QP.C_mul];grind
  rw [h3];exact (h1.mul_l _).add ((h2.mul _).mul_l _)
 rintro ⟨h1,h2⟩;refine ⟨QP.Dv.scale hw' ?_,h1⟩;rw [E1];exact (h1.mul _).add (h2.mul_l _)
theorem KE {α β:Nat→Int} (ea:mE α) (eb:mE β) (h:∀ k,β k=0):Gd (ZP α ea) (ZP β eb) (ZP α ea):=fun e=>by
 have:ZP β eb=QP.C 0:=QP.ex fun k=>by rw [kU,h,QP.C0_c];rfl
 exact ⟨fun h=>h.1,fun h=>⟨h,by rw [this];exact .zero e⟩⟩
theorem YT {f n0 n1 M0 M1 n:Nat} (h:okT S ds G (f+1) n0 n1 M0 M1=true) (hn:n≤n1):M0≤G∧M1≤G∧1≤(min ds n+1)*(S*(if n=0 then 1 else M1))∧(2*((min ds n+1)*(S*(if n=0 then 1 else M1)))) ^ (n0+1 - n)*((min ds n0+1)*(S*M0))<4294967296 ^ 16∧(n=0∨okT S ds G f n (n - 1) (if n=0 then 1 else M1) (if n=1 then 1 else (2*(if n=0 then 1 else M1)) ^ (n0+1 - n)*M0)=true):=by
 unfold okT at h;rw [Bool.and_eq_true,Bool.and_eq_true,List.all_eq_true] at h;obtain ⟨⟨h1,h2⟩,h3⟩:=h;have h4:=h3 n (List.mem_range.2 oo_);rw [Bool.and_eq_true,Bool.and_eq_true,Bool.or_eq_true] at h4;obtain ⟨⟨h5,h6⟩,h7⟩:=h4;exact ⟨of_decide_eq_true h1,of_decide_eq_true h2,of_decide_eq_true h5,of_decide_eq_true h6,h7.imp of_decide_eq_true id⟩
theorem XJ (hσ:Cop σ) (hs0:σ ds≠0) (hs:∀ i,ds<i→σ i=0) (hS:∀ k,(σ k).natAbs≤S) (p q:List I):∀ (f n0 n1 M0 M1 k:Nat) (a b:List I) (α β:Nat→Int) (pa:Pr α n0 M0) (pb:Pr β n1 M1),okT S ds G f n0 n1 M0 M1=true→Po a (conv σ α)→Po b (conv σ β)→gmP b<k →
  ∃ (a' b':List I) (γ:Nat→Int) (n:Nat) (pc:Pr γ n G),cM p q k a b = .inl (a',b')∧Po a' (conv σ γ)∧Gd (ZP α pa.e) (ZP β pb.e) (ZP γ pc.e)
 | 0,_,_,_,_,_,_,_,_,_,_,_,h,_,_,_=>absurd h (by unfold okT;decide)
 | f+1,n0,n1,M0,M1,0,a,b,α,β,pa,pb,h,ha,hb,hk=>absurd hk (Nat.not_lt_zero _)
 | f+1,n0,n1,M0,M1,k+1,a,b,α,β,pa,pb,h,ha,hb,hk=>by
  rcases GU pb.e with h0|⟨n,h0,h2⟩
  ·have:b=[]:=hb.nil fun k=>oF h0 k
   subst this;obtain ⟨g1,g2,_⟩:=YT h (Nat.zero_le _);exact ⟨a,[],α,n0,⟨pa.z,fun k=>Nat.le_trans (pa.b k) g1,pa.p⟩,rfl,ha,KE _ _ h0⟩
  have hn1:n≤n1:=Nat.le_of_not_lt fun hx=>h0 (pb.z n hx);obtain ⟨g1,g2,g3,g4,g5⟩:=YT h hn1;have hcb:Cop β:=pb.p.resolve_right fun hx=>h0 (hx n)
  have hbb:∀ k,(β k).natAbs≤(if n=0 then 1 else M1):=fun k=>by
   split
   ·next e =>
    subst e;rcases Nat.eq_zero_or_pos k with e|e
    ·rw [e,CB hcb h2];exact Nat.le_refl _
    rw [h2 k e];exact Nat.zero_le _
   exact pb.b k
  generalize (if n=0 then 1 else M1)=B at *;obtain ⟨γ,w,t,Q,c1,c2,c3,c4,c5,c6,c7⟩:=T3 hσ hs0 hs hS ha hb pa h0 h2 hbb g3 g4
  have hbl:0<b.length:=by
   rcases Nat.eq_zero_or_pos b.length with e|e
   ·exact absurd (hb.zero (k:=ds+n) oo_) (by rw [nR hs h2];exact Int.mul_ne_zero hs0 h0)
   exact e
  have d1:decide (0<(b.length:Int))=true:=decide_eq_true oo_
  have d2:(aS a||aS b)=false:=by rw [ha.nb,hb.nb];rfl
  have d3:=D7 ⟨ha.l,hb.l⟩ d2 d1
  have e1:cM p q (k+1) a b=cM p q k b (aC (bD a b)):=by
   conv=>lhs;unfold cM
   rw [d1,d2];rfl
  have hpb:Pr β n B:=⟨h2,hbb,.inl hcb⟩;rcases g5 with hn|g5
  ·have hz:=c3 hn
   have:aC (bD a b)=[]:=c1.nil fun k=>oF hz k;rw [e1,this,RQ];exact ⟨b,[],β,n1,⟨pb.z,fun k=>Nat.le_trans (pb.b k) g2,pb.p⟩,rfl,hb,KD pa.e pb.e c2.e c4 c5 c6 c7 (KE _ _ hz)⟩
  rw [e1]
  have c2':Pr γ (n - 1) (if n=1 then 1 else (2*B) ^ (n0+1 - n)*M0):=⟨c2.z,fun k=>by
   split
   ·next e =>
    subst e;rcases c2.p with h3|h3
    ·rcases Nat.eq_zero_or_pos k with e|e
     ·rw [e,CB h3 c2.z];exact Nat.le_refl _
     rw [c2.z k e];exact Nat.zero_le _
    rw [h3 k];exact Nat.zero_le _
   exact c2.b k,c2.p⟩
  obtain ⟨a',b',γ',n',pc,r1,r2,r3⟩:=XJ hσ hs0 hs hS p q f n (n - 1) B _ k b _ β γ hpb c2' g5 hb c1 oo_;exact ⟨a',b',γ',n',pc,r1,r2,KD pa.e pb.e c2.e c4 c5 c6 c7 r3⟩
theorem am_ (hσ:Cop σ) (hs0:σ ds≠0) (hs:∀ i,ds<i→σ i=0) (hS:∀ k,(σ k).natAbs≤S) {p q:List I} {f n0 n1 M0 M1:Nat} {α β:Nat→Int} (pa:Pr α n0 M0) (pb:Pr β n1 M1) (h:okT S ds G f n0 n1 M0 M1=true) (ha:Po (aC p) (conv σ α)) (hb:Po (aC q) (conv σ β)) :
  ∃ (γ:Nat→Int) (n:Nat) (pc:Pr γ n G),Po (aL p q) (conv σ γ)∧Gd (ZP α pa.e) (ZP β pb.e) (ZP γ pc.e)∧∀ m,(∀ i,m<i→conv σ γ i=0)→0≤conv σ γ m:=by
 obtain ⟨a',b',γ,n,pc,r1,r2,r3⟩:=XJ hσ hs0 hs hS p q f n0 n1 M0 M1 (gmP (aC q)+1) _ _ α β pa pb h ha hb (Nat.lt_succ_self _);unfold aL;rw [r1]
 show ∃ (γ:Nat→Int) (n:Nat) (pc:Pr γ n G),Po (bif (((a'.length:Int)==0)||decide (0<(Z.signW (a'.getD (a'.length - 1) I0).dec).1)) then a' else eE ([]:List I) a' (fun (y:I) (z:I)=>E (Z.sub y.dec z.dec))) (conv σ γ)∧_
 by_cases h0:a'=[]
 ·subst h0
  rw [show (([]:List I).length:Int)==0 from rfl,Bool.true_or,cond_true];exact ⟨γ,n,pc,r2,r3,fun m hm=>by rw [r2.zero (Nat.zero_le _)];exact Int.le_refl _⟩
 obtain ⟨t,t1,t2,t3⟩:=r2.top h0;rw [show ((a'.length:Int)==0)=false from beq_eq_false_iff_ne.2 oo_,Bool.false_or,t1,Nat.add_sub_cancel,r2.get,cJ,j7 (r2.B t)]
 have key:∀ m,(∀ i,m<i→conv σ γ i=0)→conv σ γ m=0∨m=t:=fun m hm=>by
  rcases Nat.lt_trichotomy m t with h1|h1|h1
  ·exact absurd (hm t h1) t2
  ·exact .inr h1
  exact .inl (t3 m h1)
 by_cases hp:0<(conv σ γ t).sign
 ·rw [decide_eq_true hp,cond_true]
  refine ⟨γ,n,pc,r2,r3,fun m hm=>?_⟩;rcases key m hm with h1|h1
  ·rw [h1];exact Int.le_refl _
  rw [h1];have:=Int.sign_pos_iff.1 hp;omega
 rw [decide_eq_false hp,cond_false]
 have hn:conv σ (fun k=>-(γ k))=fun k=>-(conv σ γ k):=by
  have:=qN (-1:Int) σ γ;rw [show (fun k=>-(γ k))=fun k=>-1*γ k from funext fun k=>by rw [Int.neg_one_mul],this]
  exact funext fun k=>by rw [Int.neg_one_mul]
 refine ⟨fun k=>-(γ k),n,pc.neg,?_,fun e=>?_,fun m hm=>?_⟩
 ·rw [hn]
  exact JV B4 r2 (fun k=>by rw [cJ,cJ,LR B0 (r2.B k),Int.zero_sub]) (fun k=>by have:=r2.B k;unfold cX at *;rwa [Int.natAbs_neg]) (fun k _ h=>by rw [h];rfl)
 ·rw [r3 e]
  have e1:ZP (fun k=>-(γ k)) pc.neg.e=QP.C (-1)*ZP γ pc.e:=QP.ex fun k=>by rw [QP.C_mul,kU,kU,Rat.intCast_neg,Rat.neg_mul,Rat.one_mul]
  rw [e1];exact ⟨fun h=>h.mul_l _,fun h=>h.scale dd_⟩
 rw [hn] at hm ⊢
 show 0 ≤ -(conv σ γ m)
 rcases key m (fun i hi=>by have h:-(conv σ γ i)=0:=hm i hi;omega) with h1|h1
 ·rw [h1];decide
 rw [h1];have:¬ 0<conv σ γ t:=fun hx=>hp (Int.sign_pos_iff.2 hx);omega
end
open Go Go.Kn
theorem bS_ {q:Rat} {n d:Int} {k:Nat} (h:(n:Rat)=(d:Rat)*q) (h0:0<d) (hn:n.natAbs<2 ^ k) (hd:d.natAbs<2 ^ k):Sz q k:=by
 have e:=congrArg Int.natAbs (YN h);rw [Int.natAbs_mul,Int.natAbs_mul,Int.natAbs_natCast] at e;have hr:=q.reduced;have k1:q.den ∣ d.natAbs:=(Nat.Coprime.symm hr).dvd_of_dvd_mul_left (by rw [e];exact Nat.dvd_mul_left ..);have k2:q.num.natAbs ∣ n.natAbs:=Nat.Coprime.dvd_of_dvd_mul_right hr (by rw [← e];exact Nat.dvd_mul_right ..);refine ⟨?_,Nat.lt_of_le_of_lt (Nat.le_of_dvd oo_ k1) hd⟩
 by_cases hz:n.natAbs=0
 ·rw [hz,Nat.zero_mul] at e
  rcases Nat.mul_eq_zero.1 e with h1|h1
  ·rw [h1];exact Nat.pow_pos dd_
  omega
 exact Nat.lt_of_le_of_lt (Nat.le_of_dvd oo_ k2) hn
theorem XG (x y:Rt):iV [x,y]=(bX x&&bX y):=by
 unfold iV nO nF
 have e:jR [x,y] (fun y=>jK y) ([x,y].length+1) 0=bif bX x then (bif bX y then .inl 2 else .inr (W.cv 1)) else .inr (W.cv 0):=by
  show (bif jK x then _ else (bif jK y then _ else _))=_
  unfold jK
  cases bX x<;>cases bX y<;>rfl
 rw [e]
 cases bX x<;>cases bX y<;>rfl
section
variable {p:List I} {c:Nat→Int} {a b:Rt} {N D M F:Int}
end
open Go Go.Kn
def ff (i:Int):Nat→Int
 | 0=>1
 | k+1=>ff i k*(i - k)
def fac:Nat→Int
 | 0=>1
 | n+1=>fac n*((n+1:Nat):Int)
def wt (n i k:Nat):Int:=ff i k*fac (n - k)
def bs (γ:Nat→Int) (n i:Nat):Int:=fY (fun k=>wt n i k*γ k) (i+1)
def bin:Nat→Nat→Nat
 | _,0=>1
 | 0,_+1=>0
 | n+1,k+1=>bin n k+bin n (k+1)
section
variable {p:List I} {a b:Rt} {γ:Nat→Int} {n B:Nat}
theorem P5 {v:Int} (h:cX v):(E (Z.of v)).1.bad=false:=by
 have:=NK h;unfold gdI at this;rw [Bool.and_eq_true] at this
 simpa using this.1
theorem CQ {u v G:Int} (hu:cX u) (hG:cX G) (h0:0<G) (h:G*v=u):Z.quo (Z.of u) (Z.of G)=Z.of v:=by
 rw [wR hu hG h0,← h,Int.mul_ediv_cancel_left _ oo_]
theorem bX_ (out0:List I) (i0:Nat) {N:Nat} {G:Int} {v l:Nat→Int} (h0:0<G) (hG:cX G) (hv:∀ k,k<N→cX (v k)) (hl:∀ k,k<N→G*l k=v k) (hlen:out0.length=N) (hc:dB out0=E (Z.of G)):∀ (f k:Nat),N - k<f→k≤N →
  (gN p a b out0 i0 f k ((List.range N).map fun i=>E (Z.of (if i<k then l i else v i)))).2=(List.range N).map fun i=>E (Z.of (l i))
 | 0,k,h,_=>absurd h (Nat.not_lt_zero _)
 | f+1,k,h,hk=>by
  unfold gN;rw [hlen];rcases Nat.lt_or_eq_of_le hk with h1|h1
  ·rw [decide_eq_true oo_,cond_true,hc,GS,if_pos h1,if_neg (Nat.lt_irrefl _),cJ,cJ,CQ (hv k h1) hG h0 (hl k h1)]
   have e:((List.range N).map fun i=>E (Z.of (if i<k then l i else v i))).set k (E (Z.of (l k)))=(List.range N).map fun i=>E (Z.of (if i<k+1 then l i else v i)):=by
    apply List.ext_getElem
    ·simp
    intro j hj hj';simp only [List.length_set,List.length_map,List.length_range] at hj;rw [List.getElem_set];simp only [List.getElem_map,List.getElem_range]
    by_cases hjk:k=j
    ·subst hjk;rw [if_pos O,if_pos oo_]
    rw [if_neg hjk]
    by_cases h2:j<k
    ·rw [if_pos h2,if_pos oo_]
    rw [if_neg h2,if_neg oo_]
   rw [e];exact bX_ out0 i0 h0 hG hv hl hlen hc f (k+1) oo_ h1
  subst h1;rw [decide_eq_false oo_,cond_false]
  exact List.map_congr_left fun i hi=>by rw [if_pos (List.mem_range.1 hi)]
end
open Go Go.Kn
def cut (F:Nat→Int) (k i:Nat):Int:=if i<k then F i else 0
theorem AU (g F:Nat→Int) (k j:Nat):conv g (cut F (k+1)) j=conv g (cut F k) j+F k*shf g k j:=by
 have h:=PM g (cut F (k+1)) k j fun i hi=>by unfold cut;rw [if_neg oo_]
 rw [h]
 have e1:cut F (k+1) k=F k:=by unfold cut;rw [if_pos oo_]
 have e2:(fun i=>if i<k then cut F (k+1) i else 0)=cut F k:=funext fun i=>by
  unfold cut
  by_cases h:i<k
  ·rw [if_pos h,if_pos h,if_pos oo_]
  rw [if_neg h,if_neg h]
 rw [e1,e2]
theorem JR {F:Nat→Int} {m:Nat} (hF:∀ i,m<i→F i=0):cut F (m+1)=F:=funext fun i=>by
 unfold cut
 split
 ·rfl
 exact (hF i oo_).symm
theorem dc_ {F:Nat→Int} {A:Nat} (hA:∀ i,(F i).natAbs≤A) (k i:Nat):(cut F k i).natAbs≤A:=by
 unfold cut
 split
 ·exact hA i
 exact Nat.zero_le _
theorem KT {a:List I} {c:Nat→Int} (h:Po a c):∃ e:Int,(e=1∨e = -1)∧Po (bif (((a.length:Int)==0)||decide (0<(Z.signW (a.getD (a.length - 1) I0).dec).1)) then a else eE ([]:List I) a (fun (y:I) (z:I)=>E (Z.sub y.dec z.dec))) (fun k=>e*c k)∧∀ m,(∀ i,m<i→c i=0)→0≤e*c m:=by
 by_cases h0:a=[]
 ·subst h0
  rw [show (([]:List I).length:Int)==0 from rfl,Bool.true_or,cond_true];exact ⟨1,.inl O,h.cast fun k=>(Int.one_mul _).symm,fun m hm=>by rw [h.zero (Nat.zero_le _)];decide⟩
 obtain ⟨t,t1,t2,t3⟩:=h.top h0;rw [show ((a.length:Int)==0)=false from beq_eq_false_iff_ne.2 oo_,Bool.false_or,t1,Nat.add_sub_cancel,h.get,cJ,j7 (h.B t)]
 have key:∀ m,(∀ i,m<i→c i=0)→c m=0∨m=t:=fun m hm=>by
  rcases Nat.lt_trichotomy m t with h1|h1|h1
  ·exact absurd (hm t h1) t2
  ·exact .inr h1
  exact .inl (t3 m h1)
 by_cases hp:0<(c t).sign
 ·rw [decide_eq_true hp,cond_true]
  refine ⟨1,.inl O,h.cast fun k=>(Int.one_mul _).symm,fun m hm=>?_⟩;rw [Int.one_mul];rcases key m hm with h1|h1
  ·rw [h1];exact Int.le_refl _
  rw [h1];have:=Int.sign_pos_iff.1 hp;omega
 rw [decide_eq_false hp,cond_false];refine ⟨-1,.inr O,?_,fun m hm=>?_⟩
 ·refine JV B4 h (fun k=>by rw [cJ,cJ,LR B0 (h.B k),Int.zero_sub,Int.neg_one_mul]) (fun k=>by have:=h.B k;unfold cX at *;rwa [Int.neg_one_mul,Int.natAbs_neg]) (fun k _ h=>by rw [h];rfl)
 rcases key m hm with h1|h1
 ·rw [h1];decide
 rw [h1];have:¬ 0<c t:=fun hx=>hp (Int.sign_pos_iff.2 hx);omega
section
variable {P:List I} {g F:Nat→Int} {n m A B:Nat}
theorem RN (hG:Po (aL P (aE P)) g) (hn:(aL P (aE P)).length=n+1) (hg0:0<g n) (hA:∀ i,(F i).natAbs≤A) (hB:∀ i,(g i).natAbs≤B) (hAB:(n+1)*(B*A)<4294967296 ^ 16) :
  ∀ (k fu:Nat) (i:Int) (r f:List I),i=(k:Int) - 1→k<fu→k≤m+1→r.length=n+m+1→f.length=m+1→(∀ j,r.getD j I0=E (Z.of (conv g (cut F k) j)))→(∀ j,k≤j→f.getD j I0=E (Z.of (F j))) →
  ∃ i' r' f',eU P fu i r f = .inl (i',r',f')∧f'.length=m+1∧∀ j,f'.getD j I0=E (Z.of (F j))
 | _,0,_,_,_,_,h,_,_,_,_,_=>absurd h (Nat.not_lt_zero _)
 | 0,fu+1,i,r,f,hi,hk,hkm,hr,hf,hrv,hfv=>by
  unfold eU;rw [decide_eq_false oo_,cond_false];exact ⟨i,r,f,rfl,hf,fun j=>hfv j (Nat.zero_le _)⟩
 | k+1,fu+1,i,r,f,hi,hk,hkm,hr,hf,hrv,hfv=>by
  have hi':i=(k:Int):=by omega
  have hgz:∀ j,n<j→g j=0:=fun j hj=>hG.zero oo_;have hAB1:B*A<4294967296 ^ 16:=Nat.lt_of_le_of_lt (Nat.le_mul_of_pos_left _ (Nat.succ_pos n)) hAB;have bc:∀ k j,cX (conv g (cut F k) j):=fun k j=>Nat.lt_of_le_of_lt (D4 hB (dc_ hA k) (fun i hi=>hgz i oo_) j) hAB
  have hshf:∀ j,(shf g k j).natAbs≤B:=fun j=>by
   unfold shf;split
   ·exact hB _
   exact Nat.zero_le _
  have bm:∀ j,cX (F k*shf g k j):=fun j=>by
   refine Nat.lt_of_le_of_lt ?_ hAB1;rw [Int.natAbs_mul,Nat.mul_comm B];exact Nat.mul_le_mul (hA k) (hshf j)
  have hB1:1≤B:=by have:=hB n;omega
  have bF:cX (F k):=Nat.lt_of_le_of_lt (Nat.le_trans (hA k) (Nat.le_mul_of_pos_left _ hB1)) hAB1
  have htop:conv g (cut F (k+1)) (n+k)=g n*F k:=by
   rw [nR hgz fun i hi=>by unfold cut;rw [if_neg oo_]]
   congr 1
   unfold cut;rw [if_pos oo_]
  have hq:(E (Z.quo (r.getD (i.toNat+((aL P (aE P)).length - 1)) I0).dec ((aL P (aE P)).getD ((aL P (aE P)).length - 1) I0).dec))=E (Z.of (F k)):=by
   rw [hn,Nat.add_sub_cancel,show i.toNat+n=n+k by omega,hrv,hG.get,cJ,cJ,CQ (bc (k+1) _) (hG.B n) hg0 (v:=F k) htop.symm]
  unfold eU;rw [decide_eq_true oo_,cond_true];simp only;rw [hq]
  have hx:((f.set i.toNat (E (Z.of (F k)))).getD i.toNat I0).dec=Z.of (F k):=by rw [kE _ _ _ oo_,cJ]
  have hfr:∀ j,frE (aL P (aE P)) r k (Z.of (F k)) j=E (Z.of (conv g (cut F k) j)):=fun j=>by
   unfold frE
   have e:conv g (cut F k) j=conv g (cut F (k+1)) j - F k*shf g k j:=by rw [AU];omega
   rw [hrv,JL hG k j,cJ,cJ,n6 bF (co_ hG k j),LR (bc _ _) (bm j),← e]
  rcases KA P i r f (E (Z.of (F k))) (g:=aL P (aE P)) O hi' ((aL P (aE P)).length+1) 0 r oo_ (Nat.zero_le _) O oo_ (fun j _=>rfl) with ⟨t',k',e1,e2,e3,e4⟩|⟨e1,j,j1,j2,j3⟩
  ·rw [e1]
   simp only [sm];rw [hx] at e3;refine RN hG hn hg0 hA hB hAB k fu (i - 1) t' _ oo_ oo_ oo_ oo_ (by rw [List.length_set];exact hf) (fun j=>?_) (fun j hj=>?_)
   ·rw [e3 j]
    by_cases hj:k+0≤j∧j<k+(aL P (aE P)).length
    ·rw [if_pos hj,hfr]
    rw [if_neg hj,hrv,AU]
    have:shf g k j=0:=by
     unfold shf
     split
     ·exact hgz _ oo_
     rfl
    rw [this,Int.mul_zero,Int.add_zero]
   rw [show i.toNat=k by omega]
   by_cases hjk:j=k
   ·subst hjk;exact kE _ _ _ oo_
   rw [oK _ _ _ _ hjk];exact hfv j oo_
  rw [hx,hfr j,P5 (bc k j)] at j3
  cases j3
theorem VE (hG:Po (aL P (aE P)) g) (hn:(aL P (aE P)).length=n+1) (hg0:0<g n) (hA:∀ i,(F i).natAbs≤A) (hB:∀ i,(g i).natAbs≤B) (hAB:(n+1)*(B*A)<4294967296 ^ 16)
  {ρ:Nat→Int} (hR:Po (aC P) ρ) (hρ:∀ k,ρ k=conv g F k) (hF0:F m≠0) (hF:∀ i,m<i→F i=0):∃ e:Int,(e=1∨e = -1)∧Po (aV P) (fun k=>e*F k)∧∀ m,(∀ i,m<i→F i=0)→0≤e*F m:=by
 have hgz:∀ j,n<j→g j=0:=fun j hj=>hG.zero oo_
 have hRl:(aC P).length=n+m+1:=hR.len_top (by rw [hρ,nR hgz hF];exact Int.mul_ne_zero oo_ hF0) fun i hi=>by rw [hρ];exact lQ (n:=n+1) (m:=m+1) (fun j hj=>hgz j hj) (fun j hj=>hF j hj) i oo_
 have hB1:1≤B:=by have:=hB n;omega
 have hAB1:B*A<4294967296 ^ 16:=Nat.lt_of_le_of_lt (Nat.le_mul_of_pos_left _ (Nat.succ_pos n)) hAB;have bF:∀ k,cX (F k):=fun k=>Nat.lt_of_le_of_lt (Nat.le_trans (hA k) (Nat.le_mul_of_pos_left _ hB1)) hAB1;have hlen:=hR.l;unfold aV;rw [hG.nb,hR.nb,Bool.or_false,cond_false,show (((aC P).length:Int)==0)=false from beq_eq_false_iff_ne.2 oo_,cond_false]
 obtain ⟨i',r',f',e1,e2,e3⟩:=RN hG hn hg0 hA hB hAB (m:=m) (m+1) ((aC P).length+2) (((List.replicate ((aC P).length - ((aL P (aE P)).length - 1)) I0).length:Int) - 1) (aC P) (List.replicate ((aC P).length - ((aL P (aE P)).length - 1)) I0) (by rw [List.length_replicate];omega) oo_ (Nat.le_refl _) hRl (by rw [List.length_replicate];omega) (fun j=>by rw [hR.get,hρ,JR hF]) (fun j hj=>by
  rw [hF j oo_,← I0_E]
  exact mK (by rw [List.length_replicate];omega))
 rw [e1];simp only [sm]
 have hM:Po (bE f') F:=by rw [pJ];exact z6 e3 bF fun k hk=>hF k oo_
 exact KT hM
end
def dI (c:Nat→Int) (k:Nat):Int:=((k+1:Nat):Int)*c (k+1)
theorem RF {c:Nat→Int} (h:mE c):mE (dI c):=by
 obtain ⟨n,h⟩:=h;exact ⟨n,fun i hi=>by unfold dI;rw [h _ oo_,Int.mul_zero]⟩
theorem bV_ {c:Nat→Int} (h:mE c):ZP (dI c) (RF h)=QP.D (ZP c h):=QP.ex fun k=>by rw [QP.D_c,kU,kU];unfold dI;rw [Rat.intCast_mul];rfl
theorem dl_ {A B C:QP} (S:QP) (h:Gd A B C):Gd (S*A) (S*B) (S*C):=fun d=>by
 obtain ⟨c1,c2⟩:=(h C).2 (.refl C);obtain ⟨g,u,v,h1,h2,h3⟩:=QP.bezout A B;obtain ⟨k,hk⟩:=(h g).1 ⟨h2,h3⟩
 constructor
 ·rintro ⟨d1,d2⟩
  rw [hk,← QP.mul_assoc',h1,QP.mul_add',QP.lc' S u,QP.lc' S v];exact ((d1.mul_l u).add (d2.mul_l v)).mul k
 exact fun d1=>⟨d1.trans (c1.both S),d1.trans (c2.both S)⟩
theorem TM {c:Nat→Int} (h:mE c) (h0:¬ ∀ k,c k=0):ZP c h≠QP.C 0:=fun e=>h0 fun k=>by
 have e1:=congrArg (fun x:QP=>x.c k) e;simp only [kU,QP.C0_c] at e1;exact Rat.intCast_eq_zero_iff.1 e1
section
variable {σ:Nat→Int} {ds S G:Nat}
theorem dV_ (hσ:Cop σ) (hs0:σ ds≠0) (hs:∀ i,ds<i→σ i=0) (hS:∀ k,(σ k).natAbs≤S) {P:List I} {c:Nat→Int} (hP:Po P c) (h0:P≠[]) (hD:Po (aE P) (dI c)) {f n0 n1 M0 M1:Nat} {α β:Nat→Int} (pa:Pr α n0 M0) (pb:Pr β n1 M1) (h:okT S ds G f n0 n1 M0 M1=true) (ha:Po (aC P) (conv σ α)) (hb:Po (aC (aE P)) (conv σ β)) :
  ∃ (g F:Nat→Int) (n:Nat) (eρ:mE (conv σ α)) (eF:mE F),Po (aL P (aE P)) g∧0<g n∧(∀ i,n<i→g i=0)∧(∀ i,(g i).natAbs≤(ds+1)*(S*G))∧Cop g∧Cop F∧(∀ k,conv σ α k=conv g F k)∧∀ h,QP.Irr h→(QP.Dv h (ZP (conv σ α) eρ)→QP.Dv h (ZP F eF))∧¬ QP.Dv (h*h) (ZP F eF):=by
 have es:mE σ:=⟨ds+1,fun i hi=>hs i hi⟩;obtain ⟨γ,_,pc,g1,g2,g3⟩:=am_ hσ hs0 hs hS pa pb h ha hb
 have ea:∀ k,((cN P:Nat):Int)*conv σ α k=c k:=fun k=>by
  rw [← vQ hP k]
  congr 1
  exact (ha.c k).symm.trans ((tB hP).c k)
 have eb:∀ k,((cN (aE P):Nat):Int)*conv σ β k=dI c k:=fun k=>by
  rw [← vQ hD k]
  congr 1
  exact (hb.c k).symm.trans ((tB hD).c k)
 have hcP:=hP.cpos h0;have hc0:¬ ∀ k,c k=0:=fun hz=>h0 (hP.nil hz)
 have hα:Cop α:=pa.p.resolve_right fun hz=>hc0 fun k=>by rw [← ea k,oF hz,Int.mul_zero]
 have hρ:Cop (conv σ α):=b4_ hσ hα;have eρ:=yX es pa.e;have eσβ:=yX es pb.e;have hG:=dl_ (ZP σ es) g2;rw [← pH es pa.e,← pH es pb.e,← pH es pc.e] at hG;have eg:=yX es pc.e;have hρ0:=TM eρ (CC hρ);obtain ⟨d1,d2⟩:=(hG (ZP (conv σ γ) eg)).2 (.refl _)
 have hγ:Cop γ:=pc.p.resolve_right fun hz=>hρ0 (by
  have e0:ZP (conv σ γ) eg=QP.C 0:=QP.ex fun k=>by rw [kU,oF hz,QP.C0_c];rfl
  rw [e0] at d1
  exact d1.of_zero)
 have hg:Cop (conv σ γ):=b4_ hσ hγ;obtain ⟨F,eF,hF⟩:=zY hg eg eρ d1;obtain ⟨n,n1,n2⟩:=(GU eg).resolve_left (CC hg);have hFc:Cop F:=CD (s:=conv σ γ) (by rw [← show conv σ α=conv (conv σ γ) F from funext hF];exact hρ)
 -- the derivative, up to a number
 have hDv:∀ x,QP.Dv x (QP.D (ZP (conv σ α) eρ)) ↔ QP.Dv x (ZP (conv σ β) eσβ):=fun x=>by
  have e1:QP.C (((cN P:Nat):Int):Rat)*QP.D (ZP (conv σ α) eρ)=QP.C (((cN (aE P):Nat):Int):Rat)*ZP (conv σ β) eσβ:=QP.ex fun k=>by
   rw [QP.C_mul,QP.C_mul,QP.D_c,kU,kU,← Rat.intCast_mul,eb k];unfold dI;rw [← ea (k+1),Rat.intCast_mul,Rat.intCast_mul]
   show _=((k+1:Nat):Rat)*_
   grind
  have hcP':(((cN P:Nat):Int):Rat)≠0:=fun e=>by have:=Rat.intCast_eq_zero_iff.1 e;omega
  by_cases hz:aE P=[]
  ·have z1:ZP (conv σ β) eσβ=QP.C 0:=QP.ex fun k=>by
    rw [kU,QP.C0_c,← show (0:Int)=conv σ β k from ?_]
    ·rfl
    have:=(hb.c k).symm.trans ((tB hD).c k);rw [hD.zero (k:=k) (by rw [hz];exact Nat.zero_le _),Int.zero_fdiv] at this;exact this.symm
   rw [z1,QP.mul_zero'] at e1
   have z2:QP.D (ZP (conv σ α) eρ)=QP.C 0:=by
    apply Classical.byContradiction
    intro hx;exact QP.mul_ne (QP.C_dg hcP').ne hx e1
   rw [z1,z2]
  have hcD:=hD.cpos hz
  have hcD':(((cN (aE P):Nat):Int):Rat)≠0:=fun e=>by have:=Rat.intCast_eq_zero_iff.1 e;omega
  exact ⟨fun h=>QP.Dv.scale hcD' (by rw [← e1];exact h.mul_l _),fun h=>QP.Dv.scale hcP' (by rw [e1];exact h.mul_l _)⟩
 refine ⟨conv σ γ,F,n,eρ,eF,g1,?_,n2,?_,hg,hFc,hF,fun h hi=>?_⟩
 ·have:=g3 n n2
  omega
 ·exact fun i=>D4 hS pc.b (fun j hj=>hs j oo_) i
 refine QP.sqf_part (G:=ZP (conv σ γ) eg) hρ0 ?_ ((hDv _).2 d2) (fun d h1 h2=>(hG d).1 ⟨h1,(hDv d).1 h2⟩) hi;rw [← pH eg eF];exact ML _ _ hF
end
open Go Go.Kn
theorem Zx.neg {a:Z} {u:Int} (ha:Zx a u):Zx (Z.neg a) (-u):=by
 rcases ha with h|⟨h,h1⟩
 ·left;rw [Z.neg,pR h];rfl
 subst h;rw [Z.neg,kM (Z.of_some h1)];exact .of _
theorem Zx.sub {a b:Z} {u v:Int} (ha:Zx a u) (hb:Zx b v):Zx (Z.sub a b) (u - v):=by
 rw [Int.sub_eq_add_neg];exact ha.add hb.neg
theorem al_ {z:Z} (h:z.o=none):(E z).1.bad=true:=by
 have:z=Z.bad:=by
  cases z with
  | mk o hb=>simp only at h;subst h;rfl
 rw [this];rfl
theorem Zx.cases {z:Z} {v:Int} (h:Zx z v):(E z).1.bad=true∨(E z=E (Z.of v)∧cX v):=by
 rcases h with h|⟨h,b⟩
 ·exact .inl (al_ h)
 exact .inr ⟨by rw [h],b⟩
section
variable {p q:List I} {c d:Nat→Int} {n:Nat}
theorem d6_ (v:Int):cX v.sign:=by
 rcases Int.lt_trichotomy v 0 with h|h|h
 ·rw [Int.sign_eq_neg_one_of_neg h];decide
 ·rw [h];decide
 rw [Int.sign_eq_one_of_pos h];decide
theorem cm_ (g:Po q d) (hn:q.length=n+1) {r:Nat→Int} {i:Nat} (l:List I) (h2:∀ k,cX (r k)):∀ (f k:Nat) (t:List I),l.length - k<f→k≤l.length→t.length=l.length →
  (∀ j,t.getD j I0=E (Z.of (if j<k then kO (d n).natAbs (d n).sign d n i r j else r j)))→(∀ j,j<k→cX (kO (d n).natAbs (d n).sign d n i r j)) →
  eY p q (i:Int) l (E (Z.of ((d n).sign*r (i+n)))) f k t = .inr badp ∨
  ∃ t',eY p q (i:Int) l (E (Z.of ((d n).sign*r (i+n)))) f k t = .inl (l.length,t')∧t'.length=l.length∧(∀ j,t'.getD j I0=E (Z.of (if j<l.length then kO (d n).natAbs (d n).sign d n i r j else r j)))∧∀ j,j<l.length→cX (kO (d n).natAbs (d n).sign d n i r j)
 | 0,k,t,hf,_,_,_,_=>absurd hf (Nat.not_lt_zero _)
 | f+1,k,t,hf,hk,ht,hv,hb=>by
  unfold eY
  by_cases hl:k<l.length
  ·rw [decide_eq_true oo_,cond_true]
   have e:=hv k;rw [if_neg (Nat.lt_irrefl k)] at e
   have hz:Zx (Z.sub (Z.mul (Z.abs (q.getD (q.length - 1) I0).dec) (t.getD k I0).dec) (Z.mul (E (Z.of ((d n).sign*r (i+n)))).dec (dX q ((k:Int) - (i:Int))).dec)) (kO (d n).natAbs (d n).sign d n i r k):=by
    rw [hn,Nat.add_sub_cancel,g.get,e,JL g,cJ,cJ,cJ,cJ,Q8 (g.B _)];exact ((Zx.of _).mul (.of _)).sub ((Zx.of _).mul (.of _))
   simp only;rcases hz.cases with h|⟨h,b⟩
   ·left
    rw [kE t k _ oo_,h,cond_true,C5]
   rw [h,kE t k _ oo_,ET b,cond_false];refine cm_ g hn l h2 f (k+1) _ oo_ oo_ (by rw [List.length_set];exact ht) (fun j=>?_) fun j hj=>?_
   ·by_cases hj:j=k
    ·subst hj;rw [kE t j _ oo_,if_pos oo_]
    rw [oK t k j _ hj,hv j]
    by_cases hjk:j<k
    ·rw [if_pos hjk,if_pos oo_]
    rw [if_neg hjk,if_neg oo_]
   by_cases hjk:j=k
   ·subst hjk;exact b
   exact hb j oo_
  rw [decide_eq_false oo_,cond_false]
  have:k=l.length:=by omega
  subst this;exact .inr ⟨t,rfl,ht,hv,hb⟩
theorem cl_ (g:Po q d) (hn:q.length=n+1):∀ (m f:Nat) (i:Int) (l:List I) (r:Nat→Int),i=(m:Int) - 1→m<f→(m≤l.length - n)→(∀ j,l.getD j I0=E (Z.of (r j)))→(∀ k,l.length≤k→r k=0)→(∀ k,cX (r k)) →
  dF p q f i l = .inr badp ∨ ∃ i' l',dF p q f i l = .inl (i',l')∧l'.length=l.length∧(∀ j,l'.getD j I0=E (Z.of (rD (d n).natAbs (d n).sign d n m r j)))∧(∀ k,l.length≤k→rD (d n).natAbs (d n).sign d n m r k=0)∧∀ k,cX (rD (d n).natAbs (d n).sign d n m r k)
 | m,0,i,l,r,_,hf,_,_,_,_=>absurd hf (Nat.not_lt_zero _)
 | 0,f+1,i,l,r,hi,hf,hm,hl,hz,hB=>by
  unfold dF;rw [decide_eq_false oo_,cond_false];exact .inr ⟨i,l,rfl,rfl,hl,hz,hB⟩
 | m+1,f+1,i,l,r,hi,hf,hm,hl,hz,b1=>by
  unfold dF;rw [decide_eq_true oo_,cond_true]
  have e:E (Z.mul (Z.of (Z.signW (q.getD (q.length - 1) I0).dec).1) (l.getD (i.toNat+(q.length - 1)) I0).dec)=E (Z.of ((d n).sign*r (m+n))):=by
   rw [hn,Nat.add_sub_cancel,g.get,hl,cJ,cJ,j7 (g.B n),show i.toNat=m by omega,n6 (d6_ _) (b1 _)]
  have h1:=cm_ (p:=p) g hn (i:=m) l b1 (l.length+1) 0 l oo_ (Nat.zero_le _) O (fun j=>by rw [if_neg (Nat.not_lt_zero _)];exact hl j) (fun j hj=>absurd hj (Nat.not_lt_zero _));simp only;rw [e,show i=(m:Int) by omega];rcases h1 with h1|⟨t,h1,h2,h3,h4⟩
  ·rw [h1];exact .inl O
  rw [h1]
  have k1:∀ j,t.getD j I0=E (Z.of (kO (d n).natAbs (d n).sign d n m r j)):=fun j=>by
   rw [h3 j]
   split
   ·rfl
   rw [hz j oo_,uD g hn hz oo_ oo_]
  have k2:∀ j,cX (kO (d n).natAbs (d n).sign d n m r j):=fun j=>by
   by_cases hj:j<l.length
   ·exact h4 j hj
   rw [uD g hn hz oo_ oo_];exact B0
  rcases cl_ g hn m f ((m:Int) - 1) t _ O oo_ oo_ k1 (fun k hk=>uD g hn hz oo_ oo_) k2 with h5|⟨i',l',a1,a2,a3,a4,a5⟩
  ·exact .inl h5
  exact .inr ⟨i',l',a1,a2.trans h2,a3,fun k hk=>a4 k oo_,a5⟩
theorem bR_ (h:Po p c) (g:Po q d) (hn:q.length=n+1):bD p q=badp∨Po (bD p q) (rD (d n).natAbs (d n).sign d n (p.length - n) c):=by
 unfold bD;rw [h.nb,g.nb,show ((q.length:Int)==0)=false from beq_eq_false_iff_ne.2 oo_,Bool.false_or,Bool.false_or,cond_false,List.nil_append,hn];have hl:=h.l
 have go:∀ i:Int,i=(p.length:Int) - 1 - (((n+1:Nat):Int) - 1)→dF p q (p.length+1) i p = .inr badp ∨ ∃ i' l',dF p q (p.length+1) i p = .inl (i',l')∧l'.length=p.length∧(∀ j,l'.getD j I0=E (Z.of (rD (d n).natAbs (d n).sign d n (p.length - n) c j)))∧(∀ k,p.length≤k→rD (d n).natAbs (d n).sign d n (p.length - n) c k=0)∧∀ k,cX (rD (d n).natAbs (d n).sign d n (p.length - n) c k):=fun i hi=>by
  by_cases hs:n≤p.length
  ·exact cl_ g hn (p.length - n) (p.length+1) i p c oo_ oo_ (Nat.le_refl _) h.get (fun k hk=>h.zero hk) h.B
  have e0:p.length - n=0:=by omega
  rw [e0];unfold dF;rw [decide_eq_false oo_,cond_false];exact .inr ⟨i,p,rfl,rfl,h.get,fun k hk=>h.zero hk,h.B⟩
 rcases go _ O with h0|⟨i',l',a1,a2,a3,a4,a5⟩
 ·rw [h0];exact .inl O
 rw [a1]
 show bE l'=badp∨Po (bE l') _
 rw [pJ];exact .inr (z6 a3 a5 fun k hk=>a4 k oo_)
end
open Go Go.Kn
theorem rL:aC badp=badp:=by kernel_rfl
theorem wL:aS badp=true:=by kernel_rfl
theorem YX:aC []=[]:=by kernel_rfl
theorem A6 (p q a:List I) (k:Nat) (hk:1≤k):cM p q k a badp = .inr badp:=by
 obtain ⟨m,rfl⟩:∃ m,k=m+1:=⟨k - 1,by omega⟩;unfold cM;rw [wL,Bool.or_true,cond_true,C5,show decide (0<(badp.length:Int))=true from by kernel_rfl,cond_true]
theorem Po.ne_nil {p:List I} {c:Nat→Int} (h:Po p c) (h0:p≠[]):¬ ∀ k,c k=0:=fun hz=>h0 (h.nil hz)
theorem BE {p:List I} {c:Nat→Int} (h:Po p c) (h0:p=[]) (k:Nat):c k=0:=h.zero (by rw [h0];exact Nat.zero_le _)
theorem tX {p:List I} {c:Nat→Int} (h:Po p c):∃ (γ:Nat→Int) (t:Int),t≠0∧0<t∧Po (aC p) γ∧(∀ k,c k=t*γ k)∧(aC p≠[]→Cop γ):=by
 by_cases h0:p=[]
 ·subst h0
  rw [YX];exact ⟨c,1,by decide,by decide,h,fun k=>(Int.one_mul _).symm,fun h=>absurd O h⟩
 refine ⟨_,((cN p:Nat):Int),?_,?_,tB h,fun k=>(vQ h k).symm,fun _=>FY h h0⟩
 ·have:=h.cpos h0;omega
 have:=h.cpos h0;omega
theorem RO (p q:List I):∀ (k:Nat) (a b:List I) (α β:Nat→Int) (ha:Po a α) (hb:Po b β),(a≠[]→Cop α)→(b≠[]→Cop β)→gmP b<k →
  cM p q k a b = .inr badp ∨ ∃ (a' b':List I) (γ:Nat→Int) (hc:Po a' γ),cM p q k a b = .inl (a',b')∧(a'≠[]→Cop γ)∧Gd (ZP α ha.ends) (ZP β hb.ends) (ZP γ hc.ends)
 | 0,a,b,α,β,ha,hb,_,_,hk=>absurd hk (Nat.not_lt_zero _)
 | k+1,a,b,α,β,ha,hb,ca,cb,hk=>by
  by_cases h0:b=[]
  ·subst h0
   right
   rw [RQ];exact ⟨a,[],α,ha,rfl,ca,KE _ _ fun k=>BE hb O k⟩
  obtain ⟨n,n1,n2,n3⟩:=hb.top h0;unfold cM;have hd:decide (0<(b.length:Int))=true:=decide_eq_true oo_;rw [hd,cond_true,ha.nb,hb.nb,Bool.or_false,cond_false];have hdec:=D7 (a:=a) (b:=b) ⟨ha.l,hb.l⟩ (by rw [ha.nb,hb.nb];rfl) hd;rcases bR_ ha hb n1 with hr|hr
  ·rw [hr,rL]
   rw [hr,rL] at hdec;exact .inl (A6 p q b k oo_)
  obtain ⟨γ,t,t0,_,hγ,e1,e2⟩:=tX hr;rcases RO p q k b (aC (bD a b)) β γ hb hγ cb e2 oo_ with h1|⟨a',b',δ,hc,r1,r2,r3⟩
  ·exact .inl h1
  refine .inr ⟨a',b',δ,hc,r1,r2,?_⟩;obtain ⟨Q,hQ,hq⟩:=EK (a:=((β n).natAbs:Int)) (o:=(β n).sign) (d:=β) (n:=n) (a.length - n) α;refine KD ha.ends hb.ends hγ.ends hQ (w:=((β n).natAbs:Int) ^ (a.length - n)) (t:=t) (Int.pow_ne_zero oo_) t0 (fun k=>?_) r3;rw [hq k,e1 k]
theorem ep_ {p q:List I} {c d:Nat→Int} (hp:Po p c) (hq:Po q d):aL p q=badp ∨ ∃ (α β g:Nat→Int) (s t:Int) (ha:Po (aC p) α) (hb:Po (aC q) β) (hg:Po (aL p q) g),
  0<s∧0<t∧(∀ k,c k=s*α k)∧(∀ k,d k=t*β k)∧(aC p≠[]→Cop α)∧(aL p q≠[]→Cop g)∧Gd (ZP α ha.ends) (ZP β hb.ends) (ZP g hg.ends)∧∀ m,(∀ i,m<i→g i=0)→0≤g m:=by
 obtain ⟨α,s,_,s0,ha,ea,ca⟩:=tX hp;obtain ⟨β,t,_,t0,hb,eb,cb⟩:=tX hq;unfold aL;rcases RO p q (gmP (aC q)+1) _ _ α β ha hb ca cb (Nat.lt_succ_self _) with h1|⟨a',b',γ,hc,r1,r2,r3⟩
 ·rw [h1];exact .inl O
 rw [r1];obtain ⟨e,he,hP,hm⟩:=KT hc
 right
 refine ⟨α,β,fun k=>e*γ k,s,t,ha,hb,hP,s0,t0,ea,eb,ca,fun hne=>?_,fun x=>?_,fun m h=>hm m fun i hi=>?_⟩
 ·have h0:a'≠[]:=fun h=>hne (by subst h;rfl)
  intro u hu;refine r2 h0 u fun k=>?_;have h1:u ∣ e*γ k:=hu k;rcases he with rfl|rfl
  ·rwa [Int.one_mul] at h1
  rw [Int.neg_one_mul] at h1;exact Int.dvd_neg.1 h1
 ·rw [r3 x]
  have hz:ZP (fun k=>e*γ k) hP.ends=QP.C (e:Rat)*ZP γ hc.ends:=QP.ex fun k=>by rw [QP.C_mul,kU,kU,Rat.intCast_mul]
  have he0:(e:Rat)≠0:=by rcases he with rfl|rfl<;>decide
  rw [hz];exact ⟨fun h=>h.mul_l _,fun h=>QP.Dv.scale he0 h⟩
 have h1:e*γ i=0:=h i hi;rcases he with rfl|rfl
 ·omega
 omega
theorem em_ {u v:Int} (h:cX (u*v)) (hu:0<u):cX v:=by
 unfold cX at *;rw [Int.natAbs_mul] at h;have:=Nat.le_mul_of_pos_left v.natAbs (show 0<u.natAbs by omega);omega
section
variable {P:List I} {g F:Nat→Int} {n m:Nat}
theorem NF (hG:Po (aL P (aE P)) g) (hn:(aL P (aE P)).length=n+1) (hg0:0<g n) :
  ∀ (k fu:Nat) (i:Int) (r f:List I),i=(k:Int) - 1→k<fu→k≤m+1→r.length=n+m+1→f.length=m+1→(∀ j,r.getD j I0=E (Z.of (conv g (cut F k) j)))→(∀ j,cX (conv g (cut F k) j))→(∀ j,k≤j→f.getD j I0=E (Z.of (F j)))→(∀ j,k≤j→cX (F j)) →
  eU P fu i r f = .inr badp ∨ ∃ i' r' f',eU P fu i r f = .inl (i',r',f')∧f'.length=m+1∧(∀ j,f'.getD j I0=E (Z.of (F j)))∧∀ j,cX (F j)
 | _,0,_,_,_,_,h,_,_,_,_,_,_,_=>absurd h (Nat.not_lt_zero _)
 | 0,fu+1,i,r,f,hi,hk,hkm,hr,hf,hrv,hrb,hfv,hfb=>by
  unfold eU;rw [decide_eq_false oo_,cond_false];exact .inr ⟨i,r,f,rfl,hf,fun j=>hfv j (Nat.zero_le _),fun j=>hfb j (Nat.zero_le _)⟩
 | k+1,fu+1,i,r,f,hi,hk,hkm,hr,hf,hrv,hrb,hfv,hfb=>by
  have hi':i=(k:Int):=by omega
  have hgz:∀ j,n<j→g j=0:=fun j hj=>hG.zero oo_
  have htop:conv g (cut F (k+1)) (n+k)=g n*F k:=by
   rw [nR hgz fun i hi=>by unfold cut;rw [if_neg oo_]]
   congr 1
   unfold cut;rw [if_pos oo_]
  have bF:cX (F k):=em_ (u:=g n) (by rw [← htop];exact hrb _) hg0
  have hq:(E (Z.quo (r.getD (i.toNat+((aL P (aE P)).length - 1)) I0).dec ((aL P (aE P)).getD ((aL P (aE P)).length - 1) I0).dec))=E (Z.of (F k)):=by
   rw [hn,Nat.add_sub_cancel,show i.toNat+n=n+k by omega,hrv,hG.get,cJ,cJ,CQ (hrb _) (hG.B n) hg0 (v:=F k) htop.symm]
  unfold eU;rw [decide_eq_true oo_,cond_true];simp only;rw [hq]
  have hx:((f.set i.toNat (E (Z.of (F k)))).getD i.toNat I0).dec=Z.of (F k):=by rw [kE _ _ _ oo_,cJ]
  have hfr:∀ j,(frE (aL P (aE P)) r k (Z.of (F k)) j).1.bad=true∨(frE (aL P (aE P)) r k (Z.of (F k)) j=E (Z.of (conv g (cut F k) j))∧cX (conv g (cut F k) j)):=fun j=>by
   unfold frE;refine Zx.cases ?_
   have e:conv g (cut F k) j=conv g (cut F (k+1)) j - F k*shf g k j:=by rw [AU];omega
   rw [hrv,JL hG k j,cJ,cJ,e];exact (Zx.of _).sub ((Zx.of _).mul (.of _))
  rcases KA P i r f (E (Z.of (F k))) (g:=aL P (aE P)) O hi' ((aL P (aE P)).length+1) 0 r oo_ (Nat.zero_le _) O oo_ (fun j _=>rfl) with ⟨t',k',e1,e2,e3,e4⟩|⟨e1,j,j1,j2,j3⟩
  ·rw [e1]
   simp only [sm];rw [hx] at e3 e4
   have hin:∀ j,k+0≤j∧j<k+(aL P (aE P)).length→frE (aL P (aE P)) r k (Z.of (F k)) j=E (Z.of (conv g (cut F k) j))∧cX (conv g (cut F k) j):=fun j hj=>by
    rcases hfr j with h1|h1
    ·rw [e4 j hj.1 hj.2] at h1;cases h1
    exact h1
   have hout:∀ j,¬ (k+0≤j∧j<k+(aL P (aE P)).length)→conv g (cut F (k+1)) j=conv g (cut F k) j:=fun j hj=>by
    rw [AU]
    have:shf g k j=0:=by
     unfold shf
     split
     ·exact hgz _ oo_
     rfl
    rw [this,Int.mul_zero,Int.add_zero]
   refine NF hG hn hg0 k fu (i - 1) t' _ oo_ oo_ oo_ oo_ (by rw [List.length_set];exact hf) (fun j=>?_) (fun j=>?_) (fun j hj=>?_) (fun j hj=>?_)
   ·rw [e3 j]
    by_cases hj:k+0≤j∧j<k+(aL P (aE P)).length
    ·rw [if_pos hj,(hin j hj).1]
    rw [if_neg hj,hrv,hout j hj]
   ·by_cases hj:k+0≤j∧j<k+(aL P (aE P)).length
    ·exact (hin j hj).2
    rw [← hout j hj];exact hrb j
   ·rw [show i.toNat=k by omega]
    by_cases hjk:j=k
    ·subst hjk;exact kE _ _ _ oo_
    rw [oK _ _ _ _ hjk];exact hfv j oo_
   by_cases hjk:j=k
   ·subst hjk;exact bF
   exact hfb j oo_
  rw [e1];exact .inl O
theorem cJ_ (hG:Po (aL P (aE P)) g) (hn:(aL P (aE P)).length=n+1) (hg0:0<g n)
  {ρ:Nat→Int} (hR:Po (aC P) ρ) (hρ:∀ k,ρ k=conv g F k) (hF0:F m≠0) (hF:∀ i,m<i→F i=0):aV P=badp ∨ ∃ e:Int,(e=1∨e = -1)∧Po (aV P) (fun k=>e*F k):=by
 have hgz:∀ j,n<j→g j=0:=fun j hj=>hG.zero oo_
 have hRl:(aC P).length=n+m+1:=hR.len_top (by rw [hρ,nR hgz hF];exact Int.mul_ne_zero oo_ hF0) fun i hi=>by rw [hρ];exact lQ (n:=n+1) (m:=m+1) (fun j hj=>hgz j hj) (fun j hj=>hF j hj) i oo_
 have hlen:=hR.l;unfold aV;rw [hG.nb,hR.nb,Bool.or_false,cond_false,show (((aC P).length:Int)==0)=false from beq_eq_false_iff_ne.2 oo_,cond_false]
 rcases NF hG hn hg0 (F:=F) (m:=m) (m+1) ((aC P).length+2) (((List.replicate ((aC P).length - ((aL P (aE P)).length - 1)) I0).length:Int) - 1) (aC P) (List.replicate ((aC P).length - ((aL P (aE P)).length - 1)) I0) (by rw [List.length_replicate];omega) oo_ (Nat.le_refl _) hRl (by rw [List.length_replicate];omega) (fun j=>by rw [hR.get,hρ,JR hF]) (fun j=>by rw [JR hF,← hρ];exact hR.B j) (fun j hj=>by
  rw [hF j oo_,← I0_E]
  exact mK (by rw [List.length_replicate];omega)) (fun j hj=>by rw [hF j oo_];exact B0) with e1|⟨i',r',f',e1,e2,e3,bF⟩
 ·rw [e1];exact .inl O
 rw [e1];simp only [sm]
 have hM:Po (bE f') F:=by rw [pJ];exact z6 e3 bF fun k hk=>hF k oo_
 obtain ⟨e,h1,h2,_⟩:=KT hM;exact .inr ⟨e,h1,h2⟩
end
theorem MB {p:List I} {c:Nat→Int} (h:Po p c):aE p=badp∨Po (aE p) (dI c):=by
 have hl:=h.l;unfold aE;rw [h.nb,cond_false,nQ];have hr:=BC ((List.range ((p.length:Int) - 1).toNat).map fun y=>fT (kB y p))
 cases hg:(mkP ((List.range ((p.length:Int) - 1).toNat).map fun y=>fT (kB y p))).all gdI
 ·exact .inl (y8 hr hg)
 right
 refine QV (fun k hk=>?_) (fun k hk=>?_) oo_ hg
 ·show Ix (E (Z.mul (Z.of (((k+1):Nat):Int)) (p.getD (k+1) I0).dec)) (dI c k)
  rw [h.get,cJ];exact JC ((Zx.of _).mul (.of _))
 unfold dI;rw [h.zero (show p.length≤k+1 by omega),Int.mul_zero]
open Go Go.Kn
open QP (Dv Dg Irr)
structure Rad (p f:QP):Prop where
 ne:f≠QP.C 0
 up:∃ n,Dv p (QP.pow f n)
 dv:Dv f p
 sq:∀ h,Irr h→¬ Dv (h*h) f
theorem IA {p:List I} (h:aL p (aE p)=badp):aV p=badp:=by
 unfold aV;rw [h,wL,Bool.true_or,cond_true,C5]
theorem XH {p:List I} (hp:p.length≤25) (h:aE p=badp):aL p (aE p)=badp:=by
 unfold aL;rw [h,rL,A6 p badp _ _ oo_];rfl
theorem Dv.cmul {a b:QP} {s t:Rat} (hs:s≠0) (ht:t≠0) (h:QP.C s*a=QP.C t*b) (x:QP):Dv x a ↔ Dv x b :=
 ⟨fun k=>QP.Dv.scale ht (by rw [← h];exact k.mul_l _),fun k=>QP.Dv.scale hs (by rw [h];exact k.mul_l _)⟩
theorem cK_ {p:List I} {c:Nat→Int} (h:Po p c) (h0:p≠[]):aV p=badp ∨ ∃ F:Nat→Int,∃ hF:Po (aV p) F,Rad (ZP c h.ends) (ZP F hF.ends):=by
 rcases MB h with hd|hd
 ·exact .inl (IA (XH h.l hd))
 rcases ep_ h hd with hg|⟨α,β,g,s,t,ha,hb,hg,s0,t0,ea,eb,ca,cg,hG,hm⟩
 ·exact .inl (IA hg)
 have hc0:=h.ne_nil h0
 have hα0:¬ ∀ k,α k=0:=fun hz=>hc0 fun k=>by rw [ea k,hz k,Int.mul_zero]
 have hpr:aC p≠[]:=fun e=>hα0 fun k=>BE ha e k;have hα:Cop α:=ca hpr;obtain ⟨d1,d2⟩:=(hG (ZP g hg.ends)).2 (.refl _);have hα1:=TM ha.ends hα0
 have hg0:¬ ∀ k,g k=0:=fun hz=>hα1 (by
  have e0:ZP g hg.ends=QP.C 0:=QP.ex fun k=>by rw [kU,hz k,QP.C0_c];rfl
  rw [e0] at d1
  exact d1.of_zero)
 have hgn:aL p (aE p)≠[]:=fun e=>hg0 fun k=>BE hg e k;have hgc:=cg hgn;obtain ⟨n,n1,n2,n3⟩:=hg.top hgn;obtain ⟨F,eF,hF⟩:=zY hgc hg.ends ha.ends d1;have hFc:Cop F:=CD (s:=g) (by rw [← show α=conv g F from funext hF];exact hα);obtain ⟨m,m1,m2⟩:=(GU eF).resolve_left (CC hFc)
 have hgp:0<g n:=by have:=hm n n3;omega
 rcases cJ_ hg n1 hgp ha hF m1 m2 with hf|⟨e,he,hP⟩
 ·exact .inl hf
 right
 have sq:(s:Rat)≠0:=fun e=>by have:=Rat.intCast_eq_zero_iff.1 e;omega
 have tq:(t:Rat)≠0:=fun e=>by have:=Rat.intCast_eq_zero_iff.1 e;omega
 have E1:ZP c h.ends=QP.C (s:Rat)*ZP α ha.ends:=QP.ex fun k=>by rw [QP.C_mul,kU,kU,ea k,Rat.intCast_mul]
 have E2:QP.C (s:Rat)*QP.D (ZP α ha.ends)=QP.C (t:Rat)*ZP β hb.ends:=QP.ex fun k=>by
  rw [QP.C_mul,QP.C_mul,QP.D_c,kU,kU,← Rat.intCast_mul t,← eb k];unfold dI;rw [ea (k+1),Rat.intCast_mul,Rat.intCast_mul]
  show _=((k+1:Nat):Rat)*_
  grind
 have hDv:=Dv.cmul sq tq E2
 have key:∀ x,Irr x→(Dv x (ZP α ha.ends)→Dv x (ZP F eF))∧¬ Dv (x*x) (ZP F eF):=fun x hx=>by
  refine QP.sqf_part (G:=ZP g hg.ends) hα1 ?_ ((hDv _).2 d2) (fun d h1 h2=>(hG d).1 ⟨h1,(hDv d).1 h2⟩) hx;rw [← pH hg.ends eF];exact ML _ _ hF
 have hF1:=TM eF (CC hFc)
 have he0:(e:Rat)≠0:=by rcases he with rfl|rfl<;>decide
 have EF:ZP (fun k=>e*F k) hP.ends=QP.C (e:Rat)*ZP F eF:=QP.ex fun k=>by rw [QP.C_mul,kU,kU,Rat.intCast_mul]
 have toF:∀ x,Dv x (ZP (fun k=>e*F k) hP.ends) ↔ Dv x (ZP F eF):=fun x=>by
  rw [EF];exact ⟨fun k=>QP.Dv.scale he0 k,fun k=>k.mul_l _⟩
 refine ⟨_,hP,⟨fun e0=>?_,?_,?_,fun x hx k=>(key x hx).2 ((toF _).1 k)⟩⟩
 ·rw [EF] at e0
  exact QP.mul_ne (QP.C_dg he0).ne hF1 e0
 ·obtain ⟨N,hN⟩:=QP.ex_dg hα1
  refine ⟨N,?_⟩;have h1:Dv (ZP α ha.ends) (QP.pow (ZP (fun k=>e*F k) hP.ends) N):=QP.dvd_pow (fun x hx k=>(toF x).2 ((key x hx).1 k)) N _ hN (.refl _);rw [E1];exact (QP.C_dv sq _).trans h1
 rw [E1];have h1:Dv (ZP F eF) (ZP α ha.ends):=⟨ZP g hg.ends,by rw [QP.mul_comm',← pH hg.ends eF];exact ML _ _ hF⟩;refine QP.Dv.mul_l (QP.Dv.trans ?_ h1) _;rw [EF];exact QP.C_dv he0 _
def Ab (x B:Rat):Prop:=-B≤x∧x≤B
theorem Ab.nn {x B:Rat} (h:Ab x B):0≤B:=by unfold Ab at h;grind
theorem Ab.le {x A B:Rat} (h:Ab x A) (hl:A≤B):Ab x B:=by unfold Ab at *;grind
theorem Ab.add {x y A B:Rat} (h:Ab x A) (g:Ab y B):Ab (x+y) (A+B):=by unfold Ab at *;grind
theorem Ab.sub {x y A B:Rat} (h:Ab x A) (g:Ab y B):Ab (x - y) (A+B):=by unfold Ab at *;grind
theorem Ab.neg {x A:Rat} (h:Ab x A):Ab (-x) A:=by unfold Ab at *;grind
theorem Ab.mul {x y A B:Rat} (h:Ab x A) (g:Ab y B):Ab (x*y) (A*B):=by
 unfold Ab at *
 have h1:0≤A - x:=by grind
 have h2:0≤A+x:=by grind
 have h3:0≤B - y:=by grind
 have h4:0≤B+y:=by grind
 have p1:=Rat.mul_nonneg h1 h4;have p2:=Rat.mul_nonneg h2 h3;have p3:=Rat.mul_nonneg h1 h3;have p4:=Rat.mul_nonneg h2 h4
 constructor<;>grind
theorem Ab.self (x:Rat):∃ B,0≤B∧Ab x B:=by
 rcases Rat.le_total (a:=0) (b:=x) with h|h
 ·exact ⟨x,h,by unfold Ab;grind⟩
 exact ⟨-x,by grind,by unfold Ab;grind⟩
theorem Ab.pos {x:Rat} (h:0≤x):Ab x x:=by unfold Ab;grind
theorem yI {A B:Rat} (hA:0<A) (hB:0<B):∃ e,0<e∧e≤A∧e≤B:=by
 rcases Rat.le_total (a:=A) (b:=B) with h|h
 ·exact ⟨A,hA,Rat.le_refl,h⟩
 exact ⟨B,hB,h,Rat.le_refl⟩
theorem oX {K A:Rat} (hK:0≤K) (hA:0<A):∃ e,0<e∧K*e≤A:=by
 have h1:(0:Rat)<K+1:=by grind
 have hi:0<(K+1)⁻¹:=Rat.inv_pos.2 h1;refine ⟨A*(K+1)⁻¹,Rat.mul_pos hA hi,?_⟩;have e:(K+1)*(K+1)⁻¹=1:=Rat.mul_inv_cancel _ (by grind);have p:=Rat.mul_nonneg (Rat.le_of_lt hA) (Rat.le_of_lt hi)
 have:K*(A*(K+1)⁻¹)=A*((K+1)*(K+1)⁻¹) - A*(K+1)⁻¹:=by grind
 rw [this,e];grind
theorem EC {a b c d:Rat} (h:a≤b) (g:c≤d) (ha:0≤a) (hd:0≤d):a*c≤b*d :=
 Rat.le_trans (Rat.mul_le_mul_of_nonneg_left g ha) (Rat.mul_le_mul_of_nonneg_right h hd)
namespace QP
noncomputable def ev (a:QP) (x:Rat):Rat:=vl a.c x (Classical.choose a.fs)
theorem ev_vl {a:QP} {n:Nat} (h:∀ i,n≤i→a.c i=0) (x:Rat):a.ev x=vl a.c x n:=by
 have g:=Classical.choose_spec a.fs;unfold ev;rcases Nat.le_total n (Classical.choose a.fs) with k|k
 ·exact zC h k
 exact (zC g k).symm
theorem ev_add (a b:QP) (x:Rat):(a+b).ev x=a.ev x+b.ev x:=by
 obtain ⟨n,h⟩:=a.fs;obtain ⟨m,g⟩:=b.fs;rw [ev_vl (a:=a+b) (n:=max n m) (fun i hi=>by rw [add_c,h i (by omega),g i (by omega),Rat.add_zero]),ev_vl (a:=a) (n:=max n m) (fun i hi=>h i (by omega)),ev_vl (a:=b) (n:=max n m) (fun i hi=>g i (by omega))];exact ac_ a.c b.c x _
theorem ev_mul (a b:QP) (x:Rat):(a*b).ev x=a.ev x*b.ev x:=by
 obtain ⟨n,h⟩:=a.fs;obtain ⟨m,g⟩:=b.fs;rw [ev_vl (a:=a*b) (n:=n+m) (fun i hi=>lQ h g i (by omega)),ev_vl h,ev_vl g];exact TI h g (Nat.le_refl _)
theorem ev_C (t x:Rat):(C t).ev x=t:=by
 rw [ev_vl (n:=1) (fun i hi=>by rw [C_c,if_neg (by omega)])];unfold vl;simp only [fY];rw [C_c,if_pos O,Rat.pow_zero,Rat.mul_one,Rat.zero_add]
def X:QP:=M 1 1
theorem X_mul_c (s:QP) (k:Nat):(X*s).c k=if 1≤k then s.c (k - 1) else 0:=by unfold X;rw [ME];split<;>simp [Rat.one_mul]
theorem aU_ (x:Rat):X.ev x=x:=by
 rw [ev_vl (n:=2) (fun i hi=>by show (if i=1 then (1:Rat) else 0)=0;rw [if_neg (by omega)])];unfold vl;simp only [fY]
 show (0:Rat)+(if 0=1 then (1:Rat) else 0)*x ^ 0+(if 1=1 then (1:Rat) else 0)*x ^ 1=x
 rw [if_neg (by omega),if_pos O,Rat.pow_succ,Rat.pow_zero];grind
theorem ind {P:QP→Prop} (h0:P (C 0)) (h1:∀ t s,P s→P (C t+X*s)) (a:QP):P a:=by
 obtain ⟨n,h⟩:=a.fs
 induction n generalizing a with
 | zero=>rw [show a=C 0 from ex fun k=>by rw [h k (Nat.zero_le _),C0_c]];exact h0
 | succ n ih =>
  have e:a=C (a.c 0)+X*⟨fun k=>a.c (k+1),⟨n,fun i hi=>h _ (by omega)⟩⟩:=ex fun k=>by
   rw [add_c,X_mul_c,C_c];rcases Nat.eq_zero_or_pos k with hk|hk
   ·subst hk;rw [if_pos O,if_neg (by omega),Rat.add_zero]
   rw [if_neg (by omega),if_pos (show 1≤k from hk),Rat.zero_add]
   show _=a.c (k - 1+1)
   rw [show k - 1+1=k by omega]
  rw [e];exact h1 _ _ (ih _ fun i hi=>h _ (by omega))
theorem M8 (t:Rat) (s:QP) (x:Rat):(C t+X*s).ev x=t+x*s.ev x:=by rw [ev_add,ev_mul,ev_C,aU_]
theorem eo_ (a b:QP):D (a+b)=D a+D b:=ex fun k=>by rw [D_c,add_c,add_c,D_c,D_c,Rat.mul_add]
theorem D_C (t:Rat):D (C t)=C 0:=ex fun k=>by rw [D_c,C_c,if_neg (by omega),Rat.mul_zero,C0_c]
theorem D_X:D X=C 1:=ex fun k=>by
 rw [D_c,C_c]
 show ((k+1:Nat):Rat)*(if k+1=1 then (1:Rat) else 0)=_
 rcases Nat.eq_zero_or_pos k with hk|hk
 ·subst hk;rw [if_pos O,if_pos O,Rat.mul_one];rfl
 rw [if_neg (by omega),if_neg (by omega),Rat.mul_zero]
theorem fY_ (t:Rat) (s:QP) (x:Rat):(D (C t+X*s)).ev x=s.ev x+x*(D s).ev x:=by
 rw [eo_,D_C,zD,MA,D_X,o8,ev_add,ev_mul,aU_]
theorem bd (M:Rat) (a:QP):∃ B,0≤B∧∀ x,Ab x M→Ab (a.ev x) B:=by
 refine ind (P:=fun a=>∃ B,0≤B∧∀ x,Ab x M→Ab (a.ev x) B) ⟨0,Rat.le_refl,fun x _=>by rw [ev_C];unfold Ab;grind⟩ (fun t s ⟨B,hB,h⟩=>?_) a;obtain ⟨T,hT,ht⟩:=Ab.self t
 by_cases hM:0≤M
 ·refine ⟨T+M*B,Rat.add_nonneg hT (Rat.mul_nonneg hM hB),fun x hx=>?_⟩
  rw [M8];exact ht.add (hx.mul (h x hx))
 exact ⟨0,Rat.le_refl,fun x hx=>absurd hx.nn hM⟩
theorem lip (M:Rat) (a:QP):∃ K,0≤K∧∀ x y,Ab x M→Ab y M→x≤y→Ab (a.ev y - a.ev x) (K*(y - x)):=by
 refine ind (P:=fun a=>∃ K,0≤K∧∀ x y,Ab x M→Ab y M→x≤y→Ab (a.ev y - a.ev x) (K*(y - x))) ⟨0,Rat.le_refl,fun x y _ _ _=>by rw [ev_C,ev_C];unfold Ab;grind⟩ (fun t s ⟨K,hK,h⟩=>?_) a;obtain ⟨B,hB,hb⟩:=bd M s
 by_cases hM:0≤M
 ·refine ⟨M*K+B,Rat.add_nonneg (Rat.mul_nonneg hM hK) hB,fun x y hx hy hl=>?_⟩
  rw [M8,M8]
  have e:t+y*s.ev y - (t+x*s.ev x)=x*(s.ev y - s.ev x)+s.ev y*(y - x):=by grind
  have hd:Ab (y - x) (y - x):=Ab.pos (by grind);rw [e,show (M*K+B)*(y - x)=M*(K*(y - x))+B*(y - x) by grind];exact (hx.mul (h x y hx hy hl)).add ((hb y hy).mul hd)
 exact ⟨0,Rat.le_refl,fun x y hx=>absurd hx.nn hM⟩
theorem tay (M:Rat) (a:QP):∃ K,0≤K∧∀ x y,Ab x M→Ab y M→x≤y→Ab (a.ev y - a.ev x - (y - x)*(D a).ev x) (K*((y - x)*(y - x))):=by
 refine ind (P:=fun a=>∃ K,0≤K∧∀ x y,Ab x M→Ab y M→x≤y→Ab (a.ev y - a.ev x - (y - x)*(D a).ev x) (K*((y - x)*(y - x)))) ⟨0,Rat.le_refl,fun x y _ _ _=>by rw [ev_C,ev_C,D_C,ev_C];unfold Ab;grind⟩ (fun t s ⟨K,hK,h⟩=>?_) a;obtain ⟨B,hB,hb⟩:=lip M s
 by_cases hM:0≤M
 ·refine ⟨M*K+B,Rat.add_nonneg (Rat.mul_nonneg hM hK) hB,fun x y hx hy hl=>?_⟩
  rw [M8,M8,fY_]
  have e:t+y*s.ev y - (t+x*s.ev x) - (y - x)*(s.ev x+x*(D s).ev x)=x*(s.ev y - s.ev x - (y - x)*(D s).ev x)+(s.ev y - s.ev x)*(y - x):=by grind
  have hd:Ab (y - x) (y - x):=Ab.pos (by grind);rw [e,show (M*K+B)*((y - x)*(y - x))=M*(K*((y - x)*(y - x)))+B*(y - x)*(y - x) by grind];exact (hx.mul (h x y hx hy hl)).add ((hb x y hx hy hl).mul hd)
 exact ⟨0,Rat.le_refl,fun x y hx=>absurd hx.nn hM⟩
def Rb (c d:Rat) (f:QP):Prop:=∃ η,0<η∧((∀ x,c≤x→x≤d→η≤f.ev x) ∨ ∀ x,c≤x→x≤d→f.ev x ≤ -η)
theorem FF {M c d x:Rat} (hc:Ab c M) (hd:Ab d M) (h1:c≤x) (h2:x≤d):Ab x M:=by unfold Ab at *;grind
theorem be_ (M:Rat) (f:QP) {ε:Rat} (hε:0<ε):∃ δ,0<δ∧∀ c d,Ab c M→Ab d M→c≤d→d - c≤δ→Rb c d f ∨ ∀ x,c≤x→x≤d→Ab (f.ev x) ε:=by
 obtain ⟨K,hK,hk⟩:=lip M f;obtain ⟨δ,hδ,h1⟩:=oX hK (A:=ε*(1 / 4)) (by grind);refine ⟨δ,hδ,fun c d hc hd hl hs=>?_⟩
 have hch:∀ x,c≤x→x≤d→Ab (f.ev x - f.ev c) (ε*(1 / 4)):=fun x h2 h3=>by
  refine (hk c x hc (FF hc hd h2 h3) h2).le (Rat.le_trans (Rat.mul_le_mul_of_nonneg_left (b:=δ) (by grind) hK) h1)
 by_cases a1:ε*(1 / 2)<f.ev c
 ·exact .inl ⟨ε*(1 / 4),by grind,.inl fun x h2 h3=>by have:=hch x h2 h3;unfold Ab at this;grind⟩
 by_cases a2:f.ev c < -(ε*(1 / 2))
 ·exact .inl ⟨ε*(1 / 4),by grind,.inr fun x h2 h3=>by have:=hch x h2 h3;unfold Ab at this;grind⟩
 exact .inr fun x h2 h3=>by have:=hch x h2 h3;unfold Ab at *;grind
end QP
end Go.Num
