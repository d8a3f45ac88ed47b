/- Lemmas: what they ask stands in their statements. -/
import Derived.Test.YtokjfhfiodopdaaGreatJRra
set_option linter.unusedSimpArgs false
set_option linter.unusedVariables false
namespace Go.Num
open Go Go.Kn
def cut (F:Nat→Int) (k i:Nat):Int:=if i<k then F i else 0
theorem D0 (g F:Nat→Int) (k j:Nat):conv g (cut F (k+1)) j=conv g (cut F k) j+F k*shf g k j:=by
 have h:=TD g (cut F (k+1)) k j fun i hi=>by unfold cut;rw [if_neg oo_]
 rw [h]
 have e1:cut F (k+1) k=F k:=by unfold cut;rw [if_pos oo_]
 have e2:(fun i=>if i<k then cut F (k+1) i else 0)=cut F k:=funext fun i=>by
  unfold cut
  by_cases h:i<k
  ·rw [if_pos h,if_pos h,if_pos oo_]
  rw [if_neg h,if_neg h]
 rw [e1,e2]
theorem NW {F:Nat→Int} {m:Nat} (hF:∀ i,m<i→F i=0):cut F (m+1)=F:=funext fun i=>by
 unfold cut
 split
 ·rfl
 exact (hF i oo_).symm
theorem e9_ {F:Nat→Int} {A:Nat} (hA:∀ i,(F i).natAbs≤A) (k i:Nat):(cut F k i).natAbs≤A:=by
 unfold cut
 split
 ·exact hA i
 exact Nat.zero_le _
theorem OS {a:List I} {c:Nat→Int} (h:Po a c):∃ e:Int,(e=1∨e = -1)∧Po (bif (((a.length:Int)==0)||decide (0<(Z.signW (a.getD (a.length - 1) I0).dec).1)) then a else fE ([]:List I) a (fun (y:I) (z:I)=>E (Z.sub y.dec z.dec))) (fun k=>e*c k)∧∀ m,(∀ i,m<i→c i=0)→0≤e*c m:=by
 by_cases h0:a=[]
 ·subst h0
  rw [show (([]:List I).length:Int)==0 from rfl,Bool.true_or,cond_true];exact ⟨1,.inl O,h.cast fun k=>(Int.one_mul _).symm,fun m hm=>by rw [h.zero (Nat.zero_le _)];decide⟩
 obtain ⟨t,t1,t2,t3⟩:=h.top h0;rw [show ((a.length:Int)==0)=false from beq_eq_false_iff_ne.2 oo_,Bool.false_or,t1,Nat.add_sub_cancel,h.get,cP,lW (h.B t)]
 have key:∀ m,(∀ i,m<i→c i=0)→c m=0∨m=t:=fun m hm=>by
  rcases Nat.lt_trichotomy m t with h1|h1|h1
  ·exact absurd (hm t h1) t2
  ·exact .inr h1
  exact .inl (t3 m h1)
 by_cases hp:0<(c t).sign
 ·rw [decide_eq_true hp,cond_true]
  refine ⟨1,.inl O,h.cast fun k=>(Int.one_mul _).symm,fun m hm=>?_⟩;rw [Int.one_mul];rcases key m hm with h1|h1
  ·rw [h1];exact Int.le_refl _
  rw [h1];have:=Int.sign_pos_iff.1 hp;omega
 rw [decide_eq_false hp,cond_false];refine ⟨-1,.inr O,?_,fun m hm=>?_⟩
 ·refine N0 E6 h (fun k=>by rw [cP,cP,PG B0 (h.B k),Int.zero_sub,Int.neg_one_mul]) (fun k=>by have:=h.B k;unfold dR at *;rwa [Int.neg_one_mul,Int.natAbs_neg]) (fun k _ h=>by rw [h];rfl)
 rcases key m hm with h1|h1
 ·rw [h1];decide
 rw [h1];have:¬ 0<c t:=fun hx=>hp (Int.sign_pos_iff.2 hx);omega
section
variable {P:List I} {g F:Nat→Int} {n m A B:Nat}
theorem VH (hG:Po (aX P (aE P)) g) (hn:(aX P (aE P)).length=n+1) (hg0:0<g n) (hA:∀ i,(F i).natAbs≤A) (hB:∀ i,(g i).natAbs≤B) (hAB:(n+1)*(B*A)<4294967296 ^ 16) :
  ∀ (k fu:Nat) (i:Int) (r f:List I),i=(k:Int) - 1→k<fu→k≤m+1→r.length=n+m+1→f.length=m+1→(∀ j,r.getD j I0=E (Z.of (conv g (cut F k) j)))→(∀ j,k≤j→f.getD j I0=E (Z.of (F j))) →
  ∃ i' r' f',eZ P fu i r f = .inl (i',r',f')∧f'.length=m+1∧∀ j,f'.getD j I0=E (Z.of (F j))
 | _,0,_,_,_,_,h,_,_,_,_,_=>absurd h (Nat.not_lt_zero _)
 | 0,fu+1,i,r,f,hi,hk,hkm,hr,hf,hrv,hfv=>by
  unfold eZ;rw [decide_eq_false oo_,cond_false];exact ⟨i,r,f,rfl,hf,fun j=>hfv j (Nat.zero_le _)⟩
 | k+1,fu+1,i,r,f,hi,hk,hkm,hr,hf,hrv,hfv=>by
  have hi':i=(k:Int):=by omega
  have hgz:∀ j,n<j→g j=0:=fun j hj=>hG.zero oo_;have hAB1:B*A<4294967296 ^ 16:=Nat.lt_of_le_of_lt (Nat.le_mul_of_pos_left _ (Nat.succ_pos n)) hAB;have bc:∀ k j,dR (conv g (cut F k) j):=fun k j=>Nat.lt_of_le_of_lt (HD hB (e9_ hA k) (fun i hi=>hgz i oo_) j) hAB
  have hshf:∀ j,(shf g k j).natAbs≤B:=fun j=>by
   unfold shf;split
   ·exact hB _
   exact Nat.zero_le _
  have bm:∀ j,dR (F k*shf g k j):=fun j=>by
   refine Nat.lt_of_le_of_lt ?_ hAB1;rw [Int.natAbs_mul,Nat.mul_comm B];exact Nat.mul_le_mul (hA k) (hshf j)
  have hB1:1≤B:=by have:=hB n;omega
  have bF:dR (F k):=Nat.lt_of_le_of_lt (Nat.le_trans (hA k) (Nat.le_mul_of_pos_left _ hB1)) hAB1
  have htop:conv g (cut F (k+1)) (n+k)=g n*F k:=by
   rw [pL hgz fun i hi=>by unfold cut;rw [if_neg oo_]]
   congr 1
   unfold cut;rw [if_pos oo_]
  have hq:(E (Z.quo (r.getD (i.toNat+((aX P (aE P)).length - 1)) I0).dec ((aX P (aE P)).getD ((aX P (aE P)).length - 1) I0).dec))=E (Z.of (F k)):=by
   rw [hn,Nat.add_sub_cancel,show i.toNat+n=n+k by omega,hrv,hG.get,cP,cP,FV (bc (k+1) _) (hG.B n) hg0 (v:=F k) htop.symm]
  unfold eZ;rw [decide_eq_true oo_,cond_true];simp only;rw [hq]
  have hx:((f.set i.toNat (E (Z.of (F k)))).getD i.toNat I0).dec=Z.of (F k):=by rw [kW _ _ _ oo_,cP]
  have hfr:∀ j,frE (aX P (aE P)) r k (Z.of (F k)) j=E (Z.of (conv g (cut F k) j)):=fun j=>by
   unfold frE
   have e:conv g (cut F k) j=conv g (cut F (k+1)) j - F k*shf g k j:=by rw [D0];omega
   rw [hrv,NS hG k j,cP,cP,pF bF (er_ hG k j),PG (bc _ _) (bm j),← e]
  rcases HG P i r f (E (Z.of (F k))) (g:=aX P (aE P)) O hi' ((aX P (aE P)).length+1) 0 r oo_ (Nat.zero_le _) O oo_ (fun j _=>rfl) with ⟨t',k',e1,e2,e3,e4⟩|⟨e1,j,j1,j2,j3⟩
  ·rw [e1]
   simp only [sm];rw [hx] at e3;refine VH hG hn hg0 hA hB hAB k fu (i - 1) t' _ oo_ oo_ oo_ oo_ (by rw [List.length_set];exact hf) (fun j=>?_) (fun j hj=>?_)
   ·rw [e3 j]
    by_cases hj:k+0≤j∧j<k+(aX P (aE P)).length
    ·rw [if_pos hj,hfr]
    rw [if_neg hj,hrv,D0]
    have:shf g k j=0:=by
     unfold shf
     split
     ·exact hgz _ oo_
     rfl
    rw [this,Int.mul_zero,Int.add_zero]
   rw [show i.toNat=k by omega]
   by_cases hjk:j=k
   ·subst hjk;exact kW _ _ _ oo_
   rw [oP _ _ _ _ hjk];exact hfv j oo_
  rw [hx,hfr j,TU (bc k j)] at j3
  cases j3
theorem Y7 (hG:Po (aX P (aE P)) g) (hn:(aX P (aE P)).length=n+1) (hg0:0<g n) (hA:∀ i,(F i).natAbs≤A) (hB:∀ i,(g i).natAbs≤B) (hAB:(n+1)*(B*A)<4294967296 ^ 16)
  {ρ:Nat→Int} (hR:Po (aC P) ρ) (hρ:∀ k,ρ k=conv g F k) (hF0:F m≠0) (hF:∀ i,m<i→F i=0):∃ e:Int,(e=1∨e = -1)∧Po (bD P) (fun k=>e*F k)∧∀ m,(∀ i,m<i→F i=0)→0≤e*F m:=by
 have hgz:∀ j,n<j→g j=0:=fun j hj=>hG.zero oo_
 have hRl:(aC P).length=n+m+1:=hR.len_top (by rw [hρ,pL hgz hF];exact Int.mul_ne_zero oo_ hF0) fun i hi=>by rw [hρ];exact oC (n:=n+1) (m:=m+1) (fun j hj=>hgz j hj) (fun j hj=>hF j hj) i oo_
 have hB1:1≤B:=by have:=hB n;omega
 have hAB1:B*A<4294967296 ^ 16:=Nat.lt_of_le_of_lt (Nat.le_mul_of_pos_left _ (Nat.succ_pos n)) hAB;have bF:∀ k,dR (F k):=fun k=>Nat.lt_of_le_of_lt (Nat.le_trans (hA k) (Nat.le_mul_of_pos_left _ hB1)) hAB1;have hlen:=hR.l;unfold bD;rw [hG.nb,hR.nb,Bool.or_false,cond_false,show (((aC P).length:Int)==0)=false from beq_eq_false_iff_ne.2 oo_,cond_false]
 obtain ⟨i',r',f',e1,e2,e3⟩:=VH hG hn hg0 hA hB hAB (m:=m) (m+1) ((aC P).length+2) (((List.replicate ((aC P).length - ((aX P (aE P)).length - 1)) I0).length:Int) - 1) (aC P) (List.replicate ((aC P).length - ((aX P (aE P)).length - 1)) I0) (by rw [List.length_replicate];omega) oo_ (Nat.le_refl _) hRl (by rw [List.length_replicate];omega) (fun j=>by rw [hR.get,hρ,NW hF]) (fun j hj=>by
  rw [hF j oo_,← I0_E]
  exact oL (by rw [List.length_replicate];omega))
 rw [e1];simp only [sm]
 have hM:Po (bQ f') F:=by rw [rD];exact DA e3 bF fun k hk=>hF k oo_
 exact OS hM
end
def dI (c:Nat→Int) (k:Nat):Int:=((k+1:Nat):Int)*c (k+1)
theorem U9 {c:Nat→Int} (h:oA c):oA (dI c):=by
 obtain ⟨n,h⟩:=h;exact ⟨n,fun i hi=>by unfold dI;rw [h _ oo_,Int.mul_zero]⟩
theorem dZ_ {c:Nat→Int} (h:oA c):ZP (dI c) (U9 h)=QP.D (ZP c h):=QP.ex fun k=>by rw [QP.D_c,nI,nI];unfold dI;rw [Rat.intCast_mul];rfl
theorem fm_ {A B C:QP} (S:QP) (h:Gd A B C):Gd (S*A) (S*B) (S*C):=fun d=>by
 obtain ⟨c1,c2⟩:=(h C).2 (.refl C);obtain ⟨g,u,v,h1,h2,h3⟩:=QP.bezout A B;obtain ⟨k,hk⟩:=(h g).1 ⟨h2,h3⟩
 constructor
 ·rintro ⟨d1,d2⟩
  rw [hk,← QP.mul_assoc',h1,QP.mul_add',QP.lc' S u,QP.lc' S v];exact ((d1.mul_l u).add (d2.mul_l v)).mul k
 exact fun d1=>⟨d1.trans (c1.both S),d1.trans (c2.both S)⟩
theorem XD {c:Nat→Int} (h:oA c) (h0:¬ ∀ k,c k=0):ZP c h≠QP.C 0:=fun e=>h0 fun k=>by
 have e1:=congrArg (fun x:QP=>x.c k) e;simp only [nI,QP.C0_c] at e1;exact Rat.intCast_eq_zero_iff.1 e1
section
variable {σ:Nat→Int} {ds S G:Nat}
theorem f0_ (hσ:Cop σ) (hs0:σ ds≠0) (hs:∀ i,ds<i→σ i=0) (hS:∀ k,(σ k).natAbs≤S) {P:List I} {c:Nat→Int} (hP:Po P c) (h0:P≠[]) (hD:Po (aE P) (dI c)) {f n0 n1 M0 M1:Nat} {α β:Nat→Int} (pa:Pr α n0 M0) (pb:Pr β n1 M1) (h:okT S ds G f n0 n1 M0 M1=true) (ha:Po (aC P) (conv σ α)) (hb:Po (aC (aE P)) (conv σ β)) :
  ∃ (g F:Nat→Int) (n:Nat) (eρ:oA (conv σ α)) (eF:oA F),Po (aX P (aE P)) g∧0<g n∧(∀ i,n<i→g i=0)∧(∀ i,(g i).natAbs≤(ds+1)*(S*G))∧Cop g∧Cop F∧(∀ k,conv σ α k=conv g F k)∧∀ h,QP.Irr h→(QP.Dv h (ZP (conv σ α) eρ)→QP.Dv h (ZP F eF))∧¬ QP.Dv (h*h) (ZP F eF):=by
 have es:oA σ:=⟨ds+1,fun i hi=>hs i hi⟩;obtain ⟨γ,_,pc,g1,g2,g3⟩:=cp_ hσ hs0 hs hS pa pb h ha hb
 have ea:∀ k,((cN P:Nat):Int)*conv σ α k=c k:=fun k=>by
  rw [← yL hP k]
  congr 1
  exact (ha.c k).symm.trans ((vV hP).c k)
 have eb:∀ k,((cN (aE P):Nat):Int)*conv σ β k=dI c k:=fun k=>by
  rw [← yL hD k]
  congr 1
  exact (hb.c k).symm.trans ((vV hD).c k)
 have hcP:=hP.cpos h0;have hc0:¬ ∀ k,c k=0:=fun hz=>h0 (hP.nil hz)
 have hα:Cop α:=pa.p.resolve_right fun hz=>hc0 fun k=>by rw [← ea k,qN hz,Int.mul_zero]
 have hρ:Cop (conv σ α):=d6_ hσ hα;have eρ:=B3 es pa.e;have eσβ:=B3 es pb.e;have hG:=fm_ (ZP σ es) g2;rw [← tG es pa.e,← tG es pb.e,← tG es pc.e] at hG;have eg:=B3 es pc.e;have hρ0:=XD eρ (FF hρ);obtain ⟨d1,d2⟩:=(hG (ZP (conv σ γ) eg)).2 (.refl _)
 have hγ:Cop γ:=pc.p.resolve_right fun hz=>hρ0 (by
  have e0:ZP (conv σ γ) eg=QP.C 0:=QP.ex fun k=>by rw [nI,qN hz,QP.C0_c];rfl
  rw [e0] at d1
  exact d1.of_zero)
 have hg:Cop (conv σ γ):=d6_ hσ hγ;obtain ⟨F,eF,hF⟩:=C4 hg eg eρ d1;obtain ⟨n,n1,n2⟩:=(KG eg).resolve_left (FF hg);have hFc:Cop F:=FG (s:=conv σ γ) (by rw [← show conv σ α=conv (conv σ γ) F from funext hF];exact hρ)
 -- the derivative, up to a number
 have hDv:∀ x,QP.Dv x (QP.D (ZP (conv σ α) eρ)) ↔ QP.Dv x (ZP (conv σ β) eσβ):=fun x=>by
  have e1:QP.C (((cN P:Nat):Int):Rat)*QP.D (ZP (conv σ α) eρ)=QP.C (((cN (aE P):Nat):Int):Rat)*ZP (conv σ β) eσβ:=QP.ex fun k=>by
   rw [QP.C_mul,QP.C_mul,QP.D_c,nI,nI,← Rat.intCast_mul,eb k];unfold dI;rw [← ea (k+1),Rat.intCast_mul,Rat.intCast_mul]
   show _=((k+1:Nat):Rat)*_
   grind
  have hcP':(((cN P:Nat):Int):Rat)≠0:=fun e=>by have:=Rat.intCast_eq_zero_iff.1 e;omega
  by_cases hz:aE P=[]
  ·have z1:ZP (conv σ β) eσβ=QP.C 0:=QP.ex fun k=>by
    rw [nI,QP.C0_c,← show (0:Int)=conv σ β k from ?_]
    ·rfl
    have:=(hb.c k).symm.trans ((vV hD).c k);rw [hD.zero (k:=k) (by rw [hz];exact Nat.zero_le _),Int.zero_fdiv] at this;exact this.symm
   rw [z1,QP.mul_zero'] at e1
   have z2:QP.D (ZP (conv σ α) eρ)=QP.C 0:=by
    apply Classical.byContradiction
    intro hx;exact QP.mul_ne (QP.C_dg hcP').ne hx e1
   rw [z1,z2]
  have hcD:=hD.cpos hz
  have hcD':(((cN (aE P):Nat):Int):Rat)≠0:=fun e=>by have:=Rat.intCast_eq_zero_iff.1 e;omega
  exact ⟨fun h=>QP.Dv.scale hcD' (by rw [← e1];exact h.mul_l _),fun h=>QP.Dv.scale hcP' (by rw [e1];exact h.mul_l _)⟩
 refine ⟨conv σ γ,F,n,eρ,eF,g1,?_,n2,?_,hg,hFc,hF,fun h hi=>?_⟩
 ·have:=g3 n n2
  omega
 ·exact fun i=>HD hS pc.b (fun j hj=>hs j oo_) i
 refine QP.sqf_part (G:=ZP (conv σ γ) eg) hρ0 ?_ ((hDv _).2 d2) (fun d h1 h2=>(hG d).1 ⟨h1,(hDv d).1 h2⟩) hi;rw [← tG eg eF];exact PZ _ _ hF
end
open Go Go.Kn
theorem Zx.neg {a:Z} {u:Int} (ha:Zx a u):Zx (Z.neg a) (-u):=by
 rcases ha with h|⟨h,h1⟩
 ·left;rw [Z.neg,rC h];rfl
 subst h;rw [Z.neg,mK (Z.of_some h1)];exact .of _
theorem Zx.sub {a b:Z} {u v:Int} (ha:Zx a u) (hb:Zx b v):Zx (Z.sub a b) (u - v):=by
 rw [Int.sub_eq_add_neg];exact ha.add hb.neg
theorem UP {z:Z} (h:z.o=none):(E z).1.bad=true:=by
 have:z=Z.bad:=by
  cases z with
  | mk o hb=>simp only at h;subst h;rfl
 rw [this];rfl
theorem Zx.cases {z:Z} {v:Int} (h:Zx z v):(E z).1.bad=true∨(E z=E (Z.of v)∧dR v):=by
 rcases h with h|⟨h,b⟩
 ·exact .inl (UP h)
 exact .inr ⟨by rw [h],b⟩
section
variable {p q:List I} {c d:Nat→Int} {n:Nat}
theorem gc_ (v:Int):dR v.sign:=by
 rcases Int.lt_trichotomy v 0 with h|h|h
 ·rw [Int.sign_eq_neg_one_of_neg h];decide
 ·rw [h];decide
 rw [Int.sign_eq_one_of_pos h];decide
theorem eo_ (g:Po q d) (hn:q.length=n+1) {r:Nat→Int} {i:Nat} (l:List I) (h2:∀ k,dR (r k)):∀ (f k:Nat) (t:List I),l.length - k<f→k≤l.length→t.length=l.length →
  (∀ j,t.getD j I0=E (Z.of (if j<k then mM (d n).natAbs (d n).sign d n i r j else r j)))→(∀ j,j<k→dR (mM (d n).natAbs (d n).sign d n i r j)) →
  fG p q (i:Int) l (E (Z.of ((d n).sign*r (i+n)))) f k t = .inr badp ∨
  ∃ t',fG p q (i:Int) l (E (Z.of ((d n).sign*r (i+n)))) f k t = .inl (l.length,t')∧t'.length=l.length∧(∀ j,t'.getD j I0=E (Z.of (if j<l.length then mM (d n).natAbs (d n).sign d n i r j else r j)))∧∀ j,j<l.length→dR (mM (d n).natAbs (d n).sign d n i r j)
 | 0,k,t,hf,_,_,_,_=>absurd hf (Nat.not_lt_zero _)
 | f+1,k,t,hf,hk,ht,hv,hb=>by
  unfold fG
  by_cases hl:k<l.length
  ·rw [decide_eq_true oo_,cond_true]
   have e:=hv k;rw [if_neg (Nat.lt_irrefl k)] at e
   have hz:Zx (Z.sub (Z.mul (Z.abs (q.getD (q.length - 1) I0).dec) (t.getD k I0).dec) (Z.mul (E (Z.of ((d n).sign*r (i+n)))).dec (eX q ((k:Int) - (i:Int))).dec)) (mM (d n).natAbs (d n).sign d n i r k):=by
    rw [hn,Nat.add_sub_cancel,g.get,e,NS g,cP,cP,cP,cP,UZ (g.B _)];exact ((Zx.of _).mul (.of _)).sub ((Zx.of _).mul (.of _))
   simp only;rcases hz.cases with h|⟨h,b⟩
   ·left
    rw [kW t k _ oo_,h,cond_true,DR]
   rw [h,kW t k _ oo_,H0 b,cond_false];refine eo_ g hn l h2 f (k+1) _ oo_ oo_ (by rw [List.length_set];exact ht) (fun j=>?_) fun j hj=>?_
   ·by_cases hj:j=k
    ·subst hj;rw [kW t j _ oo_,if_pos oo_]
    rw [oP t k j _ hj,hv j]
    by_cases hjk:j<k
    ·rw [if_pos hjk,if_pos oo_]
    rw [if_neg hjk,if_neg oo_]
   by_cases hjk:j=k
   ·subst hjk;exact b
   exact hb j oo_
  rw [decide_eq_false oo_,cond_false]
  have:k=l.length:=by omega
  subst this;exact .inr ⟨t,rfl,ht,hv,hb⟩
theorem en_ (g:Po q d) (hn:q.length=n+1):∀ (m f:Nat) (i:Int) (l:List I) (r:Nat→Int),i=(m:Int) - 1→m<f→(m≤l.length - n)→(∀ j,l.getD j I0=E (Z.of (r j)))→(∀ k,l.length≤k→r k=0)→(∀ k,dR (r k)) →
  dH p q f i l = .inr badp ∨ ∃ i' l',dH p q f i l = .inl (i',l')∧l'.length=l.length∧(∀ j,l'.getD j I0=E (Z.of (uF (d n).natAbs (d n).sign d n m r j)))∧(∀ k,l.length≤k→uF (d n).natAbs (d n).sign d n m r k=0)∧∀ k,dR (uF (d n).natAbs (d n).sign d n m r k)
 | m,0,i,l,r,_,hf,_,_,_,_=>absurd hf (Nat.not_lt_zero _)
 | 0,f+1,i,l,r,hi,hf,hm,hl,hz,hB=>by
  unfold dH;rw [decide_eq_false oo_,cond_false];exact .inr ⟨i,l,rfl,rfl,hl,hz,hB⟩
 | m+1,f+1,i,l,r,hi,hf,hm,hl,hz,b1=>by
  unfold dH;rw [decide_eq_true oo_,cond_true]
  have e:E (Z.mul (Z.of (Z.signW (q.getD (q.length - 1) I0).dec).1) (l.getD (i.toNat+(q.length - 1)) I0).dec)=E (Z.of ((d n).sign*r (m+n))):=by
   rw [hn,Nat.add_sub_cancel,g.get,hl,cP,cP,lW (g.B n),show i.toNat=m by omega,pF (gc_ _) (b1 _)]
  have h1:=eo_ (p:=p) g hn (i:=m) l b1 (l.length+1) 0 l oo_ (Nat.zero_le _) O (fun j=>by rw [if_neg (Nat.not_lt_zero _)];exact hl j) (fun j hj=>absurd hj (Nat.not_lt_zero _));simp only;rw [e,show i=(m:Int) by omega];rcases h1 with h1|⟨t,h1,h2,h3,h4⟩
  ·rw [h1];exact .inl O
  rw [h1]
  have k1:∀ j,t.getD j I0=E (Z.of (mM (d n).natAbs (d n).sign d n m r j)):=fun j=>by
   rw [h3 j]
   split
   ·rfl
   rw [hz j oo_,wW g hn hz oo_ oo_]
  have k2:∀ j,dR (mM (d n).natAbs (d n).sign d n m r j):=fun j=>by
   by_cases hj:j<l.length
   ·exact h4 j hj
   rw [wW g hn hz oo_ oo_];exact B0
  rcases en_ g hn m f ((m:Int) - 1) t _ O oo_ oo_ k1 (fun k hk=>wW g hn hz oo_ oo_) k2 with h5|⟨i',l',a1,a2,a3,a4,a5⟩
  ·exact .inl h5
  exact .inr ⟨i',l',a1,a2.trans h2,a3,fun k hk=>a4 k oo_,a5⟩
theorem dW_ (h:Po p c) (g:Po q d) (hn:q.length=n+1):bN p q=badp∨Po (bN p q) (uF (d n).natAbs (d n).sign d n (p.length - n) c):=by
 unfold bN;rw [h.nb,g.nb,show ((q.length:Int)==0)=false from beq_eq_false_iff_ne.2 oo_,Bool.false_or,Bool.false_or,cond_false,List.nil_append,hn];have hl:=h.l
 have go:∀ i:Int,i=(p.length:Int) - 1 - (((n+1:Nat):Int) - 1)→dH p q (p.length+1) i p = .inr badp ∨ ∃ i' l',dH p q (p.length+1) i p = .inl (i',l')∧l'.length=p.length∧(∀ j,l'.getD j I0=E (Z.of (uF (d n).natAbs (d n).sign d n (p.length - n) c j)))∧(∀ k,p.length≤k→uF (d n).natAbs (d n).sign d n (p.length - n) c k=0)∧∀ k,dR (uF (d n).natAbs (d n).sign d n (p.length - n) c k):=fun i hi=>by
  by_cases hs:n≤p.length
  ·exact en_ g hn (p.length - n) (p.length+1) i p c oo_ oo_ (Nat.le_refl _) h.get (fun k hk=>h.zero hk) h.B
  have e0:p.length - n=0:=by omega
  rw [e0];unfold dH;rw [decide_eq_false oo_,cond_false];exact .inr ⟨i,p,rfl,rfl,h.get,fun k hk=>h.zero hk,h.B⟩
 rcases go _ O with h0|⟨i',l',a1,a2,a3,a4,a5⟩
 ·rw [h0];exact .inl O
 rw [a1]
 show bQ l'=badp∨Po (bQ l') _
 rw [rD];exact .inr (DA a3 a5 fun k hk=>a4 k oo_)
end
open Go Go.Kn
theorem rE:aC badp=badp:=by kernel_rfl
theorem wM:aY badp=true:=by kernel_rfl
theorem br_:aC []=[]:=by kernel_rfl
theorem D8 (p q a:List I) (k:Nat) (hk:1≤k):dB p q k a badp = .inr badp:=by
 obtain ⟨m,rfl⟩:∃ m,k=m+1:=⟨k - 1,by omega⟩;unfold dB;rw [wM,Bool.or_true,cond_true,DR,show decide (0<(badp.length:Int))=true from by kernel_rfl,cond_true]
theorem Po.ne_nil {p:List I} {c:Nat→Int} (h:Po p c) (h0:p≠[]):¬ ∀ k,c k=0:=fun hz=>h0 (h.nil hz)
theorem ED {p:List I} {c:Nat→Int} (h:Po p c) (h0:p=[]) (k:Nat):c k=0:=h.zero (by rw [h0];exact Nat.zero_le _)
theorem wO {p:List I} {c:Nat→Int} (h:Po p c):∃ (γ:Nat→Int) (t:Int),t≠0∧0<t∧Po (aC p) γ∧(∀ k,c k=t*γ k)∧(aC p≠[]→Cop γ):=by
 by_cases h0:p=[]
 ·subst h0
  rw [br_];exact ⟨c,1,by decide,by decide,h,fun k=>(Int.one_mul _).symm,fun h=>absurd O h⟩
 refine ⟨_,((cN p:Nat):Int),?_,?_,vV h,fun k=>(yL h k).symm,fun _=>JF h h0⟩
 ·have:=h.cpos h0;omega
 have:=h.cpos h0;omega
theorem VJ (p q:List I):∀ (k:Nat) (a b:List I) (α β:Nat→Int) (ha:Po a α) (hb:Po b β),(a≠[]→Cop α)→(b≠[]→Cop β)→gmP b<k →
  dB p q k a b = .inr badp ∨ ∃ (a' b':List I) (γ:Nat→Int) (hc:Po a' γ),dB p q k a b = .inl (a',b')∧(a'≠[]→Cop γ)∧Gd (ZP α ha.ends) (ZP β hb.ends) (ZP γ hc.ends)
 | 0,a,b,α,β,ha,hb,_,_,hk=>absurd hk (Nat.not_lt_zero _)
 | k+1,a,b,α,β,ha,hb,ca,cb,hk=>by
  by_cases h0:b=[]
  ·subst h0
   right
   rw [VL];exact ⟨a,[],α,ha,rfl,ca,OD _ _ fun k=>ED hb O k⟩
  obtain ⟨n,n1,n2,n3⟩:=hb.top h0;unfold dB;have hd:decide (0<(b.length:Int))=true:=decide_eq_true oo_;rw [hd,cond_true,ha.nb,hb.nb,Bool.or_false,cond_false];have hdec:=D7 (a:=a) (b:=b) ⟨ha.l,hb.l⟩ (by rw [ha.nb,hb.nb];rfl) hd;rcases dW_ ha hb n1 with hr|hr
  ·rw [hr,rE]
   rw [hr,rE] at hdec;exact .inl (D8 p q b k oo_)
  obtain ⟨γ,t,t0,_,hγ,e1,e2⟩:=wO hr;rcases VJ p q k b (aC (bN a b)) β γ hb hγ cb e2 oo_ with h1|⟨a',b',δ,hc,r1,r2,r3⟩
  ·exact .inl h1
  refine .inr ⟨a',b',δ,hc,r1,r2,?_⟩;obtain ⟨Q,hQ,hq⟩:=HP (a:=((β n).natAbs:Int)) (o:=(β n).sign) (d:=β) (n:=n) (a.length - n) α;refine OC ha.ends hb.ends hγ.ends hQ (w:=((β n).natAbs:Int) ^ (a.length - n)) (t:=t) (Int.pow_ne_zero oo_) t0 (fun k=>?_) r3;rw [hq k,e1 k]
theorem gw_ {p q:List I} {c d:Nat→Int} (hp:Po p c) (hq:Po q d):aX p q=badp ∨ ∃ (α β g:Nat→Int) (s t:Int) (ha:Po (aC p) α) (hb:Po (aC q) β) (hg:Po (aX p q) g),
  0<s∧0<t∧(∀ k,c k=s*α k)∧(∀ k,d k=t*β k)∧(aC p≠[]→Cop α)∧(aX p q≠[]→Cop g)∧Gd (ZP α ha.ends) (ZP β hb.ends) (ZP g hg.ends)∧∀ m,(∀ i,m<i→g i=0)→0≤g m:=by
 obtain ⟨α,s,_,s0,ha,ea,ca⟩:=wO hp;obtain ⟨β,t,_,t0,hb,eb,cb⟩:=wO hq;unfold aX;rcases VJ p q (gmP (aC q)+1) _ _ α β ha hb ca cb (Nat.lt_succ_self _) with h1|⟨a',b',γ,hc,r1,r2,r3⟩
 ·rw [h1];exact .inl O
 rw [r1];obtain ⟨e,he,hP,hm⟩:=OS hc
 right
 refine ⟨α,β,fun k=>e*γ k,s,t,ha,hb,hP,s0,t0,ea,eb,ca,fun hne=>?_,fun x=>?_,fun m h=>hm m fun i hi=>?_⟩
 ·have h0:a'≠[]:=fun h=>hne (by subst h;rfl)
  intro u hu;refine r2 h0 u fun k=>?_;have h1:u ∣ e*γ k:=hu k;rcases he with rfl|rfl
  ·rwa [Int.one_mul] at h1
  rw [Int.neg_one_mul] at h1;exact Int.dvd_neg.1 h1
 ·rw [r3 x]
  have hz:ZP (fun k=>e*γ k) hP.ends=QP.C (e:Rat)*ZP γ hc.ends:=QP.ex fun k=>by rw [QP.C_mul,nI,nI,Rat.intCast_mul]
  have he0:(e:Rat)≠0:=by rcases he with rfl|rfl<;>decide
  rw [hz];exact ⟨fun h=>h.mul_l _,fun h=>QP.Dv.scale he0 h⟩
 have h1:e*γ i=0:=h i hi;rcases he with rfl|rfl
 ·omega
 omega
theorem gt_ {u v:Int} (h:dR (u*v)) (hu:0<u):dR v:=by
 unfold dR at *;rw [Int.natAbs_mul] at h;have:=Nat.le_mul_of_pos_left v.natAbs (show 0<u.natAbs by omega);omega
section
variable {P:List I} {g F:Nat→Int} {n m:Nat}
theorem QW (hG:Po (aX P (aE P)) g) (hn:(aX P (aE P)).length=n+1) (hg0:0<g n) :
  ∀ (k fu:Nat) (i:Int) (r f:List I),i=(k:Int) - 1→k<fu→k≤m+1→r.length=n+m+1→f.length=m+1→(∀ j,r.getD j I0=E (Z.of (conv g (cut F k) j)))→(∀ j,dR (conv g (cut F k) j))→(∀ j,k≤j→f.getD j I0=E (Z.of (F j)))→(∀ j,k≤j→dR (F j)) →
  eZ P fu i r f = .inr badp ∨ ∃ i' r' f',eZ P fu i r f = .inl (i',r',f')∧f'.length=m+1∧(∀ j,f'.getD j I0=E (Z.of (F j)))∧∀ j,dR (F j)
 | _,0,_,_,_,_,h,_,_,_,_,_,_,_=>absurd h (Nat.not_lt_zero _)
 | 0,fu+1,i,r,f,hi,hk,hkm,hr,hf,hrv,hrb,hfv,hfb=>by
  unfold eZ;rw [decide_eq_false oo_,cond_false];exact .inr ⟨i,r,f,rfl,hf,fun j=>hfv j (Nat.zero_le _),fun j=>hfb j (Nat.zero_le _)⟩
 | k+1,fu+1,i,r,f,hi,hk,hkm,hr,hf,hrv,hrb,hfv,hfb=>by
  have hi':i=(k:Int):=by omega
  have hgz:∀ j,n<j→g j=0:=fun j hj=>hG.zero oo_
  have htop:conv g (cut F (k+1)) (n+k)=g n*F k:=by
   rw [pL hgz fun i hi=>by unfold cut;rw [if_neg oo_]]
   congr 1
   unfold cut;rw [if_pos oo_]
  have bF:dR (F k):=gt_ (u:=g n) (by rw [← htop];exact hrb _) hg0
  have hq:(E (Z.quo (r.getD (i.toNat+((aX P (aE P)).length - 1)) I0).dec ((aX P (aE P)).getD ((aX P (aE P)).length - 1) I0).dec))=E (Z.of (F k)):=by
   rw [hn,Nat.add_sub_cancel,show i.toNat+n=n+k by omega,hrv,hG.get,cP,cP,FV (hrb _) (hG.B n) hg0 (v:=F k) htop.symm]
  unfold eZ;rw [decide_eq_true oo_,cond_true];simp only;rw [hq]
  have hx:((f.set i.toNat (E (Z.of (F k)))).getD i.toNat I0).dec=Z.of (F k):=by rw [kW _ _ _ oo_,cP]
  have hfr:∀ j,(frE (aX P (aE P)) r k (Z.of (F k)) j).1.bad=true∨(frE (aX P (aE P)) r k (Z.of (F k)) j=E (Z.of (conv g (cut F k) j))∧dR (conv g (cut F k) j)):=fun j=>by
   unfold frE;refine Zx.cases ?_
   have e:conv g (cut F k) j=conv g (cut F (k+1)) j - F k*shf g k j:=by rw [D0];omega
   rw [hrv,NS hG k j,cP,cP,e];exact (Zx.of _).sub ((Zx.of _).mul (.of _))
  rcases HG P i r f (E (Z.of (F k))) (g:=aX P (aE P)) O hi' ((aX P (aE P)).length+1) 0 r oo_ (Nat.zero_le _) O oo_ (fun j _=>rfl) with ⟨t',k',e1,e2,e3,e4⟩|⟨e1,j,j1,j2,j3⟩
  ·rw [e1]
   simp only [sm];rw [hx] at e3 e4
   have hin:∀ j,k+0≤j∧j<k+(aX P (aE P)).length→frE (aX P (aE P)) r k (Z.of (F k)) j=E (Z.of (conv g (cut F k) j))∧dR (conv g (cut F k) j):=fun j hj=>by
    rcases hfr j with h1|h1
    ·rw [e4 j hj.1 hj.2] at h1;cases h1
    exact h1
   have hout:∀ j,¬ (k+0≤j∧j<k+(aX P (aE P)).length)→conv g (cut F (k+1)) j=conv g (cut F k) j:=fun j hj=>by
    rw [D0]
    have:shf g k j=0:=by
     unfold shf
     split
     ·exact hgz _ oo_
     rfl
    rw [this,Int.mul_zero,Int.add_zero]
   refine QW hG hn hg0 k fu (i - 1) t' _ oo_ oo_ oo_ oo_ (by rw [List.length_set];exact hf) (fun j=>?_) (fun j=>?_) (fun j hj=>?_) (fun j hj=>?_)
   ·rw [e3 j]
    by_cases hj:k+0≤j∧j<k+(aX P (aE P)).length
    ·rw [if_pos hj,(hin j hj).1]
    rw [if_neg hj,hrv,hout j hj]
   ·by_cases hj:k+0≤j∧j<k+(aX P (aE P)).length
    ·exact (hin j hj).2
    rw [← hout j hj];exact hrb j
   ·rw [show i.toNat=k by omega]
    by_cases hjk:j=k
    ·subst hjk;exact kW _ _ _ oo_
    rw [oP _ _ _ _ hjk];exact hfv j oo_
   by_cases hjk:j=k
   ·subst hjk;exact bF
   exact hfb j oo_
  rw [e1];exact .inl O
theorem eG_ (hG:Po (aX P (aE P)) g) (hn:(aX P (aE P)).length=n+1) (hg0:0<g n)
  {ρ:Nat→Int} (hR:Po (aC P) ρ) (hρ:∀ k,ρ k=conv g F k) (hF0:F m≠0) (hF:∀ i,m<i→F i=0):bD P=badp ∨ ∃ e:Int,(e=1∨e = -1)∧Po (bD P) (fun k=>e*F k):=by
 have hgz:∀ j,n<j→g j=0:=fun j hj=>hG.zero oo_
 have hRl:(aC P).length=n+m+1:=hR.len_top (by rw [hρ,pL hgz hF];exact Int.mul_ne_zero oo_ hF0) fun i hi=>by rw [hρ];exact oC (n:=n+1) (m:=m+1) (fun j hj=>hgz j hj) (fun j hj=>hF j hj) i oo_
 have hlen:=hR.l;unfold bD;rw [hG.nb,hR.nb,Bool.or_false,cond_false,show (((aC P).length:Int)==0)=false from beq_eq_false_iff_ne.2 oo_,cond_false]
 rcases QW hG hn hg0 (F:=F) (m:=m) (m+1) ((aC P).length+2) (((List.replicate ((aC P).length - ((aX P (aE P)).length - 1)) I0).length:Int) - 1) (aC P) (List.replicate ((aC P).length - ((aX P (aE P)).length - 1)) I0) (by rw [List.length_replicate];omega) oo_ (Nat.le_refl _) hRl (by rw [List.length_replicate];omega) (fun j=>by rw [hR.get,hρ,NW hF]) (fun j=>by rw [NW hF,← hρ];exact hR.B j) (fun j hj=>by
  rw [hF j oo_,← I0_E]
  exact oL (by rw [List.length_replicate];omega)) (fun j hj=>by rw [hF j oo_];exact B0) with e1|⟨i',r',f',e1,e2,e3,bF⟩
 ·rw [e1];exact .inl O
 rw [e1];simp only [sm]
 have hM:Po (bQ f') F:=by rw [rD];exact DA e3 bF fun k hk=>hF k oo_
 obtain ⟨e,h1,h2,_⟩:=OS hM;exact .inr ⟨e,h1,h2⟩
end
theorem PS {p:List I} {c:Nat→Int} (h:Po p c):aE p=badp∨Po (aE p) (dI c):=by
 have hl:=h.l;unfold aE;rw [h.nb,cond_false,pK];have hr:=B8 ((List.range ((p.length:Int) - 1).toNat).map fun y=>gI (lC y p))
 cases hg:(mkP ((List.range ((p.length:Int) - 1).toNat).map fun y=>gI (lC y p))).all gdI
 ·exact .inl (vY hr hg)
 right
 refine UI (fun k hk=>?_) (fun k hk=>?_) oo_ hg
 ·show Ix (E (Z.mul (Z.of (((k+1):Nat):Int)) (p.getD (k+1) I0).dec)) (dI c k)
  rw [h.get,cP];exact NI ((Zx.of _).mul (.of _))
 unfold dI;rw [h.zero (show p.length≤k+1 by omega),Int.mul_zero]
open Go Go.Kn
open QP (Dv Dg Irr)
structure Rad (p f:QP):Prop where
 ne:f≠QP.C 0
 up:∃ n,Dv p (QP.pow f n)
 dv:Dv f p
 sq:∀ h,Irr h→¬ Dv (h*h) f
theorem MC {p:List I} (h:aX p (aE p)=badp):bD p=badp:=by
 unfold bD;rw [h,wM,Bool.true_or,cond_true,DR]
theorem aI_ {p:List I} (hp:p.length≤25) (h:aE p=badp):aX p (aE p)=badp:=by
 unfold aX;rw [h,rE,D8 p badp _ _ oo_];rfl
theorem Dv.cmul {a b:QP} {s t:Rat} (hs:s≠0) (ht:t≠0) (h:QP.C s*a=QP.C t*b) (x:QP):Dv x a ↔ Dv x b :=
 ⟨fun k=>QP.Dv.scale ht (by rw [← h];exact k.mul_l _),fun k=>QP.Dv.scale hs (by rw [h];exact k.mul_l _)⟩
theorem eH_ {p:List I} {c:Nat→Int} (h:Po p c) (h0:p≠[]):bD p=badp ∨ ∃ F:Nat→Int,∃ hF:Po (bD p) F,Rad (ZP c h.ends) (ZP F hF.ends):=by
 rcases PS h with hd|hd
 ·exact .inl (MC (aI_ h.l hd))
 rcases gw_ h hd with hg|⟨α,β,g,s,t,ha,hb,hg,s0,t0,ea,eb,ca,cg,hG,hm⟩
 ·exact .inl (MC hg)
 have hc0:=h.ne_nil h0
 have hα0:¬ ∀ k,α k=0:=fun hz=>hc0 fun k=>by rw [ea k,hz k,Int.mul_zero]
 have hpr:aC p≠[]:=fun e=>hα0 fun k=>ED ha e k;have hα:Cop α:=ca hpr;obtain ⟨d1,d2⟩:=(hG (ZP g hg.ends)).2 (.refl _);have hα1:=XD ha.ends hα0
 have hg0:¬ ∀ k,g k=0:=fun hz=>hα1 (by
  have e0:ZP g hg.ends=QP.C 0:=QP.ex fun k=>by rw [nI,hz k,QP.C0_c];rfl
  rw [e0] at d1
  exact d1.of_zero)
 have hgn:aX p (aE p)≠[]:=fun e=>hg0 fun k=>ED hg e k;have hgc:=cg hgn;obtain ⟨n,n1,n2,n3⟩:=hg.top hgn;obtain ⟨F,eF,hF⟩:=C4 hgc hg.ends ha.ends d1;have hFc:Cop F:=FG (s:=g) (by rw [← show α=conv g F from funext hF];exact hα);obtain ⟨m,m1,m2⟩:=(KG eF).resolve_left (FF hFc)
 have hgp:0<g n:=by have:=hm n n3;omega
 rcases eG_ hg n1 hgp ha hF m1 m2 with hf|⟨e,he,hP⟩
 ·exact .inl hf
 right
 have sq:(s:Rat)≠0:=fun e=>by have:=Rat.intCast_eq_zero_iff.1 e;omega
 have tq:(t:Rat)≠0:=fun e=>by have:=Rat.intCast_eq_zero_iff.1 e;omega
 have E1:ZP c h.ends=QP.C (s:Rat)*ZP α ha.ends:=QP.ex fun k=>by rw [QP.C_mul,nI,nI,ea k,Rat.intCast_mul]
 have E2:QP.C (s:Rat)*QP.D (ZP α ha.ends)=QP.C (t:Rat)*ZP β hb.ends:=QP.ex fun k=>by
  rw [QP.C_mul,QP.C_mul,QP.D_c,nI,nI,← Rat.intCast_mul t,← eb k];unfold dI;rw [ea (k+1),Rat.intCast_mul,Rat.intCast_mul]
  show _=((k+1:Nat):Rat)*_
  grind
 have hDv:=Dv.cmul sq tq E2
 have key:∀ x,Irr x→(Dv x (ZP α ha.ends)→Dv x (ZP F eF))∧¬ Dv (x*x) (ZP F eF):=fun x hx=>by
  refine QP.sqf_part (G:=ZP g hg.ends) hα1 ?_ ((hDv _).2 d2) (fun d h1 h2=>(hG d).1 ⟨h1,(hDv d).1 h2⟩) hx;rw [← tG hg.ends eF];exact PZ _ _ hF
 have hF1:=XD eF (FF hFc)
 have he0:(e:Rat)≠0:=by rcases he with rfl|rfl<;>decide
 have EF:ZP (fun k=>e*F k) hP.ends=QP.C (e:Rat)*ZP F eF:=QP.ex fun k=>by rw [QP.C_mul,nI,nI,Rat.intCast_mul]
 have toF:∀ x,Dv x (ZP (fun k=>e*F k) hP.ends) ↔ Dv x (ZP F eF):=fun x=>by
  rw [EF];exact ⟨fun k=>QP.Dv.scale he0 k,fun k=>k.mul_l _⟩
 refine ⟨_,hP,⟨fun e0=>?_,?_,?_,fun x hx k=>(key x hx).2 ((toF _).1 k)⟩⟩
 ·rw [EF] at e0
  exact QP.mul_ne (QP.C_dg he0).ne hF1 e0
 ·obtain ⟨N,hN⟩:=QP.ex_dg hα1
  refine ⟨N,?_⟩;have h1:Dv (ZP α ha.ends) (QP.pow (ZP (fun k=>e*F k) hP.ends) N):=QP.dvd_pow (fun x hx k=>(toF x).2 ((key x hx).1 k)) N _ hN (.refl _);rw [E1];exact (QP.C_dv sq _).trans h1
 rw [E1];have h1:Dv (ZP F eF) (ZP α ha.ends):=⟨ZP g hg.ends,by rw [QP.mul_comm',← tG hg.ends eF];exact PZ _ _ hF⟩;refine QP.Dv.mul_l (QP.Dv.trans ?_ h1) _;rw [EF];exact QP.C_dv he0 _
def Ab (x B:Rat):Prop:=-B≤x∧x≤B
theorem Ab.nn {x B:Rat} (h:Ab x B):0≤B:=by unfold Ab at h;grind
theorem Ab.le {x A B:Rat} (h:Ab x A) (hl:A≤B):Ab x B:=by unfold Ab at *;grind
theorem Ab.add {x y A B:Rat} (h:Ab x A) (g:Ab y B):Ab (x+y) (A+B):=by unfold Ab at *;grind
theorem Ab.sub {x y A B:Rat} (h:Ab x A) (g:Ab y B):Ab (x - y) (A+B):=by unfold Ab at *;grind
theorem Ab.neg {x A:Rat} (h:Ab x A):Ab (-x) A:=by unfold Ab at *;grind
theorem Ab.mul {x y A B:Rat} (h:Ab x A) (g:Ab y B):Ab (x*y) (A*B):=by
 unfold Ab at *
 have h1:0≤A - x:=by grind
 have h2:0≤A+x:=by grind
 have h3:0≤B - y:=by grind
 have h4:0≤B+y:=by grind
 have p1:=Rat.mul_nonneg h1 h4;have p2:=Rat.mul_nonneg h2 h3;have p3:=Rat.mul_nonneg h1 h3;have p4:=Rat.mul_nonneg h2 h4
 constructor<;>grind
theorem Ab.self (x:Rat):∃ B,0≤B∧Ab x B:=by
 rcases Rat.le_total (a:=0) (b:=x) with h|h
 ·exact ⟨x,h,by unfold Ab;grind⟩
 exact ⟨-x,by grind,by unfold Ab;grind⟩
theorem Ab.pos {x:Rat} (h:0≤x):Ab x x:=by unfold Ab;grind
theorem JT {A B:Rat} (hA:0<A) (hB:0<B):∃ e,0<e∧e≤A∧e≤B:=by
 rcases Rat.le_total (a:=A) (b:=B) with h|h
 ·exact ⟨A,hA,Rat.le_refl,h⟩
 exact ⟨B,hB,h,Rat.le_refl⟩
theorem rI {K A:Rat} (hK:0≤K) (hA:0<A):∃ e,0<e∧K*e≤A:=by
 have h1:(0:Rat)<K+1:=by grind
 have hi:0<(K+1)⁻¹:=Rat.inv_pos.2 h1;refine ⟨A*(K+1)⁻¹,Rat.mul_pos hA hi,?_⟩;have e:(K+1)*(K+1)⁻¹=1:=Rat.mul_inv_cancel _ (by grind);have p:=Rat.mul_nonneg (Rat.le_of_lt hA) (Rat.le_of_lt hi)
 have:K*(A*(K+1)⁻¹)=A*((K+1)*(K+1)⁻¹) - A*(K+1)⁻¹:=by grind
 rw [this,e];grind
theorem HL {a b c d:Rat} (h:a≤b) (g:c≤d) (ha:0≤a) (hd:0≤d):a*c≤b*d :=
 Rat.le_trans (Rat.mul_le_mul_of_nonneg_left g ha) (Rat.mul_le_mul_of_nonneg_right h hd)
namespace QP
noncomputable def ev (a:QP) (x:Rat):Rat:=vl a.c x (Classical.choose a.fs)
theorem ev_vl {a:QP} {n:Nat} (h:∀ i,n≤i→a.c i=0) (x:Rat):a.ev x=vl a.c x n:=by
 have g:=Classical.choose_spec a.fs;unfold ev;rcases Nat.le_total n (Classical.choose a.fs) with k|k
 ·exact CF h k
 exact (CF g k).symm
theorem ev_add (a b:QP) (x:Rat):(a+b).ev x=a.ev x+b.ev x:=by
 obtain ⟨n,h⟩:=a.fs;obtain ⟨m,g⟩:=b.fs;rw [ev_vl (a:=a+b) (n:=max n m) (fun i hi=>by rw [add_c,h i (by omega),g i (by omega),Rat.add_zero]),ev_vl (a:=a) (n:=max n m) (fun i hi=>h i (by omega)),ev_vl (a:=b) (n:=max n m) (fun i hi=>g i (by omega))];exact cf_ a.c b.c x _
theorem ev_mul (a b:QP) (x:Rat):(a*b).ev x=a.ev x*b.ev x:=by
 obtain ⟨n,h⟩:=a.fs;obtain ⟨m,g⟩:=b.fs;rw [ev_vl (a:=a*b) (n:=n+m) (fun i hi=>oC h g i (by omega)),ev_vl h,ev_vl g];exact XB h g (Nat.le_refl _)
theorem ev_C (t x:Rat):(C t).ev x=t:=by
 rw [ev_vl (n:=1) (fun i hi=>by rw [C_c,if_neg (by omega)])];unfold vl;simp only [jA];rw [C_c,if_pos O,Rat.pow_zero,Rat.mul_one,Rat.zero_add]
def X:QP:=M 1 1
theorem cu_ (s:QP) (k:Nat):(X*s).c k=if 1≤k then s.c (k - 1) else 0:=by unfold X;rw [PU];split<;>simp [Rat.one_mul]
theorem gT_ (x:Rat):X.ev x=x:=by
 rw [ev_vl (n:=2) (fun i hi=>by show (if i=1 then (1:Rat) else 0)=0;rw [if_neg (by omega)])];unfold vl;simp only [jA]
 show (0:Rat)+(if 0=1 then (1:Rat) else 0)*x ^ 0+(if 1=1 then (1:Rat) else 0)*x ^ 1=x
 rw [if_neg (by omega),if_pos O,Rat.pow_succ,Rat.pow_zero];grind
theorem ind {P:QP→Prop} (h0:P (C 0)) (h1:∀ t s,P s→P (C t+X*s)) (a:QP):P a:=by
 obtain ⟨n,h⟩:=a.fs
 induction n generalizing a with
 | zero=>rw [show a=C 0 from ex fun k=>by rw [h k (Nat.zero_le _),C0_c]];exact h0
 | succ n ih =>
  have e:a=C (a.c 0)+X*⟨fun k=>a.c (k+1),⟨n,fun i hi=>h _ (by omega)⟩⟩:=ex fun k=>by
   rw [add_c,cu_,C_c];rcases Nat.eq_zero_or_pos k with hk|hk
   ·subst hk;rw [if_pos O,if_neg (by omega),Rat.add_zero]
   rw [if_neg (by omega),if_pos (show 1≤k from hk),Rat.zero_add]
   show _=a.c (k - 1+1)
   rw [show k - 1+1=k by omega]
  rw [e];exact h1 _ _ (ih _ fun i hi=>h _ (by omega))
theorem QN (t:Rat) (s:QP) (x:Rat):(C t+X*s).ev x=t+x*s.ev x:=by rw [ev_add,ev_mul,ev_C,gT_]
theorem gv_ (a b:QP):D (a+b)=D a+D b:=ex fun k=>by rw [D_c,add_c,add_c,D_c,D_c,Rat.mul_add]
theorem D_C (t:Rat):D (C t)=C 0:=ex fun k=>by rw [D_c,C_c,if_neg (by omega),Rat.mul_zero,C0_c]
theorem D_X:D X=C 1:=ex fun k=>by
 rw [D_c,C_c]
 show ((k+1:Nat):Rat)*(if k+1=1 then (1:Rat) else 0)=_
 rcases Nat.eq_zero_or_pos k with hk|hk
 ·subst hk;rw [if_pos O,if_pos O,Rat.mul_one];rfl
 rw [if_neg (by omega),if_neg (by omega),Rat.mul_zero]
theorem h7_ (t:Rat) (s:QP) (x:Rat):(D (C t+X*s)).ev x=s.ev x+x*(D s).ev x:=by
 rw [gv_,D_C,CG,PR,D_X,rT,ev_add,ev_mul,gT_]
theorem bd (M:Rat) (a:QP):∃ B,0≤B∧∀ x,Ab x M→Ab (a.ev x) B:=by
 refine ind (P:=fun a=>∃ B,0≤B∧∀ x,Ab x M→Ab (a.ev x) B) ⟨0,Rat.le_refl,fun x _=>by rw [ev_C];unfold Ab;grind⟩ (fun t s ⟨B,hB,h⟩=>?_) a;obtain ⟨T,hT,ht⟩:=Ab.self t
 by_cases hM:0≤M
 ·refine ⟨T+M*B,Rat.add_nonneg hT (Rat.mul_nonneg hM hB),fun x hx=>?_⟩
  rw [QN];exact ht.add (hx.mul (h x hx))
 exact ⟨0,Rat.le_refl,fun x hx=>absurd hx.nn hM⟩
theorem lip (M:Rat) (a:QP):∃ K,0≤K∧∀ x y,Ab x M→Ab y M→x≤y→Ab (a.ev y - a.ev x) (K*(y - x)):=by
 refine ind (P:=fun a=>∃ K,0≤K∧∀ x y,Ab x M→Ab y M→x≤y→Ab (a.ev y - a.ev x) (K*(y - x))) ⟨0,Rat.le_refl,fun x y _ _ _=>by rw [ev_C,ev_C];unfold Ab;grind⟩ (fun t s ⟨K,hK,h⟩=>?_) a;obtain ⟨B,hB,hb⟩:=bd M s
 by_cases hM:0≤M
 ·refine ⟨M*K+B,Rat.add_nonneg (Rat.mul_nonneg hM hK) hB,fun x y hx hy hl=>?_⟩
  rw [QN,QN]
  have e:t+y*s.ev y - (t+x*s.ev x)=x*(s.ev y - s.ev x)+s.ev y*(y - x):=by grind
  have hd:Ab (y - x) (y - x):=Ab.pos (by grind);rw [e,show (M*K+B)*(y - x)=M*(K*(y - x))+B*(y - x) by grind];exact (hx.mul (h x y hx hy hl)).add ((hb y hy).mul hd)
 exact ⟨0,Rat.le_refl,fun x y hx=>absurd hx.nn hM⟩
theorem tay (M:Rat) (a:QP):∃ K,0≤K∧∀ x y,Ab x M→Ab y M→x≤y→Ab (a.ev y - a.ev x - (y - x)*(D a).ev x) (K*((y - x)*(y - x))):=by
 refine ind (P:=fun a=>∃ K,0≤K∧∀ x y,Ab x M→Ab y M→x≤y→Ab (a.ev y - a.ev x - (y - x)*(D a).ev x) (K*((y - x)*(y - x)))) ⟨0,Rat.le_refl,fun x y _ _ _=>by rw [ev_C,ev_C,D_C,ev_C];unfold Ab;grind⟩ (fun t s ⟨K,hK,h⟩=>?_) a;obtain ⟨B,hB,hb⟩:=lip M s
 by_cases hM:0≤M
 ·refine ⟨M*K+B,Rat.add_nonneg (Rat.mul_nonneg hM hK) hB,fun x y hx hy hl=>?_⟩
  rw [QN,QN,h7_]
  have e:t+y*s.ev y - (t+x*s.ev x) - (y - x)*(s.ev x+x*(D s).ev x)=x*(s.ev y - s.ev x - (y - x)*(D s).ev x)+(s.ev y - s.ev x)*(y - x):=by grind
  have hd:Ab (y - x) (y - x):=Ab.pos (by grind);rw [e,show (M*K+B)*((y - x)*(y - x))=M*(K*((y - x)*(y - x)))+B*(y - x)*(y - x) by grind];exact (hx.mul (h x y hx hy hl)).add ((hb x y hx hy hl).mul hd)
 exact ⟨0,Rat.le_refl,fun x y hx=>absurd hx.nn hM⟩
def Rb (c d:Rat) (f:QP):Prop:=∃ η,0<η∧((∀ x,c≤x→x≤d→η≤f.ev x) ∨ ∀ x,c≤x→x≤d→f.ev x ≤ -η)
theorem IR {M c d x:Rat} (hc:Ab c M) (hd:Ab d M) (h1:c≤x) (h2:x≤d):Ab x M:=by unfold Ab at *;grind
theorem de_ (M:Rat) (f:QP) {ε:Rat} (hε:0<ε):∃ δ,0<δ∧∀ c d,Ab c M→Ab d M→c≤d→d - c≤δ→Rb c d f ∨ ∀ x,c≤x→x≤d→Ab (f.ev x) ε:=by
 obtain ⟨K,hK,hk⟩:=lip M f;obtain ⟨δ,hδ,h1⟩:=rI hK (A:=ε*(1 / 4)) (by grind);refine ⟨δ,hδ,fun c d hc hd hl hs=>?_⟩
 have hch:∀ x,c≤x→x≤d→Ab (f.ev x - f.ev c) (ε*(1 / 4)):=fun x h2 h3=>by
  refine (hk c x hc (IR hc hd h2 h3) h2).le (Rat.le_trans (Rat.mul_le_mul_of_nonneg_left (b:=δ) (by grind) hK) h1)
 by_cases a1:ε*(1 / 2)<f.ev c
 ·exact .inl ⟨ε*(1 / 4),by grind,.inl fun x h2 h3=>by have:=hch x h2 h3;unfold Ab at this;grind⟩
 by_cases a2:f.ev c < -(ε*(1 / 2))
 ·exact .inl ⟨ε*(1 / 4),by grind,.inr fun x h2 h3=>by have:=hch x h2 h3;unfold Ab at this;grind⟩
 exact .inr fun x h2 h3=>by have:=hch x h2 h3;unfold Ab at *;grind
inductive Chain:List QP→Prop
 | one (f:QP) (t:Rat) (h:t≠0):Chain [f,C t]
 | step (e f g q:QP) (l:List QP) (s t:Rat) (hs:0<s) (ht:0<t) (h:∀ x,s*e.ev x+t*g.ev x=q.ev x*f.ev x) (hc:Chain (f::g::l)):Chain (e::f::g::l)
theorem Chain.bez {L:List QP} (h:Chain L):∀ f g l,L=f::g::l→∃ u v:QP,∀ x,u.ev x*f.ev x+v.ev x*g.ev x=1:=by
 induction h with
 | one f t ht =>
  intro f' g' l' e
  injection e with e1 e2
  injection e2 with e2 e3
  subst e1 e2;refine ⟨C 0,C t⁻¹,fun x=>?_⟩;rw [ev_C,ev_C,ev_C,Rat.zero_mul,Rat.zero_add,Rat.inv_mul_cancel _ ht]
 | step e f g q l s t hs ht h hc ih =>
  intro f' g' l' e
  injection e with e1 e2
  injection e2 with e2 e3
  subst e1 e2;obtain ⟨u,v,huv⟩:=ih _ _ _ O;refine ⟨C (-(s*t⁻¹))*v,u+C t⁻¹*(v*q),fun x=>?_⟩;rw [ev_mul,ev_C,ev_add,ev_mul,ev_C,ev_mul];have h1:=h x;have h2:=huv x;have h3:t*t⁻¹=1:=Rat.mul_inv_cancel _ (by grind)
  grind
inductive G (c d:Rat):List QP→Prop
 | one {f:QP} (h:Rb c d f):G c d [f]
 | rob {f g:QP} {l:List QP} (h:Rb c d f) (hg:G c d (g::l)):G c d (f::g::l)
 | skip {f g h:QP} {l:List QP} (hf:(∀ x,c≤x→x≤d→0<f.ev x∧h.ev x<0) ∨ ∀ x,c≤x→x≤d→f.ev x<0∧0<h.ev x) (hr:Rb c d f) (hg:G c d (h::l)):G c d (f::g::h::l)
theorem G.head {c d:Rat} {f:QP} {l:List QP} (h:G c d (f::l)):Rb c d f:=by cases h<;>assumption
theorem low (M:Rat) {f g u v:QP} (h:∀ x,u.ev x*f.ev x+v.ev x*g.ev x=1):∃ ε η,0<ε∧0<η∧∀ x,Ab x M→Ab (f.ev x) ε→η≤g.ev x∨g.ev x ≤ -η:=by
 obtain ⟨U,hU,hu⟩:=bd M u;obtain ⟨V,hV,hv⟩:=bd M v;obtain ⟨ε,hε,h1⟩:=rI hU (A:=1 / 2) (by grind);obtain ⟨η,hη,h2⟩:=rI hV (A:=1 / 4) (by grind);refine ⟨ε,η,hε,hη,fun x hx hf=>?_⟩
 by_cases a:η≤g.ev x
 ·exact .inl a
 by_cases b:g.ev x ≤ -η
 ·exact .inr b
 exfalso
 have k1:=((hu x hx).mul hf).le h1;have k2:=((hv x hx).mul (show Ab (g.ev x) η by unfold Ab;grind)).le h2;have:=h x;unfold Ab at k1 k2
 grind
theorem am_ {s a b:Rat} (hs:0<s) (h:s*a≤b):a≤s⁻¹*b:=by
 have h1:=Rat.mul_le_mul_of_nonneg_left h (Rat.le_of_lt (Rat.inv_pos.2 hs));have h2:s*s⁻¹=1:=Rat.mul_inv_cancel _ (by grind)
 have:s⁻¹*(s*a)=a:=by rw [← Rat.mul_assoc,Rat.mul_comm s⁻¹,h2,Rat.one_mul]
 grind
theorem loc (M:Rat) {L:List QP} (hL:Chain L):∀ f g l,L=f::g::l→∀ ε,0<ε→∃ δ,0<δ∧∀ c d,Ab c M→Ab d M→c≤d→d - c≤δ→G c d (f::g::l)∨((∀ x,c≤x→x≤d→Ab (f.ev x) ε)∧G c d (g::l)):=by
 induction hL with
 | one f t ht =>
  intro f' g' l' e ε hε
  injection e with e1 e2
  injection e2 with e2 e3
  subst e1 e2 e3;obtain ⟨δ,hδ,h⟩:=de_ M f hε;refine ⟨δ,hδ,fun c d hc hd hl hs=>?_⟩
  have hr:Rb c d (C t):=by
   rcases Rat.le_total (a:=0) (b:=t) with h0|h0
   ·exact ⟨t,by grind,.inl fun x _ _=>by rw [ev_C];grind⟩
   exact ⟨-t,by grind,.inr fun x _ _=>by rw [ev_C];grind⟩
  rcases h c d hc hd hl hs with h1|h1
  ·exact .inl (.rob h1 (.one hr))
  exact .inr ⟨h1,.one hr⟩
 | step e f g q l s t hs ht h hc ih =>
  intro e' f' l' eq ε hε
  injection eq with e1 e2
  injection e2 with e2 e3
  subst e1 e2 e3;obtain ⟨u,v,huv⟩:=hc.bez _ _ _ O;obtain ⟨ε0,η,hε0,hη,hlow⟩:=low M huv;obtain ⟨Q,hQ,hq⟩:=bd M q;have htη:=Rat.mul_pos ht hη;obtain ⟨ε1,hε1,h1⟩:=rI hQ (A:=t*η*(1 / 2)) (by grind);obtain ⟨ε2,hε2,l0,l1⟩:=JT hε0 hε1;obtain ⟨δ1,hδ1,d1⟩:=ih f g l O ε2 hε2;obtain ⟨δ2,hδ2,d2⟩:=de_ M e hε;obtain ⟨δ,hδ,m1,m2⟩:=JT hδ1 hδ2;refine ⟨δ,hδ,fun c d hc hd hl hsd=>?_⟩;rcases d1 c d hc hd hl (by grind) with g1|⟨g1,g2⟩
  ·rcases d2 c d hc hd hl (by grind) with k|k
   ·exact .inl (.rob k g1)
   exact .inr ⟨k,g1⟩
  left
  obtain ⟨η',hη',hg⟩:=g2.head;have key:∀ x,c≤x→x≤d→Ab (q.ev x*f.ev x) (t*η*(1 / 2)):=fun x a b =>
   ((hq x (IR hc hd a b)).mul ((g1 x a b).le l1)).le h1
  have hp:0<s⁻¹*(t*η*(1 / 2)):=Rat.mul_pos (Rat.inv_pos.2 hs) (by grind);have hlo:∀ x,c≤x→x≤d→η≤g.ev x∨g.ev x ≤ -η:=fun x a b=>hlow x (IR hc hd a b) ((g1 x a b).le l0);rcases hg with hg|hg
  ·have hge:∀ x,c≤x→x≤d→e.ev x ≤ -(s⁻¹*(t*η*(1 / 2))):=fun x a b=>by
    have h3:η≤g.ev x:=by have:=hlo x a b;have:=hg x a b;grind
    have h4:=Rat.mul_le_mul_of_nonneg_left h3 (Rat.le_of_lt ht);have h5:=key x a b;have h6:=h x;unfold Ab at h5;have h7:=am_ hs (show s*e.ev x ≤ -(t*η*(1 / 2)) by grind)
    grind
   exact .skip (.inr fun x a b=>⟨by have:=hge x a b;grind,by have:=hg x a b;grind⟩) ⟨_,hp,.inr hge⟩ g2
  have hge:∀ x,c≤x→x≤d→s⁻¹*(t*η*(1 / 2))≤e.ev x:=fun x a b=>by
   have h3:g.ev x ≤ -η:=by have:=hlo x a b;have:=hg x a b;grind
   have h4:=Rat.mul_le_mul_of_nonneg_left h3 (Rat.le_of_lt ht);have h5:=key x a b;have h6:=h x;unfold Ab at h5;have h7:=am_ hs (a:=-e.ev x) (show s * -e.ev x ≤ -(t*η*(1 / 2)) by grind)
   grind
  exact .skip (.inl fun x a b=>⟨by have:=hge x a b;grind,by have:=hg x a b;grind⟩) ⟨_,hp,.inl hge⟩ g2
def sg (x:Rat):Int:=if 0<x then 1 else if x<0 then -1 else 0
theorem JQ {x:Rat} (h:0<x):sg x=1:=if_pos h
theorem JP {x:Rat} (h:x<0):sg x = -1:=by unfold sg;rw [if_neg (by grind),if_pos h]
theorem sg_zero:sg 0=0:=by unfold sg;rw [if_neg (by grind),if_neg (by grind)]
theorem sg_three (x:Rat):sg x=1∧0<x∨sg x = -1∧x<0∨sg x=0∧x=0:=by
 by_cases a:0<x
 ·exact .inl ⟨JQ a,a⟩
 by_cases b:x<0
 ·exact .inr (.inl ⟨JP b,b⟩)
 have:x=0:=by grind
 subst this;exact .inr (.inr ⟨sg_zero,rfl⟩)
def vr:Int→List Int→Nat
 | _,[]=>0
 | s,x::l=>if x=0 then vr s l else (if s≠0∧x≠s then 1 else 0)+vr x l
noncomputable def sgs (l:List QP) (x:Rat):List Int:=l.map fun f=>sg (f.ev x)
theorem Rb.sg {c d:Rat} {f:QP} (h:Rb c d f):∃ σ:Int,(σ=1∨σ = -1)∧∀ x,c≤x→x≤d→sg (f.ev x)=σ:=by
 obtain ⟨η,hη,h|h⟩:=h
 ·exact ⟨1,.inl O,fun x a b=>JQ (by have:=h x a b;grind)⟩
 exact ⟨-1,.inr O,fun x a b=>JP (by have:=h x a b;grind)⟩
theorem ew_ {σ γ:Int} (hσ:σ=1∨σ = -1) (hγ:γ=1∨γ = -1∨γ=0) (s:Int) (t:List Int):vr s (σ::γ :: -σ::t)=(if s≠0∧σ≠s then 1 else 0)+vr σ (-σ::t):=by
 rcases hσ with rfl|rfl<;>rcases hγ with rfl|rfl|rfl<;>simp [vr]
theorem bQ_ (x:Rat):sg x=1∨sg x = -1∨sg x=0:=by rcases sg_three x with h|h|h<;>simp [h.1]
theorem G.vr {c d:Rat} {L:List QP} (h:G c d L):∀ x y,c≤x→x≤d→c≤y→y≤d→∀ s,vr s (sgs L x)=vr s (sgs L y):=by
 induction h with
 | @one f h =>
  intro x y a b a' b' s;obtain ⟨σ,_,hs⟩:=h.sg;unfold sgs;rw [List.map_cons,List.map_cons,hs x a b,hs y a' b'];rfl
 | @rob f g l h hg ih =>
  intro x y a b a' b' s;obtain ⟨σ,h0,hs⟩:=h.sg;have e:∀ z,sgs (f::g::l) z=QP.sg (f.ev z)::sgs (g::l) z:=fun z=>rfl;rw [e,e,hs x a b,hs y a' b',QP.vr,QP.vr,ih x y a b a' b' s,ih x y a b a' b' σ]
 | @skip f g h l hf hr hg ih =>
  intro x y a b a' b' s;obtain ⟨σ,h0,hs⟩:=hr.sg;have e:∀ z,sgs (f::g::h::l) z=QP.sg (f.ev z)::QP.sg (g.ev z)::QP.sg (h.ev z)::sgs l z:=fun z=>rfl;have e':∀ z,sgs (h::l) z=QP.sg (h.ev z)::sgs l z:=fun z=>rfl
  have hm:∀ z,c≤z→z≤d→QP.sg (h.ev z) = -σ:=fun z p q=>by
   have h1:=hs z p q;rcases hf with hf|hf
   ·rw [JQ (hf z p q).1] at h1
    rw [JP (hf z p q).2,← h1]
   rw [JP (hf z p q).1] at h1;rw [JQ (hf z p q).2,← h1];rfl
  have i:=ih x y a b a' b' σ;rw [e',e',hm x a b,hm y a' b'] at i;rw [e,e,hs x a b,hs y a' b',hm x a b,hm y a' b',ew_ h0 (bQ_ _),ew_ h0 (bQ_ _),i]
noncomputable def V (L:List QP) (x:Rat):Nat:=vr 0 (sgs L x)
def Loc (f:QP) (L:List QP) (c d:Rat):Prop :=
 (Rb c d f∧V L c=V L d)∨(∃ W,(∀ x y,c≤x→x<y→y≤d→f.ev x<f.ev y)∧∀ x,c≤x→x≤d→V L x=(if f.ev x<0 then 1 else 0)+W) ∨
  ∃ W,(∀ x y,c≤x→x<y→y≤d→f.ev y<f.ev x)∧∀ x,c≤x→x≤d→V L x=(if 0<f.ev x then 1 else 0)+W
theorem c5_ {f g:QP} {l:List QP} (hc:Chain (f::g::l)) {κ:Rat} (hκ:0<κ) (hD:∀ x,g.ev x=κ*(D f).ev x) (M:Rat) :
  ∃ δ,0<δ∧∀ c d,Ab c M→Ab d M→c≤d→d - c≤δ→Loc f (f::g::l) c d:=by
 obtain ⟨u,v,huv⟩:=hc.bez _ _ _ O;obtain ⟨ε,η,hε,hη,hlow⟩:=low M huv;obtain ⟨δ1,hδ1,d1⟩:=loc M hc _ _ _ O ε hε;obtain ⟨K,hK,hk⟩:=tay M f;have hi:0<κ⁻¹:=Rat.inv_pos.2 hκ;have hiη:=Rat.mul_pos hi hη;obtain ⟨δ2,hδ2,d2⟩:=rI hK (A:=κ⁻¹*η*(1 / 2)) (by grind);obtain ⟨δ,hδ,m1,m2⟩:=JT hδ1 hδ2;refine ⟨δ,hδ,fun c d hc hd hl hs=>?_⟩;have hvx:∀ x,V (f::g::l) x=vr 0 (sg (f.ev x)::sgs (g::l) x):=fun x=>rfl;rcases d1 c d hc hd hl (by grind) with g1|⟨g1,g2⟩
 ·exact .inl ⟨g1.head,g1.vr c d Rat.le_refl hl hl Rat.le_refl 0⟩
 right
 have hlo:∀ x,c≤x→x≤d→η≤g.ev x∨g.ev x ≤ -η:=fun x a b=>hlow x (IR hc hd a b) (g1 x a b)
 have hst:∀ x y,c≤x→x<y→y≤d→Ab (f.ev y - f.ev x - (y - x)*(D f).ev x) ((y - x)*(κ⁻¹*η*(1 / 2))):=fun x y a b e=>by
  refine (hk x y (IR hc hd a (by grind)) (IR hc hd (by grind) e) (by grind)).le ?_;have h1:K*(y - x)≤κ⁻¹*η*(1 / 2):=Rat.le_trans (Rat.mul_le_mul_of_nonneg_left (b:=δ2) (by grind) hK) d2;have h2:=Rat.mul_le_mul_of_nonneg_left h1 (show (0:Rat)≤y - x by grind)
  grind
 have hκκ:κ*κ⁻¹=1:=Rat.mul_inv_cancel _ (by grind)
 have hDe:∀ x,(D f).ev x=κ⁻¹*g.ev x:=fun x=>by rw [hD x,← Rat.mul_assoc,Rat.mul_comm κ⁻¹,hκκ,Rat.one_mul]
 have key:=g2.vr;obtain ⟨η',hη',hg|hg⟩:=g2.head
 ·left
  refine ⟨vr 1 (sgs l c),fun x y a b e=>?_,fun x a b=>?_⟩
  ·have h3:η≤g.ev x:=by have:=hlo x a (by grind);have:=hg x a (by grind);grind
   have h4:=Rat.mul_le_mul_of_nonneg_left h3 (Rat.le_of_lt hi);have h5:=Rat.mul_le_mul_of_nonneg_left h4 (show (0:Rat)≤y - x by grind);have h6:=hst x y a b e;have h7:=Rat.mul_pos (show (0:Rat)<y - x by grind) hiη;rw [hDe] at h6;unfold Ab at h6
   grind
  have e1:∀ z,c≤z→z≤d→sgs (g::l) z=1::sgs l z:=fun z p q=>by
   show sg (g.ev z)::sgs l z=_
   rw [JQ (by have:=hg z p q;grind)]
  have k:=key x c a b Rat.le_refl hl 0;rw [e1 x a b,e1 c Rat.le_refl hl] at k
  have k':vr 1 (sgs l x)=vr 1 (sgs l c):=by simpa [vr] using k
  rw [hvx,e1 x a b];rcases sg_three (f.ev x) with h|h|h
  ·rw [h.1,if_neg (by grind)];simp [vr,k']
  ·rw [h.1,if_pos h.2];simp [vr,k']
  rw [h.1,if_neg (by grind)];simp [vr,k']
 right
 refine ⟨vr (-1) (sgs l c),fun x y a b e=>?_,fun x a b=>?_⟩
 ·have h3:g.ev x ≤ -η:=by have:=hlo x a (by grind);have:=hg x a (by grind);grind
  have h4:=Rat.mul_le_mul_of_nonneg_left h3 (Rat.le_of_lt hi);have h5:=Rat.mul_le_mul_of_nonneg_left h4 (show (0:Rat)≤y - x by grind);have h6:=hst x y a b e;have h7:=Rat.mul_pos (show (0:Rat)<y - x by grind) hiη;rw [hDe] at h6;unfold Ab at h6
  grind
 have e1:∀ z,c≤z→z≤d→sgs (g::l) z = -1::sgs l z:=fun z p q=>by
  show sg (g.ev z)::sgs l z=_
  rw [JP (by have:=hg z p q;grind)]
 have k:=key x c a b Rat.le_refl hl 0;rw [e1 x a b,e1 c Rat.le_refl hl] at k
 have k':vr (-1) (sgs l x)=vr (-1) (sgs l c):=by simpa [vr] using k
 rw [hvx,e1 x a b];rcases sg_three (f.ev x) with h|h|h
 ·rw [h.1,if_pos h.2];simp [vr,k']
 ·rw [h.1,if_neg (by grind)];simp [vr,k']
 rw [h.1,if_neg (by grind)];simp [vr,k']
theorem fy_ (x:Rat):∃ N:Nat,x≤(N:Rat):=by
 refine ⟨x.ceil.toNat,Rat.le_trans Rat.le_ceil ?_⟩
 have h:x.ceil≤(x.ceil.toNat:Int):=by omega
 have:=Rat.intCast_le_intCast.2 h
 rwa [Rat.intCast_natCast] at this
theorem sub {P:Rat→Rat→Prop} {a b δ:Rat} (hδ:0<δ) (h1:∀ c d,a≤c→c<d→d≤b→d - c≤δ→P c d) (h2:∀ c m d,a≤c→c<m→m<d→d≤b→P c m→P m d→P c d) (hab:a<b):P a b:=by
 have h:∀ n:Nat,∀ c d,a≤c→c<d→d≤b→d - c≤δ*((2 ^ n:Nat):Rat)→P c d:=by
  intro n
  induction n with
  | zero=>intro c d a1 a2 a3 a4;exact h1 c d a1 a2 a3 (by rw [show ((2 ^ 0:Nat):Rat)=1 from rfl,Rat.mul_one] at a4;exact a4)
  | succ n ih =>
   intro c d a1 a2 a3 a4
   have e:((2 ^ (n+1):Nat):Rat)=((2 ^ n:Nat):Rat)*2:=by rw [Nat.pow_succ,Rat.natCast_mul];rfl
   rw [e] at a4;exact h2 c ((c+d)*(1 / 2)) d a1 (by grind) (by grind) a3 (ih _ _ a1 (by grind) (by grind) (by grind)) (ih _ _ (by grind) (by grind) a3 (by grind))
 obtain ⟨N,hN⟩:=fy_ ((b - a)*δ⁻¹);refine h N a b Rat.le_refl hab Rat.le_refl ?_;have h3:((N:Nat):Rat)≤((2 ^ N:Nat):Rat):=Rat.natCast_le_natCast.2 (Nat.le_of_lt Nat.lt_two_pow_self);have h4:=Rat.mul_le_mul_of_nonneg_left (Rat.le_trans hN h3) (Rat.le_of_lt hδ);have h5:δ*δ⁻¹=1:=Rat.mul_inv_cancel _ (by grind)
 have e:δ*((b - a)*δ⁻¹)=b - a:=by rw [Rat.mul_comm (b - a),← Rat.mul_assoc,h5,Rat.one_mul]
 rw [e] at h4;exact h4
theorem PF {f g:QP} {l:List QP} (hc:Chain (f::g::l)) {κ:Rat} (hκ:0<κ) (hD:∀ x,g.ev x=κ*(D f).ev x) {P:Rat→Rat→Prop} (h1:∀ c d,c<d→Loc f (f::g::l) c d→P c d) (h2:∀ c m d,c<m→m<d→P c m→P m d→P c d) {a b:Rat} (hab:a<b):P a b:=by
 obtain ⟨A,hA,ha⟩:=Ab.self a;obtain ⟨B,hB,hb⟩:=Ab.self b;obtain ⟨δ,hδ,h⟩:=c5_ hc hκ hD (A+B);refine sub hδ (fun c d a1 a2 a3 a4=>h1 c d a2 (h c d ?_ ?_ (by grind) a4)) (fun c m d _ a2 a3 _=>h2 c m d a2 a3) hab
 ·unfold Ab at *;grind
 unfold Ab at *;grind
theorem Rb.join {c m d:Rat} {f:QP} (h1:c≤m) (h2:m≤d) (a:Rb c m f) (b:Rb m d f):Rb c d f:=by
 obtain ⟨x,hx,a⟩:=a;obtain ⟨y,hy,b⟩:=b;obtain ⟨z,hz,zx,zy⟩:=JT hx hy;rcases a with a|a<;>rcases b with b|b
 ·exact ⟨z,hz,.inl fun t p q=>(Rat.le_total (a:=t) (b:=m)).elim (fun r=>by have:=a t p r;grind) (fun r=>by have:=b t r q;grind)⟩
 ·exfalso;have:=a m h1 Rat.le_refl;have:=b m Rat.le_refl h2;grind
 ·exfalso;have:=a m h1 Rat.le_refl;have:=b m Rat.le_refl h2;grind
 exact ⟨z,hz,.inr fun t p q=>(Rat.le_total (a:=t) (b:=m)).elim (fun r=>by have:=a t p r;grind) (fun r=>by have:=b t r q;grind)⟩
theorem et_ {f g:QP} {l:List QP} (hc:Chain (f::g::l)) {κ:Rat} (hκ:0<κ) (hD:∀ x,g.ev x=κ*(D f).ev x) {a b:Rat} (hab:a<b) :
  V (f::g::l) b≤V (f::g::l) a∧(V (f::g::l) a=V (f::g::l) b→f.ev b≠0∧(f.ev a≠0→Rb a b f)):=by
 refine PF hc hκ hD (P:=fun a b=>V (f::g::l) b≤V (f::g::l) a∧(V (f::g::l) a=V (f::g::l) b→f.ev b≠0∧(f.ev a≠0→Rb a b f))) (fun c d hl h=>?_) (fun c m d h1 h2 p q=>?_) hab
 ·have hl':c≤d:=by grind
  rcases h with ⟨h1,h2⟩|⟨W,h1,h2⟩|⟨W,h1,h2⟩
  ·refine ⟨by omega,fun _=>⟨?_,fun _=>h1⟩⟩
   obtain ⟨η,hη,h|h⟩:=h1
   ·have:=h d hl' Rat.le_refl;grind
   have:=h d hl' Rat.le_refl;grind
  ·have hcd:=h1 c d Rat.le_refl hl Rat.le_refl
   have hx:∀ x,c≤x→x≤d→f.ev c≤f.ev x∧f.ev x≤f.ev d:=fun x p q=>by
    constructor
    ·by_cases e:c=x
     ·subst e;exact Rat.le_refl
     exact Rat.le_of_lt (h1 c x Rat.le_refl (by grind) q)
    by_cases e:x=d
    ·subst e;exact Rat.le_refl
    exact Rat.le_of_lt (h1 x d p (by grind) Rat.le_refl)
   rw [h2 c Rat.le_refl hl',h2 d hl' Rat.le_refl]
   by_cases k1:f.ev d<0
   ·rw [if_pos k1,if_pos (by grind)]
    exact ⟨Nat.le_refl _,fun _=>⟨by grind,fun _=>⟨-f.ev d,by grind,.inr fun x p q=>by have:=hx x p q;grind⟩⟩⟩
   rw [if_neg k1]
   by_cases k2:f.ev c<0
   ·rw [if_pos k2];exact ⟨by omega,fun e=>by omega⟩
   rw [if_neg k2];exact ⟨Nat.le_refl _,fun _=>⟨by grind,fun k3=>⟨f.ev c,by grind,.inl fun x p q=>(hx x p q).1⟩⟩⟩
  have hcd:=h1 c d Rat.le_refl hl Rat.le_refl
  have hx:∀ x,c≤x→x≤d→f.ev x≤f.ev c∧f.ev d≤f.ev x:=fun x p q=>by
   constructor
   ·by_cases e:c=x
    ·subst e;exact Rat.le_refl
    exact Rat.le_of_lt (h1 c x Rat.le_refl (by grind) q)
   by_cases e:x=d
   ·subst e;exact Rat.le_refl
   exact Rat.le_of_lt (h1 x d p (by grind) Rat.le_refl)
  rw [h2 c Rat.le_refl hl',h2 d hl' Rat.le_refl]
  by_cases k1:0<f.ev d
  ·rw [if_pos k1,if_pos (by grind)]
   exact ⟨Nat.le_refl _,fun _=>⟨by grind,fun _=>⟨f.ev d,by grind,.inl fun x p q=>by have:=hx x p q;grind⟩⟩⟩
  rw [if_neg k1]
  by_cases k2:0<f.ev c
  ·rw [if_pos k2];exact ⟨by omega,fun e=>by omega⟩
  rw [if_neg k2];exact ⟨Nat.le_refl _,fun _=>⟨by grind,fun k3=>⟨-f.ev c,by grind,.inr fun x p q=>by have:=(hx x p q).1;grind⟩⟩⟩
 obtain ⟨p1,p2⟩:=p;obtain ⟨q1,q2⟩:=q;refine ⟨by omega,fun e=>?_⟩;have r1:=p2 (by omega);have r2:=q2 (by omega);exact ⟨r2.1,fun h=>(r1.2 h).join (by grind) (by grind) (r2.2 r1.1)⟩
end QP
end Go.Num
