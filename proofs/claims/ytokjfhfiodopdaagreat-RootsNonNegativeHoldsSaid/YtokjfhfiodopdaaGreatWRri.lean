/- Lemmas: what they ask stands in their statements. -/
import Derived.Test.YtokjfhfiodopdaaGreatWRrb
set_option linter.unusedSimpArgs false
set_option linter.unusedVariables false
namespace Go.Num
open Go Go.Kn
def cut (F:Nat→Int) (k i:Nat):Int:=if i<k then F i else 0
theorem BL (g F:Nat→Int) (k j:Nat):conv g (cut F (k+1)) j=conv g (cut F k) j+F k * shf g k j:=by
  have h:=P1 g (cut F (k+1)) k j fun i hi=>by unfold cut;rw [if_neg oo_]
  rw [h]
  have e1:cut F (k+1) k=F k:=by unfold cut;rw [if_pos oo_]
  have e2:(fun i=>if i<k then cut F (k+1) i else 0)=cut F k:=funext fun i=>by
    unfold cut
    by_cases h:i<k
    · rw [if_pos h,if_pos h,if_pos oo_]
    rw [if_neg h,if_neg h]
  rw [e1,e2]
theorem KF {F:Nat→Int} {m:Nat} (hF:∀ i,m<i→F i=0):cut F (m+1)=F:=funext fun i=>by
  unfold cut
  split
  · rfl
  exact (hF i oo_).symm
theorem c7_ {F:Nat→Int} {A:Nat} (hA:∀ i,(F i).natAbs≤A) (k i:Nat):(cut F k i).natAbs≤A:=by
  unfold cut
  split
  · exact hA i
  exact Nat.zero_le _
theorem LJ {a:List I} {c:Nat→Int} (h:Po a c):∃ e:Int,(e=1∨e = -1)∧Po (bif (((((a).length:Nat):Int)==0)||decide (0<(Z.signW (a.getD ((a).length - 1) I0).dec).1)) then a else eJ ([]:List I) a (fun (y:I) (z:I)=>E (Z.sub y.dec z.dec))) (fun k=>e * c k)∧∀ m,(∀ i,m<i→c i=0)→0≤e * c m:=by
  by_cases h0:a=[]
  · subst h0
    rw [show ((([]:List I).length:Nat):Int)==0 from rfl,Bool.true_or,cond_true];exact ⟨1,.inl rfl,h.cast fun k=>(Int.one_mul _).symm,fun m hm=>by rw [h.zero (Nat.zero_le _)];decide⟩
  obtain ⟨t,t1,t2,t3⟩:=h.top h0;rw [show ((((a).length:Nat):Int)==0)=false from beq_eq_false_iff_ne.2 oo_,Bool.false_or,t1,Nat.add_sub_cancel,h.get,bZ,kN (h.B t)]
  have key:∀ m,(∀ i,m<i→c i=0)→c m=0∨m=t:=fun m hm=>by
    rcases Nat.lt_trichotomy m t with h1 | h1 | h1
    · exact absurd (hm t h1) t2
    · exact .inr h1
    exact .inl (t3 m h1)
  by_cases hp:0<(c t).sign
  · rw [decide_eq_true hp,cond_true]
    refine ⟨1,.inl rfl,h.cast fun k=>(Int.one_mul _).symm,fun m hm=>?_⟩;rw [Int.one_mul];rcases key m hm with h1 | h1
    · rw [h1];exact Int.le_refl _
    rw [h1];have:=Int.sign_pos_iff.1 hp;omega
  rw [decide_eq_false hp,cond_false];refine ⟨-1,.inr rfl,?_,fun m hm=>?_⟩
  · refine EO CL h (fun k=>by rw [bZ,bZ,MG B0 (h.B k),Int.zero_sub,Int.neg_one_mul]) (fun k=>by have:=h.B k;unfold cZ at *;rwa [Int.neg_one_mul,Int.natAbs_neg]) (fun k _ h=>by rw [h];rfl)
  rcases key m hm with h1 | h1
  · rw [h1];decide
  rw [h1];have:¬ 0<c t:=fun hx=>hp (Int.sign_pos_iff.2 hx);omega
section
variable {P:List I} {g F:Nat→Int} {n m A B:Nat}
theorem R6 (hG:Po (aN P (aF P)) g) (hn:(aN P (aF P)).length=n+1) (hg0:0<g n) (hA:∀ i,(F i).natAbs≤A) (hB:∀ i,(g i).natAbs≤B) (hAB:(n+1) * (B * A)<4294967296 ^ 16) :
    ∀ (k fu:Nat) (i:Int) (r f:List I),i=(k:Int) - 1→k<fu→k≤m+1→r.length=n+m+1→f.length=m+1→(∀ j,r.getD j I0=E (Z.of (conv g (cut F k) j)))→(∀ j,k≤j→f.getD j I0=E (Z.of (F j))) →
    ∃ i' r' f',eY P fu i r f = .inl (i',r',f')∧f'.length=m+1∧∀ j,f'.getD j I0=E (Z.of (F j))
  | _,0,_,_,_,_,h,_,_,_,_,_=>absurd h (Nat.not_lt_zero _)
  | 0,fu+1,i,r,f,hi,hk,hkm,hr,hf,hrv,hfv=>by
    unfold eY;rw [decide_eq_false oo_,cond_false];exact ⟨i,r,f,rfl,hf,fun j=>hfv j (Nat.zero_le _)⟩
  | k+1,fu+1,i,r,f,hi,hk,hkm,hr,hf,hrv,hfv=>by
    have hi':i=(k:Int):=by omega
    have hgz:∀ j,n<j→g j=0:=fun j hj=>hG.zero oo_;have hAB1:B * A<4294967296 ^ 16:=Nat.lt_of_le_of_lt (Nat.le_mul_of_pos_left _ (Nat.succ_pos n)) hAB;have bc:∀ k j,cZ (conv g (cut F k) j):=fun k j=>Nat.lt_of_le_of_lt (EK hB (c7_ hA k) (fun i hi=>hgz i oo_) j) hAB
    have hshf:∀ j,(shf g k j).natAbs≤B:=fun j=>by
      unfold shf;split
      · exact hB _
      exact Nat.zero_le _
    have bm:∀ j,cZ (F k * shf g k j):=fun j=>by
      refine Nat.lt_of_le_of_lt ?_ hAB1;rw [Int.natAbs_mul,Nat.mul_comm B];exact Nat.mul_le_mul (hA k) (hshf j)
    have hB1:1≤B:=by have:=hB n;omega
    have bF:cZ (F k):=Nat.lt_of_le_of_lt (Nat.le_trans (hA k) (Nat.le_mul_of_pos_left _ hB1)) hAB1
    have htop:conv g (cut F (k+1)) (n+k)=g n * F k:=by
      rw [oI hgz fun i hi=>by unfold cut;rw [if_neg oo_]]
      congr 1
      unfold cut;rw [if_pos oo_]
    have hq:(E (Z.quo (r.getD (i.toNat+((aN P (aF P)).length - 1)) I0).dec ((aN P (aF P)).getD ((aN P (aF P)).length - 1) I0).dec))=E (Z.of (F k)):=by
      rw [hn,Nat.add_sub_cancel,show i.toNat+n=n+k by omega,hrv,hG.get,bZ,bZ,C7 (bc (k+1) _) (hG.B n) hg0 (v:=F k) htop.symm]
    unfold eY;rw [decide_eq_true oo_,cond_true];simp only;rw [hq]
    have hx:((f.set i.toNat (E (Z.of (F k)))).getD i.toNat I0).dec=Z.of (F k):=by rw [kU _ _ _ oo_,bZ]
    have hfr:∀ j,frE (aN P (aF P)) r k (Z.of (F k)) j=E (Z.of (conv g (cut F k) j)):=fun j=>by
      unfold frE
      have e:conv g (cut F k) j=conv g (cut F (k+1)) j - F k * shf g k j:=by rw [BL];omega
      rw [hrv,KB hG k j,bZ,bZ,oR bF (co_ hG k j),MG (bc _ _) (bm j),← e]
    rcases KQ P i r f (E (Z.of (F k))) (g:=aN P (aF P)) rfl hi' ((aN P (aF P)).length+1) 0 r oo_ (Nat.zero_le _) rfl oo_ (fun j _=>rfl) with ⟨t',k',e1,e2,e3,e4⟩ | ⟨e1,j,j1,j2,j3⟩
    · rw [e1]
      simp only [sm];rw [hx] at e3;refine R6 hG hn hg0 hA hB hAB k fu (i - 1) t' _ oo_ oo_ oo_ oo_ (by rw [List.length_set];exact hf) (fun j=>?_) (fun j hj=>?_)
      · rw [e3 j]
        by_cases hj:k+0≤j∧j<k+(aN P (aF P)).length
        · rw [if_pos hj,hfr]
        rw [if_neg hj,hrv,BL]
        have:shf g k j=0:=by
          unfold shf
          split
          · exact hgz _ oo_
          rfl
        rw [this,Int.mul_zero,Int.add_zero]
      rw [show i.toNat=k by omega]
      by_cases hjk:j=k
      · subst hjk;exact kU _ _ _ oo_
      rw [pD _ _ _ _ hjk];exact hfv j oo_
    rw [hx,hfr j,QK (bc k j)] at j3
    cases j3
theorem VT (hG:Po (aN P (aF P)) g) (hn:(aN P (aF P)).length=n+1) (hg0:0<g n) (hA:∀ i,(F i).natAbs≤A) (hB:∀ i,(g i).natAbs≤B) (hAB:(n+1) * (B * A)<4294967296 ^ 16)
    {ρ:Nat→Int} (hR:Po (aC P) ρ) (hρ:∀ k,ρ k=conv g F k) (hF0:F m≠0) (hF:∀ i,m<i→F i=0):∃ e:Int,(e=1∨e = -1)∧Po (aV P) (fun k=>e * F k)∧∀ m,(∀ i,m<i→F i=0)→0≤e * F m:=by
  have hgz:∀ j,n<j→g j=0:=fun j hj=>hG.zero oo_
  have hRl:(aC P).length=n+m+1:=hR.len_top (by rw [hρ,oI hgz hF];exact Int.mul_ne_zero oo_ hF0) fun i hi=>by rw [hρ];exact mE (n:=n+1) (m:=m+1) (fun j hj=>hgz j hj) (fun j hj=>hF j hj) i oo_
  have hB1:1≤B:=by have:=hB n;omega
  have hAB1:B * A<4294967296 ^ 16:=Nat.lt_of_le_of_lt (Nat.le_mul_of_pos_left _ (Nat.succ_pos n)) hAB;have bF:∀ k,cZ (F k):=fun k=>Nat.lt_of_le_of_lt (Nat.le_trans (hA k) (Nat.le_mul_of_pos_left _ hB1)) hAB1;have hlen:=hR.l;unfold aV;rw [hG.nb,hR.nb,Bool.or_false,cond_false,show ((((aC P).length:Nat):Int)==0)=false from beq_eq_false_iff_ne.2 oo_,cond_false]
  obtain ⟨i',r',f',e1,e2,e3⟩:=R6 hG hn hg0 hA hB hAB (m:=m) (m+1) ((aC P).length+2) ((((List.replicate ((aC P).length - ((aN P (aF P)).length - 1)) I0).length:Nat):Int) - 1) (aC P) (List.replicate ((aC P).length - ((aN P (aF P)).length - 1)) I0) (by rw [List.length_replicate];omega) oo_ (Nat.le_refl _) hRl (by rw [List.length_replicate];omega) (fun j=>by rw [hR.get,hρ,KF hF]) (fun j hj=>by
    rw [hF j oo_,← I0_E]
    exact nC (by rw [List.length_replicate];omega))
  rw [e1];simp only [sm]
  have hM:Po (bH f') F:=by rw [rM];exact AW e3 bF fun k hk=>hF k oo_
  exact LJ hM
end
def dI (c:Nat→Int) (k:Nat):Int:=((k+1:Nat):Int) * c (k+1)
theorem RX {c:Nat→Int} (h:mX c):mX (dI c):=by
  obtain ⟨n,h⟩:=h;exact ⟨n,fun i hi=>by unfold dI;rw [h _ oo_,Int.mul_zero]⟩
theorem bX_ {c:Nat→Int} (h:mX c):ZP (dI c) (RX h)=QP.D (ZP c h):=QP.ex fun k=>by rw [QP.D_c,lQ,lQ];unfold dI;rw [Rat.intCast_mul];rfl
theorem di_ {A B C:QP} (S:QP) (h:Gd A B C):Gd (S * A) (S * B) (S * C):=fun d=>by
  obtain ⟨c1,c2⟩:=(h C).2 (.refl C);obtain ⟨g,u,v,h1,h2,h3⟩:=QP.bezout A B;obtain ⟨k,hk⟩:=(h g).1 ⟨h2,h3⟩
  constructor
  · rintro ⟨d1,d2⟩
    rw [hk,← QP.mul_assoc',h1,QP.mul_add',QP.lc' S u,QP.lc' S v];exact ((d1.mul_l u).add (d2.mul_l v)).mul k
  exact fun d1=>⟨d1.trans (c1.both S),d1.trans (c2.both S)⟩
theorem T5 {c:Nat→Int} (h:mX c) (h0:¬ ∀ k,c k=0):ZP c h≠QP.C 0:=fun e=>h0 fun k=>by
  have e1:=congrArg (fun x:QP=>x.c k) e;simp only [lQ,QP.C0_c] at e1;exact Rat.intCast_eq_zero_iff.1 e1
section
variable {σ:Nat→Int} {ds S G:Nat}
theorem dU_ (hσ:Cop σ) (hs0:σ ds≠0) (hs:∀ i,ds<i→σ i=0) (hS:∀ k,(σ k).natAbs≤S) {P:List I} {c:Nat→Int} (hP:Po P c) (h0:P≠[]) (hD:Po (aF P) (dI c)) {f n0 n1 M0 M1:Nat} {α β:Nat→Int} (pa:Pr α n0 M0) (pb:Pr β n1 M1) (h:okT S ds G f n0 n1 M0 M1=true) (ha:Po (aC P) (conv σ α)) (hb:Po (aC (aF P)) (conv σ β)) :
    ∃ (g F:Nat→Int) (n:Nat) (eρ:mX (conv σ α)) (eF:mX F),Po (aN P (aF P)) g∧0<g n∧(∀ i,n<i→g i=0)∧(∀ i,(g i).natAbs≤(ds+1) * (S * G))∧Cop g∧Cop F∧(∀ k,conv σ α k=conv g F k)∧∀ h,QP.Irr h→(QP.Dv h (ZP (conv σ α) eρ)→QP.Dv h (ZP F eF))∧¬ QP.Dv (h * h) (ZP F eF):=by
  have es:mX σ:=⟨ds+1,fun i hi=>hs i hi⟩;obtain ⟨γ,_,pc,g1,g2,g3⟩:=ap_ hσ hs0 hs hS pa pb h ha hb
  have ea:∀ k,((cN P:Nat):Int) * conv σ α k=c k:=fun k=>by
    rw [← wE hP k]
    congr 1
    exact (ha.c k).symm.trans ((tY hP).c k)
  have eb:∀ k,((cN (aF P):Nat):Int) * conv σ β k=dI c k:=fun k=>by
    rw [← wE hD k]
    congr 1
    exact (hb.c k).symm.trans ((tY hD).c k)
  have hcP:=hP.cpos h0;have hc0:¬ ∀ k,c k=0:=fun hz=>h0 (hP.nil hz)
  have hα:Cop α:=pa.p.resolve_right fun hz=>hc0 fun k=>by rw [← ea k,o6 hz,Int.mul_zero]
  have hρ:Cop (conv σ α):=b5_ hσ hα;have eρ:=zJ es pa.e;have eσβ:=zJ es pb.e;have hG:=di_ (ZP σ es) g2;rw [← qN es pa.e,← qN es pb.e,← qN es pc.e] at hG;have eg:=zJ es pc.e;have hρ0:=T5 eρ (CT hρ);obtain ⟨d1,d2⟩:=(hG (ZP (conv σ γ) eg)).2 (.refl _)
  have hγ:Cop γ:=pc.p.resolve_right fun hz=>hρ0 (by
    have e0:ZP (conv σ γ) eg=QP.C 0:=QP.ex fun k=>by rw [lQ,o6 hz,QP.C0_c];rfl
    rw [e0] at d1
    exact d1.of_zero)
  have hg:Cop (conv σ γ):=b5_ hσ hγ;obtain ⟨F,eF,hF⟩:=AR hg eg eρ d1;obtain ⟨n,n1,n2⟩:=(HB eg).resolve_left (CT hg);have hFc:Cop F:=CU (s:=conv σ γ) (by rw [← show conv σ α=conv (conv σ γ) F from funext hF];exact hρ)
  -- the derivative, up to a number
  have hDv:∀ x,QP.Dv x (QP.D (ZP (conv σ α) eρ)) ↔ QP.Dv x (ZP (conv σ β) eσβ):=fun x=>by
    have e1:QP.C (((cN P:Nat):Int):Rat) * QP.D (ZP (conv σ α) eρ)=QP.C (((cN (aF P):Nat):Int):Rat) * ZP (conv σ β) eσβ:=QP.ex fun k=>by
      rw [QP.C_mul,QP.C_mul,QP.D_c,lQ,lQ,← Rat.intCast_mul,eb k];unfold dI;rw [← ea (k+1),Rat.intCast_mul,Rat.intCast_mul]
      show _=(((k+1:Nat):Rat)) * _
      grind
    have hcP':(((cN P:Nat):Int):Rat)≠0:=fun e=>by have:=Rat.intCast_eq_zero_iff.1 e;omega
    by_cases hz:aF P=[]
    · have z1:ZP (conv σ β) eσβ=QP.C 0:=QP.ex fun k=>by
        rw [lQ,QP.C0_c,← show (0:Int)=conv σ β k from ?_]
        · rfl
        have:=(hb.c k).symm.trans ((tY hD).c k);rw [hD.zero (k:=k) (by rw [hz];exact Nat.zero_le _),Int.zero_fdiv] at this;exact this.symm
      rw [z1,QP.mul_zero'] at e1
      have z2:QP.D (ZP (conv σ α) eρ)=QP.C 0:=by
        apply Classical.byContradiction
        intro hx;exact QP.mul_ne (QP.C_dg hcP').ne hx e1
      rw [z1,z2]
    have hcD:=hD.cpos hz
    have hcD':(((cN (aF P):Nat):Int):Rat)≠0:=fun e=>by have:=Rat.intCast_eq_zero_iff.1 e;omega
    exact ⟨fun h=>QP.Dv.scale hcD' (by rw [← e1];exact h.mul_l _),fun h=>QP.Dv.scale hcP' (by rw [e1];exact h.mul_l _)⟩
  refine ⟨conv σ γ,F,n,eρ,eF,g1,?_,n2,?_,hg,hFc,hF,fun h hi=>?_⟩
  · have:=g3 n n2
    omega
  · exact fun i=>EK hS pc.b (fun j hj=>hs j oo_) i
  refine QP.sqf_part (G:=ZP (conv σ γ) eg) hρ0 ?_ ((hDv _).2 d2) (fun d h1 h2=>(hG d).1 ⟨h1,(hDv d).1 h2⟩) hi;rw [← qN eg eF];exact MZ _ _ hF
end
open Go Go.Kn
theorem Zx.neg {a:Z} {u:Int} (ha:Zx a u):Zx (Z.neg a) (-u):=by
  rcases ha with h | ⟨h,h1⟩
  · left;rw [Z.neg,qV h];rfl
  subst h;rw [Z.neg,kY (Z.of_some h1)];exact .of _
theorem Zx.sub {a b:Z} {u v:Int} (ha:Zx a u) (hb:Zx b v):Zx (Z.sub a b) (u - v):=by
  rw [Int.sub_eq_add_neg];exact ha.add hb.neg
theorem ao_ {z:Z} (h:z.o=none):(E z).1.bad=true:=by
  have:z=Z.bad:=by
    cases z with
    | mk o hb=>simp only at h;subst h;rfl
  rw [this];rfl
theorem Zx.cases {z:Z} {v:Int} (h:Zx z v):(E z).1.bad=true∨(E z=E (Z.of v)∧cZ v):=by
  rcases h with h | ⟨h,b⟩
  · exact .inl (ao_ h)
  exact .inr ⟨by rw [h],b⟩
section
variable {p q:List I} {c d:Nat→Int} {n:Nat}
theorem d7_ (v:Int):cZ v.sign:=by
  rcases Int.lt_trichotomy v 0 with h | h | h
  · rw [Int.sign_eq_neg_one_of_neg h];decide
  · rw [h];decide
  rw [Int.sign_eq_one_of_pos h];decide
theorem cl_ (g:Po q d) (hn:q.length=n+1) {r:Nat→Int} {i:Nat} (l:List I) (h2:∀ k,cZ (r k)):∀ (f k:Nat) (t:List I),l.length - k<f→k≤l.length→t.length=l.length →
    (∀ j,t.getD j I0=E (Z.of (if j<k then lA (d n).natAbs (d n).sign d n i r j else r j)))→(∀ j,j<k→cZ (lA (d n).natAbs (d n).sign d n i r j)) →
    fG p q (i:Int) l (E (Z.of ((d n).sign * r (i+n)))) f k t = .inr badp ∨
    ∃ t',fG p q (i:Int) l (E (Z.of ((d n).sign * r (i+n)))) f k t = .inl (l.length,t')∧t'.length=l.length∧(∀ j,t'.getD j I0=E (Z.of (if j<l.length then lA (d n).natAbs (d n).sign d n i r j else r j)))∧∀ j,j<l.length→cZ (lA (d n).natAbs (d n).sign d n i r j)
  | 0,k,t,hf,_,_,_,_=>absurd hf (Nat.not_lt_zero _)
  | f+1,k,t,hf,hk,ht,hv,hb=>by
    unfold fG
    by_cases hl:k<l.length
    · rw [decide_eq_true oo_,cond_true]
      have e:=hv k;rw [if_neg (Nat.lt_irrefl k)] at e
      have hz:Zx (Z.sub (Z.mul (Z.abs (q.getD (q.length - 1) I0).dec) (t.getD k I0).dec) (Z.mul (E (Z.of ((d n).sign * r (i+n)))).dec (eA q ((k:Int) - (i:Int))).dec)) (lA (d n).natAbs (d n).sign d n i r k):=by
        rw [hn,Nat.add_sub_cancel,g.get,e,KB g,bZ,bZ,bZ,bZ,RP (g.B _)];exact ((Zx.of _).mul (.of _)).sub ((Zx.of _).mul (.of _))
      simp only;rcases hz.cases with h | ⟨h,b⟩
      · left
        rw [kU t k _ oo_,h,cond_true,DK]
      rw [h,kU t k _ oo_,FA b,cond_false];refine cl_ g hn l h2 f (k+1) _ oo_ oo_ (by rw [List.length_set];exact ht) (fun j=>?_) fun j hj=>?_
      · by_cases hj:j=k
        · subst hj;rw [kU t j _ oo_,if_pos oo_]
        rw [pD t k j _ hj,hv j]
        by_cases hjk:j<k
        · rw [if_pos hjk,if_pos oo_]
        rw [if_neg hjk,if_neg oo_]
      by_cases hjk:j=k
      · subst hjk;exact b
      exact hb j oo_
    rw [decide_eq_false oo_,cond_false]
    have:k=l.length:=by omega
    subst this;exact .inr ⟨t,rfl,ht,hv,hb⟩
theorem ck_ (g:Po q d) (hn:q.length=n+1):∀ (m f:Nat) (i:Int) (l:List I) (r:Nat→Int),i=(m:Int) - 1→m<f→(m≤l.length - n)→(∀ j,l.getD j I0=E (Z.of (r j)))→(∀ k,l.length≤k→r k=0)→(∀ k,cZ (r k)) →
    dM p q f i l = .inr badp ∨ ∃ i' l',dM p q f i l = .inl (i',l')∧l'.length=l.length∧(∀ j,l'.getD j I0=E (Z.of (r6 (d n).natAbs (d n).sign d n m r j)))∧(∀ k,l.length≤k→r6 (d n).natAbs (d n).sign d n m r k=0)∧∀ k,cZ (r6 (d n).natAbs (d n).sign d n m r k)
  | m,0,i,l,r,_,hf,_,_,_,_=>absurd hf (Nat.not_lt_zero _)
  | 0,f+1,i,l,r,hi,hf,hm,hl,hz,hB=>by
    unfold dM;rw [decide_eq_false oo_,cond_false];exact .inr ⟨i,l,rfl,rfl,hl,hz,hB⟩
  | m+1,f+1,i,l,r,hi,hf,hm,hl,hz,b1=>by
    unfold dM;rw [decide_eq_true oo_,cond_true]
    have e:E (Z.mul (Z.of (Z.signW (q.getD (q.length - 1) I0).dec).1) (l.getD (i.toNat+(q.length - 1)) I0).dec)=E (Z.of ((d n).sign * r (m+n))):=by
      rw [hn,Nat.add_sub_cancel,g.get,hl,bZ,bZ,kN (g.B n),show i.toNat=m by omega,oR (d7_ _) (b1 _)]
    have h1:=cl_ (p:=p) g hn (i:=m) l b1 (l.length+1) 0 l oo_ (Nat.zero_le _) rfl (fun j=>by rw [if_neg (Nat.not_lt_zero _)];exact hl j) (fun j hj=>absurd hj (Nat.not_lt_zero _));simp only;rw [e,show i=(m:Int) by omega];rcases h1 with h1 | ⟨t,h1,h2,h3,h4⟩
    · rw [h1];exact .inl rfl
    rw [h1]
    have k1:∀ j,t.getD j I0=E (Z.of (lA (d n).natAbs (d n).sign d n m r j)):=fun j=>by
      rw [h3 j]
      split
      · rfl
      rw [hz j oo_,uV g hn hz oo_ oo_]
    have k2:∀ j,cZ (lA (d n).natAbs (d n).sign d n m r j):=fun j=>by
      by_cases hj:j<l.length
      · exact h4 j hj
      rw [uV g hn hz oo_ oo_];exact B0
    rcases ck_ g hn m f ((m:Int) - 1) t _ rfl oo_ oo_ k1 (fun k hk=>uV g hn hz oo_ oo_) k2 with h5 | ⟨i',l',a1,a2,a3,a4,a5⟩
    · exact .inl h5
    exact .inr ⟨i',l',a1,a2.trans h2,a3,fun k hk=>a4 k oo_,a5⟩
theorem bT_ (h:Po p c) (g:Po q d) (hn:q.length=n+1):bD p q=badp∨Po (bD p q) (r6 (d n).natAbs (d n).sign d n (p.length - n) c):=by
  unfold bD;rw [h.nb,g.nb,show ((((q.length:Nat):Int)==0))=false from beq_eq_false_iff_ne.2 oo_,Bool.false_or,Bool.false_or,cond_false,List.nil_append,hn];have hl:=h.l
  have go:∀ i:Int,i=((p.length:Nat):Int) - 1 - (((n+1:Nat):Int) - 1)→dM p q (p.length+1) i p = .inr badp ∨ ∃ i' l',dM p q (p.length+1) i p = .inl (i',l')∧l'.length=p.length∧(∀ j,l'.getD j I0=E (Z.of (r6 (d n).natAbs (d n).sign d n (p.length - n) c j)))∧(∀ k,p.length≤k→r6 (d n).natAbs (d n).sign d n (p.length - n) c k=0)∧∀ k,cZ (r6 (d n).natAbs (d n).sign d n (p.length - n) c k):=fun i hi=>by
    by_cases hs:n≤p.length
    · exact ck_ g hn (p.length - n) (p.length+1) i p c oo_ oo_ (Nat.le_refl _) h.get (fun k hk=>h.zero hk) h.B
    have e0:p.length - n=0:=by omega
    rw [e0];unfold dM;rw [decide_eq_false oo_,cond_false];exact .inr ⟨i,p,rfl,rfl,h.get,fun k hk=>h.zero hk,h.B⟩
  rcases go _ rfl with h0 | ⟨i',l',a1,a2,a3,a4,a5⟩
  · rw [h0];exact .inl rfl
  rw [a1]
  show bH l'=badp∨Po (bH l') _
  rw [rM];exact .inr (AW a3 a5 fun k hk=>a4 k oo_)
end
open Go Go.Kn
theorem sO:aC badp=badp:=by kernel_rfl
theorem w5:aT badp=true:=by kernel_rfl
theorem YY:aC []=[]:=by kernel_rfl
theorem BR (p q a:List I) (k:Nat) (hk:1≤k):cS p q k a badp = .inr badp:=by
  obtain ⟨m,rfl⟩:∃ m,k=m+1:=⟨k - 1,by omega⟩;unfold cS;rw [w5,Bool.or_true,cond_true,DK,show decide (0<((badp.length:Nat):Int))=true from by kernel_rfl,cond_true]
theorem Po.ne_nil {p:List I} {c:Nat→Int} (h:Po p c) (h0:p≠[]):¬ ∀ k,c k=0:=fun hz=>h0 (h.nil hz)
theorem BX {p:List I} {c:Nat→Int} (h:Po p c) (h0:p=[]) (k:Nat):c k=0:=h.zero (by rw [h0];exact Nat.zero_le _)
theorem uP {p:List I} {c:Nat→Int} (h:Po p c):∃ (γ:Nat→Int) (t:Int),t≠0∧0<t∧Po (aC p) γ∧(∀ k,c k=t * γ k)∧(aC p≠[]→Cop γ):=by
  by_cases h0:p=[]
  · subst h0
    rw [YY];exact ⟨c,1,by decide,by decide,h,fun k=>(Int.one_mul _).symm,fun h=>absurd rfl h⟩
  refine ⟨_,((cN p:Nat):Int),?_,?_,tY h,fun k=>(wE h k).symm,fun _=>GK h h0⟩
  · have:=h.cpos h0;omega
  have:=h.cpos h0;omega
theorem R7 (p q:List I):∀ (k:Nat) (a b:List I) (α β:Nat→Int) (ha:Po a α) (hb:Po b β),(a≠[]→Cop α)→(b≠[]→Cop β)→gmP b<k →
    cS p q k a b = .inr badp ∨ ∃ (a' b':List I) (γ:Nat→Int) (hc:Po a' γ),cS p q k a b = .inl (a',b')∧(a'≠[]→Cop γ)∧Gd (ZP α ha.ends) (ZP β hb.ends) (ZP γ hc.ends)
  | 0,a,b,α,β,ha,hb,_,_,hk=>absurd hk (Nat.not_lt_zero _)
  | k+1,a,b,α,β,ha,hb,ca,cb,hk=>by
    by_cases h0:b=[]
    · subst h0
      right
      rw [R9];exact ⟨a,[],α,ha,rfl,ca,KU _ _ fun k=>BX hb rfl k⟩
    obtain ⟨n,n1,n2,n3⟩:=hb.top h0;unfold cS;have hd:decide (0<((b.length:Nat):Int))=true:=decide_eq_true oo_;rw [hd,cond_true,ha.nb,hb.nb,Bool.or_false,cond_false];have hdec:=EP (a:=a) (b:=b) ⟨ha.l,hb.l⟩ (by rw [ha.nb,hb.nb];rfl) hd;rcases bT_ ha hb n1 with hr | hr
    · rw [hr,sO]
      rw [hr,sO] at hdec;exact .inl (BR p q b k oo_)
    obtain ⟨γ,t,t0,_,hγ,e1,e2⟩:=uP hr;rcases R7 p q k b (aC (bD a b)) β γ hb hγ cb e2 oo_ with h1 | ⟨a',b',δ,hc,r1,r2,r3⟩
    · exact .inl h1
    refine .inr ⟨a',b',δ,hc,r1,r2,?_⟩;obtain ⟨Q,hQ,hq⟩:=EY (a:=((β n).natAbs:Int)) (o:=(β n).sign) (d:=β) (n:=n) (a.length - n) α;refine KT ha.ends hb.ends hγ.ends hQ (w:=((β n).natAbs:Int) ^ (a.length - n)) (t:=t) (Int.pow_ne_zero oo_) t0 (fun k=>?_) r3;rw [hq k,e1 k]
theorem eq_ {p q:List I} {c d:Nat→Int} (hp:Po p c) (hq:Po q d):aN p q=badp ∨ ∃ (α β g:Nat→Int) (s t:Int) (ha:Po (aC p) α) (hb:Po (aC q) β) (hg:Po (aN p q) g),
    0<s∧0<t∧(∀ k,c k=s * α k)∧(∀ k,d k=t * β k)∧(aC p≠[]→Cop α)∧(aN p q≠[]→Cop g)∧Gd (ZP α ha.ends) (ZP β hb.ends) (ZP g hg.ends)∧∀ m,(∀ i,m<i→g i=0)→0≤g m:=by
  obtain ⟨α,s,_,s0,ha,ea,ca⟩:=uP hp;obtain ⟨β,t,_,t0,hb,eb,cb⟩:=uP hq;unfold aN;rcases R7 p q (gmP (aC q)+1) _ _ α β ha hb ca cb (Nat.lt_succ_self _) with h1 | ⟨a',b',γ,hc,r1,r2,r3⟩
  · rw [h1];exact .inl rfl
  rw [r1];obtain ⟨e,he,hP,hm⟩:=LJ hc
  right
  refine ⟨α,β,fun k=>e * γ k,s,t,ha,hb,hP,s0,t0,ea,eb,ca,fun hne=>?_,fun x=>?_,fun m h=>hm m fun i hi=>?_⟩
  · have h0:a'≠[]:=fun h=>hne (by subst h;rfl)
    intro u hu;refine r2 h0 u fun k=>?_;have h1:u ∣ e * γ k:=hu k;rcases he with rfl | rfl
    · rwa [Int.one_mul] at h1
    rw [Int.neg_one_mul] at h1;exact Int.dvd_neg.1 h1
  · rw [r3 x]
    have hz:ZP (fun k=>e * γ k) hP.ends=QP.C (e:Rat) * ZP γ hc.ends:=QP.ex fun k=>by rw [QP.C_mul,lQ,lQ,Rat.intCast_mul]
    have he0:(e:Rat)≠0:=by rcases he with rfl | rfl <;> decide
    rw [hz];exact ⟨fun h=>h.mul_l _,fun h=>QP.Dv.scale he0 h⟩
  have h1:e * γ i=0:=h i hi;rcases he with rfl | rfl
  · omega
  omega
theorem en_ {u v:Int} (h:cZ (u * v)) (hu:0<u):cZ v:=by
  unfold cZ at *;rw [Int.natAbs_mul] at h;have:=Nat.le_mul_of_pos_left v.natAbs (show 0<u.natAbs by omega);omega
section
variable {P:List I} {g F:Nat→Int} {n m:Nat}
theorem NU (hG:Po (aN P (aF P)) g) (hn:(aN P (aF P)).length=n+1) (hg0:0<g n) :
    ∀ (k fu:Nat) (i:Int) (r f:List I),i=(k:Int) - 1→k<fu→k≤m+1→r.length=n+m+1→f.length=m+1→(∀ j,r.getD j I0=E (Z.of (conv g (cut F k) j)))→(∀ j,cZ (conv g (cut F k) j))→(∀ j,k≤j→f.getD j I0=E (Z.of (F j)))→(∀ j,k≤j→cZ (F j)) →
    eY P fu i r f = .inr badp ∨ ∃ i' r' f',eY P fu i r f = .inl (i',r',f')∧f'.length=m+1∧(∀ j,f'.getD j I0=E (Z.of (F j)))∧∀ j,cZ (F j)
  | _,0,_,_,_,_,h,_,_,_,_,_,_,_=>absurd h (Nat.not_lt_zero _)
  | 0,fu+1,i,r,f,hi,hk,hkm,hr,hf,hrv,hrb,hfv,hfb=>by
    unfold eY;rw [decide_eq_false oo_,cond_false];exact .inr ⟨i,r,f,rfl,hf,fun j=>hfv j (Nat.zero_le _),fun j=>hfb j (Nat.zero_le _)⟩
  | k+1,fu+1,i,r,f,hi,hk,hkm,hr,hf,hrv,hrb,hfv,hfb=>by
    have hi':i=(k:Int):=by omega
    have hgz:∀ j,n<j→g j=0:=fun j hj=>hG.zero oo_
    have htop:conv g (cut F (k+1)) (n+k)=g n * F k:=by
      rw [oI hgz fun i hi=>by unfold cut;rw [if_neg oo_]]
      congr 1
      unfold cut;rw [if_pos oo_]
    have bF:cZ (F k):=en_ (u:=g n) (by rw [← htop];exact hrb _) hg0
    have hq:(E (Z.quo (r.getD (i.toNat+((aN P (aF P)).length - 1)) I0).dec ((aN P (aF P)).getD ((aN P (aF P)).length - 1) I0).dec))=E (Z.of (F k)):=by
      rw [hn,Nat.add_sub_cancel,show i.toNat+n=n+k by omega,hrv,hG.get,bZ,bZ,C7 (hrb _) (hG.B n) hg0 (v:=F k) htop.symm]
    unfold eY;rw [decide_eq_true oo_,cond_true];simp only;rw [hq]
    have hx:((f.set i.toNat (E (Z.of (F k)))).getD i.toNat I0).dec=Z.of (F k):=by rw [kU _ _ _ oo_,bZ]
    have hfr:∀ j,(frE (aN P (aF P)) r k (Z.of (F k)) j).1.bad=true∨(frE (aN P (aF P)) r k (Z.of (F k)) j=E (Z.of (conv g (cut F k) j))∧cZ (conv g (cut F k) j)):=fun j=>by
      unfold frE;refine Zx.cases ?_
      have e:conv g (cut F k) j=conv g (cut F (k+1)) j - F k * shf g k j:=by rw [BL];omega
      rw [hrv,KB hG k j,bZ,bZ,e];exact (Zx.of _).sub ((Zx.of _).mul (.of _))
    rcases KQ P i r f (E (Z.of (F k))) (g:=aN P (aF P)) rfl hi' ((aN P (aF P)).length+1) 0 r oo_ (Nat.zero_le _) rfl oo_ (fun j _=>rfl) with ⟨t',k',e1,e2,e3,e4⟩ | ⟨e1,j,j1,j2,j3⟩
    · rw [e1]
      simp only [sm];rw [hx] at e3 e4
      have hin:∀ j,k+0≤j∧j<k+(aN P (aF P)).length→frE (aN P (aF P)) r k (Z.of (F k)) j=E (Z.of (conv g (cut F k) j))∧cZ (conv g (cut F k) j):=fun j hj=>by
        rcases hfr j with h1 | h1
        · rw [e4 j hj.1 hj.2] at h1;cases h1
        exact h1
      have hout:∀ j,¬ (k+0≤j∧j<k+(aN P (aF P)).length)→conv g (cut F (k+1)) j=conv g (cut F k) j:=fun j hj=>by
        rw [BL]
        have:shf g k j=0:=by
          unfold shf
          split
          · exact hgz _ oo_
          rfl
        rw [this,Int.mul_zero,Int.add_zero]
      refine NU hG hn hg0 k fu (i - 1) t' _ oo_ oo_ oo_ oo_ (by rw [List.length_set];exact hf) (fun j=>?_) (fun j=>?_) (fun j hj=>?_) (fun j hj=>?_)
      · rw [e3 j]
        by_cases hj:k+0≤j∧j<k+(aN P (aF P)).length
        · rw [if_pos hj,(hin j hj).1]
        rw [if_neg hj,hrv,hout j hj]
      · by_cases hj:k+0≤j∧j<k+(aN P (aF P)).length
        · exact (hin j hj).2
        rw [← hout j hj];exact hrb j
      · rw [show i.toNat=k by omega]
        by_cases hjk:j=k
        · subst hjk;exact kU _ _ _ oo_
        rw [pD _ _ _ _ hjk];exact hfv j oo_
      by_cases hjk:j=k
      · subst hjk;exact bF
      exact hfb j oo_
    rw [e1];exact .inl rfl
theorem cG_ (hG:Po (aN P (aF P)) g) (hn:(aN P (aF P)).length=n+1) (hg0:0<g n)
    {ρ:Nat→Int} (hR:Po (aC P) ρ) (hρ:∀ k,ρ k=conv g F k) (hF0:F m≠0) (hF:∀ i,m<i→F i=0):aV P=badp ∨ ∃ e:Int,(e=1∨e = -1)∧Po (aV P) (fun k=>e * F k):=by
  have hgz:∀ j,n<j→g j=0:=fun j hj=>hG.zero oo_
  have hRl:(aC P).length=n+m+1:=hR.len_top (by rw [hρ,oI hgz hF];exact Int.mul_ne_zero oo_ hF0) fun i hi=>by rw [hρ];exact mE (n:=n+1) (m:=m+1) (fun j hj=>hgz j hj) (fun j hj=>hF j hj) i oo_
  have hlen:=hR.l;unfold aV;rw [hG.nb,hR.nb,Bool.or_false,cond_false,show ((((aC P).length:Nat):Int)==0)=false from beq_eq_false_iff_ne.2 oo_,cond_false]
  rcases NU hG hn hg0 (F:=F) (m:=m) (m+1) ((aC P).length+2) ((((List.replicate ((aC P).length - ((aN P (aF P)).length - 1)) I0).length:Nat):Int) - 1) (aC P) (List.replicate ((aC P).length - ((aN P (aF P)).length - 1)) I0) (by rw [List.length_replicate];omega) oo_ (Nat.le_refl _) hRl (by rw [List.length_replicate];omega) (fun j=>by rw [hR.get,hρ,KF hF]) (fun j=>by rw [KF hF,← hρ];exact hR.B j) (fun j hj=>by
    rw [hF j oo_,← I0_E]
    exact nC (by rw [List.length_replicate];omega)) (fun j hj=>by rw [hF j oo_];exact B0) with e1 | ⟨i',r',f',e1,e2,e3,bF⟩
  · rw [e1];exact .inl rfl
  rw [e1];simp only [sm]
  have hM:Po (bH f') F:=by rw [rM];exact AW e3 bF fun k hk=>hF k oo_
  obtain ⟨e,h1,h2,_⟩:=LJ hM;exact .inr ⟨e,h1,h2⟩
end
theorem MR {p:List I} {c:Nat→Int} (h:Po p c):aF p=badp∨Po (aF p) (dI c):=by
  have hl:=h.l;unfold aF;rw [h.nb,cond_false,oH];have hr:=BV ((List.range (((p.length:Nat):Int) - 1).toNat).map fun y=>gG (kS y p))
  cases hg:(mkP ((List.range (((p.length:Nat):Int) - 1).toNat).map fun y=>gG (kS y p))).all gdI
  · exact .inl (zT hr hg)
  right
  refine RA (fun k hk=>?_) (fun k hk=>?_) oo_ hg
  · show Ix (E (Z.mul (Z.of (((k+1):Nat):Int)) (p.getD (k+1) I0).dec)) (dI c k)
    rw [h.get,bZ];exact JQ ((Zx.of _).mul (.of _))
  unfold dI;rw [h.zero (show p.length≤k+1 by omega),Int.mul_zero]
open Go Go.Kn
open QP (Dv Dg Irr)
structure Rad (p f:QP):Prop where
  ne:f≠QP.C 0
  up:∃ n,Dv p (QP.pow f n)
  dv:Dv f p
  sq:∀ h,Irr h→¬ Dv (h * h) f
theorem IO {p:List I} (h:aN p (aF p)=badp):aV p=badp:=by
  unfold aV;rw [h,w5,Bool.true_or,cond_true,DK]
theorem XO {p:List I} (hp:p.length≤25) (h:aF p=badp):aN p (aF p)=badp:=by
  unfold aN;rw [h,sO,BR p badp _ _ oo_];rfl
theorem Dv.cmul {a b:QP} {s t:Rat} (hs:s≠0) (ht:t≠0) (h:QP.C s * a=QP.C t * b) (x:QP):Dv x a ↔ Dv x b :=
  ⟨fun k=>QP.Dv.scale ht (by rw [← h];exact k.mul_l _),fun k=>QP.Dv.scale hs (by rw [h];exact k.mul_l _)⟩
theorem cH_ {p:List I} {c:Nat→Int} (h:Po p c) (h0:p≠[]):aV p=badp ∨ ∃ F:Nat→Int,∃ hF:Po (aV p) F,Rad (ZP c h.ends) (ZP F hF.ends):=by
  rcases MR h with hd | hd
  · exact .inl (IO (XO h.l hd))
  rcases eq_ h hd with hg | ⟨α,β,g,s,t,ha,hb,hg,s0,t0,ea,eb,ca,cg,hG,hm⟩
  · exact .inl (IO hg)
  have hc0:=h.ne_nil h0
  have hα0:¬ ∀ k,α k=0:=fun hz=>hc0 fun k=>by rw [ea k,hz k,Int.mul_zero]
  have hpr:aC p≠[]:=fun e=>hα0 fun k=>BX ha e k;have hα:Cop α:=ca hpr;obtain ⟨d1,d2⟩:=(hG (ZP g hg.ends)).2 (.refl _);have hα1:=T5 ha.ends hα0
  have hg0:¬ ∀ k,g k=0:=fun hz=>hα1 (by
    have e0:ZP g hg.ends=QP.C 0:=QP.ex fun k=>by rw [lQ,hz k,QP.C0_c];rfl
    rw [e0] at d1
    exact d1.of_zero)
  have hgn:aN p (aF p)≠[]:=fun e=>hg0 fun k=>BX hg e k;have hgc:=cg hgn;obtain ⟨n,n1,n2,n3⟩:=hg.top hgn;obtain ⟨F,eF,hF⟩:=AR hgc hg.ends ha.ends d1;have hFc:Cop F:=CU (s:=g) (by rw [← show α=conv g F from funext hF];exact hα);obtain ⟨m,m1,m2⟩:=(HB eF).resolve_left (CT hFc)
  have hgp:0<g n:=by have:=hm n n3;omega
  rcases cG_ hg n1 hgp ha hF m1 m2 with hf | ⟨e,he,hP⟩
  · exact .inl hf
  right
  have sq:(s:Rat)≠0:=fun e=>by have:=Rat.intCast_eq_zero_iff.1 e;omega
  have tq:(t:Rat)≠0:=fun e=>by have:=Rat.intCast_eq_zero_iff.1 e;omega
  have E1:ZP c h.ends=QP.C (s:Rat) * ZP α ha.ends:=QP.ex fun k=>by rw [QP.C_mul,lQ,lQ,ea k,Rat.intCast_mul]
  have E2:QP.C (s:Rat) * QP.D (ZP α ha.ends)=QP.C (t:Rat) * ZP β hb.ends:=QP.ex fun k=>by
    rw [QP.C_mul,QP.C_mul,QP.D_c,lQ,lQ,← Rat.intCast_mul t,← eb k];unfold dI;rw [ea (k+1),Rat.intCast_mul,Rat.intCast_mul]
    show _=(((k+1:Nat):Rat)) * _
    grind
  have hDv:=Dv.cmul sq tq E2
  have key:∀ x,Irr x→(Dv x (ZP α ha.ends)→Dv x (ZP F eF))∧¬ Dv (x * x) (ZP F eF):=fun x hx=>by
    refine QP.sqf_part (G:=ZP g hg.ends) hα1 ?_ ((hDv _).2 d2) (fun d h1 h2=>(hG d).1 ⟨h1,(hDv d).1 h2⟩) hx;rw [← qN hg.ends eF];exact MZ _ _ hF
  have hF1:=T5 eF (CT hFc)
  have he0:(e:Rat)≠0:=by rcases he with rfl | rfl <;> decide
  have EF:ZP (fun k=>e * F k) hP.ends=QP.C (e:Rat) * ZP F eF:=QP.ex fun k=>by rw [QP.C_mul,lQ,lQ,Rat.intCast_mul]
  have toF:∀ x,Dv x (ZP (fun k=>e * F k) hP.ends) ↔ Dv x (ZP F eF):=fun x=>by
    rw [EF];exact ⟨fun k=>QP.Dv.scale he0 k,fun k=>k.mul_l _⟩
  refine ⟨_,hP,⟨fun e0=>?_,?_,?_,fun x hx k=>(key x hx).2 ((toF _).1 k)⟩⟩
  · rw [EF] at e0
    exact QP.mul_ne (QP.C_dg he0).ne hF1 e0
  · obtain ⟨N,hN⟩:=QP.ex_dg hα1
    refine ⟨N,?_⟩;have h1:Dv (ZP α ha.ends) (QP.pow (ZP (fun k=>e * F k) hP.ends) N):=QP.dvd_pow (fun x hx k=>(toF x).2 ((key x hx).1 k)) N _ hN (.refl _);rw [E1];exact (QP.C_dv sq _).trans h1
  rw [E1];have h1:Dv (ZP F eF) (ZP α ha.ends):=⟨ZP g hg.ends,by rw [QP.mul_comm',← qN hg.ends eF];exact MZ _ _ hF⟩;refine QP.Dv.mul_l (QP.Dv.trans ?_ h1) _;rw [EF];exact QP.C_dv he0 _
end Go.Num
