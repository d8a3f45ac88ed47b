/- Lemmas: what they ask stands in their statements. -/
import Derived.Test.YtokjfhfiodopdaaGreatZLc
set_option linter.unusedSimpArgs false
set_option linter.unusedVariables false
namespace Go.Num
open Go Go.Kn
open QP (V)
theorem x9 {x y:Int} {A:Nat} (h:(x*y).natAbs≤A) (hy:y≠0):x.natAbs≤A:=by
 rw [Int.natAbs_mul] at h;exact Nat.le_trans (Nat.le_mul_of_pos_right _ oo_) h
theorem yA {x y:Int} {A:Nat} (h:(x*y).natAbs≤A) (hx:x≠0):y.natAbs≤A:=x9 (by rwa [Int.mul_comm] at h) hx
theorem WM (g F:Nat→Int):conv g F 0=g 0*F 0∧conv g F 1=g 0*F 1+g 1*F 0∧conv g F 2=g 0*F 2+g 1*F 1+g 2*F 0∧conv g F 3=g 0*F 3+g 1*F 2+g 2*F 1+g 3*F 0:=by
 refine ⟨?_,?_,?_,?_⟩<;>(unfold conv;simp [fY])
theorem X5 {g F P:Nat→Int} {A:Nat} (hP:∀ k,(P k).natAbs≤A) (h:∀ k,P k=conv g F k) (g2:∀ i,1<i→g i=0) (g1:g 1≠0) {m:Nat} (hm:m≤2) (Fm:F m≠0) (Fz:∀ i,m<i→F i=0):(g 0).natAbs≤A∧(g 1).natAbs≤A∧(F m).natAbs≤A:=by
 obtain ⟨c0,c1,c2,c3⟩:=WM g F;have p0:=hP 0;have p1:=hP 1;have p2:=hP 2;rw [h,c0] at p0;rw [h,c1] at p1;rw [h,c2,g2 2 oo_] at p2;have top:=nR (c:=g) (d:=F) (n:=1) (m:=m) g2 Fz;have pt:=hP (1+m);rw [h,top] at pt;refine ⟨?_,x9 pt Fm,yA pt g1⟩
 by_cases z0:F 0=0
 ·rw [z0,Int.mul_zero,Int.add_zero] at p1
  by_cases z1:F 1=0
  ·have:m=2:=by
    rcases Nat.lt_or_ge m 1 with k|k
    ·exact absurd (by rw [show m=0 by omega];exact z0) Fm
    rcases Nat.lt_or_ge m 2 with k'|k'
    ·exact absurd (by rw [show m=1 by omega];exact z1) Fm
    omega
   subst this;rw [z1,z0,Int.mul_zero,Int.mul_zero,Int.add_zero,Int.add_zero] at p2;exact x9 p2 Fm
  exact x9 p1 z1
 exact x9 p0 z0
theorem di_ {g F P:Nat→Int} {A:Nat} (hP:∀ k,(P k).natAbs≤A) (h:∀ k,P k=conv g F k) {n m:Nat} (hnm:n+m≤3) (gn:g n≠0) (gz:∀ i,n<i→g i=0) (Fm:F m≠0) (Fz:∀ i,m<i→F i=0) :
  (F m).natAbs≤A∧((m=2∧∀ k,(F k).natAbs≤A+A*(A+A*A))∨(m≠2∧∀ k,(F k).natAbs≤A)):=by
 have top:=nR (c:=g) (d:=F) (n:=n) (m:=m) gz Fz;have pt:=hP (n+m);rw [h,top] at pt;have Fle:=yA pt gn;refine ⟨Fle,?_⟩;have A0:A≤A+A*(A+A*A):=Nat.le_add_right _ _
 by_cases n0:n=0
 ·subst n0
  have hF:∀ k,(F k).natAbs≤A:=fun k=>by
   have e:conv g F k=g 0*F k:=by
    by_cases hk:k≤3
    ·obtain ⟨c0,c1,c2,c3⟩:=WM g F
     have z1:=gz 1 oo_;have z2:=gz 2 oo_;have z3:=gz 3 oo_;rcases (show k=0∨k=1∨k=2∨k=3 by omega) with r|r|r|r<;>subst r
     ·exact c0
     ·rw [c1,z1,Int.zero_mul,Int.add_zero]
     ·rw [c2,z1,z2,Int.zero_mul,Int.zero_mul,Int.add_zero,Int.add_zero]
     rw [c3,z1,z2,z3,Int.zero_mul,Int.zero_mul,Int.zero_mul,Int.add_zero,Int.add_zero,Int.add_zero]
    rw [Fz k oo_,Int.mul_zero];exact lQ (n:=1) (m:=m+1) (fun j hj=>gz j oo_) (fun j hj=>Fz j oo_) k oo_
   have:=hP k;rw [h,e] at this;exact yA this gn
  by_cases m2:m=2
  ·exact .inl ⟨m2,fun k=>Nat.le_trans (hF k) A0⟩
  exact .inr ⟨m2,hF⟩
 by_cases m0:m=0
 ·subst m0
  refine .inr ⟨by decide,fun k=>?_⟩
  by_cases hk:k=0
  ·subst hk;exact Fle
  rw [Fz k oo_];exact Nat.zero_le _
 by_cases m1:m=1
 ·subst m1
  obtain ⟨l0,l1,_⟩:=X5 (g:=F) (F:=g) (P:=P) hP (fun k=>by rw [h,rH]) Fz Fm (m:=n) oo_ gn gz;refine .inr ⟨by decide,fun k=>?_⟩;rcases (show k=0∨k=1∨1<k by omega) with r|r|r
  ·subst r;exact l0
  ·subst r;exact l1
  rw [Fz k r];exact Nat.zero_le _
 obtain rfl:m=2:=by omega
 obtain rfl:n=1:=by omega
 obtain ⟨g0,g1,F2⟩:=X5 hP h gz gn (m:=2) oo_ Fm Fz;refine .inl ⟨rfl,?_⟩;obtain ⟨c0,c1,c2,c3⟩:=WM g F;have p1:=hP 1;have p2:=hP 2;rw [h,c1] at p1;rw [h,c2,gz 2 oo_,Int.zero_mul,Int.add_zero] at p2
 have F1:(F 1).natAbs≤A+A*A:=by
  refine yA (x:=g 1) ?_ gn
  have e:g 1*F 1=(g 0*F 2+g 1*F 1) - g 0*F 2:=by omega
  have h1:(g 0*F 2).natAbs≤A*A:=by rw [Int.natAbs_mul];exact Nat.mul_le_mul g0 F2
  omega
 have F0:(F 0).natAbs≤A+A*(A+A*A):=by
  refine yA (x:=g 1) ?_ gn
  have e:g 1*F 0=(g 0*F 1+g 1*F 0) - g 0*F 1:=by omega
  have h1:(g 0*F 1).natAbs≤A*(A+A*A):=by rw [Int.natAbs_mul];exact Nat.mul_le_mul g0 F1
  omega
 have A1:A*A≤A*(A+A*A):=Nat.mul_le_mul_left _ (Nat.le_add_right _ _);intro k;rcases (show k=0∨k=1∨k=2∨2<k by omega) with r|r|r|r
 ·subst r;exact F0
 ·subst r;omega
 ·subst r;omega
 rw [Fz k r];exact Nat.zero_le _
def one (i:Nat):Int:=if i=0 then 1 else 0
theorem FT (c:Nat→Int) (k:Nat):conv one c k=c k:=by rw [rH];unfold one;rw [WO,Int.mul_one]
theorem bj_:Cop one:=fun u h=>h 0
theorem b0_ {c:Nat→Int} {n b:Nat} (h:Bd c n b) (hn:n≤4):Bd (dI c) (n - 1) (b+2):=by
 refine ⟨fun k hk=>by unfold dI;rw [h.z _ oo_,Int.mul_zero],fun k=>?_⟩;unfold dI
 by_cases hk:k+1<n
 ·rw [Int.natAbs_mul,Int.natAbs_natCast,Nat.pow_add _ b 2,Nat.mul_comm]
  have h1:=h.b (k+1);have h2:(c (k+1)).natAbs*(k+1)≤(c (k+1)).natAbs*2 ^ 2:=Nat.mul_le_mul_left _ (by show k+1≤4;omega);have h3:(c (k+1)).natAbs*2 ^ 2<2 ^ b*2 ^ 2:=Nat.mul_lt_mul_of_pos_right h1 dd_;omega
 rw [h.z _ oo_,Int.mul_zero];exact Nat.pow_pos dd_
theorem N8 {p:List I} {c:Nat→Int} (h:Po p c) {n M:Nat} (hz:∀ i,n<i→c i=0) (hb:∀ k,(c k).natAbs≤M):Pr (fun k=>(c k).fdiv (cN p)) n M:=by
 by_cases h0:p=[]
 ·have hz':∀ k,c k=0:=fun k=>h.zero (by rw [h0];exact Nat.zero_le _)
  exact ⟨fun i _=>by rw [hz' i,Int.zero_fdiv],fun k=>by rw [hz' k,Int.zero_fdiv];exact Nat.zero_le _,.inr fun k=>by rw [hz' k,Int.zero_fdiv]⟩
 exact ⟨fun i hi=>by rw [hz i hi,Int.zero_fdiv],fun k=>Nat.le_trans (RK (h.cpos h0) (h.dvd k)) (hb k),.inl (FY h h0)⟩
theorem fa_:okT 1 0 (2 ^ 103) 4 3 2 (2 ^ 32) (2 ^ 34)=true:=by kernel_rfl
theorem ce_:2 ^ 32+2 ^ 32*(2 ^ 32+2 ^ 32*2 ^ 32)<2 ^ 98:=by decide
structure Fs (F:Nat→Int) (m:Nat):Prop where
 top:F m≠0
 z:∀ i,m<i→F i=0
 m3:m≤3
 lead:(F m).natAbs≤2 ^ 32
 b:(m=2∧∀ k,(F k).natAbs<2 ^ 98)∨(m≠2∧∀ k,(F k).natAbs≤2 ^ 32)
theorem PF {p:List I} {c:Nat→Int} (h:Po p c) (hb:Bd c 4 32) (h0:p≠[]):∃ (F:Nat→Int) (m:Nat),Po (aV p) F∧Fs F m:=by
 have hd:=b0_ hb dd_;have hD:Po (aE p) (dI c):=HS h fun k=>n4 (hd.b k) dd_;have pa:=N8 h (n:=3) (M:=2 ^ 32) (fun i hi=>hb.z i oo_) (fun k=>Nat.le_of_lt (hb.b k));have pb:=N8 hD (n:=2) (M:=2 ^ 34) (fun i hi=>hd.z i oo_) (fun k=>Nat.le_of_lt (hd.b k));have hα:=tB h;have hβ:=tB hD;obtain ⟨g,F,n,eρ,eF,hG,g0,gz,gB,gC,FC,hF,_⟩:=dV_ bj_ (ds:=0) (S:=1) dd_ (fun i hi=>if_neg oo_) (fun k=>by unfold one;split<;>decide) h h0 hD pa pb fa_ (hα.cast fun k=>(FT (fun k=>(c k).fdiv (cN p)) k).symm) (hβ.cast fun k=>(FT (fun k=>(dI c k).fdiv (cN (aE p))) k).symm)
 have hF':∀ k,(c k).fdiv (cN p)=conv g F k:=fun k=>by rw [← hF k,FT]
 obtain ⟨m,m1,m2⟩:=(GU eF).resolve_left (CC FC)
 have gn:g n≠0:=by omega
 have hnm:n+m≤3:=by
  rcases Nat.lt_or_ge 3 (n+m) with k|k
  ·exfalso
   have e1:=hF' (n+m);rw [nR gz m2,hb.z _ oo_,Int.zero_fdiv] at e1;exact (Int.mul_ne_zero gn m1) e1.symm
  exact k
 obtain ⟨f1,f2⟩:=di_ (A:=2 ^ 32) pa.b hF' hnm gn gz m1 m2
 have hA:∀ i,(F i).natAbs≤2 ^ 98:=fun i=>by
  rcases f2 with ⟨_,f⟩|⟨_,f⟩
  ·exact Nat.le_trans (f i) (Nat.le_of_lt ce_)
  exact Nat.le_trans (f i) dd_
 have hl:(aL p (aE p)).length=n+1:=hG.len_top gn gz
 obtain ⟨e,he,hP,_⟩:=VE hG hl g0 (A:=2 ^ 98) (B:=(0+1)*(1*2 ^ 103)) hA gB (by
  have:n+1≤4:=by omega
  refine Nat.lt_of_le_of_lt (Nat.mul_le_mul_right _ this) dd_) hα hF' m1 m2
 have ab:∀ k,(e*F k).natAbs=(F k).natAbs:=fun k=>by
  rcases he with rfl|rfl
  ·rw [Int.one_mul]
  rw [Int.neg_one_mul,Int.natAbs_neg]
 refine ⟨_,m,hP,?_,fun i hi=>by rw [m2 i hi,Int.mul_zero],by omega,by rw [ab];exact f1,?_⟩
 ·rcases he with rfl|rfl
  ·rw [Int.one_mul];exact m1
  rw [Int.neg_one_mul];omega
 rcases f2 with ⟨hm,f⟩|⟨hm,f⟩
 ·exact .inl ⟨hm,fun k=>by rw [ab];exact Nat.lt_of_le_of_lt (f k) ce_⟩
 exact .inr ⟨hm,fun k=>by rw [ab];exact f k⟩
def AJ (s:Nat) (x:List I):Prop:=∃ c n b,Po x c∧Bd c n b∧n≤4∧b+s*n+3≤512
def okS (s:Nat):Nat→Nat→Nat→Nat→Nat→Bool
 | 0,_,_,_,_=>false
 | f+1,n0,n1,b0,b1=>(List.range (n1+1)).all fun n =>
  decide (n≤3)&&decide (((if n=0 then 1 else b1)+1)*(n0+1 - n)+b0+1≤512)&&decide ((if n=0 then 1 else b1)+s*(n+1)+3≤512)&&(decide (n=0)||okS s f n (n - 1) (if n=0 then 1 else b1) (((if n=0 then 1 else b1)+1)*(n0+1 - n)+b0+1))
theorem dF_ {s f n0 n1 b0 b1 n:Nat} (h:okS s (f+1) n0 n1 b0 b1=true) (hn:n≤n1):n≤3∧((if n=0 then 1 else b1)+1)*(n0+1 - n)+b0+1≤512∧(if n=0 then 1 else b1)+s*(n+1)+3≤512∧(n=0∨okS s f n (n - 1) (if n=0 then 1 else b1) (((if n=0 then 1 else b1)+1)*(n0+1 - n)+b0+1)=true):=by
 unfold okS at h;rw [List.all_eq_true] at h;have h4:=h n (List.mem_range.2 oo_);rw [Bool.and_eq_true,Bool.and_eq_true,Bool.and_eq_true,Bool.or_eq_true] at h4;obtain ⟨⟨⟨h5,h6⟩,h7⟩,h8⟩:=h4;exact ⟨of_decide_eq_true h5,of_decide_eq_true h6,of_decide_eq_true h7,h8.imp of_decide_eq_true id⟩
theorem e0_ {x k:Nat} (m:Nat) (hm:4294967296 ^ 16=2 ^ m) (h:x<2 ^ k) (hk:k≤m):x<4294967296 ^ 16:=by
 rw [hm];exact Nat.lt_of_lt_of_le h (Nat.pow_le_pow_right dd_ hk)
theorem ZV {a b:List I} {α β:Nat→Int} {n0 n b0 b1:Nat} (ha:Po a α) (hb:Po b β) (za:∀ i,n0<i→α i=0) (ba:∀ k,(α k).natAbs<2 ^ b0) (tb:β n≠0) (zb:∀ i,n<i→β i=0) (bb:∀ k,(β k).natAbs<2 ^ b1) (hk:(b1+1)*(n0+1 - n)+b0+1≤512) :
  ∃ γ:Nat→Int,Po (aC (bS (bD a b) (E (Z.of (-1))))) γ∧(∀ k,(γ k).natAbs<2 ^ ((b1+1)*(n0+1 - n)+b0+1))∧(∀ i,n≤i→γ i=0)∧(aC (bS (bD a b) (E (Z.of (-1))))≠[]→Cop γ):=by
 have hl:b.length=n+1:=hb.len_top tb zb;have hal:a.length≤n0+1:=ha.short fun k hk=>za k oo_
 have o1:((β n).sign).natAbs≤1:=by
  have:=BT (β n);omega
 have B1:1≤2 ^ b1:=Nat.one_le_two_pow
 have an:((β n).natAbs:Int).natAbs≤2 ^ b1:=by rw [Int.natAbs_natCast];exact Nat.le_of_lt (bb n)
 have hm:a.length - n≤n0+1 - n:=by omega
 have e1:(2*2 ^ b1) ^ (a.length - n)*2 ^ b0≤2 ^ ((b1+1)*(n0+1 - n)+b0):=by
  rw [show 2*2 ^ b1=2 ^ (b1+1) by rw [Nat.pow_succ,Nat.mul_comm],← Nat.pow_mul,← Nat.pow_add];refine Nat.pow_le_pow_right dd_ ?_;have:=Nat.mul_le_mul_left (b1+1) hm;omega
 have e2:2 ^ ((b1+1)*(n0+1 - n)+b0)<2 ^ ((b1+1)*(n0+1 - n)+b0+1):=Nat.pow_lt_pow_right dd_ (Nat.lt_succ_self _);have hB:=JE (n:=n) B1 an o1 (fun k=>Nat.le_of_lt (bb k)) (a.length - n) (2 ^ b0) α (fun k=>Nat.le_of_lt (ba k)) (e0_ 512 LY (Nat.lt_of_le_of_lt e1 e2) hk);have hr:=VL ha hb hl hB;have hrl:=LA (n:=n) an o1 (fun k=>Nat.le_of_lt (bb k)) (a.length - n) (2 ^ b0) α (fun k=>Nat.le_of_lt (ba k));have hrz:=CV (a:=((β n).natAbs:Int)) (o:=(β n).sign) (d:=β) (n:=n) (GF _) zb (a.length - n) α (fun k hk=>ha.zero oo_)
 have hs:Po (bS (bD a b) (E (Z.of (-1)))) _:=MH hr dd_ (fun k=>by
  have:=hr.B k;unfold cX at *;rwa [Int.mul_neg_one,Int.natAbs_neg])
 obtain ⟨γ,t,t0,tp,hγ,e4,hc⟩:=tX hs;refine ⟨γ,hγ,fun k=>?_,fun i hi=>?_,hc⟩
 ·have h1:(t*γ k).natAbs<2 ^ ((b1+1)*(n0+1 - n)+b0+1):=by
   rw [← e4 k,Int.mul_neg_one,Int.natAbs_neg];have:=hrl k;omega
  rw [Int.natAbs_mul] at h1;exact Nat.lt_of_le_of_lt (Nat.le_mul_of_pos_left _ oo_) h1
 have h1:=e4 i;rw [hrz i hi,Int.zero_mul] at h1;rcases Int.mul_eq_zero.1 h1.symm with k|k
 ·exact absurd k t0
 exact k
theorem OX {s:Nat} (p:List I):∀ (f n0 n1 b0 b1 k:Nat) (pre:List (List I)) (last next:List I) (α β:Nat→Int),okS s f n0 n1 b0 b1=true→Po last α→Po next β→(∀ i,n0<i→α i=0)→(∀ k,(α k).natAbs<2 ^ b0) →
  (∀ i,n1<i→β i=0)→(∀ k,(β k).natAbs<2 ^ b1)→(next≠[]→Cop β)→gmP next<k→∃ s':List (List I)×List I,cT p k (pre++[last]) next = .inl s'∧∀ x∈s'.1,x∈pre++[last]∨AJ s x
 | 0,_,_,_,_,_,_,_,_,_,_,h,_,_,_,_,_,_,_,_=>absurd h (by unfold okS;decide)
 | f+1,n0,n1,b0,b1,0,_,_,_,_,_,_,_,_,_,_,_,_,_,hk=>absurd hk (Nat.not_lt_zero _)
 | f+1,n0,n1,b0,b1,k+1,pre,last,next,α,β,h,ha,hb,za,ba,zb,bb,hC,hk=>by
  unfold cT
  by_cases h0:next=[]
  ·subst h0
   exact ⟨_,rfl,fun x hx=>.inl hx⟩
  have hl:0<next.length:=List.length_pos_iff.2 h0
  rw [decide_eq_true (show 0<(next.length:Int) by omega),cond_true,FB,yZ];obtain ⟨n,n1',n2,n3⟩:=hb.top h0
  have hn:n≤n1:=by
   rcases Nat.lt_or_ge n1 n with q|q
   ·exact absurd (zb n q) n2
   exact q
  obtain ⟨w1,w2,w3,w4⟩:=dF_ h hn
  have bb':∀ k,(β k).natAbs<2 ^ (if n=0 then 1 else b1):=fun k=>by
   by_cases hn0:n=0
   ·rw [if_pos hn0]
    subst hn0;have:=CB (hC h0) n3
    by_cases hk0:k=0
    ·subst hk0;omega
    rw [n3 k oo_];decide
   rw [if_neg hn0];exact bb k
  obtain ⟨γ,g1,g2,g3,g4⟩:=ZV ha hb za ba n2 n3 bb' w2;rw [g1.nb,cond_false]
  have hT:AJ s next:=⟨β,n+1,_,hb,⟨fun k hk=>n3 k oo_,bb'⟩,by omega,w3⟩
  have lift:∀ {s':List (List I)×List I},(∀ x∈s'.1,x∈(pre++[last])++[next]∨AJ s x)→∀ x∈s'.1,x∈pre++[last]∨AJ s x:=fun hx x hm=>by
   rcases hx x hm with q|q
   ·rcases List.mem_append.1 q with q|q
    ·exact .inl q
    rw [List.mem_singleton.1 q];exact .inr hT
   exact .inr q
  have hgm:gmP (aC (bS (bD last next) (E (Z.of (-1)))))<gmP next:=by
   have h1:=(LQ (n:=E (Z.of (-1))) (a:=last) hb.l g1.g).2;unfold gmP;rw [g1.g,hb.g,cond_true,cond_true];omega
  rcases w4 with w4|w4
  ·have hnil:aC (bS (bD last next) (E (Z.of (-1))))=[]:=g1.nil fun k=>g3 k oo_
   rw [hnil];obtain ⟨k,rfl⟩:∃ j,k=j+1:=⟨k - 1,by omega⟩;refine ⟨((pre++[last])++[next],[]),by unfold cT;rfl,lift fun x hx=>.inl hx⟩
  obtain ⟨s',e,hs'⟩:=OX p f n (n - 1) _ _ k (pre++[last]) next _ β γ w4 hb g1 n3 bb' (fun i hi=>g3 i oo_) g2 g4 oo_
  exact ⟨s',e,lift hs'⟩
theorem gm_:okS 119 4 3 2 33 35=true:=by kernel_rfl
theorem gl_:okS 119 4 2 1 98 100=true:=by kernel_rfl
theorem OZ {p:List I} {c:Nat→Int} (h:Po p c) (hb:Bd c 4 32) (h0:p≠[]):(aH p).2=true∧(∃ F m,Po (aV p) F∧Fs F m)∧∀ x∈(aH p).1,AJ 119 x:=by
 obtain ⟨F,m,hF,fs⟩:=PF h hb h0;have hne:aV p≠[]:=fun e=>fs.top (hF.zero (by rw [e];exact Nat.zero_le _))
 have key:∀ {n0 b0:Nat},n0≤3→(∀ i,n0<i→F i=0)→(∀ k,(F k).natAbs<2 ^ b0)→b0+2≤512→okS 119 4 n0 (n0 - 1) b0 (b0+2)=true→b0+119*(n0+1)+3≤512→(aH p).2=true∧∀ x∈(aH p).1,AJ 119 x:=fun {n0 b0} hn zF bF hb2 hok hTm=>by
  have bd:Bd F (n0+1) b0:=⟨fun k hk=>zF k oo_,bF⟩;have hd:=b0_ bd oo_;have hD:Po (aE (aV p)) (dI F):=HS hF fun k=>n4 (hd.b k) hb2;obtain ⟨γ,t,t0,tp,hγ,e1,hc⟩:=tX hD
  have gz:∀ i,n0 - 1<i→γ i=0:=fun i hi=>by
   have h1:=e1 i;rw [hd.z i oo_] at h1;rcases Int.mul_eq_zero.1 h1.symm with k|k
   ·exact absurd k t0
   exact k
  have gb:∀ k,(γ k).natAbs<2 ^ (b0+2):=fun k=>by
   have h1:=hd.b k;rw [e1 k,Int.natAbs_mul] at h1;exact Nat.lt_of_le_of_lt (Nat.le_mul_of_pos_left _ oo_) h1
  obtain ⟨s',e,hs'⟩:=OX (s:=119) p 4 n0 (n0 - 1) b0 (b0+2) (gmP (aC (aE (aV p)))+1) [] (aV p) _ F γ hok hF hγ zF bF gz gb hc (Nat.lt_succ_self _);have hT:AJ 119 (aV p):=⟨F,n0+1,b0,hF,bd,by omega,hTm⟩
  have hall:∀ x∈s'.1,AJ 119 x:=fun x hx=>by
   rcases hs' x hx with q|q
   ·rw [List.mem_singleton.1 q];exact hT
   exact q
  rw [List.nil_append] at e;unfold aH;rw [e]
  show (sm (fun (_:Unit)=>(s'.1,true)) (fun r=>r) (cY p s'.1 s'.2 s'.1)).2=true∧∀ x∈(sm (fun (_:Unit)=>(s'.1,true)) (fun r=>r) (cY p s'.1 s'.2 s'.1)).1,AJ 119 x
  rw [NU p s'.1 s'.2 s'.1 fun x hx=>by obtain ⟨c,_,_,hc,_⟩:=hall x hx;exact hc.nb];exact ⟨rfl,hall⟩
 have res:(aH p).2=true∧∀ x∈(aH p).1,AJ 119 x:=by
  rcases fs.b with ⟨hm,hB⟩|⟨hm,hB⟩
  ·subst hm
   exact key (n0:=2) (b0:=98) dd_ fs.z hB dd_ gl_ dd_
  have:=fs.m3;exact key (n0:=3) (b0:=33) dd_ (fun i hi=>fs.z i oo_) (fun k=>Nat.lt_of_le_of_lt (hB k) dd_) dd_ gm_ dd_
 exact ⟨res.1,⟨F,m,hF,fs⟩,res.2⟩
open QP (V Rb Two Cub)
theorem tM {s:Nat} {x:List I} {y:Rt} {q:Rat} (hT:AJ s x) (hy:y.At q) (sq:Sz q s):(aF x y).2=true:=by
 obtain ⟨c,n,b,hc,hb,hn,hk⟩:=hT;exact (MJ (e:=2) hc hb hy sq hn oo_).1
theorem V8 (c:List (List I)) (x:Rt):∀ (l:List (List I)) (s n:W),(∀ f∈l,(aF f x).2=true)→∃ r,dU c x l s n = .inl r
 | [],s,n,_=>⟨_,rfl⟩
 | f::l,s,n,h=>by
  unfold dU;have hr:=MI f x;have hl:∀ g∈l,(aF g x).2=true:=fun g hg=>h g (List.mem_cons_of_mem _ hg);rw [h f (List.mem_cons_self),cond_true];rw [show ((aF f x).1.1==(-2))=false by simp;omega,cond_false]
  cases ((aF f x).1.1 != 0)
  ·exact V8 c x l _ _ hl
  ·cases ((s.1 != 0)&&((aF f x).1.1 != s.1))<;>exact V8 c x l _ _ hl
theorem EY {L:List (List I)} {x:Rt} (h:∀ f∈L,(aF f x).2=true):(bZ L x).2=true:=by
 obtain ⟨r,e⟩:=V8 L x L (wl 0) (wl 0) h;unfold bZ;rw [e];rfl
theorem WR {s:Nat} {L:List (List I)} {a b:Rt} {u v:Rat} (hT:∀ f∈L,AJ s f) (ha:a.At u) (hb:b.At v) (su:Sz u s) (sv:Sz v s):(aG L a b).2=true:=by
 unfold aG
 show ((bZ L a).2&&(bZ L b).2)=true
 rw [EY fun f hf=>tM (hT f hf) ha su,EY fun f hf=>tM (hT f hf) hb sv];rfl
theorem OU {x:Rt} (h:iQ x=true):∃ q,x.At q∧Sz q 12:=by
 unfold iQ at h;simp only [Bool.and_eq_true,decide_eq_true_eq] at h;obtain ⟨g,h1,h2⟩:=h;obtain ⟨q,hq⟩:=RU g;have i:=At.is hq;rw [i.en,cJ] at h1;rw [i.ed,cJ] at h2;refine ⟨q,hq,JO i.hn h1,?_⟩;have:=JO i.hd h2
 rwa [Int.natAbs_natCast] at this
theorem MK {p:List I} {a b:Rt} {k:W} (h:eC p a b k=true):dZ p 3 32=true∧(∃ q,a.At q∧Sz q 12)∧(∃ q,b.At q∧Sz q 12)∧k.1≤16:=by
 unfold eC at h;simp only [Bool.and_eq_true,decide_eq_true_eq] at h;exact ⟨h.1,OU h.2.1,OU h.2.2.1,h.2.2.2⟩
structure Pt (A B:Rat) (P j:Int) (x:Rat):Prop where
 p:0<P
 j0:0≤j
 j1:j≤P
 e:(P:Rat)*x=((P - j:Int):Rat)*A+(j:Rat)*B
theorem Pt.sz {A B x:Rat} {k:Nat} {j:Int} (h:Pt A B (2 ^ k) j x) (hA:Sz A 12) (hB:Sz B 12):Sz x (24+k):=by
 have a1:=y5 A;have b1:=y5 B;have a2:=@mY A;have b2:=@mY B;have e:=h.e;have P0:=h.p;have J0:=h.j0;have J1:=h.j1;have e24:(2:Nat) ^ (24+k)=2 ^ 24*2 ^ k:=Nat.pow_add _ _ _
 have ePk:((2:Int) ^ k).natAbs=2 ^ k:=by rw [Int.natAbs_pow];rfl
 refine bS_ (n:=A.num*B.den*(2 ^ k - j)+B.num*A.den*j) (d:=A.den*B.den*2 ^ k) ?_ (Int.mul_pos (Int.mul_pos a2 b2) P0) ?_ ?_
 ·simp only [Rat.intCast_add,Rat.intCast_sub,Rat.intCast_mul] at e ⊢
  rw [← a1,← b1];generalize ((2 ^ k:Int):Rat)=P at *;generalize ((A.den:Int):Rat)=d at *;generalize ((B.den:Int):Rat)=f at *
  have:d*f*P*x=d*f*(P*x):=by grind
  rw [this,e];grind
 ·have h1:(A.num*B.den).natAbs≤2 ^ 24 - 1:=by
   have:=xZ hA.n (show (B.den:Int).natAbs<2 ^ 12 by rw [Int.natAbs_natCast];exact hB.d);omega
  have h2:(B.num*A.den).natAbs≤2 ^ 24 - 1:=by
   have:=xZ hB.n (show (A.den:Int).natAbs<2 ^ 12 by rw [Int.natAbs_natCast];exact hA.d);omega
  rw [e24]
  have t1:(A.num*B.den*(2 ^ k - j)).natAbs≤(2 ^ 24 - 1)*(2 ^ k - j:Int).natAbs:=by rw [Int.natAbs_mul];exact Nat.mul_le_mul_right _ h1
  have t2:(B.num*A.den*j).natAbs≤(2 ^ 24 - 1)*j.natAbs:=by rw [Int.natAbs_mul];exact Nat.mul_le_mul_right _ h2
  have t3:(2 ^ k - j:Int).natAbs+j.natAbs=2 ^ k:=by rw [← ePk];omega
  have t4:(2 ^ 24 - 1)*(2 ^ k - j:Int).natAbs+(2 ^ 24 - 1)*j.natAbs=(2 ^ 24 - 1)*2 ^ k:=by rw [← Nat.mul_add,t3]
  have t5:(2 ^ 24 - 1)*2 ^ k<2 ^ 24*2 ^ k:=Nat.mul_lt_mul_of_pos_right dd_ (Nat.pow_pos dd_);omega
 rw [Int.natAbs_mul,ePk,e24];refine Nat.mul_lt_mul_of_pos_right ?_ (Nat.pow_pos dd_);exact xZ (b:=12) (b':=12) (by rw [Int.natAbs_natCast];exact hA.d) (by rw [Int.natAbs_natCast];exact hB.d)
structure It (A B:Rat) (P j:Int) (u v:Rat):Prop where
 lo:Pt A B P j u
 hi:Pt A B P (j+1) v
theorem It.one (A B:Rat):It A B (2 ^ 0) 0 A B:=by
 have e1:(((2:Int) ^ 0:Int):Rat)=1:=rfl;have e2:(((2:Int) ^ 0 - 0:Int):Rat)=1:=rfl;have e3:(((2:Int) ^ 0 - (0+1):Int):Rat)=0:=rfl;have e4:(((0:Int)+1:Int):Rat)=1:=rfl;have e5:((0:Int):Rat)=0:=rfl;exact ⟨⟨by decide,by decide,by decide,by rw [e1,e2,e5];grind⟩,⟨by decide,by decide,by decide,by rw [e1,e3,e4];grind⟩⟩
theorem It.len {A B:Rat} {P j:Int} {u v:Rat} (h:It A B P j u v):(P:Rat)*(v - u)=B - A:=by
 have a:=h.lo.e;have b:=h.hi.e;simp only [Rat.intCast_add,Rat.intCast_sub] at a b;have e:((1:Int):Rat)=1:=rfl;rw [e] at b
 grind
theorem It.mid {A B:Rat} {P j:Int} {u v:Rat} (h:It A B P j u v):Pt A B (P*2) (j*2+1) ((u+v)*(1 / 2)):=by
 have a:=h.lo.e;have b:=h.hi.e;have p0:=h.lo.p;have j0:=h.lo.j0;have j1:=h.hi.j1;refine ⟨by omega,by omega,by omega,?_⟩;simp only [Rat.intCast_add,Rat.intCast_sub,Rat.intCast_mul] at a b ⊢;have e:((1:Int):Rat)=1:=rfl;have e':((2:Int):Rat)=2:=rfl;rw [e] at b ⊢;rw [e']
 grind
theorem Pt.dbl {A B:Rat} {P j:Int} {x:Rat} (h:Pt A B P j x):Pt A B (P*2) (j*2) x:=by
 have a:=h.e;have p0:=h.p;have j0:=h.j0;have j1:=h.j1;refine ⟨by omega,by omega,by omega,?_⟩;simp only [Rat.intCast_sub,Rat.intCast_mul] at a ⊢;have e':((2:Int):Rat)=2:=rfl;rw [e']
 grind
theorem It.left {A B:Rat} {k:Nat} {j:Int} {u v:Rat} (h:It A B (2 ^ k) j u v):It A B (2 ^ (k+1)) (j*2) u ((u+v)*(1 / 2)):=by
 rw [Int.pow_succ];exact ⟨h.lo.dbl,h.mid⟩
theorem It.right {A B:Rat} {k:Nat} {j:Int} {u v:Rat} (h:It A B (2 ^ k) j u v):It A B (2 ^ (k+1)) (j*2+1) ((u+v)*(1 / 2)) v:=by
 rw [Int.pow_succ];refine ⟨h.mid,?_⟩;rw [show j*2+1+1=(j+1)*2 by omega];exact h.hi.dbl
theorem It.lt {A B:Rat} {P j:Int} {u v:Rat} (h:It A B P j u v) (hAB:A<B):u<v:=by
 have a:=h.len;have p0:(0:Rat)<(P:Rat):=Rat.intCast_pos.2 h.lo.p
 apply Rat.not_le.1
 intro hn;have:=Rat.mul_nonneg (Rat.le_of_lt p0) (show (0:Rat)≤u - v by grind)
 grind
theorem It.le {A B:Rat} {P j:Int} {u v:Rat} (h:It A B P j u v) (hAB:A≤B):u≤v:=by
 have a:=h.len;have p0:(0:Rat)<(P:Rat):=Rat.intCast_pos.2 h.lo.p
 apply Rat.not_lt.1
 intro hn;have:=Rat.mul_pos p0 (show (0:Rat)<u - v by grind)
 grind
theorem Pt.ge {A B:Rat} {P j:Int} {x:Rat} (h:Pt A B P j x) (hAB:A≤B):A≤x∧x≤B:=by
 have a:=h.e;have p0:(0:Rat)<(P:Rat):=Rat.intCast_pos.2 h.p;have j0:(0:Rat)≤(j:Rat):=Rat.intCast_nonneg.2 h.j0;have j1:(0:Rat)≤((P - j:Int):Rat):=Rat.intCast_nonneg.2 (by have:=h.j1;omega);have b1:=Rat.mul_nonneg j0 (show 0≤B - A by grind);have b2:=Rat.mul_nonneg j1 (show 0≤B - A by grind);rw [Rat.intCast_sub] at a b2
 constructor
 ·apply Rat.not_lt.1
  intro hn;have:=Rat.mul_pos p0 (show (0:Rat)<A - x by grind)
  grind
 apply Rat.not_lt.1
 intro hn;have:=Rat.mul_pos p0 (show (0:Rat)<x - B by grind)
 grind
theorem cu_ {q:Rat} {k:Nat} (h:Sz q k):Ab q (((2 ^ k:Nat):Int):Rat):=by
 have a1:=y5 q;have a2:=@mY q
 have d1:(1:Rat)≤((q.den:Int):Rat):=by
  rw [show (1:Rat)=((1:Int):Rat) from rfl];exact Rat.intCast_le_intCast.2 oo_
 have n1:((q.num:Int):Rat)≤(((2 ^ k:Nat):Int):Rat):=Rat.intCast_le_intCast.2 (by have:=h.n;omega)
 have n2:(-(((2 ^ k:Nat):Int):Rat))≤((q.num:Int):Rat):=by
  rw [← Rat.intCast_neg];exact Rat.intCast_le_intCast.2 (by have:=h.n;omega)
 have m0:(0:Rat)≤(((2 ^ k:Nat):Int):Rat):=Rat.intCast_nonneg.2 (Int.natCast_nonneg _);generalize (((2 ^ k:Nat):Int):Rat)=M at *;generalize ((q.den:Int):Rat)=d at *;rw [← a1] at n1 n2
 constructor
 ·apply Rat.not_lt.1
  intro hn;have k1:=Rat.mul_nonneg (show (0:Rat)≤d - 1 by grind) (show (0:Rat) ≤ -q - M by grind);have k2:=Rat.mul_nonneg (show (0:Rat)≤d - 1 by grind) m0
  grind
 apply Rat.not_lt.1
 intro hn;have k1:=Rat.mul_nonneg (show (0:Rat)≤d - 1 by grind) (show (0:Rat)≤q - M by grind);have k2:=Rat.mul_nonneg (show (0:Rat)≤d - 1 by grind) m0
 grind
theorem dU_ {p f:QP} (h:Rad p f) (x:Rat):¬ (f.ev x=0∧(QP.D f).ev x=0):=fun ⟨h1,h2⟩=>by
 obtain ⟨g,u,v,e,d1,d2⟩:=QP.bezout f (QP.D f);have hg:g≠QP.C 0:=fun e0=>h.ne (by rw [e0] at d1;exact d1.of_zero);obtain ⟨n,hn⟩:=QP.ex_dg hg;have n0:=QP.sqf_co h.sq d1 d2 hn;subst n0;have e1:=QP.dg_C hn
 have e2:g.ev x=0:=by rw [e,QP.ev_add,QP.ev_mul,QP.ev_mul,h1,h2];grind
 rw [e1,QP.ev_C] at e2;exact hn.1 e2
theorem db_ {F:Nat→Int} (e:mE F) (hz:∀ i,3<i→F i=0):Cub (ZP F e) (F 3) (F 2) (F 1) (F 0):=by
 refine ⟨fun x=>?_,fun x=>?_⟩
 ·rw [QP.ev_vl (n:=4) fun i hi=>by rw [kU,hz i oo_];rfl]
  unfold vl;simp only [fY,kU,Rat.pow_zero,Rat.pow_succ]
  grind
 rw [QP.ev_vl (n:=3) fun i hi=>by rw [QP.D_c,kU,hz (i+1) oo_];exact Rat.mul_zero _];unfold vl;simp only [fY,QP.D_c,kU,Rat.pow_zero,Rat.pow_succ];have n1:(((0+1:Nat):Nat):Rat)=1:=rfl;have n2:(((1+1:Nat):Nat):Rat)=2:=rfl;have n3:(((2+1:Nat):Nat):Rat)=3:=rfl;rw [n1,n2,n3]
 grind
theorem gu_:QP.sepC (4294967296:Rat) 4096≤2 ^ 159:=by
 unfold QP.sepC;decide +kernel
theorem gt_:4*(4294967296:Rat)*4294967296≤2 ^ 159:=by decide +kernel
theorem b7_ {x A B:Rat} (h:1≤A*(x*x)) (hl:A≤B):1≤B*(x*x):=by
 have h0:0≤x*x:=by
  rcases Rat.le_total (a:=0) (b:=x) with k|k
  ·exact Rat.mul_nonneg k k
  have:=Rat.mul_nonneg (show 0 ≤ -x by grind) (show 0 ≤ -x by grind);grind
 have:=Rat.mul_nonneg (show 0≤B - A by grind) h0
 grind
theorem sep {p:List I} {L:List (List I)} (h:St p L) {F:Nat→Int} {m:Nat} (hF:Po (aV p) F) (fs:Fs F m) {u v:Rat} (huv:u<v) (au:Ab u 4096) (av:Ab v 4096) (ht:Two (qp (aV p)) (L.map qp) u v):(1:Rat)≤2 ^ 159*((v - u)*(v - u)):=by
 obtain ⟨f,l,⟨eL,ef⟩,hR,hs,hl⟩:=h.s;subst ef;have hq:qp (aV p)=ZP F hF.ends:=oZ hF _;rcases hl with rfl|⟨g,l',κ,rfl,hc,hκ,hD⟩
 ·exfalso
  rw [eL] at ht;unfold Two at ht;simp only [List.map_cons,List.map_nil,QP.V_one] at ht;omega
 rw [eL] at ht hc;simp only [List.map_cons] at ht hc;have n1:=QP.two_nD hc hκ hD huv ht
 have n2:¬ Rb u v (qp (aV p)):=fun hr=>by
  have:=QP.st_rb hc hκ hD huv hr;unfold Two at ht;omega
 have z1:=fun ε (hε:(0:Rat)<ε)=>QP.small_at (Rat.le_of_lt huv) n1 hε;have z2:=fun ε (hε:(0:Rat)<ε)=>QP.small_at (Rat.le_of_lt huv) n2 hε;have hz:=fun x=>dU_ hR x;rw [hq] at z1 z2 hz n1 n2;have m3:=fs.m3;have cu:=db_ hF.ends fun i hi=>fs.z i oo_
 have bb:∀ k,m≠2→Ab ((F k:Int):Rat) 4294967296:=fun k hm=>by
  rcases fs.b with ⟨h2,_⟩|⟨_,h2⟩
  ·exact absurd h2 hm
  exact QP.Ab.int (B:=4294967296) (h2 k)
 rcases (show m=3∨m=2∨m≤1 by omega) with hm|hm|hm
 ·subst hm
  exact b7_ (QP.far3 cu fs.top hz dd_ dd_ (bb 3 dd_) (bb 2 dd_) (bb 1 dd_) (bb 0 dd_) au av (Rat.le_of_lt huv) z1 z2) gu_
 ·subst hm
  have c0:F 3=0:=fs.z 3 oo_;rw [c0] at cu;exact b7_ (QP.far2 cu fs.top hz dd_ dd_ (QP.Ab.int (B:=4294967296) fs.lead) au av (Rat.le_of_lt huv) z1 z2) gt_
 exfalso
 have d1:∀ x,(QP.D (ZP F hF.ends)).ev x=((F 1:Int):Rat):=fun x=>by
  rw [cu.d,fs.z 3 oo_,fs.z 2 oo_];have:((0:Int):Rat)=0:=rfl;rw [this];grind
 by_cases f1:F 1=0
 ·have m0:m=0:=by
   rcases Nat.lt_or_ge m 1 with k|k
   ·omega
   have:m=1:=by omega
   subst this;exact absurd f1 fs.top
  subst m0;have f0:((F 0:Int):Rat)≠0:=fun e=>fs.top (Rat.intCast_eq_zero_iff.1 e)
  have v0:∀ x,(ZP F hF.ends).ev x=((F 0:Int):Rat):=fun x=>by
   rw [cu.v,fs.z 3 oo_,fs.z 2 oo_,f1];have:((0:Int):Rat)=0:=rfl;rw [this];grind
  refine n2 ?_;rcases Rat.le_total (a:=0) (b:=((F 0:Int):Rat)) with k|k
  ·exact ⟨_,show (0:Rat)<((F 0:Int):Rat) by grind,.inl fun x _ _=>by rw [v0];exact Rat.le_refl⟩
  exact ⟨-((F 0:Int):Rat),by grind,.inr fun x _ _=>by rw [v0];grind⟩
 have f0:((F 1:Int):Rat)≠0:=fun e=>f1 (Rat.intCast_eq_zero_iff.1 e);refine n1 ?_;rcases Rat.le_total (a:=0) (b:=((F 1:Int):Rat)) with k|k
 ·exact ⟨_,show (0:Rat)<((F 1:Int):Rat) by grind,.inl fun x _ _=>by rw [d1];exact Rat.le_refl⟩
 exact ⟨-((F 1:Int):Rat),by grind,.inr fun x _ _=>by rw [d1];grind⟩
theorem f6_ {A B u v:Rat} {k:Nat} {j:Int} (h:It A B (2 ^ k) j u v) (aA:Ab A 4096) (aB:Ab B 4096) (hs:(1:Rat)≤2 ^ 159*((v - u)*(v - u))):k≤92:=by
 have hl:=h.len
 have w:Ab (B - A) 8192:=by unfold Ab at *;grind
 have ww:=w.mul w
 have p2:(((2:Int) ^ k:Int):Rat)*(((2:Int) ^ k:Int):Rat)≤2 ^ 185:=by
  have e:(((2:Int) ^ k:Int):Rat)*(((2:Int) ^ k:Int):Rat)*((v - u)*(v - u))=(B - A)*(B - A):=by rw [← hl];grind
  have p0:(0:Rat)<(((2:Int) ^ k:Int):Rat):=Rat.intCast_pos.2 h.lo.p;generalize (((2:Int) ^ k:Int):Rat)=P at *;have pp:=Rat.mul_pos p0 p0;have h1:=Rat.mul_nonneg (Rat.le_of_lt pp) (show 0≤2 ^ 159*((v - u)*(v - u)) - 1 by grind)
  have h2:P*P≤2 ^ 159*((B - A)*(B - A)):=by rw [← e];grind
  have h3:(2:Rat) ^ 159*(8192*8192)=2 ^ 185:=by decide +kernel
  have h4:=Rat.mul_le_mul_of_nonneg_left ww.2 (show (0:Rat)≤2 ^ 159 by decide +kernel)
  grind
 apply Classical.byContradiction
 intro hn
 have e1:(2:Rat) ^ 185=(((2:Int) ^ 185:Int):Rat):=by decide +kernel
 rw [← Rat.intCast_mul,← Int.pow_add,e1] at p2;have p3:=Rat.intCast_le_intCast.1 p2
 have p4:(2:Int) ^ 186≤2 ^ (k+k):=by exact_mod_cast (Nat.pow_le_pow_right (n:=2) dd_ (show 186≤k+k by omega))
 have p5:(2:Int) ^ 185<2 ^ 186:=by decide
 omega
theorem bW_ {a:Rt} {q:Rat} (h:a.At q):a.n.1.bad=false:=by
 rw [(At.is h).en];exact P5 (At.is h).hn
theorem NS {l:List I}:((l.length:Int)==0)=decide (l=[]):=by cases l<;>rfl
theorem VC {p:List I} (hp:Rgt p) {a b:Rt} (h:(bI p a b).2.1=0):p≠[]∧p.all gdI=true∧gG a b=true∧(aH p).2=true∧(aG (aH p).1 a b).2=true∧(bI p a b).1=(aG (aH p).1 a b).1∧St p (aH p).1:=by
 unfold bI at h ⊢;rw [kP (CW hp)] at h ⊢
 cases hg:p.all gdI
 ·rw [hg] at h;cases h
 rw [hg] at h
 by_cases h0:p=[]
 ·subst h0;cases h
 have hl:((p.length:Int)==0)=false:=by rw [NS,decide_eq_false h0]
 rw [hl] at h ⊢
 cases hab:gG a b
 ·rw [hab] at h;cases h
 rw [hab] at h
 cases hs:(aH p).2
 ·rw [hs] at h;cases h
 rw [hs] at h
 cases hc:(aG (aH p).1 a b).2
 ·rw [hc] at h;cases h
 refine ⟨h0,rfl,rfl,rfl,rfl,rfl,(yK hp hs).resolve_left h0⟩
open QP (V Rb Two)
theorem a3_:Sz (1 / 2) 2:=⟨by decide +kernel,by decide +kernel⟩
theorem dx_ {a b:Rt} {u v:Rat} (ha:a.At u) (hb:b.At v) (su:Sz u 200) (sv:Sz v 200):(aD a b).At ((u+v)*(1 / 2)):=by
 unfold aD;simp only;rw [PD,VF,Q3];exact cO_ (cA_ ha hb su sv dd_) RW (su.add sv) a3_ dd_
structure Sp (p:List I) (A B:Rat):Prop where
 rgt:Rgt p
 ne:p≠[]
 gd:p.all gdI=true
 ok:(aH p).2=true
 st:St p (aH p).1
 free:∃ F m,Po (aV p) F∧Fs F m
 tame:∀ x∈(aH p).1,AJ 119 x
 tp:AJ 119 p
 sA:Sz A 12
 sB:Sz B 12
theorem Sp.of {p:List I} {A B:Rat} (hf:dZ p 3 32=true) (hg:p.all gdI=true) (h0:p≠[]) (sA:Sz A 12) (sB:Sz B 12):Sp p A B:=by
 obtain ⟨c,hc,bd⟩:=W9 hf hg;have bd:Bd c 4 32:=bd;obtain ⟨s1,s2,s3⟩:=OZ hc bd h0;exact ⟨hc.rgt,h0,hg,s1,(yK hc.rgt s1).resolve_left h0,s2,s3,⟨c,4,32,hc,bd,by decide,by decide⟩,sA,sB⟩
theorem Sp.two {p:List I} {A B:Rat} (h:Sp p A B) {k:Nat} {j:Int} {u v:Rat} (hi:It A B (2 ^ k) j u v) (huv:u<v) (ht:Two (qp (aV p)) ((aH p).1.map qp) u v):k≤92:=by
 have aA:Ab A 4096:=(cu_ h.sA).le (by decide +kernel);have aB:Ab B 4096:=(cu_ h.sB).le (by decide +kernel)
 have hAB:A≤B:=by
  have a:=hi.len;have p0:(0:Rat)<(((2:Int) ^ k:Int):Rat):=Rat.intCast_pos.2 hi.lo.p;have:=Rat.mul_pos p0 (show 0<v - u by grind)
  grind
 have gu:=hi.lo.ge hAB;have gv:=hi.hi.ge hAB;obtain ⟨F,m,hF,fs⟩:=h.free;exact f6_ hi aA aB (sep h.st hF fs huv (by unfold Ab at *;grind) (by unfold Ab at *;grind) ht)
theorem Sp.count {p:List I} {A B:Rat} (h:Sp p A B) {k:Nat} (hk:k≤95) {i j:Int} {a b:Rt} {u v:Rat} (ha:a.At u) (hb:b.At v) (pu:Pt A B (2 ^ k) i u) (pv:Pt A B (2 ^ k) j v):(aG (aH p).1 a b).2=true :=
 WR h.tame ha hb ((pu.sz h.sA h.sB).mono oo_) ((pv.sz h.sA h.sB).mono oo_)
theorem Sp.mid {p:List I} {A B:Rat} (h:Sp p A B) {k:Nat} (hk:k≤95) {i j:Int} {a b:Rt} {u v:Rat} (ha:a.At u) (hb:b.At v) (pu:Pt A B (2 ^ k) i u) (pv:Pt A B (2 ^ k) j v):(aD a b).At ((u+v)*(1 / 2)) :=
 dx_ ha hb ((pu.sz h.sA h.sB).mono oo_) ((pv.sz h.sA h.sB).mono oo_)
theorem Sp.many {p:List I} {A B:Rat} (h:Sp p A B) (hAB:A≤B) {k:Nat} (hk:k≤93) {j:Int} {a b:Rt} {u v:Rat} (ha:a.At u) (hb:b.At v) (hi:It A B (2 ^ k) j u v) (h0:((aG (aH p).1 a b).1.1==0)=false) (h1:((aG (aH p).1 a b).1.1==1)=false):k≤92:=by
 have hc:=h.count oo_ ha hb hi.lo hi.hi;obtain ⟨u',v',cx⟩:=AS h.st (tL p) hc;obtain rfl:=sH ha cx.a;obtain rfl:=sH hb cx.b;have n:=cx.n;have le:=hi.le hAB;have an:=h.st.anti le
 have h0':¬ (aG (aH p).1 a b).1.1=0:=by simpa using h0
 have h1':¬ (aG (aH p).1 a b).1.1=1:=by simpa using h1
 have huv:u<v:=by
  apply Rat.not_le.1
  intro hn
  have:u=v:=by grind
  subst this;omega
 exact h.two hi huv (.inl oo_)
open QP (V Rb Two NN sg Sf)
def nnc (c:List (List I)) (a b:Rt) (right:W):W:=bif (right.1==0) then W.sub ((aG c a b).1) (wl 1) else (aG c a b).1
def nno (c:List (List I)) (p:List I) (a b:Rt) (k:Nat):Bool:=(aG c a b).2&&((aF p (aD a b)).2&&decide ((k:Int)<600))
theorem P7 (c:List (List I)) (p:List I) (n:Nat) (a b:Rt) (left right:W) (k:Nat) (is ok:Bool) :
  aI c p (n+1) a b left right k is ok=bif (!is || !ok) then (is,ok) else (bif nno c p a b k then (bif decide (((aF p (aD a b)).1).1<0) then (false,true) else (bif (((nnc c a b right).1==0)||(((nnc c a b right).1==1)&&(decide (0<left.1)&&decide (0<right.1)))) then (is,true)
   else (aI c p n (aD a b) b ((aF p (aD a b)).1) right (k+1) (aI c p n a (aD a b) left ((aF p (aD a b)).1) (k+1) is true).1 (aI c p n a (aD a b) left ((aF p (aD a b)).1) (k+1) is true).2))) else (is,false)):=by
 conv=>lhs;unfold aI
 unfold nnc;rw [show ((aG c a b).2&&((aF p (aD a b)).2&&decide ((k:Int)<600)))=nno c p a b k from rfl];generalize aD a b=m;generalize aF p m=S;generalize aG c a b=C
 cases (!is || !ok)
 ·cases nno c p a b k
  ·rfl
  simp only [cond_true,cond_false]
  cases (right.1==0)
  ·simp only [cond_false]
   cases (C.1.1==0)
   ·simp only [cond_false,Bool.false_or]
   simp only [cond_true,Bool.true_or]
  simp only [cond_true]
  cases ((W.sub C.1 (wl 1)).1==0)
  ·simp only [cond_false,Bool.false_or]
  simp only [cond_true,Bool.true_or]
 rfl
theorem KM (c:List (List I)) (p:List I) (n:Nat) (a b:Rt) (left right:W) (k:Nat) (is ok:Bool) (h:is=false∨ok=false):aI c p n a b left right k is ok=(is,ok):=by
 cases n with
 | zero=>rfl
 | succ n =>
  rw [P7];rcases h with rfl|rfl
  ·rfl
  simp
theorem fs_ {x:Rat}:(0≤sg x) ↔ 0≤x:=by
 rcases QP.sg_three x with ⟨e,k⟩|⟨e,k⟩|⟨e,k⟩<;>rw [e]<;>constructor<;>intro h<;>first|omega|grind
theorem sg_zr {x:Rat}:(sg x=0) ↔ x=0:=by
 rcases QP.sg_three x with ⟨e,k⟩|⟨e,k⟩|⟨e,k⟩<;>rw [e]<;>constructor<;>intro h<;>first|omega|grind
theorem SX {x:Rat}:(0<sg x) ↔ 0<x:=by
 rcases QP.sg_three x with ⟨e,k⟩|⟨e,k⟩|⟨e,k⟩<;>rw [e]<;>constructor<;>intro h<;>first|omega|grind
theorem BR {x:Rat}:(sg x<0) ↔ x<0:=by
 rcases QP.sg_three x with ⟨e,k⟩|⟨e,k⟩|⟨e,k⟩<;>rw [e]<;>constructor<;>intro h<;>first|omega|grind
structure Nk (p:List I) (a b:Rt) (left right:W) (u v:Rat):Prop where
 a:a.At u
 b:b.At v
 lt:u<v
 l:left.1=sg ((qp p).ev u)
 r:right.1=sg ((qp p).ev v)
 l0:0≤(qp p).ev u
 r0:0≤(qp p).ev v
theorem St.sf {p:List I} {L:List (List I)} (h:St p L):Sf (qp p) (qp (aV p)) (L.map qp):=by
 obtain ⟨f,l,⟨_,e⟩,_,hs,_⟩:=h.s;rw [← e];exact hs
theorem YI {u v:Rat} (h:u<v):u<(u+v)*(1 / 2)∧(u+v)*(1 / 2)<v:=by constructor<;>grind
theorem fQ_ {x:W} (h:-1000≤x.1∧x.1≤1000):(W.sub x (wl 1)).1=x.1 - 1:=by
 show IntKind.i64.wrap (x.1 - 1)=x.1 - 1
 rw [wi oo_]
theorem SD {p:List I} {L:List (List I)} (h:St p L) (hl:L.length≤100) {a b:Rt} {left right:W} {u v:Rat} (hk:Nk p a b left right u v) (hc:(aG L a b).2=true) :
  ((qp p).ev v=0∧(nnc L a b right).1+1+V (L.map qp) v=V (L.map qp) u∨(qp p).ev v≠0∧(nnc L a b right).1+V (L.map qp) v=V (L.map qp) u)∧0≤(nnc L a b right).1:=by
 obtain ⟨u',v',cx⟩:=AS h hl hc;obtain rfl:=sH hk.a cx.a;obtain rfl:=sH hk.b cx.b;have n:=cx.n;have an:=h.anti (Rat.le_of_lt hk.lt);have v1:=VN (L.map qp) u;have v2:=VN (L.map qp) v;rw [List.length_map] at v1 v2;unfold nnc
 by_cases h0:(qp p).ev v=0
 ·have hne:V (L.map qp) u≠V (L.map qp) v:=fun e=>(h.sf.pos hk.lt e).1 h0
  rw [show (right.1==0)=true by rw [hk.r,sg_zr.2 h0];rfl,cond_true,fQ_ oo_];exact ⟨.inl ⟨h0,by omega⟩,by omega⟩
 have:¬ right.1=0:=by rw [hk.r,sg_zr];exact h0
 rw [show (right.1==0)=false by simpa using this,cond_false];exact ⟨.inr ⟨h0,by omega⟩,by omega⟩
theorem YM {p:List I} (hp:Rgt p) (hg:p.all gdI=true) {L:List (List I)} (h:St p L) (hl:L.length≤100):∀ (n k:Nat) (a b:Rt) (left right:W) (u v:Rat),n+k=601→1≤n→Nk p a b left right u v →
  (aI L p n a b left right k true true).2=true→((aI L p n a b left right k true true).1=true ↔ NN (qp p) u v):=by
 intro n
 induction n with
 | zero=>intro k a b left right u v _ h1;omega
 | succ n ih =>
  intro k a b left right u v hn _ hk hok;rw [P7] at hok ⊢;simp only [Bool.not_true,Bool.or_self,cond_false] at hok ⊢
  cases ho:nno L p a b k
  ·rw [ho] at hok;cases hok
  rw [ho] at hok;simp only [cond_true] at hok ⊢;unfold nno at ho;simp only [Bool.and_eq_true,decide_eq_true_eq] at ho;obtain ⟨hc,hS,hk6⟩:=ho;obtain ⟨w,hm⟩:=B5 hS
  have hw:w=(u+v)*(1 / 2):=by
   have:=bQ_ hk.a hk.b (by rw [← JD];exact nE hm);rw [← JD] at this;exact sH hm this
  subst hw;have hs:=wE (AC hp hg) hm hS;have ml:=YI hk.lt
  cases hneg:decide ((aF p (aD a b)).1.1<0)
  ·rw [hneg] at hok
   have m0:0≤(qp p).ev ((u+v)*(1 / 2)):=by
    have:=of_decide_eq_false hneg;rw [hs,BR] at this;grind
   simp only [cond_false] at hok ⊢;obtain ⟨cv,c0⟩:=SD h hl hk hc
   cases hst:(((nnc L a b right).1==0)||(((nnc L a b right).1==1)&&(decide (0<left.1)&&decide (0<right.1))))
   ·rw [hst] at hok
    simp only [cond_false] at hok ⊢;have k1:Nk p a (aD a b) left (aF p (aD a b)).1 u ((u+v)*(1 / 2)):=⟨hk.a,hm,ml.1,hk.l,hs,hk.l0,m0⟩;have k2:Nk p (aD a b) b (aF p (aD a b)).1 right ((u+v)*(1 / 2)) v:=⟨hm,hk.b,ml.2,hs,hk.r,m0,hk.r0⟩;have i1:=ih (k+1) a (aD a b) left _ u _ oo_ oo_ k1;have i2:=ih (k+1) (aD a b) b _ right _ v oo_ oo_ k2;have hv:=NN.halves (p:=qp p) (Rat.le_of_lt ml.1) (Rat.le_of_lt ml.2);generalize hr1:aI L p n a (aD a b) left (aF p (aD a b)).1 (k+1) true true=r1 at *;obtain ⟨s1,o1⟩:=r1
    cases o1
    ·rw [KM _ _ _ _ _ _ _ _ _ _ (.inr O)] at hok;cases hok
    ·cases s1
     ·rw [KM _ _ _ _ _ _ _ _ _ _ (.inl O)]
      refine ⟨fun e=>(by cases e),fun e=>?_⟩;exact absurd ((i1 O).2 (hv.1 e).1) dd_
     rw [i2 hok,hv];exact ⟨fun e=>⟨(i1 O).1 O,e⟩,fun e=>e.2⟩
   simp only [cond_true];refine ⟨fun _=>?_,fun _=>trivial⟩;rcases Bool.or_eq_true_iff.1 hst with z|z
   ·have z:(nnc L a b right).1=0:=by simpa using z
    rcases cv with ⟨v0,cv⟩|⟨v0,cv⟩
    ·exact h.sf.nn0r ml.1 ml.2 oo_ hk.l0 m0 v0
    exact h.sf.nn0 hk.lt oo_ hk.l0 hk.r0
   simp only [Bool.and_eq_true,decide_eq_true_eq,beq_iff_eq] at z;obtain ⟨z1,z2,z3⟩:=z;rw [hk.l,SX] at z2;rw [hk.r,SX] at z3;rcases cv with ⟨v0,cv⟩|⟨v0,cv⟩
   ·rw [v0] at z3;exact absurd z3 dd_
   exact h.sf.nn1 oo_ z2 z3
  simp only [cond_true];refine ⟨fun e=>(by cases e),fun e=>?_⟩;have:=of_decide_eq_true hneg;rw [hs,BR] at this;have:=e _ (Rat.le_of_lt ml.1) (Rat.le_of_lt ml.2)
  grind
theorem SC {p:List I} (hp:Rgt p) (hg:p.all gdI=true) {L:List (List I)} (hSt:St p L) (hl:L.length≤100) {n k:Nat} {a b:Rt} {left right:W} {u v:Rat} (hk:Nk p a b left right u v) (h6:k<600) (hc:(aG L a b).2=true)
  (hm:(aD a b).At ((u+v)*(1 / 2))) (hS:(aF p (aD a b)).2=true)
  (rec:Two (qp (aV p)) (L.map qp) u v→∀ s:W,s.1=sg ((qp p).ev ((u+v)*(1 / 2)))→0≤(qp p).ev ((u+v)*(1 / 2))→(aI L p n a (aD a b) left s (k+1) true true).2=true∧(aI L p n (aD a b) b s right (k+1) true true).2=true) :
  (aI L p (n+1) a b left right k true true).2=true:=by
 have hs:=wE (AC hp hg) hm hS
 have ho:nno L p a b k=true:=by
  unfold nno;rw [hc,hS,decide_eq_true (show (k:Int)<600 by omega)];rfl
 rw [P7,ho];simp only [Bool.not_true,Bool.or_self,cond_false,cond_true]
 cases hneg:decide ((aF p (aD a b)).1.1<0)
 ·simp only [cond_false]
  have m0:0≤(qp p).ev ((u+v)*(1 / 2)):=by
   have:=of_decide_eq_false hneg;rw [hs,BR] at this;grind
  obtain ⟨cv,c0⟩:=SD hSt hl hk hc
  cases hst:(((nnc L a b right).1==0)||(((nnc L a b right).1==1)&&(decide (0<left.1)&&decide (0<right.1))))
  ·simp only [cond_false]
   have ht:Two (qp (aV p)) (L.map qp) u v:=by
    simp only [Bool.or_eq_false_iff,Bool.and_eq_false_iff,beq_eq_false_iff_ne,ne_eq,decide_eq_false_iff_not] at hst;obtain ⟨z0,z1⟩:=hst;rcases cv with ⟨v0,cv⟩|⟨v0,cv⟩
    ·exact .inl oo_
    by_cases z2:(nnc L a b right).1=1
    ·right
     refine ⟨by omega,?_⟩
     have hr:0<right.1:=by rw [hk.r,SX];have:=hk.r0;grind
     have hlf:¬ 0<left.1:=by
      rcases z1 with z1|z1|z1
      ·exact absurd z2 z1
      ·exact z1
      exact absurd hr z1
     rw [hk.l,SX] at hlf
     have u0:(qp p).ev u=0:=by have:=hk.l0;grind
     apply Classical.byContradiction
     intro hf;exact hSt.sf.ne hf u0
    exact .inl oo_
   obtain ⟨r1,r2⟩:=rec ht _ hs m0;generalize aI L p n a (aD a b) left (aF p (aD a b)).1 (k+1) true true=R at *;obtain ⟨s1,o1⟩:=R;have r1:o1=true:=r1;subst r1
   cases s1
   ·rw [KM _ _ _ _ _ _ _ _ _ _ (.inl O)]
   exact r2
  rfl
 rfl
theorem e9_ {p:List I} {A B:Rat} (h:Sp p A B) (hAB:A≤B):∀ (d n k K:Nat) (j:Int) (a b:Rt) (left right:W) (u v:Rat),d+K=93→n+k=601→k≤K→It A B (2 ^ K) j u v→Nk p a b left right u v →
  (aI (aH p).1 p n a b left right k true true).2=true:=by
 intro d
 induction d with
 | zero =>
  intro n k K j a b left right u v hd hn hkK hi hk;obtain ⟨n,rfl⟩:∃ j,n=j+1:=⟨n - 1,by omega⟩;have hm:=h.mid oo_ hk.a hk.b hi.lo hi.hi
  exact SC h.rgt h.gd h.st (tL p) hk oo_ (h.count oo_ hk.a hk.b hi.lo hi.hi) hm (tM h.tp hm ((hi.left.hi.sz h.sA h.sB).mono oo_)) fun ht=>by have:=h.two hi hk.lt ht;omega
 | succ d ih =>
  intro n k K j a b left right u v hd hn hkK hi hk;obtain ⟨n,rfl⟩:∃ j,n=j+1:=⟨n - 1,by omega⟩;have ml:=YI hk.lt;have hm:=h.mid oo_ hk.a hk.b hi.lo hi.hi;refine SC h.rgt h.gd h.st (tL p) hk oo_ (h.count oo_ hk.a hk.b hi.lo hi.hi) hm (tM h.tp hm ((hi.left.hi.sz h.sA h.sB).mono oo_)) fun _ s hs m0=>⟨?_,?_⟩
  ·exact ih n (k+1) (K+1) _ a _ left s u _ oo_ oo_ oo_ hi.left ⟨hk.a,hm,ml.1,hk.l,hs,hk.l0,m0⟩
  exact ih n (k+1) (K+1) _ _ b s right _ v oo_ oo_ oo_ hi.right ⟨hm,hk.b,ml.2,hs,hk.r,m0,hk.r0⟩
theorem OV {p:List I} {a b:Rt} {k:W} (hS:eC p a b k=true):Rgt p∧k.1≤16∧((aS p||((p.length:Int)==0))=true ∨ ∃ A B,a.At A∧b.At B∧Sp p A B):=by
 obtain ⟨hf,⟨A,hA,sA⟩,⟨B,hB,sB⟩,hk⟩:=MK hS;have hr:=(aW_ hf).1;refine ⟨hr,hk,?_⟩
 cases hg:p.all gdI
 ·left;rw [kP (CW hr),hg];rfl
 by_cases h0:p=[]
 ·left;rw [h0];rfl
 exact .inr ⟨A,B,hA,hB,Sp.of hf hg h0 sA sB⟩
theorem Sp.nb {p:List I} {A B:Rat} (h:Sp p A B):aS p=false:=by rw [kP (CW h.rgt),h.gd];rfl
theorem Sp.nl {p:List I} {A B:Rat} (h:Sp p A B):((p.length:Int)==0)=false:=by rw [NS,decide_eq_false h.ne]
theorem Sp.pA {p:List I} {A B:Rat} (h:Sp p A B):It A B (2 ^ 0) 0 A B:=It.one A B
theorem Sp.Count {p:List I} {A B:Rat} (h:Sp p A B) {a b:Rt} (ha:a.At A) (hb:b.At B):bI p a b=bif gG a b then ((aG (aH p).1 a b).1,wl 0) else (wl 0,wl 1):=by
 unfold bI;rw [h.nb,h.nl,h.ok,h.count dd_ ha hb h.pA.lo h.pA.hi]
 cases gG a b<;>rfl
theorem L0 {p:List I} {a b:Rt} {k:W} (hS:eC p a b k=true):(bI p a b).2.1≠30:=by
 obtain ⟨_,_,h|⟨A,B,hA,hB,h⟩⟩:=OV hS
 ·unfold bI
  rw [← Bool.or_assoc,h,Bool.true_or,cond_true];decide
 rw [h.Count hA hB]
 cases gG a b
 ·rw [cond_false];decide
 rw [cond_true];show (0:Int)≠30;decide
theorem D9 {a b:Rt} {A B:Rat} (ha:a.At A) (hb:b.At B):gG a b=decide (A≤B):=by
 unfold gG;rw [bW_ ha,bW_ hb];simp only [Bool.not_false,Bool.true_and];exact decide_eq_decide.2 (cH_ ha hb)
theorem BP:fM=true:=by kernel_rfl
def nnI (x:I):Bool:=decide (0≤(Z.signW x.dec).1)
theorem NX (p:List I) (a b:Rt):∀ (l:List I) (all:Bool),fF p a b l all=(all&&l.all nnI)
 | [],all=>by unfold fF;simp
 | x::l,all=>by
  unfold fF;rw [NX p a b l,List.all_cons,Bool.and_assoc];rfl
def nnR (p:List I) (a b:Rt):Bool×Bool:=aI ((aH p).1) p 601 a b ((aF p a).1) ((aF p b).1) 0 true ((aH p).2)
theorem PG (p:List I) (a b:Rt):aN p a b=bif (aS p || !gG a b) then (false,wl 1) else bif ((p.length:Int)==0) then (true,wl 0) else
  bif (!((aF p a).2) || !((aF p b).2)) then (false,wl 30) else bif (decide (((aF p a).1).1<0)||decide (((aF p b).1).1<0)) then (false,wl 0) else
  bif (decide (a.n=b.n)&&decide (a.d=b.d)) then (true,wl 0) else bif ((bK p a b).2&&(bK p a b).1.all nnI) then (true,wl 0) else
  bif (aH p).2 then (bif (nnR p a b).2 then ((nnR p a b).1,wl 0) else (false,wl 30)) else (false,wl 30):=by
 unfold aN;rw [NX,Bool.true_and];rw [show aI ((aH p).1) p 601 a b ((aF p a).1) ((aF p b).1) 0 true ((aH p).2)=nnR p a b from rfl];generalize nnR p a b=R;generalize bK p a b=Bn;generalize aF p a=Sa;generalize aF p b=Sb;generalize (aH p).2=st;generalize gG a b=g;generalize aS p=ib
 cases (ib || !g)
 ·simp only [cond_false]
  cases ((p.length:Int)==0)
  ·simp only [cond_false]
   cases (!Sa.2 || !Sb.2)
   ·simp only [cond_false]
    cases (decide (Sa.1.1<0)||decide (Sb.1.1<0))
    ·simp only [cond_false]
     cases (decide (a.n=b.n)&&decide (a.d=b.d))
     ·simp only [cond_false]
      cases Bn.2
      ·rfl
      simp only [cond_true,Bool.true_and,ap]
     rfl
    rfl
   rfl
  rfl
 rfl
theorem aB_ {p:List I} {c:Nat→Int} {a b:Rt} {qa qb:Rat} (h:Po p c) (h7:p.length≤12) (ha:a.At qa) (hb:b.At qb) (hab:qa<qb) (hg:(bK p a b).2=true) (hf:(bK p a b).1.all nnI=true) {t:Rat} (t0:qa≤t) (t1:t≤qb):0≤vl (cR c) t p.length:=by
 by_cases h0:p=[]
 ·rw [h0];exact Rat.le_refl
 obtain ⟨n,hp⟩:∃ n,p.length=n+1:=⟨p.length - 1,by have:=List.length_pos_iff.2 h0;omega⟩
 have hn:n≤11:=by omega
 obtain ⟨γ,g,W,G,l,gp,Wp,Gp,hz,hv,hl,lb,hL⟩:=cE_ h hp hn ha hb hg;rw [hL] at hf
 have hlz:∀ i,i≤n→0≤l i:=fun i hi=>by
  have hx:E (Z.of (l i))∈(List.range (n+1)).map (fun i=>E (Z.of (l i))):=List.mem_map.2 ⟨i,List.mem_range.2 oo_,rfl⟩;have:=List.all_eq_true.1 hf _ hx;unfold nnI at this;rw [cJ,j7 (lb i hi),decide_eq_true_eq] at this;exact Int.sign_nonneg_iff.1 this
 obtain ⟨y,hy⟩:∃ y:Rat,y=(t - qa) / (qb - qa):=⟨_,rfl⟩
 have dp:0<qb - qa:=by grind
 have hd0:qb - qa≠0:=by grind
 have ey:(qb - qa)*y=t - qa:=by rw [hy,Rat.mul_comm];exact Rat.div_mul_cancel hd0
 have y0:0≤y:=wO dp (by grind);have y1:0≤1 - y:=wO dp (by grind);have hs:=V0 n γ y
 have k1:0≤fY (fun i=>(bs γ n i:Rat)*((bin n i:Nat):Rat)*(y ^ i*(1 - y) ^ (n - i))) (n+1):=S5 fun i hi=>by
  have b1:0≤bs γ n i:=by rw [← hl i oo_];exact Int.mul_nonneg oo_ (hlz i oo_)
  have b2:(0:Rat)≤((bs γ n i:Int):Rat):=Rat.intCast_nonneg.2 b1
  have b3:(0:Rat)≤((bin n i:Nat):Rat):=by
   rw [show ((bin n i:Nat):Rat)=(((bin n i:Nat):Int):Rat) from (Rat.intCast_natCast _).symm];exact Rat.intCast_nonneg.2 oo_
  exact Rat.mul_nonneg (Rat.mul_nonneg b2 b3) (Rat.mul_nonneg (LE y0 i) (LE y1 _))
 rw [hs] at k1;have k2:=wO (Rat.intCast_pos.2 (NB n)) k1;have k3:vl (cR γ) y 26=fY (fun k=>(γ k:Rat)*y ^ k) (n+1):=zC (n:=n+1) (fun i hi=>by unfold cR;rw [hz i hi];rfl) oo_;rw [← k3] at k2;have k4:=hv y;rw [ey,show qa+(t - qa)=t by grind] at k4;refine wO (Rat.intCast_pos.2 Wp) ?_;rw [← k4];exact Rat.mul_nonneg (Rat.le_of_lt (Rat.intCast_pos.2 gp)) k2
theorem ci_ {p:List I} {c:Nat→Int} (h:Po p c) (x:Rat):(qp p).ev x=vl (cR c) x p.length:=by
 rw [oZ h h.ends,QP.ev_vl (n:=p.length) (fun i hi=>by rw [kU,h.zero hi];rfl)];rfl
theorem TO {p:List I} (hp:Rgt p) (h7:p.length≤12) {a b:Rt} {A B:Rat} (ha:a.At A) (hb:b.At B) (h:(aN p a b).2.1=0):p.all gdI=true∧A≤B∧((aN p a b).1=true ↔ NN (qp p) A B):=by
 rw [PG] at h ⊢;rw [kP (CW hp),D9 ha hb] at h ⊢
 cases hg:p.all gdI
 ·rw [hg] at h;cases h
 rw [hg] at h
 by_cases hAB:A≤B
 case neg=>rw [decide_eq_false hAB] at h;cases h
 rw [decide_eq_true hAB] at h ⊢;simp only [Bool.not_true,Bool.or_self,cond_false] at h ⊢;refine ⟨trivial,hAB,?_⟩
 by_cases h0:p=[]
 ·subst h0
  rw [NS,decide_eq_true O,cond_true];refine ⟨fun _ x _ _=>?_,fun _=>rfl⟩;rw [F6,QP.ev_C];exact Rat.le_refl
 rw [NS,decide_eq_false h0] at h ⊢;simp only [cond_false] at h ⊢;have hP:=AC hp hg
 cases sa:(aF p a).2
 ·rw [sa] at h;cases h
 cases sb:(aF p b).2
 ·rw [sa,sb] at h;cases h
 rw [sa,sb] at h;simp only [Bool.not_true,Bool.or_self,cond_false] at h ⊢;have va:=wE hP ha sa;have vb:=wE hP hb sb
 cases hneg:(decide (((aF p a).1).1<0)||decide (((aF p b).1).1<0))
 case true =>
  rw [cond_true];refine ⟨fun e=>(by cases e),fun e=>?_⟩
  exfalso
  rcases Bool.or_eq_true_iff.1 hneg with k|k
  ·have:=of_decide_eq_true k
   rw [va,BR] at this;have:=e A Rat.le_refl hAB;grind
  have:=of_decide_eq_true k;rw [vb,BR] at this;have:=e B hAB Rat.le_refl;grind
 rw [hneg] at h;simp only [cond_false] at h ⊢;obtain ⟨na,nb⟩:=Bool.or_eq_false_iff.1 hneg;have na:=of_decide_eq_false na;have nb:=of_decide_eq_false nb;rw [va,BR] at na;rw [vb,BR] at nb;have a0:0≤(qp p).ev A:=Rat.not_lt.1 na;have b0:0≤(qp p).ev B:=Rat.not_lt.1 nb
 cases heq:(decide (a.n=b.n)&&decide (a.d=b.d))
 case true =>
  rw [cond_true];refine ⟨fun _ x x1 x2=>?_,fun _=>rfl⟩;simp only [Bool.and_eq_true,decide_eq_true_eq] at heq;have:a=b:=Rt.ext heq.1 heq.2;subst this;obtain rfl:=sH ha hb;rw [show x=A by grind];exact a0
 rw [heq] at h;simp only [cond_false] at h ⊢
 have hlt:A<B:=by
  apply Rat.not_le.1
  intro hn
  have e:A=B:=by grind
  subst e;have:=VB ha hb;subst this
  simp at heq
 cases hbn:((bK p a b).2&&(bK p a b).1.all nnI)
 case true =>
  rw [cond_true];refine ⟨fun _ x x1 x2=>?_,fun _=>rfl⟩;rw [Bool.and_eq_true] at hbn;rw [ci_ hP];exact aB_ hP h7 ha hb hlt hbn.1 hbn.2 x1 x2
 rw [hbn] at h;simp only [cond_false] at h ⊢
 cases hs:(aH p).2
 case false=>rw [hs] at h;cases h
 rw [hs] at h;simp only [cond_true] at h ⊢
 cases hR:(nnR p a b).2
 case false=>rw [hR] at h;cases h
 simp only [cond_true];have hSt:=(yK hp hs).resolve_left h0;unfold nnR at hR ⊢;rw [hs] at hR ⊢;exact YM hp hg hSt (tL p) 601 0 a b _ _ A B O dd_ ⟨ha,hb,hlt,va,vb,a0,b0⟩ hR
theorem VG {p:List I} {A B:Rat} (h:Sp p A B) (hAB:A≤B) {K:Nat} (hK:K≤93) {j:Int} {a b:Rt} {u v:Rat} (ha:a.At u) (hb:b.At v) (hi:It A B (2 ^ K) j u v):(aN p a b).2.1=0:=by
 have huv:=hi.le hAB;have sa:=tM h.tp ha ((hi.lo.sz h.sA h.sB).mono oo_);have sb:=tM h.tp hb ((hi.hi.sz h.sA h.sB).mono oo_);have hP:=AC h.rgt h.gd;have va:=wE hP ha sa;have vb:=wE hP hb sb;rw [PG,h.nb,h.nl,D9 ha hb,decide_eq_true huv,sa,sb];simp only [Bool.not_true,Bool.or_self,cond_false]
 cases hneg:(decide (((aF p a).1).1<0)||decide (((aF p b).1).1<0))
 case true=>rfl
 obtain ⟨na,nb⟩:=Bool.or_eq_false_iff.1 hneg;have na:=of_decide_eq_false na;have nb:=of_decide_eq_false nb;rw [va,BR] at na;rw [vb,BR] at nb;simp only [cond_false]
 cases heq:(decide (a.n=b.n)&&decide (a.d=b.d))
 case true=>rfl
 simp only [cond_false]
 have hlt:u<v:=by
  apply Rat.not_le.1
  intro hn
  have e:u=v:=by grind
  subst e;have:=VB ha hb;subst this
  simp at heq
 cases hbn:((bK p a b).2&&(bK p a b).1.all nnI)
 case true=>rfl
 rw [h.ok]
 have hR:(nnR p a b).2=true:=by
  unfold nnR;rw [h.ok];exact e9_ h hAB (93 - K) 601 0 K j a b _ _ u v oo_ O (Nat.zero_le _) hi ⟨ha,hb,hlt,va,vb,Rat.not_lt.1 na,Rat.not_lt.1 nb⟩
 rw [hR];rfl
theorem f0_ {p:List I} {a b:Rt} {A B:Rat} (hp:aS p=false) (ha:a.At A) (hb:b.At B) (hAB:A≤B):(aN p a b).2.1=0∨(aN p a b).2.1=30:=by
 rw [PG,hp,D9 ha hb,decide_eq_true hAB];simp only [Bool.not_true,Bool.or_self,cond_false]
 cases ((p.length:Int)==0)
 ·cases (!((aF p a).2) || !((aF p b).2))
  ·cases (decide (((aF p a).1).1<0)||decide (((aF p b).1).1<0))
   ·cases (decide (a.n=b.n)&&decide (a.d=b.d))
    ·cases ((bK p a b).2&&(bK p a b).1.all nnI)
     ·generalize nnR p a b=R
      cases (aH p).2
      ·exact .inr O
      ·cases R.2
       ·exact .inr O
       exact .inl O
     exact .inl O
    exact .inl O
   exact .inl O
  exact .inr O
 exact .inl O
theorem dQ_ {p q r:List I} {c d:Nat→Int} (hp:Po p c) (hq:Po q d) (hr:Po r (conv c d)):qp r=qp p*qp q:=by
 rw [oZ hr hr.ends,oZ hp hp.ends,oZ hq hq.ends,← pH hp.ends hq.ends]
open QP (Fp lf V)
def Pr9 (p:List I) (l:List Int) (n b:Nat):Prop:=∃ c,Po p c∧Bd c n b∧Fp l (qp p)
theorem gk_ {a:Int} (ha:-128≤a∧a≤127):∃ c,Po (aK [W.neg (W.cv a),wl 8]) c∧Bd c 2 8∧qp (aK [W.neg (W.cv a),wl 8])=lf a:=by
 have e1:(W.neg (W.cv a)).1 = -a:=by
  show IntKind.i64.wrap (0 - (W.cv a).1) = -a
  rw [cv8 ha,wi oo_];omega
 have hm:aK [W.neg (W.cv a),wl 8]=bE [E (Z.of (-a)),E (Z.of 8)]:=by
  unfold aK gR
  show dC [E (Z.of (W.neg (W.cv a)).1),E (Z.of (wl 8).1)]=_
  rw [← VH,e1]
 have hp:Po (bE [E (Z.of (-a)),E (Z.of 8)]) (lin (-a) 8):=by
  exact X4 (n4 (v:=-a) (k:=8) oo_ dd_) (n4 (v:=8) (k:=8) dd_ dd_)
 rw [hm];refine ⟨_,hp,⟨fun k hk=>?_,fun k=>?_⟩,?_⟩
 ·unfold lin
  rw [if_neg oo_,if_neg oo_]
 ·unfold lin
  split
  ·omega
  split
  ·decide
  decide
 rw [oZ hp hp.ends];refine QP.ex fun k=>?_;unfold lf;rw [kU,QP.add_c,QP.C_mul,QP.C_c]
 have hX:QP.X.c k=if k=1 then 1 else 0:=rfl
 rw [hX];unfold lin
 by_cases h0:k=0
 ·subst h0
  simp
  rw [Rat.add_zero]
 by_cases h1:k=1
 ·subst h1
  simp only [if_neg (show ¬ (1:Nat)=0 by decide),if_pos O]
  show ((8:Int):Rat)=0+8*1
  have:((8:Int):Rat)=8:=rfl;rw [this];grind
 simp only [if_neg h0,if_neg h1]
 show ((0:Int):Rat)=0+8*0
 have:((0:Int):Rat)=0:=rfl;rw [this];grind
theorem Pr9.step {p:List I} {l:List Int} {n b:Nat} (h:Pr9 p l n b) {a:Int} (ha:-128≤a∧a≤127) (hn:n≤16) (hb:b+12≤512):Pr9 (cZ p (aK [W.neg (W.cv a),wl 8])) (a::l) (n+1) (b+12):=by
 obtain ⟨c,hc,bd,hF⟩:=h;obtain ⟨d,hd,be,e⟩:=gk_ ha;rw [← ao_ hc.l3 hd.l3];have hm:=cM_ hc hd bd be (e:=4) oo_ oo_ oo_;have bm:=bd.conv be (e:=4) oo_;refine ⟨_,hm,bm.mono oo_ oo_,?_⟩;rw [dQ_ hc hd hm,e];exact .step a hF
theorem cv_ (x:Int):-3<x.tmod 3∧x.tmod 3<3:=by
 rcases (show 0≤x∨x<0 by omega) with h|h
 ·rw [Int.tmod_eq_emod_of_nonneg h];omega
 have e:x.tmod 3 = -((-x).tmod 3):=by rw [Int.neg_tmod,Int.neg_neg]
 rw [e,Int.tmod_eq_emod_of_nonneg (show 0 ≤ -x by omega)];omega
theorem ZZ {x:Int} (h:0≤x):0≤x.tmod 3:=by rw [Int.tmod_eq_emod_of_nonneg h];omega
theorem U4 (z:Zero9) (hz:-128≤z.times∧z.times≤127):1≤(bA z).1∧(bA z).1≤3:=by
 have h1:(W.cv z.times).1=z.times:=cv8 hz
 have r1:(W.rem (W.cv z.times) (wl 3)).1=z.times.tmod 3:=by
  show (W.cv z.times).1.tmod 3=_
  rw [h1]
 have b1:-3<z.times.tmod 3∧z.times.tmod 3<3:=cv_ _
 have r2:(W.add (W.rem (W.cv z.times) (wl 3)) (wl 3)).1=z.times.tmod 3+3:=by
  show IntKind.i64.wrap ((W.rem (W.cv z.times) (wl 3)).1+3)=_
  rw [r1,wi oo_]
 have r3:(W.rem (W.add (W.rem (W.cv z.times) (wl 3)) (wl 3)) (wl 3)).1=(z.times.tmod 3+3).tmod 3:=by
  show (W.add (W.rem (W.cv z.times) (wl 3)) (wl 3)).1.tmod 3=_
  rw [r2]
 have b2:0≤(z.times.tmod 3+3).tmod 3∧(z.times.tmod 3+3).tmod 3<3:=⟨ZZ oo_,(cv_ _).2⟩;unfold bA
 have r4:(W.add (wl 1) (W.rem (W.add (W.rem (W.cv z.times) (wl 3)) (wl 3)) (wl 3))).1=1+(z.times.tmod 3+3).tmod 3:=by
  show IntKind.i64.wrap (1+(W.rem (W.add (W.rem (W.cv z.times) (wl 3)) (wl 3)) (wl 3)).1)=_
  rw [r3,wi oo_]
 rw [r4];omega
open QP (V vr sgs)
def Chn9 (L:List (List I)):Rat→List Iv→Rat→Prop
 | u,[],v=>u≤v
 | u,x::l,v=>∃ s t,x.lo.At s∧x.hi.At t∧u≤s∧s≤t∧V (L.map qp) s=V (L.map qp) t+1∧Chn9 L t l v
theorem Chn9.le {L:List (List I)}:∀ {l:List Iv} {u v:Rat},Chn9 L u l v→u≤v
 | [],u,v,h=>h
 | x::l,u,v,⟨s,t,_,_,h1,h2,_,h3⟩=>by have:=Chn9.le h3;grind
theorem Chn9.mono {L:List (List I)} {l:List Iv} {u u' v:Rat} (h:Chn9 L u l v) (hu:u'≤u):Chn9 L u' l v:=by
 cases l with
 | nil=>exact Rat.le_trans hu h
 | cons x l =>
  obtain ⟨s,t,a,b,h1,h2⟩:=h;exact ⟨s,t,a,b,Rat.le_trans hu h1,h2⟩
theorem Chn9.app {L:List (List I)} {l2:List Iv} {m v:Rat} (h2:Chn9 L m l2 v):∀ {l:List Iv} {u:Rat},Chn9 L u l m→Chn9 L u (l++l2) v
 | [],u,h=>h2.mono h
 | x::l,u,⟨s,t,a,b,h1,h3,h4,h5⟩=>⟨s,t,a,b,h1,h3,h4,Chn9.app h2 h5⟩
theorem ex_ (f:QP) (l:List QP) (q:Rat):V (f::l) q≤l.length:=by
 have h:=TJ (sgs l q)
 have hl:(sgs l q).length=l.length:=by unfold sgs;rw [List.length_map]
 show vr 0 (QP.sg (f.ev q)::sgs l q)≤l.length
 rw [vr]
 split
 ·have:=h 0;omega
 have:=h (QP.sg (f.ev q));rw [if_neg (fun k=>k.1 O)];omega
theorem Gp.dg {p:List I} (h:Gp p):QP.Dg (qp p) (p.length - 1):=by
 obtain ⟨c,hc⟩:=h.po;obtain ⟨n,n1,n2,n3⟩:=hc.top h.2.2;rw [oZ hc hc.ends,n1];exact ⟨by rw [kU];exact fun e=>n2 (Rat.intCast_eq_zero_iff.1 e),fun i hi=>by rw [kU,n3 i oo_];rfl⟩
theorem TL {x y:W} {n:Int} (h:x.1+y.1=n) (hn:-1000≤n∧n≤1000):(W.add x y).1=n:=by
 show IntKind.i64.wrap (x.1+y.1)=n
 rw [h,wi oo_]
end Go.Num
