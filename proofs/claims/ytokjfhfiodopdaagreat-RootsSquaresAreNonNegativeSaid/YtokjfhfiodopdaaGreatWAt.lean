/- Lemmas: what they ask stands in their statements. -/
import Derived.Test.YtokjfhfiodopdaaGreatWAr
set_option linter.unusedSimpArgs false
set_option linter.unusedVariables false
namespace Go.Num
open Go Go.Kn
open QP (V)
theorem yS {x y:Int} {A:Nat} (h:(x * y).natAbs≤A) (hy:y≠0):x.natAbs≤A:=by
  rw [Int.natAbs_mul] at h;exact Nat.le_trans (Nat.le_mul_of_pos_right _ oo_) h
theorem yU {x y:Int} {A:Nat} (h:(x * y).natAbs≤A) (hx:x≠0):y.natAbs≤A:=yS (by rwa [Int.mul_comm] at h) hx
theorem WX (g F:Nat→Int):conv g F 0=g 0 * F 0∧conv g F 1=g 0 * F 1+g 1 * F 0∧conv g F 2=g 0 * F 2+g 1 * F 1+g 2 * F 0∧conv g F 3=g 0 * F 3+g 1 * F 2+g 2 * F 1+g 3 * F 0:=by
  refine ⟨?_,?_,?_,?_⟩ <;> (unfold conv;simp [iF])
theorem YA {g F P:Nat→Int} {A:Nat} (hP:∀ k,(P k).natAbs≤A) (h:∀ k,P k=conv g F k) (g2:∀ i,1<i→g i=0) (g1:g 1≠0) {m:Nat} (hm:m≤2) (Fm:F m≠0) (Fz:∀ i,m<i→F i=0):(g 0).natAbs≤A∧(g 1).natAbs≤A∧(F m).natAbs≤A:=by
  obtain ⟨c0,c1,c2,c3⟩:=WX g F;have p0:=hP 0;have p1:=hP 1;have p2:=hP 2;rw [h,c0] at p0;rw [h,c1] at p1;rw [h,c2,g2 2 oo_] at p2;have top:=oI (c:=g) (d:=F) (n:=1) (m:=m) g2 Fz;have pt:=hP (1+m);rw [h,top] at pt;refine ⟨?_,yS pt Fm,yU pt g1⟩
  by_cases z0:F 0=0
  · rw [z0,Int.mul_zero,Int.add_zero] at p1
    by_cases z1:F 1=0
    · have:m=2:=by
        rcases Nat.lt_or_ge m 1 with k | k
        · exact absurd (by rw [show m=0 by omega];exact z0) Fm
        rcases Nat.lt_or_ge m 2 with k' | k'
        · exact absurd (by rw [show m=1 by omega];exact z1) Fm
        omega
      subst this;rw [z1,z0,Int.mul_zero,Int.mul_zero,Int.add_zero,Int.add_zero] at p2;exact yS p2 Fm
    exact yS p1 z1
  exact yS p0 z0
theorem df_ {g F P:Nat→Int} {A:Nat} (hP:∀ k,(P k).natAbs≤A) (h:∀ k,P k=conv g F k) {n m:Nat} (hnm:n+m≤3) (gn:g n≠0) (gz:∀ i,n<i→g i=0) (Fm:F m≠0) (Fz:∀ i,m<i→F i=0) :
    (F m).natAbs≤A∧((m=2∧∀ k,(F k).natAbs≤A+A * (A+A * A))∨(m≠2∧∀ k,(F k).natAbs≤A)):=by
  have top:=oI (c:=g) (d:=F) (n:=n) (m:=m) gz Fz;have pt:=hP (n+m);rw [h,top] at pt;have Fle:=yU pt gn;refine ⟨Fle,?_⟩;have A0:A≤A+A * (A+A * A):=Nat.le_add_right _ _
  by_cases n0:n=0
  · subst n0
    have hF:∀ k,(F k).natAbs≤A:=fun k=>by
      have e:conv g F k=g 0 * F k:=by
        by_cases hk:k≤3
        · obtain ⟨c0,c1,c2,c3⟩:=WX g F
          have z1:=gz 1 oo_;have z2:=gz 2 oo_;have z3:=gz 3 oo_;rcases (show k=0∨k=1∨k=2∨k=3 by omega) with r | r | r | r <;> subst r
          · exact c0
          · rw [c1,z1,Int.zero_mul,Int.add_zero]
          · rw [c2,z1,z2,Int.zero_mul,Int.zero_mul,Int.add_zero,Int.add_zero]
          rw [c3,z1,z2,z3,Int.zero_mul,Int.zero_mul,Int.zero_mul,Int.add_zero,Int.add_zero,Int.add_zero]
        rw [Fz k oo_,Int.mul_zero];exact mE (n:=1) (m:=m+1) (fun j hj=>gz j oo_) (fun j hj=>Fz j oo_) k oo_
      have:=hP k;rw [h,e] at this;exact yU this gn
    by_cases m2:m=2
    · exact .inl ⟨m2,fun k=>Nat.le_trans (hF k) A0⟩
    exact .inr ⟨m2,hF⟩
  by_cases m0:m=0
  · subst m0
    refine .inr ⟨by decide,fun k=>?_⟩
    by_cases hk:k=0
    · subst hk;exact Fle
    rw [Fz k oo_];exact Nat.zero_le _
  by_cases m1:m=1
  · subst m1
    obtain ⟨l0,l1,_⟩:=YA (g:=F) (F:=g) (P:=P) hP (fun k=>by rw [h,sK]) Fz Fm (m:=n) oo_ gn gz;refine .inr ⟨by decide,fun k=>?_⟩;rcases (show k=0∨k=1∨1<k by omega) with r | r | r
    · subst r;exact l0
    · subst r;exact l1
    rw [Fz k r];exact Nat.zero_le _
  obtain rfl:m=2:=by omega
  obtain rfl:n=1:=by omega
  obtain ⟨g0,g1,F2⟩:=YA hP h gz gn (m:=2) oo_ Fm Fz;refine .inl ⟨rfl,?_⟩;obtain ⟨c0,c1,c2,c3⟩:=WX g F;have p1:=hP 1;have p2:=hP 2;rw [h,c1] at p1;rw [h,c2,gz 2 oo_,Int.zero_mul,Int.add_zero] at p2
  have F1:(F 1).natAbs≤A+A * A:=by
    refine yU (x:=g 1) ?_ gn
    have e:g 1 * F 1=(g 0 * F 2+g 1 * F 1) - g 0 * F 2:=by omega
    have h1:(g 0 * F 2).natAbs≤A * A:=by rw [Int.natAbs_mul];exact Nat.mul_le_mul g0 F2
    omega
  have F0:(F 0).natAbs≤A+A * (A+A * A):=by
    refine yU (x:=g 1) ?_ gn
    have e:g 1 * F 0=(g 0 * F 1+g 1 * F 0) - g 0 * F 1:=by omega
    have h1:(g 0 * F 1).natAbs≤A * (A+A * A):=by rw [Int.natAbs_mul];exact Nat.mul_le_mul g0 F1
    omega
  have A1:A * A≤A * (A+A * A):=Nat.mul_le_mul_left _ (Nat.le_add_right _ _);intro k;rcases (show k=0∨k=1∨k=2∨2<k by omega) with r | r | r | r
  · subst r;exact F0
  · subst r;omega
  · subst r;omega
  rw [Fz k r];exact Nat.zero_le _
def one (i:Nat):Int:=if i=0 then 1 else 0
theorem GD (c:Nat→Int) (k:Nat):conv one c k=c k:=by rw [sK];unfold one;rw [WZ,Int.mul_one]
theorem bk_:Cop one:=fun u h=>h 0
theorem b2_ {c:Nat→Int} {n b:Nat} (h:Bd c n b) (hn:n≤4):Bd (dI c) (n - 1) (b+2):=by
  refine ⟨fun k hk=>by unfold dI;rw [h.z _ oo_,Int.mul_zero],fun k=>?_⟩;unfold dI
  by_cases hk:k+1<n
  · rw [Int.natAbs_mul,Int.natAbs_natCast,Nat.pow_add _ b 2,Nat.mul_comm]
    have h1:=h.b (k+1);have h2:(c (k+1)).natAbs * (k+1)≤(c (k+1)).natAbs * 2 ^ 2:=Nat.mul_le_mul_left _ (by show k+1≤4;omega);have h3:(c (k+1)).natAbs * 2 ^ 2<2 ^ b * 2 ^ 2:=Nat.mul_lt_mul_of_pos_right h1 dd_;omega
  rw [h.z _ oo_,Int.mul_zero];exact Nat.pow_pos dd_
theorem OL {p:List I} {c:Nat→Int} (h:Po p c) {n M:Nat} (hz:∀ i,n<i→c i=0) (hb:∀ k,(c k).natAbs≤M):Pr (fun k=>(c k).fdiv (cN p)) n M:=by
  by_cases h0:p=[]
  · have hz':∀ k,c k=0:=fun k=>h.zero (by rw [h0];exact Nat.zero_le _)
    exact ⟨fun i _=>by rw [hz' i,Int.zero_fdiv],fun k=>by rw [hz' k,Int.zero_fdiv];exact Nat.zero_le _,.inr fun k=>by rw [hz' k,Int.zero_fdiv]⟩
  exact ⟨fun i hi=>by rw [hz i hi,Int.zero_fdiv],fun k=>Nat.le_trans (R4 (h.cpos h0) (h.dvd k)) (hb k),.inl (GK h h0)⟩
theorem e4_:okT 1 0 (2 ^ 103) 4 3 2 (2 ^ 32) (2 ^ 34)=true:=by kernel_rfl
theorem cg_:2 ^ 32+2 ^ 32 * (2 ^ 32+2 ^ 32 * 2 ^ 32)<2 ^ 98:=by decide
structure Fs (F:Nat→Int) (m:Nat):Prop where
  top:F m≠0
  z:∀ i,m<i→F i=0
  m3:m≤3
  lead:(F m).natAbs≤2 ^ 32
  b:(m=2∧∀ k,(F k).natAbs<2 ^ 98)∨(m≠2∧∀ k,(F k).natAbs≤2 ^ 32)
theorem PR {p:List I} {c:Nat→Int} (h:Po p c) (hb:Bd c 4 32) (h0:p≠[]):∃ (F:Nat→Int) (m:Nat),Po (aV p) F∧Fs F m:=by
  have hd:=b2_ hb dd_;have hD:Po (aF p) (dI c):=H4 h fun k=>vJ (hd.b k) dd_;have pa:=OL h (n:=3) (M:=2 ^ 32) (fun i hi=>hb.z i oo_) (fun k=>Nat.le_of_lt (hb.b k));have pb:=OL hD (n:=2) (M:=2 ^ 34) (fun i hi=>hd.z i oo_) (fun k=>Nat.le_of_lt (hd.b k));have hα:=tY h;have hβ:=tY hD;obtain ⟨g,F,n,eρ,eF,hG,g0,gz,gB,gC,FC,hF,_⟩:=dU_ bk_ (ds:=0) (S:=1) dd_ (fun i hi=>if_neg oo_) (fun k=>by unfold one;split <;> decide) h h0 hD pa pb e4_ (hα.cast fun k=>(GD (fun k=>(c k).fdiv (cN p)) k).symm) (hβ.cast fun k=>(GD (fun k=>(dI c k).fdiv (cN (aF p))) k).symm)
  have hF':∀ k,(c k).fdiv (cN p)=conv g F k:=fun k=>by rw [← hF k,GD]
  obtain ⟨m,m1,m2⟩:=(HB eF).resolve_left (CT FC)
  have gn:g n≠0:=by omega
  have hnm:n+m≤3:=by
    rcases Nat.lt_or_ge 3 (n+m) with k | k
    · exfalso
      have e1:=hF' (n+m);rw [oI gz m2,hb.z _ oo_,Int.zero_fdiv] at e1;exact (Int.mul_ne_zero gn m1) e1.symm
    exact k
  obtain ⟨f1,f2⟩:=df_ (A:=2 ^ 32) pa.b hF' hnm gn gz m1 m2
  have hA:∀ i,(F i).natAbs≤2 ^ 98:=fun i=>by
    rcases f2 with ⟨_,f⟩ | ⟨_,f⟩
    · exact Nat.le_trans (f i) (Nat.le_of_lt cg_)
    exact Nat.le_trans (f i) dd_
  have hl:(aN p (aF p)).length=n+1:=hG.len_top gn gz
  obtain ⟨e,he,hP,_⟩:=VT hG hl g0 (A:=2 ^ 98) (B:=(0+1) * (1 * 2 ^ 103)) hA gB (by
    have:n+1≤4:=by omega
    refine Nat.lt_of_le_of_lt (Nat.mul_le_mul_right _ this) dd_) hα hF' m1 m2
  have ab:∀ k,(e * F k).natAbs=(F k).natAbs:=fun k=>by
    rcases he with rfl | rfl
    · rw [Int.one_mul]
    rw [Int.neg_one_mul,Int.natAbs_neg]
  refine ⟨_,m,hP,?_,fun i hi=>by rw [m2 i hi,Int.mul_zero],by omega,by rw [ab];exact f1,?_⟩
  · rcases he with rfl | rfl
    · rw [Int.one_mul];exact m1
    rw [Int.neg_one_mul];omega
  rcases f2 with ⟨hm,f⟩ | ⟨hm,f⟩
  · exact .inl ⟨hm,fun k=>by rw [ab];exact Nat.lt_of_le_of_lt (f k) cg_⟩
  exact .inr ⟨hm,fun k=>by rw [ab];exact f k⟩
def BF (s:Nat) (x:List I):Prop:=∃ c n b,Po x c∧Bd c n b∧n≤4∧b+s * n+3≤512
def okS (s:Nat):Nat→Nat→Nat→Nat→Nat→Bool
  | 0,_,_,_,_=>false
  | f+1,n0,n1,b0,b1=>(List.range (n1+1)).all fun n =>
    decide (n≤3)&&decide (((if n=0 then 1 else b1)+1) * (n0+1 - n)+b0+1≤512)&&decide ((if n=0 then 1 else b1)+s * (n+1)+3≤512)&&(decide (n=0)||okS s f n (n - 1) (if n=0 then 1 else b1) (((if n=0 then 1 else b1)+1) * (n0+1 - n)+b0+1))
theorem dE_ {s f n0 n1 b0 b1 n:Nat} (h:okS s (f+1) n0 n1 b0 b1=true) (hn:n≤n1):n≤3∧((if n=0 then 1 else b1)+1) * (n0+1 - n)+b0+1≤512∧(if n=0 then 1 else b1)+s * (n+1)+3≤512∧(n=0∨okS s f n (n - 1) (if n=0 then 1 else b1) (((if n=0 then 1 else b1)+1) * (n0+1 - n)+b0+1)=true):=by
  unfold okS at h;rw [List.all_eq_true] at h;have h4:=h n (List.mem_range.2 oo_);rw [Bool.and_eq_true,Bool.and_eq_true,Bool.and_eq_true,Bool.or_eq_true] at h4;obtain ⟨⟨⟨h5,h6⟩,h7⟩,h8⟩:=h4;exact ⟨of_decide_eq_true h5,of_decide_eq_true h6,of_decide_eq_true h7,h8.imp of_decide_eq_true id⟩
theorem eV_ {x k:Nat} (m:Nat) (hm:4294967296 ^ 16=2 ^ m) (h:x<2 ^ k) (hk:k≤m):x<4294967296 ^ 16:=by
  rw [hm];exact Nat.lt_of_lt_of_le h (Nat.pow_le_pow_right dd_ hk)
theorem Z1 {a b:List I} {α β:Nat→Int} {n0 n b0 b1:Nat} (ha:Po a α) (hb:Po b β) (za:∀ i,n0<i→α i=0) (ba:∀ k,(α k).natAbs<2 ^ b0) (tb:β n≠0) (zb:∀ i,n<i→β i=0) (bb:∀ k,(β k).natAbs<2 ^ b1) (hk:(b1+1) * (n0+1 - n)+b0+1≤512) :
    ∃ γ:Nat→Int,Po (aC (bV (bD a b) (E (Z.of (-1))))) γ∧(∀ k,(γ k).natAbs<2 ^ ((b1+1) * (n0+1 - n)+b0+1))∧(∀ i,n≤i→γ i=0)∧(aC (bV (bD a b) (E (Z.of (-1))))≠[]→Cop γ):=by
  have hl:b.length=n+1:=hb.len_top tb zb;have hal:a.length≤n0+1:=ha.short fun k hk=>za k oo_
  have o1:((β n).sign).natAbs≤1:=by
    have:=CC (β n);omega
  have B1:1≤2 ^ b1:=Nat.one_le_two_pow
  have an:(((β n).natAbs:Int)).natAbs≤2 ^ b1:=by rw [Int.natAbs_natCast];exact Nat.le_of_lt (bb n)
  have hm:a.length - n≤n0+1 - n:=by omega
  have e1:(2 * 2 ^ b1) ^ (a.length - n) * 2 ^ b0≤2 ^ ((b1+1) * (n0+1 - n)+b0):=by
    rw [show 2 * 2 ^ b1=2 ^ (b1+1) by rw [Nat.pow_succ,Nat.mul_comm],← Nat.pow_mul,← Nat.pow_add];refine Nat.pow_le_pow_right dd_ ?_;have:=Nat.mul_le_mul_left (b1+1) hm;omega
  have e2:2 ^ ((b1+1) * (n0+1 - n)+b0)<2 ^ ((b1+1) * (n0+1 - n)+b0+1):=Nat.pow_lt_pow_right dd_ (Nat.lt_succ_self _);have hB:=JU (n:=n) B1 an o1 (fun k=>Nat.le_of_lt (bb k)) (a.length - n) (2 ^ b0) α (fun k=>Nat.le_of_lt (ba k)) (eV_ 512 MO (Nat.lt_of_le_of_lt e1 e2) hk);have hr:=VZ ha hb hl hB;have hrl:=LS (n:=n) an o1 (fun k=>Nat.le_of_lt (bb k)) (a.length - n) (2 ^ b0) α (fun k=>Nat.le_of_lt (ba k));have hrz:=DB (a:=((β n).natAbs:Int)) (o:=(β n).sign) (d:=β) (n:=n) (GV _) zb (a.length - n) α (fun k hk=>ha.zero oo_)
  have hs:Po (bV (bD a b) (E (Z.of (-1)))) _:=MX hr dd_ (fun k=>by
    have:=hr.B k;unfold cZ at *;rwa [Int.mul_neg_one,Int.natAbs_neg])
  obtain ⟨γ,t,t0,tp,hγ,e4,hc⟩:=uP hs;refine ⟨γ,hγ,fun k=>?_,fun i hi=>?_,hc⟩
  · have h1:(t * γ k).natAbs<2 ^ ((b1+1) * (n0+1 - n)+b0+1):=by
      rw [← e4 k,Int.mul_neg_one,Int.natAbs_neg];have:=hrl k;omega
    rw [Int.natAbs_mul] at h1;exact Nat.lt_of_le_of_lt (Nat.le_mul_of_pos_left _ oo_) h1
  have h1:=e4 i;rw [hrz i hi,Int.zero_mul] at h1;rcases Int.mul_eq_zero.1 h1.symm with k | k
  · exact absurd k t0
  exact k
theorem O8 {s:Nat} (p:List I):∀ (f n0 n1 b0 b1 k:Nat) (pre:List (List I)) (last next:List I) (α β:Nat→Int),okS s f n0 n1 b0 b1=true→Po last α→Po next β→(∀ i,n0<i→α i=0)→(∀ k,(α k).natAbs<2 ^ b0) →
    (∀ i,n1<i→β i=0)→(∀ k,(β k).natAbs<2 ^ b1)→(next≠[]→Cop β)→gmP next<k→∃ s':List (List I)×List I,cV p k (pre ++ [last]) next = .inl s'∧∀ x∈s'.1,x∈pre ++ [last]∨BF s x
  | 0,_,_,_,_,_,_,_,_,_,_,h,_,_,_,_,_,_,_,_=>absurd h (by unfold okS;decide)
  | f+1,n0,n1,b0,b1,0,_,_,_,_,_,_,_,_,_,_,_,_,_,hk=>absurd hk (Nat.not_lt_zero _)
  | f+1,n0,n1,b0,b1,k+1,pre,last,next,α,β,h,ha,hb,za,ba,zb,bb,hC,hk=>by
    unfold cV
    by_cases h0:next=[]
    · subst h0
      exact ⟨_,rfl,fun x hx=>.inl hx⟩
    have hl:0<next.length:=List.length_pos_iff.2 h0
    rw [decide_eq_true (show 0<((next.length:Nat):Int) by omega),cond_true,FR,zL];obtain ⟨n,n1',n2,n3⟩:=hb.top h0
    have hn:n≤n1:=by
      rcases Nat.lt_or_ge n1 n with q | q
      · exact absurd (zb n q) n2
      exact q
    obtain ⟨w1,w2,w3,w4⟩:=dE_ h hn
    have bb':∀ k,(β k).natAbs<2 ^ (if n=0 then 1 else b1):=fun k=>by
      by_cases hn0:n=0
      · rw [if_pos hn0]
        subst hn0;have:=CS (hC h0) n3
        by_cases hk0:k=0
        · subst hk0;omega
        rw [n3 k oo_];decide
      rw [if_neg hn0];exact bb k
    obtain ⟨γ,g1,g2,g3,g4⟩:=Z1 ha hb za ba n2 n3 bb' w2;rw [g1.nb,cond_false]
    have hT:BF s next:=⟨β,n+1,_,hb,⟨fun k hk=>n3 k oo_,bb'⟩,by omega,w3⟩
    have lift:∀ {s':List (List I)×List I},(∀ x∈s'.1,x∈(pre ++ [last]) ++ [next]∨BF s x)→∀ x∈s'.1,x∈pre ++ [last]∨BF s x:=fun hx x hm=>by
      rcases hx x hm with q | q
      · rcases List.mem_append.1 q with q | q
        · exact .inl q
        rw [List.mem_singleton.1 q];exact .inr hT
      exact .inr q
    have hgm:gmP (aC (bV (bD last next) (E (Z.of (-1)))))<gmP next:=by
      have h1:=(MF (n:=E (Z.of (-1))) (a:=last) hb.l g1.g).2;unfold gmP;rw [g1.g,hb.g,cond_true,cond_true];omega
    rcases w4 with w4 | w4
    · have hnil:aC (bV (bD last next) (E (Z.of (-1))))=[]:=g1.nil fun k=>g3 k oo_
      rw [hnil];obtain ⟨k,rfl⟩:∃ j,k=j+1:=⟨k - 1,by omega⟩;refine ⟨((pre ++ [last]) ++ [next],[]),by unfold cV;rfl,lift fun x hx=>.inl hx⟩
    obtain ⟨s',e,hs'⟩:=O8 p f n (n - 1) _ _ k (pre ++ [last]) next _ β γ w4 hb g1 n3 bb' (fun i hi=>g3 i oo_) g2 g4 oo_
    exact ⟨s',e,lift hs'⟩
theorem ge_:okS 119 4 3 2 33 35=true:=by kernel_rfl
theorem gd_:okS 119 4 2 1 98 100=true:=by kernel_rfl
theorem D2 {p:List I} {c:Nat→Int} (h:Po p c) (hb:Bd c 4 32) (h0:p≠[]):(aI p).2=true∧(∃ F m,Po (aV p) F∧Fs F m)∧∀ x∈(aI p).1,BF 119 x:=by
  obtain ⟨F,m,hF,fs⟩:=PR h hb h0;have hne:aV p≠[]:=fun e=>fs.top (hF.zero (by rw [e];exact Nat.zero_le _))
  have key:∀ {n0 b0:Nat},n0≤3→(∀ i,n0<i→F i=0)→(∀ k,(F k).natAbs<2 ^ b0)→b0+2≤512→okS 119 4 n0 (n0 - 1) b0 (b0+2)=true→b0+119 * (n0+1)+3≤512→(aI p).2=true∧∀ x∈(aI p).1,BF 119 x:=fun {n0 b0} hn zF bF hb2 hok hTm=>by
    have bd:Bd F (n0+1) b0:=⟨fun k hk=>zF k oo_,bF⟩;have hd:=b2_ bd oo_;have hD:Po (aF (aV p)) (dI F):=H4 hF fun k=>vJ (hd.b k) hb2;obtain ⟨γ,t,t0,tp,hγ,e1,hc⟩:=uP hD
    have gz:∀ i,n0 - 1<i→γ i=0:=fun i hi=>by
      have h1:=e1 i;rw [hd.z i oo_] at h1;rcases Int.mul_eq_zero.1 h1.symm with k | k
      · exact absurd k t0
      exact k
    have gb:∀ k,(γ k).natAbs<2 ^ (b0+2):=fun k=>by
      have h1:=hd.b k;rw [e1 k,Int.natAbs_mul] at h1;exact Nat.lt_of_le_of_lt (Nat.le_mul_of_pos_left _ oo_) h1
    obtain ⟨s',e,hs'⟩:=O8 (s:=119) p 4 n0 (n0 - 1) b0 (b0+2) (gmP (aC (aF (aV p)))+1) [] (aV p) _ F γ hok hF hγ zF bF gz gb hc (Nat.lt_succ_self _);have hT:BF 119 (aV p):=⟨F,n0+1,b0,hF,bd,by omega,hTm⟩
    have hall:∀ x∈s'.1,BF 119 x:=fun x hx=>by
      rcases hs' x hx with q | q
      · rw [List.mem_singleton.1 q];exact hT
      exact q
    rw [List.nil_append] at e;unfold aI;rw [e]
    show (sm (fun (_:Unit)=>(s'.1,true)) (fun r=>r) (dE p s'.1 s'.2 s'.1)).2=true∧∀ x∈(sm (fun (_:Unit)=>(s'.1,true)) (fun r=>r) (dE p s'.1 s'.2 s'.1)).1,BF 119 x
    rw [N7 p s'.1 s'.2 s'.1 fun x hx=>by obtain ⟨c,_,_,hc,_⟩:=hall x hx;exact hc.nb];exact ⟨rfl,hall⟩
  have res:(aI p).2=true∧∀ x∈(aI p).1,BF 119 x:=by
    rcases fs.b with ⟨hm,hB⟩ | ⟨hm,hB⟩
    · subst hm
      exact key (n0:=2) (b0:=98) dd_ fs.z hB dd_ gd_ dd_
    have:=fs.m3;exact key (n0:=3) (b0:=33) dd_ (fun i hi=>fs.z i oo_) (fun k=>Nat.lt_of_le_of_lt (hB k) dd_) dd_ ge_ dd_
  exact ⟨res.1,⟨F,m,hF,fs⟩,res.2⟩
open QP (V Rb Two Cub)
theorem uE {s:Nat} {x:List I} {y:Rt} {q:Rat} (hT:BF s x) (hy:y.At q) (sq:Sz q s):(aG x y).2=true:=by
  obtain ⟨c,n,b,hc,hb,hn,hk⟩:=hT;exact (V0 (e:=2) hc hb hy sq hn oo_).1
theorem WN (c:List (List I)) (x:Rt):∀ (l:List (List I)) (s n:W),(∀ f∈l,(aG f x).2=true)→∃ r,d8 c x l s n = .inl r
  | [],s,n,_=>⟨_,rfl⟩
  | f :: l,s,n,h=>by
    unfold d8;have hr:=MY f x;have hl:∀ g∈l,(aG g x).2=true:=fun g hg=>h g (List.mem_cons_of_mem _ hg);rw [h f (List.mem_cons_self),cond_true];rw [show ((aG f x).1.1==(-2))=false by simp;omega,cond_false]
    cases ((aG f x).1.1 != 0)
    · exact WN c x l _ _ hl
    · cases ((s.1 != 0)&&((aG f x).1.1 != s.1)) <;> exact WN c x l _ _ hl
theorem FF {L:List (List I)} {x:Rt} (h:∀ f∈L,(aG f x).2=true):(cH L x).2=true:=by
  obtain ⟨r,e⟩:=WN L x L (wl 0) (wl 0) h;unfold cH;rw [e];rfl
theorem W3 {s:Nat} {L:List (List I)} {a b:Rt} {u v:Rat} (hT:∀ f∈L,BF s f) (ha:a.At u) (hb:b.At v) (su:Sz u s) (sv:Sz v s):(aH L a b).2=true:=by
  unfold aH
  show ((cH L a).2&&(cH L b).2)=true
  rw [FF fun f hf=>uE (hT f hf) ha su,FF fun f hf=>uE (hT f hf) hb sv];rfl
theorem O6 {x:Rt} (h:i9 x=true):∃ q,x.At q∧Sz q 12:=by
  unfold i9 at h;simp only [Bool.and_eq_true,decide_eq_true_eq] at h;obtain ⟨g,h1,h2⟩:=h;obtain ⟨q,hq⟩:=SD g;have i:=At.is hq;rw [i.en,bZ] at h1;rw [i.ed,bZ] at h2;refine ⟨q,hq,KD i.hn h1,?_⟩;have:=KD i.hd h2
  rwa [Int.natAbs_natCast] at this
theorem E8 {p:List I} {a b:Rt} {k:W} (h:cK p a b k=true):bU p 3 32=true∧(∃ q,a.At q∧Sz q 12)∧(∃ q,b.At q∧Sz q 12)∧k.1≤16:=by
  unfold cK at h;simp only [Bool.and_eq_true,decide_eq_true_eq] at h;exact ⟨h.1,O6 h.2.1,O6 h.2.2.1,h.2.2.2⟩
structure Pt (A B:Rat) (P j:Int) (x:Rat):Prop where
  p:0<P
  j0:0≤j
  j1:j≤P
  e:(P:Rat) * x=((P - j:Int):Rat) * A+(j:Rat) * B
theorem Pt.sz {A B x:Rat} {k:Nat} {j:Int} (h:Pt A B (2 ^ k) j x) (hA:Sz A 12) (hB:Sz B 12):Sz x (24+k):=by
  have a1:=zO A;have b1:=zO B;have a2:=@oS A;have b2:=@oS B;have e:=h.e;have P0:=h.p;have J0:=h.j0;have J1:=h.j1;have e24:(2:Nat) ^ (24+k)=2 ^ 24 * 2 ^ k:=Nat.pow_add _ _ _
  have ePk:((2:Int) ^ k).natAbs=2 ^ k:=by rw [Int.natAbs_pow];rfl
  refine bU_ (n:=A.num * B.den * (2 ^ k - j)+B.num * A.den * j) (d:=A.den * B.den * 2 ^ k) ?_ (Int.mul_pos (Int.mul_pos a2 b2) P0) ?_ ?_
  · simp only [Rat.intCast_add,Rat.intCast_sub,Rat.intCast_mul] at e ⊢
    rw [← a1,← b1];generalize ((2 ^ k:Int):Rat)=P at *;generalize ((A.den:Int):Rat)=d at *;generalize ((B.den:Int):Rat)=f at *
    have:d * f * P * x=d * f * (P * x):=by grind
    rw [this,e];grind
  · have h1:(A.num * B.den).natAbs≤2 ^ 24 - 1:=by
      have:=yR hA.n (show ((B.den:Int)).natAbs<2 ^ 12 by rw [Int.natAbs_natCast];exact hB.d);omega
    have h2:(B.num * A.den).natAbs≤2 ^ 24 - 1:=by
      have:=yR hB.n (show ((A.den:Int)).natAbs<2 ^ 12 by rw [Int.natAbs_natCast];exact hA.d);omega
    rw [e24]
    have t1:(A.num * B.den * (2 ^ k - j)).natAbs≤(2 ^ 24 - 1) * ((2 ^ k - j:Int)).natAbs:=by rw [Int.natAbs_mul];exact Nat.mul_le_mul_right _ h1
    have t2:(B.num * A.den * j).natAbs≤(2 ^ 24 - 1) * j.natAbs:=by rw [Int.natAbs_mul];exact Nat.mul_le_mul_right _ h2
    have t3:((2 ^ k - j:Int)).natAbs+j.natAbs=2 ^ k:=by rw [← ePk];omega
    have t4:(2 ^ 24 - 1) * ((2 ^ k - j:Int)).natAbs+(2 ^ 24 - 1) * j.natAbs=(2 ^ 24 - 1) * 2 ^ k:=by rw [← Nat.mul_add,t3]
    have t5:(2 ^ 24 - 1) * 2 ^ k<2 ^ 24 * 2 ^ k:=Nat.mul_lt_mul_of_pos_right dd_ (Nat.pow_pos dd_);omega
  rw [Int.natAbs_mul,ePk,e24];refine Nat.mul_lt_mul_of_pos_right ?_ (Nat.pow_pos dd_);exact yR (b:=12) (b':=12) (by rw [Int.natAbs_natCast];exact hA.d) (by rw [Int.natAbs_natCast];exact hB.d)
structure It (A B:Rat) (P j:Int) (u v:Rat):Prop where
  lo:Pt A B P j u
  hi:Pt A B P (j+1) v
theorem It.one (A B:Rat):It A B (2 ^ 0) 0 A B:=by
  have e1:(((2:Int) ^ 0:Int):Rat)=1:=rfl;have e2:(((2:Int) ^ 0 - 0:Int):Rat)=1:=rfl;have e3:(((2:Int) ^ 0 - (0+1):Int):Rat)=0:=rfl;have e4:(((0:Int)+1:Int):Rat)=1:=rfl;have e5:((0:Int):Rat)=0:=rfl;exact ⟨⟨by decide,by decide,by decide,by rw [e1,e2,e5];grind⟩,⟨by decide,by decide,by decide,by rw [e1,e3,e4];grind⟩⟩
theorem It.len {A B:Rat} {P j:Int} {u v:Rat} (h:It A B P j u v):(P:Rat) * (v - u)=B - A:=by
  have a:=h.lo.e;have b:=h.hi.e;simp only [Rat.intCast_add,Rat.intCast_sub] at a b;have e:((1:Int):Rat)=1:=rfl;rw [e] at b
  grind
theorem It.mid {A B:Rat} {P j:Int} {u v:Rat} (h:It A B P j u v):Pt A B (P * 2) (j * 2+1) ((u+v) * (1 / 2)):=by
  have a:=h.lo.e;have b:=h.hi.e;have p0:=h.lo.p;have j0:=h.lo.j0;have j1:=h.hi.j1;refine ⟨by omega,by omega,by omega,?_⟩;simp only [Rat.intCast_add,Rat.intCast_sub,Rat.intCast_mul] at a b ⊢;have e:((1:Int):Rat)=1:=rfl;have e':((2:Int):Rat)=2:=rfl;rw [e] at b ⊢;rw [e']
  grind
theorem Pt.dbl {A B:Rat} {P j:Int} {x:Rat} (h:Pt A B P j x):Pt A B (P * 2) (j * 2) x:=by
  have a:=h.e;have p0:=h.p;have j0:=h.j0;have j1:=h.j1;refine ⟨by omega,by omega,by omega,?_⟩;simp only [Rat.intCast_sub,Rat.intCast_mul] at a ⊢;have e':((2:Int):Rat)=2:=rfl;rw [e']
  grind
theorem It.left {A B:Rat} {k:Nat} {j:Int} {u v:Rat} (h:It A B (2 ^ k) j u v):It A B (2 ^ (k+1)) (j * 2) u ((u+v) * (1 / 2)):=by
  rw [Int.pow_succ];exact ⟨h.lo.dbl,h.mid⟩
theorem It.right {A B:Rat} {k:Nat} {j:Int} {u v:Rat} (h:It A B (2 ^ k) j u v):It A B (2 ^ (k+1)) (j * 2+1) ((u+v) * (1 / 2)) v:=by
  rw [Int.pow_succ];refine ⟨h.mid,?_⟩;rw [show j * 2+1+1=(j+1) * 2 by omega];exact h.hi.dbl
theorem It.lt {A B:Rat} {P j:Int} {u v:Rat} (h:It A B P j u v) (hAB:A<B):u<v:=by
  have a:=h.len;have p0:(0:Rat)<(P:Rat):=Rat.intCast_pos.2 h.lo.p
  apply Rat.not_le.1
  intro hn;have:=Rat.mul_nonneg (Rat.le_of_lt p0) (show (0:Rat)≤u - v by grind)
  grind
theorem It.le {A B:Rat} {P j:Int} {u v:Rat} (h:It A B P j u v) (hAB:A≤B):u≤v:=by
  have a:=h.len;have p0:(0:Rat)<(P:Rat):=Rat.intCast_pos.2 h.lo.p
  apply Rat.not_lt.1
  intro hn;have:=Rat.mul_pos p0 (show (0:Rat)<u - v by grind)
  grind
theorem Pt.ge {A B:Rat} {P j:Int} {x:Rat} (h:Pt A B P j x) (hAB:A≤B):A≤x∧x≤B:=by
  have a:=h.e;have p0:(0:Rat)<(P:Rat):=Rat.intCast_pos.2 h.p;have j0:(0:Rat)≤(j:Rat):=Rat.intCast_nonneg.2 h.j0;have j1:(0:Rat)≤((P - j:Int):Rat):=Rat.intCast_nonneg.2 (by have:=h.j1;omega);have b1:=Rat.mul_nonneg j0 (show 0≤B - A by grind);have b2:=Rat.mul_nonneg j1 (show 0≤B - A by grind);rw [Rat.intCast_sub] at a b2
  constructor
  · apply Rat.not_lt.1
    intro hn;have:=Rat.mul_pos p0 (show (0:Rat)<A - x by grind)
    grind
  apply Rat.not_lt.1
  intro hn;have:=Rat.mul_pos p0 (show (0:Rat)<x - B by grind)
  grind
theorem cv_ {q:Rat} {k:Nat} (h:Sz q k):Ab q (((2 ^ k:Nat):Int):Rat):=by
  have a1:=zO q;have a2:=@oS q
  have d1:(1:Rat)≤((q.den:Int):Rat):=by
    rw [show (1:Rat)=((1:Int):Rat) from rfl];exact Rat.intCast_le_intCast.2 oo_
  have n1:((q.num:Int):Rat)≤(((2 ^ k:Nat):Int):Rat):=Rat.intCast_le_intCast.2 (by have:=h.n;omega)
  have n2:(-(((2 ^ k:Nat):Int):Rat))≤((q.num:Int):Rat):=by
    rw [← Rat.intCast_neg];exact Rat.intCast_le_intCast.2 (by have:=h.n;omega)
  have m0:(0:Rat)≤(((2 ^ k:Nat):Int):Rat):=Rat.intCast_nonneg.2 (Int.natCast_nonneg _);generalize (((2 ^ k:Nat):Int):Rat)=M at *;generalize ((q.den:Int):Rat)=d at *;rw [← a1] at n1 n2
  constructor
  · apply Rat.not_lt.1
    intro hn;have k1:=Rat.mul_nonneg (show (0:Rat)≤d - 1 by grind) (show (0:Rat) ≤ -q - M by grind);have k2:=Rat.mul_nonneg (show (0:Rat)≤d - 1 by grind) m0
    grind
  apply Rat.not_lt.1
  intro hn;have k1:=Rat.mul_nonneg (show (0:Rat)≤d - 1 by grind) (show (0:Rat)≤q - M by grind);have k2:=Rat.mul_nonneg (show (0:Rat)≤d - 1 by grind) m0
  grind
theorem dT_ {p f:QP} (h:Rad p f) (x:Rat):¬ (f.ev x=0∧(QP.D f).ev x=0):=fun ⟨h1,h2⟩=>by
  obtain ⟨g,u,v,e,d1,d2⟩:=QP.bezout f (QP.D f);have hg:g≠QP.C 0:=fun e0=>h.ne (by rw [e0] at d1;exact d1.of_zero);obtain ⟨n,hn⟩:=QP.ex_dg hg;have n0:=QP.sqf_co h.sq d1 d2 hn;subst n0;have e1:=QP.dg_C hn
  have e2:g.ev x=0:=by rw [e,QP.ev_add,QP.ev_mul,QP.ev_mul,h1,h2];grind
  rw [e1,QP.ev_C] at e2;exact hn.1 e2
theorem c6_ {F:Nat→Int} (e:mX F) (hz:∀ i,3<i→F i=0):Cub (ZP F e) (F 3) (F 2) (F 1) (F 0):=by
  refine ⟨fun x=>?_,fun x=>?_⟩
  · rw [QP.ev_vl (n:=4) fun i hi=>by rw [lQ,hz i oo_];rfl]
    unfold vl;simp only [iF,lQ,Rat.pow_zero,Rat.pow_succ]
    grind
  rw [QP.ev_vl (n:=3) fun i hi=>by rw [QP.D_c,lQ,hz (i+1) oo_];exact Rat.mul_zero _];unfold vl;simp only [iF,QP.D_c,lQ,Rat.pow_zero,Rat.pow_succ];have n1:(((0+1:Nat):Nat):Rat)=1:=rfl;have n2:(((1+1:Nat):Nat):Rat)=2:=rfl;have n3:(((2+1:Nat):Nat):Rat)=3:=rfl;rw [n1,n2,n3]
  grind
theorem gk_:QP.sepC (4294967296:Rat) 4096≤2 ^ 159:=by
  unfold QP.sepC;decide +kernel
theorem gj_:4 * (4294967296:Rat) * 4294967296≤2 ^ 159:=by decide +kernel
theorem b9_ {x A B:Rat} (h:1≤A * (x * x)) (hl:A≤B):1≤B * (x * x):=by
  have h0:0≤x * x:=by
    rcases Rat.le_total (a:=0) (b:=x) with k | k
    · exact Rat.mul_nonneg k k
    have:=Rat.mul_nonneg (show 0 ≤ -x by grind) (show 0 ≤ -x by grind);grind
  have:=Rat.mul_nonneg (show 0≤B - A by grind) h0
  grind
theorem sep {p:List I} {L:List (List I)} (h:St p L) {F:Nat→Int} {m:Nat} (hF:Po (aV p) F) (fs:Fs F m) {u v:Rat} (huv:u<v) (au:Ab u 4096) (av:Ab v 4096) (ht:Two (qp (aV p)) (L.map qp) u v):(1:Rat)≤2 ^ 159 * ((v - u) * (v - u)):=by
  obtain ⟨f,l,⟨eL,ef⟩,hR,hs,hl⟩:=h.s;subst ef;have hq:qp (aV p)=ZP F hF.ends:=qK hF _;rcases hl with rfl | ⟨g,l',κ,rfl,hc,hκ,hD⟩
  · exfalso
    rw [eL] at ht;unfold Two at ht;simp only [List.map_cons,List.map_nil,QP.V_one] at ht;omega
  rw [eL] at ht hc;simp only [List.map_cons] at ht hc;have n1:=QP.two_nD hc hκ hD huv ht
  have n2:¬ Rb u v (qp (aV p)):=fun hr=>by
    have:=QP.st_rb hc hκ hD huv hr;unfold Two at ht;omega
  have z1:=fun ε (hε:(0:Rat)<ε)=>QP.small_at (Rat.le_of_lt huv) n1 hε;have z2:=fun ε (hε:(0:Rat)<ε)=>QP.small_at (Rat.le_of_lt huv) n2 hε;have hz:=fun x=>dT_ hR x;rw [hq] at z1 z2 hz n1 n2;have m3:=fs.m3;have cu:=c6_ hF.ends fun i hi=>fs.z i oo_
  have bb:∀ k,m≠2→Ab ((F k:Int):Rat) 4294967296:=fun k hm=>by
    rcases fs.b with ⟨h2,_⟩ | ⟨_,h2⟩
    · exact absurd h2 hm
    exact QP.Ab.int (B:=4294967296) (h2 k)
  rcases (show m=3∨m=2∨m≤1 by omega) with hm | hm | hm
  · subst hm
    exact b9_ (QP.far3 cu fs.top hz dd_ dd_ (bb 3 dd_) (bb 2 dd_) (bb 1 dd_) (bb 0 dd_) au av (Rat.le_of_lt huv) z1 z2) gk_
  · subst hm
    have c0:F 3=0:=fs.z 3 oo_;rw [c0] at cu;exact b9_ (QP.far2 cu fs.top hz dd_ dd_ (QP.Ab.int (B:=4294967296) fs.lead) au av (Rat.le_of_lt huv) z1 z2) gj_
  exfalso
  have d1:∀ x,(QP.D (ZP F hF.ends)).ev x=((F 1:Int):Rat):=fun x=>by
    rw [cu.d,fs.z 3 oo_,fs.z 2 oo_];have:((0:Int):Rat)=0:=rfl;rw [this];grind
  by_cases f1:F 1=0
  · have m0:m=0:=by
      rcases Nat.lt_or_ge m 1 with k | k
      · omega
      have:m=1:=by omega
      subst this;exact absurd f1 fs.top
    subst m0;have f0:((F 0:Int):Rat)≠0:=fun e=>fs.top (Rat.intCast_eq_zero_iff.1 e)
    have v0:∀ x,(ZP F hF.ends).ev x=((F 0:Int):Rat):=fun x=>by
      rw [cu.v,fs.z 3 oo_,fs.z 2 oo_,f1];have:((0:Int):Rat)=0:=rfl;rw [this];grind
    refine n2 ?_;rcases Rat.le_total (a:=0) (b:=((F 0:Int):Rat)) with k | k
    · exact ⟨_,show (0:Rat)<((F 0:Int):Rat) by grind,.inl fun x _ _=>by rw [v0];exact Rat.le_refl⟩
    exact ⟨-((F 0:Int):Rat),by grind,.inr fun x _ _=>by rw [v0];grind⟩
  have f0:((F 1:Int):Rat)≠0:=fun e=>f1 (Rat.intCast_eq_zero_iff.1 e);refine n1 ?_;rcases Rat.le_total (a:=0) (b:=((F 1:Int):Rat)) with k | k
  · exact ⟨_,show (0:Rat)<((F 1:Int):Rat) by grind,.inl fun x _ _=>by rw [d1];exact Rat.le_refl⟩
  exact ⟨-((F 1:Int):Rat),by grind,.inr fun x _ _=>by rw [d1];grind⟩
theorem f2_ {A B u v:Rat} {k:Nat} {j:Int} (h:It A B (2 ^ k) j u v) (aA:Ab A 4096) (aB:Ab B 4096) (hs:(1:Rat)≤2 ^ 159 * ((v - u) * (v - u))):k≤92:=by
  have hl:=h.len
  have w:Ab (B - A) 8192:=by unfold Ab at *;grind
  have ww:=w.mul w
  have p2:(((2:Int) ^ k:Int):Rat) * (((2:Int) ^ k:Int):Rat)≤2 ^ 185:=by
    have e:(((2:Int) ^ k:Int):Rat) * (((2:Int) ^ k:Int):Rat) * ((v - u) * (v - u))=(B - A) * (B - A):=by rw [← hl];grind
    have p0:(0:Rat)<(((2:Int) ^ k:Int):Rat):=Rat.intCast_pos.2 h.lo.p;generalize (((2:Int) ^ k:Int):Rat)=P at *;have pp:=Rat.mul_pos p0 p0;have h1:=Rat.mul_nonneg (Rat.le_of_lt pp) (show 0≤2 ^ 159 * ((v - u) * (v - u)) - 1 by grind)
    have h2:P * P≤2 ^ 159 * ((B - A) * (B - A)):=by rw [← e];grind
    have h3:(2:Rat) ^ 159 * (8192 * 8192)=2 ^ 185:=by decide +kernel
    have h4:=Rat.mul_le_mul_of_nonneg_left ww.2 (show (0:Rat)≤2 ^ 159 by decide +kernel)
    grind
  apply Classical.byContradiction
  intro hn
  have e1:(2:Rat) ^ 185=(((2:Int) ^ 185:Int):Rat):=by decide +kernel
  rw [← Rat.intCast_mul,← Int.pow_add,e1] at p2;have p3:=Rat.intCast_le_intCast.1 p2
  have p4:(2:Int) ^ 186≤2 ^ (k+k):=by exact_mod_cast (Nat.pow_le_pow_right (n:=2) dd_ (show 186≤k+k by omega))
  have p5:(2:Int) ^ 185<2 ^ 186:=by decide
  omega
theorem WE {a:Rt} {q:Rat} (h:a.At q):a.n.1.bad=false:=by
  rw [(At.is h).en];exact QK (At.is h).hn
theorem SK {l:List I}:((((l).length:Nat):Int)==0)=decide (l=[]):=by cases l <;> rfl
open QP (V Rb Two)
theorem a5_:Sz (1 / 2) 2:=⟨by decide +kernel,by decide +kernel⟩
theorem dw_ {a b:Rt} {u v:Rat} (ha:a.At u) (hb:b.At v) (su:Sz u 200) (sv:Sz v 200):(aE a b).At ((u+v) * (1 / 2)):=by
  unfold aE;simp only;rw [PN,VU,RH];exact VV (VP ha hb su sv dd_) SE (su.add sv) a5_ dd_
structure Sp (p:List I) (A B:Rat):Prop where
  rgt:Rgt p
  ne:p≠[]
  gd:p.all gdI=true
  ok:(aI p).2=true
  st:St p (aI p).1
  free:∃ F m,Po (aV p) F∧Fs F m
  tame:∀ x∈(aI p).1,BF 119 x
  tp:BF 119 p
  sA:Sz A 12
  sB:Sz B 12
theorem Sp.of {p:List I} {A B:Rat} (hf:bU p 3 32=true) (hg:p.all gdI=true) (h0:p≠[]) (sA:Sz A 12) (sB:Sz B 12):Sp p A B:=by
  obtain ⟨c,hc,bd⟩:=NQ hf hg;have bd:Bd c 4 32:=bd;obtain ⟨s1,s2,s3⟩:=D2 hc bd h0;exact ⟨hc.rgt,h0,hg,s1,(CF hc.rgt s1).resolve_left h0,s2,s3,⟨c,4,32,hc,bd,by decide,by decide⟩,sA,sB⟩
theorem Sp.two {p:List I} {A B:Rat} (h:Sp p A B) {k:Nat} {j:Int} {u v:Rat} (hi:It A B (2 ^ k) j u v) (huv:u<v) (ht:Two (qp (aV p)) ((aI p).1.map qp) u v):k≤92:=by
  have aA:Ab A 4096:=(cv_ h.sA).le (by decide +kernel);have aB:Ab B 4096:=(cv_ h.sB).le (by decide +kernel)
  have hAB:A≤B:=by
    have a:=hi.len;have p0:(0:Rat)<(((2:Int) ^ k:Int):Rat):=Rat.intCast_pos.2 hi.lo.p;have:=Rat.mul_pos p0 (show 0<v - u by grind)
    grind
  have gu:=hi.lo.ge hAB;have gv:=hi.hi.ge hAB;obtain ⟨F,m,hF,fs⟩:=h.free;exact f2_ hi aA aB (sep h.st hF fs huv (by unfold Ab at *;grind) (by unfold Ab at *;grind) ht)
theorem Sp.count {p:List I} {A B:Rat} (h:Sp p A B) {k:Nat} (hk:k≤95) {i j:Int} {a b:Rt} {u v:Rat} (ha:a.At u) (hb:b.At v) (pu:Pt A B (2 ^ k) i u) (pv:Pt A B (2 ^ k) j v):(aH (aI p).1 a b).2=true :=
  W3 h.tame ha hb ((pu.sz h.sA h.sB).mono oo_) ((pv.sz h.sA h.sB).mono oo_)
theorem Sp.mid {p:List I} {A B:Rat} (h:Sp p A B) {k:Nat} (hk:k≤95) {i j:Int} {a b:Rt} {u v:Rat} (ha:a.At u) (hb:b.At v) (pu:Pt A B (2 ^ k) i u) (pv:Pt A B (2 ^ k) j v):(aE a b).At ((u+v) * (1 / 2)) :=
  dw_ ha hb ((pu.sz h.sA h.sB).mono oo_) ((pv.sz h.sA h.sB).mono oo_)
theorem Sp.many {p:List I} {A B:Rat} (h:Sp p A B) (hAB:A≤B) {k:Nat} (hk:k≤93) {j:Int} {a b:Rt} {u v:Rat} (ha:a.At u) (hb:b.At v) (hi:It A B (2 ^ k) j u v) (h0:((aH (aI p).1 a b).1.1==0)=false) (h1:((aH (aI p).1 a b).1.1==1)=false):k≤92:=by
  have hc:=h.count oo_ ha hb hi.lo hi.hi;obtain ⟨u',v',cx⟩:=EL h.st (wK p) hc;obtain rfl:=yH ha cx.a;obtain rfl:=yH hb cx.b;have n:=cx.n;have le:=hi.le hAB;have an:=h.st.anti le
  have h0':¬ (aH (aI p).1 a b).1.1=0:=by simpa using h0
  have h1':¬ (aH (aI p).1 a b).1.1=1:=by simpa using h1
  have huv:u<v:=by
    apply Rat.not_le.1
    intro hn
    have:u=v:=by grind
    subst this;omega
  exact h.two hi huv (.inl oo_)
end Go.Num
