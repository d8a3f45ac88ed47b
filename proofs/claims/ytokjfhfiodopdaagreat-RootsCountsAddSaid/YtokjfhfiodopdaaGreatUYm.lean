/- Lemmas: what they ask stands in their statements. -/
import Derived.Test.YtokjfhfiodopdaaGreatUFp
set_option linter.unusedSimpArgs false
set_option linter.unusedVariables false
namespace Go.Num
open Go Go.Kn
theorem HZ (l:List I) (f:I→Bool):∀ (k i:Nat),l.length - i<k→(∃ j:Nat,j<l.length∧kO l f k i = .inr (W.cv (j:Int))∧(l.drop i).any f=true)∨(∃ j,kO l f k i = .inl j∧(l.drop i).any f=false)
  | 0,i,h=>absurd h (Nat.not_lt_zero _)
  | k+1,i,h=>by
    unfold kO
    by_cases hi:i<l.length
    · rw [decide_eq_true oo_,cond_true,yR l hi,List.any_cons]
      cases hf:f (l.getD i I0)
      · simp only [cond_false,Bool.false_or]
        exact HZ l f k (i+1) oo_
      exact .inl ⟨i,hi,rfl,rfl⟩
    rw [decide_eq_false oo_,cond_false,List.drop_of_length_le oo_];exact .inr ⟨i,rfl,rfl⟩
theorem O8 (l:List I) (f:I→Bool) (hl:l.length≤1000):pX l f=l.any f:=by
  unfold pX rZ;rcases HZ l f (l.length+1) 0 oo_ with ⟨j,hj,h1,h2⟩ | ⟨j,h1,h2⟩
  · rw [h1]
    show decide (0≤(W.cv (j:Int)).1)=_
    rw [cvE oo_,decide_eq_true oo_];rw [List.drop_zero] at h2;exact h2.symm
  rw [h1];rw [List.drop_zero] at h2;rw [h2];rfl
theorem br_ (l:List I):(l.any fun y=>!gdI y) = !l.all gdI:=by
  induction l with
  | nil=>rfl
  | cons x l ih =>
    rw [List.any_cons,List.all_cons,ih]
    cases gdI x <;> rfl
theorem iY {p:List I} (h:p.length≤1000):aU p = !p.all gdI:=by
  unfold aU;rw [O8 _ _ h];exact br_ p
theorem H1 (p:List I):∀ (k i:Nat),p.length - i<k→(∃ j,gE p k i = .inl j∧(p.drop i).all gdI=true)∨(gE p k i = .inr true∧(p.drop i).all gdI=false)
  | 0,i,h=>absurd h (Nat.not_lt_zero _)
  | k+1,i,h=>by
    unfold gE
    by_cases hi:i<p.length
    · rw [decide_eq_true oo_,cond_true,yR p hi,List.all_cons]
      show (∃ j,(bif gdI (p.getD i I0) then _ else _)=_∧_)∨((bif gdI (p.getD i I0) then _ else _)=_∧_)
      cases gdI (p.getD i I0)
      · exact .inr ⟨rfl,rfl⟩
      simp only [cond_true,Bool.true_and];exact H1 p k (i+1) oo_
    rw [decide_eq_false oo_,cond_false,List.drop_of_length_le oo_];exact .inl ⟨i,rfl,rfl⟩
theorem lN (p:List I):aP p = !p.all gdI:=by
  unfold aP;rcases H1 p (p.length+1) 0 oo_ with ⟨j,h1,h2⟩ | ⟨h1,h2⟩
  · rw [h1];rw [List.drop_zero] at h2;rw [h2];rfl
  rw [h1];rw [List.drop_zero] at h2;rw [h2];rfl
theorem o4 {l:List I} {k:Nat} (h:l.length≤k):l.getD k I0=I0:=by simp [List.getD,List.getElem?_eq_none h]
theorem EK (p:List I) (k:Nat):eV p (k:Int)=p.getD k I0:=by
  unfold eV;rw [decide_eq_false oo_,Bool.false_or,Int.toNat_natCast]
  by_cases h:p.length≤k
  · rw [decide_eq_true oo_,cond_true,o4 h]
  rw [decide_eq_false oo_,cond_false]
theorem qS {p q:List I} (f:I→I→I) (hp:p.length≤1000) (hq:q.length≤1000):fG p q f=bif (p.all gdI&&q.all gdI) then mkP ((List.range (max p.length q.length)).map fun k=>f (p.getD k I0) (q.getD k I0)) else badp:=by
  unfold fG;rw [iY hp,iY hq,pY,Int.toNat_natCast]
  have e:((List.range (max p.length q.length)).map fun j=>gK (pH j f p q))=(List.range (max p.length q.length)).map fun k=>f (p.getD k I0) (q.getD k I0):=List.map_congr_left fun k _=>by
    show f (eV p (k:Int)) (eV q (k:Int))=_
    rw [EK,EK]
  rw [e]
  cases p.all gdI <;> cases q.all gdI <;> rfl
theorem oF (t:List I) (k j:Nat) (x:I) (h:j≠k):(t.set k x).getD j I0=t.getD j I0:=by
  simp [List.getD,List.getElem?_set_ne (Ne.symm h)]
theorem kQ (t:List I) (k:Nat) (x:I) (h:k<t.length):(t.set k x).getD k I0=x:=by
  simp [List.getD,List.getElem?_set_self h]
theorem gw_ {x:I} (h:x.dec.Is 0):zrI x=true:=by
  unfold zrI;have:=h.sign0
  show (x.dec.sign==0)=true
  rw [this];rfl
theorem cT_ {x:I} (h:zrI x=true):x.dec.Is 0:=by
  have h1:x.dec.sign=0:=by unfold zrI at h;exact (by simpa using h:(Z.signW x.dec).1=0)
  cases ho:x.dec.o with
  | none=>exact .inl ho
  | some v =>
    unfold Z.sign at h1;rw [ho] at h1;have:v=0:=Int.sign_eq_zero_iff_zero.1 h1;rw [this] at ho;exact .inr ho
theorem zr0:zrI I0=true:=by decide +kernel
theorem SA (z:Z):∃ v:Int,z.Is v:=by
  cases h:z.o with
  | none=>exact ⟨0,.inl h⟩
  | some v=>exact ⟨v,.inr h⟩
theorem ZR {z:Z} {v:Int} (h:z.Is v):(Z.abs z).Is (v.natAbs:Int):=by
  rcases h with h | h
  · left;rw [Z.abs,qV h];rfl
  rw [Z.abs,mH h];exact UC _
def XX (n:Nat) (r:List I):Prop:=∀ j:Nat,n≤j→zrI (r.getD j I0)=true
theorem A6 {n:Nat}:∀ (m:Nat) (r:List I),r.length≤m→XX n r→(kS r).length≤n
  | 0,r,h,_=>by
    have:r=[]:=List.eq_nil_of_length_eq_zero oo_;rw [this];exact Nat.zero_le _
  | m+1,r,h,hz=>by
    by_cases hn:r.length≤n
    · exact Nat.le_trans (yC r) hn
    rcases qM r with rfl | ⟨s,x,rfl⟩
    · exact Nat.zero_le _
    simp only [List.length_append,List.length_cons,List.length_nil] at hn h;have hx:=hz s.length oo_;rw [show (s ++ [x]).getD s.length I0=x by simp] at hx;rw [qN,hx,cond_true];refine A6 m s oo_ (fun j hj=>?_)
    by_cases hjs:j<s.length
    · have:=hz j hj
      rwa [show (s ++ [x]).getD j I0=s.getD j I0 by simp [List.getD,List.getElem?_append_left hjs]] at this
    rw [o4 oo_];exact zr0
theorem WI {n:Nat} {r:List I} (h:XX n r):mkP r=badp∨(mkP r).length≤n:=by
  unfold mkP
  cases r.all gdI
  · exact .inl rfl
  simp only [cond_true]
  split
  · exact .inr (A6 _ r (Nat.le_refl _) h)
  exact .inl rfl
def JX (q:List I) (i:Int) (c:I) (k:Nat) (x:I):I:=E (Z.sub (Z.mul (Z.abs (q.getD (q.length - 1) I0).dec) x.dec) (Z.mul c.dec (eV q ((k:Int) - i)).dec))
theorem aD_ (q:List I) (i:Int) (c:I) (k:Nat) (x:I):(JX q i c k x).dec=Z.sub (Z.mul (Z.abs (q.getD (q.length - 1) I0).dec) x.dec) (Z.mul c.dec (eV q ((k:Int) - i)).dec):=by
  unfold JX;rw [cZ]
theorem FA (p q r:List I) (i:Int) (c:I):∀ (f k:Nat) (t:List I),r.length - k<f→t.length=r.length →
    (∃ t' k',fC p q i r c f k t = .inl (k',t')∧t'.length=r.length∧∀ j,t'.getD j I0=if k≤j∧j<r.length then JX q i c j (t.getD j I0) else t.getD j I0)∨fC p q i r c f k t = .inr badp
  | 0,k,t,h,_=>absurd h (Nat.not_lt_zero _)
  | f+1,k,t,h,hl=>by
    unfold fC
    by_cases hk:k<r.length
    · rw [decide_eq_true oo_,cond_true]
      show (∃ t' k',(bif ((t.set k (JX q i c k (t.getD k I0))).getD k I0).1.bad then _ else fC p q i r c f (k+1) (t.set k (JX q i c k (t.getD k I0))))=_∧_)∨(bif ((t.set k (JX q i c k (t.getD k I0))).getD k I0).1.bad then _ else fC p q i r c f (k+1) (t.set k (JX q i c k (t.getD k I0))))=_
      cases ((t.set k (JX q i c k (t.getD k I0))).getD k I0).1.bad
      · simp only [cond_false]
        rcases FA p q r i c f (k+1) (t.set k (JX q i c k (t.getD k I0))) oo_ (by rw [List.length_set];exact hl) with ⟨t',k',h1,h2,h3⟩ | h1
        · refine .inl ⟨t',k',h1,h2,fun j=>?_⟩
          rw [h3 j]
          by_cases hj:j=k
          · subst hj
            rw [if_neg oo_,if_pos oo_,kQ _ _ _ oo_]
          rw [oF _ _ _ _ hj]
          by_cases hj2:k+1≤j∧j<r.length
          · rw [if_pos hj2,if_pos oo_]
          rw [if_neg hj2,if_neg oo_]
        exact .inr h1
      exact .inr rfl
    rw [decide_eq_false oo_,cond_false];exact .inl ⟨t,k,rfl,hl,fun j=>by rw [if_neg oo_]⟩
theorem WW {q r t:List I} {i n:Nat} {c:I} (hn:q.length=n+1) (hc:c.dec=Z.mul (Z.of (Z.signW (q.getD n I0).dec).1) (r.getD (i+n) I0).dec) (hz:∀ j,i+n<j→zrI (r.getD j I0)=true)
    (ht:∀ j,t.getD j I0=if 0≤j∧j<r.length then JX q i c j (r.getD j I0) else r.getD j I0) (j:Nat) (hj:i+n≤j):zrI (t.getD j I0)=true:=by
  rw [ht j]
  by_cases hlt:j<r.length
  · rw [if_pos ⟨Nat.zero_le _,hlt⟩]
    refine gw_ ?_;rw [aD_,hn,Nat.add_sub_cancel];obtain ⟨a,ha⟩:=SA (q.getD n I0).dec
    by_cases he:j=i+n
    · subst he
      have e1:eV q (((i+n:Nat):Int) - (i:Int))=q.getD n I0:=by
        rw [show (((i+n:Nat):Int) - (i:Int))=(n:Int) by omega,EK]
      rw [e1,hc];obtain ⟨v,hv⟩:=SA (r.getD (i+n) I0).dec
      have hs:(Z.of (Z.signW (q.getD n I0).dec).1).Is (a.sign)∨(q.getD n I0).dec.o=none:=by
        rcases ha with h | h
        · exact .inr h
        left
        have:(Z.signW (q.getD n I0).dec).1=a.sign:=by show (q.getD n I0).dec.sign=_;unfold Z.sign;rw [h]
        rw [this];exact UC _
      rcases hs with hs | hs
      · have h1:=ZS (H0 (ZR ha) hv) (H0 (H0 hs hv) ha)
        have e2:(a.natAbs:Int) * v - a.sign * v * a=0:=by
          have h3:a.sign * a=(a.natAbs:Int):=by rcases Int.lt_trichotomy a 0 with h | h | h <;> first | (rw [Int.sign_eq_neg_one_of_neg h];omega) | (rw [Int.sign_eq_one_of_pos h];omega) | (subst h;rfl)
          have h4:a.sign * v * a=(a.sign * a) * v:=by rw [Int.mul_assoc,Int.mul_comm v a,Int.mul_assoc]
          rw [h4,h3];omega
        rw [e2] at h1;exact h1
      left
      have hb:∀ z:Z,(Z.mul z (q.getD n I0).dec).o=none:=fun z=>by rw [Z.mul,jJ (.inr hs)];rfl
      have h2:=hb (Z.mul (Z.of (Z.signW (q.getD n I0).dec).1) (r.getD (i+n) I0).dec)
      have h3:(Z.neg (Z.mul (Z.mul (Z.of (Z.signW (q.getD n I0).dec).1) (r.getD (i+n) I0).dec) (q.getD n I0).dec)).o=none:=by rw [Z.neg,qV h2];rfl
      show (Z.add _ (Z.neg _)).o=none
      rw [Z.add,jJ (.inr h3)];rfl
    have hzj:=cT_ (hz j oo_)
    have e1:eV q ((j:Int) - (i:Int))=I0:=by
      unfold eV;rw [decide_eq_true (p:=((q.length:Nat):Int)≤(j:Int) - (i:Int)) oo_,Bool.or_true,cond_true]
    obtain ⟨w,hw⟩:=SA c.dec;rw [e1];have h1:=ZS (H0 (ZR ha) hzj) (H0 hw (cT_ zr0))
    simpa using h1
  rw [if_neg oo_,o4 oo_];exact zr0
theorem QR (p q:List I) {n:Nat} (hn:q.length=n+1):∀ (f:Nat) (i:Int) (r:List I),(i+1).toNat<f→(∀ j:Nat,n≤j→i+n<(j:Int)→zrI (r.getD j I0)=true) →
    (∃ i' r',dL p q f i r = .inl (i',r')∧XX n r')∨dL p q f i r = .inr badp
  | 0,i,r,h,_=>absurd h (Nat.not_lt_zero _)
  | f+1,i,r,h,hz=>by
    unfold dL
    by_cases hi:0≤i
    · obtain ⟨m,rfl⟩:∃ m:Nat,i=(m:Int):=⟨i.toNat,by omega⟩
      rw [decide_eq_true hi,cond_true];simp only;rcases FA p q r (m:Int) (E (Z.mul (Z.of (Z.signW (q.getD (q.length - 1) I0).dec).1) (r.getD ((m:Int).toNat+(q.length - 1)) I0).dec)) (r.length+1) 0 r oo_ rfl with ⟨t',k',h1,h2,h3⟩ | h1
      · rw [h1]
        refine QR p q hn f ((m:Int) - 1) t' oo_ (fun j hj1 hj2=>?_);refine WW (i:=m) hn ?_ (fun j' hj'=>hz j' oo_ oo_) h3 j oo_;rw [cZ,hn,Nat.add_sub_cancel,Int.toNat_natCast]
      rw [h1];exact .inr rfl
    rw [decide_eq_false hi,cond_false];exact .inl ⟨i,r,rfl,fun j hj=>hz j hj oo_⟩
theorem yW (l:List I):bT l=mkP l:=by
  unfold bT;rw [pY,Int.toNat_natCast]
  congr 1
  refine List.ext_getElem? fun k=>?_
  by_cases h:k<l.length
  · simp [h,gK,oI]
  simp [h]
theorem FB (p q:List I) (hq:0<q.length):bQ p q=badp∨(bQ p q).length<q.length:=by
  obtain ⟨n,hn⟩:∃ n,q.length=n+1:=⟨q.length - 1,by omega⟩;unfold bQ
  cases (aU p||(aU q||(((q.length:Nat):Int)==0)))
  · simp only [cond_false]
    rcases QR p q hn (p.length+1) (((p.length:Nat):Int) - 1 - (((q.length:Nat):Int) - 1)) ([] ++ p) oo_ (fun j hj1 hj2=>by rw [List.nil_append,o4 oo_];exact zr0) with ⟨i',r',h1,h2⟩ | h1
    · rw [h1]
      show bT r'=badp∨(bT r').length<_
      rw [yW];rcases WI h2 with h3 | h3
      · exact .inl h3
      exact .inr oo_
    rw [h1];exact .inl rfl
  exact .inl rfl
theorem U2 (p q:List I):∀ (f:Nat) (i:Int) (r:List I) (y:List I),dL p q f i r = .inr y→y=badp:=by
  intro f
  induction f with
  | zero=>intro i r y hy;cases hy
  | succ f ih =>
    intro i r y hy;unfold dL at hy
    cases hd:decide (0≤i)
    · rw [hd] at hy;cases hy
    rw [hd] at hy;simp only [cond_true] at hy;rcases FA p q r i (E (Z.mul (Z.of (Z.signW (q.getD (q.length - 1) I0).dec).1) (r.getD (i.toNat+(q.length - 1)) I0).dec)) (r.length+1) 0 r oo_ rfl with ⟨t',k',h1,h2,h3⟩ | h1
    · rw [h1] at hy;exact ih _ _ _ hy
    rw [h1] at hy;exact (Sum.inr.inj hy).symm
theorem lQ (p q:List I):(bQ p q).length≤25:=by
  unfold bQ;exact oN mR (aN_ (fun s=>pJ _) (fun r h=>U2 p q _ _ _ _ h))
theorem e7:badp.all gdI=false:=by decide +kernel
theorem H9 {l:List I} (h:(mkP l).all gdI=true):mkP l=kS l:=by
  unfold mkP at h ⊢
  cases hl:l.all gdI
  · rw [hl] at h;rw [cond_false,e7] at h;cases h
  simp only [hl,cond_true] at h ⊢
  split
  · rfl
  rename_i hs;rw [if_neg hs,e7] at h;cases h
theorem xY {p:List I} (hp:p.length≤1000) (h:(aC p).all gdI=true):p.all gdI=true∧(aC p).length≤p.length:=by
  unfold aC at h ⊢;rw [qS _ hp dd_] at h ⊢;simp only [List.length_nil,Nat.max_zero,List.all_nil,Bool.and_true] at h ⊢
  cases hg:p.all gdI
  · rw [hg,cond_false,e7] at h;cases h
  rw [hg] at h;simp only [cond_true] at h ⊢;rw [H9 h];refine ⟨trivial,Nat.le_trans (yC _) ?_⟩
  simp
theorem DH {a b:List I} (hl:a.length≤25∧b.length≤25) (h:(aU a||aU b)=false) (h0:decide (0<((b.length:Nat):Int))=true):gmP (aC (bQ a b))<gmP b:=by
  have hb:=(Bool.or_eq_false_iff.1 h).2;rw [iY oo_] at hb
  have hbg:b.all gdI=true:=by simpa using hb
  have hpos:=of_decide_eq_true h0
  have e1:gmP b=2 * b.length:=by unfold gmP;rw [hbg];rfl
  rw [e1];unfold gmP
  cases hg:(aC (bQ a b)).all gdI
  · rw [cond_false];omega
  rw [cond_true];have h1:=lQ a b;obtain ⟨h2,h3⟩:=xY oo_ hg;rcases FB a b oo_ with h4 | h4
  · rw [h4,e7] at h2;cases h2
  omega
theorem A8 (p:List I) (a b:Rt):∀ (k:Nat) (r:List I) (i:Int),r.length≤25→(jB p a b k r i).1.length≤25
  | 0,r,i,h=>h
  | k+1,r,i,h=>by
    unfold jB
    cases decide (0≤i)
    · exact h
    exact A8 p a b k _ _ (yX _ _)
theorem BY (p:List I) (a b:Rt):(jD p a b).length≤25:=oN mR (A8 p a b _ _ _ (Nat.zero_le _))
theorem EX (p:List I) (a b:Rt):(jA p a b).length≤25:=cC _
theorem ND (p q:List I):∀ (k:Nat) (a b y:List I),dD p q k a b = .inr y→y=badp
  | 0,a,b,y,h=>by cases h
  | k+1,a,b,y,h=>by
    unfold dD at h
    cases h1:decide (0<((b.length:Nat):Int))
    · rw [h1] at h;cases h
    rw [h1] at h
    cases h2:(aU a||aU b)
    · rw [h2] at h;exact ND p q k _ _ _ h
    rw [h2] at h;exact (Sum.inr.inj h).symm
theorem T4 (p q:List I):∀ (k:Nat) (a b:List I) (s:List I×List I),a.length≤25→b.length≤25→dD p q k a b = .inl s→s.1.length≤25
  | 0,a,b,s,ha,hb,h=>by cases h;exact ha
  | k+1,a,b,s,ha,hb,h=>by
    unfold dD at h
    cases h1:decide (0<((b.length:Nat):Int))
    · rw [h1] at h;cases h;exact ha
    rw [h1] at h
    cases h2:(aU a||aU b)
    · rw [h2] at h;exact T4 p q k _ _ _ hb (cC _) h
    rw [h2] at h;cases h
theorem tI (p q:List I):(aQ p q).length≤25:=by
  unfold aQ
  cases h:dD p q (gmP (aC q)+1) (aC p) (aC q) with
  | inl s=>exact oN (T4 p q _ _ _ s (cC _) (cC _) h) (rM _ _ _)
  | inr y=>rw [ND p q _ _ _ _ h];exact mR
abbrev d6 (v:Int):Prop:=v.natAbs<4294967296 ^ 16
theorem V1 {x:I} (h:x.1.good=true):E x.dec=x:=Subtype.ext (bH_ x.2 h)
theorem R9 {x:I} (h:x.1.good=true):∃ v:Int,d6 v∧x=E (Z.of v):=by
  have h1:=dH x.2 h;refine ⟨_,x.dec.h _ h1,?_⟩;rw [← Z.eq_of h1];exact (V1 h).symm
theorem AF {v:Int} (h:d6 v):(E (Z.of v)).1.good=true:=by
  show (Z.of v).enc.good=true
  rw [Z.enc_good,Z.of_some h];rfl
theorem HA {v:Int} (h:d6 v):(E (Z.of v)).1.bad=false:=by
  have:=AF h;unfold R.good at this;simp only [Bool.and_eq_true,Bool.not_eq_true'] at this;exact this.1
theorem dK_:(E Z.bad).1.bad=true:=rfl
theorem PT:(E Z.bad).1.good=false:=rfl
theorem cn_ {v:Int} (h:d6 v):(Z.of v).sign=v.sign:=by unfold Z.sign;rw [Z.of_some h]
theorem mU {v:Int} (h:d6 v):(Z.signW (Z.of v)).1=v.sign:=cn_ h
theorem CJ {u v:Int} (hu:d6 u) (hv:d6 v):Z.gcd (Z.of u) (Z.of v)=Z.of (Int.gcd u v):=by rw [Z.gcd,dR (Z.of_some hu) (Z.of_some hv)]
theorem E7 {u v:Int} (hu:d6 u) (hv:d6 v) (h:v≠0):Z.quo (Z.of u) (Z.of v)=Z.of (u.fdiv v):=by rw [Z.quo,dR (Z.of_some hu) (Z.of_some hv),if_neg h]
theorem o5 {u v:Int} (hu:d6 u) (hv:d6 v):Z.mul (Z.of u) (Z.of v)=Z.of (u * v):=by rw [Z.mul,dR (Z.of_some hu) (Z.of_some hv)]
theorem EJ {u v:Int} (hu:d6 u) (hv:d6 v):Z.add (Z.of u) (Z.of v)=Z.of (u+v):=by rw [Z.add,dR (Z.of_some hu) (Z.of_some hv)]
theorem NO {u:Int} (hu:d6 u):Z.neg (Z.of u)=Z.of (-u):=by rw [Z.neg,mH (Z.of_some hu)]
theorem ad_ {v:Int} (h:¬ d6 v):Z.of v=Z.bad:=by unfold Z.of;rw [dif_neg h]
theorem B1:d6 1:=by decide
theorem B0:d6 0:=by decide
theorem PO {u v:Int} (hv:d6 v) (h:v≠0):d6 (Int.gcd u v:Nat):=by
  have:Int.gcd u v≤v.natAbs:=Nat.le_of_dvd oo_ (Int.gcd_dvd_natAbs_right u v)
  show ((Int.gcd u v:Nat):Int).natAbs<_
  rw [Int.natAbs_natCast];exact Nat.lt_of_le_of_lt this hv
theorem SH {u v:Int} (hu:d6 u) (hv:d6 v) (h:Z.of u=Z.of v):u=v:=by
  have:=congrArg Z.o h;rw [Z.of_some hu,Z.of_some hv] at this;exact Option.some.inj this
structure Rt.Is (a:Rt) (n d:Int):Prop where
  en:a.n=E (Z.of n)
  ed:a.d=E (Z.of d)
  hn:d6 n
  hd:d6 d
  pos:0<d
  cop:Int.gcd n d=1
theorem Rt.ext {a b:Rt} (h:a.n=b.n) (k:a.d=b.d):a=b:=by cases a;cases b;simp_all
theorem fM_:F_skewbackref04_one=E (Z.of 1):=rfl
theorem fN_:F_ratio_one=E (Z.of 1):=rfl
theorem XH:r9=jQ:=rfl
theorem ZH (a:I):kV a=a.1.good:=rfl
theorem sY (a:Rt):dS a=aZ a:=by
  unfold dS aZ;rw [ZH,ZH,fM_,fN_]
  cases a.n.1.good <;> cases a.d.1.good <;> rfl
theorem TB (a b:I):dJ a b=bL a b:=rfl
theorem XG (a b:Rt):mO a b=eW a b:=by unfold mO eW;rw [sY,sY,XH];rfl
theorem fb_ {a:Rt}:aZ a=true ↔ ∃ n d,Rt.Is a n d:=by
  unfold aZ
  constructor
  · intro h
    cases gn:a.n.1.good <;> cases gd:a.d.1.good <;> simp only [gn,gd,Bool.not_true,Bool.not_false,Bool.or_true,Bool.true_or,Bool.or_false,cond_true,cond_false,Bool.false_eq_true] at h
    obtain ⟨n,hn,en⟩:=R9 gn;obtain ⟨d,hd,ed⟩:=R9 gd;rw [en,ed] at h;simp only [cZ,Bool.and_eq_true,decide_eq_true_eq,mU hd] at h;obtain ⟨h1,h2⟩:=h;have hp:0<d:=Int.sign_pos_iff.1 h1;rw [CJ hn hd,fM_] at h2;have h3:=SH (PO hd oo_) B1 (XI h2);exact ⟨n,d,en,ed,hn,hd,hp,by exact_mod_cast h3⟩
  rintro ⟨n,d,h⟩;rw [h.en,h.ed,AF h.hn,AF h.hd];simp only [Bool.not_true,Bool.or_false,cond_false,cZ,Bool.and_eq_true,decide_eq_true_eq,mU h.hd];refine ⟨Int.sign_pos_iff.2 h.pos,?_⟩;rw [CJ h.hn h.hd,h.cop];rfl
theorem KU (v:Int):v.fdiv 1=v:=by rw [Int.fdiv_eq_ediv_of_nonneg _ dd_];exact Int.ediv_one v
theorem bV_ {n d:Int} (hn:d6 n) (hd:d6 d) (hp:0<d) (hc:Int.gcd n d=1):bL (E (Z.of n)) (E (Z.of d))=⟨E (Z.of n),E (Z.of d)⟩:=by
  unfold bL
  have h1:((Z.signW (E (Z.of d)).dec).1==0)=false:=by rw [cZ,mU hd,Int.sign_eq_one_of_pos hp];rfl
  have h2:decide ((Z.signW (E (Z.of d)).dec).1<0)=false:=by rw [cZ,mU hd,Int.sign_eq_one_of_pos hp];rfl
  rw [AF hn,AF hd,h1,h2,cZ,cZ,CJ hn hd,hc];simp only [Bool.not_true,Bool.or_false,cond_false];rw [show ((1:Nat):Int)=1 from rfl,E7 hn B1 dd_,E7 hd B1 dd_,KU,KU]
theorem EV (b:I):bL (E Z.bad) b=jQ:=by unfold bL;rw [PT];rfl
theorem EW (a:I):bL a (E Z.bad)=jQ:=by
  unfold bL;rw [PT]
  cases a.1.good <;> rfl
theorem HO {u g:Int} (hg:0<g):u.fdiv g=u / g:=Int.fdiv_eq_ediv_of_nonneg _ (Int.le_of_lt hg)
theorem cO_ {u g:Int} (hu:d6 u) (hg:0<g) (hd:g ∣ u):d6 (u / g):=by
  obtain ⟨k,rfl⟩:=hd;rw [Int.mul_ediv_cancel_left _ oo_];refine Nat.lt_of_le_of_lt ?_ hu;rw [Int.natAbs_mul];exact Nat.le_mul_of_pos_left _ oo_
theorem Z3 {n d:Int} (hn:d6 n) (hd:d6 d) (hp:0<d) :
    bL (E (Z.of n)) (E (Z.of d))=⟨E (Z.of (n / (Int.gcd n d:Nat))),E (Z.of (d / (Int.gcd n d:Nat)))⟩:=by
  unfold bL
  have h1:((Z.signW (E (Z.of d)).dec).1==0)=false:=by rw [cZ,mU hd,Int.sign_eq_one_of_pos hp];rfl
  have h2:decide ((Z.signW (E (Z.of d)).dec).1<0)=false:=by rw [cZ,mU hd,Int.sign_eq_one_of_pos hp];rfl
  have hg:0<((Int.gcd n d:Nat):Int):=by
    have:=Int.gcd_pos_of_ne_zero_right n (show d≠0 by omega);omega
  have hb:=PO (u:=n) hd oo_;rw [AF hn,AF hd,h1,h2,cZ,cZ,CJ hn hd];simp only [Bool.not_true,Bool.or_false,cond_false];rw [E7 hn hb oo_,E7 hd hb oo_,HO hg,HO hg]
theorem AM {n d:Int} (hn:d6 n) (hd:d6 d) (hp:0<d):Rt.Is (bL (E (Z.of n)) (E (Z.of d))) (n / (Int.gcd n d:Nat)) (d / (Int.gcd n d:Nat)):=by
  have hg:0<((Int.gcd n d:Nat):Int):=by
    have:=Int.gcd_pos_of_ne_zero_right n (show d≠0 by omega);omega
  have d1:((Int.gcd n d:Nat):Int) ∣ n:=Int.gcd_dvd_left ..;have d2:((Int.gcd n d:Nat):Int) ∣ d:=Int.gcd_dvd_right ..;rw [Z3 hn hd hp];refine ⟨rfl,rfl,cO_ hn hg d1,cO_ hd hg d2,Int.ediv_pos_of_pos_of_dvd hp oo_ d2,?_⟩;rw [Int.gcd_ediv d1 d2,Int.natAbs_natCast,Nat.div_self oo_]
theorem G3 {a b:Rt} {n d m e:Int} (ha:a.Is n d) (hb:b.Is m e) :
    ∃ p q r s:Int,bL a.n b.d=⟨E (Z.of p),E (Z.of q)⟩∧bL b.n a.d=⟨E (Z.of r),E (Z.of s)⟩∧d6 p∧d6 q∧d6 r∧d6 s∧0<q∧0<s∧Int.gcd (p * r) (q * s)=1∧n * m * (q * s)=p * r * (d * e):=by
  have h1:=AM ha.hn hb.hd hb.pos;have h2:=AM hb.hn ha.hd ha.pos;have g1:((Int.gcd n e:Nat):Int) ∣ n:=Int.gcd_dvd_left ..;have g2:((Int.gcd n e:Nat):Int) ∣ e:=Int.gcd_dvd_right ..;have g3:((Int.gcd m d:Nat):Int) ∣ m:=Int.gcd_dvd_left ..;have g4:((Int.gcd m d:Nat):Int) ∣ d:=Int.gcd_dvd_right ..;refine ⟨n / (Int.gcd n e:Nat),e / (Int.gcd n e:Nat),m / (Int.gcd m d:Nat),d / (Int.gcd m d:Nat),?_,?_,h1.hn,h1.hd,h2.hn,h2.hd,h1.pos,h2.pos,?_,?_⟩
  · rw [ha.en,hb.ed];exact Rt.ext h1.en h1.ed
  · rw [hb.en,ha.ed];exact Rt.ext h2.en h2.ed
  · generalize hG:((Int.gcd n e:Nat):Int)=G at *
    generalize hH:((Int.gcd m d:Nat):Int)=H at *;have c1:Nat.Coprime (n / G).natAbs (e / G).natAbs:=h1.cop;have c2:Nat.Coprime (m / H).natAbs (d / H).natAbs:=h2.cop;have k1:Nat.Coprime n.natAbs d.natAbs:=ha.cop;have k2:Nat.Coprime m.natAbs e.natAbs:=hb.cop;have d1:(n / G).natAbs ∣ n.natAbs:=Int.natAbs_dvd_natAbs.2 (Int.ediv_dvd_of_dvd g1);have d2:(e / G).natAbs ∣ e.natAbs:=Int.natAbs_dvd_natAbs.2 (Int.ediv_dvd_of_dvd g2);have d3:(m / H).natAbs ∣ m.natAbs:=Int.natAbs_dvd_natAbs.2 (Int.ediv_dvd_of_dvd g3);have d4:(d / H).natAbs ∣ d.natAbs:=Int.natAbs_dvd_natAbs.2 (Int.ediv_dvd_of_dvd g4)
    show Nat.gcd (n / G * (m / H)).natAbs (e / G * (d / H)).natAbs=1
    rw [Int.natAbs_mul,Int.natAbs_mul];have x1:Nat.Coprime (n / G).natAbs (d / H).natAbs:=(k1.coprime_dvd_left d1).coprime_dvd_right d4;have x2:Nat.Coprime (m / H).natAbs (e / G).natAbs:=(k2.coprime_dvd_left d3).coprime_dvd_right d2;exact (Nat.Coprime.mul_right c1 x1).mul_left (Nat.Coprime.mul_right x2 c2)
  obtain ⟨x,hx⟩:=g1;obtain ⟨y,hy⟩:=g2;obtain ⟨z,hz⟩:=g3;obtain ⟨t,ht⟩:=g4
  have p1:0<((Int.gcd n e:Nat):Int):=by have:=Int.gcd_pos_of_ne_zero_right n (show e≠0 by have:=hb.pos;omega);omega
  have p2:0<((Int.gcd m d:Nat):Int):=by have:=Int.gcd_pos_of_ne_zero_right m (show d≠0 by have:=ha.pos;omega);omega
  generalize ((Int.gcd n e:Nat):Int)=G at *;generalize ((Int.gcd m d:Nat):Int)=H at *
  have q1:n / G=x:=by rw [hx];exact Int.mul_ediv_cancel_left _ oo_
  have q2:e / G=y:=by rw [hy];exact Int.mul_ediv_cancel_left _ oo_
  have q3:m / H=z:=by rw [hz];exact Int.mul_ediv_cancel_left _ oo_
  have q4:d / H=t:=by rw [ht];exact Int.mul_ediv_cancel_left _ oo_
  rw [q1,q2,q3,q4,hx,hy,hz,ht];grind
theorem XL (a b:Rt):j4 a b=fA a b:=by
  unfold j4 fA;rw [sY,sY,XH,TB,TB]
  cases hga:aZ a <;> cases hgb:aZ b <;> simp only [Bool.not_true,Bool.not_false,Bool.or_true,Bool.true_or,Bool.or_false,cond_true,cond_false]
  obtain ⟨n,d,ha⟩:=fb_.1 hga;obtain ⟨m,e,hb⟩:=fb_.1 hgb;obtain ⟨p,q,r,s,e1,e2,hp,hq,hr,hs,q0,s0,hc,_⟩:=G3 ha hb;rw [e1,e2];simp only [cZ,o5 hp hr,o5 hq hs]
  by_cases b1:d6 (p * r)
  · by_cases b2:d6 (q * s)
    · rw [bV_ b1 b2 (Int.mul_pos q0 s0) hc,HA b1,HA b2];rfl
    rw [ad_ b2,EW,dK_,Bool.or_true];rfl
  rw [ad_ b1,EV];rfl
theorem fz_ {x:I} (h:gdI x=true):∃ v:Int,d6 v∧x=E (Z.of v):=R9 (by unfold R.good;exact h)
theorem PS {v:Int} (h:d6 v):gdI (E (Z.of v))=true:=by have:=AF h;unfold R.good at this;exact this
def vI (x:I):Int:=x.dec.o.getD 0
theorem cv_ {v:Int} (h:d6 v):vI (E (Z.of v))=v:=by unfold vI;rw [cZ,Z.of_some h];rfl
theorem zK {x:I} (h:gdI x=true):x=E (Z.of (vI x))∧d6 (vI x):=by
  obtain ⟨v,hv,rfl⟩:=fz_ h;rw [cv_ hv];exact ⟨rfl,hv⟩
theorem HS {x:I} (h:gdI x=true):x.dec=Z.of (vI x):=by
  conv=>lhs;rw [(zK h).1,cZ]
theorem bc_ {v:Int} (h:d6 v):zrI (E (Z.of v))=decide (v=0):=by
  unfold zrI;rw [cZ,mU h]
  by_cases h0:v=0
  · subst h0;rfl
  rw [decide_eq_false h0];exact beq_eq_false_iff_ne.2 (fun hs=>h0 (Int.sign_eq_zero_iff_zero.1 hs))
theorem e4_ {x:I} (h:gdI x=true):zrI x=decide (vI x=0):=by
  conv=>lhs;rw [(zK h).1]
  exact bc_ (zK h).2
def fg (g:Nat) (x:I):Nat:=Int.gcd g (vI x)
theorem e8_ {g:Nat} {v:Int} (hg:d6 (g:Int)) (hv:d6 v):d6 ((Int.gcd g v:Nat):Int):=by
  by_cases h:v=0
  · subst h
    rw [Int.gcd_zero_right,Int.natAbs_natCast];exact hg
  exact PO hv h
theorem HF (l0:List I):∀ (r:List I) (g:Nat),r.all gdI=true→d6 (g:Int)→jG l0 r (E (Z.of (g:Int)))=E (Z.of ((r.foldl fg g:Nat):Int))∧d6 ((r.foldl fg g:Nat):Int)
  | [],g,_,hg=>⟨rfl,hg⟩
  | x :: r,g,h,hg=>by
    rw [List.all_cons,Bool.and_eq_true] at h;have hx:=zK h.1
    have e:E (Z.gcd (E (Z.of (g:Int))).dec x.dec)=E (Z.of ((fg g x:Nat):Int)):=by
      rw [cZ,HS h.1,CJ hg hx.2];rfl
    unfold jG;rw [e];exact HF l0 r _ h.2 (e8_ hg hx.2)
def cN (l:List I):Nat:=l.foldl fg 0
theorem O9 {l:List I} (h:l.all gdI=true):dX l=E (Z.of ((cN l:Nat):Int))∧d6 ((cN l:Nat):Int):=HF l l 0 h B0
theorem PM:∀ (l:List I) (g:Nat),l.foldl fg g ∣ g∧∀ x∈l,((l.foldl fg g:Nat):Int) ∣ vI x
  | [],g=>⟨Nat.dvd_refl _,fun x hx=>by cases hx⟩
  | y :: l,g=>by
    obtain ⟨h1,h2⟩:=PM l (fg g y)
    have h3:fg g y ∣ g:=by have:=Int.gcd_dvd_natAbs_left (g:Int) (vI y);simpa [fg] using this
    have h4:((fg g y:Nat):Int) ∣ vI y:=Int.gcd_dvd_right ..;refine ⟨Nat.dvd_trans h1 h3,fun x hx=>?_⟩;rcases List.mem_cons.1 hx with rfl | hx
    · exact Int.dvd_trans (Int.natCast_dvd_natCast.2 h1) h4
    exact h2 x hx
theorem MW {l:List I} {x:I} (h:x∈l):((cN l:Nat):Int) ∣ vI x:=(PM l 0).2 x h
theorem P2 {α:Type} (f:I→α) (l:List I):(List.range l.length).map (fun k=>f (l.getD k I0))=l.map f:=by
  refine List.ext_getElem? fun k=>?_
  by_cases h:k<l.length
  · simp [h]
  simp [h]
def Rgt (p:List I):Prop:=p=badp∨(p.all gdI=true∧kS p=p∧p.length≤25)
theorem I5 (l:List I):kS (kS l)=kS l:=by
  suffices ∀ n (l:List I),l.length≤n→kS (kS l)=kS l from this _ l (Nat.le_refl _)
  intro n
  induction n with
  | zero=>intro l h;rw [List.eq_nil_of_length_eq_zero (show l.length=0 by omega)];rfl
  | succ n ih =>
    intro l h;rcases qM l with rfl | ⟨m,x,rfl⟩
    · rfl
    have hs:=qN m x
    cases hx:zrI x
    · rw [hx,cond_false] at hs;rw [hs,hs]
    rw [hx,cond_true] at hs;rw [hs];exact ih m (by simp only [List.length_append,List.length_cons,List.length_nil] at h;omega)
theorem LZ {l:List I} (h:l.all gdI=true):(kS l).all gdI=true:=by
  rw [vQ];rw [List.all_eq_true] at h ⊢;exact fun x hx=>h x (List.mem_of_mem_take hx)
theorem BN (l:List I):Rgt (mkP l):=by
  unfold mkP
  cases h:l.all gdI
  · exact .inl rfl
  simp only [cond_true]
  split
  · rename_i h2;exact .inr ⟨LZ h,I5 l,h2⟩
  exact .inl rfl
theorem aa_ {l:List I} (h:l.all gdI=true) (h2:kS l=l) (h3:l.length≤25):mkP l=l:=by
  unfold mkP;rw [h,cond_true,h2,if_pos h3]
theorem CQ {m:List I} {x:I} (h:kS (m ++ [x])=m ++ [x]):zrI x=false:=by
  cases hx:zrI x
  · rfl
  rw [qN,hx,cond_true] at h;have:=yC m;rw [h] at this;simp only [List.length_append,List.length_cons,List.length_nil] at this;omega
theorem L0 {l:List I} (f:I→I) (h:kS l=l) (hf:∀ x∈l,zrI x=false→zrI (f x)=false):kS (l.map f)=l.map f:=by
  rcases qM l with rfl | ⟨m,x,rfl⟩
  · rfl
  rw [List.map_append,List.map_cons,List.map_nil,qN,hf x (by simp) (CQ h),cond_false]
theorem QF {p:List I} (h:p.all gdI=true) (hs:kS p=p) (hl:p.length≤25):aC p=p.map fun x=>E (Z.of ((vI x).fdiv (cN p))):=by
  unfold aC;rw [qS _ oo_ dd_];simp only [List.length_nil,Nat.max_zero,List.all_nil,Bool.and_true,h,cond_true];have hc:=O9 h
  have e:(List.range p.length).map (fun k=>mF (p.getD k I0) (([]:List I).getD k I0) (dX p))=p.map fun x=>E (Z.quo x.dec (Z.of ((cN p:Nat):Int))):=by
    rw [← P2 (fun x=>E (Z.quo x.dec (Z.of ((cN p:Nat):Int))))];refine List.map_congr_left fun k _=>?_
    show E (Z.quo (p.getD k I0).dec (dX p).dec)=_
    rw [hc.1,cZ]
  rw [e];rcases qM p with rfl | ⟨m,x,rfl⟩
  · rfl
  have hx:gdI x=true:=List.all_eq_true.1 h x (by simp);have hz:=CQ hs;rw [e4_ hx] at hz;have hv0:vI x≠0:=of_decide_eq_false hz
  have hc0:((cN (m ++ [x]):Nat):Int)≠0:=fun h0=>by
    have:=MW (l:=m ++ [x]) (x:=x) (by simp);rw [h0] at this;exact hv0 (Int.zero_dvd.1 this)
  have e2:(m ++ [x]).map (fun x'=>E (Z.quo x'.dec (Z.of ((cN (m ++ [x]):Nat):Int))))=(m ++ [x]).map fun x'=>E (Z.of ((vI x').fdiv (cN (m ++ [x])))):=by
    refine List.map_congr_left fun y hy=>?_;have hy':=zK (List.all_eq_true.1 h y hy);rw [HS (List.all_eq_true.1 h y hy),E7 hy'.2 hc.2 hc0]
  rw [e2]
  have hB:∀ y∈m ++ [x],d6 ((vI y).fdiv (cN (m ++ [x]))):=fun y hy=>by
    have hy':=zK (List.all_eq_true.1 h y hy);have hd:=HN (MW hy)
    have hle:((vI y).fdiv (cN (m ++ [x]))).natAbs≤(vI y).natAbs:=by
      conv=>rhs;rw [← hd]
      rw [Int.natAbs_mul];exact Nat.le_mul_of_pos_left _ oo_
    exact Nat.lt_of_le_of_lt hle hy'.2
  refine aa_ ?_ (L0 _ hs fun y hy hzy=>?_) (by rw [List.length_map];exact hl)
  · rw [List.all_eq_true]
    intro z hz;obtain ⟨y,hy,rfl⟩:=List.mem_map.1 hz;exact PS (hB y hy)
  rw [e4_ (List.all_eq_true.1 h y hy)] at hzy;rw [bc_ (hB y hy)];refine decide_eq_false fun h0=>of_decide_eq_false hzy ?_;have hd:=HN (MW hy);rw [h0,Int.mul_zero] at hd;exact hd.symm
theorem O0:badp.length=1:=rfl
theorem vO {p:List I} (h:Rgt p) (hg:p.all gdI=false):p=badp:=by
  rcases h with h | h
  · exact h
  rw [h.1] at hg;cases hg
theorem pD (p:List I) (hp:p.length≤1000):Rgt (aC p):=by
  unfold aC;rw [qS _ hp dd_]
  cases (p.all gdI&&List.all [] gdI)
  · exact .inl rfl
  exact BN _
theorem PP (p q:List I) {n:Nat} (hn:1≤n):∀ (k:Nat) (a b:List I),gmP b<k→a≠[]→Rgt a→Rgt b→a.length≤n→b.length≤n→a.length≤25→b.length≤25 →
    (∃ s,dD p q k a b = .inl s∧s.1≠[]∧Rgt s.1∧s.1.length≤n)∨dD p q k a b = .inr badp
  | 0,a,b,h,_,_,_,_,_,_,_=>absurd h (Nat.not_lt_zero _)
  | k+1,a,b,h,ha,ra,rb,la,lb,ka,kb=>by
    unfold dD
    cases h1:decide (0<((b.length:Nat):Int))
    · exact .inl ⟨_,rfl,ha,ra,la⟩
    · cases h2:(aU a||aU b)
      · simp only [cond_true,cond_false]
        have hd:=DH ⟨ka,kb⟩ h2 h1;have hpos:=of_decide_eq_true h1;have hrl:=lQ a b;have rr:=pD (bQ a b) oo_;refine PP p q hn k b _ oo_ (fun e=>by rw [e] at hpos;exact absurd hpos dd_) rb rr lb ?_ kb (cC _)
        cases hg:(aC (bQ a b)).all gdI
        · rw [vO rr hg,O0];exact hn
        obtain ⟨h4,h5⟩:=xY oo_ hg;rcases FB a b oo_ with h6 | h6
        · rw [h6,e7] at h4;cases h4
        omega
      exact .inr rfl
theorem b0_ {a:List I} (h:a.all gdI=true) (hs:kS a=a) (hl:a.length≤25):fG [] a (fun y z=>E (Z.sub y.dec z.dec))=a.map fun x=>E (Z.of (-(vI x))):=by
  rw [qS _ dd_ oo_];simp only [List.length_nil,Nat.zero_max,List.all_nil,Bool.true_and,h,cond_true]
  have e:(List.range a.length).map (fun k=>E (Z.sub (([]:List I).getD k I0).dec (a.getD k I0).dec))=a.map fun x=>E (Z.of (-(vI x))):=by
    have e1:(List.range a.length).map (fun k=>E (Z.sub (([]:List I).getD k I0).dec (a.getD k I0).dec))=a.map fun x=>E (Z.sub (Z.of 0) x.dec):=by
      rw [← P2 (fun x=>E (Z.sub (Z.of 0) x.dec))];refine List.map_congr_left fun k _=>?_;rfl
    rw [e1];refine List.map_congr_left fun y hy=>?_;have hy':=zK (List.all_eq_true.1 h y hy)
    have hB:d6 (-(vI y)):=by unfold d6;rw [Int.natAbs_neg];exact hy'.2
    rw [HS (List.all_eq_true.1 h y hy)]
    show E (Z.add (Z.of 0) (Z.neg (Z.of (vI y))))=_
    rw [NO hy'.2,EJ B0 hB,Int.zero_add]
  rw [e]
  have hB:∀ y∈a,d6 (-(vI y)):=fun y hy=>by unfold d6;rw [Int.natAbs_neg];exact (zK (List.all_eq_true.1 h y hy)).2
  refine aa_ ?_ (L0 _ hs fun y hy hzy=>?_) (by rw [List.length_map];exact hl)
  · rw [List.all_eq_true]
    intro z hz;obtain ⟨y,hy,rfl⟩:=List.mem_map.1 hz;exact PS (hB y hy)
  rw [e4_ (List.all_eq_true.1 h y hy)] at hzy;rw [bc_ (hB y hy)];exact decide_eq_false fun h0=>of_decide_eq_false hzy oo_
theorem RY {p:List I} (hp:p.length≤1000) (h:(aE p).all gdI=true):(aE p).length≤p.length - 1:=by
  unfold aE at h ⊢;rw [iY hp,pY] at h ⊢
  cases hg:p.all gdI
  · rw [hg] at h;simp only [Bool.not_false,cond_true] at h;rw [C3,e7] at h;cases h
  rw [hg] at h;simp only [Bool.not_true,cond_false] at h ⊢;rw [H9 h];refine Nat.le_trans (yC _) ?_;rw [List.length_map,List.length_range];omega
theorem NC {p:List I} (hp:Rgt p) (h:(aU (aQ p (aE p))||aU (aC p))=false) (h0:(((aC p).length:Nat):Int)≠0) :
    1≤(aQ p (aE p)).length∧(aQ p (aE p)).length≤(aC p).length:=by
  have hpl:p.length≤25:=by
    rcases hp with h1 | h1
    · rw [h1];exact mR
    exact h1.2.2
  obtain ⟨hg,hr⟩:=Bool.or_eq_false_iff.1 h;rw [iY (Nat.le_trans (tI _ _) dd_)] at hg;rw [iY (Nat.le_trans (cC _) dd_)] at hr
  have hr':(aC p).all gdI=true:=by simpa using hr
  have hg':(aQ p (aE p)).all gdI=true:=by simpa using hg
  have hpg:=(xY oo_ hr').1
  obtain ⟨_,hs,_⟩:p.all gdI=true∧kS p=p∧p.length≤25:=by
    rcases hp with h1 | h1
    · rw [h1,e7] at hpg;cases hpg
    exact h1
  have hpv:=QF hpg hs hpl
  have hrl:(aC p).length=p.length:=by rw [hpv,List.length_map]
  have hp1:1≤p.length:=by omega
  have hdl:(aC (aE p)).length≤p.length:=by
    have rd:=pD (aE p) (Nat.le_trans (l4 _) dd_)
    cases hd:(aC (aE p)).all gdI
    · rw [vO rd hd,O0];exact hp1
    obtain ⟨h4,h5⟩:=xY (Nat.le_trans (l4 _) dd_) hd;have:=RY oo_ h4;omega
  rw [hrl];unfold aQ at hg' ⊢;rcases PP p (aE p) hp1 (gmP (aC (aE p))+1) (aC p) (aC (aE p)) (Nat.lt_succ_self _) (fun e=>by rw [e] at hrl;simp at hrl;omega) (pD _ oo_) (pD _ (Nat.le_trans (l4 _) dd_)) oo_ hdl (cC _) (cC _) with ⟨s,h1,h2,h3,h4⟩ | h1
  · rw [h1] at hg' ⊢
    have hs1:1≤s.1.length:=by
      rcases Nat.eq_zero_or_pos s.1.length with h | h
      · exact absurd (List.eq_nil_of_length_eq_zero h) h2
      exact h
    simp only [sm] at hg' ⊢
    cases hc:(((s.1.length:Nat):Int)==0)||decide (0<(Z.signW (s.1.getD (s.1.length - 1) I0).dec).1)
    · rw [hc] at hg'
      simp only [cond_false] at hg' ⊢
      have hsl:s.1.length≤25:=by omega
      cases hsg:s.1.all gdI
      · have hb:=vO h3 hsg
        rw [hb,qS _ dd_ dd_,e7] at hg';rw [Bool.and_false,cond_false,e7] at hg';cases hg'
      rcases h3 with h3 | h3
      · rw [h3,e7] at hsg;cases hsg
      rw [b0_ h3.1 h3.2.1 h3.2.2,List.length_map];exact ⟨hs1,h4⟩
    exact ⟨hs1,h4⟩
  rw [h1] at hg';simp only [sm] at hg';rw [e7] at hg';cases hg'
theorem NF (p q:List I):∀ (k:Nat) (a b:List I) (s:List I×List I),Rgt a→Rgt b→dD p q k a b = .inl s→Rgt s.1
  | 0,a,b,s,ha,_,h=>by cases h;exact ha
  | k+1,a,b,s,ha,hb,h=>by
    unfold dD at h
    cases h1:decide (0<((b.length:Nat):Int))
    · rw [h1] at h;cases h;exact ha
    rw [h1] at h
    cases h2:(aU a||aU b)
    · rw [h2] at h;exact NF p q k _ _ _ hb (pD _ (Nat.le_trans (lQ _ _) dd_)) h
    rw [h2] at h;cases h
theorem vP {p:List I} (h:Rgt p):p.length≤25:=by
  rcases h with h | h
  · rw [h];exact mR
  exact h.2.2
theorem NS (p q:List I):Rgt (jX p q):=by
  unfold jX
  cases (aU p||aU q)
  · simp only [cond_false]
    cases ((((p.length:Nat):Int)==0)||(((q.length:Nat):Int)==0))
    · rw [cond_false,pY];exact BN _
    exact .inr ⟨rfl,rfl,Nat.zero_le _⟩
  exact .inl rfl
theorem LQ {p:List I} (h:fO p=true):Rgt p:=by
  unfold fO at h
  cases h1:((((p.length:Nat):Int)==1)&&decide ((p.getD 0 I0)=(E Z.bad)))
  · rw [h1,cond_false,lN] at h
    cases hg:p.all gdI
    · rw [hg] at h;cases h
    rw [hg] at h
    by_cases hl:(25:Int)<((p.length:Nat):Int)
    · rw [decide_eq_true hl] at h;cases h
    rw [decide_eq_false hl] at h;refine .inr ⟨hg,?_,by omega⟩;rcases qM p with rfl | ⟨m,x,rfl⟩
    · rfl
    simp only [Bool.not_true,Bool.or_false,cond_false,Bool.or_eq_true] at h;rcases h with h | h
    · simp at h;omega
    rw [show (m ++ [x]).length - 1=m.length by simp,show (m ++ [x]).getD m.length I0=x by simp,aI_] at h;rw [qN]
    have:zrI x=false:=by simpa using h
    rw [this];rfl
  rw [Bool.and_eq_true] at h1
  have hl:p.length=1:=by have:=h1.1;simp at this;omega
  obtain ⟨x,rfl⟩:∃ x,p=[x]:=List.length_eq_one_iff.1 hl;have hx:x=E Z.bad:=of_decide_eq_true h1.2;exact .inl (by rw [hx];rfl)
theorem ER {p:List I} {d b:Int} (h:eA p d b=true):fO p=true∧((p.length:Nat):Int)≤d+1:=by
  unfold eA at h
  cases h1:(!fO p)||decide (d+1<((p.length:Nat):Int))
  · rw [Bool.or_eq_false_iff] at h1
    exact ⟨by simpa using h1.1,by have:=of_decide_eq_false h1.2;omega⟩
  rw [h1] at h;cases h
theorem fw_ {p:List I} {d b:Int} (h:(!eA p d b)=false):Rgt p∧p.length≤25:=by
  have h1:=LQ (ER (p:=p) (d:=d) (b:=b) (by simpa using h)).1;exact ⟨h1,vP h1⟩
theorem KY (p:List I) (i:Int) (r f:List I) (x:I):∀ (k n:Nat) (t y:List I),gQ p i r f x k n t = .inr y→y=badp
  | 0,n,t,y,h=>by cases h
  | k+1,n,t,y,h=>by
    unfold gQ at h
    revert h
    cases decide (((n:Nat):Int)<(((aQ p (aE p)).length:Nat):Int))
    · intro h;cases h
    simp only [cond_true];intro h;rw [Bool.cond_eq_ite] at h
    revert h
    split
    · intro h;cases h;exact C3
    exact fun h=>KY p i r f x k _ _ y h
theorem KX (p:List I):∀ (k:Nat) (i:Int) (r f y:List I),eY p k i r f = .inr y→y=badp
  | 0,i,r,f,y,h=>by cases h
  | k+1,i,r,f,y,h=>by
    unfold eY at h
    revert h
    cases decide (0≤i)
    · intro h;cases h
    simp only [cond_true];generalize hx:gQ p i r f _ _ 0 r=X
    cases X with
    | inl s=>exact fun h=>KX p k _ _ _ y h
    | inr z=>intro h;cases h;exact KY p i r f _ _ _ _ _ hx
theorem rK (p:List I):(bD p).length≤25:=by
  unfold bD;refine oN mR (oN (Nat.zero_le _) ?_);generalize hx:eY p _ _ _ _=X
  cases X with
  | inl s=>exact oN (pJ _) (rM _ _ _)
  | inr z=>rw [show z=badp from KX p _ _ _ _ _ hx];exact mR
end Go.Num
