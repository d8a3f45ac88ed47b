/- Lemmas: what they ask stands in their statements. -/
import Derived.Test.YtokjfhfiodopdaaGreatWFp
set_option linter.unusedSimpArgs false
set_option linter.unusedVariables false
namespace Go.Num
open Go Go.Kn
theorem FY (l:List I) (f:I→Bool):∀ (k i:Nat),l.length - i<k→(∃ j:Nat,j<l.length∧jU l f k i = .inr (W.cv (j:Int))∧(l.drop i).any f=true)∨(∃ j,jU l f k i = .inl j∧(l.drop i).any f=false)
  | 0,i,h=>absurd h (Nat.not_lt_zero _)
  | k+1,i,h=>by
    unfold jU
    by_cases hi:i<l.length
    · rw [decide_eq_true oo_,cond_true,AN l hi,List.any_cons]
      cases hf:f (l.getD i I0)
      · simp only [cond_false,Bool.false_or]
        exact FY l f k (i+1) oo_
      exact .inl ⟨i,hi,rfl,rfl⟩
    rw [decide_eq_false oo_,cond_false,List.drop_of_length_le oo_];exact .inr ⟨i,rfl,rfl⟩
theorem NE (l:List I) (f:I→Bool) (hl:l.length≤1000):o4 l f=l.any f:=by
  unfold o4 qS;rcases FY l f (l.length+1) 0 oo_ with ⟨j,hj,h1,h2⟩ | ⟨j,h1,h2⟩
  · rw [h1]
    show decide (0≤(W.cv (j:Int)).1)=_
    rw [cvE oo_,decide_eq_true oo_];rw [List.drop_zero] at h2;exact h2.symm
  rw [h1];rw [List.drop_zero] at h2;rw [h2];rfl
theorem aA_ (l:List I):(l.any fun y=>!gdI y) = !l.all gdI:=by
  induction l with
  | nil=>rfl
  | cons x l ih =>
    rw [List.any_cons,List.all_cons,ih]
    cases gdI x <;> rfl
theorem mN {p:List I} (h:p.length≤1000):aT p = !p.all gdI:=by
  unfold aT;rw [NE _ _ h];exact aA_ p
theorem F3 (p:List I):∀ (k i:Nat),p.length - i<k→(∃ j,fE p k i = .inl j∧(p.drop i).all gdI=true)∨(fE p k i = .inr true∧(p.drop i).all gdI=false)
  | 0,i,h=>absurd h (Nat.not_lt_zero _)
  | k+1,i,h=>by
    unfold fE
    by_cases hi:i<p.length
    · rw [decide_eq_true oo_,cond_true,AN p hi,List.all_cons]
      show (∃ j,(bif gdI (p.getD i I0) then _ else _)=_∧_)∨((bif gdI (p.getD i I0) then _ else _)=_∧_)
      cases gdI (p.getD i I0)
      · exact .inr ⟨rfl,rfl⟩
      simp only [cond_true,Bool.true_and];exact F3 p k (i+1) oo_
    rw [decide_eq_false oo_,cond_false,List.drop_of_length_le oo_];exact .inl ⟨i,rfl,rfl⟩
theorem wT (p:List I):aX p = !p.all gdI:=by
  unfold aX;rcases F3 p (p.length+1) 0 oo_ with ⟨j,h1,h2⟩ | ⟨h1,h2⟩
  · rw [h1];rw [List.drop_zero] at h2;rw [h2];rfl
  rw [h1];rw [List.drop_zero] at h2;rw [h2];rfl
theorem nC {l:List I} {k:Nat} (h:l.length≤k):l.getD k I0=I0:=by simp [List.getD,List.getElem?_eq_none h]
theorem yI (p:List I) (k:Nat):eA p (k:Int)=p.getD k I0:=by
  unfold eA;rw [decide_eq_false oo_,Bool.false_or,Int.toNat_natCast]
  by_cases h:p.length≤k
  · rw [decide_eq_true oo_,cond_true,nC h]
  rw [decide_eq_false oo_,cond_false]
theorem rH {p q:List I} (f:I→I→I) (hp:p.length≤1000) (hq:q.length≤1000):eJ p q f=bif (p.all gdI&&q.all gdI) then mkP ((List.range (max p.length q.length)).map fun k=>f (p.getD k I0) (q.getD k I0)) else badp:=by
  unfold eJ;rw [mN hp,mN hq,oH,Int.toNat_natCast]
  have e:((List.range (max p.length q.length)).map fun j=>gG (oO j f p q))=(List.range (max p.length q.length)).map fun k=>f (p.getD k I0) (q.getD k I0):=List.map_congr_left fun k _=>by
    show f (eA p (k:Int)) (eA q (k:Int))=_
    rw [yI,yI]
  rw [e]
  cases p.all gdI <;> cases q.all gdI <;> rfl
theorem pD (t:List I) (k j:Nat) (x:I) (h:j≠k):(t.set k x).getD j I0=t.getD j I0:=by
  simp [List.getD,List.getElem?_set_ne (Ne.symm h)]
theorem kU (t:List I) (k:Nat) (x:I) (h:k<t.length):(t.set k x).getD k I0=x:=by
  simp [List.getD,List.getElem?_set_self h]
theorem fR_ {x:I} (h:x.dec.Is 0):zrI x=true:=by
  unfold zrI;have:=h.sign0
  show (x.dec.sign==0)=true
  rw [this];rfl
theorem b8_ {x:I} (h:zrI x=true):x.dec.Is 0:=by
  have h1:x.dec.sign=0:=by unfold zrI at h;exact (by simpa using h:(Z.signW x.dec).1=0)
  cases ho:x.dec.o with
  | none=>exact .inl ho
  | some v =>
    unfold Z.sign at h1;rw [ho] at h1;have:v=0:=Int.sign_eq_zero_iff_zero.1 h1;rw [this] at ho;exact .inr ho
theorem zr0:zrI I0=true:=by decide +kernel
theorem QC (z:Z):∃ v:Int,z.Is v:=by
  cases h:z.o with
  | none=>exact ⟨0,.inl h⟩
  | some v=>exact ⟨v,.inr h⟩
theorem X2 {z:Z} {v:Int} (h:z.Is v):(Z.abs z).Is (v.natAbs:Int):=by
  rcases h with h | h
  · left;rw [Z.abs,qV h];rfl
  rw [Z.abs,kY h];exact SH _
def V7 (n:Nat) (r:List I):Prop:=∀ j:Nat,n≤j→zrI (r.getD j I0)=true
theorem y5 {n:Nat}:∀ (m:Nat) (r:List I),r.length≤m→V7 n r→(jW r).length≤n
  | 0,r,h,_=>by
    have:r=[]:=List.eq_nil_of_length_eq_zero oo_;rw [this];exact Nat.zero_le _
  | m+1,r,h,hz=>by
    by_cases hn:r.length≤n
    · exact Nat.le_trans (uY r) hn
    rcases pG r with rfl | ⟨s,x,rfl⟩
    · exact Nat.zero_le _
    simp only [List.length_append,List.length_cons,List.length_nil] at hn h;have hx:=hz s.length oo_;rw [show (s ++ [x]).getD s.length I0=x by simp] at hx;rw [pH,hx,cond_true];refine y5 m s oo_ (fun j hj=>?_)
    by_cases hjs:j<s.length
    · have:=hz j hj
      rwa [show (s ++ [x]).getD j I0=s.getD j I0 by simp [List.getD,List.getElem?_append_left hjs]] at this
    rw [nC oo_];exact zr0
theorem UT {n:Nat} {r:List I} (h:V7 n r):mkP r=badp∨(mkP r).length≤n:=by
  unfold mkP
  cases r.all gdI
  · exact .inl rfl
  simp only [cond_true]
  split
  · exact .inr (y5 _ r (Nat.le_refl _) h)
  exact .inl rfl
def HX (q:List I) (i:Int) (c:I) (k:Nat) (x:I):I:=E (Z.sub (Z.mul (Z.abs (q.getD (q.length - 1) I0).dec) x.dec) (Z.mul c.dec (eA q ((k:Int) - i)).dec))
theorem ZH (q:List I) (i:Int) (c:I) (k:Nat) (x:I):(HX q i c k x).dec=Z.sub (Z.mul (Z.abs (q.getD (q.length - 1) I0).dec) x.dec) (Z.mul c.dec (eA q ((k:Int) - i)).dec):=by
  unfold HX;rw [bZ]
theorem C9 (p q r:List I) (i:Int) (c:I):∀ (f k:Nat) (t:List I),r.length - k<f→t.length=r.length →
    (∃ t' k',fG p q i r c f k t = .inl (k',t')∧t'.length=r.length∧∀ j,t'.getD j I0=if k≤j∧j<r.length then HX q i c j (t.getD j I0) else t.getD j I0)∨fG p q i r c f k t = .inr badp
  | 0,k,t,h,_=>absurd h (Nat.not_lt_zero _)
  | f+1,k,t,h,hl=>by
    unfold fG
    by_cases hk:k<r.length
    · rw [decide_eq_true oo_,cond_true]
      show (∃ t' k',(bif ((t.set k (HX q i c k (t.getD k I0))).getD k I0).1.bad then _ else fG p q i r c f (k+1) (t.set k (HX q i c k (t.getD k I0))))=_∧_)∨(bif ((t.set k (HX q i c k (t.getD k I0))).getD k I0).1.bad then _ else fG p q i r c f (k+1) (t.set k (HX q i c k (t.getD k I0))))=_
      cases ((t.set k (HX q i c k (t.getD k I0))).getD k I0).1.bad
      · simp only [cond_false]
        rcases C9 p q r i c f (k+1) (t.set k (HX q i c k (t.getD k I0))) oo_ (by rw [List.length_set];exact hl) with ⟨t',k',h1,h2,h3⟩ | h1
        · refine .inl ⟨t',k',h1,h2,fun j=>?_⟩
          rw [h3 j]
          by_cases hj:j=k
          · subst hj
            rw [if_neg oo_,if_pos oo_,kU _ _ _ oo_]
          rw [pD _ _ _ _ hj]
          by_cases hj2:k+1≤j∧j<r.length
          · rw [if_pos hj2,if_pos oo_]
          rw [if_neg hj2,if_neg oo_]
        exact .inr h1
      exact .inr rfl
    rw [decide_eq_false oo_,cond_false];exact .inl ⟨t,k,rfl,hl,fun j=>by rw [if_neg oo_]⟩
theorem U9 {q r t:List I} {i n:Nat} {c:I} (hn:q.length=n+1) (hc:c.dec=Z.mul (Z.of (Z.signW (q.getD n I0).dec).1) (r.getD (i+n) I0).dec) (hz:∀ j,i+n<j→zrI (r.getD j I0)=true)
    (ht:∀ j,t.getD j I0=if 0≤j∧j<r.length then HX q i c j (r.getD j I0) else r.getD j I0) (j:Nat) (hj:i+n≤j):zrI (t.getD j I0)=true:=by
  rw [ht j]
  by_cases hlt:j<r.length
  · rw [if_pos ⟨Nat.zero_le _,hlt⟩]
    refine fR_ ?_;rw [ZH,hn,Nat.add_sub_cancel];obtain ⟨a,ha⟩:=QC (q.getD n I0).dec
    by_cases he:j=i+n
    · subst he
      have e1:eA q (((i+n:Nat):Int) - (i:Int))=q.getD n I0:=by
        rw [show (((i+n:Nat):Int) - (i:Int))=(n:Int) by omega,yI]
      rw [e1,hc];obtain ⟨v,hv⟩:=QC (r.getD (i+n) I0).dec
      have hs:(Z.of (Z.signW (q.getD n I0).dec).1).Is (a.sign)∨(q.getD n I0).dec.o=none:=by
        rcases ha with h | h
        · exact .inr h
        left
        have:(Z.signW (q.getD n I0).dec).1=a.sign:=by show (q.getD n I0).dec.sign=_;unfold Z.sign;rw [h]
        rw [this];exact SH _
      rcases hs with hs | hs
      · have h1:=X3 (FZ (X2 ha) hv) (FZ (FZ hs hv) ha)
        have e2:(a.natAbs:Int) * v - a.sign * v * a=0:=by
          have h3:a.sign * a=(a.natAbs:Int):=by rcases Int.lt_trichotomy a 0 with h | h | h <;> first | (rw [Int.sign_eq_neg_one_of_neg h];omega) | (rw [Int.sign_eq_one_of_pos h];omega) | (subst h;rfl)
          have h4:a.sign * v * a=(a.sign * a) * v:=by rw [Int.mul_assoc,Int.mul_comm v a,Int.mul_assoc]
          rw [h4,h3];omega
        rw [e2] at h1;exact h1
      left
      have hb:∀ z:Z,(Z.mul z (q.getD n I0).dec).o=none:=fun z=>by rw [Z.mul,jB (.inr hs)];rfl
      have h2:=hb (Z.mul (Z.of (Z.signW (q.getD n I0).dec).1) (r.getD (i+n) I0).dec)
      have h3:(Z.neg (Z.mul (Z.mul (Z.of (Z.signW (q.getD n I0).dec).1) (r.getD (i+n) I0).dec) (q.getD n I0).dec)).o=none:=by rw [Z.neg,qV h2];rfl
      show (Z.add _ (Z.neg _)).o=none
      rw [Z.add,jB (.inr h3)];rfl
    have hzj:=b8_ (hz j oo_)
    have e1:eA q ((j:Int) - (i:Int))=I0:=by
      unfold eA;rw [decide_eq_true (p:=((q.length:Nat):Int)≤(j:Int) - (i:Int)) oo_,Bool.or_true,cond_true]
    obtain ⟨w,hw⟩:=QC c.dec;rw [e1];have h1:=X3 (FZ (X2 ha) hzj) (FZ hw (b8_ zr0))
    simpa using h1
  rw [if_neg oo_,nC oo_];exact zr0
theorem OV (p q:List I) {n:Nat} (hn:q.length=n+1):∀ (f:Nat) (i:Int) (r:List I),(i+1).toNat<f→(∀ j:Nat,n≤j→i+n<(j:Int)→zrI (r.getD j I0)=true) →
    (∃ i' r',dM p q f i r = .inl (i',r')∧V7 n r')∨dM p q f i r = .inr badp
  | 0,i,r,h,_=>absurd h (Nat.not_lt_zero _)
  | f+1,i,r,h,hz=>by
    unfold dM
    by_cases hi:0≤i
    · obtain ⟨m,rfl⟩:∃ m:Nat,i=(m:Int):=⟨i.toNat,by omega⟩
      rw [decide_eq_true hi,cond_true];simp only;rcases C9 p q r (m:Int) (E (Z.mul (Z.of (Z.signW (q.getD (q.length - 1) I0).dec).1) (r.getD ((m:Int).toNat+(q.length - 1)) I0).dec)) (r.length+1) 0 r oo_ rfl with ⟨t',k',h1,h2,h3⟩ | h1
      · rw [h1]
        refine OV p q hn f ((m:Int) - 1) t' oo_ (fun j hj1 hj2=>?_);refine U9 (i:=m) hn ?_ (fun j' hj'=>hz j' oo_ oo_) h3 j oo_;rw [bZ,hn,Nat.add_sub_cancel,Int.toNat_natCast]
      rw [h1];exact .inr rfl
    rw [decide_eq_false hi,cond_false];exact .inl ⟨i,r,rfl,fun j hj=>hz j hj oo_⟩
theorem rM (l:List I):bH l=mkP l:=by
  unfold bH;rw [oH,Int.toNat_natCast]
  congr 1
  refine List.ext_getElem? fun k=>?_
  by_cases h:k<l.length
  · simp [h,gG,oN]
  simp [h]
theorem DA (p q:List I) (hq:0<q.length):bD p q=badp∨(bD p q).length<q.length:=by
  obtain ⟨n,hn⟩:∃ n,q.length=n+1:=⟨q.length - 1,by omega⟩;unfold bD
  cases (aT p||(aT q||(((q.length:Nat):Int)==0)))
  · simp only [cond_false]
    rcases OV p q hn (p.length+1) (((p.length:Nat):Int) - 1 - (((q.length:Nat):Int) - 1)) ([] ++ p) oo_ (fun j hj1 hj2=>by rw [List.nil_append,nC oo_];exact zr0) with ⟨i',r',h1,h2⟩ | h1
    · rw [h1]
      show bH r'=badp∨(bH r').length<_
      rw [rM];rcases UT h2 with h3 | h3
      · exact .inl h3
      exact .inr oo_
    rw [h1];exact .inl rfl
  exact .inl rfl
theorem by_ (p q:List I):∀ (f:Nat) (i:Int) (r:List I) (y:List I),dM p q f i r = .inr y→y=badp:=by
  intro f
  induction f with
  | zero=>intro i r y hy;cases hy
  | succ f ih =>
    intro i r y hy;unfold dM at hy
    cases hd:decide (0≤i)
    · rw [hd] at hy;cases hy
    rw [hd] at hy;simp only [cond_true] at hy;rcases C9 p q r i (E (Z.mul (Z.of (Z.signW (q.getD (q.length - 1) I0).dec).1) (r.getD (i.toNat+(q.length - 1)) I0).dec)) (r.length+1) 0 r oo_ rfl with ⟨t',k',h1,h2,h3⟩ | h1
    · rw [h1] at hy;exact ih _ _ _ hy
    rw [h1] at hy;exact (Sum.inr.inj hy).symm
theorem n8 (p q:List I):(bD p q).length≤25:=by
  unfold bD;exact o0 nB (d9_ (fun s=>mB _) (fun r h=>by_ p q _ _ _ _ h))
theorem eW:badp.all gdI=false:=by decide +kernel
theorem F9 {l:List I} (h:(mkP l).all gdI=true):mkP l=jW l:=by
  unfold mkP at h ⊢
  cases hl:l.all gdI
  · rw [hl] at h;rw [cond_false,eW] at h;cases h
  simp only [hl,cond_true] at h ⊢
  split
  · rfl
  rename_i hs;rw [if_neg hs,eW] at h;cases h
theorem uO {p:List I} (hp:p.length≤1000) (h:(aC p).all gdI=true):p.all gdI=true∧(aC p).length≤p.length:=by
  unfold aC at h ⊢;rw [rH _ hp dd_] at h ⊢;simp only [List.length_nil,Nat.max_zero,List.all_nil,Bool.and_true] at h ⊢
  cases hg:p.all gdI
  · rw [hg,cond_false,eW] at h;cases h
  rw [hg] at h;simp only [cond_true] at h ⊢;rw [F9 h];refine ⟨trivial,Nat.le_trans (uY _) ?_⟩
  simp
theorem EP {a b:List I} (hl:a.length≤25∧b.length≤25) (h:(aT a||aT b)=false) (h0:decide (0<((b.length:Nat):Int))=true):gmP (aC (bD a b))<gmP b:=by
  have hb:=(Bool.or_eq_false_iff.1 h).2;rw [mN oo_] at hb
  have hbg:b.all gdI=true:=by simpa using hb
  have hpos:=of_decide_eq_true h0
  have e1:gmP b=2 * b.length:=by unfold gmP;rw [hbg];rfl
  rw [e1];unfold gmP
  cases hg:(aC (bD a b)).all gdI
  · rw [cond_false];omega
  rw [cond_true];have h1:=n8 a b;obtain ⟨h2,h3⟩:=uO oo_ hg;rcases DA a b oo_ with h4 | h4
  · rw [h4,eW] at h2;cases h2
  omega
theorem y6 (p:List I) (a b:Rt):∀ (k:Nat) (r:List I) (i:Int),r.length≤25→(fO p a b k r i).1.length≤25
  | 0,r,i,h=>h
  | k+1,r,i,h=>by
    unfold fO
    cases decide (0≤i)
    · exact h
    exact y6 p a b k _ _ (w7 _ _)
theorem z7 (p:List I) (a b:Rt):(fN p a b).length≤25:=o0 nB (y6 p a b _ _ _ (Nat.zero_le _))
theorem wA (p:List I) (a b:Rt):(eU p a b).length≤25:=cL _
theorem KR (p q:List I):∀ (k:Nat) (a b y:List I),cS p q k a b = .inr y→y=badp
  | 0,a,b,y,h=>by cases h
  | k+1,a,b,y,h=>by
    unfold cS at h
    cases h1:decide (0<((b.length:Nat):Int))
    · rw [h1] at h;cases h
    rw [h1] at h
    cases h2:(aT a||aT b)
    · rw [h2] at h;exact KR p q k _ _ _ h
    rw [h2] at h;exact (Sum.inr.inj h).symm
theorem R8 (p q:List I):∀ (k:Nat) (a b:List I) (s:List I×List I),a.length≤25→b.length≤25→cS p q k a b = .inl s→s.1.length≤25
  | 0,a,b,s,ha,hb,h=>by cases h;exact ha
  | k+1,a,b,s,ha,hb,h=>by
    unfold cS at h
    cases h1:decide (0<((b.length:Nat):Int))
    · rw [h1] at h;cases h;exact ha
    rw [h1] at h
    cases h2:(aT a||aT b)
    · rw [h2] at h;exact R8 p q k _ _ _ hb (cL _) h
    rw [h2] at h;cases h
theorem w8 (p q:List I):(aN p q).length≤25:=by
  unfold aN
  cases h:cS p q (gmP (aC q)+1) (aC p) (aC q) with
  | inl s=>exact o0 (R8 p q _ _ _ s (cL _) (cL _) h) (qG _ _ _)
  | inr y=>rw [KR p q _ _ _ _ h];exact nB
abbrev cZ (v:Int):Prop:=v.natAbs<4294967296 ^ 16
theorem UF {x:I} (h:x.1.good=true):E x.dec=x:=Subtype.ext (aV_ x.2 h)
theorem QB {x:I} (h:x.1.good=true):∃ v:Int,cZ v∧x=E (Z.of v):=by
  have h1:=cO x.2 h;refine ⟨_,x.dec.h _ h1,?_⟩;rw [← Z.eq_of h1];exact (UF h).symm
theorem yK {v:Int} (h:cZ v):(E (Z.of v)).1.good=true:=by
  show (Z.of v).enc.good=true
  rw [Z.enc_good,Z.of_some h];rfl
theorem FA {v:Int} (h:cZ v):(E (Z.of v)).1.bad=false:=by
  have:=yK h;unfold R.good at this;simp only [Bool.and_eq_true,Bool.not_eq_true'] at this;exact this.1
theorem cY_:(E Z.bad).1.bad=true:=rfl
theorem N0:(E Z.bad).1.good=false:=rfl
theorem bD_ {v:Int} (h:cZ v):(Z.of v).sign=v.sign:=by unfold Z.sign;rw [Z.of_some h]
theorem kN {v:Int} (h:cZ v):(Z.signW (Z.of v)).1=v.sign:=bD_ h
theorem AS {u v:Int} (hu:cZ u) (hv:cZ v):Z.gcd (Z.of u) (Z.of v)=Z.of (Int.gcd u v):=by rw [Z.gcd,cY (Z.of_some hu) (Z.of_some hv)]
theorem C8 {u v:Int} (hu:cZ u) (hv:cZ v) (h:v≠0):Z.quo (Z.of u) (Z.of v)=Z.of (u.fdiv v):=by rw [Z.quo,cY (Z.of_some hu) (Z.of_some hv),if_neg h]
theorem oR {u v:Int} (hu:cZ u) (hv:cZ v):Z.mul (Z.of u) (Z.of v)=Z.of (u * v):=by rw [Z.mul,cY (Z.of_some hu) (Z.of_some hv)]
theorem CN {u v:Int} (hu:cZ u) (hv:cZ v):Z.add (Z.of u) (Z.of v)=Z.of (u+v):=by rw [Z.add,cY (Z.of_some hu) (Z.of_some hv)]
theorem QL {u:Int} (hu:cZ u):Z.neg (Z.of u)=Z.of (-u):=by rw [Z.neg,kY (Z.of_some hu)]
theorem YR {v:Int} (h:¬ cZ v):Z.of v=Z.bad:=by unfold Z.of;rw [dif_neg h]
theorem B1:cZ 1:=by decide
theorem B0:cZ 0:=by decide
theorem NV {u v:Int} (hv:cZ v) (h:v≠0):cZ (Int.gcd u v:Nat):=by
  have:Int.gcd u v≤v.natAbs:=Nat.le_of_dvd oo_ (Int.gcd_dvd_natAbs_right u v)
  show ((Int.gcd u v:Nat):Int).natAbs<_
  rw [Int.natAbs_natCast];exact Nat.lt_of_le_of_lt this hv
theorem QR {u v:Int} (hu:cZ u) (hv:cZ v) (h:Z.of u=Z.of v):u=v:=by
  have:=congrArg Z.o h;rw [Z.of_some hu,Z.of_some hv] at this;exact Option.some.inj this
structure Rt.Is (a:Rt) (n d:Int):Prop where
  en:a.n=E (Z.of n)
  ed:a.d=E (Z.of d)
  hn:cZ n
  hd:cZ d
  pos:0<d
  cop:Int.gcd n d=1
theorem Rt.ext {a b:Rt} (h:a.n=b.n) (k:a.d=b.d):a=b:=by cases a;cases b;simp_all
theorem e5_:F_skewbackref04_one=E (Z.of 1):=rfl
theorem e6_:F_ratio_one=E (Z.of 1):=rfl
theorem PO:qT=iJ:=rfl
theorem XT (a:I):j4 a=a.1.good:=rfl
theorem mM (a:Rt):cG a=aP a:=by
  unfold cG aP;rw [XT,XT,e5_,e6_]
  cases a.n.1.good <;> cases a.d.1.good <;> rfl
theorem RI (a b:I):cP a b=aY a b:=rfl
theorem cK_ (a:Rt):nW a=fA a:=by unfold nW fA;rw [mM,PO]
theorem PN (a b:Rt):lG a b=dZ a b:=by unfold lG dZ;rw [mM,mM,PO];rfl
theorem V2 (a b:Rt):gS a b=cW a b:=by unfold gS cW;rw [cK_,PN]
theorem er_ {a:Rt}:aP a=true ↔ ∃ n d,Rt.Is a n d:=by
  unfold aP
  constructor
  · intro h
    cases gn:a.n.1.good <;> cases gd:a.d.1.good <;> simp only [gn,gd,Bool.not_true,Bool.not_false,Bool.or_true,Bool.true_or,Bool.or_false,cond_true,cond_false,Bool.false_eq_true] at h
    obtain ⟨n,hn,en⟩:=QB gn;obtain ⟨d,hd,ed⟩:=QB gd;rw [en,ed] at h;simp only [bZ,Bool.and_eq_true,decide_eq_true_eq,kN hd] at h;obtain ⟨h1,h2⟩:=h;have hp:0<d:=Int.sign_pos_iff.1 h1;rw [AS hn hd,e5_] at h2;have h3:=QR (NV hd oo_) B1 (VS h2);exact ⟨n,d,en,ed,hn,hd,hp,by exact_mod_cast h3⟩
  rintro ⟨n,d,h⟩;rw [h.en,h.ed,yK h.hn,yK h.hd];simp only [Bool.not_true,Bool.or_false,cond_false,bZ,Bool.and_eq_true,decide_eq_true_eq,kN h.hd];refine ⟨Int.sign_pos_iff.2 h.pos,?_⟩;rw [AS h.hn h.hd,h.cop];rfl
theorem IJ (v:Int):v.fdiv 1=v:=by rw [Int.fdiv_eq_ediv_of_nonneg _ dd_];exact Int.ediv_one v
theorem bb_ {n d:Int} (hn:cZ n) (hd:cZ d) (hp:0<d) (hc:Int.gcd n d=1):aY (E (Z.of n)) (E (Z.of d))=⟨E (Z.of n),E (Z.of d)⟩:=by
  unfold aY
  have h1:((Z.signW (E (Z.of d)).dec).1==0)=false:=by rw [bZ,kN hd,Int.sign_eq_one_of_pos hp];rfl
  have h2:decide ((Z.signW (E (Z.of d)).dec).1<0)=false:=by rw [bZ,kN hd,Int.sign_eq_one_of_pos hp];rfl
  rw [yK hn,yK hd,h1,h2,bZ,bZ,AS hn hd,hc];simp only [Bool.not_true,Bool.or_false,cond_false];rw [show ((1:Nat):Int)=1 from rfl,C8 hn B1 dd_,C8 hd B1 dd_,IJ,IJ]
theorem CY (b:I):aY (E Z.bad) b=iJ:=by unfold aY;rw [N0];rfl
theorem CZ (a:I):aY a (E Z.bad)=iJ:=by
  unfold aY;rw [N0]
  cases a.1.good <;> rfl
theorem FO {u g:Int} (hg:0<g):u.fdiv g=u / g:=Int.fdiv_eq_ediv_of_nonneg _ (Int.le_of_lt hg)
theorem b3_ {u g:Int} (hu:cZ u) (hg:0<g) (hd:g ∣ u):cZ (u / g):=by
  obtain ⟨k,rfl⟩:=hd;rw [Int.mul_ediv_cancel_left _ oo_];refine Nat.lt_of_le_of_lt ?_ hu;rw [Int.natAbs_mul];exact Nat.le_mul_of_pos_left _ oo_
theorem YF {n d:Int} (hn:cZ n) (hd:cZ d) (hp:0<d) :
    aY (E (Z.of n)) (E (Z.of d))=⟨E (Z.of (n / (Int.gcd n d:Nat))),E (Z.of (d / (Int.gcd n d:Nat)))⟩:=by
  unfold aY
  have h1:((Z.signW (E (Z.of d)).dec).1==0)=false:=by rw [bZ,kN hd,Int.sign_eq_one_of_pos hp];rfl
  have h2:decide ((Z.signW (E (Z.of d)).dec).1<0)=false:=by rw [bZ,kN hd,Int.sign_eq_one_of_pos hp];rfl
  have hg:0<((Int.gcd n d:Nat):Int):=by
    have:=Int.gcd_pos_of_ne_zero_right n (show d≠0 by omega);omega
  have hb:=NV (u:=n) hd oo_;rw [yK hn,yK hd,h1,h2,bZ,bZ,AS hn hd];simp only [Bool.not_true,Bool.or_false,cond_false];rw [C8 hn hb oo_,C8 hd hb oo_,FO hg,FO hg]
theorem yQ {n d:Int} (hn:cZ n) (hd:cZ d) (hp:0<d):Rt.Is (aY (E (Z.of n)) (E (Z.of d))) (n / (Int.gcd n d:Nat)) (d / (Int.gcd n d:Nat)):=by
  have hg:0<((Int.gcd n d:Nat):Int):=by
    have:=Int.gcd_pos_of_ne_zero_right n (show d≠0 by omega);omega
  have d1:((Int.gcd n d:Nat):Int) ∣ n:=Int.gcd_dvd_left ..;have d2:((Int.gcd n d:Nat):Int) ∣ d:=Int.gcd_dvd_right ..;rw [YF hn hd hp];refine ⟨rfl,rfl,b3_ hn hg d1,b3_ hd hg d2,Int.ediv_pos_of_pos_of_dvd hp oo_ d2,?_⟩;rw [Int.gcd_ediv d1 d2,Int.natAbs_natCast,Nat.div_self oo_]
theorem E4 {a b:Rt} {n d m e:Int} (ha:a.Is n d) (hb:b.Is m e) :
    ∃ p q r s:Int,aY a.n b.d=⟨E (Z.of p),E (Z.of q)⟩∧aY b.n a.d=⟨E (Z.of r),E (Z.of s)⟩∧cZ p∧cZ q∧cZ r∧cZ s∧0<q∧0<s∧Int.gcd (p * r) (q * s)=1∧n * m * (q * s)=p * r * (d * e):=by
  have h1:=yQ ha.hn hb.hd hb.pos;have h2:=yQ hb.hn ha.hd ha.pos;have g1:((Int.gcd n e:Nat):Int) ∣ n:=Int.gcd_dvd_left ..;have g2:((Int.gcd n e:Nat):Int) ∣ e:=Int.gcd_dvd_right ..;have g3:((Int.gcd m d:Nat):Int) ∣ m:=Int.gcd_dvd_left ..;have g4:((Int.gcd m d:Nat):Int) ∣ d:=Int.gcd_dvd_right ..;refine ⟨n / (Int.gcd n e:Nat),e / (Int.gcd n e:Nat),m / (Int.gcd m d:Nat),d / (Int.gcd m d:Nat),?_,?_,h1.hn,h1.hd,h2.hn,h2.hd,h1.pos,h2.pos,?_,?_⟩
  · rw [ha.en,hb.ed];exact Rt.ext h1.en h1.ed
  · rw [hb.en,ha.ed];exact Rt.ext h2.en h2.ed
  · generalize hG:((Int.gcd n e:Nat):Int)=G at *
    generalize hH:((Int.gcd m d:Nat):Int)=H at *;have c1:Nat.Coprime (n / G).natAbs (e / G).natAbs:=h1.cop;have c2:Nat.Coprime (m / H).natAbs (d / H).natAbs:=h2.cop;have k1:Nat.Coprime n.natAbs d.natAbs:=ha.cop;have k2:Nat.Coprime m.natAbs e.natAbs:=hb.cop;have d1:(n / G).natAbs ∣ n.natAbs:=Int.natAbs_dvd_natAbs.2 (Int.ediv_dvd_of_dvd g1);have d2:(e / G).natAbs ∣ e.natAbs:=Int.natAbs_dvd_natAbs.2 (Int.ediv_dvd_of_dvd g2);have d3:(m / H).natAbs ∣ m.natAbs:=Int.natAbs_dvd_natAbs.2 (Int.ediv_dvd_of_dvd g3);have d4:(d / H).natAbs ∣ d.natAbs:=Int.natAbs_dvd_natAbs.2 (Int.ediv_dvd_of_dvd g4)
    show Nat.gcd (n / G * (m / H)).natAbs (e / G * (d / H)).natAbs=1
    rw [Int.natAbs_mul,Int.natAbs_mul];have x1:Nat.Coprime (n / G).natAbs (d / H).natAbs:=(k1.coprime_dvd_left d1).coprime_dvd_right d4;have x2:Nat.Coprime (m / H).natAbs (e / G).natAbs:=(k2.coprime_dvd_left d3).coprime_dvd_right d2;exact (Nat.Coprime.mul_right c1 x1).mul_left (Nat.Coprime.mul_right x2 c2)
  obtain ⟨x,hx⟩:=g1;obtain ⟨y,hy⟩:=g2;obtain ⟨z,hz⟩:=g3;obtain ⟨t,ht⟩:=g4
  have p1:0<((Int.gcd n e:Nat):Int):=by have:=Int.gcd_pos_of_ne_zero_right n (show e≠0 by have:=hb.pos;omega);omega
  have p2:0<((Int.gcd m d:Nat):Int):=by have:=Int.gcd_pos_of_ne_zero_right m (show d≠0 by have:=ha.pos;omega);omega
  generalize ((Int.gcd n e:Nat):Int)=G at *;generalize ((Int.gcd m d:Nat):Int)=H at *
  have q1:n / G=x:=by rw [hx];exact Int.mul_ediv_cancel_left _ oo_
  have q2:e / G=y:=by rw [hy];exact Int.mul_ediv_cancel_left _ oo_
  have q3:m / H=z:=by rw [hz];exact Int.mul_ediv_cancel_left _ oo_
  have q4:d / H=t:=by rw [ht];exact Int.mul_ediv_cancel_left _ oo_
  rw [q1,q2,q3,q4,hx,hy,hz,ht];grind
theorem VU (a b:Rt):jG a b=d5 a b:=by
  unfold jG d5;rw [mM,mM,PO,RI,RI]
  cases hga:aP a <;> cases hgb:aP b <;> simp only [Bool.not_true,Bool.not_false,Bool.or_true,Bool.true_or,Bool.or_false,cond_true,cond_false]
  obtain ⟨n,d,ha⟩:=er_.1 hga;obtain ⟨m,e,hb⟩:=er_.1 hgb;obtain ⟨p,q,r,s,e1,e2,hp,hq,hr,hs,q0,s0,hc,_⟩:=E4 ha hb;rw [e1,e2];simp only [bZ,oR hp hr,oR hq hs]
  by_cases b1:cZ (p * r)
  · by_cases b2:cZ (q * s)
    · rw [bb_ b1 b2 (Int.mul_pos q0 s0) hc,FA b1,FA b2];rfl
    rw [YR b2,CZ,cY_,Bool.or_true];rfl
  rw [YR b1,CY];rfl
theorem eO_ {x:I} (h:gdI x=true):∃ v:Int,cZ v∧x=E (Z.of v):=QB (by unfold R.good;exact h)
theorem NZ {v:Int} (h:cZ v):gdI (E (Z.of v))=true:=by have:=yK h;unfold R.good at this;exact this
def vI (x:I):Int:=x.dec.o.getD 0
theorem ad_ {v:Int} (h:cZ v):vI (E (Z.of v))=v:=by unfold vI;rw [bZ,Z.of_some h];rfl
theorem AC {x:I} (h:gdI x=true):x=E (Z.of (vI x))∧cZ (vI x):=by
  obtain ⟨v,hv,rfl⟩:=eO_ h;rw [ad_ hv];exact ⟨rfl,hv⟩
theorem P8 {x:I} (h:gdI x=true):x.dec=Z.of (vI x):=by
  conv=>lhs;rw [(AC h).1,bZ]
theorem am_ {v:Int} (h:cZ v):zrI (E (Z.of v))=decide (v=0):=by
  unfold zrI;rw [bZ,kN h]
  by_cases h0:v=0
  · subst h0;rfl
  rw [decide_eq_false h0];exact beq_eq_false_iff_ne.2 (fun hs=>h0 (Int.sign_eq_zero_iff_zero.1 hs))
theorem el_ {x:I} (h:gdI x=true):zrI x=decide (vI x=0):=by
  conv=>lhs;rw [(AC h).1]
  exact am_ (AC h).2
def fg (g:Nat) (x:I):Nat:=Int.gcd g (vI x)
theorem eo_ {g:Nat} {v:Int} (hg:cZ (g:Int)) (hv:cZ v):cZ ((Int.gcd g v:Nat):Int):=by
  by_cases h:v=0
  · subst h
    rw [Int.gcd_zero_right,Int.natAbs_natCast];exact hg
  exact NV hv h
theorem FG (l0:List I):∀ (r:List I) (g:Nat),r.all gdI=true→cZ (g:Int)→jE l0 r (E (Z.of (g:Int)))=E (Z.of ((r.foldl fg g:Nat):Int))∧cZ ((r.foldl fg g:Nat):Int)
  | [],g,_,hg=>⟨rfl,hg⟩
  | x :: r,g,h,hg=>by
    rw [List.all_cons,Bool.and_eq_true] at h;have hx:=AC h.1
    have e:E (Z.gcd (E (Z.of (g:Int))).dec x.dec)=E (Z.of ((fg g x:Nat):Int)):=by
      rw [bZ,P8 h.1,AS hg hx.2];rfl
    unfold jE;rw [e];exact FG l0 r _ h.2 (eo_ hg hx.2)
def cN (l:List I):Nat:=l.foldl fg 0
theorem DQ {l:List I} (h:l.all gdI=true):dH l=E (Z.of ((cN l:Nat):Int))∧cZ ((cN l:Nat):Int):=FG l l 0 h B0
theorem NT:∀ (l:List I) (g:Nat),l.foldl fg g ∣ g∧∀ x∈l,((l.foldl fg g:Nat):Int) ∣ vI x
  | [],g=>⟨Nat.dvd_refl _,fun x hx=>by cases hx⟩
  | y :: l,g=>by
    obtain ⟨h1,h2⟩:=NT l (fg g y)
    have h3:fg g y ∣ g:=by have:=Int.gcd_dvd_natAbs_left (g:Int) (vI y);simpa [fg] using this
    have h4:((fg g y:Nat):Int) ∣ vI y:=Int.gcd_dvd_right ..;refine ⟨Nat.dvd_trans h1 h3,fun x hx=>?_⟩;rcases List.mem_cons.1 hx with rfl | hx
    · exact Int.dvd_trans (Int.natCast_dvd_natCast.2 h1) h4
    exact h2 x hx
theorem FE {l:List I} {x:I} (h:x∈l):((cN l:Nat):Int) ∣ vI x:=(NT l 0).2 x h
theorem N8 {α:Type} (f:I→α) (l:List I):(List.range l.length).map (fun k=>f (l.getD k I0))=l.map f:=by
  refine List.ext_getElem? fun k=>?_
  by_cases h:k<l.length
  · simp [h]
  simp [h]
def Rgt (p:List I):Prop:=p=badp∨(p.all gdI=true∧jW p=p∧p.length≤25)
theorem G2 (l:List I):jW (jW l)=jW l:=by
  suffices ∀ n (l:List I),l.length≤n→jW (jW l)=jW l from this _ l (Nat.le_refl _)
  intro n
  induction n with
  | zero=>intro l h;rw [List.eq_nil_of_length_eq_zero (show l.length=0 by omega)];rfl
  | succ n ih =>
    intro l h;rcases pG l with rfl | ⟨m,x,rfl⟩
    · rfl
    have hs:=pH m x
    cases hx:zrI x
    · rw [hx,cond_false] at hs;rw [hs,hs]
    rw [hx,cond_true] at hs;rw [hs];exact ih m (by simp only [List.length_append,List.length_cons,List.length_nil] at h;omega)
theorem JA {l:List I} (h:l.all gdI=true):(jW l).all gdI=true:=by
  rw [t8];rw [List.all_eq_true] at h ⊢;exact fun x hx=>h x (List.mem_of_mem_take hx)
theorem BV (l:List I):Rgt (mkP l):=by
  unfold mkP
  cases h:l.all gdI
  · exact .inl rfl
  simp only [cond_true]
  split
  · rename_i h2;exact .inr ⟨JA h,G2 l,h2⟩
  exact .inl rfl
theorem YN {l:List I} (h:l.all gdI=true) (h2:jW l=l) (h3:l.length≤25):mkP l=l:=by
  unfold mkP;rw [h,cond_true,h2,if_pos h3]
theorem BA {m:List I} {x:I} (h:jW (m ++ [x])=m ++ [x]):zrI x=false:=by
  cases hx:zrI x
  · rfl
  rw [pH,hx,cond_true] at h;have:=uY m;rw [h] at this;simp only [List.length_append,List.length_cons,List.length_nil] at this;omega
theorem JB {l:List I} (f:I→I) (h:jW l=l) (hf:∀ x∈l,zrI x=false→zrI (f x)=false):jW (l.map f)=l.map f:=by
  rcases pG l with rfl | ⟨m,x,rfl⟩
  · rfl
  rw [List.map_append,List.map_cons,List.map_nil,pH,hf x (by simp) (BA h),cond_false]
theorem OM {p:List I} (h:p.all gdI=true) (hs:jW p=p) (hl:p.length≤25):aC p=p.map fun x=>E (Z.of ((vI x).fdiv (cN p))):=by
  unfold aC;rw [rH _ oo_ dd_];simp only [List.length_nil,Nat.max_zero,List.all_nil,Bool.and_true,h,cond_true];have hc:=DQ h
  have e:(List.range p.length).map (fun k=>kW (p.getD k I0) (([]:List I).getD k I0) (dH p))=p.map fun x=>E (Z.quo x.dec (Z.of ((cN p:Nat):Int))):=by
    rw [← N8 (fun x=>E (Z.quo x.dec (Z.of ((cN p:Nat):Int))))];refine List.map_congr_left fun k _=>?_
    show E (Z.quo (p.getD k I0).dec (dH p).dec)=_
    rw [hc.1,bZ]
  rw [e];rcases pG p with rfl | ⟨m,x,rfl⟩
  · rfl
  have hx:gdI x=true:=List.all_eq_true.1 h x (by simp);have hz:=BA hs;rw [el_ hx] at hz;have hv0:vI x≠0:=of_decide_eq_false hz
  have hc0:((cN (m ++ [x]):Nat):Int)≠0:=fun h0=>by
    have:=FE (l:=m ++ [x]) (x:=x) (by simp);rw [h0] at this;exact hv0 (Int.zero_dvd.1 this)
  have e2:(m ++ [x]).map (fun x'=>E (Z.quo x'.dec (Z.of ((cN (m ++ [x]):Nat):Int))))=(m ++ [x]).map fun x'=>E (Z.of ((vI x').fdiv (cN (m ++ [x])))):=by
    refine List.map_congr_left fun y hy=>?_;have hy':=AC (List.all_eq_true.1 h y hy);rw [P8 (List.all_eq_true.1 h y hy),C8 hy'.2 hc.2 hc0]
  rw [e2]
  have hB:∀ y∈m ++ [x],cZ ((vI y).fdiv (cN (m ++ [x]))):=fun y hy=>by
    have hy':=AC (List.all_eq_true.1 h y hy);have hd:=FN (FE hy)
    have hle:((vI y).fdiv (cN (m ++ [x]))).natAbs≤(vI y).natAbs:=by
      conv=>rhs;rw [← hd]
      rw [Int.natAbs_mul];exact Nat.le_mul_of_pos_left _ oo_
    exact Nat.lt_of_le_of_lt hle hy'.2
  refine YN ?_ (JB _ hs fun y hy hzy=>?_) (by rw [List.length_map];exact hl)
  · rw [List.all_eq_true]
    intro z hz;obtain ⟨y,hy,rfl⟩:=List.mem_map.1 hz;exact NZ (hB y hy)
  rw [el_ (List.all_eq_true.1 h y hy)] at hzy;rw [am_ (hB y hy)];refine decide_eq_false fun h0=>of_decide_eq_false hzy ?_;have hd:=FN (FE hy);rw [h0,Int.mul_zero] at hd;exact hd.symm
theorem M6:badp.length=1:=rfl
theorem zT {p:List I} (h:Rgt p) (hg:p.all gdI=false):p=badp:=by
  rcases h with h | h
  · exact h
  rw [h.1] at hg;cases hg
theorem tI (p:List I) (hp:p.length≤1000):Rgt (aC p):=by
  unfold aC;rw [rH _ hp dd_]
  cases (p.all gdI&&List.all [] gdI)
  · exact .inl rfl
  exact BV _
theorem NW (p q:List I) {n:Nat} (hn:1≤n):∀ (k:Nat) (a b:List I),gmP b<k→a≠[]→Rgt a→Rgt b→a.length≤n→b.length≤n→a.length≤25→b.length≤25 →
    (∃ s,cS p q k a b = .inl s∧s.1≠[]∧Rgt s.1∧s.1.length≤n)∨cS p q k a b = .inr badp
  | 0,a,b,h,_,_,_,_,_,_,_=>absurd h (Nat.not_lt_zero _)
  | k+1,a,b,h,ha,ra,rb,la,lb,ka,kb=>by
    unfold cS
    cases h1:decide (0<((b.length:Nat):Int))
    · exact .inl ⟨_,rfl,ha,ra,la⟩
    · cases h2:(aT a||aT b)
      · simp only [cond_true,cond_false]
        have hd:=EP ⟨ka,kb⟩ h2 h1;have hpos:=of_decide_eq_true h1;have hrl:=n8 a b;have rr:=tI (bD a b) oo_;refine NW p q hn k b _ oo_ (fun e=>by rw [e] at hpos;exact absurd hpos dd_) rb rr lb ?_ kb (cL _)
        cases hg:(aC (bD a b)).all gdI
        · rw [zT rr hg,M6];exact hn
        obtain ⟨h4,h5⟩:=uO oo_ hg;rcases DA a b oo_ with h6 | h6
        · rw [h6,eW] at h4;cases h4
        omega
      exact .inr rfl
theorem bg_ {a:List I} (h:a.all gdI=true) (hs:jW a=a) (hl:a.length≤25):eJ [] a (fun y z=>E (Z.sub y.dec z.dec))=a.map fun x=>E (Z.of (-(vI x))):=by
  rw [rH _ dd_ oo_];simp only [List.length_nil,Nat.zero_max,List.all_nil,Bool.true_and,h,cond_true]
  have e:(List.range a.length).map (fun k=>E (Z.sub (([]:List I).getD k I0).dec (a.getD k I0).dec))=a.map fun x=>E (Z.of (-(vI x))):=by
    have e1:(List.range a.length).map (fun k=>E (Z.sub (([]:List I).getD k I0).dec (a.getD k I0).dec))=a.map fun x=>E (Z.sub (Z.of 0) x.dec):=by
      rw [← N8 (fun x=>E (Z.sub (Z.of 0) x.dec))];refine List.map_congr_left fun k _=>?_;rfl
    rw [e1];refine List.map_congr_left fun y hy=>?_;have hy':=AC (List.all_eq_true.1 h y hy)
    have hB:cZ (-(vI y)):=by unfold cZ;rw [Int.natAbs_neg];exact hy'.2
    rw [P8 (List.all_eq_true.1 h y hy)]
    show E (Z.add (Z.of 0) (Z.neg (Z.of (vI y))))=_
    rw [QL hy'.2,CN B0 hB,Int.zero_add]
  rw [e]
  have hB:∀ y∈a,cZ (-(vI y)):=fun y hy=>by unfold cZ;rw [Int.natAbs_neg];exact (AC (List.all_eq_true.1 h y hy)).2
  refine YN ?_ (JB _ hs fun y hy hzy=>?_) (by rw [List.length_map];exact hl)
  · rw [List.all_eq_true]
    intro z hz;obtain ⟨y,hy,rfl⟩:=List.mem_map.1 hz;exact NZ (hB y hy)
  rw [el_ (List.all_eq_true.1 h y hy)] at hzy;rw [am_ (hB y hy)];exact decide_eq_false fun h0=>of_decide_eq_false hzy oo_
theorem P2 {p:List I} (hp:p.length≤1000) (h:(aF p).all gdI=true):(aF p).length≤p.length - 1:=by
  unfold aF at h ⊢;rw [mN hp,oH] at h ⊢
  cases hg:p.all gdI
  · rw [hg] at h;simp only [Bool.not_false,cond_true] at h;rw [DK,eW] at h;cases h
  rw [hg] at h;simp only [Bool.not_true,cond_false] at h ⊢;rw [F9 h];refine Nat.le_trans (uY _) ?_;rw [List.length_map,List.length_range];omega
theorem aY_ {p:List I} (hp:Rgt p) (h:(aT (aN p (aF p))||aT (aC p))=false) (h0:(((aC p).length:Nat):Int)≠0) :
    1≤(aN p (aF p)).length∧(aN p (aF p)).length≤(aC p).length:=by
  have hpl:p.length≤25:=by
    rcases hp with h1 | h1
    · rw [h1];exact nB
    exact h1.2.2
  obtain ⟨hg,hr⟩:=Bool.or_eq_false_iff.1 h;rw [mN (Nat.le_trans (w8 _ _) dd_)] at hg;rw [mN (Nat.le_trans (cL _) dd_)] at hr
  have hr':(aC p).all gdI=true:=by simpa using hr
  have hg':(aN p (aF p)).all gdI=true:=by simpa using hg
  have hpg:=(uO oo_ hr').1
  obtain ⟨_,hs,_⟩:p.all gdI=true∧jW p=p∧p.length≤25:=by
    rcases hp with h1 | h1
    · rw [h1,eW] at hpg;cases hpg
    exact h1
  have hpv:=OM hpg hs hpl
  have hrl:(aC p).length=p.length:=by rw [hpv,List.length_map]
  have hp1:1≤p.length:=by omega
  have hdl:(aC (aF p)).length≤p.length:=by
    have rd:=tI (aF p) (Nat.le_trans (oJ _) dd_)
    cases hd:(aC (aF p)).all gdI
    · rw [zT rd hd,M6];exact hp1
    obtain ⟨h4,h5⟩:=uO (Nat.le_trans (oJ _) dd_) hd;have:=P2 oo_ h4;omega
  rw [hrl];unfold aN at hg' ⊢;rcases NW p (aF p) hp1 (gmP (aC (aF p))+1) (aC p) (aC (aF p)) (Nat.lt_succ_self _) (fun e=>by rw [e] at hrl;simp at hrl;omega) (tI _ oo_) (tI _ (Nat.le_trans (oJ _) dd_)) oo_ hdl (cL _) (cL _) with ⟨s,h1,h2,h3,h4⟩ | h1
  · rw [h1] at hg' ⊢
    have hs1:1≤s.1.length:=by
      rcases Nat.eq_zero_or_pos s.1.length with h | h
      · exact absurd (List.eq_nil_of_length_eq_zero h) h2
      exact h
    simp only [sm] at hg' ⊢
    cases hc:(((s.1.length:Nat):Int)==0)||decide (0<(Z.signW (s.1.getD (s.1.length - 1) I0).dec).1)
    · rw [hc] at hg'
      simp only [cond_false] at hg' ⊢
      have hsl:s.1.length≤25:=by omega
      cases hsg:s.1.all gdI
      · have hb:=zT h3 hsg
        rw [hb,rH _ dd_ dd_,eW] at hg';rw [Bool.and_false,cond_false,eW] at hg';cases hg'
      rcases h3 with h3 | h3
      · rw [h3,eW] at hsg;cases hsg
      rw [bg_ h3.1 h3.2.1 h3.2.2,List.length_map];exact ⟨hs1,h4⟩
    exact ⟨hs1,h4⟩
  rw [h1] at hg';simp only [sm] at hg';rw [eW] at hg';cases hg'
theorem SA (p q:List I):∀ (k:Nat) (a b:List I) (s:List I×List I),Rgt a→Rgt b→cS p q k a b = .inl s→Rgt s.1
  | 0,a,b,s,ha,_,h=>by cases h;exact ha
  | k+1,a,b,s,ha,hb,h=>by
    unfold cS at h
    cases h1:decide (0<((b.length:Nat):Int))
    · rw [h1] at h;cases h;exact ha
    rw [h1] at h
    cases h2:(aT a||aT b)
    · rw [h2] at h;exact SA p q k _ _ _ hb (tI _ (Nat.le_trans (n8 _ _) dd_)) h
    rw [h2] at h;cases h
theorem EZ {p:List I} (h:Rgt p):p.length≤25:=by
  rcases h with h | h
  · rw [h];exact nB
  exact h.2.2
theorem LH (p q:List I):Rgt (dO p q):=by
  unfold dO
  cases (aT p||aT q)
  · simp only [cond_false]
    cases ((((p.length:Nat):Int)==0)||(((q.length:Nat):Int)==0))
    · rw [cond_false,oH];exact BV _
    exact .inr ⟨rfl,rfl,Nat.zero_le _⟩
  exact .inl rfl
theorem I1 {p:List I} (h:eX p=true):Rgt p:=by
  unfold eX at h
  cases h1:((((p.length:Nat):Int)==1)&&decide ((p.getD 0 I0)=(E Z.bad)))
  · rw [h1,cond_false,wT] at h
    cases hg:p.all gdI
    · rw [hg] at h;cases h
    rw [hg] at h
    by_cases hl:(25:Int)<((p.length:Nat):Int)
    · rw [decide_eq_true hl] at h;cases h
    rw [decide_eq_false hl] at h;refine .inr ⟨hg,?_,by omega⟩;rcases pG p with rfl | ⟨m,x,rfl⟩
    · rfl
    simp only [Bool.not_true,Bool.or_false,cond_false,Bool.or_eq_true] at h;rcases h with h | h
    · simp at h;omega
    rw [show (m ++ [x]).length - 1=m.length by simp,show (m ++ [x]).getD m.length I0=x by simp,ZR] at h;rw [pH]
    have:zrI x=false:=by simpa using h
    rw [this];rfl
  rw [Bool.and_eq_true] at h1
  have hl:p.length=1:=by have:=h1.1;simp at this;omega
  obtain ⟨x,rfl⟩:∃ x,p=[x]:=List.length_eq_one_iff.1 hl;have hx:x=E Z.bad:=of_decide_eq_true h1.2;exact .inl (by rw [hx];rfl)
theorem CV {p:List I} {d b:Int} (h:bU p d b=true):eX p=true∧((p.length:Nat):Int)≤d+1:=by
  unfold bU at h
  cases h1:(!eX p)||decide (d+1<((p.length:Nat):Int))
  · rw [Bool.or_eq_false_iff] at h1
    exact ⟨by simpa using h1.1,by have:=of_decide_eq_false h1.2;omega⟩
  rw [h1] at h;cases h
theorem b4_ {p:List I} {d b:Int} (h:(!bU p d b)=false):Rgt p∧p.length≤25:=by
  have h1:=I1 (CV (p:=p) (d:=d) (b:=b) (by simpa using h)).1;exact ⟨h1,EZ h1⟩
theorem IN (p:List I) (i:Int) (r f:List I) (x:I):∀ (k n:Nat) (t y:List I),gZ p i r f x k n t = .inr y→y=badp
  | 0,n,t,y,h=>by cases h
  | k+1,n,t,y,h=>by
    unfold gZ at h
    revert h
    cases decide (((n:Nat):Int)<(((aN p (aF p)).length:Nat):Int))
    · intro h;cases h
    simp only [cond_true];intro h;rw [Bool.cond_eq_ite] at h
    revert h
    split
    · intro h;cases h;exact DK
    exact fun h=>IN p i r f x k _ _ y h
theorem IM (p:List I):∀ (k:Nat) (i:Int) (r f y:List I),eY p k i r f = .inr y→y=badp
  | 0,i,r,f,y,h=>by cases h
  | k+1,i,r,f,y,h=>by
    unfold eY at h
    revert h
    cases decide (0≤i)
    · intro h;cases h
    simp only [cond_true];generalize hx:gZ p i r f _ _ 0 r=X
    cases X with
    | inl s=>exact fun h=>IM p k _ _ _ y h
    | inr z=>intro h;cases h;exact IN p i r f _ _ _ _ _ hx
theorem vL (p:List I):(aV p).length≤25:=by
  unfold aV;refine o0 nB (o0 (Nat.zero_le _) ?_);generalize hx:eY p _ _ _ _=X
  cases X with
  | inl s=>exact o0 (mB _) (qG _ _ _)
  | inr z=>rw [show z=badp from IM p _ _ _ _ _ hx];exact nB
end Go.Num
