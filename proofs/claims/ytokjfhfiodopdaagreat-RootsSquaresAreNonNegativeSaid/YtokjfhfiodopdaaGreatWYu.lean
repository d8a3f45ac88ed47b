/- Lemmas: what they ask stands in their statements. -/
import Derived.Test.YtokjfhfiodopdaaGreatWYm
set_option linter.unusedSimpArgs false
set_option linter.unusedVariables false
namespace Go.Num
open Go Go.Kn
theorem sgW (z:Z):-1≤(Z.signW z).1∧(Z.signW z).1≤1:=by
  show -1≤z.sign∧z.sign≤1
  unfold Z.sign
  cases z.o with
  | none=>exact ⟨by decide,by decide⟩
  | some v =>
    show -1≤v.sign∧v.sign≤1
    rcases Int.lt_trichotomy v 0 with h | h | h
    · rw [Int.sign_eq_neg_one_of_neg h];decide
    · subst h;decide
    rw [Int.sign_eq_one_of_pos h];decide
def pw (d:I):Nat→I
  | 0=>E (Z.of 1)
  | k+1=>E (Z.mul (pw d k).dec d.dec)
theorem Q4 (n:Nat) (f:Nat→I):(List.range (n+1)).map f=(List.range n).map f ++ [f n]:=by rw [List.range_succ,List.map_append];rfl
theorem IX (d:I) (n:Int):∀ (k m:Nat),n.toNat - (m+1)<k→iI d n k ((List.range (m+1)).map (pw d))=(List.range (max n.toNat (m+1))).map (pw d)
  | 0,m,h=>absurd h (Nat.not_lt_zero _)
  | k+1,m,h=>by
    unfold iI
    have hl:((List.range (m+1)).map (pw d)).length=m+1:=by simp
    by_cases hc:((m+1:Nat):Int)<n
    · rw [hl,decide_eq_true hc,cond_true]
      have e1:((List.range (m+1)).map (pw d)).getD (m+1 - 1) I0=pw d m:=by simp [List.getD]
      rw [e1,show E (Z.mul (pw d m).dec d.dec)=pw d (m+1) from rfl,← Q4,IX d n k (m+1) oo_];rw [show max n.toNat (m+1+1)=max n.toNat (m+1) by omega]
    rw [hl,decide_eq_false hc,cond_false,show max n.toNat (m+1)=m+1 by omega]
theorem UZ (d:I) (n:Int):dP d n=(List.range (max n.toNat 1)).map (pw d):=IX d n _ 0 oo_
theorem uN (d:I) (n:Int) {k:Nat} (h:k<max n.toNat 1):(dP d n).getD k I0=pw d k:=by
  rw [UZ];simp [List.getD,h]
theorem R5 (x:Rt):jF [x]=cG x:=by
  unfold jF oF n4
  have e:j8 [x] (fun y=>jX y) ([x].length+1) 0=bif cG x then .inl 1 else .inr (W.cv 0):=by
    show (bif jX x then _ else _)=_
    unfold jX
    cases cG x <;> rfl
  rw [e]
  cases cG x <;> rfl
def frE (g r:List I) (i:Nat) (c:Z) (j:Nat):I:=E (Z.sub (r.getD j I0).dec (Z.mul c (eA g ((j:Int) - (i:Int))).dec))
theorem KQ (p:List I) (i:Int) (r f:List I) (x:I) {g:List I} (hg:aN p (aF p)=g) {n:Nat} (hi:i=(n:Int)):∀ (fu k:Nat) (t:List I),g.length - k<fu→k≤g.length→t.length=r.length→n+g.length≤r.length→(∀ j,n+k≤j→t.getD j I0=r.getD j I0) →
    (∃ t' k',gZ p i r f x fu k t = .inl (k',t')∧t'.length=r.length∧(∀ j,t'.getD j I0=if n+k≤j∧j<n+g.length then frE g r n ((f.set i.toNat x).getD i.toNat I0).dec j else t.getD j I0)∧∀ j,n+k≤j→j<n+g.length→(frE g r n ((f.set i.toNat x).getD i.toNat I0).dec j).1.bad=false)
    ∨ (gZ p i r f x fu k t = .inr badp∧∃ j,n+k≤j∧j<n+g.length∧(frE g r n ((f.set i.toNat x).getD i.toNat I0).dec j).1.bad=true)
  | 0,k,t,h,_,_,_,_=>absurd h (Nat.not_lt_zero _)
  | fu+1,k,t,h,hk,hl,hm,ht=>by
    unfold gZ;rw [hg]
    have hn:i.toNat=n:=by omega
    generalize hc:((f.set i.toNat x).getD i.toNat I0).dec=c at *;rw [hn] at hc ⊢
    by_cases h1:k<g.length
    · rw [decide_eq_true oo_,cond_true]
      have hv:E (Z.sub (t.getD (n+k) I0).dec (E (Z.mul c (g.getD k I0).dec)).dec)=frE g r n c (n+k):=by
        unfold frE;rw [ht (n+k) (Nat.le_refl _),bZ,show ((n+k:Nat):Int) - (n:Int)=((k:Nat):Int) by omega,yI]
      simp only;rw [hv,kU _ _ _ oo_]
      cases hb:(frE g r n c (n+k)).1.bad
      · rw [cond_false]
        rcases KQ p i r f x hg hi fu (k+1) (t.set (n+k) (frE g r n c (n+k))) oo_ oo_ (by rw [List.length_set];exact hl) hm (fun j hj=>by rw [pD _ _ _ _ oo_];exact ht j oo_) with ⟨t',k',e1,e2,e3,e4⟩ | ⟨e1,j,j1,j2,j3⟩
        · rw [hn,hc] at e3 e4
          refine .inl ⟨t',k',e1,e2,fun j=>?_,fun j j1 j2=>?_⟩
          · rw [e3 j]
            by_cases hj:j=n+k
            · subst hj
              rw [if_neg oo_,if_pos oo_,kU _ _ _ oo_]
            rw [pD _ _ _ _ hj]
            by_cases hj2:n+(k+1)≤j∧j<n+g.length
            · rw [if_pos hj2,if_pos oo_]
            rw [if_neg hj2,if_neg oo_]
          by_cases hj:j=n+k
          · subst hj;exact hb
          exact e4 j oo_ j2
        rw [hn,hc] at j3;exact .inr ⟨e1,j,by omega,j2,j3⟩
      exact .inr ⟨rfl,n+k,Nat.le_refl _,by omega,hb⟩
    rw [decide_eq_false oo_,cond_false];exact .inl ⟨t,k,rfl,hl,fun j=>by rw [if_neg oo_],fun j j1 j2=>absurd j2 oo_⟩
def AL (l:List (List I)):Prop:=∀ x∈l,x.length≤25
theorem E3:AL []:=fun x hx=>by cases hx
theorem JN {l:List (List I)} {x:List I} (h:AL l) (hx:x.length≤25):AL (l ++ [x]):=fun y hy=>by
  rcases List.mem_append.1 hy with hy | hy
  · exact h y hy
  rw [List.mem_singleton.1 hy];exact hx
theorem PM {x:List I} (hx:x.length≤25):AL [x]:=JN E3 hx
theorem VO {l:List (List I)} {k:Nat} {x:List I} (h:AL l) (hx:l[k]? = some x):x.length≤25:=h x (List.mem_of_getElem? hx)
theorem SB {l:List (List I)} {k:Nat} (h:AL l):(l.getD k []).length≤25:=by
  rw [List.getD_eq_getElem?_getD]
  cases hk:l[k]? with
  | none=>exact Nat.zero_le _
  | some x=>exact VO h hk
theorem XR {b:List I} (h:b.length≤25):gmP b≤50:=by
  unfold gmP
  cases b.all gdI
  · rw [cond_false];omega
  rw [cond_true];omega
theorem zL (out:List (List I)) (next:List I):(out ++ [next]).getD ((out ++ [next]).length - 1) []=next:=by
  simp [List.getD_eq_getElem?_getD]
theorem I8 {p:List I} {n:I} (hp:p.length≤1000) (h:(bV p n).all gdI=true):p.all gdI=true∧(bV p n).length≤p.length:=by
  unfold bV at h ⊢
  cases hc:nV n
  · rw [hc,cond_false,DK,eW] at h;cases h
  rw [hc,cond_true] at h;rw [cond_true];rw [rH _ hp dd_] at h ⊢;simp only [List.length_nil,Nat.max_zero,List.all_nil,Bool.and_true] at h ⊢
  cases hg:p.all gdI
  · rw [hg,cond_false,eW] at h;cases h
  rw [hg] at h;simp only [cond_true] at h ⊢;rw [F9 h];refine ⟨trivial,Nat.le_trans (uY _) ?_⟩
  simp
theorem GQ (a b:List I) (hb:b.length≤1000) (h:b.all gdI=false):bD a b=badp:=by
  unfold bD;rw [mN hb,h,show ((aT a)||((!false)||((((b).length:Nat):Int)==0)))=true by simp,cond_true,DK]
theorem ZZ {a b:List I} {n:I} (hb:b.length≤25) (hg:(aC (bV (bD a b) n)).all gdI=true):bD a b=badp∨(aC (bV (bD a b) n)).length<b.length:=by
  have h1:=n8 a b;have h2:=uM (bD a b) n;obtain ⟨h3,h4⟩:=uO oo_ hg;obtain ⟨h5,h6⟩:=I8 oo_ h3
  by_cases h0:b.length=0
  · left
    unfold bD;rw [show ((aT a)||((aT b)||((((b).length:Nat):Int)==0)))=true by simp [h0],cond_true,DK]
  rcases DA a b oo_ with h7 | h7
  · exact .inl h7
  exact .inr oo_
theorem MF {a b:List I} {n:I} (hb:b.length≤25) (hg:(aC (bV (bD a b) n)).all gdI=true):b.all gdI=true∧(aC (bV (bD a b) n)).length<b.length:=by
  have h1:=n8 a b;have h2:=uM (bD a b) n;obtain ⟨h3,h4⟩:=uO oo_ hg;obtain ⟨h5,h6⟩:=I8 oo_ h3
  have hg2:b.all gdI=true:=by
    cases hb2:b.all gdI
    · have:bD a b=badp:=GQ a b oo_ hb2
      rw [this,eW] at h5;cases h5
    rfl
  refine ⟨hg2,?_⟩;rcases ZZ hb hg with h | h
  · rw [h,eW] at h5;cases h5
  exact h
theorem ZX {out:List (List I)} {next a:List I} (h:(out.length+gmP next≤60∧1≤out.length)∧next.length≤25∧AL out) (h0:decide (0<((next.length:Nat):Int))=true)
    (hb:aT (aC (bV (bD a ((out ++ [next]).getD ((out ++ [next]).length - 1) [])) (E (Z.of (-1)))))=false) :
    gmP (aC (bV (bD a ((out ++ [next]).getD ((out ++ [next]).length - 1) [])) (E (Z.of (-1)))))<gmP next:=by
  rw [zL] at hb ⊢;have hl:=cL (bV (bD a next) (E (Z.of (-1))));rw [mN oo_] at hb
  have hg:(aC (bV (bD a next) (E (Z.of (-1))))).all gdI=true:=by simpa using hb
  obtain ⟨h1,h2⟩:=MF h.2.1 hg;unfold gmP;rw [hg,h1,cond_true,cond_true];omega
theorem bF_ {out:List (List I)} {next a:List I} (h:(out.length+gmP next≤60∧1≤out.length)∧next.length≤25∧AL out) (h0:decide (0<((next.length:Nat):Int))=true)
    (hb:aT (aC (bV (bD a ((out ++ [next]).getD ((out ++ [next]).length - 1) [])) (E (Z.of (-1)))))=false) :
    ((out ++ [next]).length+gmP (aC (bV (bD a ((out ++ [next]).getD ((out ++ [next]).length - 1) [])) (E (Z.of (-1)))))≤60∧1≤(out ++ [next]).length)∧(aC (bV (bD a ((out ++ [next]).getD ((out ++ [next]).length - 1) [])) (E (Z.of (-1))))).length≤25∧AL (out ++ [next]):=by
  have h1:=ZX h h0 hb
  have h2:(out ++ [next]).length=out.length+1:=by simp
  exact ⟨⟨by omega,by omega⟩,cL _,JN h.2.2 h.2.1⟩
theorem Z0 {f next:List I} (hf:f.length≤25) (hn:next.length≤25):(([f]:List (List I)).length+gmP next≤60∧1≤([f]:List (List I)).length)∧next.length≤25∧AL [f] :=
  ⟨⟨by have:=XR hn;simp only [List.length_singleton];omega,Nat.le_refl _⟩,hn,PM hf⟩
theorem XC (p q:List I) (f:I→I→I):Rgt (eJ p q f):=by
  unfold eJ
  cases (aT p||aT q)
  · rw [cond_false,oH];exact BV _
  exact .inl rfl
theorem LF (p q:List I) (hp:p.length≤1000) (hq:q.length≤1000):Rgt (aN p q):=by
  unfold aN
  cases h:cS p q (gmP (aC q)+1) (aC p) (aC q) with
  | inr y=>rw [KR p q _ _ _ _ h];exact .inl rfl
  | inl s =>
    have hr:=SA p q _ _ _ s (tI p hp) (tI q hq) h
    show Rgt (bif _ then _ else _)
    rw [Bool.cond_eq_ite]
    split
    · exact hr
    exact XC _ _ _
theorem GZ (p:List I):∀ (k:Nat) (out:List (List I)) (next:List I),AL out→next.length≤25→(∀ s,cV p k out next = .inl s→AL s.1)∧∀ r,cV p k out next = .inr r→r.1=[]
  | 0,out,next,ho,hn=>⟨fun s h=>(by cases h;exact ho),fun r h=>(by cases h)⟩
  | k+1,out,next,ho,hn=>by
    unfold cV
    cases h0:decide (0<((next.length:Nat):Int))
    · exact ⟨fun s h=>(by cases h;exact ho),fun r h=>(by cases h)⟩
    rw [cond_true]
    cases hb:aT (aC (bV (bD ((out ++ [next]).getD (((out ++ [next])).length - 2) []) ((out ++ [next]).getD (((out ++ [next])).length - 1) [])) (E (Z.of (-1)))))
    · rw [cond_false];exact GZ p k _ _ (JN ho hn) (cL _)
    exact ⟨fun s h=>(by cases h),fun r h=>(by cases h;rfl)⟩
theorem G0 (p:List I) (out:List (List I)) (next:List I):∀ (l:List (List I)) (r:List (List I)×Bool),dE p out next l = .inr r→r.1=[]
  | [],r,h=>by cases h
  | x :: l,r,h=>by
    unfold dE at h
    cases hb:aT x
    · rw [hb,cond_false] at h;exact G0 p out next l r h
    rw [hb,cond_true] at h;cases h;rfl
theorem lK (p:List I):AL (aI p).1:=by
  unfold aI;have h0:=GZ p (gmP (aC (aF (aV p)))+1) [aV p] (aC (aF (aV p))) (PM (vL p)) (cL _)
  cases h1:cV p (gmP (aC (aF (aV p)))+1) [aV p] (aC (aF (aV p))) with
  | inr r =>
    show AL r.1
    rw [h0.2 r h1];exact E3
  | inl s =>
    show AL (sm (fun (_:Unit)=>(s.1,true)) (fun r=>r) (dE p s.1 s.2 s.1)).1
    cases h2:dE p s.1 s.2 s.1 with
    | inr r =>
      show AL r.1
      rw [G0 _ _ _ _ r h2];exact E3
    | inl u=>exact h0.1 s h1
def d8 (c:(List (List I))) (x:Rt):List (List I)→W→W→(W×W) ⊕ (W×Bool)
  | [],mb5,mb4=>.inl (mb5,mb4)
  | x0 :: l0,mb5,mb4=>bif (aG x0 x).2 then (bif (((aG x0 x).1).1 != 0) then (bif (((aG x0 x).1).1==(-2)) then (.inr (((wl 0),false))) else (bif ((mb5.1 != 0)&&(((aG x0 x).1).1 != mb5.1)) then ((d8 c x l0 ((aG x0 x).1) (W.add mb4 (wl 1)))) else ((d8 c x l0 ((aG x0 x).1) mb4)))) else ((d8 c x l0 mb5 mb4))) else (.inr (((wl 0),false)))
def cH (c:(List (List I))) (x:Rt):W×Bool :=
  sm (fun (s:W×W)=>let mb5:W:=s.1
  let mb4:W:=s.2
  (mb4,true)) (fun r=>r) (d8 c x c (wl 0) (wl 0))
def aH (c:(List (List I))) (a:Rt) (b:Rt):W×Bool :=
  ((W.sub ((cH c a).1) ((cH c b).1)),((cH c a).2&&(cH c b).2))
def dF (p:(List I)) (a:Rt) (b:Rt):W×W :=
  bif ((aT p)||(((((p).length:Nat):Int)==0)||(!(kJ a b)))) then (((wl 0),(wl 1))) else (bif (aI p).2 then (bif (aH ((aI p).1) a b).2 then (((aH ((aI p).1) a b).1,(wl 0))) else (((wl 0),(wl 30)))) else (((wl 0),(wl 30))))
def cE (p:(List I)) (x:Iv):(List (List I))×W :=
  bif (((dF p x.lo x.hi).2).1 != 0) then ((([]:List (List I)),(dF p x.lo x.hi).2)) else (bif (((dF p x.lo x.hi).1).1 != 1) then ((([]:List (List I)),(wl 1))) else (((aI p).1,(wl 0))))
def gP (c:(List (List I))) (x:Iv):Iv×Bool :=
  bif (!((aH c x.lo (aE x.lo x.hi)).2)||((aE x.lo x.hi).n).1.bad) then ((x,false)) else (bif (((aH c x.lo (aE x.lo x.hi)).1).1==1) then (((⟨x.lo,(aE x.lo x.hi)⟩:Iv),true)) else (((⟨(aE x.lo x.hi),x.hi⟩:Iv),true)))
theorem vD (p:List I) (x:Iv):AL (cE p x).1:=by
  unfold cE;generalize dF p x.lo x.hi=C;have hs:=lK p;generalize (aI p).1=L at hs ⊢
  cases (C.2.1 != 0)
  · cases (C.1.1 != 1)
    · exact hs
    exact E3
  exact E3
def i9 (x:Rt):Bool :=
  ((aP x)&&(decide ((Z.bitsW x.n.dec).1≤12)&&decide ((Z.bitsW x.d.dec).1≤12)))
def cK (p:(List I)) (a:Rt) (b:Rt) (k:W):Bool :=
  ((bU p 3 32)&&((i9 a)&&((i9 b)&&decide (k.1≤16))))
def iM (a:(List Iv)) (b:(List Iv)):Nat→Nat→(Nat) ⊕ (Bool)
  | 0,k=>.inl k
  | k0+1,k=>bif decide (((k:Nat):Int)<(((a).length:Nat):Int)) then (bif (decide ((((a.getD k Iv0).lo).n)=(((b.getD k Iv0).lo).n))&&(decide ((((a.getD k Iv0).lo).d)=(((b.getD k Iv0).lo).d))&&(decide ((((a.getD k Iv0).hi).n)=(((b.getD k Iv0).hi).n))&&decide ((((a.getD k Iv0).hi).d)=(((b.getD k Iv0).hi).d))))) then ((iM a b k0 (k+1))) else (.inr (false))) else (.inl k)
def i3 (a:(List Iv)) (b:(List Iv)):Bool :=
  bif ((((a).length:Nat):Int) != (((b).length:Nat):Int)) then (false) else (sm (fun (s:Nat)=>let k:Nat:=s
  true) (fun r=>r) (iM a b ((a.length+1)) 0))
class Rg (α:Type) [Add α] [Mul α] [OfNat α 0]:Prop where
  aa:∀ a b c:α,a+b+c=a+(b+c)
  ac:∀ a b:α,a+b=b+a
  a0:∀ a:α,a+0=a
  ma:∀ a b c:α,a * b * c=a * (b * c)
  mc:∀ a b:α,a * b=b * a
  md:∀ a b c:α,a * (b+c)=a * b+a * c
  m0:∀ a:α,a * 0=0
instance:Rg Int:=⟨Int.add_assoc,Int.add_comm,Int.add_zero,Int.mul_assoc,Int.mul_comm,Int.mul_add,Int.mul_zero⟩
instance:Rg Rat:=⟨Rat.add_assoc,Rat.add_comm,Rat.add_zero,Rat.mul_assoc,Rat.mul_comm,Rat.mul_add,Rat.mul_zero⟩
theorem Rg.za {α:Type} [Add α] [Mul α] [OfNat α 0] [Rg α] (a:α):0+a=a:=by rw [Rg.ac,Rg.a0]
theorem Rg.zm {α:Type} [Add α] [Mul α] [OfNat α 0] [Rg α] (a:α):0 * a=0:=by rw [Rg.mc,Rg.m0]
def iF {α:Type} [Add α] [OfNat α 0] (f:Nat→α):Nat→α
  | 0=>0
  | n+1=>iF f n+f n
theorem iE {α:Type} [Add α] [OfNat α 0] {f g:Nat→α}:∀ {n:Nat},(∀ i,i<n→f i=g i)→iF f n=iF g n
  | 0,_=>rfl
  | n+1,h=>by simp only [iF];rw [iE fun i hi=>h i (by omega),h n (by omega)]
theorem kG {α:Type} [Add α] [Mul α] [OfNat α 0] [Rg α] {f:Nat→α}:∀ {n:Nat},(∀ i,i<n→f i=0)→iF f n=0
  | 0,_=>rfl
  | n+1,h=>by simp only [iF];rw [kG fun i hi=>h i (by omega),h n (by omega),Rg.a0]
theorem y7 {α:Type} [Add α] [Mul α] [OfNat α 0] [Rg α] (f g:Nat→α):∀ n:Nat,iF (fun i=>f i+g i) n=iF f n+iF g n
  | 0=>(Rg.a0 _).symm
  | n+1=>by
    simp only [iF];rw [y7 f g n,Rg.aa,Rg.aa,← Rg.aa (iF g n),Rg.ac (iF g n) (f n),Rg.aa]
theorem tO {α:Type} [Add α] [Mul α] [OfNat α 0] [Rg α] (c:α) (f:Nat→α):∀ n:Nat,iF (fun i=>c * f i) n=c * iF f n
  | 0=>(Rg.m0 _).symm
  | n+1=>by simp only [iF];rw [tO c f n,Rg.md]
theorem DI {α:Type} [Add α] [Mul α] [OfNat α 0] [Rg α] (c:α) (f:Nat→α) (n:Nat):iF (fun i=>f i * c) n=iF f n * c:=by
  rw [Rg.mc _ c,← tO];exact iE fun i _=>Rg.mc _ _
theorem xF {α:Type} [Add α] [Mul α] [OfNat α 0] [Rg α] (f:Nat→α):∀ n:Nat,iF f (n+1)=f 0+iF (fun i=>f (i+1)) n
  | 0=>by simp only [iF];rw [Rg.ac]
  | n+1=>by rw [iF,xF f n,Rg.aa];rfl
theorem PA {α:Type} [Add α] [Mul α] [OfNat α 0] [Rg α] (f:Nat→α):∀ n:Nat,iF f n=iF (fun i=>f (n - 1 - i)) n
  | 0=>rfl
  | n+1=>by
    rw [xF (fun i=>f (n+1 - 1 - i)),iF,Rg.ac,PA f n];rw [show n+1 - 1 - 0=n by omega]
    congr 1
    exact iE fun i hi=>congrArg f (by omega)
theorem pT {α:Type} [Add α] [Mul α] [OfNat α 0] [Rg α] {f:Nat→α} {n:Nat} (h:∀ i,n≤i→f i=0):∀ m:Nat,n≤m→iF f m=iF f n
  | 0,hm=>by rw [show n=0 by omega]
  | m+1,hm=>by
    rcases Nat.lt_or_ge n (m+1) with g | g
    · rw [iF,h m (by omega),Rg.a0,pT h m (by omega)]
    rw [show n=m+1 by omega]
theorem G4 {α:Type} [Add α] [Mul α] [OfNat α 0] [Rg α] {f:Nat→α} {a:Nat} (h:∀ i,i≠a→f i=0) {n:Nat} (hn:a<n):iF f n=f a:=by
  rw [pT (n:=a+1) (fun i hi=>h i (by omega)) n hn,iF,kG fun i hi=>h i (by omega),Rg.za]
theorem G5 {α:Type} [Add α] [Mul α] [OfNat α 0] [Rg α] (f:Nat→Nat→α):∀ n:Nat,iF (fun k=>iF (fun i=>f i (k - i)) (k+1)) n=iF (fun i=>iF (fun j=>f i j) (n - i)) n
  | 0=>rfl
  | n+1=>by
    rw [iF,G5 f n]
    rw [iE (f:=fun i=>iF (fun j=>f i j) (n+1 - i)) (g:=fun i=>iF (fun j=>f i j) (n - i)+f i (n - i)) (fun i hi=>by
      rw [show n+1 - i=n - i+1 by omega];rfl)]
    rw [y7]
    congr 1
    rw [iF,Nat.sub_self,iF,Rg.a0]
def conv {α:Type} [Add α] [Mul α] [OfNat α 0] (c d:Nat→α) (k:Nat):α:=iF (fun i=>c i * d (k - i)) (k+1)
theorem sK {α:Type} [Add α] [Mul α] [OfNat α 0] [Rg α] (c d:Nat→α):conv c d=conv d c:=by
  funext k
  unfold conv;rw [PA];refine iE fun i hi=>?_;rw [Rg.mc,show k - (k+1 - 1 - i)=i by omega,show k+1 - 1 - i=k - i by omega]
theorem BJ {α:Type} [Add α] [Mul α] [OfNat α 0] [Rg α] (c d e:Nat→α):conv c (fun i=>d i+e i)=fun k=>conv c d k+conv c e k:=by
  funext k
  unfold conv;rw [← y7];exact iE fun i _=>Rg.md _ _ _
theorem WY {α:Type} [Add α] [Mul α] [OfNat α 0] [Rg α] (a:α) (c d:Nat→α):conv (fun i=>a * c i) d=fun k=>a * conv c d k:=by
  funext k
  unfold conv;rw [← tO];exact iE fun i _=>Rg.ma _ _ _
theorem rP {α:Type} [Add α] [Mul α] [OfNat α 0] [Rg α] (a:α) (c d:Nat→α):conv c (fun i=>a * d i)=fun k=>a * conv c d k:=by
  rw [sK,WY,sK]
theorem FH {α:Type} [Add α] [Mul α] [OfNat α 0] [Rg α] (c d e:Nat→α):conv (conv c d) e=conv c (conv d e):=by
  funext k
  unfold conv;have h:=G5 (fun j m=>c j * (d m * e (k - j - m))) (k+1);refine Eq.trans (iE fun i hi=>?_) (h.trans (iE fun i hi=>?_))
  · rw [← DI]
    refine iE fun j hj=>?_;rw [Rg.ma,show k - j - (i - j)=k - i by omega]
  rw [tO,show k+1 - i=k - i+1 by omega]
theorem mE {α:Type} [Add α] [Mul α] [OfNat α 0] [Rg α] {c d:Nat→α} {n m:Nat} (hc:∀ i,n≤i→c i=0) (hd:∀ i,m≤i→d i=0) (k:Nat) (hk:n+m≤k+1):conv c d k=0:=by
  refine kG fun i hi=>?_;rcases Nat.lt_or_ge i n with h | h
  · rw [hd _ (by omega),Rg.m0]
  rw [hc _ h,Rg.zm]
theorem oI {α:Type} [Add α] [Mul α] [OfNat α 0] [Rg α] {c d:Nat→α} {n m:Nat} (hc:∀ i,n<i→c i=0) (hd:∀ i,m<i→d i=0):conv c d (n+m)=c n * d m:=by
  unfold conv;rw [G4 (a:=n) (fun i hi=>?_) (by omega),show n+m - n=m by omega];rcases Nat.lt_or_ge n i with h | h
  · rw [hc _ h,Rg.zm]
  rw [hd _ (by omega),Rg.m0]
def cR (c:Nat→Int) (i:Nat):Rat:=(c i:Rat)
theorem G6 (f:Nat→Int):∀ n:Nat,((iF f n:Int):Rat)=iF (fun i=>(f i:Rat)) n
  | 0=>rfl
  | n+1=>by simp only [iF];rw [Rat.intCast_add,G6 f n]
theorem CR (c d:Nat→Int):cR (conv c d)=conv (cR c) (cR d):=by
  funext k
  unfold cR conv;rw [G6];exact iE fun i _=>Rat.intCast_mul ..
theorem zO (q:Rat):q * ((q.den:Int):Rat)=((q.num:Int):Rat):=by
  have h:=Rat.num_divInt_den q;rw [Rat.divInt_eq_div,Rat.div_def] at h;have h0:(((q.den:Nat):Int):Rat)≠0:=fun h=>q.den_nz (by have:=Rat.intCast_eq_zero_iff.1 h;omega)
  have e:(((q.num:Int):Rat) * (((q.den:Nat):Int):Rat)⁻¹) * (((q.den:Nat):Int):Rat)=((q.num:Int):Rat):=by rw [Rat.mul_assoc,Rat.inv_mul_cancel _ h0,Rat.mul_one]
  rw [h] at e;exact e
theorem I0_E:I0=E (Z.of 0):=rfl
theorem vI0:vI I0=0:=ad_ B0
theorem MG {u v:Int} (hu:cZ u) (hv:cZ v):Z.sub (Z.of u) (Z.of v)=Z.of (u - v):=by
  rw [Z.sub,QL hv,CN hu (show (-v).natAbs<_ by rw [Int.natAbs_neg];exact hv),Int.sub_eq_add_neg]
theorem RP {u:Int} (hu:cZ u):Z.abs (Z.of u)=Z.of (u.natAbs:Nat):=by rw [Z.abs,kY (Z.of_some hu)]
structure Po (p:List I) (c:Nat→Int):Prop where
  g:p.all gdI=true
  s:jW p=p
  l:p.length≤25
  c:∀ k,vI (p.getD k I0)=c k
section
variable {p q:List I} {c d:Nat→Int}
theorem Po.rgt (h:Po p c):Rgt p:=.inr ⟨h.g,h.s,h.l⟩
theorem A7 (h:Rgt p) (hg:p.all gdI=true):Po p (fun k=>vI (p.getD k I0)):=by
  rcases h with rfl | h
  · rw [eW] at hg;cases hg
  exact ⟨h.1,h.2.1,h.2.2,fun _=>rfl⟩
theorem SC (h:p.all gdI=true) (k:Nat):gdI (p.getD k I0)=true:=by
  by_cases hk:k<p.length
  · rw [show p.getD k I0=p[k] by simp [List.getD,hk]]
    exact List.all_eq_true.1 h _ (List.getElem_mem hk)
  rw [nC oo_];exact NZ B0
theorem Po.get (h:Po p c) (k:Nat):p.getD k I0=E (Z.of (c k)):=by rw [← h.c k];exact (AC (SC h.g k)).1
theorem Po.B (h:Po p c) (k:Nat):cZ (c k):=by rw [← h.c k];exact (AC (SC h.g k)).2
theorem Po.zero (h:Po p c) {k:Nat} (hk:p.length≤k):c k=0:=by rw [← h.c k,nC hk,vI0]
theorem Po.last (h:Po p c) {n:Nat} (hn:p.length=n+1):c n≠0:=by
  rcases pG p with rfl | ⟨m,x,rfl⟩
  · cases hn
  have h1:=BA h.s
  have h2:n=m.length:=by simp at hn;omega
  have h3:=h.get n;rw [show (m ++ [x]).getD n I0=x by simp [h2]] at h3;rw [h3,am_ (h.B n)] at h1;exact of_decide_eq_false h1
theorem Po.short (h:Po p c) {n:Nat} (hz:∀ k,n≤k→c k=0):p.length≤n:=by
  rcases Nat.lt_or_ge n p.length with g | g
  · exact absurd (hz (p.length - 1) oo_) (h.last oo_)
  exact g
theorem Po.eq (h:Po p c) (g:Po q c):p=q:=by
  have e:p.length=q.length:=Nat.le_antisymm (h.short fun k hk=>g.zero hk) (g.short fun k hk=>h.zero hk);refine List.ext_getElem e fun k h1 h2=>?_;have a:=h.get k;rw [← g.get k] at a
  simpa [List.getD,h1,h2] using a
theorem Po.cast (h:Po p c) (e:∀ k,c k=d k):Po p d:=⟨h.g,h.s,h.l,fun k=>(h.c k).trans (e k)⟩
theorem CL:Po [] (fun _=>0):=⟨rfl,rfl,by decide,fun k=>by rw [show ([]:List I).getD k I0=I0 by simp];exact vI0⟩
theorem Po.nil (h:Po p c) (hz:∀ k,c k=0):p=[]:=(h.cast hz).eq CL
theorem CE:∀ (n:Nat) (l:List I),l.length≤n→∀ k,(jW l).length≤k→zrI (l.getD k I0)=true
  | 0,l,h,k,_=>by
    rw [nC oo_];exact zr0
  | n+1,l,h,k,hk=>by
    rcases pG l with rfl | ⟨m,x,rfl⟩
    · rw [show ([]:List I).getD k I0=I0 by simp];exact zr0
    rw [pH] at hk
    cases hx:zrI x
    · rw [hx,cond_false] at hk
      rw [nC hk];exact zr0
    rw [hx,cond_true] at hk;rcases Nat.lt_trichotomy k m.length with g | g | g
    · rw [show (m ++ [x]).getD k I0=m.getD k I0 by simp [List.getD,List.getElem?_append_left g]]
      exact CE n m (by simp at h;omega) k hk
    · rw [show (m ++ [x]).getD k I0=x by simp [g]];exact hx
    rw [nC (by simp;omega)];exact zr0
theorem AW {l:List I} (h:∀ k,l.getD k I0=E (Z.of (c k))) (hB:∀ k,cZ (c k)) (hz:∀ k,25≤k→c k=0):Po (mkP l) c:=by
  have hg:l.all gdI=true:=List.all_eq_true.2 fun x hx=>by
    obtain ⟨k,hk,rfl⟩:=List.getElem_of_mem hx;have e:=h k;rw [show l.getD k I0=l[k] by simp [List.getD,hk]] at e;rw [e];exact NZ (hB k)
  have hl:(jW l).length≤25:=y5 _ l (Nat.le_refl _) fun j hj=>by rw [h j,hz j hj];exact zr0
  have e:mkP l=jW l:=by unfold mkP;rw [hg,cond_true,if_pos hl]
  rw [e];refine ⟨JA hg,G2 l,hl,fun k=>?_⟩
  by_cases hk:k<(jW l).length
  · have e2:(jW l).getD k I0=l.getD k I0:=by
      rw [t8 l];simp only [List.getD,List.getElem?_take,hk,if_true]
    rw [e2,h k,ad_ (hB k)]
  have:=CE _ l (Nat.le_refl _) k oo_;rw [h k,am_ (hB k)] at this;rw [nC oo_,vI0,of_decide_eq_true this]
theorem G7 (f:Nat→I) (n k:Nat):((List.range n).map f).getD k I0=if k<n then f k else I0:=by
  by_cases h:k<n <;> simp [List.getD,h]
theorem ML {f:Nat→I} {n:Nat} (h:∀ k,k<n→f k=E (Z.of (c k))) (h0:∀ k,n≤k→c k=0) (hB:∀ k,cZ (c k)) (hz:∀ k,25≤k→c k=0):Po (mkP ((List.range n).map f)) c:=by
  refine AW (fun k=>?_) hB hz;rw [G7]
  split
  · exact h k ‹_›
  rw [h0 k oo_];rfl
theorem Po.l3 (h:Po p c):p.length≤1000:=Nat.le_trans h.l dd_
theorem Q5 (h:Rgt p):p.length≤1000:=Nat.le_trans (EZ h) dd_
theorem Po.nb (h:Po p c):aT p=false:=by rw [mN h.l3,h.g];rfl
theorem EO {e:Nat→Int} {f:I→I→I} (h:Po p c) (g:Po q d) (hf:∀ k,f (E (Z.of (c k))) (E (Z.of (d k)))=E (Z.of (e k))) (hB:∀ k,cZ (e k)) (h0:∀ k,c k=0→d k=0→e k=0):Po (eJ p q f) e:=by
  rw [rH f h.l3 g.l3,h.g,g.g,Bool.and_true,cond_true];have hl:=h.l;have gl:=g.l;refine ML (fun k _=>?_) (fun k hk=>?_) hB (fun k hk=>?_)
  · rw [h.get,g.get,hf]
  · exact h0 k (h.zero oo_) (g.zero oo_)
  exact h0 k (h.zero oo_) (g.zero oo_)
theorem MX {a:Int} (h:Po p c) (ha:cZ a) (hB:∀ k,cZ (c k * a)):Po (bV p (E (Z.of a))) (fun k=>c k * a):=by
  unfold bV;rw [show nV (E (Z.of a))=true from NZ ha,cond_true];exact EO h CL (fun k=>by unfold nQ;rw [bZ,bZ,oR (h.B k) ha]) hB (fun k h1 _=>by rw [h1,Int.zero_mul])
theorem H4 (h:Po p c) (hB:∀ k,cZ (((k+1:Nat):Int) * c (k+1))):Po (aF p) (fun k=>((k+1:Nat):Int) * c (k+1)):=by
  have hl:=h.l;unfold aF;rw [h.nb,cond_false,oH];refine ML (fun k hk=>?_) (fun k hk=>?_) hB (fun k hk=>?_)
  · unfold kS
    rw [h.get,bZ,oR (show ((k+1:Nat):Int).natAbs<4294967296 ^ 16 from Nat.lt_of_lt_of_le (show _<4294967296 by omega) (Nat.le_self_pow dd_ _)) (h.B _)];rfl
  · rw [h.zero oo_,Int.mul_zero]
  rw [h.zero oo_,Int.mul_zero]
theorem an_ {v:Int} {k:Nat} (m:Nat) (hm:4294967296 ^ 16=2 ^ m) (h:v.natAbs<2 ^ k) (hk:k≤m):cZ v:=by
  unfold cZ;rw [hm];exact Nat.lt_of_lt_of_le h (Nat.pow_le_pow_right dd_ hk)
theorem vJ {v:Int} {k:Nat} (h:v.natAbs<2 ^ k) (hk:k≤512):cZ v:=an_ 512 MO h hk
structure Bd (c:Nat→Int) (n b:Nat):Prop where
  z:∀ k,n≤k→c k=0
  b:∀ k,(c k).natAbs<2 ^ b
variable {n m b b':Nat}
theorem Bd.mono (h:Bd c n b) {n' b1:Nat} (hn:n≤n') (hb:b≤b1):Bd c n' b1:=⟨fun k hk=>h.z k oo_,fun k=>Nat.lt_of_lt_of_le (h.b k) (Nat.pow_le_pow_right dd_ hb)⟩
theorem Bd.B (h:Bd c n b) (hb:b≤512) (k:Nat):cZ (c k):=vJ (h.b k) hb
theorem Bd.add (h:Bd c n b) (g:Bd d m b):Bd (fun k=>c k+d k) (max n m) (b+1) :=
  ⟨fun k hk=>by show c k+d k=0;rw [h.z k oo_,g.z k oo_];rfl,fun k=>by
    show (c k+d k).natAbs<_
    have h1:=h.b k;have h2:=g.b k;have h3:=Int.natAbs_add_le (c k) (d k)
    rw [Nat.pow_succ];omega⟩
theorem yR {u v:Int} (h:u.natAbs<2 ^ b) (g:v.natAbs<2 ^ b'):(u * v).natAbs<2 ^ (b+b'):=by
  rw [Int.natAbs_mul,Nat.pow_add];exact Nat.mul_lt_mul_of_lt_of_le h (Nat.le_of_lt g) (Nat.pow_pos dd_)
theorem MI {f:Nat→Int} {A:Nat} (h:∀ i,(f i).natAbs≤A):∀ t:Nat,(iF f t).natAbs≤t * A
  | 0=>by simp [iF]
  | t+1=>by
    have h1:=MI h t;have h2:=h t;have h3:=Int.natAbs_add_le (iF f t) (f t);rw [Nat.succ_mul];show (iF f t+f t).natAbs≤_;omega
theorem Z2 {f:Nat→Int} {e:Nat} (h:∀ i,(f i).natAbs<2 ^ b) (hz:∀ i,n≤i→f i=0) (hn:n≤2 ^ e) (t:Nat):(iF f t).natAbs<2 ^ (b+e):=by
  have hb:0<2 ^ b:=Nat.pow_pos dd_
  have k1:∀ t,t≤n→(iF f t).natAbs<2 ^ (b+e):=fun t ht=>by
    have h1:=MI (f:=f) (A:=2 ^ b - 1) (fun i=>by have:=h i;omega) t;have h2:t * (2 ^ b - 1)≤2 ^ e * (2 ^ b - 1):=Nat.mul_le_mul_right _ oo_;have h3:2 ^ e * (2 ^ b - 1)<2 ^ e * 2 ^ b:=Nat.mul_lt_mul_of_pos_left oo_ (Nat.pow_pos dd_);rw [Nat.pow_add,Nat.mul_comm (2 ^ b)];omega
  rcases Nat.lt_or_ge n t with g | g
  · rw [pT hz t oo_];exact k1 n (Nat.le_refl _)
  exact k1 t g
theorem ID (h:Bd c n b) (g:Bd d m b') {e:Nat} (hn:n≤2 ^ e) (k t:Nat):(iF (fun i=>c i * d (k - i)) t).natAbs<2 ^ (b+b'+e) :=
  Z2 (n:=n) (fun i=>yR (h.b _) (g.b _)) (fun i hi=>by rw [h.z i hi,Int.zero_mul]) hn t
theorem Bd.conv (h:Bd c n b) (g:Bd d m b') {e:Nat} (hn:n≤2 ^ e):Bd (conv c d) (n+m - 1) (b+b'+e) :=
  ⟨fun k hk=>mE h.z g.z k oo_,fun k=>ID h g hn k (k+1)⟩
theorem Po.len (h:Po p c) (hb:Bd c n b):p.length≤n:=h.short hb.z
theorem KD {v:Int} (hv:cZ v) {b:Int} (h:(Z.bitsW (Z.of v)).1≤b):v.natAbs<2 ^ b.toNat:=by
  have h1:((Z.of v).bits:Int)≤b:=h;unfold Z.bits at h1;rw [Z.of_some hv] at h1;simp only at h1;exact Nat.lt_of_lt_of_le (M8 _) (Nat.pow_le_pow_right dd_ oo_)
theorem NR (p:List I) (a b:Int):∀ (k i:Nat),p.length - i<k→(sm (fun _:Nat=>true) (fun r=>r) (gV p a b k i))=true→∀ j,i≤j→j<p.length→(Z.bitsW (p.getD j I0).dec).1≤b
  | 0,i,h,_,_,_,_=>absurd h (Nat.not_lt_zero _)
  | k+1,i,h,hs,j,hj,hl=>by
    unfold gV at hs;rw [decide_eq_true (show ((i:Nat):Int)<((p.length:Nat):Int) by omega),cond_true] at hs
    by_cases hb:b<(Z.bitsW (p.getD i I0).dec).1
    · rw [decide_eq_true hb] at hs;cases hs
    rw [decide_eq_false hb,cond_false] at hs;rcases Nat.lt_or_ge i j with g | g
    · exact NR p a b k (i+1) oo_ hs j oo_ hl
    rw [show j=i by omega];omega
theorem NQ {a b:Int} (h:bU p a b=true) (hg:p.all gdI=true):∃ c,Po p c∧Bd c (a+1).toNat b.toNat:=by
  have h1:=b4_ (p:=p) (d:=a) (b:=b) (by rw [h];rfl);have h2:=CV h;have hp:=A7 h1.1 hg;refine ⟨_,hp,fun k hk=>hp.zero oo_,fun k=>?_⟩
  by_cases hk:k<p.length
  · unfold bU at h
    rw [h2.1,decide_eq_false oo_] at h;have h3:=NR p a b _ 0 oo_ h k oo_ hk;rw [hp.get k,bZ] at h3;exact KD (hp.B k) h3
  show (vI (p.getD k I0)).natAbs<_
  rw [nC oo_,vI0];exact Nat.pow_pos dd_
theorem RG (hp:p.length≤1000) (hq:q.length≤1000) (h:p.all gdI=false∨q.all gdI=false):gK p q=badp:=by
  unfold gK;rw [rH _ hp hq,show (p.all gdI&&q.all gdI)=false by rcases h with h | h <;> simp [h]];rfl
theorem RJ (hp:p.length≤1000) (hq:q.length≤1000) (h:p.all gdI=false∨q.all gdI=false):dO p q=badp:=by
  unfold dO;rw [mN hp,mN hq,show (!p.all gdI || !q.all gdI)=true by rcases h with h | h <;> simp [h]];rfl
end
end Go.Num
