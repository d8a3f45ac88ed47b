/- Lemmas: what they ask stands in their statements. -/
import Derived.Test.YtokjfhfiodopdaaGreatUYm
set_option linter.unusedSimpArgs false
set_option linter.unusedVariables false
namespace Go.Num
open Go Go.Kn
theorem sgW (z:Z):-1≤(Z.signW z).1∧(Z.signW z).1≤1:=by
  show -1≤z.sign∧z.sign≤1
  unfold Z.sign
  cases z.o with
  | none=>exact ⟨by decide,by decide⟩
  | some v =>
    show -1≤v.sign∧v.sign≤1
    rcases Int.lt_trichotomy v 0 with h | h | h
    · rw [Int.sign_eq_neg_one_of_neg h];decide
    · subst h;decide
    rw [Int.sign_eq_one_of_pos h];decide
def pw (d:I):Nat→I
  | 0=>E (Z.of 1)
  | k+1=>E (Z.mul (pw d k).dec d.dec)
theorem SS (n:Nat) (f:Nat→I):(List.range (n+1)).map f=(List.range n).map f ++ [f n]:=by rw [List.range_succ,List.map_append];rfl
theorem LH (d:I) (n:Int):∀ (k m:Nat),n.toNat - (m+1)<k→i8 d n k ((List.range (m+1)).map (pw d))=(List.range (max n.toNat (m+1))).map (pw d)
  | 0,m,h=>absurd h (Nat.not_lt_zero _)
  | k+1,m,h=>by
    unfold i8
    have hl:((List.range (m+1)).map (pw d)).length=m+1:=by simp
    by_cases hc:((m+1:Nat):Int)<n
    · rw [hl,decide_eq_true hc,cond_true]
      have e1:((List.range (m+1)).map (pw d)).getD (m+1 - 1) I0=pw d m:=by simp [List.getD]
      rw [e1,show E (Z.mul (pw d m).dec d.dec)=pw d (m+1) from rfl,← SS,LH d n k (m+1) oo_];rw [show max n.toNat (m+1+1)=max n.toNat (m+1) by omega]
    rw [hl,decide_eq_false hc,cond_false,show max n.toNat (m+1)=m+1 by omega]
theorem WO (d:I) (n:Int):eD d n=(List.range (max n.toNat 1)).map (pw d):=LH d n _ 0 oo_
theorem yZ (d:I) (n:Int) {k:Nat} (h:k<max n.toNat 1):(eD d n).getD k I0=pw d k:=by
  rw [WO];simp [List.getD,h]
theorem TX (x:Rt):lY [x]=dS x:=by
  unfold lY rT qO
  have e:mE [x] (fun y=>oJ y) ([x].length+1) 0=bif dS x then .inl 1 else .inr (W.cv 0):=by
    show (bif oJ x then _ else _)=_
    unfold oJ
    cases dS x <;> rfl
  rw [e]
  cases dS x <;> rfl
def frE (g r:List I) (i:Nat) (c:Z) (j:Nat):I:=E (Z.sub (r.getD j I0).dec (Z.mul c (eV g ((j:Int) - (i:Int))).dec))
theorem GP (p:List I) (i:Int) (r f:List I) (x:I) {g:List I} (hg:aQ p (aE p)=g) {n:Nat} (hi:i=(n:Int)):∀ (fu k:Nat) (t:List I),g.length - k<fu→k≤g.length→t.length=r.length→n+g.length≤r.length→(∀ j,n+k≤j→t.getD j I0=r.getD j I0) →
    (∃ t' k',gQ p i r f x fu k t = .inl (k',t')∧t'.length=r.length∧(∀ j,t'.getD j I0=if n+k≤j∧j<n+g.length then frE g r n ((f.set i.toNat x).getD i.toNat I0).dec j else t.getD j I0)∧∀ j,n+k≤j→j<n+g.length→(frE g r n ((f.set i.toNat x).getD i.toNat I0).dec j).1.bad=false)
    ∨ (gQ p i r f x fu k t = .inr badp∧∃ j,n+k≤j∧j<n+g.length∧(frE g r n ((f.set i.toNat x).getD i.toNat I0).dec j).1.bad=true)
  | 0,k,t,h,_,_,_,_=>absurd h (Nat.not_lt_zero _)
  | fu+1,k,t,h,hk,hl,hm,ht=>by
    unfold gQ;rw [hg]
    have hn:i.toNat=n:=by omega
    generalize hc:((f.set i.toNat x).getD i.toNat I0).dec=c at *;rw [hn] at hc ⊢
    by_cases h1:k<g.length
    · rw [decide_eq_true oo_,cond_true]
      have hv:E (Z.sub (t.getD (n+k) I0).dec (E (Z.mul c (g.getD k I0).dec)).dec)=frE g r n c (n+k):=by
        unfold frE;rw [ht (n+k) (Nat.le_refl _),cZ,show ((n+k:Nat):Int) - (n:Int)=((k:Nat):Int) by omega,EK]
      simp only;rw [hv,kQ _ _ _ oo_]
      cases hb:(frE g r n c (n+k)).1.bad
      · rw [cond_false]
        rcases GP p i r f x hg hi fu (k+1) (t.set (n+k) (frE g r n c (n+k))) oo_ oo_ (by rw [List.length_set];exact hl) hm (fun j hj=>by rw [oF _ _ _ _ oo_];exact ht j oo_) with ⟨t',k',e1,e2,e3,e4⟩ | ⟨e1,j,j1,j2,j3⟩
        · rw [hn,hc] at e3 e4
          refine .inl ⟨t',k',e1,e2,fun j=>?_,fun j j1 j2=>?_⟩
          · rw [e3 j]
            by_cases hj:j=n+k
            · subst hj
              rw [if_neg oo_,if_pos oo_,kQ _ _ _ oo_]
            rw [oF _ _ _ _ hj]
            by_cases hj2:n+(k+1)≤j∧j<n+g.length
            · rw [if_pos hj2,if_pos oo_]
            rw [if_neg hj2,if_neg oo_]
          by_cases hj:j=n+k
          · subst hj;exact hb
          exact e4 j oo_ j2
        rw [hn,hc] at j3;exact .inr ⟨e1,j,by omega,j2,j3⟩
      exact .inr ⟨rfl,n+k,Nat.le_refl _,by omega,hb⟩
    rw [decide_eq_false oo_,cond_false];exact .inl ⟨t,k,rfl,hl,fun j=>by rw [if_neg oo_],fun j j1 j2=>absurd j2 oo_⟩
def AL (l:List (List I)):Prop:=∀ x∈l,x.length≤25
theorem ED:AL []:=fun x hx=>by cases hx
theorem vB {l:List (List I)} {x:List I} (h:AL l) (hx:x.length≤25):AL (l ++ [x]):=fun y hy=>by
  rcases List.mem_append.1 hy with hy | hy
  · exact h y hy
  rw [List.mem_singleton.1 hy];exact hx
theorem EE {x:List I} (hx:x.length≤25):AL [x]:=vB ED hx
theorem XF {l:List (List I)} {k:Nat} {x:List I} (h:AL l) (hx:l[k]? = some x):x.length≤25:=h x (List.mem_of_getElem? hx)
theorem vJ {l:List (List I)} {k:Nat} (h:AL l):(l.getD k []).length≤25:=by
  rw [List.getD_eq_getElem?_getD]
  cases hk:l[k]? with
  | none=>exact Nat.zero_le _
  | some x=>exact XF h hk
theorem R7 {b:List I} (h:b.length≤25):gmP b≤50:=by
  unfold gmP
  cases b.all gdI
  · rw [cond_false];omega
  rw [cond_true];omega
theorem vT (out:List (List I)) (next:List I):(out ++ [next]).getD ((out ++ [next]).length - 1) []=next:=by
  simp [List.getD_eq_getElem?_getD]
theorem LW {p:List I} {n:I} (hp:p.length≤1000) (h:(cH p n).all gdI=true):p.all gdI=true∧(cH p n).length≤p.length:=by
  unfold cH at h ⊢
  cases hc:n7 n
  · rw [hc,cond_false,C3,e7] at h;cases h
  rw [hc,cond_true] at h;rw [cond_true];rw [qS _ hp dd_] at h ⊢;simp only [List.length_nil,Nat.max_zero,List.all_nil,Bool.and_true] at h ⊢
  cases hg:p.all gdI
  · rw [hg,cond_false,e7] at h;cases h
  rw [hg] at h;simp only [cond_true] at h ⊢;rw [H9 h];refine ⟨trivial,Nat.le_trans (yC _) ?_⟩
  simp
theorem DW (a b:List I) (hb:b.length≤1000) (h:b.all gdI=false):bQ a b=badp:=by
  unfold bQ;rw [iY hb,h,show ((aU a)||((!false)||((((b).length:Nat):Int)==0)))=true by simp,cond_true,C3]
theorem aQ_ {a b:List I} {n:I} (hb:b.length≤25) (hg:(aC (cH (bQ a b) n)).all gdI=true):bQ a b=badp∨(aC (cH (bQ a b) n)).length<b.length:=by
  have h1:=lQ a b;have h2:=oU (bQ a b) n;obtain ⟨h3,h4⟩:=xY oo_ hg;obtain ⟨h5,h6⟩:=LW oo_ h3
  by_cases h0:b.length=0
  · left
    unfold bQ;rw [show ((aU a)||((aU b)||((((b).length:Nat):Int)==0)))=true by simp [h0],cond_true,C3]
  rcases FB a b oo_ with h7 | h7
  · exact .inl h7
  exact .inr oo_
theorem GZ {a b:List I} {n:I} (hb:b.length≤25) (hg:(aC (cH (bQ a b) n)).all gdI=true):b.all gdI=true∧(aC (cH (bQ a b) n)).length<b.length:=by
  have h1:=lQ a b;have h2:=oU (bQ a b) n;obtain ⟨h3,h4⟩:=xY oo_ hg;obtain ⟨h5,h6⟩:=LW oo_ h3
  have hg2:b.all gdI=true:=by
    cases hb2:b.all gdI
    · have:bQ a b=badp:=DW a b oo_ hb2
      rw [this,e7] at h5;cases h5
    rfl
  refine ⟨hg2,?_⟩;rcases aQ_ hb hg with h | h
  · rw [h,e7] at h5;cases h5
  exact h
theorem aO_ {out:List (List I)} {next a:List I} (h:(out.length+gmP next≤60∧1≤out.length)∧next.length≤25∧AL out) (h0:decide (0<((next.length:Nat):Int))=true)
    (hb:aU (aC (cH (bQ a ((out ++ [next]).getD ((out ++ [next]).length - 1) [])) (E (Z.of (-1)))))=false) :
    gmP (aC (cH (bQ a ((out ++ [next]).getD ((out ++ [next]).length - 1) [])) (E (Z.of (-1)))))<gmP next:=by
  rw [vT] at hb ⊢;have hl:=cC (cH (bQ a next) (E (Z.of (-1))));rw [iY oo_] at hb
  have hg:(aC (cH (bQ a next) (E (Z.of (-1))))).all gdI=true:=by simpa using hb
  obtain ⟨h1,h2⟩:=GZ h.2.1 hg;unfold gmP;rw [hg,h1,cond_true,cond_true];omega
theorem cp_ {out:List (List I)} {next a:List I} (h:(out.length+gmP next≤60∧1≤out.length)∧next.length≤25∧AL out) (h0:decide (0<((next.length:Nat):Int))=true)
    (hb:aU (aC (cH (bQ a ((out ++ [next]).getD ((out ++ [next]).length - 1) [])) (E (Z.of (-1)))))=false) :
    ((out ++ [next]).length+gmP (aC (cH (bQ a ((out ++ [next]).getD ((out ++ [next]).length - 1) [])) (E (Z.of (-1)))))≤60∧1≤(out ++ [next]).length)∧(aC (cH (bQ a ((out ++ [next]).getD ((out ++ [next]).length - 1) [])) (E (Z.of (-1))))).length≤25∧AL (out ++ [next]):=by
  have h1:=aO_ h h0 hb
  have h2:(out ++ [next]).length=out.length+1:=by simp
  exact ⟨⟨by omega,by omega⟩,cC _,vB h.2.2 h.2.1⟩
theorem Q6 {f next:List I} (hf:f.length≤25) (hn:next.length≤25):(([f]:List (List I)).length+gmP next≤60∧1≤([f]:List (List I)).length)∧next.length≤25∧AL [f] :=
  ⟨⟨by have:=R7 hn;simp only [List.length_singleton];omega,Nat.le_refl _⟩,hn,EE hf⟩
theorem Y0 (p q:List I) (f:I→I→I):Rgt (fG p q f):=by
  unfold fG
  cases (aU p||aU q)
  · rw [cond_false,pY];exact BN _
  exact .inl rfl
theorem yY (p q:List I) (hp:p.length≤1000) (hq:q.length≤1000):Rgt (aQ p q):=by
  unfold aQ
  cases h:dD p q (gmP (aC q)+1) (aC p) (aC q) with
  | inr y=>rw [ND p q _ _ _ _ h];exact .inl rfl
  | inl s =>
    have hr:=NF p q _ _ _ s (pD p hp) (pD q hq) h
    show Rgt (bif _ then _ else _)
    rw [Bool.cond_eq_ite]
    split
    · exact hr
    exact Y0 _ _ _
theorem I2 (p:List I):∀ (k:Nat) (out:List (List I)) (next:List I),AL out→next.length≤25→(∀ s,cI p k out next = .inl s→AL s.1)∧∀ r,cI p k out next = .inr r→r.1=[]
  | 0,out,next,ho,hn=>⟨fun s h=>(by cases h;exact ho),fun r h=>(by cases h)⟩
  | k+1,out,next,ho,hn=>by
    unfold cI
    cases h0:decide (0<((next.length:Nat):Int))
    · exact ⟨fun s h=>(by cases h;exact ho),fun r h=>(by cases h)⟩
    rw [cond_true]
    cases hb:aU (aC (cH (bQ ((out ++ [next]).getD (((out ++ [next])).length - 2) []) ((out ++ [next]).getD (((out ++ [next])).length - 1) [])) (E (Z.of (-1)))))
    · rw [cond_false];exact I2 p k _ _ (vB ho hn) (cC _)
    exact ⟨fun s h=>(by cases h),fun r h=>(by cases h;rfl)⟩
theorem I4 (p:List I) (out:List (List I)) (next:List I):∀ (l:List (List I)) (r:List (List I)×Bool),dP p out next l = .inr r→r.1=[]
  | [],r,h=>by cases h
  | x :: l,r,h=>by
    unfold dP at h
    cases hb:aU x
    · rw [hb,cond_false] at h;exact I4 p out next l r h
    rw [hb,cond_true] at h;cases h;rfl
theorem iI (p:List I):AL (aH p).1:=by
  unfold aH;have h0:=I2 p (gmP (aC (aE (bD p)))+1) [bD p] (aC (aE (bD p))) (EE (rK p)) (cC _)
  cases h1:cI p (gmP (aC (aE (bD p)))+1) [bD p] (aC (aE (bD p))) with
  | inr r =>
    show AL r.1
    rw [h0.2 r h1];exact ED
  | inl s =>
    show AL (sm (fun (_:Unit)=>(s.1,true)) (fun r=>r) (dP p s.1 s.2 s.1)).1
    cases h2:dP p s.1 s.2 s.1 with
    | inr r =>
      show AL r.1
      rw [I4 _ _ _ _ r h2];exact ED
    | inl u=>exact h0.1 s h1
def d9 (c:(List (List I))) (x:Rt):List (List I)→W→W→(W×W) ⊕ (W×Bool)
  | [],mb5,mb4=>.inl (mb5,mb4)
  | x0 :: l0,mb5,mb4=>bif (aL x0 x).2 then (bif (((aL x0 x).1).1 != 0) then (bif (((aL x0 x).1).1==(-2)) then (.inr (((wl 0),false))) else (bif ((mb5.1 != 0)&&(((aL x0 x).1).1 != mb5.1)) then ((d9 c x l0 ((aL x0 x).1) (W.add mb4 (wl 1)))) else ((d9 c x l0 ((aL x0 x).1) mb4)))) else ((d9 c x l0 mb5 mb4))) else (.inr (((wl 0),false)))
def cY (c:(List (List I))) (x:Rt):W×Bool :=
  sm (fun (s:W×W)=>let mb5:W:=s.1
  let mb4:W:=s.2
  (mb4,true)) (fun r=>r) (d9 c x c (wl 0) (wl 0))
def aG (c:(List (List I))) (a:Rt) (b:Rt):W×Bool :=
  ((W.sub ((cY c a).1) ((cY c b).1)),((cY c a).2&&(cY c b).2))
def bG (p:(List I)) (a:Rt) (b:Rt):W×W :=
  bif ((aU p)||(((((p).length:Nat):Int)==0)||(!(iM a b)))) then (((wl 0),(wl 1))) else (bif (aH p).2 then (bif (aG ((aH p).1) a b).2 then (((aG ((aH p).1) a b).1,(wl 0))) else (((wl 0),(wl 30)))) else (((wl 0),(wl 30))))
def bM (p:(List I)) (x:Iv):(List (List I))×W :=
  bif (((bG p x.lo x.hi).2).1 != 0) then ((([]:List (List I)),(bG p x.lo x.hi).2)) else (bif (((bG p x.lo x.hi).1).1 != 1) then ((([]:List (List I)),(wl 1))) else (((aH p).1,(wl 0))))
def gA (c:(List (List I))) (x:Iv):Iv×Bool :=
  bif (!((aG c x.lo (aF x.lo x.hi)).2)||((aF x.lo x.hi).n).1.bad) then ((x,false)) else (bif (((aG c x.lo (aF x.lo x.hi)).1).1==1) then (((⟨x.lo,(aF x.lo x.hi)⟩:Iv),true)) else (((⟨(aF x.lo x.hi),x.hi⟩:Iv),true)))
theorem xB (p:List I) (x:Iv):AL (bM p x).1:=by
  unfold bM;generalize bG p x.lo x.hi=C;have hs:=iI p;generalize (aH p).1=L at hs ⊢
  cases (C.2.1 != 0)
  · cases (C.1.1 != 1)
    · exact hs
    exact ED
  exact ED
def jR (x:Rt):Bool :=
  ((aZ x)&&(decide ((Z.bitsW x.n.dec).1≤12)&&decide ((Z.bitsW x.d.dec).1≤12)))
def bV (p:(List I)) (a:Rt) (b:Rt) (k:W):Bool :=
  ((eA p 3 32)&&((jR a)&&((jR b)&&decide (k.1≤16))))
def gH (a:(List Iv)) (b:(List Iv)):Nat→Nat→(Nat) ⊕ (Bool)
  | 0,k=>.inl k
  | k0+1,k=>bif decide (((k:Nat):Int)<(((a).length:Nat):Int)) then (bif (decide ((((a.getD k Iv0).lo).n)=(((b.getD k Iv0).lo).n))&&(decide ((((a.getD k Iv0).lo).d)=(((b.getD k Iv0).lo).d))&&(decide ((((a.getD k Iv0).hi).n)=(((b.getD k Iv0).hi).n))&&decide ((((a.getD k Iv0).hi).d)=(((b.getD k Iv0).hi).d))))) then ((gH a b k0 (k+1))) else (.inr (false))) else (.inl k)
def fE (a:(List Iv)) (b:(List Iv)):Bool :=
  bif ((((a).length:Nat):Int) != (((b).length:Nat):Int)) then (false) else (sm (fun (s:Nat)=>let k:Nat:=s
  true) (fun r=>r) (gH a b ((a.length+1)) 0))
class Rg (α:Type) [Add α] [Mul α] [OfNat α 0]:Prop where
  aa:∀ a b c:α,a+b+c=a+(b+c)
  ac:∀ a b:α,a+b=b+a
  a0:∀ a:α,a+0=a
  ma:∀ a b c:α,a * b * c=a * (b * c)
  mc:∀ a b:α,a * b=b * a
  md:∀ a b c:α,a * (b+c)=a * b+a * c
  m0:∀ a:α,a * 0=0
instance:Rg Int:=⟨Int.add_assoc,Int.add_comm,Int.add_zero,Int.mul_assoc,Int.mul_comm,Int.mul_add,Int.mul_zero⟩
instance:Rg Rat:=⟨Rat.add_assoc,Rat.add_comm,Rat.add_zero,Rat.mul_assoc,Rat.mul_comm,Rat.mul_add,Rat.mul_zero⟩
theorem Rg.za {α:Type} [Add α] [Mul α] [OfNat α 0] [Rg α] (a:α):0+a=a:=by rw [Rg.ac,Rg.a0]
theorem Rg.zm {α:Type} [Add α] [Mul α] [OfNat α 0] [Rg α] (a:α):0 * a=0:=by rw [Rg.mc,Rg.m0]
def kJ {α:Type} [Add α] [OfNat α 0] (f:Nat→α):Nat→α
  | 0=>0
  | n+1=>kJ f n+f n
theorem jN {α:Type} [Add α] [OfNat α 0] {f g:Nat→α}:∀ {n:Nat},(∀ i,i<n→f i=g i)→kJ f n=kJ g n
  | 0,_=>rfl
  | n+1,h=>by simp only [kJ];rw [jN fun i hi=>h i (by omega),h n (by omega)]
theorem nZ {α:Type} [Add α] [Mul α] [OfNat α 0] [Rg α] {f:Nat→α}:∀ {n:Nat},(∀ i,i<n→f i=0)→kJ f n=0
  | 0,_=>rfl
  | n+1,h=>by simp only [kJ];rw [nZ fun i hi=>h i (by omega),h n (by omega),Rg.a0]
theorem BA {α:Type} [Add α] [Mul α] [OfNat α 0] [Rg α] (f g:Nat→α):∀ n:Nat,kJ (fun i=>f i+g i) n=kJ f n+kJ g n
  | 0=>(Rg.a0 _).symm
  | n+1=>by
    simp only [kJ];rw [BA f g n,Rg.aa,Rg.aa,← Rg.aa (kJ g n),Rg.ac (kJ g n) (f n),Rg.aa]
theorem wM {α:Type} [Add α] [Mul α] [OfNat α 0] [Rg α] (c:α) (f:Nat→α):∀ n:Nat,kJ (fun i=>c * f i) n=c * kJ f n
  | 0=>(Rg.m0 _).symm
  | n+1=>by simp only [kJ];rw [wM c f n,Rg.md]
theorem FI {α:Type} [Add α] [Mul α] [OfNat α 0] [Rg α] (c:α) (f:Nat→α) (n:Nat):kJ (fun i=>f i * c) n=kJ f n * c:=by
  rw [Rg.mc _ c,← wM];exact jN fun i _=>Rg.mc _ _
theorem zB {α:Type} [Add α] [Mul α] [OfNat α 0] [Rg α] (f:Nat→α):∀ n:Nat,kJ f (n+1)=f 0+kJ (fun i=>f (i+1)) n
  | 0=>by simp only [kJ];rw [Rg.ac]
  | n+1=>by rw [kJ,zB f n,Rg.aa];rfl
theorem Q9 {α:Type} [Add α] [Mul α] [OfNat α 0] [Rg α] (f:Nat→α):∀ n:Nat,kJ f n=kJ (fun i=>f (n - 1 - i)) n
  | 0=>rfl
  | n+1=>by
    rw [zB (fun i=>f (n+1 - 1 - i)),kJ,Rg.ac,Q9 f n];rw [show n+1 - 1 - 0=n by omega]
    congr 1
    exact jN fun i hi=>congrArg f (by omega)
theorem sU {α:Type} [Add α] [Mul α] [OfNat α 0] [Rg α] {f:Nat→α} {n:Nat} (h:∀ i,n≤i→f i=0):∀ m:Nat,n≤m→kJ f m=kJ f n
  | 0,hm=>by rw [show n=0 by omega]
  | m+1,hm=>by
    rcases Nat.lt_or_ge n (m+1) with g | g
    · rw [kJ,h m (by omega),Rg.a0,sU h m (by omega)]
    rw [show n=m+1 by omega]
theorem I7 {α:Type} [Add α] [Mul α] [OfNat α 0] [Rg α] {f:Nat→α} {a:Nat} (h:∀ i,i≠a→f i=0) {n:Nat} (hn:a<n):kJ f n=f a:=by
  rw [sU (n:=a+1) (fun i hi=>h i (by omega)) n hn,kJ,nZ fun i hi=>h i (by omega),Rg.za]
theorem I8 {α:Type} [Add α] [Mul α] [OfNat α 0] [Rg α] (f:Nat→Nat→α):∀ n:Nat,kJ (fun k=>kJ (fun i=>f i (k - i)) (k+1)) n=kJ (fun i=>kJ (fun j=>f i j) (n - i)) n
  | 0=>rfl
  | n+1=>by
    rw [kJ,I8 f n]
    rw [jN (f:=fun i=>kJ (fun j=>f i j) (n+1 - i)) (g:=fun i=>kJ (fun j=>f i j) (n - i)+f i (n - i)) (fun i hi=>by
      rw [show n+1 - i=n - i+1 by omega];rfl)]
    rw [BA]
    congr 1
    rw [kJ,Nat.sub_self,kJ,Rg.a0]
def conv {α:Type} [Add α] [Mul α] [OfNat α 0] (c d:Nat→α) (k:Nat):α:=kJ (fun i=>c i * d (k - i)) (k+1)
theorem uI {α:Type} [Add α] [Mul α] [OfNat α 0] [Rg α] (c d:Nat→α):conv c d=conv d c:=by
  funext k
  unfold conv;rw [Q9];refine jN fun i hi=>?_;rw [Rg.mc,show k - (k+1 - 1 - i)=i by omega,show k+1 - 1 - i=k - i by omega]
theorem C8 {α:Type} [Add α] [Mul α] [OfNat α 0] [Rg α] (c d e:Nat→α):conv c (fun i=>d i+e i)=fun k=>conv c d k+conv c e k:=by
  funext k
  unfold conv;rw [← BA];exact jN fun i _=>Rg.md _ _ _
theorem YM {α:Type} [Add α] [Mul α] [OfNat α 0] [Rg α] (a:α) (c d:Nat→α):conv (fun i=>a * c i) d=fun k=>a * conv c d k:=by
  funext k
  unfold conv;rw [← wM];exact jN fun i _=>Rg.ma _ _ _
theorem tH {α:Type} [Add α] [Mul α] [OfNat α 0] [Rg α] (a:α) (c d:Nat→α):conv c (fun i=>a * d i)=fun k=>a * conv c d k:=by
  rw [uI,YM,uI]
theorem HG {α:Type} [Add α] [Mul α] [OfNat α 0] [Rg α] (c d e:Nat→α):conv (conv c d) e=conv c (conv d e):=by
  funext k
  unfold conv;have h:=I8 (fun j m=>c j * (d m * e (k - j - m))) (k+1);refine Eq.trans (jN fun i hi=>?_) (h.trans (jN fun i hi=>?_))
  · rw [← FI]
    refine jN fun j hj=>?_;rw [Rg.ma,show k - j - (i - j)=k - i by omega]
  rw [wM,show k+1 - i=k - i+1 by omega]
theorem oR {α:Type} [Add α] [Mul α] [OfNat α 0] [Rg α] {c d:Nat→α} {n m:Nat} (hc:∀ i,n≤i→c i=0) (hd:∀ i,m≤i→d i=0) (k:Nat) (hk:n+m≤k+1):conv c d k=0:=by
  refine nZ fun i hi=>?_;rcases Nat.lt_or_ge i n with h | h
  · rw [hd _ (by omega),Rg.m0]
  rw [hc _ h,Rg.zm]
theorem o9 {α:Type} [Add α] [Mul α] [OfNat α 0] [Rg α] {c d:Nat→α} {n m:Nat} (hc:∀ i,n<i→c i=0) (hd:∀ i,m<i→d i=0):conv c d (n+m)=c n * d m:=by
  unfold conv;rw [I7 (a:=n) (fun i hi=>?_) (by omega),show n+m - n=m by omega];rcases Nat.lt_or_ge n i with h | h
  · rw [hc _ h,Rg.zm]
  rw [hd _ (by omega),Rg.m0]
def cR (c:Nat→Int) (i:Nat):Rat:=(c i:Rat)
theorem RA (f:Nat→Int):∀ n:Nat,((kJ f n:Int):Rat)=kJ (fun i=>(f i:Rat)) n
  | 0=>rfl
  | n+1=>by simp only [kJ];rw [Rat.intCast_add,RA f n]
theorem KP (c d:Nat→Int):cR (conv c d)=conv (cR c) (cR d):=by
  funext k
  unfold cR conv;rw [RA];exact jN fun i _=>Rat.intCast_mul ..
theorem BO (q:Rat):q * ((q.den:Int):Rat)=((q.num:Int):Rat):=by
  have h:=Rat.num_divInt_den q;rw [Rat.divInt_eq_div,Rat.div_def] at h;have h0:(((q.den:Nat):Int):Rat)≠0:=fun h=>q.den_nz (by have:=Rat.intCast_eq_zero_iff.1 h;omega)
  have e:(((q.num:Int):Rat) * (((q.den:Nat):Int):Rat)⁻¹) * (((q.den:Nat):Int):Rat)=((q.num:Int):Rat):=by rw [Rat.mul_assoc,Rat.inv_mul_cancel _ h0,Rat.mul_one]
  rw [h] at e;exact e
theorem bh_:I0=E (Z.of 0):=rfl
theorem vI0:vI I0=0:=cv_ B0
theorem OE {u v:Int} (hu:d6 u) (hv:d6 v):Z.sub (Z.of u) (Z.of v)=Z.of (u - v):=by
  rw [Z.sub,NO hv,EJ hu (show (-v).natAbs<_ by rw [Int.natAbs_neg];exact hv),Int.sub_eq_add_neg]
theorem TH {u:Int} (hu:d6 u):Z.abs (Z.of u)=Z.of (u.natAbs:Nat):=by rw [Z.abs,mH (Z.of_some hu)]
structure Po (p:List I) (c:Nat→Int):Prop where
  g:p.all gdI=true
  s:kS p=p
  l:p.length≤25
  c:∀ k,vI (p.getD k I0)=c k
section
variable {p q:List I} {c d:Nat→Int}
theorem Po.rgt (h:Po p c):Rgt p:=.inr ⟨h.g,h.s,h.l⟩
theorem ST (h:Rgt p) (hg:p.all gdI=true):Po p (fun k=>vI (p.getD k I0)):=by
  rcases h with rfl | h
  · rw [e7] at hg;cases hg
  exact ⟨h.1,h.2.1,h.2.2,fun _=>rfl⟩
theorem T6 (h:p.all gdI=true) (k:Nat):gdI (p.getD k I0)=true:=by
  by_cases hk:k<p.length
  · rw [show p.getD k I0=p[k] by simp [List.getD,hk]]
    exact List.all_eq_true.1 h _ (List.getElem_mem hk)
  rw [o4 oo_];exact PS B0
theorem Po.get (h:Po p c) (k:Nat):p.getD k I0=E (Z.of (c k)):=by rw [← h.c k];exact (zK (T6 h.g k)).1
theorem Po.B (h:Po p c) (k:Nat):d6 (c k):=by rw [← h.c k];exact (zK (T6 h.g k)).2
theorem Po.zero (h:Po p c) {k:Nat} (hk:p.length≤k):c k=0:=by rw [← h.c k,o4 hk,vI0]
theorem Po.last (h:Po p c) {n:Nat} (hn:p.length=n+1):c n≠0:=by
  rcases qM p with rfl | ⟨m,x,rfl⟩
  · cases hn
  have h1:=CQ h.s
  have h2:n=m.length:=by simp at hn;omega
  have h3:=h.get n;rw [show (m ++ [x]).getD n I0=x by simp [h2]] at h3;rw [h3,bc_ (h.B n)] at h1;exact of_decide_eq_false h1
theorem Po.short (h:Po p c) {n:Nat} (hz:∀ k,n≤k→c k=0):p.length≤n:=by
  rcases Nat.lt_or_ge n p.length with g | g
  · exact absurd (hz (p.length - 1) oo_) (h.last oo_)
  exact g
theorem Po.eq (h:Po p c) (g:Po q c):p=q:=by
  have e:p.length=q.length:=Nat.le_antisymm (h.short fun k hk=>g.zero hk) (g.short fun k hk=>h.zero hk);refine List.ext_getElem e fun k h1 h2=>?_;have a:=h.get k;rw [← g.get k] at a
  simpa [List.getD,h1,h2] using a
theorem Po.cast (h:Po p c) (e:∀ k,c k=d k):Po p d:=⟨h.g,h.s,h.l,fun k=>(h.c k).trans (e k)⟩
theorem EI:Po [] (fun _=>0):=⟨rfl,rfl,by decide,fun k=>by rw [show ([]:List I).getD k I0=I0 by simp];exact vI0⟩
theorem Po.nil (h:Po p c) (hz:∀ k,c k=0):p=[]:=(h.cast hz).eq EI
theorem D6:∀ (n:Nat) (l:List I),l.length≤n→∀ k,(kS l).length≤k→zrI (l.getD k I0)=true
  | 0,l,h,k,_=>by
    rw [o4 oo_];exact zr0
  | n+1,l,h,k,hk=>by
    rcases qM l with rfl | ⟨m,x,rfl⟩
    · rw [show ([]:List I).getD k I0=I0 by simp];exact zr0
    rw [qN] at hk
    cases hx:zrI x
    · rw [hx,cond_false] at hk
      rw [o4 hk];exact zr0
    rw [hx,cond_true] at hk;rcases Nat.lt_trichotomy k m.length with g | g | g
    · rw [show (m ++ [x]).getD k I0=m.getD k I0 by simp [List.getD,List.getElem?_append_left g]]
      exact D6 n m (by simp at h;omega) k hk
    · rw [show (m ++ [x]).getD k I0=x by simp [g]];exact hx
    rw [o4 (by simp;omega)];exact zr0
theorem H8 {l:List I} (h:∀ k,l.getD k I0=E (Z.of (c k))) (hB:∀ k,d6 (c k)) (hz:∀ k,25≤k→c k=0):Po (mkP l) c:=by
  have hg:l.all gdI=true:=List.all_eq_true.2 fun x hx=>by
    obtain ⟨k,hk,rfl⟩:=List.getElem_of_mem hx;have e:=h k;rw [show l.getD k I0=l[k] by simp [List.getD,hk]] at e;rw [e];exact PS (hB k)
  have hl:(kS l).length≤25:=A6 _ l (Nat.le_refl _) fun j hj=>by rw [h j,hz j hj];exact zr0
  have e:mkP l=kS l:=by unfold mkP;rw [hg,cond_true,if_pos hl]
  rw [e];refine ⟨LZ hg,I5 l,hl,fun k=>?_⟩
  by_cases hk:k<(kS l).length
  · have e2:(kS l).getD k I0=l.getD k I0:=by
      rw [vQ l];simp only [List.getD,List.getElem?_take,hk,if_true]
    rw [e2,h k,cv_ (hB k)]
  have:=D6 _ l (Nat.le_refl _) k oo_;rw [h k,bc_ (hB k)] at this;rw [o4 oo_,vI0,of_decide_eq_true this]
theorem aV_ (f:Nat→I) (n k:Nat):((List.range n).map f).getD k I0=if k<n then f k else I0:=by
  by_cases h:k<n <;> simp [List.getD,h]
theorem SZ {f:Nat→I} {n:Nat} (h:∀ k,k<n→f k=E (Z.of (c k))) (h0:∀ k,n≤k→c k=0) (hB:∀ k,d6 (c k)) (hz:∀ k,25≤k→c k=0):Po (mkP ((List.range n).map f)) c:=by
  refine H8 (fun k=>?_) hB hz;rw [aV_]
  split
  · exact h k ‹_›
  rw [h0 k oo_];rfl
theorem Po.l3 (h:Po p c):p.length≤1000:=Nat.le_trans h.l dd_
theorem tO (h:Rgt p):p.length≤1000:=Nat.le_trans (vP h) dd_
theorem Po.nb (h:Po p c):aU p=false:=by rw [iY h.l3,h.g];rfl
theorem M6 {e:Nat→Int} {f:I→I→I} (h:Po p c) (g:Po q d) (hf:∀ k,f (E (Z.of (c k))) (E (Z.of (d k)))=E (Z.of (e k))) (hB:∀ k,d6 (e k)) (h0:∀ k,c k=0→d k=0→e k=0):Po (fG p q f) e:=by
  rw [qS f h.l3 g.l3,h.g,g.g,Bool.and_true,cond_true];have hl:=h.l;have gl:=g.l;refine SZ (fun k _=>?_) (fun k hk=>?_) hB (fun k hk=>?_)
  · rw [h.get,g.get,hf]
  · exact h0 k (h.zero oo_) (g.zero oo_)
  exact h0 k (h.zero oo_) (g.zero oo_)
theorem OV {a:Int} (h:Po p c) (ha:d6 a) (hB:∀ k,d6 (c k * a)):Po (cH p (E (Z.of a))) (fun k=>c k * a):=by
  unfold cH;rw [show n7 (E (Z.of a))=true from PS ha,cond_true];exact M6 h EI (fun k=>by unfold oQ;rw [cZ,cZ,o5 (h.B k) ha]) hB (fun k h1 _=>by rw [h1,Int.zero_mul])
theorem KE (h:Po p c) (hB:∀ k,d6 (((k+1:Nat):Int) * c (k+1))):Po (aE p) (fun k=>((k+1:Nat):Int) * c (k+1)):=by
  have hl:=h.l;unfold aE;rw [h.nb,cond_false,pY];refine SZ (fun k hk=>?_) (fun k hk=>?_) hB (fun k hk=>?_)
  · unfold kU
    rw [h.get,cZ,o5 (show ((k+1:Nat):Int).natAbs<4294967296 ^ 16 from Nat.lt_of_lt_of_le (show _<4294967296 by omega) (Nat.le_self_pow dd_ _)) (h.B _)];rfl
  · rw [h.zero oo_,Int.mul_zero]
  rw [h.zero oo_,Int.mul_zero]
theorem bd_ {v:Int} {k:Nat} (m:Nat) (hm:4294967296 ^ 16=2 ^ m) (h:v.natAbs<2 ^ k) (hk:k≤m):d6 v:=by
  unfold d6;rw [hm];exact Nat.lt_of_lt_of_le h (Nat.pow_le_pow_right dd_ hk)
theorem B9 {v:Int} {k:Nat} (h:v.natAbs<2 ^ k) (hk:k≤512):d6 v:=bd_ 512 OL h hk
structure Bd (c:Nat→Int) (n b:Nat):Prop where
  z:∀ k,n≤k→c k=0
  b:∀ k,(c k).natAbs<2 ^ b
variable {n m b b':Nat}
theorem Bd.mono (h:Bd c n b) {n' b1:Nat} (hn:n≤n') (hb:b≤b1):Bd c n' b1:=⟨fun k hk=>h.z k oo_,fun k=>Nat.lt_of_lt_of_le (h.b k) (Nat.pow_le_pow_right dd_ hb)⟩
theorem Bd.B (h:Bd c n b) (hb:b≤512) (k:Nat):d6 (c k):=B9 (h.b k) hb
theorem Bd.add (h:Bd c n b) (g:Bd d m b):Bd (fun k=>c k+d k) (max n m) (b+1) :=
  ⟨fun k hk=>by show c k+d k=0;rw [h.z k oo_,g.z k oo_];rfl,fun k=>by
    show (c k+d k).natAbs<_
    have h1:=h.b k;have h2:=g.b k;have h3:=Int.natAbs_add_le (c k) (d k)
    rw [Nat.pow_succ];omega⟩
theorem DM {u v:Int} (h:u.natAbs<2 ^ b) (g:v.natAbs<2 ^ b'):(u * v).natAbs<2 ^ (b+b'):=by
  rw [Int.natAbs_mul,Nat.pow_add];exact Nat.mul_lt_mul_of_lt_of_le h (Nat.le_of_lt g) (Nat.pow_pos dd_)
theorem OG {f:Nat→Int} {A:Nat} (h:∀ i,(f i).natAbs≤A):∀ t:Nat,(kJ f t).natAbs≤t * A
  | 0=>by simp [kJ]
  | t+1=>by
    have h1:=OG h t;have h2:=h t;have h3:=Int.natAbs_add_le (kJ f t) (f t);rw [Nat.succ_mul];show (kJ f t+f t).natAbs≤_;omega
theorem aS_ {f:Nat→Int} {e:Nat} (h:∀ i,(f i).natAbs<2 ^ b) (hz:∀ i,n≤i→f i=0) (hn:n≤2 ^ e) (t:Nat):(kJ f t).natAbs<2 ^ (b+e):=by
  have hb:0<2 ^ b:=Nat.pow_pos dd_
  have k1:∀ t,t≤n→(kJ f t).natAbs<2 ^ (b+e):=fun t ht=>by
    have h1:=OG (f:=f) (A:=2 ^ b - 1) (fun i=>by have:=h i;omega) t;have h2:t * (2 ^ b - 1)≤2 ^ e * (2 ^ b - 1):=Nat.mul_le_mul_right _ oo_;have h3:2 ^ e * (2 ^ b - 1)<2 ^ e * 2 ^ b:=Nat.mul_lt_mul_of_pos_left oo_ (Nat.pow_pos dd_);rw [Nat.pow_add,Nat.mul_comm (2 ^ b)];omega
  rcases Nat.lt_or_ge n t with g | g
  · rw [sU hz t oo_];exact k1 n (Nat.le_refl _)
  exact k1 t g
theorem VZ (h:Bd c n b) (g:Bd d m b') {e:Nat} (hn:n≤2 ^ e) (k t:Nat):(kJ (fun i=>c i * d (k - i)) t).natAbs<2 ^ (b+b'+e) :=
  aS_ (n:=n) (fun i=>DM (h.b _) (g.b _)) (fun i hi=>by rw [h.z i hi,Int.zero_mul]) hn t
theorem Bd.conv (h:Bd c n b) (g:Bd d m b') {e:Nat} (hn:n≤2 ^ e):Bd (conv c d) (n+m - 1) (b+b'+e) :=
  ⟨fun k hk=>oR h.z g.z k oo_,fun k=>VZ h g hn k (k+1)⟩
theorem Po.len (h:Po p c) (hb:Bd c n b):p.length≤n:=h.short hb.z
theorem MV {v:Int} (hv:d6 v) {b:Int} (h:(Z.bitsW (Z.of v)).1≤b):v.natAbs<2 ^ b.toNat:=by
  have h1:((Z.of v).bits:Int)≤b:=h;unfold Z.bits at h1;rw [Z.of_some hv] at h1;simp only at h1;exact Nat.lt_of_lt_of_le (O2 _) (Nat.pow_le_pow_right dd_ oo_)
theorem PJ (p:List I) (a b:Int):∀ (k i:Nat),p.length - i<k→(sm (fun _:Nat=>true) (fun r=>r) (iS p a b k i))=true→∀ j,i≤j→j<p.length→(Z.bitsW (p.getD j I0).dec).1≤b
  | 0,i,h,_,_,_,_=>absurd h (Nat.not_lt_zero _)
  | k+1,i,h,hs,j,hj,hl=>by
    unfold iS at hs;rw [decide_eq_true (show ((i:Nat):Int)<((p.length:Nat):Int) by omega),cond_true] at hs
    by_cases hb:b<(Z.bitsW (p.getD i I0).dec).1
    · rw [decide_eq_true hb] at hs;cases hs
    rw [decide_eq_false hb,cond_false] at hs;rcases Nat.lt_or_ge i j with g | g
    · exact PJ p a b k (i+1) oo_ hs j oo_ hl
    rw [show j=i by omega];omega
theorem Y6 {a b:Int} (h:eA p a b=true) (hg:p.all gdI=true):∃ c,Po p c∧Bd c (a+1).toNat b.toNat:=by
  have h1:=fw_ (p:=p) (d:=a) (b:=b) (by rw [h];rfl);have h2:=ER h;have hp:=ST h1.1 hg;refine ⟨_,hp,fun k hk=>hp.zero oo_,fun k=>?_⟩
  by_cases hk:k<p.length
  · unfold eA at h
    rw [h2.1,decide_eq_false oo_] at h;have h3:=PJ p a b _ 0 oo_ h k oo_ hk;rw [hp.get k,cZ] at h3;exact MV (hp.B k) h3
  show (vI (p.getD k I0)).natAbs<_
  rw [o4 oo_,vI0];exact Nat.pow_pos dd_
theorem S9 (hp:p.length≤1000) (hq:q.length≤1000) (h:p.all gdI=false∨q.all gdI=false):oH p q=badp:=by
  unfold oH;rw [qS _ hp hq,show (p.all gdI&&q.all gdI)=false by rcases h with h | h <;> simp [h]];rfl
theorem TC (hp:p.length≤1000) (hq:q.length≤1000) (h:p.all gdI=false∨q.all gdI=false):jX p q=badp:=by
  unfold jX;rw [iY hp,iY hq,show (!p.all gdI || !q.all gdI)=true by rcases h with h | h <;> simp [h]];rfl
end
open Go Go.Kn
theorem y4 {u v:Int} (hu:d6 u) (hv:d6 v) (h:0<v):Z.quo (Z.of u) (Z.of v)=Z.of (u / v):=by
  rw [E7 hu hv oo_,HO h]
theorem D4 (x:Int):-1≤x.sign∧x.sign≤1:=by
  rcases Int.lt_trichotomy x 0 with h | h | h
  · rw [Int.sign_eq_neg_one_of_neg h];omega
  · subst h;decide
  rw [Int.sign_eq_one_of_pos h];omega
theorem CV {a:Rt} {n d:Int} (h:a.Is n d):aZ a=true:=fb_.2 ⟨n,d,h⟩
theorem be_ (a b:Rt):jZ a b=i9 a b:=by
  unfold jZ i9 fV;rw [sY,sY]
  cases aZ a <;> cases aZ b <;> simp only [Bool.not_true,Bool.not_false,Bool.or_true,Bool.true_or,Bool.or_false,Bool.and_true,Bool.and_false,Bool.false_and,Bool.true_and,cond_true,cond_false,cZ] <;> rfl
theorem TA (a b:W):qP a b=fU a b:=rfl
theorem G2 (a b:Rt):aF a b=bB a b:=by unfold aF bB;rw [XG,XL,TA]
theorem fc_ {a:Rt} (h:aZ a=true):∃ n d,Rt.Is a n d:=fb_.1 h
structure Iv.Is (a:Iv) (n d m e:Int):Prop where
  lo:a.lo.Is n d
  hi:a.hi.Is m e
  le:n * e≤m * d
def Rt.At (a:Rt) (q:Rat):Prop:=a.Is q.num (q.den:Int)
theorem cF_ {a:Rt} {n d:Int} (h:a.Is n d):∃ q:Rat,a.At q∧q.num=n∧(q.den:Int)=d:=by
  have hd:(d.toNat:Int)=d:=Int.toNat_of_nonneg (Int.le_of_lt h.pos)
  have hc:n.natAbs.Coprime d.toNat:=by
    have:=h.cop;unfold Int.gcd at this;rw [show d.natAbs=d.toNat by omega] at this;exact this
  refine ⟨⟨n,d.toNat,by have:=h.pos;omega,hc⟩,?_,rfl,hd⟩
  show a.Is n (d.toNat:Int)
  rw [hd];exact h
theorem T7 {a:Rt} (h:aZ a=true):∃ q,a.At q:=by
  obtain ⟨n,d,h1⟩:=fc_ h;obtain ⟨q,h2,_⟩:=cF_ h1;exact ⟨q,h2⟩
theorem uQ {a:Rt} {q:Rat} (h:a.At q):aZ a=true:=CV h
theorem EG {a:Rt} {p q:Rat} (ha:a.At p) (hb:a.At q):p=q:=by
  have h1:=SH ha.hn hb.hn (XI (ha.en.symm.trans hb.en));have h2:=SH ha.hd hb.hd (XI (ha.ed.symm.trans hb.ed));exact Rat.ext h1 oo_
structure Iv.At (a:Iv) (p q:Rat):Prop where
  lo:a.lo.At p
  hi:a.hi.At q
  le:p≤q
def mn (p q:Rat):Rat:=if p≤q then p else q
structure Sz (q:Rat) (k:Nat):Prop where
  n:q.num.natAbs<2 ^ k
  d:q.den<2 ^ k
theorem NW {a b:Nat} (h:a≤b):(2:Nat) ^ a≤2 ^ b:=Nat.pow_le_pow_right dd_ h
theorem dn_ {v:Int} {k:Nat} (m:Nat) (hm:4294967296 ^ 16=2 ^ m) (h:v.natAbs<2 ^ k) (hk:k≤m):d6 v:=by
  unfold d6;rw [hm];exact Nat.lt_of_lt_of_le h (NW hk)
theorem FK {v:Int} {k:Nat} (h:v.natAbs<2 ^ k) (hk:k≤512):d6 v:=dn_ 512 OL h hk
theorem Sz.mono {q:Rat} {j k:Nat} (h:Sz q j) (hk:j≤k):Sz q k:=⟨Nat.lt_of_lt_of_le h.n (NW hk),Nat.lt_of_lt_of_le h.d (NW hk)⟩
theorem Sz.bn {q:Rat} {k:Nat} (h:Sz q k) (hk:k≤512):d6 q.num:=FK h.n hk
theorem Sz.bd {q:Rat} {k:Nat} (h:Sz q k) (hk:k≤512):d6 (q.den:Int):=FK (by simpa using h.d) hk
theorem w5 {a b j k:Nat} (h:a<2 ^ j) (g:b<2 ^ k):a * b<2 ^ (j+k):=by
  rw [Nat.pow_add];exact Nat.mul_lt_mul_of_lt_of_le h (Nat.le_of_lt g) (Nat.pow_pos dd_)
theorem Sz.mul {p q:Rat} {j k:Nat} (h:Sz p j) (g:Sz q k):Sz (p * q) (j+k):=by
  constructor
  · rw [Rat.num_mul]
    refine Nat.lt_of_le_of_lt (Int.natAbs_ediv_le_natAbs _ _) ?_;rw [Int.natAbs_mul];exact w5 h.n g.n
  rw [Rat.den_mul];exact Nat.lt_of_le_of_lt (Nat.div_le_self _ _) (w5 h.d g.d)
theorem Sz.neg {p:Rat} {k:Nat} (h:Sz p k):Sz (-p) k:=⟨by rw [Rat.neg_num,Int.natAbs_neg];exact h.n,h.d⟩
theorem RP {n m:Int} {d e j k:Nat} (h1:n.natAbs<2 ^ j) (h2:e<2 ^ k) (h3:m.natAbs<2 ^ k) (h4:d<2 ^ j):(n * e+m * d).natAbs<2 ^ (j+k+1):=by
  have a:=w5 h1 h2;have b:=w5 h4 h3;have c:=Int.natAbs_add_le (n * e) (m * d);rw [Int.natAbs_mul,Int.natAbs_mul,Int.natAbs_natCast,Int.natAbs_natCast] at c;rw [Nat.pow_succ];rw [Nat.mul_comm d] at b;omega
theorem Sz.add {p q:Rat} {j k:Nat} (h:Sz p j) (g:Sz q k):Sz (p+q) (j+k+1):=by
  constructor
  · rw [Rat.num_add]
    exact Nat.lt_of_le_of_lt (Int.natAbs_ediv_le_natAbs _ _) (RP h.n g.d g.n h.d)
  rw [Rat.den_add];exact Nat.lt_of_le_of_lt (Nat.div_le_self _ _) (Nat.lt_of_lt_of_le (w5 h.d g.d) (NW oo_))
theorem Sz.int {n:Int} {k:Nat} (h:n.natAbs<2 ^ k) (hk:0<k):Sz (n:Rat) k:=⟨h,Nat.one_lt_two_pow oo_⟩
theorem e6_ {a:Rt} {n d:Int} {q:Rat} (h:a.Is n d) (he:q.num * d=n * q.den):a.At q:=by
  obtain ⟨p,hp,h1,h2⟩:=cF_ h;have:p=q:=Rat.eq_iff_mul_eq_mul.2 (by rw [h1,h2];exact he.symm);rw [← this];exact hp
theorem At.is {a:Rt} {q:Rat} (h:a.At q):a.Is q.num (q.den:Int):=h
theorem CW {n d:Int} {q:Rat} (hn:d6 n) (hd:d6 d) (hp:0<d) (he:q.num * d=n * q.den):(bL (E (Z.of n)) (E (Z.of d))).At q:=by
  refine e6_ (AM hn hd hp) ?_;have g1:((Int.gcd n d:Nat):Int) ∣ n:=Int.gcd_dvd_left ..;have g2:((Int.gcd n d:Nat):Int) ∣ d:=Int.gcd_dvd_right ..
  have p1:0<((Int.gcd n d:Nat):Int):=by have:=Int.gcd_pos_of_ne_zero_right n (show d≠0 by omega);omega
  obtain ⟨x,hx⟩:=g1;obtain ⟨y,hy⟩:=g2;generalize ((Int.gcd n d:Nat):Int)=G at *
  have q1:n / G=x:=by rw [hx];exact Int.mul_ediv_cancel_left _ oo_
  have q2:d / G=y:=by rw [hy];exact Int.mul_ediv_cancel_left _ oo_
  rw [q1,q2];rw [hx,hy] at he;exact Int.eq_of_mul_eq_mul_left (show G≠0 by omega) (by grind)
theorem rF {q:Rat}:(0:Int)<q.den:=by have:=q.den_nz;omega
theorem du_ {a b:Rt} {p q:Rat} (ha:a.At p) (hb:b.At q) (hn:d6 (p * q).num) (hd:d6 ((p * q).den:Int)):(fA a b).At (p * q):=by
  unfold fA;rw [uQ ha,uQ hb];obtain ⟨x,y,r,s,e1,e2,b1,b2,b3,b4,h1,h2,hc,he⟩:=G3 ha hb;simp only [Bool.not_true,Bool.or_false,cond_false,e1,e2,cZ];rw [o5 b1 b3,o5 b2 b4];have hps:0<y * s:=Int.mul_pos h1 h2
  have hpq:p * q=Rat.divInt (x * r) (y * s):=by
    rw [← Rat.num_divInt_den p,← Rat.num_divInt_den q,Rat.divInt_mul_divInt];exact (Rat.divInt_eq_divInt_iff (by have:=@rF p;have:=@rF q;exact Int.mul_ne_zero oo_ oo_) oo_).2 (by rw [he])
  have hnum:(p * q).num=x * r:=by
    rw [hpq,Rat.num_divInt,Int.gcd_comm,hc,Int.sign_eq_one_of_pos hps];simp
  have hden:((p * q).den:Int)=y * s:=by
    rw [hpq,Rat.den_divInt,if_neg oo_,Int.gcd_comm,hc,Nat.div_one];omega
  rw [hnum] at hn;rw [hden] at hd;exact CW hn hd hps (by rw [hnum,hden])
theorem dv_ {a b:Rt} {p q:Rat} {j k:Nat} (ha:a.At p) (hb:b.At q) (hp:Sz p j) (hq:Sz q k) (h:j+k≤512):(fA a b).At (p * q) :=
  du_ ha hb ((hp.mul hq).bn h) ((hp.mul hq).bd h)
theorem dl_ {a b:Rt} {p q:Rat} {j k:Nat} (ha:a.At p) (hb:b.At q) (hp:Sz p j) (hq:Sz q k) (h:j+k+1≤512):(eW a b).At (p+q):=by
  unfold eW;rw [uQ ha,uQ hb];simp only [Bool.not_true,Bool.or_false,cond_false];have ia:=At.is ha;have ib:=At.is hb;rw [ia.en,ia.ed,ib.en,ib.ed];simp only [cZ];have hdp:=@rF p;have hdq:=@rF q
  have hg:0<((Int.gcd (p.den:Int) (q.den:Int):Nat):Int):=by
    have:=Int.gcd_pos_of_ne_zero_right (p.den:Int) (show (q.den:Int)≠0 by omega);omega
  have hbg:=PO (u:=(p.den:Int)) ib.hd oo_;have g1:((Int.gcd (p.den:Int) (q.den:Int):Nat):Int) ∣ (p.den:Int):=Int.gcd_dvd_left ..;have g2:((Int.gcd (p.den:Int) (q.den:Int):Nat):Int) ∣ (q.den:Int):=Int.gcd_dvd_right ..;rw [CJ ia.hd ib.hd,y4 ib.hd hbg hg,y4 ia.hd hbg hg];generalize ((Int.gcd (p.den:Int) (q.den:Int):Nat):Int)=G at *;obtain ⟨x,hx⟩:=g1;obtain ⟨y,hy⟩:=g2
  have q1:(p.den:Int) / G=x:=by rw [hx];exact Int.mul_ediv_cancel_left _ oo_
  have q2:(q.den:Int) / G=y:=by rw [hy];exact Int.mul_ediv_cancel_left _ oo_
  rw [q1,q2]
  have x0:0<x:=by rw [hx] at hdp;exact Int.pos_of_mul_pos_right hdp hg
  have y0:0<y:=by rw [hy] at hdq;exact Int.pos_of_mul_pos_right hdq hg
  have xl:x≤p.den:=by rw [hx];have:=Int.mul_le_mul_of_nonneg_right (show (1:Int)≤G by omega) (Int.le_of_lt x0);omega
  have yl:y≤q.den:=by rw [hy];have:=Int.mul_le_mul_of_nonneg_right (show (1:Int)≤G by omega) (Int.le_of_lt y0);omega
  have x1:x.toNat<2 ^ j:=Nat.lt_of_le_of_lt oo_ hp.d;have y1:y.toNat<2 ^ k:=Nat.lt_of_le_of_lt oo_ hq.d
  have xe:x=(x.toNat:Int):=by omega
  have ye:y=(y.toNat:Int):=by omega
  have bx:d6 x:=FK (k:=j) (by rw [xe,Int.natAbs_natCast];exact x1) oo_
  have by':d6 y:=FK (k:=k) (by rw [ye,Int.natAbs_natCast];exact y1) oo_
  rw [o5 ia.hn by',o5 ib.hn bx,o5 bx ib.hd]
  have t1:(p.num * y).natAbs<2 ^ (j+k):=by rw [Int.natAbs_mul];exact w5 hp.n oo_
  have t2:(q.num * x).natAbs<2 ^ (j+k):=by rw [Int.natAbs_mul,Nat.mul_comm];exact w5 oo_ hq.n
  have t3:(x * (q.den:Int)).natAbs<2 ^ (j+k):=by rw [Int.natAbs_mul];exact w5 oo_ (by simpa using hq.d)
  rw [EJ (FK t1 oo_) (FK t2 oo_)]
  have t4:(p.num * y+q.num * x).natAbs<2 ^ (j+k+1):=by rw [Nat.pow_succ];omega
  refine CW (FK t4 h) (FK t3 oo_) (Int.mul_pos x0 hdq) ?_
  have key:p+q=Rat.divInt (p.num * y+q.num * x) (x * q.den):=by
    conv=>lhs;rw [← Rat.num_divInt_den p,← Rat.num_divInt_den q,Rat.divInt_add_divInt _ _ oo_ oo_]
    refine (Rat.divInt_eq_divInt_iff (Int.mul_ne_zero oo_ oo_) (Int.mul_ne_zero oo_ oo_)).2 ?_;rw [hx,hy];grind
  have h3:=Rat.num_divInt_den (p+q);rw [key] at h3 ⊢;have h4:=(Rat.divInt_eq_divInt_iff (by have:=@rF (Rat.divInt (p.num * y+q.num * x) (x * q.den));omega) (Int.mul_ne_zero oo_ oo_)).1 h3;exact h4
end Go.Num
