/- Lemmas: what they ask stands in their statements. -/
import Derived.Test.YtokjfhfiodopdaaGreatZYl
set_option linter.unusedSimpArgs false
set_option linter.unusedVariables false
namespace Go.Num
open Go Go.Kn
def AL (l:List (List I)):Prop:=∀ x∈l,x.length≤25
theorem EN:AL []:=fun x hx=>by cases hx
theorem JB {l:List (List I)} {x:List I} (h:AL l) (hx:x.length≤25):AL (l++[x]):=fun y hy=>by
 rcases List.mem_append.1 hy with hy|hy
 ·exact h y hy
 rw [List.mem_singleton.1 hy];exact hx
theorem PC {x:List I} (hx:x.length≤25):AL [x]:=JB EN hx
theorem VA {l:List (List I)} {k:Nat} {x:List I} (h:AL l) (hx:l[k]? = some x):x.length≤25:=h x (List.mem_of_getElem? hx)
theorem RS {l:List (List I)} {k:Nat} (h:AL l):(l.getD k []).length≤25:=by
 rw [List.getD_eq_getElem?_getD]
 cases hk:l[k]? with
 | none=>exact Nat.zero_le _
 | some x=>exact VA h hk
theorem XK {b:List I} (h:b.length≤25):gmP b≤50:=by
 unfold gmP
 cases b.all gdI
 ·rw [cond_false];omega
 rw [cond_true];omega
theorem yZ (out:List (List I)) (next:List I):(out++[next]).getD ((out++[next]).length - 1) []=next:=by
 simp [List.getD_eq_getElem?_getD]
theorem IT {p:List I} {n:I} (hp:p.length≤1000) (h:(bS p n).all gdI=true):p.all gdI=true∧(bS p n).length≤p.length:=by
 unfold bS at h ⊢
 cases hc:m8 n
 ·rw [hc,cond_false,C5,eS] at h;cases h
 rw [hc,cond_true] at h;rw [cond_true];rw [rQ _ hp dd_] at h ⊢;simp only [List.length_nil,Nat.max_zero,List.all_nil,Bool.and_true] at h ⊢
 cases hg:p.all gdI
 ·rw [hg,cond_false,eS] at h;cases h
 rw [hg] at h;simp only [cond_true] at h ⊢;rw [FP h];refine ⟨trivial,Nat.le_trans (uI _) ?_⟩
 simp
theorem GA (a b:List I) (hb:b.length≤1000) (h:b.all gdI=false):bD a b=badp:=by
 unfold bD;rw [kP hb,h,show ((aS a)||((!false)||((b.length:Int)==0)))=true by simp,cond_true,C5]
theorem ZT {a b:List I} {n:I} (hb:b.length≤25) (hg:(aC (bS (bD a b) n)).all gdI=true):bD a b=badp∨(aC (bS (bD a b) n)).length<b.length:=by
 have h1:=nL a b;have h2:=tT (bD a b) n;obtain ⟨h3,h4⟩:=tW oo_ hg;obtain ⟨h5,h6⟩:=IT oo_ h3
 by_cases h0:b.length=0
 ·left
  unfold bD;rw [show ((aS a)||((aS b)||((b.length:Int)==0)))=true by simp [h0],cond_true,C5]
 rcases CU a b oo_ with h7|h7
 ·exact .inl h7
 exact .inr oo_
theorem LQ {a b:List I} {n:I} (hb:b.length≤25) (hg:(aC (bS (bD a b) n)).all gdI=true):b.all gdI=true∧(aC (bS (bD a b) n)).length<b.length:=by
 have h1:=nL a b;have h2:=tT (bD a b) n;obtain ⟨h3,h4⟩:=tW oo_ hg;obtain ⟨h5,h6⟩:=IT oo_ h3
 have hg2:b.all gdI=true:=by
  cases hb2:b.all gdI
  ·have:bD a b=badp:=GA a b oo_ hb2
   rw [this,eS] at h5;cases h5
  rfl
 refine ⟨hg2,?_⟩;rcases ZT hb hg with h|h
 ·rw [h,eS] at h5;cases h5
 exact h
theorem ZR {out:List (List I)} {next a:List I} (h:(out.length+gmP next≤60∧1≤out.length)∧next.length≤25∧AL out) (h0:decide (0<(next.length:Int))=true)
  (hb:aS (aC (bS (bD a ((out++[next]).getD ((out++[next]).length - 1) [])) (E (Z.of (-1)))))=false) :
  gmP (aC (bS (bD a ((out++[next]).getD ((out++[next]).length - 1) [])) (E (Z.of (-1)))))<gmP next:=by
 rw [yZ] at hb ⊢;have hl:=cE (bS (bD a next) (E (Z.of (-1))));rw [kP oo_] at hb
 have hg:(aC (bS (bD a next) (E (Z.of (-1))))).all gdI=true:=by simpa using hb
 obtain ⟨h1,h2⟩:=LQ h.2.1 hg;unfold gmP;rw [hg,h1,cond_true,cond_true];omega
theorem bD_ {out:List (List I)} {next a:List I} (h:(out.length+gmP next≤60∧1≤out.length)∧next.length≤25∧AL out) (h0:decide (0<(next.length:Int))=true)
  (hb:aS (aC (bS (bD a ((out++[next]).getD ((out++[next]).length - 1) [])) (E (Z.of (-1)))))=false) :
  ((out++[next]).length+gmP (aC (bS (bD a ((out++[next]).getD ((out++[next]).length - 1) [])) (E (Z.of (-1)))))≤60∧1≤(out++[next]).length)∧(aC (bS (bD a ((out++[next]).getD ((out++[next]).length - 1) [])) (E (Z.of (-1))))).length≤25∧AL (out++[next]):=by
 have h1:=ZR h h0 hb
 have h2:(out++[next]).length=out.length+1:=by simp
 exact ⟨⟨by omega,by omega⟩,cE _,JB h.2.2 h.2.1⟩
theorem ZU {f next:List I} (hf:f.length≤25) (hn:next.length≤25):(([f]:List (List I)).length+gmP next≤60∧1≤([f]:List (List I)).length)∧next.length≤25∧AL [f] :=
 ⟨⟨by have:=XK hn;simp only [List.length_singleton];omega,Nat.le_refl _⟩,hn,PC hf⟩
theorem W2 (p q:List I) (f:I→I→I):Rgt (eE p q f):=by
 unfold eE
 cases (aS p||aS q)
 ·rw [cond_false,nQ];exact BC _
 exact .inl O
theorem KQ (p q:List I) (hp:p.length≤1000) (hq:q.length≤1000):Rgt (aL p q):=by
 unfold aL
 cases h:cM p q (gmP (aC q)+1) (aC p) (aC q) with
 | inr y=>rw [KB p q _ _ _ _ h];exact .inl O
 | inl s =>
  have hr:=RR p q _ _ _ s (r6 p hp) (r6 q hq) h
  show Rgt (bif _ then _ else _)
  rw [Bool.cond_eq_ite]
  split
  ·exact hr
  exact W2 _ _ _
theorem GK (p:List I):∀ (k:Nat) (out:List (List I)) (next:List I),AL out→next.length≤25→(∀ s,cT p k out next = .inl s→AL s.1)∧∀ r,cT p k out next = .inr r→r.1=[]
 | 0,out,next,ho,hn=>⟨fun s h=>(by cases h;exact ho),fun r h=>(by cases h)⟩
 | k+1,out,next,ho,hn=>by
  unfold cT
  cases h0:decide (0<(next.length:Int))
  ·exact ⟨fun s h=>(by cases h;exact ho),fun r h=>(by cases h)⟩
  rw [cond_true]
  cases hb:aS (aC (bS (bD ((out++[next]).getD ((out++[next]).length - 2) []) ((out++[next]).getD ((out++[next]).length - 1) [])) (E (Z.of (-1)))))
  ·rw [cond_false];exact GK p k _ _ (JB ho hn) (cE _)
  exact ⟨fun s h=>(by cases h),fun r h=>(by cases h;rfl)⟩
theorem GL (p:List I) (out:List (List I)) (next:List I):∀ (l:List (List I)) (r:List (List I)×Bool),cY p out next l = .inr r→r.1=[]
 | [],r,h=>by cases h
 | x::l,r,h=>by
  unfold cY at h
  cases hb:aS x
  ·rw [hb,cond_false] at h;exact GL p out next l r h
  rw [hb,cond_true] at h;cases h;rfl
theorem kX (p:List I):AL (aH p).1:=by
 unfold aH;have h0:=GK p (gmP (aC (aE (aV p)))+1) [aV p] (aC (aE (aV p))) (PC (u4 p)) (cE _)
 cases h1:cT p (gmP (aC (aE (aV p)))+1) [aV p] (aC (aE (aV p))) with
 | inr r =>
  show AL r.1
  rw [h0.2 r h1];exact EN
 | inl s =>
  show AL (sm (fun (_:Unit)=>(s.1,true)) (fun r=>r) (cY p s.1 s.2 s.1)).1
  cases h2:cY p s.1 s.2 s.1 with
  | inr r =>
   show AL r.1
   rw [GL _ _ _ _ r h2];exact EN
  | inl u=>exact h0.1 s h1
def aK (l:(List W)):(List I) :=
 (gR l)
def iY (a:W) (b:W):Iv :=
 (⟨(fE a),(fE b)⟩:Iv)
def bA (z:Zero9):W :=
 (W.add (wl 1) (W.rem (W.add (W.rem (W.cv z.times) (wl 3)) (wl 3)) (wl 3)))
def iQ (x:Rt):Bool :=
 ((bG x)&&(decide ((Z.bitsW x.n.dec).1≤12)&&decide ((Z.bitsW x.d.dec).1≤12)))
def eC (p:(List I)) (a:Rt) (b:Rt) (k:W):Bool :=
 ((dZ p 3 32)&&((iQ a)&&((iQ b)&&decide (k.1≤16))))
def gY (a:(List Iv)) (b:(List Iv)):Nat→Nat→(Nat) ⊕ (Bool)
 | 0,k=>.inl k
 | k0+1,k=>bif decide ((k:Int)<(a.length:Int)) then (bif (decide ((((a.getD k Iv0).lo).n)=(((b.getD k Iv0).lo).n))&&(decide ((((a.getD k Iv0).lo).d)=(((b.getD k Iv0).lo).d))&&(decide ((((a.getD k Iv0).hi).n)=(((b.getD k Iv0).hi).n))&&decide ((((a.getD k Iv0).hi).d)=(((b.getD k Iv0).hi).d))))) then (gY a b k0 (k+1)) else (.inr false)) else (.inl k)
def iM (a:(List Iv)) (b:(List Iv)):Bool :=
 bif ((a.length:Int) != (b.length:Int)) then false else (sm (fun (s:Nat)=>let k:Nat:=s
 true) (fun r=>r) (gY a b (a.length+1) 0))
theorem aW_ {p:List I} {d b:Int} (h:dZ p d b=true):Rgt p∧p.length≤25∧(p.length:Int)≤d+1:=by
 obtain ⟨h1,h2⟩:=CF h;have h3:=IM h1;exact ⟨h3,EL h3,h2⟩
theorem qZ (l:List I):Rgt (dC l):=by rw [BM];exact BC _
theorem sD (l:List W):Rgt (gR l):=by unfold gR;exact qZ _
theorem bx_:Rgt []:=.inr ⟨rfl,rfl,Nat.zero_le _⟩
theorem kJ (p q:List I):Rgt (cZ p q):=by
 unfold cZ
 cases (cL p||cL q)
 ·rw [cond_false,Bool.cond_eq_ite]
  split
  ·exact bx_
  exact qZ _
 exact .inl O
theorem fR (l:List W):Rgt (aK l):=sD l
theorem fQ (l:List W):(aK l).length≤25:=r9 l
theorem cv8 {a:Int} (h:-128≤a∧a≤127):(W.cv a).1=a:=cvE oo_
theorem bm_ {a b:Int} (h:(-128≤a∧a≤127)∧(-128≤b∧b≤127)):(W.cv b).1<9223372036854775807:=by rw [cv8 h.2];omega
theorem QJ {a b:Int} (h:(-128≤a∧a≤127)∧(-128≤b∧b≤127)):((W.cv b).1+1 - (W.add (W.cv a) (wl 1)).1).toNat<400:=by
 have h1:(W.add (W.cv a) (wl 1)).1=a+1:=by
  show IntKind.i64.wrap ((W.cv a).1+1)=a+1
  rw [cv8 h.1,wi oo_]
 rw [h1,cv8 h.2];omega
theorem dz_ {a:Int} (h:-128≤a∧a≤127):(W.mul (wl 2) (W.cv a)).1=2*a:=by
 show IntKind.i64.wrap (2*(W.cv a).1)=2*a
 rw [cv8 h,wi oo_]
theorem YY {a b:Int} (h:(-128≤a∧a≤127)∧(-128≤b∧b≤127)):(W.mul (wl 2) (W.cv b)).1<9223372036854775807:=by rw [dz_ h.2];omega
theorem OA {a b:Int} (h:(-128≤a∧a≤127)∧(-128≤b∧b≤127)):((W.mul (wl 2) (W.cv b)).1+1 - (W.mul (wl 2) (W.cv a)).1).toNat<800:=by
 rw [dz_ h.1,dz_ h.2];omega
def bL (l:(List Zero9)) (neg:Bool) (wide:Bool) (p:List I) (k:Nat):Nat→(List I)→Nat→List I×Nat
 | 0,q,i=>(q,i)
 | k1+1,q,i=>bif decide ((i:Int)<(bA (l.getD k cO)).1) then (bL l neg wide p k k1 (cZ q (aK [(W.neg (W.cv ((l.getD k cO).n))),(wl 8)])) (i+1)) else (q,i)
def bC (l:(List Zero9)) (neg:Bool) (wide:Bool):Nat→(List I)→Nat→List I×Nat
 | 0,p,k=>(p,k)
 | k0+1,p,k=>bif decide ((k:Int)<(l.length:Int)) then (ap (fun (s:List I×Nat)=>let q:List I:=s.1
 let i:Nat:=s.2
 (bC l neg wide k0 q (k+1))) (bL l neg wide p k ((bA (l.getD k cO)).1.toNat+1) p 0)) else (p,k)
def aP (l:(List Zero9)) (neg:Bool) (wide:Bool):(List I) :=
 bif neg then (bif wide then (ap (fun (s:List I×Nat)=>let p:List I:=s.1
 let k:Nat:=s.2
 p) (bC l neg wide (l.length+1) (aK [(wl 1),(wl 0),(wl 1)]) 0)) else (ap (fun (s:List I×Nat)=>let p:List I:=s.1
 let k:Nat:=s.2
 p) (bC l neg wide (l.length+1) (aK [(wl (-1))]) 0))) else (bif wide then (ap (fun (s:List I×Nat)=>let p:List I:=s.1
 let k:Nat:=s.2
 p) (bC l neg wide (l.length+1) (aK [(wl 1),(wl 0),(wl 1)]) 0)) else (ap (fun (s:List I×Nat)=>let p:List I:=s.1
 let k:Nat:=s.2
 p) (bC l neg wide (l.length+1) (aK [(wl 1)]) 0)))
theorem F3 (l:List Zero9) (neg wide:Bool) (p:List I) (k:Nat):∀ (f:Nat) (q:List I) (i:Nat),q.length≤25∧Rgt q→(bL l neg wide p k f q i).1.length≤25∧Rgt (bL l neg wide p k f q i).1
 | 0,q,i,h=>h
 | f+1,q,i,h=>by
  unfold bL
  cases decide ((i:Int)<(bA (l.getD k cO)).1)
  ·exact h
  rw [cond_true];exact F3 l neg wide p k f _ _ ⟨kI _ _,kJ _ _⟩
theorem FZ (l:List Zero9) (neg wide:Bool):∀ (f:Nat) (p:List I) (k:Nat),p.length≤25∧Rgt p→(bC l neg wide f p k).1.length≤25∧Rgt (bC l neg wide f p k).1
 | 0,p,k,h=>h
 | f+1,p,k,h=>by
  unfold bC
  cases decide ((k:Int)<(l.length:Int))
  ·exact h
  rw [cond_true];exact FZ l neg wide f _ _ (F3 l neg wide p k _ _ _ h)
theorem tR (l:List Zero9) (neg wide:Bool):(aP l neg wide).length≤25∧Rgt (aP l neg wide):=by
 unfold aP
 cases neg<;>cases wide<;>exact FZ l _ _ _ _ _ ⟨fQ _,fR _⟩
theorem BA (l:List Zero9) (neg wide:Bool):(aP l neg wide).length≤25:=(tR l neg wide).1
theorem BB (l:List Zero9) (neg wide:Bool):Rgt (aP l neg wide):=(tR l neg wide).2
class Rg (α:Type) [Add α] [Mul α] [OfNat α 0]:Prop where
 aa:∀ a b c:α,a+b+c=a+(b+c)
 ac:∀ a b:α,a+b=b+a
 a0:∀ a:α,a+0=a
 ma:∀ a b c:α,a*b*c=a*(b*c)
 mc:∀ a b:α,a*b=b*a
 md:∀ a b c:α,a*(b+c)=a*b+a*c
 m0:∀ a:α,a*0=0
instance:Rg Int:=⟨Int.add_assoc,Int.add_comm,Int.add_zero,Int.mul_assoc,Int.mul_comm,Int.mul_add,Int.mul_zero⟩
instance:Rg Rat:=⟨Rat.add_assoc,Rat.add_comm,Rat.add_zero,Rat.mul_assoc,Rat.mul_comm,Rat.mul_add,Rat.mul_zero⟩
theorem Rg.za {α:Type} [Add α] [Mul α] [OfNat α 0] [Rg α] (a:α):0+a=a:=by rw [Rg.ac,Rg.a0]
theorem Rg.zm {α:Type} [Add α] [Mul α] [OfNat α 0] [Rg α] (a:α):0*a=0:=by rw [Rg.mc,Rg.m0]
def fY {α:Type} [Add α] [OfNat α 0] (f:Nat→α):Nat→α
 | 0=>0
 | n+1=>fY f n+f n
theorem gA {α:Type} [Add α] [OfNat α 0] {f g:Nat→α}:∀ {n:Nat},(∀ i,i<n→f i=g i)→fY f n=fY g n
 | 0,_=>rfl
 | n+1,h=>by simp only [fY];rw [gA fun i hi=>h i (by omega),h n (by omega)]
theorem jY {α:Type} [Add α] [Mul α] [OfNat α 0] [Rg α] {f:Nat→α}:∀ {n:Nat},(∀ i,i<n→f i=0)→fY f n=0
 | 0,_=>rfl
 | n+1,h=>by simp only [fY];rw [jY fun i hi=>h i (by omega),h n (by omega),Rg.a0]
theorem yM {α:Type} [Add α] [Mul α] [OfNat α 0] [Rg α] (f g:Nat→α):∀ n:Nat,fY (fun i=>f i+g i) n=fY f n+fY g n
 | 0=>(Rg.a0 _).symm
 | n+1=>by
  simp only [fY];rw [yM f g n,Rg.aa,Rg.aa,← Rg.aa (fY g n),Rg.ac (fY g n) (f n),Rg.aa]
theorem rB {α:Type} [Add α] [Mul α] [OfNat α 0] [Rg α] (c:α) (f:Nat→α):∀ n:Nat,fY (fun i=>c*f i) n=c*fY f n
 | 0=>(Rg.m0 _).symm
 | n+1=>by simp only [fY];rw [rB c f n,Rg.md]
theorem C2 {α:Type} [Add α] [Mul α] [OfNat α 0] [Rg α] (c:α) (f:Nat→α) (n:Nat):fY (fun i=>f i*c) n=fY f n*c:=by
 rw [Rg.mc _ c,← rB];exact gA fun i _=>Rg.mc _ _
theorem wW {α:Type} [Add α] [Mul α] [OfNat α 0] [Rg α] (f:Nat→α):∀ n:Nat,fY f (n+1)=f 0+fY (fun i=>f (i+1)) n
 | 0=>by simp only [fY];rw [Rg.ac]
 | n+1=>by rw [fY,wW f n,Rg.aa];rfl
theorem O0 {α:Type} [Add α] [Mul α] [OfNat α 0] [Rg α] (f:Nat→α):∀ n:Nat,fY f n=fY (fun i=>f (n - 1 - i)) n
 | 0=>rfl
 | n+1=>by
  rw [wW (fun i=>f (n+1 - 1 - i)),fY,Rg.ac,O0 f n];rw [show n+1 - 1 - 0=n by omega]
  congr 1
  exact gA fun i hi=>congrArg f (by omega)
theorem nY {α:Type} [Add α] [Mul α] [OfNat α 0] [Rg α] {f:Nat→α} {n:Nat} (h:∀ i,n≤i→f i=0):∀ m:Nat,n≤m→fY f m=fY f n
 | 0,hm=>by rw [show n=0 by omega]
 | m+1,hm=>by
  rcases Nat.lt_or_ge n (m+1) with g|g
  ·rw [fY,h m (by omega),Rg.a0,nY h m (by omega)]
  rw [show n=m+1 by omega]
theorem GO {α:Type} [Add α] [Mul α] [OfNat α 0] [Rg α] {f:Nat→α} {a:Nat} (h:∀ i,i≠a→f i=0) {n:Nat} (hn:a<n):fY f n=f a:=by
 rw [nY (n:=a+1) (fun i hi=>h i (by omega)) n hn,fY,jY fun i hi=>h i (by omega),Rg.za]
theorem GP {α:Type} [Add α] [Mul α] [OfNat α 0] [Rg α] (f:Nat→Nat→α):∀ n:Nat,fY (fun k=>fY (fun i=>f i (k - i)) (k+1)) n=fY (fun i=>fY (fun j=>f i j) (n - i)) n
 | 0=>rfl
 | n+1=>by
  rw [fY,GP f n]
  rw [gA (f:=fun i=>fY (fun j=>f i j) (n+1 - i)) (g:=fun i=>fY (fun j=>f i j) (n - i)+f i (n - i)) (fun i hi=>by
   rw [show n+1 - i=n - i+1 by omega];rfl)]
  rw [yM]
  congr 1
  rw [fY,Nat.sub_self,fY,Rg.a0]
def conv {α:Type} [Add α] [Mul α] [OfNat α 0] (c d:Nat→α) (k:Nat):α:=fY (fun i=>c i*d (k - i)) (k+1)
theorem rH {α:Type} [Add α] [Mul α] [OfNat α 0] [Rg α] (c d:Nat→α):conv c d=conv d c:=by
 funext k
 unfold conv;rw [O0];refine gA fun i hi=>?_;rw [Rg.mc,show k - (k+1 - 1 - i)=i by omega,show k+1 - 1 - i=k - i by omega]
theorem AR {α:Type} [Add α] [Mul α] [OfNat α 0] [Rg α] (c d e:Nat→α):conv c (fun i=>d i+e i)=fun k=>conv c d k+conv c e k:=by
 funext k
 unfold conv;rw [← yM];exact gA fun i _=>Rg.md _ _ _
theorem WN {α:Type} [Add α] [Mul α] [OfNat α 0] [Rg α] (a:α) (c d:Nat→α):conv (fun i=>a*c i) d=fun k=>a*conv c d k:=by
 funext k
 unfold conv;rw [← rB];exact gA fun i _=>Rg.ma _ _ _
theorem qN {α:Type} [Add α] [Mul α] [OfNat α 0] [Rg α] (a:α) (c d:Nat→α):conv c (fun i=>a*d i)=fun k=>a*conv c d k:=by
 rw [rH,WN,rH]
theorem E0 {α:Type} [Add α] [Mul α] [OfNat α 0] [Rg α] (c d e:Nat→α):conv (conv c d) e=conv c (conv d e):=by
 funext k
 unfold conv;have h:=GP (fun j m=>c j*(d m*e (k - j - m))) (k+1);refine Eq.trans (gA fun i hi=>?_) (h.trans (gA fun i hi=>?_))
 ·rw [← C2]
  refine gA fun j hj=>?_;rw [Rg.ma,show k - j - (i - j)=k - i by omega]
 rw [rB,show k+1 - i=k - i+1 by omega]
theorem lQ {α:Type} [Add α] [Mul α] [OfNat α 0] [Rg α] {c d:Nat→α} {n m:Nat} (hc:∀ i,n≤i→c i=0) (hd:∀ i,m≤i→d i=0) (k:Nat) (hk:n+m≤k+1):conv c d k=0:=by
 refine jY fun i hi=>?_;rcases Nat.lt_or_ge i n with h|h
 ·rw [hd _ (by omega),Rg.m0]
 rw [hc _ h,Rg.zm]
theorem nR {α:Type} [Add α] [Mul α] [OfNat α 0] [Rg α] {c d:Nat→α} {n m:Nat} (hc:∀ i,n<i→c i=0) (hd:∀ i,m<i→d i=0):conv c d (n+m)=c n*d m:=by
 unfold conv;rw [GO (a:=n) (fun i hi=>?_) (by omega),show n+m - n=m by omega];rcases Nat.lt_or_ge n i with h|h
 ·rw [hc _ h,Rg.zm]
 rw [hd _ (by omega),Rg.m0]
def cR (c:Nat→Int) (i:Nat):Rat:=(c i:Rat)
theorem GQ (f:Nat→Int):∀ n:Nat,((fY f n:Int):Rat)=fY (fun i=>(f i:Rat)) n
 | 0=>rfl
 | n+1=>by simp only [fY];rw [Rat.intCast_add,GQ f n]
theorem CA (c d:Nat→Int):cR (conv c d)=conv (cR c) (cR d):=by
 funext k
 unfold cR conv;rw [GQ];exact gA fun i _=>Rat.intCast_mul ..
theorem y5 (q:Rat):q*((q.den:Int):Rat)=((q.num:Int):Rat):=by
 have h:=Rat.num_divInt_den q;rw [Rat.divInt_eq_div,Rat.div_def] at h;have h0:((q.den:Int):Rat)≠0:=fun h=>q.den_nz (by have:=Rat.intCast_eq_zero_iff.1 h;omega)
 have e:(((q.num:Int):Rat)*((q.den:Int):Rat)⁻¹)*((q.den:Int):Rat)=((q.num:Int):Rat):=by rw [Rat.mul_assoc,Rat.inv_mul_cancel _ h0,Rat.mul_one]
 rw [h] at e;exact e
theorem I0_E:I0=E (Z.of 0):=rfl
theorem vI0:vI I0=0:=aa_ B0
theorem LR {u v:Int} (hu:cX u) (hv:cX v):Z.sub (Z.of u) (Z.of v)=Z.of (u - v):=by
 rw [Z.sub,P6 hv,ER hu (show (-v).natAbs<_ by rw [Int.natAbs_neg];exact hv),Int.sub_eq_add_neg]
theorem Q8 {u:Int} (hu:cX u):Z.abs (Z.of u)=Z.of (u.natAbs:Nat):=by rw [Z.abs,kM (Z.of_some hu)]
structure Po (p:List I) (c:Nat→Int):Prop where
 g:p.all gdI=true
 s:jI p=p
 l:p.length≤25
 c:∀ k,vI (p.getD k I0)=c k
section
variable {p q:List I} {c d:Nat→Int}
theorem Po.rgt (h:Po p c):Rgt p:=.inr ⟨h.g,h.s,h.l⟩
theorem AC (h:Rgt p) (hg:p.all gdI=true):Po p (fun k=>vI (p.getD k I0)):=by
 rcases h with rfl|h
 ·rw [eS] at hg;cases hg
 exact ⟨h.1,h.2.1,h.2.2,fun _=>rfl⟩
theorem RT (h:p.all gdI=true) (k:Nat):gdI (p.getD k I0)=true:=by
 by_cases hk:k<p.length
 ·rw [show p.getD k I0=p[k] by simp [List.getD,hk]]
  exact List.all_eq_true.1 h _ (List.getElem_mem hk)
 rw [mK oo_];exact NK B0
theorem Po.get (h:Po p c) (k:Nat):p.getD k I0=E (Z.of (c k)):=by rw [← h.c k];exact (zL (RT h.g k)).1
theorem Po.B (h:Po p c) (k:Nat):cX (c k):=by rw [← h.c k];exact (zL (RT h.g k)).2
theorem Po.zero (h:Po p c) {k:Nat} (hk:p.length≤k):c k=0:=by rw [← h.c k,mK hk,vI0]
theorem Po.last (h:Po p c) {n:Nat} (hn:p.length=n+1):c n≠0:=by
 rcases oM p with rfl|⟨m,x,rfl⟩
 ·cases hn
 have h1:=AE h.s
 have h2:n=m.length:=by simp at hn;omega
 have h3:=h.get n;rw [show (m++[x]).getD n I0=x by simp [h2]] at h3;rw [h3,ai_ (h.B n)] at h1;exact of_decide_eq_false h1
theorem Po.short (h:Po p c) {n:Nat} (hz:∀ k,n≤k→c k=0):p.length≤n:=by
 rcases Nat.lt_or_ge n p.length with g|g
 ·exact absurd (hz (p.length - 1) oo_) (h.last oo_)
 exact g
theorem Po.eq (h:Po p c) (g:Po q c):p=q:=by
 have e:p.length=q.length:=Nat.le_antisymm (h.short fun k hk=>g.zero hk) (g.short fun k hk=>h.zero hk);refine List.ext_getElem e fun k h1 h2=>?_;have a:=h.get k;rw [← g.get k] at a
 simpa [List.getD,h1,h2] using a
theorem Po.cast (h:Po p c) (e:∀ k,c k=d k):Po p d:=⟨h.g,h.s,h.l,fun k=>(h.c k).trans (e k)⟩
theorem B4:Po [] (fun _=>0):=⟨rfl,rfl,by decide,fun k=>by rw [show ([]:List I).getD k I0=I0 by simp];exact vI0⟩
theorem Po.nil (h:Po p c) (hz:∀ k,c k=0):p=[]:=(h.cast hz).eq B4
theorem BV:∀ (n:Nat) (l:List I),l.length≤n→∀ k,(jI l).length≤k→zrI (l.getD k I0)=true
 | 0,l,h,k,_=>by
  rw [mK oo_];exact zr0
 | n+1,l,h,k,hk=>by
  rcases oM l with rfl|⟨m,x,rfl⟩
  ·rw [show ([]:List I).getD k I0=I0 by simp];exact zr0
  rw [oN] at hk
  cases hx:zrI x
  ·rw [hx,cond_false] at hk
   rw [mK hk];exact zr0
  rw [hx,cond_true] at hk;rcases Nat.lt_trichotomy k m.length with g|g|g
  ·rw [show (m++[x]).getD k I0=m.getD k I0 by simp [List.getD,List.getElem?_append_left g]]
   exact BV n m (by simp at h;omega) k hk
  ·rw [show (m++[x]).getD k I0=x by simp [g]];exact hx
  rw [mK (by simp;omega)];exact zr0
theorem z6 {l:List I} (h:∀ k,l.getD k I0=E (Z.of (c k))) (hB:∀ k,cX (c k)) (hz:∀ k,25≤k→c k=0):Po (mkP l) c:=by
 have hg:l.all gdI=true:=List.all_eq_true.2 fun x hx=>by
  obtain ⟨k,hk,rfl⟩:=List.getElem_of_mem hx;have e:=h k;rw [show l.getD k I0=l[k] by simp [List.getD,hk]] at e;rw [e];exact NK (hB k)
 have hl:(jI l).length≤25:=yJ _ l (Nat.le_refl _) fun j hj=>by rw [h j,hz j hj];exact zr0
 have e:mkP l=jI l:=by unfold mkP;rw [hg,cond_true,if_pos hl]
 rw [e];refine ⟨IX hg,GM l,hl,fun k=>?_⟩
 by_cases hk:k<(jI l).length
 ·have e2:(jI l).getD k I0=l.getD k I0:=by
   rw [tG l];simp only [List.getD,List.getElem?_take,hk,if_true]
  rw [e2,h k,aa_ (hB k)]
 have:=BV _ l (Nat.le_refl _) k oo_;rw [h k,ai_ (hB k)] at this;rw [mK oo_,vI0,of_decide_eq_true this]
theorem GS (f:Nat→I) (n k:Nat):((List.range n).map f).getD k I0=if k<n then f k else I0:=by
 by_cases h:k<n<;>simp [List.getD,h]
theorem GR {f:Nat→I} {n:Nat} (h:∀ k,k<n→f k=E (Z.of (c k))) (h0:∀ k,n≤k→c k=0) (hB:∀ k,cX (c k)) (hz:∀ k,25≤k→c k=0):Po (mkP ((List.range n).map f)) c:=by
 refine z6 (fun k=>?_) hB hz;rw [GS]
 split
 ·exact h k ‹_›
 rw [h0 k oo_];rfl
theorem Po.l3 (h:Po p c):p.length≤1000:=Nat.le_trans h.l dd_
theorem CW (h:Rgt p):p.length≤1000:=Nat.le_trans (EL h) dd_
theorem Po.nb (h:Po p c):aS p=false:=by rw [kP h.l3,h.g];rfl
theorem JV {e:Nat→Int} {f:I→I→I} (h:Po p c) (g:Po q d) (hf:∀ k,f (E (Z.of (c k))) (E (Z.of (d k)))=E (Z.of (e k))) (hB:∀ k,cX (e k)) (h0:∀ k,c k=0→d k=0→e k=0):Po (eE p q f) e:=by
 rw [rQ f h.l3 g.l3,h.g,g.g,Bool.and_true,cond_true];have hl:=h.l;have gl:=g.l;refine GR (fun k _=>?_) (fun k hk=>?_) hB (fun k hk=>?_)
 ·rw [h.get,g.get,hf]
 ·exact h0 k (h.zero oo_) (g.zero oo_)
 exact h0 k (h.zero oo_) (g.zero oo_)
theorem MH {a:Int} (h:Po p c) (ha:cX a) (hB:∀ k,cX (c k*a)):Po (bS p (E (Z.of a))) (fun k=>c k*a):=by
 unfold bS;rw [show m8 (E (Z.of a))=true from NK ha,cond_true];exact JV h B4 (fun k=>by unfold mW;rw [cJ,cJ,n6 (h.B k) ha]) hB (fun k h1 _=>by rw [h1,Int.zero_mul])
theorem HS (h:Po p c) (hB:∀ k,cX (((k+1:Nat):Int)*c (k+1))):Po (aE p) (fun k=>((k+1:Nat):Int)*c (k+1)):=by
 have hl:=h.l;unfold aE;rw [h.nb,cond_false,nQ];refine GR (fun k hk=>?_) (fun k hk=>?_) hB (fun k hk=>?_)
 ·unfold kB
  rw [h.get,cJ,n6 (show ((k+1:Nat):Int).natAbs<4294967296 ^ 16 from Nat.lt_of_lt_of_le (show _<4294967296 by omega) (Nat.le_self_pow dd_ _)) (h.B _)];rfl
 ·rw [h.zero oo_,Int.mul_zero]
 rw [h.zero oo_,Int.mul_zero]
theorem YK (h:Po p c) (g:Po q d) (k:Nat) (hs:∀ t,cX (fY (fun i=>c i*d (k - i)) t)) (hm:∀ i j,cX (c i*d j)) :
  ∀ (t i:Nat),k+1 - i<t→i≤k+1→(eO k q p t i (E (Z.of (fY (fun i=>c i*d (k - i)) i)))).2=E (Z.of (conv c d k))
 | 0,i,ht,_=>absurd ht (Nat.not_lt_zero _)
 | t+1,i,ht,hi=>by
  unfold eO;have e:∀ a b,a≤b→p.length≤a→fY (fun i=>c i*d (k - i)) b=fY (fun i=>c i*d (k - i)) a:=fun a b hab hpa =>
   nY (fun j hj=>by rw [h.zero oo_,Int.zero_mul]) b hab
  by_cases hk:(i:Int)≤min (k:Int) ((p.length:Int) - 1)
  ·rw [decide_eq_true hk,cond_true,h.get,g.get,cJ,cJ,cJ,n6 (h.B _) (g.B _),ER (hs _) (hm _ _)]
   exact YK h g k hs hm t (i+1) oo_ oo_
  rw [decide_eq_false hk,cond_false]
  show E (Z.of _)=E (Z.of (fY _ (k+1)))
  rcases Nat.lt_or_ge i (k+1) with h1|h1
  ·rw [← e i (k+1) oo_ oo_]
  rw [show i=k+1 by omega]
theorem cN_ (h:Po p c) (g:Po q d) (hs:∀ k t,cX (fY (fun i=>c i*d (k - i)) t)) (hm:∀ i j,cX (c i*d j)) (hl:p.length+q.length≤26):Po (fK p q) (conv c d):=by
 unfold fK;rw [h.nb,g.nb,Bool.or_false,cond_false]
 by_cases h0:p=[]
 ·subst h0
  rw [show (((([]:List I).length:Int)==0)||((q.length:Int)==0))=true by simp,cond_true];exact B4.cast fun k=>Eq.symm (jY fun i _=>by rw [h.zero (Nat.zero_le _),Int.zero_mul])
 by_cases g0:q=[]
 ·subst g0
  rw [show (((p.length:Int)==0)||((([]:List I).length:Int)==0))=true by simp,cond_true];refine B4.cast fun k=>Eq.symm (jY fun i _=>?_);rw [g.zero (Nat.zero_le _),Int.mul_zero]
 have h1:0<p.length:=List.length_pos_iff.2 h0;have h2:0<q.length:=List.length_pos_iff.2 g0
 rw [show (((p.length:Int)==0)||((q.length:Int)==0))=false by
  rw [Bool.or_eq_false_iff];exact ⟨beq_eq_false_iff_ne.2 oo_,beq_eq_false_iff_ne.2 oo_⟩,cond_false,nQ]
 have hz:∀ k,p.length+q.length≤k+1→conv c d k=0:=fun k hk=>lQ (fun i hi=>h.zero hi) (fun i hi=>g.zero hi) k hk;refine GR (fun k _=>?_) (fun k hk=>hz k oo_) (fun k=>hs k (k+1)) (fun k hk=>hz k oo_);unfold jM
 show (eO _ _ _ _ _ _).2=_
 rw [show I0=E (Z.of (fY (fun i=>c i*d (k - i)) ((k:Int) - (q.length:Int)+1).toNat)) by
  rw [jY fun i hi=>by rw [g.zero oo_,Int.mul_zero]];rfl]
 exact YK h g k (hs k) hm _ _ oo_ oo_
theorem aj_ {v:Int} {k:Nat} (m:Nat) (hm:4294967296 ^ 16=2 ^ m) (h:v.natAbs<2 ^ k) (hk:k≤m):cX v:=by
 unfold cX;rw [hm];exact Nat.lt_of_lt_of_le h (Nat.pow_le_pow_right dd_ hk)
theorem n4 {v:Int} {k:Nat} (h:v.natAbs<2 ^ k) (hk:k≤512):cX v:=aj_ 512 LY h hk
structure Bd (c:Nat→Int) (n b:Nat):Prop where
 z:∀ k,n≤k→c k=0
 b:∀ k,(c k).natAbs<2 ^ b
variable {n m b b':Nat}
theorem Bd.mono (h:Bd c n b) {n' b1:Nat} (hn:n≤n') (hb:b≤b1):Bd c n' b1:=⟨fun k hk=>h.z k oo_,fun k=>Nat.lt_of_lt_of_le (h.b k) (Nat.pow_le_pow_right dd_ hb)⟩
theorem Bd.B (h:Bd c n b) (hb:b≤512) (k:Nat):cX (c k):=n4 (h.b k) hb
theorem Bd.add (h:Bd c n b) (g:Bd d m b):Bd (fun k=>c k+d k) (max n m) (b+1) :=
 ⟨fun k hk=>by show c k+d k=0;rw [h.z k oo_,g.z k oo_];rfl,fun k=>by
  show (c k+d k).natAbs<_
  have h1:=h.b k;have h2:=g.b k;have h3:=Int.natAbs_add_le (c k) (d k)
  rw [Nat.pow_succ];omega⟩
theorem xZ {u v:Int} (h:u.natAbs<2 ^ b) (g:v.natAbs<2 ^ b'):(u*v).natAbs<2 ^ (b+b'):=by
 rw [Int.natAbs_mul,Nat.pow_add];exact Nat.mul_lt_mul_of_lt_of_le h (Nat.le_of_lt g) (Nat.pow_pos dd_)
theorem LT {f:Nat→Int} {A:Nat} (h:∀ i,(f i).natAbs≤A):∀ t:Nat,(fY f t).natAbs≤t*A
 | 0=>by simp [fY]
 | t+1=>by
  have h1:=LT h t;have h2:=h t;have h3:=Int.natAbs_add_le (fY f t) (f t);rw [Nat.succ_mul];show (fY f t+f t).natAbs≤_;omega
theorem ZW {f:Nat→Int} {e:Nat} (h:∀ i,(f i).natAbs<2 ^ b) (hz:∀ i,n≤i→f i=0) (hn:n≤2 ^ e) (t:Nat):(fY f t).natAbs<2 ^ (b+e):=by
 have hb:0<2 ^ b:=Nat.pow_pos dd_
 have k1:∀ t,t≤n→(fY f t).natAbs<2 ^ (b+e):=fun t ht=>by
  have h1:=LT (f:=f) (A:=2 ^ b - 1) (fun i=>by have:=h i;omega) t;have h2:t*(2 ^ b - 1)≤2 ^ e*(2 ^ b - 1):=Nat.mul_le_mul_right _ oo_;have h3:2 ^ e*(2 ^ b - 1)<2 ^ e*2 ^ b:=Nat.mul_lt_mul_of_pos_left oo_ (Nat.pow_pos dd_);rw [Nat.pow_add,Nat.mul_comm (2 ^ b)];omega
 rcases Nat.lt_or_ge n t with g|g
 ·rw [nY hz t oo_];exact k1 n (Nat.le_refl _)
 exact k1 t g
theorem H1 (h:Bd c n b) (g:Bd d m b') {e:Nat} (hn:n≤2 ^ e) (k t:Nat):(fY (fun i=>c i*d (k - i)) t).natAbs<2 ^ (b+b'+e) :=
 ZW (n:=n) (fun i=>xZ (h.b _) (g.b _)) (fun i hi=>by rw [h.z i hi,Int.zero_mul]) hn t
theorem Bd.conv (h:Bd c n b) (g:Bd d m b') {e:Nat} (hn:n≤2 ^ e):Bd (conv c d) (n+m - 1) (b+b'+e) :=
 ⟨fun k hk=>lQ h.z g.z k oo_,fun k=>H1 h g hn k (k+1)⟩
theorem Po.len (h:Po p c) (hb:Bd c n b):p.length≤n:=h.short hb.z
theorem cM_ (h:Po p c) (g:Po q d) (hb:Bd c n b) (gb:Bd d m b') {e:Nat} (hn:n≤2 ^ e) (hl:n+m≤26) (hk:b+b'+e≤512):Po (fK p q) (conv c d) :=
 cN_ h g (fun k t=>n4 (H1 hb gb hn k t) hk) (fun i j=>n4 (xZ (hb.b i) (gb.b j)) oo_) (by have:=h.len hb;have:=g.len gb;omega)
theorem JO {v:Int} (hv:cX v) {b:Int} (h:(Z.bitsW (Z.of v)).1≤b):v.natAbs<2 ^ b.toNat:=by
 have h1:((Z.of v).bits:Int)≤b:=h;unfold Z.bits at h1;rw [Z.of_some hv] at h1;simp only at h1;exact Nat.lt_of_lt_of_le (MQ _) (Nat.pow_le_pow_right dd_ oo_)
theorem ND (p:List I) (a b:Int):∀ (k i:Nat),p.length - i<k→(sm (fun _:Nat=>true) (fun r=>r) (gL p a b k i))=true→∀ j,i≤j→j<p.length→(Z.bitsW (p.getD j I0).dec).1≤b
 | 0,i,h,_,_,_,_=>absurd h (Nat.not_lt_zero _)
 | k+1,i,h,hs,j,hj,hl=>by
  unfold gL at hs;rw [decide_eq_true (show (i:Int)<(p.length:Int) by omega),cond_true] at hs
  by_cases hb:b<(Z.bitsW (p.getD i I0).dec).1
  ·rw [decide_eq_true hb] at hs;cases hs
  rw [decide_eq_false hb,cond_false] at hs;rcases Nat.lt_or_ge i j with g|g
  ·exact ND p a b k (i+1) oo_ hs j oo_ hl
  rw [show j=i by omega];omega
theorem W9 {a b:Int} (h:dZ p a b=true) (hg:p.all gdI=true):∃ c,Po p c∧Bd c (a+1).toNat b.toNat:=by
 have h1:=eN_ (p:=p) (d:=a) (b:=b) (by rw [h];rfl);have h2:=CF h;have hp:=AC h1.1 hg;refine ⟨_,hp,fun k hk=>hp.zero oo_,fun k=>?_⟩
 by_cases hk:k<p.length
 ·unfold dZ at h
  rw [h2.1,decide_eq_false oo_] at h;have h3:=ND p a b _ 0 oo_ h k oo_ hk;rw [hp.get k,cJ] at h3;exact JO (hp.B k) h3
 show (vI (p.getD k I0)).natAbs<_
 rw [mK oo_,vI0];exact Nat.pow_pos dd_
theorem Q2 (hp:p.length≤1000) (hq:q.length≤1000) (h:p.all gdI=false∨q.all gdI=false):lS p q=badp:=by
 unfold lS;rw [rQ _ hp hq,show (p.all gdI&&q.all gdI)=false by rcases h with h|h<;>simp [h]];rfl
theorem Q5 (hp:p.length≤1000) (hq:q.length≤1000) (h:p.all gdI=false∨q.all gdI=false):fK p q=badp:=by
 unfold fK;rw [kP hp,kP hq,show (!p.all gdI || !q.all gdI)=true by rcases h with h|h<;>simp [h]];rfl
end
open Go Go.Kn
theorem JW {u g:Int} (hu:cX u) (hg:0<g):cX (u / g):=by
 unfold cX at *;have h1:=Int.mul_ediv_add_emod u g;have h2:=Int.emod_nonneg u (by omega:g≠0);have h3:=Int.emod_lt_of_pos u hg
 have h4:(u / g).natAbs≤u.natAbs:=by
  rcases Int.lt_or_le u 0 with h|h
  ·have h5:u / g<0:=Int.ediv_neg_of_neg_of_pos h hg
   have h6:u≤u / g:=by
    have h7:g*(u / g)≤u / g:=by
     have:=Int.mul_le_mul_of_nonpos_right (show (1:Int)≤g by omega) (Int.le_of_lt h5);omega
    have h8:u<g*(u / g)+g:=by omega
    rcases Int.lt_or_le u (g*(u / g)) with h9|h9
    ·omega
    have h10:(g - 1)*(u / g) ≤ -(g - 1):=by
     have:=Int.mul_le_mul_of_nonneg_left (show u / g ≤ -1 by omega) (show 0≤g - 1 by omega);omega
    have h11:g*(u / g)=(g - 1)*(u / g)+u / g:=by rw [Int.sub_mul];omega
    omega
   omega
  have h5:0≤u / g:=Int.ediv_nonneg h oo_;have h6:u / g≤u:=Int.ediv_le_self _ h;omega
 omega
theorem JX {u g:Int} (hg:0<g) (hb:cX g):cX (u % g):=by
 unfold cX at *;have h2:=Int.emod_nonneg u (by omega:g≠0);have h3:=Int.emod_lt_of_pos u hg;omega
theorem ST {u v:Int} (hu:cX u) (hv:cX v) (h:0<v):Z.rem (Z.of u) (Z.of v)=Z.of (u % v):=by
 rw [Z.rem,dG (Z.of_some hu) (Z.of_some hv),if_neg oo_,Int.fmod_eq_emod_of_nonneg _ oo_]
theorem wR {u v:Int} (hu:cX u) (hv:cX v) (h:0<v):Z.quo (Z.of u) (Z.of v)=Z.of (u / v):=by
 rw [CR hu hv oo_,E9 h]
theorem JQ {u v:Int} (hu:cX u) (hv:cX v):(Z.cmpW (Z.of u) (Z.of v)).1=(u - v).sign:=by
 show Z.cmp _ _=_
 unfold Z.cmp;rw [Z.of_some hu,Z.of_some hv];simp only;rcases Int.lt_trichotomy u v with h|h|h
 ·rw [AP h,Int.sign_eq_neg_one_of_neg oo_]
 ·subst h;rw [JP,Int.sub_self];rfl
 rw [AO h,Int.sign_eq_one_of_pos oo_]
theorem AH {n:Int} (h:-4≤n∧n≤4):IntKind.i64.wrap n=n:=wi ⟨by omega,by omega⟩
theorem BT (x:Int):-1≤x.sign∧x.sign≤1:=by
 rcases Int.lt_trichotomy x 0 with h|h|h
 ·rw [Int.sign_eq_neg_one_of_neg h];omega
 ·subst h;decide
 rw [Int.sign_eq_one_of_pos h];omega
theorem cc_ {o x:W} (ho:o.1=1∨o.1 = -1) (hx:-2≤x.1∧x.1≤2):(W.mul o x).1=o.1*x.1:=by
 show IntKind.i64.wrap (o.1*x.1)=_
 refine AH ?_;rcases ho with h|h<;>rw [h]<;>omega
theorem cd_ {o:W} (ho:o.1=1∨o.1 = -1):(W.neg o).1 = -o.1:=by
 show IntKind.i64.wrap (0 - o.1)=_
 rw [AH oo_];omega
theorem ZN {b d p r s:Int} (hb:0<b) (hd:0<d) (h0:p≠0) (hr:0≤r) (hrb:r<b) (hs:0≤s) (hsd:s<d):(b*d*p+(r*d - s*b)).sign=p.sign:=by
 have hbd:0<b*d:=Int.mul_pos hb hd;have h1:r*d<b*d:=Int.mul_lt_mul_of_pos_right hrb hd;have h2:s*b<d*b:=Int.mul_lt_mul_of_pos_right hsd hb;have h3:0≤r*d:=Int.mul_nonneg hr oo_;have h4:0≤s*b:=Int.mul_nonneg hs oo_;rw [Int.mul_comm d b] at h2;rcases Int.lt_trichotomy p 0 with h|h|h
 ·rw [Int.sign_eq_neg_one_of_neg h,Int.sign_eq_neg_one_of_neg]
  have:b*d*p≤b*d*(-1):=Int.mul_le_mul_of_nonneg_left oo_ oo_;omega
 ·exact absurd h h0
 rw [Int.sign_eq_one_of_pos h,Int.sign_eq_one_of_pos];have:b*d*1≤b*d*p:=Int.mul_le_mul_of_nonneg_left oo_ oo_;omega
theorem aI_:∀ (k:Nat) (o:W) (a b c d:Int),b.toNat≤k→0<b→0<d→cX a→cX b→cX c→cX d→(o.1=1∨o.1 = -1) →
  (cf k o (E (Z.of a)) (E (Z.of b)) (E (Z.of c)) (E (Z.of d))).1=o.1*(a*d - c*b).sign:=by
 intro k
 induction k with
 | zero=>intro o a b c d hk hb;omega
 | succ k ih =>
  intro o a b c d hk hb hd ha hb' hc hd' ho;unfold cf;simp only [cJ];rw [wR ha hb' hb,wR hc hd' hd,ST ha hb' hb,ST hc hd' hd,j7 (JX hb hb'),j7 (JX hd hd'),JQ (JW ha hb) (JW hc hd)];have e1:=Int.mul_ediv_add_emod a b;have e2:=Int.mul_ediv_add_emod c d;have r1:=Int.emod_nonneg a (by omega:b≠0);have r2:=Int.emod_lt_of_pos a hb;have s1:=Int.emod_nonneg c (by omega:d≠0);have s2:=Int.emod_lt_of_pos c hd;have hrB:=JX (u:=a) hb hb';have hsB:=JX (u:=c) hd hd';have hpB:=JW ha hb;have hqB:=JW hc hd;generalize hp:a / b=p at *;generalize hr:a % b=r at *;generalize hq:c / d=q at *;generalize hs:c % d=s at *
  have key:a*d - c*b=b*d*(p - q)+(r*d - s*b):=by
   rw [← e1,← e2];grind
  rw [key]
  by_cases hpq:p=q
  ·have h1:(p - q).sign=0:=by rw [hpq,Int.sub_self];rfl
   have h2:b*d*(p - q)+(r*d - s*b)=r*d - s*b:=by rw [hpq];grind
   rw [h1,h2];have h3:((0:Int) != 0)=false:=rfl;rw [h3];simp only [cond_false]
   by_cases h0:r=0∨s=0
   ·have h4:((r.sign==0)||(s.sign==0))=true:=by
     rcases h0 with h|h<;>subst h<;>simp
    rw [h4];simp only [cond_true];have h5:=BT r;have h6:=BT s
    have e5:(W.sub (Z.signW (Z.of r)) (Z.signW (Z.of s))).1=r.sign - s.sign:=by
     show IntKind.i64.wrap ((Z.signW (Z.of r)).1 - (Z.signW (Z.of s)).1)=_
     rw [j7 hrB,j7 hsB];exact AH oo_
    rw [cc_ ho (by rw [e5];omega),e5]
    congr 1
    rcases h0 with h|h
    ·subst h
     rw [Int.zero_mul,Int.zero_sub,Int.sign_neg,Int.sign_mul,Int.sign_eq_one_of_pos hb];simp
    subst h;rw [Int.zero_mul,Int.sub_zero,Int.sign_mul,Int.sign_eq_one_of_pos hd];simp
   have hr0:0<r:=by omega
   have hs0:0<s:=by omega
   have h4:((r.sign==0)||(s.sign==0))=false:=by
    rw [Int.sign_eq_one_of_pos hr0,Int.sign_eq_one_of_pos hs0];rfl
   rw [h4];simp only [cond_false];rw [ih _ _ _ _ _ oo_ hr0 hs0 hb' hrB hd' hsB (by rw [cd_ ho];omega),cd_ ho]
   have:b*s - d*r = -(r*d - s*b):=by grind
   rw [this,Int.sign_neg,Int.neg_mul_neg]
  have h1:((p - q).sign != 0)=true:=by
   rcases Int.lt_trichotomy (p - q) 0 with h|h|h
   ·rw [Int.sign_eq_neg_one_of_neg h];rfl
   ·omega
   rw [Int.sign_eq_one_of_pos h];rfl
  rw [h1];simp only [cond_true];rw [cc_ ho (by rw [JQ hpB hqB];have:=BT (p - q);omega),JQ hpB hqB];rw [ZN hb hd oo_ r1 r2 s1 s2]
theorem c9_ {d:Int} (h:cX d):cfN (E (Z.of d))=d.toNat:=by
 unfold cfN;rw [cJ,Z.of_some h]
theorem yR {a:Rt} {n d:Int} (h:a.Is n d):bG a=true:=eq_.2 ⟨n,d,h⟩
theorem cG_ {a b:Rt} {n d m e:Int} (ha:a.Is n d) (hb:b.Is m e):(jW a b).1=(n*e - m*d).sign:=by
 unfold jW;rw [mU,mU,yR ha,yR hb];simp only [Bool.not_true,Bool.and_false,cond_true,cond_false];rw [ha.en,ha.ed,hb.en,hb.ed,c9_ ha.hd,aI_ _ _ _ _ _ _ (Nat.le_refl _) ha.pos hb.pos ha.hn ha.hd hb.hn hb.hd (.inl O)];exact Int.one_mul _
theorem Q3 (a b:W):oO a b=bB a b:=rfl
theorem JD (a b:Rt):aD a b=kA a b:=by unfold aD kA;rw [PD,VF,Q3]
theorem cR_ {a:Rt} {n d:Int} (h:a.Is n d):Rt.Is (jF a) (-n) d:=by
 have e:jF a=⟨E (Z.of (-n)),E (Z.of d)⟩:=by
  unfold jF;rw [yR h,h.en,h.ed,cJ,P6 h.hn];rfl
 rw [e];refine ⟨rfl,rfl,?_,h.hd,h.pos,by rw [Int.neg_gcd];exact h.cop⟩;have:=h.hn;unfold cX at *;rw [Int.natAbs_neg];exact this
theorem er_ {a:Rt} (h:bG a=true):∃ n d,Rt.Is a n d:=eq_.1 h
theorem ZO {x:Int}:x.sign≤0 ↔ x≤0:=Int.sign_nonpos_iff
structure Iv.Is (a:Iv) (n d m e:Int):Prop where
 lo:a.lo.Is n d
 hi:a.hi.Is m e
 le:n*e≤m*d
def Rt.At (a:Rt) (q:Rat):Prop:=a.Is q.num (q.den:Int)
theorem bP_ {a:Rt} {n d:Int} (h:a.Is n d):∃ q:Rat,a.At q∧q.num=n∧(q.den:Int)=d:=by
 have hd:(d.toNat:Int)=d:=Int.toNat_of_nonneg (Int.le_of_lt h.pos)
 have hc:n.natAbs.Coprime d.toNat:=by
  have:=h.cop;unfold Int.gcd at this;rw [show d.natAbs=d.toNat by omega] at this;exact this
 refine ⟨⟨n,d.toNat,by have:=h.pos;omega,hc⟩,?_,rfl,hd⟩
 show a.Is n (d.toNat:Int)
 rw [hd];exact h
theorem RU {a:Rt} (h:bG a=true):∃ q,a.At q:=by
 obtain ⟨n,d,h1⟩:=er_ h;obtain ⟨q,h2,_⟩:=bP_ h1;exact ⟨q,h2⟩
theorem nE {a:Rt} {q:Rat} (h:a.At q):bG a=true:=yR h
theorem VB {a b:Rt} {q:Rat} (ha:a.At q) (hb:b.At q):a=b:=Rt.ext (ha.en.trans hb.en.symm) (ha.ed.trans hb.ed.symm)
theorem sH {a:Rt} {p q:Rat} (ha:a.At p) (hb:a.At q):p=q:=by
 have h1:=QA ha.hn hb.hn (VD (ha.en.symm.trans hb.en));have h2:=QA ha.hd hb.hd (VD (ha.ed.symm.trans hb.ed));exact Rat.ext h1 oo_
theorem cF_ {a b:Rt} {p q:Rat} (ha:a.At p) (hb:b.At q):(jW a b).1=(p.num*q.den - q.num*p.den).sign:=cG_ ha hb
theorem cH_ {a b:Rt} {p q:Rat} (ha:a.At p) (hb:b.At q):(jW a b).1≤0 ↔ p≤q:=by
 rw [cF_ ha hb,ZO,Rat.le_iff];omega
structure Iv.At (a:Iv) (p q:Rat):Prop where
 lo:a.lo.At p
 hi:a.hi.At q
 le:p≤q
def mn (p q:Rat):Rat:=if p≤q then p else q
structure Sz (q:Rat) (k:Nat):Prop where
 n:q.num.natAbs<2 ^ k
 d:q.den<2 ^ k
theorem KW {a b:Nat} (h:a≤b):(2:Nat) ^ a≤2 ^ b:=Nat.pow_le_pow_right dd_ h
theorem cD_ {v:Int} {k:Nat} (m:Nat) (hm:4294967296 ^ 16=2 ^ m) (h:v.natAbs<2 ^ k) (hk:k≤m):cX v:=by
 unfold cX;rw [hm];exact Nat.lt_of_lt_of_le h (KW hk)
theorem C4 {v:Int} {k:Nat} (h:v.natAbs<2 ^ k) (hk:k≤512):cX v:=cD_ 512 LY h hk
theorem Sz.mono {q:Rat} {j k:Nat} (h:Sz q j) (hk:j≤k):Sz q k:=⟨Nat.lt_of_lt_of_le h.n (KW hk),Nat.lt_of_lt_of_le h.d (KW hk)⟩
theorem Sz.bn {q:Rat} {k:Nat} (h:Sz q k) (hk:k≤512):cX q.num:=C4 h.n hk
theorem Sz.bd {q:Rat} {k:Nat} (h:Sz q k) (hk:k≤512):cX (q.den:Int):=C4 (by simpa using h.d) hk
theorem uT {a b j k:Nat} (h:a<2 ^ j) (g:b<2 ^ k):a*b<2 ^ (j+k):=by
 rw [Nat.pow_add];exact Nat.mul_lt_mul_of_lt_of_le h (Nat.le_of_lt g) (Nat.pow_pos dd_)
theorem Sz.mul {p q:Rat} {j k:Nat} (h:Sz p j) (g:Sz q k):Sz (p*q) (j+k):=by
 constructor
 ·rw [Rat.num_mul]
  refine Nat.lt_of_le_of_lt (Int.natAbs_ediv_le_natAbs _ _) ?_;rw [Int.natAbs_mul];exact uT h.n g.n
 rw [Rat.den_mul];exact Nat.lt_of_le_of_lt (Nat.div_le_self _ _) (uT h.d g.d)
theorem Sz.neg {p:Rat} {k:Nat} (h:Sz p k):Sz (-p) k:=⟨by rw [Rat.neg_num,Int.natAbs_neg];exact h.n,h.d⟩
theorem PI {n m:Int} {d e j k:Nat} (h1:n.natAbs<2 ^ j) (h2:e<2 ^ k) (h3:m.natAbs<2 ^ k) (h4:d<2 ^ j):(n*e+m*d).natAbs<2 ^ (j+k+1):=by
 have a:=uT h1 h2;have b:=uT h4 h3;have c:=Int.natAbs_add_le (n*e) (m*d);rw [Int.natAbs_mul,Int.natAbs_mul,Int.natAbs_natCast,Int.natAbs_natCast] at c;rw [Nat.pow_succ];rw [Nat.mul_comm d] at b;omega
theorem Sz.add {p q:Rat} {j k:Nat} (h:Sz p j) (g:Sz q k):Sz (p+q) (j+k+1):=by
 constructor
 ·rw [Rat.num_add]
  exact Nat.lt_of_le_of_lt (Int.natAbs_ediv_le_natAbs _ _) (PI h.n g.d g.n h.d)
 rw [Rat.den_add];exact Nat.lt_of_le_of_lt (Nat.div_le_self _ _) (Nat.lt_of_lt_of_le (uT h.d g.d) (KW oo_))
theorem Sz.int {n:Int} {k:Nat} (h:n.natAbs<2 ^ k) (hk:0<k):Sz (n:Rat) k:=⟨h,Nat.one_lt_two_pow oo_⟩
theorem el_ {a:Rt} {n d:Int} {q:Rat} (h:a.Is n d) (he:q.num*d=n*q.den):a.At q:=by
 obtain ⟨p,hp,h1,h2⟩:=bP_ h;have:p=q:=Rat.eq_iff_mul_eq_mul.2 (by rw [h1,h2];exact he.symm);rw [← this];exact hp
theorem At.is {a:Rt} {q:Rat} (h:a.At q):a.Is q.num (q.den:Int):=h
theorem wC {n d:Int} {q:Rat} (hn:cX n) (hd:cX d) (hp:0<d) (he:q.num*d=n*q.den):(bM (E (Z.of n)) (E (Z.of d))).At q:=by
 refine el_ (xY hn hd hp) ?_;have g1:((Int.gcd n d:Nat):Int) ∣ n:=Int.gcd_dvd_left ..;have g2:((Int.gcd n d:Nat):Int) ∣ d:=Int.gcd_dvd_right ..
 have p1:0<((Int.gcd n d:Nat):Int):=by have:=Int.gcd_pos_of_ne_zero_right n (show d≠0 by omega);omega
 obtain ⟨x,hx⟩:=g1;obtain ⟨y,hy⟩:=g2;generalize ((Int.gcd n d:Nat):Int)=G at *
 have q1:n / G=x:=by rw [hx];exact Int.mul_ediv_cancel_left _ oo_
 have q2:d / G=y:=by rw [hy];exact Int.mul_ediv_cancel_left _ oo_
 rw [q1,q2];rw [hx,hy] at he;exact Int.eq_of_mul_eq_mul_left (show G≠0 by omega) (by grind)
theorem cP_ {a:Rt} {p:Rat} (h:a.At p):(jF a).At (-p):=cR_ h
theorem mY {q:Rat}:(0:Int)<q.den:=by have:=q.den_nz;omega
theorem cL_ {a b:Rt} {p q:Rat} (ha:a.At p) (hb:b.At q) (hn:cX (p*q).num) (hd:cX ((p*q).den:Int)):(gK a b).At (p*q):=by
 unfold gK;rw [nE ha,nE hb];obtain ⟨x,y,r,s,e1,e2,b1,b2,b3,b4,h1,h2,hc,he⟩:=EO ha hb;simp only [Bool.not_true,Bool.or_false,cond_false,e1,e2,cJ];rw [n6 b1 b3,n6 b2 b4];have hps:0<y*s:=Int.mul_pos h1 h2
 have hpq:p*q=Rat.divInt (x*r) (y*s):=by
  rw [← Rat.num_divInt_den p,← Rat.num_divInt_den q,Rat.divInt_mul_divInt];exact (Rat.divInt_eq_divInt_iff (by have:=@mY p;have:=@mY q;exact Int.mul_ne_zero oo_ oo_) oo_).2 (by rw [he])
 have hnum:(p*q).num=x*r:=by
  rw [hpq,Rat.num_divInt,Int.gcd_comm,hc,Int.sign_eq_one_of_pos hps];simp
 have hden:((p*q).den:Int)=y*s:=by
  rw [hpq,Rat.den_divInt,if_neg oo_,Int.gcd_comm,hc,Nat.div_one];omega
 rw [hnum] at hn;rw [hden] at hd;exact wC hn hd hps (by rw [hnum,hden])
theorem cO_ {a b:Rt} {p q:Rat} {j k:Nat} (ha:a.At p) (hb:b.At q) (hp:Sz p j) (hq:Sz q k) (h:j+k≤512):(gK a b).At (p*q) :=
 cL_ ha hb ((hp.mul hq).bn h) ((hp.mul hq).bd h)
theorem cA_ {a b:Rt} {p q:Rat} {j k:Nat} (ha:a.At p) (hb:b.At q) (hp:Sz p j) (hq:Sz q k) (h:j+k+1≤512):(fH a b).At (p+q):=by
 unfold fH;rw [nE ha,nE hb];simp only [Bool.not_true,Bool.or_false,cond_false];have ia:=At.is ha;have ib:=At.is hb;rw [ia.en,ia.ed,ib.en,ib.ed];simp only [cJ];have hdp:=@mY p;have hdq:=@mY q
 have hg:0<((Int.gcd (p.den:Int) (q.den:Int):Nat):Int):=by
  have:=Int.gcd_pos_of_ne_zero_right (p.den:Int) (show (q.den:Int)≠0 by omega);omega
 have hbg:=NG (u:=(p.den:Int)) ib.hd oo_;have g1:((Int.gcd (p.den:Int) (q.den:Int):Nat):Int) ∣ (p.den:Int):=Int.gcd_dvd_left ..;have g2:((Int.gcd (p.den:Int) (q.den:Int):Nat):Int) ∣ (q.den:Int):=Int.gcd_dvd_right ..;rw [zZ ia.hd ib.hd,wR ib.hd hbg hg,wR ia.hd hbg hg];generalize ((Int.gcd (p.den:Int) (q.den:Int):Nat):Int)=G at *;obtain ⟨x,hx⟩:=g1;obtain ⟨y,hy⟩:=g2
 have q1:(p.den:Int) / G=x:=by rw [hx];exact Int.mul_ediv_cancel_left _ oo_
 have q2:(q.den:Int) / G=y:=by rw [hy];exact Int.mul_ediv_cancel_left _ oo_
 rw [q1,q2]
 have x0:0<x:=by rw [hx] at hdp;exact Int.pos_of_mul_pos_right hdp hg
 have y0:0<y:=by rw [hy] at hdq;exact Int.pos_of_mul_pos_right hdq hg
 have xl:x≤p.den:=by rw [hx];have:=Int.mul_le_mul_of_nonneg_right (show (1:Int)≤G by omega) (Int.le_of_lt x0);omega
 have yl:y≤q.den:=by rw [hy];have:=Int.mul_le_mul_of_nonneg_right (show (1:Int)≤G by omega) (Int.le_of_lt y0);omega
 have x1:x.toNat<2 ^ j:=Nat.lt_of_le_of_lt oo_ hp.d;have y1:y.toNat<2 ^ k:=Nat.lt_of_le_of_lt oo_ hq.d
 have xe:x=(x.toNat:Int):=by omega
 have ye:y=(y.toNat:Int):=by omega
 have bx:cX x:=C4 (k:=j) (by rw [xe,Int.natAbs_natCast];exact x1) oo_
 have by':cX y:=C4 (k:=k) (by rw [ye,Int.natAbs_natCast];exact y1) oo_
 rw [n6 ia.hn by',n6 ib.hn bx,n6 bx ib.hd]
 have t1:(p.num*y).natAbs<2 ^ (j+k):=by rw [Int.natAbs_mul];exact uT hp.n oo_
 have t2:(q.num*x).natAbs<2 ^ (j+k):=by rw [Int.natAbs_mul,Nat.mul_comm];exact uT oo_ hq.n
 have t3:(x*(q.den:Int)).natAbs<2 ^ (j+k):=by rw [Int.natAbs_mul];exact uT oo_ (by simpa using hq.d)
 rw [ER (C4 t1 oo_) (C4 t2 oo_)]
 have t4:(p.num*y+q.num*x).natAbs<2 ^ (j+k+1):=by rw [Nat.pow_succ];omega
 refine wC (C4 t4 h) (C4 t3 oo_) (Int.mul_pos x0 hdq) ?_
 have key:p+q=Rat.divInt (p.num*y+q.num*x) (x*q.den):=by
  conv=>lhs;rw [← Rat.num_divInt_den p,← Rat.num_divInt_den q,Rat.divInt_add_divInt _ _ oo_ oo_]
  refine (Rat.divInt_eq_divInt_iff (Int.mul_ne_zero oo_ oo_) (Int.mul_ne_zero oo_ oo_)).2 ?_;rw [hx,hy];grind
 have h3:=Rat.num_divInt_den (p+q);rw [key] at h3 ⊢;have h4:=(Rat.divInt_eq_divInt_iff (by have:=@mY (Rat.divInt (p.num*y+q.num*x) (x*q.den));omega) (Int.mul_ne_zero oo_ oo_)).1 h3;exact h4
def vl (c:Nat→Rat) (x:Rat) (n:Nat):Rat:=fY (fun i=>c i*x ^ i) n
theorem OM (x:Rat) (m:Nat):∀ n:Nat,x ^ (m+n)=x ^ m*x ^ n
 | 0=>by rw [Rat.pow_zero,Rat.mul_one];rfl
 | n+1=>by rw [← Nat.add_assoc,Rat.pow_succ,OM x m n,Rat.pow_succ,Rat.mul_assoc]
theorem zC {c:Nat→Rat} {x:Rat} {n:Nat} (h:∀ i,n≤i→c i=0) {m:Nat} (hm:n≤m):vl c x m=vl c x n :=
 nY (fun i hi=>by rw [h i hi,Rat.zero_mul]) m hm
theorem ac_ (c d:Nat→Rat) (x:Rat) (n:Nat):vl (fun i=>c i+d i) x n=vl c x n+vl d x n:=by
 unfold vl;rw [← yM];exact gA fun i _=>Rat.add_mul _ _ _
theorem ei_ (a:Rat) (c:Nat→Rat) (x:Rat) (n:Nat):vl (fun i=>a*c i) x n=a*vl c x n:=by
 unfold vl;rw [← rB];exact gA fun i _=>Rat.mul_assoc _ _ _
theorem O5 (c:Nat→Rat) (x:Rat) (n:Nat):vl c x (n+1)=c 0+x*vl (fun i=>c (i+1)) x n:=by
 unfold vl;rw [wW,Rat.pow_zero,Rat.mul_one,← rB]
 congr 1
 refine gA fun i _=>?_;rw [Rat.pow_succ];grind
theorem TI {c d:Nat→Rat} {x:Rat} {n m:Nat} (hc:∀ i,n≤i→c i=0) (hd:∀ i,m≤i→d i=0) {K:Nat} (hK:n+m≤K):vl (conv c d) x K=vl c x n*vl d x m:=by
 have h:=GP (fun i j=>c i*x ^ i*(d j*x ^ j)) K
 have e1:vl (conv c d) x K=fY (fun k=>fY (fun i=>c i*x ^ i*(d (k - i)*x ^ (k - i))) (k+1)) K:=by
  refine gA fun k _=>?_
  show fY _ _*_=_
  rw [← C2];refine gA fun i hi=>?_
  have:x ^ k=x ^ i*x ^ (k - i):=by rw [← OM];congr 1;omega
  rw [this];grind
 rw [e1,h];unfold vl;rw [← C2];rw [nY (n:=n) (fun i hi=>by rw [hc i hi];exact jY fun j _=>by rw [Rat.zero_mul,Rat.zero_mul]) K oo_];refine gA fun i hi=>?_;rw [rB]
 congr 1
 exact nY (fun j hj=>by rw [hd j hj,Rat.zero_mul]) _ oo_
def hv (c:Nat→Int) (N D:Int) (L:Nat):Nat→Int
 | 0=>0
 | t+1=>hv c N D L t*N+c (L - 1 - t)*D ^ t
section
variable {c:Nat→Int} {N D:Int} {L:Nat}
theorem XS {x:Rat} (hx:(D:Rat)*x=N):∀ t:Nat,t≤L→((hv c N D L t:Int):Rat)*D=(D:Rat) ^ t*vl (fun j=>cR c (L - t+j)) x t
 | 0,_=>by show ((0:Int):Rat)*D=_*(0:Rat);rw [Rat.mul_zero];exact Rat.zero_mul _
 | t+1,ht=>by
  rw [O5,hv,Rat.intCast_add,Rat.intCast_mul,Rat.intCast_mul,Rat.intCast_pow,Rat.pow_succ];have ih:=XS hx t oo_;rw [show (fun i=>(fun j=>cR c (L - (t+1)+j)) (i+1))=fun j=>cR c (L - t+j) from funext fun j=>by show cR c _=cR c _;congr 1;omega];rw [show L - (t+1)+0=L - 1 - t by omega]
  show _=_*(((c (L - 1 - t):Int):Rat)+_)
  generalize vl (fun j=>cR c (L - t+j)) x t=S at *;generalize ((hv c N D L t:Int):Rat)=H at *;rw [← hx]
  grind
theorem PX {x:Rat} (hx:(D:Rat)*x=N) (hD:0<D):((hv c N D L L:Int):Rat)=(D:Rat) ^ (L - 1)*vl (cR c) x L:=by
 have hd:(D:Rat)≠0:=fun h=>by have:=Rat.intCast_eq_zero_iff.1 h;omega
 cases L with
 | zero=>show ((0:Int):Rat)=_*(0:Rat);rw [Rat.mul_zero];rfl
 | succ n =>
  have h:=XS (c:=c) (L:=n+1) hx (n+1) (Nat.le_refl _);rw [show (fun j=>cR c (n+1 - (n+1)+j))=cR c from funext fun j=>by congr 1;omega,Rat.pow_succ] at h;rw [Nat.add_sub_cancel]
  have:(((hv c N D (n+1) (n+1):Int):Rat) - (D:Rat) ^ n*vl (cR c) x (n+1))*D=0:=by grind
  rcases Rat.mul_eq_zero.1 this with h|h
  ·grind
  exact absurd h hd
theorem XQ {b s:Nat} (hc:∀ k,(c k).natAbs<2 ^ b) (hN:N.natAbs<2 ^ s) (hD:D.natAbs<2 ^ s):∀ t:Nat,(hv c N D L t).natAbs≤t*2 ^ (b+s*t)
 | 0=>by simp [hv]
 | t+1=>by
  have ih:=XQ hc hN hD t
  have h1:(hv c N D L t*N).natAbs≤t*2 ^ (b+s*t)*2 ^ s:=by
   rw [Int.natAbs_mul];exact Nat.mul_le_mul ih (Nat.le_of_lt hN)
  have h2:(c (L - 1 - t)*D ^ t).natAbs≤2 ^ b*2 ^ (s*t):=by
   rw [Int.natAbs_mul,Int.natAbs_pow,Nat.pow_mul];exact Nat.mul_le_mul (Nat.le_of_lt (hc _)) (Nat.pow_le_pow_left (Nat.le_of_lt hD) t)
  have h3:=Int.natAbs_add_le (hv c N D L t*N) (c (L - 1 - t)*D ^ t)
  have h4:(2:Nat) ^ b*2 ^ (s*t)≤2 ^ (b+s*(t+1)):=by
   rw [← Nat.pow_add];exact Nat.pow_le_pow_right dd_ (by rw [Nat.mul_succ];omega)
  have h5:t*2 ^ (b+s*t)*2 ^ s=t*2 ^ (b+s*(t+1)):=by
   rw [Nat.mul_assoc,← Nat.pow_add,Nat.mul_succ,Nat.add_assoc]
  rw [Nat.succ_mul];show (hv c N D L t*N+c (L - 1 - t)*D ^ t).natAbs≤_;omega
structure Room (c:Nat→Int) (N D:Int) (L:Nat):Prop where
 h:∀ t,t≤L→cX (hv c N D L t)
 m:∀ t,t<L→cX (hv c N D L t*N)
 p:∀ t,t<L→cX (D ^ t)
 q:∀ t,t<L→cX (c (L - 1 - t)*D ^ t)
theorem d1_ {b s n e:Nat} (hc:∀ k,(c k).natAbs<2 ^ b) (hN:N.natAbs<2 ^ s) (hD:D.natAbs<2 ^ s) (hL:L≤n) (hn:n≤2 ^ e) (h:b+s*n+e+1≤512):Room c N D L:=by
 have hp:(2:Nat) ^ (b+s*n+e+1)=2*(2 ^ e*2 ^ (b+s*n)):=by rw [Nat.pow_succ,Nat.add_comm _ e,Nat.pow_add];omega
 have h0:0<2 ^ e*2 ^ (b+s*n):=Nat.mul_pos (Nat.pow_pos dd_) (Nat.pow_pos dd_);have k1:∀ t,t≤n→t*2 ^ (b+s*t)≤2 ^ e*2 ^ (b+s*n):=fun t ht =>
  Nat.mul_le_mul oo_ (Nat.pow_le_pow_right dd_ (by have:=Nat.mul_le_mul_left s ht;omega))
 have k2:∀ t,t<n→(2:Nat) ^ (s*t)≤2 ^ (b+s*n):=fun t ht=>Nat.pow_le_pow_right dd_ (by have:=Nat.mul_le_mul_left s (Nat.le_of_lt ht);omega);have he:1≤2 ^ e:=Nat.pow_pos dd_
 have kD:∀ t,(D ^ t).natAbs≤2 ^ (s*t):=fun t=>by rw [Int.natAbs_pow,Nat.pow_mul];exact Nat.pow_le_pow_left (Nat.le_of_lt hD) t
 have k0:2 ^ (b+s*n)≤2 ^ e*2 ^ (b+s*n):=Nat.le_mul_of_pos_left _ he;refine ⟨fun t ht=>n4 (k:=b+s*n+e+1) ?_ h,fun t ht=>n4 (k:=b+s*n+e+1) ?_ h,fun t ht=>n4 (k:=b+s*n+e+1) ?_ h,fun t ht=>n4 (k:=b+s*n+e+1) ?_ h⟩
 ·have:=XQ (L:=L) hc hN hD t
  have:=k1 t oo_;omega
 ·have h1:=XQ (L:=L) hc hN hD t
  have h2:=k1 (t+1) oo_
  have h3:(hv c N D L t*N).natAbs≤t*2 ^ (b+s*t)*2 ^ s:=by
   rw [Int.natAbs_mul];exact Nat.mul_le_mul h1 (Nat.le_of_lt hN)
  have h5:t*2 ^ (b+s*t)*2 ^ s=t*2 ^ (b+s*(t+1)):=by
   rw [Nat.mul_assoc,← Nat.pow_add,Nat.mul_succ,Nat.add_assoc]
  rw [Nat.succ_mul] at h2;have h6:0<2 ^ (b+s*(t+1)):=Nat.pow_pos dd_;omega
 ·have:=kD t
  have:=k2 t oo_;omega
 have h2:(c (L - 1 - t)*D ^ t).natAbs≤2 ^ b*2 ^ (s*t):=by
  rw [Int.natAbs_mul];exact Nat.mul_le_mul (Nat.le_of_lt (hc _)) (kD t)
 have h3:(2:Nat) ^ b*2 ^ (s*t)≤2 ^ (b+s*n):=by
  rw [← Nat.pow_add];exact Nat.pow_le_pow_right dd_ (by have:=Nat.mul_le_mul_left s (Nat.le_of_lt (show t<n by omega));omega)
 omega
theorem QL {D:Int}:∀ {k:Nat},(∀ j,j≤k→cX (D ^ j))→pw (E (Z.of D)) k=E (Z.of (D ^ k))
 | 0,_=>by rw [Int.pow_zero];rfl
 | k+1,h=>by
  rw [pw,QL fun j hj=>h j oo_,cJ,cJ,n6 (h k oo_) (by have:=h 1 oo_;rwa [Int.pow_one] at this:cX D),Int.pow_succ]
variable {p:List I} {x:Rt}
theorem ab_ (h:Po p c) (hx:x.Is N D) (r:Room c N D p.length):∀ (f t:Nat) (i:Int),t≤p.length→i=(p.length:Int) - 1 - t→p.length - t<f →
  (fD p x f i (E (Z.of (hv c N D p.length t)))).2=E (Z.of (hv c N D p.length p.length))
 | 0,t,i,_,_,hf=>absurd hf (Nat.not_lt_zero _)
 | f+1,t,i,ht,hi,hf=>by
  unfold fD
  by_cases h0:0≤i
  ·rw [decide_eq_true h0,cond_true]
   have hl:t<p.length:=by omega
   have e1:i.toNat=p.length - 1 - t:=by omega
   have e2:p.length - 1 - i.toNat=t:=by omega
   simp only
   rw [e2,tU _ _ (show t<max (p.length:Int).toNat 1 by omega),hx.ed,QL fun j hj=>r.p j oo_,e1,h.get,hx.en,cJ,cJ,cJ,cJ,cJ,
    n6 (h.B _) (r.p t hl),n6 (r.h t ht) hx.hn,ER (r.m t hl) (r.q t hl)]
   exact ab_ h hx r f (t+1) _ oo_ oo_ oo_
  rw [decide_eq_false h0,cond_false,show t=p.length by omega]
theorem U6 (h:Po p c) (hx:x.Is N D) (r:Room c N D p.length):gE p x=(E (Z.of (hv c N D p.length p.length)),E (Z.of (D ^ (p.length - 1)))):=by
 unfold gE;rw [h.nb,RM,mU,yR hx]
 show ((fD p x (p.length+1) ((p.length:Int) - 1) I0).2,_)=_
 congr 1
 ·have e:=ab_ h hx r (p.length+1) 0 ((p.length:Int) - 1) (Nat.zero_le _) oo_ oo_
  rw [show hv c N D p.length 0=0 from rfl,← I0_E] at e;exact e
 rw [show ((p.length:Int) - 1).toNat=p.length - 1 by omega,tU _ _ oo_,hx.ed]
 cases hl:p.length with
 | zero=>show pw _ 0=E (Z.of (D ^ 0));rw [Int.pow_zero];rfl
 | succ n=>exact QL fun j hj=>r.p j oo_
theorem YN {q:Rat} {n d:Int} (h:(n:Rat)=(d:Rat)*q):q.num*d=n*q.den:=by
 have h1:=y5 q
 have h2:((n*q.den:Int):Rat)=((q.num*d:Int):Rat):=by
  rw [Rat.intCast_mul,Rat.intCast_mul,h,← h1];grind
 exact (Rat.intCast_inj.1 h2).symm
theorem E3 {q:Rat}:((q.den:Int):Rat)*q=((q.num:Int):Rat):=by
 rw [Rat.mul_comm];exact y5 q
theorem MJ {q:Rat} {n b s e:Nat} (h:Po p c) (hb:Bd c n b) (hx:x.At q) (hs:Sz q s) (hn:n≤2 ^ e) (hk:b+s*n+e+1≤512):(aF p x).2=true∧(aF p x).1.1=(vl (cR c) q n).num.sign:=by
 have ix:=At.is hx;have hl:=h.len hb;have r:=d1_ (L:=p.length) hb.b hs.n (show (q.den:Int).natAbs<2 ^ s by rw [Int.natAbs_natCast];exact hs.d) hl hn hk;unfold aF;rw [U6 h ix r];have hp:=@mY q;have hv:=PX (c:=c) (L:=p.length) (N:=q.num) (D:=(q.den:Int)) E3 hp;rw [zC (n:=p.length) (fun i hi=>by unfold cR;rw [h.zero hi];rfl) hl];refine ⟨by show (!(E (Z.of _)).1.bad)=true;rw [ET (r.h _ (Nat.le_refl _))];rfl,?_⟩
 show (Z.signW (E (Z.of _)).dec).1=_
 rw [cJ,j7 (r.h _ (Nat.le_refl _))];have e:=YN (n:=Go.Num.hv c q.num (q.den:Int) p.length p.length) (d:=(q.den:Int) ^ (p.length - 1)) (by rw [hv,Rat.intCast_pow]);have e2:=congrArg Int.sign e;rw [Int.sign_mul,Int.sign_mul,Int.sign_eq_one_of_pos (Int.pow_pos hp),Int.sign_eq_one_of_pos (@mY _),Int.mul_one,Int.mul_one] at e2;exact e2.symm
end
end Go.Num
