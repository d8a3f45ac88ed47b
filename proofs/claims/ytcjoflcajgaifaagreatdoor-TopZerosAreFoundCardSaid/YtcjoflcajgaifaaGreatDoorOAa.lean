/- Lemmas: what they ask stands in their statements. -/
import Derived.Test.YtcjoflcajgaifaaGreatDoorOYl
set_option linter.unusedSimpArgs false
set_option linter.unusedVariables false
namespace Go.Num
open Go Go.Kn
def AL (l:List (List I)):Prop:=∀ x∈l,x.length≤25
theorem EX:AL []:=fun x hx=>by cases hx
theorem JX {l:List (List I)} {x:List I} (h:AL l) (hx:x.length≤25):AL (l++[x]):=fun y hy=>by
 rcases List.mem_append.1 hy with hy|hy
 ·exact h y hy
 rw [List.mem_singleton.1 hy];exact hx
theorem P5 {x:List I} (hx:x.length≤25):AL [x]:=JX EX hx
theorem V6 {l:List (List I)} {k:Nat} {x:List I} (h:AL l) (hx:l[k]? = some x):x.length≤25:=h x (List.mem_of_getElem? hx)
theorem SV {l:List (List I)} {k:Nat} (h:AL l):(l.getD k []).length≤25:=by
 rw [List.getD_eq_getElem?_getD]
 cases hk:l[k]? with
 | none=>exact Nat.zero_le _
 | some x=>exact V6 h hk
theorem YI {b:List I} (h:b.length≤25):gmP b≤50:=by
 unfold gmP
 cases b.all gdI
 ·rw [cond_false];omega
 rw [cond_true];omega
theorem yU (out:List (List I)) (next:List I):(out++[next]).getD ((out++[next]).length - 1) []=next:=by
 simp [List.getD_eq_getElem?_getD]
theorem JE {p:List I} {n:I} (hp:p.length≤1000) (h:(bL p n).all gdI=true):p.all gdI=true∧(bL p n).length≤p.length:=by
 unfold bL at h ⊢
 cases hc:kR n
 ·rw [hc,cond_false,C3,dZ] at h;cases h
 rw [hc,cond_true] at h;rw [cond_true];rw [qS _ hp dd_] at h ⊢;simp only [List.length_nil,Nat.max_zero,List.all_nil,Bool.and_true] at h ⊢
 cases hg:p.all gdI
 ·rw [hg,cond_false,dZ] at h;cases h
 rw [hg] at h;simp only [cond_true] at h ⊢;rw [F4 h];refine ⟨trivial,Nat.le_trans (u9 _) ?_⟩
 simp
theorem GT (a b:List I) (hb:b.length≤1000) (h:b.all gdI=false):aX a b=badp:=by
 unfold aX;rw [nK hb,h,show ((aS a)||((!false)||((b.length:Int)==0)))=true by simp,cond_true,C3]
theorem at_ {a b:List I} {n:I} (hb:b.length≤25) (hg:(aC (bL (aX a b) n)).all gdI=true):aX a b=badp∨(aC (bL (aX a b) n)).length<b.length:=by
 have h1:=nP a b;have h2:=sK (aX a b) n;obtain ⟨h3,h4⟩:=u3 oo_ hg;obtain ⟨h5,h6⟩:=JE oo_ h3
 by_cases h0:b.length=0
 ·left
  unfold aX;rw [show ((aS a)||((aS b)||((b.length:Int)==0)))=true by simp [h0],cond_true,C3]
 rcases CR a b oo_ with h7|h7
 ·exact .inl h7
 exact .inr oo_
theorem MO {a b:List I} {n:I} (hb:b.length≤25) (hg:(aC (bL (aX a b) n)).all gdI=true):b.all gdI=true∧(aC (bL (aX a b) n)).length<b.length:=by
 have h1:=nP a b;have h2:=sK (aX a b) n;obtain ⟨h3,h4⟩:=u3 oo_ hg;obtain ⟨h5,h6⟩:=JE oo_ h3
 have hg2:b.all gdI=true:=by
  cases hb2:b.all gdI
  ·have:aX a b=badp:=GT a b oo_ hb2
   rw [this,dZ] at h5;cases h5
  rfl
 refine ⟨hg2,?_⟩;rcases at_ hb hg with h|h
 ·rw [h,dZ] at h5;cases h5
 exact h
theorem ar_ {out:List (List I)} {next a:List I} (h:(out.length+gmP next≤60∧1≤out.length)∧next.length≤25∧AL out) (h0:decide (0<(next.length:Int))=true)
  (hb:aS (aC (bL (aX a ((out++[next]).getD ((out++[next]).length - 1) [])) (E (Z.of (-1)))))=false) :
  gmP (aC (bL (aX a ((out++[next]).getD ((out++[next]).length - 1) [])) (E (Z.of (-1)))))<gmP next:=by
 rw [yU] at hb ⊢;have hl:=cF (bL (aX a next) (E (Z.of (-1))));rw [nK oo_] at hb
 have hg:(aC (bL (aX a next) (E (Z.of (-1))))).all gdI=true:=by simpa using hb
 obtain ⟨h1,h2⟩:=MO h.2.1 hg;unfold gmP;rw [hg,h1,cond_true,cond_true];omega
theorem cg_ {out:List (List I)} {next a:List I} (h:(out.length+gmP next≤60∧1≤out.length)∧next.length≤25∧AL out) (h0:decide (0<(next.length:Int))=true)
  (hb:aS (aC (bL (aX a ((out++[next]).getD ((out++[next]).length - 1) [])) (E (Z.of (-1)))))=false) :
  ((out++[next]).length+gmP (aC (bL (aX a ((out++[next]).getD ((out++[next]).length - 1) [])) (E (Z.of (-1)))))≤60∧1≤(out++[next]).length)∧(aC (bL (aX a ((out++[next]).getD ((out++[next]).length - 1) [])) (E (Z.of (-1))))).length≤25∧AL (out++[next]):=by
 have h1:=ar_ h h0 hb
 have h2:(out++[next]).length=out.length+1:=by simp
 exact ⟨⟨by omega,by omega⟩,cF _,JX h.2.2 h.2.1⟩
theorem au_ {f next:List I} (hf:f.length≤25) (hn:next.length≤25):(([f]:List (List I)).length+gmP next≤60∧1≤([f]:List (List I)).length)∧next.length≤25∧AL [f] :=
 ⟨⟨by have:=YI hn;simp only [List.length_singleton];omega,Nat.le_refl _⟩,hn,P5 hf⟩
theorem G3 (p:List I):∀ (k:Nat) (out:List (List I)) (next:List I),AL out→next.length≤25→(∀ s,cK p k out next = .inl s→AL s.1)∧∀ r,cK p k out next = .inr r→r.1=[]
 | 0,out,next,ho,hn=>⟨fun s h=>(by cases h;exact ho),fun r h=>(by cases h)⟩
 | k+1,out,next,ho,hn=>by
  unfold cK
  cases h0:decide (0<(next.length:Int))
  ·exact ⟨fun s h=>(by cases h;exact ho),fun r h=>(by cases h)⟩
  rw [cond_true]
  cases hb:aS (aC (bL (aX ((out++[next]).getD ((out++[next]).length - 2) []) ((out++[next]).getD ((out++[next]).length - 1) [])) (E (Z.of (-1)))))
  ·rw [cond_false];exact G3 p k _ _ (JX ho hn) (cF _)
  exact ⟨fun s h=>(by cases h),fun r h=>(by cases h;rfl)⟩
theorem G4 (p:List I) (out:List (List I)) (next:List I):∀ (l:List (List I)) (r:List (List I)×Bool),cP p out next l = .inr r→r.1=[]
 | [],r,h=>by cases h
 | x::l,r,h=>by
  unfold cP at h
  cases hb:aS x
  ·rw [hb,cond_false] at h;exact G4 p out next l r h
  rw [hb,cond_true] at h;cases h;rfl
theorem pM (p:List I):AL (aI p).1:=by
 unfold aI;have h0:=G3 p (gmP (aC (aD (aN p)))+1) [aN p] (aC (aD (aN p))) (P5 (qU p)) (cF _)
 cases h1:cK p (gmP (aC (aD (aN p)))+1) [aN p] (aC (aD (aN p))) with
 | inr r =>
  show AL r.1
  rw [h0.2 r h1];exact EX
 | inl s =>
  show AL (sm (fun (_:Unit)=>(s.1,true)) (fun r=>r) (cP p s.1 s.2 s.1)).1
  cases h2:cP p s.1 s.2 s.1 with
  | inr r =>
   show AL r.1
   rw [G4 _ _ _ _ r h2];exact EX
  | inl u=>exact h0.1 s h1
def dK (c:(List (List I))) (x:Rt):List (List I)→W→W→(W×W) ⊕ (W×Bool)
 | [],mb5,mb4=>.inl (mb5,mb4)
 | x0::l0,mb5,mb4=>bif (bP x0 x).2 then (bif (((bP x0 x).1).1 != 0) then (bif (((bP x0 x).1).1==(-2)) then (.inr ((wl 0),false)) else (bif ((mb5.1 != 0)&&(((bP x0 x).1).1 != mb5.1)) then (dK c x l0 ((bP x0 x).1) (W.add mb4 (wl 1))) else (dK c x l0 ((bP x0 x).1) mb4))) else (dK c x l0 mb5 mb4)) else (.inr ((wl 0),false))
def bV (c:(List (List I))) (x:Rt):W×Bool :=
 sm (fun (s:W×W)=>let mb5:W:=s.1
 let mb4:W:=s.2
 (mb4,true)) (fun r=>r) (dK c x c (wl 0) (wl 0))
def aK (c:(List (List I))) (a:Rt) (b:Rt):W×Bool :=
 ((W.sub ((bV c a).1) ((bV c b).1)),((bV c a).2&&(bV c b).2))
def dN (p:(List I)) (a:Rt) (b:Rt):W×W :=
 bif ((aS p)||(((p.length:Int)==0)||(!(kN a b)))) then ((wl 0),(wl 1)) else (bif (aI p).2 then (bif (aK ((aI p).1) a b).2 then ((aK ((aI p).1) a b).1,(wl 0)) else ((wl 0),(wl 30))) else ((wl 0),(wl 30)))
def cY (p:(List I)) (x:Iv):(List (List I))×W :=
 bif (((dN p x.lo x.hi).2).1 != 0) then (([]:List (List I)),(dN p x.lo x.hi).2) else (bif (((dN p x.lo x.hi).1).1 != 1) then (([]:List (List I)),(wl 1)) else ((aI p).1,(wl 0)))
def fX (c:(List (List I))) (x:Iv):Iv×Bool :=
 bif (!((aK c x.lo (bB x.lo x.hi)).2)||((bB x.lo x.hi).n).1.bad) then (x,false) else (bif (((aK c x.lo (bB x.lo x.hi)).1).1==1) then ((⟨x.lo,(bB x.lo x.hi)⟩:Iv),true) else ((⟨(bB x.lo x.hi),x.hi⟩:Iv),true))
theorem BK (p:List I) (x:Iv):AL (cY p x).1:=by
 unfold cY;generalize dN p x.lo x.hi=C;have hs:=pM p;generalize (aI p).1=L at hs ⊢
 cases (C.2.1 != 0)
 ·cases (C.1.1 != 1)
  ·exact hs
  exact EX
 exact EX
class Rg (α:Type) [Add α] [Mul α] [OfNat α 0]:Prop where
 aa:∀ a b c:α,a+b+c=a+(b+c)
 ac:∀ a b:α,a+b=b+a
 a0:∀ a:α,a+0=a
 ma:∀ a b c:α,a*b*c=a*(b*c)
 mc:∀ a b:α,a*b=b*a
 md:∀ a b c:α,a*(b+c)=a*b+a*c
 m0:∀ a:α,a*0=0
instance:Rg Int:=⟨Int.add_assoc,Int.add_comm,Int.add_zero,Int.mul_assoc,Int.mul_comm,Int.mul_add,Int.mul_zero⟩
instance:Rg Rat:=⟨Rat.add_assoc,Rat.add_comm,Rat.add_zero,Rat.mul_assoc,Rat.mul_comm,Rat.mul_add,Rat.mul_zero⟩
theorem Rg.za {α:Type} [Add α] [Mul α] [OfNat α 0] [Rg α] (a:α):0+a=a:=by rw [Rg.ac,Rg.a0]
theorem Rg.zm {α:Type} [Add α] [Mul α] [OfNat α 0] [Rg α] (a:α):0*a=0:=by rw [Rg.mc,Rg.m0]
def gN {α:Type} [Add α] [OfNat α 0] (f:Nat→α):Nat→α
 | 0=>0
 | n+1=>gN f n+f n
theorem gJ {α:Type} [Add α] [OfNat α 0] {f g:Nat→α}:∀ {n:Nat},(∀ i,i<n→f i=g i)→gN f n=gN g n
 | 0,_=>rfl
 | n+1,h=>by simp only [gN];rw [gJ fun i hi=>h i (by omega),h n (by omega)]
theorem jY {α:Type} [Add α] [Mul α] [OfNat α 0] [Rg α] {f:Nat→α}:∀ {n:Nat},(∀ i,i<n→f i=0)→gN f n=0
 | 0,_=>rfl
 | n+1,h=>by simp only [gN];rw [jY fun i hi=>h i (by omega),h n (by omega),Rg.a0]
theorem yE {α:Type} [Add α] [Mul α] [OfNat α 0] [Rg α] (f g:Nat→α):∀ n:Nat,gN (fun i=>f i+g i) n=gN f n+gN g n
 | 0=>(Rg.a0 _).symm
 | n+1=>by
  simp only [gN];rw [yE f g n,Rg.aa,Rg.aa,← Rg.aa (gN g n),Rg.ac (gN g n) (f n),Rg.aa]
theorem sY {α:Type} [Add α] [Mul α] [OfNat α 0] [Rg α] (c:α) (f:Nat→α):∀ n:Nat,gN (fun i=>c*f i) n=c*gN f n
 | 0=>(Rg.m0 _).symm
 | n+1=>by simp only [gN];rw [sY c f n,Rg.md]
theorem C0 {α:Type} [Add α] [Mul α] [OfNat α 0] [Rg α] (c:α) (f:Nat→α) (n:Nat):gN (fun i=>f i*c) n=gN f n*c:=by
 rw [Rg.mc _ c,← sY];exact gJ fun i _=>Rg.mc _ _
theorem v3 {α:Type} [Add α] [Mul α] [OfNat α 0] [Rg α] (f:Nat→α):∀ n:Nat,gN f (n+1)=f 0+gN (fun i=>f (i+1)) n
 | 0=>by simp only [gN];rw [Rg.ac]
 | n+1=>by rw [gN,v3 f n,Rg.aa];rfl
theorem PP {α:Type} [Add α] [Mul α] [OfNat α 0] [Rg α] (f:Nat→α):∀ n:Nat,gN f n=gN (fun i=>f (n - 1 - i)) n
 | 0=>rfl
 | n+1=>by
  rw [v3 (fun i=>f (n+1 - 1 - i)),gN,Rg.ac,PP f n];rw [show n+1 - 1 - 0=n by omega]
  congr 1
  exact gJ fun i hi=>congrArg f (by omega)
theorem nS {α:Type} [Add α] [Mul α] [OfNat α 0] [Rg α] {f:Nat→α} {n:Nat} (h:∀ i,n≤i→f i=0):∀ m:Nat,n≤m→gN f m=gN f n
 | 0,hm=>by rw [show n=0 by omega]
 | m+1,hm=>by
  rcases Nat.lt_or_ge n (m+1) with g|g
  ·rw [gN,h m (by omega),Rg.a0,nS h m (by omega)]
  rw [show n=m+1 by omega]
theorem G9 {α:Type} [Add α] [Mul α] [OfNat α 0] [Rg α] {f:Nat→α} {a:Nat} (h:∀ i,i≠a→f i=0) {n:Nat} (hn:a<n):gN f n=f a:=by
 rw [nS (n:=a+1) (fun i hi=>h i (by omega)) n hn,gN,jY fun i hi=>h i (by omega),Rg.za]
theorem HA {α:Type} [Add α] [Mul α] [OfNat α 0] [Rg α] (f:Nat→Nat→α):∀ n:Nat,gN (fun k=>gN (fun i=>f i (k - i)) (k+1)) n=gN (fun i=>gN (fun j=>f i j) (n - i)) n
 | 0=>rfl
 | n+1=>by
  rw [gN,HA f n]
  rw [gJ (f:=fun i=>gN (fun j=>f i j) (n+1 - i)) (g:=fun i=>gN (fun j=>f i j) (n - i)+f i (n - i)) (fun i hi=>by
   rw [show n+1 - i=n - i+1 by omega];rfl)]
  rw [yE]
  congr 1
  rw [gN,Nat.sub_self,gN,Rg.a0]
def conv {α:Type} [Add α] [Mul α] [OfNat α 0] (c d:Nat→α) (k:Nat):α:=gN (fun i=>c i*d (k - i)) (k+1)
theorem qE {α:Type} [Add α] [Mul α] [OfNat α 0] [Rg α] (c d:Nat→α):conv c d=conv d c:=by
 funext k
 unfold conv;rw [PP];refine gJ fun i hi=>?_;rw [Rg.mc,show k - (k+1 - 1 - i)=i by omega,show k+1 - 1 - i=k - i by omega]
theorem AQ {α:Type} [Add α] [Mul α] [OfNat α 0] [Rg α] (c d e:Nat→α):conv c (fun i=>d i+e i)=fun k=>conv c d k+conv c e k:=by
 funext k
 unfold conv;rw [← yE];exact gJ fun i _=>Rg.md _ _ _
theorem XI {α:Type} [Add α] [Mul α] [OfNat α 0] [Rg α] (a:α) (c d:Nat→α):conv (fun i=>a*c i) d=fun k=>a*conv c d k:=by
 funext k
 unfold conv;rw [← sY];exact gJ fun i _=>Rg.ma _ _ _
theorem pH {α:Type} [Add α] [Mul α] [OfNat α 0] [Rg α] (a:α) (c d:Nat→α):conv c (fun i=>a*d i)=fun k=>a*conv c d k:=by
 rw [qE,XI,qE]
theorem FD {α:Type} [Add α] [Mul α] [OfNat α 0] [Rg α] (c d e:Nat→α):conv (conv c d) e=conv c (conv d e):=by
 funext k
 unfold conv;have h:=HA (fun j m=>c j*(d m*e (k - j - m))) (k+1);refine Eq.trans (gJ fun i hi=>?_) (h.trans (gJ fun i hi=>?_))
 ·rw [← C0]
  refine gJ fun j hj=>?_;rw [Rg.ma,show k - j - (i - j)=k - i by omega]
 rw [sY,show k+1 - i=k - i+1 by omega]
theorem lB {α:Type} [Add α] [Mul α] [OfNat α 0] [Rg α] {c d:Nat→α} {n m:Nat} (hc:∀ i,n≤i→c i=0) (hd:∀ i,m≤i→d i=0) (k:Nat) (hk:n+m≤k+1):conv c d k=0:=by
 refine jY fun i hi=>?_;rcases Nat.lt_or_ge i n with h|h
 ·rw [hd _ (by omega),Rg.m0]
 rw [hc _ h,Rg.zm]
theorem l9 {α:Type} [Add α] [Mul α] [OfNat α 0] [Rg α] {c d:Nat→α} {n m:Nat} (hc:∀ i,n<i→c i=0) (hd:∀ i,m<i→d i=0):conv c d (n+m)=c n*d m:=by
 unfold conv;rw [G9 (a:=n) (fun i hi=>?_) (by omega),show n+m - n=m by omega];rcases Nat.lt_or_ge n i with h|h
 ·rw [hc _ h,Rg.zm]
 rw [hd _ (by omega),Rg.m0]
def cR (c:Nat→Int) (i:Nat):Rat:=(c i:Rat)
theorem PQ (f:Nat→Int):∀ n:Nat,((gN f n:Int):Rat)=gN (fun i=>(f i:Rat)) n
 | 0=>rfl
 | n+1=>by simp only [gN];rw [Rat.intCast_add,PQ f n]
theorem IK (c d:Nat→Int):cR (conv c d)=conv (cR c) (cR d):=by
 funext k
 unfold cR conv;rw [PQ];exact gJ fun i _=>Rat.intCast_mul ..
theorem tQ (q:Rat):q*((q.den:Int):Rat)=((q.num:Int):Rat):=by
 have h:=Rat.num_divInt_den q;rw [Rat.divInt_eq_div,Rat.div_def] at h;have h0:((q.den:Int):Rat)≠0:=fun h=>q.den_nz (by have:=Rat.intCast_eq_zero_iff.1 h;omega)
 have e:(((q.num:Int):Rat)*((q.den:Int):Rat)⁻¹)*((q.den:Int):Rat)=((q.num:Int):Rat):=by rw [Rat.mul_assoc,Rat.inv_mul_cancel _ h0,Rat.mul_one]
 rw [h] at e;exact e
theorem aU_:I0=E (Z.of 0):=rfl
theorem vI0:vI I0=0:=cl_ B0
theorem MP {u v:Int} (hu:B512 u) (hv:B512 v):Z.sub (Z.of u) (Z.of v)=Z.of (u - v):=by
 rw [Z.sub,CI hv,E3 hu (show (-v).natAbs<_ by rw [Int.natAbs_neg];exact hv),Int.sub_eq_add_neg]
theorem SA {u:Int} (hu:B512 u):Z.abs (Z.of u)=Z.of (u.natAbs:Nat):=by rw [Z.abs,kG (Z.of_some hu)]
structure Po (p:List I) (c:Nat→Int):Prop where
 g:p.all gdI=true
 s:jM p=p
 l:p.length≤25
 c:∀ k,vI (p.getD k I0)=c k
section
variable {p q:List I} {c d:Nat→Int}
theorem Po.rgt (h:Po p c):Rgt p:=.inr ⟨h.g,h.s,h.l⟩
theorem RS (h:Rgt p) (hg:p.all gdI=true):Po p (fun k=>vI (p.getD k I0)):=by
 rcases h with rfl|h
 ·rw [dZ] at hg;cases hg
 exact ⟨h.1,h.2.1,h.2.2,fun _=>rfl⟩
theorem SW (h:p.all gdI=true) (k:Nat):gdI (p.getD k I0)=true:=by
 by_cases hk:k<p.length
 ·rw [show p.getD k I0=p[k] by simp [List.getD,hk]]
  exact List.all_eq_true.1 h _ (List.getElem_mem hk)
 rw [lF oo_];exact QT B0
theorem Po.get (h:Po p c) (k:Nat):p.getD k I0=E (Z.of (c k)):=by rw [← h.c k];exact (zG (SW h.g k)).1
theorem Po.B (h:Po p c) (k:Nat):B512 (c k):=by rw [← h.c k];exact (zG (SW h.g k)).2
theorem Po.zero (h:Po p c) {k:Nat} (hk:p.length≤k):c k=0:=by rw [← h.c k,lF hk,vI0]
theorem Po.last (h:Po p c) {n:Nat} (hn:p.length=n+1):c n≠0:=by
 rcases nF p with rfl|⟨m,x,rfl⟩
 ·cases hn
 have h1:=AA h.s
 have h2:n=m.length:=by simp at hn;omega
 have h3:=h.get n;rw [show (m++[x]).getD n I0=x by simp [h2]] at h3;rw [h3,aO_ (h.B n)] at h1;exact of_decide_eq_false h1
theorem Po.short (h:Po p c) {n:Nat} (hz:∀ k,n≤k→c k=0):p.length≤n:=by
 rcases Nat.lt_or_ge n p.length with g|g
 ·exact absurd (hz (p.length - 1) oo_) (h.last oo_)
 exact g
theorem Po.eq (h:Po p c) (g:Po q c):p=q:=by
 have e:p.length=q.length:=Nat.le_antisymm (h.short fun k hk=>g.zero hk) (g.short fun k hk=>h.zero hk);refine List.ext_getElem e fun k h1 h2=>?_;have a:=h.get k;rw [← g.get k] at a
 simpa [List.getD,h1,h2] using a
theorem Po.cast (h:Po p c) (e:∀ k,c k=d k):Po p d:=⟨h.g,h.s,h.l,fun k=>(h.c k).trans (e k)⟩
theorem BY:Po [] (fun _=>0):=⟨rfl,rfl,by decide,fun k=>by rw [show ([]:List I).getD k I0=I0 by simp];exact vI0⟩
theorem Po.nil (h:Po p c) (hz:∀ k,c k=0):p=[]:=(h.cast hz).eq BY
theorem BS:∀ (n:Nat) (l:List I),l.length≤n→∀ k,(jM l).length≤k→zrI (l.getD k I0)=true
 | 0,l,h,k,_=>by
  rw [lF oo_];exact zr0
 | n+1,l,h,k,hk=>by
  rcases nF l with rfl|⟨m,x,rfl⟩
  ·rw [show ([]:List I).getD k I0=I0 by simp];exact zr0
  rw [oS] at hk
  cases hx:zrI x
  ·rw [hx,cond_false] at hk
   rw [lF hk];exact zr0
  rw [hx,cond_true] at hk;rcases Nat.lt_trichotomy k m.length with g|g|g
  ·rw [show (m++[x]).getD k I0=m.getD k I0 by simp [List.getD,List.getElem?_append_left g]]
   exact BS n m (by simp at h;omega) k hk
  ·rw [show (m++[x]).getD k I0=x by simp [g]];exact hx
  rw [lF (by simp;omega)];exact zr0
theorem zZ {l:List I} (h:∀ k,l.getD k I0=E (Z.of (c k))) (hB:∀ k,B512 (c k)) (hz:∀ k,25≤k→c k=0):Po (mkP l) c:=by
 have hg:l.all gdI=true:=List.all_eq_true.2 fun x hx=>by
  obtain ⟨k,hk,rfl⟩:=List.getElem_of_mem hx;have e:=h k;rw [show l.getD k I0=l[k] by simp [List.getD,hk]] at e;rw [e];exact QT (hB k)
 have hl:(jM l).length≤25:=yD _ l (Nat.le_refl _) fun j hj=>by rw [h j,hz j hj];exact zr0
 have e:mkP l=jM l:=by unfold mkP;rw [hg,cond_true,if_pos hl]
 rw [e];refine ⟨JK hg,G5 l,hl,fun k=>?_⟩
 by_cases hk:k<(jM l).length
 ·have e2:(jM l).getD k I0=l.getD k I0:=by
   rw [vZ l];simp only [List.getD,List.getElem?_take,hk,if_true]
  rw [e2,h k,cl_ (hB k)]
 have:=BS _ l (Nat.le_refl _) k oo_;rw [h k,aO_ (hB k)] at this;rw [lF oo_,vI0,of_decide_eq_true this]
theorem ax_ (f:Nat→I) (n k:Nat):((List.range n).map f).getD k I0=if k<n then f k else I0:=by
 by_cases h:k<n<;>simp [List.getD,h]
theorem MV {f:Nat→I} {n:Nat} (h:∀ k,k<n→f k=E (Z.of (c k))) (h0:∀ k,n≤k→c k=0) (hB:∀ k,B512 (c k)) (hz:∀ k,25≤k→c k=0):Po (mkP ((List.range n).map f)) c:=by
 refine zZ (fun k=>?_) hB hz;rw [ax_]
 split
 ·exact h k ‹_›
 rw [h0 k oo_];rfl
theorem Po.l3 (h:Po p c):p.length≤1000:=Nat.le_trans h.l dd_
theorem ae_ (h:Rgt p):p.length≤1000:=Nat.le_trans (MC h) dd_
theorem Po.nb (h:Po p c):aS p=false:=by rw [nK h.l3,h.g];rfl
theorem KY {e:Nat→Int} {f:I→I→I} (h:Po p c) (g:Po q d) (hf:∀ k,f (E (Z.of (c k))) (E (Z.of (d k)))=E (Z.of (e k))) (hB:∀ k,B512 (e k)) (h0:∀ k,c k=0→d k=0→e k=0):Po (eM p q f) e:=by
 rw [qS f h.l3 g.l3,h.g,g.g,Bool.and_true,cond_true];have hl:=h.l;have gl:=g.l;refine MV (fun k _=>?_) (fun k hk=>?_) hB (fun k hk=>?_)
 ·rw [h.get,g.get,hf]
 ·exact h0 k (h.zero oo_) (g.zero oo_)
 exact h0 k (h.zero oo_) (g.zero oo_)
theorem NC {a:Int} (h:Po p c) (ha:B512 a) (hB:∀ k,B512 (c k*a)):Po (bL p (E (Z.of a))) (fun k=>c k*a):=by
 unfold bL;rw [show kR (E (Z.of a))=true from QT ha,cond_true];exact KY h BY (fun k=>by unfold lQ;rw [bW,bW,mK (h.B k) ha]) hB (fun k h1 _=>by rw [h1,Int.zero_mul])
theorem H8 (h:Po p c) (hB:∀ k,B512 (((k+1:Nat):Int)*c (k+1))):Po (aD p) (fun k=>((k+1:Nat):Int)*c (k+1)):=by
 have hl:=h.l;unfold aD;rw [h.nb,cond_false,n7];refine MV (fun k hk=>?_) (fun k hk=>?_) hB (fun k hk=>?_)
 ·unfold jJ
  rw [h.get,bW,mK (show ((k+1:Nat):Int).natAbs<4294967296 ^ 16 from Nat.lt_of_lt_of_le (show _<4294967296 by omega) (Nat.le_self_pow dd_ _)) (h.B _)];rfl
 ·rw [h.zero oo_,Int.mul_zero]
 rw [h.zero oo_,Int.mul_zero]
theorem ZH (h:Po p c) (g:Po q d) (k:Nat) (hs:∀ t,B512 (gN (fun i=>c i*d (k - i)) t)) (hm:∀ i j,B512 (c i*d j)) :
  ∀ (t i:Nat),k+1 - i<t→i≤k+1→(fE k q p t i (E (Z.of (gN (fun i=>c i*d (k - i)) i)))).2=E (Z.of (conv c d k))
 | 0,i,ht,_=>absurd ht (Nat.not_lt_zero _)
 | t+1,i,ht,hi=>by
  unfold fE;have e:∀ a b,a≤b→p.length≤a→gN (fun i=>c i*d (k - i)) b=gN (fun i=>c i*d (k - i)) a:=fun a b hab hpa =>
   nS (fun j hj=>by rw [h.zero oo_,Int.zero_mul]) b hab
  by_cases hk:(i:Int)≤min (k:Int) ((p.length:Int) - 1)
  ·rw [decide_eq_true hk,cond_true,h.get,g.get,bW,bW,bW,mK (h.B _) (g.B _),E3 (hs _) (hm _ _)]
   exact ZH h g k hs hm t (i+1) oo_ oo_
  rw [decide_eq_false hk,cond_false]
  show E (Z.of _)=E (Z.of (gN _ (k+1)))
  rcases Nat.lt_or_ge i (k+1) with h1|h1
  ·rw [← e i (k+1) oo_ oo_]
  rw [show i=k+1 by omega]
theorem dm_ (h:Po p c) (g:Po q d) (hs:∀ k t,B512 (gN (fun i=>c i*d (k - i)) t)) (hm:∀ i j,B512 (c i*d j)) (hl:p.length+q.length≤26):Po (fR p q) (conv c d):=by
 unfold fR;rw [h.nb,g.nb,Bool.or_false,cond_false]
 by_cases h0:p=[]
 ·subst h0
  rw [show (((([]:List I).length:Int)==0)||((q.length:Int)==0))=true by simp,cond_true];exact BY.cast fun k=>Eq.symm (jY fun i _=>by rw [h.zero (Nat.zero_le _),Int.zero_mul])
 by_cases g0:q=[]
 ·subst g0
  rw [show (((p.length:Int)==0)||((([]:List I).length:Int)==0))=true by simp,cond_true];refine BY.cast fun k=>Eq.symm (jY fun i _=>?_);rw [g.zero (Nat.zero_le _),Int.mul_zero]
 have h1:0<p.length:=List.length_pos_iff.2 h0;have h2:0<q.length:=List.length_pos_iff.2 g0
 rw [show (((p.length:Int)==0)||((q.length:Int)==0))=false by
  rw [Bool.or_eq_false_iff];exact ⟨beq_eq_false_iff_ne.2 oo_,beq_eq_false_iff_ne.2 oo_⟩,cond_false,n7]
 have hz:∀ k,p.length+q.length≤k+1→conv c d k=0:=fun k hk=>lB (fun i hi=>h.zero hi) (fun i hi=>g.zero hi) k hk;refine MV (fun k _=>?_) (fun k hk=>hz k oo_) (fun k=>hs k (k+1)) (fun k hk=>hz k oo_);unfold kM
 show (fE _ _ _ _ _ _).2=_
 rw [show I0=E (Z.of (gN (fun i=>c i*d (k - i)) ((k:Int) - (q.length:Int)+1).toNat)) by
  rw [jY fun i hi=>by rw [g.zero oo_,Int.mul_zero]];rfl]
 exact ZH h g k (hs k) hm _ _ oo_ oo_
theorem aQ_ {v:Int} {k:Nat} (m:Nat) (hm:4294967296 ^ 16=2 ^ m) (h:v.natAbs<2 ^ k) (hk:k≤m):B512 v:=by
 unfold B512;rw [hm];exact Nat.lt_of_lt_of_le h (Nat.pow_le_pow_right dd_ hk)
theorem vD {v:Int} {k:Nat} (h:v.natAbs<2 ^ k) (hk:k≤512):B512 v:=aQ_ 512 MX h hk
structure Bd (c:Nat→Int) (n b:Nat):Prop where
 z:∀ k,n≤k→c k=0
 b:∀ k,(c k).natAbs<2 ^ b
variable {n m b b':Nat}
theorem Bd.mono (h:Bd c n b) {n' b1:Nat} (hn:n≤n') (hb:b≤b1):Bd c n' b1:=⟨fun k hk=>h.z k oo_,fun k=>Nat.lt_of_lt_of_le (h.b k) (Nat.pow_le_pow_right dd_ hb)⟩
theorem Bd.B (h:Bd c n b) (hb:b≤512) (k:Nat):B512 (c k):=vD (h.b k) hb
theorem Bd.add (h:Bd c n b) (g:Bd d m b):Bd (fun k=>c k+d k) (max n m) (b+1) :=
 ⟨fun k hk=>by show c k+d k=0;rw [h.z k oo_,g.z k oo_];rfl,fun k=>by
  show (c k+d k).natAbs<_
  have h1:=h.b k;have h2:=g.b k;have h3:=Int.natAbs_add_le (c k) (d k)
  rw [Nat.pow_succ];omega⟩
theorem xH {u v:Int} (h:u.natAbs<2 ^ b) (g:v.natAbs<2 ^ b'):(u*v).natAbs<2 ^ (b+b'):=by
 rw [Int.natAbs_mul,Nat.pow_add];exact Nat.mul_lt_mul_of_lt_of_le h (Nat.le_of_lt g) (Nat.pow_pos dd_)
theorem MR {f:Nat→Int} {A:Nat} (h:∀ i,(f i).natAbs≤A):∀ t:Nat,(gN f t).natAbs≤t*A
 | 0=>by simp [gN]
 | t+1=>by
  have h1:=MR h t;have h2:=h t;have h3:=Int.natAbs_add_le (gN f t) (f t);rw [Nat.succ_mul];show (gN f t+f t).natAbs≤_;omega
theorem aw_ {f:Nat→Int} {e:Nat} (h:∀ i,(f i).natAbs<2 ^ b) (hz:∀ i,n≤i→f i=0) (hn:n≤2 ^ e) (t:Nat):(gN f t).natAbs<2 ^ (b+e):=by
 have hb:0<2 ^ b:=Nat.pow_pos dd_
 have k1:∀ t,t≤n→(gN f t).natAbs<2 ^ (b+e):=fun t ht=>by
  have h1:=MR (f:=f) (A:=2 ^ b - 1) (fun i=>by have:=h i;omega) t;have h2:t*(2 ^ b - 1)≤2 ^ e*(2 ^ b - 1):=Nat.mul_le_mul_right _ oo_;have h3:2 ^ e*(2 ^ b - 1)<2 ^ e*2 ^ b:=Nat.mul_lt_mul_of_pos_left oo_ (Nat.pow_pos dd_);rw [Nat.pow_add,Nat.mul_comm (2 ^ b)];omega
 rcases Nat.lt_or_ge n t with g|g
 ·rw [nS hz t oo_];exact k1 n (Nat.le_refl _)
 exact k1 t g
theorem IJ (h:Bd c n b) (g:Bd d m b') {e:Nat} (hn:n≤2 ^ e) (k t:Nat):(gN (fun i=>c i*d (k - i)) t).natAbs<2 ^ (b+b'+e) :=
 aw_ (n:=n) (fun i=>xH (h.b _) (g.b _)) (fun i hi=>by rw [h.z i hi,Int.zero_mul]) hn t
theorem Bd.conv (h:Bd c n b) (g:Bd d m b') {e:Nat} (hn:n≤2 ^ e):Bd (conv c d) (n+m - 1) (b+b'+e) :=
 ⟨fun k hk=>lB h.z g.z k oo_,fun k=>IJ h g hn k (k+1)⟩
theorem Po.len (h:Po p c) (hb:Bd c n b):p.length≤n:=h.short hb.z
theorem dl_ (h:Po p c) (g:Po q d) (hb:Bd c n b) (gb:Bd d m b') {e:Nat} (hn:n≤2 ^ e) (hl:n+m≤26) (hk:b+b'+e≤512):Po (fR p q) (conv c d) :=
 dm_ h g (fun k t=>vD (IJ hb gb hn k t) hk) (fun i j=>vD (xH (hb.b i) (gb.b j)) oo_) (by have:=h.len hb;have:=g.len gb;omega)
theorem bb_ {v:Int} (hv:B512 v) {b:Int} (h:(Z.bitsW (Z.of v)).1≤b):v.natAbs<2 ^ b.toNat:=by
 have h1:((Z.of v).bits:Int)≤b:=h;unfold Z.bits at h1;rw [Z.of_some hv] at h1;simp only at h1;exact Nat.lt_of_lt_of_le (E8 _) (Nat.pow_le_pow_right dd_ oo_)
theorem N3 (p:List I) (a b:Int):∀ (k i:Nat),p.length - i<k→(sm (fun _:Nat=>true) (fun r=>r) (jO p a b k i))=true→∀ j,i≤j→j<p.length→(Z.bitsW (p.getD j I0).dec).1≤b
 | 0,i,h,_,_,_,_=>absurd h (Nat.not_lt_zero _)
 | k+1,i,h,hs,j,hj,hl=>by
  unfold jO at hs;rw [decide_eq_true (show (i:Int)<(p.length:Int) by omega),cond_true] at hs
  by_cases hb:b<(Z.bitsW (p.getD i I0).dec).1
  ·rw [decide_eq_true hb] at hs;cases hs
  rw [decide_eq_false hb,cond_false] at hs;rcases Nat.lt_or_ge i j with g|g
  ·exact N3 p a b k (i+1) oo_ hs j oo_ hl
  rw [show j=i by omega];omega
theorem X6 {a b:Int} (h:jG p a b=true) (hg:p.all gdI=true):∃ c,Po p c∧Bd c (a+1).toNat b.toNat:=by
 have h1:=fj_ (p:=p) (d:=a) (b:=b) (by rw [h];rfl);have h2:=IS h;have hp:=RS h1.1 hg;refine ⟨_,hp,fun k hk=>hp.zero oo_,fun k=>?_⟩
 by_cases hk:k<p.length
 ·unfold jG at h
  rw [h2.1,decide_eq_false oo_] at h;have h3:=N3 p a b _ 0 oo_ h k oo_ hk;rw [hp.get k,bW] at h3;exact bb_ (hp.B k) h3
 show (vI (p.getD k I0)).natAbs<_
 rw [lF oo_,vI0];exact Nat.pow_pos dd_
theorem R5 (hp:p.length≤1000) (hq:q.length≤1000) (h:p.all gdI=false∨q.all gdI=false):sF p q=badp:=by
 unfold sF;rw [qS _ hp hq,show (p.all gdI&&q.all gdI)=false by rcases h with h|h<;>simp [h]];rfl
theorem R8 (hp:p.length≤1000) (hq:q.length≤1000) (h:p.all gdI=false∨q.all gdI=false):fR p q=badp:=by
 unfold fR;rw [nK hp,nK hq,show (!p.all gdI || !q.all gdI)=true by rcases h with h|h<;>simp [h]];rfl
end
open Go Go.Kn
theorem KZ {u g:Int} (hu:B512 u) (hg:0<g):B512 (u / g):=by
 unfold B512 at *;have h1:=Int.mul_ediv_add_emod u g;have h2:=Int.emod_nonneg u (by omega:g≠0);have h3:=Int.emod_lt_of_pos u hg
 have h4:(u / g).natAbs≤u.natAbs:=by
  rcases Int.lt_or_le u 0 with h|h
  ·have h5:u / g<0:=Int.ediv_neg_of_neg_of_pos h hg
   have h6:u≤u / g:=by
    have h7:g*(u / g)≤u / g:=by
     have:=Int.mul_le_mul_of_nonpos_right (show (1:Int)≤g by omega) (Int.le_of_lt h5);omega
    have h8:u<g*(u / g)+g:=by omega
    rcases Int.lt_or_le u (g*(u / g)) with h9|h9
    ·omega
    have h10:(g - 1)*(u / g) ≤ -(g - 1):=by
     have:=Int.mul_le_mul_of_nonneg_left (show u / g ≤ -1 by omega) (show 0≤g - 1 by omega);omega
    have h11:g*(u / g)=(g - 1)*(u / g)+u / g:=by rw [Int.sub_mul];omega
    omega
   omega
  have h5:0≤u / g:=Int.ediv_nonneg h oo_;have h6:u / g≤u:=Int.ediv_le_self _ h;omega
 omega
theorem K0 {u g:Int} (hg:0<g) (hb:B512 g):B512 (u % g):=by
 unfold B512 at *;have h2:=Int.emod_nonneg u (by omega:g≠0);have h3:=Int.emod_lt_of_pos u hg;omega
theorem TU {u v:Int} (hu:B512 u) (hv:B512 v) (h:0<v):Z.rem (Z.of u) (Z.of v)=Z.of (u % v):=by
 rw [Z.rem,eG (Z.of_some hu) (Z.of_some hv),if_neg oo_,Int.fmod_eq_emod_of_nonneg _ oo_]
theorem tT {u v:Int} (hu:B512 u) (hv:B512 v) (h:0<v):Z.quo (Z.of u) (Z.of v)=Z.of (u / v):=by
 rw [xR hu hv oo_,AX h]
theorem KP {u v:Int} (hu:B512 u) (hv:B512 v):(Z.cmpW (Z.of u) (Z.of v)).1=(u - v).sign:=by
 show Z.cmp _ _=_
 unfold Z.cmp;rw [Z.of_some hu,Z.of_some hv];simp only;rcases Int.lt_trichotomy u v with h|h|h
 ·rw [AO h,Int.sign_eq_neg_one_of_neg oo_]
 ·subst h;rw [KN,Int.sub_self];rfl
 rw [AN h,Int.sign_eq_one_of_pos oo_]
theorem AE {n:Int} (h:-4≤n∧n≤4):IntKind.i64.wrap n=n:=wi ⟨by omega,by omega⟩
theorem BP (x:Int):-1≤x.sign∧x.sign≤1:=by
 rcases Int.lt_trichotomy x 0 with h|h|h
 ·rw [Int.sign_eq_neg_one_of_neg h];omega
 ·subst h;decide
 rw [Int.sign_eq_one_of_pos h];omega
theorem cR_ {o x:W} (ho:o.1=1∨o.1 = -1) (hx:-2≤x.1∧x.1≤2):(W.mul o x).1=o.1*x.1:=by
 show IntKind.i64.wrap (o.1*x.1)=_
 refine AE ?_;rcases ho with h|h<;>rw [h]<;>omega
theorem cT_ {o:W} (ho:o.1=1∨o.1 = -1):(W.neg o).1 = -o.1:=by
 show IntKind.i64.wrap (0 - o.1)=_
 rw [AE oo_];omega
theorem an_ {b d p r s:Int} (hb:0<b) (hd:0<d) (h0:p≠0) (hr:0≤r) (hrb:r<b) (hs:0≤s) (hsd:s<d):(b*d*p+(r*d - s*b)).sign=p.sign:=by
 have hbd:0<b*d:=Int.mul_pos hb hd;have h1:r*d<b*d:=Int.mul_lt_mul_of_pos_right hrb hd;have h2:s*b<d*b:=Int.mul_lt_mul_of_pos_right hsd hb;have h3:0≤r*d:=Int.mul_nonneg hr oo_;have h4:0≤s*b:=Int.mul_nonneg hs oo_;rw [Int.mul_comm d b] at h2;rcases Int.lt_trichotomy p 0 with h|h|h
 ·rw [Int.sign_eq_neg_one_of_neg h,Int.sign_eq_neg_one_of_neg]
  have:b*d*p≤b*d*(-1):=Int.mul_le_mul_of_nonneg_left oo_ oo_;omega
 ·exact absurd h h0
 rw [Int.sign_eq_one_of_pos h,Int.sign_eq_one_of_pos];have:b*d*1≤b*d*p:=Int.mul_le_mul_of_nonneg_left oo_ oo_;omega
theorem bg_:∀ (k:Nat) (o:W) (a b c d:Int),b.toNat≤k→0<b→0<d→B512 a→B512 b→B512 c→B512 d→(o.1=1∨o.1 = -1) →
  (cf k o (E (Z.of a)) (E (Z.of b)) (E (Z.of c)) (E (Z.of d))).1=o.1*(a*d - c*b).sign:=by
 intro k
 induction k with
 | zero=>intro o a b c d hk hb;omega
 | succ k ih =>
  intro o a b c d hk hb hd ha hb' hc hd' ho;unfold cf;simp only [bW];rw [tT ha hb' hb,tT hc hd' hd,TU ha hb' hb,TU hc hd' hd,i6 (K0 hb hb'),i6 (K0 hd hd'),KP (KZ ha hb) (KZ hc hd)];have e1:=Int.mul_ediv_add_emod a b;have e2:=Int.mul_ediv_add_emod c d;have r1:=Int.emod_nonneg a (by omega:b≠0);have r2:=Int.emod_lt_of_pos a hb;have s1:=Int.emod_nonneg c (by omega:d≠0);have s2:=Int.emod_lt_of_pos c hd;have hrB:=K0 (u:=a) hb hb';have hsB:=K0 (u:=c) hd hd';have hpB:=KZ ha hb;have hqB:=KZ hc hd;generalize hp:a / b=p at *;generalize hr:a % b=r at *;generalize hq:c / d=q at *;generalize hs:c % d=s at *
  have key:a*d - c*b=b*d*(p - q)+(r*d - s*b):=by
   rw [← e1,← e2];grind
  rw [key]
  by_cases hpq:p=q
  ·have h1:(p - q).sign=0:=by rw [hpq,Int.sub_self];rfl
   have h2:b*d*(p - q)+(r*d - s*b)=r*d - s*b:=by rw [hpq];grind
   rw [h1,h2];have h3:((0:Int) != 0)=false:=rfl;rw [h3];simp only [cond_false]
   by_cases h0:r=0∨s=0
   ·have h4:((r.sign==0)||(s.sign==0))=true:=by
     rcases h0 with h|h<;>subst h<;>simp
    rw [h4];simp only [cond_true];have h5:=BP r;have h6:=BP s
    have e5:(W.sub (Z.signW (Z.of r)) (Z.signW (Z.of s))).1=r.sign - s.sign:=by
     show IntKind.i64.wrap ((Z.signW (Z.of r)).1 - (Z.signW (Z.of s)).1)=_
     rw [i6 hrB,i6 hsB];exact AE oo_
    rw [cR_ ho (by rw [e5];omega),e5]
    congr 1
    rcases h0 with h|h
    ·subst h
     rw [Int.zero_mul,Int.zero_sub,Int.sign_neg,Int.sign_mul,Int.sign_eq_one_of_pos hb];simp
    subst h;rw [Int.zero_mul,Int.sub_zero,Int.sign_mul,Int.sign_eq_one_of_pos hd];simp
   have hr0:0<r:=by omega
   have hs0:0<s:=by omega
   have h4:((r.sign==0)||(s.sign==0))=false:=by
    rw [Int.sign_eq_one_of_pos hr0,Int.sign_eq_one_of_pos hs0];rfl
   rw [h4];simp only [cond_false];rw [ih _ _ _ _ _ oo_ hr0 hs0 hb' hrB hd' hsB (by rw [cT_ ho];omega),cT_ ho]
   have:b*s - d*r = -(r*d - s*b):=by grind
   rw [this,Int.sign_neg,Int.neg_mul_neg]
  have h1:((p - q).sign != 0)=true:=by
   rcases Int.lt_trichotomy (p - q) 0 with h|h|h
   ·rw [Int.sign_eq_neg_one_of_neg h];rfl
   ·omega
   rw [Int.sign_eq_one_of_pos h];rfl
  rw [h1];simp only [cond_true];rw [cR_ ho (by rw [KP hpB hqB];have:=BP (p - q);omega),KP hpB hqB];rw [an_ hb hd oo_ r1 r2 s1 s2]
theorem dC_ {d:Int} (h:B512 d):cfN (E (Z.of d))=d.toNat:=by
 unfold cfN;rw [bW,Z.of_some h]
theorem yL {a:Rt} {n d:Int} (h:a.Is n d):bA a=true:=eV_.2 ⟨n,d,h⟩
theorem df_ {a b:Rt} {n d m e:Int} (ha:a.Is n d) (hb:b.Is m e):(eS a b).1=(n*e - m*d).sign:=by
 unfold eS;rw [i7,i7,yL ha,yL hb];simp only [Bool.not_true,Bool.and_false,cond_true,cond_false];rw [ha.en,ha.ed,hb.en,hb.ed,dC_ ha.hd,bg_ _ _ _ _ _ _ (Nat.le_refl _) ha.pos hb.pos ha.hn ha.hd hb.hn hb.hd (.inl O)];exact Int.one_mul _
theorem R7 (a b:W):lX a b=m6 a b:=rfl
theorem WC (a b:Rt):bB a b=jF a b:=by unfold bB jF;rw [JY,KC,R7]
theorem a8_:bA fJ=false:=by decide +kernel
theorem dn_ {a:Rt} {n d:Int} (h:a.Is n d):Rt.Is (iF a) (-n) d:=by
 have e:iF a=⟨E (Z.of (-n)),E (Z.of d)⟩:=by
  unfold iF;rw [yL h,h.en,h.ed,bW,CI h.hn];rfl
 rw [e];refine ⟨rfl,rfl,?_,h.hd,h.pos,by rw [Int.neg_gcd];exact h.cop⟩;have:=h.hn;unfold B512 at *;rw [Int.natAbs_neg];exact this
theorem eW_ {a:Rt} (h:bA a=true):∃ n d,Rt.Is a n d:=eV_.1 h
theorem ap_ {x:Int}:x.sign≤0 ↔ x≤0:=Int.sign_nonpos_iff
theorem ao_ {x:Int}:0<x.sign ↔ 0<x:=Int.sign_pos_iff
structure Iv.Is (a:Iv) (n d m e:Int):Prop where
 lo:a.lo.Is n d
 hi:a.hi.Is m e
 le:n*e≤m*d
def Rt.At (a:Rt) (q:Rat):Prop:=a.Is q.num (q.den:Int)
theorem ct_ {a:Rt} {n d:Int} (h:a.Is n d):∃ q:Rat,a.At q∧q.num=n∧(q.den:Int)=d:=by
 have hd:(d.toNat:Int)=d:=Int.toNat_of_nonneg (Int.le_of_lt h.pos)
 have hc:n.natAbs.Coprime d.toNat:=by
  have:=h.cop;unfold Int.gcd at this;rw [show d.natAbs=d.toNat by omega] at this;exact this
 refine ⟨⟨n,d.toNat,by have:=h.pos;omega,hc⟩,?_,rfl,hd⟩
 show a.Is n (d.toNat:Int)
 rw [hd];exact h
theorem EH {a:Rt} (h:bA a=true):∃ q,a.At q:=by
 obtain ⟨n,d,h1⟩:=eW_ h;obtain ⟨q,h2,_⟩:=ct_ h1;exact ⟨q,h2⟩
theorem kL {a:Rt} {q:Rat} (h:a.At q):bA a=true:=yL h
theorem P7 {a b:Rt} {q:Rat} (ha:a.At q) (hb:b.At q):a=b:=Rt.ext (ha.en.trans hb.en.symm) (ha.ed.trans hb.ed.symm)
theorem oP {a:Rt} {p q:Rat} (ha:a.At p) (hb:a.At q):p=q:=by
 have h1:=RG ha.hn hb.hn (R6 (ha.en.symm.trans hb.en));have h2:=RG ha.hd hb.hd (R6 (ha.ed.symm.trans hb.ed));exact Rat.ext h1 oo_
theorem V7 {a b:Rt} {p q:Rat} (ha:a.At p) (hb:b.At q):(eS a b).1=(p.num*q.den - q.num*p.den).sign:=df_ ha hb
theorem P8 {a b:Rt} {p q:Rat} (ha:a.At p) (hb:b.At q):0<(eS a b).1 ↔ q<p:=by
 rw [V7 ha hb,ao_,Rat.lt_iff];omega
theorem KA {a b:Rt} {p q:Rat} (ha:a.At p) (hb:b.At q):(eS a b).1≤0 ↔ p≤q:=by
 rw [V7 ha hb,ap_,Rat.le_iff];omega
structure Iv.At (a:Iv) (p q:Rat):Prop where
 lo:a.lo.At p
 hi:a.hi.At q
 le:p≤q
def mn (p q:Rat):Rat:=if p≤q then p else q
structure Sz (q:Rat) (k:Nat):Prop where
 n:q.num.natAbs<2 ^ k
 d:q.den<2 ^ k
theorem CN {a b:Nat} (h:a≤b):(2:Nat) ^ a≤2 ^ b:=Nat.pow_le_pow_right dd_ h
theorem de_ {v:Int} {k:Nat} (m:Nat) (hm:4294967296 ^ 16=2 ^ m) (h:v.natAbs<2 ^ k) (hk:k≤m):B512 v:=by
 unfold B512;rw [hm];exact Nat.lt_of_lt_of_le h (CN hk)
theorem AF {v:Int} {k:Nat} (h:v.natAbs<2 ^ k) (hk:k≤512):B512 v:=de_ 512 MX h hk
theorem Sz.mono {q:Rat} {j k:Nat} (h:Sz q j) (hk:j≤k):Sz q k:=⟨Nat.lt_of_lt_of_le h.n (CN hk),Nat.lt_of_lt_of_le h.d (CN hk)⟩
theorem Sz.bn {q:Rat} {k:Nat} (h:Sz q k) (hk:k≤512):B512 q.num:=AF h.n hk
theorem Sz.bd {q:Rat} {k:Nat} (h:Sz q k) (hk:k≤512):B512 (q.den:Int):=AF (by simpa using h.d) hk
theorem tR {a b j k:Nat} (h:a<2 ^ j) (g:b<2 ^ k):a*b<2 ^ (j+k):=by
 rw [Nat.pow_add];exact Nat.mul_lt_mul_of_lt_of_le h (Nat.le_of_lt g) (Nat.pow_pos dd_)
theorem Sz.mul {p q:Rat} {j k:Nat} (h:Sz p j) (g:Sz q k):Sz (p*q) (j+k):=by
 constructor
 ·rw [Rat.num_mul]
  refine Nat.lt_of_le_of_lt (Int.natAbs_ediv_le_natAbs _ _) ?_;rw [Int.natAbs_mul];exact tR h.n g.n
 rw [Rat.den_mul];exact Nat.lt_of_le_of_lt (Nat.div_le_self _ _) (tR h.d g.d)
theorem Sz.neg {p:Rat} {k:Nat} (h:Sz p k):Sz (-p) k:=⟨by rw [Rat.neg_num,Int.natAbs_neg];exact h.n,h.d⟩
theorem QE {n m:Int} {d e j k:Nat} (h1:n.natAbs<2 ^ j) (h2:e<2 ^ k) (h3:m.natAbs<2 ^ k) (h4:d<2 ^ j):(n*e+m*d).natAbs<2 ^ (j+k+1):=by
 have a:=tR h1 h2;have b:=tR h4 h3;have c:=Int.natAbs_add_le (n*e) (m*d);rw [Int.natAbs_mul,Int.natAbs_mul,Int.natAbs_natCast,Int.natAbs_natCast] at c;rw [Nat.pow_succ];rw [Nat.mul_comm d] at b;omega
theorem Sz.add {p q:Rat} {j k:Nat} (h:Sz p j) (g:Sz q k):Sz (p+q) (j+k+1):=by
 constructor
 ·rw [Rat.num_add]
  exact Nat.lt_of_le_of_lt (Int.natAbs_ediv_le_natAbs _ _) (QE h.n g.d g.n h.d)
 rw [Rat.den_add];exact Nat.lt_of_le_of_lt (Nat.div_le_self _ _) (Nat.lt_of_lt_of_le (tR h.d g.d) (CN oo_))
theorem Sz.inv {p:Rat} {k:Nat} (h:Sz p k) (h0:p≠0):Sz p⁻¹ k:=by
 have hn:p.num≠0:=fun h=>h0 (Rat.num_eq_zero.1 h)
 constructor
 ·rw [Rat.num_inv,Int.natAbs_mul,Int.natAbs_sign_of_ne_zero hn,Nat.one_mul,Int.natAbs_natCast];exact h.d
 rw [Rat.den_inv,if_neg hn];exact h.n
theorem Sz.int {n:Int} {k:Nat} (h:n.natAbs<2 ^ k) (hk:0<k):Sz (n:Rat) k:=⟨h,Nat.one_lt_two_pow oo_⟩
theorem eP_ {a:Rt} {n d:Int} {q:Rat} (h:a.Is n d) (he:q.num*d=n*q.den):a.At q:=by
 obtain ⟨p,hp,h1,h2⟩:=ct_ h;have:p=q:=Rat.eq_iff_mul_eq_mul.2 (by rw [h1,h2];exact he.symm);rw [← this];exact hp
theorem At.is {a:Rt} {q:Rat} (h:a.At q):a.Is q.num (q.den:Int):=h
theorem qP {n d:Int} {q:Rat} (hn:B512 n) (hd:B512 d) (hp:0<d) (he:q.num*d=n*q.den):(bM (E (Z.of n)) (E (Z.of d))).At q:=by
 refine eP_ (xG hn hd hp) ?_;have g1:((Int.gcd n d:Nat):Int) ∣ n:=Int.gcd_dvd_left ..;have g2:((Int.gcd n d:Nat):Int) ∣ d:=Int.gcd_dvd_right ..
 have p1:0<((Int.gcd n d:Nat):Int):=by have:=Int.gcd_pos_of_ne_zero_right n (show d≠0 by omega);omega
 obtain ⟨x,hx⟩:=g1;obtain ⟨y,hy⟩:=g2;generalize ((Int.gcd n d:Nat):Int)=G at *
 have q1:n / G=x:=by rw [hx];exact Int.mul_ediv_cancel_left _ oo_
 have q2:d / G=y:=by rw [hy];exact Int.mul_ediv_cancel_left _ oo_
 rw [q1,q2];rw [hx,hy] at he;exact Int.eq_of_mul_eq_mul_left (show G≠0 by omega) (by grind)
theorem M9 (c:W):(oR c).At (c.1:Rat):=by
 unfold oR;rw [ea_];have:=c.2;unfold I64 at this;exact qP (AF (k:=64) oo_ dd_) B1 dd_ (by simp)
theorem wZ {a:Rt} {p:Rat} (h:a.At p):(iF a).At (-p):=dn_ h
theorem jW {q:Rat}:(0:Int)<q.den:=by have:=q.den_nz;omega
theorem dk_ {a b:Rt} {p q:Rat} (ha:a.At p) (hb:b.At q) (hn:B512 (p*q).num) (hd:B512 ((p*q).den:Int)):(fK a b).At (p*q):=by
 unfold fK;rw [kL ha,kL hb];obtain ⟨x,y,r,s,e1,e2,b1,b2,b3,b4,h1,h2,hc,he⟩:=EY ha hb;simp only [Bool.not_true,Bool.or_false,cond_false,e1,e2,bW];rw [mK b1 b3,mK b2 b4];have hps:0<y*s:=Int.mul_pos h1 h2
 have hpq:p*q=Rat.divInt (x*r) (y*s):=by
  rw [← Rat.num_divInt_den p,← Rat.num_divInt_den q,Rat.divInt_mul_divInt];exact (Rat.divInt_eq_divInt_iff (by have:=@jW p;have:=@jW q;exact Int.mul_ne_zero oo_ oo_) oo_).2 (by rw [he])
 have hnum:(p*q).num=x*r:=by
  rw [hpq,Rat.num_divInt,Int.gcd_comm,hc,Int.sign_eq_one_of_pos hps];simp
 have hden:((p*q).den:Int)=y*s:=by
  rw [hpq,Rat.den_divInt,if_neg oo_,Int.gcd_comm,hc,Nat.div_one];omega
 rw [hnum] at hn;rw [hden] at hd;exact qP hn hd hps (by rw [hnum,hden])
theorem WD {a b:Rt} {p q:Rat} {j k:Nat} (ha:a.At p) (hb:b.At q) (hp:Sz p j) (hq:Sz q k) (h:j+k≤512):(fK a b).At (p*q) :=
 dk_ ha hb ((hp.mul hq).bn h) ((hp.mul hq).bd h)
theorem P6 {a b:Rt} {p q:Rat} {j k:Nat} (ha:a.At p) (hb:b.At q) (hp:Sz p j) (hq:Sz q k) (h:j+k+1≤512):(fA a b).At (p+q):=by
 unfold fA;rw [kL ha,kL hb];simp only [Bool.not_true,Bool.or_false,cond_false];have ia:=At.is ha;have ib:=At.is hb;rw [ia.en,ia.ed,ib.en,ib.ed];simp only [bW];have hdp:=@jW p;have hdq:=@jW q
 have hg:0<((Int.gcd (p.den:Int) (q.den:Int):Nat):Int):=by
  have:=Int.gcd_pos_of_ne_zero_right (p.den:Int) (show (q.den:Int)≠0 by omega);omega
 have hbg:=IY (u:=(p.den:Int)) ib.hd oo_;have g1:((Int.gcd (p.den:Int) (q.den:Int):Nat):Int) ∣ (p.den:Int):=Int.gcd_dvd_left ..;have g2:((Int.gcd (p.den:Int) (q.den:Int):Nat):Int) ∣ (q.den:Int):=Int.gcd_dvd_right ..;rw [xB ia.hd ib.hd,tT ib.hd hbg hg,tT ia.hd hbg hg];generalize ((Int.gcd (p.den:Int) (q.den:Int):Nat):Int)=G at *;obtain ⟨x,hx⟩:=g1;obtain ⟨y,hy⟩:=g2
 have q1:(p.den:Int) / G=x:=by rw [hx];exact Int.mul_ediv_cancel_left _ oo_
 have q2:(q.den:Int) / G=y:=by rw [hy];exact Int.mul_ediv_cancel_left _ oo_
 rw [q1,q2]
 have x0:0<x:=by rw [hx] at hdp;exact Int.pos_of_mul_pos_right hdp hg
 have y0:0<y:=by rw [hy] at hdq;exact Int.pos_of_mul_pos_right hdq hg
 have xl:x≤p.den:=by rw [hx];have:=Int.mul_le_mul_of_nonneg_right (show (1:Int)≤G by omega) (Int.le_of_lt x0);omega
 have yl:y≤q.den:=by rw [hy];have:=Int.mul_le_mul_of_nonneg_right (show (1:Int)≤G by omega) (Int.le_of_lt y0);omega
 have x1:x.toNat<2 ^ j:=Nat.lt_of_le_of_lt oo_ hp.d;have y1:y.toNat<2 ^ k:=Nat.lt_of_le_of_lt oo_ hq.d
 have xe:x=(x.toNat:Int):=by omega
 have ye:y=(y.toNat:Int):=by omega
 have bx:B512 x:=AF (k:=j) (by rw [xe,Int.natAbs_natCast];exact x1) oo_
 have by':B512 y:=AF (k:=k) (by rw [ye,Int.natAbs_natCast];exact y1) oo_
 rw [mK ia.hn by',mK ib.hn bx,mK bx ib.hd]
 have t1:(p.num*y).natAbs<2 ^ (j+k):=by rw [Int.natAbs_mul];exact tR hp.n oo_
 have t2:(q.num*x).natAbs<2 ^ (j+k):=by rw [Int.natAbs_mul,Nat.mul_comm];exact tR oo_ hq.n
 have t3:(x*(q.den:Int)).natAbs<2 ^ (j+k):=by rw [Int.natAbs_mul];exact tR oo_ (by simpa using hq.d)
 rw [E3 (AF t1 oo_) (AF t2 oo_)]
 have t4:(p.num*y+q.num*x).natAbs<2 ^ (j+k+1):=by rw [Nat.pow_succ];omega
 refine qP (AF t4 h) (AF t3 oo_) (Int.mul_pos x0 hdq) ?_
 have key:p+q=Rat.divInt (p.num*y+q.num*x) (x*q.den):=by
  conv=>lhs;rw [← Rat.num_divInt_den p,← Rat.num_divInt_den q,Rat.divInt_add_divInt _ _ oo_ oo_]
  refine (Rat.divInt_eq_divInt_iff (Int.mul_ne_zero oo_ oo_) (Int.mul_ne_zero oo_ oo_)).2 ?_;rw [hx,hy];grind
 have h3:=Rat.num_divInt_den (p+q);rw [key] at h3 ⊢;have h4:=(Rat.divInt_eq_divInt_iff (by have:=@jW (Rat.divInt (p.num*y+q.num*x) (x*q.den));omega) (Int.mul_ne_zero oo_ oo_)).1 h3;exact h4
theorem WI {a b:Rt} {p q:Rat} {j k:Nat} (ha:a.At p) (hb:b.At q) (hp:Sz p j) (hq:Sz q k) (h:j+k+1≤512):(iG a b).At (p - q):=by
 unfold iG;rw [Rat.sub_eq_add_neg];exact P6 ha (wZ hb) hp hq.neg h
theorem Y8 {n d:Int} (hn:B512 n) (hd:B512 d) (hp:d<0):bM (E (Z.of n)) (E (Z.of d))=bM (E (Z.of (-n))) (E (Z.of (-d))):=by
 have hn':B512 (-n):=by unfold B512 at *;rw [Int.natAbs_neg];exact hn
 have hd':B512 (-d):=by unfold B512 at *;rw [Int.natAbs_neg];exact hd
 rw [OK hn' hd' oo_];unfold bM
 have h1:((Z.signW (E (Z.of d)).dec).1==0)=false:=by rw [bW,i6 hd,Int.sign_eq_neg_one_of_neg hp];rfl
 have h2:decide ((Z.signW (E (Z.of d)).dec).1<0)=true:=by rw [bW,i6 hd,Int.sign_eq_neg_one_of_neg hp];rfl
 have hg:0<((Int.gcd n d:Nat):Int):=by
  have:=Int.gcd_pos_of_ne_zero_right n (show d≠0 by omega);omega
 have hb:=IY (u:=n) hd oo_
 have hb':B512 (-((Int.gcd n d:Nat):Int)):=by unfold B512 at *;rw [Int.natAbs_neg];exact hb
 rw [uB hn,uB hd,h1,h2,bW,bW,xB hn hd,CI hb];simp only [Bool.not_true,Bool.or_false,cond_false,cond_true];rw [xR hn hb' oo_,xR hd hb' oo_,Int.neg_gcd,Int.gcd_neg]
 have e:∀ u:Int,u.fdiv (-((Int.gcd n d:Nat):Int))=(-u) / ((Int.gcd n d:Nat):Int):=fun u=>by
  rw [← AX hg,← Int.neg_fdiv_neg,Int.neg_neg]
 rw [e,e]
theorem WA {b:Rt} {q:Rat} (hb:b.At q) (h0:q≠0):(bM b.d b.n).At q⁻¹:=by
 have ib:=At.is hb;rw [ib.en,ib.ed];have hn:q.num≠0:=fun h=>h0 (Rat.num_eq_zero.1 h);have hd:=@jW q;have e1:=Rat.num_inv q;have e2:=Rat.den_inv q;rw [if_neg hn] at e2;rcases Int.lt_or_gt_of_ne hn with h|h
 ·rw [Y8 ib.hd ib.hn h]
  rw [Int.sign_eq_neg_one_of_neg h] at e1
  have b1:B512 (-(q.den:Int)):=by have:=ib.hd;unfold B512 at *;rw [Int.natAbs_neg];exact this
  have b2:B512 (-q.num):=by have:=ib.hn;unfold B512 at *;rw [Int.natAbs_neg];exact this
  have e3:(q.num.natAbs:Int) = -q.num:=by omega
  exact qP b1 b2 oo_ (by rw [e1,e2,e3];grind)
 rw [Int.sign_eq_one_of_pos h] at e1
 have e3:(q.num.natAbs:Int)=q.num:=by omega
 exact qP ib.hd ib.hn h (by rw [e1,e2,e3];grind)
theorem SB {v:Int} (h:B512 v):(Z.of v).bits=bl v.natAbs:=by unfold Z.bits;rw [Z.of_some h]
def vl (c:Nat→Rat) (x:Rat) (n:Nat):Rat:=gN (fun i=>c i*x ^ i) n
theorem PD (x:Rat) (m:Nat):∀ n:Nat,x ^ (m+n)=x ^ m*x ^ n
 | 0=>by rw [Rat.pow_zero,Rat.mul_one];rfl
 | n+1=>by rw [← Nat.add_assoc,Rat.pow_succ,PD x m n,Rat.pow_succ,Rat.mul_assoc]
theorem EV {c:Nat→Rat} {x:Rat} {n:Nat} (h:∀ i,n≤i→c i=0) {m:Nat} (hm:n≤m):vl c x m=vl c x n :=
 nS (fun i hi=>by rw [h i hi,Rat.zero_mul]) m hm
theorem eM_ (c d:Nat→Rat) (x:Rat) (n:Nat):vl (fun i=>c i+d i) x n=vl c x n+vl d x n:=by
 unfold vl;rw [← yE];exact gJ fun i _=>Rat.add_mul _ _ _
theorem aH_ (c:Nat→Rat) (x:Rat) (n:Nat):vl c x (n+1)=c 0+x*vl (fun i=>c (i+1)) x n:=by
 unfold vl;rw [v3,Rat.pow_zero,Rat.mul_one,← sY]
 congr 1
 refine gJ fun i _=>?_;rw [Rat.pow_succ];grind
theorem cp_ {c d:Nat→Rat} {x:Rat} {n m:Nat} (hc:∀ i,n≤i→c i=0) (hd:∀ i,m≤i→d i=0) {K:Nat} (hK:n+m≤K):vl (conv c d) x K=vl c x n*vl d x m:=by
 have h:=HA (fun i j=>c i*x ^ i*(d j*x ^ j)) K
 have e1:vl (conv c d) x K=gN (fun k=>gN (fun i=>c i*x ^ i*(d (k - i)*x ^ (k - i))) (k+1)) K:=by
  refine gJ fun k _=>?_
  show gN _ _*_=_
  rw [← C0];refine gJ fun i hi=>?_
  have:x ^ k=x ^ i*x ^ (k - i):=by rw [← PD];congr 1;omega
  rw [this];grind
 rw [e1,h];unfold vl;rw [← C0];rw [nS (n:=n) (fun i hi=>by rw [hc i hi];exact jY fun j _=>by rw [Rat.zero_mul,Rat.zero_mul]) K oo_];refine gJ fun i hi=>?_;rw [sY]
 congr 1
 exact nS (fun j hj=>by rw [hd j hj,Rat.zero_mul]) _ oo_
end Go.Num
