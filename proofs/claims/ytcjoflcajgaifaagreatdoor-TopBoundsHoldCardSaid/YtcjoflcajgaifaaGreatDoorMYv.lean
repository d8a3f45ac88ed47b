/- Lemmas: what they ask stands in their statements. -/
import Derived.Test.YtcjoflcajgaifaaGreatDoorMFt1
set_option linter.unusedSimpArgs false
set_option linter.unusedVariables false
set_option maxHeartbeats 8000000
set_option maxRecDepth 20000
namespace Go.Num
open Go Go.Kn
def frE (g r:List I) (i:Nat) (c:Z) (j:Nat):I:=E (Z.sub (r.getD j I0).dec (Z.mul c (dR g ((j:Int) - (i:Int))).dec))
theorem K0 (p:List I) (i:Int) (r f:List I) (x:I) {g:List I} (hg:aN p (aD p)=g) {n:Nat} (hi:i=(n:Int)):∀ (fu k:Nat) (t:List I),g.length - k<fu→k≤g.length→t.length=r.length→n+g.length≤r.length→(∀ j,n+k≤j→t.getD j I0=r.getD j I0) →
  (∃ t' k',fZ p i r f x fu k t = .inl (k',t')∧t'.length=r.length∧(∀ j,t'.getD j I0=if n+k≤j∧j<n+g.length then frE g r n ((f.set i.toNat x).getD i.toNat I0).dec j else t.getD j I0)∧∀ j,n+k≤j→j<n+g.length→(frE g r n ((f.set i.toNat x).getD i.toNat I0).dec j).1.bad=false)
  ∨ (fZ p i r f x fu k t = .inr badp∧∃ j,n+k≤j∧j<n+g.length∧(frE g r n ((f.set i.toNat x).getD i.toNat I0).dec j).1.bad=true)
 | 0,k,t,h,_,_,_,_=>absurd h (Nat.not_lt_zero _)
 | fu+1,k,t,h,hk,hl,hm,ht=>by
  unfold fZ;rw [hg]
  have hn:i.toNat=n:=by omega
  generalize hc:((f.set i.toNat x).getD i.toNat I0).dec=c at *;rw [hn] at hc ⊢
  by_cases h1:k<g.length
  ·rw [decide_eq_true oo_,cond_true]
   have hv:E (Z.sub (t.getD (n+k) I0).dec (E (Z.mul c (g.getD k I0).dec)).dec)=frE g r n c (n+k):=by
    unfold frE;rw [ht (n+k) (Nat.le_refl _),bR,show ((n+k:Nat):Int) - (n:Int)=(k:Int) by omega,AB]
   simp only;rw [hv,jU _ _ _ oo_]
   cases hb:(frE g r n c (n+k)).1.bad
   ·rw [cond_false]
    rcases K0 p i r f x hg hi fu (k+1) (t.set (n+k) (frE g r n c (n+k))) oo_ oo_ (by rw [List.length_set];exact hl) hm (fun j hj=>by rw [nZ _ _ _ _ oo_];exact ht j oo_) with ⟨t',k',e1,e2,e3,e4⟩|⟨e1,j,j1,j2,j3⟩
    ·rw [hn,hc] at e3 e4
     refine .inl ⟨t',k',e1,e2,fun j=>?_,fun j j1 j2=>?_⟩
     ·rw [e3 j]
      by_cases hj:j=n+k
      ·subst hj
       rw [if_neg oo_,if_pos oo_,jU _ _ _ oo_]
      rw [nZ _ _ _ _ hj]
      by_cases hj2:n+(k+1)≤j∧j<n+g.length
      ·rw [if_pos hj2,if_pos oo_]
      rw [if_neg hj2,if_neg oo_]
     by_cases hj:j=n+k
     ·subst hj;exact hb
     exact e4 j oo_ j2
    rw [hn,hc] at j3;exact .inr ⟨e1,j,by omega,j2,j3⟩
   exact .inr ⟨rfl,n+k,Nat.le_refl _,by omega,hb⟩
  rw [decide_eq_false oo_,cond_false];exact .inl ⟨t,k,rfl,hl,fun j=>by rw [if_neg oo_],fun j j1 j2=>absurd j2 oo_⟩
def AL (l:List (List I)):Prop:=∀ x∈l,x.length≤25
theorem QC:AL []:=fun x hx=>by cases hx
theorem JY {l:List (List I)} {x:List I} (h:AL l) (hx:x.length≤25):AL (l++[x]):=fun y hy=>by
 rcases List.mem_append.1 hy with hy|hy
 ·exact h y hy
 rw [List.mem_singleton.1 hy];exact hx
theorem QD {x:List I} (hx:x.length≤25):AL [x]:=JY QC hx
theorem WN {l:List (List I)} {k:Nat} {x:List I} (h:AL l) (hx:l[k]? = some x):x.length≤25:=h x (List.mem_of_getElem? hx)
theorem TD {l:List (List I)} {k:Nat} (h:AL l):(l.getD k []).length≤25:=by
 rw [List.getD_eq_getElem?_getD]
 cases hk:l[k]? with
 | none=>exact Nat.zero_le _
 | some x=>exact WN h hk
theorem YS {b:List I} (h:b.length≤25):gmP b≤50:=by
 unfold gmP
 cases b.all gdI
 ·rw [cond_false];omega
 rw [cond_true];omega
theorem zH (out:List (List I)) (next:List I):(out++[next]).getD ((out++[next]).length - 1) []=next:=by
 simp [List.getD_eq_getElem?_getD]
theorem JG {p:List I} {n:I} (hp:p.length≤1000) (h:(bP p n).all gdI=true):p.all gdI=true∧(bP p n).length≤p.length:=by
 unfold bP at h ⊢
 cases hc:mF n
 ·rw [hc,cond_false,DC,eE] at h;cases h
 rw [hc,cond_true] at h;rw [cond_true];rw [rP _ hp dd_] at h ⊢;simp only [List.length_nil,Nat.max_zero,List.all_nil,Bool.and_true] at h ⊢
 cases hg:p.all gdI
 ·rw [hg,cond_false,eE] at h;cases h
 rw [hg] at h;simp only [cond_true] at h ⊢;rw [F5 h];refine ⟨trivial,Nat.le_trans (wA _) ?_⟩
 simp
theorem GR (a b:List I) (hb:b.length≤1000) (h:b.all gdI=false):aZ a b=badp:=by
 unfold aZ;rw [lY hb,h,show ((aP a)||((!false)||((b.length:Int)==0)))=true by simp,cond_true,DC]
theorem aB_ {a b:List I} {n:I} (hb:b.length≤25) (hg:(aC (bP (aZ a b) n)).all gdI=true):aZ a b=badp∨(aC (bP (aZ a b) n)).length<b.length:=by
 have h1:=oH a b;have h2:=tQ (aZ a b) n;obtain ⟨h3,h4⟩:=tS oo_ hg;obtain ⟨h5,h6⟩:=JG oo_ h3
 by_cases h0:b.length=0
 ·left
  unfold aZ;rw [show ((aP a)||((aP b)||((b.length:Int)==0)))=true by simp [h0],cond_true,DC]
 rcases C2 a b oo_ with h7|h7
 ·exact .inl h7
 exact .inr oo_
theorem MO {a b:List I} {n:I} (hb:b.length≤25) (hg:(aC (bP (aZ a b) n)).all gdI=true):b.all gdI=true∧(aC (bP (aZ a b) n)).length<b.length:=by
 have h1:=oH a b;have h2:=tQ (aZ a b) n;obtain ⟨h3,h4⟩:=tS oo_ hg;obtain ⟨h5,h6⟩:=JG oo_ h3
 have hg2:b.all gdI=true:=by
  cases hb2:b.all gdI
  ·have:aZ a b=badp:=GR a b oo_ hb2
   rw [this,eE] at h5;cases h5
  rfl
 refine ⟨hg2,?_⟩;rcases aB_ hb hg with h|h
 ·rw [h,eE] at h5;cases h5
 exact h
theorem az_ {out:List (List I)} {next a:List I} (h:(out.length+gmP next≤60∧1≤out.length)∧next.length≤25∧AL out) (h0:decide (0<(next.length:Int))=true)
  (hb:aP (aC (bP (aZ a ((out++[next]).getD ((out++[next]).length - 1) [])) (E (Z.of (-1)))))=false) :
  gmP (aC (bP (aZ a ((out++[next]).getD ((out++[next]).length - 1) [])) (E (Z.of (-1)))))<gmP next:=by
 rw [zH] at hb ⊢;have hl:=cG (bP (aZ a next) (E (Z.of (-1))));rw [lY oo_] at hb
 have hg:(aC (bP (aZ a next) (E (Z.of (-1))))).all gdI=true:=by simpa using hb
 obtain ⟨h1,h2⟩:=MO h.2.1 hg;unfold gmP;rw [hg,h1,cond_true,cond_true];omega
theorem cA_ {out:List (List I)} {next a:List I} (h:(out.length+gmP next≤60∧1≤out.length)∧next.length≤25∧AL out) (h0:decide (0<(next.length:Int))=true)
  (hb:aP (aC (bP (aZ a ((out++[next]).getD ((out++[next]).length - 1) [])) (E (Z.of (-1)))))=false) :
  ((out++[next]).length+gmP (aC (bP (aZ a ((out++[next]).getD ((out++[next]).length - 1) [])) (E (Z.of (-1)))))≤60∧1≤(out++[next]).length)∧(aC (bP (aZ a ((out++[next]).getD ((out++[next]).length - 1) [])) (E (Z.of (-1))))).length≤25∧AL (out++[next]):=by
 have h1:=az_ h h0 hb
 have h2:(out++[next]).length=out.length+1:=by simp
 exact ⟨⟨by omega,by omega⟩,cG _,JY h.2.2 h.2.1⟩
theorem aC_ {f next:List I} (hf:f.length≤25) (hn:next.length≤25):(([f]:List (List I)).length+gmP next≤60∧1≤([f]:List (List I)).length)∧next.length≤25∧AL [f] :=
 ⟨⟨by have:=YS hn;simp only [List.length_singleton];omega,Nat.le_refl _⟩,hn,QD hf⟩
theorem G4 (p:List I):∀ (k:Nat) (out:List (List I)) (next:List I),AL out→next.length≤25→(∀ s,cQ p k out next = .inl s→AL s.1)∧∀ r,cQ p k out next = .inr r→r.1=[]
 | 0,out,next,ho,hn=>⟨fun s h=>(by cases h;exact ho),fun r h=>(by cases h)⟩
 | k+1,out,next,ho,hn=>by
  unfold cQ
  cases h0:decide (0<(next.length:Int))
  ·exact ⟨fun s h=>(by cases h;exact ho),fun r h=>(by cases h)⟩
  rw [cond_true]
  cases hb:aP (aC (bP (aZ ((out++[next]).getD ((out++[next]).length - 2) []) ((out++[next]).getD ((out++[next]).length - 1) [])) (E (Z.of (-1)))))
  ·rw [cond_false];exact G4 p k _ _ (JY ho hn) (cG _)
  exact ⟨fun s h=>(by cases h),fun r h=>(by cases h;rfl)⟩
theorem G5 (p:List I) (out:List (List I)) (next:List I):∀ (l:List (List I)) (r:List (List I)×Bool),cW p out next l = .inr r→r.1=[]
 | [],r,h=>by cases h
 | x::l,r,h=>by
  unfold cW at h
  cases hb:aP x
  ·rw [hb,cond_false] at h;exact G5 p out next l r h
  rw [hb,cond_true] at h;cases h;rfl
theorem yV (p:List I):AL (aV p).1:=by
 unfold aV;have h0:=G4 p (gmP (aC (aD (aT p)))+1) [aT p] (aC (aD (aT p))) (QD (u5 p)) (cG _)
 cases h1:cQ p (gmP (aC (aD (aT p)))+1) [aT p] (aC (aD (aT p))) with
 | inr r =>
  show AL r.1
  rw [h0.2 r h1];exact QC
 | inl s =>
  show AL (sm (fun (_:Unit)=>(s.1,true)) (fun r=>r) (cW p s.1 s.2 s.1)).1
  cases h2:cW p s.1 s.2 s.1 with
  | inr r =>
   show AL r.1
   rw [G5 _ _ _ _ r h2];exact QC
  | inl u=>exact h0.1 s h1
def dW (c:(List (List I))) (x:Rt):List (List I)→W→W→(W×W) ⊕ (W×Bool)
 | [],mb5,mb4=>.inl (mb5,mb4)
 | x0::l0,mb5,mb4=>bif (aG x0 x).2 then (bif (((aG x0 x).1).1 != 0) then (bif (((aG x0 x).1).1==(-2)) then (.inr ((wl 0),false)) else (bif ((mb5.1 != 0)&&(((aG x0 x).1).1 != mb5.1)) then (dW c x l0 ((aG x0 x).1) (W.add mb4 (wl 1))) else (dW c x l0 ((aG x0 x).1) mb4))) else (dW c x l0 mb5 mb4)) else (.inr ((wl 0),false))
def cI (c:(List (List I))) (x:Rt):W×Bool :=
 sm (fun (s:W×W)=>let mb5:W:=s.1
 let mb4:W:=s.2
 (mb4,true)) (fun r=>r) (dW c x c (wl 0) (wl 0))
def aU (c:(List (List I))) (a:Rt) (b:Rt):W×Bool :=
 ((W.sub ((cI c a).1) ((cI c b).1)),((cI c a).2&&(cI c b).2))
def dN (x:Rt) (n:W):Bool :=
 ((bH x)&&(decide ((Z.bitsW x.n.dec).1≤n.1)&&decide ((Z.bitsW x.d.dec).1≤n.1)))
def aJ (c:(List (List I))) (p:(List I)):Nat→Rt→Rt→W→W→Nat→Bool→Bool→Bool×Bool
 | 0,_,_,_,_,_,is,ok=>(is,ok)
 | n+1,a,b,left,right,k,is,ok=>bif (!is||(!ok)) then (is,ok) else (bif ((aU c a b).2&&((aG p (aH a b)).2&&decide ((k:Int)<600))) then (bif (right.1==0) then (bif decide (((aG p (aH a b)).1).1<0) then (false,((aU c a b).2&&((aG p (aH a b)).2&&decide ((k:Int)<600)))) else (bif (bif ((W.sub ((aU c a b).1) (wl 1)).1==0) then ((W.sub ((aU c a b).1) (wl 1)).1==0) else (((W.sub ((aU c a b).1) (wl 1)).1==1)&&(decide (0<left.1)&&decide (0<right.1)))) then (is,((aU c a b).2&&((aG p (aH a b)).2&&decide ((k:Int)<600)))) else (((aJ c p n (aH a b) b ((aG p (aH a b)).1) right (k+1) ((aJ c p n a (aH a b) left ((aG p (aH a b)).1) (k+1) is ((aU c a b).2&&((aG p (aH a b)).2&&decide ((k:Int)<600)))).1) ((aJ c p n a (aH a b) left ((aG p (aH a b)).1) (k+1) is ((aU c a b).2&&((aG p (aH a b)).2&&decide ((k:Int)<600)))).2)).1),((aJ c p n (aH a b) b ((aG p (aH a b)).1) right (k+1) ((aJ c p n a (aH a b) left ((aG p (aH a b)).1) (k+1) is ((aU c a b).2&&((aG p (aH a b)).2&&decide ((k:Int)<600)))).1) ((aJ c p n a (aH a b) left ((aG p (aH a b)).1) (k+1) is ((aU c a b).2&&((aG p (aH a b)).2&&decide ((k:Int)<600)))).2)).2)))) else (bif decide (((aG p (aH a b)).1).1<0) then (false,((aU c a b).2&&((aG p (aH a b)).2&&decide ((k:Int)<600)))) else (bif (bif (((aU c a b).1).1==0) then (((aU c a b).1).1==0) else ((((aU c a b).1).1==1)&&(decide (0<left.1)&&decide (0<right.1)))) then (is,((aU c a b).2&&((aG p (aH a b)).2&&decide ((k:Int)<600)))) else (((aJ c p n (aH a b) b ((aG p (aH a b)).1) right (k+1) ((aJ c p n a (aH a b) left ((aG p (aH a b)).1) (k+1) is ((aU c a b).2&&((aG p (aH a b)).2&&decide ((k:Int)<600)))).1) ((aJ c p n a (aH a b) left ((aG p (aH a b)).1) (k+1) is ((aU c a b).2&&((aG p (aH a b)).2&&decide ((k:Int)<600)))).2)).1),((aJ c p n (aH a b) b ((aG p (aH a b)).1) right (k+1) ((aJ c p n a (aH a b) left ((aG p (aH a b)).1) (k+1) is ((aU c a b).2&&((aG p (aH a b)).2&&decide ((k:Int)<600)))).1) ((aJ c p n a (aH a b) left ((aG p (aH a b)).1) (k+1) is ((aU c a b).2&&((aG p (aH a b)).2&&decide ((k:Int)<600)))).2)).2))))) else (is,((aU c a b).2&&((aG p (aH a b)).2&&decide ((k:Int)<600)))))
def fH (p:(List I)) (a:Rt) (b:Rt):List I→Bool→Bool
 | [],all=>all
 | x0::l0,all=>(fH p a b l0 (all&&decide (0≤(Z.signW x0.dec).1)))
def bB (p:(List I)) (a:Rt) (b:Rt):Bool×W :=
 bif ((aP p)||(!(mM a b))) then (false,(wl 1)) else (bif ((p.length:Int)==0) then (true,(wl 0)) else (bif (!((aG p a).2)||(!(aG p b).2)) then (false,(wl 30)) else (bif (decide (((aG p a).1).1<0)||decide (((aG p b).1).1<0)) then (false,(wl 0)) else (bif (decide (a.n=b.n)&&decide (a.d=b.d)) then (true,(wl 0)) else (bif (aL p a b).2 then (ap (fun (s:Bool)=>let all:Bool:=s
 bif all then (true,(wl 0)) else (bif (aV p).2 then (bif (aJ ((aV p).1) p 601 a b ((aG p a).1) ((aG p b).1) 0 true ((aV p).2)).2 then (((aJ ((aV p).1) p 601 a b ((aG p a).1) ((aG p b).1) 0 true ((aV p).2)).1),(wl 0)) else (false,(wl 30))) else (false,(wl 30)))) (fH p a b (aL p a b).1 true)) else (bif (aV p).2 then (bif (aJ ((aV p).1) p 601 a b ((aG p a).1) ((aG p b).1) 0 true ((aV p).2)).2 then (((aJ ((aV p).1) p 601 a b ((aG p a).1) ((aG p b).1) 0 true ((aV p).2)).1),(wl 0)) else (false,(wl 30))) else (false,(wl 30))))))))
def eG (p:(List I)) (x:Iv) (t:Rt) (r16:Rt) (r19:Iv):Nat→Int→Iv→Int×Iv
 | 0,k,mb20=>(k,mb20)
 | k0+1,k,mb20=>bif decide (0≤k) then (let r27:Iv:=(iY mb20 x)
 let r28:Rt:=(lR (p.getD (k.toNat) I0))
 let r29:Iv:=(iX r27 (eA r28))
 (eG p x t r16 r19 k0 (k - 1) r29)) else (k,mb20)
def eH (p:(List I)) (x:Iv) (t:Rt) (r16:Rt) (r19:Iv) (k:Int) (mb20:Iv) (r16:Rt) (r19:Iv):Nat→Bool→Nat→Bool×Nat
 | 0,fl,m=>(fl,m)
 | k1+1,fl,m=>bif decide ((m:Int)<(((aL p x.lo x.hi).1).length:Int)) then (eH p x t r16 r19 k mb20 r16 r19 k1 (fl&&decide (0≤(Z.signW (((aL p x.lo x.hi).1).getD m I0).dec).1)) (m+1)) else (fl,m)
def eU (p:(List I)) (x:Iv) (t:Rt):Bool :=
 bif (!(dS p 5 20)||((aP p)||((gO x)||(!(dN x.lo (wl 8))||(!(dN x.hi (wl 8))||(!(dN t (wl 8)))))))) then true else (let r16:Rt:=(⟨(bif (gW x t) then t.n else x.lo.n),(bif (gW x t) then t.d else x.lo.d)⟩:Rt)
 let r19:Iv:=(eA (mL (wl 0)))
 ap (fun (s_:Int×Iv)=>let k:Int:=s_.1
 let mb20:Iv:=s_.2
 bif (gW mb20 (lJ p r16)) then (ap (fun (s:Bool×Nat)=>let fl:Bool:=s.1
 let m:Nat:=s.2
 bif (!((aL p x.lo x.hi).2)||(!((aG p r16).2)||((((bB p x.lo x.hi).2).1 != 0)&&(((bB p x.lo x.hi).2).1 != 30)))) then false else (bif ((((bB p x.lo x.hi).2).1==0)&&((bB p x.lo x.hi).1&&decide (((aG p r16).1).1<0))) then false else (true&&((((bB p x.lo x.hi).2).1 != 0)||((bB p x.lo x.hi).1||(!fl&&decide ((lM mb20.lo).1<0))))))) (eH p x t r16 r19 k mb20 r16 r19 ((aL p x.lo x.hi).1.length+1) ((aL p x.lo x.hi).2) 0)) else false) (eG p x t r16 r19 (p.length+1) ((p.length:Int) - 1) r19))
end Go.Num
namespace Go.Proofs.YtcjoflcajgaifaaGreatDoor
open Go.Kn Go.Num Tryz
attribute [local irreducible] Go.Kn.W WL PL OpQ OpR OpS
theorem fE (va:Value) (l:List Nat) (k:Nat) (w:World) (hva:Sl w va l) :
   Calls prog 159 [va,.int .i64 (k:Int)].toArray w (fun e w'=>e = .returned (.int .i64 ((l.getD k 0:Nat):Int))∧Ext w w'):=by
 refine cY (N:=13) func159 O O zz_ ?_;obtain ⟨w0,rfl⟩:=nm w;refine giI ?_;refine go7 ?_;refine sQ (lT cC O hva.old) O (go2 ?_);refine aS _ O (fun hk=>?_) (fun hk=>?_)
 ·replace hk:=cB_ hk
  refine go3 ?_;refine sQ (wP cC O O hva.old oo_) O (sQ (tB tyT O hva.old oo_) O (go3 ?_));refine rt1 ?_;exact rfl
 replace hk:=cB_ hk
 refine go5 ?_;refine rt1 ?_;exact congrArg (fun n:Nat=>Value.int .i64 (n:Int)) (show 0=l.getD k 0 by simp [List.getD,List.getElem?_eq_none (show l.length≤k by omega)])
theorem gV (va:Value) (l:List Nat) (hD:DL l) (hn:l.length≤1000) (w:World) (hva:Sl w va l) :
    Calls prog 158 [va].toArray w (fun e w'=>e = .returned (sls va (dl (dv l)).length)∧Ext w w'):=by
 refine cY (N:=21) func158 O O zz_ ?_;obtain ⟨w0,rfl⟩:=nm w;refine giI ?_;refine go5 ?_;refine sQ (lT cC O hva.old) O (go4 ?_);refine cF (rg [3] 6 12) (fun g nn M=>∃ (k:Nat),(g 3 = .int .i64 (k:Int))∧M=[]∧nn=k+0∧(k≤l.length∧∀ j,k≤j→l.getD j 0=0)) (l.length) ?start ?round
 case start =>
  refine ⟨_,(List.Sublist.refl _),l.length,?a3,?mem0,rfl,⟨Nat.le_refl _,fun j hj=>by simp [List.getD,List.getElem?_eq_none (show l.length≤j by omega)]⟩⟩
  case mem0=>rfl
  case a3=>rfl
 case round =>
  rintro nn g M ⟨k,hg3,rfl,hmeas,⟨hk,hhi⟩⟩;subst nn;refine gS1 hg3 ?_;clear hg3;refine go5 ?_
  cases hz:decide ((0:Int)<(k:Int))
  ·refine bL_ ?_;refine sQ (ad_ cC O O hva.old oo_) O (go3 ?_);refine rt1 ?_;rw [HG hD,MT hhi (.inl (by have:=of_decide_eq_false hz;omega))]
  have hz':=of_decide_eq_true hz;obtain ⟨m,rfl⟩:∃ m,k=m+1:=⟨k - 1,by omega⟩;refine go2 ?_;refine sQ (aE (lV O O) (congrArg (Value.int .i64) (vW oo_))) O (sQ (wP cC O O hva.old oo_) O (sQ (tB tyT O hva.old oo_) O (go3 ?_)));refine aS _ O (fun h0=>?_) (fun h0=>?_)
  ·replace h0:=cB_ h0
   refine go4 ?_;refine sQ (aE (lV O O) (congrArg (Value.int .i64) (vW oo_))) O (go2 ?_);refine ⟨pp_,_,_,(List.Sublist.refl _),oo_,m,?s3,?mem,rfl,⟨by omega,fun j hj=>by rcases Nat.eq_or_lt_of_le hj with rfl|hj;omega;exact hhi j hj⟩⟩
   case mem=>rfl
   case s3=>rfl
  replace h0:=cB_ h0
  refine go4 ?_;refine sQ (ad_ cC O O hva.old oo_) O (go3 ?_);refine rt1 ?_;rw [HG hD,MT hhi (.inr (by simp only [Nat.add_sub_cancel];omega))]
theorem gF (a:R) (ha:a.Ok) (w:World)  :
    Calls prog 101 [RV a].toArray w (fun e w'=>∃ v,e = .returned v∧Ext w w'∧Slf w.heap.size w' v (dl (val a.w))):=by
 refine sZ (N:=26) func101 O O zz_ ?_;obtain ⟨w0,rfl⟩:=nm w;refine giI ?_;refine go_ ?_;refine aQ O (iG O O (fun b1 hb1=>oF ?_));refine cF (rg [] 3 21) (fun g nn M=>∃ (k:Nat) (v:Value) (l:List Nat) (L:List Blk),(g 3=v∧g 4 = .int .i64 (k:Int))∧M=L++[⟨b1,31,a.cells⟩]∧nn=16 - k∧(k≤16∧OwnL w0 3 v l L∧DL l∧l.length=2*k∧dv l=val a.w % 4294967296 ^ k)) (16) ?start ?round
 case start =>
  refine ⟨_,(List.Sublist.refl _),0,_,[],[],⟨?a3,?a4⟩,?mem0,rfl,⟨Nat.zero_le _,.nil,DL.nil,rfl,by simp [dv,Nat.mod_one]⟩⟩
  case mem0=>rfl
  case a3=>rfl
  case a4=>rfl
 case round =>
  rintro nn g M ⟨k,v,l,L,⟨hg3,hg4⟩,rfl,hmeas,⟨hk,hO,hD,hlen,hdv⟩⟩;subst nn;refine gS2 hg3 hg4 ?_;clear hg3 hg4;refine go5 ?_;refine aS _ O (fun hc=>?_) (fun hc=>?_)
  ·replace hc:=cB_ hc
   have hc:k<16:=by omega
   refine go3 ?_;refine kV sn 16 [13,14] [14] (go2 ?_);refine pQ O (bX fdT dd_ O) (pQ O (dX arT O O oo_ oo_) (pQ O (cZ tyT O mm_ (lC (r:=a) (k:=k) (by rw [ha.len];omega))) ?_));refine pQ O (rA O O dd_) (pQ O (aE (dJ fM zW O) (gn_ (dG ha.lim k))) (go_ ?_));refine pQ O (bX fdT dd_ O) (pQ O (dX arT O O oo_ oo_) (pQ O (cZ tyT O mm_ (lC (r:=a) (k:=k) (by rw [ha.len];omega))) ?_));refine pQ O (o4 O O dd_) (pQ O (aE (dJ fM zW O) (gj_ (dG ha.lim k))) ?_);refine dA O O (hZ fQ z_3 n5 O dd_ O (d9_ _ _) (fun b22 hb22=>⟨(fun _=>by first|exact sd s0|exact s0),ss_,?_⟩));refine dA O O (yQ fQ RT O O hO (SL.mine (l:=[a.w.getD k 0 % 65536,a.w.getD k 0 / 65536]) (.head _) (Nat.le_refl _)) (List.sublist_cons_self _ _) (by simp;omega) (fun v' L' hO'=>⟨nf,ss_,?_⟩));refine go4 ?_;refine sQ (aE (gP O O) (congrArg (Value.int .i64) (iH oo_))) O (go2 ?_);refine ⟨pp_,_,_,(List.Sublist.refl _),oo_,k+1,_,_,_,⟨?s3,?s4⟩,?mem,rfl,⟨by omega,hO',hD.append (DL.two (dG ha.lim k)),by simp [hlen];omega,NV ha.lim hlen hdv⟩⟩
   case mem=>rfl
   case s3=>rfl
   case s4=>rfl
  replace hc:=cB_ hc
  obtain rfl:k=16:=by omega
  refine go3 ?_;refine sQ (dZ aK O (fun w hw=>gV v l hD oo_ w (SL.sl (hO.sl lZ) hw))) O (go3 ?_);refine rt1 ?_;exact tI hD (by rw [hdv,QZ ha]) (hO.slf lZ)
theorem gY  :
  Ret prog 121 [] (RV Z.bad.enc):=by
 refine bI (N:=2) func121 O O zz_ (fun w0=>?_);refine giI ?_;refine go_ ?_;refine aQ O (dP kA (fun b0 hb0=>go2 ?_));refine sQ (tU kA plT O (.cons O (vs:=[.bool true]) O O (by simp [zR]) (z':=Z.bad.enc.cells) O (.nil _))) O ?_;refine aQ O (bK tyT O O uu_ O O (bJ Z.bad.enc) (.inl eX) ?_);refine go2 ?_;refine rtX O ⟨_,_,_,_,_,_,rfl,mm_,tyT,_,(dH O),rfl,rfl⟩ ?_;exact rfl
theorem pN (r:R) (h:r.Ok) :
    Ret prog 152 [RV r] (.bool r.valid):=by
 refine bI (N:=32) func152 O O zz_ (fun w0=>?_);refine giI ?_;refine go_ ?_;refine aQ O (iG O O (fun b1 hb1=>oF ?_));refine cF (rg [] 3 14) (fun g nn M=>∃ (k:Nat) (z:Bool),(g 3 = .bool z∧g 4 = .int .i64 (k:Int))∧M=[⟨b1,31,r.cells⟩]∧nn=16 - k∧(k≤16∧(z=true ↔ ∀ j,j<k→r.w.getD j 0=0))) (16) ?start ?round
 case start =>
  refine ⟨_,(List.Sublist.refl _),0,true,⟨?a3,?a4⟩,?mem0,rfl,⟨Nat.zero_le _,⟨fun _ j hj=>by omega,fun _=>rfl⟩⟩⟩
  case mem0=>rfl
  case a3=>rfl
  case a4=>rfl
 case round =>
  rintro nn g M ⟨k,z,⟨hg3,hg4⟩,rfl,hmeas,⟨hk,hz⟩⟩;subst nn;refine gS2 hg3 hg4 ?_;clear hg3 hg4;refine go5 ?_;refine aS _ O (fun hc=>?_) (fun hc=>?_)
  ·replace hc:=cB_ hc
   have hc:k<16:=by omega
   refine go6 ?_
   cases z
   ·refine oF ?_;refine sQ (aE (gP O O) (congrArg (Value.int .i64) (iH oo_))) O (go2 ?_);refine ⟨pp_,_,_,(List.Sublist.refl _),oo_,k+1,?zz_1,⟨?s3,?s4⟩,?mem,rfl,⟨by omega,?inv_1⟩⟩
    case mem=>rfl
    case s3=>rfl
    case s4=>rfl
    first|exact P3 hz|exact UX hz
   refine go_ ?_;refine sQ (bX fdT dd_ O) O (sQ (dX arT O O oo_ oo_) O (sQ (cZ tyT O mm_ (lC (r:=r) (k:=k) (by rw [h.len];omega))) O ?_));refine go6 ?_;refine sQ (aE (gP O O) (congrArg (Value.int .i64) (iH oo_))) O (go2 ?_);refine ⟨pp_,_,_,(List.Sublist.refl _),oo_,k+1,?zz_2,⟨?s3,?s4⟩,?mem,rfl,⟨by omega,?inv_2⟩⟩
   case mem=>rfl
   case s3=>rfl
   case s4=>rfl
   first|exact P3 hz|exact UX hz
  replace hc:=cB_ hc
  obtain rfl:k=16:=by omega
  obtain rfl:z=r.zero:=cH_ h hz;refine go3 ?_;refine sQ (bX fdT dd_ O) O (sQ (cZ tyT O mm_ O) O ?_);refine go_ ?_;refine aS _ O (fun hb=>?_) (fun hb=>?_)
  ·replace hb:=cB_ hb
   refine go3 ?_
   cases hz0:r.zero
   ·refine go7 ?_;refine rt1 ?_
    simp [R.valid, *]
   refine sQ (bX fdT dd_ O) O (sQ (cZ tyT O mm_ O) O ?_);refine go5 ?_;refine rt1 ?_
   simp [R.valid, *]
  replace hb:=cB_ hb
  refine go5 ?_
  cases hz0:r.zero
  ·refine go7 ?_;refine rt1 ?_
   simp [R.valid, *]
  refine sQ (bX fdT dd_ O) O (sQ (cZ tyT O mm_ O) O ?_);refine go5 ?_;refine rt1 ?_
  simp [R.valid, *]
theorem e8 (r:R) (h:r.Ok) :
   Ret prog 97 [RV r] (.bool r.good):=by
 refine bI (N:=12) func97 O O zz_ (fun w0=>?_);refine giI ?_;refine go_ ?_;refine aQ O (iG O O (fun b1 hb1=>go3 ?_));refine sQ (bZ tyT O mm_ (cO h)) O ?_;refine sQ (aY aK (pN r h) O) O (go5 ?_)
 cases hv:r.valid
 ·refine go7 ?_;refine rt1 ?_
  simp [R.good, *]
 refine sQ (bX fdT dd_ O) O (sQ (cZ tyT O mm_ O) O ?_);refine go5 ?_;refine rt1 ?_
 simp [R.good, *]
theorem i5 (neg:Bool) (va:Value) (l:List Nat) (hD:DL l) (hn:l.length≤1000) (w:World) (hva:Sl w va l) :
    Calls prog 157 [.bool neg,va].toArray w (fun e w'=>e = .returned (RV (Z.of (sgn neg (dv l))).enc)∧Ext w w'):=by
 refine cY (N:=62) func157 O O zz_ ?_;obtain ⟨w0,rfl⟩:=nm w;refine giI ?_;have hu0:∀ M,SL w0 [] M (sls va (dl (dv l)).length) (dl (dv l)):=fun M=>aK_ hD hva.old;refine go_ ?_;refine aQ O (dP kA (fun b4 hb4=>go3 ?_));refine sQ (dZ aK O (fun w hw=>gV va l hD hn w (SL.sl (M:=_) hva.old hw))) O (go5 ?_);refine sQ (lT cC O (hu0 _)) O (go2 ?_);refine aS _ O (fun hbig=>?_) (fun hbig=>?_)
 ·replace hbig:=cB_ hbig
  refine go_ ?_;refine sQ (aY aK gY O) O (aQ O (bK tyT O O uu_ (aI _) O (bJ _) (.inl eX) ?_));refine go2 ?_;refine rtX O ⟨_,_,_,_,_,_,rfl,mm_,tyT,_,(dH (aI _)),(aI _),rfl⟩ ?_;exact RQ oo_
 replace hbig:=cB_ hbig
 have hlen:(dl (dv l)).length≤32:=by omega
 refine go_ ?_;refine kG (rg [6] 14 7) (fun g M=>∃ (b6:Nat),(g 6 = .pointer (some ⟨b6,0,none⟩))∧M=⟨b6,31,R.cells (R.mk false (neg&&decide ((0:Int)<((dl (dv l)).length:Int))) (List.replicate 16 0))⟩::[⟨b4,31,zR⟩]∧(w0.heap.size≤b6)) (fun K6 J6=>?_) ?_
 ·refine go3 ?_
  cases neg
  ·refine go4 ?_;refine sQ (tU kA plT O (YL _)) O (aQ O (dP kA (fun b6 hb6=>aQ O (bK tyT O O uu_ (by simp [R.cells,fG]) O (bJ _) (.inl eX) ?_))));refine go_ ?_;refine J6 _ _ pp_ ⟨_,(List.Sublist.refl _),_,?s6,?mem,hb6⟩
   case mem=>rfl
   case s6=>rfl
  refine go_ ?_;refine sQ (lT cC O (hu0 _)) O (go2 ?_);refine sQ (tU kA plT O (YL _)) O (aQ O (dP kA (fun b6 hb6=>aQ O (bK tyT O O uu_ (by simp [R.cells,fG]) O (bJ _) (.inl eX) ?_))));refine go_ ?_;refine J6 _ _ pp_ ⟨_,(List.Sublist.refl _),_,?s6,?mem,hb6⟩
  case mem=>rfl
  case s6=>rfl
 rintro g M ⟨b6,hg6,rfl,hb6⟩;refine gS1 hg6 ?_;clear hg6;refine go5 ?_;refine cF (rg [7] 21 40) (fun g nn M=>∃ (k:Nat) (ws:List Nat),(g 7 = .int .i64 (k:Int))∧M=⟨b6,31,R.cells (R.mk false (neg&&decide ((0:Int)<((dl (dv l)).length:Int))) ws)⟩::[⟨b4,31,zR⟩]∧nn=(dl (dv l)).length - k∧(k≤(dl (dv l)).length∧NumIn (dv l) k ws)) ((dl (dv l)).length - 0) ?start ?round
 case start =>
  refine ⟨_,(List.Sublist.refl _),0,_,?a7,?mem0,rfl,⟨Nat.zero_le _,NumIn.start _⟩⟩
  case mem0=>rfl
  case a7=>rfl
 case round =>
  rintro nn g M ⟨k,ws,hg7,rfl,hmeas,⟨hk,hI⟩⟩;subst nn;refine gS1 hg7 ?_;clear hg7;refine go4 ?_;refine sQ (lT cC O (hu0 _)) O (go2 ?_);refine aS _ O (fun hc=>?_) (fun hc=>?_)
  ·replace hc:=cB_ hc
   have hk32:k<32:=by omega
   refine go5 ?_;refine sQ (aE (rA O O dd_) (congrArg (Value.int .i64) (hr_ k))) O (go2 ?_);refine aS _ O (fun hpar=>?_) (fun hpar=>?_)
   ·replace hpar:=cB_ hpar
    have hpar:k % 2=0:=by omega
    have hz:=(hI.even hpar hk32).2;refine kV (sd (sk s0)) 16 [15] [15] (go_ ?_);refine pQ O (aE (o4 O O dd_) (congrArg (Value.int .i64) (cj_ k oo_))) (go_ ?_);refine pQ O (aE (o4 O O dd_) (congrArg (Value.int .i64) (cj_ k oo_))) (pQ O (bX fdT dd_ O) (pQ O (dX arT O O oo_ oo_) (pQ O (cZ tyT O mm_ (lC (r:=R.mk false (neg&&decide ((0:Int)<((dl (dv l)).length:Int))) ws) (k:=k / 2) (by simp only [hI.len];omega))) ?_)));refine go2 ?_;refine pQ O (wP cC O O (hu0 _) oo_) (pQ O (tB tyT O (hu0 _) oo_) (pQ O (dJ zW fM O) (pQ O (aE (gP O O) (show _=U32 (dg (dv l) k) by rw [(hI.even hpar hk32).1,zD];exact W5 (lE _ _))) (pQ O (bX fdT dd_ O) (pQ O (dX arT O O oo_ oo_) ?_)))));refine dA O O (O9 (k:=k / 2) tyT O O uu_ (by rw [hI.len];omega) (.inl eX) ⟨nf,ss_,?_⟩);refine go3 ?_;refine sQ (aE (gP O O) (congrArg (Value.int .i64) (iH oo_))) O (go2 ?_);refine ⟨pp_,_,_,(List.Sublist.refl _),oo_,k+1,_,?s7,?mem,rfl,⟨by omega,hz⟩⟩
    case mem=>rfl
    case s7=>rfl
   replace hpar:=cB_ hpar
   have hpar:¬ k % 2=0:=by omega
   have hz:=(hI.odd hpar hk32).2;refine gdr (sd (sk s0)) [0,4,8,12,16,20,24,28,32,36,40,44,48,52,56,60,65] [16] mix (by kernel_rfl) (go_ ?_);refine pQ O (aE (o4 O O dd_) (congrArg (Value.int .i64) (cj_ k oo_))) (go_ ?_);refine pQ O (aE (o4 O O dd_) (congrArg (Value.int .i64) (cj_ k oo_))) (pQ O (bX fdT dd_ O) (pQ O (dX arT O O oo_ oo_) (pQ O (cZ tyT O mm_ (lC (r:=R.mk false (neg&&decide ((0:Int)<((dl (dv l)).length:Int))) ws) (k:=k / 2) (by simp only [hI.len];omega))) ?_)));refine go2 ?_;refine pQ O (wP cC O O (hu0 _) oo_) (pQ O (tB tyT O (hu0 _) oo_) (pQ O (dJ zW fM O) (go_ ?_)));refine pQ O (aE (gP O O) (show _=U32 (ws.getD (k / 2) 0+dg (dv l) k*65536) by rw [zD];exact bh_ (hI.odd hpar hk32).1 (lE _ _))) (pQ O (bX fdT dd_ O) (pQ O (dX arT O O oo_ oo_) ?_));refine dA O O (O9 (k:=k / 2) tyT O O uu_ (by rw [hI.len];omega) (.inl eX) ⟨nf,ss_,?_⟩);refine go3 ?_;refine sQ (aE (gP O O) (congrArg (Value.int .i64) (iH oo_))) O (go2 ?_);refine ⟨pp_,_,_,(List.Sublist.refl _),oo_,k+1,_,?s7,?mem,rfl,⟨by omega,hz⟩⟩
   case mem=>rfl
   case s7=>rfl
  replace hc:=cB_ hc
  obtain rfl:k=(dl (dv l)).length:=by omega
  refine go2 ?_;refine sQ (bZ tyT O mm_ (by simp [R.cells,fG,hI.len])) O ?_;refine aQ O (bK tyT O O uu_ (by simp [R.cells,fG,hI.len]) O (bJ _) (.inl eX) ?_);refine go2 ?_;refine rtX O ⟨_,_,_,_,_,_,rfl,mm_,tyT,_,(dH (by simp [R.cells,fG,hI.len])),(by simp [R.cells,fG,hI.len]),rfl⟩ ?_;exact RR hI
theorem wV (va vb:Value) (la lb:List Nat) (hDa:DL la) (hDb:DL lb) (hna:la.length≤200) (hnb:lb.length≤200) (w:World) (hva:Sl w va la) (hvb:Sl w vb lb) :
    Calls prog 191 [va,vb].toArray w (fun e w'=>∃ v,e = .returned v∧Ext w w'∧Slf w.heap.size w' v (dl (dv la+dv lb))):=by
 refine sZ (N:=37) func191 O O zz_ ?_;obtain ⟨w0,rfl⟩:=nm w;refine giI ?_;refine D5 ?_;refine cF (rg [] 5 30) (fun g nn M=>∃ (k:Nat) (v:Value) (l:List Nat) (L:List Blk),(g 5=v∧g 6 = .int .i64 ((cD (dv la) (dv lb) k:Nat):Int)∧g 7 = .int .i64 (k:Int))∧M=L++[]∧nn=max la.length lb.length+1 - k∧(k≤max la.length lb.length+1∧OwnL w0 3 v l L∧DL l∧l.length=k∧dv l=(dv la+dv lb) % 65536 ^ k)) (max la.length lb.length+1 - 0) ?start ?round
 case start =>
  refine ⟨_,(List.Sublist.refl _),0,_,[],[],⟨?a5,?a6,?a7⟩,?mem0,rfl,⟨Nat.zero_le _,.nil,DL.nil,rfl,by simp [dv,Nat.mod_one]⟩⟩
  case mem0=>rfl
  case a5=>rfl
  case a6=>rw [bt_];rfl
  case a7=>rfl
 case round =>
  rintro nn g M ⟨k,v,l,L,⟨hg5,hg6,hg7⟩,rfl,hmeas,⟨hk,hO,hD,hlen,hdv⟩⟩;subst nn;refine gS3 hg5 hg6 hg7 ?_;clear hg5 hg6 hg7;refine go4 ?_;refine sQ (lT cC O hva.old) O (go_ ?_);refine sQ (lT cC O hvb.old) O (sQ (Z9 O O) O (sQ (aE (gP O O) (congrArg (Value.int .i64) (iH oo_))) O (go2 ?_)));refine aS _ O (fun hc=>?_) (fun hc=>?_)
  ·replace hc:=cB_ hc
   have hc:k<max la.length lb.length+1:=by omega
   refine go6 ?_;refine sQ (dZ aK O (fun w hw=>fE va la k w (SL.sl (M:=_) hva.old hw))) O (go2 ?_);refine sQ (dZ aK O (fun w hw=>fE vb lb k w (SL.sl (M:=_) hvb.old hw))) O (go2 ?_);refine sQ (aE (gP O O) (congrArg (Value.int .i64) (show _=((cD (dv la) (dv lb) k+dg (dv la) k+dg (dv lb) k:Nat):Int) by rw [mO la k hDa,mO lb k hDb];exact g2_ (lE _ _) (lE _ _) (cY_ _ _ _)))) O (go5 ?_);refine sQ (aE (rA O O dd_) (PC _)) O (aQ O (hZ fQ z_3 n5 O dd_ O (CJ _) (fun b31 hb31=>aQ O (yQ fQ RT O O hO (SL.mine (l:=[(cD (dv la) (dv lb) k+dg (dv la) k+dg (dv lb) k) % 65536]) (.head _) (Nat.le_refl _)) (List.sublist_cons_self _ _) (by simp;omega) (fun v' L' hO'=>?_)))));refine go4 ?_;refine sQ (aE (o4 O O dd_) (congrArg (Value.int .i64) (gk_ (by have:=cY_ (dv la) (dv lb) k;have:=lE (dv la) k;have:=lE (dv lb) k;omega)))) O (go4 ?_);refine sQ (aE (gP O O) (congrArg (Value.int .i64) (iH oo_))) O (go2 ?_);refine ⟨pp_,_,_,(List.Sublist.refl _),oo_,k+1,_,_,_,⟨?s5,?s6,?s7⟩,?mem,rfl,⟨by omega,hO',hD.append (DL.one (Nat.mod_lt _ dd_)),by simp [hlen],RX hlen hdv⟩⟩
   case mem=>rfl
   case s5=>rfl
   case s6=>rw [← OZ];rfl
   case s7=>rfl
  replace hc:=cB_ hc
  obtain rfl:k=max la.length lb.length+1:=by omega
  refine go3 ?_;refine sQ (dZ aK O (fun w hw=>gV v l hD oo_ w (SL.sl (hO.sl lZ) hw))) O (go3 ?_);refine rt1 ?_;exact tI hD (by rw [hdv,VU hDa hDb]) (hO.slf lZ)
theorem pO (va vb:Value) (la lb:List Nat) (hDa:DL la) (hDb:DL lb) (hna:la.length≤200) (hnb:lb.length≤200) (hle:dv lb≤dv la) (w:World) (hva:Sl w va la) (hvb:Sl w vb lb) :
    Calls prog 195 [va,vb].toArray w (fun e w'=>∃ v,e = .returned v∧Ext w w'∧Slf w.heap.size w' v (dl (dv la - dv lb))):=by
 refine sZ (N:=35) func195 O O zz_ ?_;obtain ⟨w0,rfl⟩:=nm w;refine giI ?_;refine D5 ?_;refine cF (rg [] 5 28) (fun g nn M=>∃ (k:Nat) (v:Value) (l:List Nat) (L:List Blk) (c:Nat),(g 5=v∧g 6 = .int .i64 (c:Int)∧g 7 = .int .i64 (k:Int))∧M=L++[]∧nn=la.length - k∧(k≤la.length∧OwnL w0 3 v l L∧DL l∧l.length=k∧c≤1∧dv l+dv lb % 65536 ^ k=dv la % 65536 ^ k+c*65536 ^ k)) (la.length - 0) ?start ?round
 case start =>
  refine ⟨_,(List.Sublist.refl _),0,_,[],[],0,⟨?a5,?a6,?a7⟩,?mem0,rfl,⟨Nat.zero_le _,.nil,DL.nil,rfl,by decide,by simp [dv,Nat.mod_one]⟩⟩
  case mem0=>rfl
  case a5=>rfl
  case a6=>rfl
  case a7=>rfl
 case round =>
  rintro nn g M ⟨k,v,l,L,c,⟨hg5,hg6,hg7⟩,rfl,hmeas,⟨hk,hO,hD,hlen,hcb,hdv⟩⟩;subst nn;refine gS3 hg5 hg6 hg7 ?_;clear hg5 hg6 hg7;refine go4 ?_;refine sQ (lT cC O hva.old) O (go2 ?_);refine aS _ O (fun hc=>?_) (fun hc=>?_)
  ·replace hc:=cB_ hc
   have hc:k<la.length:=by omega
   refine go4 ?_;refine kV sn 11 [] [] (go2 ?_);refine pQ O (wP cC O O hva.old oo_) (pQ O (tB tyT O hva.old oo_) (go2 ?_));refine pQ O (dZ aK O (fun w hw=>fE vb lb k w (SL.sl (M:=_) hvb.old hw))) (go2 ?_);refine pQ O (aE (lV O O) (congrArg (Value.int .i64) (show _=((dg (dv la) k:Nat):Int) - ((dg (dv lb) k:Nat):Int) - (c:Int) by rw [mO la k hDa,mO lb k hDb];exact hw_ (lE _ _) (lE _ _) hcb))) (oF ?_);refine aS _ O (fun h26=>?_) (fun h26=>?_)
   ·replace h26:=cB_ h26
    refine oF ?_;refine sQ (aE (iF O) (show _=IV (md (dg (dv la) k) (dg (dv lb) k) c) by first|exact ZM (lE _ _) (lE _ _) hcb h26|exact ZN h26)) O ?_;refine aQ O (hZ fQ z_3 n5 O dd_ O (CJ _) (fun b31 hb31=>aQ O (yQ fQ RT O O hO (SL.mine (l:=[md (dg (dv la) k) (dg (dv lb) k) c]) (.head _) (Nat.le_refl _)) (List.sublist_cons_self _ _) (by simp;omega) (fun v' L' hO'=>?_))));refine go4 ?_;refine sQ (aE (gP O O) (congrArg (Value.int .i64) (iH oo_))) O (go2 ?_);refine ⟨pp_,_,_,(List.Sublist.refl _),oo_,k+1,_,_,_,mb (dg (dv la) k) (dg (dv lb) k) c,⟨?s5,?s6,?s7⟩,?mem,rfl,⟨by omega,hO',hD.append (DL.one (df_ (lE _ _) (lE _ _) hcb)),by simp [hlen],dc_ _ _ _,DR hlen hcb hdv⟩⟩
    case mem=>rfl
    case s5=>rfl
    case s6=>first|exact ZI h26|exact ZJ h26
    case s7=>rfl
   replace h26:=cB_ h26
   refine go3 ?_;refine sQ (aE (iF O) (show _=IV (md (dg (dv la) k) (dg (dv lb) k) c) by first|exact ZM (lE _ _) (lE _ _) hcb h26|exact ZN h26)) O ?_;refine aQ O (hZ fQ z_3 n5 O dd_ O (CJ _) (fun b31 hb31=>aQ O (yQ fQ RT O O hO (SL.mine (l:=[md (dg (dv la) k) (dg (dv lb) k) c]) (.head _) (Nat.le_refl _)) (List.sublist_cons_self _ _) (by simp;omega) (fun v' L' hO'=>?_))));refine go4 ?_;refine sQ (aE (gP O O) (congrArg (Value.int .i64) (iH oo_))) O (go2 ?_);refine ⟨pp_,_,_,(List.Sublist.refl _),oo_,k+1,_,_,_,mb (dg (dv la) k) (dg (dv lb) k) c,⟨?s5,?s6,?s7⟩,?mem,rfl,⟨by omega,hO',hD.append (DL.one (df_ (lE _ _) (lE _ _) hcb)),by simp [hlen],dc_ _ _ _,DR hlen hcb hdv⟩⟩
   case mem=>rfl
   case s5=>rfl
   case s6=>first|exact ZI h26|exact ZJ h26
   case s7=>rfl
  replace hc:=cB_ hc
  obtain rfl:k=la.length:=by omega
  refine go3 ?_;refine sQ (dZ aK O (fun w hw=>gV v l hD oo_ w (SL.sl (hO.sl lZ) hw))) O (go3 ?_);refine rt1 ?_;exact tI hD (RM hDa hD hlen hle hdv hcb) (hO.slf lZ)
theorem wU (va vb:Value) (la lb:List Nat) (hDa:DL la) (hDb:DL lb) (hna:la.length≤200) (hnb:lb.length≤200) (w:World) (hva:Sl w va la) (hvb:Sl w vb lb) :
    Calls prog 194 [va,vb].toArray w (fun e w'=>e = .returned (.bool (decide (dv la<dv lb)))∧Ext w w'):=by
 refine cY (N:=30) func194 O O zz_ ?_;obtain ⟨w0,rfl⟩:=nm w;refine giI ?_;refine go6 ?_;refine sQ (lT cC O hva.old) O (go_ ?_);refine sQ (lT cC O hvb.old) O (sQ (Z9 O O) O (go4 ?_));refine cF (rg [4,5] 12 18) (fun g nn M=>∃ (k:Nat),(g 5 = .int .i64 ((k:Int) - 1))∧M=[]∧nn=k+0∧(k≤max la.length lb.length∧dv la / 65536 ^ k=dv lb / 65536 ^ k)) (max la.length lb.length) ?start ?round
 case start =>
  refine ⟨_,(List.Sublist.refl _),max la.length lb.length,?a5,?mem0,rfl,⟨Nat.le_refl _,RF hDa hDb⟩⟩
  case mem0=>rfl
  case a5=>exact congrArg (Value.int .i64) (bV (by unfold I64;omega))
 case round =>
  rintro nn g M ⟨k,hg5,rfl,hmeas,⟨hk,hd⟩⟩;subst nn;refine gS1 hg5 ?_;clear hg5;refine go5 ?_;refine aS _ O (fun hc=>?_) (fun hc=>?_)
  ·replace hc:=cB_ hc
   obtain ⟨m,rfl⟩:∃ m,k=m+1:=⟨k - 1,by omega⟩;refine go5 ?_;refine sQ (aE (iF O) (congrArg (Value.int .i64) (show (((m+1:Nat):Int) - 1)=(m:Int) by omega))) O (sQ (dZ aK O (fun w hw=>fE va la m w (SL.sl (M:=_) hva.old hw))) O (go_ ?_));refine sQ (aE (iF O) (congrArg (Value.int .i64) (show (((m+1:Nat):Int) - 1)=(m:Int) by omega))) O (sQ (dZ aK O (fun w hw=>fE vb lb m w (SL.sl (M:=_) hvb.old hw))) O (go2 ?_));refine aS _ O (fun hne=>?_) (fun hne=>?_)
   ·replace hne:=cB_ hne
    have hne':dg (dv la) m≠dg (dv lb) m:=by rw [← mO la m hDa,← mO lb m hDb];omega
    refine go2 ?_;refine sQ (aE (iF O) (congrArg (Value.int .i64) (show (((m+1:Nat):Int) - 1)=(m:Int) by omega))) O (sQ (dZ aK O (fun w hw=>fE va la m w (SL.sl (M:=_) hva.old hw))) O (go_ ?_));refine sQ (aE (iF O) (congrArg (Value.int .i64) (show (((m+1:Nat):Int) - 1)=(m:Int) by omega))) O (sQ (dZ aK O (fun w hw=>fE vb lb m w (SL.sl (M:=_) hvb.old hw))) O (go4 ?_));refine rt1 ?_
    (rw [mO la m hDa,mO lb m hDb];exact congrArg Value.bool (VM hd hne'))
   replace hne:=cB_ hne
   have heq':dg (dv la) m=dg (dv lb) m:=by rw [← mO la m hDa,← mO lb m hDb];omega
   refine go2 ?_;refine sQ (aE (iF O) (congrArg (Value.int .i64) (show (((m+1:Nat):Int) - 1)=(m:Int) by omega))) O (go3 ?_);refine ⟨pp_,_,_,(List.Sublist.refl _),oo_,m,?s5,?mem,rfl,⟨by omega,VL hd heq'⟩⟩
   case mem=>rfl
   case s5=>exact congrArg (Value.int .i64) (bV (n:=(m:Int) - 1) (by unfold I64;omega))
  replace hc:=cB_ hc
  obtain rfl:k=0:=by omega
  refine go5 ?_;refine rt1 ?_
  (simp only [Nat.pow_zero,Nat.div_one] at hd;rw [hd];exact congrArg Value.bool (decide_eq_false (Nat.lt_irrefl _)).symm)
theorem vZ (va vb:Value) (la lb:List Nat) (hDa:DL la) (hDb:DL lb) (hna:la.length≤200) (hnb:lb.length≤200) (w:World) (hva:Sl w va la) (hvb:Sl w vb lb) :
    Calls prog 193 [va,vb].toArray w (fun e w'=>∃ v,e = .returned v∧Ext w w'∧Slf w.heap.size w' v (dl (dv la*dv lb))):=by
 refine sZ (N:=72) func193 O O zz_ ?_;obtain ⟨w0,rfl⟩:=nm w;refine giI ?_;refine go5 ?_;refine sQ (lT cC O hva.old) O (go_ ?_);refine sQ (lT cC O hvb.old) O (sQ (aE (gP O O) (congrArg (Value.int .i64) (lN oo_))) O (sQ (aE (gP O O) (congrArg (Value.int .i64) (iH oo_))) O (aQ O (ai_ fQ RT z_3 O O oo_ (fun b17 hb17=>go7 ?_)))));refine cF (rg [6,7,8,9,10] 18 52) (fun g nn M=>∃ (i:Nat) (o:List Nat),(g 6 = .int .i64 (i:Int))∧M=[⟨b17,3,iw o⟩]∧nn=la.length - i∧(i≤la.length∧DL o∧o.length=(la.length+lb.length+1)∧dv o=dv la % 65536 ^ i*dv lb)) (la.length - 0) ?start ?round
 case start =>
  refine ⟨_,(List.Sublist.refl _),0,List.replicate (la.length+lb.length+1) 0,?a6,?mem0,rfl,⟨Nat.zero_le _,fun d hd=>by rw [List.eq_of_mem_replicate hd];decide,by simp,by rw [BC,Nat.pow_zero,Nat.mod_one,Nat.zero_mul]⟩⟩
  case mem0=>rfl
  case a6=>rfl
 case round =>
  rintro nn g M ⟨i,o,hg6,rfl,hmeas,⟨hi,hDo,hlo,hdv⟩⟩;subst nn;refine gS1 hg6 ?_;clear hg6;refine go4 ?_;refine sQ (lT cC O hva.old) O (go2 ?_);refine aS _ O (fun hc=>?_) (fun hc=>?_)
  ·replace hc:=cB_ hc
   have hc:i<la.length:=by omega
   refine go8 ?_;refine cF (rg [7] 24 27) (fun g nn M=>∃ (k:Nat) (l:List Nat),(g 7 = .int .i64 (k:Int))∧M=[⟨b17,3,iw l⟩]∧nn=lb.length - k∧(k≤lb.length∧RowIn (la.length+lb.length+1) (dv lb) i (dg (dv la) i) o k l)) (lb.length - 0) ?start ?round
   case start =>
    refine ⟨_,(List.Sublist.refl _),0,o,?a7,?mem0,rfl,⟨Nat.zero_le _,RowIn.start _ _ _ hDo hlo⟩⟩
    case mem0=>rfl
    case a7=>rfl
   case round =>
    rintro nn g M ⟨k,l,hg7,rfl,hmeas,⟨hkl,hR⟩⟩;subst nn;refine gS1 hg7 ?_;clear hg7;refine go4 ?_;refine sQ (lT cC O hvb.old) O (go2 ?_);refine aS _ O (fun hk2=>?_) (fun hk2=>?_)
    ·replace hk2:=cB_ hk2
     have hk2:k<lb.length:=by omega
     refine go3 ?_;refine gdr sn [0,4,8,12,16,20,24,28,32,36,40,44,48,52,56,60,64,68,72,76,80,85] [21] mix (by kernel_rfl) (go3 ?_);refine pQ O (aE (gP O O) (congrArg (Value.int .i64) (lN oo_))) (go3 ?_);refine pQ O (aE (gP O O) (congrArg (Value.int .i64) (lN oo_))) (pQ O (AN cC O O oo_ oo_) (pQ O (cZ tyT O mm_ (fX_ (by rw [hR.len];omega))) ?_));refine go2 ?_;refine pQ O (wP cC O O hva.old oo_) (pQ O (tB tyT O hva.old oo_) (go2 ?_));refine pQ O (wP cC O O hvb.old oo_) (pQ O (tB tyT O hvb.old oo_) (go_ ?_));refine pQ O (aE (gP O O) (show _=IV (l.getD (i+k) 0+dg (dv la) i*dg (dv lb) k) by rw [mO la i hDa,mO lb k hDb];exact bU_ (hR.high _ (Nat.le_refl _)) (lE _ _) (lE _ _))) (pQ O (AN cC O O oo_ oo_) ?_);refine dA O O (GO tyT O O uu_ (by rw [hR.len];omega) (.inl eX) ⟨nf,ss_,?_⟩);refine go3 ?_;refine sQ (aE (gP O O) (congrArg (Value.int .i64) (iH oo_))) O (go2 ?_);refine ⟨pp_,_,_,(List.Sublist.refl _),oo_,k+1,_,?s7,?mem,rfl,⟨by omega,hR.step oo_ (lE _ _)⟩⟩
     case mem=>rfl
     case s7=>rfl
    replace hk2:=cB_ hk2
    obtain rfl:k=lb.length:=by omega
    refine go8 ?_;refine cF (rg [8,9,10] 51 19) (fun g nn M=>∃ (m:Nat) (l:List Nat) (c:Nat),(g 8 = .int .i64 (c:Int)∧g 9 = .int .i64 (m:Int))∧M=[⟨b17,3,iw l⟩]∧nn=(la.length+lb.length+1) - m∧(m≤(la.length+lb.length+1)∧CarryIn (la.length+lb.length+1) (dv o+65536 ^ i*(dg (dv la) i*(dv lb % 65536 ^ lb.length))) m l c)) ((la.length+lb.length+1) - 0) ?start ?round
    case start =>
     refine ⟨_,(List.Sublist.refl _),0,l,0,⟨?a8,?a9⟩,?mem0,rfl,⟨Nat.zero_le _,hR.done⟩⟩
     case mem0=>rfl
     case a8=>rfl
     case a9=>rfl
    case round =>
     rintro nn g M ⟨m,l,c,⟨hg8,hg9⟩,rfl,hmeas,⟨hml,hC⟩⟩;subst nn;refine gS2 hg8 hg9 ?_;clear hg8 hg9;refine go4 ?_;refine sQ (DT cC O) O (go2 ?_);refine aS _ O (fun hm2=>?_) (fun hm2=>?_)
     ·replace hm2:=cB_ hm2
      have hm2:m<(la.length+lb.length+1):=by omega
      refine go6 ?_;refine sQ (AN cC O O oo_ oo_) O (sQ (cZ tyT O mm_ (fX_ (by rw [hC.len];omega))) O ?_);refine go_ ?_;refine sQ (aE (gP O O) (congrArg (Value.int .i64) (g3_ (by have:=hC.low m;have:=hC.clt;omega)))) O (go6 ?_);refine sQ (aE (rA O O dd_) (PC _)) O (sQ (AN cC O O oo_ oo_) O (aQ O (GO tyT O O uu_ (by rw [hC.len];omega) (.inl eX) ?_)));refine go3 ?_;refine sQ (aE (o4 O O dd_) (congrArg (Value.int .i64) (gk_ (by have:=hC.low m;have:=hC.clt;omega)))) O (go4 ?_);refine sQ (aE (gP O O) (congrArg (Value.int .i64) (iH oo_))) O (go2 ?_);refine ⟨pp_,_,_,(List.Sublist.refl _),oo_,m+1,_,_,⟨?s8,?s9⟩,?mem,rfl,⟨by omega,hC.step oo_⟩⟩
      case mem=>rfl
      case s8=>rfl
      case s9=>rfl
     replace hm2:=cB_ hm2
     obtain rfl:m=(la.length+lb.length+1):=by omega
     have hT:(dv o+65536 ^ i*(dg (dv la) i*(dv lb % 65536 ^ lb.length)))=dv la % 65536 ^ (i+1)*dv lb:=by rw [hdv];exact WI (vM lb hDb)
     have hF:=hC.fin (by rw [hT];exact aH_ oo_ (vM lb hDb));rw [hT] at hF;refine go3 ?_;refine sQ (aE (gP O O) (congrArg (Value.int .i64) (iH oo_))) O (go2 ?_);refine ⟨pp_,_,_,(List.Sublist.refl _),oo_,i+1,_,?s6,?mem,rfl,⟨by omega,hF⟩⟩
     case mem=>rfl
     case s6=>rfl
  replace hc:=cB_ hc
  obtain rfl:i=la.length:=by omega
  refine go3 ?_;refine sQ (dZ aK O (fun w hw=>gV _ o hDo oo_ w (SL.sl (SL.mine' (.head _) hlo (Nat.le_refl _)) hw))) O (go3 ?_);refine rt1 ?_;exact tI hDo (by rw [hdv,Nat.mod_eq_of_lt (vM la hDa)]) (SLf.mine hb17 (.head _) hlo (Nat.le_refl _))
theorem lQ (va:Value) (la:List Nat) (k:Int) (w:World) (hva:Sl w va la) :
   Calls prog 192 [va,.int .i64 k].toArray w (fun e w'=>e = .returned (.int .i64 ((atD la k:Nat):Int))∧Ext w w'):=by
 refine cY (N:=10) func192 O O zz_ ?_;obtain ⟨w0,rfl⟩:=nm w;refine giI ?_;refine go8 ?_;refine aS _ O (fun h0=>?_) (fun h0=>?_)
 ·replace h0:=cB_ h0
  refine go4 ?_;refine rt1 ?_
  (rw [bj_ h0];rfl)
 replace h0:=cB_ h0
 refine go3 ?_;refine sQ (aE (iF O) (show _=Value.int .i64 (k.toNat:Int) from congrArg (Value.int .i64) oo_)) O (sQ (dZ aK O (fun w hw=>fE va la k.toNat w (SL.sl (M:=_) hva.old hw))) O (go3 ?_));refine rt1 ?_;rw [bk_ h0]
theorem qV (a:R) (ha:a.Ok) :
    Ret prog 153 [RV a] (.tuple #[.int .i64 (mI a),.bool (sH a)]):=by
 refine bI (N:=41) func153 O O zz_ (fun w0=>?_);refine giI ?_;refine go_ ?_;refine aQ O (iG O O (fun b1 hb1=>go4 ?_));refine sQ (bZ tyT O mm_ (cO ha)) O ?_;refine sQ (aY aK (e8 a ha) O) O (go7 ?_)
 cases hg:a.good
 ·refine yD ?_;refine rt2 ?_;exact WK hg
 refine sQ (bX fdT dd_ O) O (sQ (dX arT O O dd_ dd_) O (sQ (cZ tyT O mm_ (lC (r:=a) (k:=1) (by rw [ha.len];decide))) O ?_));refine go3 ?_;refine aS _ O (fun h16=>?_) (fun h16=>?_)
 ·replace h16:=cB_ h16
  refine go5 ?_;refine rt2 ?_;exact P8 (aX_ ha h16)
 replace h16:=cB_ h16
 refine go6 ?_;refine cF (rg [2,3,5] 17 9) (fun g nn M=>∃ (k:Nat),(g 5 = .int .i64 (k:Int))∧M=[⟨b1,31,a.cells⟩]∧nn=16 - k∧(2≤k∧k≤16∧∀ j,2≤j→j<k→a.w.getD j 0=0)) (14) ?start ?round
 case start =>
  refine ⟨_,(List.Sublist.refl _),2,?a5,?mem0,rfl,⟨Nat.le_refl _,by decide,fun j h1 h2=>by omega⟩⟩
  case mem0=>rfl
  case a5=>rfl
 case round =>
  rintro nn g M ⟨k,hg5,rfl,hmeas,⟨hk2,hk,hz⟩⟩;subst nn;refine gS1 hg5 ?_;clear hg5;refine go5 ?_;refine aS _ O (fun hc=>?_) (fun hc=>?_)
  ·replace hc:=cB_ hc
   have hc:k<16:=by omega
   refine go5 ?_;refine sQ (bX fdT dd_ O) O (sQ (dX arT O O oo_ oo_) O (sQ (cZ tyT O mm_ (lC (r:=a) (k:=k) (by rw [ha.len];omega))) O ?_));refine go2 ?_;refine aS _ O (fun hz2=>?_) (fun hz2=>?_)
   ·replace hz2:=cB_ hz2
    refine go5 ?_;refine rt2 ?_;exact P8 (WM ha hk2 oo_)
   replace hz2:=cB_ hz2
   refine go3 ?_;refine sQ (aE (gP O O) (congrArg (Value.int .i64) (iH oo_))) O (go2 ?_);refine ⟨pp_,_,_,(List.Sublist.refl _),oo_,k+1,?s5,?mem,rfl,⟨by omega,by omega,fun j h1 h2=>by rcases Nat.eq_or_lt_of_le (Nat.le_of_lt_succ h2) with rfl|h3;omega;exact hz j h1 h3⟩⟩
   case mem=>rfl
   case s5=>rfl
  replace hc:=cB_ hc
  obtain rfl:k=16:=by omega
  have hws:=P9 ha oo_ hz;refine go2 ?_;refine sQ (bX fdT dd_ O) O (sQ (dX arT O O dd_ dd_) O (sQ (cZ tyT O mm_ (lC (r:=a) (k:=1) (by rw [ha.len];decide))) O ?_));refine sQ (dJ fM zW O) O (go_ ?_);refine sQ (bX fdT dd_ O) O (sQ (dX arT O O dd_ dd_) O (sQ (cZ tyT O mm_ (lC (r:=a) (k:=0) (by rw [ha.len];decide))) O ?_));refine sQ (dJ fM zW O) O (sQ (aE (gP O O) (congrArg (Value.int .i64) ((P9 ha oo_ hz).1))) O (go4 ?_));refine sQ (bX fdT dd_ O) O (sQ (cZ tyT O mm_ O) O ?_);refine go_ ?_;refine aS _ O (fun hn=>?_) (fun hn=>?_)
  ·replace hn:=cB_ hn
   refine go7 ?_;refine rt2 ?_;exact aV_ hg hws.2 hn
  replace hn:=cB_ hn
  refine go7 ?_;refine rt2 ?_;exact aW_ hg hws.2 hn
theorem sG (n:Int) (hn:I64 n) :
   Ret prog 155 [.int .i64 n] (RV (Z.of n).enc):=by
 refine bI (N:=35) func155 O O zz_ (fun w0=>?_);refine giI ?_;unfold I64 at hn;refine go_ ?_;refine aQ O (dP kA (fun b2 hb2=>go6 ?_));refine aS _ O (fun h0=>?_) (fun h0=>?_)
 ·replace h0:=cB_ h0
  obtain ⟨m,rfl⟩:∃ m:Nat,n=m:=⟨n.toNat,by omega⟩;refine go2 ?_;refine sQ (aE (rA O O dd_) (show _=IV (m % 65536) from PC _)) O (go_ ?_);refine sQ (aE (o4 O O dd_) (JA 65536 oo_)) O (sQ (aE (rA O O dd_) (show _=IV (m / 65536 % 65536) from PC _)) O (go_ ?_));refine sQ (aE (o4 O O dd_) (JA 4294967296 oo_)) O (sQ (aE (rA O O dd_) (show _=IV (m / 4294967296 % 65536) from PC _)) O (go_ ?_));refine sQ (aE (o4 O O dd_) (JA 281474976710656 oo_)) O (aQ O (hZ fQ z_3 n5 O dd_ O (YK _ _ _ _) (fun b16 hb16=>sQ (dZ aK O (fun w hw=>i5 false _ (dl4 m) (X8 oo_) (by simp [dl4]) w (SL.sl (SL.mine (l:=dl4 m) (.head _) (Nat.le_refl _)) hw))) O ?_)));refine aQ O (bK tyT O O uu_ (aI _) O (bJ _) (.inl eX) ?_);refine go2 ?_;refine rtX O ⟨_,_,_,_,_,_,rfl,mm_,tyT,_,(dH (aI _)),(aI _),rfl⟩ ?_
  (rw [Q1,vY];rfl)
 replace h0:=cB_ h0
 obtain ⟨m,rfl⟩:∃ m:Nat,n = -((m:Int)+1):=⟨(-n - 1).toNat,by omega⟩;refine go4 ?_;refine sQ (aE (aa_ O) (congrArg (Value.int .i64) (b9_ oo_))) O (go4 ?_);refine sQ (aE (rA O O dd_) (show _=IV (m % 65536) from PC _)) O (go_ ?_);refine sQ (aE (o4 O O dd_) (JA 65536 oo_)) O (sQ (aE (rA O O dd_) (show _=IV (m / 65536 % 65536) from PC _)) O (go_ ?_));refine sQ (aE (o4 O O dd_) (JA 4294967296 oo_)) O (sQ (aE (rA O O dd_) (show _=IV (m / 4294967296 % 65536) from PC _)) O (go_ ?_));refine sQ (aE (o4 O O dd_) (JA 281474976710656 oo_)) O (aQ O (hZ fQ z_3 n5 O dd_ O (YK _ _ _ _) (fun b31 hb31=>aQ O (hZ fQ z_3 n5 O dd_ O (CJ 1) (fun b32 hb32=>aQ O (l9 aK O (fun w hw=>wV _ _ (dl4 m) [1] (X8 oo_) (DL.one dd_) (by simp [dl4]) zz_ w (SL.sl (SL.mine (l:=dl4 m) (.tail _ (.head _)) (Nat.le_refl _)) hw) (SL.sl (SL.mine (l:=[1]) (.head _) (Nat.le_refl _)) hw)) (fun v9 L9 h9=>?_)))))));refine sQ (dZ aK O (fun w hw=>i5 true _ _ (tM _) (Nat.le_trans (tN (k:=64) (by rw [Q1];simp only [dv];omega)) dd_) w (SL.sl (h9.sl.sub lZ) hw))) O (aQ O (bK tyT O O uu_ (aI _) O (bJ _) (.inl eX) ?_));refine go2 ?_;refine rtX O ⟨_,_,_,_,_,_,rfl,mm_,tyT,_,(dH (aI _)),(aI _),rfl⟩ ?_
 (rw [nE,Q1];simp only [dv,Nat.mul_zero,Nat.add_zero];rw [gr_];rfl)
end Go.Proofs.YtcjoflcajgaifaaGreatDoor
