/- Lemmas: what they ask stands in their statements. -/
import Derived.Test.YtokjfhfiodopdaaGreatUSsc
set_option linter.unusedSimpArgs false
set_option linter.unusedVariables false
namespace Go.Num
open Go Go.Kn
open QP (sg sgs vr V AX aH_ Dv Chain Sf)
def Ex (m:I) (v:Int):Prop:=∃ z,m=E z∧Zx z v
theorem f5_ {v:Int} {d q:Rat} (hd:0<d) (h:(v:Rat)=d * q):sg q=v.sign:=by
  rcases AX q with ⟨e,k⟩ | ⟨e,k⟩ | ⟨e,k⟩
  · have h1:(0:Rat)<(v:Rat):=by rw [h];exact Rat.mul_pos hd k
    rw [e,Int.sign_eq_one_of_pos (Rat.intCast_pos.1 h1)]
  · have h1:(0:Rat)<((-v:Int):Rat):=by
      have:=Rat.mul_pos hd (show (0:Rat) < -q by grind);rw [Rat.intCast_neg,h];grind
    have:=Rat.intCast_pos.1 h1;rw [e,Int.sign_eq_neg_one_of_neg oo_]
  have h1:(v:Rat)=((0:Int):Rat):=by rw [h,k,Rat.mul_zero];rfl
  rw [e,Rat.intCast_inj.1 h1];rfl
section
variable {p:List I} {c:Nat→Int} {x:Rt} {N D:Int}
theorem VL (h:Po p c) (hx:x.Is N D):∀ (f t:Nat) (i:Int) (m:I),t≤p.length→i=((p.length:Nat):Int) - 1 - t→p.length - t<f→Ex m (Go.Num.hv c N D p.length t) →
    Ex (gU p x f i m).2 (Go.Num.hv c N D p.length p.length)
  | 0,t,i,m,_,_,hf,_=>absurd hf (Nat.not_lt_zero _)
  | f+1,t,i,m,ht,hi,hf,hm=>by
    unfold gU
    by_cases h0:0≤i
    · rw [decide_eq_true h0,cond_true]
      have hl:t<p.length:=by omega
      have e1:i.toNat=p.length - 1 - t:=by omega
      have e2:p.length - 1 - i.toNat=t:=by omega
      simp only;refine VL h hx f (t+1) _ _ oo_ oo_ oo_ ⟨_,rfl,?_⟩;obtain ⟨z,rfl,hz⟩:=hm;rw [e2,yZ _ _ (show t<max (((p.length:Nat):Int)).toNat 1 by omega),hx.ed,e1,h.get,hx.en,cZ,cZ,cZ,cZ];have h1:Zx (pw (E (Z.of D)) t).dec (D ^ t):=fP_ (x:=E (Z.of D)) (.of D) t;exact (hz.mul (.of N)).add ((Zx.of _).mul h1)
    rw [decide_eq_false h0,cond_false]
    obtain rfl:t=p.length:=by omega
    exact hm
theorem cy_ (h:Po p c) (hx:x.Is N D):Ex (iK p x).1 (Go.Num.hv c N D p.length p.length):=by
  unfold iK;rw [h.nb,TX,sY,CV hx];exact VL h hx (p.length+1) 0 (((p.length:Nat):Int) - 1) I0 (Nat.zero_le _) oo_ oo_ ⟨Z.of 0,bh_,.of 0⟩
theorem XT {q:Rat} (h:Po p c) (hx:x.At q) (hs:(aL p x).2=true):(aL p x).1.1=sg ((qp p).ev q):=by
  have ix:=At.is hx;obtain ⟨z,hz,hv⟩:=cy_ h ix;unfold aL at hs ⊢;rw [hz] at hs ⊢;rcases hv.cases with hb | ⟨he,hB⟩
  · have hs:(!(E z).1.bad)=true:=hs
    rw [hb] at hs;cases hs
  show (Z.signW (E z).dec).1=_
  rw [he,cZ,mU hB];have hp:=@rF q;have hv:=ZK (c:=c) (L:=p.length) (N:=q.num) (D:=(q.den:Int)) YR hp;rw [w8 h h.ends,QP.ev_vl (n:=p.length) (fun i hi=>by rw [nL,h.zero hi];rfl)];exact (f5_ (d:=((q.den:Int):Rat) ^ (p.length - 1)) (by rw [← Rat.intCast_pow];exact Rat.intCast_pos.2 (Int.pow_pos hp)) hv).symm
end
theorem KF {p:List I} {x:Rt} (hs:(aL p x).2=true):∃ q,x.At q:=by
  refine T7 ?_
  cases hg:aZ x
  · exfalso
    unfold aL iK at hs;rw [TX,sY,hg,show (aU p || !false)=true by simp,cond_true] at hs;exact absurd hs (by decide +kernel)
  rfl
theorem G7 (p:List I) (x:Rt):-1≤(aL p x).1.1∧(aL p x).1.1≤1:=sgW _
theorem TJ (c:List (List I)) (x:Rt) {q:Rat} (hx:x.At q):∀ (l:List (List I)) (s n:W),(∀ f∈l,Gp f)→0≤n.1→n.1+l.length≤1000 →
    d9 c x l s n = .inr (wl 0,false)∨((∀ f∈l,(aL f x).2=true)∧∃ s' n':W,d9 c x l s n = .inl (s',n')∧n'.1=n.1+(vr s.1 (sgs (l.map qp) q):Nat))
  | [],s,n,_,_,_=>.inr ⟨fun f hf=>(by cases hf),s,n,rfl,(Int.add_zero _).symm⟩
  | f :: l,s,n,hl,h0,h1=>by
    unfold d9
    cases hs:(aL f x).2
    · exact .inl rfl
    rw [cond_true];obtain ⟨c0,hc⟩:=(hl f (List.mem_cons_self)).po;have hv:=XT hc hx hs;have hr:=G7 f x;have hl':∀ g∈l,Gp g:=fun g hg=>hl g (List.mem_cons_of_mem _ hg);have e1:sgs ((f :: l).map qp) q=sg ((qp f).ev q) :: sgs (l.map qp) q:=rfl;rw [e1,← hv]
    have hln:((f :: l).length:Int)=(l.length:Int)+1:=by simp
    have both:∀ {P:W→Prop},(∀ g∈l,(aL g x).2=true)→∀ g∈f :: l,(aL g x).2=true:=fun h g hg=>by
      rcases List.mem_cons.1 hg with rfl | hg
      · exact hs
      exact h g hg
    by_cases z0:(aL f x).1.1=0
    · rw [show ((aL f x).1.1 != 0)=false by simp [z0],cond_false]
      rcases TJ c x hx l s n hl' h0 oo_ with h | ⟨ha,s',n',h,hn⟩
      · exact .inl h
      refine .inr ⟨both (P:=fun _=>True) ha,s',n',h,?_⟩;rw [vr,if_pos z0];exact hn
    rw [show ((aL f x).1.1 != 0)=true by simp [z0],cond_true,show ((aL f x).1.1==(-2))=false by simp;omega,cond_false];rw [vr,if_neg z0]
    by_cases z1:s.1≠0∧(aL f x).1.1≠s.1
    · rw [show ((s.1 != 0)&&((aL f x).1.1 != s.1))=true by simp [z1.1,z1.2],cond_true,if_pos z1]
      have en:(W.add n (wl 1)).1=n.1+1:=by
        show IntKind.i64.wrap (n.1+1)=n.1+1
        rw [wi oo_]
      rcases TJ c x hx l (aL f x).1 (W.add n (wl 1)) hl' oo_ oo_ with h | ⟨ha,s',n',h,hn⟩
      · exact .inl h
      exact .inr ⟨both (P:=fun _=>True) ha,s',n',h,by omega⟩
    rw [show ((s.1 != 0)&&((aL f x).1.1 != s.1))=false by
      rcases Decidable.not_and_iff_or_not.1 z1 with k | k
      · simp at k;simp [k]
      simp at k;simp [k],cond_false,if_neg z1]
    rcases TJ c x hx l (aL f x).1 n hl' h0 oo_ with h | ⟨ha,s',n',h,hn⟩
    · exact .inl h
    exact .inr ⟨both (P:=fun _=>True) ha,s',n',h,by omega⟩
theorem KN {L:List (List I)} {x:Rt} (hL:∀ f∈L,Gp f) (hl:L.length≤100) (h0:L≠[]) (hs:(cY L x).2=true) :
    (∀ f∈L,(aL f x).2=true)∧∃ q,x.At q∧(cY L x).1.1=(V (L.map qp) q:Nat):=by
  obtain ⟨f,l,rfl⟩:∃ f l,L=f :: l:=by
    cases L with
    | nil=>exact absurd rfl h0
    | cons f l=>exact ⟨f,l,rfl⟩
  have hg:(aL f x).2=true:=by
    cases hs0:(aL f x).2
    · unfold cY d9 at hs
      rw [hs0] at hs;cases hs
    rfl
  obtain ⟨q,hq⟩:=KF hg;rcases TJ (f :: l) x hq (f :: l) (wl 0) (wl 0) hL dd_ (by show (0:Int)+_≤_;omega) with h | ⟨ha,s',n',h,hn⟩
  · unfold cY at hs
    rw [h] at hs;cases hs
  refine ⟨ha,q,hq,?_⟩;unfold cY;rw [h]
  show n'.1=_
  rw [hn]
  show (0:Int)+_=_
  rw [Int.zero_add];rfl
theorem a7_:∀ (l:List Int) (s:Int),vr s l≤l.length
  | [],s=>Nat.le_refl _
  | x :: l,s=>by
    have h1:=a7_ l s;have h2:=a7_ l x;rw [vr];simp only [List.length_cons]
    split
    · omega
    split <;> omega
theorem bj_ (L:List QP) (q:Rat):V L q≤L.length:=by
  have:=a7_ (sgs L q) 0;unfold sgs at this
  rwa [List.length_map] at this
theorem aP_ (p:List I):∀ (k:Nat) (out:List (List I)) (next:List I) (s:List (List I)×List I),cI p k out next = .inl s→s.1.length≤out.length+k
  | 0,out,next,s,h=>by cases h;exact Nat.le_refl _
  | k+1,out,next,s,h=>by
    unfold cI at h
    cases h0:decide (0<((next.length:Nat):Int))
    · rw [h0,cond_false] at h;cases h;exact Nat.le_add_right _ _
    rw [h0,cond_true] at h
    cases hb:aU (aC (cH (bQ ((out ++ [next]).getD (((out ++ [next])).length - 2) []) ((out ++ [next]).getD (((out ++ [next])).length - 1) [])) (E (Z.of (-1)))))
    · rw [hb,cond_false] at h
      have:=aP_ p k _ _ s h;rw [List.length_append] at this;simp only [List.length_singleton] at this;omega
    rw [hb,cond_true] at h;cases h
theorem yE (p:List I):(aH p).1.length≤100:=by
  unfold aH;have hk:gmP (aC (aE (bD p)))+1≤51:=Nat.succ_le_succ (R7 (cC (aE (bD p))));generalize gmP (aC (aE (bD p)))+1=K at hk ⊢
  cases h1:cI p K [bD p] (aC (aE (bD p))) with
  | inr r =>
    have h0:=I2 p K [bD p] (aC (aE (bD p))) (EE (rK p)) (cC _)
    show r.1.length≤100
    rw [h0.2 r h1];exact Nat.zero_le _
  | inl s =>
    have h2:=aP_ p _ _ _ s h1
    show (sm (fun (_:Unit)=>(s.1,true)) (fun r=>r) (dP p s.1 s.2 s.1)).1.length≤100
    cases h3:dP p s.1 s.2 s.1 with
    | inr r =>
      show r.1.length≤100
      rw [I4 _ _ _ _ r h3];exact Nat.zero_le _
    | inl u =>
      show s.1.length≤100
      simp only [List.length_singleton] at h2;omega
theorem St.ne {p:List I} {L:List (List I)} (h:St p L):L≠[]:=by
  obtain ⟨f,l,e,_⟩:=h.s;rw [e.1];exact List.cons_ne_nil _ _
structure Cx (L:List (List I)) (a b:Rt) (n:Int) (qa qb:Rat):Prop where
  a:a.At qa
  b:b.At qb
  n:n=(V (L.map qp) qa:Int) - (V (L.map qp) qb:Int)
theorem GM {p:List I} {L:List (List I)} {a b:Rt} (h:St p L) (hl:L.length≤100) (hs:(aG L a b).2=true):∃ qa qb,Cx L a b (aG L a b).1.1 qa qb:=by
  unfold aG at hs ⊢;have hs:=Bool.and_eq_true_iff.1 hs;obtain ⟨_,qa,ha,va⟩:=KN h.g hl h.ne hs.1;obtain ⟨_,qb,hb,vb⟩:=KN h.g hl h.ne hs.2;refine ⟨qa,qb,ha,hb,?_⟩
  show IntKind.i64.wrap ((cY L a).1.1 - (cY L b).1.1)=_
  have h1:=bj_ (L.map qp) qa;have h2:=bj_ (L.map qp) qb;rw [List.length_map] at h1 h2;rw [va,vb,wi oo_]
theorem St.anti {p:List I} {L:List (List I)} (h:St p L) {a b:Rat} (hl:a≤b):V (L.map qp) b≤V (L.map qp) a:=by
  obtain ⟨f,l,_,_,hs,_⟩:=h.s;exact hs.anti a b hl
theorem A7 {p:List I} (hp:Rgt p) (hok:(aH p).2=true):p=[]∨St p (aH p).1:=by
  by_cases h0:p=[]
  · exact .inl h0
  cases hg:p.all gdI
  · exfalso
    have hb:=vO hp hg;subst hb;rw [show aH badp=([],false) by kernel_rfl] at hok
    cases hok
  rcases cq_ ⟨hp,hg,h0⟩ with h | h
  · rw [h] at hok;cases hok
  exact .inr h.2
open Go Go.Kn
open QP (V)
def nxt (out:List (List I)) (next:List I):List I:=aC (cH (bQ ((out ++ [next]).getD (((out ++ [next])).length - 2) []) next) (E (Z.of (-1))))
theorem H5 (p:List I) (out:List (List I)) (next:List I):∀ l:List (List I),(∀ x∈l,aU x=false)→dP p out next l = .inl ()
  | [],_=>rfl
  | x :: l,h=>by
    unfold dP;rw [h x (List.mem_cons_self),cond_false]
    exact H5 p out next l fun y hy=>h y (List.mem_cons_of_mem _ hy)
theorem VU (p f next:List I) (h:next=badp):cI p (gmP next+1) [f] next = .inr ([],false):=by
  subst h
  have h1:gmP badp+1=1+1:=by unfold gmP;rw [e7];rfl
  rw [h1];unfold cI;rw [show decide (0<((badp.length:Nat):Int))=true from by kernel_rfl,cond_true,vT,DW _ _ dd_ e7,y5,qX,v7,cond_true]
theorem Zx.good {z:Z} {v:Int} (h:Zx z v) (g:z.o≠none):z=Z.of v∧d6 v:=by
  rcases h with h | h
  · exact absurd h g
  exact h
theorem e5_ {a b:Rt} {p q:Rat} (ha:a.At p) (hb:b.At q) (hg:aZ (eW a b)=true):(eW a b).At (p+q):=by
  unfold eW at hg ⊢;rw [uQ ha,uQ hb] at hg ⊢;simp only [Bool.not_true,Bool.or_false,cond_false] at hg ⊢;have ia:=At.is ha;have ib:=At.is hb;rw [ia.en,ia.ed,ib.en,ib.ed] at hg ⊢;simp only [cZ] at hg ⊢;have hdp:=@rF p;have hdq:=@rF q
  have hg0:0<((Int.gcd (p.den:Int) (q.den:Int):Nat):Int):=by
    have:=Int.gcd_pos_of_ne_zero_right (p.den:Int) (show (q.den:Int)≠0 by omega);omega
  have hbg:=PO (u:=(p.den:Int)) ib.hd oo_;have g1:((Int.gcd (p.den:Int) (q.den:Int):Nat):Int) ∣ (p.den:Int):=Int.gcd_dvd_left ..;have g2:((Int.gcd (p.den:Int) (q.den:Int):Nat):Int) ∣ (q.den:Int):=Int.gcd_dvd_right ..;rw [CJ ia.hd ib.hd,y4 ib.hd hbg hg0,y4 ia.hd hbg hg0] at hg ⊢;generalize ((Int.gcd (p.den:Int) (q.den:Int):Nat):Int)=G at *;obtain ⟨x,hx⟩:=g1;obtain ⟨y,hy⟩:=g2
  have q1:(p.den:Int) / G=x:=by rw [hx];exact Int.mul_ediv_cancel_left _ oo_
  have q2:(q.den:Int) / G=y:=by rw [hy];exact Int.mul_ediv_cancel_left _ oo_
  rw [q1,q2] at hg ⊢
  have x0:0<x:=by rw [hx] at hdp;exact Int.pos_of_mul_pos_right hdp hg0
  have n1:Zx (Z.add (Z.mul (Z.of p.num) (Z.of y)) (Z.mul (Z.of q.num) (Z.of x))) (p.num * y+q.num * x):=Zx.add (Zx.mul (.of _) (.of _)) (Zx.mul (.of _) (.of _));have n2:Zx (Z.mul (Z.of x) (Z.of (q.den:Int))) (x * q.den):=Zx.mul (.of _) (.of _)
  have bd:aZ jQ=false:=by decide +kernel
  obtain ⟨e1,b1⟩:=n1.good fun h=>by
    rw [Z.eq_bad h,EV,bd] at hg;cases hg
  obtain ⟨e2,b2⟩:=n2.good fun h=>by
    rw [Z.eq_bad h,EW,bd] at hg;cases hg
  rw [e1,e2];refine CW b1 b2 (Int.mul_pos x0 hdq) ?_
  have key:p+q=Rat.divInt (p.num * y+q.num * x) (x * q.den):=by
    conv=>lhs;rw [← Rat.num_divInt_den p,← Rat.num_divInt_den q,Rat.divInt_add_divInt _ _ oo_ oo_]
    refine (Rat.divInt_eq_divInt_iff (Int.mul_ne_zero oo_ oo_) (Int.mul_ne_zero oo_ oo_)).2 ?_;rw [hx,hy];grind
  have h3:=Rat.num_divInt_den (p+q);rw [key] at h3 ⊢;have h4:=(Rat.divInt_eq_divInt_iff (by have:=@rF (Rat.divInt (p.num * y+q.num * x) (x * q.den));omega) (Int.mul_ne_zero oo_ oo_)).1 h3;exact h4
section
variable {p:List I} {c:Nat→Int} {a b:Rt} {qa qb qd:Rat}
end
open Go Go.Kn
def aW (c:(List (List I))):Nat→Rt→Rt→Nat→Bool→(List Iv)→Bool×List Iv
  | 0,_,_,_,ok,out=>(ok,out)
  | n+1,a,b,k,ok,out=>bif (!(ok&&((aG c a b).2&&(decide (((k:Nat):Int)<600)&&(!a.n.1.bad&&(!b.n.1.bad)))))||(((aG c a b).1).1==0)) then (((ok&&((aG c a b).2&&(decide (((k:Nat):Int)<600)&&(!a.n.1.bad&&(!b.n.1.bad))))),out)) else (bif (((aG c a b).1).1==1) then (((ok&&((aG c a b).2&&(decide (((k:Nat):Int)<600)&&(!a.n.1.bad&&(!b.n.1.bad))))),(out ++ [(⟨a,b⟩:Iv)]))) else ((((aW c n (aF a b) b (k+1) ((aW c n a (aF a b) (k+1) (ok&&((aG c a b).2&&(decide (((k:Nat):Int)<600)&&(!a.n.1.bad&&(!b.n.1.bad))))) out).1) ((aW c n a (aF a b) (k+1) (ok&&((aG c a b).2&&(decide (((k:Nat):Int)<600)&&(!a.n.1.bad&&(!b.n.1.bad))))) out).2)).1),(aW c n (aF a b) b (k+1) ((aW c n a (aF a b) (k+1) (ok&&((aG c a b).2&&(decide (((k:Nat):Int)<600)&&(!a.n.1.bad&&(!b.n.1.bad))))) out).1) ((aW c n a (aF a b) (k+1) (ok&&((aG c a b).2&&(decide (((k:Nat):Int)<600)&&(!a.n.1.bad&&(!b.n.1.bad))))) out).2)).2)))
def bC (c:(List (List I))) (p:(List I)):Nat→Rt→Rt→W→W→Nat→Bool→Bool→Bool×Bool
  | 0,_,_,_,_,_,is,ok=>(is,ok)
  | n+1,a,b,left,right,k,is,ok=>bif (!is||(!ok)) then ((is,ok)) else (bif ((aG c a b).2&&((aL p (aF a b)).2&&decide (((k:Nat):Int)<600))) then (bif (right.1==0) then (bif decide (((aL p (aF a b)).1).1<0) then ((false,((aG c a b).2&&((aL p (aF a b)).2&&decide (((k:Nat):Int)<600))))) else (bif (bif ((W.sub ((aG c a b).1) (wl 1)).1==0) then ((W.sub ((aG c a b).1) (wl 1)).1==0) else (((W.sub ((aG c a b).1) (wl 1)).1==1)&&(decide (0<left.1)&&decide (0<right.1)))) then ((is,((aG c a b).2&&((aL p (aF a b)).2&&decide (((k:Nat):Int)<600))))) else ((((bC c p n (aF a b) b ((aL p (aF a b)).1) right (k+1) ((bC c p n a (aF a b) left ((aL p (aF a b)).1) (k+1) is ((aG c a b).2&&((aL p (aF a b)).2&&decide (((k:Nat):Int)<600)))).1) ((bC c p n a (aF a b) left ((aL p (aF a b)).1) (k+1) is ((aG c a b).2&&((aL p (aF a b)).2&&decide (((k:Nat):Int)<600)))).2)).1),((bC c p n (aF a b) b ((aL p (aF a b)).1) right (k+1) ((bC c p n a (aF a b) left ((aL p (aF a b)).1) (k+1) is ((aG c a b).2&&((aL p (aF a b)).2&&decide (((k:Nat):Int)<600)))).1) ((bC c p n a (aF a b) left ((aL p (aF a b)).1) (k+1) is ((aG c a b).2&&((aL p (aF a b)).2&&decide (((k:Nat):Int)<600)))).2)).2))))) else (bif decide (((aL p (aF a b)).1).1<0) then ((false,((aG c a b).2&&((aL p (aF a b)).2&&decide (((k:Nat):Int)<600))))) else (bif (bif (((aG c a b).1).1==0) then (((aG c a b).1).1==0) else ((((aG c a b).1).1==1)&&(decide (0<left.1)&&decide (0<right.1)))) then ((is,((aG c a b).2&&((aL p (aF a b)).2&&decide (((k:Nat):Int)<600))))) else ((((bC c p n (aF a b) b ((aL p (aF a b)).1) right (k+1) ((bC c p n a (aF a b) left ((aL p (aF a b)).1) (k+1) is ((aG c a b).2&&((aL p (aF a b)).2&&decide (((k:Nat):Int)<600)))).1) ((bC c p n a (aF a b) left ((aL p (aF a b)).1) (k+1) is ((aG c a b).2&&((aL p (aF a b)).2&&decide (((k:Nat):Int)<600)))).2)).1),((bC c p n (aF a b) b ((aL p (aF a b)).1) right (k+1) ((bC c p n a (aF a b) left ((aL p (aF a b)).1) (k+1) is ((aG c a b).2&&((aL p (aF a b)).2&&decide (((k:Nat):Int)<600)))).1) ((bC c p n a (aF a b) left ((aL p (aF a b)).1) (k+1) is ((aG c a b).2&&((aL p (aF a b)).2&&decide (((k:Nat):Int)<600)))).2)).2)))))) else ((is,((aG c a b).2&&((aL p (aF a b)).2&&decide (((k:Nat):Int)<600))))))
open QP (V)
theorem fd_ {a b:Rt} {p q:Rat} (ha:a.At p) (hb:b.At q) (hg:aZ (fA a b)=true):(fA a b).At (p * q):=by
  unfold fA at hg ⊢;rw [uQ ha,uQ hb] at hg ⊢;obtain ⟨x,y,r,s,e1,e2,b1,b2,b3,b4,h1,h2,hc,he⟩:=G3 ha hb;simp only [Bool.not_true,Bool.or_false,cond_false,e1,e2,cZ] at hg ⊢;have hps:0<y * s:=Int.mul_pos h1 h2
  have hpq:p * q=Rat.divInt (x * r) (y * s):=by
    rw [← Rat.num_divInt_den p,← Rat.num_divInt_den q,Rat.divInt_mul_divInt];exact (Rat.divInt_eq_divInt_iff (by have:=@rF p;have:=@rF q;exact Int.mul_ne_zero oo_ oo_) oo_).2 (by rw [he])
  have hnum:(p * q).num=x * r:=by
    rw [hpq,Rat.num_divInt,Int.gcd_comm,hc,Int.sign_eq_one_of_pos hps];simp
  have hden:((p * q).den:Int)=y * s:=by
    rw [hpq,Rat.den_divInt,if_neg oo_,Int.gcd_comm,hc,Nat.div_one];omega
  have bd:aZ jQ=false:=by decide +kernel
  have n1:Zx (Z.mul (Z.of x) (Z.of r)) (x * r):=Zx.mul (.of _) (.of _);have n2:Zx (Z.mul (Z.of y) (Z.of s)) (y * s):=Zx.mul (.of _) (.of _)
  obtain ⟨e1,b1⟩:=n1.good fun h=>by
    rw [Z.eq_bad h,EV,bd] at hg;cases hg
  obtain ⟨e2,b2⟩:=n2.good fun h=>by
    rw [Z.eq_bad h,EW,bd] at hg;cases hg
  rw [e1,e2];exact CW b1 b2 hps (by rw [hnum,hden])
theorem T8:(fU (wl 1) (wl 2)).At (1 / 2):=CW (n:=1) (d:=2) B1 dd_ dd_ (by decide +kernel)
theorem cG_ {a b:Rt} {p q:Rat} (ha:a.At p) (hb:b.At q) (hg:aZ (bB a b)=true):(bB a b).At ((p+q) * (1 / 2)):=by
  unfold bB at hg ⊢
  have hg':aZ (eW a b)=true:=by
    cases h:aZ (eW a b)
    · exfalso
      simp only at hg;unfold fA at hg;rw [h] at hg;simp only [Bool.not_false,Bool.true_or,cond_true] at hg;exact absurd hg (by decide +kernel)
    rfl
  exact fd_ (e5_ ha hb hg') T8 hg
theorem HH {p:List I} {L:List (List I)} {a b:Rt} (h:St p L) (hl:L.length≤100) (hs:(aG L a b).2=true):∃ qa qb,a.At qa∧b.At qb:=by
  obtain ⟨qa,qb,hc⟩:=GM h hl hs;exact ⟨qa,qb,hc.a,hc.b⟩
theorem NM {p q:Rat} (h:p≤q):p≤(p+q) * (1 / 2)∧(p+q) * (1 / 2)≤q:=by constructor <;> grind
theorem NK {p:List I} {L:List (List I)} (h:St p L) (hl:L.length≤100) {n:Nat} {a b:Rt} (hb:¬ ∃ qa qb,a.At qa∧b.At qb) (k:Nat) (ok:Bool) (out:List Iv):(aW L n a b k ok out).2=out:=by
  cases n with
  | zero=>rfl
  | succ n =>
    unfold aW
    have hs:(aG L a b).2=false:=by
      cases hs:(aG L a b).2
      · rfl
      exact absurd (HH h hl hs) hb
    rw [hs];simp only [Bool.false_and,Bool.and_false,Bool.not_false,Bool.true_or,cond_true]
theorem NL {p:List I} {L:List (List I)} (h:St p L) (hl:L.length≤100):∀ (n:Nat) (a b:Rt) (k:Nat) (ok:Bool) (out:List Iv) (qa qb:Rat),a.At qa→b.At qb →
    (aW L n a b k ok out).2.length≤out.length+(V (L.map qp) qa - V (L.map qp) qb)
  | 0,a,b,k,ok,out,qa,qb,ha,hb=>Nat.le_add_right _ _
  | n+1,a,b,k,ok,out,qa,qb,ha,hb=>by
    unfold aW
    cases ho:(ok&&((aG L a b).2&&(decide (((k:Nat):Int)<600)&&(!a.n.1.bad&&(!b.n.1.bad)))))
    · simp only [Bool.not_false,Bool.true_or,cond_true];exact Nat.le_add_right _ _
    have hs:(aG L a b).2=true:=by
      simp only [Bool.and_eq_true] at ho;exact ho.2.1
    obtain ⟨qa',qb',hc⟩:=GM h hl hs;obtain rfl:=EG ha hc.a;obtain rfl:=EG hb hc.b;have hn:=hc.n;generalize (aG L a b).1.1=m at *;simp only [Bool.not_true,Bool.false_or]
    cases h0:(m==0)
    · rw [cond_false]
      cases h1:(m==1)
      · rw [cond_false]
        simp only
        by_cases hg:aZ (bB a b)=true
        · have hm:=cG_ ha hb hg
          rw [← G2] at hm;have i1:=NL h hl n a (aF a b) (k+1) true out qa _ ha hm;have i2:=NL h hl n (aF a b) b (k+1) (aW L n a (aF a b) (k+1) true out).1 (aW L n a (aF a b) (k+1) true out).2 _ qb hm hb;rcases Rat.le_total (a:=qa) (b:=qb) with hab | hab
          · have v1:=h.anti (NM hab).1
            have v2:=h.anti (NM hab).2;omega
          have v1:=h.anti (a:=(qa+qb) * (1 / 2)) (b:=qa) (by grind);have v2:=h.anti (a:=qb) (b:=(qa+qb) * (1 / 2)) (by grind);omega
        have hno:¬ ∃ q,(aF a b).At q:=fun ⟨q,hq⟩=>hg (by rw [← G2];exact uQ hq);rw [NK h hl (fun ⟨u,v,hu,hv⟩=>hno ⟨u,hu⟩) (k+1) _ _,NK h hl (fun ⟨u,v,hu,hv⟩=>hno ⟨v,hv⟩) (k+1) _ _];exact Nat.le_add_right _ _
      rw [cond_true]
      have:m=1:=by simpa using h1
      simp only [List.length_append,List.length_singleton];omega
    rw [cond_true];exact Nat.le_add_right _ _
theorem YA (x:Rt):(cY [[]] x).1=wl 0:=by
  unfold cY d9
  cases hs:(aL [] x).2
  · rfl
  obtain ⟨q,hq⟩:=KF hs;have:=XT EI hq hs;rw [SQ,QP.ev_C,QP.sg_zero] at this;rw [this];rfl
theorem TM (a b:Rt):(aG [[]] a b).1.1=0:=by
  unfold aG;rw [YA,YA];rfl
theorem ZT (n:Nat) (a b:Rt) (k:Nat) (ok:Bool) (out:List Iv):(aW [[]] n a b k ok out).2=out:=by
  cases n with
  | zero=>rfl
  | succ n =>
    unfold aW;rw [TM,show ((0:Int)==0)=true from rfl,Bool.or_true,cond_true]
theorem JY (p:List I) (a b:Rt) (hp:Rgt p∧p.length≤100) (hok:(aH p).2=true):(aW ((aH p).1) 601 a b 0 ((aH p).2) ([]:List Iv)).2.length≤5000:=by
  have hl:=yE p;rcases A7 hp.1 hok with rfl | h
  · rw [show aH []=([[]],true) by kernel_rfl]
    rw [ZT];exact Nat.zero_le _
  by_cases hab:∃ qa qb,a.At qa∧b.At qb
  · obtain ⟨qa,qb,ha,hb⟩:=hab
    have:=NL h hl 601 a b 0 (aH p).2 [] qa qb ha hb;have h2:=bj_ ((aH p).1.map qp) qa;rw [List.length_map] at h2;simp only [List.length_nil] at this;omega
  rw [NK h hl hab];exact Nat.zero_le _
def e9 (l:(List W)):(List I) :=
  (jK l)
def j6 (a:W) (b:W):Iv :=
  (⟨(gV a),(gV b)⟩:Iv)
theorem TW {p:List I} {d b:Int} (h:eA p d b=true):Rgt p∧p.length≤25∧((p.length:Nat):Int)≤d+1:=by
  obtain ⟨h1,h2⟩:=ER h;have h3:=LQ h1;exact ⟨h3,vP h3,h2⟩
theorem y8 (l:List I):Rgt (aX l):=by rw [wG];exact BN _
theorem u9 (l:List W):Rgt (jK l):=by unfold jK;exact y8 _
theorem mK (l:List W):Rgt (e9 l):=u9 l
theorem mJ (l:List W):(e9 l).length≤25:=u7 l
def iC (p:(List I)) (x:Iv) (k:Int):Nat→Nat→Iv→(Nat×Iv) ⊕ (Iv×W)
  | 0,i,mb1=>.inl (i,mb1)
  | k0+1,i,mb1=>bif decide (((i:Nat):Int)<k) then (let r21:Iv:=(gA ((bM p x).1) mb1).1
  bif (gA ((bM p x).1) mb1).2 then ((iC p x k k0 (i+1) r21)) else (.inr (((⟨(⟨I0,I0⟩:Rt),(⟨I0,I0⟩:Rt)⟩:Iv),(wl 30))))) else (.inl (i,mb1))
def dG (p:(List I)) (x:Iv) (k:Int):Iv×W :=
  bif (decide (k<0)||decide (64<k)) then (((⟨(⟨I0,I0⟩:Rt),(⟨I0,I0⟩:Rt)⟩:Iv),(wl 1))) else (bif (((bM p x).2).1 != 0) then (((⟨(⟨I0,I0⟩:Rt),(⟨I0,I0⟩:Rt)⟩:Iv),(bM p x).2)) else (sm (fun (s:Nat×Iv)=>let i:Nat:=s.1
  let mb1:Iv:=s.2
  (mb1,(wl 0))) (fun r=>r) (iC p x k ((k.toNat+1)) 0 x)))
def j5 (q:(List I)) (p:(List I)) (x:Iv):Nat→Nat→Iv→(Nat×Iv) ⊕ (W×W)
  | 0,i,mb1=>.inl (i,mb1)
  | k0+1,i,mb1=>bif decide (((i:Nat):Int)<600) then (bif (aG ((aH q).1) mb1.lo mb1.hi).2 then (bif (((aG ((aH q).1) mb1.lo mb1.hi).1).1==0) then (bif (aL q mb1.hi).2 then (.inr (((aL q mb1.hi).1,(wl 0)))) else (.inl (i,mb1))) else (let r43:Iv:=(gA ((bM p x).1) mb1).1
  bif (gA ((bM p x).1) mb1).2 then ((j5 q p x k0 (i+1) r43)) else (.inl (i,r43)))) else (.inl (i,mb1))) else (.inl (i,mb1))
def dU (q:(List I)) (p:(List I)) (x:Iv):W×W :=
  bif (aU q) then (((wl 0),(wl 1))) else (bif (((bM p x).2).1 != 0) then (((wl 0),(bM p x).2)) else (bif ((((q).length:Nat):Int)==0) then (((wl 0),(wl 0))) else (bif (!((aH (aQ p q)).2)||(!(aH q).2)) then (((wl 0),(wl 30))) else (bif (aG ((aH (aQ p q)).1) x.lo x.hi).2 then (bif decide (0<((aG ((aH (aQ p q)).1) x.lo x.hi).1).1) then (((wl 0),(wl 0))) else (sm (fun (s:Nat×Iv)=>let i:Nat:=s.1
  let mb1:Iv:=s.2
  ((wl 0),(wl 30))) (fun r=>r) (j5 q p x ((600+1)) 0 x))) else (((wl 0),(wl 30)))))))
def cX (p:(List I)) (a:Rt) (b:Rt):(List Iv)×W :=
  bif ((aU p)||(((((p).length:Nat):Int)==0)||(!(iM a b)))) then ((([]:List Iv),(wl 1))) else (bif (aH p).2 then (bif (aW ((aH p).1) 601 a b 0 ((aH p).2) ([]:List Iv)).1 then (((aW ((aH p).1) 601 a b 0 ((aH p).2) ([]:List Iv)).2,(wl 0))) else ((([]:List Iv),(wl 30)))) else ((([]:List Iv),(wl 30))))
def kK (p:(List I)) (a:Rt) (b:Rt):List I→Bool→Bool
  | [],all=>all
  | x0 :: l0,all=>(kK p a b l0 (all&&decide (0≤(Z.signW x0.dec).1)))
def bO (p:(List I)) (a:Rt) (b:Rt):Bool×W :=
  bif ((aU p)||(!(iM a b))) then ((false,(wl 1))) else (bif ((((p).length:Nat):Int)==0) then ((true,(wl 0))) else (bif (!((aL p a).2)||(!(aL p b).2)) then ((false,(wl 30))) else (bif (decide (((aL p a).1).1<0)||decide (((aL p b).1).1<0)) then ((false,(wl 0))) else (bif (decide (a.n=b.n)&&decide (a.d=b.d)) then ((true,(wl 0))) else (bif (eC p a b).2 then (ap (fun (s:Bool)=>let all:Bool:=s
  bif all then ((true,(wl 0))) else (bif (aH p).2 then (bif (bC ((aH p).1) p 601 a b ((aL p a).1) ((aL p b).1) 0 true ((aH p).2)).2 then ((((bC ((aH p).1) p 601 a b ((aL p a).1) ((aL p b).1) 0 true ((aH p).2)).1),(wl 0))) else ((false,(wl 30)))) else ((false,(wl 30))))) (kK p a b (eC p a b).1 true)) else (bif (aH p).2 then (bif (bC ((aH p).1) p 601 a b ((aL p a).1) ((aL p b).1) 0 true ((aH p).2)).2 then ((((bC ((aH p).1) p 601 a b ((aL p a).1) ((aL p b).1) 0 true ((aH p).2)).1),(wl 0))) else ((false,(wl 30)))) else ((false,(wl 30)))))))))
def lV (p:(List I)) (a:Rt) (b:Rt) (k:Int):Nat→Nat→Iv→(Nat×Iv) ⊕ (Iv×Bool×W)
  | 0,i,mb14=>.inl (i,mb14)
  | k0+1,i,mb14=>bif decide (((i:Nat):Int)<k) then (bif ((aF mb14.lo mb14.hi).n).1.bad then (.inr (((⟨(⟨I0,I0⟩:Rt),(⟨I0,I0⟩:Rt)⟩:Iv),false,(wl 30)))) else (bif (((bO p mb14.lo (aF mb14.lo mb14.hi)).2).1 != 0) then (.inr (((⟨(⟨I0,I0⟩:Rt),(⟨I0,I0⟩:Rt)⟩:Iv),false,(bO p mb14.lo (aF mb14.lo mb14.hi)).2))) else (bif (bO p mb14.lo (aF mb14.lo mb14.hi)).1 then ((lV p a b k k0 (i+1) (⟨(aF mb14.lo mb14.hi),mb14.hi⟩:Iv))) else ((lV p a b k k0 (i+1) (⟨mb14.lo,(aF mb14.lo mb14.hi)⟩:Iv)))))) else (.inl (i,mb14))
def iB (p:(List I)) (a:Rt) (b:Rt) (k:Int):Iv×Bool×W :=
  bif (decide (k<0)||decide (64<k)) then (((⟨(⟨I0,I0⟩:Rt),(⟨I0,I0⟩:Rt)⟩:Iv),false,(wl 1))) else (bif ((((bO p a b).2).1 != 0)||(bO p a b).1) then (((⟨(⟨I0,I0⟩:Rt),(⟨I0,I0⟩:Rt)⟩:Iv),false,(bO p a b).2)) else (sm (fun (s:Nat×Iv)=>let i:Nat:=s.1
  let mb14:Iv:=s.2
  (mb14,true,(wl 0))) (fun r=>r) (lV p a b k ((k.toNat+1)) 0 (⟨a,b⟩:Iv))))
def iX :Bool :=
  let q0:(List I):=(e9 [(wl (-2)),(wl 0),(wl 1)])
  let q1:(List I):=(e9 [(wl 1),(wl (-2)),(wl 1)])
  let q2:Rt:=(gV (wl 0))
  let q3:Rt:=(gV (wl 1))
  let q4:Rt:=(gV (wl 2))
  let q5:Rt:=(gV (wl (-2)))
  let q6:W:=(bG q0 q5 q4).1
  let q7:W:=(bG q0 q5 q4).2
  let q8:W:=(bG q0 q2 q4).1
  let q9:W:=(bG q0 q2 q4).2
  let q10:W:=(bG q1 q2 q3).1
  let q11:W:=(bG q1 q2 q3).2
  let q12:W:=(bG q1 q3 q4).1
  let q13:W:=(bG q1 q3 q4).2
  let q14:(List Iv):=(cX q0 q5 q4).1
  let q15:W:=(cX q0 q5 q4).2
  let q16:Iv:=(j6 (wl 0) (wl 2))
  let q17:Iv:=(dG q0 q16 2).1
  let q18:W:=(dG q0 q16 2).2
  let q19:(List I):=(e9 [(wl (-1)),(wl 1)])
  let q20:W:=(dU q19 q0 q16).1
  let q21:W:=(dU q19 q0 q16).2
  let q22:(List I):=(e9 [(wl (-4)),(wl 0),(wl 0),(wl 0),(wl 1)])
  let q23:W:=(dU q22 q0 q16).1
  let q24:W:=(dU q22 q0 q16).2
  let q25:Iv:=(j6 (wl (-2)) (wl 0))
  let q26:Bool:=(fE q14 [q25,q16])
  let q27:Rt:=(fU (wl 3) (wl 2))
  let q28:Bool:=(bO q1 q2 q4).1
  let q29:W:=(bO q1 q2 q4).2
  let q30:(List I):=(e9 [(wl 0),(wl (-1)),(wl 1)])
  let q31:Bool:=(bO q30 q2 q3).1
  let q32:W:=(bO q30 q2 q3).2
  let q33:Bool:=(bO q30 q3 q4).1
  let q34:W:=(bO q30 q3 q4).2
  let q35:(List I):=(e9 [(wl 1),(wl (-2))])
  let q36:Iv:=(iB q35 q2 q3 2).1
  let q37:Bool:=(iB q35 q2 q3 2).2.1
  let q38:W:=(iB q35 q2 q3 2).2.2
  let q39:Rt:=(fU (wl 1) (wl 2))
  let q40:Rt:=(fU (wl 3) (wl 4))
  (((q6.1==2)&&((q8.1==1)&&((q10.1==1)&&((q12.1==0)&&((q7.1==0)&&((q9.1==0)&&((q11.1==0)&&(q13.1==0))))))))&&((q26&&((q15.1==0)&&((decide (q17.lo.n=q3.n)&&(decide (q17.lo.d=q3.d)&&(decide (q17.hi.n=q27.n)&&decide (q17.hi.d=q27.d))))&&((q18.1==0)&&((q20.1==1)&&((q21.1==0)&&((q23.1==0)&&(q24.1==0))))))))&&(q28&&(!q31&&(q33&&((q29.1==0)&&((q32.1==0)&&((q34.1==0)&&(q37&&((q38.1==0)&&(decide (q36.lo.n=q39.n)&&(decide (q36.lo.d=q39.d)&&(decide (q36.hi.n=q40.n)&&decide (q36.hi.d=q40.d))))))))))))))
end Go.Num
namespace Go.Kn
open Go Go.Num
section
variable {α:Type} {e:El α} {P:Program} {w0:World} {X:List Nat} {N:Nm} {S:Fr} {M M':List Blk} {d:Option Tmp} {ty:TypeId} {ps:String} {af:Array Edge} {gd:Option (Nat×Bool)} {E:TypeId}
def OwnN (w0:World) (E:TypeId) (e:El α):List Value→List (List α)→List Blk→Prop
  | [],[],L=>L=[]
  | v :: vs,l :: ls,L=>∃ L1 L2,L=L1 ++ L2∧OwnG w0 E e v l L1∧OwnN w0 E e vs ls L2
  | _,_,_=>False
def SloN (w1 w:World) (E:TypeId) (e:El α) (vs:List Value) (ls:List (List α)):Prop :=
  ∃ L,OwnN w1 E e vs ls L∧(L.map Blk.b).Nodup∧∀ x∈L,w.heap[x.b]? = some (.cells x.cs.toArray x.T (0,0))
theorem OwnG.ge {v:Value} {l:List α} {L:List Blk} (h:OwnG w0 E e v l L):∀ x∈L,w0.heap.size≤x.b:=by
  rcases h with ⟨_,_,rfl⟩ | ⟨g,cap,cur,_,rfl,hg,_⟩
  · intro x hx;cases hx
  intro x hx;obtain rfl:=List.mem_singleton.1 hx;exact hg
theorem OwnG.wid {w:World} {v:Value} {l:List α} {L:List Blk} (hs:w0.heap.size≤w.heap.size) (h:OwnG w E e v l L):OwnG w0 E e v l L:=by
  rcases h with h | ⟨g,cap,cur,h1,h2,hg,h3⟩
  · exact .inl h
  exact .inr ⟨g,cap,cur,h1,h2,Nat.le_trans hs hg,h3⟩
theorem OwnN.ge:∀ {vs:List Value} {ls:List (List α)} {L:List Blk},OwnN w0 E e vs ls L→∀ x∈L,w0.heap.size≤x.b
  | [],[],L,h,x,hx=>by rw [show L=[] from h] at hx;cases hx
  | v :: vs,l :: ls,L,⟨L1,L2,h,h1,h2⟩,x,hx=>by
    rw [h] at hx;rcases List.mem_append.1 hx with hx | hx
    · exact h1.ge x hx
    exact OwnN.ge h2 x hx
theorem OwnN.wid {w:World} (hs:w0.heap.size≤w.heap.size):∀ {vs:List Value} {ls:List (List α)} {L:List Blk},OwnN w E e vs ls L→OwnN w0 E e vs ls L
  | [],[],_,h=>h
  | v :: vs,l :: ls,L,⟨L1,L2,h,h1,h2⟩=>⟨L1,L2,h,h1.wid hs,OwnN.wid hs h2⟩
theorem SloN.now {w w':World} {vs:List Value} {ls:List (List α)} (h:SloN w w' E e vs ls) (hw:Sat w0 X M w) (he:Ext w w'):∃ L,Sat w0 X (L ++ M) w'∧OwnN w0 E e vs ls L:=by
  obtain ⟨L,h1,h2,h3⟩:=h;have hw':=Sat.mono _ _ _ _ _ hw he;refine ⟨L,⟨hw'.os,hw'.tape,hw'.output,hw'.size,hw'.old,?_,fun y hy=>?_⟩,h1.wid hw.size⟩
  · rw [List.map_append]
    refine List.nodup_append.2 ⟨h2,hw'.nodup,fun a ha b hb e=>?_⟩;subst e;obtain ⟨x,hx,e1⟩:=List.mem_map.1 ha;obtain ⟨y,hy,e2⟩:=List.mem_map.1 hb;have g1:=h1.ge x hx;have g2:=eJ? (hw.mem y hy);omega
  rcases List.mem_append.1 hy with hy | hy
  · exact h3 y hy
  exact hw'.mem y hy
end
open Go Go.Num
section
variable {P:Program} {w0:World} {X:List Nat} {N:Nm} {S:Fr} {M M':List Blk} {d:Option Tmp} {ty:TypeId} {ps:String} {af:Array Edge} {gd:Option (Nat×Bool)}
theorem vN {g:FuncId} {f:Operand} {xs:List Operand} {tys:Array TypeId} {args cap:List Value} {Q K:Value→List Blk→Prop} (he:lP P g=true) (hf:evO N S f=some (.func (.func g) #[] cap.toArray)) (ha:evL N S xs=some args)
    (h:∀ w,Sat w0 X M w→Calls P g (args ++ cap).toArray w fun e w'=>∃ v M',e = .returned v∧Sat w0 X M' w'∧KeepsOthers w w'∧Q v M') (k:∀ v M',Q v M'→K v M') :
    OpR P w0 X N ⟨d,.call { callee:=.value f,args:=xs.toArray,argTypes:=tys },ty,ps,af,gd⟩ S M K:=by
  intro w hw;unfold opw;rw [mQ,BK (first:=[]) (cap:=cap) (args:=args ++ cap) he (cK hf) (by simpa using u4 ha)];exact (h w hw).mono fun e w' ⟨v,M',h1,h2,h4,h3⟩=>⟨v,h1,h4,M',h2,k v M' h3⟩
theorem FO {n:Nat} {f:FuncId} {fn:Func} {c:Code} {args:List Value} {w:World} {Q:Value→List Blk→Prop} (hf:P.funcs[f]? = some fn) (hb:fn.body=some c) (hn:fn.ntmps=n) (hl:args.length≤n) (hw:Sat w0 X M w)
    (h:W P w0 X (pl n) c (oO P fn w0 X (pl n) fun v M'=>∃ M2 Z,M'.Perm (M2 ++ Z)∧Q v M2) (bS 0 args) M):Calls P f args.toArray w fun e w'=>∃ v M',e = .returned v∧Sat w0 X M' w'∧KeepsOthers w w'∧Q v M' :=
  (oK hf hb hn hl hw h).mono fun e w' ⟨v,M',h1,h2,h3,M2,Z,p,hq⟩=>⟨v,M2,h1,(h2.perm p).sub (List.sublist_append_left _ _),h3,hq⟩
theorem Frq.pc {x:Blk} {M1 R:List Blk} (f:Frq M [x] M1) (g:M1.Perm R):M.Perm (x :: R):=f.trans (List.Perm.cons x g)
theorem Frq.pa {L M1 R:List Blk} (f:Frq M L M1) (g:M1.Perm R):M.Perm (L ++ R):=f.trans (List.Perm.append_left L g)
theorem fy_ {M:List Blk}:Frq M [] M:=List.Perm.refl _
end
end Go.Kn
namespace Go.Num
open Go Go.Kn
end Go.Num
