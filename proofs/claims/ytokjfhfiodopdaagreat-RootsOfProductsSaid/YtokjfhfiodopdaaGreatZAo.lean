/- Lemmas: what they ask stands in their statements. -/
import Derived.Test.YtokjfhfiodopdaaGreatZSsb
set_option linter.unusedSimpArgs false
set_option linter.unusedVariables false
set_option maxHeartbeats 8000000
set_option maxRecDepth 20000
namespace Go.Num
open Go Go.Kn
open QP (sg sgs vr V sg_three ZK Dv Chain Sf)
def Ex (m:I) (v:Int):Prop:=∃ z,m=E z∧Zx z v
theorem ft_ {v:Int} {d q:Rat} (hd:0<d) (h:(v:Rat)=d*q):sg q=v.sign:=by
 rcases sg_three q with ⟨e,k⟩|⟨e,k⟩|⟨e,k⟩
 ·have h1:(0:Rat)<(v:Rat):=by rw [h];exact Rat.mul_pos hd k
  rw [e,Int.sign_eq_one_of_pos (Rat.intCast_pos.1 h1)]
 ·have h1:(0:Rat)<((-v:Int):Rat):=by
   have:=Rat.mul_pos hd (show (0:Rat) < -q by grind);rw [Rat.intCast_neg,h];grind
  have:=Rat.intCast_pos.1 h1;rw [e,Int.sign_eq_neg_one_of_neg oo_]
 have h1:(v:Rat)=((0:Int):Rat):=by rw [h,k,Rat.mul_zero];rfl
 rw [e,Rat.intCast_inj.1 h1];rfl
section
variable {p:List I} {c:Nat→Int} {x:Rt} {N D:Int}
theorem TG (h:Po p c) (hx:x.Is N D):∀ (f t:Nat) (i:Int) (m:I),t≤p.length→i=(p.length:Int) - 1 - t→p.length - t<f→Ex m (Go.Num.hv c N D p.length t) →
  Ex (fD p x f i m).2 (Go.Num.hv c N D p.length p.length)
 | 0,t,i,m,_,_,hf,_=>absurd hf (Nat.not_lt_zero _)
 | f+1,t,i,m,ht,hi,hf,hm=>by
  unfold fD
  by_cases h0:0≤i
  ·rw [decide_eq_true h0,cond_true]
   have hl:t<p.length:=by omega
   have e1:i.toNat=p.length - 1 - t:=by omega
   have e2:p.length - 1 - i.toNat=t:=by omega
   simp only;refine TG h hx f (t+1) _ _ oo_ oo_ oo_ ⟨_,rfl,?_⟩;obtain ⟨z,rfl,hz⟩:=hm;rw [e2,tU _ _ (show t<max (p.length:Int).toNat 1 by omega),hx.ed,e1,h.get,hx.en,cJ,cJ,cJ,cJ];have h1:Zx (pw (E (Z.of D)) t).dec (D ^ t):=dM_ (x:=E (Z.of D)) (.of D) t;exact (hz.mul (.of N)).add ((Zx.of _).mul h1)
  rw [decide_eq_false h0,cond_false]
  obtain rfl:t=p.length:=by omega
  exact hm
theorem bL_ (h:Po p c) (hx:x.Is N D):Ex (gE p x).1 (Go.Num.hv c N D p.length p.length):=by
 unfold gE;rw [h.nb,RM,mU,yR hx];exact TG h hx (p.length+1) 0 ((p.length:Int) - 1) I0 (Nat.zero_le _) oo_ oo_ ⟨Z.of 0,I0_E,.of 0⟩
theorem wE {q:Rat} (h:Po p c) (hx:x.At q) (hs:(aF p x).2=true):(aF p x).1.1=sg ((qp p).ev q):=by
 have ix:=At.is hx;obtain ⟨z,hz,hv⟩:=bL_ h ix;unfold aF at hs ⊢;rw [hz] at hs ⊢;rcases hv.cases with hb|⟨he,hB⟩
 ·have hs:(!(E z).1.bad)=true:=hs
  rw [hb] at hs;cases hs
 show (Z.signW (E z).dec).1=_
 rw [he,cJ,j7 hB];have hp:=@mY q;have hv:=PX (c:=c) (L:=p.length) (N:=q.num) (D:=(q.den:Int)) E3 hp;rw [oZ h h.ends,QP.ev_vl (n:=p.length) (fun i hi=>by rw [kU,h.zero hi];rfl)];exact (ft_ (d:=((q.den:Int):Rat) ^ (p.length - 1)) (by rw [← Rat.intCast_pow];exact Rat.intCast_pos.2 (Int.pow_pos hp)) hv).symm
end
theorem B5 {p:List I} {x:Rt} (hs:(aF p x).2=true):∃ q,x.At q:=by
 refine RU ?_
 cases hg:bG x
 ·exfalso
  unfold aF gE at hs;rw [RM,mU,hg,show (aS p || !false)=true by simp,cond_true] at hs;exact absurd hs (by decide +kernel)
 rfl
theorem MI (p:List I) (x:Rt):-1≤(aF p x).1.1∧(aF p x).1.1≤1:=sgW _
theorem RB (c:List (List I)) (x:Rt) {q:Rat} (hx:x.At q):∀ (l:List (List I)) (s n:W),(∀ f∈l,Gp f)→0≤n.1→n.1+l.length≤1000 →
  dU c x l s n = .inr (wl 0,false)∨((∀ f∈l,(aF f x).2=true)∧∃ s' n':W,dU c x l s n = .inl (s',n')∧n'.1=n.1+(vr s.1 (sgs (l.map qp) q):Nat))
 | [],s,n,_,_,_=>.inr ⟨fun f hf=>(by cases hf),s,n,rfl,(Int.add_zero _).symm⟩
 | f::l,s,n,hl,h0,h1=>by
  unfold dU
  cases hs:(aF f x).2
  ·exact .inl O
  rw [cond_true];obtain ⟨c0,hc⟩:=(hl f (List.mem_cons_self)).po;have hv:=wE hc hx hs;have hr:=MI f x;have hl':∀ g∈l,Gp g:=fun g hg=>hl g (List.mem_cons_of_mem _ hg);have e1:sgs ((f::l).map qp) q=sg ((qp f).ev q)::sgs (l.map qp) q:=rfl;rw [e1,← hv]
  have hln:((f::l).length:Int)=(l.length:Int)+1:=by simp
  have both:∀ {P:W→Prop},(∀ g∈l,(aF g x).2=true)→∀ g∈f::l,(aF g x).2=true:=fun h g hg=>by
   rcases List.mem_cons.1 hg with rfl|hg
   ·exact hs
   exact h g hg
  by_cases z0:(aF f x).1.1=0
  ·rw [show ((aF f x).1.1 != 0)=false by simp [z0],cond_false]
   rcases RB c x hx l s n hl' h0 oo_ with h|⟨ha,s',n',h,hn⟩
   ·exact .inl h
   refine .inr ⟨both (P:=fun _=>True) ha,s',n',h,?_⟩;rw [vr,if_pos z0];exact hn
  rw [show ((aF f x).1.1 != 0)=true by simp [z0],cond_true,show ((aF f x).1.1==(-2))=false by simp;omega,cond_false];rw [vr,if_neg z0]
  by_cases z1:s.1≠0∧(aF f x).1.1≠s.1
  ·rw [show ((s.1 != 0)&&((aF f x).1.1 != s.1))=true by simp [z1.1,z1.2],cond_true,if_pos z1]
   have en:(W.add n (wl 1)).1=n.1+1:=by
    show IntKind.i64.wrap (n.1+1)=n.1+1
    rw [wi oo_]
   rcases RB c x hx l (aF f x).1 (W.add n (wl 1)) hl' oo_ oo_ with h|⟨ha,s',n',h,hn⟩
   ·exact .inl h
   exact .inr ⟨both (P:=fun _=>True) ha,s',n',h,by omega⟩
  rw [show ((s.1 != 0)&&((aF f x).1.1 != s.1))=false by
   rcases Decidable.not_and_iff_or_not.1 z1 with k|k
   ·simp at k;simp [k]
   simp at k;simp [k],cond_false,if_neg z1]
  rcases RB c x hx l (aF f x).1 n hl' h0 oo_ with h|⟨ha,s',n',h,hn⟩
  ·exact .inl h
  exact .inr ⟨both (P:=fun _=>True) ha,s',n',h,by omega⟩
theorem H0 {L:List (List I)} {x:Rt} (hL:∀ f∈L,Gp f) (hl:L.length≤100) (h0:L≠[]) (hs:(bZ L x).2=true) :
  (∀ f∈L,(aF f x).2=true)∧∃ q,x.At q∧(bZ L x).1.1=(V (L.map qp) q:Nat):=by
 obtain ⟨f,l,rfl⟩:∃ f l,L=f::l:=by
  cases L with
  | nil=>exact absurd O h0
  | cons f l=>exact ⟨f,l,rfl⟩
 have hg:(aF f x).2=true:=by
  cases hs0:(aF f x).2
  ·unfold bZ dU at hs
   rw [hs0] at hs;cases hs
  rfl
 obtain ⟨q,hq⟩:=B5 hg;rcases RB (f::l) x hq (f::l) (wl 0) (wl 0) hL dd_ (by show (0:Int)+_≤_;omega) with h|⟨ha,s',n',h,hn⟩
 ·unfold bZ at hs
  rw [h] at hs;cases hs
 refine ⟨ha,q,hq,?_⟩;unfold bZ;rw [h]
 show n'.1=_
 rw [hn]
 show (0:Int)+_=_
 rw [Int.zero_add];rfl
theorem TJ:∀ (l:List Int) (s:Int),vr s l≤l.length
 | [],s=>Nat.le_refl _
 | x::l,s=>by
  have h1:=TJ l s;have h2:=TJ l x;rw [vr];simp only [List.length_cons]
  split
  ·omega
  split<;>omega
theorem VN (L:List QP) (q:Rat):V L q≤L.length:=by
 have:=TJ (sgs L q) 0;unfold sgs at this
 rwa [List.length_map] at this
theorem ZS (p:List I):∀ (k:Nat) (out:List (List I)) (next:List I) (s:List (List I)×List I),cT p k out next = .inl s→s.1.length≤out.length+k
 | 0,out,next,s,h=>by cases h;exact Nat.le_refl _
 | k+1,out,next,s,h=>by
  unfold cT at h
  cases h0:decide (0<(next.length:Int))
  ·rw [h0,cond_false] at h;cases h;exact Nat.le_add_right _ _
  rw [h0,cond_true] at h
  cases hb:aS (aC (bS (bD ((out++[next]).getD ((out++[next]).length - 2) []) ((out++[next]).getD ((out++[next]).length - 1) [])) (E (Z.of (-1)))))
  ·rw [hb,cond_false] at h
   have:=ZS p k _ _ s h;rw [List.length_append] at this;simp only [List.length_singleton] at this;omega
  rw [hb,cond_true] at h;cases h
theorem tL (p:List I):(aH p).1.length≤100:=by
 unfold aH;have hk:gmP (aC (aE (aV p)))+1≤51:=Nat.succ_le_succ (XK (cE (aE (aV p))));generalize gmP (aC (aE (aV p)))+1=K at hk ⊢
 cases h1:cT p K [aV p] (aC (aE (aV p))) with
 | inr r =>
  have h0:=GK p K [aV p] (aC (aE (aV p))) (PC (u4 p)) (cE _)
  show r.1.length≤100
  rw [h0.2 r h1];exact Nat.zero_le _
 | inl s =>
  have h2:=ZS p _ _ _ s h1
  show (sm (fun (_:Unit)=>(s.1,true)) (fun r=>r) (cY p s.1 s.2 s.1)).1.length≤100
  cases h3:cY p s.1 s.2 s.1 with
  | inr r =>
   show r.1.length≤100
   rw [GL _ _ _ _ r h3];exact Nat.zero_le _
  | inl u =>
   show s.1.length≤100
   simp only [List.length_singleton] at h2;omega
theorem St.ne {p:List I} {L:List (List I)} (h:St p L):L≠[]:=by
 obtain ⟨f,l,e,_⟩:=h.s;rw [e.1];exact List.cons_ne_nil _ _
structure Cx (L:List (List I)) (a b:Rt) (n:Int) (qa qb:Rat):Prop where
 a:a.At qa
 b:b.At qb
 n:n=(V (L.map qp) qa:Int) - (V (L.map qp) qb:Int)
theorem AS {p:List I} {L:List (List I)} {a b:Rt} (h:St p L) (hl:L.length≤100) (hs:(aG L a b).2=true):∃ qa qb,Cx L a b (aG L a b).1.1 qa qb:=by
 unfold aG at hs ⊢;have hs:=Bool.and_eq_true_iff.1 hs;obtain ⟨_,qa,ha,va⟩:=H0 h.g hl h.ne hs.1;obtain ⟨_,qb,hb,vb⟩:=H0 h.g hl h.ne hs.2;refine ⟨qa,qb,ha,hb,?_⟩
 show IntKind.i64.wrap ((bZ L a).1.1 - (bZ L b).1.1)=_
 have h1:=VN (L.map qp) qa;have h2:=VN (L.map qp) qb;rw [List.length_map] at h1 h2;rw [va,vb,wi oo_]
theorem St.anti {p:List I} {L:List (List I)} (h:St p L) {a b:Rat} (hl:a≤b):V (L.map qp) b≤V (L.map qp) a:=by
 obtain ⟨f,l,_,_,hs,_⟩:=h.s;exact hs.anti a b hl
theorem yK {p:List I} (hp:Rgt p) (hok:(aH p).2=true):p=[]∨St p (aH p).1:=by
 by_cases h0:p=[]
 ·exact .inl h0
 cases hg:p.all gdI
 ·exfalso
  have hb:=y8 hp hg;subst hb;rw [show aH badp=([],false) by kernel_rfl] at hok
  cases hok
 rcases bE_ ⟨hp,hg,h0⟩ with h|h
 ·rw [h] at hok;cases hok
 exact .inr h.2
open Go Go.Kn
open QP (V)
def nxt (out:List (List I)) (next:List I):List I:=aC (bS (bD ((out++[next]).getD ((out++[next]).length - 2) []) next) (E (Z.of (-1))))
theorem NU (p:List I) (out:List (List I)) (next:List I):∀ l:List (List I),(∀ x∈l,aS x=false)→cY p out next l = .inl ()
 | [],_=>rfl
 | x::l,h=>by
  unfold cY;rw [h x (List.mem_cons_self),cond_false]
  exact NU p out next l fun y hy=>h y (List.mem_cons_of_mem _ hy)
theorem VI {p:List I} (l1:p.length≤1000) (x:Rt):aF p x=((eA p x).s,(eA p x).ok):=by
 unfold aF eA;rw [TP x l1]
 cases hb:(dR p x).1.bad
 ·rfl
 have h0:Z.signW (dR p x).dec=wl 0:=W.ext (by
  show (dR p x).dec.sign=0
  have hn:(dR p x).dec.o=none:=by rw [I.dec,qE (by unfold R.good;rw [hb];rfl)];rfl
  unfold Z.sign;rw [hn])
 rw [h0];rfl
theorem V1:∀ n,bin n 0=1
 | 0=>rfl
 | n+1=>rfl
theorem JN:∀ {n i:Nat},n<i→bin n i=0
 | _,0,h=>absurd h (Nat.not_lt_zero _)
 | 0,i+1,_=>rfl
 | n+1,i+1,h=>by show bin n i+bin n (i+1)=0;rw [JN (show n<i by omega),JN (show n<i+1 by omega)]
theorem eO_ (i:Int):ff i 0=1:=rfl
theorem b2_ (i:Int):∀ k:Nat,ff (i+1) (k+1)=ff i (k+1)+((k+1:Nat):Int)*ff i k
 | 0=>by show ff (i+1) 0*(i+1 - ((0:Nat):Int))=ff i 0*(i - ((0:Nat):Int))+_;simp only [ff];omega
 | k+1=>by
  have h:=b2_ i k
  show ff (i+1) (k+1)*(i+1 - ((k+1:Nat):Int))=ff i (k+1)*(i - ((k+1:Nat):Int))+((k+1+1:Nat):Int)*ff i (k+1)
  rw [h];have e:ff i (k+1)=ff i k*(i - (k:Int)):=rfl;rw [e];have:((k+1:Nat):Int)=(k:Int)+1:=rfl;have:((k+1+1:Nat):Int)=(k:Int)+2:=rfl
  grind
theorem XB:∀ {i k:Nat},i<k→ff (i:Int) k=0
 | i,k+1,h=>by
  show ff (i:Int) k*((i:Int) - (k:Int))=0
  by_cases e:i=k
  ·subst e;rw [Int.sub_self,Int.mul_zero]
  rw [XB (show i<k by omega),Int.zero_mul]
theorem XA:∀ {n k:Nat},k≤n→ff (n:Int) k*fac (n - k)=fac n
 | n,0,_=>by rw [eO_,Int.one_mul];rfl
 | n,k+1,h=>by
  have h1:=XA (n:=n) (k:=k) oo_;rw [← h1,show n - k=n - (k+1)+1 by omega]
  show ff (n:Int) k*((n:Int) - (k:Int))*fac (n - (k+1))=ff (n:Int) k*(fac (n - (k+1))*((n - (k+1)+1:Nat):Int))
  rw [show ((n - (k+1)+1:Nat):Int)=(n:Int) - (k:Int) by omega]
  grind
def brw (f:Nat→Rat) (t:Rat) (n m:Nat):Rat:=fY (fun i=>f i*((bin n i:Nat):Rat)*(t ^ i*(1 - t) ^ (n - i))) m
theorem MS (f:Nat→Rat) (t:Rat) (n:Nat):∀ m,m≤n+1→brw f t (n+1) (m+1)=(1 - t)*brw f t n (m+1)+t*brw (fun i=>f (i+1)) t n m
 | 0,_=>by
  unfold brw;simp only [fY];rw [V1,V1,Nat.sub_zero,Nat.sub_zero,Rat.pow_succ];grind
 | m+1,h=>by
  have ih:=MS f t n m oo_;have e1:brw f t (n+1) (m+1+1)=brw f t (n+1) (m+1)+f (m+1)*((bin (n+1) (m+1):Nat):Rat)*(t ^ (m+1)*(1 - t) ^ (n+1 - (m+1))):=rfl;have e2:brw f t n (m+1+1)=brw f t n (m+1)+f (m+1)*((bin n (m+1):Nat):Rat)*(t ^ (m+1)*(1 - t) ^ (n - (m+1))):=rfl;have e3:brw (fun i=>f (i+1)) t n (m+1)=brw (fun i=>f (i+1)) t n m+f (m+1)*((bin n m:Nat):Rat)*(t ^ m*(1 - t) ^ (n - m)):=rfl;have e4:bin (n+1) (m+1)=bin n m+bin n (m+1):=rfl;rw [e1,e2,e3,ih,e4,Rat.natCast_add,show n+1 - (m+1)=n - m by omega,Rat.pow_succ]
  by_cases hm:m<n
  ·rw [show n - m=n - (m+1)+1 by omega,Rat.pow_succ (1 - t)];grind
  rw [JN (show n<m+1 by omega)];have:((0:Nat):Rat)=0:=rfl;rw [this];grind
theorem aF_ (f:Nat→Rat) (t:Rat) (n:Nat):brw f t n (n+2)=brw f t n (n+1):=by
 show brw f t n (n+1)+f (n+1)*((bin n (n+1):Nat):Rat)*_=_
 rw [JN (Nat.lt_succ_self n)];have:((0:Nat):Rat)=0:=rfl;rw [this];grind
theorem D0 (f g:Nat→Rat) (t:Rat) (n:Nat) (c:Rat):∀ m,brw (fun i=>f i+c*g i) t n m=brw f t n m+c*brw g t n m
 | 0=>by unfold brw;simp only [fY];grind
 | m+1=>by
  have ih:=D0 f g t n c m
  show brw (fun i=>f i+c*g i) t n m+(f m+c*g m)*((bin n m:Nat):Rat)*(t ^ m*(1 - t) ^ (n - m))=(brw f t n m+f m*((bin n m:Nat):Rat)*(t ^ m*(1 - t) ^ (n - m)))+c*(brw g t n m+g m*((bin n m:Nat):Rat)*(t ^ m*(1 - t) ^ (n - m)))
  rw [ih];grind
theorem AN {f g:Nat→Rat} (t:Rat) (n m:Nat) (h:∀ i,f i=g i):brw f t n m=brw g t n m:=by rw [show f=g from funext h]
theorem EW (t:Rat):∀ (n k:Nat),brw (fun i=>((ff (i:Int) k:Int):Rat)) t n (n+1)=((ff (n:Int) k:Int):Rat)*t ^ k
 | 0,k=>by
  unfold brw;simp only [fY];rw [V1]
  cases k with
  | zero=>simp [ff,Rat.pow_zero];grind
  | succ k =>
   rw [show ff ((0:Nat):Int) (k+1)=0 from XB (Nat.succ_pos k)];have:((0:Int):Rat)=0:=rfl;rw [this];grind
 | n+1,k=>by
  rw [MS _ t n (n+1) (Nat.le_refl _),aF_,EW t n k]
  cases k with
  | zero =>
   have h0:=EW t n 0;simp only [eO_,Rat.pow_zero] at h0 ⊢;rw [h0]
   grind
  | succ k =>
   have h1:∀ i:Nat,((ff ((i+1:Nat):Int) (k+1):Int):Rat)=((ff (i:Int) (k+1):Int):Rat)+(((k+1:Nat):Int):Rat)*((ff (i:Int) k:Int):Rat):=fun i=>by
    rw [show ((i+1:Nat):Int)=(i:Int)+1 from rfl,b2_,Rat.intCast_add,Rat.intCast_mul]
   rw [AN (g:=fun i=>((ff (i:Int) (k+1):Int):Rat)+(((k+1:Nat):Int):Rat)*((ff (i:Int) k:Int):Rat)) t n (n+1) h1,D0,EW t n (k+1),EW t n k,h1 n,Rat.pow_succ]
   grind
theorem HZ (f:Nat→Rat) (t c:Rat) (n:Nat) (m:Nat):brw (fun i=>f i*c) t n m=c*brw f t n m:=by
 have:=D0 (fun _=>0) f t n c m
 have e:∀ m,brw (fun _=>0) t n m=0:=fun m=>by
  induction m with
  | zero=>rfl
  | succ m ih=>show brw (fun _=>0) t n m+(0:Rat)*_*_=0;rw [ih];grind
 rw [e] at this;rw [AN (g:=fun i=>0+c*f i) t n m fun i=>by grind,this];grind
theorem RA (g:Nat→Nat→Rat) (t:Rat) (n m:Nat):∀ j,brw (fun i=>fY (fun k=>g i k) j) t n m=fY (fun k=>brw (fun i=>g i k) t n m) j
 | 0=>by
  show brw (fun _=>0) t n m=0
  have:=HZ (fun _=>0) t 0 n m;rw [AN (g:=fun _=>(0:Rat)*0) t n m fun i=>by grind,this];grind
 | j+1=>by
  show brw (fun i=>fY (fun k=>g i k) j+g i j) t n m=fY (fun k=>brw (fun i=>g i k) t n m) j+brw (fun i=>g i j) t n m
  rw [AN (g:=fun i=>fY (fun k=>g i k) j+1*g i j) t n m fun i=>by grind,D0,RA g t n m j];grind
theorem V0 (n:Nat) (γ:Nat→Int) (t:Rat):fY (fun i=>(bs γ n i:Rat)*((bin n i:Nat):Rat)*(t ^ i*(1 - t) ^ (n - i))) (n+1)=((fac n:Int):Rat)*fY (fun k=>(γ k:Rat)*t ^ k) (n+1):=by
 have e:∀ i,i<n+1→(bs γ n i:Rat)=fY (fun k=>((ff (i:Int) k:Int):Rat)*((fac (n - k)*γ k:Int):Rat)) (n+1):=fun i hi=>by
  unfold bs
  have a:=nY (f:=fun k=>((ff (i:Int) k:Int):Rat)*((fac (n - k)*γ k:Int):Rat)) (n:=i+1) (fun k hk=>by
   show ((ff (i:Int) k:Int):Rat)*_=0
   rw [XB (show i<k by omega)];exact Rat.zero_mul _) (n+1) oo_
  rw [a,GQ];refine gA fun k _=>?_
  show ((wt n i k*γ k:Int):Rat)=_
  unfold wt;rw [Int.mul_assoc,Rat.intCast_mul]
 have h1:fY (fun i=>(bs γ n i:Rat)*((bin n i:Nat):Rat)*(t ^ i*(1 - t) ^ (n - i))) (n+1)=brw (fun i=>fY (fun k=>((ff (i:Int) k:Int):Rat)*((fac (n - k)*γ k:Int):Rat)) (n+1)) t n (n+1):=gA fun i hi=>by rw [e i hi]
 rw [h1,RA,← rB];refine gA fun k hk=>?_;rw [HZ,EW,← XA (show k≤n by omega),Rat.intCast_mul,Rat.intCast_mul]
 grind
def w11 (n i:Nat):Bool:=decide (dW (n:Int) (i:Int)=(List.range (i+1)).map fun k=>E (Z.of (wt n i k)))
theorem G0 {n i:Nat} (hn:n≤11) (hi:i≤n):dW (n:Int) (i:Int)=(List.range (i+1)).map fun k=>E (Z.of (wt n i k)):=by
 have h:((List.range 12).all fun n=>(List.range (n+1)).all fun i=>w11 n i)=true:=by kernel_rfl
 have h1:=List.all_eq_true.1 h n (List.mem_range.2 oo_);exact of_decide_eq_true (List.all_eq_true.1 h1 i (List.mem_range.2 oo_))
theorem Zx.good {z:Z} {v:Int} (h:Zx z v) (g:z.o≠none):z=Z.of v∧cX v:=by
 rcases h with h|h
 ·exact absurd h g
 exact h
theorem bM_ {a b:Rt} {p q:Rat} (ha:a.At p) (hb:b.At q) (hg:bG (fH a b)=true):(fH a b).At (p+q):=by
 unfold fH at hg ⊢;rw [nE ha,nE hb] at hg ⊢;simp only [Bool.not_true,Bool.or_false,cond_false] at hg ⊢;have ia:=At.is ha;have ib:=At.is hb;rw [ia.en,ia.ed,ib.en,ib.ed] at hg ⊢;simp only [cJ] at hg ⊢;have hdp:=@mY p;have hdq:=@mY q
 have hg0:0<((Int.gcd (p.den:Int) (q.den:Int):Nat):Int):=by
  have:=Int.gcd_pos_of_ne_zero_right (p.den:Int) (show (q.den:Int)≠0 by omega);omega
 have hbg:=NG (u:=(p.den:Int)) ib.hd oo_;have g1:((Int.gcd (p.den:Int) (q.den:Int):Nat):Int) ∣ (p.den:Int):=Int.gcd_dvd_left ..;have g2:((Int.gcd (p.den:Int) (q.den:Int):Nat):Int) ∣ (q.den:Int):=Int.gcd_dvd_right ..;rw [zZ ia.hd ib.hd,wR ib.hd hbg hg0,wR ia.hd hbg hg0] at hg ⊢;generalize ((Int.gcd (p.den:Int) (q.den:Int):Nat):Int)=G at *;obtain ⟨x,hx⟩:=g1;obtain ⟨y,hy⟩:=g2
 have q1:(p.den:Int) / G=x:=by rw [hx];exact Int.mul_ediv_cancel_left _ oo_
 have q2:(q.den:Int) / G=y:=by rw [hy];exact Int.mul_ediv_cancel_left _ oo_
 rw [q1,q2] at hg ⊢
 have x0:0<x:=by rw [hx] at hdp;exact Int.pos_of_mul_pos_right hdp hg0
 have n1:Zx (Z.add (Z.mul (Z.of p.num) (Z.of y)) (Z.mul (Z.of q.num) (Z.of x))) (p.num*y+q.num*x):=Zx.add (Zx.mul (.of _) (.of _)) (Zx.mul (.of _) (.of _));have n2:Zx (Z.mul (Z.of x) (Z.of (q.den:Int))) (x*q.den):=Zx.mul (.of _) (.of _)
 have bd:bG gW=false:=by decide +kernel
 obtain ⟨e1,b1⟩:=n1.good fun h=>by
  rw [Z.eq_bad h,CI,bd] at hg;cases hg
 obtain ⟨e2,b2⟩:=n2.good fun h=>by
  rw [Z.eq_bad h,CJ,bd] at hg;cases hg
 rw [e1,e2];refine wC b1 b2 (Int.mul_pos x0 hdq) ?_
 have key:p+q=Rat.divInt (p.num*y+q.num*x) (x*q.den):=by
  conv=>lhs;rw [← Rat.num_divInt_den p,← Rat.num_divInt_den q,Rat.divInt_add_divInt _ _ oo_ oo_]
  refine (Rat.divInt_eq_divInt_iff (Int.mul_ne_zero oo_ oo_) (Int.mul_ne_zero oo_ oo_)).2 ?_;rw [hx,hy];grind
 have h3:=Rat.num_divInt_den (p+q);rw [key] at h3 ⊢;have h4:=(Rat.divInt_eq_divInt_iff (by have:=@mY (Rat.divInt (p.num*y+q.num*x) (x*q.den));omega) (Int.mul_ne_zero oo_ oo_)).1 h3;exact h4
theorem ew_ {a b:Rt} {p q:Rat} (ha:a.At p) (hb:b.At q) (hg:bG (jG a b)=true):(jG a b).At (p - q):=by
 unfold jG at hg ⊢;rw [Rat.sub_eq_add_neg];exact bM_ ha (cP_ hb) hg
theorem UL {p:List I} {c:Nat→Int} (h:Po p c):∃ g:Int,0<g∧∀ k,(c k).fdiv (cN p)*g=c k:=by
 by_cases h0:p=[]
 ·refine ⟨1,by decide,fun k=>?_⟩
  rw [h.zero (k:=k) (by rw [h0];exact Nat.zero_le k),Int.zero_fdiv];rfl
 exact ⟨(cN p:Nat),by have:=h.cpos h0;omega,fun k=>by rw [Int.mul_comm];exact vQ h k⟩
section
variable {p:List I} {c:Nat→Int} {a b:Rt} {qa qb qd:Rat}
theorem TN {d:Rt} (h:Po p c) (h7:p.length≤20) (ha:a.At qa) (hd:d.At qd) (hg:(eR p a d).all gdI=true):∃ (g W:Int) (γ:Nat→Int),0<g∧0<W∧Po (eR p a d) γ∧(∀ k,p.length≤k→γ k=0)∧∀ y:Rat,(g:Rat)*vl (cR γ) y 26=(W:Rat)*vl (cR c) (qa+qd*y) p.length:=by
 have ia:=At.is ha;have ib:=At.is hd
 have hS:Px (fA p a d) (sb c (qa.num*qd.den) (qd.num*qa.den) (qa.den*qd.den) p.length p.length):=by
  unfold fA;rw [h.nb,XG,mU,mU,nE ha,nE hd];exact S4 h h7 ia ib (p.length+1) 0 _ [] (Nat.zero_le _) oo_ oo_ (Nat.zero_le _) B4.px
 have hP:=hS.2 (tW hS.1 hg).1;obtain ⟨g,gp,hk⟩:=UL hP;have hWp:(0:Int)<qa.den*qd.den:=Int.mul_pos mY mY;refine ⟨g,_,_,gp,Int.pow_pos (m:=p.length - 1) hWp,tB hP,fun k hk=>by rw [d5_ _ _ _ _ _ _ k hk,Int.zero_fdiv],fun y=>?_⟩
 have hz:((qa.num*qd.den:Int):Rat)+((qd.num*qa.den:Int):Rat)*y=((qa.den*qd.den:Int):Rat)*(qa+qd*y):=by
  have k1:=@E3 qa;have k2:=@E3 qd;rw [Rat.intCast_mul,Rat.intCast_mul,Rat.intCast_mul,← k1,← k2];grind
 have e1:=d4_ (c:=c) (L:=p.length) hz hWp (fun t _ k hk=>d5_ c _ _ _ _ t k hk) oo_;rw [Rat.intCast_pow,← e1,← ei_]
 congr 1
 funext k
 show (g:Rat)*(((sb c _ _ _ _ _ k).fdiv _:Int):Rat)=((sb c _ _ _ _ _ k:Int):Rat)
 rw [← Rat.intCast_mul,Int.mul_comm,hk]
theorem VZ {n:Nat} {γ:Nat→Int} (hp:p.length=n+1) (hn:n≤11) (hC:Po (eR p a (gJ b a)) γ) (out:List I) {i:Nat} (hi:i≤n):∀ (f j:Nat) (z:Z),i+1 - j<f→j≤i+1→Zx z (fY (fun k=>wt n i k*γ k) j) →
  ∃ z',(iD p a b out i f j (E z)).2=E z'∧Zx z' (bs γ n i)
 | 0,j,z,h,_,_=>absurd h (Nat.not_lt_zero _)
 | f+1,j,z,h,hj,hz=>by
  unfold iD;rw [show (p.length:Int) - 1=(n:Int) by omega,G0 hn hi,List.length_map,List.length_range];rcases Nat.lt_or_eq_of_le hj with h1|h1
  ·rw [decide_eq_true oo_,cond_true]
   have e1:((List.range (i+1)).map fun k=>E (Z.of (wt n i k))).getD j I0=E (Z.of (wt n i j)):=by rw [GS,if_pos h1]
   simp only;rw [e1,B6,hC.get];simp only [cJ];exact VZ hp hn hC out hi f (j+1) _ oo_ h1 (Zx.add hz (Zx.mul (.of _) (.of _)))
  subst h1;rw [decide_eq_false oo_,cond_false];exact ⟨z,rfl,hz⟩
theorem VY {n:Nat} {γ:Nat→Int} (hp:p.length=n+1) (hn:n≤11) (hC:Po (eR p a (gJ b a)) γ):∀ (f i:Nat),n+1 - i<f→i≤n+1→(∀ j,j<i→cX (bs γ n j)) →
  (∃ r,gM p a b f ((List.range i).map fun i=>E (Z.of (bs γ n i))) i = .inr r∧r.2=false) ∨
  (gM p a b f ((List.range i).map fun i=>E (Z.of (bs γ n i))) i = .inl ((List.range (n+1)).map fun i=>E (Z.of (bs γ n i)),n+1)∧∀ j,j<n+1→cX (bs γ n j))
 | 0,i,h,_,_=>absurd h (Nat.not_lt_zero _)
 | f+1,i,h,hi,hb=>by
  unfold gM;rcases Nat.lt_or_eq_of_le hi with h1|h1
  ·rw [decide_eq_true oo_,cond_true,show (p.length:Int) - 1=(n:Int) by omega,G0 hn oo_,List.length_map,List.length_range]
   obtain ⟨z,e1,hz⟩:=VZ hp hn hC ((List.range i).map fun i=>E (Z.of (bs γ n i))) (show i≤n by omega) (i+1+1) 0 (Z.of 0) oo_ (Nat.zero_le _) (.of 0);rw [show E (Z.of 0)=I0 from I0_E.symm] at e1;simp only [ap];rw [e1]
   by_cases hn0:z.o=none
   ·rw [Z.eq_bad hn0]
    exact .inl ⟨_,rfl,rfl⟩
   obtain ⟨ez,bz⟩:=hz.good hn0;rw [ez,P5 bz,cond_false]
   have e2:((List.range i).map fun i=>E (Z.of (bs γ n i)))++[E (Z.of (bs γ n i))]=(List.range (i+1)).map fun i=>E (Z.of (bs γ n i)):=by rw [List.range_succ,List.map_append];rfl
   rw [e2];refine VY hp hn hC f (i+1) oo_ h1 fun j hj=>?_;rcases Nat.lt_or_eq_of_le (Nat.le_of_lt_succ hj) with k|k
   ·exact hb j k
   rw [k];exact bz
  subst h1;rw [decide_eq_false oo_,cond_false];exact .inr ⟨rfl,hb⟩
theorem cE_ {n:Nat} (h:Po p c) (hp:p.length=n+1) (hn:n≤11) (ha:a.At qa) (hb:b.At qb) (hg:(bK p a b).2=true) :
  ∃ (γ:Nat→Int) (g W G:Int) (l:Nat→Int),0<g∧0<W∧0<G∧(∀ k,n+1≤k→γ k=0)∧(∀ y:Rat,(g:Rat)*vl (cR γ) y 26=(W:Rat)*vl (cR c) (qa+(qb - qa)*y) p.length)∧(∀ i,i≤n→G*l i=bs γ n i)∧(∀ i,i≤n→cX (l i))∧(bK p a b).1=(List.range (n+1)).map (fun i=>E (Z.of (l i))):=by
 have hf:iV [a,b]=true:=by rw [XG,mU,mU,nE ha,nE hb];rfl
 have hc1:(eR p a (gJ b a)).length≤1000:=k25 (vN _ _ _)
 cases hc:(eR p a (gJ b a)).all gdI
 ·unfold bK at hg
  rw [h.nb,hf,kP hc1,hc] at hg
  cases hg
 have hsg:bG (jG b a)=true:=by
  cases hs:bG (jG b a)
  ·unfold eR fA at hc
   rw [h.nb,XG,mU,mU,nE ha,VM,hs] at hc;simp only [Bool.and_false,Bool.not_false,Bool.or_true,cond_true] at hc;rw [show (aC F_poly_bad).all gdI=false by decide +kernel] at hc
   cases hc
  rfl
 have hd:=ew_ hb ha hsg;rw [← VM] at hd;obtain ⟨g,W,γ,gp,Wp,hC,hz,hv⟩:=TN h oo_ ha hd hc;rcases VY hp hn hC (p.length+1) 0 oo_ (Nat.zero_le _) (fun j hj=>absurd hj (Nat.not_lt_zero _)) with ⟨r,e0,er⟩|⟨e0,hB⟩
 ·rw [show ((List.range 0).map fun i=>E (Z.of (bs γ n i)))=([]:List I) from rfl] at e0
  unfold bK at hg;rw [h.nb,hf,hC.nb,e0] at hg;simp only [sm,Bool.not_true,Bool.or_false,cond_false] at hg;rw [er] at hg;cases hg
 rw [show ((List.range 0).map fun i=>E (Z.of (bs γ n i)))=([]:List I) from rfl] at e0
 have hall:((List.range (n+1)).map fun i=>E (Z.of (bs γ n i))).all gdI=true:=by
  rw [List.all_eq_true];intro x hx;obtain ⟨i,hi,rfl⟩:=List.mem_map.1 hx;exact NK (hB i (List.mem_range.1 hi))
 obtain ⟨c1,c2⟩:=DA hall
 have cd:∀ i,i<n+1→((cN ((List.range (n+1)).map fun i=>E (Z.of (bs γ n i))):Nat):Int) ∣ bs γ n i:=fun i hi=>by
  have:=EX (l:=(List.range (n+1)).map fun i=>E (Z.of (bs γ n i))) (x:=E (Z.of (bs γ n i))) (List.mem_map.2 ⟨i,List.mem_range.2 hi,rfl⟩)
  rwa [aa_ (hB i hi)] at this
 have hnz:∀ k,n+1≤k→γ k=0:=fun k hk=>hz k oo_;unfold bK;rw [h.nb,hf,hC.nb,e0];simp only [sm,Bool.not_true,Bool.or_false,cond_false];rw [c1,cJ,j7 c2];generalize hout:((List.range (n+1)).map fun i=>E (Z.of (bs γ n i)))=out at *
 have hlen:out.length=n+1:=by rw [← hout,List.length_map,List.length_range]
 rcases Nat.eq_zero_or_pos (cN out) with h0|h0
 ·rw [h0]
  refine ⟨γ,g,W,1,bs γ n,gp,Wp,by decide,hnz,hv,fun i _=>Int.one_mul _,fun i hi=>hB i oo_,?_⟩;rw [show ((((0:Nat):Int).sign) != 0)=false from rfl,cond_false,hout]
 rw [Int.sign_eq_one_of_pos oo_,show ((1:Int) != 0)=true from rfl,cond_true];have hl:∀ k,k<n+1→((cN out:Nat):Int)*(bs γ n k / (cN out:Nat))=bs γ n k:=fun k hk=>Int.mul_ediv_cancel' (cd k hk);refine ⟨γ,g,W,(cN out:Nat),fun i=>bs γ n i / (cN out:Nat),gp,Wp,by omega,hnz,hv,fun i hi=>hl i oo_,fun i hi=>?_,?_⟩
 ·have h1:=hl i oo_
  refine Nat.lt_of_le_of_lt ?_ (hB i oo_);rw [← h1,Int.natAbs_mul];rw [Int.natAbs_natCast];exact Nat.le_mul_of_pos_left _ h0
 have e2:=bX_ (p:=p) (a:=a) (b:=b) out (n+1) (v:=bs γ n) (l:=fun i=>bs γ n i / (cN out:Nat)) oo_ c2 hB hl hlen c1 (out.length+1) 0 oo_ (Nat.zero_le _);rw [show ((List.range (n+1)).map fun i=>E (Z.of (if i<0 then bs γ n i / (cN out:Nat) else bs γ n i)))=out from by rw [← hout];exact List.map_congr_left fun i _=>by rw [if_neg (Nat.not_lt_zero _)]] at e2
 show (gN p a b out (n+1) (out.length+1) 0 out).2=_
 rw [e2]
end
theorem S5 {f:Nat→Rat}:∀ {n:Nat},(∀ i,i<n→0≤f i)→0≤fY f n
 | 0,_=>Rat.le_refl
 | n+1,h=>by
  have h1:=S5 (n:=n) fun i hi=>h i oo_;have h2:=h n oo_
  show 0≤fY f n+f n
  grind
theorem LE {x:Rat} (h:0≤x):∀ n:Nat,0≤x ^ n
 | 0=>by rw [Rat.pow_zero];decide +kernel
 | n+1=>by rw [Rat.pow_succ];exact Rat.mul_nonneg (LE h n) h
theorem NB:∀ n,0<fac n
 | 0=>by decide
 | n+1=>Int.mul_pos (NB n) oo_
theorem wO {a b:Rat} (ha:0<a) (h:0≤a*b):0≤b:=by
 refine Rat.not_lt.1 fun hb=>?_;have:=Rat.mul_pos ha (show 0 < -b by grind)
 grind
open Go Go.Kn
def aU (c:(List (List I))):Nat→Rt→Rt→Nat→Bool→(List Iv)→Bool×List Iv
 | 0,_,_,_,ok,out=>(ok,out)
 | n+1,a,b,k,ok,out=>bif (!(ok&&((aG c a b).2&&(decide ((k:Int)<600)&&(!a.n.1.bad&&(!b.n.1.bad)))))||(((aG c a b).1).1==0)) then ((ok&&((aG c a b).2&&(decide ((k:Int)<600)&&(!a.n.1.bad&&(!b.n.1.bad))))),out) else (bif (((aG c a b).1).1==1) then ((ok&&((aG c a b).2&&(decide ((k:Int)<600)&&(!a.n.1.bad&&(!b.n.1.bad))))),(out++[(⟨a,b⟩:Iv)])) else (((aU c n (aD a b) b (k+1) ((aU c n a (aD a b) (k+1) (ok&&((aG c a b).2&&(decide ((k:Int)<600)&&(!a.n.1.bad&&(!b.n.1.bad))))) out).1) ((aU c n a (aD a b) (k+1) (ok&&((aG c a b).2&&(decide ((k:Int)<600)&&(!a.n.1.bad&&(!b.n.1.bad))))) out).2)).1),(aU c n (aD a b) b (k+1) ((aU c n a (aD a b) (k+1) (ok&&((aG c a b).2&&(decide ((k:Int)<600)&&(!a.n.1.bad&&(!b.n.1.bad))))) out).1) ((aU c n a (aD a b) (k+1) (ok&&((aG c a b).2&&(decide ((k:Int)<600)&&(!a.n.1.bad&&(!b.n.1.bad))))) out).2)).2))
def aI (c:(List (List I))) (p:(List I)):Nat→Rt→Rt→W→W→Nat→Bool→Bool→Bool×Bool
 | 0,_,_,_,_,_,is,ok=>(is,ok)
 | n+1,a,b,left,right,k,is,ok=>bif (!is||(!ok)) then (is,ok) else (bif ((aG c a b).2&&((aF p (aD a b)).2&&decide ((k:Int)<600))) then (bif (right.1==0) then (bif decide (((aF p (aD a b)).1).1<0) then (false,((aG c a b).2&&((aF p (aD a b)).2&&decide ((k:Int)<600)))) else (bif (bif ((W.sub ((aG c a b).1) (wl 1)).1==0) then ((W.sub ((aG c a b).1) (wl 1)).1==0) else (((W.sub ((aG c a b).1) (wl 1)).1==1)&&(decide (0<left.1)&&decide (0<right.1)))) then (is,((aG c a b).2&&((aF p (aD a b)).2&&decide ((k:Int)<600)))) else (((aI c p n (aD a b) b ((aF p (aD a b)).1) right (k+1) ((aI c p n a (aD a b) left ((aF p (aD a b)).1) (k+1) is ((aG c a b).2&&((aF p (aD a b)).2&&decide ((k:Int)<600)))).1) ((aI c p n a (aD a b) left ((aF p (aD a b)).1) (k+1) is ((aG c a b).2&&((aF p (aD a b)).2&&decide ((k:Int)<600)))).2)).1),((aI c p n (aD a b) b ((aF p (aD a b)).1) right (k+1) ((aI c p n a (aD a b) left ((aF p (aD a b)).1) (k+1) is ((aG c a b).2&&((aF p (aD a b)).2&&decide ((k:Int)<600)))).1) ((aI c p n a (aD a b) left ((aF p (aD a b)).1) (k+1) is ((aG c a b).2&&((aF p (aD a b)).2&&decide ((k:Int)<600)))).2)).2)))) else (bif decide (((aF p (aD a b)).1).1<0) then (false,((aG c a b).2&&((aF p (aD a b)).2&&decide ((k:Int)<600)))) else (bif (bif (((aG c a b).1).1==0) then (((aG c a b).1).1==0) else ((((aG c a b).1).1==1)&&(decide (0<left.1)&&decide (0<right.1)))) then (is,((aG c a b).2&&((aF p (aD a b)).2&&decide ((k:Int)<600)))) else (((aI c p n (aD a b) b ((aF p (aD a b)).1) right (k+1) ((aI c p n a (aD a b) left ((aF p (aD a b)).1) (k+1) is ((aG c a b).2&&((aF p (aD a b)).2&&decide ((k:Int)<600)))).1) ((aI c p n a (aD a b) left ((aF p (aD a b)).1) (k+1) is ((aG c a b).2&&((aF p (aD a b)).2&&decide ((k:Int)<600)))).2)).1),((aI c p n (aD a b) b ((aF p (aD a b)).1) right (k+1) ((aI c p n a (aD a b) left ((aF p (aD a b)).1) (k+1) is ((aG c a b).2&&((aF p (aD a b)).2&&decide ((k:Int)<600)))).1) ((aI c p n a (aD a b) left ((aF p (aD a b)).1) (k+1) is ((aG c a b).2&&((aF p (aD a b)).2&&decide ((k:Int)<600)))).2)).2))))) else (is,((aG c a b).2&&((aF p (aD a b)).2&&decide ((k:Int)<600)))))
open QP (V)
theorem es_ {a b:Rt} {p q:Rat} (ha:a.At p) (hb:b.At q) (hg:bG (gK a b)=true):(gK a b).At (p*q):=by
 unfold gK at hg ⊢;rw [nE ha,nE hb] at hg ⊢;obtain ⟨x,y,r,s,e1,e2,b1,b2,b3,b4,h1,h2,hc,he⟩:=EO ha hb;simp only [Bool.not_true,Bool.or_false,cond_false,e1,e2,cJ] at hg ⊢;have hps:0<y*s:=Int.mul_pos h1 h2
 have hpq:p*q=Rat.divInt (x*r) (y*s):=by
  rw [← Rat.num_divInt_den p,← Rat.num_divInt_den q,Rat.divInt_mul_divInt];exact (Rat.divInt_eq_divInt_iff (by have:=@mY p;have:=@mY q;exact Int.mul_ne_zero oo_ oo_) oo_).2 (by rw [he])
 have hnum:(p*q).num=x*r:=by
  rw [hpq,Rat.num_divInt,Int.gcd_comm,hc,Int.sign_eq_one_of_pos hps];simp
 have hden:((p*q).den:Int)=y*s:=by
  rw [hpq,Rat.den_divInt,if_neg oo_,Int.gcd_comm,hc,Nat.div_one];omega
 have bd:bG gW=false:=by decide +kernel
 have n1:Zx (Z.mul (Z.of x) (Z.of r)) (x*r):=Zx.mul (.of _) (.of _);have n2:Zx (Z.mul (Z.of y) (Z.of s)) (y*s):=Zx.mul (.of _) (.of _)
 obtain ⟨e1,b1⟩:=n1.good fun h=>by
  rw [Z.eq_bad h,CI,bd] at hg;cases hg
 obtain ⟨e2,b2⟩:=n2.good fun h=>by
  rw [Z.eq_bad h,CJ,bd] at hg;cases hg
 rw [e1,e2];exact wC b1 b2 hps (by rw [hnum,hden])
theorem RW:(bB (wl 1) (wl 2)).At (1 / 2):=wC (n:=1) (d:=2) B1 dd_ dd_ (by decide +kernel)
theorem bQ_ {a b:Rt} {p q:Rat} (ha:a.At p) (hb:b.At q) (hg:bG (kA a b)=true):(kA a b).At ((p+q)*(1 / 2)):=by
 unfold kA at hg ⊢
 have hg':bG (fH a b)=true:=by
  cases h:bG (fH a b)
  ·exfalso
   simp only at hg;unfold gK at hg;rw [h] at hg;simp only [Bool.not_false,Bool.true_or,cond_true] at hg;exact absurd hg (by decide +kernel)
  rfl
 exact es_ (bM_ ha hb hg') RW hg
theorem WQ {p:List I} {L:List (List I)} {a b:Rt} (h:St p L) (hl:L.length≤100) (hs:(aG L a b).2=true):∃ qa qb,a.At qa∧b.At qb:=by
 obtain ⟨qa,qb,hc⟩:=AS h hl hs;exact ⟨qa,qb,hc.a,hc.b⟩
theorem YH {p q:Rat} (h:p≤q):p≤(p+q)*(1 / 2)∧(p+q)*(1 / 2)≤q:=by constructor<;>grind
theorem KH {p:List I} {L:List (List I)} (h:St p L) (hl:L.length≤100) {n:Nat} {a b:Rt} (hb:¬ ∃ qa qb,a.At qa∧b.At qb) (k:Nat) (ok:Bool) (out:List Iv):(aU L n a b k ok out).2=out:=by
 cases n with
 | zero=>rfl
 | succ n =>
  unfold aU
  have hs:(aG L a b).2=false:=by
   cases hs:(aG L a b).2
   ·rfl
   exact absurd (WQ h hl hs) hb
  rw [hs];simp only [Bool.false_and,Bool.and_false,Bool.not_false,Bool.true_or,cond_true]
theorem KI {p:List I} {L:List (List I)} (h:St p L) (hl:L.length≤100):∀ (n:Nat) (a b:Rt) (k:Nat) (ok:Bool) (out:List Iv) (qa qb:Rat),a.At qa→b.At qb →
  (aU L n a b k ok out).2.length≤out.length+(V (L.map qp) qa - V (L.map qp) qb)
 | 0,a,b,k,ok,out,qa,qb,ha,hb=>Nat.le_add_right _ _
 | n+1,a,b,k,ok,out,qa,qb,ha,hb=>by
  unfold aU
  cases ho:(ok&&((aG L a b).2&&(decide ((k:Int)<600)&&(!a.n.1.bad&&(!b.n.1.bad)))))
  ·simp only [Bool.not_false,Bool.true_or,cond_true];exact Nat.le_add_right _ _
  have hs:(aG L a b).2=true:=by
   simp only [Bool.and_eq_true] at ho;exact ho.2.1
  obtain ⟨qa',qb',hc⟩:=AS h hl hs;obtain rfl:=sH ha hc.a;obtain rfl:=sH hb hc.b;have hn:=hc.n;generalize (aG L a b).1.1=m at *;simp only [Bool.not_true,Bool.false_or]
  cases h0:(m==0)
  ·rw [cond_false]
   cases h1:(m==1)
   ·rw [cond_false]
    simp only
    by_cases hg:bG (kA a b)=true
    ·have hm:=bQ_ ha hb hg
     rw [← JD] at hm;have i1:=KI h hl n a (aD a b) (k+1) true out qa _ ha hm;have i2:=KI h hl n (aD a b) b (k+1) (aU L n a (aD a b) (k+1) true out).1 (aU L n a (aD a b) (k+1) true out).2 _ qb hm hb;rcases Rat.le_total (a:=qa) (b:=qb) with hab|hab
     ·have v1:=h.anti (YH hab).1
      have v2:=h.anti (YH hab).2;omega
     have v1:=h.anti (a:=(qa+qb)*(1 / 2)) (b:=qa) (by grind);have v2:=h.anti (a:=qb) (b:=(qa+qb)*(1 / 2)) (by grind);omega
    have hno:¬ ∃ q,(aD a b).At q:=fun ⟨q,hq⟩=>hg (by rw [← JD];exact nE hq);rw [KH h hl (fun ⟨u,v,hu,hv⟩=>hno ⟨u,hu⟩) (k+1) _ _,KH h hl (fun ⟨u,v,hu,hv⟩=>hno ⟨v,hv⟩) (k+1) _ _];exact Nat.le_add_right _ _
   rw [cond_true]
   have:m=1:=by simpa using h1
   simp only [List.length_append,List.length_singleton];omega
  rw [cond_true];exact Nat.le_add_right _ _
theorem V7 (x:Rt):(bZ [[]] x).1=wl 0:=by
 unfold bZ dU
 cases hs:(aF [] x).2
 ·rfl
 obtain ⟨q,hq⟩:=B5 hs;have:=wE B4 hq hs;rw [F6,QP.ev_C,QP.sg_zero] at this;rw [this];rfl
theorem aK_ (a b:Rt):(aG [[]] a b).1.1=0:=by
 unfold aG;rw [V7,V7];rfl
theorem XX (n:Nat) (a b:Rt) (k:Nat) (ok:Bool) (out:List Iv):(aU [[]] n a b k ok out).2=out:=by
 cases n with
 | zero=>rfl
 | succ n =>
  unfold aU;rw [aK_,show ((0:Int)==0)=true from rfl,Bool.or_true,cond_true]
theorem HM (p:List I) (a b:Rt) (hp:Rgt p∧p.length≤100) (hok:(aH p).2=true):(aU ((aH p).1) 601 a b 0 ((aH p).2) ([]:List Iv)).2.length≤5000:=by
 have hl:=tL p;rcases yK hp.1 hok with rfl|h
 ·rw [show aH []=([[]],true) by kernel_rfl]
  rw [XX];exact Nat.zero_le _
 by_cases hab:∃ qa qb,a.At qa∧b.At qb
 ·obtain ⟨qa,qb,ha,hb⟩:=hab
  have:=KI h hl 601 a b 0 (aH p).2 [] qa qb ha hb;have h2:=VN ((aH p).1.map qp) qa;rw [List.length_map] at h2;simp only [List.length_nil] at this;omega
 rw [KH h hl hab];exact Nat.zero_le _
def bW (p:(List I)) (x:Iv):(List (List I))×W :=
 bif (((bI p x.lo x.hi).2).1 != 0) then (([]:List (List I)),(bI p x.lo x.hi).2) else (bif (((bI p x.lo x.hi).1).1 != 1) then (([]:List (List I)),(wl 1)) else ((aH p).1,(wl 0)))
def gH (c:(List (List I))) (x:Iv):Iv×Bool :=
 bif (!((aG c x.lo (aD x.lo x.hi)).2)||((aD x.lo x.hi).n).1.bad) then (x,false) else (bif (((aG c x.lo (aD x.lo x.hi)).1).1==1) then ((⟨x.lo,(aD x.lo x.hi)⟩:Iv),true) else ((⟨(aD x.lo x.hi),x.hi⟩:Iv),true))
def kT (p:(List I)) (x:Iv) (k:Int):Nat→Nat→Iv→(Nat×Iv) ⊕ (Iv×W)
 | 0,i,mb1=>.inl (i,mb1)
 | k0+1,i,mb1=>bif decide ((i:Int)<k) then (let r21:Iv:=(gH ((bW p x).1) mb1).1
 bif (gH ((bW p x).1) mb1).2 then (kT p x k k0 (i+1) r21) else (.inr ((⟨(⟨I0,I0⟩:Rt),(⟨I0,I0⟩:Rt)⟩:Iv),(wl 30)))) else (.inl (i,mb1))
def gX (p:(List I)) (x:Iv) (k:Int):Iv×W :=
 bif (decide (k<0)||decide (64<k)) then ((⟨(⟨I0,I0⟩:Rt),(⟨I0,I0⟩:Rt)⟩:Iv),(wl 1)) else (bif (((bW p x).2).1 != 0) then ((⟨(⟨I0,I0⟩:Rt),(⟨I0,I0⟩:Rt)⟩:Iv),(bW p x).2) else (sm (fun (s:Nat×Iv)=>let i:Nat:=s.1
 let mb1:Iv:=s.2
 (mb1,(wl 0))) (fun r=>r) (kT p x k (k.toNat+1) 0 x)))
def lT (q:(List I)) (p:(List I)) (x:Iv):Nat→Nat→Iv→(Nat×Iv) ⊕ (W×W)
 | 0,i,mb1=>.inl (i,mb1)
 | k0+1,i,mb1=>bif decide ((i:Int)<600) then (bif (aG ((aH q).1) mb1.lo mb1.hi).2 then (bif (((aG ((aH q).1) mb1.lo mb1.hi).1).1==0) then (bif (aF q mb1.hi).2 then (.inr ((aF q mb1.hi).1,(wl 0))) else (.inl (i,mb1))) else (let r43:Iv:=(gH ((bW p x).1) mb1).1
 bif (gH ((bW p x).1) mb1).2 then (lT q p x k0 (i+1) r43) else (.inl (i,r43)))) else (.inl (i,mb1))) else (.inl (i,mb1))
def gF (q:(List I)) (p:(List I)) (x:Iv):W×W :=
 bif (aS q) then ((wl 0),(wl 1)) else (bif (((bW p x).2).1 != 0) then ((wl 0),(bW p x).2) else (bif ((q.length:Int)==0) then ((wl 0),(wl 0)) else (bif (!((aH (aL p q)).2)||(!(aH q).2)) then ((wl 0),(wl 30)) else (bif (aG ((aH (aL p q)).1) x.lo x.hi).2 then (bif decide (0<((aG ((aH (aL p q)).1) x.lo x.hi).1).1) then ((wl 0),(wl 0)) else (sm (fun (s:Nat×Iv)=>let i:Nat:=s.1
 let mb1:Iv:=s.2
 ((wl 0),(wl 30))) (fun r=>r) (lT q p x (600+1) 0 x))) else ((wl 0),(wl 30))))))
def iH (p:(List I)) (a:Rt) (b:Rt):(List Iv)×W :=
 bif ((aS p)||(((p.length:Int)==0)||(!(gG a b)))) then (([]:List Iv),(wl 1)) else (bif (aH p).2 then (bif (aU ((aH p).1) 601 a b 0 ((aH p).2) ([]:List Iv)).1 then ((aU ((aH p).1) 601 a b 0 ((aH p).2) ([]:List Iv)).2,(wl 0)) else (([]:List Iv),(wl 30))) else (([]:List Iv),(wl 30)))
def fF (p:(List I)) (a:Rt) (b:Rt):List I→Bool→Bool
 | [],all=>all
 | x0::l0,all=>(fF p a b l0 (all&&decide (0≤(Z.signW x0.dec).1)))
def aN (p:(List I)) (a:Rt) (b:Rt):Bool×W :=
 bif ((aS p)||(!(gG a b))) then (false,(wl 1)) else (bif ((p.length:Int)==0) then (true,(wl 0)) else (bif (!((aF p a).2)||(!(aF p b).2)) then (false,(wl 30)) else (bif (decide (((aF p a).1).1<0)||decide (((aF p b).1).1<0)) then (false,(wl 0)) else (bif (decide (a.n=b.n)&&decide (a.d=b.d)) then (true,(wl 0)) else (bif (bK p a b).2 then (ap (fun (s:Bool)=>let all:Bool:=s
 bif all then (true,(wl 0)) else (bif (aH p).2 then (bif (aI ((aH p).1) p 601 a b ((aF p a).1) ((aF p b).1) 0 true ((aH p).2)).2 then (((aI ((aH p).1) p 601 a b ((aF p a).1) ((aF p b).1) 0 true ((aH p).2)).1),(wl 0)) else (false,(wl 30))) else (false,(wl 30)))) (fF p a b (bK p a b).1 true)) else (bif (aH p).2 then (bif (aI ((aH p).1) p 601 a b ((aF p a).1) ((aF p b).1) 0 true ((aH p).2)).2 then (((aI ((aH p).1) p 601 a b ((aF p a).1) ((aF p b).1) 0 true ((aH p).2)).1),(wl 0)) else (false,(wl 30))) else (false,(wl 30))))))))
def j8 (p:(List I)) (a:Rt) (b:Rt) (k:Int):Nat→Nat→Iv→(Nat×Iv) ⊕ (Iv×Bool×W)
 | 0,i,mb14=>.inl (i,mb14)
 | k0+1,i,mb14=>bif decide ((i:Int)<k) then (bif ((aD mb14.lo mb14.hi).n).1.bad then (.inr ((⟨(⟨I0,I0⟩:Rt),(⟨I0,I0⟩:Rt)⟩:Iv),false,(wl 30))) else (bif (((aN p mb14.lo (aD mb14.lo mb14.hi)).2).1 != 0) then (.inr ((⟨(⟨I0,I0⟩:Rt),(⟨I0,I0⟩:Rt)⟩:Iv),false,(aN p mb14.lo (aD mb14.lo mb14.hi)).2)) else (bif (aN p mb14.lo (aD mb14.lo mb14.hi)).1 then (j8 p a b k k0 (i+1) (⟨(aD mb14.lo mb14.hi),mb14.hi⟩:Iv)) else (j8 p a b k k0 (i+1) (⟨mb14.lo,(aD mb14.lo mb14.hi)⟩:Iv))))) else (.inl (i,mb14))
def fU (p:(List I)) (a:Rt) (b:Rt) (k:Int):Iv×Bool×W :=
 bif (decide (k<0)||decide (64<k)) then ((⟨(⟨I0,I0⟩:Rt),(⟨I0,I0⟩:Rt)⟩:Iv),false,(wl 1)) else (bif ((((aN p a b).2).1 != 0)||(aN p a b).1) then ((⟨(⟨I0,I0⟩:Rt),(⟨I0,I0⟩:Rt)⟩:Iv),false,(aN p a b).2) else (sm (fun (s:Nat×Iv)=>let i:Nat:=s.1
 let mb14:Iv:=s.2
 (mb14,true,(wl 0))) (fun r=>r) (j8 p a b k (k.toNat+1) 0 (⟨a,b⟩:Iv))))
def fM :Bool :=
 let q0:(List I):=(aK [(wl (-2)),(wl 0),(wl 1)])
 let q1:(List I):=(aK [(wl 1),(wl (-2)),(wl 1)])
 let q2:Rt:=(fE (wl 0))
 let q3:Rt:=(fE (wl 1))
 let q4:Rt:=(fE (wl 2))
 let q5:Rt:=(fE (wl (-2)))
 let q6:W:=(bI q0 q5 q4).1
 let q7:W:=(bI q0 q5 q4).2
 let q8:W:=(bI q0 q2 q4).1
 let q9:W:=(bI q0 q2 q4).2
 let q10:W:=(bI q1 q2 q3).1
 let q11:W:=(bI q1 q2 q3).2
 let q12:W:=(bI q1 q3 q4).1
 let q13:W:=(bI q1 q3 q4).2
 let q14:(List Iv):=(iH q0 q5 q4).1
 let q15:W:=(iH q0 q5 q4).2
 let q16:Iv:=(iY (wl 0) (wl 2))
 let q17:Iv:=(gX q0 q16 2).1
 let q18:W:=(gX q0 q16 2).2
 let q19:(List I):=(aK [(wl (-1)),(wl 1)])
 let q20:W:=(gF q19 q0 q16).1
 let q21:W:=(gF q19 q0 q16).2
 let q22:(List I):=(aK [(wl (-4)),(wl 0),(wl 0),(wl 0),(wl 1)])
 let q23:W:=(gF q22 q0 q16).1
 let q24:W:=(gF q22 q0 q16).2
 let q25:Iv:=(iY (wl (-2)) (wl 0))
 let q26:Bool:=(iM q14 [q25,q16])
 let q27:Rt:=(bB (wl 3) (wl 2))
 let q28:Bool:=(aN q1 q2 q4).1
 let q29:W:=(aN q1 q2 q4).2
 let q30:(List I):=(aK [(wl 0),(wl (-1)),(wl 1)])
 let q31:Bool:=(aN q30 q2 q3).1
 let q32:W:=(aN q30 q2 q3).2
 let q33:Bool:=(aN q30 q3 q4).1
 let q34:W:=(aN q30 q3 q4).2
 let q35:(List I):=(aK [(wl 1),(wl (-2))])
 let q36:Iv:=(fU q35 q2 q3 2).1
 let q37:Bool:=(fU q35 q2 q3 2).2.1
 let q38:W:=(fU q35 q2 q3 2).2.2
 let q39:Rt:=(bB (wl 1) (wl 2))
 let q40:Rt:=(bB (wl 3) (wl 4))
 (((q6.1==2)&&((q8.1==1)&&((q10.1==1)&&((q12.1==0)&&((q7.1==0)&&((q9.1==0)&&((q11.1==0)&&(q13.1==0))))))))&&((q26&&((q15.1==0)&&((decide (q17.lo.n=q3.n)&&(decide (q17.lo.d=q3.d)&&(decide (q17.hi.n=q27.n)&&decide (q17.hi.d=q27.d))))&&((q18.1==0)&&((q20.1==1)&&((q21.1==0)&&((q23.1==0)&&(q24.1==0))))))))&&(q28&&(!q31&&(q33&&((q29.1==0)&&((q32.1==0)&&((q34.1==0)&&(q37&&((q38.1==0)&&(decide (q36.lo.n=q39.n)&&(decide (q36.lo.d=q39.d)&&(decide (q36.hi.n=q40.n)&&decide (q36.hi.d=q40.d))))))))))))))
def dL (l:(List Zero9)) (neg:Bool) (wide:Bool) (a:Int) (b:Int) (r13:Rt) (r15:Rt) (want:W) (n:W) (r13:Rt) (r15:Rt):Nat→W→Nat→W×Nat
 | 0,wn,k=>(wn,k)
 | k1+1,wn,k=>bif decide ((k:Int)<(l.length:Int)) then (bif ((W.cv ((l.getD k cO).n)).1==n.1) then ((W.add wn (wl 1)),k) else (dL l neg wide a b r13 r15 want n r13 r15 k1 wn (k+1))) else (wn,k)
def dK (l:(List Zero9)) (neg:Bool) (wide:Bool) (a:Int) (b:Int) (r13:Rt) (r15:Rt):Nat→W→W→W×W
 | 0,want,n=>(want,n)
 | k0+1,want,n=>bif decide (n.1≤(W.cv b).1) then (ap (fun (s:W×Nat)=>let wn:W:=s.1
 let k:Nat:=s.2
 (dK l neg wide a b r13 r15 k0 wn (W.add n (wl 1)))) (dL l neg wide a b r13 r15 want n r13 r15 (l.length+1) want 0)) else (want,n)
def dM (l:(List Zero9)) (neg:Bool) (wide:Bool) (a:Int) (b:Int) (r13:Rt) (r15:Rt) (want:W) (n:W) (r13:Rt) (r15:Rt):Nat→Bool→W→Bool×W
 | 0,never,m=>(never,m)
 | k2+1,never,m=>bif decide (m.1≤(W.mul (wl 2) (W.cv b)).1) then (dM l neg wide a b r13 r15 want n r13 r15 k2 (never&&decide (0≤((eA (aP l neg wide) (bB m (wl 16))).s).1)) (W.add m (wl 1))) else (never,m)
def eG (l:(List Zero9)) (neg:Bool) (wide:Bool) (a:Int) (b:Int):Bool :=
 bif (decide (3<(l.length:Int))||decide (b<a)) then fM else (let r13:Rt:=(bB (W.cv a) (wl 8))
 let r15:Rt:=(bB (W.cv b) (wl 8))
 ap (fun (s_:W×W)=>let want:W:=s_.1
 let n:W:=s_.2
 bif (((bI (aP l neg wide) r13 r15).2).1==30) then (fM&&(!(eC (aP l neg wide) r13 r15 (wl 0)))) else (bif ((((bI (aP l neg wide) r13 r15).1).1 != want.1)||(((bI (aP l neg wide) r13 r15).2).1 != 0)) then false else (ap (fun (s:Bool×W)=>let never:Bool:=s.1
 let m:W:=s.2
 bif (((aN (aP l neg wide) r13 r15).2).1==30) then (fM&&(!(eC (aP l neg wide) r13 r15 (wl 0)))) else (fM&&(((aN (aP l neg wide) r13 r15).1==never)&&(((aN (aP l neg wide) r13 r15).2).1==0)))) (dM l neg wide a b r13 r15 want n r13 r15 (800) true (W.mul (wl 2) (W.cv a)))))) (dK l neg wide a b r13 r15 (400) (wl 0) (W.add (W.cv a) (wl 1))))
end Go.Num
namespace Go.Proofs.YtokjfhfiodopdaaGreat
open Go.Kn Go.Num Tryz
attribute [local irreducible] Go.Kn.W WL PL OpQ OpR OpS
theorem fC (va:Value) (l:List Nat) (k:Nat) (w:World) (hva:Sl w va l) :
   Calls prog 138 [va,.int .i64 (k:Int)].toArray w (fun e w'=>e = .returned (.int .i64 ((l.getD k 0:Nat):Int))∧Ext w w'):=by
 refine cQ (N:=13) func138 O O zz_ ?_;obtain ⟨w0,rfl⟩:=nm w;refine giI ?_;refine go7 ?_;refine sQ (lW jQ O hva.old) O (go2 ?_);refine aQ _ O (fun hk=>?_) (fun hk=>?_)
 ·replace hk:=cB_ hk
  refine go3 ?_;refine sQ (wQ jQ O O hva.old oo_) O (sQ (tC tyT O hva.old oo_) O (go3 ?_));refine rt1 ?_;exact rfl
 replace hk:=cB_ hk
 refine go5 ?_;refine rt1 ?_;exact congrArg (fun n:Nat=>Value.int .i64 (n:Int)) (show 0=l.getD k 0 by simp [List.getD,List.getElem?_eq_none (show l.length≤k by omega)])
theorem iF (va:Value) (l:List Nat) (hD:DL l) (hn:l.length≤1000) (w:World) (hva:Sl w va l) :
    Calls prog 137 [va].toArray w (fun e w'=>e = .returned (sls va (dl (dv l)).length)∧Ext w w'):=by
 refine cQ (N:=21) func137 O O zz_ ?_;obtain ⟨w0,rfl⟩:=nm w;refine giI ?_;refine go5 ?_;refine sQ (lW jQ O hva.old) O (go4 ?_);refine bP (rg [3] 6 12) (fun g nn M=>∃ (k:Nat),(g 3 = .int .i64 (k:Int))∧M=[]∧nn=k+0∧(k≤l.length∧∀ j,k≤j→l.getD j 0=0)) (l.length) ?start ?round
 case start =>
  refine ⟨_,(List.Sublist.refl _),l.length,?a3,?mem0,rfl,⟨Nat.le_refl _,fun j hj=>by simp [List.getD,List.getElem?_eq_none (show l.length≤j by omega)]⟩⟩
  case mem0=>rfl
  case a3=>rfl
 case round =>
  rintro nn g M ⟨k,hg3,rfl,hmeas,⟨hk,hhi⟩⟩;subst nn;refine gS1 hg3 ?_;clear hg3;refine go5 ?_
  cases hz:decide ((0:Int)<(k:Int))
  ·refine KG ?_;refine sQ (Y6 jQ O O hva.old oo_) O (go3 ?_);refine rt1 ?_;rw [GV hD,LU hhi (.inl (by have:=of_decide_eq_false hz;omega))]
  have hz':=of_decide_eq_true hz;obtain ⟨m,rfl⟩:∃ m,k=m+1:=⟨k - 1,by omega⟩;refine go2 ?_;refine sQ (aW (mM O O) (congrArg (Value.int .i64) (vP oo_))) O (sQ (wQ jQ O O hva.old oo_) O (sQ (tC tyT O hva.old oo_) O (go3 ?_)));refine aQ _ O (fun h0=>?_) (fun h0=>?_)
  ·replace h0:=cB_ h0
   refine go4 ?_;refine sQ (aW (mM O O) (congrArg (Value.int .i64) (vP oo_))) O (go2 ?_);refine ⟨pp_,_,_,(List.Sublist.refl _),oo_,m,?s3,?mem,rfl,⟨by omega,fun j hj=>by rcases Nat.eq_or_lt_of_le hj with rfl|hj;omega;exact hhi j hj⟩⟩
   case mem=>rfl
   case s3=>rfl
  replace h0:=cB_ h0
  refine go4 ?_;refine sQ (Y6 jQ O O hva.old oo_) O (go3 ?_);refine rt1 ?_;rw [GV hD,LU hhi (.inr (by simp only [Nat.add_sub_cancel];omega))]
theorem cV (a:R) (ha:a.Ok) (w:World)  :
    Calls prog 84 [RV a].toArray w (fun e w'=>∃ v,e = .returned v∧Ext w w'∧Slf w.heap.size w' v (dl (val a.w))):=by
 refine sZ (N:=26) func84 O O zz_ ?_;obtain ⟨w0,rfl⟩:=nm w;refine giI ?_;refine go_ ?_;refine aZ O (i7 O O (fun b1 hb1=>o2 ?_));refine bP (rg [] 3 21) (fun g nn M=>∃ (k:Nat) (v:Value) (l:List Nat) (L:List Blk),(g 3=v∧g 4 = .int .i64 (k:Int))∧M=L++[⟨b1,27,a.cells⟩]∧nn=16 - k∧(k≤16∧OwnL w0 3 v l L∧DL l∧l.length=2*k∧dv l=val a.w % 4294967296 ^ k)) (16) ?start ?round
 case start =>
  refine ⟨_,(List.Sublist.refl _),0,_,[],[],⟨?a3,?a4⟩,?mem0,rfl,⟨Nat.zero_le _,.nil,DL.nil,rfl,by simp [dv,Nat.mod_one]⟩⟩
  case mem0=>rfl
  case a3=>rfl
  case a4=>rfl
 case round =>
  rintro nn g M ⟨k,v,l,L,⟨hg3,hg4⟩,rfl,hmeas,⟨hk,hO,hD,hlen,hdv⟩⟩;subst nn;refine gS2 hg3 hg4 ?_;clear hg3 hg4;refine go5 ?_;refine aQ _ O (fun hc=>?_) (fun hc=>?_)
  ·replace hc:=cB_ hc
   have hc:k<16:=by omega
   refine go3 ?_;refine qH sn 16 [13,14] [14] (go2 ?_);refine pQ O (bV fdT dd_ O) (pQ O (eJ arT O O oo_ oo_) (pQ O (dD tyT O mm_ (l6 (r:=a) (k:=k) (by rw [ha.len];omega))) ?_));refine pQ O (pT O O dd_) (pQ O (aW (dA fX sL O) (fo_ (dN ha.lim k))) (go_ ?_));refine pQ O (bV fdT dd_ O) (pQ O (eJ arT O O oo_ oo_) (pQ O (dD tyT O mm_ (l6 (r:=a) (k:=k) (by rw [ha.len];omega))) ?_));refine pQ O (qR O O dd_) (pQ O (aW (dA fX sL O) (fl_ (dN ha.lim k))) ?_);refine fP O O (iS lJ z_3 sF O dd_ O (dj_ _ _) (fun b22 hb22=>⟨(fun _=>by first|exact sd s0|exact s0),ss_,?_⟩));refine fP O O (yC lJ QB O O hO (SL.mine (l:=[a.w.getD k 0 % 65536,a.w.getD k 0 / 65536]) (.head _) (Nat.le_refl _)) (List.sublist_cons_self _ _) (by simp;omega) (fun v' L' hO'=>⟨nf,ss_,?_⟩));refine go4 ?_;refine sQ (aW (hZ O O) (congrArg (Value.int .i64) (i4 oo_))) O (go2 ?_);refine ⟨pp_,_,_,(List.Sublist.refl _),oo_,k+1,_,_,_,⟨?s3,?s4⟩,?mem,rfl,⟨by omega,hO',hD.append (DL.two (dN ha.lim k)),by simp [hlen];omega,M4 ha.lim hlen hdv⟩⟩
   case mem=>rfl
   case s3=>rfl
   case s4=>rfl
  replace hc:=cB_ hc
  obtain rfl:k=16:=by omega
  refine go3 ?_;refine sQ (eH aM O (fun w hw=>iF v l hD oo_ w (SL.sl (hO.sl lZ) hw))) O (go3 ?_);refine rt1 ?_;exact tN hD (by rw [hdv,PO ha]) (hO.slf lZ)
theorem dV  :
  Ret prog 125 [] (RV Z.bad.enc):=by
 refine bU (N:=2) func125 O O zz_ (fun w0=>?_);refine giI ?_;refine go_ ?_;refine aZ O (eB kF (fun b0 hb0=>go2 ?_));refine sQ (tY kF plT O (.cons O (vs:=[.bool true]) O O (by simp [zR]) (z':=Z.bad.enc.cells) O (.nil _))) O ?_;refine aZ O (bN tyT O O uu_ O O (bJ Z.bad.enc) (.inl e6) ?_);refine go2 ?_;refine rtX O ⟨_,_,_,_,_,_,rfl,mm_,tyT,_,(dO O),rfl,rfl⟩ ?_;exact rfl
theorem pW (r:R) (h:r.Ok) :
    Ret prog 122 [RV r] (.bool r.valid):=by
 refine bU (N:=32) func122 O O zz_ (fun w0=>?_);refine giI ?_;refine go_ ?_;refine aZ O (i7 O O (fun b1 hb1=>o2 ?_));refine bP (rg [] 3 14) (fun g nn M=>∃ (k:Nat) (z:Bool),(g 3 = .bool z∧g 4 = .int .i64 (k:Int))∧M=[⟨b1,27,r.cells⟩]∧nn=16 - k∧(k≤16∧(z=true ↔ ∀ j,j<k→r.w.getD j 0=0))) (16) ?start ?round
 case start =>
  refine ⟨_,(List.Sublist.refl _),0,true,⟨?a3,?a4⟩,?mem0,rfl,⟨Nat.zero_le _,⟨fun _ j hj=>by omega,fun _=>rfl⟩⟩⟩
  case mem0=>rfl
  case a3=>rfl
  case a4=>rfl
 case round =>
  rintro nn g M ⟨k,z,⟨hg3,hg4⟩,rfl,hmeas,⟨hk,hz⟩⟩;subst nn;refine gS2 hg3 hg4 ?_;clear hg3 hg4;refine go5 ?_;refine aQ _ O (fun hc=>?_) (fun hc=>?_)
  ·replace hc:=cB_ hc
   have hc:k<16:=by omega
   refine go6 ?_
   cases z
   ·refine o2 ?_;refine sQ (aW (hZ O O) (congrArg (Value.int .i64) (i4 oo_))) O (go2 ?_);refine ⟨pp_,_,_,(List.Sublist.refl _),oo_,k+1,?zz_1,⟨?s3,?s4⟩,?mem,rfl,⟨by omega,?inv_1⟩⟩
    case mem=>rfl
    case s3=>rfl
    case s4=>rfl
    first|exact O6 hz|exact TK hz
   refine go_ ?_;refine sQ (bV fdT dd_ O) O (sQ (eJ arT O O oo_ oo_) O (sQ (dD tyT O mm_ (l6 (r:=r) (k:=k) (by rw [h.len];omega))) O ?_));refine go6 ?_;refine sQ (aW (hZ O O) (congrArg (Value.int .i64) (i4 oo_))) O (go2 ?_);refine ⟨pp_,_,_,(List.Sublist.refl _),oo_,k+1,?zz_2,⟨?s3,?s4⟩,?mem,rfl,⟨by omega,?inv_2⟩⟩
   case mem=>rfl
   case s3=>rfl
   case s4=>rfl
   first|exact O6 hz|exact TK hz
  replace hc:=cB_ hc
  obtain rfl:k=16:=by omega
  obtain rfl:z=r.zero:=bK_ h hz;refine go3 ?_;refine sQ (bV fdT dd_ O) O (sQ (dD tyT O mm_ O) O ?_);refine go_ ?_;refine aQ _ O (fun hb=>?_) (fun hb=>?_)
  ·replace hb:=cB_ hb
   refine go3 ?_
   cases hz0:r.zero
   ·refine go7 ?_;refine rt1 ?_
    simp [R.valid, *]
   refine sQ (bV fdT dd_ O) O (sQ (dD tyT O mm_ O) O ?_);refine go5 ?_;refine rt1 ?_
   simp [R.valid, *]
  replace hb:=cB_ hb
  refine go5 ?_
  cases hz0:r.zero
  ·refine go7 ?_;refine rt1 ?_
   simp [R.valid, *]
  refine sQ (bV fdT dd_ O) O (sQ (dD tyT O mm_ O) O ?_);refine go5 ?_;refine rt1 ?_
  simp [R.valid, *]
theorem cI (r:R) (h:r.Ok) :
   Ret prog 83 [RV r] (.bool r.good):=by
 refine bU (N:=12) func83 O O zz_ (fun w0=>?_);refine giI ?_;refine go_ ?_;refine aZ O (i7 O O (fun b1 hb1=>go3 ?_));refine sQ (cC tyT O mm_ (cU h)) O ?_;refine sQ (bR aM (pW r h) O) O (go5 ?_)
 cases hv:r.valid
 ·refine go7 ?_;refine rt1 ?_
  simp [R.good, *]
 refine sQ (bV fdT dd_ O) O (sQ (dD tyT O mm_ O) O ?_);refine go5 ?_;refine rt1 ?_
 simp [R.good, *]
theorem dS (neg:Bool) (va:Value) (l:List Nat) (hD:DL l) (hn:l.length≤1000) (w:World) (hva:Sl w va l) :
    Calls prog 130 [.bool neg,va].toArray w (fun e w'=>e = .returned (RV (Z.of (sgn neg (dv l))).enc)∧Ext w w'):=by
 refine cQ (N:=62) func130 O O zz_ ?_;obtain ⟨w0,rfl⟩:=nm w;refine giI ?_;have hu0:∀ M,SL w0 [] M (sls va (dl (dv l)).length) (dl (dv l)):=fun M=>Z2 hD hva.old;refine go_ ?_;refine aZ O (eB kF (fun b4 hb4=>go3 ?_));refine sQ (eH aM O (fun w hw=>iF va l hD hn w (SL.sl (M:=_) hva.old hw))) O (go5 ?_);refine sQ (lW jQ O (hu0 _)) O (go2 ?_);refine aQ _ O (fun hbig=>?_) (fun hbig=>?_)
 ·replace hbig:=cB_ hbig
  refine go_ ?_;refine sQ (bR aM dV O) O (aZ O (bN tyT O O uu_ (aJ _) O (bJ _) (.inl e6) ?_));refine go2 ?_;refine rtX O ⟨_,_,_,_,_,_,rfl,mm_,tyT,_,(dO (aJ _)),(aJ _),rfl⟩ ?_;exact P8 oo_
 replace hbig:=cB_ hbig
 have hlen:(dl (dv l)).length≤32:=by omega
 refine go_ ?_;refine sI (rg [6] 14 7) (fun g M=>∃ (b6:Nat),(g 6 = .pointer (some ⟨b6,0,none⟩))∧M=⟨b6,27,R.cells (R.mk false (neg&&decide ((0:Int)<((dl (dv l)).length:Int))) (List.replicate 16 0))⟩::[⟨b4,27,zR⟩]∧(w0.heap.size≤b6)) (fun K6 J6=>?_) ?_
 ·refine go3 ?_
  cases neg
  ·refine go4 ?_;refine sQ (tY kF plT O (XE _)) O (aZ O (eB kF (fun b6 hb6=>aZ O (bN tyT O O uu_ (by simp [R.cells,fW]) O (bJ _) (.inl e6) ?_))));refine go_ ?_;refine J6 _ _ pp_ ⟨_,(List.Sublist.refl _),_,?s6,?mem,hb6⟩
   case mem=>rfl
   case s6=>rfl
  refine go_ ?_;refine sQ (lW jQ O (hu0 _)) O (go2 ?_);refine sQ (tY kF plT O (XE _)) O (aZ O (eB kF (fun b6 hb6=>aZ O (bN tyT O O uu_ (by simp [R.cells,fW]) O (bJ _) (.inl e6) ?_))));refine go_ ?_;refine J6 _ _ pp_ ⟨_,(List.Sublist.refl _),_,?s6,?mem,hb6⟩
  case mem=>rfl
  case s6=>rfl
 rintro g M ⟨b6,hg6,rfl,hb6⟩;refine gS1 hg6 ?_;clear hg6;refine go5 ?_;refine bP (rg [7] 21 40) (fun g nn M=>∃ (k:Nat) (ws:List Nat),(g 7 = .int .i64 (k:Int))∧M=⟨b6,27,R.cells (R.mk false (neg&&decide ((0:Int)<((dl (dv l)).length:Int))) ws)⟩::[⟨b4,27,zR⟩]∧nn=(dl (dv l)).length - k∧(k≤(dl (dv l)).length∧NumIn (dv l) k ws)) ((dl (dv l)).length - 0) ?start ?round
 case start =>
  refine ⟨_,(List.Sublist.refl _),0,_,?a7,?mem0,rfl,⟨Nat.zero_le _,NumIn.start _⟩⟩
  case mem0=>rfl
  case a7=>rfl
 case round =>
  rintro nn g M ⟨k,ws,hg7,rfl,hmeas,⟨hk,hI⟩⟩;subst nn;refine gS1 hg7 ?_;clear hg7;refine go4 ?_;refine sQ (lW jQ O (hu0 _)) O (go2 ?_);refine aQ _ O (fun hc=>?_) (fun hc=>?_)
  ·replace hc:=cB_ hc
   have hk32:k<32:=by omega
   refine go5 ?_;refine sQ (aW (pT O O dd_) (congrArg (Value.int .i64) (gr_ k))) O (go2 ?_);refine aQ _ O (fun hpar=>?_) (fun hpar=>?_)
   ·replace hpar:=cB_ hpar
    have hpar:k % 2=0:=by omega
    have hz:=(hI.even hpar hk32).2;refine qH (sd (sk s0)) 16 [15] [15] (go_ ?_);refine pQ O (aW (qR O O dd_) (congrArg (Value.int .i64) (bq_ k oo_))) (go_ ?_);refine pQ O (aW (qR O O dd_) (congrArg (Value.int .i64) (bq_ k oo_))) (pQ O (bV fdT dd_ O) (pQ O (eJ arT O O oo_ oo_) (pQ O (dD tyT O mm_ (l6 (r:=R.mk false (neg&&decide ((0:Int)<((dl (dv l)).length:Int))) ws) (k:=k / 2) (by simp only [hI.len];omega))) ?_)));refine go2 ?_;refine pQ O (wQ jQ O O (hu0 _) oo_) (pQ O (tC tyT O (hu0 _) oo_) (pQ O (dA sL fX O) (pQ O (aW (hZ O O) (show _=U32 (dg (dv l) k) by rw [(hI.even hpar hk32).1,yV];exact VS (mD _ _))) (pQ O (bV fdT dd_ O) (pQ O (eJ arT O O oo_ oo_) ?_)))));refine fP O O (OG (k:=k / 2) tyT O O uu_ (by rw [hI.len];omega) (.inl e6) ⟨nf,ss_,?_⟩);refine go3 ?_;refine sQ (aW (hZ O O) (congrArg (Value.int .i64) (i4 oo_))) O (go2 ?_);refine ⟨pp_,_,_,(List.Sublist.refl _),oo_,k+1,_,?s7,?mem,rfl,⟨by omega,hz⟩⟩
    case mem=>rfl
    case s7=>rfl
   replace hpar:=cB_ hpar
   have hpar:¬ k % 2=0:=by omega
   have hz:=(hI.odd hpar hk32).2;refine gdr (sd (sk s0)) [0,4,8,12,16,20,24,28,32,36,40,44,48,52,56,60,65] [16] mix (by kernel_rfl) (go_ ?_);refine pQ O (aW (qR O O dd_) (congrArg (Value.int .i64) (bq_ k oo_))) (go_ ?_);refine pQ O (aW (qR O O dd_) (congrArg (Value.int .i64) (bq_ k oo_))) (pQ O (bV fdT dd_ O) (pQ O (eJ arT O O oo_ oo_) (pQ O (dD tyT O mm_ (l6 (r:=R.mk false (neg&&decide ((0:Int)<((dl (dv l)).length:Int))) ws) (k:=k / 2) (by simp only [hI.len];omega))) ?_)));refine go2 ?_;refine pQ O (wQ jQ O O (hu0 _) oo_) (pQ O (tC tyT O (hu0 _) oo_) (pQ O (dA sL fX O) (go_ ?_)));refine pQ O (aW (hZ O O) (show _=U32 (ws.getD (k / 2) 0+dg (dv l) k*65536) by rw [yV];exact ax_ (hI.odd hpar hk32).1 (mD _ _))) (pQ O (bV fdT dd_ O) (pQ O (eJ arT O O oo_ oo_) ?_));refine fP O O (OG (k:=k / 2) tyT O O uu_ (by rw [hI.len];omega) (.inl e6) ⟨nf,ss_,?_⟩);refine go3 ?_;refine sQ (aW (hZ O O) (congrArg (Value.int .i64) (i4 oo_))) O (go2 ?_);refine ⟨pp_,_,_,(List.Sublist.refl _),oo_,k+1,_,?s7,?mem,rfl,⟨by omega,hz⟩⟩
   case mem=>rfl
   case s7=>rfl
  replace hc:=cB_ hc
  obtain rfl:k=(dl (dv l)).length:=by omega
  refine go2 ?_;refine sQ (cC tyT O mm_ (by simp [R.cells,fW,hI.len])) O ?_;refine aZ O (bN tyT O O uu_ (by simp [R.cells,fW,hI.len]) O (bJ _) (.inl e6) ?_);refine go2 ?_;refine rtX O ⟨_,_,_,_,_,_,rfl,mm_,tyT,_,(dO (by simp [R.cells,fW,hI.len])),(by simp [R.cells,fW,hI.len]),rfl⟩ ?_;exact P9 hI
end Go.Proofs.YtokjfhfiodopdaaGreat
