/- Lemmas: what they ask stands in their statements. -/
import Derived.Test.YtokjfhfiodopdaaGreatJPV
set_option linter.unusedSimpArgs false
set_option linter.unusedVariables false
namespace Go.Num
structure QP where
 c:Nat→Rat
 fs:∃ n,∀ i,n≤i→c i=0
namespace QP
theorem ex {a b:QP} (h:∀ k,a.c k=b.c k):a=b:=by
 obtain ⟨c,_⟩:=a;obtain ⟨d,_⟩:=b;have e:c=d:=funext h;subst e;rfl
instance:Add QP:=⟨fun a b=>⟨fun k=>a.c k+b.c k,by
 obtain ⟨n,h⟩:=a.fs;obtain ⟨m,g⟩:=b.fs
 exact ⟨max n m,fun i hi=>by show a.c i+b.c i=0;rw [h i (by omega),g i (by omega),Rat.add_zero]⟩⟩⟩
instance:Mul QP:=⟨fun a b=>⟨conv a.c b.c,by
 obtain ⟨n,h⟩:=a.fs;obtain ⟨m,g⟩:=b.fs
 exact ⟨n+m,fun i hi=>oC h g i (by omega)⟩⟩⟩
def M (t:Rat) (j:Nat):QP:=⟨fun k=>if k=j then t else 0,⟨j+1,fun i hi=>if_neg (by omega)⟩⟩
def C (t:Rat):QP:=M t 0
theorem WN {a b:Rat} (ha:a≠0) (hb:b≠0):a*b≠0:=fun h=>by
 rcases Rat.mul_eq_zero.1 h with h1|h1
 ·exact ha h1
 exact hb h1
theorem add_c (a b:QP) (k:Nat):(a+b).c k=a.c k+b.c k:=rfl
theorem mul_c (a b:QP) (k:Nat):(a*b).c k=conv a.c b.c k:=rfl
theorem PU (t:Rat) (j:Nat) (a:QP) (k:Nat):(M t j*a).c k=if j≤k then t*a.c (k - j) else 0:=by
 rw [mul_c];unfold conv
 by_cases h:j≤k
 ·rw [if_pos h,KB (a:=j) (fun i hi=>by show (if i=j then t else 0)*_=0;rw [if_neg hi];exact Rat.zero_mul _) (by omega)]
  show (if j=j then t else 0)*_=_
  rw [if_pos O]
 rw [if_neg h]
 exact nA fun i hi=>by show (if i=j then t else 0)*_=0;rw [if_neg (by omega)];exact Rat.zero_mul _
theorem C_mul (t:Rat) (a:QP) (k:Nat):(C t*a).c k=t*a.c k:=by unfold C;rw [PU,if_pos (Nat.zero_le _),Nat.sub_zero]
theorem C_c (t:Rat) (k:Nat):(C t).c k=if k=0 then t else 0:=rfl
theorem XI (a b:QP):a+b=b+a:=ex fun k=>Rat.add_comm _ _
theorem mul_comm' (a b:QP):a*b=b*a:=ex fun k=>congrFun (uS a.c b.c) k
theorem mul_assoc' (a b c:QP):a*b*c=a*(b*c):=ex fun k=>congrFun (H8 a.c b.c c.c) k
theorem mul_add' (a b c:QP):a*(b+c)=a*b+a*c:=ex fun k=>congrFun (DY a.c b.c c.c) k
theorem P1 (a b c:QP):(a+b)*c=a*c+b*c:=by rw [mul_comm',mul_add',mul_comm' c a,mul_comm' c b]
theorem lc' (a b c:QP):a*(b*c)=b*(a*c):=by rw [← mul_assoc',mul_comm' a b,mul_assoc']
theorem C_C (s t:Rat):C s*C t=C (s*t):=ex fun k=>by
 rw [C_mul,C_c,C_c];split
 ·rfl
 exact Rat.mul_zero _
theorem rT (a:QP):C 1*a=a:=ex fun k=>by rw [C_mul,Rat.one_mul]
theorem EC (a:QP):a*C 1=a:=by rw [mul_comm',rT]
theorem CI (a:QP):C 0*a=C 0:=ex fun k=>by rw [C_mul,Rat.zero_mul,C_c];split<;>rfl
theorem mul_zero' (a:QP):a*C 0=C 0:=by rw [mul_comm',CI]
theorem C0_c (k:Nat):(C 0).c k=0:=by rw [C_c];split<;>rfl
theorem add_zero' (a:QP):a+C 0=a:=ex fun k=>by rw [add_c,C0_c,Rat.add_zero]
theorem CG (a:QP):C 0+a=a:=by rw [XI,add_zero']
theorem YY {a b:QP} (h:a+C (-1)*b=C 0):a=b:=ex fun k=>by
 have e:=congrArg (fun x:QP=>x.c k) h;simp only [add_c,C_mul,C0_c] at e
 grind
def Dg (a:QP) (n:Nat):Prop:=a.c n≠0∧∀ i,n<i→a.c i=0
theorem ak_ (a:QP):∀ N:Nat,(∀ i,N≤i→a.c i=0)→a=C 0 ∨ ∃ n,n<N∧Dg a n
 | 0,h=>.inl (ex fun k=>by rw [h k (Nat.zero_le _),C0_c])
 | N+1,h=>by
  by_cases h0:a.c N=0
  ·rcases ak_ a N (fun i hi=>by rcases Nat.lt_or_eq_of_le hi with h1|h1;exact h i h1;rw [← h1];exact h0) with h1|⟨n,h1,h2⟩
   ·exact .inl h1
   exact .inr ⟨n,by omega,h2⟩
  exact .inr ⟨N,by omega,h0,fun i hi=>h i hi⟩
theorem ex_dg {a:QP} (h:a≠C 0):∃ n,Dg a n:=by
 obtain ⟨N,hN⟩:=a.fs;rcases ak_ a N hN with h1|⟨n,_,h2⟩
 ·exact absurd h1 h
 exact ⟨n,h2⟩
theorem Dg.ne {a:QP} {n:Nat} (h:Dg a n):a≠C 0:=fun e=>h.1 (by rw [e,C0_c])
theorem Dg.un {a:QP} {n m:Nat} (h:Dg a n) (g:Dg a m):n=m:=by
 rcases Nat.lt_trichotomy n m with h1|h1|h1
 ·exact absurd (h.2 _ h1) g.1
 ·exact h1
 exact absurd (g.2 _ h1) h.1
theorem Dg.mul {a b:QP} {n m:Nat} (h:Dg a n) (g:Dg b m):Dg (a*b) (n+m):=by
 refine ⟨?_,fun i hi=>oC (n:=n+1) (m:=m+1) (fun j hj=>h.2 j hj) (fun j hj=>g.2 j hj) i (by omega)⟩;rw [mul_c,pL h.2 g.2];exact WN h.1 g.1
theorem C_dg {t:Rat} (h:t≠0):Dg (C t) 0:=⟨by rw [C_c,if_pos O];exact h,fun i hi=>by rw [C_c,if_neg (by omega)]⟩
theorem dg_C {a:QP} (h:Dg a 0):a=C (a.c 0):=ex fun k=>by
 rw [C_c];split
 ·next e=>rw [e]
 exact h.2 k (by omega)
theorem mul_ne {a b:QP} (ha:a≠C 0) (hb:b≠C 0):a*b≠C 0:=by
 obtain ⟨n,h⟩:=ex_dg ha;obtain ⟨m,g⟩:=ex_dg hb;exact (h.mul g).ne
theorem mul_can {a b c:QP} (ha:a≠C 0) (h:a*b=a*c):b=c:=by
 apply YY
 apply Classical.byContradiction
 intro hn;refine mul_ne ha hn ?_;rw [mul_add',lc' a (C (-1)),h]
 exact ex fun k=>by rw [add_c,C_mul,C0_c];grind
def Dv (a b:QP):Prop:=∃ h,b=a*h
theorem Dv.refl (a:QP):Dv a a:=⟨C 1,(EC a).symm⟩
theorem Dv.trans {a b c:QP} (h:Dv a b) (g:Dv b c):Dv a c:=by
 obtain ⟨x,hx⟩:=h;obtain ⟨y,hy⟩:=g;exact ⟨x*y,by rw [hy,hx,mul_assoc']⟩
theorem Dv.mul {a b:QP} (h:Dv a b) (c:QP):Dv a (b*c):=h.trans ⟨c,rfl⟩
theorem Dv.mul_l {a b:QP} (h:Dv a b) (c:QP):Dv a (c*b):=by rw [mul_comm'];exact h.mul c
theorem Dv.add {a b c:QP} (h:Dv a b) (g:Dv a c):Dv a (b+c):=by
 obtain ⟨x,hx⟩:=h;obtain ⟨y,hy⟩:=g;exact ⟨x+y,by rw [hx,hy,mul_add']⟩
theorem Dv.zero (a:QP):Dv a (C 0):=⟨C 0,(mul_zero' a).symm⟩
theorem Dv.of_zero {a:QP} (h:Dv (C 0) a):a=C 0:=by obtain ⟨x,hx⟩:=h;rw [hx,CI]
theorem Dv.both {a b:QP} (c:QP) (h:Dv a b):Dv (c*a) (c*b):=by obtain ⟨x,hx⟩:=h;exact ⟨x,by rw [hx,mul_assoc']⟩
theorem Dv.cancel {a b c:QP} (hc:c≠C 0) (h:Dv (c*a) (c*b)):Dv a b:=by
 obtain ⟨x,hx⟩:=h;exact ⟨x,QP.mul_can hc (by rw [hx,mul_assoc'])⟩
theorem Dv.ne {a b:QP} (h:Dv a b) (hb:b≠C 0):a≠C 0:=fun e=>hb (by rw [e] at h;exact h.of_zero)
theorem Dv.scale {a b:QP} {t:Rat} (ht:t≠0) (h:Dv a (C t*b)):Dv a b:=by
 obtain ⟨x,hx⟩:=h;refine ⟨C t⁻¹*x,?_⟩;rw [lc' a,← hx,← mul_assoc',C_C,Rat.inv_mul_cancel _ ht,rT]
theorem C_dv {t:Rat} (ht:t≠0) (a:QP):Dv (C t*a) a:=⟨C t⁻¹,by rw [mul_comm' _ (C t⁻¹),← mul_assoc',C_C,Rat.inv_mul_cancel _ ht,rT]⟩
theorem fP_ {a:QP} (h:Dg a 0) (b:QP):Dv a b:=by
 refine ⟨C (a.c 0)⁻¹*b,?_⟩
 conv=>rhs;rw [dg_C h]
 rw [show (C (a.c 0)).c 0=a.c 0 from rfl,← mul_assoc',C_C,Rat.mul_inv_cancel _ h.1,rT]
theorem Dv.dg {a b:QP} {n m:Nat} (h:Dv a b) (ha:Dg a n) (hb:Dg b m):n≤m:=by
 obtain ⟨x,hx⟩:=h;have h0:x≠C 0:=fun e=>hb.ne (by rw [hx,e,mul_zero']);obtain ⟨l,hl⟩:=ex_dg h0;have:=(ha.mul hl).un (hx ▸ hb);omega
theorem Dv.same {a b:QP} {n:Nat} (h:Dv a b) (ha:Dg a n) (hb:Dg b n):∃ t,t≠0∧b=C t*a:=by
 obtain ⟨x,hx⟩:=h;have h0:x≠C 0:=fun e=>hb.ne (by rw [hx,e,mul_zero']);obtain ⟨l,hl⟩:=ex_dg h0;have:=(ha.mul hl).un (hx ▸ hb)
 obtain rfl:l=0:=by omega
 exact ⟨x.c 0,hl.1,by rw [hx,mul_comm',dg_C hl];rfl⟩
theorem Dv.back {a b:QP} {n:Nat} (h:Dv a b) (ha:Dg a n) (hb:Dg b n):Dv b a:=by
 obtain ⟨t,ht,e⟩:=h.same ha hb;rw [e];exact C_dv ht a
theorem VA {b:QP} {n:Nat} (hb:Dg b n):∀ (N:Nat) (a:QP),(∀ i,N≤i→a.c i=0)→∃ q r:QP,a=b*q+r∧∀ i,n≤i→r.c i=0
 | 0,a,h=>⟨C 0,a,by rw [mul_zero',CG],fun i _=>h i (Nat.zero_le _)⟩
 | N+1,a,h=>by
  by_cases hn:N<n
  ·exact ⟨C 0,a,by rw [mul_zero',CG],fun i hi=>h i (by omega)⟩
  obtain ⟨q,r,h1,h2⟩:=VA hb N (a+M (-(a.c N / b.c n)) (N - n)*b) (fun i hi=>by
   rw [add_c,PU,if_pos (by omega)];rcases Nat.lt_or_eq_of_le hi with h3|h3
   ·rw [h i h3,hb.2 (i - (N - n)) (by omega)];grind
   rw [← h3,show N - (N - n)=n by omega];have:=hb.1
   grind)
  refine ⟨q+M (a.c N / b.c n) (N - n),r,?_,h2⟩;refine ex fun k=>?_;have e:=congrArg (fun x:QP=>x.c k) h1;simp only [add_c,PU] at e;rw [mul_add',mul_comm' b (M _ _),add_c,add_c,PU]
  split at e
  ·next h3=>rw [if_pos h3];grind
  ·next h3=>rw [if_neg h3];grind
theorem bez:∀ (N:Nat) (a b:QP),(∀ i,N≤i→b.c i=0)→∃ g u v:QP,g=u*a+v*b∧Dv g a∧Dv g b:=by
 intro N
 induction N using Nat.strongRecOn with
 | _ N ih =>
  intro a b h;rcases ak_ b N h with h0|⟨n,hn,hb⟩
  ·exact ⟨a,C 1,C 0,by rw [CI,add_zero',rT],.refl a,by rw [h0];exact .zero a⟩
  obtain ⟨M,hM⟩:=a.fs;obtain ⟨q,r,h1,h2⟩:=VA hb M a hM;obtain ⟨g,u,v,h3,h4,h5⟩:=ih n hn b r h2;refine ⟨g,v,u+C (-1)*(v*q),?_,by rw [h1];exact (h4.mul q).add h5,h4⟩;rw [h3,h1,mul_add',P1,mul_assoc' (C (-1)),mul_assoc' v q b,mul_comm' q b]
  exact ex fun k=>by simp only [add_c,C_mul];grind
theorem bezout (a b:QP):∃ g u v:QP,g=u*a+v*b∧Dv g a∧Dv g b:=by
 obtain ⟨N,hN⟩:=b.fs;exact bez N a b hN
def Irr (h:QP):Prop:=∃ n,1≤n∧Dg h n∧∀ d,Dv d h→Dg d 0∨Dg d n
theorem Irr.ne {h:QP} (i:Irr h):h≠C 0:=by obtain ⟨n,_,hd,_⟩:=i;exact hd.ne
theorem ax_:∀ (n:Nat) (p:QP),Dg p n→1≤n→∃ h,Irr h∧Dv h p:=by
 intro n
 induction n using Nat.strongRecOn with
 | _ n ih =>
  intro p hp hn
  by_cases hx:∃ d,Dv d p∧¬ Dg d 0∧¬ Dg d n
  ·obtain ⟨d,h1,h2,h3⟩:=hx
   obtain ⟨m,hm⟩:=ex_dg (h1.ne hp.ne);have:=h1.dg hm hp;have m0:m≠0:=fun e=>h2 (e ▸ hm);have mn:m≠n:=fun e=>h3 (e ▸ hm);obtain ⟨h,hi,hd⟩:=ih m (by omega) d hm (by omega);exact ⟨h,hi,hd.trans h1⟩
  refine ⟨p,⟨n,hn,hp,fun d hd=>?_⟩,.refl p⟩
  apply Classical.byContradiction
  intro hc;exact hx ⟨d,hd,fun e=>hc (.inl e),fun e=>hc (.inr e)⟩
theorem Irr.prime {h a b:QP} (i:Irr h) (hd:Dv h (a*b)):Dv h a∨Dv h b:=by
 obtain ⟨n,hn,hh,hi⟩:=i;obtain ⟨g,u,v,h1,h2,h3⟩:=bezout h a;rcases hi g h2 with h4|h4
 ·right
  have e:C (g.c 0)*b=h*(u*b)+v*(a*b):=by
   rw [← dg_C h4,h1,P1,mul_assoc',mul_assoc',lc' u]
  refine Dv.scale h4.1 (t:=g.c 0) ?_;rw [e];exact (Dv.mul (.refl h) _).add (hd.mul_l v)
 exact .inl ((h2.back h4 hh).trans h3)
def D (a:QP):QP:=⟨fun k=>((k+1:Nat):Rat)*a.c (k+1),by
 obtain ⟨n,h⟩:=a.fs
 exact ⟨n,fun i hi=>by show _*a.c (i+1)=0;rw [h _ (by omega),Rat.mul_zero]⟩⟩
theorem D_c (a:QP) (k:Nat):(D a).c k=((k+1:Nat):Rat)*a.c (k+1):=rfl
theorem PR (a b:QP):D (a*b)=D a*b+a*D b:=ex fun k=>by
 rw [D_c,add_c,mul_c,mul_c,mul_c];unfold conv;rw [← uD]
 have e:jA (fun i=>((k+1:Nat):Rat)*(a.c i*b.c (k+1 - i))) (k+1+1)=jA (fun i=>(i:Rat)*(a.c i*b.c (k+1 - i))+((k+1 - i:Nat):Rat)*(a.c i*b.c (k+1 - i))) (k+1+1):=iK fun i hi=>by
  have:((k+1:Nat):Rat)=(i:Rat)+((k+1 - i:Nat):Rat):=by rw [← Rat.natCast_add];congr 1;omega
  rw [this,Rat.add_mul]
 rw [e,BP]
 congr 1
 ·rw [zQ]
  rw [show ((0:Nat):Rat)=0 from rfl,Rat.zero_mul,Rat.zero_add]
  exact iK fun i hi=>by rw [D_c,show k+1 - (i+1)=k - i by omega,Rat.mul_assoc]
 show jA _ (k+1)+((k+1 - (k+1):Nat):Rat)*_=_
 rw [show k+1 - (k+1)=0 by omega,show ((0:Nat):Rat)=0 from rfl,Rat.zero_mul,Rat.add_zero]
 exact iK fun i hi=>by rw [D_c,show k+1 - i=k - i+1 by omega];grind
theorem h8_ {a:QP} {n:Nat} (h:Dg a (n+1)):Dg (D a) n:=by
 refine ⟨?_,fun i hi=>by rw [D_c,h.2 _ (by omega),Rat.mul_zero]⟩;rw [D_c];refine WN (fun e=>?_) h.1;have:((n+1:Nat):Rat)=((0:Nat):Rat):=e;rw [Rat.natCast_inj] at this;omega
theorem Irr.nD {h:QP} (i:Irr h):¬ Dv h (D h):=by
 obtain ⟨n,hn,hh,_⟩:=i;obtain ⟨m,rfl⟩:∃ m,n=m+1:=⟨n - 1,by omega⟩;intro hd;have:=hd.dg hh (h8_ hh);omega
def pow (a:QP):Nat→QP
 | 0=>C 1
 | n+1=>a*pow a n
theorem bq_ {a:QP} (h:a≠C 0):∀ n,pow a n≠C 0
 | 0=>(C_dg (by decide)).ne
 | n+1=>mul_ne h (bq_ h n)
theorem OU (a:QP) (m:Nat):∀ n,pow a (m+n)=pow a m*pow a n
 | 0=>(EC _).symm
 | n+1=>by show a*pow a (m+n)=pow a m*(a*pow a n);rw [OU a m n,lc']
theorem dT_ (h m:QP):∀ e:Nat,D (pow h (e+1)*m)=pow h e*(C ((e+1:Nat):Rat)*(D h*m)+h*D m)
 | 0=>by
  show D (h*C 1*m)=C 1*(C 1*(D h*m)+h*D m)
  rw [EC,PR,rT,rT]
 | e+1=>by
  rw [show pow h (e+1+1)*m=h*(pow h (e+1)*m) from mul_assoc' _ _ _,PR,dT_ h m e,lc' (D h),← mul_assoc' h (pow h e),show h*pow h e=pow h (e+1) from rfl,← mul_add']
  congr 1
  refine ex fun k=>?_;simp only [add_c,C_mul];rw [show ((e+1+1:Nat):Rat)=((e+1:Nat):Rat)+1 by rw [Rat.natCast_add];rfl]
  grind
theorem cV_ {h:QP} (i:Irr h):∀ (n:Nat) (P:QP),Dg P n→∃ e m,P=pow h e*m∧¬ Dv h m:=by
 intro n
 induction n using Nat.strongRecOn with
 | _ n ih =>
  intro P hP
  by_cases hd:Dv h P
  ·obtain ⟨x,hx⟩:=hd
   have x0:x≠C 0:=fun e=>hP.ne (by rw [hx,e,mul_zero']);obtain ⟨l,hl⟩:=ex_dg x0;obtain ⟨k,hk,hh,_⟩:=i;have:=(hh.mul hl).un (hx ▸ hP);obtain ⟨e,m,h1,h2⟩:=ih l (by omega) x hl;exact ⟨e+1,m,by rw [hx,h1];exact (mul_assoc' _ _ _).symm,h2⟩
  exact ⟨0,P,(rT P).symm,hd⟩
theorem sqf_part {P G F:QP} (hP:P≠C 0) (hF:P=G*F) (hD:Dv G (D P)) (hG:∀ d,Dv d P→Dv d (D P)→Dv d G) {h:QP} (i:Irr h):(Dv h P→Dv h F)∧¬ Dv (h*h) F:=by
 obtain ⟨n,hn⟩:=ex_dg hP;obtain ⟨e,m,he,hm⟩:=cV_ i n P hn
 cases e with
 | zero =>
  have hnP:¬ Dv h P:=fun hd=>hm (by rw [he] at hd;rwa [show pow h 0*m=m from rT m] at hd);refine ⟨fun hd=>absurd hd hnP,fun hd=>hnP ?_⟩;rw [hF];exact ((show Dv h (h*h) from ⟨h,rfl⟩).trans hd).mul_l G
 | succ e =>
  have e1:((e+1:Nat):Rat)≠0:=fun x=>by
   have:((e+1:Nat):Rat)=((0:Nat):Rat):=x;rw [Rat.natCast_inj] at this;omega
  have hK:¬ Dv h (C ((e+1:Nat):Rat)*(D h*m)+h*D m):=fun hd=>by
   have h1:Dv h (C ((e+1:Nat):Rat)*(D h*m)):=by
    obtain ⟨x,hx⟩:=hd;refine ⟨x+C (-1)*D m,?_⟩;rw [mul_add',← hx,lc' h]
    exact ex fun k=>by simp only [add_c,C_mul];grind
   rcases i.prime (h1.scale e1) with h2|h2
   ·exact i.nD h2
   exact hm h2
  have hDP:D P=pow h e*(C ((e+1:Nat):Rat)*(D h*m)+h*D m):=by rw [he,dT_]
  have hPe:P=pow h e*(h*m):=by rw [he];show h*pow h e*m=_;rw [mul_comm' h,mul_assoc']
  obtain ⟨G1,hG1⟩:=hG (pow h e) ⟨_,hPe⟩ ⟨_,hDP⟩;have p0:=bq_ i.ne e
  have nG:¬ Dv h G1:=fun hd=>hK (by
   refine Dv.cancel p0 ?_;rw [← hDP];refine Dv.trans (Dv.both _ hd) ?_
   rw [← hG1];exact hD)
  have hmF:h*m=G1*F:=mul_can p0 (by rw [← hPe,hF,hG1,mul_assoc'])
  have hF1:Dv h F:=by
   rcases i.prime (show Dv h (G1*F) from ⟨m,hmF.symm⟩) with h1|h1
   ·exact absurd h1 nG
   exact h1
  refine ⟨fun _=>hF1,fun hd=>?_⟩;obtain ⟨F2,hF2⟩:=hd;refine hm ⟨G1*F2,mul_can i.ne ?_⟩;rw [hmF,hF2,mul_assoc',lc' G1,lc' G1]
theorem dvd_pow {P F:QP} (hd:∀ h,Irr h→Dv h P→Dv h F):∀ (n:Nat) (R:QP),Dg R n→Dv R P→Dv R (pow F n):=by
 intro n
 induction n using Nat.strongRecOn with
 | _ n ih =>
  intro R hR hP
  cases n with
  | zero=>exact fP_ hR _
  | succ n =>
   obtain ⟨h,hi,hh⟩:=ax_ _ R hR (by omega);obtain ⟨x,hx⟩:=hh;have x0:x≠C 0:=fun e=>hR.ne (by rw [hx,e,mul_zero']);obtain ⟨l,hl⟩:=ex_dg x0;have hi':=hi;obtain ⟨k,hk,hdk,_⟩:=hi';have hs:=(hdk.mul hl).un (hx ▸ hR);have h1:=ih l (by omega) x hl ((show Dv x R from ⟨h,by rw [hx,mul_comm']⟩).trans hP);have h2:Dv h F:=hd h hi ((show Dv h R from ⟨x,hx⟩).trans hP);obtain ⟨y,hy⟩:=h2;obtain ⟨z,hz⟩:=h1;rw [hx,show n+1=1+l+(n - l) by omega,OU,OU];refine Dv.mul ⟨y*z,?_⟩ _
   show F*C 1*pow F l=_
   rw [EC,hz,mul_assoc',lc' x]
   conv=>lhs;rw [hy]
   rw [mul_assoc']
theorem sqf_co {F:QP} (hs:∀ h,Irr h→¬ Dv (h*h) F) {d:QP} {n:Nat} (h1:Dv d F) (h2:Dv d (D F)) (hd:Dg d n):n=0:=by
 cases n with
 | zero=>rfl
 | succ n =>
  obtain ⟨h,hi,hh⟩:=ax_ _ d hd (by omega);obtain ⟨x,hx⟩:=hh.trans h1;obtain ⟨y,hy⟩:=hh.trans h2
  have:Dv h (D h*x):=by
   refine ⟨y+C (-1)*D x,?_⟩
   have e:D F=D h*x+h*D x:=by rw [hx,PR]
   rw [mul_add',← hy,lc' h,e]
   exact ex fun k=>by simp only [add_c,C_mul];grind
  rcases hi.prime this with h3|h3
  ·exact absurd h3 hi.nD
  obtain ⟨z,hz⟩:=h3;exact absurd ⟨z,by rw [hx,hz,mul_assoc']⟩ (hs h hi)
end QP
def Cop (c:Nat→Int):Prop:=∀ u:Int,(∀ k,u ∣ c k)→u ∣ 1
theorem VU {p:Nat→Prop} (h:∃ k,p k):∃ k,p k∧∀ j,j<k→¬ p j:=by
 obtain ⟨k,hk⟩:=h
 induction k using Nat.strongRecOn with
 | _ k ih =>
  by_cases hx:∃ j,j<k∧p j
  ·obtain ⟨j,h1,h2⟩:=hx
   exact ih j h1 h2
  exact ⟨k,hk,fun j h1 h2=>hx ⟨j,h1,h2⟩⟩
def Pri (u:Int):Prop:=∀ x y:Int,u ∣ x*y→u ∣ x∨u ∣ y
theorem fg_ {u:Nat} (h:2≤u):∃ p:Nat,2≤p∧p ∣ u∧Pri p:=by
 obtain ⟨p,⟨h1,h2⟩,h3⟩:=VU (p:=fun k=>2≤k∧k ∣ u) ⟨u,h,Nat.dvd_refl u⟩;refine ⟨p,h1,h2,fun x y hd=>?_⟩
 have cd:∀ z:Int,(p:Int) ∣ z ↔ p ∣ z.natAbs:=fun z=>by rw [← Int.natAbs_dvd_natAbs,Int.natAbs_natCast]
 rw [cd] at hd ⊢;rw [cd];rw [Int.natAbs_mul] at hd;have g1:Nat.gcd p x.natAbs ∣ p:=Nat.gcd_dvd_left ..;have g2:Nat.gcd p x.natAbs ∣ x.natAbs:=Nat.gcd_dvd_right ..;have g3:0<Nat.gcd p x.natAbs:=Nat.gcd_pos_of_pos_left _ (by omega)
 by_cases hg:Nat.gcd p x.natAbs=1
 ·exact .inr (Nat.Coprime.dvd_of_dvd_mul_left hg hd)
 left
 have g4:=Nat.le_of_dvd (by omega) g1;have:¬ Nat.gcd p x.natAbs<p:=fun hl=>h3 _ hl ⟨by omega,Nat.dvd_trans g1 h2⟩
 rwa [show Nat.gcd p x.natAbs=p by omega] at g2
theorem it_:Pri 0:=fun x y h=>by
 rw [Int.zero_dvd] at h ⊢;rw [Int.zero_dvd];exact Int.mul_eq_zero.1 h
theorem PH {u:Int} {f:Nat→Int}:∀ {n:Nat},(∀ t,t<n→u ∣ f t)→u ∣ jA f n
 | 0,_=>Int.dvd_zero u
 | n+1,h=>Int.dvd_add (PH fun t ht=>h t (by omega)) (h n (by omega))
theorem WV {u:Int} {f:Nat→Int} {a:Nat}:∀ {n:Nat},(∀ t,t<n→t≠a→u ∣ f t)→a<n→u ∣ jA f n→u ∣ f a
 | 0,_,ha,_=>absurd ha (Nat.not_lt_zero _)
 | n+1,h,ha,hs=>by
  by_cases hn:n=a
  ·subst hn
   exact (Int.dvd_add_right (PH fun t ht=>h t (by omega) (by omega))).1 hs
  exact WV (fun t ht=>h t (by omega)) (by omega) ((Int.dvd_add_left (h n (by omega) hn)).1 hs)
theorem WA {u:Int} (hu:Pri u) {c d:Nat→Int} (hc:¬ ∀ k,u ∣ c k) (h:∀ k,u ∣ conv c d k):∀ k,u ∣ d k:=by
 apply Classical.byContradiction
 intro hd;obtain ⟨i,hi,hi'⟩:=VU (p:=fun k=>¬ u ∣ c k) (Classical.byContradiction fun hx=>hc fun k=>Classical.byContradiction fun hk=>hx ⟨k,hk⟩);obtain ⟨j,hj,hj'⟩:=VU (p:=fun k=>¬ u ∣ d k) (Classical.byContradiction fun hx=>hd fun k=>Classical.byContradiction fun hk=>hx ⟨k,hk⟩)
 have h1:u ∣ c i*d (i+j - i):=WV (f:=fun t=>c t*d (i+j - t)) (a:=i) (n:=i+j+1) (fun t ht hn=>by
  rcases Nat.lt_or_gt_of_ne hn with h2|h2
  ·exact Int.dvd_mul_of_dvd_left (Classical.not_not.1 (hi' t h2)) ..
  exact Int.dvd_mul_of_dvd_right (Classical.not_not.1 (hj' (i+j - t) (by omega))) ..) (by omega) (h (i+j))
 rw [show i+j - i=j by omega] at h1;rcases hu _ _ h1 with h2|h2
 ·exact hi h2
 exact hj h2
theorem U8 {c:Nat→Int} (hc:Cop c):∀ (u:Nat) (d:Nat→Int),(∀ k,(u:Int) ∣ conv c d k)→∀ k,(u:Int) ∣ d k:=by
 intro u
 induction u using Nat.strongRecOn with
 | _ u ih =>
  intro d h
  by_cases h0:u=0
  ·subst h0
   exact WA it_ (fun hx=>by have:=hc 0 hx;omega) h
  by_cases h1:u=1
  ·subst h1
   exact fun k=>Int.one_dvd _
  obtain ⟨p,hp,⟨v,hv⟩,hpp⟩:=fg_ (show 2≤u by omega);subst hv
  have v0:0<v:=by
   rcases Nat.eq_zero_or_pos v with h2|h2
   ·subst h2;omega
   exact h2
  have hlt:v<p*v:=by have:=Nat.mul_le_mul_right v hp;omega
  have hd:∀ k,(p:Int) ∣ d k:=WA hpp (fun hx=>by
   have h2:=hc p hx;have:=Int.le_of_dvd (by decide) h2
   omega) fun k=>Int.dvd_trans (by rw [Int.natCast_mul];exact Int.dvd_mul_right ..) (h k)
  have hd':∀ k,d k=(p:Int)*(d k / p):=fun k=>(Int.mul_ediv_cancel' (hd k)).symm
  have e:conv c d=fun k=>(p:Int)*conv c (fun i=>d i / p) k:=by
   rw [← tN];congr 1;exact funext hd'
  intro k;rw [hd' k,Int.natCast_mul];refine Int.mul_dvd_mul_left _ (ih v hlt (fun i=>d i / p) (fun k=>?_) k);have h3:=h k;rw [e,Int.natCast_mul] at h3;exact Int.dvd_of_mul_dvd_mul_left (by omega) h3
theorem ah_ {c d:Nat→Int} (hc:Cop c) {u:Int} (h:∀ k,u ∣ conv c d k):∀ k,u ∣ d k:=fun k=>by
 have:=U8 hc u.natAbs d (fun k=>Int.natAbs_dvd.2 (h k)) k;exact Int.natAbs_dvd.1 this
theorem d6_ {c d:Nat→Int} (hc:Cop c) (hd:Cop d):Cop (conv c d):=fun u h=>hd u (ah_ hc h)
theorem ag_ (c:Nat→Int) (y:Int) (k:Nat):conv c (fun i=>if i=0 then y else 0) k=c k*y:=by
 unfold conv
 show jA _ k+c k*(if k - k=0 then y else 0)=_
 rw [nA fun i hi=>by show c i*(if k - i=0 then y else 0)=0;rw [if_neg (by omega),Int.mul_zero],Nat.sub_self,if_pos O,Int.zero_add]
def oA (c:Nat→Int):Prop:=∃ n,∀ i,n≤i→c i=0
def ZP (c:Nat→Int) (h:oA c):QP:=⟨cR c,by obtain ⟨n,h⟩:=h;exact ⟨n,fun i hi=>by unfold cR;rw [h i hi];rfl⟩⟩
theorem nI (c:Nat→Int) (h:oA c) (k:Nat):(ZP c h).c k=(c k:Rat):=rfl
theorem B3 {c d:Nat→Int} (h:oA c) (g:oA d):oA (conv c d):=by
 obtain ⟨n,h⟩:=h;obtain ⟨m,g⟩:=g;exact ⟨n+m,fun i hi=>oC h g i (by omega)⟩
theorem QM {c:Nat→Int} (h:oA c) (t:Int):oA (fun k=>t*c k):=by
 obtain ⟨n,h⟩:=h;exact ⟨n,fun i hi=>by show t*c i=0;rw [h i hi,Int.mul_zero]⟩
theorem au_ {c d:Nat→Int} (h:oA c) (g:oA d):oA (fun k=>c k+d k):=by
 obtain ⟨n,h⟩:=h;obtain ⟨m,g⟩:=g;exact ⟨max n m,fun i hi=>by show c i+d i=0;rw [h i (by omega),g i (by omega)];rfl⟩
theorem tG {c d:Nat→Int} (h:oA c) (g:oA d):ZP (conv c d) (B3 h g)=ZP c h*ZP d g:=QP.ex fun k=>congrFun (FD c d) k
theorem eT_ {c:Nat→Int} (h:oA c) (t:Int):ZP (fun k=>t*c k) (QM h t)=QP.C t*ZP c h:=QP.ex fun k=>by rw [QP.C_mul,nI,nI,Rat.intCast_mul]
theorem PZ {c d:Nat→Int} (h:oA c) (g:oA d) (e:∀ k,c k=d k):ZP c h=ZP d g:=QP.ex fun k=>by rw [nI,nI,e]
theorem gO_ {c:Nat→Int} {h:oA c} {n:Nat} (g:QP.Dg (ZP c h) n):c n≠0∧∀ i,n<i→c i=0 :=
 ⟨fun e=>g.1 (by rw [nI,e];rfl),fun i hi=>Rat.intCast_eq_zero_iff.1 (g.2 i hi)⟩
theorem ad_ (H:Nat→Rat):∀ n:Nat,∃ m:Nat,0<m∧∀ k,k<n→∃ t:Int,(t:Rat)=(m:Rat)*H k
 | 0=>⟨1,Nat.one_pos,fun k hk=>absurd hk (Nat.not_lt_zero _)⟩
 | n+1=>by
  obtain ⟨m,hm,h⟩:=ad_ H n;refine ⟨m*(H n).den,Nat.mul_pos hm (H n).den_pos,fun k hk=>?_⟩;rw [Rat.natCast_mul];rcases Nat.lt_or_eq_of_le (Nat.le_of_lt_succ hk) with h1|h1
  ·obtain ⟨t,ht⟩:=h k h1
   exact ⟨t*(H n).den,by rw [Rat.intCast_mul,ht];show _*(((H n).den:Nat):Rat)=_;grind⟩
  subst h1
  have e:(((H k).den:Nat):Rat)*H k=(((H k).num:Int):Rat):=by rw [Rat.mul_comm];exact xJ _
  exact ⟨m*(H k).num,by rw [Rat.intCast_mul,Rat.mul_assoc,e];rfl⟩
theorem C4 {c a:Nat→Int} (hc:Cop c) (ec:oA c) (ea:oA a) (h:QP.Dv (ZP c ec) (ZP a ea)):∃ S:Nat→Int,oA S∧∀ k,a k=conv c S k:=by
 obtain ⟨H,hH⟩:=h;obtain ⟨n,hn⟩:=H.fs;obtain ⟨m,m0,hm⟩:=ad_ H.c n
 have hT:∀ k,∃ t:Int,(t:Rat)=(m:Rat)*H.c k:=fun k=>by
  by_cases hk:k<n
  ·exact hm k hk
  exact ⟨0,by rw [hn k (by omega),Rat.mul_zero];rfl⟩
 have hT':=Classical.axiomOfChoice hT;obtain ⟨T,hT'⟩:=hT'
 have e1:∀ k,(m:Int)*a k=conv c T k:=fun k=>by
  apply Rat.intCast_inj.1
  have e2:=congrArg (fun x:QP=>(m:Rat)*x.c k) hH;simp only [nI,QP.mul_c] at e2;rw [Rat.intCast_mul,show ((conv c T k:Int):Rat)=cR (conv c T) k from rfl,FD,show cR T=fun i=>(m:Rat)*H.c i from funext hT',tN];exact e2
 have e3:=U8 hc m T (fun k=>⟨a k,(e1 k).symm⟩);refine ⟨fun k=>T k / m,⟨n,fun k hk=>?_⟩,fun k=>?_⟩
 ·have:T k=0:=Rat.intCast_inj.1 (by rw [hT',hn k hk,Rat.mul_zero];rfl)
  show T k / m=0
  rw [this,Int.zero_ediv]
 refine Int.eq_of_mul_eq_mul_left (show (m:Int)≠0 by omega) ?_;have e4:=congrFun (tN (m:Int) c (fun i=>T i / m)) k;rw [e1 k,← e4];exact congrFun (congrArg (conv c) (funext fun i=>(Int.mul_ediv_cancel' (e3 i)).symm)) k
open Go Go.Kn
section
variable {a o:Int} {d:Nat→Int} {n:Nat}
theorem YP (t:Int) (i:Nat) (r:Nat→Int):mM a o d n i (fun k=>t*r k)=fun k=>t*mM a o d n i r k:=funext fun k=>by unfold mM;grind
theorem R3 (t:Int):∀ (m:Nat) (r:Nat→Int),uF a o d n m (fun k=>t*r k)=fun k=>t*uF a o d n m r k
 | 0,r=>rfl
 | m+1,r=>by
  show uF a o d n m (mM a o d n m fun k=>t*r k)=_
  rw [YP,R3 t m];rfl
theorem MW (ho:o*d n=a) (hd:∀ i,n<i→d i=0) {m:Nat} {r:Nat→Int} (hr:∀ k,m+1+n≤k→r k=0):∀ k,m+n≤k→mM a o d n m r k=0:=fun k hk=>by
 unfold mM shf;rcases Nat.lt_or_eq_of_le hk with h|h
 ·rw [hr k oo_,if_pos oo_,hd (k - m) oo_];grind
 rw [← h,if_pos oo_,show m+n - m=n by omega,← ho];grind
theorem F3 (ho:o*d n=a) (hd:∀ i,n<i→d i=0):∀ (m:Nat) (r:Nat→Int),(∀ k,m+n≤k→r k=0)→∀ k,n≤k→uF a o d n m r k=0
 | 0,r,h=>fun k hk=>h k oo_
 | m+1,r,h=>F3 ho hd m _ (MW ho hd h)
theorem YS (d:Nat→Int) (m:Nat) (t:Int):conv d (fun i=>t*(if i=m then 1 else 0))=fun k=>t*shf d m k:=by
 rw [tN];exact funext fun k=>by rw [y8]
theorem HP:∀ (m:Nat) (r:Nat→Int),∃ Q,oA Q∧∀ k,a ^ m*r k=conv d Q k+uF a o d n m r k
 | 0,r=>⟨fun _=>0,⟨0,fun _ _=>rfl⟩,fun k=>by
  rw [show conv d (fun _=>0) k=0 from nA fun i _=>Int.mul_zero _,Int.pow_zero,Int.one_mul,Int.zero_add];rfl⟩
 | m+1,r=>by
  obtain ⟨Q,hQ,h⟩:=HP m (mM a o d n m r);refine ⟨fun i=>Q i+(a ^ m*o*r (m+n))*(if i=m then 1 else 0),au_ hQ ⟨m+1,fun i hi=>by show _*(if i=m then 1 else 0)=0;rw [if_neg oo_,Int.mul_zero]⟩,fun k=>?_⟩;have h1:=h k;rw [DY,YS]
  show _=_+uF a o d n m (mM a o d n m r) k
  unfold mM at h1 ⊢;rw [Int.pow_succ]
  grind
theorem TC (s:Nat→Int) (m:Nat) (ρ:Nat→Int) (k:Nat):conv s (mM a o d n m ρ) k=a*conv s ρ k + -(o*ρ (m+n))*conv s (shf d m) k:=by
 have e:mM a o d n m ρ=fun i=>(a*ρ i)+(-(o*ρ (m+n))*shf d m i):=funext fun i=>by unfold mM;grind
 rw [e,DY,tN,tN]
theorem MS {s:Nat→Int} {ds:Nat} {sa os:Int} (hs:∀ i,ds<i→s i=0) (hso:os*s ds=sa) (ho:o*d n=a) (hd:∀ i,n<i→d i=0) :
  ∀ (m:Nat) (ρ:Nat→Int),(∀ k,m+n≤k→ρ k=0)→uF (sa*a) (os*o) (conv s d) (ds+n) m (conv s ρ)=fun k=>sa ^ m*conv s (uF a o d n m ρ) k
 | 0,ρ,_=>funext fun k=>by rw [Int.pow_zero,Int.one_mul];rfl
 | m+1,ρ,h=>by
  have e:mM (sa*a) (os*o) (conv s d) (ds+n) m (conv s ρ)=fun k=>sa*conv s (mM a o d n m ρ) k:=funext fun k=>by
   rw [TC];unfold mM;rw [show m+(ds+n)=ds+(m+n) by omega,pL hs (m:=m+n) (fun i hi=>h i oo_),← y8 (conv s d),H8,show conv d (fun i=>if i=m then 1 else 0)=shf d m from funext fun i=>y8 d m i,← hso]
   grind
  show uF _ _ _ _ m (mM _ _ _ _ m _)=_
  rw [e,R3,MS hs hso ho hd m _ (MW ho hd h)]
  funext k
  show sa*(sa ^ m*conv s (uF a o d n m (mM a o d n m ρ)) k)=sa ^ (m+1)*conv s (uF a o d n m (mM a o d n m ρ)) k
  rw [Int.pow_succ];grind
theorem R7 {B R:Nat} (ha:a.natAbs≤B) (ho:o.natAbs≤1) (hd:∀ k,(d k).natAbs≤B) {r:Nat→Int} (hr:∀ k,(r k).natAbs≤R) (i k:Nat):(mM a o d n i r k).natAbs≤2*B*R:=by
 unfold mM
 have h1:(a*r k).natAbs≤B*R:=by rw [Int.natAbs_mul];exact Nat.mul_le_mul ha (hr k)
 have h2:(o*r (i+n)*shf d i k).natAbs≤B*R:=by
  have h3:(shf d i k).natAbs≤B:=by
   unfold shf;split
   ·exact hd _
   exact Nat.zero_le _
  rw [Int.natAbs_mul,Int.natAbs_mul,Nat.mul_comm B];refine Nat.mul_le_mul ?_ h3;have:=Nat.mul_le_mul ho (hr (i+n));omega
 have e:2*B*R=B*R+B*R:=by rw [Nat.mul_assoc,Nat.two_mul]
 omega
theorem O1 {B:Nat} (ha:a.natAbs≤B) (ho:o.natAbs≤1) (hd:∀ k,(d k).natAbs≤B):∀ (m R:Nat) (r:Nat→Int),(∀ k,(r k).natAbs≤R)→∀ k,(uF a o d n m r k).natAbs≤(2*B) ^ m*R
 | 0,R,r,h=>fun k=>by rw [Nat.pow_zero,Nat.one_mul];exact h k
 | m+1,R,r,h=>fun k=>by
  have:=O1 ha ho hd m _ _ (R7 (n:=n) ha ho hd h m) k;rw [Nat.pow_succ,Nat.mul_assoc];exact this
theorem NJ {B:Nat} (hB:1≤B) (ha:a.natAbs≤B) (ho:o.natAbs≤1) (hd:∀ k,(d k).natAbs≤B):∀ (m R:Nat) (r:Nat→Int),(∀ k,(r k).natAbs≤R)→(2*B) ^ m*R<4294967296 ^ 16→RemB a o d n m r
 | 0,R,r,h,hb=>fun k=>Nat.lt_of_le_of_lt (h k) (by rwa [Nat.pow_zero,Nat.one_mul] at hb)
 | m+1,R,r,h,hb=>by
  rw [Nat.pow_succ,Nat.mul_assoc] at hb;have h1:1≤(2*B) ^ m:=Nat.pow_pos oo_;have h2:=Nat.mul_le_mul_right (2*B*R) h1;have h3:=Nat.mul_le_mul_right R hB
  have e:2*B*R=B*R+B*R:=by rw [Nat.mul_assoc,Nat.two_mul]
  have ho':(o*r (m+n)).natAbs≤R:=by
   rw [Int.natAbs_mul];have:=Nat.mul_le_mul ho (h (m+n));omega
  refine ⟨fun k=>?_,?_,fun k=>?_,fun k=>?_,NJ hB ha ho hd m _ _ (R7 ha ho hd h m) hb⟩
  ·have:=h k
   unfold dR;omega
  ·unfold dR;omega
  ·have:(a*r k).natAbs≤B*R:=by rw [Int.natAbs_mul];exact Nat.mul_le_mul ha (h k)
   unfold dR;omega
  have:(o*r (m+n)*d k).natAbs≤B*R:=by rw [Int.natAbs_mul,Nat.mul_comm B];exact Nat.mul_le_mul ho' (hd k)
  unfold dR;omega
theorem HD {c e:Nat→Int} {N A B:Nat} (hc:∀ k,(c k).natAbs≤A) (he:∀ k,(e k).natAbs≤B) (hz:∀ i,N≤i→c i=0) (k:Nat):(conv c e k).natAbs≤N*(A*B):=by
 unfold conv
 have ht:∀ i,(c i*e (k - i)).natAbs≤A*B:=fun i=>by rw [Int.natAbs_mul];exact Nat.mul_le_mul (hc i) (he _)
 by_cases h:N≤k+1
 ·rw [rJ (n:=N) (fun i hi=>by rw [hz i hi,Int.zero_mul]) (k+1) h]
  exact PI ht N
 exact Nat.le_trans (PI ht _) (Nat.mul_le_mul_right _ oo_)
theorem QE {c e:Nat→Int} {N M A B:Nat} (hc:∀ k,(c k).natAbs≤A) (he:∀ k,(e k).natAbs≤B) (hz:∀ i,N<i→c i=0) (hy:∀ i,M<i→e i=0) (k:Nat):(conv c e k).natAbs≤(min N M+1)*(A*B):=by
 by_cases h:N≤M
 ·rw [show min N M=N by omega]
  exact HD hc he (fun i hi=>hz i oo_) k
 rw [show min N M=M by omega,uS,Nat.mul_comm A];exact HD he hc (fun i hi=>hy i oo_) k
end
def okT (S ds G:Nat):Nat→Nat→Nat→Nat→Nat→Bool
 | 0,_,_,_,_=>false
 | f+1,n0,n1,M0,M1=>decide (M0≤G)&&decide (M1≤G)&&(List.range (n1+1)).all fun n =>
  decide (1≤(min ds n+1)*(S*(if n=0 then 1 else M1)))&&decide ((2*((min ds n+1)*(S*(if n=0 then 1 else M1)))) ^ (n0+1 - n)*((min ds n0+1)*(S*M0))<4294967296 ^ 16)&&(decide (n=0)||okT S ds G f n (n - 1) (if n=0 then 1 else M1) (if n=1 then 1 else (2*(if n=0 then 1 else M1)) ^ (n0+1 - n)*M0))
structure Pr (c:Nat→Int) (n M:Nat):Prop where
 z:∀ i,n<i→c i=0
 b:∀ k,(c k).natAbs≤M
 p:Cop c ∨ ∀ k,c k=0
theorem Pr.e {c:Nat→Int} {n M:Nat} (h:Pr c n M):oA c:=⟨n+1,fun i hi=>h.z i hi⟩
theorem Po.top {p:List I} {c:Nat→Int} (h:Po p c) (h0:p≠[]):∃ n,p.length=n+1∧c n≠0∧∀ i,n<i→c i=0:=by
 obtain ⟨n,hn⟩:∃ n,p.length=n+1:=⟨p.length - 1,by have:=List.length_pos_iff.2 h0;omega⟩;exact ⟨n,hn,h.last hn,fun i hi=>h.zero oo_⟩
theorem Po.ends {p:List I} {c:Nat→Int} (h:Po p c):oA c:=⟨p.length,fun i hi=>h.zero hi⟩
theorem KG {c:Nat→Int} (h:oA c):(∀ k,c k=0) ∨ ∃ n,c n≠0∧∀ i,n<i→c i=0:=by
 by_cases h0:ZP c h=QP.C 0
 ·left
  intro k;have e:=congrArg (fun x:QP=>x.c k) h0;simp only [nI,QP.C0_c] at e;exact Rat.intCast_eq_zero_iff.1 e
 obtain ⟨n,hn⟩:=QP.ex_dg h0;exact .inr ⟨n,gO_ hn⟩
theorem Po.len_top {p:List I} {c:Nat→Int} (h:Po p c) {n:Nat} (h0:c n≠0) (h1:∀ i,n<i→c i=0):p.length=n+1:=by
 have h2:p.length≤n+1:=h.short fun k hk=>h1 k hk;have h3:¬ p.length≤n:=fun hx=>h0 (h.zero hx);omega
theorem qN {c d:Nat→Int} (h:∀ k,d k=0) (k:Nat):conv c d k=0:=nA fun i _=>by rw [h,Int.mul_zero]
theorem FF {c:Nat→Int} (h:Cop c):¬ ∀ k,c k=0:=fun hz=>by
 have:=h 0 fun k=>by rw [hz];exact Int.dvd_refl 0
 exact absurd (Int.zero_dvd.1 this) dd_
theorem FE {c:Nat→Int} (h:Cop c) (hz:∀ i,0<i→c i=0):(c 0).natAbs=1:=by
 have:=h (c 0) fun k=>by
  rcases Nat.eq_zero_or_pos k with e|e
  ·rw [e];exact Int.dvd_refl _
  rw [hz k e];exact Int.dvd_zero _
 have h2:(c 0).natAbs ∣ 1:=Int.natAbs_dvd_natAbs.2 this;exact Nat.dvd_one.1 h2
theorem FG {s c:Nat→Int} (h:Cop (conv s c)):Cop c:=fun u hu=>h u fun k=>PH fun i _=>Int.dvd_trans (hu _) (Int.dvd_mul_left ..)
theorem GG {s c d:Nat→Int} (hs:Cop s) (es:oA s) (ec:oA c) (ed:oA d) (h:∀ k,conv s c k=conv s d k):∀ k,c k=d k:=by
 have hne:ZP s es≠QP.C 0:=fun e=>FF hs fun k=>by
  have e1:=congrArg (fun x:QP=>x.c k) e;simp only [nI,QP.C0_c] at e1;exact Rat.intCast_eq_zero_iff.1 e1
 have h1:ZP s es*ZP c ec=ZP s es*ZP d ed:=by rw [← tG,← tG];exact PZ _ _ h
 intro k;have e1:=congrArg (fun x:QP=>x.c k) (QP.mul_can hne h1);simp only [nI] at e1;exact Rat.intCast_inj.1 e1
open Go Go.Kn
theorem NO (x y:Int):((x*y).natAbs:Int)=(x.natAbs:Int)*(y.natAbs:Int):=by rw [Int.natAbs_mul,Int.natCast_mul]
theorem Z2 {p:List I} {c:Nat→Int} (h:Po p c) {u:Int} (hu:∀ k,u ∣ c k):u ∣ ((cN p:Nat):Int):=C3 p 0 (Int.dvd_zero _) fun x hx=>by
 obtain ⟨k,hk⟩:=h.mem hx;rw [hk];exact hu k
theorem Pr.neg {c:Nat→Int} {n M:Nat} (h:Pr c n M):Pr (fun k=>-(c k)) n M:=⟨fun i hi=>by rw [h.z i hi];rfl,fun k=>by rw [Int.natAbs_neg];exact h.b k,by
 rcases h.p with h1|h1
 ·exact .inl fun u hu=>h1 u fun k=>Int.dvd_neg.1 (hu k)
 exact .inr fun k=>by rw [h1 k];rfl⟩
section
variable {σ:Nat→Int} {ds S G:Nat}
theorem XU (hσ:Cop σ) (hs0:σ ds≠0) (hs:∀ i,ds<i→σ i=0) (hS:∀ k,(σ k).natAbs≤S) {a b:List I} {α β:Nat→Int} {n n0 M0 M1:Nat} (ha:Po a (conv σ α)) (hb:Po b (conv σ β)) (pa:Pr α n0 M0) (hβ0:β n≠0) (hβ:∀ i,n<i→β i=0) (hB:∀ k,(β k).natAbs≤M1)
  (h1:1≤(min ds n+1)*(S*M1)) (hd:(2*((min ds n+1)*(S*M1))) ^ (n0+1 - n)*((min ds n0+1)*(S*M0))<4294967296 ^ 16) :
  ∃ (γ:Nat→Int) (w t:Int) (Q:Nat→Int),Po (aC (bN a b)) (conv σ γ)∧Pr γ (n - 1) ((2*M1) ^ (n0+1 - n)*M0)∧(n=0→∀ k,γ k=0)∧oA Q∧w≠0∧t≠0∧∀ k,w*α k=conv β Q k+t*γ k:=by
 have es:oA σ:=⟨ds+1,fun i hi=>hs i hi⟩;have etop:conv σ β (ds+n)=σ ds*β n:=pL hs hβ;have hbn:b.length=ds+n+1:=hb.len_top (by rw [etop];exact Int.mul_ne_zero hs0 hβ0) fun i hi=>oC (n:=ds+1) (m:=n+1) (fun j hj=>hs j hj) (fun j hj=>hβ j hj) i oo_
 obtain ⟨m,hm,hm0,hαm⟩:∃ m,a.length - (ds+n)=m∧m≤n0+1 - n∧∀ k,m+n≤k→α k=0:=by
  rcases KG pa.e with h0|⟨l,h0,h2⟩
  ·refine ⟨0,?_,Nat.zero_le _,fun k _=>h0 k⟩
   rw [ha.nil fun k=>qN h0 k];exact Nat.zero_sub _
  have hl:l≤n0:=Nat.le_of_not_lt fun hx=>h0 (pa.z l hx);have:a.length=ds+l+1:=ha.len_top (by rw [pL hs h2];exact Int.mul_ne_zero hs0 h0) fun i hi=>oC (n:=ds+1) (m:=l+1) (fun j hj=>hs j hj) (fun j hj=>h2 j hj) i oo_;exact ⟨l+1 - n,by omega,by omega,fun k hk=>h2 k oo_⟩
 have hM1:1≤M1:=by have:=hB n;omega
 have cB:∀ k,(conv σ β k).natAbs≤(min ds n+1)*(S*M1):=QE hS hB hs hβ;have cA:∀ k,(conv σ α k).natAbs≤(min ds n0+1)*(S*M0):=QE hS pa.b hs pa.z;have hRB:RemB ((conv σ β (ds+n)).natAbs:Int) (conv σ β (ds+n)).sign (conv σ β) (ds+n) m (conv σ α) :=
  NJ h1 (by rw [Int.natAbs_natCast];exact cB _) (SB _) cB m _ _ cA (Nat.lt_of_le_of_lt (Nat.mul_le_mul_right _ (Nat.pow_le_pow_right oo_ hm0)) hd)
 have hR:=ZD ha hb hbn (by rw [hm];exact hRB);rw [hm,etop,Int.sign_mul,NO] at hR;have hlc:(β n).sign*β n=((β n).natAbs:Int):=JR _;rw [MS (n:=n) hs (JR (σ ds)) hlc hβ m α hαm] at hR;obtain ⟨Q,hQ,hQe⟩:=HP (a:=((β n).natAbs:Int)) (o:=(β n).sign) (d:=β) (n:=n) m α;have hρz:=F3 hlc hβ m α hαm;have hρb:=O1 (n:=n) (a:=((β n).natAbs:Int)) (o:=(β n).sign) (d:=β) (by rw [Int.natAbs_natCast];exact hB n) (SB _) hB m M0 α pa.b;have hw:((β n).natAbs:Int) ^ m≠0:=Int.pow_ne_zero oo_;have hu:((σ ds).natAbs:Int) ^ m≠0:=Int.pow_ne_zero oo_;have hMm:(2*M1) ^ m*M0≤(2*M1) ^ (n0+1 - n)*M0:=Nat.mul_le_mul_right _ (Nat.pow_le_pow_right oo_ hm0);generalize uF ((β n).natAbs:Int) (β n).sign β n m α=ρ at *;have eρ:oA ρ:=⟨n,hρz⟩
 by_cases hz:bN a b=[]
 ·have hρ0:∀ k,ρ k=0:=by
   refine GG hσ es eρ ⟨0,fun i _=>rfl⟩ (d:=fun _=>0) fun k=>?_;rw [qN (fun _=>rfl)];have:=hR.zero (k:=k) (by rw [hz];exact Nat.zero_le _);exact (Int.mul_eq_zero.1 this).resolve_left hu
  refine ⟨fun _=>0,((β n).natAbs:Int) ^ m,1,Q,?_,⟨fun _ _=>rfl,fun _=>Nat.zero_le _,.inr fun _=>rfl⟩,fun _ _=>rfl,hQ,hw,by decide,fun k=>by rw [hQe k,hρ0 k];rfl⟩;refine (vV hR).cast fun k=>?_;rw [qN (fun _=>rfl),hR.zero (k:=k) (by rw [hz];exact Nat.zero_le _),Int.zero_fdiv]
 obtain ⟨P,hP,hC,hE⟩:∃ P:Nat→Int,Po (aC (bN a b)) P∧Cop P∧∀ k,((cN (bN a b):Nat):Int)*P k=((σ ds).natAbs:Int) ^ m*conv σ ρ k:=⟨_,vV hR,JF hR hz,yL hR⟩;have hcp:=hR.cpos hz;obtain ⟨t,ht⟩:=Z2 hR (u:=((σ ds).natAbs:Int) ^ m) fun k=>Int.dvd_mul_right ..
 have ht0:t≠0:=fun e=>by rw [e,Int.mul_zero] at ht;omega
 have hE':∀ k,t*P k=conv σ ρ k:=fun k=>by
  have:=hE k;rw [ht,Int.mul_assoc] at this;exact Int.eq_of_mul_eq_mul_left hu this
 have eP:=hP.ends
 obtain ⟨γ,eγ,hγ⟩:=C4 hσ es eP (by
  refine QP.Dv.scale (t:=(t:Rat)) (fun e=>ht0 (Rat.intCast_eq_zero_iff.1 e)) ⟨ZP ρ eρ,?_⟩;rw [← eT_ eP,← tG es eρ]
  exact PZ _ _ hE')
 have hPe:P=conv σ γ:=funext hγ
 have htγ:∀ k,t*γ k=ρ k:=GG hσ es (QM eγ t) eρ fun k=>by rw [tN];show t*conv σ γ k=_;rw [← hγ,hE']
 refine ⟨γ,((β n).natAbs:Int) ^ m,t,Q,hP.cast hγ,⟨fun i hi=>?_,fun k=>?_,.inl (FG (hPe ▸ hC))⟩,fun hn k=>?_,hQ,hw,ht0,fun k=>by rw [hQe k,htγ k]⟩
 ·have:=hρz i oo_
  rw [← htγ] at this;exact (Int.mul_eq_zero.1 this).resolve_left ht0
 ·refine Nat.le_trans ?_ (Nat.le_trans (hρb k) hMm)
  rw [← htγ,Int.natAbs_mul];exact Nat.le_mul_of_pos_left _ oo_
 have:=hρz k oo_;rw [← htγ] at this;exact (Int.mul_eq_zero.1 this).resolve_left ht0
theorem VL (p q:List I) (k:Nat) (a:List I):dB p q k a [] = .inl (a,[]):=by cases k<;>rfl
def Gd (α β γ:QP):Prop:=∀ e,(QP.Dv e α∧QP.Dv e β) ↔ QP.Dv e γ
theorem OC {α β γ Q:Nat→Int} (ea:oA α) (eb:oA β) (ec:oA γ) (eQ:oA Q) {w t:Int} (hw:w≠0) (ht:t≠0) (h:∀ k,w*α k=conv β Q k+t*γ k) {δ:QP} (hg:Gd (ZP β eb) (ZP γ ec) δ):Gd (ZP α ea) (ZP β eb) δ:=fun e=>by
 have hw':(w:Rat)≠0:=fun e=>hw (Rat.intCast_eq_zero_iff.1 e);have ht':(t:Rat)≠0:=fun e=>ht (Rat.intCast_eq_zero_iff.1 e)
 have E1:QP.C w*ZP α ea=ZP β eb*ZP Q eQ+QP.C t*ZP γ ec:=QP.ex fun k=>by
  rw [QP.C_mul,QP.add_c,QP.C_mul,← tG,nI,nI,nI,← Rat.intCast_mul,← Rat.intCast_mul,h k,Rat.intCast_add]
 rw [← hg e]
 constructor
 ·rintro ⟨h1,h2⟩
  refine ⟨h2,QP.Dv.scale ht' ?_⟩
  have h3:QP.C t*ZP γ ec=QP.C w*ZP α ea+QP.C (-1)*(ZP β eb*ZP Q eQ):=by
   rw [E1];exact QP.ex fun k=>by simp only [QP.add_c,QP.C_mul];grind
  rw [h3];exact (h1.mul_l _).add ((h2.mul _).mul_l _)
 rintro ⟨h1,h2⟩;refine ⟨QP.Dv.scale hw' ?_,h1⟩;rw [E1];exact (h1.mul _).add (h2.mul_l _)
theorem OD {α β:Nat→Int} (ea:oA α) (eb:oA β) (h:∀ k,β k=0):Gd (ZP α ea) (ZP β eb) (ZP α ea):=fun e=>by
 have:ZP β eb=QP.C 0:=QP.ex fun k=>by rw [nI,h,QP.C0_c];rfl
 exact ⟨fun h=>h.1,fun h=>⟨h,by rw [this];exact .zero e⟩⟩
theorem bo_ {f n0 n1 M0 M1 n:Nat} (h:okT S ds G (f+1) n0 n1 M0 M1=true) (hn:n≤n1):M0≤G∧M1≤G∧1≤(min ds n+1)*(S*(if n=0 then 1 else M1))∧(2*((min ds n+1)*(S*(if n=0 then 1 else M1)))) ^ (n0+1 - n)*((min ds n0+1)*(S*M0))<4294967296 ^ 16∧(n=0∨okT S ds G f n (n - 1) (if n=0 then 1 else M1) (if n=1 then 1 else (2*(if n=0 then 1 else M1)) ^ (n0+1 - n)*M0)=true):=by
 unfold okT at h;rw [Bool.and_eq_true,Bool.and_eq_true,List.all_eq_true] at h;obtain ⟨⟨h1,h2⟩,h3⟩:=h;have h4:=h3 n (List.mem_range.2 oo_);rw [Bool.and_eq_true,Bool.and_eq_true,Bool.or_eq_true] at h4;obtain ⟨⟨h5,h6⟩,h7⟩:=h4;exact ⟨of_decide_eq_true h1,of_decide_eq_true h2,of_decide_eq_true h5,of_decide_eq_true h6,h7.imp of_decide_eq_true id⟩
theorem aK_ (hσ:Cop σ) (hs0:σ ds≠0) (hs:∀ i,ds<i→σ i=0) (hS:∀ k,(σ k).natAbs≤S) (p q:List I):∀ (f n0 n1 M0 M1 k:Nat) (a b:List I) (α β:Nat→Int) (pa:Pr α n0 M0) (pb:Pr β n1 M1),okT S ds G f n0 n1 M0 M1=true→Po a (conv σ α)→Po b (conv σ β)→gmP b<k →
  ∃ (a' b':List I) (γ:Nat→Int) (n:Nat) (pc:Pr γ n G),dB p q k a b = .inl (a',b')∧Po a' (conv σ γ)∧Gd (ZP α pa.e) (ZP β pb.e) (ZP γ pc.e)
 | 0,_,_,_,_,_,_,_,_,_,_,_,h,_,_,_=>absurd h (by unfold okT;decide)
 | f+1,n0,n1,M0,M1,0,a,b,α,β,pa,pb,h,ha,hb,hk=>absurd hk (Nat.not_lt_zero _)
 | f+1,n0,n1,M0,M1,k+1,a,b,α,β,pa,pb,h,ha,hb,hk=>by
  rcases KG pb.e with h0|⟨n,h0,h2⟩
  ·have:b=[]:=hb.nil fun k=>qN h0 k
   subst this;obtain ⟨g1,g2,_⟩:=bo_ h (Nat.zero_le _);exact ⟨a,[],α,n0,⟨pa.z,fun k=>Nat.le_trans (pa.b k) g1,pa.p⟩,rfl,ha,OD _ _ h0⟩
  have hn1:n≤n1:=Nat.le_of_not_lt fun hx=>h0 (pb.z n hx);obtain ⟨g1,g2,g3,g4,g5⟩:=bo_ h hn1;have hcb:Cop β:=pb.p.resolve_right fun hx=>h0 (hx n)
  have hbb:∀ k,(β k).natAbs≤(if n=0 then 1 else M1):=fun k=>by
   split
   ·next e =>
    subst e;rcases Nat.eq_zero_or_pos k with e|e
    ·rw [e,FE hcb h2];exact Nat.le_refl _
    rw [h2 k e];exact Nat.zero_le _
   exact pb.b k
  generalize (if n=0 then 1 else M1)=B at *;obtain ⟨γ,w,t,Q,c1,c2,c3,c4,c5,c6,c7⟩:=XU hσ hs0 hs hS ha hb pa h0 h2 hbb g3 g4
  have hbl:0<b.length:=by
   rcases Nat.eq_zero_or_pos b.length with e|e
   ·exact absurd (hb.zero (k:=ds+n) oo_) (by rw [pL hs h2];exact Int.mul_ne_zero hs0 h0)
   exact e
  have d1:decide (0<(b.length:Int))=true:=decide_eq_true oo_
  have d2:(aY a||aY b)=false:=by rw [ha.nb,hb.nb];rfl
  have d3:=D7 ⟨ha.l,hb.l⟩ d2 d1
  have e1:dB p q (k+1) a b=dB p q k b (aC (bN a b)):=by
   conv=>lhs;unfold dB
   rw [d1,d2];rfl
  have hpb:Pr β n B:=⟨h2,hbb,.inl hcb⟩;rcases g5 with hn|g5
  ·have hz:=c3 hn
   have:aC (bN a b)=[]:=c1.nil fun k=>qN hz k;rw [e1,this,VL];exact ⟨b,[],β,n1,⟨pb.z,fun k=>Nat.le_trans (pb.b k) g2,pb.p⟩,rfl,hb,OC pa.e pb.e c2.e c4 c5 c6 c7 (OD _ _ hz)⟩
  rw [e1]
  have c2':Pr γ (n - 1) (if n=1 then 1 else (2*B) ^ (n0+1 - n)*M0):=⟨c2.z,fun k=>by
   split
   ·next e =>
    subst e;rcases c2.p with h3|h3
    ·rcases Nat.eq_zero_or_pos k with e|e
     ·rw [e,FE h3 c2.z];exact Nat.le_refl _
     rw [c2.z k e];exact Nat.zero_le _
    rw [h3 k];exact Nat.zero_le _
   exact c2.b k,c2.p⟩
  obtain ⟨a',b',γ',n',pc,r1,r2,r3⟩:=aK_ hσ hs0 hs hS p q f n (n - 1) B _ k b _ β γ hpb c2' g5 hb c1 oo_;exact ⟨a',b',γ',n',pc,r1,r2,OC pa.e pb.e c2.e c4 c5 c6 c7 r3⟩
theorem cp_ (hσ:Cop σ) (hs0:σ ds≠0) (hs:∀ i,ds<i→σ i=0) (hS:∀ k,(σ k).natAbs≤S) {p q:List I} {f n0 n1 M0 M1:Nat} {α β:Nat→Int} (pa:Pr α n0 M0) (pb:Pr β n1 M1) (h:okT S ds G f n0 n1 M0 M1=true) (ha:Po (aC p) (conv σ α)) (hb:Po (aC q) (conv σ β)) :
  ∃ (γ:Nat→Int) (n:Nat) (pc:Pr γ n G),Po (aX p q) (conv σ γ)∧Gd (ZP α pa.e) (ZP β pb.e) (ZP γ pc.e)∧∀ m,(∀ i,m<i→conv σ γ i=0)→0≤conv σ γ m:=by
 obtain ⟨a',b',γ,n,pc,r1,r2,r3⟩:=aK_ hσ hs0 hs hS p q f n0 n1 M0 M1 (gmP (aC q)+1) _ _ α β pa pb h ha hb (Nat.lt_succ_self _);unfold aX;rw [r1]
 show ∃ (γ:Nat→Int) (n:Nat) (pc:Pr γ n G),Po (bif (((a'.length:Int)==0)||decide (0<(Z.signW (a'.getD (a'.length - 1) I0).dec).1)) then a' else fE ([]:List I) a' (fun (y:I) (z:I)=>E (Z.sub y.dec z.dec))) (conv σ γ)∧_
 by_cases h0:a'=[]
 ·subst h0
  rw [show (([]:List I).length:Int)==0 from rfl,Bool.true_or,cond_true];exact ⟨γ,n,pc,r2,r3,fun m hm=>by rw [r2.zero (Nat.zero_le _)];exact Int.le_refl _⟩
 obtain ⟨t,t1,t2,t3⟩:=r2.top h0;rw [show ((a'.length:Int)==0)=false from beq_eq_false_iff_ne.2 oo_,Bool.false_or,t1,Nat.add_sub_cancel,r2.get,cP,lW (r2.B t)]
 have key:∀ m,(∀ i,m<i→conv σ γ i=0)→conv σ γ m=0∨m=t:=fun m hm=>by
  rcases Nat.lt_trichotomy m t with h1|h1|h1
  ·exact absurd (hm t h1) t2
  ·exact .inr h1
  exact .inl (t3 m h1)
 by_cases hp:0<(conv σ γ t).sign
 ·rw [decide_eq_true hp,cond_true]
  refine ⟨γ,n,pc,r2,r3,fun m hm=>?_⟩;rcases key m hm with h1|h1
  ·rw [h1];exact Int.le_refl _
  rw [h1];have:=Int.sign_pos_iff.1 hp;omega
 rw [decide_eq_false hp,cond_false]
 have hn:conv σ (fun k=>-(γ k))=fun k=>-(conv σ γ k):=by
  have:=tN (-1:Int) σ γ;rw [show (fun k=>-(γ k))=fun k=>-1*γ k from funext fun k=>by rw [Int.neg_one_mul],this]
  exact funext fun k=>by rw [Int.neg_one_mul]
 refine ⟨fun k=>-(γ k),n,pc.neg,?_,fun e=>?_,fun m hm=>?_⟩
 ·rw [hn]
  exact N0 E6 r2 (fun k=>by rw [cP,cP,PG B0 (r2.B k),Int.zero_sub]) (fun k=>by have:=r2.B k;unfold dR at *;rwa [Int.natAbs_neg]) (fun k _ h=>by rw [h];rfl)
 ·rw [r3 e]
  have e1:ZP (fun k=>-(γ k)) pc.neg.e=QP.C (-1)*ZP γ pc.e:=QP.ex fun k=>by rw [QP.C_mul,nI,nI,Rat.intCast_neg,Rat.neg_mul,Rat.one_mul]
  rw [e1];exact ⟨fun h=>h.mul_l _,fun h=>h.scale dd_⟩
 rw [hn] at hm ⊢
 show 0 ≤ -(conv σ γ m)
 rcases key m (fun i hi=>by have h:-(conv σ γ i)=0:=hm i hi;omega) with h1|h1
 ·rw [h1];decide
 rw [h1];have:¬ 0<conv σ γ t:=fun hx=>hp (Int.sign_pos_iff.2 hx);omega
end
open Go Go.Kn
theorem gE_ {q:Rat} {n d:Int} {k:Nat} (h:(n:Rat)=(d:Rat)*q) (h0:0<d) (hn:n.natAbs<2 ^ k) (hd:d.natAbs<2 ^ k):Sz q k:=by
 have e:=congrArg Int.natAbs (bj_ h);rw [Int.natAbs_mul,Int.natAbs_mul,Int.natAbs_natCast] at e;have hr:=q.reduced;have k1:q.den ∣ d.natAbs:=(Nat.Coprime.symm hr).dvd_of_dvd_mul_left (by rw [e];exact Nat.dvd_mul_left ..);have k2:q.num.natAbs ∣ n.natAbs:=Nat.Coprime.dvd_of_dvd_mul_right hr (by rw [← e];exact Nat.dvd_mul_right ..);refine ⟨?_,Nat.lt_of_le_of_lt (Nat.le_of_dvd oo_ k1) hd⟩
 by_cases hz:n.natAbs=0
 ·rw [hz,Nat.zero_mul] at e
  rcases Nat.mul_eq_zero.1 e with h1|h1
  ·rw [h1];exact Nat.pow_pos dd_
  omega
 exact Nat.lt_of_le_of_lt (Nat.le_of_dvd oo_ k2) hn
theorem l25 {l:List I} (h:l.length≤25):l.length≤1000:=Nat.le_trans h dd_
theorem aG_ (x y:Rt):jZ [x,y]=(dA x&&dA y):=by
 unfold jZ pH o8
 have e:lH [x,y] (fun y=>lA y) ([x,y].length+1) 0=bif dA x then (bif dA y then .inl 2 else .inr (W.cv 1)) else .inr (W.cv 0):=by
  show (bif lA x then _ else (bif lA y then _ else _))=_
  unfold lA
  cases dA x<;>cases dA y<;>rfl
 rw [e]
 cases dA x<;>cases dA y<;>rfl
section
variable {p:List I} {c:Nat→Int} {a b:Rt} {N D M F:Int}
end
open Go Go.Kn
def ff (i:Int):Nat→Int
 | 0=>1
 | k+1=>ff i k*(i - k)
def fac:Nat→Int
 | 0=>1
 | n+1=>fac n*((n+1:Nat):Int)
def wt (n i k:Nat):Int:=ff i k*fac (n - k)
def bs (γ:Nat→Int) (n i:Nat):Int:=jA (fun k=>wt n i k*γ k) (i+1)
def bin:Nat→Nat→Nat
 | _,0=>1
 | 0,_+1=>0
 | n+1,k+1=>bin n k+bin n (k+1)
section
variable {p:List I} {a b:Rt} {γ:Nat→Int} {n B:Nat}
theorem TU {v:Int} (h:dR v):(E (Z.of v)).1.bad=false:=by
 have:=OB h;unfold gdI at this;rw [Bool.and_eq_true] at this
 simpa using this.1
theorem FV {u v G:Int} (hu:dR u) (hG:dR G) (h0:0<G) (h:G*v=u):Z.quo (Z.of u) (Z.of G)=Z.of v:=by
 rw [zJ hu hG h0,← h,Int.mul_ediv_cancel_left _ oo_]
theorem d0_ (out0:List I) (i0:Nat) {N:Nat} {G:Int} {v l:Nat→Int} (h0:0<G) (hG:dR G) (hv:∀ k,k<N→dR (v k)) (hl:∀ k,k<N→G*l k=v k) (hlen:out0.length=N) (hc:dL out0=E (Z.of G)):∀ (f k:Nat),N - k<f→k≤N →
  (i6 p a b out0 i0 f k ((List.range N).map fun i=>E (Z.of (if i<k then l i else v i)))).2=(List.range N).map fun i=>E (Z.of (l i))
 | 0,k,h,_=>absurd h (Nat.not_lt_zero _)
 | f+1,k,h,hk=>by
  unfold i6;rw [hlen];rcases Nat.lt_or_eq_of_le hk with h1|h1
  ·rw [decide_eq_true oo_,cond_true,hc,KE,if_pos h1,if_neg (Nat.lt_irrefl _),cP,cP,FV (hv k h1) hG h0 (hl k h1)]
   have e:((List.range N).map fun i=>E (Z.of (if i<k then l i else v i))).set k (E (Z.of (l k)))=(List.range N).map fun i=>E (Z.of (if i<k+1 then l i else v i)):=by
    apply List.ext_getElem
    ·simp
    intro j hj hj';simp only [List.length_set,List.length_map,List.length_range] at hj;rw [List.getElem_set];simp only [List.getElem_map,List.getElem_range]
    by_cases hjk:k=j
    ·subst hjk;rw [if_pos O,if_pos oo_]
    rw [if_neg hjk]
    by_cases h2:j<k
    ·rw [if_pos h2,if_pos oo_]
    rw [if_neg h2,if_neg oo_]
   rw [e];exact d0_ out0 i0 h0 hG hv hl hlen hc f (k+1) oo_ h1
  subst h1;rw [decide_eq_false oo_,cond_false]
  exact List.map_congr_left fun i hi=>by rw [if_pos (List.mem_range.1 hi)]
end
end Go.Num
