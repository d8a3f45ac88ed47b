/- Lemmas: what they ask stands in their statements. -/
import Derived.Test.YtkjjponijamaoaaGreatDoorTH8xGC
import Derived.ChangeArms
set_option linter.unusedSimpArgs false
set_option linter.unusedVariables false
set_option maxHeartbeats 8000000
set_option maxRecDepth 20000
namespace Go.Num
open Go Go.Kn
theorem QP (l:List I):(mkP l).length≤max l.length 1:=by
  unfold mkP
  cases l.all gdI
  · exact Nat.le_max_right _ _
  simp only [cond_true]
  split
  · exact Nat.le_trans (FA l) (Nat.le_max_left _ _)
  exact Nat.le_max_right _ _
theorem KF {c:Bool} {x y:List I} {n:Nat} (h:x.length≤n) (k:y.length≤n):(bif c then x else y).length≤n:=by cases c<;>assumption
theorem KK {p q:List I} (f:I→I→I) {n:Nat} (hp:p.length≤n) (hq:q.length≤n) (h1:1≤n) (h2:n≤1000):(kE p q f).length≤n:=by
  rw [wV f oo_ oo_];refine KF (Nat.le_trans (QP _) ?_) h1;rw [List.length_map,List.length_range];omega
theorem cw_ {p q:List I} {n:Nat} (hp:p.length≤n) (hq:q.length≤n) (h1:1≤n) (h2:n≤1000):(kJ p q).length≤n:=KK _ hp hq h1 h2
theorem KE {p q:List I} {n:Nat} (hp:p.length≤n) (hq:q.length≤n) (h1:1≤n) (h2:n≤1000):(bJ p q).length≤n:=KK _ hp hq h1 h2
theorem XL {p q:List I} {n m:Nat} (hp:p.length≤n) (hq:q.length≤m) (h1:1≤n+m - 1):(aW p q).length≤n+m - 1:=by
  unfold aW;refine KF h1 (KF (Nat.zero_le _) ?_);rw [wR];refine Nat.le_trans (QP _) ?_;rw [List.length_map,List.length_range];omega
section
variable {p:List I} {a b:Rt}
theorem WU (p:List I) (a b:Rt):∀ (f:Nat) (out:List I) (i:Nat),(∀ s,d9 p a b f out i = .inl s→s.1.length≤out.length+f)∧(∀ r,d9 p a b f out i = .inr r→r.1=[])
  | 0,out,i=>⟨fun s h=>by cases h;exact Nat.le_refl _,fun r h=>by cases h⟩
  | f+1,out,i=>by
    unfold d9
    cases decide (((i:Nat):Int)<((p.length:Nat):Int))
    · exact ⟨fun s h=>by cases h;exact Nat.le_add_right _ _,fun r h=>by cases h⟩
    simp only [cond_true,ap]
    cases (eZ p a b out i ((eT (((p.length:Nat):Int) - 1) ((i:Nat):Int)).length+1) 0 I0).2.1.bad
    · obtain ⟨h1,h2⟩:=WU p a b f (out++[(eZ p a b out i ((eT (((p.length:Nat):Int) - 1) ((i:Nat):Int)).length+1) 0 I0).2]) (i+1)
      refine ⟨fun s h=>?_,fun r h=>h2 r h⟩;have:=h1 s h;rw [List.length_append,List.length_cons,List.length_nil] at this;omega
    exact ⟨fun s h=>(by cases h),fun r h=>(by cases h;rfl)⟩
theorem WV (p:List I) (a b:Rt) (out0:List I) (i0:Nat):∀ (f k:Nat) (t:List I),(gF p a b out0 i0 f k t).2.length=t.length
  | 0,k,t=>rfl
  | f+1,k,t=>by
    unfold gF
    cases decide (((k:Nat):Int)<((out0.length:Nat):Int))
    · rfl
    rw [cond_true,WV p a b out0 i0 f (k+1),List.length_set]
theorem RP (hp:p.length≤100) (a b:Rt):(cW p a b).1.length≤1000:=by
  unfold cW
  cases (dR p || !kP [a,b])
  · cases dR (dY p a (eP b a))
    · simp only [cond_false]
      obtain ⟨h1,h2⟩:=WU p a b (p.length+1) [] 0
      cases hx:d9 p a b (p.length+1) [] 0 with
      | inr r=>rw [show (sm _ (fun r=>r) (Sum.inr r:(List I×Nat) ⊕ (List I×Bool)))=r from rfl,h2 r hx];decide
      | inl s =>
        have:=h1 s hx;rw [List.length_nil] at this;simp only [sm,ap]
        cases ((Z.signW (dN s.1).dec).1 != 0)
        · simp only [cond_false];omega
        simp only [cond_true];rw [WV];omega
    exact Nat.zero_le _
  exact Nat.zero_le _
end
theorem I9 (l:List I) (f:I→Bool):∀ (k i:Nat),l.length - i<k→(∃ j:Nat,j<l.length∧mL l f k i = .inr (W.cv (j:Int))∧(l.drop i).any f=true)∨(∃ j,mL l f k i = .inl j∧(l.drop i).any f=false)
  | 0,i,h=>absurd h (Nat.not_lt_zero _)
  | k+1,i,h=>by
    unfold mL
    by_cases hi:i<l.length
    · rw [decide_eq_true oo_,cond_true,yA l hi,List.any_cons]
      cases hf:f (l.getD i I0)
      · simp only [cond_false,Bool.false_or]
        exact I9 l f k (i+1) oo_
      exact .inl ⟨i,hi,rfl,rfl⟩
    rw [decide_eq_false oo_,cond_false,List.drop_of_length_le oo_];exact .inr ⟨i,rfl,rfl⟩
theorem G7 (l:List I) (f:I→Bool) (hl:l.length≤1000):t8 l f=l.any f:=by
  unfold t8 u9;rcases I9 l f (l.length+1) 0 oo_ with ⟨j,hj,h1,h2⟩|⟨j,h1,h2⟩
  · rw [h1]
    show decide (0≤(W.cv (j:Int)).1)=_
    rw [cvE oo_,decide_eq_true oo_];rw [List.drop_zero] at h2;exact h2.symm
  rw [h1];rw [List.drop_zero] at h2;rw [h2];rfl
open Go Go.Kn
theorem LB {p:List I} (l1:p.length≤1000) (x:Rt):i1 p x=((aZ p x).s,(aZ p x).ok):=by
  unfold i1 aZ;rw [YW x l1]
  cases hb:(eX p x).1.bad
  · rfl
  have h0:Z.signW (eX p x).dec=wl 0:=W.ext (by
    show (eX p x).dec.sign=0
    have hn:(eX p x).dec.o=none:=by rw [I.dec,wT (by unfold R.good;rw [hb];rfl)];rfl
    unfold Z.sign;rw [hn])
  rw [h0];rfl
structure Az (q:Rat) (a b:Nat):Prop where
  n:q.num.natAbs<2 ^ a
  d:q.den<2 ^ b
theorem Sz.az {q:Rat} {k:Nat} (h:Sz q k):Az q k k:=⟨h.n,h.d⟩
theorem Az.sz {q:Rat} {a b k:Nat} (h:Az q a b) (h1:a≤k) (h2:b≤k):Sz q k:=⟨Nat.lt_of_lt_of_le h.n (yG h1),Nat.lt_of_lt_of_le h.d (yG h2)⟩
section
variable {p q:Rat} {a b a' b':Nat}
theorem Az.mono (h:Az q a b) (h1:a≤a') (h2:b≤b'):Az q a' b':=⟨Nat.lt_of_lt_of_le h.n (yG h1),Nat.lt_of_lt_of_le h.d (yG h2)⟩
theorem Az.bn (h:Az q a b) (hk:a≤512):fE q.num:=uP h.n hk
theorem Az.bd (h:Az q a b) (hk:b≤512):fE (q.den:Int):=uP (by simpa using h.d) hk
theorem XP {q:Rat} {n d:Int} (h:(n:Rat)=(d:Rat)*q):q.num*d=n*q.den:=by
  have h1:=Rat.num_divInt_den q;have hd:=@oF q
  by_cases h0:d=0
  · subst h0
    have:n=0:=Rat.intCast_eq_zero_iff.1 (by rw [h];exact Rat.zero_mul _);rw [this];omega
  have e:q=Rat.divInt n d:=by
    rw [Rat.divInt_eq_div,h,Rat.div_def,Rat.mul_comm,← Rat.mul_assoc,Rat.inv_mul_cancel _ (fun e=>h0 (Rat.intCast_eq_zero_iff.1 e)),Rat.one_mul]
  rw [e] at h1
  conv at h1=>lhs;rw [← e]
  exact (Rat.divInt_eq_divInt_iff oo_ h0).1 h1
theorem RO {n d:Int} (h:(n:Rat)=(d:Rat)*q) (h0:0<d) (hn:n.natAbs<2 ^ a) (hd:d.natAbs<2 ^ b):Az q a b:=by
  have e:=congrArg Int.natAbs (XP h);rw [Int.natAbs_mul,Int.natAbs_mul,Int.natAbs_natCast] at e;have hr:=q.reduced;have k1:q.den ∣ d.natAbs:=(Nat.Coprime.symm hr).dvd_of_dvd_mul_left (by rw [e];exact Nat.dvd_mul_left ..);have k2:q.num.natAbs ∣ n.natAbs:=Nat.Coprime.dvd_of_dvd_mul_right hr (by rw [← e];exact Nat.dvd_mul_right ..);refine ⟨?_,Nat.lt_of_le_of_lt (Nat.le_of_dvd oo_ k1) hd⟩
  by_cases hz:n.natAbs=0
  · rw [hz,Nat.zero_mul] at e
    rcases Nat.mul_eq_zero.1 e with h1|h1
    · rw [h1];exact Nat.pow_pos dd_
    omega
  exact Nat.lt_of_le_of_lt (Nat.le_of_dvd oo_ k2) hn
theorem Az.mul (h:Az p a b) (g:Az q a' b'):Az (p*q) (a+a') (b+b'):=by
  constructor
  · rw [Rat.num_mul]
    refine Nat.lt_of_le_of_lt (Int.natAbs_ediv_le_natAbs _ _) ?_;rw [Int.natAbs_mul];exact sZ h.n g.n
  rw [Rat.den_mul];exact Nat.lt_of_le_of_lt (Nat.div_le_self _ _) (sZ h.d g.d)
theorem Az.neg (h:Az p a b):Az (-p) a b:=⟨by rw [Rat.neg_num,Int.natAbs_neg];exact h.n,h.d⟩
theorem RZ {n m:Int} {d e c:Nat} (h1:n.natAbs<2 ^ a) (h2:e<2 ^ b') (h3:m.natAbs<2 ^ a') (h4:d<2 ^ b) (k1:a+b'<c) (k2:a'+b<c):(n*e+m*d).natAbs<2 ^ c:=by
  obtain ⟨c,rfl⟩:∃ k,c=k+1:=⟨c - 1,by omega⟩;have x:=Nat.lt_of_lt_of_le (sZ h1 h2) (yG (show a+b'≤c by omega));have y:=Nat.lt_of_lt_of_le (sZ h3 h4) (yG (show a'+b≤c by omega));have z:=Int.natAbs_add_le (n*e) (m*d);rw [Int.natAbs_mul,Int.natAbs_mul,Int.natAbs_natCast,Int.natAbs_natCast] at z;rw [Nat.pow_succ];omega
theorem Az.add {c:Nat} (h:Az p a b) (g:Az q a' b') (k1:a+b'<c) (k2:a'+b<c):Az (p+q) c (b+b'):=by
  constructor
  · rw [Rat.num_add]
    exact Nat.lt_of_le_of_lt (Int.natAbs_ediv_le_natAbs _ _) (RZ h.n g.d g.n h.d k1 k2)
  rw [Rat.den_add];exact Nat.lt_of_le_of_lt (Nat.div_le_self _ _) (sZ h.d g.d)
theorem Az.sub {c:Nat} (h:Az p a b) (g:Az q a' b') (k1:a+b'<c) (k2:a'+b<c):Az (p - q) c (b+b'):=by rw [Rat.sub_eq_add_neg];exact h.add g.neg k1 k2
theorem Az.inv (h:Az p a b) (h0:p≠0):Az p⁻¹ b a:=by
  have hn:p.num≠0:=fun h=>h0 (Rat.num_eq_zero.1 h)
  constructor
  · rw [Rat.num_inv,Int.natAbs_mul,Int.natAbs_sign_of_ne_zero hn,Nat.one_mul,Int.natAbs_natCast];exact h.d
  rw [Rat.den_inv,if_neg hn];exact h.n
theorem Az.int {n:Int} (h:n.natAbs<2 ^ a):Az (n:Rat) a 1:=⟨h,(by show 1<2 ^ 1;decide)⟩
theorem PV {x y:Rt} (hx:x.At p) (hy:y.At q) (hp:Az p a b) (hq:Az q a' b') (h:a+a'≤512) (h':b+b'≤512):(fO x y).At (p*q) :=
  ao_ hx hy ((hp.mul hq).bn h) ((hp.mul hq).bd h')
theorem UQ {x' y':Rt} (ha:x'.At p) (hb:y'.At q) (hp:Az p a b) (hq:Az q a' b') (h1:a+b'<512) (h2:a'+b<512) (h3:b+b'≤512):(dP x' y').At (p+q):=by
  unfold dP;rw [oA ha,oA hb];simp only [Bool.not_true,Bool.or_false,cond_false];have ia:=At.is ha;have ib:=At.is hb;rw [ia.en,ia.ed,ib.en,ib.ed];simp only [dB];have hdp:=@oF p;have hdq:=@oF q
  have hg:0<((Int.gcd (p.den:Int) (q.den:Int):Nat):Int):=by
    have:=Int.gcd_pos_of_ne_zero_right (p.den:Int) (show (q.den:Int)≠0 by omega);omega
  have hbg:=LY (u:=(p.den:Int)) ib.hd oo_;have g1:((Int.gcd (p.den:Int) (q.den:Int):Nat):Int) ∣ (p.den:Int):=Int.gcd_dvd_left ..;have g2:((Int.gcd (p.den:Int) (q.den:Int):Nat):Int) ∣ (q.den:Int):=Int.gcd_dvd_right ..;rw [BE ia.hd ib.hd,zF ib.hd hbg hg,zF ia.hd hbg hg];generalize ((Int.gcd (p.den:Int) (q.den:Int):Nat):Int)=G at *;obtain ⟨x,hx⟩:=g1;obtain ⟨y,hy⟩:=g2
  have q1:(p.den:Int) / G=x:=by rw [hx];exact Int.mul_ediv_cancel_left _ oo_
  have q2:(q.den:Int) / G=y:=by rw [hy];exact Int.mul_ediv_cancel_left _ oo_
  rw [q1,q2]
  have x0:0<x:=by rw [hx] at hdp;exact Int.pos_of_mul_pos_right hdp hg
  have y0:0<y:=by rw [hy] at hdq;exact Int.pos_of_mul_pos_right hdq hg
  have xl:x≤p.den:=by rw [hx];have:=Int.mul_le_mul_of_nonneg_right (show (1:Int)≤G by omega) (Int.le_of_lt x0);omega
  have yl:y≤q.den:=by rw [hy];have:=Int.mul_le_mul_of_nonneg_right (show (1:Int)≤G by omega) (Int.le_of_lt y0);omega
  have x1:x.toNat<2 ^ b:=Nat.lt_of_le_of_lt oo_ hp.d;have y1:y.toNat<2 ^ b':=Nat.lt_of_le_of_lt oo_ hq.d
  have xe:x=(x.toNat:Int):=by omega
  have ye:y=(y.toNat:Int):=by omega
  have bx:fE x:=uP (k:=b) (by rw [xe,Int.natAbs_natCast];exact x1) oo_
  have by':fE y:=uP (k:=b') (by rw [ye,Int.natAbs_natCast];exact y1) oo_
  rw [o4 ia.hn by',o4 ib.hn bx,o4 bx ib.hd]
  have t1:(p.num*y).natAbs<2 ^ (a+b'):=by rw [Int.natAbs_mul];exact sZ hp.n oo_
  have t2:(q.num*x).natAbs<2 ^ (a'+b):=by rw [Int.natAbs_mul];exact sZ hq.n oo_
  have t3:(x*(q.den:Int)).natAbs<2 ^ (b+b'):=by rw [Int.natAbs_mul];exact sZ oo_ (by simpa using hq.d)
  rw [EP (uP t1 oo_) (uP t2 oo_)]
  have t4:(p.num*y+q.num*x).natAbs<2 ^ (max (a+b') (a'+b)+1):=by
    have u1:=Nat.lt_of_lt_of_le t1 (yG (show a+b'≤max (a+b') (a'+b) by omega));have u2:=Nat.lt_of_lt_of_le t2 (yG (show a'+b≤max (a+b') (a'+b) by omega));rw [Nat.pow_succ];omega
  refine yP (uP t4 oo_) (uP t3 h3) (Int.mul_pos x0 hdq) ?_
  have key:p+q=Rat.divInt (p.num*y+q.num*x) (x*q.den):=by
    conv=>lhs;rw [← Rat.num_divInt_den p,← Rat.num_divInt_den q,Rat.divInt_add_divInt _ _ oo_ oo_]
    refine (Rat.divInt_eq_divInt_iff (Int.mul_ne_zero oo_ oo_) (Int.mul_ne_zero oo_ oo_)).2 ?_;rw [hx,hy];grind
  have h3:=Rat.num_divInt_den (p+q);rw [key] at h3 ⊢;have h4:=(Rat.divInt_eq_divInt_iff (by have:=@oF (Rat.divInt (p.num*y+q.num*x) (x*q.den));omega) (Int.mul_ne_zero oo_ oo_)).1 h3;exact h4
theorem UW {x y:Rt} (ha:x.At p) (hb:y.At q) (hp:Az p a b) (hq:Az q a' b') (h1:a+b'<512) (h2:a'+b<512) (h3:b+b'≤512):(dC x y).At (p - q):=by
  unfold dC;rw [Rat.sub_eq_add_neg];exact UQ ha (UT hb) hp hq.neg h1 h2 h3
end
open Go Go.Kn
structure Tg (n t u:A3 W):Prop where
  o1:n.x.1*t.x.1+n.y.1*t.y.1+n.z.1*t.z.1=0
  o2:n.x.1*u.x.1+n.y.1*u.y.1+n.z.1*u.z.1=0
  o3:t.x.1*u.x.1+t.y.1*u.y.1+t.z.1*u.z.1=0
  t0:¬ (t.x.1=0∧t.y.1=0∧t.z.1=0)
  u0:¬ (u.x.1=0∧u.y.1=0∧u.z.1=0)
  tb:∀ A:Nat,1≤A→n.x.1.natAbs<2 ^ A→n.y.1.natAbs<2 ^ A→n.z.1.natAbs<2 ^ A→t.x.1.natAbs<2 ^ A∧t.y.1.natAbs<2 ^ A∧t.z.1.natAbs<2 ^ A
  ub:∀ A:Nat,1≤A→n.x.1.natAbs<2 ^ A→n.y.1.natAbs<2 ^ A→n.z.1.natAbs<2 ^ A→u.x.1.natAbs<2 ^ (2*A+1)∧u.y.1.natAbs<2 ^ (2*A+1)∧u.z.1.natAbs<2 ^ (2*A+1)
  full:∀ f g h:Rat,let nn:Rat:=(n.x.1:Rat)*n.x.1+n.y.1*n.y.1+n.z.1*n.z.1
    let tt:Rat:=(t.x.1:Rat)*t.x.1+t.y.1*t.y.1+t.z.1*t.z.1
    let uu:Rat:=(u.x.1:Rat)*u.x.1+u.y.1*u.y.1+u.z.1*u.z.1
    let fn:Rat:=(n.x.1:Rat)*f+n.y.1*g+n.z.1*h
    let ft:Rat:=(t.x.1:Rat)*f+t.y.1*g+t.z.1*h
    let fu:Rat:=(u.x.1:Rat)*f+u.y.1*g+u.z.1*h
    f*(nn*tt*uu)=fn*n.x.1*(tt*uu)+ft*t.x.1*(nn*uu)+fu*u.x.1*(nn*tt) ∧
    g*(nn*tt*uu)=fn*n.y.1*(tt*uu)+ft*t.y.1*(nn*uu)+fu*u.y.1*(nn*tt) ∧
    h*(nn*tt*uu)=fn*n.z.1*(tt*uu)+ft*t.z.1*(nn*uu)+fu*u.z.1*(nn*tt)
section
variable {n t:A3 W} {b c:Int}
end
structure V3 (a:A3 Rt) (x y z:Rat) (A B:Nat):Prop where
  hx:a.x.At x
  hy:a.y.At y
  hz:a.z.At z
  sx:Az x A B
  sy:Az y A B
  sz:Az z A B
section
variable {a b:A3 Rt} {x y z u v w:Rat} {A B C D:Nat}
theorem V3.mono (h:V3 a x y z A B) {A' B':Nat} (h1:A≤A') (h2:B≤B'):V3 a x y z A' B':=⟨h.hx,h.hy,h.hz,h.sx.mono h1 h2,h.sy.mono h1 h2,h.sz.mono h1 h2⟩
theorem f1_ {E:Nat} (ha:V3 a x y z A B) (hb:V3 b u v w C D) (h1:A+D<E) (h2:C+B<E) (hE:E≤512) (h3:B+D≤512):V3 (uI a b) (x - u) (y - v) (z - w) E (B+D) :=
  ⟨UW ha.hx hb.hx ha.sx hb.sx oo_ oo_ h3,UW ha.hy hb.hy ha.sy hb.sy oo_ oo_ h3,UW ha.hz hb.hz ha.sz hb.sz oo_ oo_ h3,ha.sx.sub hb.sx h1 h2,ha.sy.sub hb.sy h1 h2,ha.sz.sub hb.sz h1 h2⟩
end
open Go Go.Kn
theorem z9 {x:Rt} {b:W} (h:dF x b=true):∃ q,x.At q∧Sz q b.1.toNat:=by
  unfold dF at h;simp only [Bool.and_eq_true,decide_eq_true_eq] at h;obtain ⟨g,h1,h2⟩:=h;obtain ⟨q,hq⟩:=XA g;have i:=At.is hq;rw [i.en,dB] at h1;rw [i.ed,dB] at h2;refine ⟨q,hq,WT i.hn h1,?_⟩;have:=WT i.hd h2
  rwa [Int.natAbs_natCast] at this
theorem ha_ {v:A3 Rt} {b:W} (h:gH v b=true):∃ x y z,V3 v x y z b.1.toNat b.1.toNat:=by
  unfold gH at h
  cases h1:dF v.x b
  · rw [h1] at h;cases h
  cases h2:dF v.y b
  · rw [h1,h2] at h;cases h
  cases h3:dF v.z b
  · rw [h1,h2,h3] at h;cases h
  obtain ⟨x,hx,sx⟩:=z9 h1;obtain ⟨y,hy,sy⟩:=z9 h2;obtain ⟨z,hz,sz⟩:=z9 h3;exact ⟨x,y,z,hx,hy,hz,sx.az,sy.az,sz.az⟩
def e26 (c:Nat→Int) (y:Rat):Rat:=vl (cR c) y 26
section
variable {c d:Nat→Int} {n m b b':Nat}
theorem LO (h:Bd c n b) (hn:n≤26) (y:Rat):vl (cR c) y n=e26 c y:=(DN (fun i hi=>by unfold cR;rw [h.z i hi];rfl) hn).symm
theorem C6 (c d:Nat→Int) (y:Rat):e26 (fun k=>c k+d k) y=e26 c y+e26 d y:=by
  unfold e26;rw [← cM_]
  congr 1
  funext i
  exact Rat.intCast_add _ _
theorem B6 (c:Nat→Int) (a:Int) (y:Rat):e26 (fun k=>c k*a) y=e26 c y*(a:Rat):=by
  unfold e26;rw [Rat.mul_comm,← cN_]
  congr 1
  funext i
  show ((c i*a:Int):Rat)=(a:Rat)*((c i:Int):Rat)
  rw [Rat.intCast_mul,Rat.mul_comm]
theorem W5 (c d:Nat→Int) (y:Rat):e26 (fun k=>c k - d k) y=e26 c y - e26 d y:=by
  have:=C6 (fun k=>c k - d k) d y;simp only [Int.sub_add_cancel] at this
  grind
theorem yY (hc:Bd c n b) (hd:Bd d m b') (h:n+m≤26) (y:Rat):e26 (conv c d) y=e26 c y*e26 d y:=by
  rw [← LO hc oo_,← LO hd oo_];unfold e26;rw [OL,YR (n:=n) (m:=m) (fun i hi=>by unfold cR;rw [hc.z i hi];rfl) (fun i hi=>by unfold cR;rw [hd.z i hi];rfl) h]
theorem KJ (u v:Int) (y:Rat):e26 (lin u v) y=(u:Rat)+(v:Rat)*y:=WI u v y dd_
end
theorem d4_ {A B C D:Nat→Int} (hA:Bd A 2 8) (hB:Bd B 2 8) (hC:Bd C 2 8) (hD:Bd D 2 8) (y:Rat):e26 (scC A B C D) y=e26 A y*e26 A y+e26 B y*e26 B y+(e26 C y*e26 C y+e26 D y*e26 D y):=by
  show e26 (fun k=>(fun k=>conv A A k+conv B B k) k+(fun k=>conv C C k+conv D D k) k) y=_
  rw [C6,C6,C6,yY hA hA dd_,yY hB hB dd_,yY hC hC dd_,yY hD hD dd_]
theorem MG (a:Int):0≤a*a:=by rw [← Int.natAbs_mul_self];exact Int.natCast_nonneg _
theorem KN {a:Int} (h:a≠0):1≤a*a:=by
  have:=MG a;have:a*a≠0:=Int.mul_ne_zero h h;omega
theorem sq4 {a b c d:Int} (h:¬ (a=0∧b=0∧c=0∧d=0)):1≤a*a+b*b+c*c+d*d:=by
  have h1:=MG a;have h2:=MG b;have h3:=MG c;have h4:=MG d
  by_cases ha:a=0
  · by_cases hb:b=0
    · by_cases hc:c=0
      · have:=KN fun hd=>h ⟨ha,hb,hc,hd⟩
        omega
      have:=KN hc;omega
    have:=KN hb;omega
  have:=KN ha;omega
theorem dD_ {P R T y:Rat} (hP:1≤P) (hT:1≤T) (hR:0≤R) (y0:0≤y) (y1:y≤1):0<(1 - y)*(1 - y)*P+2*(y*(1 - y)*R)+y*y*T:=by
  have k1:0≤1 - y:=by grind
  have k2:=Rat.mul_nonneg (Rat.mul_nonneg k1 k1) (show (0:Rat)≤P by grind);have k3:=Rat.mul_nonneg (Rat.mul_nonneg y0 k1) hR;have k4:=Rat.mul_nonneg (Rat.mul_nonneg y0 y0) (show (0:Rat)≤T by grind)
  by_cases h:y=0
  · subst h;grind
  have yp:0<y:=by grind
  have:=Rat.mul_pos (Rat.mul_pos yp yp) (show (0:Rat)<T by grind)
  grind
theorem cG_ {s x y z t u v w r:Int} (h0:¬ (x=0∧y=0∧z=0∧t=0)) (h1:¬ (u=0∧v=0∧w=0∧r=0)) (hs:s=if x*u+y*v+z*w+t*r<0 then -1 else 1) {q:Rat} (q0:0≤q) (q1:q≤1) :
    0<((x:Rat)+((s*u - x:Int):Rat)*q)*((x:Rat)+((s*u - x:Int):Rat)*q)+((y:Rat)+((s*v - y:Int):Rat)*q)*((y:Rat)+((s*v - y:Int):Rat)*q)+(((z:Rat)+((s*w - z:Int):Rat)*q)*((z:Rat)+((s*w - z:Int):Rat)*q)+((t:Rat)+((s*r - t:Int):Rat)*q)*((t:Rat)+((s*r - t:Int):Rat)*q)):=by
  have p0:=Rat.intCast_le_intCast.2 (sq4 h0);have p1:=Rat.intCast_le_intCast.2 (sq4 h1)
  have hr:0≤s*(x*u+y*v+z*w+t*r):=by
    rw [hs];split<;>omega
  have hss:s*s=1:=by rw [hs];split<;>rfl
  have p2:=Rat.intCast_le_intCast.2 hr;have p3:=congrArg (fun t:Int=>(t:Rat)) hss;have L:=dD_ p0 p1 p2 q0 q1;simp only [Rat.intCast_add,Rat.intCast_mul,Rat.intCast_sub] at L p3 ⊢;rw [show (((1:Int)):Rat)=1 from rfl] at p3;generalize (s:Rat)=S at *;generalize (x:Rat)=a1 at *;generalize (y:Rat)=a2 at *;generalize (z:Rat)=a3 at *;generalize (t:Rat)=a4 at *;generalize (u:Rat)=b1 at *;generalize (v:Rat)=b2 at *;generalize (w:Rat)=b3 at *;generalize (r:Rat)=b4 at *;refine Rat.not_le.1 fun h=>Rat.not_le.2 L ?_
  have e:∀ {m n:Rat},(m+(S*n - m)*q)*(m+(S*n - m)*q)=(1 - q)*(1 - q)*(m*m)+2*(q*(1 - q)*(S*(m*n)))+q*q*(n*n):=fun {m n}=>by
    have:(S*n)*(S*n)=n*n:=by rw [show (S*n)*(S*n)=(S*S)*(n*n) by grind,p3,Rat.one_mul]
    grind
  rw [e,e,e,e] at h
  grind
theorem V5 {a b:A4 W} (ha:a.i.Lw 65) (hb:b.i.Lw 65):(gJ a b).1=a.x.1*b.x.1+a.y.1*b.y.1+a.z.1*b.z.1+a.t.1*b.t.1:=by
  obtain ⟨h1,h2,h3,h4⟩:=ha;obtain ⟨g1,g2,g3,g4⟩:=hb
  have u:∀ {p q:W},p.1.natAbs<65→q.1.natAbs<65→(p.1*q.1).natAbs<2 ^ 14∧(W.mul p q).1=p.1*q.1:=fun {p q} hp hq=>by
    have:=k6 (b:=7) (b':=7) (u:=p.1) (v:=q.1) oo_ oo_;exact ⟨this,wi ⟨by omega,by omega⟩⟩
  obtain ⟨k1,e1⟩:=u h1 g1;obtain ⟨k2,e2⟩:=u h2 g2;obtain ⟨k3,e3⟩:=u h3 g3;obtain ⟨k4,e4⟩:=u h4 g4;have ad:∀ {p q:W},p.1.natAbs<2 ^ 60→q.1.natAbs<2 ^ 60→(W.add p q).1=p.1+q.1:=fun {p q} hp hq=>wi ⟨by omega,by omega⟩;unfold gJ;have s1:=ad (p:=W.mul a.x b.x) (q:=W.mul a.y b.y) (by rw [e1];omega) (by rw [e2];omega);have s2:=ad (p:=W.add (W.mul a.x b.x) (W.mul a.y b.y)) (q:=W.mul a.z b.z) (by rw [s1,e1,e2];omega) (by rw [e3];omega);have s3:=ad (p:=W.add (W.add (W.mul a.x b.x) (W.mul a.y b.y)) (W.mul a.z b.z)) (q:=W.mul a.t b.t) (by rw [s2,s1,e1,e2,e3];omega) (by rw [e4];omega);rw [s3,s2,s1,e1,e2,e3,e4]
theorem bP_ {S X M0 M1 M2:Nat→Int} {v:A3 W} (hv:v.x.1.natAbs<2 ^ 11∧v.y.1.natAbs<2 ^ 11∧v.z.1.natAbs<2 ^ 11) (hs:Bd S 3 22) (hx:Bd X 2 22) (h0:Bd M0 3 23) (h1:Bd M1 3 23) (h2:Bd M2 3 23):Bd (nuC S X M0 M1 M2 v) 4 49:=by
  have sc:∀ {M:Nat→Int} {u:Int},Bd M 3 23→u.natAbs<2 ^ 11→Bd (fun k=>M k*u) 4 46:=fun {M u} h hu=>by
    have:Bd (fun k=>M k*u) 3 34:=⟨fun k hk=>by show M k*u=0;rw [h.z k hk,Int.zero_mul],fun k=>k6 (h.b k) hu⟩;exact this.mono dd_ dd_
  have k0:Bd (conv S X) 4 46:=hs.conv hx (e:=2) dd_;have e1:=k0.add (sc h0 hv.1);have e2:=e1.add ((sc h1 hv.2.1).mono (b1:=47) (Nat.le_refl _) dd_);exact e2.add ((sc h2 hv.2.2).mono (b1:=48) (Nat.le_refl _) dd_)
structure Clm (h:Path) (v:A3 W) (X Y Z S:Nat→Int):Prop where
  s:PB (bB h v).2 S 3 22
  x:PB (bB h v).1.x X 4 49
  y:PB (bB h v).1.y Y 4 49
  z:PB (bB h v).1.z Z 4 49
  pos:∀ t:Rat,0≤t→t≤1→0<e26 S t
theorem fB_ {h:Path} (hh:Hv h) {v:A3 W} (hv:v.x.1.natAbs<2 ^ 11∧v.y.1.natAbs<2 ^ 11∧v.z.1.natAbs<2 ^ 11) (hf:h.from_.x.x.1.natAbs<2 ^ 21∧h.from_.x.y.1.natAbs<2 ^ 21∧h.from_.x.z.1.natAbs<2 ^ 21) (ht:h.to_.x.x.1.natAbs<2 ^ 21∧h.to_.x.y.1.natAbs<2 ^ 21∧h.to_.x.z.1.natAbs<2 ^ 21):∃ X Y Z S,Clm h v X Y Z S:=by
  obtain ⟨s,A,B,C,D,hs,hA,hB,hC,hD,es,hx⟩:=GL hh (v:=v) ⟨by omega,by omega,by omega⟩;have tq:=(RY hh.fq.1 hh.tq.1).1;rw [← es] at tq;have tx:=tq.x;have ty:=tq.y;have tz:=tq.z;have tt:=tq.t;rw [← hA] at tx;rw [← hB] at ty;rw [← hC] at tz;rw [← hD] at tt;have d1:=(LD tx ty tz tt).bd;have d2:=(LD tx tz ty tt).bd;have d3:=(LD tx tt ty tz).bd;have k1:=NN ty tz tx tt;have k2:=NN ty tt tx tz;have k3:=NN tz tt tx ty;have lb:∀ {p q:Int},p.natAbs<2 ^ 21→q.natAbs<2 ^ 21→Bd (lin p (q - p)) 2 22:=fun {p q} hp hq=>MH oo_ oo_;have e1:=bP_ hv hx.s.bd (lb hf.1 ht.1) d1 k1.2.bd k2.1.bd;have e2:=bP_ hv hx.s.bd (lb hf.2.1 ht.2.1) k1.1.bd d2 k3.2.bd;have e3:=bP_ hv hx.s.bd (lb hf.2.2 ht.2.2) k2.2.bd k3.1.bd d3;refine ⟨_,_,_,_,by rw [hx.s2];exact hx.s,⟨hx.x.po,e1⟩,⟨hx.y.po,e2⟩,⟨hx.z.po,e3⟩,fun t t0 t1=>?_⟩;rw [d4_ tx.bd ty.bd tz.bd tt.bd,hA,hB,hC,hD,KJ,KJ,KJ,KJ];rw [V5 hh.fq.1 hh.tq.1] at es;exact cG_ hh.fq.2 hh.tq.2 es t0 t1
open Go Go.Kn
def ff (i:Int):Nat→Int
  | 0=>1
  | k+1=>ff i k*(i - k)
def fac:Nat→Int
  | 0=>1
  | n+1=>fac n*((n+1:Nat):Int)
def wt (n i k:Nat):Int:=ff i k*fac (n - k)
def bs (γ:Nat→Int) (n i:Nat):Int:=mD (fun k=>wt n i k*γ k) (i+1)
def bin:Nat→Nat→Nat
  | _,0=>1
  | 0,_+1=>0
  | n+1,k+1=>bin n k+bin n (k+1)
theorem c9_ {n:Nat} (hn:n≤6) (γ:Nat→Int) (t:Rat):mD (fun i=>(bs γ n i:Rat)*((bin n i:Nat):Rat)*(t ^ i*(1 - t) ^ (n - i))) (n+1)=((fac n:Int):Rat)*mD (fun k=>(γ k:Rat)*t ^ k) (n+1):=by
  have e:∀ i,(bs γ n i:Rat)=mD (fun k=>(wt n i k:Rat)*(γ k:Rat)) (i+1):=fun i=>by unfold bs;rw [NK];exact qM fun k _=>Rat.intCast_mul ..
  simp only [e];rcases (show n=0∨n=1∨n=2∨n=3∨n=4∨n=5∨n=6 by omega) with rfl|rfl|rfl|rfl|rfl|rfl|rfl <;>
  · simp only [mD]
    generalize (γ 0:Rat)=g0
    try generalize (γ 1:Rat)=g1
    try generalize (γ 2:Rat)=g2
    try generalize (γ 3:Rat)=g3
    try generalize (γ 4:Rat)=g4
    try generalize (γ 5:Rat)=g5
    try generalize (γ 6:Rat)=g6
    simp [wt,ff,fac,bin]
    try grind
theorem BB {n i:Nat} (hn:n≤6) (hi:i≤n):eT (n:Int) (i:Int)=(List.range (i+1)).map fun k=>E (Z.of (wt n i k)):=by
  rcases (show n=0∨n=1∨n=2∨n=3∨n=4∨n=5∨n=6 by omega) with rfl|rfl|rfl|rfl|rfl|rfl|rfl
  · rcases (show i=0 by omega) with rfl;kernel_rfl
  · rcases (show i=0∨i=1 by omega) with rfl|rfl<;>kernel_rfl
  · rcases (show i=0∨i=1∨i=2 by omega) with rfl|rfl|rfl<;>kernel_rfl
  · rcases (show i=0∨i=1∨i=2∨i=3 by omega) with rfl|rfl|rfl|rfl<;>kernel_rfl
  · rcases (show i=0∨i=1∨i=2∨i=3∨i=4 by omega) with rfl|rfl|rfl|rfl|rfl<;>kernel_rfl
  · rcases (show i=0∨i=1∨i=2∨i=3∨i=4∨i=5 by omega) with rfl|rfl|rfl|rfl|rfl|rfl<;>kernel_rfl
  rcases (show i=0∨i=1∨i=2∨i=3∨i=4∨i=5∨i=6 by omega) with rfl|rfl|rfl|rfl|rfl|rfl|rfl<;>kernel_rfl
section
variable {p:List I} {a b:Rt} {γ:Nat→Int} {n B:Nat}
theorem bN_ {v:Int} (h:fE v):(E (Z.of v)).1.bad=false:=by
  have:=SU h;unfold gdI at this;rw [Bool.and_eq_true] at this
  simpa using this.1
theorem O5 {u v G:Int} (hu:fE u) (hG:fE G) (h0:0<G) (h:G*v=u):Z.quo (Z.of u) (Z.of G)=Z.of v:=by
  rw [zF hu hG h0,← h,Int.mul_ediv_cancel_left _ oo_]
theorem aM_ (out0:List I) (i0:Nat) {N:Nat} {G:Int} {v l:Nat→Int} (h0:0<G) (hG:fE G) (hv:∀ k,k<N→fE (v k)) (hl:∀ k,k<N→G*l k=v k) (hlen:out0.length=N) (hc:dN out0=E (Z.of G)):∀ (f k:Nat),N - k<f→k≤N →
    (gF p a b out0 i0 f k ((List.range N).map fun i=>E (Z.of (if i<k then l i else v i)))).2=(List.range N).map fun i=>E (Z.of (l i))
  | 0,k,h,_=>absurd h (Nat.not_lt_zero _)
  | f+1,k,h,hk=>by
    unfold gF;rw [hlen];rcases Nat.lt_or_eq_of_le hk with h1|h1
    · rw [decide_eq_true oo_,cond_true,hc,FC,if_pos h1,if_neg (Nat.lt_irrefl _),dB,dB,O5 (hv k h1) hG h0 (hl k h1)]
      have e:((List.range N).map fun i=>E (Z.of (if i<k then l i else v i))).set k (E (Z.of (l k)))=(List.range N).map fun i=>E (Z.of (if i<k+1 then l i else v i)):=by
        apply List.ext_getElem
        · simp
        intro j hj hj';simp only [List.length_set,List.length_map,List.length_range] at hj;rw [List.getElem_set];simp only [List.getElem_map,List.getElem_range]
        by_cases hjk:k=j
        · subst hjk;rw [if_pos rfl,if_pos oo_]
        rw [if_neg hjk]
        by_cases h2:j<k
        · rw [if_pos h2,if_pos oo_]
        rw [if_neg h2,if_neg oo_]
      rw [e];exact aM_ out0 i0 h0 hG hv hl hlen hc f (k+1) oo_ h1
    subst h1;rw [decide_eq_false oo_,cond_false]
    exact List.map_congr_left fun i hi=>by rw [if_pos (List.mem_range.1 hi)]
end
open Go Go.Kn
theorem sgp {q:Rat} (h:0<q):q.num.sign=1:=Int.sign_eq_one_of_pos (by
  have:=(Rat.lt_iff _ _).1 h
  simpa using this)
theorem fG_ {a b a' b':Nat} {p q:Rat} {x y:Rt} (hx:x.At p) (hy:y.At q) (h0:q≠0) (hp:Az p a b) (hq:Az q a' b') (h:a+b'≤512) (h':b+a'≤512):(nY x y).At (p / q):=by
  unfold nY;rw [lW,oA hy,Rat.div_def,G1,PW];exact PV hx (fc_ hy h0) hp (hq.inv h0) h h'
def gpC (X S:Nat→Int) (Q k:Int) (i:Nat):Int:=X i*Q - S i*k
def slC (X Y Z S:Nat→Int) (Q k1 k2 k3 n d:Int) (i:Nat):Int:=conv S S i*(n*Q*Q) - (0+conv (gpC X S Q k1) (gpC X S Q k1) i+conv (gpC Y S Q k2) (gpC Y S Q k2) i+conv (gpC Z S Q k3) (gpC Z S Q k3) i)*d
theorem VB {V W:List I} {X S:Nat→Int} (hX:PB V X 4 49) (hS:PB W S 3 22) {r:Rt} {q:Rat} (hr:r.At q) (sr:Az q 16 16) {e Q:Int} (he:e.natAbs<2 ^ 32) (hq:Q=q.den*e):PB (JO V W r (E (Z.of Q))) (gpC X S Q (q.num*e)) 4 98:=by
  subst hq;have i:=At.is hr
  have dn:((q.den:Int)).natAbs<2 ^ 16:=by rw [Int.natAbs_natCast];exact sr.d
  have hQ:=k6 dn he;have hk:=k6 sr.n he;have bQ:fE ((q.den:Int)*e):=rS hQ dd_;have hm:=k6 sr.n hQ
  have e1:E (Z.quo (E (Z.mul r.n.dec (E (Z.of (q.den*e))).dec)).dec r.d.dec)=E (Z.of (q.num*e)):=by
    rw [i.en,i.ed,dB,dB,dB,o4 i.hn bQ,dB,O5 (rS hm dd_) i.hd i.pos (Int.mul_left_comm _ _ _)]
  unfold JO;rw [e1];have s1:=(hX.scale hQ dd_).mono (n':=4) (b1:=97) dd_ dd_;have s2:=(hS.scale hk dd_).mono (n':=4) (b1:=97) dd_ dd_;exact s1.sub s2 dd_
theorem TB {a b c:I} {u v w:Int} (ha:a=E (Z.of u)) (hb:b=E (Z.of v)) (hc:c=E (Z.of w)) (bu:fE u) (bv:fE v) (bw:fE w) (buv:fE (u*v)):j3 a b c=E (Z.of (u*v*w)):=by
  unfold j3;rw [ha,hb,hc];simp only [dB];rw [o4 bu bv,o4 buv bw]
variable {h:Path} {v:A3 W} {b:A3 Rt} {m t:Rt} {X Y Z_ S:Nat→Int} {x y z mq q:Rat}
theorem gw_ (cl:Clm h v X Y Z_ S) (hb:V3 b x y z 16 16) (hm:m.At mq) (sm:Sz mq 48):∃ (p0:List I) (Q k1 k2 k3:Int),0<Q∧(k1:Rat)=x*(Q:Rat)∧(k2:Rat)=y*(Q:Rat)∧(k3:Rat)=z*(Q:Rat)∧HY (bB h v).1 (bB h v).2 b m=d7 p0 ∧
    PB p0 (slC X Y Z_ S Q k1 k2 k3 mq.num mq.den) 7 250∧Bd (gpC X S Q k1) 4 98∧Bd (gpC Y S Q k2) 4 98∧Bd (gpC Z_ S Q k3) 4 98:=by
  have ix:=At.is hb.hx;have iy:=At.is hb.hy;have iz:=At.is hb.hz;have im:=At.is hm
  have nd:∀ {q:Rat},Az q 16 16→((q.den:Int)).natAbs<2 ^ 16:=fun {q} h=>by rw [Int.natAbs_natCast];exact h.d
  have dx:=nd hb.sx;have dy:=nd hb.sy;have dz:=nd hb.sz
  have dm:((mq.den:Int)).natAbs<2 ^ 48:=by rw [Int.natAbs_natCast];exact sm.d
  have hxy:=k6 dx dy;have hQ:=k6 hxy dz
  have hQd:Qd b=E (Z.of ((x.den:Int)*y.den*z.den)):=by
    unfold Qd;rw [HK];exact TB ix.ed iy.ed iz.ed ix.hd iy.hd iz.hd (rS hxy dd_)
  obtain ⟨Q,eQ⟩:∃ Q:Int,Q=(x.den:Int)*y.den*z.den:=⟨_,rfl⟩;rw [← eQ] at hQd hQ
  have Qp:0<Q:=by rw [eQ];exact Int.mul_pos (Int.mul_pos oF oF) oF
  have g1:=VB cl.x cl.s hb.hx hb.sx (e:=y.den*z.den) (Q:=Q) (k6 dy dz) (by rw [eQ,Int.mul_assoc]);have g2:=VB cl.y cl.s hb.hy hb.sy (e:=x.den*z.den) (Q:=Q) (k6 dx dz) (by rw [eQ];grind);have g3:=VB cl.z cl.s hb.hz hb.sz (e:=x.den*y.den) (Q:=Q) hxy (by rw [eQ];grind);have sq:∀ {p:List I} {c:Nat→Int},PB p c 4 98→PB (aW p p) (conv c c) 7 198:=fun h=>h.mul h (e:=2) dd_ dd_ dd_;have a1:=(PB.nil 7 198).add (sq g1) dd_;have a2:=a1.add ((sq g2).mono (b1:=199) (Nat.le_refl _) dd_) dd_;have a3:=a2.add ((sq g3).mono (b1:=200) (Nat.le_refl _) dd_) dd_;have a4:=(a3.scale dm dd_).mono (n':=7) (b1:=249) (Nat.le_refl _) dd_;have hmQ:=k6 sm.n hQ;have hmQQ:=k6 hmQ hQ
  have em:iF [m.n,Qd b,Qd b]=E (Z.of (mq.num*Q*Q)):=by
    rw [HK];exact TB im.en hQd hQd im.hn (rS hQ dd_) (rS hQ dd_) (rS hmQ dd_)
  have s1:=cl.s.mul cl.s (e:=2) dd_ dd_ dd_;have s2:=(s1.scale hmQQ dd_).mono (n':=7) (b1:=249) dd_ dd_;have D:=s2.sub a4 dd_;have cf:∀ {r e k:Rat} {w:Rat},r=w*e→r=w*e:=fun h=>h
  have k1:((x.num*((y.den:Int)*z.den):Int):Rat)=x*(Q:Rat):=by
    rw [eQ];simp only [Rat.intCast_mul];have:=@wU x;grind
  have k2:((y.num*((x.den:Int)*z.den):Int):Rat)=y*(Q:Rat):=by
    rw [eQ];simp only [Rat.intCast_mul];have:=@wU y;grind
  have k3:((z.num*((x.den:Int)*y.den):Int):Rat)=z*(Q:Rat):=by
    rw [eQ];simp only [Rat.intCast_mul];have:=@wU z;grind
  refine ⟨_,Q,_,_,_,Qp,k1,k2,k3,?_,D,g1.bd,g2.bd,g3.bd⟩;unfold HY;rw [em,hQd,im.ed]
theorem bY_ {p:List I} {c:Nat→Int} (h:Po p c):∃ g:Int,0<g∧∀ k,(c k).fdiv (cN p)*g=c k:=by
  by_cases h0:p=[]
  · refine ⟨1,by decide,fun k=>?_⟩
    rw [h.zero (k:=k) (by rw [h0];exact Nat.zero_le k),Int.zero_fdiv];rfl
  exact ⟨(cN p:Nat),by have:=h.cpos h0;omega,fun k=>by rw [Int.mul_comm];exact TO h k⟩
theorem QJ (Q k:Int) (y:Rat):e26 (gpC X S Q k) y=e26 X y*(Q:Rat) - e26 S y*(k:Rat):=by
  show e26 (fun i=>(fun i=>X i*Q) i - (fun i=>S i*k) i) y=_
  rw [W5,B6,B6]
theorem eb_ {Q k1 k2 k3 n d:Int} {f:Nat} (hS:Bd S 3 f) (h1:Bd (gpC X S Q k1) 4 98) (h2:Bd (gpC Y S Q k2) 4 98) (h3:Bd (gpC Z_ S Q k3) 4 98) (y:Rat):e26 (slC X Y Z_ S Q k1 k2 k3 n d) y=e26 S y*e26 S y*((n:Rat)*(Q:Rat)*(Q:Rat)) - (e26 (gpC X S Q k1) y*e26 (gpC X S Q k1) y+e26 (gpC Y S Q k2) y*e26 (gpC Y S Q k2) y+e26 (gpC Z_ S Q k3) y*e26 (gpC Z_ S Q k3) y)*(d:Rat):=by
  show e26 (fun i=>(fun i=>conv S S i*(n*Q*Q)) i - (fun i=>(fun i=>(fun i=>(fun i=>(fun _:Nat=>(0:Int)) i+conv (gpC X S Q k1) (gpC X S Q k1) i) i+conv (gpC Y S Q k2) (gpC Y S Q k2) i) i+conv (gpC Z_ S Q k3) (gpC Z_ S Q k3) i) i*d) i) y=_
  rw [W5,B6,B6,C6 (fun i=>(fun i=>(fun _:Nat=>(0:Int)) i+conv (gpC X S Q k1) (gpC X S Q k1) i) i+conv (gpC Y S Q k2) (gpC Y S Q k2) i),C6 (fun i=>(fun _:Nat=>(0:Int)) i+conv (gpC X S Q k1) (gpC X S Q k1) i),C6 (fun _:Nat=>(0:Int))];rw [show e26 (fun _:Nat=>(0:Int)) y=0 from rV fun i _=>Rat.zero_mul _,Rat.zero_add];rw [yY hS hS dd_,yY h1 h1 dd_,yY h2 h2 dd_,yY h3 h3 dd_,Rat.intCast_mul,Rat.intCast_mul]
def dst (X Y Z S:Nat→Int) (x y z t:Rat):Rat:=(e26 X t / e26 S t - x)*(e26 X t / e26 S t - x)+(e26 Y t / e26 S t - y)*(e26 Y t / e26 S t - y)+(e26 Z t / e26 S t - z)*(e26 Z t / e26 S t - z)
theorem cv_ (cl:Clm h v X Y Z_ S) (hb:V3 b x y z 16 16) (hm:m.At mq) (sm:Sz mq 48):∃ c,PB (HY (bB h v).1 (bB h v).2 b m) c 7 250∧∀ t:Rat,0≤t→t≤1→(e26 c t).num.sign=(mq - dst X Y Z_ S x y z t).num.sign:=by
  obtain ⟨p0,Q,k1,k2,k3,Qp,e1,e2,e3,ep,hD,g1,g2,g3⟩:=gw_ cl hb hm sm;obtain ⟨g,gp,hg⟩:=bY_ hD.po;refine ⟨_,by rw [ep];exact ⟨QV hD.po,XT hD.po hD.bd⟩,fun t t0 t1=>?_⟩;have hS:=cl.pos t t0 t1
  have hs0:e26 S t≠0:=by grind
  have v1:=eb_ (n:=mq.num) (d:=mq.den) cl.s.bd g1 g2 g3 t;have v2:=B6 (fun k=>(slC X Y Z_ S Q k1 k2 k3 mq.num mq.den k).fdiv (cN p0)) g t;rw [show (fun k=>(fun k=>(slC X Y Z_ S Q k1 k2 k3 mq.num mq.den k).fdiv (cN p0)) k*g)=slC X Y Z_ S Q k1 k2 k3 mq.num mq.den from funext hg,v1,QJ,QJ,QJ,e1,e2,e3] at v2;have gp':(0:Rat)<(g:Rat):=Rat.intCast_pos.2 gp;have Qp':(0:Rat)<(Q:Rat):=Rat.intCast_pos.2 Qp;have dp:(0:Rat)<((mq.den:Int):Rat):=Rat.intCast_pos.2 oF;have en:=@wU mq;have u1:e26 X t / e26 S t*e26 S t=e26 X t:=Rat.div_mul_cancel hs0;have u2:e26 Y t / e26 S t*e26 S t=e26 Y t:=Rat.div_mul_cancel hs0;have u3:e26 Z_ t / e26 S t*e26 S t=e26 Z_ t:=Rat.div_mul_cancel hs0
  have key:e26 (fun k=>(slC X Y Z_ S Q k1 k2 k3 mq.num mq.den k).fdiv (cN p0)) t*(g:Rat)=(((mq.den:Int):Rat)*((Q:Rat)*(Q:Rat))*(e26 S t*e26 S t))*(mq - dst X Y Z_ S x y z t):=by
    rw [← v2,← en,← u1,← u2,← u3];unfold dst;generalize e26 X t / e26 S t=a1;generalize e26 Y t / e26 S t=a2;generalize e26 Z_ t / e26 S t=a3;generalize e26 S t=s;generalize (Q:Rat)=Q';generalize ((mq.den:Int):Rat)=d
    grind
  have s1:=congrArg (fun q:Rat=>q.num.sign) key;rw [WB,WB,sgp gp',sgp (Rat.mul_pos (Rat.mul_pos dp (Rat.mul_pos Qp' Qp')) (Rat.mul_pos hS hS)),Int.mul_one,Int.one_mul] at s1;exact s1
theorem P5 {n s:List I} (hn:PB n X 4 49) (hs:PB s S 3 22) (ht:t.At q) (sq:Sz q 16) (pos:0<e26 S q):0<(q.den:Int)*Go.Num.hv S q.num q.den 3 3∧((q.den:Int)*Go.Num.hv S q.num q.den 3 3).natAbs<2 ^ 88∧(Go.Num.hv X q.num q.den 4 4).natAbs<2 ^ 116∧(((q.den:Int)*Go.Num.hv S q.num q.den 3 3:Int):Rat)*(e26 X q / e26 S q)=((Go.Num.hv X q.num q.den 4 4:Int):Rat)∧(nY (iZ n t) (iZ s t)).At (e26 X q / e26 S q)∧Az (e26 X q / e26 S q) 116 88:=by
  have dd:((q.den:Int)).natAbs<2 ^ 16:=by rw [Int.natAbs_natCast];exact sq.d
  have hx:=@wU q;have dp:(0:Int)<q.den:=oF;have dp':(0:Rat)<((q.den:Int):Rat):=Rat.intCast_pos.2 dp;have tS:=QL (c:=S) (L:=3) hx dp;have tX:=QL (c:=X) (L:=4) hx dp;rw [LO hs.bd dd_,show 3 - 1=2 from rfl] at tS;rw [LO hn.bd dd_,show 4 - 1=3 from rfl] at tX;have lS:=SZ (c:=S) (N:=q.num) (D:=q.den) (L:=3) hs.bd.b sq.n dd 3;have lX:=SZ (c:=X) (N:=q.num) (D:=q.den) (L:=4) hn.bd.b sq.n dd 4;generalize Go.Num.hv S q.num q.den 3 3=HS at *;generalize Go.Num.hv X q.num q.den 4 4=HX at *
  have pS:0<HS:=by
    refine Rat.intCast_pos.1 ?_;rw [tS];exact Rat.mul_pos (Rat.pow_pos dp') pos
  have bS:HS.natAbs<2 ^ 72:=Nat.lt_of_le_of_lt lS dd_;have bX:HX.natAbs<2 ^ 116:=Nat.lt_of_le_of_lt lX dd_;have bE:((q.den:Int)*HS).natAbs<2 ^ 88:=k6 dd bS
  have hs0:e26 S q≠0:=by grind
  have u1:e26 X q / e26 S q*e26 S q=e26 X q:=Rat.div_mul_cancel hs0;have pE:=Int.mul_pos dp pS
  have key:(((q.den:Int)*HS:Int):Rat)*(e26 X q / e26 S q)=(HX:Rat):=by
    rw [Rat.intCast_mul,tS,tX,← u1];generalize e26 X q / e26 S q=a;generalize e26 S q=s;generalize ((q.den:Int):Rat)=d;rw [Rat.pow_succ d 2]
    grind
  have vX:=WM (e:=2) hn.po hn.bd ht sq dd_ dd_;have vS:=WM (e:=2) hs.po hs.bd ht sq dd_ dd_;rw [LO hn.bd dd_] at vX;rw [LO hs.bd dd_] at vS
  have zX:Az (e26 X q) 116 49:=RO (n:=HX) (d:=(q.den:Int) ^ 3) (by rw [tX,Rat.intCast_pow]) (Int.pow_pos dp) bX (by
    rw [Int.natAbs_pow]
    exact Nat.lt_of_lt_of_le (Nat.pow_lt_pow_left dd dd_) dd_)
  have zS:Az (e26 S q) 72 33:=RO (n:=HS) (d:=(q.den:Int) ^ 2) (by rw [tS,Rat.intCast_pow]) (Int.pow_pos dp) bS (by
    rw [Int.natAbs_pow]
    exact Nat.lt_of_lt_of_le (Nat.pow_lt_pow_left dd dd_) dd_)
  refine ⟨pE,bE,bX,key,?_,RO key.symm pE bX bE⟩;exact fG_ vX vS hs0 zX zS dd_ dd_
theorem ef_ {p r:Rat} {F M N:Int} {a b:Nat} (hF:0<F) (h1:(F:Rat)*p=(M:Rat)) (h2:(F:Rat)*r=(N:Rat)) (hM:M.natAbs<2 ^ a) (hN:N.natAbs<2 ^ a) (bF:F.natAbs<2 ^ b):Az (p*p+r*r) (a+a+1) (b+b):=by
  refine RO (n:=M*M+N*N) (d:=F*F) ?_ (Int.mul_pos hF hF) ?_ (k6 bF bF)
  · rw [Rat.intCast_add,Rat.intCast_mul,Rat.intCast_mul,Rat.intCast_mul,← h1,← h2];grind
  have:=k6 hM hM;have:=k6 hN hN;rw [Nat.pow_succ];omega
theorem cx_ {p r:Rat}:(p.num*r.den - r.num*p.den).sign=(p - r).num.sign:=by
  have h:((p.num*r.den - r.num*p.den:Int):Rat)=(((p.den:Int)*(r.den:Int):Int):Rat)*(p - r):=by
    have k1:=@wU p;have k2:=@wU r;rw [Rat.intCast_sub,Rat.intCast_mul,Rat.intCast_mul,Rat.intCast_mul,← k1,← k2];grind
  have:=congrArg (fun q:Rat=>q.num.sign) h;rw [cm_,WB,cm_,Int.sign_eq_one_of_pos (Int.mul_pos oF oF),Int.one_mul] at this;exact this
theorem W3 {a:Rat} {E N:Int} (hE:(E:Rat)*a=(N:Rat)) (bE:E.natAbs<2 ^ 88) (bN:N.natAbs<2 ^ 116) {x:Rat} (sx:Az x 16 16) {k:Int} (hk:k.natAbs<2 ^ 16):((E*(x.den*k):Int):Rat)*(a - x)=(((N*x.den - x.num*E)*k:Int):Rat)∧((N*x.den - x.num*E)*k).natAbs<2 ^ 149:=by
  have dx:((x.den:Int)).natAbs<2 ^ 16:=by rw [Int.natAbs_natCast];exact sx.d
  constructor
  · have:=@wU x
    simp only [Rat.intCast_mul,Rat.intCast_sub];rw [← hE,← this];grind
  have h1:=k6 bN dx;have h2:=k6 sx.n bE;exact k6 (b:=133) oo_ hk
theorem ZC {d:A3 Rt} {p q r:Rat} (hd:V3 d p q r 133 104) (h2:Az (p*p+q*q) 299 240):(uG d d).At (p*p+q*q+r*r):=by
  have m1:=PV hd.hx hd.hx hd.sx hd.sx oo_ oo_;have m2:=PV hd.hy hd.hy hd.sy hd.sy oo_ oo_;have m3:=PV hd.hz hd.hz hd.sz hd.sz oo_ oo_;have p1:=UQ m1 m2 (hd.sx.mul hd.sx) (hd.sy.mul hd.sy) oo_ oo_ oo_;exact UQ p1 m3 h2 (hd.sz.mul hd.sz) oo_ oo_ oo_
theorem ft_ (h:Path) (v:A3 W) (t:Rt):rU h v t=⟨nY (iZ (bB h v).1.x t) (iZ (bB h v).2 t),nY (iZ (bB h v).1.y t) (iZ (bB h v).2 t),nY (iZ (bB h v).1.z t) (iZ (bB h v).2 t)⟩:=rfl
theorem a1_ (cl:Clm h v X Y Z_ S) (hb:V3 b x y z 16 16) (ht:t.At q) (sq:Sz q 16) (q0:0≤q) (q1:q≤1):(pT (jS (rU h v t) b) (jS (rU h v t) b)).At (dst X Y Z_ S x y z q):=by
  have pos:=cl.pos q q0 q1;obtain ⟨pE,bE,b1,k1,a1,z1⟩:=P5 cl.x cl.s ht sq pos;obtain ⟨_,_,b2,k2,a2,z2⟩:=P5 cl.y cl.s ht sq pos;obtain ⟨_,_,b3,k3,a3,z3⟩:=P5 cl.z cl.s ht sq pos;generalize (q.den:Int)*Go.Num.hv S q.num q.den 3 3=E_ at *
  have hA:V3 (rU h v t) (e26 X q / e26 S q) (e26 Y q / e26 S q) (e26 Z_ q / e26 S q) 116 88:=by
    rw [ft_];refine ⟨?_,?_,?_,?_,?_,?_⟩
    · dsimp only;exact a1
    · dsimp only;exact a2
    · dsimp only;exact a3
    · exact z1
    · exact z2
    exact z3
  have hd:=f1_ (E:=133) hA hb dd_ dd_ dd_ dd_
  have dx:((x.den:Int)).natAbs<2 ^ 16:=by rw [Int.natAbs_natCast];exact hb.sx.d
  have dy:((y.den:Int)).natAbs<2 ^ 16:=by rw [Int.natAbs_natCast];exact hb.sy.d
  have s1:=W3 k1 bE b1 hb.sx dy;have s2:=W3 k2 bE b2 hb.sy dx;rw [Int.mul_comm (y.den:Int) x.den] at s2;have S2:=ef_ (Int.mul_pos pE (Int.mul_pos oF oF)) s1.1 s2.1 s1.2 s2.2 (k6 bE (k6 dx dy));rw [am_,an_];exact ZC hd S2
end Go.Num
namespace Go.Num
open Go Go.Kn
theorem hZ_ (a b:W):(W.max a b).1=max a.1 b.1:=by
  unfold W.max
  by_cases h:a.1<b.1
  · rw [decide_eq_true h,cond_true];omega
  rw [decide_eq_false h,cond_false];omega
theorem fC_ {a b:W} {v:Int} (ha:a.1.natAbs<2 ^ 47) (hb:b.1.natAbs<2 ^ 47) (h:(decide (1048576<(W.max (W.max (W.max a (W.neg a)) b) (W.neg b)).1)||(decide (1024<v)||decide (v<(-1024))))=false):a.1.natAbs<2 ^ 21∧b.1.natAbs<2 ^ 21∧v.natAbs<2 ^ 11∧-1024≤v∧v≤1024:=by
  have n1:=TC (a:=a) oo_;have n2:=TC (a:=b) oo_;simp only [Bool.or_eq_false_iff,decide_eq_false_iff_not,hZ_,n1,n2] at h;omega
theorem aR_ {h:Path} {v:A3 W} (hc:fN h v=true):(cM h).1=0∧eA v (wl 262144)=true∧∃ X Y Z S,Clm h v X Y Z S:=by
  unfold fN at hc
  cases h0:((cM h).1 != 0)
  case true=>rw [h0] at hc;cases hc
  rw [h0] at hc
  have e0:(cM h).1=0:=by simpa using h0
  have hh:=bq_ e0
  have g:∀ {c:Bool} {y:Bool},(bif c then false else y)=true→c=false∧y=true:=fun {c y} h=>by cases c<;>simp_all
  obtain ⟨_,hc⟩:=g hc;obtain ⟨h1,hc⟩:=g hc;obtain ⟨h2,hc⟩:=g hc;obtain ⟨h3,hc⟩:=g hc;obtain ⟨a1,b1,v1,w1⟩:=fC_ hh.fx.1 hh.tx.1 h1;obtain ⟨a2,b2,v2,w2⟩:=fC_ hh.fx.2.1 hh.tx.2.1 h2;obtain ⟨a3,b3,v3,w3⟩:=fC_ hh.fx.2.2 hh.tx.2.2 h3;refine ⟨e0,?_,fB_ hh ⟨v1,v2,v3⟩ ⟨a1,a2,a3⟩ ⟨b1,b2,b3⟩⟩;unfold eA;rw [show (W.neg (wl 262144)).1 = -262144 from rfl,show (wl 262144).1=262144 from rfl];rw [decide_eq_false (show ¬ 262144<v.x.1 by omega),decide_eq_false (show ¬ v.x.1 < -262144 by omega),decide_eq_false (show ¬ 262144<v.y.1 by omega),decide_eq_false (show ¬ v.y.1 < -262144 by omega),decide_eq_false (show ¬ 262144<v.z.1 by omega),decide_eq_false (show ¬ v.z.1 < -262144 by omega)];rfl
theorem bO_ {q:Rat}:(-q).num.sign = -q.num.sign:=by rw [Rat.neg_num,Int.sign_neg]
structure Slk (h:Path) (v:A3 W) (b:A3 Rt) (m:Rt) (p:List I) (c:Nat→Int):Prop where
  eq:cE h v b m=(p,wl 0)
  pb:PB p c 7 250
  far:∀ (t:Rt) (q:Rat),t.At q→Sz q 16→0≤q→q≤1→(kG h v b m t).1 = -(e26 c q).num.sign
theorem cu_ {h:Path} {v:A3 W} {b:A3 Rt} {m:Rt} (hc:fN h v=true) (hb:gH b (wl 16)=true) (hm:dF m (wl 48)=true):∃ p c,Slk h v b m p c:=by
  obtain ⟨e0,ei,X,Y,Z,S,cl⟩:=aR_ hc;obtain ⟨x,y,z,hb⟩:=ha_ hb;have hb:V3 b x y z 16 16:=hb;obtain ⟨mq,hm,sm⟩:=z9 hm;have sm:Sz mq 48:=sm;obtain ⟨c,hp,hs⟩:=cv_ cl hb hm sm;refine ⟨_,c,?_,hp,fun t q ht sq q0 q1=>?_⟩
  · rw [IW,gU_,BD,IK,ei,show iU m = !aT m from rfl,lW,lW,lW,lW,oA hb.hx,oA hb.hy,oA hb.hz,oA hm,hp.po.nb,show ((cM h).1 != 0)=false by rw [e0];rfl]
    rfl
  rw [hs q q0 q1,← bO_,Rat.neg_sub];have hd:=a1_ cl hb ht sq q0 q1;unfold kG;simp only;rw [aj_ hd hm,cx_]
section
variable {p:List I} {c:Nat→Int} {x:Rt} {q:Rat}
theorem dS_ (h:PB p c 7 250) (hx:x.At q) (sq:Sz q 16):(i1 p x).2=true∧(i1 p x).1.1=(e26 c q).num.sign:=by
  have s:=ay_ (e:=3) h.po h.bd hx sq dd_ dd_
  rwa [LO h.bd dd_] at s
end
def Chn (p:List I):Rt→List Rt→Rt→Prop
  | a,[],c=>a=c
  | a,x::l,c=>aT x=true∧¬ (jL x a).1≤0∧fC p a x=(true,wl 0)∧Chn p x l c
theorem Chn.app {p:List I} {m c:Rt} {k:List Rt} (h2:Chn p m k c):∀ {l:List Rt} {a:Rt},Chn p a l m→Chn p a (l++k) c
  | [],a,h=>by have h:a=m:=h;subst h;exact h2
  | x::l,a,h=>⟨h.1,h.2.1,h.2.2.1,Chn.app h2 h.2.2.2⟩
theorem Chn.last {p:List I} {c:Rt}:∀ {l:List Rt} {a:Rt},Chn p a l c→l≠[]→l.getD (l.length - 1) Rt0=c
  | [],a,h,h0=>absurd rfl h0
  | [x],a,h,_=>by exact h.2.2.2
  | x::y::l,a,h,_=>by
    have:=Chn.last (l:=y::l) h.2.2.2 (by simp);rw [← this];simp
theorem Chn.held {h:Path} {v:A3 W} {b:A3 Rt} {m:Rt} {p:List I} {c:Nat→Int} (hs:Slk h v b m p c) {e:Rt} (L:List Rt):∀ {l:List Rt} {a:Rt},Chn p a l e→gC h v b m L l a = .inl e
  | [],a,h=>by have h:a=e:=h;subst h;rfl
  | x::l,a,h=>by
    rw [gC,h.1,decide_eq_false h.2.1,hs.eq];simp only;rw [h.2.2.1];exact Chn.held hs L h.2.2.2
def dy (i D:Nat):Rat:=((i:Int):Rat) / ((((2 ^ D:Nat):Nat):Int):Rat)
theorem p2 {D:Nat} (hD:D≤4):2 ^ D≤16:=Nat.pow_le_pow_right (n:=2) dd_ hD
section
variable {h:Path} {v:A3 W} {b:A3 Rt} {m:Rt} {p:List I} {c:Nat→Int} {D:Nat} {n:Int}
end
open Go Go.Kn Go.RowKit Go.ChangeShapes Go.WideShapes
section
variable {H:Type} {enc:TypeId×Value→H} {P:Program} {w:World} {base:Nat} {spare:Nat→Bool} {held:Bool} {α:Type} {e:El α}
theorem Rd.app {a:Addr} {A B:List Value} (h:Rd w a A) (k:Rd w (a.add A.length) B):Rd w a (A++B):=fun j v hj=>by
  rcases Nat.lt_or_ge j A.length with h'|h'
  · rw [List.getElem?_append_left h'] at hj;exact h j v hj
  rw [List.getElem?_append_right h'] at hj;have:=k _ _ hj;rw [P1,Nat.add_sub_cancel' h'] at this;exact this
theorem Rd.of_cells {a:Addr} {n:Nat} {cs:List Value} (h:w.cells? base a n=some cs):Rd w a cs:=fun j v hj=>by
  obtain ⟨_,hl,hc⟩:=World.cells?_some h;have hj':j<cs.length:=(List.getElem?_eq_some_iff.1 hj).1;have h1:=hc j oo_;rw [hj] at h1;exact h1
theorem X1 {a:Addr} {len:Nat} (h:∀ i,i<len→∃ x:α,w.cells? base (a.add (i*e.n)) e.n=some (e.cs x)):∀ k,k≤len→∃ l:List α,l.length=k∧Rd w a (rows e l)
  | 0,_=>⟨[],rfl,fun j v hj=>by simp [rows] at hj⟩
  | k+1,hk=>by
    obtain ⟨l,hl,hr⟩:=X1 h k oo_;obtain ⟨x,hx⟩:=h k oo_;refine ⟨l++[x],by simp [hl],?_⟩;rw [y3];refine Rd.app hr ?_;rw [o6,hl];have:=Rd.of_cells hx
    simpa [rows] using this
theorem gc_ {T E:TypeId} {ls:List vC} {v:Value} {d:DataW H} {p:List MemPlace} {b0:Nat} {r:Reach} (hT:P.underlying T=some (.slice E)) (hl:lz P 8 E=some ls) (hn:P.cellsOf E=e.n)
    (op:∀ cs,LWF cs ls→∃ x:α,cs=e.cs x) (hv:Value.okWide P w r b0 T v) (ht:DataW.Trod enc P w base spare held T v d p):∃ l:List α,Slr w e v l:=by
  obtain ⟨fuel,hf⟩:=ht
  have hv':∃ a n c,v = .slice a n c:=by
    unfold Value.okWide at hv;rw [hT] at hv;unfold Cell.okWide at hv;rw [hT] at hv
    cases v<;>simp_all [Cell.ok]
  obtain ⟨a,n,c,rfl⟩:=hv';have e1:(Value.slice a n c).cells.toList=[.slice a n c]:=rfl;rw [e1] at hf;rcases DataW.trod_slice hT hf with ⟨h,_⟩|⟨a',len,cap,elems,rest,m,_,h,_,_,hlc,hc,hel,hall,_⟩
  · cases h
    exact ⟨[],none,0,rfl,Nat.le_refl _,by decide,.inl ⟨rfl,rfl,rfl⟩⟩
  · cases h
    have hx:∀ i,i<n→∃ x:α,w.cells? base (a'.add (i*e.n)) e.n=some (e.cs x):=fun i hi=>by
      have h1:=hall i hi;rw [List.getElem?_eq_getElem oo_,hn] at h1
      cases hc':w.cells? base (a'.add (i*e.n)) e.n with
      | none=>rw [hc'] at h1;cases h1
      | some cs =>
        rw [hc'] at h1;obtain ⟨x,hx⟩:=op cs (AY 8 hl h1);exact ⟨x,by rw [hx]⟩
    obtain ⟨l,hl',hr⟩:=X1 hx n (Nat.le_refl _);exact ⟨l,some a',c,by rw [hl'],by omega,hc,.inr ⟨a',rfl,hr⟩⟩
end
theorem io_ {cs:List Value} (h:LWF cs (LI++LI)):∃ x:Rt,cs=elRt.cs x:=by
  obtain ⟨c0,r0,rfl,u0,u1⟩:=LWF.split h;obtain ⟨x0,rfl⟩:=eP_ u0;obtain ⟨x1,rfl⟩:=eP_ u1;exact ⟨⟨x0,x1⟩,rfl⟩
end Go.Num
namespace Go.Proofs.YtkjjponijamaoaaGreatDoor
open Go.Kn Go.Num Tryz
attribute [local irreducible] Go.Kn.W WL PL OpQ OpR OpS
theorem KW (h:Path) (u:(A3 W)) (b:(A3 Rt)) (m:Rt) (vl:Value) (l:(List Rt)) (t:Rt) (w:World) (hl:Slr w elRt vl l) :
    Calls prog 12 [AV [cw h.from_.x.x.1,cw h.from_.x.y.1,cw h.from_.x.z.1,cw h.from_.q.x.1,cw h.from_.q.y.1,cw h.from_.q.z.1,cw h.from_.q.t.1,cw h.to_.x.x.1,cw h.to_.x.y.1,cw h.to_.x.z.1,cw h.to_.q.x.1,cw h.to_.q.y.1,cw h.to_.q.z.1,cw h.to_.q.t.1],AV [cw u.x.1,cw u.y.1,cw u.z.1],AV [pI b.x.n,pI b.x.d,pI b.y.n,pI b.y.d,pI b.z.n,pI b.z.d],AV [pI m.n,pI m.d],vl,AV [pI t.n,pI t.d]].toArray w (fun e w'=>e = .returned (.bool (nA h u b m l t))∧Ext w w'):=by
 obtain ⟨p_l,c_l,rfl⟩:=hl.form;refine cS (N:=92) func12 rfl rfl (by simp) ?_;obtain ⟨w0,rfl⟩:∃ w0,w0=w:=⟨_,rfl⟩;have Hl:=hl.old;have hm_l:=hl.max;simp only [bO,Nat.reduceAdd];obtain ⟨q0,hq0⟩:=nm ((fN h u):Bool);obtain ⟨q1,hq1⟩:=nm ((gH b (wl 16)):Bool);obtain ⟨q2,hq2⟩:=nm ((dF m (wl 48)):Bool);obtain ⟨q3,hq3⟩:=nm ((dF t (wl 16)):Bool);obtain ⟨q4,hq4⟩:=nm ((sD t):W);obtain ⟨q5,hq5⟩:=nm ((bR (wl 1)):Rt);obtain ⟨q6,hq6⟩:=nm ((jL t q5):W);obtain ⟨q7,hq7⟩:=nm (F_skewbacklaw26_sanity:Bool);obtain ⟨q8,hq8⟩:=nm ((kG h u b m t):W);obtain ⟨q9,hq9⟩:=nm ((cE h u b m).1:(List I));obtain ⟨q10,hq10⟩:=nm ((cE h u b m).2:W);obtain ⟨q11,hq11⟩:=nm ((n5 q9 t):W);obtain ⟨q12,hq12⟩:=nm ((kQ h u b m l):Bool);refine go2 ?_;intro b1 hb1;refine go_ ?_;intro b2 hb2;refine go_ ?_;intro b3 hb3;refine go_ ?_;intro b4 hb4;refine go_ ?_;intro b5 hb5;refine go3 ?_;refine gJv [16,17,18,19,20,21,22,23,24,25,26,27,28,29,30,31,32,33,34,35,36,37,38,39,40,41,42,43,44,45,46,47,48,49,50] [(50,.bool (!q0||(!q1||(!q2||(!q3||(decide (q4.1<0)||(decide (0<q6.1)||decide (40<(((l).length:Nat):Int)))))))))] (fun K2 J2=>?_) ?_
 ·refine gdr s0 [0,4,8,12,16,20,24,28,32,36,40,44,48,52,56,60,64,68,72,76,80,84,88,92,96,100,104,108,112,116,120,124,128,132,136] [] mix (by kernel_rfl) (go2 ?_);refine pC (.bool q0) aB (xK h u) rfl rfl (by rw [hq0];first|done|rfl) (go_ ?_);rcases bt q0 with h12|h12
  ·refine pB (gE h12) rfl (go_ ?_);refine pC (.bool q1) aB (xV b (wl 16)) rfl rfl (by rw [hq1];first|done|rfl) ?_;refine go2 ?_;rcases bt q1 with h13|h13
   ·refine pB (gE h13) rfl (go_ ?_);refine pC (.bool q2) aB (mH m (wl 48)) rfl rfl (by rw [hq2];first|done|rfl) ?_;refine go2 ?_;rcases bt q2 with h14|h14
    ·refine pB (gE h14) rfl (go_ ?_);refine pC (.bool q3) aB (mH t (wl 16)) rfl rfl (by rw [hq3];first|done|rfl) ?_;refine go2 ?_;rcases bt q3 with h15|h15
     ·refine pB (gE h15) rfl (go_ ?_);refine pC (.int .i64 q4.1) aB (M7 t) rfl rfl (by rw [hq4];first|done|rfl) (go2 ?_);refine pBB rfl (fun h16=>?_) (fun h16=>?_)
      ·have ph16:=of_decide_eq_true h16;refine AG ?_;refine J2 _ _ pp_ s0 (bK (jU h12 (jU h13 (jU h14 (jU h15 (mF h16))))))
      have ph16:=of_decide_eq_false h16;refine go_ ?_;refine pC (AV [pI q5.n,pI q5.d]) aB (lQ (wl 1)) rfl rfl (by rw [hq5]) ?_;refine pC (.int .i64 q6.1) aB (BL t q5) rfl rfl (by rw [hq6];first|done|rfl) (go2 ?_);refine pBB rfl (fun h17=>?_) (fun h17=>?_)
      ·have ph17:=of_decide_eq_true h17;refine go5 ?_;refine J2 _ _ pp_ s0 (bK (jU h12 (jU h13 (jU h14 (jU h15 (j9 h16 (mF h17)))))))
      have ph17:=of_decide_eq_false h17;refine go_ ?_;refine pQ rfl (aL (v':=.int .i64 (((l).length:Nat):Int)) (eR (e:=elRt) uW rfl (SLe.sub Hl sn)) rfl) (go3 ?_);refine J2 _ _ pp_ s0 (bK (jU h12 (jU h13 (jU h14 (jU h15 (j9 h16 (j9 h17 rfl)))))))
     refine pB (iK h15) rfl (SV ?_);refine J2 _ _ pp_ s0 (bK (jU h12 (jU h13 (jU h14 (n7 h15)))))
    refine pB (iK h14) rfl (N1 ?_);refine J2 _ _ pp_ s0 (bK (jU h12 (jU h13 (n7 h14))))
   refine pB (iK h13) rfl (hh_ ?_);refine J2 _ _ pp_ s0 (bK (jU h12 (n7 h13)))
  refine pB (iK h12) rfl (ik_ ?_);refine J2 _ _ pp_ s0 (bK (n7 h12))
 intro g18;refine aH _ rfl (fun h19=>?_) (fun h19=>?_)
 ·refine go_ ?_;refine sC (.bool q7) aB i6 rfl rfl (by rw [hq7];first|done|rfl) (go3 ?_);refine bA rfl (.inr rfl) rfl ?_
  subst_vars;exact congrArg vS2 (show _=(nA h u b m l t) from aY h19 rfl)
 have ph20:=of_decide_eq_false (Bool.or_eq_false_iff.1 (Bool.or_eq_false_iff.1 (Bool.or_eq_false_iff.1 (Bool.or_eq_false_iff.1 (Bool.or_eq_false_iff.1 h19).2).2).2).2).1;have ph21:=of_decide_eq_false (Bool.or_eq_false_iff.1 (Bool.or_eq_false_iff.1 (Bool.or_eq_false_iff.1 (Bool.or_eq_false_iff.1 (Bool.or_eq_false_iff.1 (Bool.or_eq_false_iff.1 h19).2).2).2).2).2).1;have ph22:=of_decide_eq_false (Bool.or_eq_false_iff.1 (Bool.or_eq_false_iff.1 (Bool.or_eq_false_iff.1 (Bool.or_eq_false_iff.1 (Bool.or_eq_false_iff.1 (Bool.or_eq_false_iff.1 h19).2).2).2).2).2).2;refine go7 ?_;refine sC (.int .i64 q8.1) aB (uM h u b m t) rfl rfl (by rw [hq8];first|done|rfl) (go7 ?_);refine bD rfl (aN (E:=31) (e:=elI) (l:=q9) (fun v=>.tuple #[v,.int .i64 q10.1]) aB rfl (fun w hw=>(by rw [hq9,hq10];exact xG h u b m w)) (fun p23 c24 L25 hF26=>?_));have hb27:=(by rw [hq9];exact (xF h u b m):(q9).length≤25);refine go6 ?_;refine gJv [12,66,67,68,69,70,71,72,73,74,75,76,77,78,79,80,81,82,83,84,85,86,87,88,89,90,91] [(12,.bool (q7&&((q10.1==0)&&((q11.1==(W.neg q8).1)&&(decide (q8.1≤0)||(!q12))))))] (fun K3 J3=>?_) ?_
 ·refine go_ ?_;refine sC (.bool q7) aB i6 rfl rfl (by rw [hq7];first|done|rfl) ?_;refine sBB rfl (fun h32=>?_) (fun h32=>?_)
  ·refine go3 ?_;refine sBB rfl (fun h33=>?_) (fun h33=>?_)
   ·refine go2 ?_;refine sQ (aL (v':=.int .i64 q11.1) (bT aB rfl (fun w hw=>(by rw [hq11];exact DH _ q9 t w (aO hw hF26 lZ) oo_))) rfl) rfl (go_ ?_);refine sV (.int .i64 ((W.neg q8).1)) rfl rfl (go2 ?_);refine sBB rfl (fun h34=>?_) (fun h34=>?_)
    ·refine go2 ?_;refine sBB rfl (fun h35=>?_) (fun h35=>?_)
     ·have ph35:=of_decide_eq_true h35;refine AG ?_;refine J3 _ _ pp_ s0 (bK (kZ h32 (kZ h33 (kZ h34 (mF h35)))))
     have ph35:=of_decide_eq_false h35;refine go5 ?_;refine sQ (aL (v':=.bool q12) (bT aB rfl (fun w hw=>(by rw [hq12];exact BO h u b m _ l w (aR hw Hl sn)))) rfl) rfl (go5 ?_);refine J3 _ _ pp_ s0 (bK (kZ h32 (kZ h33 (kZ h34 (j9 h35 rfl)))))
    refine AH ?_;refine J3 _ _ pp_ s0 (bK (kZ h32 (kZ h33 (oZ h34))))
   refine hg_ ?_;refine J3 _ _ pp_ s0 (bK (kZ h32 (oZ h33)))
  refine hh_ ?_;refine J3 _ _ pp_ s0 (bK (oZ h32))
 intro g36;refine go_ ?_;refine bA rfl (.inr rfl) rfl ?_
 subst_vars;exact congrArg vS2 (show _=(nA h u b m l t) from aI h19 rfl)
end Go.Proofs.YtkjjponijamaoaaGreatDoor
namespace Go.Num
open Go Go.Kn
def Zx (z:Z) (v:Int):Prop:=z.o=none∨(z=Z.of v∧fE v)
theorem Zx.of (v:Int):Zx (Z.of v) v:=by
  by_cases h:fE v
  · exact .inr ⟨rfl,h⟩
  refine .inl ?_;rw [Z.of_o,if_neg h]
theorem Zx.lift {f:Int→Int→Z} {a b:Z} {u v r:Int} (ha:Zx a u) (hb:Zx b v) (hf:Zx (f u v) r):Zx (F8 f a b) r:=by
  rcases ha with h|⟨h,h1⟩
  · left;rw [oU (.inl h)];rfl
  rcases hb with k|⟨k,h2⟩
  · left;rw [oU (.inr k)];rfl
  subst h;subst k;rw [eB (Z.of_some h1) (Z.of_some h2)];exact hf
theorem Zx.add {a b:Z} {u v:Int} (ha:Zx a u) (hb:Zx b v):Zx (Z.add a b) (u+v):=ha.lift hb (.of _)
theorem Zx.mul {a b:Z} {u v:Int} (ha:Zx a u) (hb:Zx b v):Zx (Z.mul a b) (u*v):=ha.lift hb (.of _)
def Ix (x:I) (v:Int):Prop:=Zx x.dec v
theorem RR {z:Z} {v:Int} (h:Zx z v):Ix (E z) v:=by unfold Ix;rw [dB];exact h
theorem Ix.of (v:Int):Ix (E (Z.of v)) v:=RR (.of v)
theorem Ix.gd {x:I} {v:Int} (h:Ix x v) (g:gdI x=true):x=E (Z.of v)∧fE v:=by
  obtain ⟨w,hw,e⟩:=hf_ g;subst e;unfold Ix at h;rw [dB] at h;rcases h with h|⟨h,b⟩
  · rw [Z.of_some hw] at h;cases h
  exact ⟨by rw [h],b⟩
theorem QO {l:List I} (h:(mkP l).all gdI=true):l.all gdI=true:=by
  unfold mkP at h
  cases hl:l.all gdI
  · rw [hl,cond_false,qS] at h;cases h
  rfl
def Px (p:List I) (c:Nat→Int):Prop:=p.length≤1000∧(p.all gdI=true→Po p c)
section
variable {p q:List I} {c d:Nat→Int}
theorem Po.px (h:Po p c):Px p c:=⟨h.l3,fun _=>h⟩
theorem cA_ {f:Nat→I} {n:Nat} (h:∀ k,k<n→Ix (f k) (c k)) (h0:∀ k,n≤k→c k=0) (hn:n≤25) (hg:(mkP ((List.range n).map f)).all gdI=true):Po (mkP ((List.range n).map f)) c:=by
  have hall:=QO hg;have hgd:∀ k,k<n→gdI (f k)=true:=fun k hk=>List.all_eq_true.1 hall _ (List.mem_map.2 ⟨k,List.mem_range.2 hk,rfl⟩);refine WF (fun k hk=>((h k hk).gd (hgd k hk)).1) h0 (fun k=>?_) (fun k hk=>h0 k oo_)
  by_cases hk:k<n
  · exact ((h k hk).gd (hgd k hk)).2
  rw [h0 k oo_];exact B0
theorem XN (h:Po p c) (g:Po q d) (k:Nat) :
    ∀ (t i:Nat) (m:I),k+1 - i<t→i≤k+1→Ix m (mD (fun i=>c i*d (k - i)) i)→Ix (gT k q p t i m).2 (conv c d k)
  | 0,i,m,ht,_,_=>absurd ht (Nat.not_lt_zero _)
  | t+1,i,m,ht,hi,hm=>by
    unfold gT;have e:∀ a b,a≤b→p.length≤a→mD (fun i=>c i*d (k - i)) b=mD (fun i=>c i*d (k - i)) a:=fun a b hab hpa =>
      yL (fun j hj=>by rw [h.zero oo_,Int.zero_mul]) b hab
    by_cases hk:((i:Nat):Int)≤min ((k:Nat):Int) (((p.length:Nat):Int) - 1)
    · rw [decide_eq_true hk,cond_true,h.get,g.get,dB,dB]
      exact XN h g k t (i+1) _ oo_ oo_ (RR (Zx.add hm (Zx.mul (.of _) (.of _))))
    rw [decide_eq_false hk,cond_false]
    show Ix m (mD _ (k+1))
    rcases Nat.lt_or_ge i (k+1) with h1|h1
    · rw [e i (k+1) oo_ oo_];exact hm
    rw [show k+1=i by omega];exact hm
theorem Px.mul (hp:Px p c) (hq:Px q d) (hl:p.length+q.length≤26):Px (aW p q) (conv c d):=by
  refine ⟨k25 (iT _ _),fun hg=>?_⟩
  have gp:p.all gdI=true:=by
    cases hc:p.all gdI
    · rw [WO hp.1 hq.1 (.inl hc),qS] at hg;cases hg
    rfl
  have gq:q.all gdI=true:=by
    cases hc:q.all gdI
    · rw [WO hp.1 hq.1 (.inr hc),qS] at hg;cases hg
    rfl
  have h:=hp.2 gp;have g:=hq.2 gq;unfold aW at hg ⊢;rw [h.nb,g.nb,Bool.or_false,cond_false] at hg ⊢
  by_cases h0:p=[]
  · subst h0
    rw [show ((((([]:List I).length:Nat):Int)==0)||(((q.length:Nat):Int)==0))=true by simp,cond_true];exact PY.cast fun k=>Eq.symm (rV fun i _=>by rw [h.zero (Nat.zero_le _),Int.zero_mul])
  by_cases g0:q=[]
  · subst g0
    rw [show ((((p.length:Nat):Int)==0)||(((([]:List I).length:Nat):Int)==0))=true by simp,cond_true];refine PY.cast fun k=>Eq.symm (rV fun i _=>?_);rw [g.zero (Nat.zero_le _),Int.mul_zero]
  have h1:0<p.length:=List.length_pos_iff.2 h0;have h2:0<q.length:=List.length_pos_iff.2 g0
  rw [show ((((p.length:Nat):Int)==0)||(((q.length:Nat):Int)==0))=false by
    rw [Bool.or_eq_false_iff];exact ⟨beq_eq_false_iff_ne.2 oo_,beq_eq_false_iff_ne.2 oo_⟩,cond_false,wR] at hg ⊢
  have hz:∀ k,p.length+q.length≤k+1→conv c d k=0:=fun k hk=>FK (fun i hi=>h.zero hi) (fun i hi=>g.zero hi) k hk;refine cA_ (fun k _=>?_) (fun k hk=>hz k oo_) oo_ hg;unfold nR
  show Ix (gT _ _ _ _ _ _).2 _
  refine XN h g k _ _ _ oo_ oo_ ?_;rw [rV fun i hi=>by rw [g.zero oo_,Int.mul_zero]];exact .of 0
theorem Px.add (hp:Px p c) (hq:Px q d):Px (bJ p q) (fun k=>c k+d k):=by
  refine ⟨k25 (fX _ _),fun hg=>?_⟩
  have gp:p.all gdI=true:=by
    cases hc:p.all gdI
    · rw [WK hp.1 hq.1 (.inl hc),qS] at hg;cases hg
    rfl
  have gq:q.all gdI=true:=by
    cases hc:q.all gdI
    · rw [WK hp.1 hq.1 (.inr hc),qS] at hg;cases hg
    rfl
  have h:=hp.2 gp;have g:=hq.2 gq;unfold bJ at hg ⊢;rw [wV _ h.l3 g.l3,h.g,g.g,Bool.and_true,cond_true] at hg ⊢;have hl:=h.l;have gl:=g.l;refine cA_ (fun k _=>?_) (fun k hk=>by rw [h.zero oo_,g.zero oo_];rfl) oo_ hg;rw [h.get,g.get];exact RR (by rw [dB,dB];exact Zx.add (.of _) (.of _))
theorem fX_ {x y:I} {u v:Int} (hx:Ix x u) (hy:Ix y v):Px (gO [x,y]) (lin u v):=by
  refine ⟨k25 (uF _),fun hg=>?_⟩;rw [AZ] at hg;have:=QO hg;obtain ⟨e1,b1⟩:=hx.gd (List.all_eq_true.1 this x (by simp));obtain ⟨e2,b2⟩:=hy.gd (List.all_eq_true.1 this y (by simp));rw [e1,e2];exact VJ b1 b2
theorem gb_ {x:I} {u:Int} (hx:Ix x u):Px (gO [x]) (lin u 0):=by
  refine ⟨k25 (uF _),fun hg=>?_⟩;rw [AZ] at hg;have:=QO hg;obtain ⟨e1,b1⟩:=hx.gd (List.all_eq_true.1 this x (by simp));rw [e1];exact bU_ b1
theorem hw_ {x:I} {D:Int} (hx:Ix x D):∀ k,Ix (pw x k) (D ^ k)
  | 0=>by rw [Int.pow_zero];exact .of 1
  | k+1=>by rw [pw,Int.pow_succ];exact RR (Zx.mul (hw_ hx k) hx)
end
theorem gu_ (c:Nat→Int) (u v W:Int) (L:Nat):∀ t k,t≤k→sb c u v W L t k=0
  | 0,k,_=>rfl
  | t+1,k,h=>by
    show conv (sb c u v W L t) (lin u v) k+lin (c (L - 1 - t)*W ^ t) 0 k=0
    rw [FK (n:=t) (m:=2) (gu_ c u v W L t) (fun i hi=>by unfold lin;rw [if_neg oo_,if_neg oo_]) k oo_];unfold lin;rw [if_neg oo_,ite_self];rfl
theorem ZJ (x y:I):(gO [x,y]).length≤2:=by
  rw [AZ];exact QP _
section
variable {p:List I} {c:Nat→Int} {a b:Rt} {N D M F:Int}
theorem YE (h:Po p c) (h7:p.length≤7) (ia:a.Is N D) (ib:b.Is M F) :
    ∀ (f t:Nat) (i:Int) (r:List I),t≤p.length→i=((p.length:Nat):Int) - 1 - t→p.length - t<f→r.length≤t→Px r (sb c (N*F) (M*D) (D*F) p.length t) →
    Px (eO p a b f r i).1 (sb c (N*F) (M*D) (D*F) p.length p.length)
  | 0,t,i,r,_,_,hf,_,_=>absurd hf (Nat.not_lt_zero _)
  | f+1,t,i,r,ht,hi,hf,hrl,hr=>by
    unfold eO
    by_cases h0:0≤i
    · rw [decide_eq_true h0,cond_true]
      have htl:t<p.length:=by omega
      have e1:i.toNat=p.length - 1 - t:=by omega
      have e2:p.length - 1 - i.toNat=t:=by omega
      simp only;rw [e2,yH _ _ (show t<max (((p.length:Nat):Int)).toNat 1 by omega),ia.ed,ia.en,ib.ed,ib.en,e1,h.get];have ml:=ZJ (E (Z.mul (E (Z.of N)).dec (E (Z.of F)).dec)) (E (Z.mul (E (Z.of M)).dec (E (Z.of D)).dec));have m1:=Px.mul hr (fX_ (x:=E (Z.mul (E (Z.of N)).dec (E (Z.of F)).dec)) (y:=E (Z.mul (E (Z.of M)).dec (E (Z.of D)).dec)) (RR (Zx.mul (Ix.of N) (Ix.of F))) (RR (Zx.mul (Ix.of M) (Ix.of D)))) oo_;have m2:=m1.add (gb_ (x:=E (Z.mul (E (Z.of (c (p.length - 1 - t)))).dec (pw (E (Z.mul (E (Z.of D)).dec (E (Z.of F)).dec)) t).dec)) (u:=c (p.length - 1 - t)*(D*F) ^ t) (RR (Zx.mul (Ix.of _) (hw_ (RR (Zx.mul (Ix.of D) (Ix.of F))) t))));refine YE h h7 ia ib f (t+1) _ _ oo_ oo_ oo_ ?_ m2;have k1:=XL hrl ml oo_;refine KE (n:=t+1) (Nat.le_trans k1 oo_) ?_ oo_ oo_;rw [AZ];exact Nat.le_trans (QP _) (by simp)
    rw [decide_eq_false h0,cond_false]
    have:t=p.length:=by omega
    rw [← this];rw [← this] at hr;exact hr
end
open Go Go.Kn
theorem Zx.good {z:Z} {v:Int} (h:Zx z v) (g:z.o≠none):z=Z.of v∧fE v:=by
  rcases h with h|h
  · exact absurd h g
  exact h
theorem gJ_ {a b:Rt} {p q:Rat} (ha:a.At p) (hb:b.At q) (hg:aG (dP a b)=true):(dP a b).At (p+q):=by
  unfold dP at hg ⊢;rw [oA ha,oA hb] at hg ⊢;simp only [Bool.not_true,Bool.or_false,cond_false] at hg ⊢;have ia:=At.is ha;have ib:=At.is hb;rw [ia.en,ia.ed,ib.en,ib.ed] at hg ⊢;simp only [dB] at hg ⊢;have hdp:=@oF p;have hdq:=@oF q
  have hg0:0<((Int.gcd (p.den:Int) (q.den:Int):Nat):Int):=by
    have:=Int.gcd_pos_of_ne_zero_right (p.den:Int) (show (q.den:Int)≠0 by omega);omega
  have hbg:=LY (u:=(p.den:Int)) ib.hd oo_;have g1:((Int.gcd (p.den:Int) (q.den:Int):Nat):Int) ∣ (p.den:Int):=Int.gcd_dvd_left ..;have g2:((Int.gcd (p.den:Int) (q.den:Int):Nat):Int) ∣ (q.den:Int):=Int.gcd_dvd_right ..;rw [BE ia.hd ib.hd,zF ib.hd hbg hg0,zF ia.hd hbg hg0] at hg ⊢;generalize ((Int.gcd (p.den:Int) (q.den:Int):Nat):Int)=G at *;obtain ⟨x,hx⟩:=g1;obtain ⟨y,hy⟩:=g2
  have q1:(p.den:Int) / G=x:=by rw [hx];exact Int.mul_ediv_cancel_left _ oo_
  have q2:(q.den:Int) / G=y:=by rw [hy];exact Int.mul_ediv_cancel_left _ oo_
  rw [q1,q2] at hg ⊢
  have x0:0<x:=by rw [hx] at hdp;exact Int.pos_of_mul_pos_right hdp hg0
  have n1:Zx (Z.add (Z.mul (Z.of p.num) (Z.of y)) (Z.mul (Z.of q.num) (Z.of x))) (p.num*y+q.num*x):=Zx.add (Zx.mul (.of _) (.of _)) (Zx.mul (.of _) (.of _));have n2:Zx (Z.mul (Z.of x) (Z.of (q.den:Int))) (x*q.den):=Zx.mul (.of _) (.of _)
  have bd:aG lB=false:=by decide +kernel
  obtain ⟨e1,b1⟩:=n1.good fun h=>by
    rw [Z.eq_bad h,IM,bd] at hg;cases hg
  obtain ⟨e2,b2⟩:=n2.good fun h=>by
    rw [Z.eq_bad h,IN,bd] at hg;cases hg
  rw [e1,e2];refine yP b1 b2 (Int.mul_pos x0 hdq) ?_
  have key:p+q=Rat.divInt (p.num*y+q.num*x) (x*q.den):=by
    conv=>lhs;rw [← Rat.num_divInt_den p,← Rat.num_divInt_den q,Rat.divInt_add_divInt _ _ oo_ oo_]
    refine (Rat.divInt_eq_divInt_iff (Int.mul_ne_zero oo_ oo_) (Int.mul_ne_zero oo_ oo_)).2 ?_;rw [hx,hy];grind
  have h3:=Rat.num_divInt_den (p+q);rw [key] at h3 ⊢;have h4:=(Rat.divInt_eq_divInt_iff (by have:=@oF (Rat.divInt (p.num*y+q.num*x) (x*q.den));omega) (Int.mul_ne_zero oo_ oo_)).1 h3;exact h4
theorem gQ_ {a b:Rt} {p q:Rat} (ha:a.At p) (hb:b.At q) (hg:aG (dC a b)=true):(dC a b).At (p - q):=by
  unfold dC at hg ⊢;rw [Rat.sub_eq_add_neg];exact gJ_ ha (UT hb) hg
theorem ZR {p:List I} {c:Nat→Int} (h:Po p c):∃ g:Int,0<g∧∀ k,(c k).fdiv (cN p)*g=c k:=by
  by_cases h0:p=[]
  · refine ⟨1,by decide,fun k=>?_⟩
    rw [h.zero (k:=k) (by rw [h0];exact Nat.zero_le k),Int.zero_fdiv];rfl
  exact ⟨(cN p:Nat),by have:=h.cpos h0;omega,fun k=>by rw [Int.mul_comm];exact TO h k⟩
section
variable {p:List I} {c:Nat→Int} {a b:Rt} {qa qb qd:Rat}
theorem YV {d:Rt} (h:Po p c) (h7:p.length≤7) (ha:a.At qa) (hd:d.At qd) (hg:(dY p a d).all gdI=true):∃ (g W:Int) (γ:Nat→Int),0<g∧0<W∧Po (dY p a d) γ∧(∀ k,p.length≤k→γ k=0)∧∀ y:Rat,(g:Rat)*vl (cR γ) y 26=(W:Rat)*vl (cR c) (qa+qd*y) p.length:=by
  have ia:=At.is ha;have ib:=At.is hd
  have hS:Px (gU p a d) (sb c (qa.num*qd.den) (qd.num*qa.den) (qa.den*qd.den) p.length p.length):=by
    unfold gU;rw [h.nb,LW,lW,lW,oA ha,oA hd];exact YE h h7 ia ib (p.length+1) 0 _ [] (Nat.zero_le _) oo_ oo_ (Nat.zero_le _) PY.px
  have hP:=hS.2 (bX_ hS.1 hg).1;obtain ⟨g,gp,hk⟩:=ZR hP;have hWp:(0:Int)<qa.den*qd.den:=Int.mul_pos oF oF;refine ⟨g,_,_,gp,Int.pow_pos (m:=p.length - 1) hWp,QV hP,fun k hk=>by rw [gu_ _ _ _ _ _ _ k hk,Int.zero_fdiv],fun y=>?_⟩
  have hz:(((qa.num*qd.den:Int)):Rat)+((qd.num*qa.den:Int):Rat)*y=((qa.den*qd.den:Int):Rat)*(qa+qd*y):=by
    have k1:=@wU qa;have k2:=@wU qd;rw [Rat.intCast_mul,Rat.intCast_mul,Rat.intCast_mul,← k1,← k2];grind
  have e1:=gt_ (c:=c) (L:=p.length) hz hWp (fun t _ k hk=>gu_ c _ _ _ _ t k hk) oo_;rw [Rat.intCast_pow,← e1,← cN_]
  congr 1
  funext k
  show (g:Rat)*(((sb c _ _ _ _ _ k).fdiv _:Int):Rat)=((sb c _ _ _ _ _ k:Int):Rat)
  rw [← Rat.intCast_mul,Int.mul_comm,hk]
theorem aL_ {n:Nat} {γ:Nat→Int} (hp:p.length=n+1) (hn:n≤6) (hC:Po (dY p a (eP b a)) γ) (out:List I) {i:Nat} (hi:i≤n):∀ (f j:Nat) (z:Z),i+1 - j<f→j≤i+1→Zx z (mD (fun k=>wt n i k*γ k) j) →
    ∃ z',(eZ p a b out i f j (E z)).2=E z'∧Zx z' (bs γ n i)
  | 0,j,z,h,_,_=>absurd h (Nat.not_lt_zero _)
  | f+1,j,z,h,hj,hz=>by
    unfold eZ;rw [show ((p.length:Nat):Int) - 1=(n:Int) by omega,BB hn hi,List.length_map,List.length_range];rcases Nat.lt_or_eq_of_le hj with h1|h1
    · rw [decide_eq_true oo_,cond_true]
      have e1:((List.range (i+1)).map fun k=>E (Z.of (wt n i k))).getD j I0=E (Z.of (wt n i j)):=by rw [FC,if_pos h1]
      simp only;rw [e1,EQ,hC.get];simp only [dB];exact aL_ hp hn hC out hi f (j+1) _ oo_ h1 (Zx.add hz (Zx.mul (.of _) (.of _)))
    subst h1;rw [decide_eq_false oo_,cond_false];exact ⟨z,rfl,hz⟩
theorem aK_ {n:Nat} {γ:Nat→Int} (hp:p.length=n+1) (hn:n≤6) (hC:Po (dY p a (eP b a)) γ):∀ (f i:Nat),n+1 - i<f→i≤n+1→(∀ j,j<i→fE (bs γ n j)) →
    (∃ r,d9 p a b f ((List.range i).map fun i=>E (Z.of (bs γ n i))) i = .inr r∧r.2=false) ∨
    (d9 p a b f ((List.range i).map fun i=>E (Z.of (bs γ n i))) i = .inl ((List.range (n+1)).map fun i=>E (Z.of (bs γ n i)),n+1)∧∀ j,j<n+1→fE (bs γ n j))
  | 0,i,h,_,_=>absurd h (Nat.not_lt_zero _)
  | f+1,i,h,hi,hb=>by
    unfold d9;rcases Nat.lt_or_eq_of_le hi with h1|h1
    · rw [decide_eq_true oo_,cond_true,show ((p.length:Nat):Int) - 1=(n:Int) by omega,BB hn oo_,List.length_map,List.length_range]
      obtain ⟨z,e1,hz⟩:=aL_ hp hn hC ((List.range i).map fun i=>E (Z.of (bs γ n i))) (show i≤n by omega) (i+1+1) 0 (Z.of 0) oo_ (Nat.zero_le _) (.of 0);rw [show E (Z.of 0)=I0 from I0_E.symm] at e1;simp only [ap];rw [e1]
      by_cases hn0:z.o=none
      · rw [Z.eq_bad hn0]
        exact .inl ⟨_,rfl,rfl⟩
      obtain ⟨ez,bz⟩:=hz.good hn0;rw [ez,bN_ bz,cond_false]
      have e2:((List.range i).map fun i=>E (Z.of (bs γ n i)))++[E (Z.of (bs γ n i))]=(List.range (i+1)).map fun i=>E (Z.of (bs γ n i)):=by rw [List.range_succ,List.map_append];rfl
      rw [e2];refine aK_ hp hn hC f (i+1) oo_ h1 fun j hj=>?_;rcases Nat.lt_or_eq_of_le (Nat.le_of_lt_succ hj) with k|k
      · exact hb j k
      rw [k];exact bz
    subst h1;rw [decide_eq_false oo_,cond_false];exact .inr ⟨rfl,hb⟩
theorem e8_ {n:Nat} (h:Po p c) (hp:p.length=n+1) (hn:n≤6) (ha:a.At qa) (hb:b.At qb) (hg:(cW p a b).2=true) :
    ∃ (γ:Nat→Int) (g W G:Int) (l:Nat→Int),0<g∧0<W∧0<G∧(∀ k,n+1≤k→γ k=0)∧(∀ y:Rat,(g:Rat)*vl (cR γ) y 26=(W:Rat)*vl (cR c) (qa+(qb - qa)*y) p.length)∧(∀ i,i≤n→G*l i=bs γ n i)∧(∀ i,i≤n→fE (l i))∧(cW p a b).1=(List.range (n+1)).map (fun i=>E (Z.of (l i))):=by
  have hf:kP [a,b]=true:=by rw [LW,lW,lW,oA ha,oA hb];rfl
  have hc1:(dY p a (eP b a)).length≤1000:=k25 (yE _ _ _)
  cases hc:(dY p a (eP b a)).all gdI
  · unfold cW at hg
    rw [h.nb,hf,vA hc1,hc] at hg
    cases hg
  have hsg:aG (dC b a)=true:=by
    cases hs:aG (dC b a)
    · unfold dY gU at hc
      rw [h.nb,LW,lW,lW,oA ha,EO,hs] at hc;simp only [Bool.and_false,Bool.not_false,Bool.or_true,cond_true] at hc;rw [show (d7 F_poly_bad).all gdI=false by decide +kernel] at hc
      cases hc
    rfl
  have hd:=gQ_ hb ha hsg;rw [← EO] at hd;obtain ⟨g,W,γ,gp,Wp,hC,hz,hv⟩:=YV h oo_ ha hd hc;rcases aK_ hp hn hC (p.length+1) 0 oo_ (Nat.zero_le _) (fun j hj=>absurd hj (Nat.not_lt_zero _)) with ⟨r,e0,er⟩|⟨e0,hB⟩
  · rw [show ((List.range 0).map fun i=>E (Z.of (bs γ n i)))=([]:List I) from rfl] at e0
    unfold cW at hg;rw [h.nb,hf,hC.nb,e0] at hg;simp only [sm,Bool.not_true,Bool.or_false,cond_false] at hg;rw [er] at hg;cases hg
  rw [show ((List.range 0).map fun i=>E (Z.of (bs γ n i)))=([]:List I) from rfl] at e0
  have hall:((List.range (n+1)).map fun i=>E (Z.of (bs γ n i))).all gdI=true:=by
    rw [List.all_eq_true];intro x hx;obtain ⟨i,hi,rfl⟩:=List.mem_map.1 hx;exact SU (hB i (List.mem_range.1 hi))
  obtain ⟨c1,c2⟩:=ES hall
  have cd:∀ i,i<n+1→((cN ((List.range (n+1)).map fun i=>E (Z.of (bs γ n i))):Nat):Int) ∣ bs γ n i:=fun i hi=>by
    have:=IG (l:=(List.range (n+1)).map fun i=>E (Z.of (bs γ n i))) (x:=E (Z.of (bs γ n i))) (List.mem_map.2 ⟨i,List.mem_range.2 hi,rfl⟩)
    rwa [aa_ (hB i hi)] at this
  have hnz:∀ k,n+1≤k→γ k=0:=fun k hk=>hz k oo_;unfold cW;rw [h.nb,hf,hC.nb,e0];simp only [sm,Bool.not_true,Bool.or_false,cond_false];rw [c1,dB,o7 c2];generalize hout:((List.range (n+1)).map fun i=>E (Z.of (bs γ n i)))=out at *
  have hlen:out.length=n+1:=by rw [← hout,List.length_map,List.length_range]
  rcases Nat.eq_zero_or_pos (cN out) with h0|h0
  · rw [h0]
    refine ⟨γ,g,W,1,bs γ n,gp,Wp,by decide,hnz,hv,fun i _=>Int.one_mul _,fun i hi=>hB i oo_,?_⟩;rw [show (((((0:Nat):Int)).sign) != 0)=false from rfl,cond_false,hout]
  rw [Int.sign_eq_one_of_pos oo_,show (((1:Int)) != 0)=true from rfl,cond_true];have hl:∀ k,k<n+1→((cN out:Nat):Int)*(bs γ n k / (cN out:Nat))=bs γ n k:=fun k hk=>Int.mul_ediv_cancel' (cd k hk);refine ⟨γ,g,W,(cN out:Nat),fun i=>bs γ n i / (cN out:Nat),gp,Wp,by omega,hnz,hv,fun i hi=>hl i oo_,fun i hi=>?_,?_⟩
  · have h1:=hl i oo_
    refine Nat.lt_of_le_of_lt ?_ (hB i oo_);rw [← h1,Int.natAbs_mul];rw [Int.natAbs_natCast];exact Nat.le_mul_of_pos_left _ h0
  have e2:=aM_ (p:=p) (a:=a) (b:=b) out (n+1) (v:=bs γ n) (l:=fun i=>bs γ n i / (cN out:Nat)) oo_ c2 hB hl hlen c1 (out.length+1) 0 oo_ (Nat.zero_le _);rw [show ((List.range (n+1)).map fun i=>E (Z.of (if i<0 then bs γ n i / (cN out:Nat) else bs γ n i)))=out from by rw [← hout];exact List.map_congr_left fun i _=>by rw [if_neg (Nat.not_lt_zero _)]] at e2
  show (gF p a b out (n+1) (out.length+1) 0 out).2=_
  rw [e2]
end
theorem YF {f:Nat→Rat}:∀ {n:Nat},(∀ i,i<n→0≤f i)→0≤mD f n
  | 0,_=>Rat.le_refl
  | n+1,h=>by
    have h1:=YF (n:=n) fun i hi=>h i oo_;have h2:=h n oo_
    show 0≤mD f n+f n
    grind
theorem Q6 {x:Rat} (h:0≤x):∀ n:Nat,0≤x ^ n
  | 0=>by rw [Rat.pow_zero];decide +kernel
  | n+1=>by rw [Rat.pow_succ];exact Rat.mul_nonneg (Q6 h n) h
theorem SN:∀ n,0<fac n
  | 0=>by decide
  | n+1=>Int.mul_pos (SN n) oo_
theorem DA {a b:Rat} (ha:0<a) (h:0≤a*b):0≤b:=by
  refine Rat.not_lt.1 fun hb=>?_;have:=Rat.mul_pos ha (show 0 < -b by grind)
  grind
theorem dt_ {p:List I} {c:Nat→Int} {a b:Rt} {qa qb:Rat} (h:Po p c) (h7:p.length≤7) (ha:a.At qa) (hb:b.At qb) (hab:qa<qb) (hf:(fC p a b).1=true) {t:Rat} (t0:qa≤t) (t1:t≤qb):0≤vl (cR c) t p.length:=by
  by_cases h0:p=[]
  · rw [h0];exact Rat.le_refl
  obtain ⟨n,hp⟩:∃ n,p.length=n+1:=⟨p.length - 1,by have:=List.length_pos_iff.2 h0;omega⟩
  have hn:n≤6:=by omega
  unfold fC at hf
  cases hg:(cW p a b).2
  · rw [hg] at hf;cases hf
  rw [hg] at hf;simp only [cond_true] at hf;obtain ⟨γ,g,W,G,l,gp,Wp,Gp,hz,hv,hl,lb,hL⟩:=e8_ h hp hn ha hb hg;rw [G7 _ _ (RP (show p.length≤100 by omega) a b),hL] at hf
  have hlz:∀ i,i≤n→0≤l i:=fun i hi=>by
    have hx:E (Z.of (l i))∈(List.range (n+1)).map (fun i=>E (Z.of (l i))):=List.mem_map.2 ⟨i,List.mem_range.2 oo_,rfl⟩;have:=List.any_eq_false.1 (by simpa using hf) _ hx;unfold kM at this;rw [dB,o7 (lb i hi)] at this
    have h2:¬ (l i).sign<0:=by simpa using this
    exact Int.sign_nonneg_iff.1 oo_
  obtain ⟨y,hy⟩:∃ y:Rat,y=(t - qa) / (qb - qa):=⟨_,rfl⟩
  have dp:0<qb - qa:=by grind
  have hd0:qb - qa≠0:=by grind
  have ey:(qb - qa)*y=t - qa:=by rw [hy,Rat.mul_comm];exact Rat.div_mul_cancel hd0
  have y0:0≤y:=DA dp (by grind);have y1:0≤1 - y:=DA dp (by grind);have hs:=c9_ hn γ y
  have k1:0≤mD (fun i=>(bs γ n i:Rat)*((bin n i:Nat):Rat)*(y ^ i*(1 - y) ^ (n - i))) (n+1):=YF fun i hi=>by
    have b1:0≤bs γ n i:=by rw [← hl i oo_];exact Int.mul_nonneg oo_ (hlz i oo_)
    have b2:(0:Rat)≤((bs γ n i:Int):Rat):=Rat.intCast_nonneg.2 b1
    have b3:(0:Rat)≤((bin n i:Nat):Rat):=by
      rw [show ((bin n i:Nat):Rat)=(((bin n i:Nat):Int):Rat) from (Rat.intCast_natCast _).symm];exact Rat.intCast_nonneg.2 oo_
    exact Rat.mul_nonneg (Rat.mul_nonneg b2 b3) (Rat.mul_nonneg (Q6 y0 i) (Q6 y1 _))
  rw [hs] at k1;have k2:=DA (Rat.intCast_pos.2 (SN n)) k1;have k3:vl (cR γ) y 26=mD (fun k=>(γ k:Rat)*y ^ k) (n+1):=DN (n:=n+1) (fun i hi=>by unfold cR;rw [hz i hi];rfl) oo_;rw [← k3] at k2;have k4:=hv y;rw [ey,show qa+(t - qa)=t by grind] at k4;refine DA (Rat.intCast_pos.2 Wp) ?_;rw [← k4];exact Rat.mul_nonneg (Rat.le_of_lt (Rat.intCast_pos.2 gp)) k2
open Go Go.Kn
section
variable {h:Path} {v:A3 W} {b:A3 Rt} {m:Rt} {p:List I} {c:Nat→Int}
theorem XD (hs:Slk h v b m p c) (L:List Rt) {e:Rt}:∀ {l:List Rt} {a:Rt} {qa:Rat},a.At qa→gC h v b m L l a = .inl e →
    (l=[]∧e=a)∨(e=l.getD (l.length - 1) Rt0∧∃ qe,e.At qe∧∀ t:Rat,qa≤t→t≤qe→0≤e26 c t)
  | [],a,qa,ha,hl=>by
    rw [gC] at hl
    injection hl with hl
    exact .inl ⟨rfl,hl.symm⟩
  | x::l,a,qa,ha,hl=>by
    rw [gC,hs.eq] at hl
    cases h1:(!(aT x)||decide ((jL x a).1≤0))
    case true=>rw [h1] at hl;cases hl
    rw [h1,cond_false] at hl;simp only [Bool.or_eq_false_iff,Bool.not_eq_false',decide_eq_false_iff_not] at h1;obtain ⟨g,hc⟩:=h1;rw [lW] at g;obtain ⟨qx,hx⟩:=XA g;have hlt:qa<qx:=(US hx ha).1 oo_
    cases h2:(!((fC p a x).1)||(((fC p a x).2).1 != 0))
    case true=>rw [h2] at hl;cases hl
    rw [h2,cond_false] at hl;simp only [Bool.or_eq_false_iff,Bool.not_eq_false'] at h2;have hl7:=hs.pb.po.len hs.pb.bd
    have piece:∀ t:Rat,qa≤t→t≤qx→0≤e26 c t:=fun t t0 t1=>by
      have:=dt_ hs.pb.po hl7 ha hx hlt h2.1 t0 t1;have e1:vl (cR c) t 26=vl (cR c) t p.length:=DN (fun i hi=>by unfold cR;rw [hs.pb.po.zero hi];rfl) oo_;unfold e26;rw [e1];exact this
    right
    rcases XD hs L hx hl with ⟨k1,k2⟩|⟨k1,qe,k2,k3⟩
    · subst k1;subst k2
      exact ⟨rfl,qx,hx,piece⟩
    refine ⟨?_,qe,k2,fun t t0 t1=>?_⟩
    · cases l with
      | nil=>rw [gC] at hl;injection hl with hl;rw [← hl];rfl
      | cons y l=>rw [k1];simp
    by_cases ht:t≤qx
    · exact piece t t0 ht
    exact k3 t (by grind) t1
theorem bp_ (h:Path) (v:A3 W) (b:A3 Rt) (m:Rt) (L:List Rt):∀ (k:List Rt) (a:Rt) (r:Bool),gC h v b m L k a = .inr r→r=false
  | [],a,r,hl=>by rw [gC] at hl;cases hl
  | x::k,a,r,hl=>by
    rw [gC] at hl
    cases u1:(!(aT x)||decide ((jL x a).1≤0))
    · rw [u1,cond_false] at hl
      cases u2:(!((fC ((cE h v b m).1) a x).1)||(((fC ((cE h v b m).1) a x).2).1 != 0))
      · rw [u2,cond_false] at hl
        exact bp_ h v b m L k x r hl
      rw [u2,cond_true] at hl
      injection hl with hl;exact hl.symm
    rw [u1,cond_true] at hl
    injection hl with hl;exact hl.symm
theorem iw_ {x:Rt} {q:Rat} (h:PB p c 7 250) (hx:x.At q) (sq:Sz q 16):(aZ p x).ok=true∧(aZ p x).s.1=(e26 c q).num.sign:=by
  have s:=dS_ h hx sq;rw [LB (show p.length≤1000 from h.po.l3) x] at s;exact s
theorem hv_ (a:Rt) {q:Rat} (ha:a.At q):(sD a).1=q.num.sign:=by
  unfold sD;rw [lW,oA ha,(At.is ha).en,dB];exact o7 (At.is ha).hn
theorem as_ (hs:F_skewbacklaw26_sanity=true) (h:Path) (v:A3 W) (b:A3 Rt) (m:Rt) (l:List Rt) (t:Rt):nA h v b m l t=true:=by
  unfold nA
  cases hc:(!(fN h v)||(!(gH b (wl 16))||(!(dF m (wl 48))||(!(dF t (wl 16))||(decide ((sD t).1<0)||(decide (0<(jL t (bR (wl 1))).1)||decide (40<(((l).length:Nat):Int))))))))
  case true=>rw [cond_true];exact hs
  simp only [Bool.or_eq_false_iff,Bool.not_eq_false',decide_eq_false_iff_not] at hc;obtain ⟨c1,c2,c3,c4,c5,c6,c7⟩:=hc;obtain ⟨p,c,sl⟩:=cu_ c1 c2 c3;obtain ⟨q,ht,sq⟩:=z9 c4;have sq:Sz q 16:=sq
  have q0:0≤q:=by
    rw [hv_ t ht] at c5;exact Rat.num_nonneg.1 (Int.sign_nonneg_iff.1 oo_)
  have q1:q≤1:=by
    have e1:(bR (wl 1)).At 1:=by rw [F6];exact RS (wl 1)
    rw [US ht e1] at c6;exact Rat.not_lt.1 c6
  have hf:=sl.far t q ht sq q0 q1;obtain ⟨o1,v1⟩:=iw_ sl.pb ht sq
  have sb:(e26 c q).num.sign = -1∨(e26 c q).num.sign=0∨(e26 c q).num.sign=1:=by
    rcases Int.lt_trichotomy (e26 c q).num 0 with k|k|k
    · exact .inl (Int.sign_eq_neg_one_of_neg k)
    · rw [k];exact .inr (.inl rfl)
    exact .inr (.inr (Int.sign_eq_one_of_pos k))
  have hn:(W.neg (kG h v b m t)).1=(e26 c q).num.sign:=by
    rw [TC (by rw [hf];omega),hf];omega
  rw [cond_false,hs,sl.eq,hn];unfold n5;rw [o1,cond_true,v1,hf];rw [show ((wl 0).1==0)=true from rfl,BEq.rfl,Bool.true_and,Bool.true_and,Bool.true_and]
  by_cases hneg:(e26 c q).num.sign<0
  · rw [decide_eq_false (show ¬ -(e26 c q).num.sign≤0 by omega),Bool.false_or]
    cases hh:kQ h v b m l
    · rfl
    exfalso
    unfold kQ at hh
    cases hg:((((cE h v b m).2).1 != 0)||(((((l).length:Nat):Int)==0)||(decide (4096<(((l).length:Nat):Int))||(!(decide (((l.getD ((l).length - 1) Rt0).n)=((bR (wl 1)).n))&&decide (((l.getD ((l).length - 1) Rt0).d)=((bR (wl 1)).d)))))))
    case true=>rw [hg] at hh;cases hh
    rw [hg,cond_false] at hh;simp only [Bool.or_eq_false_iff,Bool.not_eq_false',Bool.and_eq_true,decide_eq_true_eq] at hg;obtain ⟨_,g1,_,g3,g4⟩:=hg
    have e0:(bR (wl 0)).At 0:=by rw [F6];exact RS (wl 0)
    have e1:(bR (wl 1)).At 1:=by rw [F6];exact RS (wl 1)
    have el:l.getD (l.length - 1) Rt0=bR (wl 1):=Rt.ext g3 g4
    cases hl:gC h v b m l l (bR (wl 0)) with
    | inr r =>
      rw [hl] at hh;have hr:r=true:=hh;rw [bp_ h v b m l _ _ _ hl] at hr;cases hr
    | inl e =>
      rcases XD sl l e0 hl with ⟨k1,_⟩|⟨k1,qe,k2,k3⟩
      · rw [k1] at g1;cases g1
      rw [el] at k1;rw [k1] at k2;have:=e6_ k2 e1;subst this;have k:=k3 q q0 q1;have:=Int.sign_nonneg_iff.2 (Rat.num_nonneg.2 k);omega
  rw [decide_eq_true (show -(e26 c q).num.sign≤0 by omega)];rfl
end
end Go.Num
