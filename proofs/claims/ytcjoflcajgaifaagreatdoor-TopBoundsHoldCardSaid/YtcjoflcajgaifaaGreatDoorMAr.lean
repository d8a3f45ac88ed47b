/- Lemmas: what they ask stands in their statements. -/
import Derived.Test.YtcjoflcajgaifaaGreatDoorMSsd
set_option linter.unusedSimpArgs false
set_option linter.unusedVariables false
set_option maxHeartbeats 8000000
set_option maxRecDepth 20000
namespace Go.Num
open Go Go.Kn
theorem Zx.good {z:Z} {v:Int} (h:Zx z v) (g:z.o≠none):z=Z.of v∧cM v:=by
 rcases h with h|h
 ·exact absurd h g
 exact h
theorem cK_ {a b:Rt} {p q:Rat} (ha:a.At p) (hb:b.At q) (hg:bH (fI a b)=true):(fI a b).At (p+q):=by
 unfold fI at hg ⊢;rw [iT ha,iT hb] at hg ⊢;simp only [Bool.not_true,Bool.or_false,cond_false] at hg ⊢;have ia:=At.is ha;have ib:=At.is hb;rw [ia.en,ia.ed,ib.en,ib.ed] at hg ⊢;simp only [bR] at hg ⊢;have hdp:=@lS p;have hdq:=@lS q
 have hg0:0<((Int.gcd (p.den:Int) (q.den:Int):Nat):Int):=by
  have:=Int.gcd_pos_of_ne_zero_right (p.den:Int) (show (q.den:Int)≠0 by omega);omega
 have hbg:=OD (u:=(p.den:Int)) ib.hd oo_;have g1:((Int.gcd (p.den:Int) (q.den:Int):Nat):Int) ∣ (p.den:Int):=Int.gcd_dvd_left ..;have g2:((Int.gcd (p.den:Int) (q.den:Int):Nat):Int) ∣ (q.den:Int):=Int.gcd_dvd_right ..;rw [AH ia.hd ib.hd,wQ ib.hd hbg hg0,wQ ia.hd hbg hg0] at hg ⊢;generalize ((Int.gcd (p.den:Int) (q.den:Int):Nat):Int)=G at *;obtain ⟨x,hx⟩:=g1;obtain ⟨y,hy⟩:=g2
 have q1:(p.den:Int) / G=x:=by rw [hx];exact Int.mul_ediv_cancel_left _ oo_
 have q2:(q.den:Int) / G=y:=by rw [hy];exact Int.mul_ediv_cancel_left _ oo_
 rw [q1,q2] at hg ⊢
 have x0:0<x:=by rw [hx] at hdp;exact Int.pos_of_mul_pos_right hdp hg0
 have n1:Zx (Z.add (Z.mul (Z.of p.num) (Z.of y)) (Z.mul (Z.of q.num) (Z.of x))) (p.num*y+q.num*x):=Zx.add (Zx.mul (.of _) (.of _)) (Zx.mul (.of _) (.of _));have n2:Zx (Z.mul (Z.of x) (Z.of (q.den:Int))) (x*q.den):=Zx.mul (.of _) (.of _)
 have bd:bH gJ=false:=by decide +kernel
 obtain ⟨e1,b1⟩:=n1.good fun h=>by
  rw [Z.eq_bad h,CP,bd] at hg;cases hg
 obtain ⟨e2,b2⟩:=n2.good fun h=>by
  rw [Z.eq_bad h,CQ,bd] at hg;cases hg
 rw [e1,e2];refine uM b1 b2 (Int.mul_pos x0 hdq) ?_
 have key:p+q=Rat.divInt (p.num*y+q.num*x) (x*q.den):=by
  conv=>lhs;rw [← Rat.num_divInt_den p,← Rat.num_divInt_den q,Rat.divInt_add_divInt _ _ oo_ oo_]
  refine (Rat.divInt_eq_divInt_iff (Int.mul_ne_zero oo_ oo_) (Int.mul_ne_zero oo_ oo_)).2 ?_;rw [hx,hy];grind
 have h3:=Rat.num_divInt_den (p+q);rw [key] at h3 ⊢;have h4:=(Rat.divInt_eq_divInt_iff (by have:=@lS (Rat.divInt (p.num*y+q.num*x) (x*q.den));omega) (Int.mul_ne_zero oo_ oo_)).1 h3;exact h4
theorem fz_ {a b:Rt} {p q:Rat} (ha:a.At p) (hb:b.At q) (hg:bH (gK a b)=true):(gK a b).At (p - q):=by
 unfold gK at hg ⊢;rw [Rat.sub_eq_add_neg];exact cK_ ha (WT hb) hg
theorem VX {p:List I} {c:Nat→Int} (h:Po p c):∃ g:Int,0<g∧∀ k,(c k).fdiv (cN p)*g=c k:=by
 by_cases h0:p=[]
 ·refine ⟨1,by decide,fun k=>?_⟩
  rw [h.zero (k:=k) (by rw [h0];exact Nat.zero_le k),Int.zero_fdiv];rfl
 exact ⟨(cN p:Nat),by have:=h.cpos h0;omega,fun k=>by rw [Int.mul_comm];exact r7 h k⟩
section
variable {p:List I} {c:Nat→Int} {a b:Rt} {qa qb qd:Rat}
theorem U0 {d:Rt} (h:Po p c) (h7:p.length≤20) (ha:a.At qa) (hd:d.At qd) (hg:(cP p a d).all gdI=true):∃ (g W:Int) (γ:Nat→Int),0<g∧0<W∧Po (cP p a d) γ∧(∀ k,p.length≤k→γ k=0)∧∀ y:Rat,(g:Rat)*vl (cR γ) y 26=(W:Rat)*vl (cR c) (qa+qd*y) p.length:=by
 have ia:=At.is ha;have ib:=At.is hd
 have hS:Px (dF p a d) (sb c (qa.num*qd.den) (qd.num*qa.den) (qa.den*qd.den) p.length p.length):=by
  unfold dF;rw [h.nb,N9,hJ,hJ,iT ha,iT hd];exact UI h h7 ia ib (p.length+1) 0 _ [] (Nat.zero_le _) oo_ oo_ (Nat.zero_le _) B9.px
 have hP:=hS.2 (tS hS.1 hg).1;obtain ⟨g,gp,hk⟩:=VX hP;have hWp:(0:Int)<qa.den*qd.den:=Int.mul_pos lS lS;refine ⟨g,_,_,gp,Int.pow_pos (m:=p.length - 1) hWp,oI hP,fun k hk=>by rw [e1_ _ _ _ _ _ _ k hk,Int.zero_fdiv],fun y=>?_⟩
 have hz:((qa.num*qd.den:Int):Rat)+((qd.num*qa.den:Int):Rat)*y=((qa.den*qd.den:Int):Rat)*(qa+qd*y):=by
  have k1:=@AD qa;have k2:=@AD qd;rw [Rat.intCast_mul,Rat.intCast_mul,Rat.intCast_mul,← k1,← k2];grind
 have e1:=ap_ (c:=c) (L:=p.length) hz hWp (fun t _ k hk=>e1_ c _ _ _ _ t k hk) oo_;rw [Rat.intCast_pow,← e1,← aT_]
 congr 1
 funext k
 show (g:Rat)*(((sb c _ _ _ _ _ k).fdiv _:Int):Rat)=((sb c _ _ _ _ _ k:Int):Rat)
 rw [← Rat.intCast_mul,Int.mul_comm,hk]
theorem XE {n:Nat} {γ:Nat→Int} (hp:p.length=n+1) (hn:n≤11) (hC:Po (cP p a (fA b a)) γ) (out:List I) {i:Nat} (hi:i≤n):∀ (f j:Nat) (z:Z),i+1 - j<f→j≤i+1→Zx z (fF (fun k=>wt n i k*γ k) j) →
  ∃ z',(e7 p a b out i f j (E z)).2=E z'∧Zx z' (bs γ n i)
 | 0,j,z,h,_,_=>absurd h (Nat.not_lt_zero _)
 | f+1,j,z,h,hj,hz=>by
  unfold e7;rw [show (p.length:Int) - 1=(n:Int) by omega,HO hn hi,List.length_map,List.length_range];rcases Nat.lt_or_eq_of_le hj with h1|h1
  ·rw [decide_eq_true oo_,cond_true]
   have e1:((List.range (i+1)).map fun k=>E (Z.of (wt n i k))).getD j I0=E (Z.of (wt n i j)):=by rw [B4,if_pos h1]
   simp only;rw [e1,AB,hC.get];simp only [bR];exact XE hp hn hC out hi f (j+1) _ oo_ h1 (Zx.add hz (Zx.mul (.of _) (.of _)))
  subst h1;rw [decide_eq_false oo_,cond_false];exact ⟨z,rfl,hz⟩
theorem XD {n:Nat} {γ:Nat→Int} (hp:p.length=n+1) (hn:n≤11) (hC:Po (cP p a (fA b a)) γ):∀ (f i:Nat),n+1 - i<f→i≤n+1→(∀ j,j<i→cM (bs γ n j)) →
  (∃ r,e6 p a b f ((List.range i).map fun i=>E (Z.of (bs γ n i))) i = .inr r∧r.2=false) ∨
  (e6 p a b f ((List.range i).map fun i=>E (Z.of (bs γ n i))) i = .inl ((List.range (n+1)).map fun i=>E (Z.of (bs γ n i)),n+1)∧∀ j,j<n+1→cM (bs γ n j))
 | 0,i,h,_,_=>absurd h (Nat.not_lt_zero _)
 | f+1,i,h,hi,hb=>by
  unfold e6;rcases Nat.lt_or_eq_of_le hi with h1|h1
  ·rw [decide_eq_true oo_,cond_true,show (p.length:Int) - 1=(n:Int) by omega,HO hn oo_,List.length_map,List.length_range]
   obtain ⟨z,e1,hz⟩:=XE hp hn hC ((List.range i).map fun i=>E (Z.of (bs γ n i))) (show i≤n by omega) (i+1+1) 0 (Z.of 0) oo_ (Nat.zero_le _) (.of 0);rw [show E (Z.of 0)=I0 from I0_E.symm] at e1;simp only [ap];rw [e1]
   by_cases hn0:z.o=none
   ·rw [Z.eq_bad hn0]
    exact .inl ⟨_,rfl,rfl⟩
   obtain ⟨ez,bz⟩:=hz.good hn0;rw [ez,LN bz,cond_false]
   have e2:((List.range i).map fun i=>E (Z.of (bs γ n i)))++[E (Z.of (bs γ n i))]=(List.range (i+1)).map fun i=>E (Z.of (bs γ n i)):=by rw [List.range_succ,List.map_append];rfl
   rw [e2];refine XD hp hn hC f (i+1) oo_ h1 fun j hj=>?_;rcases Nat.lt_or_eq_of_le (Nat.le_of_lt_succ hj) with k|k
   ·exact hb j k
   rw [k];exact bz
  subst h1;rw [decide_eq_false oo_,cond_false];exact .inr ⟨rfl,hb⟩
theorem WP {n:Nat} (h:Po p c) (hp:p.length=n+1) (hn:n≤11) (ha:a.At qa) (hb:b.At qb) (hg:(aL p a b).2=true) :
  ∃ (γ:Nat→Int) (g W G:Int) (l:Nat→Int),0<g∧0<W∧0<G∧(∀ k,n+1≤k→γ k=0)∧(∀ y:Rat,(g:Rat)*vl (cR γ) y 26=(W:Rat)*vl (cR c) (qa+(qb - qa)*y) p.length)∧(∀ i,i≤n→G*l i=bs γ n i)∧(∀ i,i≤n→cM (l i))∧(aL p a b).1=(List.range (n+1)).map (fun i=>E (Z.of (l i))):=by
 have hf:gS [a,b]=true:=by rw [N9,hJ,hJ,iT ha,iT hb];rfl
 have hc1:(cP p a (fA b a)).length≤1000:=k25 (vU _ _ _)
 cases hc:(cP p a (fA b a)).all gdI
 ·unfold aL at hg
  rw [h.nb,hf,lY hc1,hc] at hg
  cases hg
 have hsg:bH (gK b a)=true:=by
  cases hs:bH (gK b a)
  ·unfold cP dF at hc
   rw [h.nb,N9,hJ,hJ,iT ha,QQ,hs] at hc;simp only [Bool.and_false,Bool.not_false,Bool.or_true,cond_true] at hc;rw [show (aC F_poly_bad).all gdI=false by decide +kernel] at hc
   cases hc
  rfl
 have hd:=fz_ hb ha hsg;rw [← QQ] at hd;obtain ⟨g,W,γ,gp,Wp,hC,hz,hv⟩:=U0 h oo_ ha hd hc;rcases XD hp hn hC (p.length+1) 0 oo_ (Nat.zero_le _) (fun j hj=>absurd hj (Nat.not_lt_zero _)) with ⟨r,e0,er⟩|⟨e0,hB⟩
 ·rw [show ((List.range 0).map fun i=>E (Z.of (bs γ n i)))=([]:List I) from rfl] at e0
  unfold aL at hg;rw [h.nb,hf,hC.nb,e0] at hg;simp only [sm,Bool.not_true,Bool.or_false,cond_false] at hg;rw [er] at hg;cases hg
 rw [show ((List.range 0).map fun i=>E (Z.of (bs γ n i)))=([]:List I) from rfl] at e0
 have hall:((List.range (n+1)).map fun i=>E (Z.of (bs γ n i))).all gdI=true:=by
  rw [List.all_eq_true];intro x hx;obtain ⟨i,hi,rfl⟩:=List.mem_map.1 hx;exact LB (hB i (List.mem_range.1 hi))
 obtain ⟨c1,c2⟩:=yA hall
 have cd:∀ i,i<n+1→((cN ((List.range (n+1)).map fun i=>E (Z.of (bs γ n i))):Nat):Int) ∣ bs γ n i:=fun i hi=>by
  have:=CD (l:=(List.range (n+1)).map fun i=>E (Z.of (bs γ n i))) (x:=E (Z.of (bs γ n i))) (List.mem_map.2 ⟨i,List.mem_range.2 hi,rfl⟩)
  rwa [WJ (hB i hi)] at this
 have hnz:∀ k,n+1≤k→γ k=0:=fun k hk=>hz k oo_;unfold aL;rw [h.nb,hf,hC.nb,e0];simp only [sm,Bool.not_true,Bool.or_false,cond_false];rw [c1,bR,iQ c2];generalize hout:((List.range (n+1)).map fun i=>E (Z.of (bs γ n i)))=out at *
 have hlen:out.length=n+1:=by rw [← hout,List.length_map,List.length_range]
 rcases Nat.eq_zero_or_pos (cN out) with h0|h0
 ·rw [h0]
  refine ⟨γ,g,W,1,bs γ n,gp,Wp,by decide,hnz,hv,fun i _=>Int.one_mul _,fun i hi=>hB i oo_,?_⟩;rw [show ((((0:Nat):Int).sign) != 0)=false from rfl,cond_false,hout]
 rw [Int.sign_eq_one_of_pos oo_,show ((1:Int) != 0)=true from rfl,cond_true];have hl:∀ k,k<n+1→((cN out:Nat):Int)*(bs γ n k / (cN out:Nat))=bs γ n k:=fun k hk=>Int.mul_ediv_cancel' (cd k hk);refine ⟨γ,g,W,(cN out:Nat),fun i=>bs γ n i / (cN out:Nat),gp,Wp,by omega,hnz,hv,fun i hi=>hl i oo_,fun i hi=>?_,?_⟩
 ·have h1:=hl i oo_
  refine Nat.lt_of_le_of_lt ?_ (hB i oo_);rw [← h1,Int.natAbs_mul];rw [Int.natAbs_natCast];exact Nat.le_mul_of_pos_left _ h0
 have e2:=XF (p:=p) (a:=a) (b:=b) out (n+1) (v:=bs γ n) (l:=fun i=>bs γ n i / (cN out:Nat)) oo_ c2 hB hl hlen c1 (out.length+1) 0 oo_ (Nat.zero_le _);rw [show ((List.range (n+1)).map fun i=>E (Z.of (if i<0 then bs γ n i / (cN out:Nat) else bs γ n i)))=out from by rw [← hout];exact List.map_congr_left fun i _=>by rw [if_neg (Nat.not_lt_zero _)]] at e2
 show (fJ p a b out (n+1) (out.length+1) 0 out).2=_
 rw [e2]
end
theorem MS {f:Nat→Rat}:∀ {n:Nat},(∀ i,i<n→0≤f i)→0≤fF f n
 | 0,_=>Rat.le_refl
 | n+1,h=>by
  have h1:=MS (n:=n) fun i hi=>h i oo_;have h2:=h n oo_
  show 0≤fF f n+f n
  grind
theorem BU {x:Rat} (h:0≤x):∀ n:Nat,0≤x ^ n
 | 0=>by rw [Rat.pow_zero];decide +kernel
 | n+1=>by rw [Rat.pow_succ];exact Rat.mul_nonneg (BU h n) h
theorem FL:∀ n,0<fac n
 | 0=>by decide
 | n+1=>Int.mul_pos (FL n) oo_
theorem rK {a b:Rat} (ha:0<a) (h:0≤a*b):0≤b:=by
 refine Rat.not_lt.1 fun hb=>?_;have:=Rat.mul_pos ha (show 0 < -b by grind)
 grind
open Go Go.Kn
open QP (V)
theorem ft_ {a b:Rt} {p q:Rat} (ha:a.At p) (hb:b.At q) (hg:bH (fR a b)=true):(fR a b).At (p*q):=by
 unfold fR at hg ⊢;rw [iT ha,iT hb] at hg ⊢;obtain ⟨x,y,r,s,e1,e2,b1,b2,b3,b4,h1,h2,hc,he⟩:=E0 ha hb;simp only [Bool.not_true,Bool.or_false,cond_false,e1,e2,bR] at hg ⊢;have hps:0<y*s:=Int.mul_pos h1 h2
 have hpq:p*q=Rat.divInt (x*r) (y*s):=by
  rw [← Rat.num_divInt_den p,← Rat.num_divInt_den q,Rat.divInt_mul_divInt];exact (Rat.divInt_eq_divInt_iff (by have:=@lS p;have:=@lS q;exact Int.mul_ne_zero oo_ oo_) oo_).2 (by rw [he])
 have hnum:(p*q).num=x*r:=by
  rw [hpq,Rat.num_divInt,Int.gcd_comm,hc,Int.sign_eq_one_of_pos hps];simp
 have hden:((p*q).den:Int)=y*s:=by
  rw [hpq,Rat.den_divInt,if_neg oo_,Int.gcd_comm,hc,Nat.div_one];omega
 have bd:bH gJ=false:=by decide +kernel
 have n1:Zx (Z.mul (Z.of x) (Z.of r)) (x*r):=Zx.mul (.of _) (.of _);have n2:Zx (Z.mul (Z.of y) (Z.of s)) (y*s):=Zx.mul (.of _) (.of _)
 obtain ⟨e1,b1⟩:=n1.good fun h=>by
  rw [Z.eq_bad h,CP,bd] at hg;cases hg
 obtain ⟨e2,b2⟩:=n2.good fun h=>by
  rw [Z.eq_bad h,CQ,bd] at hg;cases hg
 rw [e1,e2];exact uM b1 b2 hps (by rw [hnum,hden])
theorem TG:(nQ (wl 1) (wl 2)).At (1 / 2):=uM (n:=1) (d:=2) B1 dd_ dd_ (by decide +kernel)
theorem fs_ {a b:Rt} {p q:Rat} (ha:a.At p) (hb:b.At q) (hg:bH (kK a b)=true):(kK a b).At ((p+q)*(1 / 2)):=by
 unfold kK at hg ⊢
 have hg':bH (fI a b)=true:=by
  cases h:bH (fI a b)
  ·exfalso
   simp only at hg;unfold fR at hg;rw [h] at hg;simp only [Bool.not_false,Bool.true_or,cond_true] at hg;exact absurd hg (by decide +kernel)
  rfl
 exact ft_ (cK_ ha hb hg') TG hg
theorem V2 {a:Rt} (h:bD a=true):cfP (cfN a.d) a.d:=by
 unfold bD at h;simp only [Bool.and_eq_true,decide_eq_true_eq] at h;exact U7 h.2.2.1
end Go.Num
namespace Go.Proofs.YtcjoflcajgaifaaGreatDoor
open Go.Kn Go.Num Tryz
attribute [local irreducible] Go.Kn.W WL PL OpQ OpR OpS
theorem nA (a:Rt) (b:Rt) :
    Ret prog 65 [AV [pI a.n,pI a.d],AV [pI b.n,pI b.d]] (.int .i64 ((e9 a b).1)):=by
 refine bI (N:=80) func65 O O zz_ (fun w0=>?_);refine giI ?_;refine go2 ?_;intro b1 hb1;refine go_ ?_;intro b2 hb2;refine go3 ?_;refine jN (sk (sk s0)) 6 [] [] (go_ ?_);refine pQ O (aY aK (fC a) O) (go_ ?_);refine pQ O (aY aK (fC b) O) (go5 ?_);refine gJv [15,16,17,18,19,20,21] [(15,.bool (!(bD a)&&(!(bD b))))] (fun K2 J2=>?_) ?_
 ·refine go3 ?_;rcases bt (bD a) with h4|h4
  ·refine sB (i3 h4) O (go5 ?_);refine J2 _ _ pp_ s0 (cH (AK h4))
  refine sB (i4 h4) O (go5 ?_);refine J2 _ _ pp_ s0 (cH (yM h4 O))
 intro g5;refine aS _ O (fun h6=>?_) (fun h6=>?_)
 ·refine go4 ?_;refine rt1 ?_;exact congrArg vS6 (show _=(e9 a b) from bL h6 O)
 refine go5 ?_;rcases bt (bD a) with h7|h7
 ·refine W_f (i3 h7) O (go5 ?_);rcases bt (bD b) with h8|h8
  ·refine W_f (i3 h8) O (go8 ?_);refine cF (rg [7,8,9,10] 28 51) (fun g nn M=>∃ (o:W) (x:Rt) (y:Rt) (k:Nat),(g 7 = .int .i64 o.1)∧M=[⟨b2,33,aW [pI y.n,pI y.d]⟩,⟨b1,33,aW [pI x.n,pI x.d]⟩]∧nn=k∧(cf k o x.n x.d y.n y.d=cf (cfN a.d) (wl 1) a.n a.d b.n b.d∧cfP k x.d)) (cfN a.d) ?start ?round
   case start =>
    refine ⟨_,s0,(wl 1),a,b,(cfN a.d),?a7,rfl,rfl,⟨rfl,V2 h7⟩⟩
    case a7=>rfl
   case round =>
    rintro nn g M ⟨o,x,y,k,hg7,rfl,hmeas,hinv⟩;subst nn;refine gS1 hg7 ?_;clear hg7;obtain ⟨m,rfl⟩:=XL hinv.2;refine go2 ?_;refine jN (sk (sk s0)) 12 [] [] (go4 ?_);refine pC (AV [pI (E (Z.quo x.n.dec x.d.dec))]) aK (iM x.n.1 x.d.1 x.n.2 x.d.2) O O O (go4 ?_);refine pC (AV [pI (E (Z.quo y.n.dec y.d.dec))]) aK (iM y.n.1 y.d.1 y.n.2 y.d.2) O O O (pC (.int .i64 ((Z.cmpW (Z.quo x.n.dec x.d.dec) (Z.quo y.n.dec y.d.dec)).1)) aK (IB (E (Z.quo x.n.dec x.d.dec)).1 (E (Z.quo y.n.dec y.d.dec)).1 (E (Z.quo x.n.dec x.d.dec)).2 (E (Z.quo y.n.dec y.d.dec)).2) O O (cg2 (fun p q=>Value.int .i64 (Z.cmpW p q).1) (bR _) (bR _)) (go6 ?_));refine aS _ O (fun h9=>?_) (fun h9=>?_)
    ·refine go3 ?_;refine sV (.int .i64 ((W.mul o (Z.cmpW (Z.quo x.n.dec x.d.dec) (Z.quo y.n.dec y.d.dec))).1)) O O (go8 ?_);refine rt1 ?_;exact congrArg vS6 (show _=(e9 a b) from aX h6 (bL h7 (bL h8 (g5_ hinv.1 h9))))
    refine go_ ?_;refine gDs sn (.quiet 0 [1,7,16,17] (.quiet 1 [7,16,17] (.quiet 2 [3,6,7,14,15,16,17] (.quiet 3 [6,7,14,15,16,17] (.quiet 4 [5,6,7,14,15,16,17] (.quiet 5 [6,7,14,15,16,17] (.quiet 6 [7,14,15,16,17] (.quiet 7 [16,17] (.quiet 10 [11,14,15,16,17] (.quiet 11 [14,15,16,17] (.quiet 12 [13,14,15,16,17] (.quiet 13 [14,15,16,17] (.quiet 14 [15,16,17] (.still 8 [9,15,17] (.both 9 (.still 15 [17] (.only 16 (.only 17 (.fin)))) 16 (.quiet 9 [15,17] (.quiet 15 [17] (.only 17 (.fin))))))))))))))))))) [0,1,2,3,4,5,6,7,8,9,10,11,12,13,14,15] mix (by kernel_rfl) (by kernel_rfl) (go6 ?_);refine pC (AV [pI (E (Z.rem x.n.dec x.d.dec))]) aK (z7 x.n.1 x.d.1 x.n.2 x.d.2) O O O (pQ O (jR zpT plT O (.cons [pI x.d] [pI x.d,pI I0] O O O O (.cons [pI (E (Z.rem x.n.dec x.d.dec))] [pI x.d,pI (E (Z.rem x.n.dec x.d.dec))] O O O O (.nil _)))) (go4 ?_));refine pC (AV [pI (E (Z.rem y.n.dec y.d.dec))]) aK (z7 y.n.1 y.d.1 y.n.2 y.d.2) O O O (E5 O O (gi_ (off':=18) (bX fdT dd_ O) O) ?_);refine vG ?_ ?_
    ·refine dA O O (E4 (TY tyT O m0 O) ⟨fun _=>s0,sn,E5 O O (jR zpT plT O (.cons [pI y.d] [pI y.d,pI I0] O O O O (.cons [pI (E (Z.rem y.n.dec y.d.dec))] [pI y.d,pI (E (Z.rem y.n.dec y.d.dec))] O O O O (.nil _)))) (go3 ?_)⟩);refine jN (sk (sk s0)) 8 [] [] (go2 ?_);refine pC (.int .i64 ((Z.signW (Z.rem x.n.dec x.d.dec)).1)) aK (fD (E (Z.rem x.n.dec x.d.dec)).1 (E (Z.rem x.n.dec x.d.dec)).2) O O (cg1 (fun p=>Value.int .i64 (Z.signW p).1) (bR _)) (go2 ?_);refine pC (.int .i64 ((Z.signW (Z.rem y.n.dec y.d.dec)).1)) aK (fD (E (Z.rem y.n.dec y.d.dec)).1 (E (Z.rem y.n.dec y.d.dec)).2) O O (cg1 (fun p=>Value.int .i64 (Z.signW p).1) (bR _)) (go4 ?_);refine gJv [66,67,68,69,70,71] [(71,.bool (((Z.signW (Z.rem x.n.dec x.d.dec)).1==0)||((Z.signW (Z.rem y.n.dec y.d.dec)).1==0)))] (fun K7 J7=>?_) ?_
     ·refine go3 ?_;refine sBB O (fun h11=>?_) (fun h11=>?_)
      ·refine go4 ?_;refine J7 _ _ pp_ s0 (cH (qO h11))
      refine go4 ?_;refine J7 _ _ pp_ s0 (cH (mD h11 O))
     intro g12;refine aS _ O (fun h13=>?_) (fun h13=>?_)
     ·refine go4 ?_;refine sV (.int .i64 ((W.sub (Z.signW (Z.rem x.n.dec x.d.dec)) (Z.signW (Z.rem y.n.dec y.d.dec))).1)) O O (sV (.int .i64 ((W.mul o (W.sub (Z.signW (Z.rem x.n.dec x.d.dec)) (Z.signW (Z.rem y.n.dec y.d.dec)))).1)) O O (go8 ?_));refine rt1 ?_;exact congrArg vS6 (show _=(e9 a b) from aX h6 (bL h7 (bL h8 (fJ_ hinv.1 h9 h13))))
     refine go3 ?_;refine sV (.int .i64 ((W.neg o).1)) O O (go2 ?_);refine ⟨pp_,_,_,s0,(Nat.lt_succ_self m),(W.neg o),(⟨x.d,(E (Z.rem x.n.dec x.d.dec))⟩:Rt),(⟨y.d,(E (Z.rem y.n.dec y.d.dec))⟩:Rt),m,?s7,rfl,rfl,fI_ hinv h9 h13⟩
     case s7=>rfl
    refine go2 ?_;refine pQ O (jR zpT plT O (.cons [pI y.d] [pI y.d,pI I0] O O O O (.cons [pI (E (Z.rem y.n.dec y.d.dec))] [pI y.d,pI (E (Z.rem y.n.dec y.d.dec))] O O O O (.nil _)))) (go2 ?_);refine jN (sk (sk s0)) 8 [] [] (go2 ?_);refine pC (.int .i64 ((Z.signW (Z.rem x.n.dec x.d.dec)).1)) aK (fD (E (Z.rem x.n.dec x.d.dec)).1 (E (Z.rem x.n.dec x.d.dec)).2) O O (cg1 (fun p=>Value.int .i64 (Z.signW p).1) (bR _)) (go2 ?_);refine pC (.int .i64 ((Z.signW (Z.rem y.n.dec y.d.dec)).1)) aK (fD (E (Z.rem y.n.dec y.d.dec)).1 (E (Z.rem y.n.dec y.d.dec)).2) O O (cg1 (fun p=>Value.int .i64 (Z.signW p).1) (bR _)) (go4 ?_);refine gJv [66,67,68,69,70,71] [(71,.bool (((Z.signW (Z.rem x.n.dec x.d.dec)).1==0)||((Z.signW (Z.rem y.n.dec y.d.dec)).1==0)))] (fun K9 J9=>?_) ?_
    ·refine go3 ?_;refine sBB O (fun h15=>?_) (fun h15=>?_)
     ·refine go4 ?_;refine J9 _ _ pp_ s0 (cH (qO h15))
     refine go4 ?_;refine J9 _ _ pp_ s0 (cH (mD h15 O))
    intro g16;refine aS _ O (fun h17=>?_) (fun h17=>?_)
    ·refine go4 ?_;refine sV (.int .i64 ((W.sub (Z.signW (Z.rem x.n.dec x.d.dec)) (Z.signW (Z.rem y.n.dec y.d.dec))).1)) O O (sV (.int .i64 ((W.mul o (W.sub (Z.signW (Z.rem x.n.dec x.d.dec)) (Z.signW (Z.rem y.n.dec y.d.dec)))).1)) O O (go8 ?_));refine rt1 ?_;exact congrArg vS6 (show _=(e9 a b) from aX h6 (bL h7 (bL h8 (fJ_ hinv.1 h9 h17))))
    refine go3 ?_;refine sV (.int .i64 ((W.neg o).1)) O O (go2 ?_);refine ⟨pp_,_,_,s0,(Nat.lt_succ_self m),(W.neg o),(⟨x.d,(E (Z.rem x.n.dec x.d.dec))⟩:Rt),(⟨y.d,(E (Z.rem y.n.dec y.d.dec))⟩:Rt),m,?s7,rfl,rfl,fI_ hinv h9 h17⟩
    case s7=>rfl
  refine W_t (i4 h8) O (go4 ?_);refine rt1 ?_;exact congrArg vS6 (show _=(e9 a b) from aX h6 (bL h7 (aX h8 O)))
 refine W_t (i4 h7) O (go4 ?_);refine rt1 ?_;exact congrArg vS6 (show _=(e9 a b) from aX h6 (aX h7 O))
theorem rS (a:I) :
  Ret prog 46 [AV [pI a]] (AV [pI (fL a)]):=by
 refine bI (N:=4) func46 O O zz_ (fun w0=>?_);refine giI ?_;refine go2 ?_;intro b1 hb1;refine go_ ?_;intro b2 hb2;refine go6 ?_;refine rtX O (iN O m0 tyT O) ?_;exact (by rfl)
theorem u7 (a:I) :
    Ret prog 78 [AV [pI a]] (.bool (mF a)):=by
 refine bI (N:=10) func78 O O zz_ (fun w0=>?_);refine giI ?_;refine go2 ?_;intro b1 hb1;refine go2 ?_;refine gJv (rg [] 2 8) [(2,.bool (!a.1.bad&&a.1.valid))] (fun K1 J1=>?_) ?_
 ·refine go4 ?_;rcases bt a.1.bad with h3|h3
  ·refine sB (i3 h3) O (go5 ?_);refine J1 _ _ pp_ s0 (cH (AK h3))
  refine sB (i4 h3) O (go_ ?_);refine sC (.bool a.1.valid) aK (sP a.1 a.2) O O O (go3 ?_);refine J1 _ _ pp_ s0 (cH (yM h3 O))
 intro g4;refine go_ ?_;refine rt1 ?_;exact (by rfl)
theorem i8  (w:World)  :
  Calls prog 41 [].toArray w (fun e w'=>∃ v,e = .returned (v)∧Ext w w'∧Slo w.heap.size w' 31 elI v F_poly_bad):=by
 refine eV (n:=3) (fun v=>v) func41 O O zz_ ?_;obtain ⟨w0,rfl⟩:=nm w;refine giI ?_;obtain ⟨q0,hq0⟩:=nm ((E Z.bad):I);refine go4 ?_;refine sC (AV [pI q0]) aK gR O O (by subst hq0;rfl) (aQ O (bQ [[pI q0]] [pI q0] HJ kA n6 O dd_ O O ⟨rfl,rfl,rfl,trivial⟩ O (fun b1 hb1=>go3 ?_)));refine rt1 ?_
 have hE:([q0]:(List I))=F_poly_bad:=by obtain rfl:=hq0.symm;exact rfl
 rw [← hE];exact ⟨_,rfl,⟨_,(sk sn),OwnG.lit (e:=elI) (l:=[q0]) (qs:=[pI q0]) hb1 O (Nat.le_of_ble_eq_true O) O⟩⟩
theorem qP (n:Int) (vf:Value) (f:Nat→I) (vo:Value) (o:I→I) (w:World) (hf:FnV prog w vf eN (fun k=>(k:Int)<n) (cc_ f)) (ho:FnV prog w vo eI (fun _=>True) (cc_ o)) (hpre:n≤200) :
    Calls prog 42 [.int .i64 n,vf,vo].toArray w (fun e w'=>∃ v,e = .returned (v)∧Ext w w'∧Slo w.heap.size w' 31 elI v (fK n f o)):=by
 obtain ⟨g_f,c_f,rfl,Hf⟩:=hf.open;obtain ⟨g_o,c_o,rfl,Ho⟩:=ho.open;refine eV (n:=55) (fun v=>v) func42 O O zz_ ?_;obtain ⟨w0,rfl⟩:=nm w;refine giI ?_;refine go5 ?_;refine sQ (aE (v':=.int .i64 (n.toNat:Int)) (CW O O) (congrArg (Value.int .i64) oo_)) O (aQ O (L0 (E:=31) (e:=elI) (n:=0) (c:=(n).toNat) 68 I0 HJ (by kernel_rfl) dd_ (by kernel_rfl) O O oo_ oo_ oo_ oo_ dd_ dd_ (fun p1 L2 hO3=>go5 ?_)));refine sQ (aE (v':=.int .i64 (n.toNat:Int)) (CW O O) (congrArg (Value.int .i64) oo_)) O (go2 ?_);refine gJ3 (rg [6,7,8,9] 15 17) (fun g M=>∃ (out:List I) (i:Nat) (p_out:Option Addr) (c_out:Nat) (L_out:List Blk),(jB n f o (n.toNat+1) ([]:List I) 0) = .inl (out,i)∧(g 7 = .slice p_out out.length c_out∧g 15 = .int .i64 (i:Int)∧OwnG w0 31 elI (.slice p_out out.length c_out) out L_out)∧M=(L_out++[])) (fun K_u4 hK_u4=>?_) ?_
 ·refine go_ ?_;refine cF (rg [6,7,8,9] 15 17) (fun g nn M=>∃ (out:List I) (i:Nat) (p_out:Option Addr) (c_out:Nat) (L_out:List Blk),(jB n f o nn out i)=(jB n f o (n.toNat+1) ([]:List I) 0)∧n.toNat - i<nn∧(i≤n.toNat∧out.length=i)∧(g 7 = .slice p_out out.length c_out∧g 15 = .int .i64 (i:Int)∧OwnG w0 31 elI (.slice p_out out.length c_out) out L_out)∧M=(L_out++[])) (n.toNat+1) ?start ?round
  case start=>exact ⟨_,s0,([]:List I),0,p1,(n.toNat),L2,rfl,o1_,⟨by omega,rfl⟩,⟨rfl,rfl,hO3⟩,rfl⟩
  case round =>
   rintro nn g M ⟨out,i,p_out,c_out,L_out,hT0,hq0,hinv0,⟨hg7,hg15,hO_out⟩,rfl⟩;obtain ⟨k0,rfl⟩:∃ m,nn=m+1:=⟨nn - 1,by omega⟩;refine gS2 hg7 hg15 ?_;clear hg7 hg15;have hm_out:=OwnG.max hO_out;refine go4 ?_;refine aS _ O (fun h29=>?_) (fun h29=>?_)
   ·have ph29:=of_decide_eq_true h29;refine LF ?_;refine sQ (aE (v':=AV [pI (f i)]) (Z6 (x:=i) O O (FnE.sub Hf sn) (by show (i:Int)<n;omega)) O) O (sQ (aE (v':=AV [pI (o (f i))]) (Z6 (x:=(f i)) O O (FnE.sub Ho sn) trivial) O) O (go_ ?_));intro b30 hb30;refine go5 ?_;refine sQ (aY aK (u7 (o (f i))) O) O (go2 ?_);rcases bt (mF (o (f i))) with h31|h31
    ·refine W_f (i3 h31) O (go4 ?_);refine aQ O (bQ [[pI (o (f i))]] [pI (o (f i))] HJ kA n6 O dd_ O O ⟨rfl,rfl,rfl,trivial⟩ O (fun b32 hb32=>aQ O (dM (e:=elI) (l:=out) (m:=[(o (f i))]) 68 HJ (by kernel_rfl) dd_ O O hO_out (SLe.lit (e:=elI) (l:=[(o (f i))]) m0 O (Nat.le_of_ble_eq_true O) O) (bU (bU lW)) (by show (out.length+1)*68≤_;omega) dd_ (fun p33 c34 L35 hO36=>go3 ?_))));refine sWi (((i+1):Nat):Int) O (go2 ?_);refine ⟨pp_,_,_,(sA (sd (sd s0))),(Nat.lt_succ_self _),(out++[(o (f i))]),(i+1),p33,c34,L35,(by exact (hT0.symm.trans (Eq.symm (bL h29 (bL h31 O)))).symm),(Nat.lt_of_lt_of_le o1_ (Nat.le_of_lt_succ hq0)),⟨by omega,(by rw [List.length_append];show _+1=_;omega)⟩,⟨rfl,rfl,hO36⟩,rfl⟩
    refine W_t (i4 h31) O (go_ ?_);refine aQ O (dK (E:=31) (e:=elI) (l:=F_poly_bad) (fun v=>v) aK O (fun w hw=>i8  w) (fun p37 c38 L39 hF40=>go3 ?_));refine rt1 ?_
    have hE:(F_poly_bad:(List I))=(fK n f o):=by exact (xX O (hT0.symm.trans (Eq.symm (bL h29 (aX h31 O)))))
    rw [← hE];exact ⟨_,rfl,⟨L39,lZ,hF40⟩⟩
   have ph29:=of_decide_eq_false h29;refine go_ ?_;refine hK_u4 _ _ pp_ ⟨_,s0,out,i,p_out,c_out,L_out,(by exact hT0.symm.trans (Eq.symm (aX h29 O))),⟨rfl,rfl,hO_out⟩,rfl⟩
 rintro g M ⟨out,i,p_out,c_out,L_out,hCu4,⟨hg7,hg15,hO_out⟩,rfl⟩;refine gS2 hg7 hg15 ?_;clear hg7 hg15;have hm_out:=OwnG.max hO_out;refine kG (rg [7] 32 18) (fun g M=>∃ (cut:List I) (p_cut:Option Addr) (c_cut:Nat) (L_cut:List Blk),(jC n f o out i (out.length+1) out)=cut∧(g 7 = .slice p_cut cut.length c_cut∧OwnG w0 31 elI (.slice p_cut cut.length c_cut) cut L_cut)∧M=(L_cut++[])) (fun K_u41 hK_u41=>?_) ?_
 ·refine go_ ?_;refine cF (rg [7] 32 18) (fun g nn M=>∃ (cut:List I) (p_cut:Option Addr) (c_cut:Nat) (L_cut:List Blk),(jC n f o out i nn cut)=(jC n f o out i (out.length+1) out)∧cut.length<nn∧(True)∧(g 7 = .slice p_cut cut.length c_cut∧OwnG w0 31 elI (.slice p_cut cut.length c_cut) cut L_cut)∧M=(L_cut++[])) (out.length+1) ?start ?round
  case start=>exact ⟨_,s0,out,p_out,c_out,L_out,rfl,(Nat.lt_succ_self _),trivial,⟨rfl,hO_out⟩,rfl⟩
  case round =>
   rintro nn g M ⟨cut,p_cut,c_cut,L_cut,hT1,hq1,hinv1,⟨hg7,hO_cut⟩,rfl⟩;obtain ⟨k1,rfl⟩:∃ m,nn=m+1:=⟨nn - 1,by omega⟩;refine gS1 hg7 ?_;clear hg7;have hm_cut:=OwnG.max hO_cut;refine go_ ?_;refine gJv (rg [] 32 13) [(44,.bool (decide (0<(cut.length:Int))&&((Z.signW (cut.getD (cut.length - 1) I0).dec).1==0)))] (fun K14 J14=>?_) ?_
   ·refine go2 ?_;refine sQ (bT eR O (rO hO_cut lZ)) O (go_ ?_);refine sBB O (fun h48=>?_) (fun h48=>?_)
    ·have ph48:=of_decide_eq_true h48;refine go2 ?_;refine sQ (bT eR O (rO hO_cut lZ)) O (sWi ((cut.length:Int) - 1) O (sQ (aE (v':=.pointer (some (slb (.slice p_cut cut.length c_cut) ((cut.length - 1)*18+0)))) (lG (e:=elI) (l:=cut) (k:=(cut.length - 1)) eR O O oo_ (rO hO_cut lZ) o2_) O) O ?_));refine sQ (bM (e:=elI) (l:=cut) (k:=(cut.length - 1)) (o:=0) tyT O (rO hO_cut lZ) (aF I0 o2_) O) O ?_;refine sC (.int .i64 ((Z.signW (cut.getD (cut.length - 1) I0).dec).1)) aK (fD (cut.getD (cut.length - 1) I0).1 (cut.getD (cut.length - 1) I0).2) O O O (go3 ?_);refine J14 _ _ pp_ s0 (cH (j8 h48 O))
    have ph48:=of_decide_eq_false h48;refine oF ?_;refine J14 _ _ pp_ s0 (cH (nT h48))
   intro g49;refine aS _ O (fun h50=>?_) (fun h50=>?_)
   ·have ph51:=of_decide_eq_true (Bool.and_eq_true_iff.1 h50).1;refine go5 ?_;refine sQ (bT eR O (rO hO_cut lZ)) O (sWi ((cut.length:Int) - 1) O (sQ (ch_ (e:=elI) (l:=cut) (k:=(cut.length - 1)) eR O O oo_ hO_cut oo_) O (go2 ?_)));refine ⟨pp_,_,_,s0,(Nat.lt_succ_self _),(cut.take (cut.length - 1)),p_cut,c_cut,L_cut,(by exact (hT1.symm.trans (Eq.symm (bL h50 O))).symm),(Nat.lt_of_lt_of_le (by rw [List.length_take];omega) (Nat.le_of_lt_succ hq1)),trivial,⟨rfl,(OwnG.take hO_cut oo_)⟩,rfl⟩
   refine go_ ?_;refine hK_u41 _ _ pp_ ⟨_,s0,cut,p_cut,c_cut,L_cut,(by exact hT1.symm.trans (Eq.symm (aX h50 O))),⟨rfl,hO_cut⟩,rfl⟩
 rintro g M ⟨cut,p_cut,c_cut,L_cut,hCu41,⟨hg7,hO_cut⟩,rfl⟩;refine gS1 hg7 ?_;clear hg7;have hm_cut:=OwnG.max hO_cut;refine go3 ?_;refine sQ (bT eR O (rO hO_cut lZ)) O (go2 ?_);refine aS _ O (fun h52=>?_) (fun h52=>?_)
 ·have ph52:=of_decide_eq_true h52;refine go_ ?_;refine aQ O (dK (E:=31) (e:=elI) (l:=F_poly_bad) (fun v=>v) aK O (fun w hw=>i8  w) (fun p53 c54 L55 hF56=>go3 ?_));refine rt1 ?_
  have hE:(F_poly_bad:(List I))=(fK n f o):=by exact trs (Eq.symm (smS hCu4)) (trs (Eq.symm (apS hCu41)) (bL h52 O))
  rw [← hE];exact ⟨_,rfl,⟨L55,lZ,hF56⟩⟩
 have ph52:=of_decide_eq_false h52;refine go6 ?_;refine rt1 ?_
 have hE:(cut:(List I))=(fK n f o):=by exact trs (Eq.symm (smS hCu4)) (trs (Eq.symm (apS hCu41)) (aX h52 O))
 rw [← hE];exact ⟨_,rfl,⟨L_cut,lZ,hO_cut⟩⟩
theorem HZ (vl:Value) (l:(List I)) (vf:Value) (f:I→Bool) (w:World) (hl:Slr w elI vl l) (hf:FnV prog w vf eI (fun _=>True) (cb_ f)) :
    Calls prog 123 [vl,vf].toArray w (fun e w'=>e = .returned (.int .i64 ((pJ l f).1))∧Ext w w'):=by
 obtain ⟨p_l,c_l,rfl⟩:=hl.form;obtain ⟨g_f,c_f,rfl,Hf⟩:=hf.open;refine cY (N:=19) func123 O O zz_ ?_;obtain ⟨w0,rfl⟩:=nm w;have Hl:=hl.old;have hm_l:=hl.max;refine giI ?_;refine go6 ?_;refine sQ (bT eR O (SLe.sub Hl sn)) O (go2 ?_);refine gJ3 (rg [4,5] 8 11) (fun g M=>∃ (i:Nat),(iU l f (l.length+1) 0) = .inl i∧(g 8 = .int .i64 (i:Int))∧M=[]) (fun K_u1 hK_u1=>?_) ?_
 ·refine go_ ?_;refine cF (rg [4,5] 8 11) (fun g nn M=>∃ (i:Nat),(iU l f nn i)=(iU l f (l.length+1) 0)∧l.length - i<nn∧(i≤l.length)∧(g 8 = .int .i64 (i:Int))∧M=[]) (l.length+1) ?start ?round
  case start=>exact ⟨_,s0,0,rfl,o1_,o1_,rfl,rfl⟩
  case round =>
   rintro nn g M ⟨i,hT0,hq0,hinv0,hg8,rfl⟩;obtain ⟨k0,rfl⟩:∃ m,nn=m+1:=⟨nn - 1,by omega⟩;refine gS1 hg8 ?_;clear hg8;refine go4 ?_;refine aS _ O (fun h6=>?_) (fun h6=>?_)
   ·have ph6:=of_decide_eq_true h6;refine LF ?_;refine sQ (aE (v':=.pointer (some (slb (.slice p_l l.length c_l) (i*18+0)))) (aM (e:=elI) (l:=l) (k:=i) eR O O (SLe.sub Hl sn) o2_) O) O ?_;refine sQ (bM (e:=elI) (l:=l) (k:=i) (o:=0) tyT O (SLe.sub Hl sn) (aF I0 o2_) O) O ?_;refine sQ (aE (v':=.bool (f (l.getD i I0))) (Z6 (x:=(l.getD i I0)) O O (FnE.sub Hf sn) trivial) O) O (go_ ?_);refine aS _ O (fun h7=>?_) (fun h7=>?_)
    ·refine go5 ?_;refine rt1 ?_;refine (show (.int .i64 (i:Int):Value) = .int .i64 ((W.cv (i:Int)).1) by simp only [cvE (t:=(i:Int)) oo_]).trans ?_;exact congrArg vS6 (show _=(pJ l f) from (xX O (hT0.symm.trans (Eq.symm (bL h6 (bL h7 O))))))
    refine go2 ?_;refine sWi (((i+1):Nat):Int) O (go2 ?_);refine ⟨pp_,_,_,s0,(Nat.lt_succ_self _),(i+1),(by exact (hT0.symm.trans (Eq.symm (bL h6 (aX h7 O)))).symm),(Nat.lt_of_lt_of_le o1_ (Nat.le_of_lt_succ hq0)),o1_,rfl,rfl⟩
   have ph6:=of_decide_eq_false h6;refine go_ ?_;refine hK_u1 _ _ pp_ ⟨_,s0,i,(by exact hT0.symm.trans (Eq.symm (aX h6 O))),rfl,rfl⟩
 rintro g M ⟨i,hCu1,hg8,rfl⟩;refine gS1 hg8 ?_;clear hg8;refine go4 ?_;refine rt1 ?_;exact congrArg vS6 (show _=(pJ l f) from trs (Eq.symm (smS hCu1)) O)
theorem CE (vl:Value) (l:(List I)) (vf:Value) (f:I→Bool) (w:World) (hl:Slr w elI vl l) (hf:FnV prog w vf eI (fun _=>True) (cb_ f)) :
  Calls prog 76 [vl,vf].toArray w (fun e w'=>e = .returned (.bool (nJ l f))∧Ext w w'):=by
 obtain ⟨p_l,c_l,rfl⟩:=hl.form;obtain ⟨g_f,c_f,rfl,Hf⟩:=hf.open;refine cY (N:=9) func76 O O zz_ ?_;obtain ⟨w0,rfl⟩:=nm w;have Hl:=hl.old;have hm_l:=hl.max;refine giI ?_;refine go6 ?_;refine sFc (.int .i64 ((pJ l f).1)) O (fun w hw=>HZ _ l _ f w (aR hw Hl sn) (FnE.ap hw (FnE.sub Hf sn))) O O (go4 ?_);refine rt1 ?_;exact (by rfl)
theorem CS (a:I) :
  Ret prog 77 [AV [pI a]] (.bool (pT a)):=by
 refine bI (N:=6) func77 O O zz_ (fun w0=>?_);refine giI ?_;refine go2 ?_;intro b1 hb1;refine go4 ?_;refine sQ (aY aK (u7 a) O) O (go4 ?_);refine rt1 ?_;exact (by rfl)
theorem eO (vp:Value) (p:(List I)) (w:World) (hp:Slr w elI vp p) :
  Calls prog 20 [vp].toArray w (fun e w'=>e = .returned (.bool (aP p))∧Ext w w'):=by
 obtain ⟨p_p,c_p,rfl⟩:=hp.form;refine cY (N:=5) func20 O O zz_ ?_;obtain ⟨w0,rfl⟩:=nm w;have Hp:=hp.old;have hm_p:=hp.max;refine giI ?_;refine go5 ?_;refine sFc (.bool (nJ p (fun (y:I)=>(pT y)))) O (fun w hw=>CE _ p _ (fun (y:I)=>(pT y)) w (aR hw Hp sn) (FnV.mk hw aK (fun w hw x hx=>(CS x) w))) O O (go3 ?_);refine rt1 ?_;exact (by rfl)
theorem FT (vl:Value) (l:(List Rt)) (vf:Value) (f:Rt→Bool) (w:World) (hl:Slr w NY vl l) (hf:FnV prog w vf eRt (fun _=>True) (cb_ f)) :
    Calls prog 172 [vl,vf].toArray w (fun e w'=>e = .returned (.int .i64 ((mJ l f).1))∧Ext w w'):=by
 obtain ⟨p_l,c_l,rfl⟩:=hl.form;obtain ⟨g_f,c_f,rfl,Hf⟩:=hf.open;refine cY (N:=19) func172 O O zz_ ?_;obtain ⟨w0,rfl⟩:=nm w;have Hl:=hl.old;have hm_l:=hl.max;refine giI ?_;refine go6 ?_;refine sQ (bT ds_ O (SLe.sub Hl sn)) O (go2 ?_);refine gJ3 (rg [4,5] 8 11) (fun g M=>∃ (i:Nat),(jA l f (l.length+1) 0) = .inl i∧(g 8 = .int .i64 (i:Int))∧M=[]) (fun K_u1 hK_u1=>?_) ?_
 ·refine go_ ?_;refine cF (rg [4,5] 8 11) (fun g nn M=>∃ (i:Nat),(jA l f nn i)=(jA l f (l.length+1) 0)∧l.length - i<nn∧(i≤l.length)∧(g 8 = .int .i64 (i:Int))∧M=[]) (l.length+1) ?start ?round
  case start=>exact ⟨_,s0,0,rfl,o1_,o1_,rfl,rfl⟩
  case round =>
   rintro nn g M ⟨i,hT0,hq0,hinv0,hg8,rfl⟩;obtain ⟨k0,rfl⟩:∃ m,nn=m+1:=⟨nn - 1,by omega⟩;refine gS1 hg8 ?_;clear hg8;refine go4 ?_;refine aS _ O (fun h6=>?_) (fun h6=>?_)
   ·have ph6:=of_decide_eq_true h6;refine LF ?_;refine sQ (aE (v':=.pointer (some (slb (.slice p_l l.length c_l) (i*36+0)))) (aM (e:=NY) (l:=l) (k:=i) ds_ O O (SLe.sub Hl sn) o2_) O) O ?_;refine sQ (bM (e:=NY) (l:=l) (k:=i) (o:=0) tyT O (SLe.sub Hl sn) (aF Rt0 o2_) O) O ?_;refine sQ (aE (v':=.bool (f (l.getD i Rt0))) (Z6 (x:=(l.getD i Rt0)) O O (FnE.sub Hf sn) trivial) O) O (go_ ?_);refine aS _ O (fun h7=>?_) (fun h7=>?_)
    ·refine go5 ?_;refine rt1 ?_;refine (show (.int .i64 (i:Int):Value) = .int .i64 ((W.cv (i:Int)).1) by simp only [cvE (t:=(i:Int)) oo_]).trans ?_;exact congrArg vS6 (show _=(mJ l f) from (xX O (hT0.symm.trans (Eq.symm (bL h6 (bL h7 O))))))
    refine go2 ?_;refine sWi (((i+1):Nat):Int) O (go2 ?_);refine ⟨pp_,_,_,s0,(Nat.lt_succ_self _),(i+1),(by exact (hT0.symm.trans (Eq.symm (bL h6 (aX h7 O)))).symm),(Nat.lt_of_lt_of_le o1_ (Nat.le_of_lt_succ hq0)),o1_,rfl,rfl⟩
   have ph6:=of_decide_eq_false h6;refine go_ ?_;refine hK_u1 _ _ pp_ ⟨_,s0,i,(by exact hT0.symm.trans (Eq.symm (aX h6 O))),rfl,rfl⟩
 rintro g M ⟨i,hCu1,hg8,rfl⟩;refine gS1 hg8 ?_;clear hg8;refine go4 ?_;refine rt1 ?_;exact congrArg vS6 (show _=(mJ l f) from trs (Eq.symm (smS hCu1)) O)
theorem A7 (vl:Value) (l:(List Rt)) (vf:Value) (f:Rt→Bool) (w:World) (hl:Slr w NY vl l) (hf:FnV prog w vf eRt (fun _=>True) (cb_ f)) :
  Calls prog 126 [vl,vf].toArray w (fun e w'=>e = .returned (.bool (mT l f))∧Ext w w'):=by
 obtain ⟨p_l,c_l,rfl⟩:=hl.form;obtain ⟨g_f,c_f,rfl,Hf⟩:=hf.open;refine cY (N:=9) func126 O O zz_ ?_;obtain ⟨w0,rfl⟩:=nm w;have Hl:=hl.old;have hm_l:=hl.max;refine giI ?_;refine go6 ?_;refine sFc (.int .i64 ((mJ l f).1)) O (fun w hw=>FT _ l _ f w (aR hw Hl sn) (FnE.ap hw (FnE.sub Hf sn))) O O (go4 ?_);refine rt1 ?_;exact (by rfl)
theorem EA (a:Rt) :
  Ret prog 127 [AV [pI a.n,pI a.d]] (.bool (iZ a)):=by
 refine bI (N:=6) func127 O O zz_ (fun w0=>?_);refine giI ?_;refine go2 ?_;intro b1 hb1;refine go4 ?_;refine sQ (aY aK (fC a) O) O (go4 ?_);refine rt1 ?_;exact (by rfl)
theorem u6 (vl:Value) (l:(List Rt)) (w:World) (hl:Slr w NY vl l) :
  Calls prog 85 [vl].toArray w (fun e w'=>e = .returned (.bool (gS l))∧Ext w w'):=by
 obtain ⟨p_l,c_l,rfl⟩:=hl.form;refine cY (N:=6) func85 O O zz_ ?_;obtain ⟨w0,rfl⟩:=nm w;have Hl:=hl.old;have hm_l:=hl.max;refine giI ?_;refine go5 ?_;refine sFc (.bool (mT l (fun (y:Rt)=>(iZ y)))) O (fun w hw=>A7 _ l _ (fun (y:Rt)=>(iZ y)) w (aR hw Hl sn) (FnV.mk hw aK (fun w hw x hx=>(EA x) w))) O O (go4 ?_);refine rt1 ?_;exact (by rfl)
end Go.Proofs.YtcjoflcajgaifaaGreatDoor
