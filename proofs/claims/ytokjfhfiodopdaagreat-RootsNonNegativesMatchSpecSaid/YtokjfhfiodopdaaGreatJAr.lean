/- Lemmas: what they ask stands in their statements. -/
import Derived.Test.YtokjfhfiodopdaaGreatJSsc
set_option linter.unusedSimpArgs false
set_option linter.unusedVariables false
namespace Go.Num
open Go Go.Kn
theorem Zx.good {z:Z} {v:Int} (h:Zx z v) (g:z.o≠none):z=Z.of v∧dR v:=by
 rcases h with h|h
 ·exact absurd h g
 exact h
theorem dR_ {a b:Rt} {p q:Rat} (ha:a.At p) (hb:b.At q) (hg:bB (eO a b)=true):(eO a b).At (p+q):=by
 unfold eO at hg ⊢;rw [nK ha,nK hb] at hg ⊢;simp only [Bool.not_true,Bool.or_false,cond_false] at hg ⊢;have ia:=At.is ha;have ib:=At.is hb;rw [ia.en,ia.ed,ib.en,ib.ed] at hg ⊢;simp only [cP] at hg ⊢;have hdp:=@nU p;have hdq:=@nU q
 have hg0:0<((Int.gcd (p.den:Int) (q.den:Int):Nat):Int):=by
  have:=Int.gcd_pos_of_ne_zero_right (p.den:Int) (show (q.den:Int)≠0 by omega);omega
 have hbg:=QX (u:=(p.den:Int)) ib.hd oo_;have g1:((Int.gcd (p.den:Int) (q.den:Int):Nat):Int) ∣ (p.den:Int):=Int.gcd_dvd_left ..;have g2:((Int.gcd (p.den:Int) (q.den:Int):Nat):Int) ∣ (q.den:Int):=Int.gcd_dvd_right ..;rw [C5 ia.hd ib.hd,zJ ib.hd hbg hg0,zJ ia.hd hbg hg0] at hg ⊢;generalize ((Int.gcd (p.den:Int) (q.den:Int):Nat):Int)=G at *;obtain ⟨x,hx⟩:=g1;obtain ⟨y,hy⟩:=g2
 have q1:(p.den:Int) / G=x:=by rw [hx];exact Int.mul_ediv_cancel_left _ oo_
 have q2:(q.den:Int) / G=y:=by rw [hy];exact Int.mul_ediv_cancel_left _ oo_
 rw [q1,q2] at hg ⊢
 have x0:0<x:=by rw [hx] at hdp;exact Int.pos_of_mul_pos_right hdp hg0
 have n1:Zx (Z.add (Z.mul (Z.of p.num) (Z.of y)) (Z.mul (Z.of q.num) (Z.of x))) (p.num*y+q.num*x):=Zx.add (Zx.mul (.of _) (.of _)) (Zx.mul (.of _) (.of _));have n2:Zx (Z.mul (Z.of x) (Z.of (q.den:Int))) (x*q.den):=Zx.mul (.of _) (.of _)
 have bd:bB jE=false:=by decide +kernel
 obtain ⟨e1,b1⟩:=n1.good fun h=>by
  rw [Z.eq_bad h,FL,bd] at hg;cases hg
 obtain ⟨e2,b2⟩:=n2.good fun h=>by
  rw [Z.eq_bad h,FM,bd] at hg;cases hg
 rw [e1,e2];refine DM b1 b2 (Int.mul_pos x0 hdq) ?_
 have key:p+q=Rat.divInt (p.num*y+q.num*x) (x*q.den):=by
  conv=>lhs;rw [← Rat.num_divInt_den p,← Rat.num_divInt_den q,Rat.divInt_add_divInt _ _ oo_ oo_]
  refine (Rat.divInt_eq_divInt_iff (Int.mul_ne_zero oo_ oo_) (Int.mul_ne_zero oo_ oo_)).2 ?_;rw [hx,hy];grind
 have h3:=Rat.num_divInt_den (p+q);rw [key] at h3 ⊢;have h4:=(Rat.divInt_eq_divInt_iff (by have:=@nU (Rat.divInt (p.num*y+q.num*x) (x*q.den));omega) (Int.mul_ne_zero oo_ oo_)).1 h3;exact h4
theorem gD_ {a b:Rt} {p q:Rat} (ha:a.At p) (hb:b.At q) (hg:bB (kU a b)=true):(kU a b).At (p - q):=by
 unfold kU at hg ⊢;rw [Rat.sub_eq_add_neg];exact dR_ ha (eK_ hb) hg
theorem YD {p:List I} {c:Nat→Int} (h:Po p c):∃ g:Int,0<g∧∀ k,(c k).fdiv (cN p)*g=c k:=by
 by_cases h0:p=[]
 ·refine ⟨1,by decide,fun k=>?_⟩
  rw [h.zero (k:=k) (by rw [h0];exact Nat.zero_le k),Int.zero_fdiv];rfl
 exact ⟨(cN p:Nat),by have:=h.cpos h0;omega,fun k=>by rw [Int.mul_comm];exact yL h k⟩
section
variable {p:List I} {c:Nat→Int} {a b:Rt} {qa qb qd:Rat}
theorem XE {d:Rt} (h:Po p c) (h7:p.length≤20) (ha:a.At qa) (hd:d.At qd) (hg:(fQ p a d).all gdI=true):∃ (g W:Int) (γ:Nat→Int),0<g∧0<W∧Po (fQ p a d) γ∧(∀ k,p.length≤k→γ k=0)∧∀ y:Rat,(g:Rat)*vl (cR γ) y 26=(W:Rat)*vl (cR c) (qa+qd*y) p.length:=by
 have ia:=At.is ha;have ib:=At.is hd
 have hS:Px (gP p a d) (sb c (qa.num*qd.den) (qd.num*qa.den) (qa.den*qd.den) p.length p.length):=by
  unfold gP;rw [h.nb,aG_,nZ,nZ,nK ha,nK hd];exact WT h h7 ia ib (p.length+1) 0 _ [] (Nat.zero_le _) oo_ oo_ (Nat.zero_le _) E6.px
 have hP:=hS.2 (wN hS.1 hg).1;obtain ⟨g,gp,hk⟩:=YD hP;have hWp:(0:Int)<qa.den*qd.den:=Int.mul_pos nU nU;refine ⟨g,_,_,gp,Int.pow_pos (m:=p.length - 1) hWp,vV hP,fun k hk=>by rw [gb_ _ _ _ _ _ _ k hk,Int.zero_fdiv],fun y=>?_⟩
 have hz:((qa.num*qd.den:Int):Rat)+((qd.num*qa.den:Int):Rat)*y=((qa.den*qd.den:Int):Rat)*(qa+qd*y):=by
  have k1:=@IA qa;have k2:=@IA qd;rw [Rat.intCast_mul,Rat.intCast_mul,Rat.intCast_mul,← k1,← k2];grind
 have e1:=ga_ (c:=c) (L:=p.length) hz hWp (fun t _ k hk=>gb_ c _ _ _ _ t k hk) oo_;rw [Rat.intCast_pow,← e1,← gn_]
 congr 1
 funext k
 show (g:Rat)*(((sb c _ _ _ _ _ k).fdiv _:Int):Rat)=((sb c _ _ _ _ _ k:Int):Rat)
 rw [← Rat.intCast_mul,Int.mul_comm,hk]
theorem ZW {n:Nat} {γ:Nat→Int} (hp:p.length=n+1) (hn:n≤11) (hC:Po (fQ p a (iS b a)) γ) (out:List I) {i:Nat} (hi:i≤n):∀ (f j:Nat) (z:Z),i+1 - j<f→j≤i+1→Zx z (jA (fun k=>wt n i k*γ k) j) →
  ∃ z',(jP p a b out i f j (E z)).2=E z'∧Zx z' (bs γ n i)
 | 0,j,z,h,_,_=>absurd h (Nat.not_lt_zero _)
 | f+1,j,z,h,hj,hz=>by
  unfold jP;rw [show (p.length:Int) - 1=(n:Int) by omega,KM hn hi,List.length_map,List.length_range];rcases Nat.lt_or_eq_of_le hj with h1|h1
  ·rw [decide_eq_true oo_,cond_true]
   have e1:((List.range (i+1)).map fun k=>E (Z.of (wt n i k))).getD j I0=E (Z.of (wt n i j)):=by rw [KE,if_pos h1]
   simp only;rw [e1,CX,hC.get];simp only [cP];exact ZW hp hn hC out hi f (j+1) _ oo_ h1 (Zx.add hz (Zx.mul (.of _) (.of _)))
  subst h1;rw [decide_eq_false oo_,cond_false];exact ⟨z,rfl,hz⟩
theorem ZV {n:Nat} {γ:Nat→Int} (hp:p.length=n+1) (hn:n≤11) (hC:Po (fQ p a (iS b a)) γ):∀ (f i:Nat),n+1 - i<f→i≤n+1→(∀ j,j<i→dR (bs γ n j)) →
  (∃ r,i5 p a b f ((List.range i).map fun i=>E (Z.of (bs γ n i))) i = .inr r∧r.2=false) ∨
  (i5 p a b f ((List.range i).map fun i=>E (Z.of (bs γ n i))) i = .inl ((List.range (n+1)).map fun i=>E (Z.of (bs γ n i)),n+1)∧∀ j,j<n+1→dR (bs γ n j))
 | 0,i,h,_,_=>absurd h (Nat.not_lt_zero _)
 | f+1,i,h,hi,hb=>by
  unfold i5;rcases Nat.lt_or_eq_of_le hi with h1|h1
  ·rw [decide_eq_true oo_,cond_true,show (p.length:Int) - 1=(n:Int) by omega,KM hn oo_,List.length_map,List.length_range]
   obtain ⟨z,e1,hz⟩:=ZW hp hn hC ((List.range i).map fun i=>E (Z.of (bs γ n i))) (show i≤n by omega) (i+1+1) 0 (Z.of 0) oo_ (Nat.zero_le _) (.of 0);rw [show E (Z.of 0)=I0 from I0_E.symm] at e1;simp only [ap];rw [e1]
   by_cases hn0:z.o=none
   ·rw [Z.eq_bad hn0]
    exact .inl ⟨_,rfl,rfl⟩
   obtain ⟨ez,bz⟩:=hz.good hn0;rw [ez,TU bz,cond_false]
   have e2:((List.range i).map fun i=>E (Z.of (bs γ n i)))++[E (Z.of (bs γ n i))]=(List.range (i+1)).map fun i=>E (Z.of (bs γ n i)):=by rw [List.range_succ,List.map_append];rfl
   rw [e2];refine ZV hp hn hC f (i+1) oo_ h1 fun j hj=>?_;rcases Nat.lt_or_eq_of_le (Nat.le_of_lt_succ hj) with k|k
   ·exact hb j k
   rw [k];exact bz
  subst h1;rw [decide_eq_false oo_,cond_false];exact .inr ⟨rfl,hb⟩
theorem eB_ {n:Nat} (h:Po p c) (hp:p.length=n+1) (hn:n≤11) (ha:a.At qa) (hb:b.At qb) (hg:(bT p a b).2=true) :
  ∃ (γ:Nat→Int) (g W G:Int) (l:Nat→Int),0<g∧0<W∧0<G∧(∀ k,n+1≤k→γ k=0)∧(∀ y:Rat,(g:Rat)*vl (cR γ) y 26=(W:Rat)*vl (cR c) (qa+(qb - qa)*y) p.length)∧(∀ i,i≤n→G*l i=bs γ n i)∧(∀ i,i≤n→dR (l i))∧(bT p a b).1=(List.range (n+1)).map (fun i=>E (Z.of (l i))):=by
 have hf:jZ [a,b]=true:=by rw [aG_,nZ,nZ,nK ha,nK hb];rfl
 have hc1:(fQ p a (iS b a)).length≤1000:=k25 (yI _ _ _)
 cases hc:(fQ p a (iS b a)).all gdI
 ·unfold bT at hg
  rw [h.nb,hf,iX hc1,hc] at hg
  cases hg
 have hsg:bB (kU b a)=true:=by
  cases hs:bB (kU b a)
  ·unfold fQ gP at hc
   rw [h.nb,aG_,nZ,nZ,nK ha,ZH,hs] at hc;simp only [Bool.and_false,Bool.not_false,Bool.or_true,cond_true] at hc;rw [show (aC F_poly_bad).all gdI=false by decide +kernel] at hc
   cases hc
  rfl
 have hd:=gD_ hb ha hsg;rw [← ZH] at hd;obtain ⟨g,W,γ,gp,Wp,hC,hz,hv⟩:=XE h oo_ ha hd hc;rcases ZV hp hn hC (p.length+1) 0 oo_ (Nat.zero_le _) (fun j hj=>absurd hj (Nat.not_lt_zero _)) with ⟨r,e0,er⟩|⟨e0,hB⟩
 ·rw [show ((List.range 0).map fun i=>E (Z.of (bs γ n i)))=([]:List I) from rfl] at e0
  unfold bT at hg;rw [h.nb,hf,hC.nb,e0] at hg;simp only [sm,Bool.not_true,Bool.or_false,cond_false] at hg;rw [er] at hg;cases hg
 rw [show ((List.range 0).map fun i=>E (Z.of (bs γ n i)))=([]:List I) from rfl] at e0
 have hall:((List.range (n+1)).map fun i=>E (Z.of (bs γ n i))).all gdI=true:=by
  rw [List.all_eq_true];intro x hx;obtain ⟨i,hi,rfl⟩:=List.mem_map.1 hx;exact OB (hB i (List.mem_range.1 hi))
 obtain ⟨c1,c2⟩:=GF hall
 have cd:∀ i,i<n+1→((cN ((List.range (n+1)).map fun i=>E (Z.of (bs γ n i))):Nat):Int) ∣ bs γ n i:=fun i hi=>by
  have:=H3 (l:=(List.range (n+1)).map fun i=>E (Z.of (bs γ n i))) (x:=E (Z.of (bs γ n i))) (List.mem_map.2 ⟨i,List.mem_range.2 hi,rfl⟩)
  rwa [cd_ (hB i hi)] at this
 have hnz:∀ k,n+1≤k→γ k=0:=fun k hk=>hz k oo_;unfold bT;rw [h.nb,hf,hC.nb,e0];simp only [sm,Bool.not_true,Bool.or_false,cond_false];rw [c1,cP,lW c2];generalize hout:((List.range (n+1)).map fun i=>E (Z.of (bs γ n i)))=out at *
 have hlen:out.length=n+1:=by rw [← hout,List.length_map,List.length_range]
 rcases Nat.eq_zero_or_pos (cN out) with h0|h0
 ·rw [h0]
  refine ⟨γ,g,W,1,bs γ n,gp,Wp,by decide,hnz,hv,fun i _=>Int.one_mul _,fun i hi=>hB i oo_,?_⟩;rw [show ((((0:Nat):Int).sign) != 0)=false from rfl,cond_false,hout]
 rw [Int.sign_eq_one_of_pos oo_,show ((1:Int) != 0)=true from rfl,cond_true];have hl:∀ k,k<n+1→((cN out:Nat):Int)*(bs γ n k / (cN out:Nat))=bs γ n k:=fun k hk=>Int.mul_ediv_cancel' (cd k hk);refine ⟨γ,g,W,(cN out:Nat),fun i=>bs γ n i / (cN out:Nat),gp,Wp,by omega,hnz,hv,fun i hi=>hl i oo_,fun i hi=>?_,?_⟩
 ·have h1:=hl i oo_
  refine Nat.lt_of_le_of_lt ?_ (hB i oo_);rw [← h1,Int.natAbs_mul];rw [Int.natAbs_natCast];exact Nat.le_mul_of_pos_left _ h0
 have e2:=d0_ (p:=p) (a:=a) (b:=b) out (n+1) (v:=bs γ n) (l:=fun i=>bs γ n i / (cN out:Nat)) oo_ c2 hB hl hlen c1 (out.length+1) 0 oo_ (Nat.zero_le _);rw [show ((List.range (n+1)).map fun i=>E (Z.of (if i<0 then bs γ n i / (cN out:Nat) else bs γ n i)))=out from by rw [← hout];exact List.map_congr_left fun i _=>by rw [if_neg (Nat.not_lt_zero _)]] at e2
 show (i6 p a b out (n+1) (out.length+1) 0 out).2=_
 rw [e2]
end
theorem WU {f:Nat→Rat}:∀ {n:Nat},(∀ i,i<n→0≤f i)→0≤jA f n
 | 0,_=>Rat.le_refl
 | n+1,h=>by
  have h1:=WU (n:=n) fun i hi=>h i oo_;have h2:=h n oo_
  show 0≤jA f n+f n
  grind
theorem O5 {x:Rat} (h:0≤x):∀ n:Nat,0≤x ^ n
 | 0=>by rw [Rat.pow_zero];decide +kernel
 | n+1=>by rw [Rat.pow_succ];exact Rat.mul_nonneg (O5 h n) h
theorem QR:∀ n,0<fac n
 | 0=>by decide
 | n+1=>Int.mul_pos (QR n) oo_
theorem zH {a b:Rat} (ha:0<a) (h:0≤a*b):0≤b:=by
 refine Rat.not_lt.1 fun hb=>?_;have:=Rat.mul_pos ha (show 0 < -b by grind)
 grind
open Go Go.Kn
def bG (c:(List (List I))):Nat→Rt→Rt→Nat→Bool→(List Iv)→Bool×List Iv
 | 0,_,_,_,ok,out=>(ok,out)
 | n+1,a,b,k,ok,out=>bif (!(ok&&((aJ c a b).2&&(decide ((k:Int)<600)&&(!a.n.1.bad&&(!b.n.1.bad)))))||(((aJ c a b).1).1==0)) then ((ok&&((aJ c a b).2&&(decide ((k:Int)<600)&&(!a.n.1.bad&&(!b.n.1.bad))))),out) else (bif (((aJ c a b).1).1==1) then ((ok&&((aJ c a b).2&&(decide ((k:Int)<600)&&(!a.n.1.bad&&(!b.n.1.bad))))),(out++[(⟨a,b⟩:Iv)])) else (((bG c n (aG a b) b (k+1) ((bG c n a (aG a b) (k+1) (ok&&((aJ c a b).2&&(decide ((k:Int)<600)&&(!a.n.1.bad&&(!b.n.1.bad))))) out).1) ((bG c n a (aG a b) (k+1) (ok&&((aJ c a b).2&&(decide ((k:Int)<600)&&(!a.n.1.bad&&(!b.n.1.bad))))) out).2)).1),(bG c n (aG a b) b (k+1) ((bG c n a (aG a b) (k+1) (ok&&((aJ c a b).2&&(decide ((k:Int)<600)&&(!a.n.1.bad&&(!b.n.1.bad))))) out).1) ((bG c n a (aG a b) (k+1) (ok&&((aJ c a b).2&&(decide ((k:Int)<600)&&(!a.n.1.bad&&(!b.n.1.bad))))) out).2)).2))
def aT (c:(List (List I))) (p:(List I)):Nat→Rt→Rt→W→W→Nat→Bool→Bool→Bool×Bool
 | 0,_,_,_,_,_,is,ok=>(is,ok)
 | n+1,a,b,left,right,k,is,ok=>bif (!is||(!ok)) then (is,ok) else (bif ((aJ c a b).2&&((aH p (aG a b)).2&&decide ((k:Int)<600))) then (bif (right.1==0) then (bif decide (((aH p (aG a b)).1).1<0) then (false,((aJ c a b).2&&((aH p (aG a b)).2&&decide ((k:Int)<600)))) else (bif (bif ((W.sub ((aJ c a b).1) (wl 1)).1==0) then ((W.sub ((aJ c a b).1) (wl 1)).1==0) else (((W.sub ((aJ c a b).1) (wl 1)).1==1)&&(decide (0<left.1)&&decide (0<right.1)))) then (is,((aJ c a b).2&&((aH p (aG a b)).2&&decide ((k:Int)<600)))) else (((aT c p n (aG a b) b ((aH p (aG a b)).1) right (k+1) ((aT c p n a (aG a b) left ((aH p (aG a b)).1) (k+1) is ((aJ c a b).2&&((aH p (aG a b)).2&&decide ((k:Int)<600)))).1) ((aT c p n a (aG a b) left ((aH p (aG a b)).1) (k+1) is ((aJ c a b).2&&((aH p (aG a b)).2&&decide ((k:Int)<600)))).2)).1),((aT c p n (aG a b) b ((aH p (aG a b)).1) right (k+1) ((aT c p n a (aG a b) left ((aH p (aG a b)).1) (k+1) is ((aJ c a b).2&&((aH p (aG a b)).2&&decide ((k:Int)<600)))).1) ((aT c p n a (aG a b) left ((aH p (aG a b)).1) (k+1) is ((aJ c a b).2&&((aH p (aG a b)).2&&decide ((k:Int)<600)))).2)).2)))) else (bif decide (((aH p (aG a b)).1).1<0) then (false,((aJ c a b).2&&((aH p (aG a b)).2&&decide ((k:Int)<600)))) else (bif (bif (((aJ c a b).1).1==0) then (((aJ c a b).1).1==0) else ((((aJ c a b).1).1==1)&&(decide (0<left.1)&&decide (0<right.1)))) then (is,((aJ c a b).2&&((aH p (aG a b)).2&&decide ((k:Int)<600)))) else (((aT c p n (aG a b) b ((aH p (aG a b)).1) right (k+1) ((aT c p n a (aG a b) left ((aH p (aG a b)).1) (k+1) is ((aJ c a b).2&&((aH p (aG a b)).2&&decide ((k:Int)<600)))).1) ((aT c p n a (aG a b) left ((aH p (aG a b)).1) (k+1) is ((aJ c a b).2&&((aH p (aG a b)).2&&decide ((k:Int)<600)))).2)).1),((aT c p n (aG a b) b ((aH p (aG a b)).1) right (k+1) ((aT c p n a (aG a b) left ((aH p (aG a b)).1) (k+1) is ((aJ c a b).2&&((aH p (aG a b)).2&&decide ((k:Int)<600)))).1) ((aT c p n a (aG a b) left ((aH p (aG a b)).1) (k+1) is ((aJ c a b).2&&((aH p (aG a b)).2&&decide ((k:Int)<600)))).2)).2))))) else (is,((aJ c a b).2&&((aH p (aG a b)).2&&decide ((k:Int)<600)))))
open QP (V)
theorem gz_ {a b:Rt} {p q:Rat} (ha:a.At p) (hb:b.At q) (hg:bB (fD a b)=true):(fD a b).At (p*q):=by
 unfold fD at hg ⊢;rw [nK ha,nK hb] at hg ⊢;obtain ⟨x,y,r,s,e1,e2,b1,b2,b3,b4,h1,h2,hc,he⟩:=HS ha hb;simp only [Bool.not_true,Bool.or_false,cond_false,e1,e2,cP] at hg ⊢;have hps:0<y*s:=Int.mul_pos h1 h2
 have hpq:p*q=Rat.divInt (x*r) (y*s):=by
  rw [← Rat.num_divInt_den p,← Rat.num_divInt_den q,Rat.divInt_mul_divInt];exact (Rat.divInt_eq_divInt_iff (by have:=@nU p;have:=@nU q;exact Int.mul_ne_zero oo_ oo_) oo_).2 (by rw [he])
 have hnum:(p*q).num=x*r:=by
  rw [hpq,Rat.num_divInt,Int.gcd_comm,hc,Int.sign_eq_one_of_pos hps];simp
 have hden:((p*q).den:Int)=y*s:=by
  rw [hpq,Rat.den_divInt,if_neg oo_,Int.gcd_comm,hc,Nat.div_one];omega
 have bd:bB jE=false:=by decide +kernel
 have n1:Zx (Z.mul (Z.of x) (Z.of r)) (x*r):=Zx.mul (.of _) (.of _);have n2:Zx (Z.mul (Z.of y) (Z.of s)) (y*s):=Zx.mul (.of _) (.of _)
 obtain ⟨e1,b1⟩:=n1.good fun h=>by
  rw [Z.eq_bad h,FL,bd] at hg;cases hg
 obtain ⟨e2,b2⟩:=n2.good fun h=>by
  rw [Z.eq_bad h,FM,bd] at hg;cases hg
 rw [e1,e2];exact DM b1 b2 hps (by rw [hnum,hden])
theorem VN:(fW (wl 1) (wl 2)).At (1 / 2):=DM (n:=1) (d:=2) B1 dd_ dd_ (by decide +kernel)
theorem LN {a b:Rt} {p q:Rat} (ha:a.At p) (hb:b.At q) (hg:bB (aI a b)=true):(aI a b).At ((p+q)*(1 / 2)):=by
 unfold aI at hg ⊢
 have hg':bB (eO a b)=true:=by
  cases h:bB (eO a b)
  ·exfalso
   simp only at hg;unfold fD at hg;rw [h] at hg;simp only [Bool.not_false,Bool.true_or,cond_true] at hg;exact absurd hg (by decide +kernel)
  rfl
 exact gz_ (dR_ ha hb hg') VN hg
theorem H9 {p:List I} {L:List (List I)} {a b:Rt} (h:St p L) (hl:L.length≤100) (hs:(aJ L a b).2=true):∃ qa qb,a.At qa∧b.At qb:=by
 obtain ⟨qa,qb,hc⟩:=xG h hl hs;exact ⟨qa,qb,hc.a,hc.b⟩
theorem C9 {p q:Rat} (h:p≤q):p≤(p+q)*(1 / 2)∧(p+q)*(1 / 2)≤q:=by constructor<;>grind
theorem OH {p:List I} {L:List (List I)} (h:St p L) (hl:L.length≤100) {n:Nat} {a b:Rt} (hb:¬ ∃ qa qb,a.At qa∧b.At qb) (k:Nat) (ok:Bool) (out:List Iv):(bG L n a b k ok out).2=out:=by
 cases n with
 | zero=>rfl
 | succ n =>
  unfold bG
  have hs:(aJ L a b).2=false:=by
   cases hs:(aJ L a b).2
   ·rfl
   exact absurd (H9 h hl hs) hb
  rw [hs];simp only [Bool.false_and,Bool.and_false,Bool.not_false,Bool.true_or,cond_true]
theorem OI {p:List I} {L:List (List I)} (h:St p L) (hl:L.length≤100):∀ (n:Nat) (a b:Rt) (k:Nat) (ok:Bool) (out:List Iv) (qa qb:Rat),a.At qa→b.At qb →
  (bG L n a b k ok out).2.length≤out.length+(V (L.map qp) qa - V (L.map qp) qb)
 | 0,a,b,k,ok,out,qa,qb,ha,hb=>Nat.le_add_right _ _
 | n+1,a,b,k,ok,out,qa,qb,ha,hb=>by
  unfold bG
  cases ho:(ok&&((aJ L a b).2&&(decide ((k:Int)<600)&&(!a.n.1.bad&&(!b.n.1.bad)))))
  ·simp only [Bool.not_false,Bool.true_or,cond_true];exact Nat.le_add_right _ _
  have hs:(aJ L a b).2=true:=by
   simp only [Bool.and_eq_true] at ho;exact ho.2.1
  obtain ⟨qa',qb',hc⟩:=xG h hl hs;obtain rfl:=n9 ha hc.a;obtain rfl:=n9 hb hc.b;have hn:=hc.n;generalize (aJ L a b).1.1=m at *;simp only [Bool.not_true,Bool.false_or]
  cases h0:(m==0)
  ·rw [cond_false]
   cases h1:(m==1)
   ·rw [cond_false]
    simp only
    by_cases hg:bB (aI a b)=true
    ·have hm:=LN ha hb hg
     rw [← AS] at hm;have i1:=OI h hl n a (aG a b) (k+1) true out qa _ ha hm;have i2:=OI h hl n (aG a b) b (k+1) (bG L n a (aG a b) (k+1) true out).1 (bG L n a (aG a b) (k+1) true out).2 _ qb hm hb;rcases Rat.le_total (a:=qa) (b:=qb) with hab|hab
     ·have v1:=h.anti (C9 hab).1
      have v2:=h.anti (C9 hab).2;omega
     have v1:=h.anti (a:=(qa+qb)*(1 / 2)) (b:=qa) (by grind);have v2:=h.anti (a:=qb) (b:=(qa+qb)*(1 / 2)) (by grind);omega
    have hno:¬ ∃ q,(aG a b).At q:=fun ⟨q,hq⟩=>hg (by rw [← AS];exact nK hq);rw [OH h hl (fun ⟨u,v,hu,hv⟩=>hno ⟨u,hu⟩) (k+1) _ _,OH h hl (fun ⟨u,v,hu,hv⟩=>hno ⟨v,hv⟩) (k+1) _ _];exact Nat.le_add_right _ _
   rw [cond_true]
   have:m=1:=by simpa using h1
   simp only [List.length_append,List.length_singleton];omega
  rw [cond_true];exact Nat.le_add_right _ _
theorem Z3 (x:Rt):(cV [[]] x).1=wl 0:=by
 unfold cV eB
 cases hs:(aH [] x).2
 ·rfl
 obtain ⟨q,hq⟩:=BV hs;have:=rN E6 hq hs;rw [DD,QP.ev_C,QP.sg_zero] at this;rw [this];rfl
theorem U6 (a b:Rt):(aJ [[]] a b).1.1=0:=by
 unfold aJ;rw [Z3,Z3];rfl
theorem aY_ (n:Nat) (a b:Rt) (k:Nat) (ok:Bool) (out:List Iv):(bG [[]] n a b k ok out).2=out:=by
 cases n with
 | zero=>rfl
 | succ n =>
  unfold bG;rw [U6,show ((0:Int)==0)=true from rfl,Bool.or_true,cond_true]
theorem LE (p:List I) (a b:Rt) (hp:Rgt p∧p.length≤100) (hok:(aL p).2=true):(bG ((aL p).1) 601 a b 0 ((aL p).2) ([]:List Iv)).2.length≤5000:=by
 have hl:=pS p;rcases yU hp.1 hok with rfl|h
 ·rw [show aL []=([[]],true) by kernel_rfl]
  rw [aY_];exact Nat.zero_le _
 by_cases hab:∃ qa qb,a.At qa∧b.At qb
 ·obtain ⟨qa,qb,ha,hb⟩:=hab
  have:=OI h hl 601 a b 0 (aL p).2 [] qa qb ha hb;have h2:=XH ((aL p).1.map qp) qa;rw [List.length_map] at h2;simp only [List.length_nil] at this;omega
 rw [OH h hl hab];exact Nat.zero_le _
theorem JM {p:List I} {L:List (List I)} (h:St p L) (hA:AL L) (hl:L.length≤100) {n:Nat} {a b:Rt} (hb:¬ ∃ qa qb,a.At qa∧b.At qb) (k:Int):(aM n L a b k).l=[]:=by
 cases n with
 | zero=>rfl
 | succ n =>
  unfold aM
  have hs:(bP L a b).2=false:=by
   rw [← rQ hA]
   cases hs:(aJ L a b).2
   ·rfl
   exact absurd (H9 h hl hs) hb
  rw [hs];simp only [Bool.not_false,Bool.true_or,cond_true]
theorem JN {p:List I} {L:List (List I)} (h:St p L) (hA:AL L) (hl:L.length≤100):∀ (n:Nat) (a b:Rt) (k:Int) (qa qb:Rat),a.At qa→b.At qb →
  (aM n L a b k).l.length≤V (L.map qp) qa - V (L.map qp) qb
 | 0,a,b,k,qa,qb,ha,hb=>Nat.zero_le _
 | n+1,a,b,k,qa,qb,ha,hb=>by
  unfold aM;rw [← rQ hA]
  cases ho:(!((aJ L a b).2)||decide (500<k))
  ·rw [cond_false]
   have hs:(aJ L a b).2=true:=by
    simp only [Bool.or_eq_false_iff,Bool.not_eq_false'] at ho;exact ho.1
   obtain ⟨qa',qb',hc⟩:=xG h hl hs;obtain rfl:=n9 ha hc.a;obtain rfl:=n9 hb hc.b;have hn:=hc.n;generalize (aJ L a b).1.1=m at *
   cases h0:(m==0)
   ·rw [cond_false]
    cases h1:(m==1)
    ·rw [cond_false]
     have both:(aM n L a (aI a b) (k+1)).l.length+(aM n L (aI a b) b (k+1)).l.length≤V (L.map qp) qa - V (L.map qp) qb:=by
      by_cases hg:bB (aI a b)=true
      ·have hm:=LN ha hb hg
       have i1:=JN h hA hl n a (aI a b) (k+1) qa _ ha hm;have i2:=JN h hA hl n (aI a b) b (k+1) _ qb hm hb;rcases Rat.le_total (a:=qa) (b:=qb) with hab|hab
       ·have v1:=h.anti (C9 hab).1
        have v2:=h.anti (C9 hab).2;omega
       have v1:=h.anti (a:=(qa+qb)*(1 / 2)) (b:=qa) (by grind);have v2:=h.anti (a:=qb) (b:=(qa+qb)*(1 / 2)) (by grind);omega
      have hno:¬ ∃ q,(aI a b).At q:=fun ⟨q,hq⟩=>hg (nK hq);rw [JM h hA hl (fun ⟨u,v,hu,hv⟩=>hno ⟨v,hv⟩) (k+1),JM h hA hl (fun ⟨u,v,hu,hv⟩=>hno ⟨u,hu⟩) (k+1)];exact Nat.zero_le _
     generalize aM n L a (aI a b) (k+1)=r1 at *;generalize aM n L (aI a b) b (k+1)=r2 at *
     cases (r1.e.1 != 0)
     ·rw [cond_false]
      cases (r2.e.1 != 0)
      ·rw [cond_false];simp only [List.length_append];exact both
      rw [cond_true];simp only;omega
     rw [cond_true];simp only;omega
    rw [cond_true]
    have:m=1:=by simpa using h1
    simp only [List.length_singleton];omega
   rw [cond_true];exact Nat.zero_le _
  rw [cond_true];exact Nat.zero_le _
theorem YO (n:Nat) (a b:Rt) (k:Int):(aM n [[]] a b k).l=[]:=by
 cases n with
 | zero=>rfl
 | succ n =>
  unfold aM;rw [← rQ (E3 (Nat.zero_le _)),U6,show ((0:Int)==0)=true from rfl,cond_true]
  cases (!((aJ [[]] a b).2)||decide (500<k))<;>rfl
theorem BG (p:List I) (hp:Rgt p∧p.length≤100) (hok:(bO p).2=true):∀ n a b k,(aM n ((bO p).1) a b k).l.length≤1000:=fun n a b k=>by
 rw [← BN hp.1] at hok ⊢;have hl:=pS p;have hA:=iJ p;rcases yU hp.1 hok with rfl|h
 ·rw [show aL []=([[]],true) by kernel_rfl,YO];exact Nat.zero_le _
 by_cases hab:∃ qa qb,a.At qa∧b.At qb
 ·obtain ⟨qa,qb,ha,hb⟩:=hab
  have:=JN h hA hl n a b k qa qb ha hb;have h2:=XH ((aL p).1.map qp) qa;rw [List.length_map] at h2;omega
 rw [JM h hA hl hab];exact Nat.zero_le _
def fC (l:(List W)):(List I) :=
 (jR l)
def kE (a:W) (b:W):Iv :=
 (⟨(gW a),(gW b)⟩:Iv)
def fO (p:(List I)) (a:Rt) (b:Rt):Bool :=
 ((eC p 6 64)&&((j5 a)&&((j5 b)&&decide ((W.add (W.add (W.add (Z.bitsW a.n.dec) (Z.bitsW a.d.dec)) (Z.bitsW b.n.dec)) (Z.bitsW b.d.dec)).1≤120))))
def dM (e:W) (f:W) (small:Bool):Bool×Bool :=
 (((e.1==30)||(f.1==30)),(!((e.1==30)||(f.1==30))||(!small)))
theorem N3 {p:List I} {d b:Int} (h:eC p d b=true):Rgt p∧p.length≤25∧(p.length:Int)≤d+1:=by
 obtain ⟨h1,h2⟩:=FH h;have h3:=MT h1;exact ⟨h3,vZ h3,h2⟩
theorem az_ {p:List I} {a b:Rt} (h:fO p a b=true):Rgt p∧p.length≤25:=by
 unfold fO at h;simp only [Bool.and_eq_true] at h;obtain ⟨h1,h2,_⟩:=N3 h.1;exact ⟨h1,h2⟩
theorem zN (l:List I):Rgt (bC l):=by rw [wT];exact B8 _
theorem vJ (l:List W):Rgt (jR l):=by unfold jR;exact zN _
theorem mO (l:List W):Rgt (fC l):=vJ l
theorem mN (l:List W):(fC l).length≤25:=vH l
def mT (p:(List I)) (x:Iv) (k:Int):Nat→Nat→Iv→(Nat×Iv) ⊕ (Iv×W)
 | 0,i,mb1=>.inl (i,mb1)
 | k0+1,i,mb1=>bif decide ((i:Int)<k) then (let r21:Iv:=(iQ ((cX p x).1) mb1).1
 bif (iQ ((cX p x).1) mb1).2 then (mT p x k k0 (i+1) r21) else (.inr ((⟨(⟨I0,I0⟩:Rt),(⟨I0,I0⟩:Rt)⟩:Iv),(wl 30)))) else (.inl (i,mb1))
def jG (p:(List I)) (x:Iv) (k:Int):Iv×W :=
 bif (decide (k<0)||decide (64<k)) then ((⟨(⟨I0,I0⟩:Rt),(⟨I0,I0⟩:Rt)⟩:Iv),(wl 1)) else (bif (((cX p x).2).1 != 0) then ((⟨(⟨I0,I0⟩:Rt),(⟨I0,I0⟩:Rt)⟩:Iv),(cX p x).2) else (sm (fun (s:Nat×Iv)=>let i:Nat:=s.1
 let mb1:Iv:=s.2
 (mb1,(wl 0))) (fun r=>r) (mT p x k (k.toNat+1) 0 x)))
def nS (q:(List I)) (p:(List I)) (x:Iv):Nat→Nat→Iv→(Nat×Iv) ⊕ (W×W)
 | 0,i,mb1=>.inl (i,mb1)
 | k0+1,i,mb1=>bif decide ((i:Int)<600) then (bif (aJ ((aL q).1) mb1.lo mb1.hi).2 then (bif (((aJ ((aL q).1) mb1.lo mb1.hi).1).1==0) then (bif (aH q mb1.hi).2 then (.inr ((aH q mb1.hi).1,(wl 0))) else (.inl (i,mb1))) else (let r43:Iv:=(iQ ((cX p x).1) mb1).1
 bif (iQ ((cX p x).1) mb1).2 then (nS q p x k0 (i+1) r43) else (.inl (i,r43)))) else (.inl (i,mb1))) else (.inl (i,mb1))
def iN (q:(List I)) (p:(List I)) (x:Iv):W×W :=
 bif (aY q) then ((wl 0),(wl 1)) else (bif (((cX p x).2).1 != 0) then ((wl 0),(cX p x).2) else (bif ((q.length:Int)==0) then ((wl 0),(wl 0)) else (bif (!((aL (aX p q)).2)||(!(aL q).2)) then ((wl 0),(wl 30)) else (bif (aJ ((aL (aX p q)).1) x.lo x.hi).2 then (bif decide (0<((aJ ((aL (aX p q)).1) x.lo x.hi).1).1) then ((wl 0),(wl 0)) else (sm (fun (s:Nat×Iv)=>let i:Nat:=s.1
 let mb1:Iv:=s.2
 ((wl 0),(wl 30))) (fun r=>r) (nS q p x (600+1) 0 x))) else ((wl 0),(wl 30))))))
def jV (p:(List I)) (a:Rt) (b:Rt):(List Iv)×W :=
 bif ((aY p)||(((p.length:Int)==0)||(!(iO a b)))) then (([]:List Iv),(wl 1)) else (bif (aL p).2 then (bif (bG ((aL p).1) 601 a b 0 ((aL p).2) ([]:List Iv)).1 then ((bG ((aL p).1) 601 a b 0 ((aL p).2) ([]:List Iv)).2,(wl 0)) else (([]:List Iv),(wl 30))) else (([]:List Iv),(wl 30)))
def gX (p:(List I)) (a:Rt) (b:Rt):List I→Bool→Bool
 | [],all=>all
 | x0::l0,all=>(gX p a b l0 (all&&decide (0≤(Z.signW x0.dec).1)))
def aP (p:(List I)) (a:Rt) (b:Rt):Bool×W :=
 bif ((aY p)||(!(iO a b))) then (false,(wl 1)) else (bif ((p.length:Int)==0) then (true,(wl 0)) else (bif (!((aH p a).2)||(!(aH p b).2)) then (false,(wl 30)) else (bif (decide (((aH p a).1).1<0)||decide (((aH p b).1).1<0)) then (false,(wl 0)) else (bif (decide (a.n=b.n)&&decide (a.d=b.d)) then (true,(wl 0)) else (bif (bT p a b).2 then (ap (fun (s:Bool)=>let all:Bool:=s
 bif all then (true,(wl 0)) else (bif (aL p).2 then (bif (aT ((aL p).1) p 601 a b ((aH p a).1) ((aH p b).1) 0 true ((aL p).2)).2 then (((aT ((aL p).1) p 601 a b ((aH p a).1) ((aH p b).1) 0 true ((aL p).2)).1),(wl 0)) else (false,(wl 30))) else (false,(wl 30)))) (gX p a b (bT p a b).1 true)) else (bif (aL p).2 then (bif (aT ((aL p).1) p 601 a b ((aH p a).1) ((aH p b).1) 0 true ((aL p).2)).2 then (((aT ((aL p).1) p 601 a b ((aH p a).1) ((aH p b).1) 0 true ((aL p).2)).1),(wl 0)) else (false,(wl 30))) else (false,(wl 30))))))))
def gY (p:(List I)) (a:Rt) (b:Rt) (k:Int):Nat→Nat→Iv→(Nat×Iv) ⊕ (Iv×Bool×W)
 | 0,i,mb14=>.inl (i,mb14)
 | k0+1,i,mb14=>bif decide ((i:Int)<k) then (bif ((aG mb14.lo mb14.hi).n).1.bad then (.inr ((⟨(⟨I0,I0⟩:Rt),(⟨I0,I0⟩:Rt)⟩:Iv),false,(wl 30))) else (bif (((aP p mb14.lo (aG mb14.lo mb14.hi)).2).1 != 0) then (.inr ((⟨(⟨I0,I0⟩:Rt),(⟨I0,I0⟩:Rt)⟩:Iv),false,(aP p mb14.lo (aG mb14.lo mb14.hi)).2)) else (bif (aP p mb14.lo (aG mb14.lo mb14.hi)).1 then (gY p a b k k0 (i+1) (⟨(aG mb14.lo mb14.hi),mb14.hi⟩:Iv)) else (gY p a b k k0 (i+1) (⟨mb14.lo,(aG mb14.lo mb14.hi)⟩:Iv))))) else (.inl (i,mb14))
def bZ (p:(List I)) (a:Rt) (b:Rt) (k:Int):Iv×Bool×W :=
 bif (decide (k<0)||decide (64<k)) then ((⟨(⟨I0,I0⟩:Rt),(⟨I0,I0⟩:Rt)⟩:Iv),false,(wl 1)) else (bif ((((aP p a b).2).1 != 0)||(aP p a b).1) then ((⟨(⟨I0,I0⟩:Rt),(⟨I0,I0⟩:Rt)⟩:Iv),false,(aP p a b).2) else (sm (fun (s:Nat×Iv)=>let i:Nat:=s.1
 let mb14:Iv:=s.2
 (mb14,true,(wl 0))) (fun r=>r) (gY p a b k (k.toNat+1) 0 (⟨a,b⟩:Iv))))
def lR :Bool :=
 let q0:(List I):=(fC [(wl (-2)),(wl 0),(wl 1)])
 let q1:(List I):=(fC [(wl 1),(wl (-2)),(wl 1)])
 let q2:Rt:=(gW (wl 0))
 let q3:Rt:=(gW (wl 1))
 let q4:Rt:=(gW (wl 2))
 let q5:Rt:=(gW (wl (-2)))
 let q6:W:=(dX q0 q5 q4).1
 let q7:W:=(dX q0 q5 q4).2
 let q8:W:=(dX q0 q2 q4).1
 let q9:W:=(dX q0 q2 q4).2
 let q10:W:=(dX q1 q2 q3).1
 let q11:W:=(dX q1 q2 q3).2
 let q12:W:=(dX q1 q3 q4).1
 let q13:W:=(dX q1 q3 q4).2
 let q14:(List Iv):=(jV q0 q5 q4).1
 let q15:W:=(jV q0 q5 q4).2
 let q16:Iv:=(kE (wl 0) (wl 2))
 let q17:Iv:=(jG q0 q16 2).1
 let q18:W:=(jG q0 q16 2).2
 let q19:(List I):=(fC [(wl (-1)),(wl 1)])
 let q20:W:=(iN q19 q0 q16).1
 let q21:W:=(iN q19 q0 q16).2
 let q22:(List I):=(fC [(wl (-4)),(wl 0),(wl 0),(wl 0),(wl 1)])
 let q23:W:=(iN q22 q0 q16).1
 let q24:W:=(iN q22 q0 q16).2
 let q25:Iv:=(kE (wl (-2)) (wl 0))
 let q26:Bool:=(jX q14 [q25,q16])
 let q27:Rt:=(fW (wl 3) (wl 2))
 let q28:Bool:=(aP q1 q2 q4).1
 let q29:W:=(aP q1 q2 q4).2
 let q30:(List I):=(fC [(wl 0),(wl (-1)),(wl 1)])
 let q31:Bool:=(aP q30 q2 q3).1
 let q32:W:=(aP q30 q2 q3).2
 let q33:Bool:=(aP q30 q3 q4).1
 let q34:W:=(aP q30 q3 q4).2
 let q35:(List I):=(fC [(wl 1),(wl (-2))])
 let q36:Iv:=(bZ q35 q2 q3 2).1
 let q37:Bool:=(bZ q35 q2 q3 2).2.1
 let q38:W:=(bZ q35 q2 q3 2).2.2
 let q39:Rt:=(fW (wl 1) (wl 2))
 let q40:Rt:=(fW (wl 3) (wl 4))
 (((q6.1==2)&&((q8.1==1)&&((q10.1==1)&&((q12.1==0)&&((q7.1==0)&&((q9.1==0)&&((q11.1==0)&&(q13.1==0))))))))&&((q26&&((q15.1==0)&&((decide (q17.lo.n=q3.n)&&(decide (q17.lo.d=q3.d)&&(decide (q17.hi.n=q27.n)&&decide (q17.hi.d=q27.d))))&&((q18.1==0)&&((q20.1==1)&&((q21.1==0)&&((q23.1==0)&&(q24.1==0))))))))&&(q28&&(!q31&&(q33&&((q29.1==0)&&((q32.1==0)&&((q34.1==0)&&(q37&&((q38.1==0)&&(decide (q36.lo.n=q39.n)&&(decide (q36.lo.d=q39.d)&&(decide (q36.hi.n=q40.n)&&decide (q36.hi.d=q40.d))))))))))))))
def e8 (p:(List I)) (a:Rt) (b:Rt) (k:W):Bool :=
 bif (fO p a b) then (let r4:Fnd9:=(aN p a b)
 bif (!((dM ((aP p a b).2) r4.e (cL p a b k)).2)||(!((dM ((aP p a b).2) r4.e (cL p a b k)).1)&&(((aP p a b).1 != r4.is)||(((aP p a b).2).1 != r4.e.1)))) then false else (let r14:Iv:=(bZ p a b k.1).1
 let r16:Fnd9:=(bR p a b k.1)
 (lR&&((dM ((bZ p a b k.1).2.2) r16.e (cL p a b k)).2&&((dM ((bZ p a b k.1).2.2) r16.e (cL p a b k)).1||((decide (r14.lo.n=r16.x.lo.n)&&(decide (r14.lo.d=r16.x.lo.d)&&(decide (r14.hi.n=r16.x.hi.n)&&decide (r14.hi.d=r16.x.hi.d))))&&(((bZ p a b k.1).2.1==r16.is)&&(((bZ p a b k.1).2.2).1==r16.e.1)))))))) else (lR)
end Go.Num
namespace Go.Kn
open Go Go.Num
section
variable {α:Type} {e:El α} {P:Program} {w0:World} {X:List Nat} {N:Nm} {S:Fr} {M M':List Blk} {d:Option Tmp} {ty:TypeId} {ps:String} {af:Array Edge} {gd:Option (Nat×Bool)} {E:TypeId}
def OwnN (w0:World) (E:TypeId) (e:El α):List Value→List (List α)→List Blk→Prop
 | [],[],L=>L=[]
 | v::vs,l::ls,L=>∃ L1 L2,L=L1++L2∧OwnG w0 E e v l L1∧OwnN w0 E e vs ls L2
 | _,_,_=>False
def SloN (w1 w:World) (E:TypeId) (e:El α) (vs:List Value) (ls:List (List α)):Prop :=
 ∃ L,OwnN w1 E e vs ls L∧(L.map Blk.b).Nodup∧∀ x∈L,w.heap[x.b]? = some (.cells x.cs.toArray x.T (0,0))
theorem OwnG.ge {v:Value} {l:List α} {L:List Blk} (h:OwnG w0 E e v l L):∀ x∈L,w0.heap.size≤x.b:=by
 rcases h with ⟨_,_,rfl⟩|⟨g,cap,cur,_,rfl,hg,_⟩
 ·intro x hx;cases hx
 intro x hx;obtain rfl:=List.mem_singleton.1 hx;exact hg
theorem OwnG.wid {w:World} {v:Value} {l:List α} {L:List Blk} (hs:w0.heap.size≤w.heap.size) (h:OwnG w E e v l L):OwnG w0 E e v l L:=by
 rcases h with h|⟨g,cap,cur,h1,h2,hg,h3⟩
 ·exact .inl h
 exact .inr ⟨g,cap,cur,h1,h2,Nat.le_trans hs hg,h3⟩
theorem OwnN.ge:∀ {vs:List Value} {ls:List (List α)} {L:List Blk},OwnN w0 E e vs ls L→∀ x∈L,w0.heap.size≤x.b
 | [],[],L,h,x,hx=>by rw [show L=[] from h] at hx;cases hx
 | v::vs,l::ls,L,⟨L1,L2,h,h1,h2⟩,x,hx=>by
  rw [h] at hx;rcases List.mem_append.1 hx with hx|hx
  ·exact h1.ge x hx
  exact OwnN.ge h2 x hx
theorem OwnN.wid {w:World} (hs:w0.heap.size≤w.heap.size):∀ {vs:List Value} {ls:List (List α)} {L:List Blk},OwnN w E e vs ls L→OwnN w0 E e vs ls L
 | [],[],_,h=>h
 | v::vs,l::ls,L,⟨L1,L2,h,h1,h2⟩=>⟨L1,L2,h,h1.wid hs,OwnN.wid hs h2⟩
theorem SloN.now {w w':World} {vs:List Value} {ls:List (List α)} (h:SloN w w' E e vs ls) (hw:Sat w0 X M w) (he:Ext w w'):∃ L,Sat w0 X (L++M) w'∧OwnN w0 E e vs ls L:=by
 obtain ⟨L,h1,h2,h3⟩:=h;have hw':=Sat.mono _ _ _ _ _ hw he;refine ⟨L,⟨hw'.os,hw'.tape,hw'.output,hw'.size,hw'.old,?_,fun y hy=>?_⟩,h1.wid hw.size⟩
 ·rw [List.map_append]
  refine List.nodup_append.2 ⟨h2,hw'.nodup,fun a ha b hb e=>?_⟩;subst e;obtain ⟨x,hx,e1⟩:=List.mem_map.1 ha;obtain ⟨y,hy,e2⟩:=List.mem_map.1 hb;have g1:=h1.ge x hx;have g2:=eK? (hw.mem y hy);omega
 rcases List.mem_append.1 hy with hy|hy
 ·exact h3 y hy
 exact hw'.mem y hy
end
open Go Go.Num
section
variable {P:Program} {w0:World} {X:List Nat} {N:Nm} {S:Fr} {M M':List Blk} {d:Option Tmp} {ty:TypeId} {ps:String} {af:Array Edge} {gd:Option (Nat×Bool)}
theorem vX {g:FuncId} {f:Operand} {xs:List Operand} {tys:Array TypeId} {args cap:List Value} {Q K:Value→List Blk→Prop} (he:lT P g=true) (hf:evO N S f=some (.func (.func g) #[] cap.toArray)) (ha:evL N S xs=some args)
  (h:∀ w,Sat w0 X M w→Calls P g (args++cap).toArray w fun e w'=>∃ v M',e = .returned v∧Sat w0 X M' w'∧KeepsOthers w w'∧Q v M') (k:∀ v M',Q v M'→K v M') :
  OpR P w0 X N ⟨d,.call { callee:=.value f,args:=xs.toArray,argTypes:=tys },ty,ps,af,gd⟩ S M K:=by
 intro w hw;unfold opw;rw [mU,B4 (first:=[]) (cap:=cap) (args:=args++cap) he (cI hf) (by simpa using vC ha)];exact (h w hw).mono fun e w' ⟨v,M',h1,h2,h4,h3⟩=>⟨v,h1,h4,M',h2,k v M' h3⟩
theorem GE {n:Nat} {f:FuncId} {fn:Func} {c:Code} {args:List Value} {w:World} {Q:Value→List Blk→Prop} (hf:P.funcs[f]? = some fn) (hb:fn.body=some c) (hn:fn.ntmps=n) (hl:args.length≤n) (hw:Sat w0 X M w)
  (h:W P w0 X (pl n) c (nL P fn w0 X (pl n) fun v M'=>∃ M2 Z,M'.Perm (M2++Z)∧Q v M2) (sK 0 args) M):Calls P f args.toArray w fun e w'=>∃ v M',e = .returned v∧Sat w0 X M' w'∧KeepsOthers w w'∧Q v M' :=
 (oS hf hb hn hl hw h).mono fun e w' ⟨v,M',h1,h2,h3,M2,Z,p,hq⟩=>⟨v,M2,h1,(h2.perm p).sub (List.sublist_append_left _ _),h3,hq⟩
theorem Frq.pc {x:Blk} {M1 R:List Blk} (f:Frq M [x] M1) (g:M1.Perm R):M.Perm (x::R):=f.trans (List.Perm.cons x g)
theorem Frq.pa {L M1 R:List Blk} (f:Frq M L M1) (g:M1.Perm R):M.Perm (L++R):=f.trans (List.Perm.append_left L g)
theorem gX_ {M:List Blk}:Frq M [] M:=List.Perm.refl _
end
end Go.Kn
namespace Go.Num
open Go Go.Kn
end Go.Num
namespace Go.Kn
open Go Go.Num
structure Lo (σ:Type) where
 p:Option Addr
 c:Nat
 x:σ
structure El2 (σ α:Type) where
 n:Nat
 ps:Option Addr→Nat→σ→List Part
 len:∀ p c x,qH (ps p c x)=n
 e:El α
 li:σ→List α
def El2.el {σ α:Type} (D:El2 σ α):El (Lo σ):=⟨D.n,fun h=>D.ps h.p h.c h.x,fun h=>D.len _ _ _⟩
abbrev El2.v {σ α:Type} (D:El2 σ α) (h:Lo σ):Value:=.slice h.p (D.li h.x).length h.c
def elLL:El2 (List I) I:=⟨1,fun p c x=>[csl p x.length c],fun _ _ _=>rfl,elI,id⟩
section
variable {σ α:Type} {D:El2 σ α} {P:Program} {w0:World} {X:List Nat} {N:Nm} {S:Fr} {M M':List Blk} {d:Option Tmp} {ty:TypeId} {ps:String} {af:Array Edge} {gd:Option (Nat×Bool)} {v:Value} {l:List σ} {L LL:List Blk} {E:TypeId} {B:Nat}
def Slr2 (w:World) (D:El2 σ α) (v:Value) (l:List σ):Prop:=∃ H:List (Lo σ),H.map Lo.x=l∧Slr w D.el v H∧∀ h∈H,Slr w D.e (D.v h) (D.li h.x)
def SLe2 (w0:World) (X:List Nat) (M:List Blk) (D:El2 σ α) (v:Value) (l:List σ):Prop:=∃ H:List (Lo σ),H.map Lo.x=l∧SLe w0 X M D.el v H∧∀ h∈H,SLe w0 X M D.e (D.v h) (D.li h.x)
def Slf2 (B:Nat) (w:World) (D:El2 σ α) (v:Value) (l:List σ):Prop:=∃ H:List (Lo σ),H.map Lo.x=l∧Slfe B w D.el v H∧∀ h∈H,Slfe B w D.e (D.v h) (D.li h.x)
def SLf2 (w0:World) (M:List Blk) (D:El2 σ α) (v:Value) (l:List σ):Prop:=∃ H:List (Lo σ),H.map Lo.x=l∧SLfe w0 M D.el v H∧∀ h∈H,SLfe w0 M D.e (D.v h) (D.li h.x)
def Own2 (w0:World) (E:TypeId) (D:El2 σ α) (v:Value) (l:List σ) (L LL:List Blk):Prop:=∃ H:List (Lo σ),H.map Lo.x=l∧OwnG w0 E D.el v H L∧∀ h∈H,SLfe w0 LL D.e (D.v h) (D.li h.x)
theorem u3 {H:List (Lo σ)} (h:H.map Lo.x=l):H.length=l.length:=by rw [← h,List.length_map]
theorem OE {H:List (Lo σ)} {k:Nat} {x:σ} (h:H.map Lo.x=l) (hx:l[k]? = some x):∃ p c,H[k]? = some ⟨p,c,x⟩:=by
 rw [← h,List.getElem?_map] at hx
 cases hk:H[k]? with
 | none=>rw [hk] at hx;cases hx
 | some y =>
  rw [hk] at hx;obtain ⟨p,c,z⟩:=y
  cases hx
  exact ⟨p,c,rfl⟩
theorem Slr2.old (h:Slr2 w0 D v l):SLe2 w0 [] [] D v l:=by
 obtain ⟨H,h1,h2,h3⟩:=h;exact ⟨H,h1,h2.old,fun x hx=>(h3 x hx).old⟩
theorem Slr2.form {w:World} (h:Slr2 w D v l):∃ p c,v = .slice p l.length c:=by
 obtain ⟨H,h1,h2,_⟩:=h;obtain ⟨p,c,rfl⟩:=h2.form;exact ⟨p,c,by rw [u3 h1]⟩
theorem Slr2.max {w:World} (h:Slr2 w D v l):l.length≤9223372036854775807:=by
 obtain ⟨H,h1,h2,_⟩:=h;rw [← u3 h1];exact h2.max
theorem SLe2.sub (h:SLe2 w0 X M D v l) (hs:M.Sublist M'):SLe2 w0 X M' D v l:=by
 obtain ⟨H,h1,h2,h3⟩:=h;exact ⟨H,h1,h2.sub hs,fun x hx=>(h3 x hx).sub hs⟩
theorem SLf2.sub (h:SLf2 w0 M D v l) (hs:M.Sublist M'):SLf2 w0 M' D v l:=by
 obtain ⟨H,h1,h2,h3⟩:=h;exact ⟨H,h1,h2.sub hs,fun x hx=>(h3 x hx).sub hs⟩
theorem SLf2.sle (h:SLf2 w0 M D v l):SLe2 w0 X M D v l:=by
 obtain ⟨H,h1,h2,h3⟩:=h;exact ⟨H,h1,h2.sle,fun x hx=>(h3 x hx).sle⟩
theorem SLf2.max (h:SLf2 w0 M D v l):l.length≤9223372036854775807:=by
 obtain ⟨H,h1,h2,h3⟩:=h;rw [← u3 h1];exact h2.max
theorem SLf2.nil:SLf2 w0 M D (.slice none 0 0) []:=⟨[],rfl,SLfe.nil,fun _ h=>by cases h⟩
theorem SLe2.nil:SLe2 w0 X M D (.slice none 0 0) []:=SLf2.nil.sle
theorem SLe2.ap {w:World} (hw:Sat w0 X M w) (h:SLe2 w0 X M D v l):Slr2 w D v l:=by
 obtain ⟨H,h1,h2,h3⟩:=h;exact ⟨H,h1,h2 w hw,fun x hx=>h3 x hx w hw⟩
theorem Own2.form (h:Own2 w0 E D v l L LL):∃ p c,v = .slice p l.length c:=by
 obtain ⟨H,h1,h2,_⟩:=h;obtain ⟨p,c,rfl⟩:=h2.form;have:=h2.len;exact ⟨p,c,by rw [this,u3 h1]⟩
theorem Own2.max (h:Own2 w0 E D v l L LL):l.length≤9223372036854775807:=by
 obtain ⟨H,h1,h2,_⟩:=h;rw [← u3 h1];exact h2.max
theorem Own2.slf (h:Own2 w0 E D v l L LL) (h1:L.Sublist M) (h2:LL.Sublist M):SLf2 w0 M D v l:=by
 obtain ⟨H,a,b,c⟩:=h;exact ⟨H,a,b.slfe h1,fun x hx=>(c x hx).sub h2⟩
theorem Own2.sle (h:Own2 w0 E D v l L LL) (h1:L.Sublist M) (h2:LL.Sublist M):SLe2 w0 X M D v l:=(h.slf h1 h2).sle
theorem SLe2.at {k:Nat} {x:σ} (h:SLe2 w0 X M D v l) (hx:l[k]? = some x):∃ p c H,SLe w0 X M D.el v H∧H[k]? = some ⟨p,c,x⟩∧SLe w0 X M D.e (.slice p (D.li x).length c) (D.li x):=by
 obtain ⟨H,h1,h2,h3⟩:=h;obtain ⟨p,c,hk⟩:=OE h1 hx;exact ⟨p,c,H,h2,hk,h3 _ (List.mem_of_getElem? hk)⟩
theorem SLf2.at {k:Nat} {x:σ} (h:SLf2 w0 M D v l) (hx:l[k]? = some x):∃ p c H,SLfe w0 M D.el v H∧H[k]? = some ⟨p,c,x⟩∧SLfe w0 M D.e (.slice p (D.li x).length c) (D.li x):=by
 obtain ⟨H,h1,h2,h3⟩:=h;obtain ⟨p,c,hk⟩:=OE h1 hx;exact ⟨p,c,H,h2,hk,h3 _ (List.mem_of_getElem? hk)⟩
theorem Own2.at {k:Nat} {x:σ} (h:Own2 w0 E D v l L LL) (hx:l[k]? = some x):∃ p c H,OwnG w0 E D.el v H L∧H[k]? = some ⟨p,c,x⟩∧SLfe w0 LL D.e (.slice p (D.li x).length c) (D.li x):=by
 obtain ⟨H,h1,h2,h3⟩:=h;obtain ⟨p,c,hk⟩:=OE h1 hx;exact ⟨p,c,H,h2,hk,h3 _ (List.mem_of_getElem? hk)⟩
theorem JG {T:TypeId} {x:Operand} {s:Nat} (hT:mF P T=some s) (hx:evO N S x=some v) (hv:SLe2 w0 X M D v l):OpQ P w0 X N ⟨d,.call { callee:=.builtin .len,args:=#[x],argTypes:=#[T] },ty,ps,af,gd⟩ S M (.int .i64 (l.length:Nat)):=by
 obtain ⟨H,h1,h2,_⟩:=hv;rw [← u3 h1];exact dK hT hx h2
theorem FT {T:TypeId} {x y:Operand} {k:Nat} {i:IntKind} {t:Int} (hT:mF P T=some D.n) (hx:evO N S x=some v) (hy:evO N S y=some (.int i t)) (ht:t=(k:Int)) (hv:SLe2 w0 X M D v l) (hk:k<l.length) :
  OpQ P w0 X N ⟨d,.indexAddr T x y,ty,ps,af,gd⟩ S M (.pointer (some (slb v (k*D.n)))):=by
 obtain ⟨H,h1,h2,_⟩:=hv;subst ht;exact j7 (e:=D.el) hT hx hy h2 (by rw [u3 h1];exact hk)
theorem Own2.one {b c:Nat} {a:Option Addr} {x:σ} {qs:List Part} (hb:w0.heap.size≤b) (hq:qs=D.ps a c x) (hx:SLfe w0 LL D.e (.slice a (D.li x).length c) (D.li x)):Own2 w0 E D (.slice (some ⟨b,0,none⟩) 1 1) [x] [⟨b,E,bH qs⟩] LL :=
 ⟨[⟨a,c,x⟩],rfl,OwnG.lit (e:=D.el) hb O dd_ (by rw [hq];simp [El2.el]),fun h hh=>by
  obtain rfl:=List.mem_singleton.1 hh
  exact hx⟩
theorem MP {T:TypeId} {x y:Operand} {u:Value} {a:Option Addr} {c0:Nat} {z:σ} {L1 R:List Blk} {K:Value→List Blk→Prop} (bytes:Nat) (hT:P.underlying T=some (.slice E)) (hE:UL P E D.el.n bytes=true) (h0:0<D.el.n) (hx:evO N S x=some v) (hy:evO N S y=some u)
  (hv:Own2 w0 E D v l L LL) (hu:SLe w0 X M D.el u [⟨a,c0,z⟩]) (hz:SLfe w0 L1 D.e (.slice a (D.li z).length c0) (D.li z)) (hs:M.Perm (L++(L1++(LL++R)))) (hn:(l.length+1)*bytes≤140737488355328) (h8:0<bytes)
  (k:∀ p c L' LL',Own2 w0 E D (.slice p (l++[z]).length c) (l++[z]) L' LL'→L1.Sublist LL'→LL.Sublist LL'→K (.slice p (l++[z]).length c) (L'++(LL'++R))) :
  OpR P w0 X N ⟨d,.call { callee:=.builtin .append,args:=#[x,y],argTypes:=#[T,T] },ty,ps,af,gd⟩ S M K:=by
 obtain ⟨H,h1,h2,h3⟩:=hv;refine l8 (e:=D.el) (l:=H) (m:=[⟨a,c0,z⟩]) (L:=L) (M1:=(L1++LL)++R) bytes hT hE h0 hx hy h2 hu (hs.trans (by rw [List.append_assoc])) (by rw [u3 h1];exact hn) h8 fun p c L' ho=>?_
 have e1:(H++[(⟨a,c0,z⟩:Lo σ)]).map Lo.x=l++[z]:=by rw [List.map_append,h1];rfl
 have e2:=u3 e1;rw [e2] at ho ⊢;refine k p c L' (L1++LL) ⟨_,e1,ho,fun h hh=>?_⟩ (List.sublist_append_left _ _) (List.sublist_append_right _ _);rcases List.mem_append.1 hh with hh|hh
 ·exact (h3 h hh).sub (List.sublist_append_right _ _)
 obtain rfl:=List.mem_singleton.1 hh;exact hz.sub (List.sublist_append_left _ _)
theorem I9 (w:World) (B:Nat):∀ n:Nat,∃ L:List Blk,(L.map Blk.b).Nodup∧(∀ x∈L,(B≤x.b∧x.b<B+n)∧w.heap[x.b]? = some (.cells x.cs.toArray x.T (0,0)))∧∀ b T (cs:List Value),B≤b→b<B+n→w.heap[b]? = some (.cells cs.toArray T (0,0))→(⟨b,T,cs⟩:Blk)∈L
 | 0=>⟨[],List.nodup_nil,fun x hx=>(by cases hx),fun b T cs h1 h2 _=>oo_⟩
 | n+1=>by
  obtain ⟨L,h1,h2,h3⟩:=I9 w B n
  by_cases h:∃ (T:TypeId) (cs:List Value),w.heap[B+n]? = some (.cells cs.toArray T (0,0))
  ·obtain ⟨T,cs,h⟩:=h
   refine ⟨⟨B+n,T,cs⟩::L,?_,fun x hx=>?_,fun b T' cs' b1 b2 hb=>?_⟩
   ·rw [List.map_cons,List.nodup_cons]
    refine ⟨fun hm=>?_,h1⟩;obtain ⟨y,hy,e⟩:=List.mem_map.1 hm;have h4:=(h2 y hy).1;have e':y.b=B+n:=e;omega
   ·rcases List.mem_cons.1 hx with rfl|hx
    ·exact ⟨⟨Nat.le_add_right _ _,by show B+n<B+(n+1);omega⟩,h⟩
    exact ⟨⟨(h2 x hx).1.1,by have:=(h2 x hx).1.2;omega⟩,(h2 x hx).2⟩
   by_cases hn:b=B+n
   ·subst hn
    rw [h] at hb
    injection hb with hb
    injection hb with e1 e2
    subst e2
    obtain rfl:cs=cs':=by simpa using e1
    exact List.mem_cons_self
   exact List.mem_cons_of_mem _ (h3 b T' cs' b1 oo_ hb)
  refine ⟨L,h1,fun x hx=>⟨⟨(h2 x hx).1.1,by have:=(h2 x hx).1.2;omega⟩,(h2 x hx).2⟩,fun b T' cs' b1 b2 hb=>?_⟩
  by_cases hn:b=B+n
  ·subst hn;exact absurd ⟨T',cs',hb⟩ h
  exact h3 b T' cs' b1 oo_ hb
theorem Slfe.all {α:Type} {e:El α} {v:Value} {l:List α} {w:World} {L:List Blk} (h:Slfe B w e v l) (hB:w0.heap.size≤B) (hL:∀ b T (cs:List Value),B≤b→b<w.heap.size→w.heap[b]? = some (.cells cs.toArray T (0,0))→(⟨b,T,cs⟩:Blk)∈L):SLfe w0 L e v l:=by
 obtain ⟨p,c,hv,hc,hm,h⟩:=h;refine ⟨p,c,hv,hc,hm,?_⟩;rcases h with h|⟨b,off,T,cs,hp,hb,hh,ht⟩
 ·exact .inl h
 exact .inr ⟨b,off,T,cs,hp,Nat.le_trans hB hb,hL b T cs hb (eK? hh) hh,ht⟩
theorem Slf2.now {w w':World} (h:Slf2 w.heap.size w' D v l) (hw:Sat w0 X M w) (he:Ext w w'):∃ p c L,v = .slice p l.length c∧Sat w0 X (L++M) w'∧SLf2 w0 L D (.slice p l.length c) l:=by
 have hw':=Sat.mono _ _ _ _ _ hw he;obtain ⟨H,h1,h2,h3⟩:=h;obtain ⟨L,n1,n2,n3⟩:=I9 w' w.heap.size (w'.heap.size - w.heap.size);have hL:∀ b T (cs:List Value),w.heap.size≤b→b<w'.heap.size→w'.heap[b]? = some (.cells cs.toArray T (0,0))→(⟨b,T,cs⟩:Blk)∈L:=fun b T cs b1 b2=>n3 b T cs b1 oo_;have g:=h2.all hw.size hL;obtain ⟨p,c,rfl,hc⟩:=id g;have el:=u3 h1;refine ⟨p,c,L,by rw [el],⟨hw'.os,hw'.tape,hw'.output,hw'.size,hw'.old,?_,fun y hy=>?_⟩,H,h1,by rw [← el];exact g,fun x hx=>(h3 x hx).all hw.size hL⟩
 ·rw [List.map_append]
  refine List.nodup_append.2 ⟨n1,hw'.nodup,fun a ha b hb e=>?_⟩;subst e;obtain ⟨x,hx,e1⟩:=List.mem_map.1 ha;obtain ⟨y,hy,e2⟩:=List.mem_map.1 hb;have g1:=(n2 x hx).1.1;have g2:=eK? (hw.mem y hy);omega
 rcases List.mem_append.1 hy with hy|hy
 ·exact (n2 y hy).2
 exact hw'.mem y hy
theorem SLf2.slf {w:World} (h:SLf2 w0 M D v l) (hw:Sat w0 X M w):Slf2 w0.heap.size w D v l:=by
 obtain ⟨H,h1,h2,h3⟩:=h;exact ⟨H,h1,h2.slfe hw,fun x hx=>(h3 x hx).slfe hw⟩
theorem AW {n:Nat} {f:FuncId} {fn:Func} {c:Code} {args:List Value} {w:World} (R:Value→Value) (hf:P.funcs[f]? = some fn) (hb:fn.body=some c) (hn:fn.ntmps=n) (hl:args.length≤n)
  (h:W P w [] (pl n) c (nL P fn w [] (pl n) fun r M=>∃ v,r=R v∧SLf2 w M D v l) (sK 0 args) []):Calls P f args.toArray w fun f w'=>∃ v,f = .returned (R v)∧Ext w w'∧Slf2 w.heap.size w' D v l :=
 (oS hf hb hn hl (Sat.start w []) h).mono fun f w' ⟨r,M',he,hs,_,v,hr,hu⟩=>⟨v,by rw [he,hr],hs.ext,hu.slf hs⟩
theorem tT {g:FuncId} {xs:List Operand} {tys:Array TypeId} {args:List Value} {K:Value→List Blk→Prop} (R:Value→Value) (he:lT P g=true) (ha:evL N S xs=some args)
  (h:∀ w,Sat w0 X M w→Calls P g args.toArray w fun f w'=>∃ v,f = .returned (R v)∧Ext w w'∧Slf2 w.heap.size w' D v l) (k:∀ p c L,SLf2 w0 L D (.slice p l.length c) l→K (R (.slice p l.length c)) (L++M)):OpR P w0 X N ⟨d,.call { callee:=.value (.func g),args:=xs.toArray,argTypes:=tys },ty,ps,af,gd⟩ S M K :=
 DE he ha fun w hw=>(h w hw).mono fun _ w' ⟨v,h1,h2,h3⟩=>by
  obtain ⟨p,c,L,rfl,hs,hv⟩:=h3.now hw h2;exact ⟨_,L++M,h1,hs,Ext.keeps h2,k p c L hv⟩
theorem SLe2.atLL {v:Value} {l:List (List I)} {k:Nat} {x:List I} (h:SLe2 w0 X M elLL v l) (hx:l[k]? = some x):∃ p c H,SLe w0 X M elLL.el v H∧H[k]? = some ⟨p,c,x⟩∧SLe w0 X M elI (.slice p x.length c) x:=h.at hx
theorem SLf2.atLL {v:Value} {l:List (List I)} {k:Nat} {x:List I} (h:SLf2 w0 M elLL v l) (hx:l[k]? = some x):∃ p c H,SLfe w0 M elLL.el v H∧H[k]? = some ⟨p,c,x⟩∧SLfe w0 M elI (.slice p x.length c) x:=h.at hx
theorem Own2.atLL {v:Value} {l:List (List I)} {k:Nat} {x:List I} (h:Own2 w0 E elLL v l L LL) (hx:l[k]? = some x):∃ p c H,OwnG w0 E elLL.el v H L∧H[k]? = some ⟨p,c,x⟩∧SLfe w0 LL elI (.slice p x.length c) x:=h.at hx
theorem dK_ {b:Bool} (h:(!b)=false):b=true:=by cases b<;>first|rfl|cases h
theorem Frq.po {L M1 A Z:List Blk} (f:Frq M L M1) (g:M1.Perm (A++Z)):M.Perm ((L++A)++Z):=by rw [List.append_assoc];exact f.pa g
theorem Frq.pz {L Z:List Blk} (f:Frq M L Z):M.Perm ((L++[])++Z):=by rw [List.append_nil];exact f
end
end Go.Kn
