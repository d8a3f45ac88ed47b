/- Lemmas: what they ask stands in their statements. -/
import Derived.Test.YtokjfhfiodopdaaGreatWSsd
set_option linter.unusedSimpArgs false
set_option linter.unusedVariables false
namespace Go.Num
open Go Go.Kn
theorem Zx.good {z:Z} {v:Int} (h:Zx z v) (g:z.o≠none):z=Z.of v∧cZ v:=by
  rcases h with h | h
  · exact absurd h g
  exact h
theorem bO_ {a b:Rt} {p q:Rat} (ha:a.At p) (hb:b.At q) (hg:aP (dZ a b)=true):(dZ a b).At (p+q):=by
  unfold dZ at hg ⊢;rw [nZ ha,nZ hb] at hg ⊢;simp only [Bool.not_true,Bool.or_false,cond_false] at hg ⊢;have ia:=At.is ha;have ib:=At.is hb;rw [ia.en,ia.ed,ib.en,ib.ed] at hg ⊢;simp only [bZ] at hg ⊢;have hdp:=@oS p;have hdq:=@oS q
  have hg0:0<((Int.gcd (p.den:Int) (q.den:Int):Nat):Int):=by
    have:=Int.gcd_pos_of_ne_zero_right (p.den:Int) (show (q.den:Int)≠0 by omega);omega
  have hbg:=NV (u:=(p.den:Int)) ib.hd oo_;have g1:((Int.gcd (p.den:Int) (q.den:Int):Nat):Int) ∣ (p.den:Int):=Int.gcd_dvd_left ..;have g2:((Int.gcd (p.den:Int) (q.den:Int):Nat):Int) ∣ (q.den:Int):=Int.gcd_dvd_right ..;rw [AS ia.hd ib.hd,xB ib.hd hbg hg0,xB ia.hd hbg hg0] at hg ⊢;generalize ((Int.gcd (p.den:Int) (q.den:Int):Nat):Int)=G at *;obtain ⟨x,hx⟩:=g1;obtain ⟨y,hy⟩:=g2
  have q1:(p.den:Int) / G=x:=by rw [hx];exact Int.mul_ediv_cancel_left _ oo_
  have q2:(q.den:Int) / G=y:=by rw [hy];exact Int.mul_ediv_cancel_left _ oo_
  rw [q1,q2] at hg ⊢
  have x0:0<x:=by rw [hx] at hdp;exact Int.pos_of_mul_pos_right hdp hg0
  have n1:Zx (Z.add (Z.mul (Z.of p.num) (Z.of y)) (Z.mul (Z.of q.num) (Z.of x))) (p.num * y+q.num * x):=Zx.add (Zx.mul (.of _) (.of _)) (Zx.mul (.of _) (.of _));have n2:Zx (Z.mul (Z.of x) (Z.of (q.den:Int))) (x * q.den):=Zx.mul (.of _) (.of _)
  have bd:aP iJ=false:=by decide +kernel
  obtain ⟨e1,b1⟩:=n1.good fun h=>by
    rw [Z.eq_bad h,CY,bd] at hg;cases hg
  obtain ⟨e2,b2⟩:=n2.good fun h=>by
    rw [Z.eq_bad h,CZ,bd] at hg;cases hg
  rw [e1,e2];refine zD b1 b2 (Int.mul_pos x0 hdq) ?_
  have key:p+q=Rat.divInt (p.num * y+q.num * x) (x * q.den):=by
    conv=>lhs;rw [← Rat.num_divInt_den p,← Rat.num_divInt_den q,Rat.divInt_add_divInt _ _ oo_ oo_]
    refine (Rat.divInt_eq_divInt_iff (Int.mul_ne_zero oo_ oo_) (Int.mul_ne_zero oo_ oo_)).2 ?_;rw [hx,hy];grind
  have h3:=Rat.num_divInt_den (p+q);rw [key] at h3 ⊢;have h4:=(Rat.divInt_eq_divInt_iff (by have:=@oS (Rat.divInt (p.num * y+q.num * x) (x * q.den));omega) (Int.mul_ne_zero oo_ oo_)).1 h3;exact h4
theorem ex_ {a b:Rt} {p q:Rat} (ha:a.At p) (hb:b.At q) (hg:aP (cW a b)=true):(cW a b).At (p - q):=by
  unfold cW at hg ⊢;rw [Rat.sub_eq_add_neg];exact bO_ ha (VW hb) hg
theorem U0 {p:List I} {c:Nat→Int} (h:Po p c):∃ g:Int,0<g∧∀ k,(c k).fdiv (cN p) * g=c k:=by
  by_cases h0:p=[]
  · refine ⟨1,by decide,fun k=>?_⟩
    rw [h.zero (k:=k) (by rw [h0];exact Nat.zero_le k),Int.zero_fdiv];rfl
  exact ⟨(cN p:Nat),by have:=h.cpos h0;omega,fun k=>by rw [Int.mul_comm];exact wE h k⟩
section
variable {p:List I} {c:Nat→Int} {a b:Rt} {qa qb qd:Rat}
theorem T6 {d:Rt} (h:Po p c) (h7:p.length≤7) (ha:a.At qa) (hd:d.At qd) (hg:(eU p a d).all gdI=true):∃ (g W:Int) (γ:Nat→Int),0<g∧0<W∧Po (eU p a d) γ∧(∀ k,p.length≤k→γ k=0)∧∀ y:Rat,(g:Rat) * vl (cR γ) y 26=(W:Rat) * vl (cR c) (qa+qd * y) p.length:=by
  have ia:=At.is ha;have ib:=At.is hd
  have hS:Px (fN p a d) (sb c (qa.num * qd.den) (qd.num * qa.den) (qa.den * qd.den) p.length p.length):=by
    unfold fN;rw [h.nb,XN,mM,mM,nZ ha,nZ hd];exact TM h h7 ia ib (p.length+1) 0 _ [] (Nat.zero_le _) oo_ oo_ (Nat.zero_le _) CL.px
  have hP:=hS.2 (uO hS.1 hg).1;obtain ⟨g,gp,hk⟩:=U0 hP;have hWp:(0:Int)<qa.den * qd.den:=Int.mul_pos oS oS;refine ⟨g,_,_,gp,Int.pow_pos (m:=p.length - 1) hWp,tY hP,fun k hk=>by rw [d5_ _ _ _ _ _ _ k hk,Int.zero_fdiv],fun y=>?_⟩
  have hz:(((qa.num * qd.den:Int)):Rat)+((qd.num * qa.den:Int):Rat) * y=((qa.den * qd.den:Int):Rat) * (qa+qd * y):=by
    have k1:=@KG qa;have k2:=@KG qd;rw [Rat.intCast_mul,Rat.intCast_mul,Rat.intCast_mul,← k1,← k2];grind
  have e1:=d4_ (c:=c) (L:=p.length) hz hWp (fun t _ k hk=>d5_ c _ _ _ _ t k hk) oo_;rw [Rat.intCast_pow,← e1,← ej_]
  congr 1
  funext k
  show (g:Rat) * (((sb c _ _ _ _ _ k).fdiv _:Int):Rat)=((sb c _ _ _ _ _ k:Int):Rat)
  rw [← Rat.intCast_mul,Int.mul_comm,hk]
theorem WG {n:Nat} {γ:Nat→Int} (hp:p.length=n+1) (hn:n≤6) (hC:Po (eU p a (gS b a)) γ) (out:List I) {i:Nat} (hi:i≤n):∀ (f j:Nat) (z:Z),i+1 - j<f→j≤i+1→Zx z (iF (fun k=>wt n i k * γ k) j) →
    ∃ z',(iS p a b out i f j (E z)).2=E z'∧Zx z' (bs γ n i)
  | 0,j,z,h,_,_=>absurd h (Nat.not_lt_zero _)
  | f+1,j,z,h,hj,hz=>by
    unfold iS;rw [show ((p.length:Nat):Int) - 1=(n:Int) by omega,D6 hn hi,List.length_map,List.length_range];rcases Nat.lt_or_eq_of_le hj with h1 | h1
    · rw [decide_eq_true oo_,cond_true]
      have e1:((List.range (i+1)).map fun k=>E (Z.of (wt n i k))).getD j I0=E (Z.of (wt n i j)):=by rw [G7,if_pos h1]
      simp only;rw [e1,yI,hC.get];simp only [bZ];exact WG hp hn hC out hi f (j+1) _ oo_ h1 (Zx.add hz (Zx.mul (.of _) (.of _)))
    subst h1;rw [decide_eq_false oo_,cond_false];exact ⟨z,rfl,hz⟩
theorem WF {n:Nat} {γ:Nat→Int} (hp:p.length=n+1) (hn:n≤6) (hC:Po (eU p a (gS b a)) γ):∀ (f i:Nat),n+1 - i<f→i≤n+1→(∀ j,j<i→cZ (bs γ n j)) →
    (∃ r,gX p a b f ((List.range i).map fun i=>E (Z.of (bs γ n i))) i = .inr r∧r.2=false) ∨
    (gX p a b f ((List.range i).map fun i=>E (Z.of (bs γ n i))) i = .inl ((List.range (n+1)).map fun i=>E (Z.of (bs γ n i)),n+1)∧∀ j,j<n+1→cZ (bs γ n j))
  | 0,i,h,_,_=>absurd h (Nat.not_lt_zero _)
  | f+1,i,h,hi,hb=>by
    unfold gX;rcases Nat.lt_or_eq_of_le hi with h1 | h1
    · rw [decide_eq_true oo_,cond_true,show ((p.length:Nat):Int) - 1=(n:Int) by omega,D6 hn oo_,List.length_map,List.length_range]
      obtain ⟨z,e1,hz⟩:=WG hp hn hC ((List.range i).map fun i=>E (Z.of (bs γ n i))) (show i≤n by omega) (i+1+1) 0 (Z.of 0) oo_ (Nat.zero_le _) (.of 0);rw [show E (Z.of 0)=I0 from I0_E.symm] at e1;simp only [ap];rw [e1]
      by_cases hn0:z.o=none
      · rw [Z.eq_bad hn0]
        exact .inl ⟨_,rfl,rfl⟩
      obtain ⟨ez,bz⟩:=hz.good hn0;rw [ez,QK bz,cond_false]
      have e2:((List.range i).map fun i=>E (Z.of (bs γ n i))) ++ [E (Z.of (bs γ n i))]=(List.range (i+1)).map fun i=>E (Z.of (bs γ n i)):=by rw [List.range_succ,List.map_append];rfl
      rw [e2];refine WF hp hn hC f (i+1) oo_ h1 fun j hj=>?_;rcases Nat.lt_or_eq_of_le (Nat.le_of_lt_succ hj) with k | k
      · exact hb j k
      rw [k];exact bz
    subst h1;rw [decide_eq_false oo_,cond_false];exact .inr ⟨rfl,hb⟩
theorem cC_ {n:Nat} (h:Po p c) (hp:p.length=n+1) (hn:n≤6) (ha:a.At qa) (hb:b.At qb) (hg:(bJ p a b).2=true) :
    ∃ (γ:Nat→Int) (g W G:Int) (l:Nat→Int),0<g∧0<W∧0<G∧(∀ k,n+1≤k→γ k=0)∧(∀ y:Rat,(g:Rat) * vl (cR γ) y 26=(W:Rat) * vl (cR c) (qa+(qb - qa) * y) p.length)∧(∀ i,i≤n→G * l i=bs γ n i)∧(∀ i,i≤n→cZ (l i))∧(bJ p a b).1=(List.range (n+1)).map (fun i=>E (Z.of (l i))):=by
  have hf:jF [a,b]=true:=by rw [XN,mM,mM,nZ ha,nZ hb];rfl
  have hc1:(eU p a (gS b a)).length≤1000:=k25 (wA _ _ _)
  cases hc:(eU p a (gS b a)).all gdI
  · unfold bJ at hg
    rw [h.nb,hf,mN hc1,hc] at hg
    cases hg
  have hsg:aP (cW b a)=true:=by
    cases hs:aP (cW b a)
    · unfold eU fN at hc
      rw [h.nb,XN,mM,mM,nZ ha,V2,hs] at hc;simp only [Bool.and_false,Bool.not_false,Bool.or_true,cond_true] at hc;rw [show (aC F_poly_bad).all gdI=false by decide +kernel] at hc
      cases hc
    rfl
  have hd:=ex_ hb ha hsg;rw [← V2] at hd;obtain ⟨g,W,γ,gp,Wp,hC,hz,hv⟩:=T6 h oo_ ha hd hc;rcases WF hp hn hC (p.length+1) 0 oo_ (Nat.zero_le _) (fun j hj=>absurd hj (Nat.not_lt_zero _)) with ⟨r,e0,er⟩ | ⟨e0,hB⟩
  · rw [show ((List.range 0).map fun i=>E (Z.of (bs γ n i)))=([]:List I) from rfl] at e0
    unfold bJ at hg;rw [h.nb,hf,hC.nb,e0] at hg;simp only [sm,Bool.not_true,Bool.or_false,cond_false] at hg;rw [er] at hg;cases hg
  rw [show ((List.range 0).map fun i=>E (Z.of (bs γ n i)))=([]:List I) from rfl] at e0
  have hall:((List.range (n+1)).map fun i=>E (Z.of (bs γ n i))).all gdI=true:=by
    rw [List.all_eq_true];intro x hx;obtain ⟨i,hi,rfl⟩:=List.mem_map.1 hx;exact NZ (hB i (List.mem_range.1 hi))
  obtain ⟨c1,c2⟩:=DQ hall
  have cd:∀ i,i<n+1→((cN ((List.range (n+1)).map fun i=>E (Z.of (bs γ n i))):Nat):Int) ∣ bs γ n i:=fun i hi=>by
    have:=FE (l:=(List.range (n+1)).map fun i=>E (Z.of (bs γ n i))) (x:=E (Z.of (bs γ n i))) (List.mem_map.2 ⟨i,List.mem_range.2 hi,rfl⟩)
    rwa [ad_ (hB i hi)] at this
  have hnz:∀ k,n+1≤k→γ k=0:=fun k hk=>hz k oo_;unfold bJ;rw [h.nb,hf,hC.nb,e0];simp only [sm,Bool.not_true,Bool.or_false,cond_false];rw [c1,bZ,kN c2];generalize hout:((List.range (n+1)).map fun i=>E (Z.of (bs γ n i)))=out at *
  have hlen:out.length=n+1:=by rw [← hout,List.length_map,List.length_range]
  rcases Nat.eq_zero_or_pos (cN out) with h0 | h0
  · rw [h0]
    refine ⟨γ,g,W,1,bs γ n,gp,Wp,by decide,hnz,hv,fun i _=>Int.one_mul _,fun i hi=>hB i oo_,?_⟩;rw [show (((((0:Nat):Int)).sign) != 0)=false from rfl,cond_false,hout]
  rw [Int.sign_eq_one_of_pos oo_,show (((1:Int)) != 0)=true from rfl,cond_true];have hl:∀ k,k<n+1→((cN out:Nat):Int) * (bs γ n k / (cN out:Nat))=bs γ n k:=fun k hk=>Int.mul_ediv_cancel' (cd k hk);refine ⟨γ,g,W,(cN out:Nat),fun i=>bs γ n i / (cN out:Nat),gp,Wp,by omega,hnz,hv,fun i hi=>hl i oo_,fun i hi=>?_,?_⟩
  · have h1:=hl i oo_
    refine Nat.lt_of_le_of_lt ?_ (hB i oo_);rw [← h1,Int.natAbs_mul];rw [Int.natAbs_natCast];exact Nat.le_mul_of_pos_left _ h0
  have e2:=bZ_ (p:=p) (a:=a) (b:=b) out (n+1) (v:=bs γ n) (l:=fun i=>bs γ n i / (cN out:Nat)) oo_ c2 hB hl hlen c1 (out.length+1) 0 oo_ (Nat.zero_le _);rw [show ((List.range (n+1)).map fun i=>E (Z.of (if i<0 then bs γ n i / (cN out:Nat) else bs γ n i)))=out from by rw [← hout];exact List.map_congr_left fun i _=>by rw [if_neg (Nat.not_lt_zero _)]] at e2
  show (gY p a b out (n+1) (out.length+1) 0 out).2=_
  rw [e2]
end
theorem TN {f:Nat→Rat}:∀ {n:Nat},(∀ i,i<n→0≤f i)→0≤iF f n
  | 0,_=>Rat.le_refl
  | n+1,h=>by
    have h1:=TN (n:=n) fun i hi=>h i oo_;have h2:=h n oo_
    show 0≤iF f n+f n
    grind
theorem LW {x:Rat} (h:0≤x):∀ n:Nat,0≤x ^ n
  | 0=>by rw [Rat.pow_zero];decide +kernel
  | n+1=>by rw [Rat.pow_succ];exact Rat.mul_nonneg (LW h n) h
theorem NP:∀ n,0<fac n
  | 0=>by decide
  | n+1=>Int.mul_pos (NP n) oo_
theorem w9 {a b:Rat} (ha:0<a) (h:0≤a * b):0≤b:=by
  refine Rat.not_lt.1 fun hb=>?_;have:=Rat.mul_pos ha (show 0 < -b by grind)
  grind
open Go Go.Kn
def aU (c:(List (List I))):Nat→Rt→Rt→Nat→Bool→(List Iv)→Bool×List Iv
  | 0,_,_,_,ok,out=>(ok,out)
  | n+1,a,b,k,ok,out=>bif (!(ok&&((aH c a b).2&&(decide (((k:Nat):Int)<600)&&(!a.n.1.bad&&(!b.n.1.bad)))))||(((aH c a b).1).1==0)) then (((ok&&((aH c a b).2&&(decide (((k:Nat):Int)<600)&&(!a.n.1.bad&&(!b.n.1.bad))))),out)) else (bif (((aH c a b).1).1==1) then (((ok&&((aH c a b).2&&(decide (((k:Nat):Int)<600)&&(!a.n.1.bad&&(!b.n.1.bad))))),(out ++ [(⟨a,b⟩:Iv)]))) else ((((aU c n (aE a b) b (k+1) ((aU c n a (aE a b) (k+1) (ok&&((aH c a b).2&&(decide (((k:Nat):Int)<600)&&(!a.n.1.bad&&(!b.n.1.bad))))) out).1) ((aU c n a (aE a b) (k+1) (ok&&((aH c a b).2&&(decide (((k:Nat):Int)<600)&&(!a.n.1.bad&&(!b.n.1.bad))))) out).2)).1),(aU c n (aE a b) b (k+1) ((aU c n a (aE a b) (k+1) (ok&&((aH c a b).2&&(decide (((k:Nat):Int)<600)&&(!a.n.1.bad&&(!b.n.1.bad))))) out).1) ((aU c n a (aE a b) (k+1) (ok&&((aH c a b).2&&(decide (((k:Nat):Int)<600)&&(!a.n.1.bad&&(!b.n.1.bad))))) out).2)).2)))
def aK (c:(List (List I))) (p:(List I)):Nat→Rt→Rt→W→W→Nat→Bool→Bool→Bool×Bool
  | 0,_,_,_,_,_,is,ok=>(is,ok)
  | n+1,a,b,left,right,k,is,ok=>bif (!is||(!ok)) then ((is,ok)) else (bif ((aH c a b).2&&((aG p (aE a b)).2&&decide (((k:Nat):Int)<600))) then (bif (right.1==0) then (bif decide (((aG p (aE a b)).1).1<0) then ((false,((aH c a b).2&&((aG p (aE a b)).2&&decide (((k:Nat):Int)<600))))) else (bif (bif ((W.sub ((aH c a b).1) (wl 1)).1==0) then ((W.sub ((aH c a b).1) (wl 1)).1==0) else (((W.sub ((aH c a b).1) (wl 1)).1==1)&&(decide (0<left.1)&&decide (0<right.1)))) then ((is,((aH c a b).2&&((aG p (aE a b)).2&&decide (((k:Nat):Int)<600))))) else ((((aK c p n (aE a b) b ((aG p (aE a b)).1) right (k+1) ((aK c p n a (aE a b) left ((aG p (aE a b)).1) (k+1) is ((aH c a b).2&&((aG p (aE a b)).2&&decide (((k:Nat):Int)<600)))).1) ((aK c p n a (aE a b) left ((aG p (aE a b)).1) (k+1) is ((aH c a b).2&&((aG p (aE a b)).2&&decide (((k:Nat):Int)<600)))).2)).1),((aK c p n (aE a b) b ((aG p (aE a b)).1) right (k+1) ((aK c p n a (aE a b) left ((aG p (aE a b)).1) (k+1) is ((aH c a b).2&&((aG p (aE a b)).2&&decide (((k:Nat):Int)<600)))).1) ((aK c p n a (aE a b) left ((aG p (aE a b)).1) (k+1) is ((aH c a b).2&&((aG p (aE a b)).2&&decide (((k:Nat):Int)<600)))).2)).2))))) else (bif decide (((aG p (aE a b)).1).1<0) then ((false,((aH c a b).2&&((aG p (aE a b)).2&&decide (((k:Nat):Int)<600))))) else (bif (bif (((aH c a b).1).1==0) then (((aH c a b).1).1==0) else ((((aH c a b).1).1==1)&&(decide (0<left.1)&&decide (0<right.1)))) then ((is,((aH c a b).2&&((aG p (aE a b)).2&&decide (((k:Nat):Int)<600))))) else ((((aK c p n (aE a b) b ((aG p (aE a b)).1) right (k+1) ((aK c p n a (aE a b) left ((aG p (aE a b)).1) (k+1) is ((aH c a b).2&&((aG p (aE a b)).2&&decide (((k:Nat):Int)<600)))).1) ((aK c p n a (aE a b) left ((aG p (aE a b)).1) (k+1) is ((aH c a b).2&&((aG p (aE a b)).2&&decide (((k:Nat):Int)<600)))).2)).1),((aK c p n (aE a b) b ((aG p (aE a b)).1) right (k+1) ((aK c p n a (aE a b) left ((aG p (aE a b)).1) (k+1) is ((aH c a b).2&&((aG p (aE a b)).2&&decide (((k:Nat):Int)<600)))).1) ((aK c p n a (aE a b) left ((aG p (aE a b)).1) (k+1) is ((aH c a b).2&&((aG p (aE a b)).2&&decide (((k:Nat):Int)<600)))).2)).2)))))) else ((is,((aH c a b).2&&((aG p (aE a b)).2&&decide (((k:Nat):Int)<600))))))
open QP (V)
theorem et_ {a b:Rt} {p q:Rat} (ha:a.At p) (hb:b.At q) (hg:aP (d5 a b)=true):(d5 a b).At (p * q):=by
  unfold d5 at hg ⊢;rw [nZ ha,nZ hb] at hg ⊢;obtain ⟨x,y,r,s,e1,e2,b1,b2,b3,b4,h1,h2,hc,he⟩:=E4 ha hb;simp only [Bool.not_true,Bool.or_false,cond_false,e1,e2,bZ] at hg ⊢;have hps:0<y * s:=Int.mul_pos h1 h2
  have hpq:p * q=Rat.divInt (x * r) (y * s):=by
    rw [← Rat.num_divInt_den p,← Rat.num_divInt_den q,Rat.divInt_mul_divInt];exact (Rat.divInt_eq_divInt_iff (by have:=@oS p;have:=@oS q;exact Int.mul_ne_zero oo_ oo_) oo_).2 (by rw [he])
  have hnum:(p * q).num=x * r:=by
    rw [hpq,Rat.num_divInt,Int.gcd_comm,hc,Int.sign_eq_one_of_pos hps];simp
  have hden:((p * q).den:Int)=y * s:=by
    rw [hpq,Rat.den_divInt,if_neg oo_,Int.gcd_comm,hc,Nat.div_one];omega
  have bd:aP iJ=false:=by decide +kernel
  have n1:Zx (Z.mul (Z.of x) (Z.of r)) (x * r):=Zx.mul (.of _) (.of _);have n2:Zx (Z.mul (Z.of y) (Z.of s)) (y * s):=Zx.mul (.of _) (.of _)
  obtain ⟨e1,b1⟩:=n1.good fun h=>by
    rw [Z.eq_bad h,CY,bd] at hg;cases hg
  obtain ⟨e2,b2⟩:=n2.good fun h=>by
    rw [Z.eq_bad h,CZ,bd] at hg;cases hg
  rw [e1,e2];exact zD b1 b2 hps (by rw [hnum,hden])
theorem SE:(d6 (wl 1) (wl 2)).At (1 / 2):=zD (n:=1) (d:=2) B1 dd_ dd_ (by decide +kernel)
theorem bS_ {a b:Rt} {p q:Rat} (ha:a.At p) (hb:b.At q) (hg:aP (kQ a b)=true):(kQ a b).At ((p+q) * (1 / 2)):=by
  unfold kQ at hg ⊢
  have hg':aP (dZ a b)=true:=by
    cases h:aP (dZ a b)
    · exfalso
      simp only at hg;unfold d5 at hg;rw [h] at hg;simp only [Bool.not_false,Bool.true_or,cond_true] at hg;exact absurd hg (by decide +kernel)
    rfl
  exact et_ (bO_ ha hb hg') SE hg
theorem W2 {p:List I} {L:List (List I)} {a b:Rt} (h:St p L) (hl:L.length≤100) (hs:(aH L a b).2=true):∃ qa qb,a.At qa∧b.At qb:=by
  obtain ⟨qa,qb,hc⟩:=EL h hl hs;exact ⟨qa,qb,hc.a,hc.b⟩
theorem QG {p q:Rat} (h:p≤q):p≤(p+q) * (1 / 2)∧(p+q) * (1 / 2)≤q:=by constructor <;> grind
theorem KY {p:List I} {L:List (List I)} (h:St p L) (hl:L.length≤100) {n:Nat} {a b:Rt} (hb:¬ ∃ qa qb,a.At qa∧b.At qb) (k:Nat) (ok:Bool) (out:List Iv):(aU L n a b k ok out).2=out:=by
  cases n with
  | zero=>rfl
  | succ n =>
    unfold aU
    have hs:(aH L a b).2=false:=by
      cases hs:(aH L a b).2
      · rfl
      exact absurd (W2 h hl hs) hb
    rw [hs];simp only [Bool.false_and,Bool.and_false,Bool.not_false,Bool.true_or,cond_true]
theorem KZ {p:List I} {L:List (List I)} (h:St p L) (hl:L.length≤100):∀ (n:Nat) (a b:Rt) (k:Nat) (ok:Bool) (out:List Iv) (qa qb:Rat),a.At qa→b.At qb →
    (aU L n a b k ok out).2.length≤out.length+(V (L.map qp) qa - V (L.map qp) qb)
  | 0,a,b,k,ok,out,qa,qb,ha,hb=>Nat.le_add_right _ _
  | n+1,a,b,k,ok,out,qa,qb,ha,hb=>by
    unfold aU
    cases ho:(ok&&((aH L a b).2&&(decide (((k:Nat):Int)<600)&&(!a.n.1.bad&&(!b.n.1.bad)))))
    · simp only [Bool.not_false,Bool.true_or,cond_true];exact Nat.le_add_right _ _
    have hs:(aH L a b).2=true:=by
      simp only [Bool.and_eq_true] at ho;exact ho.2.1
    obtain ⟨qa',qb',hc⟩:=EL h hl hs;obtain rfl:=yH ha hc.a;obtain rfl:=yH hb hc.b;have hn:=hc.n;generalize (aH L a b).1.1=m at *;simp only [Bool.not_true,Bool.false_or]
    cases h0:(m==0)
    · rw [cond_false]
      cases h1:(m==1)
      · rw [cond_false]
        simp only
        by_cases hg:aP (kQ a b)=true
        · have hm:=bS_ ha hb hg
          rw [← JR] at hm;have i1:=KZ h hl n a (aE a b) (k+1) true out qa _ ha hm;have i2:=KZ h hl n (aE a b) b (k+1) (aU L n a (aE a b) (k+1) true out).1 (aU L n a (aE a b) (k+1) true out).2 _ qb hm hb;rcases Rat.le_total (a:=qa) (b:=qb) with hab | hab
          · have v1:=h.anti (QG hab).1
            have v2:=h.anti (QG hab).2;omega
          have v1:=h.anti (a:=(qa+qb) * (1 / 2)) (b:=qa) (by grind);have v2:=h.anti (a:=qb) (b:=(qa+qb) * (1 / 2)) (by grind);omega
        have hno:¬ ∃ q,(aE a b).At q:=fun ⟨q,hq⟩=>hg (by rw [← JR];exact nZ hq);rw [KY h hl (fun ⟨u,v,hu,hv⟩=>hno ⟨u,hu⟩) (k+1) _ _,KY h hl (fun ⟨u,v,hu,hv⟩=>hno ⟨v,hv⟩) (k+1) _ _];exact Nat.le_add_right _ _
      rw [cond_true]
      have:m=1:=by simpa using h1
      simp only [List.length_append,List.length_singleton];omega
    rw [cond_true];exact Nat.le_add_right _ _
theorem WM (x:Rt):(cH [[]] x).1=wl 0:=by
  unfold cH d8
  cases hs:(aG [] x).2
  · rfl
  obtain ⟨q,hq⟩:=CM hs;have:=wU CL hq hs;rw [GM,QP.ev_C,QP.sg_zero] at this;rw [this];rfl
theorem aM_ (a b:Rt):(aH [[]] a b).1.1=0:=by
  unfold aH;rw [WM,WM];rfl
theorem X4 (n:Nat) (a b:Rt) (k:Nat) (ok:Bool) (out:List Iv):(aU [[]] n a b k ok out).2=out:=by
  cases n with
  | zero=>rfl
  | succ n =>
    unfold aU;rw [aM_,show ((0:Int)==0)=true from rfl,Bool.or_true,cond_true]
theorem HY (p:List I) (a b:Rt) (hp:Rgt p∧p.length≤100) (hok:(aI p).2=true):(aU ((aI p).1) 601 a b 0 ((aI p).2) ([]:List Iv)).2.length≤5000:=by
  have hl:=wK p;rcases CF hp.1 hok with rfl | h
  · rw [show aI []=([[]],true) by kernel_rfl]
    rw [X4];exact Nat.zero_le _
  by_cases hab:∃ qa qb,a.At qa∧b.At qb
  · obtain ⟨qa,qb,ha,hb⟩:=hab
    have:=KZ h hl 601 a b 0 (aI p).2 [] qa qb ha hb;have h2:=V3 ((aI p).1.map qp) qa;rw [List.length_map] at h2;simp only [List.length_nil] at this;omega
  rw [KY h hl hab];exact Nat.zero_le _
def eB (l:(List W)):(List I) :=
  (iT l)
def jH (a:W) (b:W):Iv :=
  (⟨(fU a),(fU b)⟩:Iv)
theorem oD (l:List I):Rgt (dC l):=by rw [B6];exact BV _
theorem tM (l:List W):Rgt (iT l):=by unfold iT;exact oD _
theorem lC (l:List W):Rgt (eB l):=tM l
theorem lB (l:List W):(eB l).length≤25:=tL l
def lH (p:(List I)) (x:Iv) (k:Int):Nat→Nat→Iv→(Nat×Iv) ⊕ (Iv×W)
  | 0,i,mb1=>.inl (i,mb1)
  | k0+1,i,mb1=>bif decide (((i:Nat):Int)<k) then (let r21:Iv:=(gP ((cE p x).1) mb1).1
  bif (gP ((cE p x).1) mb1).2 then ((lH p x k k0 (i+1) r21)) else (.inr (((⟨(⟨I0,I0⟩:Rt),(⟨I0,I0⟩:Rt)⟩:Iv),(wl 30))))) else (.inl (i,mb1))
def iK (p:(List I)) (x:Iv) (k:Int):Iv×W :=
  bif (decide (k<0)||decide (64<k)) then (((⟨(⟨I0,I0⟩:Rt),(⟨I0,I0⟩:Rt)⟩:Iv),(wl 1))) else (bif (((cE p x).2).1 != 0) then (((⟨(⟨I0,I0⟩:Rt),(⟨I0,I0⟩:Rt)⟩:Iv),(cE p x).2)) else (sm (fun (s:Nat×Iv)=>let i:Nat:=s.1
  let mb1:Iv:=s.2
  (mb1,(wl 0))) (fun r=>r) (lH p x k ((k.toNat+1)) 0 x)))
def mG (q:(List I)) (p:(List I)) (x:Iv):Nat→Nat→Iv→(Nat×Iv) ⊕ (W×W)
  | 0,i,mb1=>.inl (i,mb1)
  | k0+1,i,mb1=>bif decide (((i:Nat):Int)<600) then (bif (aH ((aI q).1) mb1.lo mb1.hi).2 then (bif (((aH ((aI q).1) mb1.lo mb1.hi).1).1==0) then (bif (aG q mb1.hi).2 then (.inr (((aG q mb1.hi).1,(wl 0)))) else (.inl (i,mb1))) else (let r43:Iv:=(gP ((cE p x).1) mb1).1
  bif (gP ((cE p x).1) mb1).2 then ((mG q p x k0 (i+1) r43)) else (.inl (i,r43)))) else (.inl (i,mb1))) else (.inl (i,mb1))
def gO (q:(List I)) (p:(List I)) (x:Iv):W×W :=
  bif (aT q) then (((wl 0),(wl 1))) else (bif (((cE p x).2).1 != 0) then (((wl 0),(cE p x).2)) else (bif ((((q).length:Nat):Int)==0) then (((wl 0),(wl 0))) else (bif (!((aI (aN p q)).2)||(!(aI q).2)) then (((wl 0),(wl 30))) else (bif (aH ((aI (aN p q)).1) x.lo x.hi).2 then (bif decide (0<((aH ((aI (aN p q)).1) x.lo x.hi).1).1) then (((wl 0),(wl 0))) else (sm (fun (s:Nat×Iv)=>let i:Nat:=s.1
  let mb1:Iv:=s.2
  ((wl 0),(wl 30))) (fun r=>r) (mG q p x ((600+1)) 0 x))) else (((wl 0),(wl 30)))))))
def iX (p:(List I)) (a:Rt) (b:Rt):(List Iv)×W :=
  bif ((aT p)||(((((p).length:Nat):Int)==0)||(!(kJ a b)))) then ((([]:List Iv),(wl 1))) else (bif (aI p).2 then (bif (aU ((aI p).1) 601 a b 0 ((aI p).2) ([]:List Iv)).1 then (((aU ((aI p).1) 601 a b 0 ((aI p).2) ([]:List Iv)).2,(wl 0))) else ((([]:List Iv),(wl 30)))) else ((([]:List Iv),(wl 30))))
def fV (p:(List I)) (a:Rt) (b:Rt):List I→Bool→Bool
  | [],all=>all
  | x0 :: l0,all=>(fV p a b l0 (all&&decide (0≤(Z.signW x0.dec).1)))
def aD (p:(List I)) (a:Rt) (b:Rt):Bool×W :=
  bif ((aT p)||(!(kJ a b))) then ((false,(wl 1))) else (bif ((((p).length:Nat):Int)==0) then ((true,(wl 0))) else (bif (!((aG p a).2)||(!(aG p b).2)) then ((false,(wl 30))) else (bif (decide (((aG p a).1).1<0)||decide (((aG p b).1).1<0)) then ((false,(wl 0))) else (bif (decide (a.n=b.n)&&decide (a.d=b.d)) then ((true,(wl 0))) else (bif (bJ p a b).2 then (ap (fun (s:Bool)=>let all:Bool:=s
  bif all then ((true,(wl 0))) else (bif (aI p).2 then (bif (aK ((aI p).1) p 601 a b ((aG p a).1) ((aG p b).1) 0 true ((aI p).2)).2 then ((((aK ((aI p).1) p 601 a b ((aG p a).1) ((aG p b).1) 0 true ((aI p).2)).1),(wl 0))) else ((false,(wl 30)))) else ((false,(wl 30))))) (fV p a b (bJ p a b).1 true)) else (bif (aI p).2 then (bif (aK ((aI p).1) p 601 a b ((aG p a).1) ((aG p b).1) 0 true ((aI p).2)).2 then ((((aK ((aI p).1) p 601 a b ((aG p a).1) ((aG p b).1) 0 true ((aI p).2)).1),(wl 0))) else ((false,(wl 30)))) else ((false,(wl 30)))))))))
def i7 (p:(List I)) (a:Rt) (b:Rt) (k:Int):Nat→Nat→Iv→(Nat×Iv) ⊕ (Iv×Bool×W)
  | 0,i,mb14=>.inl (i,mb14)
  | k0+1,i,mb14=>bif decide (((i:Nat):Int)<k) then (bif ((aE mb14.lo mb14.hi).n).1.bad then (.inr (((⟨(⟨I0,I0⟩:Rt),(⟨I0,I0⟩:Rt)⟩:Iv),false,(wl 30)))) else (bif (((aD p mb14.lo (aE mb14.lo mb14.hi)).2).1 != 0) then (.inr (((⟨(⟨I0,I0⟩:Rt),(⟨I0,I0⟩:Rt)⟩:Iv),false,(aD p mb14.lo (aE mb14.lo mb14.hi)).2))) else (bif (aD p mb14.lo (aE mb14.lo mb14.hi)).1 then ((i7 p a b k k0 (i+1) (⟨(aE mb14.lo mb14.hi),mb14.hi⟩:Iv))) else ((i7 p a b k k0 (i+1) (⟨mb14.lo,(aE mb14.lo mb14.hi)⟩:Iv)))))) else (.inl (i,mb14))
def dD (p:(List I)) (a:Rt) (b:Rt) (k:Int):Iv×Bool×W :=
  bif (decide (k<0)||decide (64<k)) then (((⟨(⟨I0,I0⟩:Rt),(⟨I0,I0⟩:Rt)⟩:Iv),false,(wl 1))) else (bif ((((aD p a b).2).1 != 0)||(aD p a b).1) then (((⟨(⟨I0,I0⟩:Rt),(⟨I0,I0⟩:Rt)⟩:Iv),false,(aD p a b).2)) else (sm (fun (s:Nat×Iv)=>let i:Nat:=s.1
  let mb14:Iv:=s.2
  (mb14,true,(wl 0))) (fun r=>r) (i7 p a b k ((k.toNat+1)) 0 (⟨a,b⟩:Iv))))
def eZ :Bool :=
  let q0:(List I):=(eB [(wl (-2)),(wl 0),(wl 1)])
  let q1:(List I):=(eB [(wl 1),(wl (-2)),(wl 1)])
  let q2:Rt:=(fU (wl 0))
  let q3:Rt:=(fU (wl 1))
  let q4:Rt:=(fU (wl 2))
  let q5:Rt:=(fU (wl (-2)))
  let q6:W:=(dF q0 q5 q4).1
  let q7:W:=(dF q0 q5 q4).2
  let q8:W:=(dF q0 q2 q4).1
  let q9:W:=(dF q0 q2 q4).2
  let q10:W:=(dF q1 q2 q3).1
  let q11:W:=(dF q1 q2 q3).2
  let q12:W:=(dF q1 q3 q4).1
  let q13:W:=(dF q1 q3 q4).2
  let q14:(List Iv):=(iX q0 q5 q4).1
  let q15:W:=(iX q0 q5 q4).2
  let q16:Iv:=(jH (wl 0) (wl 2))
  let q17:Iv:=(iK q0 q16 2).1
  let q18:W:=(iK q0 q16 2).2
  let q19:(List I):=(eB [(wl (-1)),(wl 1)])
  let q20:W:=(gO q19 q0 q16).1
  let q21:W:=(gO q19 q0 q16).2
  let q22:(List I):=(eB [(wl (-4)),(wl 0),(wl 0),(wl 0),(wl 1)])
  let q23:W:=(gO q22 q0 q16).1
  let q24:W:=(gO q22 q0 q16).2
  let q25:Iv:=(jH (wl (-2)) (wl 0))
  let q26:Bool:=(i3 q14 [q25,q16])
  let q27:Rt:=(d6 (wl 3) (wl 2))
  let q28:Bool:=(aD q1 q2 q4).1
  let q29:W:=(aD q1 q2 q4).2
  let q30:(List I):=(eB [(wl 0),(wl (-1)),(wl 1)])
  let q31:Bool:=(aD q30 q2 q3).1
  let q32:W:=(aD q30 q2 q3).2
  let q33:Bool:=(aD q30 q3 q4).1
  let q34:W:=(aD q30 q3 q4).2
  let q35:(List I):=(eB [(wl 1),(wl (-2))])
  let q36:Iv:=(dD q35 q2 q3 2).1
  let q37:Bool:=(dD q35 q2 q3 2).2.1
  let q38:W:=(dD q35 q2 q3 2).2.2
  let q39:Rt:=(d6 (wl 1) (wl 2))
  let q40:Rt:=(d6 (wl 3) (wl 4))
  (((q6.1==2)&&((q8.1==1)&&((q10.1==1)&&((q12.1==0)&&((q7.1==0)&&((q9.1==0)&&((q11.1==0)&&(q13.1==0))))))))&&((q26&&((q15.1==0)&&((decide (q17.lo.n=q3.n)&&(decide (q17.lo.d=q3.d)&&(decide (q17.hi.n=q27.n)&&decide (q17.hi.d=q27.d))))&&((q18.1==0)&&((q20.1==1)&&((q21.1==0)&&((q23.1==0)&&(q24.1==0))))))))&&(q28&&(!q31&&(q33&&((q29.1==0)&&((q32.1==0)&&((q34.1==0)&&(q37&&((q38.1==0)&&(decide (q36.lo.n=q39.n)&&(decide (q36.lo.d=q39.d)&&(decide (q36.hi.n=q40.n)&&decide (q36.hi.d=q40.d))))))))))))))
end Go.Num
