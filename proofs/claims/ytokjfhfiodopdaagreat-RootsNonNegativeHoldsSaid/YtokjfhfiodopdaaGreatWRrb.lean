/- Lemmas: what they ask stands in their statements. -/
import Derived.Test.YtokjfhfiodopdaaGreatWVi
set_option linter.unusedSimpArgs false
set_option linter.unusedVariables false
namespace Go.Num
def Cop (c:Nat→Int):Prop:=∀ u:Int,(∀ k,u ∣ c k)→u ∣ 1
theorem SJ {p:Nat→Prop} (h:∃ k,p k):∃ k,p k∧∀ j,j<k→¬ p j:=by
  obtain ⟨k,hk⟩:=h
  induction k using Nat.strongRecOn with
  | _ k ih =>
    by_cases hx:∃ j,j<k∧p j
    · obtain ⟨j,h1,h2⟩:=hx
      exact ih j h1 h2
    exact ⟨k,hk,fun j h1 h2=>hx ⟨j,h1,h2⟩⟩
def Pri (u:Int):Prop:=∀ x y:Int,u ∣ x * y→u ∣ x∨u ∣ y
theorem de_ {u:Nat} (h:2≤u):∃ p:Nat,2≤p∧p ∣ u∧Pri p:=by
  obtain ⟨p,⟨h1,h2⟩,h3⟩:=SJ (p:=fun k=>2≤k∧k ∣ u) ⟨u,h,Nat.dvd_refl u⟩;refine ⟨p,h1,h2,fun x y hd=>?_⟩
  have cd:∀ z:Int,((p:Nat):Int) ∣ z ↔ p ∣ z.natAbs:=fun z=>by rw [← Int.natAbs_dvd_natAbs,Int.natAbs_natCast]
  rw [cd] at hd ⊢;rw [cd];rw [Int.natAbs_mul] at hd;have g1:Nat.gcd p x.natAbs ∣ p:=Nat.gcd_dvd_left ..;have g2:Nat.gcd p x.natAbs ∣ x.natAbs:=Nat.gcd_dvd_right ..;have g3:0<Nat.gcd p x.natAbs:=Nat.gcd_pos_of_pos_left _ (by omega)
  by_cases hg:Nat.gcd p x.natAbs=1
  · exact .inr (Nat.Coprime.dvd_of_dvd_mul_left hg hd)
  left
  have g4:=Nat.le_of_dvd (by omega) g1;have:¬ Nat.gcd p x.natAbs<p:=fun hl=>h3 _ hl ⟨by omega,Nat.dvd_trans g1 h2⟩
  rwa [show Nat.gcd p x.natAbs=p by omega] at g2
theorem gh_:Pri 0:=fun x y h=>by
  rw [Int.zero_dvd] at h ⊢;rw [Int.zero_dvd];exact Int.mul_eq_zero.1 h
theorem MH {u:Int} {f:Nat→Int}:∀ {n:Nat},(∀ t,t<n→u ∣ f t)→u ∣ iF f n
  | 0,_=>Int.dvd_zero u
  | n+1,h=>Int.dvd_add (MH fun t ht=>h t (by omega)) (h n (by omega))
theorem TO {u:Int} {f:Nat→Int} {a:Nat}:∀ {n:Nat},(∀ t,t<n→t≠a→u ∣ f t)→a<n→u ∣ iF f n→u ∣ f a
  | 0,_,ha,_=>absurd ha (Nat.not_lt_zero _)
  | n+1,h,ha,hs=>by
    by_cases hn:n=a
    · subst hn
      exact (Int.dvd_add_right (MH fun t ht=>h t (by omega) (by omega))).1 hs
    exact TO (fun t ht=>h t (by omega)) (by omega) ((Int.dvd_add_left (h n (by omega) hn)).1 hs)
theorem S4 {u:Int} (hu:Pri u) {c d:Nat→Int} (hc:¬ ∀ k,u ∣ c k) (h:∀ k,u ∣ conv c d k):∀ k,u ∣ d k:=by
  apply Classical.byContradiction
  intro hd;obtain ⟨i,hi,hi'⟩:=SJ (p:=fun k=>¬ u ∣ c k) (Classical.byContradiction fun hx=>hc fun k=>Classical.byContradiction fun hk=>hx ⟨k,hk⟩);obtain ⟨j,hj,hj'⟩:=SJ (p:=fun k=>¬ u ∣ d k) (Classical.byContradiction fun hx=>hd fun k=>Classical.byContradiction fun hk=>hx ⟨k,hk⟩)
  have h1:u ∣ c i * d (i+j - i):=TO (f:=fun t=>c t * d (i+j - t)) (a:=i) (n:=i+j+1) (fun t ht hn=>by
    rcases Nat.lt_or_gt_of_ne hn with h2 | h2
    · exact Int.dvd_mul_of_dvd_left (Classical.not_not.1 (hi' t h2)) ..
    exact Int.dvd_mul_of_dvd_right (Classical.not_not.1 (hj' (i+j - t) (by omega))) ..) (by omega) (h (i+j))
  rw [show i+j - i=j by omega] at h1;rcases hu _ _ h1 with h2 | h2
  · exact hi h2
  exact hj h2
theorem RW {c:Nat→Int} (hc:Cop c):∀ (u:Nat) (d:Nat→Int),(∀ k,(u:Int) ∣ conv c d k)→∀ k,(u:Int) ∣ d k:=by
  intro u
  induction u using Nat.strongRecOn with
  | _ u ih =>
    intro d h
    by_cases h0:u=0
    · subst h0
      exact S4 gh_ (fun hx=>by have:=hc 0 hx;omega) h
    by_cases h1:u=1
    · subst h1
      exact fun k=>Int.one_dvd _
    obtain ⟨p,hp,⟨v,hv⟩,hpp⟩:=de_ (show 2≤u by omega);subst hv
    have v0:0<v:=by
      rcases Nat.eq_zero_or_pos v with h2 | h2
      · subst h2;omega
      exact h2
    have hlt:v<p * v:=by have:=Nat.mul_le_mul_right v hp;omega
    have hd:∀ k,(p:Int) ∣ d k:=S4 hpp (fun hx=>by
      have h2:=hc p hx;have:=Int.le_of_dvd (by decide) h2
      omega) fun k=>Int.dvd_trans (by rw [Int.natCast_mul];exact Int.dvd_mul_right ..) (h k)
    have hd':∀ k,d k=(p:Int) * (d k / p):=fun k=>(Int.mul_ediv_cancel' (hd k)).symm
    have e:conv c d=fun k=>(p:Int) * conv c (fun i=>d i / p) k:=by
      rw [← rP];congr 1;exact funext hd'
    intro k;rw [hd' k,Int.natCast_mul];refine Int.mul_dvd_mul_left _ (ih v hlt (fun i=>d i / p) (fun k=>?_) k);have h3:=h k;rw [e,Int.natCast_mul] at h3;exact Int.dvd_of_mul_dvd_mul_left (by omega) h3
theorem W0 {c d:Nat→Int} (hc:Cop c) {u:Int} (h:∀ k,u ∣ conv c d k):∀ k,u ∣ d k:=fun k=>by
  have:=RW hc u.natAbs d (fun k=>Int.natAbs_dvd.2 (h k)) k;exact Int.natAbs_dvd.1 this
theorem b5_ {c d:Nat→Int} (hc:Cop c) (hd:Cop d):Cop (conv c d):=fun u h=>hd u (W0 hc h)
theorem WZ (c:Nat→Int) (y:Int) (k:Nat):conv c (fun i=>if i=0 then y else 0) k=c k * y:=by
  unfold conv
  show iF _ k+c k * (if k - k=0 then y else 0)=_
  rw [kG fun i hi=>by show c i * (if k - i=0 then y else 0)=0;rw [if_neg (by omega),Int.mul_zero],Nat.sub_self,if_pos rfl,Int.zero_add]
def mX (c:Nat→Int):Prop:=∃ n,∀ i,n≤i→c i=0
def ZP (c:Nat→Int) (h:mX c):QP:=⟨cR c,by obtain ⟨n,h⟩:=h;exact ⟨n,fun i hi=>by unfold cR;rw [h i hi];rfl⟩⟩
theorem lQ (c:Nat→Int) (h:mX c) (k:Nat):(ZP c h).c k=(c k:Rat):=rfl
theorem zJ {c d:Nat→Int} (h:mX c) (g:mX d):mX (conv c d):=by
  obtain ⟨n,h⟩:=h;obtain ⟨m,g⟩:=g;exact ⟨n+m,fun i hi=>mE h g i (by omega)⟩
theorem NK {c:Nat→Int} (h:mX c) (t:Int):mX (fun k=>t * c k):=by
  obtain ⟨n,h⟩:=h;exact ⟨n,fun i hi=>by show t * c i=0;rw [h i hi,Int.mul_zero]⟩
theorem XE {c d:Nat→Int} (h:mX c) (g:mX d):mX (fun k=>c k+d k):=by
  obtain ⟨n,h⟩:=h;obtain ⟨m,g⟩:=g;exact ⟨max n m,fun i hi=>by show c i+d i=0;rw [h i (by omega),g i (by omega)];rfl⟩
theorem qN {c d:Nat→Int} (h:mX c) (g:mX d):ZP (conv c d) (zJ h g)=ZP c h * ZP d g:=QP.ex fun k=>congrFun (CR c d) k
theorem cS_ {c:Nat→Int} (h:mX c) (t:Int):ZP (fun k=>t * c k) (NK h t)=QP.C t * ZP c h:=QP.ex fun k=>by rw [QP.C_mul,lQ,lQ,Rat.intCast_mul]
theorem MZ {c d:Nat→Int} (h:mX c) (g:mX d) (e:∀ k,c k=d k):ZP c h=ZP d g:=QP.ex fun k=>by rw [lQ,lQ,e]
theorem eH_ {c:Nat→Int} {h:mX c} {n:Nat} (g:QP.Dg (ZP c h) n):c n≠0∧∀ i,n<i→c i=0 :=
  ⟨fun e=>g.1 (by rw [lQ,e];rfl),fun i hi=>Rat.intCast_eq_zero_iff.1 (g.2 i hi)⟩
theorem WW (H:Nat→Rat):∀ n:Nat,∃ m:Nat,0<m∧∀ k,k<n→∃ t:Int,(t:Rat)=(m:Rat) * H k
  | 0=>⟨1,Nat.one_pos,fun k hk=>absurd hk (Nat.not_lt_zero _)⟩
  | n+1=>by
    obtain ⟨m,hm,h⟩:=WW H n;refine ⟨m * (H n).den,Nat.mul_pos hm (H n).den_pos,fun k hk=>?_⟩;rw [Rat.natCast_mul];rcases Nat.lt_or_eq_of_le (Nat.le_of_lt_succ hk) with h1 | h1
    · obtain ⟨t,ht⟩:=h k h1
      exact ⟨t * (H n).den,by rw [Rat.intCast_mul,ht];show _ * (((H n).den:Nat):Rat)=_;grind⟩
    subst h1
    have e:(((H k).den:Nat):Rat) * H k=(((H k).num:Int):Rat):=by rw [Rat.mul_comm];exact zO _
    exact ⟨m * (H k).num,by rw [Rat.intCast_mul,Rat.mul_assoc,e];rfl⟩
theorem AR {c a:Nat→Int} (hc:Cop c) (ec:mX c) (ea:mX a) (h:QP.Dv (ZP c ec) (ZP a ea)):∃ S:Nat→Int,mX S∧∀ k,a k=conv c S k:=by
  obtain ⟨H,hH⟩:=h;obtain ⟨n,hn⟩:=H.fs;obtain ⟨m,m0,hm⟩:=WW H.c n
  have hT:∀ k,∃ t:Int,(t:Rat)=(m:Rat) * H.c k:=fun k=>by
    by_cases hk:k<n
    · exact hm k hk
    exact ⟨0,by rw [hn k (by omega),Rat.mul_zero];rfl⟩
  have hT':=Classical.axiomOfChoice hT;obtain ⟨T,hT'⟩:=hT'
  have e1:∀ k,(m:Int) * a k=conv c T k:=fun k=>by
    apply Rat.intCast_inj.1
    have e2:=congrArg (fun x:QP=>(m:Rat) * x.c k) hH;simp only [lQ,QP.mul_c] at e2;rw [Rat.intCast_mul,show ((conv c T k:Int):Rat)=cR (conv c T) k from rfl,CR,show cR T=fun i=>(m:Rat) * H.c i from funext hT',rP];exact e2
  have e3:=RW hc m T (fun k=>⟨a k,(e1 k).symm⟩);refine ⟨fun k=>T k / m,⟨n,fun k hk=>?_⟩,fun k=>?_⟩
  · have:T k=0:=Rat.intCast_inj.1 (by rw [hT',hn k hk,Rat.mul_zero];rfl)
    show T k / m=0
    rw [this,Int.zero_ediv]
  refine Int.eq_of_mul_eq_mul_left (show (m:Int)≠0 by omega) ?_;have e4:=congrFun (rP (m:Int) c (fun i=>T i / m)) k;rw [e1 k,← e4];exact congrFun (congrArg (conv c) (funext fun i=>(Int.mul_ediv_cancel' (e3 i)).symm)) k
open Go Go.Kn
section
variable {a o:Int} {d:Nat→Int} {n:Nat}
theorem VB (t:Int) (i:Nat) (r:Nat→Int):lA a o d n i (fun k=>t * r k)=fun k=>t * lA a o d n i r k:=funext fun k=>by unfold lA;grind
theorem OW (t:Int):∀ (m:Nat) (r:Nat→Int),r6 a o d n m (fun k=>t * r k)=fun k=>t * r6 a o d n m r k
  | 0,r=>rfl
  | m+1,r=>by
    show r6 a o d n m (lA a o d n m fun k=>t * r k)=_
    rw [VB,OW t m];rfl
theorem I6 (ho:o * d n=a) (hd:∀ i,n<i→d i=0) {m:Nat} {r:Nat→Int} (hr:∀ k,m+1+n≤k→r k=0):∀ k,m+n≤k→lA a o d n m r k=0:=fun k hk=>by
  unfold lA shf;rcases Nat.lt_or_eq_of_le hk with h | h
  · rw [hr k oo_,if_pos oo_,hd (k - m) oo_];grind
  rw [← h,if_pos oo_,show m+n - m=n by omega,← ho];grind
theorem DB (ho:o * d n=a) (hd:∀ i,n<i→d i=0):∀ (m:Nat) (r:Nat→Int),(∀ k,m+n≤k→r k=0)→∀ k,n≤k→r6 a o d n m r k=0
  | 0,r,h=>fun k hk=>h k oo_
  | m+1,r,h=>DB ho hd m _ (I6 ho hd h)
theorem VD (d:Nat→Int) (m:Nat) (t:Int):conv d (fun i=>t * (if i=m then 1 else 0))=fun k=>t * shf d m k:=by
  rw [rP];exact funext fun k=>by rw [wV]
theorem EY:∀ (m:Nat) (r:Nat→Int),∃ Q,mX Q∧∀ k,a ^ m * r k=conv d Q k+r6 a o d n m r k
  | 0,r=>⟨fun _=>0,⟨0,fun _ _=>rfl⟩,fun k=>by
    rw [show conv d (fun _=>0) k=0 from kG fun i _=>Int.mul_zero _,Int.pow_zero,Int.one_mul,Int.zero_add];rfl⟩
  | m+1,r=>by
    obtain ⟨Q,hQ,h⟩:=EY m (lA a o d n m r);refine ⟨fun i=>Q i+(a ^ m * o * r (m+n)) * (if i=m then 1 else 0),XE hQ ⟨m+1,fun i hi=>by show _ * (if i=m then 1 else 0)=0;rw [if_neg oo_,Int.mul_zero]⟩,fun k=>?_⟩;have h1:=h k;rw [BJ,VD]
    show _=_+r6 a o d n m (lA a o d n m r) k
    unfold lA at h1 ⊢;rw [Int.pow_succ]
    grind
theorem PZ (s:Nat→Int) (m:Nat) (ρ:Nat→Int) (k:Nat):conv s (lA a o d n m ρ) k=a * conv s ρ k + -(o * ρ (m+n)) * conv s (shf d m) k:=by
  have e:lA a o d n m ρ=fun i=>(a * ρ i)+(-(o * ρ (m+n)) * shf d m i):=funext fun i=>by unfold lA;grind
  rw [e,BJ,rP,rP]
theorem IZ {s:Nat→Int} {ds:Nat} {sa os:Int} (hs:∀ i,ds<i→s i=0) (hso:os * s ds=sa) (ho:o * d n=a) (hd:∀ i,n<i→d i=0) :
    ∀ (m:Nat) (ρ:Nat→Int),(∀ k,m+n≤k→ρ k=0)→r6 (sa * a) (os * o) (conv s d) (ds+n) m (conv s ρ)=fun k=>sa ^ m * conv s (r6 a o d n m ρ) k
  | 0,ρ,_=>funext fun k=>by rw [Int.pow_zero,Int.one_mul];rfl
  | m+1,ρ,h=>by
    have e:lA (sa * a) (os * o) (conv s d) (ds+n) m (conv s ρ)=fun k=>sa * conv s (lA a o d n m ρ) k:=funext fun k=>by
      rw [PZ];unfold lA;rw [show m+(ds+n)=ds+(m+n) by omega,oI hs (m:=m+n) (fun i hi=>h i oo_),← wV (conv s d),FH,show conv d (fun i=>if i=m then 1 else 0)=shf d m from funext fun i=>wV d m i,← hso]
      grind
    show r6 _ _ _ _ m (lA _ _ _ _ m _)=_
    rw [e,OW,IZ hs hso ho hd m _ (I6 ho hd h)]
    funext k
    show sa * (sa ^ m * conv s (r6 a o d n m (lA a o d n m ρ)) k)=sa ^ (m+1) * conv s (r6 a o d n m (lA a o d n m ρ)) k
    rw [Int.pow_succ];grind
theorem OZ {B R:Nat} (ha:a.natAbs≤B) (ho:o.natAbs≤1) (hd:∀ k,(d k).natAbs≤B) {r:Nat→Int} (hr:∀ k,(r k).natAbs≤R) (i k:Nat):(lA a o d n i r k).natAbs≤2 * B * R:=by
  unfold lA
  have h1:(a * r k).natAbs≤B * R:=by rw [Int.natAbs_mul];exact Nat.mul_le_mul ha (hr k)
  have h2:(o * r (i+n) * shf d i k).natAbs≤B * R:=by
    have h3:(shf d i k).natAbs≤B:=by
      unfold shf;split
      · exact hd _
      exact Nat.zero_le _
    rw [Int.natAbs_mul,Int.natAbs_mul,Nat.mul_comm B];refine Nat.mul_le_mul ?_ h3;have:=Nat.mul_le_mul ho (hr (i+n));omega
  have e:2 * B * R=B * R+B * R:=by rw [Nat.mul_assoc,Nat.two_mul]
  omega
theorem LS {B:Nat} (ha:a.natAbs≤B) (ho:o.natAbs≤1) (hd:∀ k,(d k).natAbs≤B):∀ (m R:Nat) (r:Nat→Int),(∀ k,(r k).natAbs≤R)→∀ k,(r6 a o d n m r k).natAbs≤(2 * B) ^ m * R
  | 0,R,r,h=>fun k=>by rw [Nat.pow_zero,Nat.one_mul];exact h k
  | m+1,R,r,h=>fun k=>by
    have:=LS ha ho hd m _ _ (OZ (n:=n) ha ho hd h m) k;rw [Nat.pow_succ,Nat.mul_assoc];exact this
theorem JU {B:Nat} (hB:1≤B) (ha:a.natAbs≤B) (ho:o.natAbs≤1) (hd:∀ k,(d k).natAbs≤B):∀ (m R:Nat) (r:Nat→Int),(∀ k,(r k).natAbs≤R)→(2 * B) ^ m * R<4294967296 ^ 16→RemB a o d n m r
  | 0,R,r,h,hb=>fun k=>Nat.lt_of_le_of_lt (h k) (by rwa [Nat.pow_zero,Nat.one_mul] at hb)
  | m+1,R,r,h,hb=>by
    rw [Nat.pow_succ,Nat.mul_assoc] at hb;have h1:1≤(2 * B) ^ m:=Nat.pow_pos oo_;have h2:=Nat.mul_le_mul_right (2 * B * R) h1;have h3:=Nat.mul_le_mul_right R hB
    have e:2 * B * R=B * R+B * R:=by rw [Nat.mul_assoc,Nat.two_mul]
    have ho':(o * r (m+n)).natAbs≤R:=by
      rw [Int.natAbs_mul];have:=Nat.mul_le_mul ho (h (m+n));omega
    refine ⟨fun k=>?_,?_,fun k=>?_,fun k=>?_,JU hB ha ho hd m _ _ (OZ ha ho hd h m) hb⟩
    · have:=h k
      unfold cZ;omega
    · unfold cZ;omega
    · have:(a * r k).natAbs≤B * R:=by rw [Int.natAbs_mul];exact Nat.mul_le_mul ha (h k)
      unfold cZ;omega
    have:(o * r (m+n) * d k).natAbs≤B * R:=by rw [Int.natAbs_mul,Nat.mul_comm B];exact Nat.mul_le_mul ho' (hd k)
    unfold cZ;omega
theorem EK {c e:Nat→Int} {N A B:Nat} (hc:∀ k,(c k).natAbs≤A) (he:∀ k,(e k).natAbs≤B) (hz:∀ i,N≤i→c i=0) (k:Nat):(conv c e k).natAbs≤N * (A * B):=by
  unfold conv
  have ht:∀ i,(c i * e (k - i)).natAbs≤A * B:=fun i=>by rw [Int.natAbs_mul];exact Nat.mul_le_mul (hc i) (he _)
  by_cases h:N≤k+1
  · rw [pT (n:=N) (fun i hi=>by rw [hz i hi,Int.zero_mul]) (k+1) h]
    exact MI ht N
  exact Nat.le_trans (MI ht _) (Nat.mul_le_mul_right _ oo_)
theorem NF {c e:Nat→Int} {N M A B:Nat} (hc:∀ k,(c k).natAbs≤A) (he:∀ k,(e k).natAbs≤B) (hz:∀ i,N<i→c i=0) (hy:∀ i,M<i→e i=0) (k:Nat):(conv c e k).natAbs≤(min N M+1) * (A * B):=by
  by_cases h:N≤M
  · rw [show min N M=N by omega]
    exact EK hc he (fun i hi=>hz i oo_) k
  rw [show min N M=M by omega,sK,Nat.mul_comm A];exact EK he hc (fun i hi=>hy i oo_) k
end
def okT (S ds G:Nat):Nat→Nat→Nat→Nat→Nat→Bool
  | 0,_,_,_,_=>false
  | f+1,n0,n1,M0,M1=>decide (M0≤G)&&decide (M1≤G)&&(List.range (n1+1)).all fun n =>
    decide (1≤(min ds n+1) * (S * (if n=0 then 1 else M1)))&&decide ((2 * ((min ds n+1) * (S * (if n=0 then 1 else M1)))) ^ (n0+1 - n) * ((min ds n0+1) * (S * M0))<4294967296 ^ 16)&&(decide (n=0)||okT S ds G f n (n - 1) (if n=0 then 1 else M1) (if n=1 then 1 else (2 * (if n=0 then 1 else M1)) ^ (n0+1 - n) * M0))
structure Pr (c:Nat→Int) (n M:Nat):Prop where
  z:∀ i,n<i→c i=0
  b:∀ k,(c k).natAbs≤M
  p:Cop c ∨ ∀ k,c k=0
theorem Pr.e {c:Nat→Int} {n M:Nat} (h:Pr c n M):mX c:=⟨n+1,fun i hi=>h.z i hi⟩
theorem Po.top {p:List I} {c:Nat→Int} (h:Po p c) (h0:p≠[]):∃ n,p.length=n+1∧c n≠0∧∀ i,n<i→c i=0:=by
  obtain ⟨n,hn⟩:∃ n,p.length=n+1:=⟨p.length - 1,by have:=List.length_pos_iff.2 h0;omega⟩;exact ⟨n,hn,h.last hn,fun i hi=>h.zero oo_⟩
theorem Po.ends {p:List I} {c:Nat→Int} (h:Po p c):mX c:=⟨p.length,fun i hi=>h.zero hi⟩
theorem HB {c:Nat→Int} (h:mX c):(∀ k,c k=0) ∨ ∃ n,c n≠0∧∀ i,n<i→c i=0:=by
  by_cases h0:ZP c h=QP.C 0
  · left
    intro k;have e:=congrArg (fun x:QP=>x.c k) h0;simp only [lQ,QP.C0_c] at e;exact Rat.intCast_eq_zero_iff.1 e
  obtain ⟨n,hn⟩:=QP.ex_dg h0;exact .inr ⟨n,eH_ hn⟩
theorem Po.len_top {p:List I} {c:Nat→Int} (h:Po p c) {n:Nat} (h0:c n≠0) (h1:∀ i,n<i→c i=0):p.length=n+1:=by
  have h2:p.length≤n+1:=h.short fun k hk=>h1 k hk;have h3:¬ p.length≤n:=fun hx=>h0 (h.zero hx);omega
theorem o6 {c d:Nat→Int} (h:∀ k,d k=0) (k:Nat):conv c d k=0:=kG fun i _=>by rw [h,Int.mul_zero]
theorem CT {c:Nat→Int} (h:Cop c):¬ ∀ k,c k=0:=fun hz=>by
  have:=h 0 fun k=>by rw [hz];exact Int.dvd_refl 0
  exact absurd (Int.zero_dvd.1 this) dd_
theorem CS {c:Nat→Int} (h:Cop c) (hz:∀ i,0<i→c i=0):(c 0).natAbs=1:=by
  have:=h (c 0) fun k=>by
    rcases Nat.eq_zero_or_pos k with e | e
    · rw [e];exact Int.dvd_refl _
    rw [hz k e];exact Int.dvd_zero _
  have h2:(c 0).natAbs ∣ 1:=Int.natAbs_dvd_natAbs.2 this;exact Nat.dvd_one.1 h2
theorem CU {s c:Nat→Int} (h:Cop (conv s c)):Cop c:=fun u hu=>h u fun k=>MH fun i _=>Int.dvd_trans (hu _) (Int.dvd_mul_left ..)
theorem DR {s c d:Nat→Int} (hs:Cop s) (es:mX s) (ec:mX c) (ed:mX d) (h:∀ k,conv s c k=conv s d k):∀ k,c k=d k:=by
  have hne:ZP s es≠QP.C 0:=fun e=>CT hs fun k=>by
    have e1:=congrArg (fun x:QP=>x.c k) e;simp only [lQ,QP.C0_c] at e1;exact Rat.intCast_eq_zero_iff.1 e1
  have h1:ZP s es * ZP c ec=ZP s es * ZP d ed:=by rw [← qN,← qN];exact MZ _ _ h
  intro k;have e1:=congrArg (fun x:QP=>x.c k) (QP.mul_can hne h1);simp only [lQ] at e1;exact Rat.intCast_inj.1 e1
open Go Go.Kn
theorem JX (x y:Int):(((x * y).natAbs:Nat):Int)=(x.natAbs:Int) * (y.natAbs:Int):=by rw [Int.natAbs_mul,Int.natCast_mul]
theorem WK {p:List I} {c:Nat→Int} (h:Po p c) {u:Int} (hu:∀ k,u ∣ c k):u ∣ ((cN p:Nat):Int):=AQ p 0 (Int.dvd_zero _) fun x hx=>by
  obtain ⟨k,hk⟩:=h.mem hx;rw [hk];exact hu k
theorem Pr.neg {c:Nat→Int} {n M:Nat} (h:Pr c n M):Pr (fun k=>-(c k)) n M:=⟨fun i hi=>by rw [h.z i hi];rfl,fun k=>by rw [Int.natAbs_neg];exact h.b k,by
  rcases h.p with h1 | h1
  · exact .inl fun u hu=>h1 u fun k=>Int.dvd_neg.1 (hu k)
  exact .inr fun k=>by rw [h1 k];rfl⟩
section
variable {σ:Nat→Int} {ds S G:Nat}
theorem UH (hσ:Cop σ) (hs0:σ ds≠0) (hs:∀ i,ds<i→σ i=0) (hS:∀ k,(σ k).natAbs≤S) {a b:List I} {α β:Nat→Int} {n n0 M0 M1:Nat} (ha:Po a (conv σ α)) (hb:Po b (conv σ β)) (pa:Pr α n0 M0) (hβ0:β n≠0) (hβ:∀ i,n<i→β i=0) (hB:∀ k,(β k).natAbs≤M1)
    (h1:1≤(min ds n+1) * (S * M1)) (hd:(2 * ((min ds n+1) * (S * M1))) ^ (n0+1 - n) * ((min ds n0+1) * (S * M0))<4294967296 ^ 16) :
    ∃ (γ:Nat→Int) (w t:Int) (Q:Nat→Int),Po (aC (bD a b)) (conv σ γ)∧Pr γ (n - 1) ((2 * M1) ^ (n0+1 - n) * M0)∧(n=0→∀ k,γ k=0)∧mX Q∧w≠0∧t≠0∧∀ k,w * α k=conv β Q k+t * γ k:=by
  have es:mX σ:=⟨ds+1,fun i hi=>hs i hi⟩;have etop:conv σ β (ds+n)=σ ds * β n:=oI hs hβ;have hbn:b.length=ds+n+1:=hb.len_top (by rw [etop];exact Int.mul_ne_zero hs0 hβ0) fun i hi=>mE (n:=ds+1) (m:=n+1) (fun j hj=>hs j hj) (fun j hj=>hβ j hj) i oo_
  obtain ⟨m,hm,hm0,hαm⟩:∃ m,a.length - (ds+n)=m∧m≤n0+1 - n∧∀ k,m+n≤k→α k=0:=by
    rcases HB pa.e with h0 | ⟨l,h0,h2⟩
    · refine ⟨0,?_,Nat.zero_le _,fun k _=>h0 k⟩
      rw [ha.nil fun k=>o6 h0 k];exact Nat.zero_sub _
    have hl:l≤n0:=Nat.le_of_not_lt fun hx=>h0 (pa.z l hx);have:a.length=ds+l+1:=ha.len_top (by rw [oI hs h2];exact Int.mul_ne_zero hs0 h0) fun i hi=>mE (n:=ds+1) (m:=l+1) (fun j hj=>hs j hj) (fun j hj=>h2 j hj) i oo_;exact ⟨l+1 - n,by omega,by omega,fun k hk=>h2 k oo_⟩
  have hM1:1≤M1:=by have:=hB n;omega
  have cB:∀ k,(conv σ β k).natAbs≤(min ds n+1) * (S * M1):=NF hS hB hs hβ;have cA:∀ k,(conv σ α k).natAbs≤(min ds n0+1) * (S * M0):=NF hS pa.b hs pa.z;have hRB:RemB ((conv σ β (ds+n)).natAbs:Int) (conv σ β (ds+n)).sign (conv σ β) (ds+n) m (conv σ α) :=
    JU h1 (by rw [Int.natAbs_natCast];exact cB _) (O2 _) cB m _ _ cA (Nat.lt_of_le_of_lt (Nat.mul_le_mul_right _ (Nat.pow_le_pow_right oo_ hm0)) hd)
  have hR:=VZ ha hb hbn (by rw [hm];exact hRB);rw [hm,etop,Int.sign_mul,JX] at hR;have hlc:(β n).sign * β n=((β n).natAbs:Int):=GV _;rw [IZ (n:=n) hs (GV (σ ds)) hlc hβ m α hαm] at hR;obtain ⟨Q,hQ,hQe⟩:=EY (a:=((β n).natAbs:Int)) (o:=(β n).sign) (d:=β) (n:=n) m α;have hρz:=DB hlc hβ m α hαm;have hρb:=LS (n:=n) (a:=((β n).natAbs:Int)) (o:=(β n).sign) (d:=β) (by rw [Int.natAbs_natCast];exact hB n) (O2 _) hB m M0 α pa.b;have hw:((β n).natAbs:Int) ^ m≠0:=Int.pow_ne_zero oo_;have hu:((σ ds).natAbs:Int) ^ m≠0:=Int.pow_ne_zero oo_;have hMm:(2 * M1) ^ m * M0≤(2 * M1) ^ (n0+1 - n) * M0:=Nat.mul_le_mul_right _ (Nat.pow_le_pow_right oo_ hm0);generalize r6 ((β n).natAbs:Int) (β n).sign β n m α=ρ at *;have eρ:mX ρ:=⟨n,hρz⟩
  by_cases hz:bD a b=[]
  · have hρ0:∀ k,ρ k=0:=by
      refine DR hσ es eρ ⟨0,fun i _=>rfl⟩ (d:=fun _=>0) fun k=>?_;rw [o6 (fun _=>rfl)];have:=hR.zero (k:=k) (by rw [hz];exact Nat.zero_le _);exact (Int.mul_eq_zero.1 this).resolve_left hu
    refine ⟨fun _=>0,((β n).natAbs:Int) ^ m,1,Q,?_,⟨fun _ _=>rfl,fun _=>Nat.zero_le _,.inr fun _=>rfl⟩,fun _ _=>rfl,hQ,hw,by decide,fun k=>by rw [hQe k,hρ0 k];rfl⟩;refine (tY hR).cast fun k=>?_;rw [o6 (fun _=>rfl),hR.zero (k:=k) (by rw [hz];exact Nat.zero_le _),Int.zero_fdiv]
  obtain ⟨P,hP,hC,hE⟩:∃ P:Nat→Int,Po (aC (bD a b)) P∧Cop P∧∀ k,((cN (bD a b):Nat):Int) * P k=((σ ds).natAbs:Int) ^ m * conv σ ρ k:=⟨_,tY hR,GK hR hz,wE hR⟩;have hcp:=hR.cpos hz;obtain ⟨t,ht⟩:=WK hR (u:=((σ ds).natAbs:Int) ^ m) fun k=>Int.dvd_mul_right ..
  have ht0:t≠0:=fun e=>by rw [e,Int.mul_zero] at ht;omega
  have hE':∀ k,t * P k=conv σ ρ k:=fun k=>by
    have:=hE k;rw [ht,Int.mul_assoc] at this;exact Int.eq_of_mul_eq_mul_left hu this
  have eP:=hP.ends
  obtain ⟨γ,eγ,hγ⟩:=AR hσ es eP (by
    refine QP.Dv.scale (t:=(t:Rat)) (fun e=>ht0 (Rat.intCast_eq_zero_iff.1 e)) ⟨ZP ρ eρ,?_⟩;rw [← cS_ eP,← qN es eρ]
    exact MZ _ _ hE')
  have hPe:P=conv σ γ:=funext hγ
  have htγ:∀ k,t * γ k=ρ k:=DR hσ es (NK eγ t) eρ fun k=>by rw [rP];show t * conv σ γ k=_;rw [← hγ,hE']
  refine ⟨γ,((β n).natAbs:Int) ^ m,t,Q,hP.cast hγ,⟨fun i hi=>?_,fun k=>?_,.inl (CU (hPe ▸ hC))⟩,fun hn k=>?_,hQ,hw,ht0,fun k=>by rw [hQe k,htγ k]⟩
  · have:=hρz i oo_
    rw [← htγ] at this;exact (Int.mul_eq_zero.1 this).resolve_left ht0
  · refine Nat.le_trans ?_ (Nat.le_trans (hρb k) hMm)
    rw [← htγ,Int.natAbs_mul];exact Nat.le_mul_of_pos_left _ oo_
  have:=hρz k oo_;rw [← htγ] at this;exact (Int.mul_eq_zero.1 this).resolve_left ht0
theorem R9 (p q:List I) (k:Nat) (a:List I):cS p q k a [] = .inl (a,[]):=by cases k <;> rfl
def Gd (α β γ:QP):Prop:=∀ e,(QP.Dv e α∧QP.Dv e β) ↔ QP.Dv e γ
theorem KT {α β γ Q:Nat→Int} (ea:mX α) (eb:mX β) (ec:mX γ) (eQ:mX Q) {w t:Int} (hw:w≠0) (ht:t≠0) (h:∀ k,w * α k=conv β Q k+t * γ k) {δ:QP} (hg:Gd (ZP β eb) (ZP γ ec) δ):Gd (ZP α ea) (ZP β eb) δ:=fun e=>by
  have hw':(w:Rat)≠0:=fun e=>hw (Rat.intCast_eq_zero_iff.1 e);have ht':(t:Rat)≠0:=fun e=>ht (Rat.intCast_eq_zero_iff.1 e)
  have E1:QP.C w * ZP α ea=ZP β eb * ZP Q eQ+QP.C t * ZP γ ec:=QP.ex fun k=>by
    rw [QP.C_mul,QP.add_c,QP.C_mul,← qN,lQ,lQ,lQ,← Rat.intCast_mul,← Rat.intCast_mul,h k,Rat.intCast_add]
  rw [← hg e]
  constructor
  · rintro ⟨h1,h2⟩
    refine ⟨h2,QP.Dv.scale ht' ?_⟩
    have h3:QP.C t * ZP γ ec=QP.C w * ZP α ea+QP.C (-1) * (ZP β eb * ZP Q eQ):=by
      rw [E1];exact QP.ex fun k=>by simp only [QP.add_c,QP.C_mul];grind
    rw [h3];exact (h1.mul_l _).add ((h2.mul _).mul_l _)
  rintro ⟨h1,h2⟩;refine ⟨QP.Dv.scale hw' ?_,h1⟩;rw [E1];exact (h1.mul _).add (h2.mul_l _)
theorem KU {α β:Nat→Int} (ea:mX α) (eb:mX β) (h:∀ k,β k=0):Gd (ZP α ea) (ZP β eb) (ZP α ea):=fun e=>by
  have:ZP β eb=QP.C 0:=QP.ex fun k=>by rw [lQ,h,QP.C0_c];rfl
  exact ⟨fun h=>h.1,fun h=>⟨h,by rw [this];exact .zero e⟩⟩
theorem YV {f n0 n1 M0 M1 n:Nat} (h:okT S ds G (f+1) n0 n1 M0 M1=true) (hn:n≤n1):M0≤G∧M1≤G∧1≤(min ds n+1) * (S * (if n=0 then 1 else M1))∧(2 * ((min ds n+1) * (S * (if n=0 then 1 else M1)))) ^ (n0+1 - n) * ((min ds n0+1) * (S * M0))<4294967296 ^ 16∧(n=0∨okT S ds G f n (n - 1) (if n=0 then 1 else M1) (if n=1 then 1 else (2 * (if n=0 then 1 else M1)) ^ (n0+1 - n) * M0)=true):=by
  unfold okT at h;rw [Bool.and_eq_true,Bool.and_eq_true,List.all_eq_true] at h;obtain ⟨⟨h1,h2⟩,h3⟩:=h;have h4:=h3 n (List.mem_range.2 oo_);rw [Bool.and_eq_true,Bool.and_eq_true,Bool.or_eq_true] at h4;obtain ⟨⟨h5,h6⟩,h7⟩:=h4;exact ⟨of_decide_eq_true h1,of_decide_eq_true h2,of_decide_eq_true h5,of_decide_eq_true h6,h7.imp of_decide_eq_true id⟩
theorem XQ (hσ:Cop σ) (hs0:σ ds≠0) (hs:∀ i,ds<i→σ i=0) (hS:∀ k,(σ k).natAbs≤S) (p q:List I):∀ (f n0 n1 M0 M1 k:Nat) (a b:List I) (α β:Nat→Int) (pa:Pr α n0 M0) (pb:Pr β n1 M1),okT S ds G f n0 n1 M0 M1=true→Po a (conv σ α)→Po b (conv σ β)→gmP b<k →
    ∃ (a' b':List I) (γ:Nat→Int) (n:Nat) (pc:Pr γ n G),cS p q k a b = .inl (a',b')∧Po a' (conv σ γ)∧Gd (ZP α pa.e) (ZP β pb.e) (ZP γ pc.e)
  | 0,_,_,_,_,_,_,_,_,_,_,_,h,_,_,_=>absurd h (by unfold okT;decide)
  | f+1,n0,n1,M0,M1,0,a,b,α,β,pa,pb,h,ha,hb,hk=>absurd hk (Nat.not_lt_zero _)
  | f+1,n0,n1,M0,M1,k+1,a,b,α,β,pa,pb,h,ha,hb,hk=>by
    rcases HB pb.e with h0 | ⟨n,h0,h2⟩
    · have:b=[]:=hb.nil fun k=>o6 h0 k
      subst this;obtain ⟨g1,g2,_⟩:=YV h (Nat.zero_le _);exact ⟨a,[],α,n0,⟨pa.z,fun k=>Nat.le_trans (pa.b k) g1,pa.p⟩,rfl,ha,KU _ _ h0⟩
    have hn1:n≤n1:=Nat.le_of_not_lt fun hx=>h0 (pb.z n hx);obtain ⟨g1,g2,g3,g4,g5⟩:=YV h hn1;have hcb:Cop β:=pb.p.resolve_right fun hx=>h0 (hx n)
    have hbb:∀ k,(β k).natAbs≤(if n=0 then 1 else M1):=fun k=>by
      split
      · next e =>
        subst e;rcases Nat.eq_zero_or_pos k with e | e
        · rw [e,CS hcb h2];exact Nat.le_refl _
        rw [h2 k e];exact Nat.zero_le _
      exact pb.b k
    generalize (if n=0 then 1 else M1)=B at *;obtain ⟨γ,w,t,Q,c1,c2,c3,c4,c5,c6,c7⟩:=UH hσ hs0 hs hS ha hb pa h0 h2 hbb g3 g4
    have hbl:0<b.length:=by
      rcases Nat.eq_zero_or_pos b.length with e | e
      · exact absurd (hb.zero (k:=ds+n) oo_) (by rw [oI hs h2];exact Int.mul_ne_zero hs0 h0)
      exact e
    have d1:decide (0<((b.length:Nat):Int))=true:=decide_eq_true oo_
    have d2:(aT a||aT b)=false:=by rw [ha.nb,hb.nb];rfl
    have d3:=EP ⟨ha.l,hb.l⟩ d2 d1
    have e1:cS p q (k+1) a b=cS p q k b (aC (bD a b)):=by
      conv=>lhs;unfold cS
      rw [d1,d2];rfl
    have hpb:Pr β n B:=⟨h2,hbb,.inl hcb⟩;rcases g5 with hn | g5
    · have hz:=c3 hn
      have:aC (bD a b)=[]:=c1.nil fun k=>o6 hz k;rw [e1,this,R9];exact ⟨b,[],β,n1,⟨pb.z,fun k=>Nat.le_trans (pb.b k) g2,pb.p⟩,rfl,hb,KT pa.e pb.e c2.e c4 c5 c6 c7 (KU _ _ hz)⟩
    rw [e1]
    have c2':Pr γ (n - 1) (if n=1 then 1 else (2 * B) ^ (n0+1 - n) * M0):=⟨c2.z,fun k=>by
      split
      · next e =>
        subst e;rcases c2.p with h3 | h3
        · rcases Nat.eq_zero_or_pos k with e | e
          · rw [e,CS h3 c2.z];exact Nat.le_refl _
          rw [c2.z k e];exact Nat.zero_le _
        rw [h3 k];exact Nat.zero_le _
      exact c2.b k,c2.p⟩
    obtain ⟨a',b',γ',n',pc,r1,r2,r3⟩:=XQ hσ hs0 hs hS p q f n (n - 1) B _ k b _ β γ hpb c2' g5 hb c1 oo_;exact ⟨a',b',γ',n',pc,r1,r2,KT pa.e pb.e c2.e c4 c5 c6 c7 r3⟩
theorem ap_ (hσ:Cop σ) (hs0:σ ds≠0) (hs:∀ i,ds<i→σ i=0) (hS:∀ k,(σ k).natAbs≤S) {p q:List I} {f n0 n1 M0 M1:Nat} {α β:Nat→Int} (pa:Pr α n0 M0) (pb:Pr β n1 M1) (h:okT S ds G f n0 n1 M0 M1=true) (ha:Po (aC p) (conv σ α)) (hb:Po (aC q) (conv σ β)) :
    ∃ (γ:Nat→Int) (n:Nat) (pc:Pr γ n G),Po (aN p q) (conv σ γ)∧Gd (ZP α pa.e) (ZP β pb.e) (ZP γ pc.e)∧∀ m,(∀ i,m<i→conv σ γ i=0)→0≤conv σ γ m:=by
  obtain ⟨a',b',γ,n,pc,r1,r2,r3⟩:=XQ hσ hs0 hs hS p q f n0 n1 M0 M1 (gmP (aC q)+1) _ _ α β pa pb h ha hb (Nat.lt_succ_self _);unfold aN;rw [r1]
  show ∃ (γ:Nat→Int) (n:Nat) (pc:Pr γ n G),Po (bif (((((a').length:Nat):Int)==0)||decide (0<(Z.signW (a'.getD ((a').length - 1) I0).dec).1)) then a' else eJ ([]:List I) a' (fun (y:I) (z:I)=>E (Z.sub y.dec z.dec))) (conv σ γ)∧_
  by_cases h0:a'=[]
  · subst h0
    rw [show ((([]:List I).length:Nat):Int)==0 from rfl,Bool.true_or,cond_true];exact ⟨γ,n,pc,r2,r3,fun m hm=>by rw [r2.zero (Nat.zero_le _)];exact Int.le_refl _⟩
  obtain ⟨t,t1,t2,t3⟩:=r2.top h0;rw [show ((((a').length:Nat):Int)==0)=false from beq_eq_false_iff_ne.2 oo_,Bool.false_or,t1,Nat.add_sub_cancel,r2.get,bZ,kN (r2.B t)]
  have key:∀ m,(∀ i,m<i→conv σ γ i=0)→conv σ γ m=0∨m=t:=fun m hm=>by
    rcases Nat.lt_trichotomy m t with h1 | h1 | h1
    · exact absurd (hm t h1) t2
    · exact .inr h1
    exact .inl (t3 m h1)
  by_cases hp:0<(conv σ γ t).sign
  · rw [decide_eq_true hp,cond_true]
    refine ⟨γ,n,pc,r2,r3,fun m hm=>?_⟩;rcases key m hm with h1 | h1
    · rw [h1];exact Int.le_refl _
    rw [h1];have:=Int.sign_pos_iff.1 hp;omega
  rw [decide_eq_false hp,cond_false]
  have hn:conv σ (fun k=>-(γ k))=fun k=>-(conv σ γ k):=by
    have:=rP (-1:Int) σ γ;rw [show (fun k=>-(γ k))=fun k=>-1 * γ k from funext fun k=>by rw [Int.neg_one_mul],this]
    exact funext fun k=>by rw [Int.neg_one_mul]
  refine ⟨fun k=>-(γ k),n,pc.neg,?_,fun e=>?_,fun m hm=>?_⟩
  · rw [hn]
    exact EO CL r2 (fun k=>by rw [bZ,bZ,MG B0 (r2.B k),Int.zero_sub]) (fun k=>by have:=r2.B k;unfold cZ at *;rwa [Int.natAbs_neg]) (fun k _ h=>by rw [h];rfl)
  · rw [r3 e]
    have e1:ZP (fun k=>-(γ k)) pc.neg.e=QP.C (-1) * ZP γ pc.e:=QP.ex fun k=>by rw [QP.C_mul,lQ,lQ,Rat.intCast_neg,Rat.neg_mul,Rat.one_mul]
    rw [e1];exact ⟨fun h=>h.mul_l _,fun h=>h.scale dd_⟩
  rw [hn] at hm ⊢
  show 0 ≤ -(conv σ γ m)
  rcases key m (fun i hi=>by have h:-(conv σ γ i)=0:=hm i hi;omega) with h1 | h1
  · rw [h1];decide
  rw [h1];have:¬ 0<conv σ γ t:=fun hx=>hp (Int.sign_pos_iff.2 hx);omega
end
open Go Go.Kn
theorem bU_ {q:Rat} {n d:Int} {k:Nat} (h:(n:Rat)=(d:Rat) * q) (h0:0<d) (hn:n.natAbs<2 ^ k) (hd:d.natAbs<2 ^ k):Sz q k:=by
  have e:=congrArg Int.natAbs (QN h);rw [Int.natAbs_mul,Int.natAbs_mul,Int.natAbs_natCast] at e;have hr:=q.reduced;have k1:q.den ∣ d.natAbs:=(Nat.Coprime.symm hr).dvd_of_dvd_mul_left (by rw [e];exact Nat.dvd_mul_left ..);have k2:q.num.natAbs ∣ n.natAbs:=Nat.Coprime.dvd_of_dvd_mul_right hr (by rw [← e];exact Nat.dvd_mul_right ..);refine ⟨?_,Nat.lt_of_le_of_lt (Nat.le_of_dvd oo_ k1) hd⟩
  by_cases hz:n.natAbs=0
  · rw [hz,Nat.zero_mul] at e
    rcases Nat.mul_eq_zero.1 e with h1 | h1
    · rw [h1];exact Nat.pow_pos dd_
    omega
  exact Nat.lt_of_le_of_lt (Nat.le_of_dvd oo_ k2) hn
theorem XN (x y:Rt):jF [x,y]=(cG x&&cG y):=by
  unfold jF oF n4
  have e:j8 [x,y] (fun y=>jX y) ([x,y].length+1) 0=bif cG x then (bif cG y then .inl 2 else .inr (W.cv 1)) else .inr (W.cv 0):=by
    show (bif jX x then _ else (bif jX y then _ else _))=_
    unfold jX
    cases cG x <;> cases cG y <;> rfl
  rw [e]
  cases cG x <;> cases cG y <;> rfl
section
variable {p:List I} {c:Nat→Int} {a b:Rt} {N D M F:Int}
end
open Go Go.Kn
def ff (i:Int):Nat→Int
  | 0=>1
  | k+1=>ff i k * (i - k)
def fac:Nat→Int
  | 0=>1
  | n+1=>fac n * ((n+1:Nat):Int)
def wt (n i k:Nat):Int:=ff i k * fac (n - k)
def bs (γ:Nat→Int) (n i:Nat):Int:=iF (fun k=>wt n i k * γ k) (i+1)
def bin:Nat→Nat→Nat
  | _,0=>1
  | 0,_+1=>0
  | n+1,k+1=>bin n k+bin n (k+1)
theorem aD_ {n:Nat} (hn:n≤6) (γ:Nat→Int) (t:Rat):iF (fun i=>(bs γ n i:Rat) * ((bin n i:Nat):Rat) * (t ^ i * (1 - t) ^ (n - i))) (n+1)=((fac n:Int):Rat) * iF (fun k=>(γ k:Rat) * t ^ k) (n+1):=by
  have e:∀ i,(bs γ n i:Rat)=iF (fun k=>(wt n i k:Rat) * (γ k:Rat)) (i+1):=fun i=>by unfold bs;rw [G6];exact iE fun k _=>Rat.intCast_mul ..
  simp only [e];rcases (show n=0∨n=1∨n=2∨n=3∨n=4∨n=5∨n=6 by omega) with rfl | rfl | rfl | rfl | rfl | rfl | rfl <;>
  · simp only [iF]
    generalize (γ 0:Rat)=g0
    try generalize (γ 1:Rat)=g1
    try generalize (γ 2:Rat)=g2
    try generalize (γ 3:Rat)=g3
    try generalize (γ 4:Rat)=g4
    try generalize (γ 5:Rat)=g5
    try generalize (γ 6:Rat)=g6
    simp [wt,ff,fac,bin]
    try grind
theorem D6 {n i:Nat} (hn:n≤6) (hi:i≤n):eE (n:Int) (i:Int)=(List.range (i+1)).map fun k=>E (Z.of (wt n i k)):=by
  rcases (show n=0∨n=1∨n=2∨n=3∨n=4∨n=5∨n=6 by omega) with rfl | rfl | rfl | rfl | rfl | rfl | rfl
  · rcases (show i=0 by omega) with rfl;kernel_rfl
  · rcases (show i=0∨i=1 by omega) with rfl | rfl <;> kernel_rfl
  · rcases (show i=0∨i=1∨i=2 by omega) with rfl | rfl | rfl <;> kernel_rfl
  · rcases (show i=0∨i=1∨i=2∨i=3 by omega) with rfl | rfl | rfl | rfl <;> kernel_rfl
  · rcases (show i=0∨i=1∨i=2∨i=3∨i=4 by omega) with rfl | rfl | rfl | rfl | rfl <;> kernel_rfl
  · rcases (show i=0∨i=1∨i=2∨i=3∨i=4∨i=5 by omega) with rfl | rfl | rfl | rfl | rfl | rfl <;> kernel_rfl
  rcases (show i=0∨i=1∨i=2∨i=3∨i=4∨i=5∨i=6 by omega) with rfl | rfl | rfl | rfl | rfl | rfl | rfl <;> kernel_rfl
section
variable {p:List I} {a b:Rt} {γ:Nat→Int} {n B:Nat}
theorem QK {v:Int} (h:cZ v):(E (Z.of v)).1.bad=false:=by
  have:=NZ h;unfold gdI at this;rw [Bool.and_eq_true] at this
  simpa using this.1
theorem C7 {u v G:Int} (hu:cZ u) (hG:cZ G) (h0:0<G) (h:G * v=u):Z.quo (Z.of u) (Z.of G)=Z.of v:=by
  rw [xB hu hG h0,← h,Int.mul_ediv_cancel_left _ oo_]
theorem bZ_ (out0:List I) (i0:Nat) {N:Nat} {G:Int} {v l:Nat→Int} (h0:0<G) (hG:cZ G) (hv:∀ k,k<N→cZ (v k)) (hl:∀ k,k<N→G * l k=v k) (hlen:out0.length=N) (hc:dH out0=E (Z.of G)):∀ (f k:Nat),N - k<f→k≤N →
    (gY p a b out0 i0 f k ((List.range N).map fun i=>E (Z.of (if i<k then l i else v i)))).2=(List.range N).map fun i=>E (Z.of (l i))
  | 0,k,h,_=>absurd h (Nat.not_lt_zero _)
  | f+1,k,h,hk=>by
    unfold gY;rw [hlen];rcases Nat.lt_or_eq_of_le hk with h1 | h1
    · rw [decide_eq_true oo_,cond_true,hc,G7,if_pos h1,if_neg (Nat.lt_irrefl _),bZ,bZ,C7 (hv k h1) hG h0 (hl k h1)]
      have e:((List.range N).map fun i=>E (Z.of (if i<k then l i else v i))).set k (E (Z.of (l k)))=(List.range N).map fun i=>E (Z.of (if i<k+1 then l i else v i)):=by
        apply List.ext_getElem
        · simp
        intro j hj hj';simp only [List.length_set,List.length_map,List.length_range] at hj;rw [List.getElem_set];simp only [List.getElem_map,List.getElem_range]
        by_cases hjk:k=j
        · subst hjk;rw [if_pos rfl,if_pos oo_]
        rw [if_neg hjk]
        by_cases h2:j<k
        · rw [if_pos h2,if_pos oo_]
        rw [if_neg h2,if_neg oo_]
      rw [e];exact bZ_ out0 i0 h0 hG hv hl hlen hc f (k+1) oo_ h1
    subst h1;rw [decide_eq_false oo_,cond_false]
    exact List.map_congr_left fun i hi=>by rw [if_pos (List.mem_range.1 hi)]
end
end Go.Num
