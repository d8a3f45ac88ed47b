/- Lemmas: what they ask stands in their statements. -/
import Derived.Test.YtokjfhfiodopdaaGreatWAt
import Derived.ChangeArms
set_option linter.unusedSimpArgs false
set_option linter.unusedVariables false
namespace Go.Num
open Go Go.Kn
open QP (V Rb Two NN sg Sf)
def nnc (c:List (List I)) (a b:Rt) (right:W):W:=bif (right.1==0) then W.sub ((aH c a b).1) (wl 1) else (aH c a b).1
def nno (c:List (List I)) (p:List I) (a b:Rt) (k:Nat):Bool:=(aH c a b).2&&((aG p (aE a b)).2&&decide (((k:Nat):Int)<600))
theorem QM (c:List (List I)) (p:List I) (n:Nat) (a b:Rt) (left right:W) (k:Nat) (is ok:Bool) :
    aK c p (n+1) a b left right k is ok=bif (!is || !ok) then (is,ok) else (bif nno c p a b k then (bif decide (((aG p (aE a b)).1).1<0) then (false,true) else (bif (((nnc c a b right).1==0)||(((nnc c a b right).1==1)&&(decide (0<left.1)&&decide (0<right.1)))) then (is,true)
      else (aK c p n (aE a b) b ((aG p (aE a b)).1) right (k+1) (aK c p n a (aE a b) left ((aG p (aE a b)).1) (k+1) is true).1 (aK c p n a (aE a b) left ((aG p (aE a b)).1) (k+1) is true).2))) else (is,false)):=by
  conv=>lhs;unfold aK
  unfold nnc;rw [show ((aH c a b).2&&((aG p (aE a b)).2&&decide (((k:Nat):Int)<600)))=nno c p a b k from rfl];generalize aE a b=m;generalize aG p m=S;generalize aH c a b=C
  cases (!is || !ok)
  · cases nno c p a b k
    · rfl
    simp only [cond_true,cond_false]
    cases (right.1==0)
    · simp only [cond_false]
      cases (C.1.1==0)
      · simp only [cond_false,Bool.false_or]
      simp only [cond_true,Bool.true_or]
    simp only [cond_true]
    cases ((W.sub C.1 (wl 1)).1==0)
    · simp only [cond_false,Bool.false_or]
    simp only [cond_true,Bool.true_or]
  rfl
theorem LC (c:List (List I)) (p:List I) (n:Nat) (a b:Rt) (left right:W) (k:Nat) (is ok:Bool) (h:is=false∨ok=false):aK c p n a b left right k is ok=(is,ok):=by
  cases n with
  | zero=>rfl
  | succ n =>
    rw [QM];rcases h with rfl | rfl
    · rfl
    simp
theorem sg_zr {x:Rat}:(sg x=0) ↔ x=0:=by
  rcases QP.sg_three x with ⟨e,k⟩ | ⟨e,k⟩ | ⟨e,k⟩ <;> rw [e] <;> constructor <;> intro h <;> first | omega | grind
theorem TI {x:Rat}:(0<sg x) ↔ 0<x:=by
  rcases QP.sg_three x with ⟨e,k⟩ | ⟨e,k⟩ | ⟨e,k⟩ <;> rw [e] <;> constructor <;> intro h <;> first | omega | grind
theorem CA {x:Rat}:(sg x<0) ↔ x<0:=by
  rcases QP.sg_three x with ⟨e,k⟩ | ⟨e,k⟩ | ⟨e,k⟩ <;> rw [e] <;> constructor <;> intro h <;> first | omega | grind
structure Nk (p:List I) (a b:Rt) (left right:W) (u v:Rat):Prop where
  a:a.At u
  b:b.At v
  lt:u<v
  l:left.1=sg ((qp p).ev u)
  r:right.1=sg ((qp p).ev v)
  l0:0≤(qp p).ev u
  r0:0≤(qp p).ev v
theorem St.sf {p:List I} {L:List (List I)} (h:St p L):Sf (qp p) (qp (aV p)) (L.map qp):=by
  obtain ⟨f,l,⟨_,e⟩,_,hs,_⟩:=h.s;rw [← e];exact hs
theorem YM {u v:Rat} (h:u<v):u<(u+v) * (1 / 2)∧(u+v) * (1 / 2)<v:=by constructor <;> grind
theorem fM_ {x:W} (h:-1000≤x.1∧x.1≤1000):(W.sub x (wl 1)).1=x.1 - 1:=by
  show IntKind.i64.wrap (x.1 - 1)=x.1 - 1
  rw [wi oo_]
theorem SY {p:List I} {L:List (List I)} (h:St p L) (hl:L.length≤100) {a b:Rt} {left right:W} {u v:Rat} (hk:Nk p a b left right u v) (hc:(aH L a b).2=true) :
    ((qp p).ev v=0∧(nnc L a b right).1+1+V (L.map qp) v=V (L.map qp) u∨(qp p).ev v≠0∧(nnc L a b right).1+V (L.map qp) v=V (L.map qp) u)∧0≤(nnc L a b right).1:=by
  obtain ⟨u',v',cx⟩:=EL h hl hc;obtain rfl:=yH hk.a cx.a;obtain rfl:=yH hk.b cx.b;have n:=cx.n;have an:=h.anti (Rat.le_of_lt hk.lt);have v1:=V3 (L.map qp) u;have v2:=V3 (L.map qp) v;rw [List.length_map] at v1 v2;unfold nnc
  by_cases h0:(qp p).ev v=0
  · have hne:V (L.map qp) u≠V (L.map qp) v:=fun e=>(h.sf.pos hk.lt e).1 h0
    rw [show (right.1==0)=true by rw [hk.r,sg_zr.2 h0];rfl,cond_true,fM_ oo_];exact ⟨.inl ⟨h0,by omega⟩,by omega⟩
  have:¬ right.1=0:=by rw [hk.r,sg_zr];exact h0
  rw [show (right.1==0)=false by simpa using this,cond_false];exact ⟨.inr ⟨h0,by omega⟩,by omega⟩
theorem YP {p:List I} (hp:Rgt p) (hg:p.all gdI=true) {L:List (List I)} (h:St p L) (hl:L.length≤100):∀ (n k:Nat) (a b:Rt) (left right:W) (u v:Rat),n+k=601→1≤n→Nk p a b left right u v →
    (aK L p n a b left right k true true).2=true→((aK L p n a b left right k true true).1=true ↔ NN (qp p) u v):=by
  intro n
  induction n with
  | zero=>intro k a b left right u v _ h1;omega
  | succ n ih =>
    intro k a b left right u v hn _ hk hok;rw [QM] at hok ⊢;simp only [Bool.not_true,Bool.or_self,cond_false] at hok ⊢
    cases ho:nno L p a b k
    · rw [ho] at hok;cases hok
    rw [ho] at hok;simp only [cond_true] at hok ⊢;unfold nno at ho;simp only [Bool.and_eq_true,decide_eq_true_eq] at ho;obtain ⟨hc,hS,hk6⟩:=ho;obtain ⟨w,hm⟩:=CM hS
    have hw:w=(u+v) * (1 / 2):=by
      have:=bS_ hk.a hk.b (by rw [← JR];exact nZ hm);rw [← JR] at this;exact yH hm this
    subst hw;have hs:=wU (A7 hp hg) hm hS;have ml:=YM hk.lt
    cases hneg:decide ((aG p (aE a b)).1.1<0)
    · rw [hneg] at hok
      have m0:0≤(qp p).ev ((u+v) * (1 / 2)):=by
        have:=of_decide_eq_false hneg;rw [hs,CA] at this;grind
      simp only [cond_false] at hok ⊢;obtain ⟨cv,c0⟩:=SY h hl hk hc
      cases hst:(((nnc L a b right).1==0)||(((nnc L a b right).1==1)&&(decide (0<left.1)&&decide (0<right.1))))
      · rw [hst] at hok
        simp only [cond_false] at hok ⊢;have k1:Nk p a (aE a b) left (aG p (aE a b)).1 u ((u+v) * (1 / 2)):=⟨hk.a,hm,ml.1,hk.l,hs,hk.l0,m0⟩;have k2:Nk p (aE a b) b (aG p (aE a b)).1 right ((u+v) * (1 / 2)) v:=⟨hm,hk.b,ml.2,hs,hk.r,m0,hk.r0⟩;have i1:=ih (k+1) a (aE a b) left _ u _ oo_ oo_ k1;have i2:=ih (k+1) (aE a b) b _ right _ v oo_ oo_ k2;have hv:=NN.halves (p:=qp p) (Rat.le_of_lt ml.1) (Rat.le_of_lt ml.2);generalize hr1:aK L p n a (aE a b) left (aG p (aE a b)).1 (k+1) true true=r1 at *;obtain ⟨s1,o1⟩:=r1
        cases o1
        · rw [LC _ _ _ _ _ _ _ _ _ _ (.inr rfl)] at hok;cases hok
        · cases s1
          · rw [LC _ _ _ _ _ _ _ _ _ _ (.inl rfl)]
            refine ⟨fun e=>(by cases e),fun e=>?_⟩;exact absurd ((i1 rfl).2 (hv.1 e).1) dd_
          rw [i2 hok,hv];exact ⟨fun e=>⟨(i1 rfl).1 rfl,e⟩,fun e=>e.2⟩
      simp only [cond_true];refine ⟨fun _=>?_,fun _=>trivial⟩;rcases Bool.or_eq_true_iff.1 hst with z | z
      · have z:(nnc L a b right).1=0:=by simpa using z
        rcases cv with ⟨v0,cv⟩ | ⟨v0,cv⟩
        · exact h.sf.nn0r ml.1 ml.2 oo_ hk.l0 m0 v0
        exact h.sf.nn0 hk.lt oo_ hk.l0 hk.r0
      simp only [Bool.and_eq_true,decide_eq_true_eq,beq_iff_eq] at z;obtain ⟨z1,z2,z3⟩:=z;rw [hk.l,TI] at z2;rw [hk.r,TI] at z3;rcases cv with ⟨v0,cv⟩ | ⟨v0,cv⟩
      · rw [v0] at z3;exact absurd z3 dd_
      exact h.sf.nn1 oo_ z2 z3
    simp only [cond_true];refine ⟨fun e=>(by cases e),fun e=>?_⟩;have:=of_decide_eq_true hneg;rw [hs,CA] at this;have:=e _ (Rat.le_of_lt ml.1) (Rat.le_of_lt ml.2)
    grind
theorem SX {p:List I} (hp:Rgt p) (hg:p.all gdI=true) {L:List (List I)} (hSt:St p L) (hl:L.length≤100) {n k:Nat} {a b:Rt} {left right:W} {u v:Rat} (hk:Nk p a b left right u v) (h6:k<600) (hc:(aH L a b).2=true)
    (hm:(aE a b).At ((u+v) * (1 / 2))) (hS:(aG p (aE a b)).2=true)
    (rec:Two (qp (aV p)) (L.map qp) u v→∀ s:W,s.1=sg ((qp p).ev ((u+v) * (1 / 2)))→0≤(qp p).ev ((u+v) * (1 / 2))→(aK L p n a (aE a b) left s (k+1) true true).2=true∧(aK L p n (aE a b) b s right (k+1) true true).2=true) :
    (aK L p (n+1) a b left right k true true).2=true:=by
  have hs:=wU (A7 hp hg) hm hS
  have ho:nno L p a b k=true:=by
    unfold nno;rw [hc,hS,decide_eq_true (show ((k:Nat):Int)<600 by omega)];rfl
  rw [QM,ho];simp only [Bool.not_true,Bool.or_self,cond_false,cond_true]
  cases hneg:decide ((aG p (aE a b)).1.1<0)
  · simp only [cond_false]
    have m0:0≤(qp p).ev ((u+v) * (1 / 2)):=by
      have:=of_decide_eq_false hneg;rw [hs,CA] at this;grind
    obtain ⟨cv,c0⟩:=SY hSt hl hk hc
    cases hst:(((nnc L a b right).1==0)||(((nnc L a b right).1==1)&&(decide (0<left.1)&&decide (0<right.1))))
    · simp only [cond_false]
      have ht:Two (qp (aV p)) (L.map qp) u v:=by
        simp only [Bool.or_eq_false_iff,Bool.and_eq_false_iff,beq_eq_false_iff_ne,ne_eq,decide_eq_false_iff_not] at hst;obtain ⟨z0,z1⟩:=hst;rcases cv with ⟨v0,cv⟩ | ⟨v0,cv⟩
        · exact .inl oo_
        by_cases z2:(nnc L a b right).1=1
        · right
          refine ⟨by omega,?_⟩
          have hr:0<right.1:=by rw [hk.r,TI];have:=hk.r0;grind
          have hlf:¬ 0<left.1:=by
            rcases z1 with z1 | z1 | z1
            · exact absurd z2 z1
            · exact z1
            exact absurd hr z1
          rw [hk.l,TI] at hlf
          have u0:(qp p).ev u=0:=by have:=hk.l0;grind
          apply Classical.byContradiction
          intro hf;exact hSt.sf.ne hf u0
        exact .inl oo_
      obtain ⟨r1,r2⟩:=rec ht _ hs m0;generalize aK L p n a (aE a b) left (aG p (aE a b)).1 (k+1) true true=R at *;obtain ⟨s1,o1⟩:=R;have r1:o1=true:=r1;subst r1
      cases s1
      · rw [LC _ _ _ _ _ _ _ _ _ _ (.inl rfl)]
      exact r2
    rfl
  rfl
theorem e3_ {p:List I} {A B:Rat} (h:Sp p A B) (hAB:A≤B):∀ (d n k K:Nat) (j:Int) (a b:Rt) (left right:W) (u v:Rat),d+K=93→n+k=601→k≤K→It A B (2 ^ K) j u v→Nk p a b left right u v →
    (aK (aI p).1 p n a b left right k true true).2=true:=by
  intro d
  induction d with
  | zero =>
    intro n k K j a b left right u v hd hn hkK hi hk;obtain ⟨n,rfl⟩:∃ j,n=j+1:=⟨n - 1,by omega⟩;have hm:=h.mid oo_ hk.a hk.b hi.lo hi.hi
    exact SX h.rgt h.gd h.st (wK p) hk oo_ (h.count oo_ hk.a hk.b hi.lo hi.hi) hm (uE h.tp hm ((hi.left.hi.sz h.sA h.sB).mono oo_)) fun ht=>by have:=h.two hi hk.lt ht;omega
  | succ d ih =>
    intro n k K j a b left right u v hd hn hkK hi hk;obtain ⟨n,rfl⟩:∃ j,n=j+1:=⟨n - 1,by omega⟩;have ml:=YM hk.lt;have hm:=h.mid oo_ hk.a hk.b hi.lo hi.hi;refine SX h.rgt h.gd h.st (wK p) hk oo_ (h.count oo_ hk.a hk.b hi.lo hi.hi) hm (uE h.tp hm ((hi.left.hi.sz h.sA h.sB).mono oo_)) fun _ s hs m0=>⟨?_,?_⟩
    · exact ih n (k+1) (K+1) _ a _ left s u _ oo_ oo_ oo_ hi.left ⟨hk.a,hm,ml.1,hk.l,hs,hk.l0,m0⟩
    exact ih n (k+1) (K+1) _ _ b s right _ v oo_ oo_ oo_ hi.right ⟨hm,hk.b,ml.2,hs,hk.r,m0,hk.r0⟩
open QP (V Rb Two)
theorem Sp.nb {p:List I} {A B:Rat} (h:Sp p A B):aT p=false:=by rw [mN (Q5 h.rgt),h.gd];rfl
theorem Sp.nl {p:List I} {A B:Rat} (h:Sp p A B):((((p).length:Nat):Int)==0)=false:=by rw [SK,decide_eq_false h.ne]
theorem ER {a b:Rt} {A B:Rat} (ha:a.At A) (hb:b.At B):kJ a b=decide (A≤B):=by
  unfold kJ;rw [WE ha,WE hb];simp only [Bool.not_false,Bool.true_and];exact decide_eq_decide.2 (cE_ ha hb)
theorem uW:eZ=true:=by kernel_rfl
def nnI (x:I):Bool:=decide (0≤(Z.signW x.dec).1)
theorem OA (p:List I) (a b:Rt):∀ (l:List I) (all:Bool),fV p a b l all=(all&&l.all nnI)
  | [],all=>by unfold fV;simp
  | x :: l,all=>by
    unfold fV;rw [OA p a b l,List.all_cons,Bool.and_assoc];rfl
def nnR (p:List I) (a b:Rt):Bool×Bool:=aK ((aI p).1) p 601 a b ((aG p a).1) ((aG p b).1) 0 true ((aI p).2)
theorem JS (p:List I) (a b:Rt):aD p a b=bif (aT p || !kJ a b) then (false,wl 1) else bif ((((p).length:Nat):Int)==0) then (true,wl 0) else
    bif (!((aG p a).2) || !((aG p b).2)) then (false,wl 30) else bif (decide (((aG p a).1).1<0)||decide (((aG p b).1).1<0)) then (false,wl 0) else
    bif (decide (a.n=b.n)&&decide (a.d=b.d)) then (true,wl 0) else bif ((bJ p a b).2&&(bJ p a b).1.all nnI) then (true,wl 0) else
    bif (aI p).2 then (bif (nnR p a b).2 then ((nnR p a b).1,wl 0) else (false,wl 30)) else (false,wl 30):=by
  unfold aD;rw [OA,Bool.true_and];rw [show aK ((aI p).1) p 601 a b ((aG p a).1) ((aG p b).1) 0 true ((aI p).2)=nnR p a b from rfl];generalize nnR p a b=R;generalize bJ p a b=Bn;generalize aG p a=Sa;generalize aG p b=Sb;generalize (aI p).2=st;generalize kJ a b=g;generalize aT p=ib
  cases (ib || !g)
  · simp only [cond_false]
    cases ((((p).length:Nat):Int)==0)
    · simp only [cond_false]
      cases (!Sa.2 || !Sb.2)
      · simp only [cond_false]
        cases (decide (Sa.1.1<0)||decide (Sb.1.1<0))
        · simp only [cond_false]
          cases (decide (a.n=b.n)&&decide (a.d=b.d))
          · simp only [cond_false]
            cases Bn.2
            · rfl
            simp only [cond_true,Bool.true_and,ap]
          rfl
        rfl
      rfl
    rfl
  rfl
theorem aE_ {p:List I} {c:Nat→Int} {a b:Rt} {qa qb:Rat} (h:Po p c) (h7:p.length≤7) (ha:a.At qa) (hb:b.At qb) (hab:qa<qb) (hg:(bJ p a b).2=true) (hf:(bJ p a b).1.all nnI=true) {t:Rat} (t0:qa≤t) (t1:t≤qb):0≤vl (cR c) t p.length:=by
  by_cases h0:p=[]
  · rw [h0];exact Rat.le_refl
  obtain ⟨n,hp⟩:∃ n,p.length=n+1:=⟨p.length - 1,by have:=List.length_pos_iff.2 h0;omega⟩
  have hn:n≤6:=by omega
  obtain ⟨γ,g,W,G,l,gp,Wp,Gp,hz,hv,hl,lb,hL⟩:=cC_ h hp hn ha hb hg;rw [hL] at hf
  have hlz:∀ i,i≤n→0≤l i:=fun i hi=>by
    have hx:E (Z.of (l i))∈(List.range (n+1)).map (fun i=>E (Z.of (l i))):=List.mem_map.2 ⟨i,List.mem_range.2 oo_,rfl⟩;have:=List.all_eq_true.1 hf _ hx;unfold nnI at this;rw [bZ,kN (lb i hi),decide_eq_true_eq] at this;exact Int.sign_nonneg_iff.1 this
  obtain ⟨y,hy⟩:∃ y:Rat,y=(t - qa) / (qb - qa):=⟨_,rfl⟩
  have dp:0<qb - qa:=by grind
  have hd0:qb - qa≠0:=by grind
  have ey:(qb - qa) * y=t - qa:=by rw [hy,Rat.mul_comm];exact Rat.div_mul_cancel hd0
  have y0:0≤y:=w9 dp (by grind);have y1:0≤1 - y:=w9 dp (by grind);have hs:=aD_ hn γ y
  have k1:0≤iF (fun i=>(bs γ n i:Rat) * ((bin n i:Nat):Rat) * (y ^ i * (1 - y) ^ (n - i))) (n+1):=TN fun i hi=>by
    have b1:0≤bs γ n i:=by rw [← hl i oo_];exact Int.mul_nonneg oo_ (hlz i oo_)
    have b2:(0:Rat)≤((bs γ n i:Int):Rat):=Rat.intCast_nonneg.2 b1
    have b3:(0:Rat)≤((bin n i:Nat):Rat):=by
      rw [show ((bin n i:Nat):Rat)=(((bin n i:Nat):Int):Rat) from (Rat.intCast_natCast _).symm];exact Rat.intCast_nonneg.2 oo_
    exact Rat.mul_nonneg (Rat.mul_nonneg b2 b3) (Rat.mul_nonneg (LW y0 i) (LW y1 _))
  rw [hs] at k1;have k2:=w9 (Rat.intCast_pos.2 (NP n)) k1;have k3:vl (cR γ) y 26=iF (fun k=>(γ k:Rat) * y ^ k) (n+1):=zY (n:=n+1) (fun i hi=>by unfold cR;rw [hz i hi];rfl) oo_;rw [← k3] at k2;have k4:=hv y;rw [ey,show qa+(t - qa)=t by grind] at k4;refine w9 (Rat.intCast_pos.2 Wp) ?_;rw [← k4];exact Rat.mul_nonneg (Rat.le_of_lt (Rat.intCast_pos.2 gp)) k2
theorem fg_ {p:List I} {c:Nat→Int} (h:Po p c) (x:Rat):(qp p).ev x=vl (cR c) x p.length:=by
  rw [qK h h.ends,QP.ev_vl (n:=p.length) (fun i hi=>by rw [lQ,h.zero hi];rfl)];rfl
theorem o5 {p:List I} (hp:Rgt p) (h7:p.length≤7) {a b:Rt} {A B:Rat} (ha:a.At A) (hb:b.At B) (h:(aD p a b).2.1=0):p.all gdI=true∧A≤B∧((aD p a b).1=true ↔ NN (qp p) A B):=by
  rw [JS] at h ⊢;rw [mN (Q5 hp),ER ha hb] at h ⊢
  cases hg:p.all gdI
  · rw [hg] at h;cases h
  rw [hg] at h
  by_cases hAB:A≤B
  case neg=>rw [decide_eq_false hAB] at h;cases h
  rw [decide_eq_true hAB] at h ⊢;simp only [Bool.not_true,Bool.or_self,cond_false] at h ⊢;refine ⟨trivial,hAB,?_⟩
  by_cases h0:p=[]
  · subst h0
    rw [SK,decide_eq_true rfl,cond_true];refine ⟨fun _ x _ _=>?_,fun _=>rfl⟩;rw [GM,QP.ev_C];exact Rat.le_refl
  rw [SK,decide_eq_false h0] at h ⊢;simp only [cond_false] at h ⊢;have hP:=A7 hp hg
  cases sa:(aG p a).2
  · rw [sa] at h;cases h
  cases sb:(aG p b).2
  · rw [sa,sb] at h;cases h
  rw [sa,sb] at h;simp only [Bool.not_true,Bool.or_self,cond_false] at h ⊢;have va:=wU hP ha sa;have vb:=wU hP hb sb
  cases hneg:(decide (((aG p a).1).1<0)||decide (((aG p b).1).1<0))
  case true =>
    rw [cond_true];refine ⟨fun e=>(by cases e),fun e=>?_⟩
    exfalso
    rcases Bool.or_eq_true_iff.1 hneg with k | k
    · have:=of_decide_eq_true k
      rw [va,CA] at this;have:=e A Rat.le_refl hAB;grind
    have:=of_decide_eq_true k;rw [vb,CA] at this;have:=e B hAB Rat.le_refl;grind
  rw [hneg] at h;simp only [cond_false] at h ⊢;obtain ⟨na,nb⟩:=Bool.or_eq_false_iff.1 hneg;have na:=of_decide_eq_false na;have nb:=of_decide_eq_false nb;rw [va,CA] at na;rw [vb,CA] at nb;have a0:0≤(qp p).ev A:=Rat.not_lt.1 na;have b0:0≤(qp p).ev B:=Rat.not_lt.1 nb
  cases heq:(decide (a.n=b.n)&&decide (a.d=b.d))
  case true =>
    rw [cond_true];refine ⟨fun _ x x1 x2=>?_,fun _=>rfl⟩;simp only [Bool.and_eq_true,decide_eq_true_eq] at heq;have:a=b:=Rt.ext heq.1 heq.2;subst this;obtain rfl:=yH ha hb;rw [show x=A by grind];exact a0
  rw [heq] at h;simp only [cond_false] at h ⊢
  have hlt:A<B:=by
    apply Rat.not_le.1
    intro hn
    have e:A=B:=by grind
    subst e;have:=JO ha hb;subst this
    simp at heq
  cases hbn:((bJ p a b).2&&(bJ p a b).1.all nnI)
  case true =>
    rw [cond_true];refine ⟨fun _ x x1 x2=>?_,fun _=>rfl⟩;rw [Bool.and_eq_true] at hbn;rw [fg_ hP];exact aE_ hP h7 ha hb hlt hbn.1 hbn.2 x1 x2
  rw [hbn] at h;simp only [cond_false] at h ⊢
  cases hs:(aI p).2
  case false=>rw [hs] at h;cases h
  rw [hs] at h;simp only [cond_true] at h ⊢
  cases hR:(nnR p a b).2
  case false=>rw [hR] at h;cases h
  simp only [cond_true];have hSt:=(CF hp hs).resolve_left h0;unfold nnR at hR ⊢;rw [hs] at hR ⊢;exact YP hp hg hSt (wK p) 601 0 a b _ _ A B rfl dd_ ⟨ha,hb,hlt,va,vb,a0,b0⟩ hR
theorem MU {p:List I} {A B:Rat} (h:Sp p A B) (hAB:A≤B) {K:Nat} (hK:K≤93) {j:Int} {a b:Rt} {u v:Rat} (ha:a.At u) (hb:b.At v) (hi:It A B (2 ^ K) j u v):(aD p a b).2.1=0:=by
  have huv:=hi.le hAB;have sa:=uE h.tp ha ((hi.lo.sz h.sA h.sB).mono oo_);have sb:=uE h.tp hb ((hi.hi.sz h.sA h.sB).mono oo_);have hP:=A7 h.rgt h.gd;have va:=wU hP ha sa;have vb:=wU hP hb sb;rw [JS,h.nb,h.nl,ER ha hb,decide_eq_true huv,sa,sb];simp only [Bool.not_true,Bool.or_self,cond_false]
  cases hneg:(decide (((aG p a).1).1<0)||decide (((aG p b).1).1<0))
  case true=>rfl
  obtain ⟨na,nb⟩:=Bool.or_eq_false_iff.1 hneg;have na:=of_decide_eq_false na;have nb:=of_decide_eq_false nb;rw [va,CA] at na;rw [vb,CA] at nb;simp only [cond_false]
  cases heq:(decide (a.n=b.n)&&decide (a.d=b.d))
  case true=>rfl
  simp only [cond_false]
  have hlt:u<v:=by
    apply Rat.not_le.1
    intro hn
    have e:u=v:=by grind
    subst e;have:=JO ha hb;subst this
    simp at heq
  cases hbn:((bJ p a b).2&&(bJ p a b).1.all nnI)
  case true=>rfl
  rw [h.ok]
  have hR:(nnR p a b).2=true:=by
    unfold nnR;rw [h.ok];exact e3_ h hAB (93 - K) 601 0 K j a b _ _ u v oo_ rfl (Nat.zero_le _) hi ⟨ha,hb,hlt,va,vb,Rat.not_lt.1 na,Rat.not_lt.1 nb⟩
  rw [hR];rfl
theorem Sp.of' {p:List I} {c:Nat→Int} {A B:Rat} (hc:Po p c) (bd:Bd c 4 32) (h0:p≠[]) (sA:Sz A 12) (sB:Sz B 12):Sp p A B:=by
  obtain ⟨s1,s2,s3⟩:=D2 hc bd h0;exact ⟨hc.rgt,h0,hc.g,s1,(CF hc.rgt s1).resolve_left h0,s2,s3,⟨c,4,32,hc,bd,by decide,by decide⟩,sA,sB⟩
theorem uA {p:List I} {c:Nat→Int} {A B:Rat} (hc:Po p c) (bd:Bd c 4 32) (sA:Sz A 12) (sB:Sz B 12) (hAB:A≤B) {a b:Rt} (ha:a.At A) (hb:b.At B):(aD p a b).2.1=0:=by
  by_cases h0:p=[]
  · subst h0
    rw [JS,ER ha hb,decide_eq_true hAB,show aT []=false from CL.nb,SK,decide_eq_true rfl];rfl
  exact MU (Sp.of' hc bd h0 sA sB) hAB (K:=0) dd_ ha hb (It.one A B)
theorem PQ {p:List I} {d b:Int} (h:bU p d b=true) (hb:aX p=false):∃ c,Po p c∧Bd c (d+1).toNat b.toNat:=NQ h (by rw [wT] at hb;simpa using hb)
open Go Go.Kn Go.RowKit Go.ChangeShapes Go.WideShapes
section
variable {H:Type} {enc:TypeId×Value→H} {P:Program} {w:World} {base:Nat} {spare:Nat→Bool} {held:Bool} {α:Type} {e:El α}
theorem Rd.app {a:Addr} {A B:List Value} (h:Rd w a A) (k:Rd w (a.add A.length) B):Rd w a (A ++ B):=fun j v hj=>by
  rcases Nat.lt_or_ge j A.length with h' | h'
  · rw [List.getElem?_append_left h'] at hj;exact h j v hj
  rw [List.getElem?_append_right h'] at hj;have:=k _ _ hj;rw [JY,Nat.add_sub_cancel' h'] at this;exact this
theorem Rd.of_cells {a:Addr} {n:Nat} {cs:List Value} (h:w.cells? base a n=some cs):Rd w a cs:=fun j v hj=>by
  obtain ⟨_,hl,hc⟩:=World.cells?_some h;have hj':j<cs.length:=(List.getElem?_eq_some_iff.1 hj).1;have h1:=hc j oo_;rw [hj] at h1;exact h1
theorem TC {a:Addr} {len:Nat} (h:∀ i,i<len→∃ x:α,w.cells? base (a.add (i * e.n)) e.n=some (e.cs x)):∀ k,k≤len→∃ l:List α,l.length=k∧Rd w a (rows e l)
  | 0,_=>⟨[],rfl,fun j v hj=>by simp [rows] at hj⟩
  | k+1,hk=>by
    obtain ⟨l,hl,hr⟩:=TC h k oo_;obtain ⟨x,hx⟩:=h k oo_;refine ⟨l ++ [x],by simp [hl],?_⟩;rw [tK];refine Rd.app hr ?_;rw [kV,hl];have:=Rd.of_cells hx
    simpa [rows] using this
theorem dJ_ {T E:TypeId} {ls:List pK} {v:Value} {d:DataW H} {p:List MemPlace} {b0:Nat} {r:Reach} (hT:P.underlying T=some (.slice E)) (hl:lz P 8 E=some ls) (hn:P.cellsOf E=e.n)
    (op:∀ cs,LWF cs ls→∃ x:α,cs=e.cs x) (hv:Value.okWide P w r b0 T v) (ht:DataW.Trod enc P w base spare held T v d p):∃ l:List α,Slr w e v l:=by
  obtain ⟨fuel,hf⟩:=ht
  have hv':∃ a n c,v = .slice a n c:=by
    unfold Value.okWide at hv;rw [hT] at hv;unfold Cell.okWide at hv;rw [hT] at hv
    cases v <;> simp_all [Cell.ok]
  obtain ⟨a,n,c,rfl⟩:=hv';have e1:(Value.slice a n c).cells.toList=[.slice a n c]:=rfl;rw [e1] at hf;rcases DataW.trod_slice hT hf with ⟨h,_⟩ | ⟨a',len,cap,elems,rest,m,_,h,_,_,hlc,hc,hel,hall,_⟩
  · cases h
    exact ⟨[],none,0,rfl,Nat.le_refl _,by decide,.inl ⟨rfl,rfl,rfl⟩⟩
  · cases h
    have hx:∀ i,i<n→∃ x:α,w.cells? base (a'.add (i * e.n)) e.n=some (e.cs x):=fun i hi=>by
      have h1:=hall i hi;rw [List.getElem?_eq_getElem oo_,hn] at h1
      cases hc':w.cells? base (a'.add (i * e.n)) e.n with
      | none=>rw [hc'] at h1;cases h1
      | some cs =>
        rw [hc'] at h1;obtain ⟨x,hx⟩:=op cs (u9 8 hl h1);exact ⟨x,by rw [hx]⟩
    obtain ⟨l,hl',hr⟩:=TC hx n (Nat.le_refl _);exact ⟨l,some a',c,by rw [hl'],by omega,hc,.inr ⟨a',rfl,hr⟩⟩
end
theorem gf_ {cs:List Value} (h:LWF cs LI):∃ x:I,cs=elI.cs x:=by
  obtain ⟨x0,rfl⟩:=e7_ h;exact ⟨x0,by first | rfl | exact (List.append_nil _).symm | simp [El.cs,elI,bB]⟩
end Go.Num
