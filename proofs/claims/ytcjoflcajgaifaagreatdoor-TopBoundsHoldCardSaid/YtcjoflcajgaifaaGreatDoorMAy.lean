/- Lemmas: what they ask stands in their statements. -/
import Derived.Test.YtcjoflcajgaifaaGreatDoorMZ1
import Derived.ChangeArms
set_option linter.unusedSimpArgs false
set_option linter.unusedVariables false
namespace Go.Num
open Go Go.Kn
open QP (V Rb Two NN sg Sf)
def nnc (c:List (List I)) (a b:Rt) (right:W):W:=bif (right.1==0) then W.sub ((aU c a b).1) (wl 1) else (aU c a b).1
def nno (c:List (List I)) (p:List I) (a b:Rt) (k:Nat):Bool:=(aU c a b).2&&((aG p (aH a b)).2&&decide ((k:Int)<600))
theorem ZS (c:List (List I)) (p:List I) (n:Nat) (a b:Rt) (left right:W) (k:Nat) (is ok:Bool) :
  aJ c p (n+1) a b left right k is ok=bif (!is || !ok) then (is,ok) else (bif nno c p a b k then (bif decide (((aG p (aH a b)).1).1<0) then (false,true) else (bif (((nnc c a b right).1==0)||(((nnc c a b right).1==1)&&(decide (0<left.1)&&decide (0<right.1)))) then (is,true)
   else (aJ c p n (aH a b) b ((aG p (aH a b)).1) right (k+1) (aJ c p n a (aH a b) left ((aG p (aH a b)).1) (k+1) is true).1 (aJ c p n a (aH a b) left ((aG p (aH a b)).1) (k+1) is true).2))) else (is,false)):=by
 conv=>lhs;unfold aJ
 unfold nnc;rw [show ((aU c a b).2&&((aG p (aH a b)).2&&decide ((k:Int)<600)))=nno c p a b k from rfl];generalize aH a b=m;generalize aG p m=S;generalize aU c a b=C
 cases (!is || !ok)
 ·cases nno c p a b k
  ·rfl
  simp only [cond_true,cond_false]
  cases (right.1==0)
  ·simp only [cond_false]
   cases (C.1.1==0)
   ·simp only [cond_false,Bool.false_or]
   simp only [cond_true,Bool.true_or]
  simp only [cond_true]
  cases ((W.sub C.1 (wl 1)).1==0)
  ·simp only [cond_false,Bool.false_or]
  simp only [cond_true,Bool.true_or]
 rfl
theorem TU (c:List (List I)) (p:List I) (n:Nat) (a b:Rt) (left right:W) (k:Nat) (is ok:Bool) (h:is=false∨ok=false):aJ c p n a b left right k is ok=(is,ok):=by
 cases n with
 | zero=>rfl
 | succ n =>
  rw [ZS];rcases h with rfl|rfl
  ·rfl
  simp
theorem sg_zr {x:Rat}:(sg x=0) ↔ x=0:=by
 rcases QP.sg_three x with ⟨e,k⟩|⟨e,k⟩|⟨e,k⟩<;>rw [e]<;>constructor<;>intro h<;>first|omega|grind
theorem dp_ {x:Rat}:(0<sg x) ↔ 0<x:=by
 rcases QP.sg_three x with ⟨e,k⟩|⟨e,k⟩|⟨e,k⟩<;>rw [e]<;>constructor<;>intro h<;>first|omega|grind
theorem JJ {x:Rat}:(sg x<0) ↔ x<0:=by
 rcases QP.sg_three x with ⟨e,k⟩|⟨e,k⟩|⟨e,k⟩<;>rw [e]<;>constructor<;>intro h<;>first|omega|grind
structure Nk (p:List I) (a b:Rt) (left right:W) (u v:Rat):Prop where
 a:a.At u
 b:b.At v
 lt:u<v
 l:left.1=sg ((qp p).ev u)
 r:right.1=sg ((qp p).ev v)
 l0:0≤(qp p).ev u
 r0:0≤(qp p).ev v
theorem St.sf {p:List I} {L:List (List I)} (h:St p L):Sf (qp p) (qp (aT p)) (L.map qp):=by
 obtain ⟨f,l,⟨_,e⟩,_,hs,_⟩:=h.s;rw [← e];exact hs
theorem et_ {u v:Rat} (h:u<v):u<(u+v)*(1 / 2)∧(u+v)*(1 / 2)<v:=by constructor<;>grind
theorem gN_ {x:W} (h:-1000≤x.1∧x.1≤1000):(W.sub x (wl 1)).1=x.1 - 1:=by
 show IntKind.i64.wrap (x.1 - 1)=x.1 - 1
 rw [wi oo_]
theorem b6_ {p:List I} {L:List (List I)} (h:St p L) (hl:L.length≤100) {a b:Rt} {left right:W} {u v:Rat} (hk:Nk p a b left right u v) (hc:(aU L a b).2=true) :
  ((qp p).ev v=0∧(nnc L a b right).1+1+V (L.map qp) v=V (L.map qp) u∨(qp p).ev v≠0∧(nnc L a b right).1+V (L.map qp) v=V (L.map qp) u)∧0≤(nnc L a b right).1:=by
 obtain ⟨u',v',cx⟩:=SV h hl hc;obtain rfl:=xY hk.a cx.a;obtain rfl:=xY hk.b cx.b;have n:=cx.n;have an:=h.anti (Rat.le_of_lt hk.lt);have v1:=a8_ (L.map qp) u;have v2:=a8_ (L.map qp) v;rw [List.length_map] at v1 v2;unfold nnc
 by_cases h0:(qp p).ev v=0
 ·have hne:V (L.map qp) u≠V (L.map qp) v:=fun e=>(h.sf.pos hk.lt e).1 h0
  rw [show (right.1==0)=true by rw [hk.r,sg_zr.2 h0];rfl,cond_true,gN_ oo_];exact ⟨.inl ⟨h0,by omega⟩,by omega⟩
 have:¬ right.1=0:=by rw [hk.r,sg_zr];exact h0
 rw [show (right.1==0)=false by simpa using this,cond_false];exact ⟨.inr ⟨h0,by omega⟩,by omega⟩
theorem ZR {p:List I} (hp:Rgt p) (hg:p.all gdI=true) {L:List (List I)} (h:St p L) (hl:L.length≤100):∀ (n k:Nat) (a b:Rt) (left right:W) (u v:Rat),n+k=601→1≤n→Nk p a b left right u v →
  (aJ L p n a b left right k true true).2=true→((aJ L p n a b left right k true true).1=true ↔ NN (qp p) u v):=by
 intro n
 induction n with
 | zero=>intro k a b left right u v _ h1;omega
 | succ n ih =>
  intro k a b left right u v hn _ hk hok;rw [ZS] at hok ⊢;simp only [Bool.not_true,Bool.or_self,cond_false] at hok ⊢
  cases ho:nno L p a b k
  ·rw [ho] at hok;cases hok
  rw [ho] at hok;simp only [cond_true] at hok ⊢;unfold nno at ho;simp only [Bool.and_eq_true,decide_eq_true_eq] at ho;obtain ⟨hc,hS,hk6⟩:=ho;obtain ⟨w,hm⟩:=IE hS
  have hw:w=(u+v)*(1 / 2):=by
   have:=fs_ hk.a hk.b (by rw [← WR];exact iT hm);rw [← WR] at this;exact xY hm this
  subst hw;have hs:=KD (GS hp hg) hm hS;have ml:=et_ hk.lt
  cases hneg:decide ((aG p (aH a b)).1.1<0)
  ·rw [hneg] at hok
   have m0:0≤(qp p).ev ((u+v)*(1 / 2)):=by
    have:=of_decide_eq_false hneg;rw [hs,JJ] at this;grind
   simp only [cond_false] at hok ⊢;obtain ⟨cv,c0⟩:=b6_ h hl hk hc
   cases hst:(((nnc L a b right).1==0)||(((nnc L a b right).1==1)&&(decide (0<left.1)&&decide (0<right.1))))
   ·rw [hst] at hok
    simp only [cond_false] at hok ⊢;have k1:Nk p a (aH a b) left (aG p (aH a b)).1 u ((u+v)*(1 / 2)):=⟨hk.a,hm,ml.1,hk.l,hs,hk.l0,m0⟩;have k2:Nk p (aH a b) b (aG p (aH a b)).1 right ((u+v)*(1 / 2)) v:=⟨hm,hk.b,ml.2,hs,hk.r,m0,hk.r0⟩;have i1:=ih (k+1) a (aH a b) left _ u _ oo_ oo_ k1;have i2:=ih (k+1) (aH a b) b _ right _ v oo_ oo_ k2;have hv:=NN.halves (p:=qp p) (Rat.le_of_lt ml.1) (Rat.le_of_lt ml.2);generalize hr1:aJ L p n a (aH a b) left (aG p (aH a b)).1 (k+1) true true=r1 at *;obtain ⟨s1,o1⟩:=r1
    cases o1
    ·rw [TU _ _ _ _ _ _ _ _ _ _ (.inr O)] at hok;cases hok
    ·cases s1
     ·rw [TU _ _ _ _ _ _ _ _ _ _ (.inl O)]
      refine ⟨fun e=>(by cases e),fun e=>?_⟩;exact absurd ((i1 O).2 (hv.1 e).1) dd_
     rw [i2 hok,hv];exact ⟨fun e=>⟨(i1 O).1 O,e⟩,fun e=>e.2⟩
   simp only [cond_true];refine ⟨fun _=>?_,fun _=>trivial⟩;rcases Bool.or_eq_true_iff.1 hst with z|z
   ·have z:(nnc L a b right).1=0:=by simpa using z
    rcases cv with ⟨v0,cv⟩|⟨v0,cv⟩
    ·exact h.sf.nn0r ml.1 ml.2 oo_ hk.l0 m0 v0
    exact h.sf.nn0 hk.lt oo_ hk.l0 hk.r0
   simp only [Bool.and_eq_true,decide_eq_true_eq,beq_iff_eq] at z;obtain ⟨z1,z2,z3⟩:=z;rw [hk.l,dp_] at z2;rw [hk.r,dp_] at z3;rcases cv with ⟨v0,cv⟩|⟨v0,cv⟩
   ·rw [v0] at z3;exact absurd z3 dd_
   exact h.sf.nn1 oo_ z2 z3
  simp only [cond_true];refine ⟨fun e=>(by cases e),fun e=>?_⟩;have:=of_decide_eq_true hneg;rw [hs,JJ] at this;have:=e _ (Rat.le_of_lt ml.1) (Rat.le_of_lt ml.2)
  grind
open QP (V Rb Two)
theorem Sp.nb {p:List I} {A B:Rat} (h:Sp p A B):aP p=false:=by rw [lY (MC h.rgt),h.gd];rfl
theorem TF {a b:Rt} {A B:Rat} (ha:a.At A) (hb:b.At B):mM a b=decide (A≤B):=by
 unfold mM;rw [cU_ ha,cU_ hb];simp only [Bool.not_false,Bool.true_and];exact decide_eq_decide.2 (QJ ha hb)
def nnI (x:I):Bool:=decide (0≤(Z.signW x.dec).1)
theorem OS (p:List I) (a b:Rt):∀ (l:List I) (all:Bool),fH p a b l all=(all&&l.all nnI)
 | [],all=>by unfold fH;simp
 | x::l,all=>by
  unfold fH;rw [OS p a b l,List.all_cons,Bool.and_assoc];rfl
def nnR (p:List I) (a b:Rt):Bool×Bool:=aJ ((aV p).1) p 601 a b ((aG p a).1) ((aG p b).1) 0 true ((aV p).2)
theorem WS (p:List I) (a b:Rt):bB p a b=bif (aP p || !mM a b) then (false,wl 1) else bif ((p.length:Int)==0) then (true,wl 0) else
  bif (!((aG p a).2) || !((aG p b).2)) then (false,wl 30) else bif (decide (((aG p a).1).1<0)||decide (((aG p b).1).1<0)) then (false,wl 0) else
  bif (decide (a.n=b.n)&&decide (a.d=b.d)) then (true,wl 0) else bif ((aL p a b).2&&(aL p a b).1.all nnI) then (true,wl 0) else
  bif (aV p).2 then (bif (nnR p a b).2 then ((nnR p a b).1,wl 0) else (false,wl 30)) else (false,wl 30):=by
 unfold bB;rw [OS,Bool.true_and];rw [show aJ ((aV p).1) p 601 a b ((aG p a).1) ((aG p b).1) 0 true ((aV p).2)=nnR p a b from rfl];generalize nnR p a b=R;generalize aL p a b=Bn;generalize aG p a=Sa;generalize aG p b=Sb;generalize (aV p).2=st;generalize mM a b=g;generalize aP p=ib
 cases (ib || !g)
 ·simp only [cond_false]
  cases ((p.length:Int)==0)
  ·simp only [cond_false]
   cases (!Sa.2 || !Sb.2)
   ·simp only [cond_false]
    cases (decide (Sa.1.1<0)||decide (Sb.1.1<0))
    ·simp only [cond_false]
     cases (decide (a.n=b.n)&&decide (a.d=b.d))
     ·simp only [cond_false]
      cases Bn.2
      ·rfl
      simp only [cond_true,Bool.true_and,ap]
     rfl
    rfl
   rfl
  rfl
 rfl
theorem SK {p:List I} {c:Nat→Int} {a b:Rt} {qa qb:Rat} (h:Po p c) (h7:p.length≤12) (ha:a.At qa) (hb:b.At qb) (hab:qa<qb) (hg:(aL p a b).2=true) (hf:(aL p a b).1.all nnI=true) {t:Rat} (t0:qa≤t) (t1:t≤qb):0≤vl (cR c) t p.length:=by
 by_cases h0:p=[]
 ·rw [h0];exact Rat.le_refl
 obtain ⟨n,hp⟩:∃ n,p.length=n+1:=⟨p.length - 1,by have:=List.length_pos_iff.2 h0;omega⟩
 have hn:n≤11:=by omega
 obtain ⟨γ,g,W,G,l,gp,Wp,Gp,hz,hv,hl,lb,hL⟩:=WP h hp hn ha hb hg;rw [hL] at hf
 have hlz:∀ i,i≤n→0≤l i:=fun i hi=>by
  have hx:E (Z.of (l i))∈(List.range (n+1)).map (fun i=>E (Z.of (l i))):=List.mem_map.2 ⟨i,List.mem_range.2 oo_,rfl⟩;have:=List.all_eq_true.1 hf _ hx;unfold nnI at this;rw [bR,iQ (lb i hi),decide_eq_true_eq] at this;exact Int.sign_nonneg_iff.1 this
 obtain ⟨y,hy⟩:∃ y:Rat,y=(t - qa) / (qb - qa):=⟨_,rfl⟩
 have dp:0<qb - qa:=by grind
 have hd0:qb - qa≠0:=by grind
 have ey:(qb - qa)*y=t - qa:=by rw [hy,Rat.mul_comm];exact Rat.div_mul_cancel hd0
 have y0:0≤y:=rK dp (by grind);have y1:0≤1 - y:=rK dp (by grind);have hs:=NH n γ y
 have k1:0≤fF (fun i=>(bs γ n i:Rat)*((bin n i:Nat):Rat)*(y ^ i*(1 - y) ^ (n - i))) (n+1):=MS fun i hi=>by
  have b1:0≤bs γ n i:=by rw [← hl i oo_];exact Int.mul_nonneg oo_ (hlz i oo_)
  have b2:(0:Rat)≤((bs γ n i:Int):Rat):=Rat.intCast_nonneg.2 b1
  have b3:(0:Rat)≤((bin n i:Nat):Rat):=by
   rw [show ((bin n i:Nat):Rat)=(((bin n i:Nat):Int):Rat) from (Rat.intCast_natCast _).symm];exact Rat.intCast_nonneg.2 oo_
  exact Rat.mul_nonneg (Rat.mul_nonneg b2 b3) (Rat.mul_nonneg (BU y0 i) (BU y1 _))
 rw [hs] at k1;have k2:=rK (Rat.intCast_pos.2 (FL n)) k1;have k3:vl (cR γ) y 26=fF (fun k=>(γ k:Rat)*y ^ k) (n+1):=rX (n:=n+1) (fun i hi=>by unfold cR;rw [hz i hi];rfl) oo_;rw [← k3] at k2;have k4:=hv y;rw [ey,show qa+(t - qa)=t by grind] at k4;refine rK (Rat.intCast_pos.2 Wp) ?_;rw [← k4];exact Rat.mul_nonneg (Rat.le_of_lt (Rat.intCast_pos.2 gp)) k2
theorem T3 {p:List I} {c:Nat→Int} (h:Po p c) (x:Rat):(qp p).ev x=vl (cR c) x p.length:=by
 rw [tW h h.ends,QP.ev_vl (n:=p.length) (fun i hi=>by rw [kT,h.zero hi];rfl)];rfl
theorem U1 {p:List I} (hp:Rgt p) (h7:p.length≤12) {a b:Rt} {A B:Rat} (ha:a.At A) (hb:b.At B) (h:(bB p a b).2.1=0):p.all gdI=true∧A≤B∧((bB p a b).1=true ↔ NN (qp p) A B):=by
 rw [WS] at h ⊢;rw [lY (MC hp),TF ha hb] at h ⊢
 cases hg:p.all gdI
 ·rw [hg] at h;cases h
 rw [hg] at h
 by_cases hAB:A≤B
 case neg=>rw [decide_eq_false hAB] at h;cases h
 rw [decide_eq_true hAB] at h ⊢;simp only [Bool.not_true,Bool.or_self,cond_false] at h ⊢;refine ⟨trivial,hAB,?_⟩
 by_cases h0:p=[]
 ·subst h0
  rw [da_,decide_eq_true O,cond_true];refine ⟨fun _ x _ _=>?_,fun _=>rfl⟩;rw [R2,QP.ev_C];exact Rat.le_refl
 rw [da_,decide_eq_false h0] at h ⊢;simp only [cond_false] at h ⊢;have hP:=GS hp hg
 cases sa:(aG p a).2
 ·rw [sa] at h;cases h
 cases sb:(aG p b).2
 ·rw [sa,sb] at h;cases h
 rw [sa,sb] at h;simp only [Bool.not_true,Bool.or_self,cond_false] at h ⊢;have va:=KD hP ha sa;have vb:=KD hP hb sb
 cases hneg:(decide (((aG p a).1).1<0)||decide (((aG p b).1).1<0))
 case true =>
  rw [cond_true];refine ⟨fun e=>(by cases e),fun e=>?_⟩
  exfalso
  rcases Bool.or_eq_true_iff.1 hneg with k|k
  ·have:=of_decide_eq_true k
   rw [va,JJ] at this;have:=e A Rat.le_refl hAB;grind
  have:=of_decide_eq_true k;rw [vb,JJ] at this;have:=e B hAB Rat.le_refl;grind
 rw [hneg] at h;simp only [cond_false] at h ⊢;obtain ⟨na,nb⟩:=Bool.or_eq_false_iff.1 hneg;have na:=of_decide_eq_false na;have nb:=of_decide_eq_false nb;rw [va,JJ] at na;rw [vb,JJ] at nb;have a0:0≤(qp p).ev A:=Rat.not_lt.1 na;have b0:0≤(qp p).ev B:=Rat.not_lt.1 nb
 cases heq:(decide (a.n=b.n)&&decide (a.d=b.d))
 case true =>
  rw [cond_true];refine ⟨fun _ x x1 x2=>?_,fun _=>rfl⟩;simp only [Bool.and_eq_true,decide_eq_true_eq] at heq;have:a=b:=Rt.ext heq.1 heq.2;subst this;obtain rfl:=xY ha hb;rw [show x=A by grind];exact a0
 rw [heq] at h;simp only [cond_false] at h ⊢
 have hlt:A<B:=by
  apply Rat.not_le.1
  intro hn
  have e:A=B:=by grind
  subst e;have:=dC_ ha hb;subst this
  simp at heq
 cases hbn:((aL p a b).2&&(aL p a b).1.all nnI)
 case true =>
  rw [cond_true];refine ⟨fun _ x x1 x2=>?_,fun _=>rfl⟩;rw [Bool.and_eq_true] at hbn;rw [T3 hP];exact SK hP h7 ha hb hlt hbn.1 hbn.2 x1 x2
 rw [hbn] at h;simp only [cond_false] at h ⊢
 cases hs:(aV p).2
 case false=>rw [hs] at h;cases h
 rw [hs] at h;simp only [cond_true] at h ⊢
 cases hR:(nnR p a b).2
 case false=>rw [hR] at h;cases h
 simp only [cond_true];have hSt:=(PT hp hs).resolve_left h0;unfold nnR at hR ⊢;rw [hs] at hR ⊢;exact ZR hp hg hSt (JM p) 601 0 a b _ _ A B O dd_ ⟨ha,hb,hlt,va,vb,a0,b0⟩ hR
theorem gZ_ {p:List I} {a b:Rt} {A B:Rat} (hp:aP p=false) (ha:a.At A) (hb:b.At B) (hAB:A≤B):(bB p a b).2.1=0∨(bB p a b).2.1=30:=by
 rw [WS,hp,TF ha hb,decide_eq_true hAB];simp only [Bool.not_true,Bool.or_self,cond_false]
 cases ((p.length:Int)==0)
 ·cases (!((aG p a).2) || !((aG p b).2))
  ·cases (decide (((aG p a).1).1<0)||decide (((aG p b).1).1<0))
   ·cases (decide (a.n=b.n)&&decide (a.d=b.d))
    ·cases ((aL p a b).2&&(aL p a b).1.all nnI)
     ·generalize nnR p a b=R
      cases (aV p).2
      ·exact .inr O
      ·cases R.2
       ·exact .inr O
       exact .inl O
     exact .inl O
    exact .inl O
   exact .inl O
  exact .inr O
 exact .inl O
open QP (NN sg)
theorem bm_ {p:List I} {c:Nat→Int} {a b:Rt} {qa qb:Rat} (hp:Po p c) (hb:Bd c 6 20) (ha:a.At qa) (hq:b.At qb) (sa:Sz qa 8) (sq:Sz qb 8):(aL p a b).2=true:=by
 have hd:=dN_ hq ha sq sa dd_;rw [← QQ] at hd
 have sd:Sz (qb - qa) 17:=by rw [Rat.sub_eq_add_neg];exact sq.add sa.neg
 obtain ⟨w,hw⟩:∃ w:Nat,w=38:=⟨_,rfl⟩;obtain ⟨g,γ,W,hg,hW,hC,bC,_,hγ,hv⟩:=QL (e:=3) (w:=w) hp hb ha hd (sa.mono dd_) sd dd_ dd_ (by rw [hw];decide) (by rw [hw];decide) (by rw [hw];decide)
 have hf:gS [a,b]=true:=by rw [N9,hJ,hJ,iT ha,iT hq];rfl
 by_cases h0:p=[]
 ·subst h0
  unfold aL;rw [show aP []=false from B9.nb,hf,hC.nb];rfl
 obtain ⟨n,t1,t2,t3⟩:=hp.top h0
 have hn:n≤6:=by have:=hp.len hb;omega
 obtain ⟨B,hB⟩:∃ B:Nat,B=266:=⟨_,rfl⟩;obtain ⟨G,l,hG,hl,lb,hL⟩:=WO t1 hn hp.nb hf hC (B:=B) (fun k=>Nat.lt_of_lt_of_le (bC.b k) (AM oo_)) oo_;rw [hL]
theorem bl_ {p:List I} {c:Nat→Int} {a b:Rt} {qa qb:Rat} (h:Po p c) (h7:p.length≤12) (ha:a.At qa) (hb:b.At qb) (hg:(aL p a b).2=true) (hf:(aL p a b).1.all nnI=true) {t:Rat} (t0:qa≤t) (t1:t≤qb):0≤vl (cR c) t p.length:=by
 rcases Rat.le_iff_lt_or_eq.1 (show qa≤qb by grind) with hlt|he
 ·exact SK h h7 ha hb hlt hg hf t0 t1
 obtain rfl:t=qa:=by grind
 by_cases h0:p=[]
 ·rw [h0];exact Rat.le_refl
 obtain ⟨n,hp⟩:∃ n,p.length=n+1:=⟨p.length - 1,by have:=List.length_pos_iff.2 h0;omega⟩
 have hn:n≤11:=by omega
 obtain ⟨γ,g,W,G,l,gp,Wp,Gp,hz,hv,hl,lb,hL⟩:=WP h hp hn ha hb hg;rw [hL] at hf
 have hlz:∀ i,i≤n→0≤l i:=fun i hi=>by
  have hx:E (Z.of (l i))∈(List.range (n+1)).map (fun i=>E (Z.of (l i))):=List.mem_map.2 ⟨i,List.mem_range.2 oo_,rfl⟩;have:=List.all_eq_true.1 hf _ hx;unfold nnI at this;rw [bR,iQ (lb i hi),decide_eq_true_eq] at this;exact Int.sign_nonneg_iff.1 this
 have hs:=NH n γ 0;have y0:(0:Rat)≤0:=Rat.le_refl
 have y1:(0:Rat)≤1 - 0:=by grind
 have k1:0≤fF (fun i=>(bs γ n i:Rat)*((bin n i:Nat):Rat)*((0:Rat) ^ i*(1 - 0) ^ (n - i))) (n+1):=MS fun i hi=>by
  have b1:0≤bs γ n i:=by rw [← hl i oo_];exact Int.mul_nonneg oo_ (hlz i oo_)
  have b2:(0:Rat)≤((bs γ n i:Int):Rat):=Rat.intCast_nonneg.2 b1
  have b3:(0:Rat)≤((bin n i:Nat):Rat):=by
   rw [show ((bin n i:Nat):Rat)=(((bin n i:Nat):Int):Rat) from (Rat.intCast_natCast _).symm];exact Rat.intCast_nonneg.2 oo_
  exact Rat.mul_nonneg (Rat.mul_nonneg b2 b3) (Rat.mul_nonneg (BU y0 i) (BU y1 _))
 rw [hs] at k1;have k2:=rK (Rat.intCast_pos.2 (FL n)) k1;have k3:vl (cR γ) 0 26=fF (fun k=>(γ k:Rat)*(0:Rat) ^ k) (n+1):=rX (n:=n+1) (fun i hi=>by unfold cR;rw [hz i hi];rfl) oo_;rw [← k3] at k2;have k4:=hv 0;rw [Rat.mul_zero,Rat.add_zero] at k4;refine rK (Rat.intCast_pos.2 Wp) ?_;rw [← k4];exact Rat.mul_nonneg (Rat.intCast_nonneg.2 oo_) k2
theorem PY (p:List I) (x:Iv) (t r:Rt) (s:Iv) (k:Int) (y:Iv):∀ (f m:Nat) (fl:Bool),(aL p x.lo x.hi).1.length - m<f→m≤(aL p x.lo x.hi).1.length →
  eH p x t r s k y r s f fl m=(fl&&((aL p x.lo x.hi).1.drop m).all nnI,(aL p x.lo x.hi).1.length)
 | 0,m,fl,h,_=>by omega
 | f+1,m,fl,h,h2=>by
  unfold eH
  by_cases hm:m<(aL p x.lo x.hi).1.length
  ·rw [decide_eq_true oo_,cond_true,PY p x t r s k y f (m+1) _ oo_ oo_,List.drop_eq_getElem_cons hm,List.all_cons,Bool.and_assoc]
   have e:(aL p x.lo x.hi).1.getD m I0=(aL p x.lo x.hi).1[m]:=by simp [List.getD,hm]
   rw [e];rfl
  rw [decide_eq_false oo_,cond_false]
  have e:m=(aL p x.lo x.hi).1.length:=by omega
  rw [e,List.drop_length,List.all_nil,Bool.and_true]
def ho (c:Nat→Int) (s:Rat) (L:Nat):Nat→Rat
 | 0=>0
 | m+1=>ho c s L m*s+((c (L - 1 - m):Int):Rat)
theorem c5_ (c:Nat→Int) (s:Rat) (L:Nat):∀ m,m≤L→vl (cR c) s L=ho c s L m*s ^ (L - m)+vl (cR c) s (L - m)
 | 0,_=>by unfold ho;rw [Rat.zero_mul,Rat.zero_add];rfl
 | m+1,h=>by
  rw [c5_ c s L m oo_];obtain ⟨j,hj⟩:∃ j,L - m=j+1:=⟨L - m - 1,by omega⟩
  have h1:L - (m+1)=j:=by omega
  have h2:L - 1 - m=j:=by omega
  rw [hj,h1,show ho c s L (m+1)=ho c s L m*s+((c (L - 1 - m):Int):Rat) from rfl,h2]
  show _=_+vl (cR c) s j
  have h3:vl (cR c) s (j+1)=vl (cR c) s j+cR c j*s ^ j:=rfl;rw [h3,Rat.pow_succ];unfold cR
  grind
theorem ek_ (c:Nat→Int) (s:Rat) (L:Nat):vl (cR c) s L=ho c s L L:=by
 rw [c5_ c s L L (Nat.le_refl _),Nat.sub_self,Rat.pow_zero,Rat.mul_one]
 show _+0=_
 rw [Rat.add_zero]
theorem W3 {v:Int} (h:cM v):(lR (E (Z.of v))).At (v:Rat):=by
 unfold lR;rw [EE];exact uM h B1 dd_ (by rw [Rat.num_intCast,Rat.den_intCast];rfl)
theorem DK {p:List I} {c:Nat→Int} (hp:Po p c) (hb:Bd c 6 20) {x:Iv} {lo hi:Rat} (hx:x.At lo hi) (sl:Sz lo 8) (sh:Sz hi 8) (t r:Rt) (r1:Iv):∀ (f m:Nat) (y:Iv) (l h:Rat),m≤p.length→p.length - m<f→y.Az l h (1+29*m) →
  (∀ s,lo≤s→s≤hi→l≤ho c s p.length m∧ho c s p.length m≤h) →
  ∃ y' l' h',eG p x t r r1 f ((p.length:Int) - 1 - m) y=(-1,y')∧Iv.At y' l' h'∧∀ s,lo≤s→s≤hi→l'≤vl (cR c) s p.length∧vl (cR c) s p.length≤h'
 | 0,m,y,l,h,h1,h2,_,_=>by omega
 | f+1,m,y,l,h,h1,h2,hy,hs=>by
  have h6:p.length≤6:=hp.len hb;unfold eG
  by_cases hm:m<p.length
  ·rw [decide_eq_true (show (0:Int)≤(p.length:Int) - 1 - m by omega),cond_true,show (((p.length:Int) - 1 - m).toNat)=p.length - 1 - m by omega,hp.get]
   have hw:=OfP (W3 (hp.B (p.length - 1 - m)));have hM:=gY_ hy ⟨hx,sl,sh⟩ oo_;have sz:∀ u v:Rat,Sz u (1+29*m)→Sz v 8→Sz (u*v) (1+29*m+8):=fun u v a b=>a.mul b
   have z1:Sz (mn4 (l*lo) (l*hi) (h*lo) (h*hi)) (1+29*m+8):=by
    rcases bZ_ (l*lo) (l*hi) (h*lo) (h*hi) with e|e|e|e<;>rw [e]
    ·exact sz _ _ hy.sp sl
    ·exact sz _ _ hy.sp sh
    ·exact sz _ _ hy.sq sl
    exact sz _ _ hy.sq sh
   have z2:Sz (mx4 (l*lo) (l*hi) (h*lo) (h*hi)) (1+29*m+8):=by
    rcases b3_ (l*lo) (l*hi) (h*lo) (h*hi) with e|e|e|e<;>rw [e]
    ·exact sz _ _ hy.sp sl
    ·exact sz _ _ hy.sp sh
    ·exact sz _ _ hy.sq sl
    exact sz _ _ hy.sq sh
   have sc:Sz ((c (p.length - 1 - m):Int):Rat) 20:=Sz.int (hb.b _) dd_;have hA:=gV_ ⟨hM,z1,z2⟩ ⟨hw,sc,sc⟩ oo_
   have e1:1+29*m+8+20+1=1+29*(m+1):=by omega
   have a1:=z1.add sc;have a2:=z2.add sc;rw [e1] at a1 a2
   have e2:(p.length:Int) - 1 - m - 1=(p.length:Int) - 1 - ((m+1:Nat):Int):=by omega
   rw [e2];refine DK hp hb hx sl sh t r r1 f (m+1) _ _ _ oo_ oo_ ⟨hA,a1,a2⟩ fun s s1 s2=>?_;obtain ⟨g1,g2⟩:=hs s s1 s2;have:=ex_ g1 g2 s1 s2;rw [show ho c s p.length (m+1)=ho c s p.length m*s+((c (p.length - 1 - m):Int):Rat) from rfl];exact ⟨by grind,by grind⟩
  rw [decide_eq_false (show ¬ (0:Int)≤(p.length:Int) - 1 - m by omega),cond_false]
  have e:m=p.length:=by omega
  refine ⟨y,l,h,by rw [e];congr 1;omega,hy.at',fun s s1 s2=>?_⟩;have:=hs s s1 s2;rw [ek_,← e];rw [e] at this ⊢;exact this
theorem hk_ {q:Rat}:q.num<0 ↔ q<0:=by
 have:=@Rat.num_nonneg q
 constructor
 ·intro h;exact Rat.not_le.1 fun e=>by have:=this.2 e;omega
 intro h;exact Int.not_le.1 fun e=>absurd (this.1 e) (Rat.not_le.2 h)
attribute [local irreducible] aL bB aG lJ gW in
theorem WW (p:List I) (x:Iv) (t:Rt):eU p x t=true:=by
 unfold eU
 cases hc:(!(dS p 5 20)||((aP p)||((gO x)||(!(dN x.lo (wl 8))||(!(dN x.hi (wl 8))||(!(dN t (wl 8))))))))
 case true=>rfl
 simp only [Bool.or_eq_false_iff,Bool.not_eq_false'] at hc;obtain ⟨fp,bp,bx,b1,b2,b3⟩:=hc;have rp:=(YG (p:=p) (d:=5) (b:=20) (by rw [fp];rfl)).1;obtain ⟨c,hp,hb⟩:=N7 fp (b4_ (MC rp) bp);have hb:Bd c 6 20:=hb;obtain ⟨A,hA,sA⟩:=QU b1;obtain ⟨B,hB,sB⟩:=QU b2;obtain ⟨T,hT,sT⟩:=QU b3;have sA:Sz A 8:=sA;have sB:Sz B 8:=sB;have sT:Sz T 8:=sT
 have hx:x.At A B:=by
  obtain ⟨p',q',h⟩:=ZT bx;have e1:=xY h.lo hA;have e2:=xY h.hi hB;subst e1 e2;exact h
 have hAB:=hx.le;have h6:p.length≤6:=hp.len hb;obtain ⟨r,hre⟩:∃ r:Rt,r=(⟨(bif (gW x t) then t.n else x.lo.n),(bif (gW x t) then t.d else x.lo.d)⟩:Rt):=⟨_,rfl⟩
 obtain ⟨V,hV,sV,v1,v2⟩:∃ V,r.At V∧Sz V 8∧A≤V∧V≤B:=by
  rw [fV_ hx hT] at hre
  by_cases h:A≤T∧T≤B
  ·rw [decide_eq_true h] at hre;exact ⟨T,by rw [hre];exact hT,sT,h.1,h.2⟩
  rw [decide_eq_false h] at hre;exact ⟨A,by rw [hre];exact hA,sA,Rat.le_refl,hAB⟩
 have s0:Sz (0:Rat) 1:=⟨by decide,by decide⟩;obtain ⟨y',l',h',e0,hy,hs⟩:=DK hp hb hx sA sB t r (eA (mL (wl 0))) (p.length+1) 0 (eA (mL (wl 0))) 0 0 (Nat.zero_le _) oo_ ⟨OfP cJ_,s0,s0⟩ (fun s _ _=>⟨Rat.le_refl,Rat.le_refl⟩);rw [show (p.length:Int) - 1 - ((0:Nat):Int)=(p.length:Int) - 1 by omega] at e0;have ev:vl (cR c) V 6=vl (cR c) V p.length:=rX (n:=p.length) (fun i hi=>by unfold cR;rw [hp.zero hi];rfl) h6;have hE:=a3_ (e:=3) hp hb hV sV dd_ dd_;obtain ⟨g1,g2⟩:=NC (e:=3) hp hb hV sV dd_ dd_;rw [ev] at hE g2;have hB2:=bm_ hp hb hA hB sA sB;have hv:=hs V v1 v2;simp only [cond_false,ap];rw [← hre,e0];simp only [];rw [fV_ hy hE,decide_eq_true hv,cond_true,PY p x t r _ _ _ _ 0 _ oo_ (Nat.zero_le _),List.drop_zero,hB2,g1];simp only [Bool.not_true,Bool.false_or,Bool.true_and];rcases gZ_ hp.nb hA hB hAB with he|he
 ·rw [he]
  obtain ⟨_,_,hn⟩:=U1 hp.rgt oo_ hA hB he
  cases hr:(bB p x.lo x.hi).1
  ·have hnn:¬ NN (qp p) A B:=fun e=>by rw [hn.2 e] at hr;cases hr
   have f1:((aL p x.lo x.hi).1.all nnI)=false:=by
    rw [Bool.eq_false_iff];intro hf
    exact hnn fun s s1 s2=>by rw [T3 hp];exact bl_ hp oo_ hA hB hB2 hf s1 s2
   have f2:(lM y'.lo).1<0:=by
    rw [hu_ hy.lo];refine Int.sign_neg_iff.2 (hk_.2 (Rat.not_le.1 fun h0=>hnn fun s s1 s2=>(by rw [T3 hp];exact Rat.le_trans h0 (hs s s1 s2).1)))
   rw [f1,decide_eq_true f2];rfl
  have h0:¬ ((aG p r).1).1<0:=by
   rw [g2];intro h;have h1:=hk_.1 (Int.sign_neg_iff.1 h);have h2:=hn.1 hr V v1 v2;rw [T3 hp] at h2
   grind
  rw [decide_eq_false h0];rfl
 rw [he];rfl
open Go Go.Kn Go.RowKit Go.ChangeShapes Go.WideShapes
section
variable {H:Type} {enc:TypeId×Value→H} {P:Program} {w:World} {base:Nat} {spare:Nat→Bool} {held:Bool} {α:Type} {e:El α}
theorem Rd.app {a:Addr} {A B:List Value} (h:Rd w a A) (k:Rd w (a.add A.length) B):Rd w a (A++B):=fun j v hj=>by
 rcases Nat.lt_or_ge j A.length with h'|h'
 ·rw [List.getElem?_append_left h'] at hj;exact h j v hj
 rw [List.getElem?_append_right h'] at hj;have:=k _ _ hj;rw [KH,Nat.add_sub_cancel' h'] at this;exact this
theorem Rd.of_cells {a:Addr} {n:Nat} {cs:List Value} (h:w.cells? base a n=some cs):Rd w a cs:=fun j v hj=>by
 obtain ⟨_,hl,hc⟩:=World.cells?_some h;have hj':j<cs.length:=(List.getElem?_eq_some_iff.1 hj).1;have h1:=hc j oo_;rw [hj] at h1;exact h1
theorem T7 {a:Addr} {len:Nat} (h:∀ i,i<len→∃ x:α,w.cells? base (a.add (i*e.n)) e.n=some (e.cs x)):∀ k,k≤len→∃ l:List α,l.length=k∧Rd w a (rows e l)
 | 0,_=>⟨[],rfl,fun j v hj=>by simp [rows] at hj⟩
 | k+1,hk=>by
  obtain ⟨l,hl,hr⟩:=T7 h k oo_;obtain ⟨x,hx⟩:=h k oo_;refine ⟨l++[x],by simp [hl],?_⟩;rw [sD];refine Rd.app hr ?_;rw [j5,hl];have:=Rd.of_cells hx
  simpa [rows] using this
theorem eH_ {T E:TypeId} {ls:List oA} {v:Value} {d:DataW H} {p:List MemPlace} {b0:Nat} {r:Reach} (hT:P.underlying T=some (.slice E)) (hl:lz P 8 E=some ls) (hn:P.cellsOf E=e.n)
  (op:∀ cs,LWF cs ls→∃ x:α,cs=e.cs x) (hv:Value.okWide P w r b0 T v) (ht:DataW.Trod enc P w base spare held T v d p):∃ l:List α,Slr w e v l:=by
 obtain ⟨fuel,hf⟩:=ht
 have hv':∃ a n c,v = .slice a n c:=by
  unfold Value.okWide at hv;rw [hT] at hv;unfold Cell.okWide at hv;rw [hT] at hv
  cases v<;>simp_all [Cell.ok]
 obtain ⟨a,n,c,rfl⟩:=hv';have e1:(Value.slice a n c).cells.toList=[.slice a n c]:=rfl;rw [e1] at hf;rcases DataW.trod_slice hT hf with ⟨h,_⟩|⟨a',len,cap,elems,rest,m,_,h,_,_,hlc,hc,hel,hall,_⟩
 ·cases h
  exact ⟨[],none,0,rfl,Nat.le_refl _,by decide,.inl ⟨rfl,rfl,rfl⟩⟩
 ·cases h
  have hx:∀ i,i<n→∃ x:α,w.cells? base (a'.add (i*e.n)) e.n=some (e.cs x):=fun i hi=>by
   have h1:=hall i hi;rw [List.getElem?_eq_getElem oo_,hn] at h1
   cases hc':w.cells? base (a'.add (i*e.n)) e.n with
   | none=>rw [hc'] at h1;cases h1
   | some cs =>
    rw [hc'] at h1;obtain ⟨x,hx⟩:=op cs (uU 8 hl h1);exact ⟨x,by rw [hx]⟩
  obtain ⟨l,hl',hr⟩:=T7 hx n (Nat.le_refl _);exact ⟨l,some a',c,by rw [hl'],by omega,hc,.inr ⟨a',rfl,hr⟩⟩
end
theorem ho_ {cs:List Value} (h:LWF cs LI):∃ x:I,cs=elI.cs x:=by
 obtain ⟨x0,rfl⟩:=ga_ h;exact ⟨x0,by first|rfl|exact (List.append_nil _).symm|simp [El.cs,elI,aW]⟩
end Go.Num
