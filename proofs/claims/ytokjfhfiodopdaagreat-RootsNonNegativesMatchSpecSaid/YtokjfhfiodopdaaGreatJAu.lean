/- Lemmas: what they ask stands in their statements. -/
import Derived.Test.YtokjfhfiodopdaaGreatJRg
set_option linter.unusedSimpArgs false
set_option linter.unusedVariables false
namespace Go.Num
open Go Go.Kn
open QP (V Rb Two Cub)
theorem o2 {s:Nat} {x:List I} {y:Rt} {q:Rat} (hT:DO s x) (hy:y.At q) (sq:Sz q s):(aH x y).2=true:=by
 obtain ⟨c,n,b,hc,hb,hn,hk⟩:=hT;exact (ZF (e:=2) hc hb hy sq hn oo_).1
theorem Z4 (c:List (List I)) (x:Rt):∀ (l:List (List I)) (s n:W),(∀ f∈l,(aH f x).2=true)→∃ r,eB c x l s n = .inl r
 | [],s,n,_=>⟨_,rfl⟩
 | f::l,s,n,h=>by
  unfold eB;have hr:=HY f x;have hl:∀ g∈l,(aH g x).2=true:=fun g hg=>h g (List.mem_cons_of_mem _ hg);rw [h f (List.mem_cons_self),cond_true];rw [show ((aH f x).1.1==(-2))=false by simp;omega,cond_false]
  cases ((aH f x).1.1 != 0)
  ·exact Z4 c x l _ _ hl
  ·cases ((s.1 != 0)&&((aH f x).1.1 != s.1))<;>exact Z4 c x l _ _ hl
theorem H5 {L:List (List I)} {x:Rt} (h:∀ f∈L,(aH f x).2=true):(cV L x).2=true:=by
 obtain ⟨r,e⟩:=Z4 L x L (wl 0) (wl 0) h;unfold cV;rw [e];rfl
theorem ai_ {s:Nat} {L:List (List I)} {a b:Rt} {u v:Rat} (hT:∀ f∈L,DO s f) (ha:a.At u) (hb:b.At v) (su:Sz u s) (sv:Sz v s):(aJ L a b).2=true:=by
 unfold aJ
 show ((cV L a).2&&(cV L b).2)=true
 rw [H5 fun f hf=>o2 (hT f hf) ha su,H5 fun f hf=>o2 (hT f hf) hb sv];rfl
theorem SE {x:Rt} (h:j6 x=true):∃ q,x.At q∧Sz q 12:=by
 unfold j6 at h;simp only [Bool.and_eq_true,decide_eq_true_eq] at h;obtain ⟨g,h1,h2⟩:=h;obtain ⟨q,hq⟩:=HI g;have i:=At.is hq;rw [i.en,cP] at h1;rw [i.ed,cP] at h2;refine ⟨q,hq,y7 i.hn h1,?_⟩;have:=y7 i.hd h2
 rwa [Int.natAbs_natCast] at this
theorem ZG {p:List I} {a b:Rt} {k:W} (h:cL p a b k=true):eC p 3 32=true∧(∃ q,a.At q∧Sz q 12)∧(∃ q,b.At q∧Sz q 12)∧k.1≤16:=by
 unfold cL at h;simp only [Bool.and_eq_true,decide_eq_true_eq] at h;exact ⟨h.1,SE h.2.1,SE h.2.2.1,h.2.2.2⟩
structure Pt (A B:Rat) (P j:Int) (x:Rat):Prop where
 p:0<P
 j0:0≤j
 j1:j≤P
 e:(P:Rat)*x=((P - j:Int):Rat)*A+(j:Rat)*B
theorem Pt.sz {A B x:Rat} {k:Nat} {j:Int} (h:Pt A B (2 ^ k) j x) (hA:Sz A 12) (hB:Sz B 12):Sz x (24+k):=by
 have a1:=xJ A;have b1:=xJ B;have a2:=@nU A;have b2:=@nU B;have e:=h.e;have P0:=h.p;have J0:=h.j0;have J1:=h.j1;have e24:(2:Nat) ^ (24+k)=2 ^ 24*2 ^ k:=Nat.pow_add _ _ _
 have ePk:((2:Int) ^ k).natAbs=2 ^ k:=by rw [Int.natAbs_pow];rfl
 refine gE_ (n:=A.num*B.den*(2 ^ k - j)+B.num*A.den*j) (d:=A.den*B.den*2 ^ k) ?_ (Int.mul_pos (Int.mul_pos a2 b2) P0) ?_ ?_
 ·simp only [Rat.intCast_add,Rat.intCast_sub,Rat.intCast_mul] at e ⊢
  rw [← a1,← b1];generalize ((2 ^ k:Int):Rat)=P at *;generalize ((A.den:Int):Rat)=d at *;generalize ((B.den:Int):Rat)=f at *
  have:d*f*P*x=d*f*(P*x):=by grind
  rw [this,e];grind
 ·have h1:(A.num*B.den).natAbs≤2 ^ 24 - 1:=by
   have:=EB hA.n (show (B.den:Int).natAbs<2 ^ 12 by rw [Int.natAbs_natCast];exact hB.d);omega
  have h2:(B.num*A.den).natAbs≤2 ^ 24 - 1:=by
   have:=EB hB.n (show (A.den:Int).natAbs<2 ^ 12 by rw [Int.natAbs_natCast];exact hA.d);omega
  rw [e24]
  have t1:(A.num*B.den*(2 ^ k - j)).natAbs≤(2 ^ 24 - 1)*(2 ^ k - j:Int).natAbs:=by rw [Int.natAbs_mul];exact Nat.mul_le_mul_right _ h1
  have t2:(B.num*A.den*j).natAbs≤(2 ^ 24 - 1)*j.natAbs:=by rw [Int.natAbs_mul];exact Nat.mul_le_mul_right _ h2
  have t3:(2 ^ k - j:Int).natAbs+j.natAbs=2 ^ k:=by rw [← ePk];omega
  have t4:(2 ^ 24 - 1)*(2 ^ k - j:Int).natAbs+(2 ^ 24 - 1)*j.natAbs=(2 ^ 24 - 1)*2 ^ k:=by rw [← Nat.mul_add,t3]
  have t5:(2 ^ 24 - 1)*2 ^ k<2 ^ 24*2 ^ k:=Nat.mul_lt_mul_of_pos_right dd_ (Nat.pow_pos dd_);omega
 rw [Int.natAbs_mul,ePk,e24];refine Nat.mul_lt_mul_of_pos_right ?_ (Nat.pow_pos dd_);exact EB (b:=12) (b':=12) (by rw [Int.natAbs_natCast];exact hA.d) (by rw [Int.natAbs_natCast];exact hB.d)
structure It (A B:Rat) (P j:Int) (u v:Rat):Prop where
 lo:Pt A B P j u
 hi:Pt A B P (j+1) v
theorem It.one (A B:Rat):It A B (2 ^ 0) 0 A B:=by
 have e1:(((2:Int) ^ 0:Int):Rat)=1:=rfl;have e2:(((2:Int) ^ 0 - 0:Int):Rat)=1:=rfl;have e3:(((2:Int) ^ 0 - (0+1):Int):Rat)=0:=rfl;have e4:(((0:Int)+1:Int):Rat)=1:=rfl;have e5:((0:Int):Rat)=0:=rfl;exact ⟨⟨by decide,by decide,by decide,by rw [e1,e2,e5];grind⟩,⟨by decide,by decide,by decide,by rw [e1,e3,e4];grind⟩⟩
theorem It.len {A B:Rat} {P j:Int} {u v:Rat} (h:It A B P j u v):(P:Rat)*(v - u)=B - A:=by
 have a:=h.lo.e;have b:=h.hi.e;simp only [Rat.intCast_add,Rat.intCast_sub] at a b;have e:((1:Int):Rat)=1:=rfl;rw [e] at b
 grind
theorem It.mid {A B:Rat} {P j:Int} {u v:Rat} (h:It A B P j u v):Pt A B (P*2) (j*2+1) ((u+v)*(1 / 2)):=by
 have a:=h.lo.e;have b:=h.hi.e;have p0:=h.lo.p;have j0:=h.lo.j0;have j1:=h.hi.j1;refine ⟨by omega,by omega,by omega,?_⟩;simp only [Rat.intCast_add,Rat.intCast_sub,Rat.intCast_mul] at a b ⊢;have e:((1:Int):Rat)=1:=rfl;have e':((2:Int):Rat)=2:=rfl;rw [e] at b ⊢;rw [e']
 grind
theorem Pt.dbl {A B:Rat} {P j:Int} {x:Rat} (h:Pt A B P j x):Pt A B (P*2) (j*2) x:=by
 have a:=h.e;have p0:=h.p;have j0:=h.j0;have j1:=h.j1;refine ⟨by omega,by omega,by omega,?_⟩;simp only [Rat.intCast_sub,Rat.intCast_mul] at a ⊢;have e':((2:Int):Rat)=2:=rfl;rw [e']
 grind
theorem It.left {A B:Rat} {k:Nat} {j:Int} {u v:Rat} (h:It A B (2 ^ k) j u v):It A B (2 ^ (k+1)) (j*2) u ((u+v)*(1 / 2)):=by
 rw [Int.pow_succ];exact ⟨h.lo.dbl,h.mid⟩
theorem It.right {A B:Rat} {k:Nat} {j:Int} {u v:Rat} (h:It A B (2 ^ k) j u v):It A B (2 ^ (k+1)) (j*2+1) ((u+v)*(1 / 2)) v:=by
 rw [Int.pow_succ];refine ⟨h.mid,?_⟩;rw [show j*2+1+1=(j+1)*2 by omega];exact h.hi.dbl
theorem It.lt {A B:Rat} {P j:Int} {u v:Rat} (h:It A B P j u v) (hAB:A<B):u<v:=by
 have a:=h.len;have p0:(0:Rat)<(P:Rat):=Rat.intCast_pos.2 h.lo.p
 apply Rat.not_le.1
 intro hn;have:=Rat.mul_nonneg (Rat.le_of_lt p0) (show (0:Rat)≤u - v by grind)
 grind
theorem It.le {A B:Rat} {P j:Int} {u v:Rat} (h:It A B P j u v) (hAB:A≤B):u≤v:=by
 have a:=h.len;have p0:(0:Rat)<(P:Rat):=Rat.intCast_pos.2 h.lo.p
 apply Rat.not_lt.1
 intro hn;have:=Rat.mul_pos p0 (show (0:Rat)<u - v by grind)
 grind
theorem Pt.ge {A B:Rat} {P j:Int} {x:Rat} (h:Pt A B P j x) (hAB:A≤B):A≤x∧x≤B:=by
 have a:=h.e;have p0:(0:Rat)<(P:Rat):=Rat.intCast_pos.2 h.p;have j0:(0:Rat)≤(j:Rat):=Rat.intCast_nonneg.2 h.j0;have j1:(0:Rat)≤((P - j:Int):Rat):=Rat.intCast_nonneg.2 (by have:=h.j1;omega);have b1:=Rat.mul_nonneg j0 (show 0≤B - A by grind);have b2:=Rat.mul_nonneg j1 (show 0≤B - A by grind);rw [Rat.intCast_sub] at a b2
 constructor
 ·apply Rat.not_lt.1
  intro hn;have:=Rat.mul_pos p0 (show (0:Rat)<A - x by grind)
  grind
 apply Rat.not_lt.1
 intro hn;have:=Rat.mul_pos p0 (show (0:Rat)<x - B by grind)
 grind
theorem WX {q:Rat} {k:Nat} (h:Sz q k):Ab q (((2 ^ k:Nat):Int):Rat):=by
 have a1:=xJ q;have a2:=@nU q
 have d1:(1:Rat)≤((q.den:Int):Rat):=by
  rw [show (1:Rat)=((1:Int):Rat) from rfl];exact Rat.intCast_le_intCast.2 oo_
 have n1:((q.num:Int):Rat)≤(((2 ^ k:Nat):Int):Rat):=Rat.intCast_le_intCast.2 (by have:=h.n;omega)
 have n2:(-(((2 ^ k:Nat):Int):Rat))≤((q.num:Int):Rat):=by
  rw [← Rat.intCast_neg];exact Rat.intCast_le_intCast.2 (by have:=h.n;omega)
 have m0:(0:Rat)≤(((2 ^ k:Nat):Int):Rat):=Rat.intCast_nonneg.2 (Int.natCast_nonneg _);generalize (((2 ^ k:Nat):Int):Rat)=M at *;generalize ((q.den:Int):Rat)=d at *;rw [← a1] at n1 n2
 constructor
 ·apply Rat.not_lt.1
  intro hn;have k1:=Rat.mul_nonneg (show (0:Rat)≤d - 1 by grind) (show (0:Rat) ≤ -q - M by grind);have k2:=Rat.mul_nonneg (show (0:Rat)≤d - 1 by grind) m0
  grind
 apply Rat.not_lt.1
 intro hn;have k1:=Rat.mul_nonneg (show (0:Rat)≤d - 1 by grind) (show (0:Rat)≤q - M by grind);have k2:=Rat.mul_nonneg (show (0:Rat)≤d - 1 by grind) m0
 grind
theorem fZ_ {p f:QP} (h:Rad p f) (x:Rat):¬ (f.ev x=0∧(QP.D f).ev x=0):=fun ⟨h1,h2⟩=>by
 obtain ⟨g,u,v,e,d1,d2⟩:=QP.bezout f (QP.D f);have hg:g≠QP.C 0:=fun e0=>h.ne (by rw [e0] at d1;exact d1.of_zero);obtain ⟨n,hn⟩:=QP.ex_dg hg;have n0:=QP.sqf_co h.sq d1 d2 hn;subst n0;have e1:=QP.dg_C hn
 have e2:g.ev x=0:=by rw [e,QP.ev_add,QP.ev_mul,QP.ev_mul,h1,h2];grind
 rw [e1,QP.ev_C] at e2;exact hn.1 e2
theorem aj_ {F:Nat→Int} (e:oA F) (hz:∀ i,3<i→F i=0):Cub (ZP F e) (F 3) (F 2) (F 1) (F 0):=by
 refine ⟨fun x=>?_,fun x=>?_⟩
 ·rw [QP.ev_vl (n:=4) fun i hi=>by rw [nI,hz i oo_];rfl]
  unfold vl;simp only [jA,nI,Rat.pow_zero,Rat.pow_succ]
  grind
 rw [QP.ev_vl (n:=3) fun i hi=>by rw [QP.D_c,nI,hz (i+1) oo_];exact Rat.mul_zero _];unfold vl;simp only [jA,QP.D_c,nI,Rat.pow_zero,Rat.pow_succ];have n1:(((0+1:Nat):Nat):Rat)=1:=rfl;have n2:(((1+1:Nat):Nat):Rat)=2:=rfl;have n3:(((2+1:Nat):Nat):Rat)=3:=rfl;rw [n1,n2,n3]
 grind
theorem iz_:QP.sepC (4294967296:Rat) 4096≤2 ^ 159:=by
 unfold QP.sepC;decide +kernel
theorem iy_:4*(4294967296:Rat)*4294967296≤2 ^ 159:=by decide +kernel
theorem ea_ {x A B:Rat} (h:1≤A*(x*x)) (hl:A≤B):1≤B*(x*x):=by
 have h0:0≤x*x:=by
  rcases Rat.le_total (a:=0) (b:=x) with k|k
  ·exact Rat.mul_nonneg k k
  have:=Rat.mul_nonneg (show 0 ≤ -x by grind) (show 0 ≤ -x by grind);grind
 have:=Rat.mul_nonneg (show 0≤B - A by grind) h0
 grind
theorem sep {p:List I} {L:List (List I)} (h:St p L) {F:Nat→Int} {m:Nat} (hF:Po (bD p) F) (fs:Fs F m) {u v:Rat} (huv:u<v) (au:Ab u 4096) (av:Ab v 4096) (ht:Two (qp (bD p)) (L.map qp) u v):(1:Rat)≤2 ^ 159*((v - u)*(v - u)):=by
 obtain ⟨f,l,⟨eL,ef⟩,hR,hs,hl⟩:=h.s;subst ef;have hq:qp (bD p)=ZP F hF.ends:=vF hF _;rcases hl with rfl|⟨g,l',κ,rfl,hc,hκ,hD⟩
 ·exfalso
  rw [eL] at ht;unfold Two at ht;simp only [List.map_cons,List.map_nil,QP.V_one] at ht;omega
 rw [eL] at ht hc;simp only [List.map_cons] at ht hc;have n1:=QP.two_nD hc hκ hD huv ht
 have n2:¬ Rb u v (qp (bD p)):=fun hr=>by
  have:=QP.st_rb hc hκ hD huv hr;unfold Two at ht;omega
 have z1:=fun ε (hε:(0:Rat)<ε)=>QP.small_at (Rat.le_of_lt huv) n1 hε;have z2:=fun ε (hε:(0:Rat)<ε)=>QP.small_at (Rat.le_of_lt huv) n2 hε;have hz:=fun x=>fZ_ hR x;rw [hq] at z1 z2 hz n1 n2;have m3:=fs.m3;have cu:=aj_ hF.ends fun i hi=>fs.z i oo_
 have bb:∀ k,m≠2→Ab ((F k:Int):Rat) 4294967296:=fun k hm=>by
  rcases fs.b with ⟨h2,_⟩|⟨_,h2⟩
  ·exact absurd h2 hm
  exact QP.Ab.int (B:=4294967296) (h2 k)
 rcases (show m=3∨m=2∨m≤1 by omega) with hm|hm|hm
 ·subst hm
  exact ea_ (QP.far3 cu fs.top hz dd_ dd_ (bb 3 dd_) (bb 2 dd_) (bb 1 dd_) (bb 0 dd_) au av (Rat.le_of_lt huv) z1 z2) iz_
 ·subst hm
  have c0:F 3=0:=fs.z 3 oo_;rw [c0] at cu;exact ea_ (QP.far2 cu fs.top hz dd_ dd_ (QP.Ab.int (B:=4294967296) fs.lead) au av (Rat.le_of_lt huv) z1 z2) iy_
 exfalso
 have d1:∀ x,(QP.D (ZP F hF.ends)).ev x=((F 1:Int):Rat):=fun x=>by
  rw [cu.d,fs.z 3 oo_,fs.z 2 oo_];have:((0:Int):Rat)=0:=rfl;rw [this];grind
 by_cases f1:F 1=0
 ·have m0:m=0:=by
   rcases Nat.lt_or_ge m 1 with k|k
   ·omega
   have:m=1:=by omega
   subst this;exact absurd f1 fs.top
  subst m0;have f0:((F 0:Int):Rat)≠0:=fun e=>fs.top (Rat.intCast_eq_zero_iff.1 e)
  have v0:∀ x,(ZP F hF.ends).ev x=((F 0:Int):Rat):=fun x=>by
   rw [cu.v,fs.z 3 oo_,fs.z 2 oo_,f1];have:((0:Int):Rat)=0:=rfl;rw [this];grind
  refine n2 ?_;rcases Rat.le_total (a:=0) (b:=((F 0:Int):Rat)) with k|k
  ·exact ⟨_,show (0:Rat)<((F 0:Int):Rat) by grind,.inl fun x _ _=>by rw [v0];exact Rat.le_refl⟩
  exact ⟨-((F 0:Int):Rat),by grind,.inr fun x _ _=>by rw [v0];grind⟩
 have f0:((F 1:Int):Rat)≠0:=fun e=>f1 (Rat.intCast_eq_zero_iff.1 e);refine n1 ?_;rcases Rat.le_total (a:=0) (b:=((F 1:Int):Rat)) with k|k
 ·exact ⟨_,show (0:Rat)<((F 1:Int):Rat) by grind,.inl fun x _ _=>by rw [d1];exact Rat.le_refl⟩
 exact ⟨-((F 1:Int):Rat),by grind,.inr fun x _ _=>by rw [d1];grind⟩
theorem if_ {A B u v:Rat} {k:Nat} {j:Int} (h:It A B (2 ^ k) j u v) (aA:Ab A 4096) (aB:Ab B 4096) (hs:(1:Rat)≤2 ^ 159*((v - u)*(v - u))):k≤92:=by
 have hl:=h.len
 have w:Ab (B - A) 8192:=by unfold Ab at *;grind
 have ww:=w.mul w
 have p2:(((2:Int) ^ k:Int):Rat)*(((2:Int) ^ k:Int):Rat)≤2 ^ 185:=by
  have e:(((2:Int) ^ k:Int):Rat)*(((2:Int) ^ k:Int):Rat)*((v - u)*(v - u))=(B - A)*(B - A):=by rw [← hl];grind
  have p0:(0:Rat)<(((2:Int) ^ k:Int):Rat):=Rat.intCast_pos.2 h.lo.p;generalize (((2:Int) ^ k:Int):Rat)=P at *;have pp:=Rat.mul_pos p0 p0;have h1:=Rat.mul_nonneg (Rat.le_of_lt pp) (show 0≤2 ^ 159*((v - u)*(v - u)) - 1 by grind)
  have h2:P*P≤2 ^ 159*((B - A)*(B - A)):=by rw [← e];grind
  have h3:(2:Rat) ^ 159*(8192*8192)=2 ^ 185:=by decide +kernel
  have h4:=Rat.mul_le_mul_of_nonneg_left ww.2 (show (0:Rat)≤2 ^ 159 by decide +kernel)
  grind
 apply Classical.byContradiction
 intro hn
 have e1:(2:Rat) ^ 185=(((2:Int) ^ 185:Int):Rat):=by decide +kernel
 rw [← Rat.intCast_mul,← Int.pow_add,e1] at p2;have p3:=Rat.intCast_le_intCast.1 p2
 have p4:(2:Int) ^ 186≤2 ^ (k+k):=by exact_mod_cast (Nat.pow_le_pow_right (n:=2) dd_ (show 186≤k+k by omega))
 have p5:(2:Int) ^ 185<2 ^ 186:=by decide
 omega
open QP (V)
theorem U0 {a:Rt} {q:Rat} (h:a.At q):a.n.1.bad=false:=by
 rw [(At.is h).en];exact TU (At.is h).hn
theorem GN {l:List I}:((l.length:Int)==0)=decide (l=[]):=by cases l<;>rfl
open QP (V Rb Two)
theorem UC {L:List (List I)}:∀ (m:Nat) (a b:Rt) (k:Int),(aM m L a b k).e.1=0∨(aM m L a b k).e.1=30
 | 0,a,b,k=>.inl O
 | m+1,a,b,k=>by
  unfold aM;have i1:=UC (L:=L) m a (aI a b) (k+1);have i2:=UC (L:=L) m (aI a b) b (k+1);generalize aM m L a (aI a b) (k+1)=s1 at *;generalize aM m L (aI a b) b (k+1)=s2 at *;generalize bP L a b=c
  cases (!(c.2)||decide (500<k))
  ·cases (c.1.1==0)
   ·cases (c.1.1==1)
    ·cases (s1.e.1 != 0)
     ·cases (s2.e.1 != 0)
      ·exact .inl O
      exact i2
     exact i1
    exact .inl O
   exact .inl O
  exact .inr O
theorem c0_:Sz (1 / 2) 2:=⟨by decide +kernel,by decide +kernel⟩
theorem fD_ {a b:Rt} {u v:Rat} (ha:a.At u) (hb:b.At v) (su:Sz u 200) (sv:Sz v 200):(aG a b).At ((u+v)*(1 / 2)):=by
 unfold aG;simp only;rw [SX,Y8,UQ];exact eJ_ (ey_ ha hb su sv dd_) VN (su.add sv) c0_ dd_
structure Sp (p:List I) (A B:Rat):Prop where
 rgt:Rgt p
 ne:p≠[]
 gd:p.all gdI=true
 ok:(aL p).2=true
 st:St p (aL p).1
 free:∃ F m,Po (bD p) F∧Fs F m
 tame:∀ x∈(aL p).1,DO 119 x
 tp:DO 119 p
 sA:Sz A 12
 sB:Sz B 12
theorem Sp.of {p:List I} {A B:Rat} (hf:eC p 3 32=true) (hg:p.all gdI=true) (h0:p≠[]) (sA:Sz A 12) (sB:Sz B 12):Sp p A B:=by
 obtain ⟨c,hc,bd⟩:=QS hf hg;have bd:Bd c 4 32:=bd;obtain ⟨s1,s2,s3⟩:=SJ hc bd h0;exact ⟨hc.rgt,h0,hg,s1,(yU hc.rgt s1).resolve_left h0,s2,s3,⟨c,4,32,hc,bd,by decide,by decide⟩,sA,sB⟩
theorem Sp.two {p:List I} {A B:Rat} (h:Sp p A B) {k:Nat} {j:Int} {u v:Rat} (hi:It A B (2 ^ k) j u v) (huv:u<v) (ht:Two (qp (bD p)) ((aL p).1.map qp) u v):k≤92:=by
 have aA:Ab A 4096:=(WX h.sA).le (by decide +kernel);have aB:Ab B 4096:=(WX h.sB).le (by decide +kernel)
 have hAB:A≤B:=by
  have a:=hi.len;have p0:(0:Rat)<(((2:Int) ^ k:Int):Rat):=Rat.intCast_pos.2 hi.lo.p;have:=Rat.mul_pos p0 (show 0<v - u by grind)
  grind
 have gu:=hi.lo.ge hAB;have gv:=hi.hi.ge hAB;obtain ⟨F,m,hF,fs⟩:=h.free;exact if_ hi aA aB (sep h.st hF fs huv (by unfold Ab at *;grind) (by unfold Ab at *;grind) ht)
theorem Sp.count {p:List I} {A B:Rat} (h:Sp p A B) {k:Nat} (hk:k≤95) {i j:Int} {a b:Rt} {u v:Rat} (ha:a.At u) (hb:b.At v) (pu:Pt A B (2 ^ k) i u) (pv:Pt A B (2 ^ k) j v):(aJ (aL p).1 a b).2=true :=
 ai_ h.tame ha hb ((pu.sz h.sA h.sB).mono oo_) ((pv.sz h.sA h.sB).mono oo_)
theorem Sp.mid {p:List I} {A B:Rat} (h:Sp p A B) {k:Nat} (hk:k≤95) {i j:Int} {a b:Rt} {u v:Rat} (ha:a.At u) (hb:b.At v) (pu:Pt A B (2 ^ k) i u) (pv:Pt A B (2 ^ k) j v):(aG a b).At ((u+v)*(1 / 2)) :=
 fD_ ha hb ((pu.sz h.sA h.sB).mono oo_) ((pv.sz h.sA h.sB).mono oo_)
theorem Sp.many {p:List I} {A B:Rat} (h:Sp p A B) (hAB:A≤B) {k:Nat} (hk:k≤93) {j:Int} {a b:Rt} {u v:Rat} (ha:a.At u) (hb:b.At v) (hi:It A B (2 ^ k) j u v) (h0:((aJ (aL p).1 a b).1.1==0)=false) (h1:((aJ (aL p).1 a b).1.1==1)=false):k≤92:=by
 have hc:=h.count oo_ ha hb hi.lo hi.hi;obtain ⟨u',v',cx⟩:=xG h.st (pS p) hc;obtain rfl:=n9 ha cx.a;obtain rfl:=n9 hb cx.b;have n:=cx.n;have le:=hi.le hAB;have an:=h.st.anti le
 have h0':¬ (aJ (aL p).1 a b).1.1=0:=by simpa using h0
 have h1':¬ (aJ (aL p).1 a b).1.1=1:=by simpa using h1
 have huv:u<v:=by
  apply Rat.not_le.1
  intro hn
  have:u=v:=by grind
  subst this;omega
 exact h.two hi huv (.inl oo_)
open QP (V Rb Two NN sg Sf)
def nnc (c:List (List I)) (a b:Rt) (right:W):W:=bif (right.1==0) then W.sub ((aJ c a b).1) (wl 1) else (aJ c a b).1
def nno (c:List (List I)) (p:List I) (a b:Rt) (k:Nat):Bool:=(aJ c a b).2&&((aH p (aG a b)).2&&decide ((k:Int)<600))
theorem TV (c:List (List I)) (p:List I) (n:Nat) (a b:Rt) (left right:W) (k:Nat) (is ok:Bool) :
  aT c p (n+1) a b left right k is ok=bif (!is || !ok) then (is,ok) else (bif nno c p a b k then (bif decide (((aH p (aG a b)).1).1<0) then (false,true) else (bif (((nnc c a b right).1==0)||(((nnc c a b right).1==1)&&(decide (0<left.1)&&decide (0<right.1)))) then (is,true)
   else (aT c p n (aG a b) b ((aH p (aG a b)).1) right (k+1) (aT c p n a (aG a b) left ((aH p (aG a b)).1) (k+1) is true).1 (aT c p n a (aG a b) left ((aH p (aG a b)).1) (k+1) is true).2))) else (is,false)):=by
 conv=>lhs;unfold aT
 unfold nnc;rw [show ((aJ c a b).2&&((aH p (aG a b)).2&&decide ((k:Int)<600)))=nno c p a b k from rfl];generalize aG a b=m;generalize aH p m=S;generalize aJ c a b=C
 cases (!is || !ok)
 ·cases nno c p a b k
  ·rfl
  simp only [cond_true,cond_false]
  cases (right.1==0)
  ·simp only [cond_false]
   cases (C.1.1==0)
   ·simp only [cond_false,Bool.false_or]
   simp only [cond_true,Bool.true_or]
  simp only [cond_true]
  cases ((W.sub C.1 (wl 1)).1==0)
  ·simp only [cond_false,Bool.false_or]
  simp only [cond_true,Bool.true_or]
 rfl
theorem OM (c:List (List I)) (p:List I) (n:Nat) (a b:Rt) (left right:W) (k:Nat) (is ok:Bool) (h:is=false∨ok=false):aT c p n a b left right k is ok=(is,ok):=by
 cases n with
 | zero=>rfl
 | succ n =>
  rw [TV];rcases h with rfl|rfl
  ·rfl
  simp
theorem sg_nn {x:Rat}:(0≤sg x) ↔ 0≤x:=by
 rcases QP.sg_three x with ⟨e,k⟩|⟨e,k⟩|⟨e,k⟩<;>rw [e]<;>constructor<;>intro h<;>first|omega|grind
theorem sg_zr {x:Rat}:(sg x=0) ↔ x=0:=by
 rcases QP.sg_three x with ⟨e,k⟩|⟨e,k⟩|⟨e,k⟩<;>rw [e]<;>constructor<;>intro h<;>first|omega|grind
theorem sg_ps {x:Rat}:(0<sg x) ↔ 0<x:=by
 rcases QP.sg_three x with ⟨e,k⟩|⟨e,k⟩|⟨e,k⟩<;>rw [e]<;>constructor<;>intro h<;>first|omega|grind
theorem yM {x:Rat}:(sg x<0) ↔ x<0:=by
 rcases QP.sg_three x with ⟨e,k⟩|⟨e,k⟩|⟨e,k⟩<;>rw [e]<;>constructor<;>intro h<;>first|omega|grind
structure Nk (p:List I) (a b:Rt) (left right:W) (u v:Rat):Prop where
 a:a.At u
 b:b.At v
 lt:u<v
 l:left.1=sg ((qp p).ev u)
 r:right.1=sg ((qp p).ev v)
 l0:0≤(qp p).ev u
 r0:0≤(qp p).ev v
theorem St.sf {p:List I} {L:List (List I)} (h:St p L):Sf (qp p) (qp (bD p)) (L.map qp):=by
 obtain ⟨f,l,⟨_,e⟩,_,hs,_⟩:=h.s;rw [← e];exact hs
theorem I4 {u v:Rat} (h:u<v):u<(u+v)*(1 / 2)∧(u+v)*(1 / 2)<v:=by constructor<;>grind
theorem hZ_ {x:W} (h:-1000≤x.1∧x.1≤1000):(W.sub x (wl 1)).1=x.1 - 1:=by
 show IntKind.i64.wrap (x.1 - 1)=x.1 - 1
 rw [wi oo_]
theorem V6 {p:List I} {L:List (List I)} (h:St p L) (hl:L.length≤100) {a b:Rt} {left right:W} {u v:Rat} (hk:Nk p a b left right u v) (hc:(aJ L a b).2=true) :
  ((qp p).ev v=0∧(nnc L a b right).1+1+V (L.map qp) v=V (L.map qp) u∨(qp p).ev v≠0∧(nnc L a b right).1+V (L.map qp) v=V (L.map qp) u)∧0≤(nnc L a b right).1:=by
 obtain ⟨u',v',cx⟩:=xG h hl hc;obtain rfl:=n9 hk.a cx.a;obtain rfl:=n9 hk.b cx.b;have n:=cx.n;have an:=h.anti (Rat.le_of_lt hk.lt);have v1:=XH (L.map qp) u;have v2:=XH (L.map qp) v;rw [List.length_map] at v1 v2;unfold nnc
 by_cases h0:(qp p).ev v=0
 ·have hne:V (L.map qp) u≠V (L.map qp) v:=fun e=>(h.sf.pos hk.lt e).1 h0
  rw [show (right.1==0)=true by rw [hk.r,sg_zr.2 h0];rfl,cond_true,hZ_ oo_];exact ⟨.inl ⟨h0,by omega⟩,by omega⟩
 have:¬ right.1=0:=by rw [hk.r,sg_zr];exact h0
 rw [show (right.1==0)=false by simpa using this,cond_false];exact ⟨.inr ⟨h0,by omega⟩,by omega⟩
theorem bi_ {p:List I} (hp:Rgt p) (hg:p.all gdI=true) {L:List (List I)} (h:St p L) (hl:L.length≤100):∀ (n k:Nat) (a b:Rt) (left right:W) (u v:Rat),n+k=601→1≤n→Nk p a b left right u v →
  (aT L p n a b left right k true true).2=true→((aT L p n a b left right k true true).1=true ↔ NN (qp p) u v):=by
 intro n
 induction n with
 | zero=>intro k a b left right u v _ h1;omega
 | succ n ih =>
  intro k a b left right u v hn _ hk hok;rw [TV] at hok ⊢;simp only [Bool.not_true,Bool.or_self,cond_false] at hok ⊢
  cases ho:nno L p a b k
  ·rw [ho] at hok;cases hok
  rw [ho] at hok;simp only [cond_true] at hok ⊢;unfold nno at ho;simp only [Bool.and_eq_true,decide_eq_true_eq] at ho;obtain ⟨hc,hS,hk6⟩:=ho;obtain ⟨w,hm⟩:=BV hS
  have hw:w=(u+v)*(1 / 2):=by
   have:=LN hk.a hk.b (by rw [← AS];exact nK hm);rw [← AS] at this;exact n9 hm this
  subst hw;have hs:=rN (xU hp hg) hm hS;have ml:=I4 hk.lt
  cases hneg:decide ((aH p (aG a b)).1.1<0)
  ·rw [hneg] at hok
   have m0:0≤(qp p).ev ((u+v)*(1 / 2)):=by
    have:=of_decide_eq_false hneg;rw [hs,yM] at this;grind
   simp only [cond_false] at hok ⊢;obtain ⟨cv,c0⟩:=V6 h hl hk hc
   cases hst:(((nnc L a b right).1==0)||(((nnc L a b right).1==1)&&(decide (0<left.1)&&decide (0<right.1))))
   ·rw [hst] at hok
    simp only [cond_false] at hok ⊢;have k1:Nk p a (aG a b) left (aH p (aG a b)).1 u ((u+v)*(1 / 2)):=⟨hk.a,hm,ml.1,hk.l,hs,hk.l0,m0⟩;have k2:Nk p (aG a b) b (aH p (aG a b)).1 right ((u+v)*(1 / 2)) v:=⟨hm,hk.b,ml.2,hs,hk.r,m0,hk.r0⟩;have i1:=ih (k+1) a (aG a b) left _ u _ oo_ oo_ k1;have i2:=ih (k+1) (aG a b) b _ right _ v oo_ oo_ k2;have hv:=NN.halves (p:=qp p) (Rat.le_of_lt ml.1) (Rat.le_of_lt ml.2);generalize hr1:aT L p n a (aG a b) left (aH p (aG a b)).1 (k+1) true true=r1 at *;obtain ⟨s1,o1⟩:=r1
    cases o1
    ·rw [OM _ _ _ _ _ _ _ _ _ _ (.inr O)] at hok;cases hok
    ·cases s1
     ·rw [OM _ _ _ _ _ _ _ _ _ _ (.inl O)]
      refine ⟨fun e=>(by cases e),fun e=>?_⟩;exact absurd ((i1 O).2 (hv.1 e).1) dd_
     rw [i2 hok,hv];exact ⟨fun e=>⟨(i1 O).1 O,e⟩,fun e=>e.2⟩
   simp only [cond_true];refine ⟨fun _=>?_,fun _=>trivial⟩;rcases Bool.or_eq_true_iff.1 hst with z|z
   ·have z:(nnc L a b right).1=0:=by simpa using z
    rcases cv with ⟨v0,cv⟩|⟨v0,cv⟩
    ·exact h.sf.nn0r ml.1 ml.2 oo_ hk.l0 m0 v0
    exact h.sf.nn0 hk.lt oo_ hk.l0 hk.r0
   simp only [Bool.and_eq_true,decide_eq_true_eq,beq_iff_eq] at z;obtain ⟨z1,z2,z3⟩:=z;rw [hk.l,sg_ps] at z2;rw [hk.r,sg_ps] at z3;rcases cv with ⟨v0,cv⟩|⟨v0,cv⟩
   ·rw [v0] at z3;exact absurd z3 dd_
   exact h.sf.nn1 oo_ z2 z3
  simp only [cond_true];refine ⟨fun e=>(by cases e),fun e=>?_⟩;have:=of_decide_eq_true hneg;rw [hs,yM] at this;have:=e _ (Rat.le_of_lt ml.1) (Rat.le_of_lt ml.2)
  grind
theorem V5 {p:List I} (hp:Rgt p) (hg:p.all gdI=true) {L:List (List I)} (hSt:St p L) (hl:L.length≤100) {n k:Nat} {a b:Rt} {left right:W} {u v:Rat} (hk:Nk p a b left right u v) (h6:k<600) (hc:(aJ L a b).2=true)
  (hm:(aG a b).At ((u+v)*(1 / 2))) (hS:(aH p (aG a b)).2=true)
  (rec:Two (qp (bD p)) (L.map qp) u v→∀ s:W,s.1=sg ((qp p).ev ((u+v)*(1 / 2)))→0≤(qp p).ev ((u+v)*(1 / 2))→(aT L p n a (aG a b) left s (k+1) true true).2=true∧(aT L p n (aG a b) b s right (k+1) true true).2=true) :
  (aT L p (n+1) a b left right k true true).2=true:=by
 have hs:=rN (xU hp hg) hm hS
 have ho:nno L p a b k=true:=by
  unfold nno;rw [hc,hS,decide_eq_true (show (k:Int)<600 by omega)];rfl
 rw [TV,ho];simp only [Bool.not_true,Bool.or_self,cond_false,cond_true]
 cases hneg:decide ((aH p (aG a b)).1.1<0)
 ·simp only [cond_false]
  have m0:0≤(qp p).ev ((u+v)*(1 / 2)):=by
   have:=of_decide_eq_false hneg;rw [hs,yM] at this;grind
  obtain ⟨cv,c0⟩:=V6 hSt hl hk hc
  cases hst:(((nnc L a b right).1==0)||(((nnc L a b right).1==1)&&(decide (0<left.1)&&decide (0<right.1))))
  ·simp only [cond_false]
   have ht:Two (qp (bD p)) (L.map qp) u v:=by
    simp only [Bool.or_eq_false_iff,Bool.and_eq_false_iff,beq_eq_false_iff_ne,ne_eq,decide_eq_false_iff_not] at hst;obtain ⟨z0,z1⟩:=hst;rcases cv with ⟨v0,cv⟩|⟨v0,cv⟩
    ·exact .inl oo_
    by_cases z2:(nnc L a b right).1=1
    ·right
     refine ⟨by omega,?_⟩
     have hr:0<right.1:=by rw [hk.r,sg_ps];have:=hk.r0;grind
     have hlf:¬ 0<left.1:=by
      rcases z1 with z1|z1|z1
      ·exact absurd z2 z1
      ·exact z1
      exact absurd hr z1
     rw [hk.l,sg_ps] at hlf
     have u0:(qp p).ev u=0:=by have:=hk.l0;grind
     apply Classical.byContradiction
     intro hf;exact hSt.sf.ne hf u0
    exact .inl oo_
   obtain ⟨r1,r2⟩:=rec ht _ hs m0;generalize aT L p n a (aG a b) left (aH p (aG a b)).1 (k+1) true true=R at *;obtain ⟨s1,o1⟩:=R;have r1:o1=true:=r1;subst r1
   cases s1
   ·rw [OM _ _ _ _ _ _ _ _ _ _ (.inl O)]
   exact r2
  rfl
 rfl
theorem hd_ {p:List I} {A B:Rat} (h:Sp p A B) (hAB:A≤B):∀ (d n k K:Nat) (j:Int) (a b:Rt) (left right:W) (u v:Rat),d+K=93→n+k=601→k≤K→It A B (2 ^ K) j u v→Nk p a b left right u v →
  (aT (aL p).1 p n a b left right k true true).2=true:=by
 intro d
 induction d with
 | zero =>
  intro n k K j a b left right u v hd hn hkK hi hk;obtain ⟨n,rfl⟩:∃ j,n=j+1:=⟨n - 1,by omega⟩;have hm:=h.mid oo_ hk.a hk.b hi.lo hi.hi
  exact V5 h.rgt h.gd h.st (pS p) hk oo_ (h.count oo_ hk.a hk.b hi.lo hi.hi) hm (o2 h.tp hm ((hi.left.hi.sz h.sA h.sB).mono oo_)) fun ht=>by have:=h.two hi hk.lt ht;omega
 | succ d ih =>
  intro n k K j a b left right u v hd hn hkK hi hk;obtain ⟨n,rfl⟩:∃ j,n=j+1:=⟨n - 1,by omega⟩;have ml:=I4 hk.lt;have hm:=h.mid oo_ hk.a hk.b hi.lo hi.hi;refine V5 h.rgt h.gd h.st (pS p) hk oo_ (h.count oo_ hk.a hk.b hi.lo hi.hi) hm (o2 h.tp hm ((hi.left.hi.sz h.sA h.sB).mono oo_)) fun _ s hs m0=>⟨?_,?_⟩
  ·exact ih n (k+1) (K+1) _ a _ left s u _ oo_ oo_ oo_ hi.left ⟨hk.a,hm,ml.1,hk.l,hs,hk.l0,m0⟩
  exact ih n (k+1) (K+1) _ _ b s right _ v oo_ oo_ oo_ hi.right ⟨hm,hk.b,ml.2,hs,hk.r,m0,hk.r0⟩
theorem VS {e f:W} {S:Bool} (h:S=true→e.1≠30∧f.1≠30):(dM e f S).2=true:=by
 unfold dM
 cases S
 ·simp
 obtain ⟨h1,h2⟩:=h O
 simp [h1,h2]
theorem VT {e f:W} {S P:Bool} (h:e.1≠30→f.1≠30→P=true):((dM e f S).1||P)=true:=by
 unfold dM
 by_cases h1:e.1=30
 ·simp [h1]
 by_cases h2:f.1=30
 ·simp [h2]
 rw [h h1 h2];simp
theorem GV {p:List I} {a b:Rt} {k:W} (hS:cL p a b k=true):Rgt p∧k.1≤16∧((aY p||((p.length:Int)==0))=true ∨ ∃ A B,a.At A∧b.At B∧Sp p A B):=by
 obtain ⟨hf,⟨A,hA,sA⟩,⟨B,hB,sB⟩,hk⟩:=ZG hS;have hr:=(N3 hf).1;refine ⟨hr,hk,?_⟩
 cases hg:p.all gdI
 ·left;rw [iX (DF hr),hg];rfl
 by_cases h0:p=[]
 ·left;rw [h0];rfl
 exact .inr ⟨A,B,hA,hB,Sp.of hf hg h0 sA sB⟩
theorem Sp.nb {p:List I} {A B:Rat} (h:Sp p A B):aY p=false:=by rw [iX (DF h.rgt),h.gd];rfl
theorem Sp.nl {p:List I} {A B:Rat} (h:Sp p A B):((p.length:Int)==0)=false:=by rw [GN,decide_eq_false h.ne]
theorem B5 {a b:Rt} {A B:Rat} (ha:a.At A) (hb:b.At B):iO a b=decide (A≤B):=by
 unfold iO;rw [U0 ha,U0 hb];simp only [Bool.not_false,Bool.true_and];exact decide_eq_decide.2 (eE_ ha hb)
theorem R8:lR=true:=by kernel_rfl
def nnI (x:I):Bool:=decide (0≤(Z.signW x.dec).1)
theorem RE (p:List I) (a b:Rt):∀ (l:List I) (all:Bool),gX p a b l all=(all&&l.all nnI)
 | [],all=>by unfold gX;simp
 | x::l,all=>by
  unfold gX;rw [RE p a b l,List.all_cons,Bool.and_assoc];rfl
def nnR (p:List I) (a b:Rt):Bool×Bool:=aT ((aL p).1) p 601 a b ((aH p a).1) ((aH p b).1) 0 true ((aL p).2)
theorem HU (p:List I) (a b:Rt):aP p a b=bif (aY p || !iO a b) then (false,wl 1) else bif ((p.length:Int)==0) then (true,wl 0) else
  bif (!((aH p a).2) || !((aH p b).2)) then (false,wl 30) else bif (decide (((aH p a).1).1<0)||decide (((aH p b).1).1<0)) then (false,wl 0) else
  bif (decide (a.n=b.n)&&decide (a.d=b.d)) then (true,wl 0) else bif ((bT p a b).2&&(bT p a b).1.all nnI) then (true,wl 0) else
  bif (aL p).2 then (bif (nnR p a b).2 then ((nnR p a b).1,wl 0) else (false,wl 30)) else (false,wl 30):=by
 unfold aP;rw [RE,Bool.true_and];rw [show aT ((aL p).1) p 601 a b ((aH p a).1) ((aH p b).1) 0 true ((aL p).2)=nnR p a b from rfl];generalize nnR p a b=R;generalize bT p a b=Bn;generalize aH p a=Sa;generalize aH p b=Sb;generalize (aL p).2=st;generalize iO a b=g;generalize aY p=ib
 cases (ib || !g)
 ·simp only [cond_false]
  cases ((p.length:Int)==0)
  ·simp only [cond_false]
   cases (!Sa.2 || !Sb.2)
   ·simp only [cond_false]
    cases (decide (Sa.1.1<0)||decide (Sb.1.1<0))
    ·simp only [cond_false]
     cases (decide (a.n=b.n)&&decide (a.d=b.d))
     ·simp only [cond_false]
      cases Bn.2
      ·rfl
      simp only [cond_true,Bool.true_and,ap]
     rfl
    rfl
   rfl
  rfl
 rfl
theorem cD_ {p:List I} {c:Nat→Int} {a b:Rt} {qa qb:Rat} (h:Po p c) (h7:p.length≤12) (ha:a.At qa) (hb:b.At qb) (hab:qa<qb) (hg:(bT p a b).2=true) (hf:(bT p a b).1.all nnI=true) {t:Rat} (t0:qa≤t) (t1:t≤qb):0≤vl (cR c) t p.length:=by
 by_cases h0:p=[]
 ·rw [h0];exact Rat.le_refl
 obtain ⟨n,hp⟩:∃ n,p.length=n+1:=⟨p.length - 1,by have:=List.length_pos_iff.2 h0;omega⟩
 have hn:n≤11:=by omega
 obtain ⟨γ,g,W,G,l,gp,Wp,Gp,hz,hv,hl,lb,hL⟩:=eB_ h hp hn ha hb hg;rw [hL] at hf
 have hlz:∀ i,i≤n→0≤l i:=fun i hi=>by
  have hx:E (Z.of (l i))∈(List.range (n+1)).map (fun i=>E (Z.of (l i))):=List.mem_map.2 ⟨i,List.mem_range.2 oo_,rfl⟩;have:=List.all_eq_true.1 hf _ hx;unfold nnI at this;rw [cP,lW (lb i hi),decide_eq_true_eq] at this;exact Int.sign_nonneg_iff.1 this
 obtain ⟨y,hy⟩:∃ y:Rat,y=(t - qa) / (qb - qa):=⟨_,rfl⟩
 have dp:0<qb - qa:=by grind
 have hd0:qb - qa≠0:=by grind
 have ey:(qb - qa)*y=t - qa:=by rw [hy,Rat.mul_comm];exact Rat.div_mul_cancel hd0
 have y0:0≤y:=zH dp (by grind);have y1:0≤1 - y:=zH dp (by grind);have hs:=ZX n γ y
 have k1:0≤jA (fun i=>(bs γ n i:Rat)*((bin n i:Nat):Rat)*(y ^ i*(1 - y) ^ (n - i))) (n+1):=WU fun i hi=>by
  have b1:0≤bs γ n i:=by rw [← hl i oo_];exact Int.mul_nonneg oo_ (hlz i oo_)
  have b2:(0:Rat)≤((bs γ n i:Int):Rat):=Rat.intCast_nonneg.2 b1
  have b3:(0:Rat)≤((bin n i:Nat):Rat):=by
   rw [show ((bin n i:Nat):Rat)=(((bin n i:Nat):Int):Rat) from (Rat.intCast_natCast _).symm];exact Rat.intCast_nonneg.2 oo_
  exact Rat.mul_nonneg (Rat.mul_nonneg b2 b3) (Rat.mul_nonneg (O5 y0 i) (O5 y1 _))
 rw [hs] at k1;have k2:=zH (Rat.intCast_pos.2 (QR n)) k1;have k3:vl (cR γ) y 26=jA (fun k=>(γ k:Rat)*y ^ k) (n+1):=CF (n:=n+1) (fun i hi=>by unfold cR;rw [hz i hi];rfl) oo_;rw [← k3] at k2;have k4:=hv y;rw [ey,show qa+(t - qa)=t by grind] at k4;refine zH (Rat.intCast_pos.2 Wp) ?_;rw [← k4];exact Rat.mul_nonneg (Rat.le_of_lt (Rat.intCast_pos.2 gp)) k2
theorem ek_ {p:List I} {c:Nat→Int} (h:Po p c) (x:Rat):(qp p).ev x=vl (cR c) x p.length:=by
 rw [vF h h.ends,QP.ev_vl (n:=p.length) (fun i hi=>by rw [nI,h.zero hi];rfl)];rfl
theorem XF {p:List I} (hp:Rgt p) (h7:p.length≤12) {a b:Rt} {A B:Rat} (ha:a.At A) (hb:b.At B) (h:(aP p a b).2.1=0):p.all gdI=true∧A≤B∧((aP p a b).1=true ↔ NN (qp p) A B):=by
 rw [HU] at h ⊢;rw [iX (DF hp),B5 ha hb] at h ⊢
 cases hg:p.all gdI
 ·rw [hg] at h;cases h
 rw [hg] at h
 by_cases hAB:A≤B
 case neg=>rw [decide_eq_false hAB] at h;cases h
 rw [decide_eq_true hAB] at h ⊢;simp only [Bool.not_true,Bool.or_self,cond_false] at h ⊢;refine ⟨trivial,hAB,?_⟩
 by_cases h0:p=[]
 ·subst h0
  rw [GN,decide_eq_true O,cond_true];refine ⟨fun _ x _ _=>?_,fun _=>rfl⟩;rw [DD,QP.ev_C];exact Rat.le_refl
 rw [GN,decide_eq_false h0] at h ⊢;simp only [cond_false] at h ⊢;have hP:=xU hp hg
 cases sa:(aH p a).2
 ·rw [sa] at h;cases h
 cases sb:(aH p b).2
 ·rw [sa,sb] at h;cases h
 rw [sa,sb] at h;simp only [Bool.not_true,Bool.or_self,cond_false] at h ⊢;have va:=rN hP ha sa;have vb:=rN hP hb sb
 cases hneg:(decide (((aH p a).1).1<0)||decide (((aH p b).1).1<0))
 case true =>
  rw [cond_true];refine ⟨fun e=>(by cases e),fun e=>?_⟩
  exfalso
  rcases Bool.or_eq_true_iff.1 hneg with k|k
  ·have:=of_decide_eq_true k
   rw [va,yM] at this;have:=e A Rat.le_refl hAB;grind
  have:=of_decide_eq_true k;rw [vb,yM] at this;have:=e B hAB Rat.le_refl;grind
 rw [hneg] at h;simp only [cond_false] at h ⊢;obtain ⟨na,nb⟩:=Bool.or_eq_false_iff.1 hneg;have na:=of_decide_eq_false na;have nb:=of_decide_eq_false nb;rw [va,yM] at na;rw [vb,yM] at nb;have a0:0≤(qp p).ev A:=Rat.not_lt.1 na;have b0:0≤(qp p).ev B:=Rat.not_lt.1 nb
 cases heq:(decide (a.n=b.n)&&decide (a.d=b.d))
 case true =>
  rw [cond_true];refine ⟨fun _ x x1 x2=>?_,fun _=>rfl⟩;simp only [Bool.and_eq_true,decide_eq_true_eq] at heq;have:a=b:=Rt.ext heq.1 heq.2;subst this;obtain rfl:=n9 ha hb;rw [show x=A by grind];exact a0
 rw [heq] at h;simp only [cond_false] at h ⊢
 have hlt:A<B:=by
  apply Rat.not_le.1
  intro hn
  have e:A=B:=by grind
  subst e;have:=SY ha hb;subst this
  simp at heq
 cases hbn:((bT p a b).2&&(bT p a b).1.all nnI)
 case true =>
  rw [cond_true];refine ⟨fun _ x x1 x2=>?_,fun _=>rfl⟩;rw [Bool.and_eq_true] at hbn;rw [ek_ hP];exact cD_ hP h7 ha hb hlt hbn.1 hbn.2 x1 x2
 rw [hbn] at h;simp only [cond_false] at h ⊢
 cases hs:(aL p).2
 case false=>rw [hs] at h;cases h
 rw [hs] at h;simp only [cond_true] at h ⊢
 cases hR:(nnR p a b).2
 case false=>rw [hR] at h;cases h
 simp only [cond_true];have hSt:=(yU hp hs).resolve_left h0;unfold nnR at hR ⊢;rw [hs] at hR ⊢;exact bi_ hp hg hSt (pS p) 601 0 a b _ _ A B O dd_ ⟨ha,hb,hlt,va,vb,a0,b0⟩ hR
theorem HT {p:List I} (hp:Rgt p) (h7:p.length≤7) {a b:Rt} {A B:Rat} (ha:a.At A) (hb:b.At B) (h:(aP p a b).2.1=0):p.all gdI=true∧A≤B∧((aP p a b).1=true ↔ NN (qp p) A B):=XF hp oo_ ha hb h
theorem PV {p:List I} {A B:Rat} (h:Sp p A B) (hAB:A≤B) {K:Nat} (hK:K≤93) {j:Int} {a b:Rt} {u v:Rat} (ha:a.At u) (hb:b.At v) (hi:It A B (2 ^ K) j u v):(aP p a b).2.1=0:=by
 have huv:=hi.le hAB;have sa:=o2 h.tp ha ((hi.lo.sz h.sA h.sB).mono oo_);have sb:=o2 h.tp hb ((hi.hi.sz h.sA h.sB).mono oo_);have hP:=xU h.rgt h.gd;have va:=rN hP ha sa;have vb:=rN hP hb sb;rw [HU,h.nb,h.nl,B5 ha hb,decide_eq_true huv,sa,sb];simp only [Bool.not_true,Bool.or_self,cond_false]
 cases hneg:(decide (((aH p a).1).1<0)||decide (((aH p b).1).1<0))
 case true=>rfl
 obtain ⟨na,nb⟩:=Bool.or_eq_false_iff.1 hneg;have na:=of_decide_eq_false na;have nb:=of_decide_eq_false nb;rw [va,yM] at na;rw [vb,yM] at nb;simp only [cond_false]
 cases heq:(decide (a.n=b.n)&&decide (a.d=b.d))
 case true=>rfl
 simp only [cond_false]
 have hlt:u<v:=by
  apply Rat.not_le.1
  intro hn
  have e:u=v:=by grind
  subst e;have:=SY ha hb;subst this
  simp at heq
 cases hbn:((bT p a b).2&&(bT p a b).1.all nnI)
 case true=>rfl
 rw [h.ok]
 have hR:(nnR p a b).2=true:=by
  unfold nnR;rw [h.ok];exact hd_ h hAB (93 - K) 601 0 K j a b _ _ u v oo_ O (Nat.zero_le _) hi ⟨ha,hb,hlt,va,vb,Rat.not_lt.1 na,Rat.not_lt.1 nb⟩
 rw [hR];rfl
theorem bh_ {a b:Z} (h:b.o=none):(Z.mul a b).o=none:=by
 unfold Z.mul yG;rw [h]
 cases a.o<;>rfl
theorem ZM {a b:Z} (h:b.o=none):(Z.add a b).o=none:=by
 unfold Z.add yG;rw [h]
 cases a.o<;>rfl
section
variable {p:List I} {c:Nat→Int} {x:Rt} {D:Int}
theorem XA (p:List I) (x:Rt) (hn:(pw x.d (p.length - 1)).dec.o=none):∀ (f t:Nat) (i:Int) (m:I),t<p.length→i=(p.length:Int) - 1 - t→p.length - t<f→(fN p x f i m).2.1.bad=true
 | 0,t,i,m,_,_,hf=>absurd hf (Nat.not_lt_zero _)
 | f+1,t,i,m,ht,hi,hf=>by
  unfold fN;rw [decide_eq_true (show 0≤i by omega),cond_true];simp only
  by_cases h1:t+1<p.length
  ·exact XA p x hn f (t+1) _ _ h1 oo_ oo_
  have e1:i=0:=by omega
  obtain ⟨f,rfl⟩:∃ j,f=j+1:=⟨f - 1,by omega⟩;unfold fN;rw [decide_eq_false (show ¬ 0≤i - 1 by omega),cond_false];simp only;rw [e1,show p.length - 1 - (0:Int).toNat=p.length - 1 by simp,uV _ _ (show p.length - 1<max (p.length:Int).toNat 1 by omega),cP];exact UP (ZM (bh_ hn))
theorem ZE {q:Rat} (hx:x.At q) (hl:1≤p.length) (hs:(aH p x).2=true):dR ((q.den:Int) ^ (p.length - 1)):=by
 have ix:=At.is hx
 have hz:Zx (pw x.d (p.length - 1)).dec ((q.den:Int) ^ (p.length - 1)):=by rw [ix.ed];exact dr_ (x:=E (Z.of (q.den:Int))) (.of _) _
 by_cases hn:(pw x.d (p.length - 1)).dec.o=none
 ·exfalso
  unfold aH iB at hs
  cases hb:(aY p||(!(jZ [x])))
  ·rw [hb] at hs
   have:=XA p x hn (p.length+1) 0 ((p.length:Int) - 1) I0 oo_ oo_ oo_;simp only [cond_false,ap] at hs;rw [this] at hs;cases hs
  rw [hb] at hs;simp only [cond_true] at hs;exact absurd hs (by decide +kernel)
 exact (hz.good hn).2
end
theorem aQ_ (c:Nat→Int) (N D:Int) (L:Nat):∀ t:Nat,∃ k:Int,Go.Num.hv c N D L (t+1)=c (L - 1)*N ^ t+D*k
 | 0=>⟨0,by rw [Go.Num.hv,Go.Num.hv,Int.pow_zero,Int.pow_zero];simp⟩
 | t+1=>by
  obtain ⟨k,hk⟩:=aQ_ c N D L t;refine ⟨k*N+c (L - 1 - (t+1))*D ^ t,?_⟩;rw [Go.Num.hv,hk,Int.pow_succ,Int.pow_succ]
  grind
theorem bN_ {p:List I} {c:Nat→Int} {q:Rat} (h:Po p c) (h0:p≠[]) (hz:(qp p).ev q=0):(q.den:Int) ∣ c (p.length - 1):=by
 have hl:1≤p.length:=List.length_pos_iff.2 h0;have hp:=@nU q;have ht:=TO (c:=c) (L:=p.length) (N:=q.num) (D:=(q.den:Int)) IA hp;rw [ek_ h] at hz;rw [hz,Rat.mul_zero] at ht;have ht:Go.Num.hv c q.num (q.den:Int) p.length p.length=0:=Rat.intCast_eq_zero_iff.1 ht;obtain ⟨k,hk⟩:=aQ_ c q.num (q.den:Int) p.length (p.length - 1);rw [show p.length - 1+1=p.length by omega,ht] at hk;have hd:(q.den:Int) ∣ c (p.length - 1)*q.num ^ (p.length - 1):=⟨-k,by rw [Int.mul_neg];omega⟩;have hn:=Int.natAbs_dvd_natAbs.2 hd;rw [Int.natAbs_mul,Int.natAbs_pow,Int.natAbs_natCast] at hn;have hco:Nat.Coprime q.den (q.num.natAbs ^ (p.length - 1)):=Nat.Coprime.pow_right _ q.reduced.symm;have:=hco.dvd_of_dvd_mul_right hn;exact Int.natAbs_dvd_natAbs.1 (by rw [Int.natAbs_natCast];exact this)
theorem cP_ {x y:Rat} (h:x<y):(1:Rat)≤(y - x)*(((x.den:Int):Rat)*((y.den:Int):Rat)):=by
 have hx:=xJ x;have hy:=xJ y;have dx:(0:Rat)<((x.den:Int):Rat):=Rat.intCast_pos.2 nU;have dy:(0:Rat)<((y.den:Int):Rat):=Rat.intCast_pos.2 nU
 have e:(y - x)*(((x.den:Int):Rat)*((y.den:Int):Rat))=((y.num*x.den - x.num*y.den:Int):Rat):=by
  rw [Rat.intCast_sub,Rat.intCast_mul,Rat.intCast_mul,← hx,← hy];grind
 have hp:(0:Rat)<((y.num*x.den - x.num*y.den:Int):Rat):=by
  rw [← e];exact Rat.mul_pos (by grind) (Rat.mul_pos dx dy)
 rw [e];have:=Rat.intCast_pos.1 hp;rw [show (1:Rat)=((1:Int):Rat) from rfl];exact Rat.intCast_le_intCast.2 oo_
theorem WM {a:Int} {k:Nat} (h:a.natAbs≤2 ^ k):((a:Int):Rat)≤(((2 ^ k:Nat):Int):Rat):=Rat.intCast_le_intCast.2 oo_
theorem dL_ {lo mid w:Rat} (hlt:lo<mid) (dl:lo.den≤2 ^ 64) (dm:mid.den≤2 ^ 256) (hw:(mid - lo)*(((2:Int) ^ 500:Int):Rat)=w) (w1:w≤(((2 ^ 121:Nat):Int):Rat)):False:=by
 have h1:=cP_ hlt;have dx:(0:Rat)<((lo.den:Int):Rat):=Rat.intCast_pos.2 nU;have dy:(0:Rat)<((mid.den:Int):Rat):=Rat.intCast_pos.2 nU;have x1:((lo.den:Int):Rat)≤(((2 ^ 64:Nat):Int):Rat):=WM (by rw [Int.natAbs_natCast];exact dl);have y1:((mid.den:Int):Rat)≤(((2 ^ 256:Nat):Int):Rat):=WM (by rw [Int.natAbs_natCast];exact dm)
 have P0:(0:Rat)<(((2:Int) ^ 500:Int):Rat):=by decide +kernel
 have num:(((2 ^ 121:Nat):Int):Rat)*((((2 ^ 64:Nat):Int):Rat)*(((2 ^ 256:Nat):Int):Rat))<(((2:Int) ^ 500:Int):Rat):=by decide +kernel
 generalize ((lo.den:Int):Rat)=dl' at *;generalize ((mid.den:Int):Rat)=dm' at *
 have c64:(0:Rat)≤(((2 ^ 64:Nat):Int):Rat):=by decide +kernel
 generalize (((2 ^ 64:Nat):Int):Rat)=A at *;generalize (((2 ^ 256:Nat):Int):Rat)=B at *;generalize (((2:Int) ^ 500:Int):Rat)=P at *;generalize (((2 ^ 121:Nat):Int):Rat)=C at *
 have w0:0<w:=by rw [← hw];exact Rat.mul_pos (by grind) P0
 have h2:P≤w*(dl'*dm'):=by
  have:=Rat.mul_le_mul_of_nonneg_left h1 (Rat.le_of_lt P0);rw [← hw];grind
 have h3:dl'*dm'≤A*B:=by
  have a1:=Rat.mul_nonneg (show 0≤A - dl' by grind) (Rat.le_of_lt dy);have a2:=Rat.mul_nonneg c64 (show 0≤B - dm' by grind)
  grind
 have h4:=Rat.mul_le_mul_of_nonneg_left h3 (Rat.le_of_lt w0)
 have h5:0≤A*B:=by
  have:=Rat.mul_pos dx dy;grind
 have h6:=Rat.mul_nonneg (show 0≤C - w by grind) h5
 grind
open Go Go.Kn
open QP (V Rb Two NN sg Sf)
theorem O6 {p:List I} (hp:p.length≤1000) (x:Rt):(aF p x).s=(aH p x).1:=by rw [HX hp]
theorem z8 {p:List I} (hp:p.length≤1000) (x:Rt):(aF p x).ok=(aH p x).2:=by rw [HX hp]
theorem dh_ {p:List I} {L:List (List I)} (h:St p L) {u v:Rat} (huv:u<v) (ht:Two (qp (bD p)) (L.map qp) u v):3≤(bD p).length:=by
 obtain ⟨f,l,⟨eL,ef⟩,hR,hs,hl⟩:=h.s;subst ef;have gf:Gp (bD p):=h.g _ (by rw [eL];exact List.mem_cons_self);obtain ⟨F,hF⟩:=gf.po;have hq:qp (bD p)=ZP F hF.ends:=vF hF _;rcases hl with rfl|⟨g,l',κ,rfl,hc,hκ,hD⟩
 ·exfalso
  rw [eL] at ht;unfold Two at ht;simp only [List.map_cons,List.map_nil,QP.V_one] at ht;omega
 rw [eL] at ht hc;simp only [List.map_cons] at ht hc;have n1:=QP.two_nD hc hκ hD huv ht
 have n2:¬ Rb u v (qp (bD p)):=fun hr=>by
  have:=QP.st_rb hc hκ hD huv hr;unfold Two at ht;omega
 rw [hq] at n1 n2
 apply Classical.byContradiction
 intro hn;have z2:∀ i,1<i→F i=0:=fun i hi=>hF.zero oo_;have cu:=aj_ hF.ends fun i hi=>z2 i oo_;have z0:((0:Int):Rat)=0:=rfl
 have d1:∀ x,(QP.D (ZP F hF.ends)).ev x=((F 1:Int):Rat):=fun x=>by
  rw [cu.d,z2 3 oo_,z2 2 oo_,z0];grind
 by_cases f1:F 1=0
 ·have v0:∀ x,(ZP F hF.ends).ev x=((F 0:Int):Rat):=fun x=>by
   rw [cu.v,z2 3 oo_,z2 2 oo_,f1,z0];grind
  have f0:((F 0:Int):Rat)≠0:=fun e=>gf.2.2 (hF.nil fun k=>by
   rcases (show k=0∨k=1∨1<k by omega) with r|r|r
   ·subst r;exact Rat.intCast_eq_zero_iff.1 e
   ·subst r;exact f1
   exact z2 k r)
  refine n2 ?_;rcases Rat.le_total (a:=0) (b:=((F 0:Int):Rat)) with k|k
  ·exact ⟨_,show (0:Rat)<((F 0:Int):Rat) by grind,.inl fun x _ _=>by rw [v0];exact Rat.le_refl⟩
  exact ⟨-((F 0:Int):Rat),by grind,.inr fun x _ _=>by rw [v0];grind⟩
 have f0:((F 1:Int):Rat)≠0:=fun e=>f1 (Rat.intCast_eq_zero_iff.1 e);refine n1 ?_;rcases Rat.le_total (a:=0) (b:=((F 1:Int):Rat)) with k|k
 ·exact ⟨_,show (0:Rat)<((F 1:Int):Rat) by grind,.inl fun x _ _=>by rw [d1];exact Rat.le_refl⟩
 exact ⟨-((F 1:Int):Rat),by grind,.inr fun x _ _=>by rw [d1];grind⟩
theorem hD_ {d n:Nat} (hn:2≤n) (h:d ^ n<4294967296 ^ 16):d≤2 ^ 256:=by
 rcases Nat.lt_or_ge (2 ^ 256) d with k|k
 ·exfalso
  have h1:(2 ^ 256) ^ 2≤d ^ 2:=Nat.pow_le_pow_left (Nat.le_of_lt k) 2;have h2:d ^ 2≤d ^ n:=Nat.pow_le_pow_right (Nat.lt_of_lt_of_le dd_ (Nat.le_of_lt k)) hn
  have h3:(4294967296:Nat) ^ 16=(2 ^ 256) ^ 2:=by decide +kernel
  omega
 exact k
structure Nq (p:List I) (c:Nat→Int) (A B:Rat):Prop where
 po:Po p c
 ne:p≠[]
 b:∀ k,(c k).natAbs≤2 ^ 64
 ok:(aL p).2=true
 w:B - A≤(((2 ^ 121:Nat):Int):Rat)
 le:A≤B
theorem Nq.st {p:List I} {c:Nat→Int} {A B:Rat} (h:Nq p c A B):St p (aL p).1:=(yU h.po.rgt h.ok).resolve_left h.ne
theorem Nq.den {p:List I} {c:Nat→Int} {A B:Rat} (h:Nq p c A B) {q:Rat} (hz:(qp p).ev q=0):q.den≤2 ^ 64:=by
 have hd:=bN_ h.po h.ne hz;obtain ⟨n,n1,n2,_⟩:=h.po.top h.ne;rw [n1,show n+1 - 1=n by omega] at hd;have h1:=Int.natAbs_dvd_natAbs.2 hd;rw [Int.natAbs_natCast] at h1;exact Nat.le_trans (Nat.le_of_dvd oo_ h1) (h.b n)
theorem iw_ {x y z:Rat} (h:x<y) (g:y<z):x<z:=by grind
theorem c2_ {p:List I} {c:Nat→Int} {A B:Rat} (h:Nq p c A B) {L:List (List I)} (hL:L=(aL p).1) (hr:(bO p).1=L) (a b:Rt) (i:Nat) (r48:Sgd):∀ (n m:Nat) (y:Iv) (u v:Rat),n+m=501→m≤499→y.lo.At u→y.hi.At v→u<v→V (L.map qp) u=V (L.map qp) v+1 →
  (v - u)*(((2:Int) ^ m:Int):Rat)≤(((2 ^ 121:Nat):Int):Rat) →
  cY p a b i r48 n m (aF p y.lo) y = .inr ⟨⟨⟨I0,I0⟩,⟨I0,I0⟩⟩,false,wl 30⟩ ∨
  ∃ (m':Nat) (y':Iv) (u':Rat),cY p a b i r48 n m (aF p y.lo) y = .inl (m',aF p y'.lo,y')∧y'.lo.At u'∧u≤u'∧u'<v∧V (L.map qp) u'=V (L.map qp) u∧((aF p y'.lo).ok=true→(aF p y'.lo).s.1≠0):=by
 have hSt:St p L:=by rw [hL];exact h.st
 have hl:L.length≤100:=by rw [hL];exact pS p
 have hA:AL L:=by rw [hL];exact iJ p
 have l3:=h.po.l3;intro n
 induction n with
 | zero=>intro m y u v h1 h2;omega
 | succ n ih =>
  intro m y u v hnm hm hu hv huv hV hw;unfold cY
  cases hc:((aF p y.lo).ok&&(((aF p y.lo).s.1==0)&&decide ((m:Int)<500)))
  ·right
   refine ⟨m,y,u,rfl,hu,Rat.le_refl,huv,rfl,fun ho e=>?_⟩;rw [ho,e,decide_eq_true (show (m:Int)<500 by omega)] at hc
   cases hc
  simp only [Bool.and_eq_true,beq_iff_eq,decide_eq_true_eq] at hc;obtain ⟨h1,h2,h3⟩:=hc;simp only [cond_true];rw [z8 l3] at h1;rw [O6 l3] at h2
  have pz:(qp p).ev u=0:=by
   have:=rN h.po hu h1;rw [h2] at this;exact sg_zr.1 this.symm
  have fz:(qp (bD p)).ev u=0:=by
   apply Classical.byContradiction
   intro hf;exact hSt.sf.ne hf pz
  have h3f:=dh_ hSt huv (.inr ⟨by omega,fz⟩);rw [hr]
  cases hh:(eR L y).2
  ·exact .inl O
  simp only [cond_true]
  -- the middle
  have hh':=hh;unfold eR at hh'
  have hb2:(bP L y.lo (aI y.lo y.hi)).2=true:=by
   cases hq:((bP L y.lo (aI y.lo y.hi)).1.1==1)
   ·rw [hq] at hh';exact hh'
   rw [hq] at hh';exact hh'
  rw [← rQ hA] at hb2;obtain ⟨u',t,cx⟩:=xG hSt hl hb2;obtain rfl:=n9 hu cx.a;have ht:t=(u+v)*(1 / 2):=n9 cx.b (LN hu hv (nK cx.b));subst ht;have ml:=I4 huv
  have hS:(aH (bD p) (aI y.lo y.hi)).2=true:=by
   unfold aJ at hb2;have:=(FA hSt.g hl hSt.ne (Bool.and_eq_true_iff.1 hb2).2).1;obtain ⟨f,l,⟨eL,ef⟩,_⟩:=hSt.s;exact this _ (by rw [eL,ef];exact List.mem_cons_self)
  have dm:=ZE cx.b oo_ hS;unfold dR at dm;rw [Int.natAbs_pow,Int.natAbs_natCast] at dm;have dm:=hD_ oo_ dm
  have hw2:((u+v)*(1 / 2) - u)*(((2:Int) ^ (m+1):Int):Rat)=(v - u)*(((2:Int) ^ m:Int):Rat):=by
   rw [Int.pow_succ,Rat.intCast_mul];have:((2:Int):Rat)=2:=rfl;rw [this];grind
  have hm':m≤498:=by
   rcases Nat.lt_or_ge m 499 with k|k
   ·omega
   exfalso
   have e:m=499:=by omega
   subst e;exact dL_ ml.1 (h.den pz) dm hw2 hw
  have a1:=hSt.anti (Rat.le_of_lt ml.1);have a2:=hSt.anti (Rat.le_of_lt ml.2);have cn:=cx.n
  have hb:(bP L y.lo (aI y.lo y.hi)).1.1=(V (L.map qp) u:Int) - (V (L.map qp) ((u+v)*(1 / 2)):Int):=by rw [← rQ hA];exact cn
  unfold eR
  cases h1':((bP L y.lo (aI y.lo y.hi)).1.1==1)
  ·simp only [cond_false]
   have hne:¬ (bP L y.lo (aI y.lo y.hi)).1.1=1:=by simpa using h1'
   have hVm:V (L.map qp) ((u+v)*(1 / 2))=V (L.map qp) u:=by omega
   have pm:=(hSt.sf.pos ml.1 hVm.symm).1;obtain ⟨n,rfl⟩:∃ j,n=j+1:=⟨n - 1,by omega⟩
   right
   have hex:((aF p (aI y.lo y.hi)).ok&&(((aF p (aI y.lo y.hi)).s.1==0)&&decide (((m+1:Nat):Int)<500)))=false:=by
    cases ho:(aF p (aI y.lo y.hi)).ok
    ·rfl
    have e:¬ (aF p (aI y.lo y.hi)).s.1=0:=by
     rw [z8 l3] at ho;rw [O6 l3,rN h.po cx.b ho,sg_zr];exact pm
    rw [show ((aF p (aI y.lo y.hi)).s.1==0)=false by simpa using e];rfl
   refine ⟨m+1,⟨aI y.lo y.hi,y.hi⟩,(u+v)*(1 / 2),?_,cx.b,Rat.le_of_lt ml.1,ml.2,hVm,fun ho e=>?_⟩
   ·unfold cY
    simp only [hex,cond_false]
   rw [z8 l3] at ho;rw [O6 l3,rN h.po cx.b ho,sg_zr] at e;exact pm e
  simp only [cond_true]
  have hone:(bP L y.lo (aI y.lo y.hi)).1.1=1:=by simpa using h1'
  have hVm:V (L.map qp) u=V (L.map qp) ((u+v)*(1 / 2))+1:=by omega
  rcases ih (m+1) ⟨y.lo,aI y.lo y.hi⟩ u _ oo_ oo_ hu cx.b ml.1 hVm (by rw [hw2];exact hw) with k|⟨m',y',u',k1,k2,k3,k4,k5,k6⟩
  ·exact .inl k
  exact .inr ⟨m',y',u',k1,k2,k3,iw_ k4 ml.2,k5,k6⟩
open QP (V vr sgs)
def Chn9 (L:List (List I)):Rat→List Iv→Rat→Prop
 | u,[],v=>u≤v
 | u,x::l,v=>∃ s t,x.lo.At s∧x.hi.At t∧u≤s∧s≤t∧V (L.map qp) s=V (L.map qp) t+1∧Chn9 L t l v
theorem Chn9.le {L:List (List I)}:∀ {l:List Iv} {u v:Rat},Chn9 L u l v→u≤v
 | [],u,v,h=>h
 | x::l,u,v,⟨s,t,_,_,h1,h2,_,h3⟩=>by have:=Chn9.le h3;grind
theorem Chn9.mono {L:List (List I)} {l:List Iv} {u u' v:Rat} (h:Chn9 L u l v) (hu:u'≤u):Chn9 L u' l v:=by
 cases l with
 | nil=>exact Rat.le_trans hu h
 | cons x l =>
  obtain ⟨s,t,a,b,h1,h2⟩:=h;exact ⟨s,t,a,b,Rat.le_trans hu h1,h2⟩
theorem Chn9.app {L:List (List I)} {l2:List Iv} {m v:Rat} (h2:Chn9 L m l2 v):∀ {l:List Iv} {u:Rat},Chn9 L u l m→Chn9 L u (l++l2) v
 | [],u,h=>h2.mono h
 | x::l,u,⟨s,t,a,b,h1,h3,h4,h5⟩=>⟨s,t,a,b,h1,h3,h4,Chn9.app h2 h5⟩
theorem Gp.dg {p:List I} (h:Gp p):QP.Dg (qp p) (p.length - 1):=by
 obtain ⟨c,hc⟩:=h.po;obtain ⟨n,n1,n2,n3⟩:=hc.top h.2.2;rw [vF hc hc.ends,n1];exact ⟨by rw [nI];exact fun e=>n2 (Rat.intCast_eq_zero_iff.1 e),fun i hi=>by rw [nI,n3 i oo_];rfl⟩
theorem gS_ (l:List Iv) {i:Nat} (h:i<l.length):l.drop i=l.getD i Iv0::l.drop (i+1):=by
 rw [List.drop_eq_getElem_cons h,List.getD_eq_getElem?_getD,List.getElem?_eq_getElem h];rfl
theorem Chn9.count {p:List I} {L:List (List I)} (h:St p L):∀ {l:List Iv} {u v:Rat},Chn9 L u l v→V (L.map qp) v+l.length≤V (L.map qp) u
 | [],u,v,hc=>by have:=h.anti hc;simp only [List.length_nil];omega
 | x::l,u,v,⟨s,t,_,_,h1,h2,h3,h4⟩=>by
  have:=Chn9.count h h4;have:=h.anti h1;simp only [List.length_cons];omega
theorem R4 {p:List I} {L:List (List I)} (h:St p L) (hA:AL L) (hl:L.length≤100):∀ (m k:Nat) (a b:Rt) (u v:Rat),m+k=503→2≤m→u≤v→a.At u→b.At v→(aM m L a b (k:Int)).e.1=0 →
  (aM m L a b (k:Int)).l.length+V (L.map qp) v=V (L.map qp) u∧Chn9 L u (aM m L a b (k:Int)).l v:=by
 intro m
 induction m with
 | zero=>intro k a b u v _ h1;omega
 | succ m ih =>
  intro k a b u v hm _ huv ha hb he;unfold aM at he ⊢;rw [← rQ hA] at he ⊢
  cases hr:(!((aJ L a b).2)||decide ((500:Int)<(k:Int)))
  case true=>rw [hr] at he;cases he
  rw [hr] at he;simp only [cond_false] at he ⊢;simp only [Bool.or_eq_false_iff,Bool.not_eq_false',decide_eq_false_iff_not] at hr;obtain ⟨u',v',cx⟩:=xG h hl hr.1;obtain rfl:=n9 ha cx.a;obtain rfl:=n9 hb cx.b;have cn:=cx.n;have an:=h.anti huv;generalize (aJ L a b).1.1=c at *
  cases h0:(c==0)
  ·rw [h0] at he
   simp only [cond_false] at he ⊢
   cases h1:(c==1)
   ·rw [h1] at he
    simp only [cond_false] at he ⊢;rw [show (k:Int)+1=((k+1:Nat):Int) by omega] at he ⊢;have i1:=fun t h1=>ih (k+1) a (aI a b) u t oo_ oo_ h1 ha;have i2:=fun t h1 h2=>ih (k+1) (aI a b) b t v oo_ oo_ h1 h2 hb
    have hg:(aM m L a (aI a b) ((k+1:Nat):Int)).e.1=0→∃ q,(aI a b).At q:=fun e0=>by
     obtain ⟨m,rfl⟩:∃ j,m=j+1:=⟨m - 1,by omega⟩;unfold aM at e0;rw [← rQ hA] at e0
     cases hs:(aJ L a (aI a b)).2
     ·rw [hs] at e0
      simp only [Bool.not_false,Bool.true_or,cond_true] at e0
      cases e0
     obtain ⟨_,w,_,hw⟩:=H9 h hl hs;exact ⟨w,hw⟩
    generalize aM m L a (aI a b) ((k+1:Nat):Int)=s1 at *;generalize aM m L (aI a b) b ((k+1:Nat):Int)=s2 at *
    cases e1:(s1.e.1 != 0)
    ·rw [e1] at he
     simp only [cond_false] at he ⊢
     have e1':s1.e.1=0:=by simpa using e1
     obtain ⟨q,hq⟩:=hg e1';have hm':=LN ha hb (nK hq)
     cases e2:(s2.e.1 != 0)
     ·simp only [cond_false]
      have e2':s2.e.1=0:=by simpa using e2
      obtain ⟨n1,c1⟩:=i1 _ (C9 huv).1 hm' e1';obtain ⟨n2,c2⟩:=i2 _ (C9 huv).2 hm' e2';exact ⟨by rw [List.length_append];omega,Chn9.app c2 c1⟩
     exfalso
     rw [e2] at he;simp only [cond_true] at he;rw [he] at e2;cases e2
    exfalso
    rw [e1] at he;simp only [cond_true] at he;rw [he] at e1;cases e1
   have hc1:c=1:=by simpa using h1
   simp only [cond_true];exact ⟨by simp only [List.length_singleton];omega,u,v,ha,hb,Rat.le_refl,huv,by omega,Rat.le_refl⟩
  have hc0:c=0:=by simpa using h0
  simp only [cond_true];exact ⟨by simp only [List.length_nil];omega,huv⟩
theorem dg_ {p f:QP} {L:List QP} (h:Sf p f L) {x B:Rat} (hx:x≤B) (hV:V L x=V L B+1) (px:0<p.ev x) (pB:0≤p.ev B):NN p x B:=by
 have hlt:x<B:=by
  apply Rat.not_le.1
  intro hn
  have:x=B:=by grind
  subst this;omega
 by_cases h0:p.ev B=0
 ·have ml:=I4 hlt
  have a1:=h.anti _ _ (Rat.le_of_lt ml.1);have a2:=h.anti _ _ (Rat.le_of_lt ml.2);have hne:V L ((x+B)*(1 / 2))≠V L B:=fun e=>(h.pos ml.2 e).1 h0;have hr:=(h.pos ml.1 oo_).2 (by grind);have:=hr.pos Rat.le_refl (Rat.le_of_lt ml.1) (Rat.le_of_lt ml.1) Rat.le_refl px;exact h.nn0r ml.1 ml.2 hV (Rat.le_of_lt px) (Rat.le_of_lt this) h0
 exact h.nn1 hV px (by grind)
theorem V9 {p:List I} {c:Nat→Int} {A B:Rat} (h:Nq p c A B) {L:List (List I)} (hL:L=(aL p).1) (hr:(bO p).1=L) (a b:Rt) {l:List Iv} (hI:(aU p a b).l=l) (pB:0≤(qp p).ev B) :
  ∀ (n i:Nat) (x t:Rat),l.length - i<n→(i≠0 ∨ ¬ 0<(aF p a).s.1)→A≤x→x≤t→Chn9 L t (l.drop i) B→V (L.map qp) t=V (L.map qp) B+(l.drop i).length →
  ((V (L.map qp) x=V (L.map qp) t+1∧0<(qp p).ev x)∨(V (L.map qp) x=V (L.map qp) t∧0≤(qp p).ev x∧i<l.length)) →
  (∃ r,cK p a b n i = .inr r∧(r.e.1=30∨(r.e.1=0∧r.is=false∧¬ NN (qp p) A B)))∨(∃ j,cK p a b n i = .inl j∧NN (qp p) x B):=by
 have hSt:St p L:=by rw [hL];exact h.st
 have l3:=h.po.l3;intro n
 induction n with
 | zero=>intro i x t h1;omega
 | succ n ih =>
  intro i x t hn hi hAx hxt hc hV hx;unfold cK;rw [hI]
  by_cases hil:i<l.length
  ·rw [decide_eq_true (show (i:Int)<(l.length:Int) by omega),cond_true]
   have hsk:(((i:Int)==0)&&decide (0<((aF p a).s).1))=false:=by
    rcases hi with k|k
    ·rw [show ((i:Int)==0)=false by simp;omega];rfl
    rw [decide_eq_false k,Bool.and_false]
   rw [hsk,cond_false];rw [gS_ _ hil] at hc hV;generalize l.getD i Iv0=y at *;obtain ⟨s,w,hs,hw,ts,sw,hd,hc'⟩:=hc;have cc:=Chn9.count hSt hc';have a1:=hSt.anti ts;simp only [List.length_cons] at hV
   have Vs:V (L.map qp) s=V (L.map qp) t:=by omega
   have Vw:V (L.map qp) w=V (L.map qp) B+(l.drop (i+1)).length:=by omega
   have slt:s<w:=by
    apply Rat.not_le.1
    intro hn
    have:s=w:=by grind
    subst this;omega
   have wB:=hc'.le;have As:A≤s:=Rat.le_trans hAx (Rat.le_trans hxt ts)
   have hwd:(w - s)*(((2:Int) ^ 0:Int):Rat)≤(((2 ^ 121:Nat):Int):Rat):=by
    have e1:(((2:Int) ^ 0:Int):Rat)=1:=rfl;have:=h.w;rw [e1,Rat.mul_one];exact Rat.le_trans (show w - s≤B - A by grind) this
   rcases c2_ h hL hr a b i (aF p y.lo) 501 0 y s w O dd_ hs hw slt hd hwd with k|⟨m',y',u',k1,k2,k3,k4,k5,k6⟩
   ·left
    refine ⟨⟨⟨⟨I0,I0⟩,⟨I0,I0⟩⟩,false,wl 30⟩,?_,.inl O⟩
    dsimp only
    rw [show (500+1)=501 from rfl,k];rfl
   dsimp only
   rw [show (500+1)=501 from rfl,k1];simp only [sm]
   cases ho:(aF p y'.lo).ok
   ·left
    exact ⟨_,rfl,.inl O⟩
   have hne:=k6 ho;rw [z8 l3] at ho;have hv:=rN h.po k2 ho;rw [O6 l3] at hne ⊢;rw [hv] at hne;have uB:u'≤B:=Rat.le_trans (Rat.le_of_lt k4) wB;have Au:A≤u':=Rat.le_trans As k3;simp only [cond_true]
   by_cases hneg:(aH p y'.lo).1.1≤0
   ·rw [decide_eq_true hneg,cond_true]
    left
    refine ⟨_,rfl,.inr ⟨rfl,rfl,fun e=>?_⟩⟩;have:=e u' Au uB;rw [hv] at hneg;have h3:=sg_nn.2 this;omega
   rw [decide_eq_false hneg,cond_false];rw [hv] at hneg;have pu:0<(qp p).ev u':=sg_ps.1 oo_;have xu:x≤u':=Rat.le_trans hxt (Rat.le_trans ts k3)
   have nxu:NN (qp p) x u':=by
    rcases hx with ⟨x1,x2⟩|⟨x1,x2,_⟩
    ·exact hSt.sf.nn1 oo_ x2 pu
    by_cases e:x=u'
    ·subst e
     exact fun z z1 z2=>by rw [show z=x by grind];exact x2
    exact hSt.sf.nn0 (by grind) oo_ x2 (Rat.le_of_lt pu)
   rcases ih (i+1) u' w oo_ (.inl oo_) Au (Rat.le_of_lt k4) hc' Vw (.inl ⟨by omega,pu⟩) with k|⟨j,j1,j2⟩
   ·exact .inl k
   exact .inr ⟨j,j1,(NN.halves xu uB).2 ⟨nxu,j2⟩⟩
  rw [decide_eq_false (show ¬ (i:Int)<(l.length:Int) by omega),cond_false]
  right
  refine ⟨i,rfl,?_⟩;rw [List.drop_eq_nil_of_le oo_] at hc hV;have hV:V (L.map qp) t=V (L.map qp) B:=hV;have tB:t≤B:=hc;rcases hx with ⟨x1,x2⟩|⟨_,_,x3⟩
  ·exact dg_ hSt.sf (Rat.le_trans hxt tB) oo_ x2 pB
  exact absurd x3 hil
end Go.Num
