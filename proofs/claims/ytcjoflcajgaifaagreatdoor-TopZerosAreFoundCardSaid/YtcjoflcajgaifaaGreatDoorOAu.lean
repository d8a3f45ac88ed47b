/- Lemmas: what they ask stands in their statements. -/
import Derived.Test.YtcjoflcajgaifaaGreatDoorOGd
set_option linter.unusedSimpArgs false
set_option linter.unusedVariables false
namespace Go.Num
open Go Go.Kn
open QP (V Rb Two Cub)
theorem JN {s:Nat} {x:List I} {y:Rt} {q:Rat} (hT:AH s x) (hy:y.At q) (sq:Sz q s):(bP x y).2=true:=by
 obtain ⟨c,n,b,hc,hb,hn,hk⟩:=hT;exact (WG (e:=2) hc hb hy sq hn oo_).1
theorem W5 (c:List (List I)) (x:Rt):∀ (l:List (List I)) (s n:W),(∀ f∈l,(bP f x).2=true)→∃ r,dK c x l s n = .inl r
 | [],s,n,_=>⟨_,rfl⟩
 | f::l,s,n,h=>by
  unfold dK;have hr:=ND f x;have hl:∀ g∈l,(bP g x).2=true:=fun g hg=>h g (List.mem_cons_of_mem _ hg);rw [h f (List.mem_cons_self),cond_true];rw [show ((bP f x).1.1==(-2))=false by simp;omega,cond_false]
  cases ((bP f x).1.1 != 0)
  ·exact W5 c x l _ _ hl
  ·cases ((s.1 != 0)&&((bP f x).1.1 != s.1))<;>exact W5 c x l _ _ hl
theorem FA {L:List (List I)} {x:Rt} (h:∀ f∈L,(bP f x).2=true):(bV L x).2=true:=by
 obtain ⟨r,e⟩:=W5 L x L (wl 0) (wl 0) h;unfold bV;rw [e];rfl
theorem XM {s:Nat} {L:List (List I)} {a b:Rt} {u v:Rat} (hT:∀ f∈L,AH s f) (ha:a.At u) (hb:b.At v) (su:Sz u s) (sv:Sz v s):(aK L a b).2=true:=by
 unfold aK
 show ((bV L a).2&&(bV L b).2)=true
 rw [FA fun f hf=>JN (hT f hf) ha su,FA fun f hf=>JN (hT f hf) hb sv];rfl
structure Pt (A B:Rat) (P j:Int) (x:Rat):Prop where
 p:0<P
 j0:0≤j
 j1:j≤P
 e:(P:Rat)*x=((P - j:Int):Rat)*A+(j:Rat)*B
theorem Pt.sz {A B x:Rat} {k:Nat} {j:Int} (h:Pt A B (2 ^ k) j x) (hA:Sz A 12) (hB:Sz B 12):Sz x (24+k):=by
 have a1:=tQ A;have b1:=tQ B;have a2:=@jW A;have b2:=@jW B;have e:=h.e;have P0:=h.p;have J0:=h.j0;have J1:=h.j1;have e24:(2:Nat) ^ (24+k)=2 ^ 24*2 ^ k:=Nat.pow_add _ _ _
 have ePk:((2:Int) ^ k).natAbs=2 ^ k:=by rw [Int.natAbs_pow];rfl
 refine e2_ (n:=A.num*B.den*(2 ^ k - j)+B.num*A.den*j) (d:=A.den*B.den*2 ^ k) ?_ (Int.mul_pos (Int.mul_pos a2 b2) P0) ?_ ?_
 ·simp only [Rat.intCast_add,Rat.intCast_sub,Rat.intCast_mul] at e ⊢
  rw [← a1,← b1];generalize ((2 ^ k:Int):Rat)=P at *;generalize ((A.den:Int):Rat)=d at *;generalize ((B.den:Int):Rat)=f at *
  have:d*f*P*x=d*f*(P*x):=by grind
  rw [this,e];grind
 ·have h1:(A.num*B.den).natAbs≤2 ^ 24 - 1:=by
   have:=xH hA.n (show (B.den:Int).natAbs<2 ^ 12 by rw [Int.natAbs_natCast];exact hB.d);omega
  have h2:(B.num*A.den).natAbs≤2 ^ 24 - 1:=by
   have:=xH hB.n (show (A.den:Int).natAbs<2 ^ 12 by rw [Int.natAbs_natCast];exact hA.d);omega
  rw [e24]
  have t1:(A.num*B.den*(2 ^ k - j)).natAbs≤(2 ^ 24 - 1)*(2 ^ k - j:Int).natAbs:=by rw [Int.natAbs_mul];exact Nat.mul_le_mul_right _ h1
  have t2:(B.num*A.den*j).natAbs≤(2 ^ 24 - 1)*j.natAbs:=by rw [Int.natAbs_mul];exact Nat.mul_le_mul_right _ h2
  have t3:(2 ^ k - j:Int).natAbs+j.natAbs=2 ^ k:=by rw [← ePk];omega
  have t4:(2 ^ 24 - 1)*(2 ^ k - j:Int).natAbs+(2 ^ 24 - 1)*j.natAbs=(2 ^ 24 - 1)*2 ^ k:=by rw [← Nat.mul_add,t3]
  have t5:(2 ^ 24 - 1)*2 ^ k<2 ^ 24*2 ^ k:=Nat.mul_lt_mul_of_pos_right dd_ (Nat.pow_pos dd_);omega
 rw [Int.natAbs_mul,ePk,e24];refine Nat.mul_lt_mul_of_pos_right ?_ (Nat.pow_pos dd_);exact xH (b:=12) (b':=12) (by rw [Int.natAbs_natCast];exact hA.d) (by rw [Int.natAbs_natCast];exact hB.d)
structure It (A B:Rat) (P j:Int) (u v:Rat):Prop where
 lo:Pt A B P j u
 hi:Pt A B P (j+1) v
theorem It.one (A B:Rat):It A B (2 ^ 0) 0 A B:=by
 have e1:(((2:Int) ^ 0:Int):Rat)=1:=rfl;have e2:(((2:Int) ^ 0 - 0:Int):Rat)=1:=rfl;have e3:(((2:Int) ^ 0 - (0+1):Int):Rat)=0:=rfl;have e4:(((0:Int)+1:Int):Rat)=1:=rfl;have e5:((0:Int):Rat)=0:=rfl;exact ⟨⟨by decide,by decide,by decide,by rw [e1,e2,e5];grind⟩,⟨by decide,by decide,by decide,by rw [e1,e3,e4];grind⟩⟩
theorem It.len {A B:Rat} {P j:Int} {u v:Rat} (h:It A B P j u v):(P:Rat)*(v - u)=B - A:=by
 have a:=h.lo.e;have b:=h.hi.e;simp only [Rat.intCast_add,Rat.intCast_sub] at a b;have e:((1:Int):Rat)=1:=rfl;rw [e] at b
 grind
theorem It.mid {A B:Rat} {P j:Int} {u v:Rat} (h:It A B P j u v):Pt A B (P*2) (j*2+1) ((u+v)*(1 / 2)):=by
 have a:=h.lo.e;have b:=h.hi.e;have p0:=h.lo.p;have j0:=h.lo.j0;have j1:=h.hi.j1;refine ⟨by omega,by omega,by omega,?_⟩;simp only [Rat.intCast_add,Rat.intCast_sub,Rat.intCast_mul] at a b ⊢;have e:((1:Int):Rat)=1:=rfl;have e':((2:Int):Rat)=2:=rfl;rw [e] at b ⊢;rw [e']
 grind
theorem Pt.dbl {A B:Rat} {P j:Int} {x:Rat} (h:Pt A B P j x):Pt A B (P*2) (j*2) x:=by
 have a:=h.e;have p0:=h.p;have j0:=h.j0;have j1:=h.j1;refine ⟨by omega,by omega,by omega,?_⟩;simp only [Rat.intCast_sub,Rat.intCast_mul] at a ⊢;have e':((2:Int):Rat)=2:=rfl;rw [e']
 grind
theorem It.left {A B:Rat} {k:Nat} {j:Int} {u v:Rat} (h:It A B (2 ^ k) j u v):It A B (2 ^ (k+1)) (j*2) u ((u+v)*(1 / 2)):=by
 rw [Int.pow_succ];exact ⟨h.lo.dbl,h.mid⟩
theorem It.right {A B:Rat} {k:Nat} {j:Int} {u v:Rat} (h:It A B (2 ^ k) j u v):It A B (2 ^ (k+1)) (j*2+1) ((u+v)*(1 / 2)) v:=by
 rw [Int.pow_succ];refine ⟨h.mid,?_⟩;rw [show j*2+1+1=(j+1)*2 by omega];exact h.hi.dbl
theorem It.lt {A B:Rat} {P j:Int} {u v:Rat} (h:It A B P j u v) (hAB:A<B):u<v:=by
 have a:=h.len;have p0:(0:Rat)<(P:Rat):=Rat.intCast_pos.2 h.lo.p
 apply Rat.not_le.1
 intro hn;have:=Rat.mul_nonneg (Rat.le_of_lt p0) (show (0:Rat)≤u - v by grind)
 grind
theorem It.le {A B:Rat} {P j:Int} {u v:Rat} (h:It A B P j u v) (hAB:A≤B):u≤v:=by
 have a:=h.len;have p0:(0:Rat)<(P:Rat):=Rat.intCast_pos.2 h.lo.p
 apply Rat.not_lt.1
 intro hn;have:=Rat.mul_pos p0 (show (0:Rat)<u - v by grind)
 grind
theorem Pt.ge {A B:Rat} {P j:Int} {x:Rat} (h:Pt A B P j x) (hAB:A≤B):A≤x∧x≤B:=by
 have a:=h.e;have p0:(0:Rat)<(P:Rat):=Rat.intCast_pos.2 h.p;have j0:(0:Rat)≤(j:Rat):=Rat.intCast_nonneg.2 h.j0;have j1:(0:Rat)≤((P - j:Int):Rat):=Rat.intCast_nonneg.2 (by have:=h.j1;omega);have b1:=Rat.mul_nonneg j0 (show 0≤B - A by grind);have b2:=Rat.mul_nonneg j1 (show 0≤B - A by grind);rw [Rat.intCast_sub] at a b2
 constructor
 ·apply Rat.not_lt.1
  intro hn;have:=Rat.mul_pos p0 (show (0:Rat)<A - x by grind)
  grind
 apply Rat.not_lt.1
 intro hn;have:=Rat.mul_pos p0 (show (0:Rat)<x - B by grind)
 grind
theorem c8_ {q:Rat} {k:Nat} (h:Sz q k):Ab q (((2 ^ k:Nat):Int):Rat):=by
 have a1:=tQ q;have a2:=@jW q
 have d1:(1:Rat)≤((q.den:Int):Rat):=by
  rw [show (1:Rat)=((1:Int):Rat) from rfl];exact Rat.intCast_le_intCast.2 oo_
 have n1:((q.num:Int):Rat)≤(((2 ^ k:Nat):Int):Rat):=Rat.intCast_le_intCast.2 (by have:=h.n;omega)
 have n2:(-(((2 ^ k:Nat):Int):Rat))≤((q.num:Int):Rat):=by
  rw [← Rat.intCast_neg];exact Rat.intCast_le_intCast.2 (by have:=h.n;omega)
 have m0:(0:Rat)≤(((2 ^ k:Nat):Int):Rat):=Rat.intCast_nonneg.2 (Int.natCast_nonneg _);generalize (((2 ^ k:Nat):Int):Rat)=M at *;generalize ((q.den:Int):Rat)=d at *;rw [← a1] at n1 n2
 constructor
 ·apply Rat.not_lt.1
  intro hn;have k1:=Rat.mul_nonneg (show (0:Rat)≤d - 1 by grind) (show (0:Rat) ≤ -q - M by grind);have k2:=Rat.mul_nonneg (show (0:Rat)≤d - 1 by grind) m0
  grind
 apply Rat.not_lt.1
 intro hn;have k1:=Rat.mul_nonneg (show (0:Rat)≤d - 1 by grind) (show (0:Rat)≤q - M by grind);have k2:=Rat.mul_nonneg (show (0:Rat)≤d - 1 by grind) m0
 grind
theorem ep_ {p f:QP} (h:Rad p f) (x:Rat):¬ (f.ev x=0∧(QP.D f).ev x=0):=fun ⟨h1,h2⟩=>by
 obtain ⟨g,u,v,e,d1,d2⟩:=QP.bezout f (QP.D f);have hg:g≠QP.C 0:=fun e0=>h.ne (by rw [e0] at d1;exact d1.of_zero);obtain ⟨n,hn⟩:=QP.ex_dg hg;have n0:=QP.sqf_co h.sq d1 d2 hn;subst n0;have e1:=QP.dg_C hn
 have e2:g.ev x=0:=by rw [e,QP.ev_add,QP.ev_mul,QP.ev_mul,h1,h2];grind
 rw [e1,QP.ev_C] at e2;exact hn.1 e2
theorem dE_ {F:Nat→Int} (e:lA F) (hz:∀ i,3<i→F i=0):Cub (ZP F e) (F 3) (F 2) (F 1) (F 0):=by
 refine ⟨fun x=>?_,fun x=>?_⟩
 ·rw [QP.ev_vl (n:=4) fun i hi=>by rw [j6,hz i oo_];rfl]
  unfold vl;simp only [gN,j6,Rat.pow_zero,Rat.pow_succ]
  grind
 rw [QP.ev_vl (n:=3) fun i hi=>by rw [QP.D_c,j6,hz (i+1) oo_];exact Rat.mul_zero _];unfold vl;simp only [gN,QP.D_c,j6,Rat.pow_zero,Rat.pow_succ];have n1:(((0+1:Nat):Nat):Rat)=1:=rfl;have n2:(((1+1:Nat):Nat):Rat)=2:=rfl;have n3:(((2+1:Nat):Nat):Rat)=3:=rfl;rw [n1,n2,n3]
 grind
theorem gV_:QP.sepC (4294967296:Rat) 4096≤2 ^ 159:=by
 unfold QP.sepC;decide +kernel
theorem gU_:4*(4294967296:Rat)*4294967296≤2 ^ 159:=by decide +kernel
theorem cK_ {x A B:Rat} (h:1≤A*(x*x)) (hl:A≤B):1≤B*(x*x):=by
 have h0:0≤x*x:=by
  rcases Rat.le_total (a:=0) (b:=x) with k|k
  ·exact Rat.mul_nonneg k k
  have:=Rat.mul_nonneg (show 0 ≤ -x by grind) (show 0 ≤ -x by grind);grind
 have:=Rat.mul_nonneg (show 0≤B - A by grind) h0
 grind
theorem sep {p:List I} {L:List (List I)} (h:St p L) {F:Nat→Int} {m:Nat} (hF:Po (aN p) F) (fs:Fs F m) {u v:Rat} (huv:u<v) (au:Ab u 4096) (av:Ab v 4096) (ht:Two (qp (aN p)) (L.map qp) u v):(1:Rat)≤2 ^ 159*((v - u)*(v - u)):=by
 obtain ⟨f,l,⟨eL,ef⟩,hR,hs,hl⟩:=h.s;subst ef;have hq:qp (aN p)=ZP F hF.ends:=oG hF _;rcases hl with rfl|⟨g,l',κ,rfl,hc,hκ,hD⟩
 ·exfalso
  rw [eL] at ht;unfold Two at ht;simp only [List.map_cons,List.map_nil,QP.V_one] at ht;omega
 rw [eL] at ht hc;simp only [List.map_cons] at ht hc;have n1:=QP.two_nD hc hκ hD huv ht
 have n2:¬ Rb u v (qp (aN p)):=fun hr=>by
  have:=QP.st_rb hc hκ hD huv hr;unfold Two at ht;omega
 have z1:=fun ε (hε:(0:Rat)<ε)=>QP.small_at (Rat.le_of_lt huv) n1 hε;have z2:=fun ε (hε:(0:Rat)<ε)=>QP.small_at (Rat.le_of_lt huv) n2 hε;have hz:=fun x=>ep_ hR x;rw [hq] at z1 z2 hz n1 n2;have m3:=fs.m3;have cu:=dE_ hF.ends fun i hi=>fs.z i oo_
 have bb:∀ k,m≠2→Ab ((F k:Int):Rat) 4294967296:=fun k hm=>by
  rcases fs.b with ⟨h2,_⟩|⟨_,h2⟩
  ·exact absurd h2 hm
  exact QP.Ab.int (B:=4294967296) (h2 k)
 rcases (show m=3∨m=2∨m≤1 by omega) with hm|hm|hm
 ·subst hm
  exact cK_ (QP.far3 cu fs.top hz dd_ dd_ (bb 3 dd_) (bb 2 dd_) (bb 1 dd_) (bb 0 dd_) au av (Rat.le_of_lt huv) z1 z2) gV_
 ·subst hm
  have c0:F 3=0:=fs.z 3 oo_;rw [c0] at cu;exact cK_ (QP.far2 cu fs.top hz dd_ dd_ (QP.Ab.int (B:=4294967296) fs.lead) au av (Rat.le_of_lt huv) z1 z2) gU_
 exfalso
 have d1:∀ x,(QP.D (ZP F hF.ends)).ev x=((F 1:Int):Rat):=fun x=>by
  rw [cu.d,fs.z 3 oo_,fs.z 2 oo_];have:((0:Int):Rat)=0:=rfl;rw [this];grind
 by_cases f1:F 1=0
 ·have m0:m=0:=by
   rcases Nat.lt_or_ge m 1 with k|k
   ·omega
   have:m=1:=by omega
   subst this;exact absurd f1 fs.top
  subst m0;have f0:((F 0:Int):Rat)≠0:=fun e=>fs.top (Rat.intCast_eq_zero_iff.1 e)
  have v0:∀ x,(ZP F hF.ends).ev x=((F 0:Int):Rat):=fun x=>by
   rw [cu.v,fs.z 3 oo_,fs.z 2 oo_,f1];have:((0:Int):Rat)=0:=rfl;rw [this];grind
  refine n2 ?_;rcases Rat.le_total (a:=0) (b:=((F 0:Int):Rat)) with k|k
  ·exact ⟨_,show (0:Rat)<((F 0:Int):Rat) by grind,.inl fun x _ _=>by rw [v0];exact Rat.le_refl⟩
  exact ⟨-((F 0:Int):Rat),by grind,.inr fun x _ _=>by rw [v0];grind⟩
 have f0:((F 1:Int):Rat)≠0:=fun e=>f1 (Rat.intCast_eq_zero_iff.1 e);refine n1 ?_;rcases Rat.le_total (a:=0) (b:=((F 1:Int):Rat)) with k|k
 ·exact ⟨_,show (0:Rat)<((F 1:Int):Rat) by grind,.inl fun x _ _=>by rw [d1];exact Rat.le_refl⟩
 exact ⟨-((F 1:Int):Rat),by grind,.inr fun x _ _=>by rw [d1];grind⟩
theorem gz_ {A B u v:Rat} {k:Nat} {j:Int} (h:It A B (2 ^ k) j u v) (aA:Ab A 4096) (aB:Ab B 4096) (hs:(1:Rat)≤2 ^ 159*((v - u)*(v - u))):k≤92:=by
 have hl:=h.len
 have w:Ab (B - A) 8192:=by unfold Ab at *;grind
 have ww:=w.mul w
 have p2:(((2:Int) ^ k:Int):Rat)*(((2:Int) ^ k:Int):Rat)≤2 ^ 185:=by
  have e:(((2:Int) ^ k:Int):Rat)*(((2:Int) ^ k:Int):Rat)*((v - u)*(v - u))=(B - A)*(B - A):=by rw [← hl];grind
  have p0:(0:Rat)<(((2:Int) ^ k:Int):Rat):=Rat.intCast_pos.2 h.lo.p;generalize (((2:Int) ^ k:Int):Rat)=P at *;have pp:=Rat.mul_pos p0 p0;have h1:=Rat.mul_nonneg (Rat.le_of_lt pp) (show 0≤2 ^ 159*((v - u)*(v - u)) - 1 by grind)
  have h2:P*P≤2 ^ 159*((B - A)*(B - A)):=by rw [← e];grind
  have h3:(2:Rat) ^ 159*(8192*8192)=2 ^ 185:=by decide +kernel
  have h4:=Rat.mul_le_mul_of_nonneg_left ww.2 (show (0:Rat)≤2 ^ 159 by decide +kernel)
  grind
 apply Classical.byContradiction
 intro hn
 have e1:(2:Rat) ^ 185=(((2:Int) ^ 185:Int):Rat):=by decide +kernel
 rw [← Rat.intCast_mul,← Int.pow_add,e1] at p2;have p3:=Rat.intCast_le_intCast.1 p2
 have p4:(2:Int) ^ 186≤2 ^ (k+k):=by exact_mod_cast (Nat.pow_le_pow_right (n:=2) dd_ (show 186≤k+k by omega))
 have p5:(2:Int) ^ 185<2 ^ 186:=by decide
 omega
open QP (V)
theorem E6 {a:Rt} {q:Rat} (h:a.At q):a.n.1.bad=false:=by
 rw [(At.is h).en];exact ZI (At.is h).hn
theorem fs_ {l:List I}:((l.length:Int)==0)=decide (l=[]):=by cases l<;>rfl
open QP (V Rb Two)
theorem bB_:Sz (1 / 2) 2:=⟨by decide +kernel,by decide +kernel⟩
theorem d3_ {a b:Rt} {u v:Rat} (ha:a.At u) (hb:b.At v) (su:Sz u 200) (sv:Sz v 200):(bB a b).At ((u+v)*(1 / 2)):=by
 unfold bB;simp only;rw [JY,KC,R7];exact WD (P6 ha hb su sv dd_) SX (su.add sv) bB_ dd_
structure Sp (p:List I) (A B:Rat):Prop where
 rgt:Rgt p
 ne:p≠[]
 gd:p.all gdI=true
 ok:(aI p).2=true
 st:St p (aI p).1
 free:∃ F m,Po (aN p) F∧Fs F m
 tame:∀ x∈(aI p).1,AH 119 x
 tp:AH 119 p
 sA:Sz A 12
 sB:Sz B 12
theorem Sp.of {p:List I} {A B:Rat} (hf:jG p 3 32=true) (hg:p.all gdI=true) (h0:p≠[]) (sA:Sz A 12) (sB:Sz B 12):Sp p A B:=by
 obtain ⟨c,hc,bd⟩:=X6 hf hg;have bd:Bd c 4 32:=bd;obtain ⟨s1,s2,s3⟩:=DO hc bd h0;exact ⟨hc.rgt,h0,hg,s1,(G6 hc.rgt s1).resolve_left h0,s2,s3,⟨c,4,32,hc,bd,by decide,by decide⟩,sA,sB⟩
theorem Sp.two {p:List I} {A B:Rat} (h:Sp p A B) {k:Nat} {j:Int} {u v:Rat} (hi:It A B (2 ^ k) j u v) (huv:u<v) (ht:Two (qp (aN p)) ((aI p).1.map qp) u v):k≤92:=by
 have aA:Ab A 4096:=(c8_ h.sA).le (by decide +kernel);have aB:Ab B 4096:=(c8_ h.sB).le (by decide +kernel)
 have hAB:A≤B:=by
  have a:=hi.len;have p0:(0:Rat)<(((2:Int) ^ k:Int):Rat):=Rat.intCast_pos.2 hi.lo.p;have:=Rat.mul_pos p0 (show 0<v - u by grind)
  grind
 have gu:=hi.lo.ge hAB;have gv:=hi.hi.ge hAB;obtain ⟨F,m,hF,fs⟩:=h.free;exact gz_ hi aA aB (sep h.st hF fs huv (by unfold Ab at *;grind) (by unfold Ab at *;grind) ht)
theorem Sp.count {p:List I} {A B:Rat} (h:Sp p A B) {k:Nat} (hk:k≤95) {i j:Int} {a b:Rt} {u v:Rat} (ha:a.At u) (hb:b.At v) (pu:Pt A B (2 ^ k) i u) (pv:Pt A B (2 ^ k) j v):(aK (aI p).1 a b).2=true :=
 XM h.tame ha hb ((pu.sz h.sA h.sB).mono oo_) ((pv.sz h.sA h.sB).mono oo_)
theorem Sp.mid {p:List I} {A B:Rat} (h:Sp p A B) {k:Nat} (hk:k≤95) {i j:Int} {a b:Rt} {u v:Rat} (ha:a.At u) (hb:b.At v) (pu:Pt A B (2 ^ k) i u) (pv:Pt A B (2 ^ k) j v):(bB a b).At ((u+v)*(1 / 2)) :=
 d3_ ha hb ((pu.sz h.sA h.sB).mono oo_) ((pv.sz h.sA h.sB).mono oo_)
theorem Sp.many {p:List I} {A B:Rat} (h:Sp p A B) (hAB:A≤B) {k:Nat} (hk:k≤93) {j:Int} {a b:Rt} {u v:Rat} (ha:a.At u) (hb:b.At v) (hi:It A B (2 ^ k) j u v) (h0:((aK (aI p).1 a b).1.1==0)=false) (h1:((aK (aI p).1 a b).1.1==1)=false):k≤92:=by
 have hc:=h.count oo_ ha hb hi.lo hi.hi;obtain ⟨u',v',cx⟩:=tJ h.st (qN p) hc;obtain rfl:=oP ha cx.a;obtain rfl:=oP hb cx.b;have n:=cx.n;have le:=hi.le hAB;have an:=h.st.anti le
 have h0':¬ (aK (aI p).1 a b).1.1=0:=by simpa using h0
 have h1':¬ (aK (aI p).1 a b).1.1=1:=by simpa using h1
 have huv:u<v:=by
  apply Rat.not_le.1
  intro hn
  have:u=v:=by grind
  subst this;omega
 exact h.two hi huv (.inl oo_)
theorem Sp.nb {p:List I} {A B:Rat} (h:Sp p A B):aS p=false:=by rw [nK (ae_ h.rgt),h.gd];rfl
theorem Sp.nl {p:List I} {A B:Rat} (h:Sp p A B):((p.length:Int)==0)=false:=by rw [fs_,decide_eq_false h.ne]
theorem Sp.pA {p:List I} {A B:Rat} (h:Sp p A B):It A B (2 ^ 0) 0 A B:=It.one A B
theorem Sp.Count {p:List I} {A B:Rat} (h:Sp p A B) {a b:Rt} (ha:a.At A) (hb:b.At B):dN p a b=bif kN a b then ((aK (aI p).1 a b).1,wl 0) else (wl 0,wl 1):=by
 unfold dN;rw [h.nb,h.nl,h.ok,h.count dd_ ha hb h.pA.lo h.pA.hi]
 cases kN a b<;>rfl
theorem LJ {a b:Rt} {A B:Rat} (ha:a.At A) (hb:b.At B):kN a b=decide (A≤B):=by
 unfold kN;rw [E6 ha,E6 hb];simp only [Bool.not_false,Bool.true_and];exact decide_eq_decide.2 (KA ha hb)
open QP (V vr sgs)
def Chn9 (L:List (List I)):Rat→List Iv→Rat→Prop
 | u,[],v=>u≤v
 | u,x::l,v=>∃ s t,x.lo.At s∧x.hi.At t∧u≤s∧s≤t∧V (L.map qp) s=V (L.map qp) t+1∧Chn9 L t l v
theorem Chn9.le {L:List (List I)}:∀ {l:List Iv} {u v:Rat},Chn9 L u l v→u≤v
 | [],u,v,h=>h
 | x::l,u,v,⟨s,t,_,_,h1,h2,_,h3⟩=>by have:=Chn9.le h3;grind
theorem Chn9.mono {L:List (List I)} {l:List Iv} {u u' v:Rat} (h:Chn9 L u l v) (hu:u'≤u):Chn9 L u' l v:=by
 cases l with
 | nil=>exact Rat.le_trans hu h
 | cons x l =>
  obtain ⟨s,t,a,b,h1,h2⟩:=h;exact ⟨s,t,a,b,Rat.le_trans hu h1,h2⟩
theorem Chn9.app {L:List (List I)} {l2:List Iv} {m v:Rat} (h2:Chn9 L m l2 v):∀ {l:List Iv} {u:Rat},Chn9 L u l m→Chn9 L u (l++l2) v
 | [],u,h=>h2.mono h
 | x::l,u,⟨s,t,a,b,h1,h3,h4,h5⟩=>⟨s,t,a,b,h1,h3,h4,Chn9.app h2 h5⟩
theorem e5_ (f:QP) (l:List QP) (q:Rat):V (f::l) q≤l.length:=by
 have h:=UK (sgs l q)
 have hl:(sgs l q).length=l.length:=by unfold sgs;rw [List.length_map]
 show vr 0 (QP.sg (f.ev q)::sgs l q)≤l.length
 rw [vr]
 split
 ·have:=h 0;omega
 have:=h (QP.sg (f.ev q));rw [if_neg (fun k=>k.1 O)];omega
theorem Gp.dg {p:List I} (h:Gp p):QP.Dg (qp p) (p.length - 1):=by
 obtain ⟨c,hc⟩:=h.po;obtain ⟨n,n1,n2,n3⟩:=hc.top h.2.2;rw [oG hc hc.ends,n1];exact ⟨by rw [j6];exact fun e=>n2 (Rat.intCast_eq_zero_iff.1 e),fun i hi=>by rw [j6,n3 i oo_];rfl⟩
theorem gh_ {x y:W} {n:Int} (h:x.1+y.1=n) (hn:-1000≤n∧n≤1000):(W.add x y).1=n:=by
 show IntKind.i64.wrap (x.1+y.1)=n
 rw [h,wi oo_]
namespace QP
theorem EN {f:QP} {z:Rat} (hz:f.ev z≠0):∃ δ,0<δ∧∀ c d,c≤z→z≤d→d - c≤δ→Rb c d f:=by
 obtain ⟨M,hM,hm⟩:=Ab.self z
 obtain ⟨ε,hε,he⟩:∃ ε:Rat,0<ε∧¬ Ab (f.ev z) ε:=by
  rcases Rat.le_total (a:=0) (b:=f.ev z) with k|k
  ·exact ⟨f.ev z*(1 / 2),by grind,fun h=>by unfold Ab at h;grind⟩
  exact ⟨-f.ev z*(1 / 2),by grind,fun h=>by unfold Ab at h;grind⟩
 obtain ⟨δ,hδ,h⟩:=ZJ (M+1) f hε;obtain ⟨e,he0,he1,he2⟩:=yC hδ (show (0:Rat)<1 by decide);refine ⟨e,he0,fun c d h1 h2 h3=>?_⟩;rcases h c d (by unfold Ab at hm ⊢;grind) (by unfold Ab at hm ⊢;grind) (by grind) (by grind) with k|k
 ·exact k
 exact absurd (k z h1 h2) he
section
variable {f g:QP} {l:List QP} {κ u v:Rat}
theorem cnt (hc:Chain (f::g::l)) (hκ:0<κ) (hD:∀ x,g.ev x=κ*(D f).ev x) (hz:∀ x,¬ (f.ev x=0∧(D f).ev x=0)) (huv:u<v) (hin:∀ c d,u<c→c≤d→d<v→Rb c d f) :
  V (f::g::l) u=V (f::g::l) v+(if f.ev v=0 then 1 else 0):=by
 -- to the right of u
 have hr:∃ δ,0<δ∧∀ x,u<x→x<v→x - u≤δ→V (f::g::l) u=V (f::g::l) x:=by
  by_cases h0:f.ev u=0
  ·obtain ⟨δ,hδ,hb⟩:=EN (f:=D f) (z:=u) fun e=>hz u ⟨h0,e⟩
   refine ⟨δ,hδ,fun x h1 h2 h3=>?_⟩;have hx:f.ev x≠0:=(hin x x h1 Rat.le_refl h2).ne Rat.le_refl Rat.le_refl;have rb:=hb u x Rat.le_refl (by grind) h3;have k:=RY hc hκ hD rb h1;obtain ⟨η,hη,rb|rb⟩:=rb
   ·have:=Q1 hη rb h1
    rw [h0] at this k;rcases k with k|k
    ·rw [if_neg (by grind),if_neg (by grind)] at k;omega
    rw [if_pos this,if_neg (by grind)] at k;have:=(JJ hc hκ hD h1).1;omega
   have:=XN hη rb h1;rw [h0] at this k;rcases k with k|k
   ·rw [if_pos this,if_neg (by grind)] at k
    have:=(JJ hc hκ hD h1).1;omega
   rw [if_neg (by grind),if_neg (by grind)] at k;omega
  obtain ⟨δ,hδ,hb⟩:=EN (f:=f) (z:=u) h0;exact ⟨δ,hδ,fun x h1 h2 h3=>st_rb hc hκ hD h1 (hb u x Rat.le_refl (by grind) h3)⟩
 have hl:∃ δ,0<δ∧∀ x,u<x→x<v→v - x≤δ→V (f::g::l) x=V (f::g::l) v+(if f.ev v=0 then 1 else 0):=by
  by_cases h0:f.ev v=0
  ·obtain ⟨δ,hδ,hb⟩:=EN (f:=D f) (z:=v) fun e=>hz v ⟨h0,e⟩
   refine ⟨δ,hδ,fun x h1 h2 h3=>?_⟩;rw [if_pos h0];have hx:f.ev x≠0:=(hin x x h1 Rat.le_refl h2).ne Rat.le_refl Rat.le_refl;have rb:=hb x v (by grind) Rat.le_refl h3;have k:=RY hc hκ hD rb h2;have hne:V (f::g::l) x≠V (f::g::l) v:=fun e=>((JJ hc hκ hD h2).2 e).1 h0;have hle:=(JJ hc hκ hD h2).1;rw [h0] at k;rcases k with k|k
   ·rw [if_neg (show ¬ (0:Rat)<0 by grind)] at k
    split at k<;>omega
   rw [if_neg (show ¬ (0:Rat)<0 by grind)] at k
   split at k<;>omega
  obtain ⟨δ,hδ,hb⟩:=EN (f:=f) (z:=v) h0;refine ⟨δ,hδ,fun x h1 h2 h3=>?_⟩;rw [if_neg h0];exact st_rb hc hκ hD h2 (hb x v (by grind) Rat.le_refl h3)
 obtain ⟨δ1,p1,q1⟩:=hr;obtain ⟨δ2,p2,q2⟩:=hl;obtain ⟨e,e0,e1,e2⟩:=yC p1 p2;obtain ⟨e',e0',e1',e2'⟩:=yC e0 (show (0:Rat)<(v - u)*(1 / 4) by grind);have a1:=q1 (u+e') (by grind) (by grind) (by grind);have a2:=q2 (v - e') (by grind) (by grind) (by grind);have a3:=st_rb hc hκ hD (show u+e'<v - e' by grind) (hin (u+e') (v - e') (by grind) (by grind) (by grind));omega
end
end QP
open Go Go.Kn
namespace QP
def lq (t z:Rat):QP:=C (-(t*z))+C t*X
theorem OJ (t z x:Rat):(lq t z).ev x=t*(x - z):=by
 unfold lq;rw [ev_add,ev_mul,ev_C,ev_C,dJ_];grind
theorem lq_c (t z:Rat) (k:Nat):(lq t z).c k=if k=0 then -(t*z) else if k=1 then t else 0:=by
 unfold lq;rw [add_c,C_mul,C_c]
 have hX:X.c k=if k=1 then 1 else 0:=rfl
 rw [hX]
 by_cases h0:k=0
 ·subst h0
  rw [if_pos O,if_pos O,if_neg dd_,Rat.mul_zero,Rat.add_zero]
 rw [if_neg h0,if_neg h0,Rat.zero_add]
 by_cases h1:k=1
 ·rw [if_pos h1,if_pos h1,Rat.mul_one]
 rw [if_neg h1,if_neg h1,Rat.mul_zero]
theorem cN_ {t z:Rat} (ht:t≠0):Dg (lq t z) 1:=⟨by rw [lq_c];exact ht,fun i hi=>by rw [lq_c,if_neg oo_,if_neg oo_]⟩
inductive Fz:List Rat→QP→Prop
 | one:Fz [] (C 1)
 | step {l:List Rat} {f:QP} (z t:Rat) (ht:0<t) (h:Fz l f):Fz (z::l) (f*lq t z)
section
variable {l ws:List Rat} {f g:QP}
theorem Fz.zero (h:Fz l f) (x:Rat):f.ev x=0 ↔ x∈l:=by
 induction h with
 | one=>rw [ev_C];exact ⟨fun e=>absurd e dd_,fun e=>by cases e⟩
 | step z t ht h ih =>
  rw [ev_mul,OJ,List.mem_cons,← ih]
  constructor
  ·intro e
   rcases Rat.mul_eq_zero.1 e with k|k
   ·exact .inr k
   rcases Rat.mul_eq_zero.1 k with k|k
   ·grind
   exact .inl (by grind)
  rintro (k|k)
  ·subst k;grind
  rw [k,Rat.zero_mul]
theorem Fz.aw (h:Fz l f) {c d:Rat} (hcd:c≤d) (hn:∀ z∈l,z<c∨d<z):Aw c d f:=by
 induction h with
 | one=>exact ⟨1,by decide,fun x _ _=>.inl (by rw [ev_C];exact Rat.le_refl)⟩
 | step z t ht h ih =>
  refine (ih fun m hm=>hn m (List.mem_cons_of_mem _ hm)).mul ?_;rcases hn z (List.mem_cons_self) with k|k
  ·exact ⟨t*(c - z),Rat.mul_pos ht (by grind),fun x h1 h2=>.inl (by rw [OJ];exact Rat.mul_le_mul_of_nonneg_left (by grind) (Rat.le_of_lt ht))⟩
  ·exact ⟨t*(z - d),Rat.mul_pos ht (by grind),fun x h1 h2=>.inr (by
    rw [OJ];have:=Rat.mul_le_mul_of_nonneg_left (show z - d≤z - x by grind) (Rat.le_of_lt ht)
    grind)⟩
theorem Fz.dg (h:Fz l f):Dg f l.length:=by
 induction h with
 | one=>exact C_dg dd_
 | step z t ht h ih=>exact ih.mul (cN_ (by grind))
theorem Fz.ex:∀ l:List Rat,∃ f,Fz l f
 | []=>⟨_,.one⟩
 | z::l=>by obtain ⟨f,h⟩:=Fz.ex l;exact ⟨_,.step z 1 dd_ h⟩
theorem root {t z:Rat} (ht:t≠0) (h:f.ev z=0):Dv (lq t z) f:=by
 obtain ⟨N,hN⟩:=f.fs;obtain ⟨q,r,e,hr⟩:=KU (cN_ (z:=z) ht) N f hN
 have hC:r=C (r.c 0):=ex fun k=>by
  rw [C_c]
  by_cases h0:k=0
  ·rw [if_pos h0,h0]
  rw [if_neg h0,hr k oo_]
 rw [hC] at e;have h2:=h;rw [e,ev_add,ev_mul,OJ,ev_C] at h2
 have h3:r.c 0=0:=by grind
 rw [h3,add_zero'] at e;exact ⟨q,e⟩
theorem Fz.dvd (h:Fz ws g):ws.Nodup→∀ f:QP,(∀ z∈ws,f.ev z=0)→Dv g f:=by
 induction h with
 | one=>exact fun _ f _=>⟨f,(nC f).symm⟩
 | step z t ht h ih =>
  intro nd f hf;rw [List.nodup_cons] at nd;obtain ⟨f',e⟩:=root (z:=z) (show t≠0 by grind) (hf z List.mem_cons_self)
  obtain ⟨k,hk⟩:=ih nd.2 f' fun w hw=>by
   have h1:=hf w (List.mem_cons_of_mem _ hw);rw [e,ev_mul,OJ] at h1;have hne:w≠z:=fun e2=>nd.1 (e2 ▸ hw);rcases Rat.mul_eq_zero.1 h1 with k|k
   ·rcases Rat.mul_eq_zero.1 k with k|k
    ·grind
    exact absurd (show w=z by grind) hne
   exact k
  exact ⟨k,by rw [e,hk,← mul_assoc',mul_comm' (lq t z)]⟩
theorem Fz.irr (h:Fz l f) {k:QP} (i:Irr k) (hd:Dv k f):∃ z t,z∈l∧0<t∧Dv k (lq t z):=by
 induction h with
 | one =>
  obtain ⟨n,n1,hk,_⟩:=i;have:=hd.dg hk (C_dg (show (1:Rat)≠0 by decide));omega
 | step z t ht h ih =>
  rcases i.prime hd with a|a
  ·obtain ⟨w,s,h1,h2,h3⟩:=ih a
   exact ⟨w,s,List.mem_cons_of_mem _ h1,h2,h3⟩
  exact ⟨z,t,List.mem_cons_self,ht,a⟩
end
def cO (u v:Rat):List Rat→Nat
 | []=>0
 | z::l=>(if u<z∧z<v then 1 else 0)+cO u v l
def cH (u v:Rat):List Rat→Nat
 | []=>0
 | z::l=>(if u<z∧z≤v then 1 else 0)+cH u v l
theorem cH_split {u m v:Rat} (h1:u≤m) (h2:m≤v):∀ l,cH u v l=cH u m l+cH m v l
 | []=>rfl
 | z::l=>by
  unfold cH;rw [cH_split h1 h2 l]
  by_cases a:u<z∧z≤m
  ·rw [if_pos a,if_pos (show u<z∧z≤v by grind),if_neg (show ¬ (m<z∧z≤v) by grind)];omega
  rw [if_neg a]
  by_cases b:m<z∧z≤v
  ·rw [if_pos b,if_pos (show u<z∧z≤v by grind)];omega
  rw [if_neg b,if_neg (show ¬ (u<z∧z≤v) by grind)];omega
theorem tri {x y:Rat}:x<y∨x=y∨y<x:=by
 rcases Rat.le_total (a:=x) (b:=y) with k|k
 ·by_cases e:x=y
  ·exact .inr (.inl e)
  exact .inl (by grind)
 by_cases e:x=y
 ·exact .inr (.inl e)
 exact .inr (.inr (by grind))
theorem SD {u v u' v':Rat} (h1:u≤u') (h2:v'≤v):∀ l,cO u' v' l≤cO u v l
 | []=>Nat.le_refl _
 | z::l=>by
  unfold cO;have:=SD h1 h2 l
  by_cases a:u'<z∧z<v'
  ·rw [if_pos a,if_pos (show u<z∧z<v by grind)];omega
  rw [if_neg a];omega
theorem cO_lt {u v u' v' z:Rat} (h1:u≤u') (h2:v'≤v) (h3:u<z∧z<v) (h4:¬ (u'<z∧z<v')):∀ l,z∈l→cO u' v' l<cO u v l
 | [],h=>by cases h
 | w::l,h=>by
  unfold cO;have:=SD h1 h2 l;rcases List.mem_cons.1 h with e|e
  ·subst e
   rw [if_pos h3,if_neg h4];omega
  have:=cO_lt h1 h2 h3 h4 l e
  by_cases a:u'<w∧w<v'
  ·rw [if_pos a,if_pos (show u<w∧w<v by grind)];omega
  rw [if_neg a];omega
theorem cH_none {u v:Rat} (huv:u<v):∀ l:List Rat,l.Nodup→(∀ w∈l,¬ (u<w∧w<v))→(v ∉ l→cH u v l=0)∧(v∈l→cH u v l=1)
 | [],_,_=>⟨fun _=>rfl,fun h=>by cases h⟩
 | z::l,nd,h=>by
  rw [List.nodup_cons] at nd;have ih:=cH_none huv l nd.2 fun w hw=>h w (List.mem_cons_of_mem _ hw);have hz:=h z List.mem_cons_self;unfold cH
  by_cases e:v=z
  ·subst e
   refine ⟨fun hn=>absurd List.mem_cons_self hn,fun _=>?_⟩;rw [if_pos ⟨huv,Rat.le_refl⟩,ih.1 nd.1]
  rw [if_neg (show ¬ (u<z∧z≤v) by grind)];refine ⟨fun hn=>?_,fun hm=>?_⟩
  ·rw [ih.1 fun hm=>hn (List.mem_cons_of_mem _ hm)]
  rcases List.mem_cons.1 hm with k|k
  ·exact absurd k e
  rw [ih.2 k]
theorem cH_all {u v:Rat}:∀ l:List Rat,(∀ z∈l,u<z∧z≤v)→cH u v l=l.length
 | [],_=>rfl
 | z::l,h=>by
  unfold cH;rw [if_pos (h z List.mem_cons_self),cH_all l fun w hw=>h w (List.mem_cons_of_mem _ hw),List.length_cons];omega
theorem cH_pos {u v:Rat}:∀ l:List Rat,0<cH u v l→∃ z∈l,u<z∧z≤v
 | [],h=>absurd h (Nat.lt_irrefl _)
 | z::l,h=>by
  by_cases a:u<z∧z≤v
  ·exact ⟨z,List.mem_cons_self,a⟩
  have h:0<(if u<z∧z≤v then 1 else 0)+cH u v l:=h;rw [if_neg a] at h;obtain ⟨w,h1,h2⟩:=cH_pos (u:=u) (v:=v) l oo_;exact ⟨w,List.mem_cons_of_mem _ h1,h2⟩
theorem cH_two {u v:Rat}:∀ l:List Rat,l.Nodup→2≤cH u v l→∃ z w,z∈l∧w∈l∧u<z∧z<w∧w≤v
 | [],_,h=>absurd h (show ¬ 2≤0 by decide)
 | z::l,nd,h=>by
  rw [List.nodup_cons] at nd;have h:2≤(if u<z∧z≤v then 1 else 0)+cH u v l:=h
  by_cases a:u<z∧z≤v
  ·rw [if_pos a] at h
   obtain ⟨w,h1,h2,h3⟩:=cH_pos (u:=u) (v:=v) l oo_;have hne:w≠z:=fun e=>nd.1 (e ▸ h1);rcases tri (x:=w) (y:=z) with k|k|k
   ·exact ⟨w,z,List.mem_cons_of_mem _ h1,List.mem_cons_self,h2,k,a.2⟩
   ·exact absurd k hne
   exact ⟨z,w,List.mem_cons_self,List.mem_cons_of_mem _ h1,a.1,k,h3⟩
  rw [if_neg a] at h;obtain ⟨x,w,h1,h2,h3⟩:=cH_two (u:=u) (v:=v) l nd.2 oo_;exact ⟨x,w,List.mem_cons_of_mem _ h1,List.mem_cons_of_mem _ h2,h3⟩
end QP
open QP (V Fz lq Aw Rb Sf Dv Dg cH cO)
theorem bi_ {p:List I} {L:List (List I)} (h:St p L) {u v:Rat} (huv:u<v) (hin:∀ c d,u<c→c≤d→d<v→Aw c d (qp p)) :
  V (L.map qp) u=V (L.map qp) v+(if (qp p).ev v=0 then 1 else 0):=by
 obtain ⟨f,l,⟨e1,e2⟩,hR,hS,hl⟩:=h.s;have hiff:(qp p).ev v=0 ↔ (qp f).ev v=0:=⟨fun e=>Classical.byContradiction fun hf=>hS.ne hf e,fun e=>hS.z v e⟩;rcases hl with hl|⟨g,l',κ,hg,hc,hκ,hD⟩
 ·subst hl
  have hv:∀ x,V (L.map qp) x=0:=fun x=>by
   have:=e5_ (qp f) [] x;rw [e1];exact Nat.le_zero.1 this
  have:=hS.eq u v huv (by rw [hv,hv]);rw [if_neg (fun e=>this.1 (hiff.1 e)),hv,hv]
 rw [e1,hg] at hc ⊢;simp only [List.map_cons] at hc ⊢;obtain ⟨w,hw⟩:=hR.dv
 have hz:∀ x,¬ ((qp f).ev x=0∧(QP.D (qp f)).ev x=0):=fun x ⟨h1,h2⟩=>by
  obtain ⟨s,t,hst⟩:=hc.bez _ _ _ O;have:=hst x;rw [h1,hD,h2,Rat.mul_zero,Rat.mul_zero,Rat.mul_zero] at this
  have:(0:Rat)=1:=by rw [← this];grind
  exact absurd this dd_
 have:=QP.cnt hc hκ hD hz huv (fun c d a b e=>by
  have k:=hin c d a b e;rw [hw] at k
  exact (k.left).rb b)
 rw [this];simp only [hiff]
structure Zs (p:List I) (zs ws:List Rat):Prop where
 f:Fz zs (qp p)
 nd:ws.Nodup
 m:∀ x,x∈ws ↔ x∈zs
section
variable {p:List I} {L:List (List I)} {zs ws:List Rat}
theorem KQ (h:St p L) (hZ:Zs p zs ws):∀ (n:Nat) (u v:Rat),cO u v ws<n→u<v→V (L.map qp) u=V (L.map qp) v+cH u v ws
 | 0,_,_,hn,_=>absurd hn (Nat.not_lt_zero _)
 | n+1,u,v,hn,huv=>by
  by_cases hx:∃ z,z∈ws∧u<z∧z<v
  ·obtain ⟨z,h1,h2,h3⟩:=hx
   have a1:=QP.cO_lt (u:=u) (v:=v) (u':=u) (v':=z) Rat.le_refl (Rat.le_of_lt h3) ⟨h2,h3⟩ (by grind) ws h1;have a2:=QP.cO_lt (u:=u) (v:=v) (u':=z) (v':=v) (Rat.le_of_lt h2) Rat.le_refl ⟨h2,h3⟩ (by grind) ws h1;rw [KQ h hZ n u z oo_ h2,KQ h hZ n z v oo_ h3,QP.cH_split (Rat.le_of_lt h2) (Rat.le_of_lt h3) ws];omega
  have hno:∀ w∈ws,¬ (u<w∧w<v):=fun w hw k=>hx ⟨w,hw,k⟩;have hc:=QP.cH_none huv ws hZ.nd hno
  rw [bi_ h huv fun c d a b e=>hZ.f.aw b fun w hw=>by
   have:=hno w ((hZ.m w).2 hw);grind]
  have hv:(qp p).ev v=0 ↔ v∈ws:=(hZ.f.zero v).trans (hZ.m v).symm
  by_cases k:v∈ws
  ·rw [if_pos (hv.2 k),hc.2 k]
  rw [if_neg fun e=>k (hv.1 e),hc.1 k]
theorem XF (h:St p L) (hZ:Zs p zs ws) {u v:Rat} (huv:u≤v):V (L.map qp) u=V (L.map qp) v+cH u v ws:=by
 rcases (show u<v∨u=v from (Classical.em (u=v)).elim .inr fun e=>.inl (by grind)) with k|k
 ·exact KQ h hZ _ u v (Nat.lt_succ_self _) k
 subst k
 have:cH u u ws=0:=by
  refine Nat.eq_zero_of_not_pos fun hp=>?_;obtain ⟨z,_,h1,h2⟩:=QP.cH_pos ws hp
  grind
 rw [this];rfl
theorem b5_ {f:QP} (hZ:Zs p zs ws) (hR:Rad (qp p) f):Dg f ws.length:=by
 obtain ⟨g,hg⟩:=Fz.ex ws
 have d1:Dv g f:=hg.dvd hZ.nd f fun z hz=>by
  refine Classical.byContradiction fun hx=>?_;obtain ⟨n,hd⟩:=hR.up;exact (QP.rb_dv (QP.rb_one hx) Rat.le_refl hd).ne Rat.le_refl Rat.le_refl ((hZ.f.zero z).2 ((hZ.m z).1 hz))
 have d2:Dv f g:=QP.sqf_dvd hR.ne hR.sq fun k i hk=>by
  obtain ⟨z,t,h1,h2,h3⟩:=hZ.f.irr i (hk.trans hR.dv);exact h3.trans (QP.root (by grind) ((hg.zero z).2 ((hZ.m z).2 h1)))
 obtain ⟨n,hn⟩:=QP.ex_dg hR.ne;have e1:=d1.dg hg.dg hn;have e2:=d2.dg hn hg.dg
 have:n=ws.length:=by omega
 rw [← this];exact hn
theorem YE (h:St p L) (hZ:Zs p zs ws):(aN p).length=ws.length+1:=by
 obtain ⟨f,l,⟨e1,e2⟩,hR,_,_⟩:=h.s;have g:Gp f:=h.g f (by rw [e1];exact List.mem_cons_self);have d:=(b5_ hZ hR).un g.dg;have:=List.length_pos_iff.2 g.2.2;rw [← e2];omega
end
theorem NN {p q r:List I} {c d:Nat→Int} (hp:Po p c) (hq:Po q d) (hr:Po r (conv c d)):qp r=qp p*qp q:=by
 rw [oG hr hr.ends,oG hp hp.ends,oG hq hq.ends,← oN hp.ends hq.ends]
theorem g5_ {x y:Rat} (h:x<y):(1:Rat)≤(y - x)*(((x.den:Int):Rat)*((y.den:Int):Rat)):=by
 have hx:=tQ x;have hy:=tQ y;have dx:(0:Rat)<((x.den:Int):Rat):=Rat.intCast_pos.2 jW;have dy:(0:Rat)<((y.den:Int):Rat):=Rat.intCast_pos.2 jW
 have e:(y - x)*(((x.den:Int):Rat)*((y.den:Int):Rat))=((y.num*x.den - x.num*y.den:Int):Rat):=by
  rw [Rat.intCast_sub,Rat.intCast_mul,Rat.intCast_mul,← hx,← hy];grind
 have hp:(0:Rat)<((y.num*x.den - x.num*y.den:Int):Rat):=by
  rw [← e];exact Rat.mul_pos (by grind) (Rat.mul_pos dx dy)
 rw [e];have:=Rat.intCast_pos.1 hp;rw [show (1:Rat)=((1:Int):Rat) from rfl];exact Rat.intCast_le_intCast.2 oo_
open Go Go.Kn
theorem w9 (q:Rat) (n:Int):(q - (n:Rat)).den=q.den:=by
 refine Nat.le_antisymm KT ?_;have h:=KT (q:=q - (n:Rat)) (n:=-n);rw [show q - (n:Rat) - ((-n:Int):Rat)=q by rw [Rat.intCast_neg];grind] at h;exact h
theorem GC (q:Rat) (n:Int):(q - (n:Rat)).num=q.num - n*(q.den:Int):=by
 have hx:((q.num - n*(q.den:Int):Int):Rat)=((q.den:Int):Rat)*(q - (n:Rat)):=by
  have h1:=@vK q;rw [Rat.intCast_sub,Rat.intCast_mul,← h1];grind
 have h2:=CJ hx;rw [w9] at h2;exact Int.eq_of_mul_eq_mul_right (by have:=@jW q;omega) h2
theorem XP (q:Rat) (n:Int):((n:Rat)+q).den=q.den:=by
 have:=w9 q (-n)
 rwa [show q - ((-n:Int):Rat)=(n:Rat)+q by rw [Rat.intCast_neg];grind] at this
theorem ZK (q:Rat) (n:Int):((n:Rat)+q).num=q.num+n*(q.den:Int):=by
 have:=GC q (-n);rw [show q - ((-n:Int):Rat)=(n:Rat)+q by rw [Rat.intCast_neg];grind] at this;rw [this,Int.neg_mul];omega
theorem OP {x:Rat} (h0:0<x):x⁻¹.num=(x.den:Int):=by
 have hp:=gp_.2 h0;have h1:x*x⁻¹=1:=Rat.mul_inv_cancel _ (by grind)
 have hx:((x.den:Int):Rat)=((x.num:Int):Rat)*x⁻¹:=by
  have h2:=@vK x;rw [← h2,Rat.mul_assoc,h1,Rat.mul_one]
 have h2:=CJ hx;rw [w8 h0,Int.ofNat_natAbs_of_nonneg oo_] at h2;exact Int.eq_of_mul_eq_mul_right oo_ h2
theorem EJ {a b:Rat} (ha:0<a):a⁻¹≤b ↔ 1≤a*b:=by
 have e:a*a⁻¹=1:=Rat.mul_inv_cancel _ (by grind)
 constructor
 ·intro h
  have:=Rat.mul_le_mul_of_nonneg_left h (Rat.le_of_lt ha)
  rwa [e] at this
 intro h;refine Rat.not_lt.1 fun k=>?_;have:=Rat.mul_pos ha (show 0<a⁻¹ - b by grind)
 grind
theorem LN {a b:Rat} (ha:0<a):b≤a⁻¹ ↔ a*b≤1:=by
 have e:a*a⁻¹=1:=Rat.mul_inv_cancel _ (by grind)
 constructor
 ·intro h
  have:=Rat.mul_le_mul_of_nonneg_left h (Rat.le_of_lt ha)
  rwa [e] at this
 intro h;refine Rat.not_lt.1 fun k=>?_;have:=Rat.mul_pos ha (show 0<b - a⁻¹ by grind)
 grind
structure Sm (u v s:Rat):Prop where
 lo:u≤s
 hi:s≤v
 m:∀ x,u≤x→x≤v→s.den≤x.den∧s.num.natAbs≤x.num.natAbs
theorem Sm.zero {u v:Rat} (h1:u≤0) (h2:0≤v):Sm u v 0:=⟨h1,h2,fun x _ _=>⟨x.den_pos,Nat.zero_le _⟩⟩
theorem Sm.neg {u v s:Rat} (h:Sm (-v) (-u) s):Sm u v (-s):=by
 have a:=h.lo;have b:=h.hi;refine ⟨by grind,by grind,fun x x1 x2=>?_⟩;have:=h.m (-x) (by grind) (by grind);rw [Rat.neg_den,Rat.neg_num,Int.natAbs_neg] at this;rw [Rat.neg_den,Rat.neg_num,Int.natAbs_neg];exact this
theorem Sm.ceil {u v:Rat} (h0:0<u) (hc:((-(-u).floor:Int):Rat)≤v):Sm u v ((-(-u).floor:Int):Rat):=by
 have h1:=YC (-u);have h2:=QS (-u);have e:((-(-u).floor:Int):Rat) = -(((-u).floor:Int):Rat):=Rat.intCast_neg _;generalize (-u).floor=f at *
 have c1:1 ≤ -f:=by
  have:((0:Int):Rat)<((-f:Int):Rat):=by
   rw [e];have:((0:Int):Rat)=0:=rfl
   grind
  have:=Rat.intCast_lt_intCast.1 this;omega
 refine ⟨by grind,hc,fun x x1 x2=>⟨by rw [Rat.den_intCast];exact x.den_pos,?_⟩⟩;rw [Rat.num_intCast];have hd:=@vK x;have dp:=@jW x;have d0:(0:Rat)<((x.den:Int):Rat):=Rat.intCast_pos.2 dp
 have h3:(((-f - 1)*(x.den:Int):Int):Rat)<((x.num:Int):Rat):=by
  rw [← hd,Rat.intCast_mul,Rat.intCast_sub,e];have:=Rat.mul_pos d0 (show 0<x - (-(f:Rat) - 1) by grind);have:((1:Int):Rat)=1:=rfl
  grind
 have h4:=Rat.intCast_lt_intCast.1 h3;have h5:(-f - 1)*1≤(-f - 1)*(x.den:Int):=Int.mul_le_mul_of_nonneg_left oo_ oo_;omega
theorem Sm.pos {u v s:Rat} (h:Sm u v s) (h0:0<u):0<s:=by have:=h.lo;grind
theorem Sm.part {u v s:Rat} {n:Int} (n0:0≤n) (h1:(n:Rat)<u) (huv:u≤v) (h:Sm (v - (n:Rat))⁻¹ (u - (n:Rat))⁻¹ s):Sm u v ((n:Rat)+s⁻¹):=by
 have pu:0<u - (n:Rat):=by grind
 have pv:0<v - (n:Rat):=by grind
 have s0:=h.pos (Rat.inv_pos.2 pv);have a1:=(EJ pv).1 h.lo;have a2:=(LN pu).1 h.hi;have b1:=(EJ (b:=v - (n:Rat)) s0).2 (by rw [Rat.mul_comm];exact a1);have b2:=(LN (b:=u - (n:Rat)) s0).2 (by rw [Rat.mul_comm];exact a2);refine ⟨by grind,by grind,fun x x1 x2=>?_⟩
 have px:0<x - (n:Rat):=by grind
 have e:(x - (n:Rat))*(x - (n:Rat))⁻¹=1:=Rat.mul_inv_cancel _ (by grind);have p':=Rat.inv_pos.2 px
 obtain ⟨m1,m2⟩:=h.m (x - (n:Rat))⁻¹ ((EJ pv).2 (by
  have:=Rat.mul_nonneg (show 0≤(v - (n:Rat)) - (x - (n:Rat)) by grind) (Rat.le_of_lt p')
  grind)) ((LN pu).2 (by
  have:=Rat.mul_nonneg (show 0≤(x - (n:Rat)) - (u - (n:Rat)) by grind) (Rat.le_of_lt p')
  grind))
 rw [w8 px,GC] at m1;rw [OP px,w9,Int.natAbs_natCast] at m2;have hp:=gp_.2 s0;have xp:=gp_.2 px;rw [GC] at xp;rw [XP,w8 s0,ZK,OP s0,w8 s0];refine ⟨m2,?_⟩;have h5:n*(s.num.natAbs:Int)≤n*(x.den:Int):=Int.mul_le_mul_of_nonneg_left oo_ n0;have h6:0≤n*(s.num.natAbs:Int):=Int.mul_nonneg n0 oo_;omega
theorem X5 {x y:Rat} (k:x<y) (dx:x.den≤31) (dy:y.den≤31) (hw:961*(y - x)<1):False:=by
 have:=g5_ k;have x0:(0:Rat)<((x.den:Int):Rat):=Rat.intCast_pos.2 jW;have y0:(0:Rat)<((y.den:Int):Rat):=Rat.intCast_pos.2 jW;have x1:((x.den:Int):Rat)≤((31:Int):Rat):=Rat.intCast_le_intCast.2 oo_;have y1:((y.den:Int):Rat)≤((31:Int):Rat):=Rat.intCast_le_intCast.2 oo_;have e31:((31:Int):Rat)=31:=rfl;rw [e31] at x1 y1;generalize ((x.den:Int):Rat)=d at *;generalize ((y.den:Int):Rat)=e at *;have h3:=Rat.mul_nonneg (show 0≤31 - d by grind) (Rat.le_of_lt y0)
 have h4:d*e≤961:=by grind
 have h5:=Rat.mul_nonneg (show 0≤961 - d*e by grind) (show 0≤y - x by grind)
 grind
theorem Sm.eq {u v s z:Rat} (h:Sm u v s) (h1:u≤z) (h2:z≤v) (hd:z.den≤31) (hw:961*(v - u)<1):s=z:=by
 have hm:=(h.m z h1 h2).1;have a:=h.lo;have b:=h.hi;rcases QP.tri (x:=s) (y:=z) with k|k|k
 ·exact (X5 k oo_ hd (by grind)).elim
 ·exact k
 exact (X5 k hd oo_ (by grind)).elim
theorem Sz.part {q:Rat} {n:Int} {k:Nat} (h:Sz q k) (h0:(n:Rat)<q) (h1:q<(n:Rat)+1):Sz (q - (n:Rat)) k:=by
 have:=GB (x:=q - (n:Rat)) (by grind) (by grind);rw [w9] at this;exact ⟨by have:=h.d;omega,by rw [w9];exact h.d⟩
theorem Sz.fl {q:Rat} {k:Nat} (h:Sz q k) (hk:0<k):Sz ((q.floor:Int):Rat) k:=by
 refine Sz.int ?_ hk;rw [zU];exact Nat.lt_of_le_of_lt (Int.natAbs_ediv_le_natAbs _ _) h.n
theorem Sm.sz {u v s:Rat} {k:Nat} (h:Sm u v s) (hu:Sz u k) (huv:u≤v):Sz s k:=by
 obtain ⟨a,b⟩:=h.m u Rat.le_refl huv;exact ⟨Nat.lt_of_le_of_lt b hu.n,Nat.lt_of_le_of_lt a hu.d⟩
theorem gs_ {a b:Rt} {p q:Rat} {j k:Nat} (ha:a.At p) (hb:b.At q) (h0:q≠0) (hp:Sz p j) (hq:Sz q k) (h:j+k≤512):(dV a b).At (p*q⁻¹):=by
 have hB:aU b=true:=by rw [i7];exact kL hb
 unfold dV;rw [hB,cond_true,KC,yM];exact WD ha (WA hb h0) hp (hq.inv h0) h
open QP (V Fz lq cH)
theorem ed_:Sz 1 1:=⟨by decide +kernel,by decide +kernel⟩
theorem dg_ {b:Rt} {q:Rat} {k:Nat} (hb:b.At q) (h0:q≠0) (hq:Sz q k) (h:1+k≤512):(dV (aP (wl 1)) b).At q⁻¹:=by
 have:=gs_ TI hb h0 ed_ hq h
 rwa [Rat.one_mul] at this
theorem MK:∀ (k:Nat) (a b:Rt) (u v:Rat),a.At u→b.At v→u≤v→Sz u 200→Sz v 200→siM a b<k→∃ s,(dO k a b).At s∧Sm u v s
 | 0,_,_,_,_,_,_,_,_,_,hk=>absurd hk (Nat.not_lt_zero _)
 | k+1,a,b,u,v,ha,hb,huv,su,sv,hk=>by
  have g:(!(aU a)||(!(aU b)||decide (0<(eS a b).1)))=false:=by
   rw [i7,i7,kL ha,kL hb,decide_eq_false (fun e=>absurd ((P8 ha hb).1 e) (Rat.not_lt.2 huv))];rfl
  have n1:=fun h14 h17=>ak_ (k:=k) g h14 h17 hk;have n2:=fun h14 h17 h20=>al_ (k:=k) g h14 h17 h20 O O hk;unfold dO;rw [g,cond_false]
  cases h14:(decide ((eE a).1≤0)&&decide (0≤(eE b).1))
  ·rw [cond_false]
   cases h17:decide ((eE b).1<0)
   ·rw [cond_false]
    have v0:0≤v:=by
     have:=h17;rw [CW hb] at this;exact Rat.not_lt.1 (of_decide_eq_false this)
    have u0:0<u:=by
     have:=h14;rw [JI ha,JH hb,decide_eq_true v0,Bool.and_true] at this;exact Rat.not_le.1 (of_decide_eq_false this)
    cases h20:decide ((eS (cZ (j5 a)) b).1≤0)
    ·rw [cond_false]
     have hc:=of_decide_eq_false h20;rw [KA (wcl ha) hb] at hc;obtain ⟨f1,f2⟩:=T3 huv (Rat.not_le.1 hc);have wf:=wfl ha;have sn:=su.fl dd_;have n0:0≤u.floor:=Q6 (by have:((0:Int):Rat)=0:=rfl;grind)
     have pu:0<u - ((u.floor:Int):Rat):=by grind
     have pv:0<v - ((u.floor:Int):Rat):=by grind
     have zu:=su.part f1 (by grind);have zv:=sv.part (n:=u.floor) (by grind) f2;have e1:=dg_ (b:=gD b (cZ (dH a))) (by rw [QC];exact WI hb wf sv sn dd_) (by grind) zv dd_;have e2:=dg_ (b:=gD a (cZ (dH a))) (by rw [QC];exact WI ha wf su sn dd_) (by grind) zu dd_
     have ord:(v - ((u.floor:Int):Rat))⁻¹≤(u - ((u.floor:Int):Rat))⁻¹:=(EJ pv).2 (by
      have e:(u - ((u.floor:Int):Rat))*(u - ((u.floor:Int):Rat))⁻¹=1:=Rat.mul_inv_cancel _ (by grind);have:=Rat.mul_nonneg (show 0≤(v - ((u.floor:Int):Rat)) - (u - ((u.floor:Int):Rat)) by grind) (Rat.le_of_lt (Rat.inv_pos.2 pu))
      grind)
     obtain ⟨s,hs,hm⟩:=MK k _ _ _ _ e1 e2 ord (zv.inv (by grind)) (zu.inv (by grind)) (n2 h14 h17 h20);have s0:=hm.pos (Rat.inv_pos.2 pv);have ss:=hm.sz (zv.inv (by grind)) ord;refine ⟨_,?_,hm.part n0 f1 huv⟩
     dsimp only
     rw [JY];exact P6 wf (dg_ hs (by grind) ss dd_) sn (ss.inv (by grind)) dd_
    rw [cond_true];have hc:=of_decide_eq_true h20;rw [KA (wcl ha) hb] at hc;exact ⟨_,wcl ha,Sm.ceil u0 hc⟩
   rw [cond_true]
   have na:(dW a).At (-u):=by rw [zP];exact wZ ha
   have nb:(dW b).At (-v):=by rw [zP];exact wZ hb
   obtain ⟨s,hs,hm⟩:=MK k _ _ _ _ nb na (by grind) sv.neg su.neg (n1 h14 h17);exact ⟨-s,by dsimp only;rw [zP];exact wZ hs,hm.neg⟩
  rw [cond_true];rw [JI ha,JH hb,Bool.and_eq_true] at h14;exact ⟨0,by rw [NA];exact M9 (wl 0),Sm.zero (of_decide_eq_true h14.1) (of_decide_eq_true h14.2)⟩
theorem Sp.of5 {p:List I} {c:Nat→Int} {A B:Rat} (hc:Po p c) (bd:Bd c 4 32) (h0:p≠[]) (sA:Sz A 12) (sB:Sz B 12):Sp p A B:=by
 obtain ⟨s1,s2,s3⟩:=DO hc bd h0;exact ⟨hc.rgt,h0,hc.g,s1,(G6 hc.rgt s1).resolve_left h0,s2,s3,⟨c,4,32,hc,bd,by decide,by decide⟩,sA,sB⟩
def Ix9 (p:List I) (A B:Rat) (k:Nat) (x:Iv):Prop:=∃ j s t,x.lo.At s∧x.hi.At t∧It A B (2 ^ k) j s t∧V ((aI p).1.map qp) s=V ((aI p).1.map qp) t+1
theorem bE_ {p:List I} {A B:Rat} (h:Sp p A B) (hAB:A≤B) (hs:∀ (k:Nat) (j:Int) (u v:Rat),It A B (2 ^ k) j u v→V ((aI p).1.map qp) v+2≤V ((aI p).1.map qp) u→k≤15) :
  ∀ (d n k:Nat) (j:Int) (a b:Rt) (u v:Rat) (out:List Iv),d+k=16→n+k=601→a.At u→b.At v→It A B (2 ^ k) j u v →
  (aL (aI p).1 n a b k true out).1=true∧∃ l,(aL (aI p).1 n a b k true out).2=out++l∧l.length+V ((aI p).1.map qp) v=V ((aI p).1.map qp) u∧∀ x∈l,∃ K,K≤16∧Ix9 p A B K x:=by
 intro d
 induction d with
 | zero =>
  intro n k j a b u v out hd hn ha hb hi;obtain ⟨n,rfl⟩:∃ j,n=j+1:=⟨n - 1,by omega⟩;have hc:=h.count oo_ ha hb hi.lo hi.hi;obtain ⟨u',v',cx⟩:=tJ h.st (qN p) hc;obtain rfl:=oP ha cx.a;obtain rfl:=oP hb cx.b;have cn:=cx.n;have an:=h.st.anti (hi.le hAB);have hs':=hs _ _ _ _ hi;unfold aL;rw [hc,E6 ha,E6 hb,decide_eq_true (show (k:Int)<600 by omega)];simp only [Bool.not_false,Bool.and_self,Bool.not_true,Bool.false_or]
  cases h0:((aK (aI p).1 a b).1.1==0)
  ·cases h1:((aK (aI p).1 a b).1.1==1)
   ·have h0':¬ (aK (aI p).1 a b).1.1=0:=by simpa using h0
    have h1':¬ (aK (aI p).1 a b).1.1=1:=by simpa using h1
    have:=hs' oo_;omega
   have h1':(aK (aI p).1 a b).1.1=1:=by simpa using h1
   simp only [cond_true,cond_false];refine ⟨trivial,[⟨a,b⟩],rfl,by simp only [List.length_singleton];omega,fun x hx=>?_⟩;obtain rfl:=List.mem_singleton.1 hx;exact ⟨k,by omega,j,_,_,ha,hb,hi,by omega⟩
  have h0':(aK (aI p).1 a b).1.1=0:=by simpa using h0
  simp only [cond_true];exact ⟨trivial,[],(List.append_nil _).symm,by simp only [List.length_nil];omega,fun x hx=>by cases hx⟩
 | succ d ih =>
  intro n k j a b u v out hd hn ha hb hi;obtain ⟨n,rfl⟩:∃ j,n=j+1:=⟨n - 1,by omega⟩;have hc:=h.count oo_ ha hb hi.lo hi.hi;obtain ⟨u',v',cx⟩:=tJ h.st (qN p) hc;obtain rfl:=oP ha cx.a;obtain rfl:=oP hb cx.b;have cn:=cx.n;have an:=h.st.anti (hi.le hAB);unfold aL;rw [hc,E6 ha,E6 hb,decide_eq_true (show (k:Int)<600 by omega)];simp only [Bool.not_false,Bool.and_self,Bool.not_true,Bool.false_or]
  cases h0:((aK (aI p).1 a b).1.1==0)
  ·cases h1:((aK (aI p).1 a b).1.1==1)
   ·simp only [cond_false]
    have hm:=h.mid oo_ ha hb hi.lo hi.hi;obtain ⟨o1,l1,e1,n1,c1⟩:=ih n (k+1) _ a (bB a b) _ _ out oo_ oo_ ha hm hi.left;rw [o1];obtain ⟨o2,l2,e2,n2,c2⟩:=ih n (k+1) _ (bB a b) b _ _ (aL (aI p).1 n a (bB a b) (k+1) true out).2 oo_ oo_ hm hb hi.right;refine ⟨o2,l1++l2,by rw [e2,e1,List.append_assoc],by rw [List.length_append];omega,fun x hx=>?_⟩;rcases List.mem_append.1 hx with hx|hx
    ·exact c1 x hx
    exact c2 x hx
   have h1':(aK (aI p).1 a b).1.1=1:=by simpa using h1
   simp only [cond_true,cond_false];refine ⟨trivial,[⟨a,b⟩],rfl,by simp only [List.length_singleton];omega,fun x hx=>?_⟩;obtain rfl:=List.mem_singleton.1 hx;exact ⟨k,by omega,j,_,_,ha,hb,hi,by omega⟩
  have h0':(aK (aI p).1 a b).1.1=0:=by simpa using h0
  simp only [cond_true];exact ⟨trivial,[],(List.append_nil _).symm,by simp only [List.length_nil];omega,fun x hx=>by cases hx⟩
theorem YM {p:List I} {A B:Rat} (h:Sp p A B) (hAB:A≤B) {K:Nat} (hK:K≤40) {x:Iv} (hx:Ix9 p A B K x):(fX (aI p).1 x).2=true∧Ix9 p A B (K+1) (fX (aI p).1 x).1:=by
 obtain ⟨j,u,v,ha,hb,it,hV⟩:=hx;have hm:=h.mid oo_ ha hb it.lo it.hi;have hc:=h.count oo_ ha hm it.left.lo it.left.hi;obtain ⟨u',v',cx⟩:=tJ h.st (qN p) hc;obtain rfl:=oP ha cx.a;obtain rfl:=oP hm cx.b;have cn:=cx.n;have a1:=h.st.anti (it.left.le hAB);have a2:=h.st.anti (it.right.le hAB);unfold fX;rw [hc,E6 hm];simp only [Bool.not_true,Bool.or_self,cond_false]
 cases h1:((aK (aI p).1 x.lo (bB x.lo x.hi)).1.1==1)
 ·have h1':¬ (aK (aI p).1 x.lo (bB x.lo x.hi)).1.1=1:=by simpa using h1
  exact ⟨rfl,_,_,_,hm,hb,it.right,by omega⟩
 have h1':(aK (aI p).1 x.lo (bB x.lo x.hi)).1.1=1:=by simpa using h1
 exact ⟨rfl,_,_,_,ha,hm,it.left,by omega⟩
theorem GS {p:List I} {A B:Rat} (h:Sp p A B) (hAB:A≤B) {x:Iv} (hi:(cY p x).1=(aI p).1):∀ (n i K:Nat) (m:Iv),i≤16→16 - i<n→K+(16 - i)≤40→Ix9 p A B K m→∃ y,gE p x 16 n i m = .inl (16,y)∧Ix9 p A B (K+(16 - i)) y
 | 0,i,K,m,_,hn,_,_=>absurd hn (Nat.not_lt_zero _)
 | n+1,i,K,m,h16,hn,hK,hx=>by
  unfold gE
  by_cases k:i<16
  ·obtain ⟨h1,h2⟩:=YM h hAB oo_ hx
   rw [decide_eq_true (show (i:Int)<16 by omega),cond_true,hi]
   dsimp only
   rw [h1,cond_true];obtain ⟨y,e,hy⟩:=GS h hAB hi n (i+1) (K+1) _ oo_ oo_ oo_ h2;exact ⟨y,e,by rw [show K+(16 - i)=K+1+(16 - (i+1)) by omega];exact hy⟩
  have e:i=16:=by omega
  subst e;exact ⟨m,rfl,hx⟩
theorem QB {p:List I} {A B:Rat} (h:Sp p A B) (hAB:A≤B) {K:Nat} (hK:K≤16) {x:Iv} (hx:Ix9 p A B K x):∃ y,fF p x 16=(y,wl 0)∧Ix9 p A B (K+16) y:=by
 obtain ⟨j,u,v,ha,hb,it,hV⟩:=hx;have hc:=h.count oo_ ha hb it.lo it.hi;obtain ⟨u',v',cx⟩:=tJ h.st (qN p) hc;obtain rfl:=oP ha cx.a;obtain rfl:=oP hb cx.b;have cn:=cx.n
 have hC:dN p x.lo x.hi=((aK (aI p).1 x.lo x.hi).1,wl 0):=by
  unfold dN;rw [h.nb,h.nl,h.ok,hc,LJ ha hb,decide_eq_true (it.le hAB)];rfl
 have hI:cY p x=((aI p).1,wl 0):=by
  unfold cY;rw [hC]
  have e:(aK (aI p).1 x.lo x.hi).1.1=1:=by omega
  dsimp only
  rw [e];rfl
 obtain ⟨y,hy,hx⟩:=GS h hAB (x:=x) (by rw [hI]) 17 0 K x dd_ dd_ oo_ ⟨j,_,_,ha,hb,it,hV⟩;refine ⟨y,?_,hx⟩;unfold fF;rw [hI];have e:gE p x 16 ((16:Int).toNat+1) 0 x = .inl (16,y):=hy;rw [e];rfl
end Go.Num
