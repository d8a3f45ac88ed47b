/- Lemmas: what they ask stands in their statements. -/
import Derived.Test.YtcjoflcajgaifaaGreatDoorMRrd
set_option linter.unusedSimpArgs false
set_option linter.unusedVariables false
namespace Go.Num
open Go Go.Kn
theorem fm_ {u v:Int} (h:cM (u*v)) (hu:0<u):cM v:=by
 unfold cM at *;rw [Int.natAbs_mul] at h;have:=Nat.le_mul_of_pos_left v.natAbs (show 0<u.natAbs by omega);omega
section
variable {P:List I} {g F:Nat→Int} {n m:Nat}
theorem OC (hG:Po (aN P (aD P)) g) (hn:(aN P (aD P)).length=n+1) (hg0:0<g n) :
  ∀ (k fu:Nat) (i:Int) (r f:List I),i=(k:Int) - 1→k<fu→k≤m+1→r.length=n+m+1→f.length=m+1→(∀ j,r.getD j I0=E (Z.of (conv g (cut F k) j)))→(∀ j,cM (conv g (cut F k) j))→(∀ j,k≤j→f.getD j I0=E (Z.of (F j)))→(∀ j,k≤j→cM (F j)) →
  eK P fu i r f = .inr badp ∨ ∃ i' r' f',eK P fu i r f = .inl (i',r',f')∧f'.length=m+1∧(∀ j,f'.getD j I0=E (Z.of (F j)))∧∀ j,cM (F j)
 | _,0,_,_,_,_,h,_,_,_,_,_,_,_=>absurd h (Nat.not_lt_zero _)
 | 0,fu+1,i,r,f,hi,hk,hkm,hr,hf,hrv,hrb,hfv,hfb=>by
  unfold eK;rw [decide_eq_false oo_,cond_false];exact .inr ⟨i,r,f,rfl,hf,fun j=>hfv j (Nat.zero_le _),fun j=>hfb j (Nat.zero_le _)⟩
 | k+1,fu+1,i,r,f,hi,hk,hkm,hr,hf,hrv,hrb,hfv,hfb=>by
  have hi':i=(k:Int):=by omega
  have hgz:∀ j,n<j→g j=0:=fun j hj=>hG.zero oo_
  have htop:conv g (cut F (k+1)) (n+k)=g n*F k:=by
   rw [mW hgz fun i hi=>by unfold cut;rw [if_neg oo_]]
   congr 1
   unfold cut;rw [if_pos oo_]
  have bF:cM (F k):=fm_ (u:=g n) (by rw [← htop];exact hrb _) hg0
  have hq:(E (Z.quo (r.getD (i.toNat+((aN P (aD P)).length - 1)) I0).dec ((aN P (aD P)).getD ((aN P (aD P)).length - 1) I0).dec))=E (Z.of (F k)):=by
   rw [hn,Nat.add_sub_cancel,show i.toNat+n=n+k by omega,hrv,hG.get,bR,bR,CZ (hrb _) (hG.B n) hg0 (v:=F k) htop.symm]
  unfold eK;rw [decide_eq_true oo_,cond_true];simp only;rw [hq]
  have hx:((f.set i.toNat (E (Z.of (F k)))).getD i.toNat I0).dec=Z.of (F k):=by rw [jU _ _ _ oo_,bR]
  have hfr:∀ j,(frE (aN P (aD P)) r k (Z.of (F k)) j).1.bad=true∨(frE (aN P (aD P)) r k (Z.of (F k)) j=E (Z.of (conv g (cut F k) j))∧cM (conv g (cut F k) j)):=fun j=>by
   unfold frE;refine Zx.cases ?_
   have e:conv g (cut F k) j=conv g (cut F (k+1)) j - F k*shf g k j:=by rw [BB];omega
   rw [hrv,KK hG k j,bR,bR,e];exact (Zx.of _).sub ((Zx.of _).mul (.of _))
  rcases K0 P i r f (E (Z.of (F k))) (g:=aN P (aD P)) O hi' ((aN P (aD P)).length+1) 0 r oo_ (Nat.zero_le _) O oo_ (fun j _=>rfl) with ⟨t',k',e1,e2,e3,e4⟩|⟨e1,j,j1,j2,j3⟩
  ·rw [e1]
   simp only [sm];rw [hx] at e3 e4
   have hin:∀ j,k+0≤j∧j<k+(aN P (aD P)).length→frE (aN P (aD P)) r k (Z.of (F k)) j=E (Z.of (conv g (cut F k) j))∧cM (conv g (cut F k) j):=fun j hj=>by
    rcases hfr j with h1|h1
    ·rw [e4 j hj.1 hj.2] at h1;cases h1
    exact h1
   have hout:∀ j,¬ (k+0≤j∧j<k+(aN P (aD P)).length)→conv g (cut F (k+1)) j=conv g (cut F k) j:=fun j hj=>by
    rw [BB]
    have:shf g k j=0:=by
     unfold shf
     split
     ·exact hgz _ oo_
     rfl
    rw [this,Int.mul_zero,Int.add_zero]
   refine OC hG hn hg0 k fu (i - 1) t' _ oo_ oo_ oo_ oo_ (by rw [List.length_set];exact hf) (fun j=>?_) (fun j=>?_) (fun j hj=>?_) (fun j hj=>?_)
   ·rw [e3 j]
    by_cases hj:k+0≤j∧j<k+(aN P (aD P)).length
    ·rw [if_pos hj,(hin j hj).1]
    rw [if_neg hj,hrv,hout j hj]
   ·by_cases hj:k+0≤j∧j<k+(aN P (aD P)).length
    ·exact (hin j hj).2
    rw [← hout j hj];exact hrb j
   ·rw [show i.toNat=k by omega]
    by_cases hjk:j=k
    ·subst hjk;exact jU _ _ _ oo_
    rw [nZ _ _ _ _ hjk];exact hfv j oo_
   by_cases hjk:j=k
   ·subst hjk;exact bF
   exact hfb j oo_
  rw [e1];exact .inl O
theorem dG_ (hG:Po (aN P (aD P)) g) (hn:(aN P (aD P)).length=n+1) (hg0:0<g n)
  {ρ:Nat→Int} (hR:Po (aC P) ρ) (hρ:∀ k,ρ k=conv g F k) (hF0:F m≠0) (hF:∀ i,m<i→F i=0):aT P=badp ∨ ∃ e:Int,(e=1∨e = -1)∧Po (aT P) (fun k=>e*F k):=by
 have hgz:∀ j,n<j→g j=0:=fun j hj=>hG.zero oo_
 have hRl:(aC P).length=n+m+1:=hR.len_top (by rw [hρ,mW hgz hF];exact Int.mul_ne_zero oo_ hF0) fun i hi=>by rw [hρ];exact kU (n:=n+1) (m:=m+1) (fun j hj=>hgz j hj) (fun j hj=>hF j hj) i oo_
 have hlen:=hR.l;unfold aT;rw [hG.nb,hR.nb,Bool.or_false,cond_false,show (((aC P).length:Int)==0)=false from beq_eq_false_iff_ne.2 oo_,cond_false]
 rcases OC hG hn hg0 (F:=F) (m:=m) (m+1) ((aC P).length+2) (((List.replicate ((aC P).length - ((aN P (aD P)).length - 1)) I0).length:Int) - 1) (aC P) (List.replicate ((aC P).length - ((aN P (aD P)).length - 1)) I0) (by rw [List.length_replicate];omega) oo_ (Nat.le_refl _) hRl (by rw [List.length_replicate];omega) (fun j=>by rw [hR.get,hρ,KQ hF]) (fun j=>by rw [KQ hF,← hρ];exact hR.B j) (fun j hj=>by
  rw [hF j oo_,← I0_E]
  exact lO (by rw [List.length_replicate];omega)) (fun j hj=>by rw [hF j oo_];exact B0) with e1|⟨i',r',f',e1,e2,e3,bF⟩
 ·rw [e1];exact .inl O
 rw [e1];simp only [sm]
 have hM:Po (bG f') F:=by rw [qK];exact AJ e3 bF fun k hk=>hF k oo_
 obtain ⟨e,h1,h2,_⟩:=LT hM;exact .inr ⟨e,h1,h2⟩
end
theorem M6 {p:List I} {c:Nat→Int} (h:Po p c):aD p=badp∨Po (aD p) (dI c):=by
 have hl:=h.l;unfold aD;rw [h.nb,cond_false,oT];have hr:=LM ((List.range ((p.length:Int) - 1).toNat).map fun y=>fL (jS y p))
 cases hg:(mkP ((List.range ((p.length:Int) - 1).toNat).map fun y=>fL (jS y p))).all gdI
 ·exact .inl (zP hr hg)
 right
 refine R8 (fun k hk=>?_) (fun k hk=>?_) oo_ hg
 ·show Ix (E (Z.mul (Z.of (((k+1):Nat):Int)) (p.getD (k+1) I0).dec)) (dI c k)
  rw [h.get,bR];exact KB ((Zx.of _).mul (.of _))
 unfold dI;rw [h.zero (show p.length≤k+1 by omega),Int.mul_zero]
open Go Go.Kn
open QP (Dv Dg Irr)
structure Rad (p f:QP):Prop where
 ne:f≠QP.C 0
 up:∃ n,Dv p (QP.pow f n)
 dv:Dv f p
 sq:∀ h,Irr h→¬ Dv (h*h) f
theorem I2 {p:List I} (h:aN p (aD p)=badp):aT p=badp:=by
 unfold aT;rw [h,wM,Bool.true_or,cond_true,DC]
theorem YO {p:List I} (hp:p.length≤25) (h:aD p=badp):aN p (aD p)=badp:=by
 unfold aN;rw [h,rL,BF p badp _ _ oo_];rfl
theorem Dv.cmul {a b:QP} {s t:Rat} (hs:s≠0) (ht:t≠0) (h:QP.C s*a=QP.C t*b) (x:QP):Dv x a ↔ Dv x b :=
 ⟨fun k=>QP.Dv.scale ht (by rw [← h];exact k.mul_l _),fun k=>QP.Dv.scale hs (by rw [h];exact k.mul_l _)⟩
theorem dH_ {p:List I} {c:Nat→Int} (h:Po p c) (h0:p≠[]):aT p=badp ∨ ∃ F:Nat→Int,∃ hF:Po (aT p) F,Rad (ZP c h.ends) (ZP F hF.ends):=by
 rcases M6 h with hd|hd
 ·exact .inl (I2 (YO h.l hd))
 rcases fp_ h hd with hg|⟨α,β,g,s,t,ha,hb,hg,s0,t0,ea,eb,ca,cg,hG,hm⟩
 ·exact .inl (I2 hg)
 have hc0:=h.ne_nil h0
 have hα0:¬ ∀ k,α k=0:=fun hz=>hc0 fun k=>by rw [ea k,hz k,Int.mul_zero]
 have hpr:aC p≠[]:=fun e=>hα0 fun k=>BL ha e k;have hα:Cop α:=ca hpr;obtain ⟨d1,d2⟩:=(hG (ZP g hg.ends)).2 (.refl _);have hα1:=UZ ha.ends hα0
 have hg0:¬ ∀ k,g k=0:=fun hz=>hα1 (by
  have e0:ZP g hg.ends=QP.C 0:=QP.ex fun k=>by rw [kT,hz k,QP.C0_c];rfl
  rw [e0] at d1
  exact d1.of_zero)
 have hgn:aN p (aD p)≠[]:=fun e=>hg0 fun k=>BL hg e k;have hgc:=cg hgn;obtain ⟨n,n1,n2,n3⟩:=hg.top hgn;obtain ⟨F,eF,hF⟩:=AG hgc hg.ends ha.ends d1;have hFc:Cop F:=CI (s:=g) (by rw [← show α=conv g F from funext hF];exact hα);obtain ⟨m,m1,m2⟩:=(HF eF).resolve_left (CH hFc)
 have hgp:0<g n:=by have:=hm n n3;omega
 rcases dG_ hg n1 hgp ha hF m1 m2 with hf|⟨e,he,hP⟩
 ·exact .inl hf
 right
 have sq:(s:Rat)≠0:=fun e=>by have:=Rat.intCast_eq_zero_iff.1 e;omega
 have tq:(t:Rat)≠0:=fun e=>by have:=Rat.intCast_eq_zero_iff.1 e;omega
 have E1:ZP c h.ends=QP.C (s:Rat)*ZP α ha.ends:=QP.ex fun k=>by rw [QP.C_mul,kT,kT,ea k,Rat.intCast_mul]
 have E2:QP.C (s:Rat)*QP.D (ZP α ha.ends)=QP.C (t:Rat)*ZP β hb.ends:=QP.ex fun k=>by
  rw [QP.C_mul,QP.C_mul,QP.D_c,kT,kT,← Rat.intCast_mul t,← eb k];unfold dI;rw [ea (k+1),Rat.intCast_mul,Rat.intCast_mul]
  show _=((k+1:Nat):Rat)*_
  grind
 have hDv:=Dv.cmul sq tq E2
 have key:∀ x,Irr x→(Dv x (ZP α ha.ends)→Dv x (ZP F eF))∧¬ Dv (x*x) (ZP F eF):=fun x hx=>by
  refine QP.sqf_part (G:=ZP g hg.ends) hα1 ?_ ((hDv _).2 d2) (fun d h1 h2=>(hG d).1 ⟨h1,(hDv d).1 h2⟩) hx;rw [← pW hg.ends eF];exact ND _ _ hF
 have hF1:=UZ eF (CH hFc)
 have he0:(e:Rat)≠0:=by rcases he with rfl|rfl<;>decide
 have EF:ZP (fun k=>e*F k) hP.ends=QP.C (e:Rat)*ZP F eF:=QP.ex fun k=>by rw [QP.C_mul,kT,kT,Rat.intCast_mul]
 have toF:∀ x,Dv x (ZP (fun k=>e*F k) hP.ends) ↔ Dv x (ZP F eF):=fun x=>by
  rw [EF];exact ⟨fun k=>QP.Dv.scale he0 k,fun k=>k.mul_l _⟩
 refine ⟨_,hP,⟨fun e0=>?_,?_,?_,fun x hx k=>(key x hx).2 ((toF _).1 k)⟩⟩
 ·rw [EF] at e0
  exact QP.mul_ne (QP.C_dg he0).ne hF1 e0
 ·obtain ⟨N,hN⟩:=QP.ex_dg hα1
  refine ⟨N,?_⟩;have h1:Dv (ZP α ha.ends) (QP.pow (ZP (fun k=>e*F k) hP.ends) N):=QP.dvd_pow (fun x hx k=>(toF x).2 ((key x hx).1 k)) N _ hN (.refl _);rw [E1];exact (QP.C_dv sq _).trans h1
 rw [E1];have h1:Dv (ZP F eF) (ZP α ha.ends):=⟨ZP g hg.ends,by rw [QP.mul_comm',← pW hg.ends eF];exact ND _ _ hF⟩;refine QP.Dv.mul_l (QP.Dv.trans ?_ h1) _;rw [EF];exact QP.C_dv he0 _
def Ab (x B:Rat):Prop:=-B≤x∧x≤B
theorem Ab.nn {x B:Rat} (h:Ab x B):0≤B:=by unfold Ab at h;grind
theorem Ab.le {x A B:Rat} (h:Ab x A) (hl:A≤B):Ab x B:=by unfold Ab at *;grind
theorem Ab.add {x y A B:Rat} (h:Ab x A) (g:Ab y B):Ab (x+y) (A+B):=by unfold Ab at *;grind
theorem Ab.sub {x y A B:Rat} (h:Ab x A) (g:Ab y B):Ab (x - y) (A+B):=by unfold Ab at *;grind
theorem Ab.neg {x A:Rat} (h:Ab x A):Ab (-x) A:=by unfold Ab at *;grind
theorem Ab.mul {x y A B:Rat} (h:Ab x A) (g:Ab y B):Ab (x*y) (A*B):=by
 unfold Ab at *
 have h1:0≤A - x:=by grind
 have h2:0≤A+x:=by grind
 have h3:0≤B - y:=by grind
 have h4:0≤B+y:=by grind
 have p1:=Rat.mul_nonneg h1 h4;have p2:=Rat.mul_nonneg h2 h3;have p3:=Rat.mul_nonneg h1 h3;have p4:=Rat.mul_nonneg h2 h4
 constructor<;>grind
theorem Ab.self (x:Rat):∃ B,0≤B∧Ab x B:=by
 rcases Rat.le_total (a:=0) (b:=x) with h|h
 ·exact ⟨x,h,by unfold Ab;grind⟩
 exact ⟨-x,by grind,by unfold Ab;grind⟩
theorem Ab.pos {x:Rat} (h:0≤x):Ab x x:=by unfold Ab;grind
theorem G2 {A B:Rat} (hA:0<A) (hB:0<B):∃ e,0<e∧e≤A∧e≤B:=by
 rcases Rat.le_total (a:=A) (b:=B) with h|h
 ·exact ⟨A,hA,Rat.le_refl,h⟩
 exact ⟨B,hB,h,Rat.le_refl⟩
theorem oK {K A:Rat} (hK:0≤K) (hA:0<A):∃ e,0<e∧K*e≤A:=by
 have h1:(0:Rat)<K+1:=by grind
 have hi:0<(K+1)⁻¹:=Rat.inv_pos.2 h1;refine ⟨A*(K+1)⁻¹,Rat.mul_pos hA hi,?_⟩;have e:(K+1)*(K+1)⁻¹=1:=Rat.mul_inv_cancel _ (by grind);have p:=Rat.mul_nonneg (Rat.le_of_lt hA) (Rat.le_of_lt hi)
 have:K*(A*(K+1)⁻¹)=A*((K+1)*(K+1)⁻¹) - A*(K+1)⁻¹:=by grind
 rw [this,e];grind
theorem ET {a b c d:Rat} (h:a≤b) (g:c≤d) (ha:0≤a) (hd:0≤d):a*c≤b*d :=
 Rat.le_trans (Rat.mul_le_mul_of_nonneg_left g ha) (Rat.mul_le_mul_of_nonneg_right h hd)
namespace QP
noncomputable def ev (a:QP) (x:Rat):Rat:=vl a.c x (Classical.choose a.fs)
theorem ev_vl {a:QP} {n:Nat} (h:∀ i,n≤i→a.c i=0) (x:Rat):a.ev x=vl a.c x n:=by
 have g:=Classical.choose_spec a.fs;unfold ev;rcases Nat.le_total n (Classical.choose a.fs) with k|k
 ·exact rX h k
 exact (rX g k).symm
theorem ev_add (a b:QP) (x:Rat):(a+b).ev x=a.ev x+b.ev x:=by
 obtain ⟨n,h⟩:=a.fs;obtain ⟨m,g⟩:=b.fs;rw [ev_vl (a:=a+b) (n:=max n m) (fun i hi=>by rw [add_c,h i (by omega),g i (by omega),Rat.add_zero]),ev_vl (a:=a) (n:=max n m) (fun i hi=>h i (by omega)),ev_vl (a:=b) (n:=max n m) (fun i hi=>g i (by omega))];exact aR_ a.c b.c x _
theorem ev_mul (a b:QP) (x:Rat):(a*b).ev x=a.ev x*b.ev x:=by
 obtain ⟨n,h⟩:=a.fs;obtain ⟨m,g⟩:=b.fs;rw [ev_vl (a:=a*b) (n:=n+m) (fun i hi=>kU h g i (by omega)),ev_vl h,ev_vl g];exact UW h g (Nat.le_refl _)
theorem ev_C (t x:Rat):(C t).ev x=t:=by
 rw [ev_vl (n:=1) (fun i hi=>by rw [C_c,if_neg (by omega)])];unfold vl;simp only [fF];rw [C_c,if_pos O,Rat.pow_zero,Rat.mul_one,Rat.zero_add]
def X:QP:=M 1 1
theorem be_ (s:QP) (k:Nat):(X*s).c k=if 1≤k then s.c (k - 1) else 0:=by unfold X;rw [M8];split<;>simp [Rat.one_mul]
theorem fR_ (x:Rat):X.ev x=x:=by
 rw [ev_vl (n:=2) (fun i hi=>by show (if i=1 then (1:Rat) else 0)=0;rw [if_neg (by omega)])];unfold vl;simp only [fF]
 show (0:Rat)+(if 0=1 then (1:Rat) else 0)*x ^ 0+(if 1=1 then (1:Rat) else 0)*x ^ 1=x
 rw [if_neg (by omega),if_pos O,Rat.pow_succ,Rat.pow_zero];grind
theorem ind {P:QP→Prop} (h0:P (C 0)) (h1:∀ t s,P s→P (C t+X*s)) (a:QP):P a:=by
 obtain ⟨n,h⟩:=a.fs
 induction n generalizing a with
 | zero=>rw [show a=C 0 from ex fun k=>by rw [h k (Nat.zero_le _),C0_c]];exact h0
 | succ n ih =>
  have e:a=C (a.c 0)+X*⟨fun k=>a.c (k+1),⟨n,fun i hi=>h _ (by omega)⟩⟩:=ex fun k=>by
   rw [add_c,be_,C_c];rcases Nat.eq_zero_or_pos k with hk|hk
   ·subst hk;rw [if_pos O,if_neg (by omega),Rat.add_zero]
   rw [if_neg (by omega),if_pos (show 1≤k from hk),Rat.zero_add]
   show _=a.c (k - 1+1)
   rw [show k - 1+1=k by omega]
  rw [e];exact h1 _ _ (ih _ fun i hi=>h _ (by omega))
theorem N4 (t:Rat) (s:QP) (x:Rat):(C t+X*s).ev x=t+x*s.ev x:=by rw [ev_add,ev_mul,ev_C,fR_]
theorem fo_ (a b:QP):D (a+b)=D a+D b:=ex fun k=>by rw [D_c,add_c,add_c,D_c,D_c,Rat.mul_add]
theorem D_C (t:Rat):D (C t)=C 0:=ex fun k=>by rw [D_c,C_c,if_neg (by omega),Rat.mul_zero,C0_c]
theorem D_X:D X=C 1:=ex fun k=>by
 rw [D_c,C_c]
 show ((k+1:Nat):Rat)*(if k+1=1 then (1:Rat) else 0)=_
 rcases Nat.eq_zero_or_pos k with hk|hk
 ·subst hk;rw [if_pos O,if_pos O,Rat.mul_one];rfl
 rw [if_neg (by omega),if_neg (by omega),Rat.mul_zero]
theorem gW_ (t:Rat) (s:QP) (x:Rat):(D (C t+X*s)).ev x=s.ev x+x*(D s).ev x:=by
 rw [fo_,D_C,zT,M5,D_X,oY,ev_add,ev_mul,fR_]
theorem bd (M:Rat) (a:QP):∃ B,0≤B∧∀ x,Ab x M→Ab (a.ev x) B:=by
 refine ind (P:=fun a=>∃ B,0≤B∧∀ x,Ab x M→Ab (a.ev x) B) ⟨0,Rat.le_refl,fun x _=>by rw [ev_C];unfold Ab;grind⟩ (fun t s ⟨B,hB,h⟩=>?_) a;obtain ⟨T,hT,ht⟩:=Ab.self t
 by_cases hM:0≤M
 ·refine ⟨T+M*B,Rat.add_nonneg hT (Rat.mul_nonneg hM hB),fun x hx=>?_⟩
  rw [N4];exact ht.add (hx.mul (h x hx))
 exact ⟨0,Rat.le_refl,fun x hx=>absurd hx.nn hM⟩
theorem lip (M:Rat) (a:QP):∃ K,0≤K∧∀ x y,Ab x M→Ab y M→x≤y→Ab (a.ev y - a.ev x) (K*(y - x)):=by
 refine ind (P:=fun a=>∃ K,0≤K∧∀ x y,Ab x M→Ab y M→x≤y→Ab (a.ev y - a.ev x) (K*(y - x))) ⟨0,Rat.le_refl,fun x y _ _ _=>by rw [ev_C,ev_C];unfold Ab;grind⟩ (fun t s ⟨K,hK,h⟩=>?_) a;obtain ⟨B,hB,hb⟩:=bd M s
 by_cases hM:0≤M
 ·refine ⟨M*K+B,Rat.add_nonneg (Rat.mul_nonneg hM hK) hB,fun x y hx hy hl=>?_⟩
  rw [N4,N4]
  have e:t+y*s.ev y - (t+x*s.ev x)=x*(s.ev y - s.ev x)+s.ev y*(y - x):=by grind
  have hd:Ab (y - x) (y - x):=Ab.pos (by grind);rw [e,show (M*K+B)*(y - x)=M*(K*(y - x))+B*(y - x) by grind];exact (hx.mul (h x y hx hy hl)).add ((hb y hy).mul hd)
 exact ⟨0,Rat.le_refl,fun x y hx=>absurd hx.nn hM⟩
theorem tay (M:Rat) (a:QP):∃ K,0≤K∧∀ x y,Ab x M→Ab y M→x≤y→Ab (a.ev y - a.ev x - (y - x)*(D a).ev x) (K*((y - x)*(y - x))):=by
 refine ind (P:=fun a=>∃ K,0≤K∧∀ x y,Ab x M→Ab y M→x≤y→Ab (a.ev y - a.ev x - (y - x)*(D a).ev x) (K*((y - x)*(y - x)))) ⟨0,Rat.le_refl,fun x y _ _ _=>by rw [ev_C,ev_C,D_C,ev_C];unfold Ab;grind⟩ (fun t s ⟨K,hK,h⟩=>?_) a;obtain ⟨B,hB,hb⟩:=lip M s
 by_cases hM:0≤M
 ·refine ⟨M*K+B,Rat.add_nonneg (Rat.mul_nonneg hM hK) hB,fun x y hx hy hl=>?_⟩
  rw [N4,N4,gW_]
  have e:t+y*s.ev y - (t+x*s.ev x) - (y - x)*(s.ev x+x*(D s).ev x)=x*(s.ev y - s.ev x - (y - x)*(D s).ev x)+(s.ev y - s.ev x)*(y - x):=by grind
  have hd:Ab (y - x) (y - x):=Ab.pos (by grind);rw [e,show (M*K+B)*((y - x)*(y - x))=M*(K*((y - x)*(y - x)))+B*(y - x)*(y - x) by grind];exact (hx.mul (h x y hx hy hl)).add ((hb x y hx hy hl).mul hd)
 exact ⟨0,Rat.le_refl,fun x y hx=>absurd hx.nn hM⟩
def Rb (c d:Rat) (f:QP):Prop:=∃ η,0<η∧((∀ x,c≤x→x≤d→η≤f.ev x) ∨ ∀ x,c≤x→x≤d→f.ev x ≤ -η)
theorem FS {M c d x:Rat} (hc:Ab c M) (hd:Ab d M) (h1:c≤x) (h2:x≤d):Ab x M:=by unfold Ab at *;grind
theorem ey_ (M:Rat) (f:QP) {ε:Rat} (hε:0<ε):∃ δ,0<δ∧∀ c d,Ab c M→Ab d M→c≤d→d - c≤δ→Rb c d f ∨ ∀ x,c≤x→x≤d→Ab (f.ev x) ε:=by
 obtain ⟨K,hK,hk⟩:=lip M f;obtain ⟨δ,hδ,h1⟩:=oK hK (A:=ε*(1 / 4)) (by grind);refine ⟨δ,hδ,fun c d hc hd hl hs=>?_⟩
 have hch:∀ x,c≤x→x≤d→Ab (f.ev x - f.ev c) (ε*(1 / 4)):=fun x h2 h3=>by
  refine (hk c x hc (FS hc hd h2 h3) h2).le (Rat.le_trans (Rat.mul_le_mul_of_nonneg_left (b:=δ) (by grind) hK) h1)
 by_cases a1:ε*(1 / 2)<f.ev c
 ·exact .inl ⟨ε*(1 / 4),by grind,.inl fun x h2 h3=>by have:=hch x h2 h3;unfold Ab at this;grind⟩
 by_cases a2:f.ev c < -(ε*(1 / 2))
 ·exact .inl ⟨ε*(1 / 4),by grind,.inr fun x h2 h3=>by have:=hch x h2 h3;unfold Ab at this;grind⟩
 exact .inr fun x h2 h3=>by have:=hch x h2 h3;unfold Ab at *;grind
inductive Chain:List QP→Prop
 | one (f:QP) (t:Rat) (h:t≠0):Chain [f,C t]
 | step (e f g q:QP) (l:List QP) (s t:Rat) (hs:0<s) (ht:0<t) (h:∀ x,s*e.ev x+t*g.ev x=q.ev x*f.ev x) (hc:Chain (f::g::l)):Chain (e::f::g::l)
theorem Chain.bez {L:List QP} (h:Chain L):∀ f g l,L=f::g::l→∃ u v:QP,∀ x,u.ev x*f.ev x+v.ev x*g.ev x=1:=by
 induction h with
 | one f t ht =>
  intro f' g' l' e
  injection e with e1 e2
  injection e2 with e2 e3
  subst e1 e2;refine ⟨C 0,C t⁻¹,fun x=>?_⟩;rw [ev_C,ev_C,ev_C,Rat.zero_mul,Rat.zero_add,Rat.inv_mul_cancel _ ht]
 | step e f g q l s t hs ht h hc ih =>
  intro f' g' l' e
  injection e with e1 e2
  injection e2 with e2 e3
  subst e1 e2;obtain ⟨u,v,huv⟩:=ih _ _ _ O;refine ⟨C (-(s*t⁻¹))*v,u+C t⁻¹*(v*q),fun x=>?_⟩;rw [ev_mul,ev_C,ev_add,ev_mul,ev_C,ev_mul];have h1:=h x;have h2:=huv x;have h3:t*t⁻¹=1:=Rat.mul_inv_cancel _ (by grind)
  grind
inductive G (c d:Rat):List QP→Prop
 | one {f:QP} (h:Rb c d f):G c d [f]
 | rob {f g:QP} {l:List QP} (h:Rb c d f) (hg:G c d (g::l)):G c d (f::g::l)
 | skip {f g h:QP} {l:List QP} (hf:(∀ x,c≤x→x≤d→0<f.ev x∧h.ev x<0) ∨ ∀ x,c≤x→x≤d→f.ev x<0∧0<h.ev x) (hr:Rb c d f) (hg:G c d (h::l)):G c d (f::g::h::l)
theorem G.head {c d:Rat} {f:QP} {l:List QP} (h:G c d (f::l)):Rb c d f:=by cases h<;>assumption
theorem low (M:Rat) {f g u v:QP} (h:∀ x,u.ev x*f.ev x+v.ev x*g.ev x=1):∃ ε η,0<ε∧0<η∧∀ x,Ab x M→Ab (f.ev x) ε→η≤g.ev x∨g.ev x ≤ -η:=by
 obtain ⟨U,hU,hu⟩:=bd M u;obtain ⟨V,hV,hv⟩:=bd M v;obtain ⟨ε,hε,h1⟩:=oK hU (A:=1 / 2) (by grind);obtain ⟨η,hη,h2⟩:=oK hV (A:=1 / 4) (by grind);refine ⟨ε,η,hε,hη,fun x hx hf=>?_⟩
 by_cases a:η≤g.ev x
 ·exact .inl a
 by_cases b:g.ev x ≤ -η
 ·exact .inr b
 exfalso
 have k1:=((hu x hx).mul hf).le h1;have k2:=((hv x hx).mul (show Ab (g.ev x) η by unfold Ab;grind)).le h2;have:=h x;unfold Ab at k1 k2
 grind
theorem X5 {s a b:Rat} (hs:0<s) (h:s*a≤b):a≤s⁻¹*b:=by
 have h1:=Rat.mul_le_mul_of_nonneg_left h (Rat.le_of_lt (Rat.inv_pos.2 hs));have h2:s*s⁻¹=1:=Rat.mul_inv_cancel _ (by grind)
 have:s⁻¹*(s*a)=a:=by rw [← Rat.mul_assoc,Rat.mul_comm s⁻¹,h2,Rat.one_mul]
 grind
theorem loc (M:Rat) {L:List QP} (hL:Chain L):∀ f g l,L=f::g::l→∀ ε,0<ε→∃ δ,0<δ∧∀ c d,Ab c M→Ab d M→c≤d→d - c≤δ→G c d (f::g::l)∨((∀ x,c≤x→x≤d→Ab (f.ev x) ε)∧G c d (g::l)):=by
 induction hL with
 | one f t ht =>
  intro f' g' l' e ε hε
  injection e with e1 e2
  injection e2 with e2 e3
  subst e1 e2 e3;obtain ⟨δ,hδ,h⟩:=ey_ M f hε;refine ⟨δ,hδ,fun c d hc hd hl hs=>?_⟩
  have hr:Rb c d (C t):=by
   rcases Rat.le_total (a:=0) (b:=t) with h0|h0
   ·exact ⟨t,by grind,.inl fun x _ _=>by rw [ev_C];grind⟩
   exact ⟨-t,by grind,.inr fun x _ _=>by rw [ev_C];grind⟩
  rcases h c d hc hd hl hs with h1|h1
  ·exact .inl (.rob h1 (.one hr))
  exact .inr ⟨h1,.one hr⟩
 | step e f g q l s t hs ht h hc ih =>
  intro e' f' l' eq ε hε
  injection eq with e1 e2
  injection e2 with e2 e3
  subst e1 e2 e3;obtain ⟨u,v,huv⟩:=hc.bez _ _ _ O;obtain ⟨ε0,η,hε0,hη,hlow⟩:=low M huv;obtain ⟨Q,hQ,hq⟩:=bd M q;have htη:=Rat.mul_pos ht hη;obtain ⟨ε1,hε1,h1⟩:=oK hQ (A:=t*η*(1 / 2)) (by grind);obtain ⟨ε2,hε2,l0,l1⟩:=G2 hε0 hε1;obtain ⟨δ1,hδ1,d1⟩:=ih f g l O ε2 hε2;obtain ⟨δ2,hδ2,d2⟩:=ey_ M e hε;obtain ⟨δ,hδ,m1,m2⟩:=G2 hδ1 hδ2;refine ⟨δ,hδ,fun c d hc hd hl hsd=>?_⟩;rcases d1 c d hc hd hl (by grind) with g1|⟨g1,g2⟩
  ·rcases d2 c d hc hd hl (by grind) with k|k
   ·exact .inl (.rob k g1)
   exact .inr ⟨k,g1⟩
  left
  obtain ⟨η',hη',hg⟩:=g2.head;have key:∀ x,c≤x→x≤d→Ab (q.ev x*f.ev x) (t*η*(1 / 2)):=fun x a b =>
   ((hq x (FS hc hd a b)).mul ((g1 x a b).le l1)).le h1
  have hp:0<s⁻¹*(t*η*(1 / 2)):=Rat.mul_pos (Rat.inv_pos.2 hs) (by grind);have hlo:∀ x,c≤x→x≤d→η≤g.ev x∨g.ev x ≤ -η:=fun x a b=>hlow x (FS hc hd a b) ((g1 x a b).le l0);rcases hg with hg|hg
  ·have hge:∀ x,c≤x→x≤d→e.ev x ≤ -(s⁻¹*(t*η*(1 / 2))):=fun x a b=>by
    have h3:η≤g.ev x:=by have:=hlo x a b;have:=hg x a b;grind
    have h4:=Rat.mul_le_mul_of_nonneg_left h3 (Rat.le_of_lt ht);have h5:=key x a b;have h6:=h x;unfold Ab at h5;have h7:=X5 hs (show s*e.ev x ≤ -(t*η*(1 / 2)) by grind)
    grind
   exact .skip (.inr fun x a b=>⟨by have:=hge x a b;grind,by have:=hg x a b;grind⟩) ⟨_,hp,.inr hge⟩ g2
  have hge:∀ x,c≤x→x≤d→s⁻¹*(t*η*(1 / 2))≤e.ev x:=fun x a b=>by
   have h3:g.ev x ≤ -η:=by have:=hlo x a b;have:=hg x a b;grind
   have h4:=Rat.mul_le_mul_of_nonneg_left h3 (Rat.le_of_lt ht);have h5:=key x a b;have h6:=h x;unfold Ab at h5;have h7:=X5 hs (a:=-e.ev x) (show s * -e.ev x ≤ -(t*η*(1 / 2)) by grind)
   grind
  exact .skip (.inl fun x a b=>⟨by have:=hge x a b;grind,by have:=hg x a b;grind⟩) ⟨_,hp,.inl hge⟩ g2
def sg (x:Rat):Int:=if 0<x then 1 else if x<0 then -1 else 0
theorem GW {x:Rat} (h:0<x):sg x=1:=if_pos h
theorem GV {x:Rat} (h:x<0):sg x = -1:=by unfold sg;rw [if_neg (by grind),if_pos h]
theorem cu_:sg 0=0:=by unfold sg;rw [if_neg (by grind),if_neg (by grind)]
theorem sg_three (x:Rat):sg x=1∧0<x∨sg x = -1∧x<0∨sg x=0∧x=0:=by
 by_cases a:0<x
 ·exact .inl ⟨GW a,a⟩
 by_cases b:x<0
 ·exact .inr (.inl ⟨GV b,b⟩)
 have:x=0:=by grind
 subst this;exact .inr (.inr ⟨cu_,rfl⟩)
def vr:Int→List Int→Nat
 | _,[]=>0
 | s,x::l=>if x=0 then vr s l else (if s≠0∧x≠s then 1 else 0)+vr x l
noncomputable def sgs (l:List QP) (x:Rat):List Int:=l.map fun f=>sg (f.ev x)
theorem Rb.sg {c d:Rat} {f:QP} (h:Rb c d f):∃ σ:Int,(σ=1∨σ = -1)∧∀ x,c≤x→x≤d→sg (f.ev x)=σ:=by
 obtain ⟨η,hη,h|h⟩:=h
 ·exact ⟨1,.inl O,fun x a b=>GW (by have:=h x a b;grind)⟩
 exact ⟨-1,.inr O,fun x a b=>GV (by have:=h x a b;grind)⟩
theorem dy_ {σ γ:Int} (hσ:σ=1∨σ = -1) (hγ:γ=1∨γ = -1∨γ=0) (s:Int) (t:List Int):vr s (σ::γ :: -σ::t)=(if s≠0∧σ≠s then 1 else 0)+vr σ (-σ::t):=by
 rcases hσ with rfl|rfl<;>rcases hγ with rfl|rfl|rfl<;>simp [vr]
theorem as_ (x:Rat):sg x=1∨sg x = -1∨sg x=0:=by rcases sg_three x with h|h|h<;>simp [h.1]
theorem G.vr {c d:Rat} {L:List QP} (h:G c d L):∀ x y,c≤x→x≤d→c≤y→y≤d→∀ s,vr s (sgs L x)=vr s (sgs L y):=by
 induction h with
 | @one f h =>
  intro x y a b a' b' s;obtain ⟨σ,_,hs⟩:=h.sg;unfold sgs;rw [List.map_cons,List.map_cons,hs x a b,hs y a' b'];rfl
 | @rob f g l h hg ih =>
  intro x y a b a' b' s;obtain ⟨σ,h0,hs⟩:=h.sg;have e:∀ z,sgs (f::g::l) z=QP.sg (f.ev z)::sgs (g::l) z:=fun z=>rfl;rw [e,e,hs x a b,hs y a' b',QP.vr,QP.vr,ih x y a b a' b' s,ih x y a b a' b' σ]
 | @skip f g h l hf hr hg ih =>
  intro x y a b a' b' s;obtain ⟨σ,h0,hs⟩:=hr.sg;have e:∀ z,sgs (f::g::h::l) z=QP.sg (f.ev z)::QP.sg (g.ev z)::QP.sg (h.ev z)::sgs l z:=fun z=>rfl;have e':∀ z,sgs (h::l) z=QP.sg (h.ev z)::sgs l z:=fun z=>rfl
  have hm:∀ z,c≤z→z≤d→QP.sg (h.ev z) = -σ:=fun z p q=>by
   have h1:=hs z p q;rcases hf with hf|hf
   ·rw [GW (hf z p q).1] at h1
    rw [GV (hf z p q).2,← h1]
   rw [GV (hf z p q).1] at h1;rw [GW (hf z p q).2,← h1];rfl
  have i:=ih x y a b a' b' σ;rw [e',e',hm x a b,hm y a' b'] at i;rw [e,e,hs x a b,hs y a' b',hm x a b,hm y a' b',dy_ h0 (as_ _),dy_ h0 (as_ _),i]
noncomputable def V (L:List QP) (x:Rat):Nat:=vr 0 (sgs L x)
def Loc (f:QP) (L:List QP) (c d:Rat):Prop :=
 (Rb c d f∧V L c=V L d)∨(∃ W,(∀ x y,c≤x→x<y→y≤d→f.ev x<f.ev y)∧∀ x,c≤x→x≤d→V L x=(if f.ev x<0 then 1 else 0)+W) ∨
  ∃ W,(∀ x y,c≤x→x<y→y≤d→f.ev y<f.ev x)∧∀ x,c≤x→x≤d→V L x=(if 0<f.ev x then 1 else 0)+W
theorem bT_ {f g:QP} {l:List QP} (hc:Chain (f::g::l)) {κ:Rat} (hκ:0<κ) (hD:∀ x,g.ev x=κ*(D f).ev x) (M:Rat) :
  ∃ δ,0<δ∧∀ c d,Ab c M→Ab d M→c≤d→d - c≤δ→Loc f (f::g::l) c d:=by
 obtain ⟨u,v,huv⟩:=hc.bez _ _ _ O;obtain ⟨ε,η,hε,hη,hlow⟩:=low M huv;obtain ⟨δ1,hδ1,d1⟩:=loc M hc _ _ _ O ε hε;obtain ⟨K,hK,hk⟩:=tay M f;have hi:0<κ⁻¹:=Rat.inv_pos.2 hκ;have hiη:=Rat.mul_pos hi hη;obtain ⟨δ2,hδ2,d2⟩:=oK hK (A:=κ⁻¹*η*(1 / 2)) (by grind);obtain ⟨δ,hδ,m1,m2⟩:=G2 hδ1 hδ2;refine ⟨δ,hδ,fun c d hc hd hl hs=>?_⟩;have hvx:∀ x,V (f::g::l) x=vr 0 (sg (f.ev x)::sgs (g::l) x):=fun x=>rfl;rcases d1 c d hc hd hl (by grind) with g1|⟨g1,g2⟩
 ·exact .inl ⟨g1.head,g1.vr c d Rat.le_refl hl hl Rat.le_refl 0⟩
 right
 have hlo:∀ x,c≤x→x≤d→η≤g.ev x∨g.ev x ≤ -η:=fun x a b=>hlow x (FS hc hd a b) (g1 x a b)
 have hst:∀ x y,c≤x→x<y→y≤d→Ab (f.ev y - f.ev x - (y - x)*(D f).ev x) ((y - x)*(κ⁻¹*η*(1 / 2))):=fun x y a b e=>by
  refine (hk x y (FS hc hd a (by grind)) (FS hc hd (by grind) e) (by grind)).le ?_;have h1:K*(y - x)≤κ⁻¹*η*(1 / 2):=Rat.le_trans (Rat.mul_le_mul_of_nonneg_left (b:=δ2) (by grind) hK) d2;have h2:=Rat.mul_le_mul_of_nonneg_left h1 (show (0:Rat)≤y - x by grind)
  grind
 have hκκ:κ*κ⁻¹=1:=Rat.mul_inv_cancel _ (by grind)
 have hDe:∀ x,(D f).ev x=κ⁻¹*g.ev x:=fun x=>by rw [hD x,← Rat.mul_assoc,Rat.mul_comm κ⁻¹,hκκ,Rat.one_mul]
 have key:=g2.vr;obtain ⟨η',hη',hg|hg⟩:=g2.head
 ·left
  refine ⟨vr 1 (sgs l c),fun x y a b e=>?_,fun x a b=>?_⟩
  ·have h3:η≤g.ev x:=by have:=hlo x a (by grind);have:=hg x a (by grind);grind
   have h4:=Rat.mul_le_mul_of_nonneg_left h3 (Rat.le_of_lt hi);have h5:=Rat.mul_le_mul_of_nonneg_left h4 (show (0:Rat)≤y - x by grind);have h6:=hst x y a b e;have h7:=Rat.mul_pos (show (0:Rat)<y - x by grind) hiη;rw [hDe] at h6;unfold Ab at h6
   grind
  have e1:∀ z,c≤z→z≤d→sgs (g::l) z=1::sgs l z:=fun z p q=>by
   show sg (g.ev z)::sgs l z=_
   rw [GW (by have:=hg z p q;grind)]
  have k:=key x c a b Rat.le_refl hl 0;rw [e1 x a b,e1 c Rat.le_refl hl] at k
  have k':vr 1 (sgs l x)=vr 1 (sgs l c):=by simpa [vr] using k
  rw [hvx,e1 x a b];rcases sg_three (f.ev x) with h|h|h
  ·rw [h.1,if_neg (by grind)];simp [vr,k']
  ·rw [h.1,if_pos h.2];simp [vr,k']
  rw [h.1,if_neg (by grind)];simp [vr,k']
 right
 refine ⟨vr (-1) (sgs l c),fun x y a b e=>?_,fun x a b=>?_⟩
 ·have h3:g.ev x ≤ -η:=by have:=hlo x a (by grind);have:=hg x a (by grind);grind
  have h4:=Rat.mul_le_mul_of_nonneg_left h3 (Rat.le_of_lt hi);have h5:=Rat.mul_le_mul_of_nonneg_left h4 (show (0:Rat)≤y - x by grind);have h6:=hst x y a b e;have h7:=Rat.mul_pos (show (0:Rat)<y - x by grind) hiη;rw [hDe] at h6;unfold Ab at h6
  grind
 have e1:∀ z,c≤z→z≤d→sgs (g::l) z = -1::sgs l z:=fun z p q=>by
  show sg (g.ev z)::sgs l z=_
  rw [GV (by have:=hg z p q;grind)]
 have k:=key x c a b Rat.le_refl hl 0;rw [e1 x a b,e1 c Rat.le_refl hl] at k
 have k':vr (-1) (sgs l x)=vr (-1) (sgs l c):=by simpa [vr] using k
 rw [hvx,e1 x a b];rcases sg_three (f.ev x) with h|h|h
 ·rw [h.1,if_pos h.2];simp [vr,k']
 ·rw [h.1,if_neg (by grind)];simp [vr,k']
 rw [h.1,if_neg (by grind)];simp [vr,k']
theorem eq_ (x:Rat):∃ N:Nat,x≤(N:Rat):=by
 refine ⟨x.ceil.toNat,Rat.le_trans Rat.le_ceil ?_⟩
 have h:x.ceil≤(x.ceil.toNat:Int):=by omega
 have:=Rat.intCast_le_intCast.2 h
 rwa [Rat.intCast_natCast] at this
theorem sub {P:Rat→Rat→Prop} {a b δ:Rat} (hδ:0<δ) (h1:∀ c d,a≤c→c<d→d≤b→d - c≤δ→P c d) (h2:∀ c m d,a≤c→c<m→m<d→d≤b→P c m→P m d→P c d) (hab:a<b):P a b:=by
 have h:∀ n:Nat,∀ c d,a≤c→c<d→d≤b→d - c≤δ*((2 ^ n:Nat):Rat)→P c d:=by
  intro n
  induction n with
  | zero=>intro c d a1 a2 a3 a4;exact h1 c d a1 a2 a3 (by rw [show ((2 ^ 0:Nat):Rat)=1 from rfl,Rat.mul_one] at a4;exact a4)
  | succ n ih =>
   intro c d a1 a2 a3 a4
   have e:((2 ^ (n+1):Nat):Rat)=((2 ^ n:Nat):Rat)*2:=by rw [Nat.pow_succ,Rat.natCast_mul];rfl
   rw [e] at a4;exact h2 c ((c+d)*(1 / 2)) d a1 (by grind) (by grind) a3 (ih _ _ a1 (by grind) (by grind) (by grind)) (ih _ _ (by grind) (by grind) a3 (by grind))
 obtain ⟨N,hN⟩:=eq_ ((b - a)*δ⁻¹);refine h N a b Rat.le_refl hab Rat.le_refl ?_;have h3:((N:Nat):Rat)≤((2 ^ N:Nat):Rat):=Rat.natCast_le_natCast.2 (Nat.le_of_lt Nat.lt_two_pow_self);have h4:=Rat.mul_le_mul_of_nonneg_left (Rat.le_trans hN h3) (Rat.le_of_lt hδ);have h5:δ*δ⁻¹=1:=Rat.mul_inv_cancel _ (by grind)
 have e:δ*((b - a)*δ⁻¹)=b - a:=by rw [Rat.mul_comm (b - a),← Rat.mul_assoc,h5,Rat.one_mul]
 rw [e] at h4;exact h4
theorem MN {f g:QP} {l:List QP} (hc:Chain (f::g::l)) {κ:Rat} (hκ:0<κ) (hD:∀ x,g.ev x=κ*(D f).ev x) {P:Rat→Rat→Prop} (h1:∀ c d,c<d→Loc f (f::g::l) c d→P c d) (h2:∀ c m d,c<m→m<d→P c m→P m d→P c d) {a b:Rat} (hab:a<b):P a b:=by
 obtain ⟨A,hA,ha⟩:=Ab.self a;obtain ⟨B,hB,hb⟩:=Ab.self b;obtain ⟨δ,hδ,h⟩:=bT_ hc hκ hD (A+B);refine sub hδ (fun c d a1 a2 a3 a4=>h1 c d a2 (h c d ?_ ?_ (by grind) a4)) (fun c m d _ a2 a3 _=>h2 c m d a2 a3) hab
 ·unfold Ab at *;grind
 unfold Ab at *;grind
theorem Rb.join {c m d:Rat} {f:QP} (h1:c≤m) (h2:m≤d) (a:Rb c m f) (b:Rb m d f):Rb c d f:=by
 obtain ⟨x,hx,a⟩:=a;obtain ⟨y,hy,b⟩:=b;obtain ⟨z,hz,zx,zy⟩:=G2 hx hy;rcases a with a|a<;>rcases b with b|b
 ·exact ⟨z,hz,.inl fun t p q=>(Rat.le_total (a:=t) (b:=m)).elim (fun r=>by have:=a t p r;grind) (fun r=>by have:=b t r q;grind)⟩
 ·exfalso;have:=a m h1 Rat.le_refl;have:=b m Rat.le_refl h2;grind
 ·exfalso;have:=a m h1 Rat.le_refl;have:=b m Rat.le_refl h2;grind
 exact ⟨z,hz,.inr fun t p q=>(Rat.le_total (a:=t) (b:=m)).elim (fun r=>by have:=a t p r;grind) (fun r=>by have:=b t r q;grind)⟩
theorem dt_ {f g:QP} {l:List QP} (hc:Chain (f::g::l)) {κ:Rat} (hκ:0<κ) (hD:∀ x,g.ev x=κ*(D f).ev x) {a b:Rat} (hab:a<b) :
  V (f::g::l) b≤V (f::g::l) a∧(V (f::g::l) a=V (f::g::l) b→f.ev b≠0∧(f.ev a≠0→Rb a b f)):=by
 refine MN hc hκ hD (P:=fun a b=>V (f::g::l) b≤V (f::g::l) a∧(V (f::g::l) a=V (f::g::l) b→f.ev b≠0∧(f.ev a≠0→Rb a b f))) (fun c d hl h=>?_) (fun c m d h1 h2 p q=>?_) hab
 ·have hl':c≤d:=by grind
  rcases h with ⟨h1,h2⟩|⟨W,h1,h2⟩|⟨W,h1,h2⟩
  ·refine ⟨by omega,fun _=>⟨?_,fun _=>h1⟩⟩
   obtain ⟨η,hη,h|h⟩:=h1
   ·have:=h d hl' Rat.le_refl;grind
   have:=h d hl' Rat.le_refl;grind
  ·have hcd:=h1 c d Rat.le_refl hl Rat.le_refl
   have hx:∀ x,c≤x→x≤d→f.ev c≤f.ev x∧f.ev x≤f.ev d:=fun x p q=>by
    constructor
    ·by_cases e:c=x
     ·subst e;exact Rat.le_refl
     exact Rat.le_of_lt (h1 c x Rat.le_refl (by grind) q)
    by_cases e:x=d
    ·subst e;exact Rat.le_refl
    exact Rat.le_of_lt (h1 x d p (by grind) Rat.le_refl)
   rw [h2 c Rat.le_refl hl',h2 d hl' Rat.le_refl]
   by_cases k1:f.ev d<0
   ·rw [if_pos k1,if_pos (by grind)]
    exact ⟨Nat.le_refl _,fun _=>⟨by grind,fun _=>⟨-f.ev d,by grind,.inr fun x p q=>by have:=hx x p q;grind⟩⟩⟩
   rw [if_neg k1]
   by_cases k2:f.ev c<0
   ·rw [if_pos k2];exact ⟨by omega,fun e=>by omega⟩
   rw [if_neg k2];exact ⟨Nat.le_refl _,fun _=>⟨by grind,fun k3=>⟨f.ev c,by grind,.inl fun x p q=>(hx x p q).1⟩⟩⟩
  have hcd:=h1 c d Rat.le_refl hl Rat.le_refl
  have hx:∀ x,c≤x→x≤d→f.ev x≤f.ev c∧f.ev d≤f.ev x:=fun x p q=>by
   constructor
   ·by_cases e:c=x
    ·subst e;exact Rat.le_refl
    exact Rat.le_of_lt (h1 c x Rat.le_refl (by grind) q)
   by_cases e:x=d
   ·subst e;exact Rat.le_refl
   exact Rat.le_of_lt (h1 x d p (by grind) Rat.le_refl)
  rw [h2 c Rat.le_refl hl',h2 d hl' Rat.le_refl]
  by_cases k1:0<f.ev d
  ·rw [if_pos k1,if_pos (by grind)]
   exact ⟨Nat.le_refl _,fun _=>⟨by grind,fun _=>⟨f.ev d,by grind,.inl fun x p q=>by have:=hx x p q;grind⟩⟩⟩
  rw [if_neg k1]
  by_cases k2:0<f.ev c
  ·rw [if_pos k2];exact ⟨by omega,fun e=>by omega⟩
  rw [if_neg k2];exact ⟨Nat.le_refl _,fun _=>⟨by grind,fun k3=>⟨-f.ev c,by grind,.inr fun x p q=>by have:=(hx x p q).1;grind⟩⟩⟩
 obtain ⟨p1,p2⟩:=p;obtain ⟨q1,q2⟩:=q;refine ⟨by omega,fun e=>?_⟩;have r1:=p2 (by omega);have r2:=q2 (by omega);exact ⟨r2.1,fun h=>(r1.2 h).join (by grind) (by grind) (r2.2 r1.1)⟩
def Aw (c d:Rat) (f:QP):Prop:=∃ θ,0<θ∧∀ x,c≤x→x≤d→θ≤f.ev x∨f.ev x ≤ -θ
section
variable {c d:Rat} {f g p w:QP}
theorem Rb.aw (h:Rb c d f):Aw c d f:=by
 obtain ⟨η,hη,h|h⟩:=h
 ·exact ⟨η,hη,fun x a b=>.inl (h x a b)⟩
 exact ⟨η,hη,fun x a b=>.inr (h x a b)⟩
theorem Aw.mul (h:Aw c d f) (k:Aw c d g):Aw c d (f*g):=by
 obtain ⟨s,hs,h⟩:=h;obtain ⟨t,ht,k⟩:=k;refine ⟨s*t,Rat.mul_pos hs ht,fun x a b=>?_⟩;rw [ev_mul];rcases h x a b with h|h<;>rcases k x a b with k|k
 ·left;exact ET h k (by grind) (by grind)
 ·right
  have:=ET h (show t ≤ -g.ev x by grind) (by grind) (by grind)
  grind
 ·right
  have:=ET (show s ≤ -f.ev x by grind) k (by grind) (by grind)
  grind
 left
 have:=ET (show s ≤ -f.ev x by grind) (show t ≤ -g.ev x by grind) (by grind) (by grind)
 grind
theorem Aw.left (h:Aw c d (p*w)):Aw c d p:=by
 obtain ⟨θ,hθ,h⟩:=h;obtain ⟨A,hA,ha⟩:=Ab.self c;obtain ⟨B,hB,hb⟩:=Ab.self d;obtain ⟨W,hW,hw⟩:=bd (A+B) w;obtain ⟨η,hη,h1⟩:=oK hW (A:=θ*(1 / 2)) (by grind);refine ⟨η,hη,fun x a b=>?_⟩
 by_cases k1:η≤p.ev x
 ·exact .inl k1
 by_cases k2:p.ev x ≤ -η
 ·exact .inr k2
 exfalso
 have k3:=(hw x (by unfold Ab at *;grind)).mul (show Ab (p.ev x) η by unfold Ab;grind);have k4:=h x a b;rw [ev_mul] at k4;unfold Ab at k3
 grind
theorem Aw.rb (h:Aw c d p) (hl:c≤d):Rb c d p:=by
 obtain ⟨θ,hθ,h⟩:=h
 by_cases hcd:c=d
 ·subst hcd
  rcases h c Rat.le_refl Rat.le_refl with k|k
  ·exact ⟨θ,hθ,.inl fun x a b=>by rw [show x=c by grind];exact k⟩
  exact ⟨θ,hθ,.inr fun x a b=>by rw [show x=c by grind];exact k⟩
 obtain ⟨A,hA,ha⟩:=Ab.self c;obtain ⟨B,hB,hb⟩:=Ab.self d;obtain ⟨δ,hδ,hn⟩:=ey_ (A+B) p (ε:=θ*(1 / 2)) (by grind);refine sub (P:=fun a b=>Rb a b p) hδ (fun a b h1 h2 h3 h4=>?_) (fun a m b _ h1 h2 _ p1 p2=>p1.join (by grind) (by grind) p2) (show c<d by grind);rcases hn a b (by unfold Ab at *;grind) (by unfold Ab at *;grind) (by grind) h4 with k|k
 ·exact k
 exfalso
 have k1:=k a Rat.le_refl (by grind);have k2:=h a h1 (by grind);unfold Ab at k1
 grind
theorem Aw.pow (h:Aw c d f):∀ n,Aw c d (pow f n)
 | 0=>⟨1,by decide,fun x _ _=>.inl (by show (1:Rat)≤(C 1).ev x;rw [ev_C];exact Rat.le_refl)⟩
 | n+1=>h.mul (Aw.pow h n)
theorem dl_ (h:Rb c d f) (hl:c≤d) {n:Nat} (hd:Dv p (QP.pow f n)):Rb c d p:=by
 obtain ⟨w,hw⟩:=hd;have k:=h.aw.pow n;rw [hw] at k;exact k.left.rb hl
theorem eV_ {x:Rat} (h:f.ev x≠0):Rb x x f:=by
 rcases sg_three (f.ev x) with k|k|k
 ·exact ⟨f.ev x,k.2,.inl fun y a b=>by rw [show y=x by grind];exact Rat.le_refl⟩
 ·exact ⟨-f.ev x,by have:=k.2;grind,.inr fun y a b=>by rw [show y=x by grind];grind⟩
 exact absurd k.2 h
theorem Rb.ne (h:Rb c d f) {x:Rat} (a:c≤x) (b:x≤d):f.ev x≠0:=by
 obtain ⟨η,hη,h|h⟩:=h
 ·have:=h x a b;grind
 have:=h x a b;grind
theorem Rb.pos (h:Rb c d f) {x y:Rat} (a:c≤x) (b:x≤d) (a':c≤y) (b':y≤d) (hp:0<f.ev x):0<f.ev y:=by
 obtain ⟨η,hη,h|h⟩:=h
 ·have:=h y a' b';grind
 have:=h x a b;grind
end
def NN (p:QP) (a b:Rat):Prop:=∀ x,a≤x→x≤b→0≤p.ev x
theorem NN.halves {p:QP} {a m b:Rat} (h1:a≤m) (h2:m≤b):NN p a b ↔ NN p a m∧NN p m b :=
 ⟨fun h=>⟨fun x a b=>h x a (by grind),fun x a b=>h x (by grind) b⟩,fun h x a b=>by
  rcases Rat.le_total (a:=x) (b:=m) with k|k
  ·exact h.1 x a k
  exact h.2 x k b⟩
structure Sf (p f:QP) (L:List QP):Prop where
 anti:∀ a b,a≤b→V L b≤V L a
 eq:∀ a b,a<b→V L a=V L b→f.ev b≠0∧(f.ev a≠0→Rb a b f)
 dv:∃ n,Dv p (pow f n)
 z:∀ x,f.ev x=0→p.ev x=0
theorem Sf.of {p f g:QP} {l:List QP} (hc:Chain (f::g::l)) {κ:Rat} (hκ:0<κ) (hD:∀ x,g.ev x=κ*(D f).ev x) {n:Nat} (hd:Dv p (pow f n)) (hf:Dv f p):Sf p f (f::g::l) where
 anti a b h:=by
  by_cases e:a=b
  ·subst e;exact Nat.le_refl _
  exact (dt_ hc hκ hD (show a<b by grind)).1
 eq a b h:=(dt_ hc hκ hD h).2
 dv:=⟨n,hd⟩
 z x h:=by obtain ⟨w,rfl⟩:=hf;rw [ev_mul,h,Rat.zero_mul]
theorem V_one (f:QP) (x:Rat):V [f] x=0:=by
 show vr 0 [sg (f.ev x)]=0
 rcases as_ (f.ev x) with h|h|h<;>rw [h]<;>simp [vr]
theorem Sf.one {p:QP} {t:Rat} (ht:t≠0) {n:Nat} (hd:Dv p (pow (C t) n)):Sf p (C t) [C t] where
 anti a b h:=by rw [V_one,V_one];exact Nat.le_refl _
 eq a b h _:=⟨by rw [ev_C];exact ht,fun _=>by
  rcases Rat.le_total (a:=0) (b:=t) with h0|h0
  ·exact ⟨t,by grind,.inl fun x _ _=>by rw [ev_C];grind⟩
  exact ⟨-t,by grind,.inr fun x _ _=>by rw [ev_C];grind⟩⟩
 dv:=⟨n,hd⟩
 z x h:=by rw [ev_C] at h;exact absurd h ht
section
variable {p f:QP} {L:List QP} {a b m:Rat}
theorem Sf.ne (h:Sf p f L) {x:Rat} (hx:f.ev x≠0):p.ev x≠0:=by
 obtain ⟨n,hd⟩:=h.dv;exact (dl_ (eV_ hx) Rat.le_refl hd).ne Rat.le_refl Rat.le_refl
theorem Sf.pos (h:Sf p f L) (hab:a<b) (hV:V L a=V L b):p.ev b≠0∧(p.ev a≠0→Rb a b p):=by
 obtain ⟨n,hd⟩:=h.dv;obtain ⟨h1,h2⟩:=h.eq a b hab hV;exact ⟨h.ne h1,fun k=>dl_ (h2 fun e=>k (h.z a e)) (by grind) hd⟩
theorem Sf.nn0 (h:Sf p f L) (hab:a<b) (hV:V L a=V L b) (pa:0≤p.ev a) (pb:0≤p.ev b):NN p a b:=fun x ax xb=>by
 by_cases e1:x=a
 ·rw [e1];exact pa
 by_cases e2:x=b
 ·rw [e2];exact pb
 have v1:=h.anti a x ax;have v2:=h.anti x b xb;have h1:=(h.pos (show a<x by grind) (by omega)).1;have h2:=h.pos (show x<b by grind) (by omega);have h3:=(h2.2 h1).pos xb Rat.le_refl Rat.le_refl xb (by have:=h2.1;grind)
 grind
theorem Sf.nn0r (h:Sf p f L) (am:a<m) (mb:m<b) (hV:V L a=V L b+1) (pa:0≤p.ev a) (pm:0≤p.ev m) (pb:p.ev b=0):NN p a b:=fun x ax xb=>by
 by_cases e1:x=a
 ·rw [e1];exact pa
 by_cases e2:x=b
 ·rw [e2,pb];exact Rat.le_refl
 have key:∀ y,a<y→y<b→V L y=V L a∧p.ev y≠0:=fun y ay yb=>by
  have v1:=h.anti a y (by grind);have v2:=h.anti y b (by grind);have v3:V L y≠V L b:=fun e=>(h.pos yb e).1 pb;exact ⟨by omega,(h.pos ay (by omega)).1⟩
 have kx:=key x (by grind) (by grind);have km:=key m am mb
 have pm':0<p.ev m:=by have:=km.2;grind
 by_cases e3:x=m
 ·rw [e3];exact pm
 rcases Rat.le_total (a:=x) (b:=m) with k|k
 ·have h3:=((h.pos (show x<m by grind) (by rw [kx.1,km.1])).2 kx.2).pos k Rat.le_refl Rat.le_refl k pm'
  grind
 have h3:=((h.pos (show m<x by grind) (by rw [kx.1,km.1])).2 km.2).pos Rat.le_refl k k Rat.le_refl pm'
 grind
theorem Sf.nn1 (h:Sf p f L) (hV:V L a=V L b+1) (pa:0<p.ev a) (pb:0<p.ev b):NN p a b:=fun x ax xb=>by
 by_cases e1:x=a
 ·rw [e1];grind
 by_cases e2:x=b
 ·rw [e2];grind
 have v1:=h.anti a x ax;have v2:=h.anti x b xb
 by_cases e3:V L a=V L x
 ·have h3:=((h.pos (show a<x by grind) e3).2 (by grind)).pos Rat.le_refl ax ax Rat.le_refl pa
  grind
 by_cases e4:p.ev x=0
 ·rw [e4];exact Rat.le_refl
 have h3:=((h.pos (show x<b by grind) (by omega)).2 e4).pos xb Rat.le_refl Rat.le_refl xb pb
 grind
end
end QP
end Go.Num
