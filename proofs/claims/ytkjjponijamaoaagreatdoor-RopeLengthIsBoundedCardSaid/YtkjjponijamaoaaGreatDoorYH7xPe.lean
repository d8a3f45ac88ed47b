/- Lemmas: what they ask stands in their statements. -/
import Derived.Test.YtkjjponijamaoaaGreatDoorYH7xGD
import Derived.Test.YtkjjponijamaoaaGreatDoorYPV
set_option linter.unusedSimpArgs false
set_option linter.unusedVariables false
set_option maxHeartbeats 8000000
set_option maxRecDepth 20000

namespace Go.Num
open Go Go.Kn
theorem gD_ {x:I} (h:x.1.good=true):E x.dec=x:=Subtype.ext (T9 x.2 h)
theorem ee_ {x:I} (h:x.1.good=true):∃ v:Int,gR v∧x=E (Z.of v):=by
  have h1:=fF x.2 h;refine ⟨_,x.dec.h _ h1,?_⟩;rw [← Z.eq_of h1];exact (gD_ h).symm
theorem HO {v:Int} (h:gR v):(E (Z.of v)).1.good=true:=by
  show (Z.of v).enc.good=true
  rw [Z.enc_good,Z.of_some h];rfl
theorem dC_ {v:Int} (h:gR v):(E (Z.of v)).1.bad=false:=by
  have:=HO h;unfold R.good at this;simp only [Bool.and_eq_true,Bool.not_eq_true'] at this;exact this.1
theorem oj_:(E Z.bad).1.bad=true:=rfl
theorem ct_:(E Z.bad).1.good=false:=rfl
theorem f8_ {v:Int} (h:gR v):(Z.of v).sign=v.sign:=by unfold Z.sign;rw [Z.of_some h]
theorem tT {v:Int} (h:gR v):(Z.signW (Z.of v)).1=v.sign:=f8_ h
theorem EA {u v:Int} (hu:gR u) (hv:gR v):Z.gcd (Z.of u) (Z.of v)=Z.of (Int.gcd u v):=by rw [Z.gcd,gZ (Z.of_some hu) (Z.of_some hv)]
theorem HV {u v:Int} (hu:gR u) (hv:gR v) (h:v≠0):Z.quo (Z.of u) (Z.of v)=Z.of (u.fdiv v):=by rw [Z.quo,gZ (Z.of_some hu) (Z.of_some hv),if_neg h]
theorem qV {u v:Int} (hu:gR u) (hv:gR v):Z.mul (Z.of u) (Z.of v)=Z.of (u * v):=by rw [Z.mul,gZ (Z.of_some hu) (Z.of_some hv)]
theorem E8 {u v:Int} (hu:gR u) (hv:gR v):Z.add (Z.of u) (Z.of v)=Z.of (u+v):=by rw [Z.add,gZ (Z.of_some hu) (Z.of_some hv)]
theorem eo_ {u:Int} (hu:gR u):Z.neg (Z.of u)=Z.of (-u):=by rw [Z.neg,rB (Z.of_some hu)]
theorem B1:gR 1:=by decide
theorem B0:gR 0:=by decide
theorem VZ {u v:Int} (hv:gR v) (h:v≠0):gR (Int.gcd u v:Nat):=by
  have:Int.gcd u v≤v.natAbs:=Nat.le_of_dvd oo_ (Int.gcd_dvd_natAbs_right u v)
  show ((Int.gcd u v:Nat):Int).natAbs<_
  rw [Int.natAbs_natCast];exact Nat.lt_of_le_of_lt this hv
theorem WK {u v:Int} (hu:gR u) (hv:gR v) (h:Z.of u=Z.of v):u=v:=by
  have:=congrArg Z.o h;rw [Z.of_some hu,Z.of_some hv] at this;exact Option.some.inj this
theorem j3_:F_skewbackref04_one=E (Z.of 1):=rfl
theorem rH_:F_ratio_one=E (Z.of 1):=rfl
theorem dr_:AI=pR:=rfl
theorem jq_ (a:I):pP a=a.1.good:=rfl
theorem pA (a:Rt):cE a=aH a:=by
  unfold cE aH;rw [jq_,jq_,j3_,rH_]
  cases a.n.1.good <;> cases a.d.1.good <;> rfl
theorem QC (a b:I):dJ a b=cJ a b:=rfl
theorem IA (a:W):dK a=aE a:=rfl
theorem n8_ (a:Rt):wS a=lA a:=by unfold wS lA;rw [pA,dr_]
theorem PG (a b:Rt):eZ a b=cT a b:=by unfold eZ cT;rw [pA,pA,dr_];rfl
theorem JZ (a b:Rt):fJ a b=cO a b:=by unfold fJ cO;rw [n8_,PG]
theorem qK_ {a:Rt}:aH a=true ↔ ∃ n d,Rt.Is a n d:=by
  unfold aH
  constructor
  · intro h
    cases gn:a.n.1.good <;> cases gd:a.d.1.good <;> simp only [gn,gd,Bool.not_true,Bool.not_false,Bool.or_true,Bool.true_or,Bool.or_false,cond_true,cond_false,Bool.false_eq_true] at h
    obtain ⟨n,hn,en⟩:=ee_ gn;obtain ⟨d,hd,ed⟩:=ee_ gd;rw [en,ed] at h;simp only [eD,Bool.and_eq_true,decide_eq_true_eq,tT hd] at h;obtain ⟨h1,h2⟩:=h;have hp:0<d:=Int.sign_pos_iff.1 h1;rw [EA hn hd,j3_] at h2;have h3:=WK (VZ hd oo_) B1 (bz_ h2);exact ⟨n,d,en,ed,hn,hd,hp,by exact_mod_cast h3⟩
  rintro ⟨n,d,h⟩;rw [h.en,h.ed,HO h.hn,HO h.hd];simp only [Bool.not_true,Bool.or_false,cond_false,eD,Bool.and_eq_true,decide_eq_true_eq,tT h.hd];refine ⟨Int.sign_pos_iff.2 h.pos,?_⟩;rw [EA h.hn h.hd,h.cop];rfl
theorem OG (v:Int):v.fdiv 1=v:=by rw [Int.fdiv_eq_ediv_of_nonneg _ dd_];exact Int.ediv_one v
theorem UG {n d:Int} (hn:gR n) (hd:gR d) (hp:0<d) (hc:Int.gcd n d=1):cJ (E (Z.of n)) (E (Z.of d))=⟨E (Z.of n),E (Z.of d)⟩:=by
  unfold cJ
  have h1:((Z.signW (E (Z.of d)).dec).1==0)=false:=by rw [eD,tT hd,Int.sign_eq_one_of_pos hp];rfl
  have h2:decide ((Z.signW (E (Z.of d)).dec).1<0)=false:=by rw [eD,tT hd,Int.sign_eq_one_of_pos hp];rfl
  rw [HO hn,HO hd,h1,h2,eD,eD,EA hn hd,hc];simp only [Bool.not_true,Bool.or_false,cond_false];rw [show ((1:Nat):Int)=1 from rfl,HV hn B1 dd_,HV hd B1 dd_,OG,OG]
theorem R2 (b:I):cJ (E Z.bad) b=pR:=by unfold cJ;rw [ct_];rfl
theorem R3 (a:I):cJ a (E Z.bad)=pR:=by
  unfold cJ;rw [ct_]
  cases a.1.good <;> rfl
theorem QT {u g:Int} (hg:0<g):u.fdiv g=u / g:=Int.fdiv_eq_ediv_of_nonneg _ (Int.le_of_lt hg)
theorem m9_ {u g:Int} (hu:gR u) (hg:0<g) (hd:g ∣ u):gR (u / g):=by
  obtain ⟨k,rfl⟩:=hd;rw [Int.mul_ediv_cancel_left _ oo_];refine Nat.lt_of_le_of_lt ?_ hu;rw [Int.natAbs_mul];exact Nat.le_mul_of_pos_left _ oo_
theorem cD_ {n d:Int} (hn:gR n) (hd:gR d) (hp:0<d) :
    cJ (E (Z.of n)) (E (Z.of d))=⟨E (Z.of (n / (Int.gcd n d:Nat))),E (Z.of (d / (Int.gcd n d:Nat)))⟩:=by
  unfold cJ
  have h1:((Z.signW (E (Z.of d)).dec).1==0)=false:=by rw [eD,tT hd,Int.sign_eq_one_of_pos hp];rfl
  have h2:decide ((Z.signW (E (Z.of d)).dec).1<0)=false:=by rw [eD,tT hd,Int.sign_eq_one_of_pos hp];rfl
  have hg:0<((Int.gcd n d:Nat):Int):=by
    have:=Int.gcd_pos_of_ne_zero_right n (show d≠0 by omega);omega
  have hb:=VZ (u:=n) hd oo_;rw [HO hn,HO hd,h1,h2,eD,eD,EA hn hd];simp only [Bool.not_true,Bool.or_false,cond_false];rw [HV hn hb oo_,HV hd hb oo_,QT hg,QT hg]
theorem NJ {n d:Int} (hn:gR n) (hd:gR d) (hp:0<d):Rt.Is (cJ (E (Z.of n)) (E (Z.of d))) (n / (Int.gcd n d:Nat)) (d / (Int.gcd n d:Nat)):=by
  have hg:0<((Int.gcd n d:Nat):Int):=by
    have:=Int.gcd_pos_of_ne_zero_right n (show d≠0 by omega);omega
  have d1:((Int.gcd n d:Nat):Int) ∣ n:=Int.gcd_dvd_left ..;have d2:((Int.gcd n d:Nat):Int) ∣ d:=Int.gcd_dvd_right ..;rw [cD_ hn hd hp];refine ⟨rfl,rfl,m9_ hn hg d1,m9_ hd hg d2,Int.ediv_pos_of_pos_of_dvd hp oo_ d2,?_⟩;rw [Int.gcd_ediv d1 d2,Int.natAbs_natCast,Nat.div_self oo_]
theorem UX {a b:Rt} {n d m e:Int} (ha:a.Is n d) (hb:b.Is m e) :
    ∃ p q r s:Int,cJ a.n b.d=⟨E (Z.of p),E (Z.of q)⟩∧cJ b.n a.d=⟨E (Z.of r),E (Z.of s)⟩∧gR p∧gR q∧gR r∧gR s∧0<q∧0<s∧Int.gcd (p * r) (q * s)=1∧n * m * (q * s)=p * r * (d * e):=by
  have h1:=NJ ha.hn hb.hd hb.pos;have h2:=NJ hb.hn ha.hd ha.pos;have g1:((Int.gcd n e:Nat):Int) ∣ n:=Int.gcd_dvd_left ..;have g2:((Int.gcd n e:Nat):Int) ∣ e:=Int.gcd_dvd_right ..;have g3:((Int.gcd m d:Nat):Int) ∣ m:=Int.gcd_dvd_left ..;have g4:((Int.gcd m d:Nat):Int) ∣ d:=Int.gcd_dvd_right ..;refine ⟨n / (Int.gcd n e:Nat),e / (Int.gcd n e:Nat),m / (Int.gcd m d:Nat),d / (Int.gcd m d:Nat),?_,?_,h1.hn,h1.hd,h2.hn,h2.hd,h1.pos,h2.pos,?_,?_⟩
  · rw [ha.en,hb.ed];exact Rt.ext h1.en h1.ed
  · rw [hb.en,ha.ed];exact Rt.ext h2.en h2.ed
  · generalize hG:((Int.gcd n e:Nat):Int)=G at *
    generalize hH:((Int.gcd m d:Nat):Int)=H at *;have c1:Nat.Coprime (n / G).natAbs (e / G).natAbs:=h1.cop;have c2:Nat.Coprime (m / H).natAbs (d / H).natAbs:=h2.cop;have k1:Nat.Coprime n.natAbs d.natAbs:=ha.cop;have k2:Nat.Coprime m.natAbs e.natAbs:=hb.cop;have d1:(n / G).natAbs ∣ n.natAbs:=Int.natAbs_dvd_natAbs.2 (Int.ediv_dvd_of_dvd g1);have d2:(e / G).natAbs ∣ e.natAbs:=Int.natAbs_dvd_natAbs.2 (Int.ediv_dvd_of_dvd g2);have d3:(m / H).natAbs ∣ m.natAbs:=Int.natAbs_dvd_natAbs.2 (Int.ediv_dvd_of_dvd g3);have d4:(d / H).natAbs ∣ d.natAbs:=Int.natAbs_dvd_natAbs.2 (Int.ediv_dvd_of_dvd g4)
    show Nat.gcd (n / G * (m / H)).natAbs (e / G * (d / H)).natAbs=1
    rw [Int.natAbs_mul,Int.natAbs_mul];have x1:Nat.Coprime (n / G).natAbs (d / H).natAbs:=(k1.coprime_dvd_left d1).coprime_dvd_right d4;have x2:Nat.Coprime (m / H).natAbs (e / G).natAbs:=(k2.coprime_dvd_left d3).coprime_dvd_right d2;exact (Nat.Coprime.mul_right c1 x1).mul_left (Nat.Coprime.mul_right x2 c2)
  obtain ⟨x,hx⟩:=g1;obtain ⟨y,hy⟩:=g2;obtain ⟨z,hz⟩:=g3;obtain ⟨t,ht⟩:=g4
  have p1:0<((Int.gcd n e:Nat):Int):=by have:=Int.gcd_pos_of_ne_zero_right n (show e≠0 by have:=hb.pos;omega);omega
  have p2:0<((Int.gcd m d:Nat):Int):=by have:=Int.gcd_pos_of_ne_zero_right m (show d≠0 by have:=ha.pos;omega);omega
  generalize ((Int.gcd n e:Nat):Int)=G at *;generalize ((Int.gcd m d:Nat):Int)=H at *
  have q1:n / G=x:=by rw [hx];exact Int.mul_ediv_cancel_left _ oo_
  have q2:e / G=y:=by rw [hy];exact Int.mul_ediv_cancel_left _ oo_
  have q3:m / H=z:=by rw [hz];exact Int.mul_ediv_cancel_left _ oo_
  have q4:d / H=t:=by rw [ht];exact Int.mul_ediv_cancel_left _ oo_
  rw [q1,q2,q3,q4,hx,hy,hz,ht];grind
theorem PJ (a b:Rt):eE a b=cG a b:=by
  unfold eE cG;rw [pA,pA,dr_,QC,QC]
  cases hga:aH a <;> cases hgb:aH b <;> simp only [Bool.not_true,Bool.not_false,Bool.or_true,Bool.true_or,Bool.or_false,cond_true,cond_false]
  obtain ⟨n,d,ha⟩:=qK_.1 hga;obtain ⟨m,e,hb⟩:=qK_.1 hgb;obtain ⟨p,q,r,s,e1,e2,hp,hq,hr,hs,q0,s0,hc,_⟩:=UX ha hb;rw [e1,e2];simp only [eD,qV hp hr,qV hq hs]
  by_cases b1:gR (p * r)
  · by_cases b2:gR (q * s)
    · rw [UG b1 b2 (Int.mul_pos q0 s0) hc,dC_ b1,dC_ b2];rfl
    rw [aT_ b2,R3,oj_,Bool.or_true];rfl
  rw [aT_ b1,R2];rfl
def Rt.Vld (a:Rt):Prop:=aH a=true∨a=pR
theorem gp_ {a:Rt} (h:a.Vld):cT (aE (wl 0)) a=a:=by
  have h0:(aE (wl 0)).Is 0 1:=by
    have:aE (wl 0)=⟨E (Z.of 0),E (Z.of 1)⟩:=by
      show cJ (E (Z.of 0)) F_skewbackref04_one=_
      rw [j3_,UG B0 B1 dd_ dd_]
    rw [this];exact ⟨rfl,rfl,B0,B1,by decide,by decide⟩
  unfold cT;rw [qK_.2 ⟨_,_,h0⟩];rcases h with hg | hb
  · obtain ⟨n,d,ha⟩:=qK_.1 hg
    have hd0:=ha.pos;simp only [hg,Bool.not_true,Bool.or_false,cond_false];rw [h0.en,h0.ed,ha.en,ha.ed];simp only [eD];rw [EA B1 ha.hd,Int.gcd_one_left]
    rw [show ((1:Nat):Int)=1 from rfl,HV ha.hd B1 dd_,HV B1 B1 dd_,OG,OG,qV B0 ha.hd,Int.zero_mul,qV ha.hn B1,Int.mul_one,E8 B0 ha.hn,Int.zero_add,qV B1 ha.hd,Int.one_mul,
      UG ha.hn ha.hd ha.pos ha.cop]
    exact Rt.ext ha.en.symm ha.ed.symm
  have hn:aH a=false:=by rw [hb];decide +kernel
  rw [hn];exact hb.symm
theorem lb_ {p q:Int} (hp:gR p) (hq:gR q) (h0:0<q) (hc:Int.gcd p q=1):Rt.Vld ⟨E (Z.of p),E (Z.of q)⟩:=.inl (qK_.2 ⟨p,q,rfl,rfl,hp,hq,h0,hc⟩)
theorem mY_ (a b:Rt):(cG a b).Vld:=by
  unfold cG
  cases hga:aH a <;> cases hgb:aH b <;> simp only [Bool.not_true,Bool.not_false,Bool.or_true,Bool.true_or,Bool.or_false,cond_true,cond_false] <;> try exact .inr rfl
  obtain ⟨n,d,ha⟩:=qK_.1 hga;obtain ⟨m,e,hb⟩:=qK_.1 hgb;obtain ⟨p,q,r,s,e1,e2,hp,hq,hr,hs,q0,s0,hc,_⟩:=UX ha hb;rw [e1,e2];simp only [eD,qV hp hr,qV hq hs]
  by_cases b1:gR (p * r)
  · by_cases b2:gR (q * s)
    · rw [UG b1 b2 (Int.mul_pos q0 s0) hc];exact lb_ b1 b2 (Int.mul_pos q0 s0) hc
    rw [aT_ b2,R3];exact .inr rfl
  rw [aT_ b1,R2];exact .inr rfl
theorem rx_ {x:I} (h:gdI x=true):∃ v:Int,gR v∧x=E (Z.of v):=ee_ (by unfold R.good;exact h)
theorem cs_ {v:Int} (h:gR v):gdI (E (Z.of v))=true:=by have:=HO h;unfold R.good at this;exact this
def vI (x:I):Int:=x.dec.o.getD 0
theorem hs_ {v:Int} (h:gR v):vI (E (Z.of v))=v:=by unfold vI;rw [eD,Z.of_some h];rfl
theorem SX {x:I} (h:gdI x=true):x=E (Z.of (vI x))∧gR (vI x):=by
  obtain ⟨v,hv,rfl⟩:=rx_ h;rw [hs_ hv];exact ⟨rfl,hv⟩
theorem mZ_ {v:Int} (h:gR v):zrI (E (Z.of v))=decide (v=0):=by
  unfold zrI;rw [eD,tT h]
  by_cases h0:v=0
  · subst h0;rfl
  rw [decide_eq_false h0];exact beq_eq_false_iff_ne.2 (fun hs=>h0 (Int.sign_eq_zero_iff_zero.1 hs))
theorem P5 {m:List I} {x:I} (h:tM (m ++ [x])=m ++ [x]):zrI x=false:=by
  cases hx:zrI x
  · rfl
  rw [B2,hx,cond_true] at h;have:=NY m;rw [h] at this;simp only [List.length_append,List.length_cons,List.length_nil] at this;omega
end Go.Num

namespace Go.Proofs.YtkjjponijamaoaaGreatDoor
open Go.Kn Go.Num
theorem MQ (va:Value) (n k:Nat) (hk:k≤1000000) (w:World) (hva:Sl w va (dl n)) :
    Calls Tryz.prog 217 [va,.int .i64 (k:Int)].toArray w (fun e w'=>e = .returned (.int .i64 ((n / 2 ^ k % 2:Nat):Int))∧Ext w w'):=by
 refine d6 (N:=13) Tryz.func217 rfl rfl (by simp) ?_;obtain ⟨w0,rfl⟩:∃ w0,w0=w:=⟨_,rfl⟩;simp only [cS,Nat.reduceAdd];refine Sq fun K1 J1=>Rk fun K J=>sE rfl (nl J (J1 _ _ (Sq fun K2 J2=>Rk fun K J=>sE rfl (sE rfl (sQ (aZ (rA rfl rfl dd_) (congrArg (Value.int .i64) (shq 16 dd_ oo_))) rfl (sQ (aZ (dA KJ rfl (fun w hw=>nD va (dl n) (k / 16) w (SL.sl (M:=_) hva.old hw))) (congrArg (fun z:Nat=>Value.int .i64 (z:Int)) (OC n (k / 16)))) rfl (sE rfl (sQ (aZ (w6 rfl rfl dd_) (congrArg (Value.int .i64) (shr 16 k))) rfl (sQ (E3 rfl rfl (Int.natCast_nonneg _)) rfl (sQ (aZ (w6 rfl rfl dd_) (congrArg (Value.int .i64) (lB_ n k))) rfl (sE rfl (nl J (J2 _ _ (aL (cC rfl (.inr rfl) rfl ?_)))))))))))))));exact rfl

theorem DM (a:R) (ha:a.Ok) :
    Ret Tryz.prog 141 [RV a] (.int .i64 ((a.dec.bits:Nat):Int)):=by
 refine cM (N:=25) Tryz.func141 rfl rfl (by simp) (fun w0=>?_);simp only [cS,Nat.reduceAdd];refine Sq fun K1 J1=>Rk fun K J=>bA rfl (qR rfl rfl (fun b1 hb1=>sE rfl (nl J (J1 _ _ (Sq fun K2 J2=>Sq fun K3 J3=>Rk fun K J=>sQ (eG aD rfl mm_ (eO ha)) rfl ?_)))));refine sQ (bZ vE (d9 a ha) rfl) rfl (sE rfl (nl J (J3 _ _ ?_)));refine fN _ rfl (fun hg=>?_) (fun hg=>?_)
 ·replace hg:=cB_ hg
  refine Sq fun K4 J4=>Rk fun K J=>sE rfl (nl J (J4 _ _ (aL (aB (cC rfl (.inr rfl) rfl ?_)))));exact congrArg (fun z:Nat=>Value.int .i64 (z:Int)) (h6_ (by simpa using hg)).symm
 replace hg:=cB_ hg
 refine aG (J2 _ _ (Sq fun K5 J5=>Rk fun K J=>sQ (eG aD rfl mm_ (eO ha)) rfl ?_));refine bA rfl (j9 wN rfl (fun w hw=>eC a ha w) (fun v L hv=>sE rfl (nl J (J5 _ _ (Sq fun K6 J6=>?_)))));have hl32:(dl (val a.w)).length≤32:=mY (by rw [← SA];have:=GM a.w ha.lim;rwa [ha.len] at this);refine Rk fun K J=>sE rfl (sQ (vV mT rfl (SL.sub hv.sl lZ)) rfl (sQ (aZ (fS_ rfl rfl) (congrArg (Value.int .i64) (rD_ (Nat.le_trans hl32 dd_)))) rfl (sE rfl (nl J (J6 _ _ (Sq fun K7 J7=>aJ ?_))))));refine eA [4,13,14,15,16,17,18,19,20,21,22,23] (fun g nn M=>∃ (k:Nat),(g 4 = .int .i64 (k:Int))∧M=L ++ [⟨b1,31,a.cells⟩]∧nn=k+0∧(k≤16 * (dl (val a.w)).length∧val a.w<2 ^ k)) (16 * (dl (val a.w)).length) ?start ?round
 case start =>
  refine ⟨_,(List.Sublist.refl _),16 * (dl (val a.w)).length,?a4,?mem0,rfl,⟨Nat.le_refl _,dD_ _⟩⟩
  case mem0=>rfl
  case a4=>rfl
 case round =>
  rintro nn g M ⟨k,hg4,rfl,hmeas,⟨hk,hlt⟩⟩;subst nn;simp only [dQ,hg4];clear hg4;refine Sq fun K8 J8=>Sq fun K9 J9=>Rk fun K J=>sE rfl (sE rfl (sE rfl ?_))
  cases hz:decide ((0:Int)<(k:Int))
  ·refine aI rfl (aI rfl (aI rfl (aI rfl (aI rfl (sE rfl (nl J (J9 _ _ (gJ rfl (dW (aU (aU (bJ (J7 _ _ (Sq fun K10 J10=>Rk fun K J=>sE rfl (sE rfl (nl J (J10 _ _ (aL (cC rfl (.inr rfl) rfl ?_)))))))))))))))))));exact congrArg (fun z:Nat=>Value.int .i64 (z:Int)) (lC_ ha (by simpa using hg) hlt (by have:=of_decide_eq_false hz;omega)).symm
  have hz':=of_decide_eq_true hz;obtain ⟨m,rfl⟩:∃ m,k=m+1:=⟨k - 1,by omega⟩;refine sE rfl (sE rfl (sQ (aZ (x9 rfl rfl) (congrArg (Value.int .i64) (I3 oo_))) rfl (sQ (dA o6_ rfl (fun w hw=>MQ v (val a.w) m oo_ w (SL.sl (SL.sub hv.sl lZ) hw))) rfl (sE rfl (sE rfl (nl J (J9 _ _ ?_)))))));refine fN _ rfl (fun h0=>?_) (fun h0=>?_)
  ·replace h0:=cB_ h0
   refine aG (J8 _ _ (aJ (Rk fun K J=>sE rfl (sQ (aZ (x9 rfl rfl) (congrArg (Value.int .i64) (I3 oo_))) rfl (sE rfl (nl J ?_))))));refine ⟨pp_,_,_,(List.Sublist.refl _),oo_,m,?s4,?mem,rfl,⟨by omega,gz_ hlt oo_⟩⟩
   case mem=>rfl
   case s4=>rfl
  replace h0:=cB_ h0
  refine dW (aU (aU (bJ (J7 _ _ (Sq fun K11 J11=>Rk fun K J=>sE rfl (sE rfl (nl J (J11 _ _ (aL (cC rfl (.inr rfl) rfl ?_))))))))));exact congrArg (fun z:Nat=>Value.int .i64 (z:Int)) ((IE ha (by simpa using hg)).trans (lD_ hlt oo_)).symm
end Go.Proofs.YtkjjponijamaoaaGreatDoor


namespace Go.Num
open Go Go.Kn
theorem ZI (a:I):∀ (k:Nat) (m:I),MW a m→Z.nat m.dec<k→vD a k m = .inr (E (Z.sqrt a.dec))
  | 0,m,_,h=>absurd h (Nat.not_lt_zero _)
  | k+1,m,h,hk=>by
    unfold vD
    cases hc:decide (0≤(Z.cmpW (Z.half (Z.add m.dec (Z.quo a.dec m.dec))) m.dec).1) with
    | false=>rw [cond_false];exact ZI a k _ (ZC h) (by have:=c3_ h hc;omega)
    | true =>
      obtain ⟨v,r,ha,hv,hv2,hm,_,_,_,r1,hm2,_,t,e,n1,n2,n3⟩:=UQ h;have hb:=W3
      have t1:(r+v / r) / 2<4294967296 ^ 16:=by omega
      rw [e,hm,b1_ t1 r1] at hc;have hr:=n3 (of_decide_eq_true hc);rw [cond_true,hm2,ha];unfold Z.sqrt;rw [rB (Z.of_some (nB hv2)),decide_eq_false oo_,cond_false,Int.toNat_natCast,← hr]
theorem lo_ (a:I):jH a=E (Z.sqrt a.dec):=by
  unfold jH
  cases h1:(!(rV [a])||a.1.neg) with
  | true =>
    rw [cond_true];rw [ef_,Bool.or_eq_true,Bool.not_eq_true'] at h1
    cases ga:a.1.good with
    | false=>exact congrArg E (da_ ga).symm
    | true =>
      rw [ga] at h1;exact congrArg E (db_ a.2 ga (by simpa using h1)).symm
  | false =>
    rw [cond_false]
    cases h2:((Z.signW a.dec).1==0) with
    | true =>
      rw [cond_true];have h1':=h1;rw [ef_,Bool.or_eq_false_iff,Bool.not_eq_false'] at h1';obtain ⟨ga,hn⟩:=h1';have hz:a.1.dec.sign=0:=beq_iff_eq.1 h2
      have hv:val a.1.w=0:=by
        rcases Nat.eq_zero_or_pos (val a.1.w) with h | h
        · exact h
        · exact absurd hz (fun hz=>by
            unfold Z.sign at hz;rw [fF a.2 ga,hn] at hz;have:=Int.sign_eq_zero_iff_zero.1 hz;have e:sgn false (val a.1.w)=((val a.1.w:Nat):Int):=rfl
            omega)
      have:=ZH (r:=0) a.2 ga hn oo_ oo_
      have e2:a=E (Z.of 0):=by
        have h3:=T9 a.2 ga
        have h4:a.1.dec=Z.of 0:=by
          unfold R.dec;rw [if_pos ga,hn,hv];rfl
        rw [h4] at h3;exact (Subtype.ext h3).symm
      conv=>lhs;rw [e2]
      exact congrArg E this
    | false =>
      rw [cond_false,ZI a _ _ (WX h1 h2) (Nat.lt_succ_self _)];rfl
end Go.Num

namespace Go.Proofs.YtkjjponijamaoaaGreatDoor
open Go.Kn Go.Num
theorem rH (x:Rt) (b:W) :
    Ret Tryz.prog 62 [AV [pI x.n,pI x.d],.int .i64 b.1] (.bool (fH x b)):=by
 refine cM (N:=21) Tryz.func62 rfl rfl (by simp) (fun w0=>?_);simp only [cS,Nat.reduceAdd];refine Rs fun K J=>bA rfl (cH rfl rfl (fun b1 hb1=>sE rfl (nl J ?_)));refine dH [4,5,6,7,8,9,10,11,12,13,14,15,16,17,18,19,20] (fun g M=>(g 4 = .bool ((aH x)&&(decide ((Z.bitsW x.n.dec).1≤b.1)&&decide ((Z.bitsW x.d.dec).1≤b.1))))∧M=[⟨b1,33,aW [pI x.n,pI x.d]⟩]) (fun K1 J1=>?_) ?_
 ·refine Rk fun K J=>sQ (qL bD rfl m0 rfl) rfl (sQ (bZ wB (dO x) rfl) rfl ?_);rcases bt (aH x) with h4 | h4
  ·refine sB h4 rfl (sQ (qF jZ rfl rfl) rfl (sQ (qL aD rfl m0 rfl) rfl (sC (.int .i64 ((Z.bitsW x.n.dec).1)) iA_ (DM x.n.1 x.n.2) rfl rfl rfl (sE rfl (sE rfl (sE rfl ?_))))));rcases bt (decide ((Z.bitsW x.n.dec).1≤b.1)) with h5 | h5
   ·have ph5:=of_decide_eq_true h5;refine sB h5 rfl (sQ (qF fV rfl rfl) rfl (sQ (qL aD rfl m0 rfl) rfl (sC (.int .i64 ((Z.bitsW x.d.dec).1)) iA_ (DM x.d.1 x.d.2) rfl rfl rfl (sE rfl (sE rfl (sE rfl (sE rfl (nl J ?_))))))));refine J1 _ _ pp_ ⟨_,s0,?s4,rfl⟩
    case s4=>exact congrArg Value.bool (eB h4 (eB h5 rfl))
   have ph5:=of_decide_eq_false h5;refine sB h5 rfl (aI rfl (aI rfl (aI rfl (aI rfl (aI rfl (sE rfl (sE rfl (nl J ?_))))))));refine J1 _ _ pp_ ⟨_,s0,?s4,rfl⟩
   case s4=>exact congrArg Value.bool (eB h4 (kU h5))
  refine sB h4 rfl (aI rfl (aI rfl (aI rfl (aI rfl (aI rfl (sE rfl (sE rfl (aI rfl (aI rfl (aI rfl (aI rfl (aI rfl (sE rfl (sE rfl (nl J ?_)))))))))))))));refine J1 _ _ pp_ ⟨_,s0,?s4,rfl⟩
  case s4=>exact congrArg Value.bool (kU h4)
 rintro g6 M ⟨hg4,rfl⟩;simp only [dQ,hg4];clear hg4;refine aL (cC rfl (.inr rfl) rfl ?_);exact (by rfl)

theorem tA (v:(A3 Rt)) (b:W) :
    Ret Tryz.prog 41 [AV [pI v.x.n,pI v.x.d,pI v.y.n,pI v.y.d,pI v.z.n,pI v.z.d],.int .i64 b.1] (.bool (dY v b)):=by
 refine cM (N:=16) Tryz.func41 rfl rfl (by simp) (fun w0=>?_);simp only [cS,Nat.reduceAdd];refine Rs fun K J=>bA rfl (cH rfl rfl (fun b1 hb1=>sE rfl (nl J (Sq fun K1 J1=>Rs fun K J=>sE rfl (nl J (aJ (v7 5 (fE (fun K2 J2=>Sq fun K3 J3=>Rs fun K J=>sE rfl (sV (.bool true) rfl rfl (nl J (dE rfl (aG (J3 _ _ (Sq fun K4 J4=>?_)))))))))))))));refine aJ (Rs fun K J=>sE rfl (sQ (qA fC rfl rfl rfl) rfl (sQ (qL bD rfl m0 rfl) rfl (sE rfl (sQ (bZ YS (rH v.x b) rfl) rfl (sE rfl (nl J ?_)))))));rcases bt (fH v.x b) with h2 | h2
 ·refine W_f (iS h2) rfl (aG (J4 _ _ (Rk fun K J=>sE rfl (sV (.int .i64 1) rfl rfl (sE rfl (nl J (J2 _ _ (fE (fun K5 J5=>Sq fun K6 J6=>Rs fun K J=>sE rfl (sV (.bool true) rfl rfl (nl J (dE rfl (aG (J6 _ _ (Sq fun K7 J7=>aJ ?_)))))))))))))));refine Rs fun K J=>sE rfl (sQ (qA fC rfl rfl rfl) rfl (sQ (qL bD rfl m0 rfl) rfl (sE rfl (sQ (bZ YS (rH v.y b) rfl) rfl (sE rfl (nl J ?_))))));rcases bt (fH v.y b) with h3 | h3
  ·refine W_f (iS h3) rfl (aG (J7 _ _ (Rk fun K J=>sE rfl (sV (.int .i64 2) rfl rfl (sE rfl (nl J (J5 _ _ (fE (fun K8 J8=>Sq fun K9 J9=>Rs fun K J=>sE rfl (sV (.bool true) rfl rfl (nl J (dE rfl (aG (J9 _ _ (Sq fun K10 J10=>aJ ?_)))))))))))))));refine Rs fun K J=>sE rfl (sQ (qA fC rfl rfl rfl) rfl (sQ (qL bD rfl m0 rfl) rfl (sE rfl (sQ (bZ YS (rH v.z b) rfl) rfl (sE rfl (nl J ?_))))));rcases bt (fH v.z b) with h4 | h4
   ·refine W_f (iS h4) rfl (aG (J10 _ _ (Rk fun K J=>sE rfl (sV (.int .i64 3) rfl rfl (sE rfl (nl J (J8 _ _ (fE (fun K11 J11=>Sq fun K12 J12=>Rs fun K J=>sE rfl (sV (.bool false) rfl rfl (nl J (gJ rfl (dW (aU (aU (bJ (J1 _ _ (Rs fun K J=>sE rfl ?_))))))))))))))))));refine nl J (aL (cC rfl (.inr rfl) rfl ?_));exact (by exact congrArg vS2 (show _=(dY v b) from bI h2 (bI h3 (bI h4 rfl))))
   refine W_t (iT h4) rfl (Rs fun K J=>sE rfl (nl J (aL (aT (aB (aB (aT (aB (cC rfl (.inr rfl) rfl ?_)))))))));exact (by exact congrArg vS2 (show _=(dY v b) from bI h2 (bI h3 (aM h4 rfl))))
  refine W_t (iT h3) rfl (Rs fun K J=>sE rfl (nl J (aL (aT (aB (aB (aT (aB (cC rfl (.inr rfl) rfl ?_)))))))));exact (by exact congrArg vS2 (show _=(dY v b) from bI h2 (aM h3 rfl)))
 refine W_t (iT h2) rfl (Rs fun K J=>sE rfl (nl J (aL (aT (aB (aB (aT (aB (cC rfl (.inr rfl) rfl ?_)))))))));exact (by exact congrArg vS2 (show _=(dY v b) from aM h2 rfl))

end Go.Proofs.YtkjjponijamaoaaGreatDoor


namespace Go.Num
open Go Go.Kn
theorem QD (a b:A3 Rt):lQ a b=jD a b:=by unfold lQ jD;rw [JZ,JZ,JZ]
theorem UW (a b:A3 Rt):oD a b=nE a b:=by
  unfold oD nE;simp only [PJ,PG,IA];rw [gp_ (mY_ _ _)]
theorem an_ {u g:Int} (hu:gR u) (hg:0<g):gR (u / g):=by
  unfold gR at *;have h1:=Int.mul_ediv_add_emod u g;have h2:=Int.emod_nonneg u (by omega:g≠0);have h3:=Int.emod_lt_of_pos u hg
  have h4:(u / g).natAbs≤u.natAbs:=by
    rcases Int.lt_or_le u 0 with h | h
    · have h5:u / g<0:=Int.ediv_neg_of_neg_of_pos h hg
      have h6:u≤u / g:=by
        have h7:g * (u / g)≤u / g:=by
          have:=Int.mul_le_mul_of_nonpos_right (show (1:Int)≤g by omega) (Int.le_of_lt h5);omega
        have h8:u<g * (u / g)+g:=by omega
        rcases Int.lt_or_le u (g * (u / g)) with h9 | h9
        · omega
        have h10:(g - 1) * (u / g) ≤ -(g - 1):=by
          have:=Int.mul_le_mul_of_nonneg_left (show u / g ≤ -1 by omega) (show 0≤g - 1 by omega);omega
        have h11:g * (u / g)=(g - 1) * (u / g)+u / g:=by rw [Int.sub_mul];omega
        omega
      omega
    have h5:0≤u / g:=Int.ediv_nonneg h oo_;have h6:u / g≤u:=Int.ediv_le_self _ h;omega
  omega
theorem ao_ {u g:Int} (hg:0<g) (hb:gR g):gR (u % g):=by
  unfold gR at *;have h2:=Int.emod_nonneg u (by omega:g≠0);have h3:=Int.emod_lt_of_pos u hg;omega
theorem f0_ {u v:Int} (hu:gR u) (hv:gR v) (h:0<v):Z.rem (Z.of u) (Z.of v)=Z.of (u % v):=by
  rw [Z.rem,gZ (Z.of_some hu) (Z.of_some hv),if_neg oo_,Int.fmod_eq_emod_of_nonneg _ oo_]
theorem DD {u v:Int} (hu:gR u) (hv:gR v) (h:0<v):Z.quo (Z.of u) (Z.of v)=Z.of (u / v):=by
  rw [HV hu hv oo_,QT h]
theorem ae_ {u v:Int} (hu:gR u) (hv:gR v):(Z.cmpW (Z.of u) (Z.of v)).1=(u - v).sign:=by
  show Z.cmp _ _=_
  unfold Z.cmp;rw [Z.of_some hu,Z.of_some hv];simp only;rcases Int.lt_trichotomy u v with h | h | h
  · rw [G6 h,Int.sign_eq_neg_one_of_neg oo_]
  · subst h;rw [QK,Int.sub_self];rfl
  rw [G5 h,Int.sign_eq_one_of_pos oo_]
theorem P9 {n:Int} (h:-4≤n∧n≤4):IntKind.i64.wrap n=n:=wi ⟨by omega,by omega⟩
theorem W2 (x:Int):-1≤x.sign∧x.sign≤1:=by
  rcases Int.lt_trichotomy x 0 with h | h | h
  · rw [Int.sign_eq_neg_one_of_neg h];omega
  · subst h;decide
  rw [Int.sign_eq_one_of_pos h];omega
theorem nF_ {o x:W} (ho:o.1=1∨o.1 = -1) (hx:-2≤x.1∧x.1≤2):(W.mul o x).1=o.1 * x.1:=by
  show IntKind.i64.wrap (o.1 * x.1)=_
  refine P9 ?_;rcases ho with h | h <;> rw [h] <;> omega
theorem nI_ {o:W} (ho:o.1=1∨o.1 = -1):(W.neg o).1 = -o.1:=by
  show IntKind.i64.wrap (0 - o.1)=_
  rw [P9 oo_];omega
theorem kK_ {b d p r s:Int} (hb:0<b) (hd:0<d) (h0:p≠0) (hr:0≤r) (hrb:r<b) (hs:0≤s) (hsd:s<d):(b * d * p+(r * d - s * b)).sign=p.sign:=by
  have hbd:0<b * d:=Int.mul_pos hb hd;have h1:r * d<b * d:=Int.mul_lt_mul_of_pos_right hrb hd;have h2:s * b<d * b:=Int.mul_lt_mul_of_pos_right hsd hb;have h3:0≤r * d:=Int.mul_nonneg hr oo_;have h4:0≤s * b:=Int.mul_nonneg hs oo_;rw [Int.mul_comm d b] at h2;rcases Int.lt_trichotomy p 0 with h | h | h
  · rw [Int.sign_eq_neg_one_of_neg h,Int.sign_eq_neg_one_of_neg]
    have:b * d * p≤b * d * (-1):=Int.mul_le_mul_of_nonneg_left oo_ oo_;omega
  · exact absurd h h0
  rw [Int.sign_eq_one_of_pos h,Int.sign_eq_one_of_pos];have:b * d * 1≤b * d * p:=Int.mul_le_mul_of_nonneg_left oo_ oo_;omega
theorem lG_:∀ (k:Nat) (o:W) (a b c d:Int),b.toNat≤k→0<b→0<d→gR a→gR b→gR c→gR d→(o.1=1∨o.1 = -1) →
    (cf k o (E (Z.of a)) (E (Z.of b)) (E (Z.of c)) (E (Z.of d))).1=o.1 * (a * d - c * b).sign:=by
  intro k
  induction k with
  | zero=>intro o a b c d hk hb;omega
  | succ k ih =>
    intro o a b c d hk hb hd ha hb' hc hd' ho;unfold cf;simp only [eD];rw [DD ha hb' hb,DD hc hd' hd,f0_ ha hb' hb,f0_ hc hd' hd,tT (ao_ hb hb'),tT (ao_ hd hd'),ae_ (an_ ha hb) (an_ hc hd)];have e1:=Int.mul_ediv_add_emod a b;have e2:=Int.mul_ediv_add_emod c d;have r1:=Int.emod_nonneg a (by omega:b≠0);have r2:=Int.emod_lt_of_pos a hb;have s1:=Int.emod_nonneg c (by omega:d≠0);have s2:=Int.emod_lt_of_pos c hd;have hrB:=ao_ (u:=a) hb hb';have hsB:=ao_ (u:=c) hd hd';have hpB:=an_ ha hb;have hqB:=an_ hc hd;generalize hp:a / b=p at *;generalize hr:a % b=r at *;generalize hq:c / d=q at *;generalize hs:c % d=s at *
    have key:a * d - c * b=b * d * (p - q)+(r * d - s * b):=by
      rw [← e1,← e2];grind
    rw [key]
    by_cases hpq:p=q
    · have h1:(p - q).sign=0:=by rw [hpq,Int.sub_self];rfl
      have h2:b * d * (p - q)+(r * d - s * b)=r * d - s * b:=by rw [hpq];grind
      rw [h1,h2];have h3:((0:Int) != 0)=false:=rfl;rw [h3];simp only [cond_false]
      by_cases h0:r=0∨s=0
      · have h4:((r.sign==0)||(s.sign==0))=true:=by
          rcases h0 with h | h <;> subst h <;> simp
        rw [h4];simp only [cond_true];have h5:=W2 r;have h6:=W2 s
        have e5:(W.sub (Z.signW (Z.of r)) (Z.signW (Z.of s))).1=r.sign - s.sign:=by
          show IntKind.i64.wrap ((Z.signW (Z.of r)).1 - (Z.signW (Z.of s)).1)=_
          rw [tT hrB,tT hsB];exact P9 oo_
        rw [nF_ ho (by rw [e5];omega),e5]
        congr 1
        rcases h0 with h | h
        · subst h
          rw [Int.zero_mul,Int.zero_sub,Int.sign_neg,Int.sign_mul,Int.sign_eq_one_of_pos hb];simp
        subst h;rw [Int.zero_mul,Int.sub_zero,Int.sign_mul,Int.sign_eq_one_of_pos hd];simp
      have hr0:0<r:=by omega
      have hs0:0<s:=by omega
      have h4:((r.sign==0)||(s.sign==0))=false:=by
        rw [Int.sign_eq_one_of_pos hr0,Int.sign_eq_one_of_pos hs0];rfl
      rw [h4];simp only [cond_false];rw [ih _ _ _ _ _ oo_ hr0 hs0 hb' hrB hd' hsB (by rw [nI_ ho];omega),nI_ ho]
      have:b * s - d * r = -(r * d - s * b):=by grind
      rw [this,Int.sign_neg,Int.neg_mul_neg]
    have h1:((p - q).sign != 0)=true:=by
      rcases Int.lt_trichotomy (p - q) 0 with h | h | h
      · rw [Int.sign_eq_neg_one_of_neg h];rfl
      · omega
      rw [Int.sign_eq_one_of_pos h];rfl
    rw [h1];simp only [cond_true];rw [nF_ ho (by rw [ae_ hpB hqB];have:=W2 (p - q);omega),ae_ hpB hqB];rw [kK_ hb hd oo_ r1 r2 s1 s2]
theorem op_ {d:Int} (h:gR d):cfN (E (Z.of d))=d.toNat:=by
  unfold cfN;rw [eD,Z.of_some h]
theorem QB {a:Rt} {n d:Int} (h:a.Is n d):aH a=true:=qK_.2 ⟨n,d,h⟩
theorem n2_ {a b:Rt} {n d m e:Int} (ha:a.Is n d) (hb:b.Is m e):(j1 a b).1=(n * e - m * d).sign:=by
  unfold j1;rw [pA,pA,QB ha,QB hb];simp only [Bool.not_true,Bool.and_false,cond_true,cond_false];rw [ha.en,ha.ed,hb.en,hb.ed,op_ ha.hd,lG_ _ _ _ _ _ _ (Nat.le_refl _) ha.pos hb.pos ha.hn ha.hd hb.hn hb.hd (.inl rfl)];exact Int.one_mul _
theorem n9_ {a:Rt} {n d:Int} (h:a.Is n d):Rt.Is (lA a) (-n) d:=by
  have e:lA a=⟨E (Z.of (-n)),E (Z.of d)⟩:=by
    unfold lA;rw [QB h,h.en,h.ed,eD,eo_ h.hn];rfl
  rw [e];refine ⟨rfl,rfl,?_,h.hd,h.pos,by rw [Int.neg_gcd];exact h.cop⟩;have:=h.hn;unfold gR at *;rw [Int.natAbs_neg];exact this
theorem qL_ {a:Rt} (h:aH a=true):∃ n d,Rt.Is a n d:=qK_.1 h
theorem kM_ {x:Int}:x.sign≤0 ↔ x≤0:=Int.sign_nonpos_iff
theorem m2_ {a:Rt} {n d:Int} (h:a.Is n d):∃ q:Rat,a.At q∧q.num=n∧(q.den:Int)=d:=by
  have hd:(d.toNat:Int)=d:=Int.toNat_of_nonneg (Int.le_of_lt h.pos)
  have hc:n.natAbs.Coprime d.toNat:=by
    have:=h.cop;unfold Int.gcd at this;rw [show d.natAbs=d.toNat by omega] at this;exact this
  refine ⟨⟨n,d.toNat,by have:=h.pos;omega,hc⟩,?_,rfl,hd⟩
  show a.Is n (d.toNat:Int)
  rw [hd];exact h
theorem fv_ {a:Rt} (h:aH a=true):∃ q,a.At q:=by
  obtain ⟨n,d,h1⟩:=qL_ h;obtain ⟨q,h2,_⟩:=m2_ h1;exact ⟨q,h2⟩
theorem nR {a:Rt} {q:Rat} (h:a.At q):aH a=true:=QB h
theorem PH {a b:Rt} {q:Rat} (ha:a.At q) (hb:b.At q):a=b:=Rt.ext (ha.en.trans hb.en.symm) (ha.ed.trans hb.ed.symm)
theorem UU {a:Rt} {p q:Rat} (ha:a.At p) (hb:a.At q):p=q:=by
  have h1:=WK ha.hn hb.hn (bz_ (ha.en.symm.trans hb.en));have h2:=WK ha.hd hb.hd (bz_ (ha.ed.symm.trans hb.ed));exact Rat.ext h1 oo_
theorem ds_ {a b:Rt} {p q:Rat} (ha:a.At p) (hb:b.At q):(j1 a b).1=(p.num * q.den - q.num * p.den).sign:=n2_ ha hb
theorem Z2 {a b:Rt} {p q:Rat} (ha:a.At p) (hb:b.At q):(j1 a b).1≤0 ↔ p≤q:=by
  rw [ds_ ha hb,kM_,Rat.le_iff];omega
theorem Sz.bn {q:Rat} {k:Nat} (h:Sz q k) (hk:k≤512):gR q.num:=vF h.n hk
theorem qI_ {a:Rt} {n d:Int} {q:Rat} (h:a.Is n d) (he:q.num * d=n * q.den):a.At q:=by
  obtain ⟨p,hp,h1,h2⟩:=m2_ h;have:p=q:=Rat.eq_iff_mul_eq_mul.2 (by rw [h1,h2];exact he.symm);rw [← this];exact hp
theorem CP {n d:Int} {q:Rat} (hn:gR n) (hd:gR d) (hp:0<d) (he:q.num * d=n * q.den):(cJ (E (Z.of n)) (E (Z.of d))).At q:=by
  refine qI_ (NJ hn hd hp) ?_;have g1:((Int.gcd n d:Nat):Int) ∣ n:=Int.gcd_dvd_left ..;have g2:((Int.gcd n d:Nat):Int) ∣ d:=Int.gcd_dvd_right ..
  have p1:0<((Int.gcd n d:Nat):Int):=by have:=Int.gcd_pos_of_ne_zero_right n (show d≠0 by omega);omega
  obtain ⟨x,hx⟩:=g1;obtain ⟨y,hy⟩:=g2;generalize ((Int.gcd n d:Nat):Int)=G at *
  have q1:n / G=x:=by rw [hx];exact Int.mul_ediv_cancel_left _ oo_
  have q2:d / G=y:=by rw [hy];exact Int.mul_ediv_cancel_left _ oo_
  rw [q1,q2];rw [hx,hy] at he;exact Int.eq_of_mul_eq_mul_left (show G≠0 by omega) (by grind)
theorem du_ {a:Rt} {p:Rat} (h:a.At p):(lA a).At (-p):=n9_ h
theorem uA {q:Rat}:(0:Int)<q.den:=by have:=q.den_nz;omega
theorem hF_ {a b:Rt} {p q:Rat} (ha:a.At p) (hb:b.At q) (hn:gR (p * q).num) (hd:gR ((p * q).den:Int)):(cG a b).At (p * q):=by
  unfold cG;rw [nR ha,nR hb];obtain ⟨x,y,r,s,e1,e2,b1,b2,b3,b4,h1,h2,hc,he⟩:=UX ha hb;simp only [Bool.not_true,Bool.or_false,cond_false,e1,e2,eD];rw [qV b1 b3,qV b2 b4];have hps:0<y * s:=Int.mul_pos h1 h2
  have hpq:p * q=Rat.divInt (x * r) (y * s):=by
    rw [← Rat.num_divInt_den p,← Rat.num_divInt_den q,Rat.divInt_mul_divInt];exact (Rat.divInt_eq_divInt_iff (by have:=@uA p;have:=@uA q;exact Int.mul_ne_zero oo_ oo_) oo_).2 (by rw [he])
  have hnum:(p * q).num=x * r:=by
    rw [hpq,Rat.num_divInt,Int.gcd_comm,hc,Int.sign_eq_one_of_pos hps];simp
  have hden:((p * q).den:Int)=y * s:=by
    rw [hpq,Rat.den_divInt,if_neg oo_,Int.gcd_comm,hc,Nat.div_one];omega
  rw [hnum] at hn;rw [hden] at hd;exact CP hn hd hps (by rw [hnum,hden])
theorem hE_ (a:Rt):iR a=dG a:=by unfold iR dG;rw [pA]
theorem PK (p:Pull):cF p=bT p:=by unfold cF bT;rw [QD,UW]
theorem bM_ (x:I):oN x=lN x:=rfl
theorem ok_ {c:Bool} {a b a' b':I}:(bif c then (a,b) else (a',b'))=((bif c then (⟨a,b⟩:A2 I) else ⟨a',b'⟩).x,(bif c then (⟨a,b⟩:A2 I) else ⟨a',b'⟩).y):=by cases c <;> rfl
theorem YD (p:Pull):bK p=((gO p).x,(gO p).y):=by
  unfold bK gO;simp only [PK,pA,hE_,lo_,bM_,eD]
  cases aH (bT p)
  · rfl
  simp only [cond_true];exact ok_
structure Az (q:Rat) (a b:Nat):Prop where
  n:q.num.natAbs<2 ^ a
  d:q.den<2 ^ b
theorem Sz.az {q:Rat} {k:Nat} (h:Sz q k):Az q k k:=⟨h.n,h.d⟩
theorem Az.sz {q:Rat} {a b k:Nat} (h:Az q a b) (h1:a≤k) (h2:b≤k):Sz q k:=⟨Nat.lt_of_lt_of_le h.n (EE h1),Nat.lt_of_lt_of_le h.d (EE h2)⟩
section
variable {p q:Rat} {a b a' b':Nat}
theorem Az.mono (h:Az q a b) (h1:a≤a') (h2:b≤b'):Az q a' b':=⟨Nat.lt_of_lt_of_le h.n (EE h1),Nat.lt_of_lt_of_le h.d (EE h2)⟩
theorem Az.bn (h:Az q a b) (hk:a≤512):gR q.num:=vF h.n hk
theorem Az.bd (h:Az q a b) (hk:b≤512):gR (q.den:Int):=vF (by simpa using h.d) hk
theorem Az.mul (h:Az p a b) (g:Az q a' b'):Az (p * q) (a+a') (b+b'):=by
  constructor
  · rw [Rat.num_mul]
    refine Nat.lt_of_le_of_lt (Int.natAbs_ediv_le_natAbs _ _) ?_;rw [Int.natAbs_mul];exact xX h.n g.n
  rw [Rat.den_mul];exact Nat.lt_of_le_of_lt (Nat.div_le_self _ _) (xX h.d g.d)
theorem Az.neg (h:Az p a b):Az (-p) a b:=⟨by rw [Rat.neg_num,Int.natAbs_neg];exact h.n,h.d⟩
theorem bN_ {n m:Int} {d e c:Nat} (h1:n.natAbs<2 ^ a) (h2:e<2 ^ b') (h3:m.natAbs<2 ^ a') (h4:d<2 ^ b) (k1:a+b'<c) (k2:a'+b<c):(n * e+m * d).natAbs<2 ^ c:=by
  obtain ⟨c,rfl⟩:∃ k,c=k+1:=⟨c - 1,by omega⟩;have x:=Nat.lt_of_lt_of_le (xX h1 h2) (EE (show a+b'≤c by omega));have y:=Nat.lt_of_lt_of_le (xX h3 h4) (EE (show a'+b≤c by omega));have z:=Int.natAbs_add_le (n * e) (m * d);rw [Int.natAbs_mul,Int.natAbs_mul,Int.natAbs_natCast,Int.natAbs_natCast] at z;rw [Nat.pow_succ];omega
theorem Az.add {c:Nat} (h:Az p a b) (g:Az q a' b') (k1:a+b'<c) (k2:a'+b<c):Az (p+q) c (b+b'):=by
  constructor
  · rw [Rat.num_add]
    exact Nat.lt_of_le_of_lt (Int.natAbs_ediv_le_natAbs _ _) (bN_ h.n g.d g.n h.d k1 k2)
  rw [Rat.den_add];exact Nat.lt_of_le_of_lt (Nat.div_le_self _ _) (xX h.d g.d)
theorem Az.sub {c:Nat} (h:Az p a b) (g:Az q a' b') (k1:a+b'<c) (k2:a'+b<c):Az (p - q) c (b+b'):=by rw [Rat.sub_eq_add_neg];exact h.add g.neg k1 k2
theorem Az.int {n:Int} (h:n.natAbs<2 ^ a):Az (n:Rat) a 1:=⟨h,(by show 1<2 ^ 1;decide)⟩
theorem E7 {x y:Rt} (hx:x.At p) (hy:y.At q) (hp:Az p a b) (hq:Az q a' b') (h:a+a'≤512) (h':b+b'≤512):(cG x y).At (p * q) :=
  hF_ hx hy ((hp.mul hq).bn h) ((hp.mul hq).bd h')
theorem CN {x' y':Rt} (ha:x'.At p) (hb:y'.At q) (hp:Az p a b) (hq:Az q a' b') (h1:a+b'<512) (h2:a'+b<512) (h3:b+b'≤512):(cT x' y').At (p+q):=by
  unfold cT;rw [nR ha,nR hb];simp only [Bool.not_true,Bool.or_false,cond_false];have ia:=At.is ha;have ib:=At.is hb;rw [ia.en,ia.ed,ib.en,ib.ed];simp only [eD];have hdp:=@uA p;have hdq:=@uA q
  have hg:0<((Int.gcd (p.den:Int) (q.den:Int):Nat):Int):=by
    have:=Int.gcd_pos_of_ne_zero_right (p.den:Int) (show (q.den:Int)≠0 by omega);omega
  have hbg:=VZ (u:=(p.den:Int)) ib.hd oo_;have g1:((Int.gcd (p.den:Int) (q.den:Int):Nat):Int) ∣ (p.den:Int):=Int.gcd_dvd_left ..;have g2:((Int.gcd (p.den:Int) (q.den:Int):Nat):Int) ∣ (q.den:Int):=Int.gcd_dvd_right ..;rw [EA ia.hd ib.hd,DD ib.hd hbg hg,DD ia.hd hbg hg];generalize ((Int.gcd (p.den:Int) (q.den:Int):Nat):Int)=G at *;obtain ⟨x,hx⟩:=g1;obtain ⟨y,hy⟩:=g2
  have q1:(p.den:Int) / G=x:=by rw [hx];exact Int.mul_ediv_cancel_left _ oo_
  have q2:(q.den:Int) / G=y:=by rw [hy];exact Int.mul_ediv_cancel_left _ oo_
  rw [q1,q2]
  have x0:0<x:=by rw [hx] at hdp;exact Int.pos_of_mul_pos_right hdp hg
  have y0:0<y:=by rw [hy] at hdq;exact Int.pos_of_mul_pos_right hdq hg
  have xl:x≤p.den:=by rw [hx];have:=Int.mul_le_mul_of_nonneg_right (show (1:Int)≤G by omega) (Int.le_of_lt x0);omega
  have yl:y≤q.den:=by rw [hy];have:=Int.mul_le_mul_of_nonneg_right (show (1:Int)≤G by omega) (Int.le_of_lt y0);omega
  have x1:x.toNat<2 ^ b:=Nat.lt_of_le_of_lt oo_ hp.d;have y1:y.toNat<2 ^ b':=Nat.lt_of_le_of_lt oo_ hq.d
  have xe:x=(x.toNat:Int):=by omega
  have ye:y=(y.toNat:Int):=by omega
  have bx:gR x:=vF (k:=b) (by rw [xe,Int.natAbs_natCast];exact x1) oo_
  have by':gR y:=vF (k:=b') (by rw [ye,Int.natAbs_natCast];exact y1) oo_
  rw [qV ia.hn by',qV ib.hn bx,qV bx ib.hd]
  have t1:(p.num * y).natAbs<2 ^ (a+b'):=by rw [Int.natAbs_mul];exact xX hp.n oo_
  have t2:(q.num * x).natAbs<2 ^ (a'+b):=by rw [Int.natAbs_mul];exact xX hq.n oo_
  have t3:(x * (q.den:Int)).natAbs<2 ^ (b+b'):=by rw [Int.natAbs_mul];exact xX oo_ (by simpa using hq.d)
  rw [E8 (vF t1 oo_) (vF t2 oo_)]
  have t4:(p.num * y+q.num * x).natAbs<2 ^ (max (a+b') (a'+b)+1):=by
    have u1:=Nat.lt_of_lt_of_le t1 (EE (show a+b'≤max (a+b') (a'+b) by omega));have u2:=Nat.lt_of_lt_of_le t2 (EE (show a'+b≤max (a+b') (a'+b) by omega));rw [Nat.pow_succ];omega
  refine CP (vF t4 oo_) (vF t3 h3) (Int.mul_pos x0 hdq) ?_
  have key:p+q=Rat.divInt (p.num * y+q.num * x) (x * q.den):=by
    conv=>lhs;rw [← Rat.num_divInt_den p,← Rat.num_divInt_den q,Rat.divInt_add_divInt _ _ oo_ oo_]
    refine (Rat.divInt_eq_divInt_iff (Int.mul_ne_zero oo_ oo_) (Int.mul_ne_zero oo_ oo_)).2 ?_;rw [hx,hy];grind
  have h3:=Rat.num_divInt_den (p+q);rw [key] at h3 ⊢;have h4:=(Rat.divInt_eq_divInt_iff (by have:=@uA (Rat.divInt (p.num * y+q.num * x) (x * q.den));omega) (Int.mul_ne_zero oo_ oo_)).1 h3;exact h4
theorem Z6 {x y:Rt} (ha:x.At p) (hb:y.At q) (hp:Az p a b) (hq:Az q a' b') (h1:a+b'<512) (h2:a'+b<512) (h3:b+b'≤512):(cO x y).At (p - q):=by
  unfold cO;rw [Rat.sub_eq_add_neg];exact CN ha (du_ hb) hp hq.neg h1 h2 h3
end
end Go.Num

