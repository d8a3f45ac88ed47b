/- Lemmas: what they ask stands in their statements. -/
import Derived.Test.YtbjlhfochebmiaaGreatDoorXYl
set_option linter.unusedSimpArgs false
set_option linter.unusedVariables false
set_option maxHeartbeats 8000000
set_option maxRecDepth 20000

namespace Go.Num
open Go Go.Kn
abbrev dF (v:Int):Prop:=v.natAbs<4294967296 ^ 16
theorem OS {x:I} (h:x.1.good=true):E x.dec=x:=Subtype.ext (GZ x.2 h)
theorem LQ {x:I} (h:x.1.good=true):∃ v:Int,dF v∧x=E (Z.of v):=by
  have h1:=bT x.2 h;refine ⟨_,x.dec.h _ h1,?_⟩;rw [← Z.eq_of h1];exact (OS h).symm
theorem tF {v:Int} (h:dF v):(E (Z.of v)).1.good=true:=by
  show (Z.of v).enc.good=true
  rw [Z.enc_good,Z.of_some h];rfl
theorem QF {v:Int} (h:dF v):(E (Z.of v)).1.bad=false:=by
  have:=tF h;unfold R.good at this;simp only [Bool.and_eq_true,Bool.not_eq_true'] at this;exact this.1
theorem YM:(E Z.bad).1.bad=true:=rfl
theorem IX:(E Z.bad).1.good=false:=rfl
theorem WG {v:Int} (h:dF v):(Z.of v).sign=v.sign:=by unfold Z.sign;rw [Z.of_some h]
theorem kN {v:Int} (h:dF v):(Z.signW (Z.of v)).1=v.sign:=WG h
theorem yS {u v:Int} (hu:dF u) (hv:dF v):Z.gcd (Z.of u) (Z.of v)=Z.of (Int.gcd u v):=by rw [Z.gcd,cI (Z.of_some hu) (Z.of_some hv)]
theorem yZ {u v:Int} (hu:dF u) (hv:dF v) (h:v≠0):Z.quo (Z.of u) (Z.of v)=Z.of (u.fdiv v):=by rw [Z.quo,cI (Z.of_some hu) (Z.of_some hv),if_neg h]
theorem n7 {u v:Int} (hu:dF u) (hv:dF v):Z.mul (Z.of u) (Z.of v)=Z.of (u * v):=by rw [Z.mul,cI (Z.of_some hu) (Z.of_some hv)]
theorem z9 {u v:Int} (hu:dF u) (hv:dF v):Z.add (Z.of u) (Z.of v)=Z.of (u+v):=by rw [Z.add,cI (Z.of_some hu) (Z.of_some hv)]
theorem LW {u:Int} (hu:dF u):Z.neg (Z.of u)=Z.of (-u):=by rw [Z.neg,iJ (Z.of_some hu)]
theorem SQ {v:Int} (h:¬ dF v):Z.of v=Z.bad:=by unfold Z.of;rw [dif_neg h]
theorem B1:dF 1:=by decide
theorem B0:dF 0:=by decide
theorem IP {u v:Int} (hv:dF v) (h:v≠0):dF (Int.gcd u v:Nat):=by
  have:Int.gcd u v≤v.natAbs:=Nat.le_of_dvd oo_ (Int.gcd_dvd_natAbs_right u v)
  show ((Int.gcd u v:Nat):Int).natAbs<_
  rw [Int.natAbs_natCast];exact Nat.lt_of_le_of_lt this hv
theorem au_ {u v:Int} (hu:dF u) (hv:dF v) (h:Z.of u=Z.of v):u=v:=by
  have:=congrArg Z.o h;rw [Z.of_some hu,Z.of_some hv] at this;exact Option.some.inj this
structure Rt.Is (a:Rt) (n d:Int):Prop where
  en:a.n=E (Z.of n)
  ed:a.d=E (Z.of d)
  hn:dF n
  hd:dF d
  pos:0<d
  cop:Int.gcd n d=1
theorem Rt.ext {a b:Rt} (h:a.n=b.n) (k:a.d=b.d):a=b:=by cases a;cases b;simp_all
theorem ax_:F_skewbackref04_one=E (Z.of 1):=rfl
theorem bZ_:F_ratio_one=E (Z.of 1):=rfl
theorem KQ:mR=gM:=rfl
theorem R0 (a:I):gW a=a.1.good:=rfl
theorem oR (a:Rt):cV a=aP a:=by
  unfold cV aP;rw [R0,R0,ax_,bZ_]
  cases a.n.1.good <;> cases a.d.1.good <;> rfl
theorem y8 (a b:I):bH a b=aY a b:=rfl
theorem P1 (a:W):cG a=dZ a:=rfl
theorem X7 (a:Rt):lI a=gN a:=by unfold lI gN;rw [oR,KQ]
theorem GB (a b:Rt):i9 a b=eH a b:=by unfold i9 eH;rw [oR,oR,KQ];rfl
theorem YB (a b:Rt):mS a b=kY a b:=by unfold mS kY;rw [X7,GB]
theorem a8_ {a:Rt}:aP a=true ↔ ∃ n d,Rt.Is a n d:=by
  unfold aP
  constructor
  · intro h
    cases gn:a.n.1.good <;> cases gd:a.d.1.good <;> simp only [gn,gd,Bool.not_true,Bool.not_false,Bool.or_true,Bool.true_or,Bool.or_false,cond_true,cond_false,Bool.false_eq_true] at h
    obtain ⟨n,hn,en⟩:=LQ gn;obtain ⟨d,hd,ed⟩:=LQ gd;rw [en,ed] at h;simp only [dB,Bool.and_eq_true,decide_eq_true_eq,kN hd] at h;obtain ⟨h1,h2⟩:=h;have hp:0<d:=Int.sign_pos_iff.1 h1;rw [yS hn hd,ax_] at h2;have h3:=au_ (IP hd oo_) B1 (a7_ h2);exact ⟨n,d,en,ed,hn,hd,hp,by exact_mod_cast h3⟩
  rintro ⟨n,d,h⟩;rw [h.en,h.ed,tF h.hn,tF h.hd];simp only [Bool.not_true,Bool.or_false,cond_false,dB,Bool.and_eq_true,decide_eq_true_eq,kN h.hd];refine ⟨Int.sign_pos_iff.2 h.pos,?_⟩;rw [yS h.hn h.hd,h.cop];rfl
theorem FK (v:Int):v.fdiv 1=v:=by rw [Int.fdiv_eq_ediv_of_nonneg _ dd_];exact Int.ediv_one v
theorem VN {n d:Int} (hn:dF n) (hd:dF d) (hp:0<d) (hc:Int.gcd n d=1):aY (E (Z.of n)) (E (Z.of d))=⟨E (Z.of n),E (Z.of d)⟩:=by
  unfold aY
  have h1:((Z.signW (E (Z.of d)).dec).1==0)=false:=by rw [dB,kN hd,Int.sign_eq_one_of_pos hp];rfl
  have h2:decide ((Z.signW (E (Z.of d)).dec).1<0)=false:=by rw [dB,kN hd,Int.sign_eq_one_of_pos hp];rfl
  rw [tF hn,tF hd,h1,h2,dB,dB,yS hn hd,hc];simp only [Bool.not_true,Bool.or_false,cond_false];rw [show ((1:Nat):Int)=1 from rfl,yZ hn B1 dd_,yZ hd B1 dd_,FK,FK]
theorem O8 (b:I):aY (E Z.bad) b=gM:=by unfold aY;rw [IX];rfl
theorem O9 (a:I):aY a (E Z.bad)=gM:=by
  unfold aY;rw [IX]
  cases a.1.good <;> rfl
theorem zK {u g:Int} (hg:0<g):u.fdiv g=u / g:=Int.fdiv_eq_ediv_of_nonneg _ (Int.le_of_lt hg)
theorem W0 {u g:Int} (hu:dF u) (hg:0<g) (hd:g ∣ u):dF (u / g):=by
  obtain ⟨k,rfl⟩:=hd;rw [Int.mul_ediv_cancel_left _ oo_];refine Nat.lt_of_le_of_lt ?_ hu;rw [Int.natAbs_mul];exact Nat.le_mul_of_pos_left _ oo_
theorem I7 {n d:Int} (hn:dF n) (hd:dF d) (hp:0<d) :
    aY (E (Z.of n)) (E (Z.of d))=⟨E (Z.of (n / (Int.gcd n d:Nat))),E (Z.of (d / (Int.gcd n d:Nat)))⟩:=by
  unfold aY
  have h1:((Z.signW (E (Z.of d)).dec).1==0)=false:=by rw [dB,kN hd,Int.sign_eq_one_of_pos hp];rfl
  have h2:decide ((Z.signW (E (Z.of d)).dec).1<0)=false:=by rw [dB,kN hd,Int.sign_eq_one_of_pos hp];rfl
  have hg:0<((Int.gcd n d:Nat):Int):=by
    have:=Int.gcd_pos_of_ne_zero_right n (show d≠0 by omega);omega
  have hb:=IP (u:=n) hd oo_;rw [tF hn,tF hd,h1,h2,dB,dB,yS hn hd];simp only [Bool.not_true,Bool.or_false,cond_false];rw [yZ hn hb oo_,yZ hd hb oo_,zK hg,zK hg]
theorem wY {n d:Int} (hn:dF n) (hd:dF d) (hp:0<d):Rt.Is (aY (E (Z.of n)) (E (Z.of d))) (n / (Int.gcd n d:Nat)) (d / (Int.gcd n d:Nat)):=by
  have hg:0<((Int.gcd n d:Nat):Int):=by
    have:=Int.gcd_pos_of_ne_zero_right n (show d≠0 by omega);omega
  have d1:((Int.gcd n d:Nat):Int) ∣ n:=Int.gcd_dvd_left ..;have d2:((Int.gcd n d:Nat):Int) ∣ d:=Int.gcd_dvd_right ..;rw [I7 hn hd hp];refine ⟨rfl,rfl,W0 hn hg d1,W0 hd hg d2,Int.ediv_pos_of_pos_of_dvd hp oo_ d2,?_⟩;rw [Int.gcd_ediv d1 d2,Int.natAbs_natCast,Nat.div_self oo_]
theorem H4 {a b:Rt} {n d m e:Int} (ha:a.Is n d) (hb:b.Is m e) :
    ∃ p q r s:Int,aY a.n b.d=⟨E (Z.of p),E (Z.of q)⟩∧aY b.n a.d=⟨E (Z.of r),E (Z.of s)⟩∧dF p∧dF q∧dF r∧dF s∧0<q∧0<s∧Int.gcd (p * r) (q * s)=1∧n * m * (q * s)=p * r * (d * e):=by
  have h1:=wY ha.hn hb.hd hb.pos;have h2:=wY hb.hn ha.hd ha.pos;have g1:((Int.gcd n e:Nat):Int) ∣ n:=Int.gcd_dvd_left ..;have g2:((Int.gcd n e:Nat):Int) ∣ e:=Int.gcd_dvd_right ..;have g3:((Int.gcd m d:Nat):Int) ∣ m:=Int.gcd_dvd_left ..;have g4:((Int.gcd m d:Nat):Int) ∣ d:=Int.gcd_dvd_right ..;refine ⟨n / (Int.gcd n e:Nat),e / (Int.gcd n e:Nat),m / (Int.gcd m d:Nat),d / (Int.gcd m d:Nat),?_,?_,h1.hn,h1.hd,h2.hn,h2.hd,h1.pos,h2.pos,?_,?_⟩
  · rw [ha.en,hb.ed];exact Rt.ext h1.en h1.ed
  · rw [hb.en,ha.ed];exact Rt.ext h2.en h2.ed
  · generalize hG:((Int.gcd n e:Nat):Int)=G at *
    generalize hH:((Int.gcd m d:Nat):Int)=H at *;have c1:Nat.Coprime (n / G).natAbs (e / G).natAbs:=h1.cop;have c2:Nat.Coprime (m / H).natAbs (d / H).natAbs:=h2.cop;have k1:Nat.Coprime n.natAbs d.natAbs:=ha.cop;have k2:Nat.Coprime m.natAbs e.natAbs:=hb.cop;have d1:(n / G).natAbs ∣ n.natAbs:=Int.natAbs_dvd_natAbs.2 (Int.ediv_dvd_of_dvd g1);have d2:(e / G).natAbs ∣ e.natAbs:=Int.natAbs_dvd_natAbs.2 (Int.ediv_dvd_of_dvd g2);have d3:(m / H).natAbs ∣ m.natAbs:=Int.natAbs_dvd_natAbs.2 (Int.ediv_dvd_of_dvd g3);have d4:(d / H).natAbs ∣ d.natAbs:=Int.natAbs_dvd_natAbs.2 (Int.ediv_dvd_of_dvd g4)
    show Nat.gcd (n / G * (m / H)).natAbs (e / G * (d / H)).natAbs=1
    rw [Int.natAbs_mul,Int.natAbs_mul];have x1:Nat.Coprime (n / G).natAbs (d / H).natAbs:=(k1.coprime_dvd_left d1).coprime_dvd_right d4;have x2:Nat.Coprime (m / H).natAbs (e / G).natAbs:=(k2.coprime_dvd_left d3).coprime_dvd_right d2;exact (Nat.Coprime.mul_right c1 x1).mul_left (Nat.Coprime.mul_right x2 c2)
  obtain ⟨x,hx⟩:=g1;obtain ⟨y,hy⟩:=g2;obtain ⟨z,hz⟩:=g3;obtain ⟨t,ht⟩:=g4
  have p1:0<((Int.gcd n e:Nat):Int):=by have:=Int.gcd_pos_of_ne_zero_right n (show e≠0 by have:=hb.pos;omega);omega
  have p2:0<((Int.gcd m d:Nat):Int):=by have:=Int.gcd_pos_of_ne_zero_right m (show d≠0 by have:=ha.pos;omega);omega
  generalize ((Int.gcd n e:Nat):Int)=G at *;generalize ((Int.gcd m d:Nat):Int)=H at *
  have q1:n / G=x:=by rw [hx];exact Int.mul_ediv_cancel_left _ oo_
  have q2:e / G=y:=by rw [hy];exact Int.mul_ediv_cancel_left _ oo_
  have q3:m / H=z:=by rw [hz];exact Int.mul_ediv_cancel_left _ oo_
  have q4:d / H=t:=by rw [ht];exact Int.mul_ediv_cancel_left _ oo_
  rw [q1,q2,q3,q4,hx,hy,hz,ht];grind
theorem X5 (a b:Rt):fZ a b=jL a b:=by
  unfold fZ jL;rw [oR,oR,KQ,y8,y8]
  cases hga:aP a <;> cases hgb:aP b <;> simp only [Bool.not_true,Bool.not_false,Bool.or_true,Bool.true_or,Bool.or_false,cond_true,cond_false]
  obtain ⟨n,d,ha⟩:=a8_.1 hga;obtain ⟨m,e,hb⟩:=a8_.1 hgb;obtain ⟨p,q,r,s,e1,e2,hp,hq,hr,hs,q0,s0,hc,_⟩:=H4 ha hb;rw [e1,e2];simp only [dB,n7 hp hr,n7 hq hs]
  by_cases b1:dF (p * r)
  · by_cases b2:dF (q * s)
    · rw [VN b1 b2 (Int.mul_pos q0 s0) hc,QF b1,QF b2];rfl
    rw [SQ b2,O9,YM,Bool.or_true];rfl
  rw [SQ b1,O8];rfl
theorem c7_ {x:I} (h:gdI x=true):∃ v:Int,dF v∧x=E (Z.of v):=LQ (by unfold R.good;exact h)
theorem aa_ {v:Int} (h:dF v):gdI (E (Z.of v))=true:=by have:=tF h;unfold R.good at this;exact this
def vI (x:I):Int:=x.dec.o.getD 0
theorem a1_ {v:Int} (h:dF v):vI (E (Z.of v))=v:=by unfold vI;rw [dB,Z.of_some h];rfl
theorem W8 {x:I} (h:gdI x=true):x=E (Z.of (vI x))∧dF (vI x):=by
  obtain ⟨v,hv,rfl⟩:=c7_ h;rw [a1_ hv];exact ⟨rfl,hv⟩
theorem cP_ {v:Int} (h:dF v):zrI (E (Z.of v))=decide (v=0):=by
  unfold zrI;rw [dB,kN h]
  by_cases h0:v=0
  · subst h0;rfl
  rw [decide_eq_false h0];exact beq_eq_false_iff_ne.2 (fun hs=>h0 (Int.sign_eq_zero_iff_zero.1 hs))
def Rgt (p:List I):Prop:=p=badp∨(p.all gdI=true∧iZ p=p∧p.length≤25)
theorem D5 (l:List I):iZ (iZ l)=iZ l:=by
  suffices ∀ n (l:List I),l.length≤n→iZ (iZ l)=iZ l from this _ l (Nat.le_refl _)
  intro n
  induction n with
  | zero=>intro l h;rw [List.eq_nil_of_length_eq_zero (show l.length=0 by omega)];rfl
  | succ n ih =>
    intro l h;rcases sF l with rfl | ⟨m,x,rfl⟩
    · rfl
    have hs:=pU m x
    cases hx:zrI x
    · rw [hx,cond_false] at hs;rw [hs,hs]
    rw [hx,cond_true] at hs;rw [hs];exact ih m (by simp only [List.length_append,List.length_cons,List.length_nil] at h;omega)
theorem FX {l:List I} (h:l.all gdI=true):(iZ l).all gdI=true:=by
  rw [rJ];rw [List.all_eq_true] at h ⊢;exact fun x hx=>h x (List.mem_of_mem_take hx)
theorem NM (l:List I):Rgt (mkP l):=by
  unfold mkP
  cases h:l.all gdI
  · exact .inl rfl
  simp only [cond_true]
  split
  · rename_i h2;exact .inr ⟨FX h,D5 l,h2⟩
  exact .inl rfl
theorem MS {m:List I} {x:I} (h:iZ (m ++ [x])=m ++ [x]):zrI x=false:=by
  cases hx:zrI x
  · rfl
  rw [pU,hx,cond_true] at h;have:=D6 m;rw [h] at this;simp only [List.length_append,List.length_cons,List.length_nil] at this;omega
theorem jE (l:List W):Rgt (bU l):=by unfold bU;rw [AD];exact NM _
theorem jS (p q:List I):Rgt (aN p q):=by
  unfold aN
  cases (dQ p||dQ q)
  · simp only [cond_false]
    cases ((((p.length:Nat):Int)==0)||(((q.length:Nat):Int)==0))
    · rw [cond_false,tW];exact NM _
    exact .inr ⟨rfl,rfl,Nat.zero_le _⟩
  exact .inl rfl
end Go.Num

namespace Go.Proofs.YtbjlhfochebmiaaGreatDoor
open Go.Kn Go.Num
attribute [local irreducible] Go.Kn.W WL PL OpQ OpR OpS
theorem tK (h:Path) (w:World)  :
    Calls Tryz.prog 20 [AV [cw h.from_.x.x.1,cw h.from_.x.y.1,cw h.from_.x.z.1,cw h.from_.q.x.1,cw h.from_.q.y.1,cw h.from_.q.z.1,cw h.from_.q.t.1,cw h.to_.x.x.1,cw h.to_.x.y.1,cw h.to_.x.z.1,cw h.to_.q.x.1,cw h.to_.q.y.1,cw h.to_.q.z.1,cw h.to_.q.t.1]].toArray w (fun e w'=>∃ v1 v2 v3 v4,e = .returned (.agg #[v1,v2,v3,v4])∧Ext w w'∧SloN w w' 33 elI [v1,v2,v3,v4] [(aF h).x,(aF h).y,(aF h).z,(aF h).t]):=by
 refine AZ (n:=38) (fun v1 v2 v3 v4=>.agg #[v1,v2,v3,v4]) Tryz.func20 rfl rfl (by simp) ?_;obtain ⟨w0,rfl⟩:∃ w0,w0=w:=⟨_,rfl⟩;simp only [bA,Nat.reduceAdd];refine go2 ?_;intro b1 hb1;refine go_ ?_;intro b2 hb2;refine x9 ?_;refine sQ (aZ W7 (w5 h.from_.q h.to_.q) rfl) rfl (go2 ?_);refine aK _ rfl (fun h3=>?_) (fun h3=>?_)
 ·have ph3:=of_decide_eq_true h3;refine go5 ?_;intro b4 hb4;refine go9 ?_;refine qQ 6 (go2 ?_);refine sV (.bool true) rfl rfl (C4 ?_);refine sV (.int .i64 ((W.mul (wl (-1)) h.to_.q.x).1)) rfl rfl ?_;refine go_ ?_;refine sV (.int .i64 ((W.sub (W.mul (wl (-1)) h.to_.q.x) h.from_.q.x).1)) rfl rfl ?_;refine aU rfl (bW [[cw h.from_.q.x.1],[cw ((W.sub (W.mul (wl (-1)) h.to_.q.x) h.from_.q.x).1)]] [cw h.from_.q.x.1,cw ((W.sub (W.mul (wl (-1)) h.to_.q.x) h.from_.q.x).1)] fW z_3 lE rfl dd_ rfl rfl ⟨rfl,rfl,rfl,rfl,rfl,rfl,trivial⟩ rfl (fun b5 hb5=>?_));refine aU rfl (bK (E:=33) (e:=elI) (l:=(bU [h.from_.q.x,(W.sub (W.mul (wl (-1)) h.to_.q.x) h.from_.q.x)])) (fun v=>v) wR rfl (fun w hw=>jD _ [h.from_.q.x,(W.sub (W.mul (wl (-1)) h.to_.q.x) h.from_.q.x)] w (SLe.ap hw (SLe.lit (e:=elW) (l:=[h.from_.q.x,(W.sub (W.mul (wl (-1)) h.to_.q.x) h.from_.q.x)]) m0 rfl (Nat.le_of_ble_eq_true rfl) rfl)) o3_) (fun p6 c7 L8 hF9=>?_));have hb10:=(f7 [h.from_.q.x,(W.sub (W.mul (wl (-1)) h.to_.q.x) h.from_.q.x)]);have hr11:=(jE [h.from_.q.x,(W.sub (W.mul (wl (-1)) h.to_.q.x) h.from_.q.x)]);refine go4 ?_;refine sV (.int .i64 1) rfl rfl (go4 ?_);refine sV (.bool true) rfl rfl (C4 ?_);refine sV (.int .i64 ((W.mul (wl (-1)) h.to_.q.y).1)) rfl rfl ?_;refine go_ ?_;refine sV (.int .i64 ((W.sub (W.mul (wl (-1)) h.to_.q.y) h.from_.q.y).1)) rfl rfl ?_;refine aU rfl (bW [[cw h.from_.q.y.1],[cw ((W.sub (W.mul (wl (-1)) h.to_.q.y) h.from_.q.y).1)]] [cw h.from_.q.y.1,cw ((W.sub (W.mul (wl (-1)) h.to_.q.y) h.from_.q.y).1)] fW z_3 lE rfl dd_ rfl rfl ⟨rfl,rfl,rfl,rfl,rfl,rfl,trivial⟩ rfl (fun b12 hb12=>?_));refine aU rfl (bK (E:=33) (e:=elI) (l:=(bU [h.from_.q.y,(W.sub (W.mul (wl (-1)) h.to_.q.y) h.from_.q.y)])) (fun v=>v) wR rfl (fun w hw=>jD _ [h.from_.q.y,(W.sub (W.mul (wl (-1)) h.to_.q.y) h.from_.q.y)] w (SLe.ap hw (SLe.lit (e:=elW) (l:=[h.from_.q.y,(W.sub (W.mul (wl (-1)) h.to_.q.y) h.from_.q.y)]) m0 rfl (Nat.le_of_ble_eq_true rfl) rfl)) o3_) (fun p13 c14 L15 hF16=>?_));have hb17:=(f7 [h.from_.q.y,(W.sub (W.mul (wl (-1)) h.to_.q.y) h.from_.q.y)]);have hr18:=(jE [h.from_.q.y,(W.sub (W.mul (wl (-1)) h.to_.q.y) h.from_.q.y)]);refine go4 ?_;refine sV (.int .i64 2) rfl rfl (go4 ?_);refine sV (.bool true) rfl rfl (C4 ?_);refine sV (.int .i64 ((W.mul (wl (-1)) h.to_.q.z).1)) rfl rfl ?_;refine go_ ?_;refine sV (.int .i64 ((W.sub (W.mul (wl (-1)) h.to_.q.z) h.from_.q.z).1)) rfl rfl ?_;refine aU rfl (bW [[cw h.from_.q.z.1],[cw ((W.sub (W.mul (wl (-1)) h.to_.q.z) h.from_.q.z).1)]] [cw h.from_.q.z.1,cw ((W.sub (W.mul (wl (-1)) h.to_.q.z) h.from_.q.z).1)] fW z_3 lE rfl dd_ rfl rfl ⟨rfl,rfl,rfl,rfl,rfl,rfl,trivial⟩ rfl (fun b19 hb19=>?_));refine aU rfl (bK (E:=33) (e:=elI) (l:=(bU [h.from_.q.z,(W.sub (W.mul (wl (-1)) h.to_.q.z) h.from_.q.z)])) (fun v=>v) wR rfl (fun w hw=>jD _ [h.from_.q.z,(W.sub (W.mul (wl (-1)) h.to_.q.z) h.from_.q.z)] w (SLe.ap hw (SLe.lit (e:=elW) (l:=[h.from_.q.z,(W.sub (W.mul (wl (-1)) h.to_.q.z) h.from_.q.z)]) m0 rfl (Nat.le_of_ble_eq_true rfl) rfl)) o3_) (fun p20 c21 L22 hF23=>?_));have hb24:=(f7 [h.from_.q.z,(W.sub (W.mul (wl (-1)) h.to_.q.z) h.from_.q.z)]);have hr25:=(jE [h.from_.q.z,(W.sub (W.mul (wl (-1)) h.to_.q.z) h.from_.q.z)]);refine go4 ?_;refine sV (.int .i64 3) rfl rfl (go3 ?_);refine mT (sA (sk (sA (sd (sA (sd (s0))))))) ?_;refine go_ ?_;refine sV (.bool true) rfl rfl (C4 ?_);refine sV (.int .i64 ((W.mul (wl (-1)) h.to_.q.t).1)) rfl rfl ?_;refine go_ ?_;refine sV (.int .i64 ((W.sub (W.mul (wl (-1)) h.to_.q.t) h.from_.q.t).1)) rfl rfl ?_;refine aU rfl (bW [[cw h.from_.q.t.1],[cw ((W.sub (W.mul (wl (-1)) h.to_.q.t) h.from_.q.t).1)]] [cw h.from_.q.t.1,cw ((W.sub (W.mul (wl (-1)) h.to_.q.t) h.from_.q.t).1)] fW z_3 lE rfl dd_ rfl rfl ⟨rfl,rfl,rfl,rfl,rfl,rfl,trivial⟩ rfl (fun b26 hb26=>?_));refine aU rfl (bK (E:=33) (e:=elI) (l:=(bU [h.from_.q.t,(W.sub (W.mul (wl (-1)) h.to_.q.t) h.from_.q.t)])) (fun v=>v) wR rfl (fun w hw=>jD _ [h.from_.q.t,(W.sub (W.mul (wl (-1)) h.to_.q.t) h.from_.q.t)] w (SLe.ap hw (SLe.lit (e:=elW) (l:=[h.from_.q.t,(W.sub (W.mul (wl (-1)) h.to_.q.t) h.from_.q.t)]) m0 rfl (Nat.le_of_ble_eq_true rfl) rfl)) o3_) (fun p27 c28 L29 hF30=>?_));have hb31:=(f7 [h.from_.q.t,(W.sub (W.mul (wl (-1)) h.to_.q.t) h.from_.q.t)]);have hr32:=(jE [h.from_.q.t,(W.sub (W.mul (wl (-1)) h.to_.q.t) h.from_.q.t)]);refine go4 ?_;refine sV (.int .i64 4) rfl rfl (go4 ?_);refine sV (.bool false) rfl rfl (go4 ?_);refine mT (sA (sd (sA (sd (sA (sA (sk (sk (sd (s0)))))))))) ?_;refine go5 ?_;refine aS rfl (.inr rfl) (fB rfl (mA (mA (mA (mA (mC mZ))))) tyT rfl) ?_
  have hE:((⟨(bU [h.from_.q.x,(W.sub (W.mul (wl (-1)) h.to_.q.x) h.from_.q.x)]),(bU [h.from_.q.y,(W.sub (W.mul (wl (-1)) h.to_.q.y) h.from_.q.y)]),(bU [h.from_.q.z,(W.sub (W.mul (wl (-1)) h.to_.q.z) h.from_.q.z)]),(bU [h.from_.q.t,(W.sub (W.mul (wl (-1)) h.to_.q.t) h.from_.q.t)])⟩:(A4 (List I))):(A4 (List I)))=(aF h):=by exact aE h3 rfl
  rw [← hE];exact ⟨_,_,_,_,rfl,az_ hF9 hF16 hF23 hF30 (nT (nT (nT wT))) (nT (nT wT)) (nT wT) wT⟩
 have ph3:=of_decide_eq_false h3;refine go3 ?_;intro b33 hb33;refine go9 ?_;refine qQ 6 (go2 ?_);refine sV (.bool true) rfl rfl (C4 ?_);refine sV (.int .i64 ((W.mul (wl 1) h.to_.q.x).1)) rfl rfl ?_;refine go_ ?_;refine sV (.int .i64 ((W.sub (W.mul (wl 1) h.to_.q.x) h.from_.q.x).1)) rfl rfl ?_;refine aU rfl (bW [[cw h.from_.q.x.1],[cw ((W.sub (W.mul (wl 1) h.to_.q.x) h.from_.q.x).1)]] [cw h.from_.q.x.1,cw ((W.sub (W.mul (wl 1) h.to_.q.x) h.from_.q.x).1)] fW z_3 lE rfl dd_ rfl rfl ⟨rfl,rfl,rfl,rfl,rfl,rfl,trivial⟩ rfl (fun b34 hb34=>?_));refine aU rfl (bK (E:=33) (e:=elI) (l:=(bU [h.from_.q.x,(W.sub (W.mul (wl 1) h.to_.q.x) h.from_.q.x)])) (fun v=>v) wR rfl (fun w hw=>jD _ [h.from_.q.x,(W.sub (W.mul (wl 1) h.to_.q.x) h.from_.q.x)] w (SLe.ap hw (SLe.lit (e:=elW) (l:=[h.from_.q.x,(W.sub (W.mul (wl 1) h.to_.q.x) h.from_.q.x)]) m0 rfl (Nat.le_of_ble_eq_true rfl) rfl)) o3_) (fun p35 c36 L37 hF38=>?_));have hb39:=(f7 [h.from_.q.x,(W.sub (W.mul (wl 1) h.to_.q.x) h.from_.q.x)]);have hr40:=(jE [h.from_.q.x,(W.sub (W.mul (wl 1) h.to_.q.x) h.from_.q.x)]);refine go4 ?_;refine sV (.int .i64 1) rfl rfl (go4 ?_);refine sV (.bool true) rfl rfl (C4 ?_);refine sV (.int .i64 ((W.mul (wl 1) h.to_.q.y).1)) rfl rfl ?_;refine go_ ?_;refine sV (.int .i64 ((W.sub (W.mul (wl 1) h.to_.q.y) h.from_.q.y).1)) rfl rfl ?_;refine aU rfl (bW [[cw h.from_.q.y.1],[cw ((W.sub (W.mul (wl 1) h.to_.q.y) h.from_.q.y).1)]] [cw h.from_.q.y.1,cw ((W.sub (W.mul (wl 1) h.to_.q.y) h.from_.q.y).1)] fW z_3 lE rfl dd_ rfl rfl ⟨rfl,rfl,rfl,rfl,rfl,rfl,trivial⟩ rfl (fun b41 hb41=>?_));refine aU rfl (bK (E:=33) (e:=elI) (l:=(bU [h.from_.q.y,(W.sub (W.mul (wl 1) h.to_.q.y) h.from_.q.y)])) (fun v=>v) wR rfl (fun w hw=>jD _ [h.from_.q.y,(W.sub (W.mul (wl 1) h.to_.q.y) h.from_.q.y)] w (SLe.ap hw (SLe.lit (e:=elW) (l:=[h.from_.q.y,(W.sub (W.mul (wl 1) h.to_.q.y) h.from_.q.y)]) m0 rfl (Nat.le_of_ble_eq_true rfl) rfl)) o3_) (fun p42 c43 L44 hF45=>?_));have hb46:=(f7 [h.from_.q.y,(W.sub (W.mul (wl 1) h.to_.q.y) h.from_.q.y)]);have hr47:=(jE [h.from_.q.y,(W.sub (W.mul (wl 1) h.to_.q.y) h.from_.q.y)]);refine go4 ?_;refine sV (.int .i64 2) rfl rfl (go4 ?_);refine sV (.bool true) rfl rfl (C4 ?_);refine sV (.int .i64 ((W.mul (wl 1) h.to_.q.z).1)) rfl rfl ?_;refine go_ ?_;refine sV (.int .i64 ((W.sub (W.mul (wl 1) h.to_.q.z) h.from_.q.z).1)) rfl rfl ?_;refine aU rfl (bW [[cw h.from_.q.z.1],[cw ((W.sub (W.mul (wl 1) h.to_.q.z) h.from_.q.z).1)]] [cw h.from_.q.z.1,cw ((W.sub (W.mul (wl 1) h.to_.q.z) h.from_.q.z).1)] fW z_3 lE rfl dd_ rfl rfl ⟨rfl,rfl,rfl,rfl,rfl,rfl,trivial⟩ rfl (fun b48 hb48=>?_));refine aU rfl (bK (E:=33) (e:=elI) (l:=(bU [h.from_.q.z,(W.sub (W.mul (wl 1) h.to_.q.z) h.from_.q.z)])) (fun v=>v) wR rfl (fun w hw=>jD _ [h.from_.q.z,(W.sub (W.mul (wl 1) h.to_.q.z) h.from_.q.z)] w (SLe.ap hw (SLe.lit (e:=elW) (l:=[h.from_.q.z,(W.sub (W.mul (wl 1) h.to_.q.z) h.from_.q.z)]) m0 rfl (Nat.le_of_ble_eq_true rfl) rfl)) o3_) (fun p49 c50 L51 hF52=>?_));have hb53:=(f7 [h.from_.q.z,(W.sub (W.mul (wl 1) h.to_.q.z) h.from_.q.z)]);have hr54:=(jE [h.from_.q.z,(W.sub (W.mul (wl 1) h.to_.q.z) h.from_.q.z)]);refine go4 ?_;refine sV (.int .i64 3) rfl rfl (go3 ?_);refine mT (sA (sk (sA (sd (sA (sd (s0))))))) ?_;refine go_ ?_;refine sV (.bool true) rfl rfl (C4 ?_);refine sV (.int .i64 ((W.mul (wl 1) h.to_.q.t).1)) rfl rfl ?_;refine go_ ?_;refine sV (.int .i64 ((W.sub (W.mul (wl 1) h.to_.q.t) h.from_.q.t).1)) rfl rfl ?_;refine aU rfl (bW [[cw h.from_.q.t.1],[cw ((W.sub (W.mul (wl 1) h.to_.q.t) h.from_.q.t).1)]] [cw h.from_.q.t.1,cw ((W.sub (W.mul (wl 1) h.to_.q.t) h.from_.q.t).1)] fW z_3 lE rfl dd_ rfl rfl ⟨rfl,rfl,rfl,rfl,rfl,rfl,trivial⟩ rfl (fun b55 hb55=>?_));refine aU rfl (bK (E:=33) (e:=elI) (l:=(bU [h.from_.q.t,(W.sub (W.mul (wl 1) h.to_.q.t) h.from_.q.t)])) (fun v=>v) wR rfl (fun w hw=>jD _ [h.from_.q.t,(W.sub (W.mul (wl 1) h.to_.q.t) h.from_.q.t)] w (SLe.ap hw (SLe.lit (e:=elW) (l:=[h.from_.q.t,(W.sub (W.mul (wl 1) h.to_.q.t) h.from_.q.t)]) m0 rfl (Nat.le_of_ble_eq_true rfl) rfl)) o3_) (fun p56 c57 L58 hF59=>?_));have hb60:=(f7 [h.from_.q.t,(W.sub (W.mul (wl 1) h.to_.q.t) h.from_.q.t)]);have hr61:=(jE [h.from_.q.t,(W.sub (W.mul (wl 1) h.to_.q.t) h.from_.q.t)]);refine go4 ?_;refine sV (.int .i64 4) rfl rfl (go4 ?_);refine sV (.bool false) rfl rfl (go4 ?_);refine mT (sA (sd (sA (sd (sA (sA (sk (sk (sd (s0)))))))))) ?_;refine go5 ?_;refine aS rfl (.inr rfl) (fB rfl (mA (mA (mA (mA (mC mZ))))) tyT rfl) ?_
 have hE:((⟨(bU [h.from_.q.x,(W.sub (W.mul (wl 1) h.to_.q.x) h.from_.q.x)]),(bU [h.from_.q.y,(W.sub (W.mul (wl 1) h.to_.q.y) h.from_.q.y)]),(bU [h.from_.q.z,(W.sub (W.mul (wl 1) h.to_.q.z) h.from_.q.z)]),(bU [h.from_.q.t,(W.sub (W.mul (wl 1) h.to_.q.t) h.from_.q.t)])⟩:(A4 (List I))):(A4 (List I)))=(aF h):=by exact aM h3 rfl
 rw [← hE];exact ⟨_,_,_,_,rfl,az_ hF38 hF45 hF52 hF59 (nT (nT (nT wT))) (nT (nT wT)) (nT wT) wT⟩

theorem jF (n:W) (bl Tl:Nat) (p_l0:Option Addr) (c_l0:Nat) (l0:(List I)) (p_l1:Option Addr) (c_l1:Nat) (l1:(List I)) (p_l2:Option Addr) (c_l2:Nat) (l2:(List I)) (p_l3:Option Addr) (c_l3:Nat) (l3:(List I)) (w:World) (hbl:w.heap[bl]? = some (.cells (dC [csl p_l0 l0.length c_l0,csl p_l1 l1.length c_l1,csl p_l2 l2.length c_l2,csl p_l3 l3.length c_l3]).toArray Tl (0,0))) (hl0:Slr w elI (.slice p_l0 l0.length c_l0) l0) (hl1:Slr w elI (.slice p_l1 l1.length c_l1) l1) (hl2:Slr w elI (.slice p_l2 l2.length c_l2) l2) (hl3:Slr w elI (.slice p_l3 l3.length c_l3) l3) (hpre:l0.length≤100∧l1.length≤100∧l2.length≤100∧l3.length≤100) :
    Calls Tryz.prog 66 [.int .i64 n.1,.slice (some ⟨bl,0,none⟩) 4 4].toArray w (fun e w'=>∃ v,e = .returned (v)∧Ext w w'∧Slo w.heap.size w' 33 elI v (bS n l0 l1 l2 l3)):=by
 refine fD (n:=30) (fun v=>v) Tryz.func66 rfl rfl (by simp) ?_;obtain ⟨w0,rfl⟩:∃ w0,w0=w:=⟨_,rfl⟩;have Hl0:=hl0.old;have hm_l0:=hl0.max;have Hl1:=hl1.old;have hm_l1:=hl1.max;have Hl2:=hl2.old;have hm_l2:=hl2.max;have Hl3:=hl3.old;have hm_l3:=hl3.max;simp only [bA,Nat.reduceAdd];refine AI ?_;refine qQ 4 (go4 ?_);refine sV (.int .i64 1) rfl rfl (go_ ?_);refine sQ (aI (v':=.int .i64 4) (vW lD rfl) rfl) rfl (sV (.bool true) rfl rfl (go5 ?_));refine gdr sn [0,4,8,12,16,20,24,28,32,36,41,45,48] [] mix (by kernel_rfl) (go3 ?_);refine pQ rfl (nV (off':=0) (lU lD rfl rfl dd_ dd_) rfl) (pQ rfl (hZ (v:=.slice p_l0 l0.length c_l0) tyT rfl hbl (by simp) rfl) ?_);refine go2 ?_;refine pV (.int .i64 1) rfl rfl (pQ rfl (nV (off':=1) (lU lD rfl rfl dd_ dd_) rfl) (pQ rfl (hZ (v:=.slice p_l1 l1.length c_l1) tyT rfl hbl (by simp) rfl) ?_));refine cS rfl rfl (bK (E:=33) (e:=elI) (l:=(aN l0 l1)) (fun v=>v) zH rfl (fun w hw=>jR _ l0 _ l1 w (aR hw Hl0 sn) (aR hw Hl1 sn) oo_) (fun p1 c2 L3 hF4=>⟨(fun _=>sR s0),sn,?_⟩));have hb5:=(jQ l0 l1);have hr6:=(jS l0 l1);refine cS rfl rfl (bK (E:=33) (e:=elI) (l:=(aT ([]:List I) (aN l0 l1))) (fun v=>v) rX rfl (fun w hw=>fI _ ([]:List I) _ (aN l0 l1) w (SLe.ap hw (SLfe.sle SLfe.nil)) (aO hw hF4 lZ) o3_) (fun p7 c8 L9 hF10=>⟨(fun _=>sR s0),sn,?_⟩));have hb11:=(eF ([]:List I) (aN l0 l1));refine go4 ?_;refine sV (.int .i64 2) rfl rfl (go6 ?_);refine sV (.int .i64 3) rfl rfl (go_ ?_);refine sQ (aI (v':=.int .i64 4) (vW lD rfl) rfl) rfl (sV (.bool true) rfl rfl (go5 ?_));refine gdr s0 [0,4,8,12,16,20,24,28,32,36,41,45,48] [] mix (by kernel_rfl) (go3 ?_);refine pQ rfl (nV (off':=2) (lU lD rfl rfl dd_ dd_) rfl) (pQ rfl (hZ (v:=.slice p_l2 l2.length c_l2) tyT rfl hbl (by simp) rfl) ?_);refine go2 ?_;refine pV (.int .i64 3) rfl rfl (pQ rfl (nV (off':=3) (lU lD rfl rfl dd_ dd_) rfl) (pQ rfl (hZ (v:=.slice p_l3 l3.length c_l3) tyT rfl hbl (by simp) rfl) ?_));refine cS rfl rfl (bK (E:=33) (e:=elI) (l:=(aN l2 l3)) (fun v=>v) zH rfl (fun w hw=>jR _ l2 _ l3 w (aR hw Hl2 sn) (aR hw Hl3 sn) oo_) (fun p12 c13 L14 hF15=>⟨(fun _=>sR s0),(sR s0),?_⟩));have hb16:=(jQ l2 l3);have hr17:=(jS l2 l3);refine cS rfl rfl (bK (E:=33) (e:=elI) (l:=(aT (aT ([]:List I) (aN l0 l1)) (aN l2 l3))) (fun v=>v) rX rfl (fun w hw=>fI _ (aT ([]:List I) (aN l0 l1)) _ (aN l2 l3) w (aO hw hF10 (sR lZ)) (aO hw hF15 lZ) o3_) (fun p18 c19 L20 hF21=>⟨(fun _=>sR s0),(sR (sR s0)),?_⟩));have hb22:=(eF (aT ([]:List I) (aN l0 l1)) (aN l2 l3));refine go4 ?_;refine sV (.int .i64 4) rfl rfl (go6 ?_);refine sV (.int .i64 5) rfl rfl (go_ ?_);refine sQ (aI (v':=.int .i64 4) (vW lD rfl) rfl) rfl (sV (.bool false) rfl rfl (go3 ?_));refine mT (sA (sR (sR (sR (s0))))) ?_;refine go3 ?_;refine sC (AV [pI (E (Z.of n.1))]) kW (cN n.1 n.2) rfl rfl rfl (aU rfl (bK (E:=33) (e:=elI) (l:=(bO (aT (aT ([]:List I) (aN l0 l1)) (aN l2 l3)) (E (Z.of n.1)))) (fun v=>v) vR rfl (fun w hw=>fK _ (aT (aT ([]:List I) (aN l0 l1)) (aN l2 l3)) (E (Z.of n.1)) w (aO hw hF21 lZ) o3_) (fun p23 c24 L25 hF26=>?_)));have hb27:=(eT (aT (aT ([]:List I) (aN l0 l1)) (aN l2 l3)) (E (Z.of n.1)));refine go3 ?_;refine aS rfl (.inr rfl) rfl ?_
 have hE:((bO (aT (aT ([]:List I) (aN l0 l1)) (aN l2 l3)) (E (Z.of n.1))):(List I))=(bS n l0 l1 l2 l3):=by exact rfl
 rw [← hE];exact ⟨_,rfl,⟨L25,lZ,hF26⟩⟩

theorem DK (n:W) (bl Tl:Nat) (p_l0:Option Addr) (c_l0:Nat) (l0:(List I)) (p_l1:Option Addr) (c_l1:Nat) (l1:(List I)) (p_l2:Option Addr) (c_l2:Nat) (l2:(List I)) (p_l3:Option Addr) (c_l3:Nat) (l3:(List I)) (p_l4:Option Addr) (c_l4:Nat) (l4:(List I)) (p_l5:Option Addr) (c_l5:Nat) (l5:(List I)) (p_l6:Option Addr) (c_l6:Nat) (l6:(List I)) (p_l7:Option Addr) (c_l7:Nat) (l7:(List I)) (w:World) (hbl:w.heap[bl]? = some (.cells (dC [csl p_l0 l0.length c_l0,csl p_l1 l1.length c_l1,csl p_l2 l2.length c_l2,csl p_l3 l3.length c_l3,csl p_l4 l4.length c_l4,csl p_l5 l5.length c_l5,csl p_l6 l6.length c_l6,csl p_l7 l7.length c_l7]).toArray Tl (0,0))) (hl0:Slr w elI (.slice p_l0 l0.length c_l0) l0) (hl1:Slr w elI (.slice p_l1 l1.length c_l1) l1) (hl2:Slr w elI (.slice p_l2 l2.length c_l2) l2) (hl3:Slr w elI (.slice p_l3 l3.length c_l3) l3) (hl4:Slr w elI (.slice p_l4 l4.length c_l4) l4) (hl5:Slr w elI (.slice p_l5 l5.length c_l5) l5) (hl6:Slr w elI (.slice p_l6 l6.length c_l6) l6) (hl7:Slr w elI (.slice p_l7 l7.length c_l7) l7) (hpre:l0.length≤100∧l1.length≤100∧l2.length≤100∧l3.length≤100∧l4.length≤100∧l5.length≤100∧l6.length≤100∧l7.length≤100) :
    Calls Tryz.prog 66 [.int .i64 n.1,.slice (some ⟨bl,0,none⟩) 8 8].toArray w (fun e w'=>∃ v,e = .returned (v)∧Ext w w'∧Slo w.heap.size w' 33 elI v (jP n l0 l1 l2 l3 l4 l5 l6 l7)):=by
 refine fD (n:=30) (fun v=>v) Tryz.func66 rfl rfl (by simp) ?_;obtain ⟨w0,rfl⟩:∃ w0,w0=w:=⟨_,rfl⟩;have Hl0:=hl0.old;have hm_l0:=hl0.max;have Hl1:=hl1.old;have hm_l1:=hl1.max;have Hl2:=hl2.old;have hm_l2:=hl2.max;have Hl3:=hl3.old;have hm_l3:=hl3.max;have Hl4:=hl4.old;have hm_l4:=hl4.max;have Hl5:=hl5.old;have hm_l5:=hl5.max;have Hl6:=hl6.old;have hm_l6:=hl6.max;have Hl7:=hl7.old;have hm_l7:=hl7.max;simp only [bA,Nat.reduceAdd];refine AI ?_;refine qQ 6 (go4 ?_);refine sV (.int .i64 1) rfl rfl (go_ ?_);refine sQ (aI (v':=.int .i64 8) (vW lD rfl) rfl) rfl (sV (.bool true) rfl rfl (go5 ?_));refine gdr sn [0,4,8,12,16,20,24,28,32,36,41,45,48] [] mix (by kernel_rfl) (go3 ?_);refine pQ rfl (nV (off':=0) (lU lD rfl rfl dd_ dd_) rfl) (pQ rfl (hZ (v:=.slice p_l0 l0.length c_l0) tyT rfl hbl (by simp) rfl) ?_);refine go2 ?_;refine pV (.int .i64 1) rfl rfl (pQ rfl (nV (off':=1) (lU lD rfl rfl dd_ dd_) rfl) (pQ rfl (hZ (v:=.slice p_l1 l1.length c_l1) tyT rfl hbl (by simp) rfl) ?_));refine cS rfl rfl (bK (E:=33) (e:=elI) (l:=(aN l0 l1)) (fun v=>v) zH rfl (fun w hw=>jR _ l0 _ l1 w (aR hw Hl0 sn) (aR hw Hl1 sn) oo_) (fun p1 c2 L3 hF4=>⟨(fun _=>sR s0),sn,?_⟩));have hb5:=(jQ l0 l1);have hr6:=(jS l0 l1);refine cS rfl rfl (bK (E:=33) (e:=elI) (l:=(aT ([]:List I) (aN l0 l1))) (fun v=>v) rX rfl (fun w hw=>fI _ ([]:List I) _ (aN l0 l1) w (SLe.ap hw (SLfe.sle SLfe.nil)) (aO hw hF4 lZ) o3_) (fun p7 c8 L9 hF10=>⟨(fun _=>sR s0),sn,?_⟩));have hb11:=(eF ([]:List I) (aN l0 l1));refine go4 ?_;refine sV (.int .i64 2) rfl rfl (go6 ?_);refine sV (.int .i64 3) rfl rfl (go_ ?_);refine sQ (aI (v':=.int .i64 8) (vW lD rfl) rfl) rfl (sV (.bool true) rfl rfl (go5 ?_));refine gdr s0 [0,4,8,12,16,20,24,28,32,36,41,45,48] [] mix (by kernel_rfl) (go3 ?_);refine pQ rfl (nV (off':=2) (lU lD rfl rfl dd_ dd_) rfl) (pQ rfl (hZ (v:=.slice p_l2 l2.length c_l2) tyT rfl hbl (by simp) rfl) ?_);refine go2 ?_;refine pV (.int .i64 3) rfl rfl (pQ rfl (nV (off':=3) (lU lD rfl rfl dd_ dd_) rfl) (pQ rfl (hZ (v:=.slice p_l3 l3.length c_l3) tyT rfl hbl (by simp) rfl) ?_));refine cS rfl rfl (bK (E:=33) (e:=elI) (l:=(aN l2 l3)) (fun v=>v) zH rfl (fun w hw=>jR _ l2 _ l3 w (aR hw Hl2 sn) (aR hw Hl3 sn) oo_) (fun p12 c13 L14 hF15=>⟨(fun _=>sR s0),(sR s0),?_⟩));have hb16:=(jQ l2 l3);have hr17:=(jS l2 l3);refine cS rfl rfl (bK (E:=33) (e:=elI) (l:=(aT (aT ([]:List I) (aN l0 l1)) (aN l2 l3))) (fun v=>v) rX rfl (fun w hw=>fI _ (aT ([]:List I) (aN l0 l1)) _ (aN l2 l3) w (aO hw hF10 (sR lZ)) (aO hw hF15 lZ) o3_) (fun p18 c19 L20 hF21=>⟨(fun _=>sR s0),(sR (sR s0)),?_⟩));have hb22:=(eF (aT ([]:List I) (aN l0 l1)) (aN l2 l3));refine go4 ?_;refine sV (.int .i64 4) rfl rfl (go6 ?_);refine sV (.int .i64 5) rfl rfl (go_ ?_);refine sQ (aI (v':=.int .i64 8) (vW lD rfl) rfl) rfl (sV (.bool true) rfl rfl (go5 ?_));refine gdr s0 [0,4,8,12,16,20,24,28,32,36,41,45,48] [] mix (by kernel_rfl) (go3 ?_);refine pQ rfl (nV (off':=4) (lU lD rfl rfl dd_ dd_) rfl) (pQ rfl (hZ (v:=.slice p_l4 l4.length c_l4) tyT rfl hbl (by simp) rfl) ?_);refine go2 ?_;refine pV (.int .i64 5) rfl rfl (pQ rfl (nV (off':=5) (lU lD rfl rfl dd_ dd_) rfl) (pQ rfl (hZ (v:=.slice p_l5 l5.length c_l5) tyT rfl hbl (by simp) rfl) ?_));refine cS rfl rfl (bK (E:=33) (e:=elI) (l:=(aN l4 l5)) (fun v=>v) zH rfl (fun w hw=>jR _ l4 _ l5 w (aR hw Hl4 sn) (aR hw Hl5 sn) oo_) (fun p23 c24 L25 hF26=>⟨(fun _=>sR s0),(sR s0),?_⟩));have hb27:=(jQ l4 l5);have hr28:=(jS l4 l5);refine cS rfl rfl (bK (E:=33) (e:=elI) (l:=(aT (aT (aT ([]:List I) (aN l0 l1)) (aN l2 l3)) (aN l4 l5))) (fun v=>v) rX rfl (fun w hw=>fI _ (aT (aT ([]:List I) (aN l0 l1)) (aN l2 l3)) _ (aN l4 l5) w (aO hw hF21 (sR lZ)) (aO hw hF26 lZ) o3_) (fun p29 c30 L31 hF32=>⟨(fun _=>sR s0),(sR (sR s0)),?_⟩));have hb33:=(eF (aT (aT ([]:List I) (aN l0 l1)) (aN l2 l3)) (aN l4 l5));refine go4 ?_;refine sV (.int .i64 6) rfl rfl (go3 ?_);refine mT (sA (sA (sA (sR (sR (sR (s0))))))) ?_;refine go3 ?_;refine sV (.int .i64 7) rfl rfl (go_ ?_);refine sQ (aI (v':=.int .i64 8) (vW lD rfl) rfl) rfl (sV (.bool true) rfl rfl (go5 ?_));refine gdr s0 [0,4,8,12,16,20,24,28,32,36,41,45,48] [] mix (by kernel_rfl) (go3 ?_);refine pQ rfl (nV (off':=6) (lU lD rfl rfl dd_ dd_) rfl) (pQ rfl (hZ (v:=.slice p_l6 l6.length c_l6) tyT rfl hbl (by simp) rfl) ?_);refine go2 ?_;refine pV (.int .i64 7) rfl rfl (pQ rfl (nV (off':=7) (lU lD rfl rfl dd_ dd_) rfl) (pQ rfl (hZ (v:=.slice p_l7 l7.length c_l7) tyT rfl hbl (by simp) rfl) ?_));refine cS rfl rfl (bK (E:=33) (e:=elI) (l:=(aN l6 l7)) (fun v=>v) zH rfl (fun w hw=>jR _ l6 _ l7 w (aR hw Hl6 sn) (aR hw Hl7 sn) oo_) (fun p34 c35 L36 hF37=>⟨(fun _=>sR s0),(sR s0),?_⟩));have hb38:=(jQ l6 l7);have hr39:=(jS l6 l7);refine cS rfl rfl (bK (E:=33) (e:=elI) (l:=(aT (aT (aT (aT ([]:List I) (aN l0 l1)) (aN l2 l3)) (aN l4 l5)) (aN l6 l7))) (fun v=>v) rX rfl (fun w hw=>fI _ (aT (aT (aT ([]:List I) (aN l0 l1)) (aN l2 l3)) (aN l4 l5)) _ (aN l6 l7) w (aO hw hF32 (sR lZ)) (aO hw hF37 lZ) o3_) (fun p40 c41 L42 hF43=>⟨(fun _=>sR s0),(sR (sR s0)),?_⟩));have hb44:=(eF (aT (aT (aT ([]:List I) (aN l0 l1)) (aN l2 l3)) (aN l4 l5)) (aN l6 l7));refine go4 ?_;refine sV (.int .i64 8) rfl rfl (go3 ?_);refine mT (sA (sA (sA (sR (sR (s0)))))) ?_;refine go3 ?_;refine sV (.int .i64 9) rfl rfl (go_ ?_);refine sQ (aI (v':=.int .i64 8) (vW lD rfl) rfl) rfl (sV (.bool false) rfl rfl (go6 ?_));refine sC (AV [pI (E (Z.of n.1))]) kW (cN n.1 n.2) rfl rfl rfl (aU rfl (bK (E:=33) (e:=elI) (l:=(bO (aT (aT (aT (aT ([]:List I) (aN l0 l1)) (aN l2 l3)) (aN l4 l5)) (aN l6 l7)) (E (Z.of n.1)))) (fun v=>v) vR rfl (fun w hw=>fK _ (aT (aT (aT (aT ([]:List I) (aN l0 l1)) (aN l2 l3)) (aN l4 l5)) (aN l6 l7)) (E (Z.of n.1)) w (aO hw hF43 lZ) o3_) (fun p45 c46 L47 hF48=>?_)));have hb49:=(eT (aT (aT (aT (aT ([]:List I) (aN l0 l1)) (aN l2 l3)) (aN l4 l5)) (aN l6 l7)) (E (Z.of n.1)));refine go3 ?_;refine aS rfl (.inr rfl) rfl ?_
 have hE:((bO (aT (aT (aT (aT ([]:List I) (aN l0 l1)) (aN l2 l3)) (aN l4 l5)) (aN l6 l7)) (E (Z.of n.1))):(List I))=(jP n l0 l1 l2 l3 l4 l5 l6 l7):=by exact rfl
 rw [← hE];exact ⟨_,rfl,⟨L47,lZ,hF48⟩⟩
end Go.Proofs.YtbjlhfochebmiaaGreatDoor


namespace Go.Num
open Go Go.Kn
theorem o4 (a:Path):(aF a).x.length≤25:=by unfold aF;cases decide ((i6 a.from_.q a.to_.q).1<0) <;> exact f7 _
theorem o5 (a:Path):(aF a).y.length≤25:=by unfold aF;cases decide ((i6 a.from_.q a.to_.q).1<0) <;> exact f7 _
theorem o6 (a:Path):(aF a).z.length≤25:=by unfold aF;cases decide ((i6 a.from_.q a.to_.q).1<0) <;> exact f7 _
theorem o0 (a:Path):(aF a).t.length≤25:=by unfold aF;cases decide ((i6 a.from_.q a.to_.q).1<0) <;> exact f7 _
theorem jX (n:W) (a b c d:List I):(bS n a b c d).length≤25:=by unfold bS;exact eT _ _
theorem yE (n:W) (a b c d e f g h:List I):(jP n a b c d e f g h).length≤25:=by unfold jP;exact eT _ _
end Go.Num

namespace Go.Proofs.YtbjlhfochebmiaaGreatDoor
open Go.Kn Go.Num
attribute [local irreducible] Go.Kn.W WL PL OpQ OpR OpS
theorem j2 (h:Path) (w:World)  :
    Calls Tryz.prog 25 [AV [cw h.from_.x.x.1,cw h.from_.x.y.1,cw h.from_.x.z.1,cw h.from_.q.x.1,cw h.from_.q.y.1,cw h.from_.q.z.1,cw h.from_.q.t.1,cw h.to_.x.x.1,cw h.to_.x.y.1,cw h.to_.x.z.1,cw h.to_.q.x.1,cw h.to_.q.y.1,cw h.to_.q.z.1,cw h.to_.q.t.1]].toArray w (fun e w'=>∃ v,e = .returned (v)∧Ext w w'∧Slo w.heap.size w' 33 elI v (eE h)):=by
 refine fD (n:=24) (fun v=>v) Tryz.func25 rfl rfl (by simp) ?_;obtain ⟨w0,rfl⟩:∃ w0,w0=w:=⟨_,rfl⟩;simp only [bA,Nat.reduceAdd];refine go2 ?_;intro b1 hb1;refine go4 ?_;refine aU rfl (zU (E:=33) (e:=elI) (l1:=(aF h).x) (l2:=(aF h).y) (l3:=(aF h).z) (l4:=(aF h).t) (fun v1 v2 v3 v4=>.agg #[v1,v2,v3,v4]) RI rfl (fun w hw=>tK h w) (fun p2 c3 L4 p6 c7 L8 p10 c11 L12 p14 c15 L16 hF5 hF9 hF13 hF17=>?_));have hb18:((aF h).x).length≤25:=(o4 h);have hb19:((aF h).y).length≤25:=(o5 h);have hb20:((aF h).z).length≤25:=(o6 h);have hb21:((aF h).t).length≤25:=(o0 h);refine go_ ?_;intro b22 hb22;refine ad_ ?_;refine aU rfl (bW [[csl p2 ((aF h).x).length c3],[csl p2 ((aF h).x).length c3],[csl p6 ((aF h).y).length c7],[csl p6 ((aF h).y).length c7],[csl p10 ((aF h).z).length c11],[csl p10 ((aF h).z).length c11],[csl p14 ((aF h).t).length c15],[csl p14 ((aF h).t).length c15]] [csl p2 ((aF h).x).length c3,csl p2 ((aF h).x).length c3,csl p6 ((aF h).y).length c7,csl p6 ((aF h).y).length c7,csl p10 ((aF h).z).length c11,csl p10 ((aF h).z).length c11,csl p14 ((aF h).t).length c15,csl p14 ((aF h).t).length c15] vO H2 z4 rfl dd_ rfl rfl ⟨rfl,rfl,rfl,rfl,rfl,rfl,rfl,rfl,rfl,rfl,rfl,rfl,rfl,rfl,rfl,rfl,rfl,rfl,rfl,rfl,rfl,rfl,rfl,rfl,trivial⟩ rfl (fun b23 hb23=>aU rfl (bK (E:=33) (e:=elI) (l:=(jP (wl 1) ((aF h).x) ((aF h).x) ((aF h).y) ((aF h).y) ((aF h).z) ((aF h).z) ((aF h).t) ((aF h).t))) (fun v=>v) zG rfl (fun w hw=>DK (wl 1) _ _ _ _ ((aF h).x) _ _ ((aF h).x) _ _ ((aF h).y) _ _ ((aF h).y) _ _ ((aF h).z) _ _ ((aF h).z) _ _ ((aF h).t) _ _ ((aF h).t) w (hw.mem _ m0) (aO hw hF5 (sd (sd lZ))) (aO hw hF5 (sd (sd lZ))) (aO hw hF9 (sd (sd (sR lZ)))) (aO hw hF9 (sd (sd (sR lZ)))) (aO hw hF13 (sd (sd (sR (sR lZ))))) (aO hw hF13 (sd (sd (sR (sR lZ))))) (aO hw hF17 (sd (sd (sR (sR (sR lZ)))))) (aO hw hF17 (sd (sd (sR (sR (sR lZ)))))) oo_) (fun p24 c25 L26 hF27=>?_))));have hb28:=(yE (wl 1) ((aF h).x) ((aF h).x) ((aF h).y) ((aF h).y) ((aF h).z) ((aF h).z) ((aF h).t) ((aF h).t));refine go3 ?_;refine aS rfl (.inr rfl) rfl ?_
 have hE:((jP (wl 1) ((aF h).x) ((aF h).x) ((aF h).y) ((aF h).y) ((aF h).z) ((aF h).z) ((aF h).t) ((aF h).t)):(List I))=(eE h):=by exact rfl
 rw [← hE];exact ⟨_,rfl,⟨L26,lZ,hF27⟩⟩

theorem o7 (vx:Value) (x:(List I)) (vy:Value) (y:(List I)) (vz:Value) (z:(List I)) (vu:Value) (u:(List I)) (w:World) (hx:Slr w elI vx x) (hy:Slr w elI vy y) (hz:Slr w elI vz z) (hu:Slr w elI vu u) (hpre:(x.length≤100∧y.length≤100)∧z.length≤100∧u.length≤100) :
    Calls Tryz.prog 64 [vx,vy,vz,vu].toArray w (fun e w'=>∃ v,e = .returned (v)∧Ext w w'∧Slo w.heap.size w' 33 elI v (dY x y z u)):=by
 obtain ⟨p_x,c_x,rfl⟩:=hx.form;obtain ⟨p_y,c_y,rfl⟩:=hy.form;obtain ⟨p_z,c_z,rfl⟩:=hz.form;obtain ⟨p_u,c_u,rfl⟩:=hu.form;refine fD (n:=22) (fun v=>v) Tryz.func64 rfl rfl (by simp) ?_;obtain ⟨w0,rfl⟩:∃ w0,w0=w:=⟨_,rfl⟩;have Hx:=hx.old;have hm_x:=hx.max;have Hy:=hy.old;have hm_y:=hy.max;have Hz:=hz.old;have hm_z:=hz.max;have Hu:=hu.old;have hm_u:=hu.max;simp only [bA,Nat.reduceAdd];refine go8 ?_;refine aU rfl (bW [[csl p_x x.length c_x],[csl p_x x.length c_x],[csl p_y y.length c_y],[csl p_y y.length c_y]] [csl p_x x.length c_x,csl p_x x.length c_x,csl p_y y.length c_y,csl p_y y.length c_y] vO H2 z4 rfl dd_ rfl rfl ⟨rfl,rfl,rfl,rfl,rfl,rfl,rfl,rfl,rfl,rfl,rfl,rfl,trivial⟩ rfl (fun b1 hb1=>aU rfl (bK (E:=33) (e:=elI) (l:=(bS (wl 1) x x y y)) (fun v=>v) zG rfl (fun w hw=>jF (wl 1) _ _ _ _ x _ _ x _ _ y _ _ y w (hw.mem _ m0) (aR hw Hx sn) (aR hw Hx sn) (aR hw Hy sn) (aR hw Hy sn) oo_) (fun p2 c3 L4 hF5=>?_))));have hb6:=(jX (wl 1) x x y y);refine go4 ?_;refine aU rfl (bW [[csl p_z z.length c_z],[csl p_z z.length c_z],[csl p_u u.length c_u],[csl p_u u.length c_u]] [csl p_z z.length c_z,csl p_z z.length c_z,csl p_u u.length c_u,csl p_u u.length c_u] vO H2 z4 rfl dd_ rfl rfl ⟨rfl,rfl,rfl,rfl,rfl,rfl,rfl,rfl,rfl,rfl,rfl,rfl,trivial⟩ rfl (fun b7 hb7=>aU rfl (bK (E:=33) (e:=elI) (l:=(bS (wl 1) z z u u)) (fun v=>v) zG rfl (fun w hw=>jF (wl 1) _ _ _ _ z _ _ z _ _ u _ _ u w (hw.mem _ m0) (aR hw Hz sn) (aR hw Hz sn) (aR hw Hu sn) (aR hw Hu sn) oo_) (fun p8 c9 L10 hF11=>?_))));have hb12:=(jX (wl 1) z z u u);refine aU rfl (bK (E:=33) (e:=elI) (l:=(mO (bS (wl 1) x x y y) (bS (wl 1) z z u u))) (fun v=>v) bB_ rfl (fun w hw=>HC _ (bS (wl 1) x x y y) _ (bS (wl 1) z z u u) w (aO hw hF5 (sR (sd lZ))) (aO hw hF11 lZ) oo_) (fun p13 c14 L15 hF16=>?_));have hb17:=(zQ (bS (wl 1) x x y y) (bS (wl 1) z z u u));refine go3 ?_;refine aS rfl (.inr rfl) rfl ?_
 have hE:((mO (bS (wl 1) x x y y) (bS (wl 1) z z u u)):(List I))=(dY x y z u):=by exact rfl
 rw [← hE];exact ⟨_,rfl,⟨L15,lZ,hF16⟩⟩
end Go.Proofs.YtbjlhfochebmiaaGreatDoor


namespace Go.Num
open Go Go.Kn
theorem iK (h:Path):(eE h).length≤25:=by unfold eE;exact yE _ _ _ _ _ _ _ _ _
theorem pT (x y z w:List I):(dY x y z w).length≤25:=by unfold dY;exact zQ _ _
end Go.Num

