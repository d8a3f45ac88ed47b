/- Lemmas: what they ask stands in their statements. -/
import Derived.Test.YtkjjponijamaoaaGreatDoorYH10xGD
import Derived.Test.YtkjjponijamaoaaGreatDoorYPV
set_option linter.unusedSimpArgs false
set_option linter.unusedVariables false

namespace Go.Num
open Go Go.Kn
theorem W.abs_1 {x:W} (h:x.1 ≠ -9223372036854775808):(W.max x (W.neg x)).1=(x.1.natAbs:Nat):=by
  have h2:=x.2;unfold I64 at h2
  have hn:(W.neg x).1 = -x.1:=by
    show IntKind.i64.wrap (0 - x.1)=_
    rw [wi oo_];omega
  unfold W.max;rw [hn]
  by_cases h3:x.1 < -x.1
  · rw [decide_eq_true h3,cond_true,hn];omega
  rw [decide_eq_false h3,cond_false];omega
theorem jn_ {p q:Int} (hp:0≤p) (hq:0≤q):Int.gcd q (p.tmod q)=Int.gcd p q:=by
  rw [Int.tmod_eq_emod_of_nonneg hp,Int.gcd_comm p q]
  conv=>rhs;rw [← Int.emod_add_mul_ediv p q]
  rw [Int.gcd_add_mul_left_right]
theorem SW {l:List W} {x0:W} {l0:List W} {o:W}:∀ (k:Nat) (p q:W),0≤p.1→0≤q.1→q.1.natAbs<k→(tP l x0 l0 o k p q).1.1=(Int.gcd p.1 q.1:Nat)
  | 0,p,q,_,_,h=>absurd h (Nat.not_lt_zero _)
  | k+1,p,q,hp,hq,h=>by
    rw [tP]
    by_cases h0:q.1=0
    · rw [show (q.1 != 0)=false by simp [h0],cond_false,h0,Int.gcd_zero_right];show p.1=(p.1.natAbs:Nat);omega
    rw [show (q.1 != 0)=true by simp [h0],cond_true];have h1:(W.rem p q).1=p.1.tmod q.1:=rfl;have h2:=W.rem_lt p (q:=q) (by simp [h0]);rw [SW k q (W.rem p q) hq (by rw [h1];exact Int.tmod_nonneg _ hp) oo_,h1,jn_ hp hq]
theorem cp_ {l:List W}:∀ (r:List W) (o:W),0≤o.1→(∀ x∈r,x.1 ≠ -9223372036854775808)→(rX l r o).1=(r.foldl (fun (g:Nat) (x:W)=>Int.gcd g x.1) o.1.natAbs:Nat)
  | [],o,ho,_=>by rw [rX];show o.1=(o.1.natAbs:Nat);omega
  | x :: r,o,ho,h=>by
    rw [rX];have ha:=W.abs_1 (h x List.mem_cons_self);have he:=SW (l:=l) (x0:=x) (l0:=r) (o:=o) ((W.max x (W.neg x)).1.natAbs+1) o (W.max x (W.neg x)) ho (by rw [ha];omega) (Nat.lt_succ_self _)
    show (rX l r (tP l x r o ((W.max x (W.neg x)).1.natAbs+1) o (W.max x (W.neg x))).1).1=_
    rw [cp_ r _ (by rw [he];omega) (fun y hy=>h y (List.mem_cons_of_mem _ hy)),he,ha,List.foldl_cons]
    congr 2
theorem pK_ {l:List W} (h:∀ x∈l,x.1 ≠ -9223372036854775808):(fL l).1=(l.foldl (fun (g:Nat) (x:W)=>Int.gcd g x.1) 0:Nat):=cp_ l (wl 0) (Int.le_refl _) h
theorem VP {a b:W}:∀ (k:Nat) (p q:W),q.1.natAbs<k→(lK a b k p q).1.1.natAbs=Int.gcd p.1 q.1
  | 0,p,q,h=>absurd h (Nat.not_lt_zero _)
  | k+1,p,q,h=>by
    rw [lK]
    by_cases h0:q.1=0
    · rw [show (q.1 != 0)=false by simp [h0],cond_false,h0,Int.gcd_zero_right]
    rw [show (q.1 != 0)=true by simp [h0],cond_true];have h1:(W.rem p q).1=p.1.tmod q.1:=rfl;have h2:=W.rem_lt p (q:=q) (by simp [h0]);rw [VP k q (W.rem p q) oo_,h1,Int.gcd,Int.natAbs_tmod,Int.gcd,Nat.gcd_comm p.1.natAbs,Nat.gcd_rec q.1.natAbs p.1.natAbs,Nat.gcd_comm]
def Z4.dir (a:Z4):Z4:=⟨a.x / a.m,a.y / a.m,a.z / a.m,a.t / a.m⟩
theorem Z4.g_zero {a:Z4}:a.g=0 ↔ a.zero:=by
  unfold Z4.g Z4.zero;simp only [Int.gcd_eq_zero_iff,Int.natCast_eq_zero]
  constructor
  · rintro ⟨⟨⟨⟨_,h1⟩,h2⟩,h3⟩,h4⟩;exact ⟨h1,h2,h3,h4⟩
  rintro ⟨h1,h2,h3,h4⟩;exact ⟨⟨⟨⟨trivial,h1⟩,h2⟩,h3⟩,h4⟩
theorem Z4.lead_zero {a:Z4} (h:¬ a.zero):a.lead≠0:=by
  unfold Z4.zero at h;unfold Z4.lead
  by_cases h1:a.x=0 <;> by_cases h2:a.y=0 <;> by_cases h3:a.z=0 <;> simp_all
theorem Z4.m_ne {a:Z4} (h:¬ a.zero):a.m≠0:=by
  unfold Z4.m;have h1:=Z4.lead_zero h;have h2:a.g≠0:=fun e=>h (Z4.g_zero.1 e);intro e;rcases Int.mul_eq_zero.1 e with e | e
  · exact h1 (Int.sign_eq_zero_iff_zero.1 e)
  exact h2 (by exact_mod_cast e)
theorem Z4.m_abs {a:Z4} (h:¬ a.zero):a.m.natAbs=a.g:=by
  unfold Z4.m;rw [Int.natAbs_mul,Int.natAbs_natCast,Int.natAbs_sign_of_ne_zero (Z4.lead_zero h),Nat.one_mul]
theorem Z4.g_dvd (a:Z4):((a.g:Nat):Int) ∣ a.x∧((a.g:Nat):Int) ∣ a.y∧((a.g:Nat):Int) ∣ a.z∧((a.g:Nat):Int) ∣ a.t:=by
  unfold Z4.g;have l:∀ (u v:Int),((Int.gcd u v:Nat):Int) ∣ u:=fun u v=>Int.gcd_dvd_left ..;have r:∀ (u v:Int),((Int.gcd u v:Nat):Int) ∣ v:=fun u v=>Int.gcd_dvd_right ..;refine ⟨?_,?_,?_,r _ _⟩
  · exact Int.dvd_trans (Int.dvd_trans (Int.dvd_trans (l _ _) (l _ _)) (l _ _)) (r _ _)
  · exact Int.dvd_trans (Int.dvd_trans (l _ _) (l _ _)) (r _ _)
  exact Int.dvd_trans (l _ _) (r _ _)
theorem Z4.m_dvd {a:Z4} (h:¬ a.zero):a.m ∣ a.x∧a.m ∣ a.y∧a.m ∣ a.z∧a.m ∣ a.t:=by
  have e:∀ v:Int,((a.g:Nat):Int) ∣ v→a.m ∣ v:=fun v hv=>by
    rw [← Z4.m_abs h] at hv;exact Int.natAbs_dvd.1 hv
  obtain ⟨h1,h2,h3,h4⟩:=Z4.g_dvd a;exact ⟨e _ h1,e _ h2,e _ h3,e _ h4⟩
theorem A4.i_inj {a b:A4 W} (h:a.i=b.i):a=b:=by
  cases a;cases b
  simp only [A4.i,Z4.mk.injEq] at h;obtain ⟨h1,h2,h3,h4⟩:=h;simp only [A4.mk.injEq];exact ⟨Subtype.ext h1,Subtype.ext h2,Subtype.ext h3,Subtype.ext h4⟩
def A4.Fine (a:A4 W):Prop:=a.x.1 ≠ -9223372036854775808∧a.y.1 ≠ -9223372036854775808∧a.z.1 ≠ -9223372036854775808∧a.t.1 ≠ -9223372036854775808
theorem lY_ {a:A4 W} (h:a.Fine):(fL [a.x,a.y,a.z,a.t]).1=(a.i.g:Nat):=by
  obtain ⟨h1,h2,h3,h4⟩:=h;rw [pK_ (by simp only [List.mem_cons,List.not_mem_nil,or_false];rintro x (rfl | rfl | rfl | rfl) <;> assumption)];rfl
theorem fU_ {a r:W} (h:a.1 ≠ -9223372036854775808) (hd:r.1 ∣ a.1) (h0:r.1≠0):(W.quo a r).1=a.1 / r.1:=by
  have h2:=a.2;unfold I64 at h2
  show IntKind.i64.wrap (a.1.tdiv r.1)=_
  rw [Int.tdiv_eq_ediv_of_dvd hd];obtain ⟨k,hk⟩:=hd;rw [hk,Int.mul_ediv_cancel_left _ h0]
  have:k.natAbs≤a.1.natAbs:=by rw [hk,Int.natAbs_mul];exact Nat.le_mul_of_pos_left _ oo_
  exact wi oo_
theorem cG_ {a:W} (h:a.1 ≠ -9223372036854775808):(W.neg a).1 = -a.1:=by
  have h2:=a.2;unfold I64 at h2
  show IntKind.i64.wrap (0 - a.1)=_
  rw [wi oo_];omega
theorem f5_ {g v:W} (hg:0≤g.1) (hv:v.1≠0):(bif decide (v.1<0) then W.neg g else g).1=v.1.sign * g.1:=by
  by_cases h:v.1<0
  · rw [decide_eq_true h,cond_true,cG_ oo_,Int.sign_eq_neg_one_of_neg h];omega
  rw [decide_eq_false h,cond_false,Int.sign_eq_one_of_pos oo_];omega
theorem U9 {a:A4 W} {r:W} (h:a.Fine) (hz:¬ a.i.zero) (hr:r.1=a.i.m):(⟨W.quo a.x r,W.quo a.y r,W.quo a.z r,W.quo a.t r⟩:A4 W).i=a.i.dir:=by
  obtain ⟨d1,d2,d3,d4⟩:=Z4.m_dvd hz;have hm:=Z4.m_ne hz;rw [← hr] at d1 d2 d3 d4 hm;obtain ⟨h1,h2,h3,h4⟩:=h;refine Z4.ext ?_ ?_ ?_ ?_
  · exact (fU_ h1 d1 hm).trans (by rw [hr];rfl)
  · exact (fU_ h2 d2 hm).trans (by rw [hr];rfl)
  · exact (fU_ h3 d3 hm).trans (by rw [hr];rfl)
  exact (fU_ h4 d4 hm).trans (by rw [hr];rfl)
theorem sH_ {a:A4 W} (h:a.Fine) (hz:¬ a.i.zero):(i6 a).1.i=a.i.dir∧(i6 a).2=true:=by
  have hg:=lY_ h;have hg0:a.i.g≠0:=fun e=>hz (Z4.g_zero.1 e)
  have hgp:0≤(fL [a.x,a.y,a.z,a.t]).1:=by rw [hg];omega
  unfold i6;rw [show ((fL [a.x,a.y,a.z,a.t]).1==0)=false by rw [hg];simp;exact hg0,cond_false]
  have hm:a.i.m=a.i.lead.sign * (fL [a.x,a.y,a.z,a.t]).1:=by rw [hg];rfl
  by_cases x0:a.x.1=0
  · rw [show (a.x.1 != 0)=false by simp [x0],cond_false]
    by_cases y0:a.y.1=0
    · rw [show (a.y.1 != 0)=false by simp [y0],cond_false]
      by_cases z0:a.z.1=0
      · rw [show (a.z.1 != 0)=false by simp [z0],cond_false]
        by_cases t0:a.t.1=0
        · exact absurd ⟨x0,y0,z0,t0⟩ hz
        rw [show (a.t.1 != 0)=true by simp [t0],cond_true];refine ⟨U9 h hz ?_,rfl⟩;rw [f5_ hgp t0,hm,show a.i.lead=a.t.1 by simp [Z4.lead,A4.i,x0,y0,z0]]
      rw [show (a.z.1 != 0)=true by simp [z0],cond_true];refine ⟨U9 h hz ?_,rfl⟩;rw [f5_ hgp z0,hm,show a.i.lead=a.z.1 by simp [Z4.lead,A4.i,x0,y0,z0]]
    rw [show (a.y.1 != 0)=true by simp [y0],cond_true];refine ⟨U9 h hz ?_,rfl⟩;rw [f5_ hgp y0,hm,show a.i.lead=a.y.1 by simp [Z4.lead,A4.i,x0,y0]]
  rw [show (a.x.1 != 0)=true by simp [x0],cond_true];refine ⟨U9 h hz ?_,rfl⟩;rw [f5_ hgp x0,hm,show a.i.lead=a.x.1 by simp [Z4.lead,A4.i,x0]]
theorem f2_ (v:W):(bV v).1=v.1.sign:=by
  unfold bV
  by_cases h:v.1<0
  · rw [decide_eq_true h,cond_true,Int.sign_eq_neg_one_of_neg h]
  rw [decide_eq_false h,cond_false];unfold W.min
  by_cases h1:(1:Int)<v.1
  · rw [show decide ((wl 1).1<v.1)=true from decide_eq_true h1,cond_true,Int.sign_eq_one_of_pos oo_]
  rw [show decide ((wl 1).1<v.1)=false from decide_eq_false h1,cond_false];rcases (show v.1=0∨v.1=1 by omega) with e | e <;> rw [e] <;> rfl
theorem mz_ {a b:W} (ha:a.1 ≠ -9223372036854775808) (hb:b.1 ≠ -9223372036854775808):(aA a b).1=(Int.gcd a.1 b.1:Nat)∧(aA a b).1 ≠ -9223372036854775808:=by
  have he:=VP (a:=a) (b:=b) (b.1.natAbs+1) a b (Nat.lt_succ_self _);have h1:=a.2;have h2:=b.2;unfold I64 at h1 h2
  have hle:Int.gcd a.1 b.1<9223372036854775808:=by
    by_cases h0:b.1=0
    · rw [h0,Int.gcd_zero_right];omega
    exact Nat.lt_of_le_of_lt (Nat.le_of_dvd oo_ (Int.gcd_dvd_natAbs_right a.1 b.1)) oo_
  have:(aA a b).1=(Int.gcd a.1 b.1:Nat):=by
    show (W.max (lK a b (b.1.natAbs+1) a b).1 (W.neg (lK a b (b.1.natAbs+1) a b).1)).1=_
    rw [W.abs_1 (by intro e;rw [e] at he;omega),he]
  exact ⟨this,by rw [this];omega⟩
theorem rv_ (a:Z4):Int.gcd (Int.gcd (Int.gcd (Int.gcd (0:Int) a.t:Nat) a.z:Nat) a.y:Nat) a.x=a.g:=by
  unfold Z4.g;simp only [Int.gcd,Int.natAbs_natCast,Int.natAbs_zero,Nat.gcd_zero_left]
  have e:∀ x y z t:Nat,Nat.gcd (Nat.gcd (Nat.gcd t z) y) x=Nat.gcd (Nat.gcd (Nat.gcd x y) z) t:=fun x y z t=>by
    rw [Nat.gcd_comm,Nat.gcd_comm (Nat.gcd t z) y,← Nat.gcd_assoc,Nat.gcd_comm t z,← Nat.gcd_assoc]
  exact e _ _ _ _
theorem r0_ (a:A4 W):(bif (a.x.1 != 0) then (bV a.x) else (bif (a.y.1 != 0) then (bV a.y) else (bif (a.z.1 != 0) then (bV a.z) else (bif (a.t.1 != 0) then (bV a.t) else (wl 0))))).1=a.i.lead.sign:=by
  have n0:∀ v:W,v.1=0→(v.1 != 0)=false:=fun v h=>by simp [h]
  have n1:∀ v:W,¬ v.1=0→(v.1 != 0)=true:=fun v h=>by simp [h]
  show _=(if a.x.1≠0 then a.x.1 else if a.y.1≠0 then a.y.1 else if a.z.1≠0 then a.z.1 else a.t.1).sign
  by_cases x0:a.x.1=0
  · rw [n0 _ x0,cond_false,if_neg (by simp [x0])]
    by_cases y0:a.y.1=0
    · rw [n0 _ y0,cond_false,if_neg (by simp [y0])]
      by_cases z0:a.z.1=0
      · rw [n0 _ z0,cond_false,if_neg (by simp [z0])]
        by_cases t0:a.t.1=0
        · rw [n0 _ t0,cond_false,t0];rfl
        rw [n1 _ t0,cond_true,f2_]
      rw [n1 _ z0,cond_true,f2_,if_pos z0]
    rw [n1 _ y0,cond_true,f2_,if_pos y0]
  rw [n1 _ x0,cond_true,f2_,if_pos x0]
theorem sI_ {a:A4 W} (h:a.Fine) (hz:¬ a.i.zero):(gB a).1.i=a.i.dir∧(gB a).2=true:=by
  obtain ⟨h1,h2,h3,h4⟩:=h;have g1:=mz_ (a:=wl 0) (b:=a.t) dd_ h4;have g2:=mz_ g1.2 h3;have g3:=mz_ g2.2 h2;have g4:=mz_ g3.2 h1;rw [g3.1,g2.1,g1.1,show (wl 0).1=0 from rfl] at g4
  have hg:(aA (aA (aA (aA (wl 0) a.t) a.z) a.y) a.x).1=(a.i.g:Nat):=by
    rw [g4.1];exact congrArg _ (rv_ a.i)
  have hm:(W.mul (bif (a.x.1 != 0) then (bV a.x) else (bif (a.y.1 != 0) then (bV a.y) else (bif (a.z.1 != 0) then (bV a.z) else (bif (a.t.1 != 0) then (bV a.t) else (wl 0)))))
      (W.max (aA (aA (aA (aA (wl 0) a.t) a.z) a.y) a.x) (W.neg (aA (aA (aA (aA (wl 0) a.t) a.z) a.y) a.x)))).1=a.i.m:=by
    show IntKind.i64.wrap (_ * _)=_
    have hb:=(aA (aA (aA (aA (wl 0) a.t) a.z) a.y) a.x).2;unfold I64 at hb;rw [r0_,W.abs_1 g4.2,hg,Int.natAbs_natCast];rw [hg] at hb;have hs:=Int.natAbs_sign_of_ne_zero (Z4.lead_zero hz);refine wi ?_;rcases (show a.i.lead.sign=1∨a.i.lead.sign = -1 by omega) with e | e <;> rw [e] <;> omega
  unfold gB;have hm0:=Z4.m_ne hz
  dsimp only
  rw [show ((W.mul (bif (a.x.1 != 0) then (bV a.x) else (bif (a.y.1 != 0) then (bV a.y) else (bif (a.z.1 != 0) then (bV a.z) else (bif (a.t.1 != 0) then (bV a.t) else (wl 0)))))
      (W.max (aA (aA (aA (aA (wl 0) a.t) a.z) a.y) a.x) (W.neg (aA (aA (aA (aA (wl 0) a.t) a.z) a.y) a.x)))).1==0)=false by rw [hm];simp;exact hm0,cond_false]
  exact ⟨U9 ⟨h1,h2,h3,h4⟩ hz hm,rfl⟩
theorem mc_ (x:W):(decide (64<(W.max x (W.neg x)).1)||((x.1==(W.neg x).1)&&(x.1 != 0)))=(decide (64<x.1)||decide (x.1 < -64)):=by
  by_cases h:x.1 = -9223372036854775808
  · have e:(W.neg x).1 = -9223372036854775808:=by show IntKind.i64.wrap (0 - x.1)=_;rw [h];rfl
    rw [e,h];simp
  have e:=cG_ h
  have m:(W.max x (W.neg x)).1=max x.1 (-x.1):=by
    unfold W.max;rw [← e]
    by_cases k:x.1<(W.neg x).1
    · rw [decide_eq_true k,cond_true];omega
    rw [decide_eq_false k,cond_false];omega
  rw [m,e,Bool.eq_iff_iff]
  simp
  omega
theorem ln_ (a:A4 W):yC a=kN a:=by
  unfold yC kN;rw [mc_,mc_,mc_,mc_]
def Z4.Lw (v:Z4) (n:Nat):Prop:=v.x.natAbs<n∧v.y.natAbs<n∧v.z.natAbs<n∧v.t.natAbs<n
theorem fC_ {a:A4 W} (h:kN a=true):a.i.Lw 65:=by
  unfold kN at h
  have g:∀ {c:Bool} {y:Bool},(bif c then false else y)=true→c=false∧y=true:=fun {c y} h=>by cases c <;> simp_all
  obtain ⟨h1,h⟩:=g h;obtain ⟨h2,h⟩:=g h;obtain ⟨h3,h⟩:=g h;obtain ⟨h4,h⟩:=g h;simp only [Bool.or_eq_false_iff,decide_eq_false_iff_not] at h1 h2 h3 h4;refine ⟨?_,?_,?_,?_⟩
  · show a.x.1.natAbs<65;omega
  · show a.y.1.natAbs<65;omega
  · show a.z.1.natAbs<65;omega
  show a.t.1.natAbs<65;omega
theorem jF_ {a:A4 W} (h:a.i.Lw 65):a.Fine:=by
  obtain ⟨h1,h2,h3,h4⟩:=h;have g1:a.x.1.natAbs<65:=h1;have g2:a.y.1.natAbs<65:=h2;have g3:a.z.1.natAbs<65:=h3;have g4:a.t.1.natAbs<65:=h4;refine ⟨?_,?_,?_,?_⟩ <;> omega
theorem go_ {a:A4 W} (h:a.i.zero):a=⟨wl 0,wl 0,wl 0,wl 0⟩:=A4.i_inj (Z4.ext h.1 h.2.1 h.2.2.1 h.2.2.2)
theorem gv_ (a:A4 W):zA a=jT a:=by
  by_cases hz:a.i.zero
  · rw [go_ hz];kernel_rfl
  unfold zA jT;rw [ln_]
  cases hl:kN a
  · rfl
  have hf:=jF_ (fC_ hl);obtain ⟨p1,p2⟩:=sH_ hf hz;obtain ⟨r1,r2⟩:=sI_ hf hz;have e:(i6 a).1=(gB a).1:=A4.i_inj (p1.trans r1.symm);simp only [cond_true,p2,r2,e]
theorem FT (a:Pose):kQ a=eK a:=by unfold kQ eK;rw [gv_]
theorem GD (a b c:I):kP [a,b,c]=eY a b c:=by
  show E (Z.mul (E (Z.mul a.dec b.dec)).dec c.dec)=_
  rw [eD];rfl
def toP (x:(List Path×Nat) ⊕ (List Path×W)):(List Path×Nat) ⊕ Paths :=
  match x with
  | .inl s=>.inl s
  | .inr r=>.inr ⟨r.1,r.2⟩
theorem aM_ (l:List Pose):∀ (k:Nat) (out:List Path) (i:Nat),mM l k out i=toP (nA l k out i)
  | 0,out,i=>rfl
  | k+1,out,i=>by
    rw [mM,nA,FT]
    cases decide (((i:Nat):Int)<((l.length:Nat):Int))
    · rfl
    simp only [cond_true]
    cases ((eK (l.getD i bG)).1 != 0)
    · simp only [cond_false]
      cases decide (0<((i:Nat):Int))
      · exact aM_ l k _ _
      exact aM_ l k _ _
    rfl
theorem TY (l:List Pose):cW l=((aC l).l,(aC l).e):=by
  unfold cW aC;rw [aM_]
  cases l with
  | nil=>rfl
  | cons a l =>
    have e:((((a :: l).length:Nat):Int)==0)=false:=by simp;omega
    rw [e];simp only [cond_false]
    cases nA (a :: l) ((a :: l).length+1) [] 0 <;> rfl
structure Az (q:Rat) (a b:Nat):Prop where
  n:q.num.natAbs<2 ^ a
  d:q.den<2 ^ b
theorem Sz.az {q:Rat} {k:Nat} (h:Sz q k):Az q k k:=⟨h.n,h.d⟩
theorem Az.sz {q:Rat} {a b k:Nat} (h:Az q a b) (h1:a≤k) (h2:b≤k):Sz q k:=⟨Nat.lt_of_lt_of_le h.n (EE h1),Nat.lt_of_lt_of_le h.d (EE h2)⟩
section
variable {p q:Rat} {a b a' b':Nat}
theorem Az.mono (h:Az q a b) (h1:a≤a') (h2:b≤b'):Az q a' b':=⟨Nat.lt_of_lt_of_le h.n (EE h1),Nat.lt_of_lt_of_le h.d (EE h2)⟩
theorem Az.bd (h:Az q a b) (hk:b≤512):gR (q.den:Int):=vF (by simpa using h.d) hk
theorem Az.mul (h:Az p a b) (g:Az q a' b'):Az (p * q) (a+a') (b+b'):=by
  constructor
  · rw [Rat.num_mul]
    refine Nat.lt_of_le_of_lt (Int.natAbs_ediv_le_natAbs _ _) ?_;rw [Int.natAbs_mul];exact xX h.n g.n
  rw [Rat.den_mul];exact Nat.lt_of_le_of_lt (Nat.div_le_self _ _) (xX h.d g.d)
theorem Az.neg (h:Az p a b):Az (-p) a b:=⟨by rw [Rat.neg_num,Int.natAbs_neg];exact h.n,h.d⟩
theorem bN_ {n m:Int} {d e c:Nat} (h1:n.natAbs<2 ^ a) (h2:e<2 ^ b') (h3:m.natAbs<2 ^ a') (h4:d<2 ^ b) (k1:a+b'<c) (k2:a'+b<c):(n * e+m * d).natAbs<2 ^ c:=by
  obtain ⟨c,rfl⟩:∃ k,c=k+1:=⟨c - 1,by omega⟩;have x:=Nat.lt_of_lt_of_le (xX h1 h2) (EE (show a+b'≤c by omega));have y:=Nat.lt_of_lt_of_le (xX h3 h4) (EE (show a'+b≤c by omega));have z:=Int.natAbs_add_le (n * e) (m * d);rw [Int.natAbs_mul,Int.natAbs_mul,Int.natAbs_natCast,Int.natAbs_natCast] at z;rw [Nat.pow_succ];omega
theorem Az.add {c:Nat} (h:Az p a b) (g:Az q a' b') (k1:a+b'<c) (k2:a'+b<c):Az (p+q) c (b+b'):=by
  constructor
  · rw [Rat.num_add]
    exact Nat.lt_of_le_of_lt (Int.natAbs_ediv_le_natAbs _ _) (bN_ h.n g.d g.n h.d k1 k2)
  rw [Rat.den_add];exact Nat.lt_of_le_of_lt (Nat.div_le_self _ _) (xX h.d g.d)
theorem Az.sub {c:Nat} (h:Az p a b) (g:Az q a' b') (k1:a+b'<c) (k2:a'+b<c):Az (p - q) c (b+b'):=by rw [Rat.sub_eq_add_neg];exact h.add g.neg k1 k2
theorem Az.int {n:Int} (h:n.natAbs<2 ^ a):Az (n:Rat) a 1:=⟨h,(by show 1<2 ^ 1;decide)⟩
end
end Go.Num


namespace Go.Num
class Rg (α:Type) [Add α] [Mul α] [OfNat α 0]:Prop where
  aa:∀ a b c:α,a+b+c=a+(b+c)
  ac:∀ a b:α,a+b=b+a
  a0:∀ a:α,a+0=a
  ma:∀ a b c:α,a * b * c=a * (b * c)
  mc:∀ a b:α,a * b=b * a
  md:∀ a b c:α,a * (b+c)=a * b+a * c
  m0:∀ a:α,a * 0=0
instance:Rg Int:=⟨Int.add_assoc,Int.add_comm,Int.add_zero,Int.mul_assoc,Int.mul_comm,Int.mul_add,Int.mul_zero⟩
instance:Rg Rat:=⟨Rat.add_assoc,Rat.add_comm,Rat.add_zero,Rat.mul_assoc,Rat.mul_comm,Rat.mul_add,Rat.mul_zero⟩
theorem Rg.zm {α:Type} [Add α] [Mul α] [OfNat α 0] [Rg α] (a:α):0 * a=0:=by rw [Rg.mc,Rg.m0]
def rD {α:Type} [Add α] [OfNat α 0] (f:Nat→α):Nat→α
  | 0=>0
  | n+1=>rD f n+f n
theorem xP {α:Type} [Add α] [Mul α] [OfNat α 0] [Rg α] {f:Nat→α}:∀ {n:Nat},(∀ i,i<n→f i=0)→rD f n=0
  | 0,_=>rfl
  | n+1,h=>by simp only [rD];rw [xP fun i hi=>h i (by omega),h n (by omega),Rg.a0]
theorem EM {α:Type} [Add α] [Mul α] [OfNat α 0] [Rg α] {f:Nat→α} {n:Nat} (h:∀ i,n≤i→f i=0):∀ m:Nat,n≤m→rD f m=rD f n
  | 0,hm=>by rw [show n=0 by omega]
  | m+1,hm=>by
    rcases Nat.lt_or_ge n (m+1) with g | g
    · rw [rD,h m (by omega),Rg.a0,EM h m (by omega)]
    rw [show n=m+1 by omega]
def conv {α:Type} [Add α] [Mul α] [OfNat α 0] (c d:Nat→α) (k:Nat):α:=rD (fun i=>c i * d (k - i)) (k+1)
theorem OB {α:Type} [Add α] [Mul α] [OfNat α 0] [Rg α] {c d:Nat→α} {n m:Nat} (hc:∀ i,n≤i→c i=0) (hd:∀ i,m≤i→d i=0) (k:Nat) (hk:n+m≤k+1):conv c d k=0:=by
  refine xP fun i hi=>?_;rcases Nat.lt_or_ge i n with h | h
  · rw [hd _ (by omega),Rg.m0]
  rw [hc _ h,Rg.zm]
open Go Go.Kn
theorem vI0:vI I0=0:=hs_ B0
theorem bk_ {u v:Int} (hu:gR u) (hv:gR v):Z.sub (Z.of u) (Z.of v)=Z.of (u - v):=by
  rw [Z.sub,eo_ hv,E8 hu (show (-v).natAbs<_ by rw [Int.natAbs_neg];exact hv),Int.sub_eq_add_neg]
structure Po (p:List I) (c:Nat→Int):Prop where
  g:p.all gdI=true
  s:tM p=p
  l:p.length≤25
  c:∀ k,vI (p.getD k I0)=c k
section
variable {p q:List I} {c d:Nat→Int}
theorem fu_ (h:p.all gdI=true) (k:Nat):gdI (p.getD k I0)=true:=by
  by_cases hk:k<p.length
  · rw [show p.getD k I0=p[k] by simp [List.getD,hk]]
    exact List.all_eq_true.1 h _ (List.getElem_mem hk)
  rw [C3 oo_];exact cs_ B0
theorem Po.get (h:Po p c) (k:Nat):p.getD k I0=E (Z.of (c k)):=by rw [← h.c k];exact (SX (fu_ h.g k)).1
theorem Po.B (h:Po p c) (k:Nat):gR (c k):=by rw [← h.c k];exact (SX (fu_ h.g k)).2
theorem Po.zero (h:Po p c) {k:Nat} (hk:p.length≤k):c k=0:=by rw [← h.c k,C3 hk,vI0]
theorem Po.last (h:Po p c) {n:Nat} (hn:p.length=n+1):c n≠0:=by
  rcases BZ p with rfl | ⟨m,x,rfl⟩
  · cases hn
  have h1:=P5 h.s
  have h2:n=m.length:=by simp at hn;omega
  have h3:=h.get n;rw [show (m ++ [x]).getD n I0=x by simp [h2]] at h3;rw [h3,mZ_ (h.B n)] at h1;exact of_decide_eq_false h1
theorem Po.short (h:Po p c) {n:Nat} (hz:∀ k,n≤k→c k=0):p.length≤n:=by
  rcases Nat.lt_or_ge n p.length with g | g
  · exact absurd (hz (p.length - 1) oo_) (h.last oo_)
  exact g
theorem Po.eq (h:Po p c) (g:Po q c):p=q:=by
  have e:p.length=q.length:=Nat.le_antisymm (h.short fun k hk=>g.zero hk) (g.short fun k hk=>h.zero hk);refine List.ext_getElem e fun k h1 h2=>?_;have a:=h.get k;rw [← g.get k] at a
  simpa [List.getD,h1,h2] using a
theorem Po.cast (h:Po p c) (e:∀ k,c k=d k):Po p d:=⟨h.g,h.s,h.l,fun k=>(h.c k).trans (e k)⟩
theorem Z5:Po [] (fun _=>0):=⟨rfl,rfl,by decide,fun k=>by rw [show ([]:List I).getD k I0=I0 by simp];exact vI0⟩
theorem Po.nil (h:Po p c) (hz:∀ k,c k=0):p=[]:=(h.cast hz).eq Z5
theorem Po.l3 (h:Po p c):p.length≤1000:=Nat.le_trans h.l dd_
theorem lk_ {v:Int} {k:Nat} (m:Nat) (hm:4294967296 ^ 16=2 ^ m) (h:v.natAbs<2 ^ k) (hk:k≤m):gR v:=by
  unfold gR;rw [hm];exact Nat.lt_of_lt_of_le h (Nat.pow_le_pow_right dd_ hk)
theorem xM {v:Int} {k:Nat} (h:v.natAbs<2 ^ k) (hk:k≤512):gR v:=lk_ 512 OU h hk
structure Bd (c:Nat→Int) (n b:Nat):Prop where
  z:∀ k,n≤k→c k=0
  b:∀ k,(c k).natAbs<2 ^ b
variable {n m b b':Nat}
theorem Bd.mono (h:Bd c n b) {n' b1:Nat} (hn:n≤n') (hb:b≤b1):Bd c n' b1:=⟨fun k hk=>h.z k oo_,fun k=>Nat.lt_of_lt_of_le (h.b k) (Nat.pow_le_pow_right dd_ hb)⟩
theorem Bd.B (h:Bd c n b) (hb:b≤512) (k:Nat):gR (c k):=xM (h.b k) hb
theorem Bd.add (h:Bd c n b) (g:Bd d m b):Bd (fun k=>c k+d k) (max n m) (b+1) :=
  ⟨fun k hk=>by show c k+d k=0;rw [h.z k oo_,g.z k oo_];rfl,fun k=>by
    show (c k+d k).natAbs<_
    have h1:=h.b k;have h2:=g.b k;have h3:=Int.natAbs_add_le (c k) (d k)
    rw [Nat.pow_succ];omega⟩
theorem pG {u v:Int} (h:u.natAbs<2 ^ b) (g:v.natAbs<2 ^ b'):(u * v).natAbs<2 ^ (b+b'):=by
  rw [Int.natAbs_mul,Nat.pow_add];exact Nat.mul_lt_mul_of_lt_of_le h (Nat.le_of_lt g) (Nat.pow_pos dd_)
theorem kT_ {f:Nat→Int} {A:Nat} (h:∀ i,(f i).natAbs≤A):∀ t:Nat,(rD f t).natAbs≤t * A
  | 0=>by simp [rD]
  | t+1=>by
    have h1:=kT_ h t;have h2:=h t;have h3:=Int.natAbs_add_le (rD f t) (f t);rw [Nat.succ_mul];show (rD f t+f t).natAbs≤_;omega
theorem kS_ {f:Nat→Int} {e:Nat} (h:∀ i,(f i).natAbs<2 ^ b) (hz:∀ i,n≤i→f i=0) (hn:n≤2 ^ e) (t:Nat):(rD f t).natAbs<2 ^ (b+e):=by
  have hb:0<2 ^ b:=Nat.pow_pos dd_
  have k1:∀ t,t≤n→(rD f t).natAbs<2 ^ (b+e):=fun t ht=>by
    have h1:=kT_ (f:=f) (A:=2 ^ b - 1) (fun i=>by have:=h i;omega) t;have h2:t * (2 ^ b - 1)≤2 ^ e * (2 ^ b - 1):=Nat.mul_le_mul_right _ oo_;have h3:2 ^ e * (2 ^ b - 1)<2 ^ e * 2 ^ b:=Nat.mul_lt_mul_of_pos_left oo_ (Nat.pow_pos dd_);rw [Nat.pow_add,Nat.mul_comm (2 ^ b)];omega
  rcases Nat.lt_or_ge n t with g | g
  · rw [EM hz t oo_];exact k1 n (Nat.le_refl _)
  exact k1 t g
theorem YK (h:Bd c n b) (g:Bd d m b') {e:Nat} (hn:n≤2 ^ e) (k t:Nat):(rD (fun i=>c i * d (k - i)) t).natAbs<2 ^ (b+b'+e) :=
  kS_ (n:=n) (fun i=>pG (h.b _) (g.b _)) (fun i hi=>by rw [h.z i hi,Int.zero_mul]) hn t
theorem Bd.conv (h:Bd c n b) (g:Bd d m b') {e:Nat} (hn:n≤2 ^ e):Bd (conv c d) (n+m - 1) (b+b'+e) :=
  ⟨fun k hk=>OB h.z g.z k oo_,fun k=>YK h g hn k (k+1)⟩
theorem Po.len (h:Po p c) (hb:Bd c n b):p.length≤n:=h.short hb.z
end
end Go.Num


namespace Go.Num
open Go Go.Kn
def prs:List Pose→List Path
  | []=>[]
  | [_]=>[]
  | a :: b :: t=>⟨a,b⟩ :: prs (b :: t)
def gP (p:Pose):Bool:=!((eK p).1 != 0)
theorem mq_ {l:List Pose} (h:l.length≤1):prs l=[]:=by
  cases l with
  | nil=>rfl
  | cons a t =>
    cases t with
    | nil=>rfl
    | cons b t=>rw [List.length_cons,List.length_cons] at h;omega
theorem WA (l:List Pose):∀ (k i:Nat) (out:List Path),l.length<i+k→i≤l.length→(l.drop i).all gP=true→nA l k out i = .inl (out ++ prs (l.drop (i - 1)),l.length)
  | 0,i,out,h,h2,_=>by omega
  | k+1,i,out,h,h2,ha=>by
    rw [nA]
    by_cases hi:i<l.length
    · rw [List.drop_eq_getElem_cons hi,List.all_cons,Bool.and_eq_true] at ha
      have hg:((kQ (l.getD i bG)).1 != 0)=false:=by
        rw [FT,show l.getD i bG=l[i] by simp [hi]];have:=ha.1;unfold gP at this
        simpa using this
      rw [decide_eq_true oo_,cond_true,hg,cond_false]
      cases i with
      | zero =>
        rw [decide_eq_false oo_,cond_false,WA l k 1 out oo_ oo_ ha.2]
      | succ j =>
        rw [decide_eq_true oo_,cond_true,WA l k (j+2) _ oo_ oo_ ha.2];have e1:l.drop j=l[j] :: l.drop (j+1):=List.drop_eq_getElem_cons oo_;have e2:l.drop (j+1)=l[j+1] :: l.drop (j+1+1):=List.drop_eq_getElem_cons hi;simp only [Nat.add_sub_cancel,show j+2 - 1=j+1 by omega];rw [e1,e2,prs,← e2,show l.getD j bG=l[j] by simp [show j<l.length by omega],show l.getD (j+1) bG=l[j+1] by simp [hi],List.append_assoc];rfl
    have e:i=l.length:=by omega
    rw [decide_eq_false oo_,cond_false,mq_ (by rw [List.length_drop];omega),List.append_nil,e]
theorem V9 (l:List Pose):∀ (k i:Nat) (out:List Path),l.length<i+k→i≤l.length→(l.drop i).all gP=false→nA l k out i = .inr ([],wl 1)
  | 0,i,out,h,h2,_=>by omega
  | k+1,i,out,h,h2,ha=>by
    rw [nA]
    by_cases hi:i<l.length
    · rw [List.drop_eq_getElem_cons hi,List.all_cons] at ha
      rw [decide_eq_true oo_,cond_true,FT,show l.getD i bG=l[i] by simp [hi]];unfold gP at ha
      cases hc:((eK l[i]).1 != 0)
      · rw [hc] at ha
        have ha':(l.drop (i+1)).all gP=false:=by simpa [gP] using ha
        simp only [cond_false]
        cases decide (0<((i:Nat):Int))
        · exact V9 l k (i+1) _ oo_ oo_ ha'
        exact V9 l k (i+1) _ oo_ oo_ ha'
      rfl
    rw [List.drop_eq_nil_of_le oo_] at ha;cases ha
theorem l8_ {l:List Pose} (h0:l≠[]) (ha:l.all gP=true):cW l=(prs l,wl 0):=by
  unfold cW;have hp:=List.length_pos_iff.2 h0;rw [WA l (l.length+1) 0 [] oo_ oo_ ha,show (((l.length:Nat):Int)==0)=false by simp;exact h0];rfl
theorem fA_ {l:List Pose} (h:((aC l).e.1 != 0)=false):l≠[]∧l.all gP=true:=by
  have e:(cW l).2=(aC l).e:=by rw [TY]
  rw [← e] at h;unfold cW at h
  cases hl:(((l.length:Nat):Int)==0)
  · refine ⟨fun e=>(by subst e;cases hl),?_⟩
    rw [hl,cond_false] at h
    cases ha:l.all gP
    · rw [V9 l (l.length+1) 0 [] oo_ oo_ ha] at h;cases h
    rfl
  rw [hl] at h;cases h
def a7_ (x:Path):Int:=x.to_.x.z.1 - x.from_.x.z.1
def up:List Path→Int
  | []=>0
  | x :: t=>max (a7_ x) 0+up t
theorem G4 {p:Pose} (h:gP p=true):p.x.z.1.natAbs<2 ^ 47:=by
  unfold gP eK at h
  cases h1:(decide (140737488355328≤p.x.x.1)||decide (p.x.x.1≤(-140737488355328)))
  · rw [h1] at h
    cases h2:(decide (140737488355328≤p.x.y.1)||decide (p.x.y.1≤(-140737488355328)))
    · rw [h2] at h
      cases h3:(decide (140737488355328≤p.x.z.1)||decide (p.x.z.1≤(-140737488355328)))
      · simp only [Bool.or_eq_false_iff,decide_eq_false_iff_not] at h3
        omega
      rw [h3] at h;cases h
    rw [h2] at h;cases h
  rw [h1] at h;cases h
theorem ky_ {a b:Pose} (ha:gP a=true) (hb:gP b=true):(W.sub b.x.z a.x.z).1=b.x.z.1 - a.x.z.1:=by
  have h1:=G4 ha;have h2:=G4 hb;exact wi ⟨by show _≤b.x.z.1 - a.x.z.1;omega,by show b.x.z.1 - a.x.z.1≤_;omega⟩
theorem ZQ:∀ L:List Path,0≤up L
  | []=>Int.le_refl _
  | x :: t=>by have:=ZQ t;rw [up];omega
theorem SK:∀ L M:List Path,up (L ++ M)=up L+up M
  | [],M=>by rw [List.nil_append,up,Int.zero_add]
  | x :: L,M=>by rw [List.cons_append,up,up,SK L M,Int.add_assoc]
def gL (L:List Path):Prop:=∀ x∈L,gP x.from_=true∧gP x.to_=true
theorem d9_:∀ l:List Pose,l.all gP=true→gL (prs l)
  | [],_=>fun x hx=>by cases hx
  | [_],_=>fun x hx=>by cases hx
  | a :: b :: t,h=>fun x hx=>by
    simp only [List.all_cons,Bool.and_eq_true] at h;rcases List.mem_cons.1 hx with rfl | hx
    · exact ⟨h.1,h.2.1⟩
    exact d9_ (b :: t) (by simp only [List.all_cons,Bool.and_eq_true];exact h.2) x hx
theorem XW (m g:W) (l:List Pose) {P:Int} (hP:P=m.1 * g.1) (hm:m.1.natAbs<2 ^ 63) (hg:g.1.natAbs<2 ^ 63) {C N:Nat} (hC:2 ^ 63 * 2 ^ 63 * 2 ^ 48≤C) (hN:N≤4294967296 ^ 16):∀ (L:List Path) (s:Int),gL L→s.natAbs+(L.length+1) * C<N →
    nC m g l L (E (Z.of s))=E (Z.of (s+P * up L))
  | [],s,_,_=>by rw [nC,up,Int.mul_zero,Int.add_zero]
  | x :: L,s,h,hs=>by
    obtain ⟨g1,g2⟩:=h x List.mem_cons_self;have hL:gL L:=fun y hy=>h y (List.mem_cons_of_mem _ hy);have hlen:(L.length+1+1) * C=(L.length+1) * C+C:=Nat.succ_mul _ _;rw [nC,ky_ g1 g2,up];rw [List.length_cons,hlen] at hs
    by_cases hr:0<x.to_.x.z.1 - x.from_.x.z.1
    · rw [decide_eq_true hr,cond_true]
      have e:max (a7_ x) 0=x.to_.x.z.1 - x.from_.x.z.1:=by unfold a7_;omega
      rw [e];have z1:=G4 g1;have z2:=G4 g2
      have hr':(x.to_.x.z.1 - x.from_.x.z.1).natAbs<2 ^ 48:=by omega
      generalize x.to_.x.z.1 - x.from_.x.z.1=r at *
      have hP2:P.natAbs≤2 ^ 63 * 2 ^ 63:=by rw [hP,Int.natAbs_mul];exact Nat.mul_le_mul oo_ oo_
      have hPr:(P * r).natAbs≤C:=by
        rw [Int.natAbs_mul];exact Nat.le_trans (Nat.mul_le_mul hP2 (Nat.le_of_lt hr')) hC
      have c1:(0:Nat)<(L.length+1) * C:=Nat.mul_pos oo_ oo_
      have b0:gR s:=by unfold gR;omega
      have b1:gR m.1:=sB oo_;have b2:gR g.1:=sB oo_
      have b3:gR P:=by unfold gR;exact Nat.lt_of_le_of_lt hP2 oo_
      have b4:gR r:=sB oo_
      have b5:gR (P * r):=by unfold gR;omega
      show nC m g l L (E (Z.add (E (Z.of s)).dec (kP [E (Z.of m.1),E (Z.of g.1),E (Z.of r)]).dec))=_
      rw [GD];unfold eY;simp only [eD];rw [qV b1 b2,← hP,qV b3 b4,E8 b0 b5,XW m g l hP hm hg hC hN L _ hL oo_,Int.mul_add,Int.add_assoc]
    rw [decide_eq_false hr,cond_false,XW m g l hP hm hg hC hN L s hL oo_]
    have e:max (a7_ x) 0=0:=by unfold a7_;omega
    rw [e,Int.zero_add]
theorem aY_:∀ l:List Pose,(prs l).length≤l.length
  | []=>Nat.le_refl _
  | [_]=>Nat.zero_le _
  | a :: b :: t=>by rw [prs,List.length_cons,List.length_cons];have:=aY_ (b :: t);omega
theorem fP_ (C:Nat) (h:C=2 ^ 63 * 2 ^ 63 * 2 ^ 48):(30:Nat) * C<4294967296 ^ 16:=by
  subst h;decide
theorem QF {m g:W} {l:List Pose} (hm:0≤m.1) (hg:0≤g.1) (h0:l≠[]) (ha:l.all gP=true) (hl:l.length≤20):cA m g l=(E (Z.of (m.1 * g.1 * up (prs l))),wl 0):=by
  unfold cA;rw [l8_ h0 ha,decide_eq_false (show ¬ m.1<0 by omega),decide_eq_false (show ¬ g.1<0 by omega)];obtain ⟨C,hC⟩:∃ C:Nat,C=2 ^ 63 * 2 ^ 63 * 2 ^ 48:=⟨_,rfl⟩;have m2:=m.2;have g2:=g.2;unfold I64 at m2 g2;have h1:=fP_ C hC;have h2:=aY_ l;have h3:((prs l).length+1) * C≤21 * C:=Nat.mul_le_mul_right _ oo_
  have hw:=XW m g l (P:=m.1 * g.1) rfl oo_ oo_ (C:=C) (Nat.le_of_eq hC.symm) (N:=30 * C) (Nat.le_of_lt h1) (prs l) 0 (d9_ l ha) (by
    have:0<C:=by rw [hC];decide
    show 0+_<_
    omega)
  show (nC m g l (prs l) I0,wl 0)=_
  rw [show I0=E (Z.of 0) from rfl,hw,Int.zero_add]
theorem P0:∀ (a b:List Pose) (y:Pose) (hb:b=y :: b.tail),a≠[]→prs (a ++ b)=prs a ++ (⟨a.getD (a.length - 1) bG,y⟩ :: prs b)
  | [],b,y,hb,h=>absurd rfl h
  | [x],b,y,hb,_=>by rw [hb];rfl
  | x :: x' :: t,b,y,hb,_=>by
    show (⟨x,x'⟩:Path) :: prs ((x' :: t) ++ b)=(⟨x,x'⟩ :: prs (x' :: t)) ++ _
    rw [P0 (x' :: t) b y hb (by simp),List.cons_append]
    congr 3
theorem eZ_ (a b:List Pose) (m g:W):∀ (k j:Nat) (out:List Pose),j<k→j≤a.length→i9 a b m g k out ((j:Int) - 1)=(out ++ (a.take j).reverse,-1)
  | 0,j,out,h,_=>by omega
  | k+1,0,out,h,hj=>by rw [i9];simp
  | k+1,j+1,out,h,hj=>by
    rw [i9,decide_eq_true oo_,cond_true,show ((j+1:Nat):Int) - 1=(j:Int) by omega,eZ_ a b m g k j _ oo_ oo_];rw [show ((j:Int)).toNat=j by omega,show a.getD j bG=a[j] by simp [show j<a.length by omega],List.take_succ_eq_append_getElem oo_,List.reverse_append,List.append_assoc];rfl
def zl (l:List Pose):Int:=(l.getD (l.length - 1) bG).x.z.1
def zf (l:List Pose):Int:=(l.getD 0 bG).x.z.1
theorem k4_:∀ l:List Pose,l≠[]→up (prs l) - up (prs l.reverse)=zl l - zf l
  | [x],_=>by show (0:Int) - 0=x.x.z.1 - x.x.z.1;omega
  | x :: y :: t,_=>by
    have ih:=k4_ (y :: t) (by simp)
    have e1:(y :: t).reverse.getD ((y :: t).reverse.length - 1) bG=y:=by simp
    have e2:prs (x :: y :: t).reverse=prs (y :: t).reverse ++ [⟨y,x⟩]:=by
      rw [List.reverse_cons,P0 (y :: t).reverse [x] x rfl (by simp),e1];rfl
    rw [e2,SK,prs,up,up,up]
    have e3:zl (x :: y :: t)=zl (y :: t):=by unfold zl;simp
    have e4:zf (x :: y :: t)=x.x.z.1:=rfl;have e5:zf (y :: t)=y.x.z.1:=rfl;rw [e3,e4];rw [e5] at ih;unfold a7_;simp only;omega
theorem lj_ (a b:List Pose) (m g:W) (hs:F_skewbacklaw26_sanity=true):oA a b m g=true:=by
  unfold oA;rw [hs]
  cases hc:((((a.length:Nat):Int)==0)||((((b.length:Nat):Int)==0)||(decide (8<((a.length:Nat):Int))||(decide (8<((b.length:Nat):Int))||(decide (m.1<0)||(decide (g.1<0)||(((aC a).e.1 != 0)||((aC b).e.1 != 0))))))))
  · simp only [Bool.or_eq_false_iff] at hc
    obtain ⟨_,_,hla,hlb,hm,hg,hea,heb⟩:=hc;have hla':=of_decide_eq_false hla;have hlb':=of_decide_eq_false hlb
    have hm':0≤m.1:=by have:=of_decide_eq_false hm;omega
    have hg':0≤g.1:=by have:=of_decide_eq_false hg;omega
    obtain ⟨a0,aa⟩:=fA_ hea;obtain ⟨b0,ba⟩:=fA_ heb
    obtain ⟨y,hy⟩:∃ y,b=y :: b.tail:=by
      cases b with
      | nil=>exact absurd rfl b0
      | cons y t=>exact ⟨y,rfl⟩
    have apos:=List.length_pos_iff.2 a0;have hback:=eZ_ a b m g (a.length+1) a.length [] oo_ oo_;rw [List.nil_append,List.take_length] at hback
    have hlast:gP (a.getD (a.length - 1) bG)=true:=by
      rw [show a.getD (a.length - 1) bG=a[a.length - 1] by simp [show a.length - 1<a.length by omega]];exact List.all_eq_true.1 aa _ (List.getElem_mem _)
    have hfirst:gP (a.getD 0 bG)=true:=by
      rw [show a.getD 0 bG=a[0] by simp [apos]];exact List.all_eq_true.1 aa _ (List.getElem_mem _)
    have hby:b.getD 0 bG=y:=by rw [hy];rfl
    have hgy:gP y=true:=by rw [hy,List.all_cons,Bool.and_eq_true] at ba;exact ba.1
    have w1:=QF hm' hg' a0 aa oo_;have w2:=QF hm' hg' b0 ba oo_;have w3:=QF (l:=[a.getD (a.length - 1) bG,b.getD 0 bG]) hm' hg' (by simp) (by rw [hby,List.all_cons,List.all_cons,hlast,hgy];rfl) (by simp);have w4:=QF (l:=([] ++ a) ++ b) hm' hg' (by simp [a0]) (by simp only [List.nil_append,List.all_append,aa,ba,Bool.and_self]) (by simp only [List.nil_append,List.length_append];omega);have w5:=QF (l:=a.reverse) hm' hg' (by simpa using a0) (by rw [List.all_reverse];exact aa) (by rw [List.length_reverse];omega);simp only [cond_false,hback,Go.Kn.ap];rw [w1,w2,w3,w4,w5,ky_ hfirst hlast]
    -- sizes
    have m2:=m.2;have g2:=g.2;unfold I64 at m2 g2;obtain ⟨C,hC⟩:∃ C:Nat,C=2 ^ 63 * 2 ^ 63 * 2 ^ 48:=⟨_,rfl⟩;have h30:=fP_ C hC
    have hrz:∀ x:Path,gP x.from_=true→gP x.to_=true→max (a7_ x) 0≤2 ^ 48:=fun x p q=>by
      have:=G4 p;have:=G4 q;unfold a7_;omega
    have hupb:∀ L:List Path,gL L→up L≤(L.length:Int) * 2 ^ 48:=by
      intro L
      induction L with
      | nil=>intro _;exact Int.le_refl _
      | cons x t ih =>
        intro h;have k:=ih fun y hy=>h y (List.mem_cons_of_mem _ hy);have k2:=hrz x (h x List.mem_cons_self).1 (h x List.mem_cons_self).2;rw [up,List.length_cons];omega
    have hP2:(m.1 * g.1).natAbs≤2 ^ 63 * 2 ^ 63:=by rw [Int.natAbs_mul];exact Nat.mul_le_mul oo_ oo_
    have hbb:∀ t:Int,t.natAbs≤20 * 2 ^ 48→gR (m.1 * g.1 * t):=fun t ht=>by
      unfold gR;refine Nat.lt_of_le_of_lt ?_ h30;rw [Int.natAbs_mul,hC];exact Nat.le_trans (Nat.mul_le_mul hP2 ht) dd_
    have bnd:∀ l:List Pose,l.all gP=true→l.length≤20→(up (prs l)).natAbs≤20 * 2 ^ 48:=fun l h1 h2=>by
      have k1:=ZQ (prs l);have k2:=hupb _ (d9_ l h1);have k3:=aY_ l;omega
    have hzz:(zl a - zf a).natAbs≤20 * 2 ^ 48:=by
      have k1:=G4 hlast;have k2:=G4 hfirst;unfold zl zf;omega
    have u1:=bnd a aa oo_;have u2:=bnd b ba oo_;have u3:=bnd [a.getD (a.length - 1) bG,b.getD 0 bG] (by rw [hby,List.all_cons,List.all_cons,hlast,hgy];rfl) (by simp);have u5:=bnd a.reverse (by rw [List.all_reverse];exact aa) (by rw [List.length_reverse];omega)
    have e4:up (prs (([] ++ a) ++ b))=up (prs a)+up (prs [a.getD (a.length - 1) bG,b.getD 0 bG])+up (prs b):=by
      rw [List.nil_append,P0 a b y hy a0,SK,up,hby]
      show _=_+(max (a7_ ⟨a.getD (a.length - 1) bG,y⟩) 0+0)+_
      omega
    have k4:=bnd (([] ++ a) ++ b) (by simp only [List.nil_append,List.all_append,aa,ba,Bool.and_self]) (by simp only [List.nil_append,List.length_append];omega);have e5:=k4_ a a0
    have s13:(up (prs a)+up (prs [a.getD (a.length - 1) bG,b.getD 0 bG])).natAbs≤20 * 2 ^ 48:=by
      have k1:=ZQ (prs a);have k2:=ZQ (prs [a.getD (a.length - 1) bG,b.getD 0 bG]);have k3:=ZQ (prs b);omega
    simp only [eD];have bm:gR m.1:=sB oo_;have bg:gR g.1:=sB oo_
    have bP:gR (m.1 * g.1):=by have:=hbb 1 dd_;rwa [Int.mul_one] at this
    rw [E8 (hbb _ u1) (hbb _ u3),← Int.mul_add,E8 (hbb _ s13) (hbb _ u2),← Int.mul_add,← e4,bk_ (hbb _ u1) (hbb _ u5),← Int.mul_sub,e5,qV bm bg,qV bP (sB (by
      show (zl a - zf a).natAbs<_;omega)),tT (hbb _ u1)]
    have hsg:0≤(m.1 * g.1 * up (prs a)).sign:=Int.sign_nonneg_iff.2 (Int.mul_nonneg (Int.mul_nonneg hm' hg') (ZQ _));rw [decide_eq_true hsg]
    simp [zl,zf]
  rfl
end Go.Num

