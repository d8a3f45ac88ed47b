/- Lemmas: what they ask stands in their statements. -/
import Derived.Test.YtkjjponijamaoaaGreatDoorYH5xOm
import Derived.Test.YtkjjponijamaoaaGreatDoorYPV
import Derived.ChangeArms
set_option linter.unusedSimpArgs false
set_option linter.unusedVariables false
set_option maxHeartbeats 8000000
set_option maxRecDepth 20000

namespace Go.Num
open Go Go.Kn
def Z4.dir (a:Z4):Z4:=⟨a.x / a.m,a.y / a.m,a.z / a.m,a.t / a.m⟩
theorem Z4.g_zero {a:Z4}:a.g=0 ↔ a.zero:=by
  unfold Z4.g Z4.zero;simp only [Int.gcd_eq_zero_iff,Int.natCast_eq_zero]
  constructor
  · rintro ⟨⟨⟨⟨_,h1⟩,h2⟩,h3⟩,h4⟩;exact ⟨h1,h2,h3,h4⟩
  rintro ⟨h1,h2,h3,h4⟩;exact ⟨⟨⟨⟨trivial,h1⟩,h2⟩,h3⟩,h4⟩
theorem Z4.lead_zero {a:Z4} (h:¬ a.zero):a.lead≠0:=by
  unfold Z4.zero at h;unfold Z4.lead
  by_cases h1:a.x=0 <;> by_cases h2:a.y=0 <;> by_cases h3:a.z=0 <;> simp_all
theorem Z4.m_ne {a:Z4} (h:¬ a.zero):a.m≠0:=by
  unfold Z4.m;have h1:=Z4.lead_zero h;have h2:a.g≠0:=fun e=>h (Z4.g_zero.1 e);intro e;rcases Int.mul_eq_zero.1 e with e | e
  · exact h1 (Int.sign_eq_zero_iff_zero.1 e)
  exact h2 (by exact_mod_cast e)
theorem Z4.m_abs {a:Z4} (h:¬ a.zero):a.m.natAbs=a.g:=by
  unfold Z4.m;rw [Int.natAbs_mul,Int.natAbs_natCast,Int.natAbs_sign_of_ne_zero (Z4.lead_zero h),Nat.one_mul]
theorem Z4.g_dvd (a:Z4):((a.g:Nat):Int) ∣ a.x∧((a.g:Nat):Int) ∣ a.y∧((a.g:Nat):Int) ∣ a.z∧((a.g:Nat):Int) ∣ a.t:=by
  unfold Z4.g;have l:∀ (u v:Int),((Int.gcd u v:Nat):Int) ∣ u:=fun u v=>Int.gcd_dvd_left ..;have r:∀ (u v:Int),((Int.gcd u v:Nat):Int) ∣ v:=fun u v=>Int.gcd_dvd_right ..;refine ⟨?_,?_,?_,r _ _⟩
  · exact Int.dvd_trans (Int.dvd_trans (Int.dvd_trans (l _ _) (l _ _)) (l _ _)) (r _ _)
  · exact Int.dvd_trans (Int.dvd_trans (l _ _) (l _ _)) (r _ _)
  exact Int.dvd_trans (l _ _) (r _ _)
theorem Z4.m_dvd {a:Z4} (h:¬ a.zero):a.m ∣ a.x∧a.m ∣ a.y∧a.m ∣ a.z∧a.m ∣ a.t:=by
  have e:∀ v:Int,((a.g:Nat):Int) ∣ v→a.m ∣ v:=fun v hv=>by
    rw [← Z4.m_abs h] at hv;exact Int.natAbs_dvd.1 hv
  obtain ⟨h1,h2,h3,h4⟩:=Z4.g_dvd a;exact ⟨e _ h1,e _ h2,e _ h3,e _ h4⟩
theorem A4.i_inj {a b:A4 W} (h:a.i=b.i):a=b:=by
  cases a;cases b
  simp only [A4.i,Z4.mk.injEq] at h;obtain ⟨h1,h2,h3,h4⟩:=h;simp only [A4.mk.injEq];exact ⟨Subtype.ext h1,Subtype.ext h2,Subtype.ext h3,Subtype.ext h4⟩
def A4.Fine (a:A4 W):Prop:=a.x.1 ≠ -9223372036854775808∧a.y.1 ≠ -9223372036854775808∧a.z.1 ≠ -9223372036854775808∧a.t.1 ≠ -9223372036854775808
theorem lY_ {a:A4 W} (h:a.Fine):(fL [a.x,a.y,a.z,a.t]).1=(a.i.g:Nat):=by
  obtain ⟨h1,h2,h3,h4⟩:=h;rw [pK_ (by simp only [List.mem_cons,List.not_mem_nil,or_false];rintro x (rfl | rfl | rfl | rfl) <;> assumption)];rfl
theorem fU_ {a r:W} (h:a.1 ≠ -9223372036854775808) (hd:r.1 ∣ a.1) (h0:r.1≠0):(W.quo a r).1=a.1 / r.1:=by
  have h2:=a.2;unfold I64 at h2
  show IntKind.i64.wrap (a.1.tdiv r.1)=_
  rw [Int.tdiv_eq_ediv_of_dvd hd];obtain ⟨k,hk⟩:=hd;rw [hk,Int.mul_ediv_cancel_left _ h0]
  have:k.natAbs≤a.1.natAbs:=by rw [hk,Int.natAbs_mul];exact Nat.le_mul_of_pos_left _ oo_
  exact wi oo_
theorem cG_ {a:W} (h:a.1 ≠ -9223372036854775808):(W.neg a).1 = -a.1:=by
  have h2:=a.2;unfold I64 at h2
  show IntKind.i64.wrap (0 - a.1)=_
  rw [wi oo_];omega
theorem f5_ {g v:W} (hg:0≤g.1) (hv:v.1≠0):(bif decide (v.1<0) then W.neg g else g).1=v.1.sign * g.1:=by
  by_cases h:v.1<0
  · rw [decide_eq_true h,cond_true,cG_ oo_,Int.sign_eq_neg_one_of_neg h];omega
  rw [decide_eq_false h,cond_false,Int.sign_eq_one_of_pos oo_];omega
theorem U9 {a:A4 W} {r:W} (h:a.Fine) (hz:¬ a.i.zero) (hr:r.1=a.i.m):(⟨W.quo a.x r,W.quo a.y r,W.quo a.z r,W.quo a.t r⟩:A4 W).i=a.i.dir:=by
  obtain ⟨d1,d2,d3,d4⟩:=Z4.m_dvd hz;have hm:=Z4.m_ne hz;rw [← hr] at d1 d2 d3 d4 hm;obtain ⟨h1,h2,h3,h4⟩:=h;refine Z4.ext ?_ ?_ ?_ ?_
  · exact (fU_ h1 d1 hm).trans (by rw [hr];rfl)
  · exact (fU_ h2 d2 hm).trans (by rw [hr];rfl)
  · exact (fU_ h3 d3 hm).trans (by rw [hr];rfl)
  exact (fU_ h4 d4 hm).trans (by rw [hr];rfl)
theorem sH_ {a:A4 W} (h:a.Fine) (hz:¬ a.i.zero):(i6 a).1.i=a.i.dir∧(i6 a).2=true:=by
  have hg:=lY_ h;have hg0:a.i.g≠0:=fun e=>hz (Z4.g_zero.1 e)
  have hgp:0≤(fL [a.x,a.y,a.z,a.t]).1:=by rw [hg];omega
  unfold i6;rw [show ((fL [a.x,a.y,a.z,a.t]).1==0)=false by rw [hg];simp;exact hg0,cond_false]
  have hm:a.i.m=a.i.lead.sign * (fL [a.x,a.y,a.z,a.t]).1:=by rw [hg];rfl
  by_cases x0:a.x.1=0
  · rw [show (a.x.1 != 0)=false by simp [x0],cond_false]
    by_cases y0:a.y.1=0
    · rw [show (a.y.1 != 0)=false by simp [y0],cond_false]
      by_cases z0:a.z.1=0
      · rw [show (a.z.1 != 0)=false by simp [z0],cond_false]
        by_cases t0:a.t.1=0
        · exact absurd ⟨x0,y0,z0,t0⟩ hz
        rw [show (a.t.1 != 0)=true by simp [t0],cond_true];refine ⟨U9 h hz ?_,rfl⟩;rw [f5_ hgp t0,hm,show a.i.lead=a.t.1 by simp [Z4.lead,A4.i,x0,y0,z0]]
      rw [show (a.z.1 != 0)=true by simp [z0],cond_true];refine ⟨U9 h hz ?_,rfl⟩;rw [f5_ hgp z0,hm,show a.i.lead=a.z.1 by simp [Z4.lead,A4.i,x0,y0,z0]]
    rw [show (a.y.1 != 0)=true by simp [y0],cond_true];refine ⟨U9 h hz ?_,rfl⟩;rw [f5_ hgp y0,hm,show a.i.lead=a.y.1 by simp [Z4.lead,A4.i,x0,y0]]
  rw [show (a.x.1 != 0)=true by simp [x0],cond_true];refine ⟨U9 h hz ?_,rfl⟩;rw [f5_ hgp x0,hm,show a.i.lead=a.x.1 by simp [Z4.lead,A4.i,x0]]
theorem f2_ (v:W):(bV v).1=v.1.sign:=by
  unfold bV
  by_cases h:v.1<0
  · rw [decide_eq_true h,cond_true,Int.sign_eq_neg_one_of_neg h]
  rw [decide_eq_false h,cond_false];unfold W.min
  by_cases h1:(1:Int)<v.1
  · rw [show decide ((wl 1).1<v.1)=true from decide_eq_true h1,cond_true,Int.sign_eq_one_of_pos oo_]
  rw [show decide ((wl 1).1<v.1)=false from decide_eq_false h1,cond_false];rcases (show v.1=0∨v.1=1 by omega) with e | e <;> rw [e] <;> rfl
theorem mz_ {a b:W} (ha:a.1 ≠ -9223372036854775808) (hb:b.1 ≠ -9223372036854775808):(aA a b).1=(Int.gcd a.1 b.1:Nat)∧(aA a b).1 ≠ -9223372036854775808:=by
  have he:=VP (a:=a) (b:=b) (b.1.natAbs+1) a b (Nat.lt_succ_self _);have h1:=a.2;have h2:=b.2;unfold I64 at h1 h2
  have hle:Int.gcd a.1 b.1<9223372036854775808:=by
    by_cases h0:b.1=0
    · rw [h0,Int.gcd_zero_right];omega
    exact Nat.lt_of_le_of_lt (Nat.le_of_dvd oo_ (Int.gcd_dvd_natAbs_right a.1 b.1)) oo_
  have:(aA a b).1=(Int.gcd a.1 b.1:Nat):=by
    show (W.max (lK a b (b.1.natAbs+1) a b).1 (W.neg (lK a b (b.1.natAbs+1) a b).1)).1=_
    rw [W.abs_1 (by intro e;rw [e] at he;omega),he]
  exact ⟨this,by rw [this];omega⟩
theorem rv_ (a:Z4):Int.gcd (Int.gcd (Int.gcd (Int.gcd (0:Int) a.t:Nat) a.z:Nat) a.y:Nat) a.x=a.g:=by
  unfold Z4.g;simp only [Int.gcd,Int.natAbs_natCast,Int.natAbs_zero,Nat.gcd_zero_left]
  have e:∀ x y z t:Nat,Nat.gcd (Nat.gcd (Nat.gcd t z) y) x=Nat.gcd (Nat.gcd (Nat.gcd x y) z) t:=fun x y z t=>by
    rw [Nat.gcd_comm,Nat.gcd_comm (Nat.gcd t z) y,← Nat.gcd_assoc,Nat.gcd_comm t z,← Nat.gcd_assoc]
  exact e _ _ _ _
theorem r0_ (a:A4 W):(bif (a.x.1 != 0) then (bV a.x) else (bif (a.y.1 != 0) then (bV a.y) else (bif (a.z.1 != 0) then (bV a.z) else (bif (a.t.1 != 0) then (bV a.t) else (wl 0))))).1=a.i.lead.sign:=by
  have n0:∀ v:W,v.1=0→(v.1 != 0)=false:=fun v h=>by simp [h]
  have n1:∀ v:W,¬ v.1=0→(v.1 != 0)=true:=fun v h=>by simp [h]
  show _=(if a.x.1≠0 then a.x.1 else if a.y.1≠0 then a.y.1 else if a.z.1≠0 then a.z.1 else a.t.1).sign
  by_cases x0:a.x.1=0
  · rw [n0 _ x0,cond_false,if_neg (by simp [x0])]
    by_cases y0:a.y.1=0
    · rw [n0 _ y0,cond_false,if_neg (by simp [y0])]
      by_cases z0:a.z.1=0
      · rw [n0 _ z0,cond_false,if_neg (by simp [z0])]
        by_cases t0:a.t.1=0
        · rw [n0 _ t0,cond_false,t0];rfl
        rw [n1 _ t0,cond_true,f2_]
      rw [n1 _ z0,cond_true,f2_,if_pos z0]
    rw [n1 _ y0,cond_true,f2_,if_pos y0]
  rw [n1 _ x0,cond_true,f2_,if_pos x0]
theorem sI_ {a:A4 W} (h:a.Fine) (hz:¬ a.i.zero):(gB a).1.i=a.i.dir∧(gB a).2=true:=by
  obtain ⟨h1,h2,h3,h4⟩:=h;have g1:=mz_ (a:=wl 0) (b:=a.t) dd_ h4;have g2:=mz_ g1.2 h3;have g3:=mz_ g2.2 h2;have g4:=mz_ g3.2 h1;rw [g3.1,g2.1,g1.1,show (wl 0).1=0 from rfl] at g4
  have hg:(aA (aA (aA (aA (wl 0) a.t) a.z) a.y) a.x).1=(a.i.g:Nat):=by
    rw [g4.1];exact congrArg _ (rv_ a.i)
  have hm:(W.mul (bif (a.x.1 != 0) then (bV a.x) else (bif (a.y.1 != 0) then (bV a.y) else (bif (a.z.1 != 0) then (bV a.z) else (bif (a.t.1 != 0) then (bV a.t) else (wl 0)))))
      (W.max (aA (aA (aA (aA (wl 0) a.t) a.z) a.y) a.x) (W.neg (aA (aA (aA (aA (wl 0) a.t) a.z) a.y) a.x)))).1=a.i.m:=by
    show IntKind.i64.wrap (_ * _)=_
    have hb:=(aA (aA (aA (aA (wl 0) a.t) a.z) a.y) a.x).2;unfold I64 at hb;rw [r0_,W.abs_1 g4.2,hg,Int.natAbs_natCast];rw [hg] at hb;have hs:=Int.natAbs_sign_of_ne_zero (Z4.lead_zero hz);refine wi ?_;rcases (show a.i.lead.sign=1∨a.i.lead.sign = -1 by omega) with e | e <;> rw [e] <;> omega
  unfold gB;have hm0:=Z4.m_ne hz
  dsimp only
  rw [show ((W.mul (bif (a.x.1 != 0) then (bV a.x) else (bif (a.y.1 != 0) then (bV a.y) else (bif (a.z.1 != 0) then (bV a.z) else (bif (a.t.1 != 0) then (bV a.t) else (wl 0)))))
      (W.max (aA (aA (aA (aA (wl 0) a.t) a.z) a.y) a.x) (W.neg (aA (aA (aA (aA (wl 0) a.t) a.z) a.y) a.x)))).1==0)=false by rw [hm];simp;exact hm0,cond_false]
  exact ⟨U9 ⟨h1,h2,h3,h4⟩ hz hm,rfl⟩
theorem mc_ (x:W):(decide (64<(W.max x (W.neg x)).1)||((x.1==(W.neg x).1)&&(x.1 != 0)))=(decide (64<x.1)||decide (x.1 < -64)):=by
  by_cases h:x.1 = -9223372036854775808
  · have e:(W.neg x).1 = -9223372036854775808:=by show IntKind.i64.wrap (0 - x.1)=_;rw [h];rfl
    rw [e,h];simp
  have e:=cG_ h
  have m:(W.max x (W.neg x)).1=max x.1 (-x.1):=by
    unfold W.max;rw [← e]
    by_cases k:x.1<(W.neg x).1
    · rw [decide_eq_true k,cond_true];omega
    rw [decide_eq_false k,cond_false];omega
  rw [m,e,Bool.eq_iff_iff]
  simp
  omega
theorem ln_ (a:A4 W):yC a=kN a:=by
  unfold yC kN;rw [mc_,mc_,mc_,mc_]
def Z4.Lw (v:Z4) (n:Nat):Prop:=v.x.natAbs<n∧v.y.natAbs<n∧v.z.natAbs<n∧v.t.natAbs<n
theorem fC_ {a:A4 W} (h:kN a=true):a.i.Lw 65:=by
  unfold kN at h
  have g:∀ {c:Bool} {y:Bool},(bif c then false else y)=true→c=false∧y=true:=fun {c y} h=>by cases c <;> simp_all
  obtain ⟨h1,h⟩:=g h;obtain ⟨h2,h⟩:=g h;obtain ⟨h3,h⟩:=g h;obtain ⟨h4,h⟩:=g h;simp only [Bool.or_eq_false_iff,decide_eq_false_iff_not] at h1 h2 h3 h4;refine ⟨?_,?_,?_,?_⟩
  · show a.x.1.natAbs<65;omega
  · show a.y.1.natAbs<65;omega
  · show a.z.1.natAbs<65;omega
  show a.t.1.natAbs<65;omega
theorem jF_ {a:A4 W} (h:a.i.Lw 65):a.Fine:=by
  obtain ⟨h1,h2,h3,h4⟩:=h;have g1:a.x.1.natAbs<65:=h1;have g2:a.y.1.natAbs<65:=h2;have g3:a.z.1.natAbs<65:=h3;have g4:a.t.1.natAbs<65:=h4;refine ⟨?_,?_,?_,?_⟩ <;> omega
theorem go_ {a:A4 W} (h:a.i.zero):a=⟨wl 0,wl 0,wl 0,wl 0⟩:=A4.i_inj (Z4.ext h.1 h.2.1 h.2.2.1 h.2.2.2)
theorem gv_ (a:A4 W):zA a=jT a:=by
  by_cases hz:a.i.zero
  · rw [go_ hz];kernel_rfl
  unfold zA jT;rw [ln_]
  cases hl:kN a
  · rfl
  have hf:=jF_ (fC_ hl);obtain ⟨p1,p2⟩:=sH_ hf hz;obtain ⟨r1,r2⟩:=sI_ hf hz;have e:(i6 a).1=(gB a).1:=A4.i_inj (p1.trans r1.symm);simp only [cond_true,p2,r2,e]
theorem FT (a:Pose):kQ a=eK a:=by unfold kQ eK;rw [gv_]
theorem GD (a b c:I):kP [a,b,c]=eY a b c:=by
  show E (Z.mul (E (Z.mul a.dec b.dec)).dec c.dec)=_
  rw [eD];rfl
def toP (x:(List Path×Nat) ⊕ (List Path×W)):(List Path×Nat) ⊕ Paths :=
  match x with
  | .inl s=>.inl s
  | .inr r=>.inr ⟨r.1,r.2⟩
theorem aM_ (l:List Pose):∀ (k:Nat) (out:List Path) (i:Nat),mM l k out i=toP (nA l k out i)
  | 0,out,i=>rfl
  | k+1,out,i=>by
    rw [mM,nA,FT]
    cases decide (((i:Nat):Int)<((l.length:Nat):Int))
    · rfl
    simp only [cond_true]
    cases ((eK (l.getD i bG)).1 != 0)
    · simp only [cond_false]
      cases decide (0<((i:Nat):Int))
      · exact aM_ l k _ _
      exact aM_ l k _ _
    rfl
theorem TY (l:List Pose):cW l=((aC l).l,(aC l).e):=by
  unfold cW aC;rw [aM_]
  cases l with
  | nil=>rfl
  | cons a l =>
    have e:((((a :: l).length:Nat):Int)==0)=false:=by simp;omega
    rw [e];simp only [cond_false]
    cases nA (a :: l) ((a :: l).length+1) [] 0 <;> rfl
theorem ZY (l:List Pose) (p q:A3 W):∀ (k i:Nat),l.length<i+k→sm (fun _:Nat=>true) (fun r=>r) (nG l p q k i)=sm (fun _:Unit=>true) (fun r=>r) (sI l p q (l.drop i))
  | 0,i,h=>by rw [List.drop_eq_nil_of_le oo_];rfl
  | k+1,i,h=>by
    rw [nG]
    by_cases hi:i<l.length
    · rw [decide_eq_true oo_,cond_true,List.drop_eq_getElem_cons hi,sI,show l.getD i bG=l[i] by simp [hi]]
      cases (decide (l[i].x.x.1<p.x.1)||decide (q.x.1<l[i].x.x.1))
      · simp only [cond_false]
        cases (decide (l[i].x.y.1<p.y.1)||decide (q.y.1<l[i].x.y.1))
        · simp only [cond_false]
          cases (decide (l[i].x.z.1<p.z.1)||decide (q.z.1<l[i].x.z.1))
          · simp only [cond_false];exact ZY l p q k (i+1) oo_
          rfl
        rfl
      rfl
    rw [decide_eq_false oo_,List.drop_eq_nil_of_le oo_];rfl
theorem gx_ (l:List Pose) (p q:A3 W):uE l p q=mD l p q:=(ZY l p q (l.length+1) 0 oo_).symm
theorem br_ (m g:W) (l:List Pose):∀ (k i:Nat) (d:Done),(aC l).l.length<i+k→(mN m g l k i d).2=⟨nC m g l ((aC l).l.drop i) d.w,d.e⟩
  | 0,i,d,h=>by rw [List.drop_eq_nil_of_le oo_];rfl
  | k+1,i,d,h=>by
    rw [mN]
    by_cases hi:i<(aC l).l.length
    · rw [decide_eq_true oo_,cond_true,List.drop_eq_getElem_cons hi,nC,show (aC l).l.getD i i3=(aC l).l[i] by simp [hi]]
      cases decide (0<(W.sub (aC l).l[i].to_.x.z (aC l).l[i].from_.x.z).1)
      · simp only [cond_false];exact br_ m g l k (i+1) d oo_
      simp only [cond_true,GD];exact br_ m g l k (i+1) _ oo_
    rw [decide_eq_false oo_,List.drop_eq_nil_of_le oo_];rfl
theorem ls_ (m g:W) (l:List Pose):cA m g l=((gI m g l).w,(gI m g l).e):=by
  unfold cA gI;rw [TY]
  cases (((aC l).e.1 != 0)||(decide (m.1<0)||decide (g.1<0)))
  · simp only [cond_false,ap]
    rw [br_ m g l _ 0 _ oo_];rfl
  rfl
theorem cA_ (l:List Pose) (m g:W) (lo hi:A3 W):∀ (k i:Nat),∃ j,iY l m g lo hi k i = .inl j
  | 0,i=>⟨i,rfl⟩
  | k+1,i=>by
    rw [iY,TY];simp only [decide_true,Bool.and_self,cond_true]
    cases decide (((i:Nat):Int)<((((aC l).l).length:Nat):Int))
    · exact ⟨i,rfl⟩
    exact cA_ l m g lo hi k (i+1)
theorem hL_ (l:List Pose) (m g:W) (lo hi:A3 W):j4 l m g lo hi=true:=by
  unfold j4;rw [WZ,ls_,gx_];obtain ⟨j,hj⟩:=cA_ l m g lo hi (((cW l).1).length+1) 0;rw [hj,TY]
  cases decide (12<((l.length:Nat):Int)) <;> simp [sm]
open Go Go.Kn Go.RowKit Go.ChangeShapes Go.WideShapes
section
variable {H:Type} {enc:TypeId×Value→H} {P:Program} {w:World} {base:Nat} {spare:Nat→Bool} {held:Bool} {α:Type} {e:El α}
theorem Rd.app {a:Addr} {A B:List Value} (h:Rd w a A) (k:Rd w (a.add A.length) B):Rd w a (A ++ B):=fun j v hj=>by
  rcases Nat.lt_or_ge j A.length with h' | h'
  · rw [List.getElem?_append_left h'] at hj;exact h j v hj
  rw [List.getElem?_append_right h'] at hj;have:=k _ _ hj;rw [ab_,Nat.add_sub_cancel' h'] at this;exact this
theorem Rd.of_cells {a:Addr} {n:Nat} {cs:List Value} (h:w.cells? base a n=some cs):Rd w a cs:=fun j v hj=>by
  obtain ⟨_,hl,hc⟩:=World.cells?_some h;have hj':j<cs.length:=(List.getElem?_eq_some_iff.1 hj).1;have h1:=hc j oo_;rw [hj] at h1;exact h1
theorem fZ_ {a:Addr} {len:Nat} (h:∀ i,i<len→∃ x:α,w.cells? base (a.add (i * e.n)) e.n=some (e.cs x)):∀ k,k≤len→∃ l:List α,l.length=k∧Rd w a (rows e l)
  | 0,_=>⟨[],rfl,fun j v hj=>by simp [rows] at hj⟩
  | k+1,hk=>by
    obtain ⟨l,hl,hr⟩:=fZ_ h k oo_;obtain ⟨x,hx⟩:=h k oo_;refine ⟨l ++ [x],by simp [hl],?_⟩;rw [E4];refine Rd.app hr ?_;rw [u7,hl];have:=Rd.of_cells hx
    simpa [rows] using this
theorem p6_ {T E:TypeId} {ls:List AW} {v:Value} {d:DataW H} {p:List MemPlace} {b0:Nat} {r:Reach} (hT:P.underlying T=some (.slice E)) (hl:lz P 8 E=some ls) (hn:P.cellsOf E=e.n)
    (op:∀ cs,LWF cs ls→∃ x:α,cs=e.cs x) (hv:Value.okWide P w r b0 T v) (ht:DataW.Trod enc P w base spare held T v d p):∃ l:List α,Slr w e v l:=by
  obtain ⟨fuel,hf⟩:=ht
  have hv':∃ a n c,v = .slice a n c:=by
    unfold Value.okWide at hv;rw [hT] at hv;unfold Cell.okWide at hv;rw [hT] at hv
    cases v <;> simp_all [Cell.ok]
  obtain ⟨a,n,c,rfl⟩:=hv';have e1:(Value.slice a n c).cells.toList=[.slice a n c]:=rfl;rw [e1] at hf;rcases DataW.trod_slice hT hf with ⟨h,_⟩ | ⟨a',len,cap,elems,rest,m,_,h,_,_,hlc,hc,hel,hall,_⟩
  · cases h
    exact ⟨[],none,0,rfl,Nat.le_refl _,by decide,.inl ⟨rfl,rfl,rfl⟩⟩
  · cases h
    have hx:∀ i,i<n→∃ x:α,w.cells? base (a'.add (i * e.n)) e.n=some (e.cs x):=fun i hi=>by
      have h1:=hall i hi;rw [List.getElem?_eq_getElem oo_,hn] at h1
      cases hc':w.cells? base (a'.add (i * e.n)) e.n with
      | none=>rw [hc'] at h1;cases h1
      | some cs =>
        rw [hc'] at h1;obtain ⟨x,hx⟩:=op cs (HD 8 hl h1);exact ⟨x,by rw [hx]⟩
    obtain ⟨l,hl',hr⟩:=fZ_ hx n (Nat.le_refl _);exact ⟨l,some a',c,by rw [hl'],by omega,hc,.inr ⟨a',rfl,hr⟩⟩
end
end Go.Num


namespace Go.Num
open Go Go.Kn Go.RowKit Go.ChangeShapes Go.WideShapes
theorem rI_ {cs:List Value} (h:LWF cs ([some .i64] ++ ([some .i64] ++ ([some .i64] ++ ([some .i64] ++ ([some .i64] ++ ([some .i64] ++ [some .i64]))))))):∃ x:Pose,cs=iD.cs x:=by
  obtain ⟨c0,r0,rfl,u0,h⟩:=LWF.split h;obtain ⟨c1,r1,rfl,u1,h⟩:=LWF.split h;obtain ⟨c2,r2,rfl,u2,h⟩:=LWF.split h;obtain ⟨c3,r3,rfl,u3,h⟩:=LWF.split h;obtain ⟨c4,r4,rfl,u4,h⟩:=LWF.split h;obtain ⟨c5,r5,rfl,u5,u6⟩:=LWF.split h;obtain ⟨x0,rfl⟩:=WM u0;obtain ⟨x1,rfl⟩:=WM u1;obtain ⟨x2,rfl⟩:=WM u2;obtain ⟨x3,rfl⟩:=WM u3;obtain ⟨x4,rfl⟩:=WM u4;obtain ⟨x5,rfl⟩:=WM u5;obtain ⟨x6,rfl⟩:=WM u6;exact ⟨⟨⟨x0,x1,x2⟩,⟨x3,x4,x5,x6⟩⟩,rfl⟩
end Go.Num

namespace Go.Proofs.YtkjjponijamaoaaGreatDoor
open Go.Kn Go.Num
theorem NU (vl:Value) (l:(List Pose)) (m:W) (y:W) (lo:(A3 W)) (hi:(A3 W)) (w:World) (hl:Slr w iD vl l) :
    Calls Tryz.prog 8 [vl,.int .i64 m.1,.int .i64 y.1,AV [ci .i64 lo.x.1,ci .i64 lo.y.1,ci .i64 lo.z.1],AV [ci .i64 hi.x.1,ci .i64 hi.y.1,ci .i64 hi.z.1]].toArray w (fun e w'=>e = .returned (.bool (j4 l m y lo hi))∧Ext w w'):=by
 obtain ⟨p_l,c_l,rfl⟩:=hl.form;refine d6 (N:=92) Tryz.func8 rfl rfl (by simp) ?_;obtain ⟨w0,rfl⟩:∃ w0,w0=w:=⟨_,rfl⟩;have Hl:=hl.old;have hm_l:=hl.max;simp only [cS,Nat.reduceAdd];refine Rs fun K J=>bA rfl (cH rfl rfl (fun b1 hb1=>bA rfl (cH rfl rfl (fun b2 hb2=>sE rfl (nl J (Sq fun K1 J1=>Rs fun K J=>sE rfl (sQ (aZ (v':=.int .i64 (((l).length:Nat):Int)) (gD (e:=iD) tY rfl (SLe.sub Hl sn)) rfl) rfl (sE rfl (nl J ?_)))))))));rcases bt (decide (12<(((l).length:Nat):Int))) with h3 | h3
 ·have ph3:=of_decide_eq_true h3;refine W_t h3 rfl (Rs fun K J=>sQ (bZ BA eS  rfl) rfl (sE rfl (nl J (aL (aB (cC rfl (.inr rfl) rfl ?_))))));exact (by exact congrArg vS2 (show _=(j4 l m y lo hi) from bI h3 rfl))
 have ph3:=of_decide_eq_false h3;refine W_f h3 rfl (aG (J1 _ _ (Rs fun K J=>sE rfl (bA rfl (bO (E:=71) (e:=tN) (l:=(cW l).1) (fun v=>.tuple #[v,.int .i64 (((cW l).2).1)]) nl_ rfl (fun w hw=>O6 _ l w (aR hw Hl sn) (by first | omega | (simp only [List.length_append,List.length_nil];omega) | exact Nat.le_of_ble_eq_true rfl)) (fun p4 c5 L6 hF7=>?_))))));refine sE rfl (sE rfl (sE rfl (sE rfl (sE rfl (nl J (Rs fun K J=>sE rfl (sE rfl (sE rfl (sQ (aZ (v':=.tuple #[AV [pI ((cA m y l).1)],.int .i64 (((cA m y l).2).1)]) (dA SS rfl (fun w hw=>wV m y _ l w (aR hw Hl sn) (by first | omega | (simp only [List.length_append,List.length_nil];omega) | exact Nat.le_of_ble_eq_true rfl))) rfl) rfl ?_)))))))));refine sE rfl (sE rfl (sE rfl (sN gT rfl fun b8 hb8=>sS [pI ((cA m y l).1)] aD rfl rfl rfl rfl rfl uH rfl hb8 (sE rfl (nl J (Rs fun K J=>sE rfl (bA rfl (bO (E:=71) (e:=tN) (l:=(aC l).l) (fun v=>.agg #[v,.int .i64 (((aC l).e).1)]) fi_ rfl (fun w hw=>wR _ l w (aR hw Hl sn) (by first | omega | (simp only [List.length_append,List.length_nil];omega) | exact Nat.le_of_ble_eq_true rfl)) (fun p9 c10 L11 hF12=>?_)))))))));refine sN Z1 rfl fun b13 hb13=>sS [csl p9 ((aC l).l).length c10,ci .i64 (((aC l).e).1)] TH rfl rfl rfl rfl rfl uH rfl hb13 (nl J (Rs fun K J=>sE rfl (sE rfl (sE rfl (sQ (aZ (v':=AV [pI ((gI m y l).w),ci .i64 (((gI m y l).e).1)]) (dA rd_ rfl (fun w hw=>LD m y _ l w (aR hw Hl sn) (by first | omega | (simp only [List.length_append,List.length_nil];omega) | exact Nat.le_of_ble_eq_true rfl))) rfl) rfl ?_)))));refine sN XY rfl fun b14 hb14=>sS [pI ((gI m y l).w),ci .i64 (((gI m y l).e).1)] P7 rfl rfl rfl rfl rfl uH rfl hb14 (nl J (Sq fun K2 J2=>?_));refine dH [40,41,42,43,44,45,46,47,48,49,50,51,52,53,54,55,56,57,58,59,60,61,62,63] (fun g M=>(g 63 = .bool ((((((cW l).1).length:Nat):Int) != ((((aC l).l).length:Nat):Int))||((((cW l).2).1 != ((aC l).e).1)||(!(decide (((cA m y l).1)=((gI m y l).w)))||(((cA m y l).2).1 != ((gI m y l).e).1)))))∧M=(⟨b14,105,aW [pI ((gI m y l).w),ci .i64 (((gI m y l).e).1)]⟩ :: (⟨b13,85,aW [csl p9 ((aC l).l).length c10,ci .i64 (((aC l).e).1)]⟩ :: (L11 ++ (⟨b8,31,aW [pI ((cA m y l).1)]⟩ :: (L6 ++ (⟨b2,23,aW [ci .i64 hi.x.1,ci .i64 hi.y.1,ci .i64 hi.z.1]⟩ :: (⟨b1,23,aW [ci .i64 lo.x.1,ci .i64 lo.y.1,ci .i64 lo.z.1]⟩ :: [])))))))) (fun K3 J3=>?_) ?_
 ·refine Rk fun K J=>sE rfl (sQ (aZ (v':=.int .i64 ((((cW l).1).length:Nat):Int)) (gD (e:=tN) O8 rfl (rO hF7 (sd (sd (sR (sd lZ)))))) rfl) rfl (sQ (qF QS rfl rfl) rfl (sQ (qC di_ rfl m1 rfl) rfl (sQ (aZ (v':=.int .i64 ((((aC l).l).length:Nat):Int)) (gD (e:=tN) O8 rfl (rO hF12 (sd (sd lZ)))) rfl) rfl (sE rfl ?_)))));rcases bt (((((cW l).1).length:Nat):Int) != ((((aC l).l).length:Nat):Int)) with h20 | h20
  ·have ph21:=nH_ h20;refine sB h20 rfl (aI rfl (aI rfl (aI rfl (aI rfl (sE rfl (sE rfl (aI rfl (aI rfl (aI rfl (aI rfl (sE rfl (sE rfl (aI rfl (aI rfl (aI rfl (aI rfl (sE rfl (nl J ?_))))))))))))))))));refine J3 _ _ pp_ ⟨_,s0,?s63,rfl⟩
   case s63=>exact congrArg Value.bool (lT h20)
  have ph22:=fJ_ h20;refine sB h20 rfl (sE rfl (sQ (qF fp_ rfl rfl) rfl (sQ (qC wK rfl m1 rfl) rfl (sE rfl (sE rfl ?_)))));rcases bt (((cW l).2).1 != ((aC l).e).1) with h23 | h23
  ·refine sB h23 rfl (aI rfl (aI rfl (aI rfl (aI rfl (sE rfl (sE rfl (aI rfl (aI rfl (aI rfl (aI rfl (sE rfl (nl J ?_))))))))))));refine J3 _ _ pp_ ⟨_,s0,?s63,rfl⟩
   case s63=>exact congrArg Value.bool (iK h20 (lT h23))
  refine sB h23 rfl (sQ (qL aD rfl (mC (mC (mA mZ))) rfl) rfl (sQ (qF VS rfl rfl) rfl (sQ (qL aD rfl m0 rfl) rfl ?_)));refine sQ (EG (r:=decide (((cA m y l).1)=((gI m y l).w))) rfl rfl (kR 8 dd_ IL IS (iN cX) (iN cX) (mU fU))) rfl (sE rfl ?_);rcases bt (decide (((cA m y l).1)=((gI m y l).w))) with h24 | h24
  ·have ph24:=of_decide_eq_true h24;refine sB (iS h24) rfl (sE rfl (sQ (qF jc_ rfl rfl) rfl (sQ (qC wK rfl m0 rfl) rfl (sE rfl (sE rfl (nl J ?_))))));refine J3 _ _ pp_ ⟨_,s0,?s63,rfl⟩
   case s63=>exact congrArg Value.bool (iK h20 (iK h23 (j3 h24 rfl)))
  have ph24:=of_decide_eq_false h24;refine sB (iT h24) rfl (aI rfl (aI rfl (aI rfl (aI rfl (sE rfl (nl J ?_))))));refine J3 _ _ pp_ ⟨_,s0,?s63,rfl⟩
  case s63=>exact congrArg Value.bool (iK h20 (iK h23 (oJ h24)))
 rintro g25 M ⟨hg63,rfl⟩;simp only [dQ,hg63];clear hg63;rcases bt ((((((cW l).1).length:Nat):Int) != ((((aC l).l).length:Nat):Int))||((((cW l).2).1 != ((aC l).e).1)||(!(decide (((cA m y l).1)=((gI m y l).w)))||(((cA m y l).2).1 != ((gI m y l).e).1)))) with h26 | h26
 ·refine W_t h26 rfl (kG (sd (sk (sA (sd (s0))))) (Rs fun K J=>sE rfl (nl J (aL (aB (cC rfl (.inr rfl) rfl ?_))))));exact (by exact congrArg vS2 (show _=(j4 l m y lo hi) from aM h3 (bI h26 rfl)))
 have ph27:=fJ_ (Bool.or_eq_false_iff.1 h26).1;refine W_f h26 rfl (aG (J2 _ _ (kG (sd (sk (sA (sd (s0))))) (Sq fun K4 J4=>Rs fun K J=>?_))));have hne:=fJ_ (Bool.or_eq_false_iff.1 h26).1;have hmx0:=OwnG.max hF7;have hmx1:=OwnG.max hF12;refine sE rfl (nl J ?_);refine kI (fun S M h=>J4 S M h) [10,17,64,65,66,67,68,69,70,71,72,73,74,75,76,77,78,79] (fun g M=>∃ (i:Nat),(iY l m y lo hi ((((cW l).1).length+1)) 0) = .inl i∧(g 17 = .int .i64 ((i:Nat):Int))∧M=(⟨b13,85,aW [csl p9 ((aC l).l).length c10,ci .i64 (((aC l).e).1)]⟩ :: (L11 ++ (L6 ++ (⟨b2,23,aW [ci .i64 hi.x.1,ci .i64 hi.y.1,ci .i64 hi.z.1]⟩ :: (⟨b1,23,aW [ci .i64 lo.x.1,ci .i64 lo.y.1,ci .i64 lo.z.1]⟩ :: [])))))) (fun K_u28 hK_u28=>?_) ?_
 ·refine aJ ?_;refine eA [10,17,64,65,66,67,68,69,70,71,72,73,74,75,76,77,78,79] (fun g nn M=>∃ (i:Nat),(iY l m y lo hi nn i)=(iY l m y lo hi ((((cW l).1).length+1)) 0)∧((cW l).1).length - i<nn∧(i≤((cW l).1).length)∧(g 17 = .int .i64 ((i:Nat):Int))∧M=(⟨b13,85,aW [csl p9 ((aC l).l).length c10,ci .i64 (((aC l).e).1)]⟩ :: (L11 ++ (L6 ++ (⟨b2,23,aW [ci .i64 hi.x.1,ci .i64 hi.y.1,ci .i64 hi.z.1]⟩ :: (⟨b1,23,aW [ci .i64 lo.x.1,ci .i64 lo.y.1,ci .i64 lo.z.1]⟩ :: [])))))) ((((cW l).1).length+1)) ?start ?round
  case start=>exact ⟨_,s0,0,rfl,oo_,oo_,rfl,rfl⟩
  case round =>
   rintro nn g M ⟨i,hT0,hq0,hinv0,hg17,rfl⟩;obtain ⟨k0,rfl⟩:∃ m,nn=m+1:=⟨nn - 1,by omega⟩;simp only [dQ,hg17];clear hg17;refine Sq fun K9 J9=>Rs fun K J=>sE rfl (sE rfl (sQ (aZ (v':=.int .i64 ((((cW l).1).length:Nat):Int)) (gD (e:=tN) O8 rfl (rO hF7 (sd (sR lZ)))) rfl) rfl (sE rfl (nl J ?_))));rcases bt (decide (((i:Nat):Int)<((((cW l).1).length:Nat):Int))) with h33 | h33
   ·have ph33:=of_decide_eq_true h33;refine W_t h33 rfl (aG (J9 _ _ (Sq fun K10 J10=>aJ (ds s0 [0,4,8,12,16,20,24,28,32,36] [] mix (by kernel_rfl) (fun K J=>pE rfl (pE rfl (pQ rfl (aZ (v':=.pointer (some (slb (.slice p4 ((cW l).1).length c5) (i * 14+0)))) (lY (e:=tN) (l:=(cW l).1) (k:=i) O8 rfl rfl (rO hF7 (sd (sR lZ))) o2_) rfl) ?_)))))));refine pQ rfl (oK (e:=tN) (l:=(cW l).1) (k:=i) (o:=0) uC rfl (rO hF7 (sd (sR lZ))) (eV i3 o2_) rfl) ?_;refine pQ rfl (qF QS rfl rfl) (pQ rfl (qC di_ rfl m0 rfl) (pE rfl (pQ rfl (aZ (v':=.pointer (some (slb (.slice p9 ((aC l).l).length c10) (i * 14+0)))) (lY (e:=tN) (l:=(aC l).l) (k:=i) O8 rfl rfl (rO hF12 (sd lZ)) o2_) rfl) ?_)));refine pQ rfl (oK (e:=tN) (l:=(aC l).l) (k:=i) (o:=0) uC rfl (rO hF12 (sd lZ)) (eV i3 o2_) rfl) ?_;refine pQ rfl (EG (r:=(decide (((((((cW l).1).getD i i3).from_).x).x).1=((((((aC l).l).getD i i3).from_).x).x).1)&&(decide (((((((cW l).1).getD i i3).from_).x).y).1=((((((aC l).l).getD i i3).from_).x).y).1)&&(decide (((((((cW l).1).getD i i3).from_).x).z).1=((((((aC l).l).getD i i3).from_).x).z).1)&&(decide (((((((cW l).1).getD i i3).from_).q).x).1=((((((aC l).l).getD i i3).from_).q).x).1)&&(decide (((((((cW l).1).getD i i3).from_).q).y).1=((((((aC l).l).getD i i3).from_).q).y).1)&&(decide (((((((cW l).1).getD i i3).from_).q).z).1=((((((aC l).l).getD i i3).from_).q).z).1)&&(decide (((((((cW l).1).getD i i3).from_).q).t).1=((((((aC l).l).getD i i3).from_).q).t).1)&&(decide (((((((cW l).1).getD i i3).to_).x).x).1=((((((aC l).l).getD i i3).to_).x).x).1)&&(decide (((((((cW l).1).getD i i3).to_).x).y).1=((((((aC l).l).getD i i3).to_).x).y).1)&&(decide (((((((cW l).1).getD i i3).to_).x).z).1=((((((aC l).l).getD i i3).to_).x).z).1)&&(decide (((((((cW l).1).getD i i3).to_).q).x).1=((((((aC l).l).getD i i3).to_).q).x).1)&&(decide (((((((cW l).1).getD i i3).to_).q).y).1=((((((aC l).l).getD i i3).to_).q).y).1)&&(decide (((((((cW l).1).getD i i3).to_).q).z).1=((((((aC l).l).getD i i3).to_).q).z).1)&&decide (((((((cW l).1).getD i i3).to_).q).t).1=((((((aC l).l).getD i i3).to_).q).t).1))))))))))))))) rfl rfl (kR 8 dd_ q7_ rA_ (bB mX (bB mX (bB mX (bB mX (bB mX (bB mX (bB mX (bB mX (bB mX (bB mX (bB mX (bB mX (bB mX (iN mX)))))))))))))) (bB mX (bB mX (bB mX (bB mX (bB mX (bB mX (bB mX (bB mX (bB mX (bB mX (bB mX (bB mX (bB mX (iN mX)))))))))))))) (dB rfl vQ (dB rfl vQ (dB rfl vQ (dB rfl vQ (dB rfl vQ (dB rfl vQ (dB rfl vQ (dB rfl vQ (dB rfl vQ (dB rfl vQ (dB rfl vQ (dB rfl vQ (dB rfl vQ (mU vQ)))))))))))))))) (fl J ?_);rcases bt (decide (((((((cW l).1).getD i i3).from_).x).x).1=((((((aC l).l).getD i i3).from_).x).x).1)&&(decide (((((((cW l).1).getD i i3).from_).x).y).1=((((((aC l).l).getD i i3).from_).x).y).1)&&(decide (((((((cW l).1).getD i i3).from_).x).z).1=((((((aC l).l).getD i i3).from_).x).z).1)&&(decide (((((((cW l).1).getD i i3).from_).q).x).1=((((((aC l).l).getD i i3).from_).q).x).1)&&(decide (((((((cW l).1).getD i i3).from_).q).y).1=((((((aC l).l).getD i i3).from_).q).y).1)&&(decide (((((((cW l).1).getD i i3).from_).q).z).1=((((((aC l).l).getD i i3).from_).q).z).1)&&(decide (((((((cW l).1).getD i i3).from_).q).t).1=((((((aC l).l).getD i i3).from_).q).t).1)&&(decide (((((((cW l).1).getD i i3).to_).x).x).1=((((((aC l).l).getD i i3).to_).x).x).1)&&(decide (((((((cW l).1).getD i i3).to_).x).y).1=((((((aC l).l).getD i i3).to_).x).y).1)&&(decide (((((((cW l).1).getD i i3).to_).x).z).1=((((((aC l).l).getD i i3).to_).x).z).1)&&(decide (((((((cW l).1).getD i i3).to_).q).x).1=((((((aC l).l).getD i i3).to_).q).x).1)&&(decide (((((((cW l).1).getD i i3).to_).q).y).1=((((((aC l).l).getD i i3).to_).q).y).1)&&(decide (((((((cW l).1).getD i i3).to_).q).z).1=((((((aC l).l).getD i i3).to_).q).z).1)&&decide (((((((cW l).1).getD i i3).to_).q).t).1=((((((aC l).l).getD i i3).to_).q).t).1)))))))))))))) with h34 | h34
    ·refine W_f (iS h34) rfl (aG (J10 _ _ (Rk fun K J=>sE rfl (sV (.int .i64 (((i+1):Nat):Int)) rfl (congrArg (Value.int .i64) (wx oo_ oo_ oo_)) (sE rfl (nl J (⟨pp_,_,_,s0,(Nat.lt_succ_self _),(i+1),(by exact (hT0.symm.trans (Eq.symm (bI h33 (bI h34 rfl)))).symm),(Nat.lt_of_lt_of_le oo_ (Nat.le_of_lt_succ hq0)),oo_,rfl,rfl⟩)))))))
    refine W_t (iT h34) rfl (Rs fun K J=>sE rfl (nl J (aL (aT (aB (aB (aT (aB (aB (cC rfl (.inr rfl) rfl ?_))))))))));exact (by exact congrArg vS2 (show _=(j4 l m y lo hi) from aM h3 (aM h26 ((EL rfl (hT0.symm.trans (Eq.symm (bI h33 (aM h34 rfl)))))))))
   have ph33:=of_decide_eq_false h33;refine W_f h33 rfl (dW (aU (aU (bJ (hK_u28 _ _ pp_ ⟨_,s0,i,(by exact hT0.symm.trans (Eq.symm (aM h33 rfl))),rfl,rfl⟩)))))
 rintro g M ⟨i,hCu28,hg17,rfl⟩;simp only [dQ,hg17];clear hg17;refine dH [10,80,81,82,83,84,85,86,87,88,89,90,91] (fun g M=>(g 10 = .bool (F_skewbacklaw26_sanity&&((uE l lo hi)==(mD l lo hi))))∧M=(⟨b13,85,aW [csl p9 ((aC l).l).length c10,ci .i64 (((aC l).e).1)]⟩ :: (L11 ++ (L6 ++ (⟨b2,23,aW [ci .i64 hi.x.1,ci .i64 hi.y.1,ci .i64 hi.z.1]⟩ :: (⟨b1,23,aW [ci .i64 lo.x.1,ci .i64 lo.y.1,ci .i64 lo.z.1]⟩ :: [])))))) (fun K11 J11=>?_) ?_
 ·refine dr s0 [0,4,8,12,16,20,24,28,32,36,40,44,48] [] mix (by kernel_rfl) (fun K J=>pQ rfl (bZ BA eS  rfl) ?_);rcases bt F_skewbacklaw26_sanity with h36 | h36
  ·refine pB h36 rfl (pE rfl (pQ rfl (qL iO rfl (mC (mA (mA (mC mZ)))) rfl) (pQ rfl (qL iO rfl (mC (mA (mA mZ))) rfl) (pQ rfl (aZ (v':=.bool (uE l lo hi)) (dA re_ rfl (fun w hw=>TS _ l lo hi w (aR hw Hl sn))) rfl) (pE rfl (pQ rfl (qL iO rfl (mC (mA (mA (mC mZ)))) rfl) (pQ rfl (qL iO rfl (mC (mA (mA mZ))) rfl) (pQ rfl (aZ (v':=.bool (mD l lo hi)) (dA rf_ rfl (fun w hw=>H6 _ l lo hi w (aR hw Hl sn))) rfl) (pQ rfl (aZ (v':=.bool ((uE l lo hi)==(mD l lo hi))) (KT GS rfl rfl) rfl) (pE rfl (pE rfl (fl J ?_))))))))))));refine J11 _ _ pp_ ⟨_,s0,?s10,rfl⟩
   case s10=>exact congrArg Value.bool (eB h36 rfl)
  refine pB h36 rfl (aP rfl rfl (aP rfl rfl (aP rfl rfl (aP rfl rfl (aP rfl rfl (aP rfl rfl (aP rfl rfl (aP rfl rfl (aP rfl rfl (pE rfl (pE rfl (fl J ?_))))))))))));refine J11 _ _ pp_ ⟨_,s0,?s10,rfl⟩
  case s10=>exact congrArg Value.bool (kU h36)
 rintro g37 M ⟨hg10,rfl⟩;simp only [dQ,hg10];clear hg10;refine aL (cC rfl (.inr rfl) rfl ?_);exact (by exact congrArg vS2 (show _=(j4 l m y lo hi) from aM h3 (aM h26 (trs (Eq.symm (smS hCu28)) rfl))))
end Go.Proofs.YtkjjponijamaoaaGreatDoor

