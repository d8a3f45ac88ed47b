/- Lemmas: what they ask stands in their statements. -/
import Derived.Test.YtkjjponijamaoaaGreatDoorYH1xRa
import Derived.Test.YtkjjponijamaoaaGreatDoorYPV
import Derived.ChangeArms
set_option linter.unusedSimpArgs false
set_option linter.unusedVariables false
set_option maxHeartbeats 8000000
set_option maxRecDepth 20000

namespace Go.Num
open Go Go.Kn
theorem A4.i_inj {a b:A4 W} (h:a.i=b.i):a=b:=by
  cases a;cases b
  simp only [A4.i,Z4.mk.injEq] at h;obtain ⟨h1,h2,h3,h4⟩:=h;simp only [A4.mk.injEq];exact ⟨Subtype.ext h1,Subtype.ext h2,Subtype.ext h3,Subtype.ext h4⟩
def A4.Fine (a:A4 W):Prop:=a.x.1 ≠ -9223372036854775808∧a.y.1 ≠ -9223372036854775808∧a.z.1 ≠ -9223372036854775808∧a.t.1 ≠ -9223372036854775808
theorem lY_ {a:A4 W} (h:a.Fine):(fL [a.x,a.y,a.z,a.t]).1=(a.i.g:Nat):=by
  obtain ⟨h1,h2,h3,h4⟩:=h;rw [pK_ (by simp only [List.mem_cons,List.not_mem_nil,or_false];rintro x (rfl | rfl | rfl | rfl) <;> assumption)];rfl
theorem fU_ {a r:W} (h:a.1 ≠ -9223372036854775808) (hd:r.1 ∣ a.1) (h0:r.1≠0):(W.quo a r).1=a.1 / r.1:=by
  have h2:=a.2;unfold I64 at h2
  show IntKind.i64.wrap (a.1.tdiv r.1)=_
  rw [Int.tdiv_eq_ediv_of_dvd hd];obtain ⟨k,hk⟩:=hd;rw [hk,Int.mul_ediv_cancel_left _ h0]
  have:k.natAbs≤a.1.natAbs:=by rw [hk,Int.natAbs_mul];exact Nat.le_mul_of_pos_left _ oo_
  exact wi oo_
theorem cG_ {a:W} (h:a.1 ≠ -9223372036854775808):(W.neg a).1 = -a.1:=by
  have h2:=a.2;unfold I64 at h2
  show IntKind.i64.wrap (0 - a.1)=_
  rw [wi oo_];omega
theorem f5_ {g v:W} (hg:0≤g.1) (hv:v.1≠0):(bif decide (v.1<0) then W.neg g else g).1=v.1.sign * g.1:=by
  by_cases h:v.1<0
  · rw [decide_eq_true h,cond_true,cG_ oo_,Int.sign_eq_neg_one_of_neg h];omega
  rw [decide_eq_false h,cond_false,Int.sign_eq_one_of_pos oo_];omega
theorem U9 {a:A4 W} {r:W} (h:a.Fine) (hz:¬ a.i.zero) (hr:r.1=a.i.m):(⟨W.quo a.x r,W.quo a.y r,W.quo a.z r,W.quo a.t r⟩:A4 W).i=a.i.dir:=by
  obtain ⟨d1,d2,d3,d4⟩:=Z4.m_dvd hz;have hm:=Z4.m_ne hz;rw [← hr] at d1 d2 d3 d4 hm;obtain ⟨h1,h2,h3,h4⟩:=h;refine Z4.ext ?_ ?_ ?_ ?_
  · exact (fU_ h1 d1 hm).trans (by rw [hr];rfl)
  · exact (fU_ h2 d2 hm).trans (by rw [hr];rfl)
  · exact (fU_ h3 d3 hm).trans (by rw [hr];rfl)
  exact (fU_ h4 d4 hm).trans (by rw [hr];rfl)
theorem sH_ {a:A4 W} (h:a.Fine) (hz:¬ a.i.zero):(i6 a).1.i=a.i.dir∧(i6 a).2=true:=by
  have hg:=lY_ h;have hg0:a.i.g≠0:=fun e=>hz (Z4.g_zero.1 e)
  have hgp:0≤(fL [a.x,a.y,a.z,a.t]).1:=by rw [hg];omega
  unfold i6;rw [show ((fL [a.x,a.y,a.z,a.t]).1==0)=false by rw [hg];simp;exact hg0,cond_false]
  have hm:a.i.m=a.i.lead.sign * (fL [a.x,a.y,a.z,a.t]).1:=by rw [hg];rfl
  by_cases x0:a.x.1=0
  · rw [show (a.x.1 != 0)=false by simp [x0],cond_false]
    by_cases y0:a.y.1=0
    · rw [show (a.y.1 != 0)=false by simp [y0],cond_false]
      by_cases z0:a.z.1=0
      · rw [show (a.z.1 != 0)=false by simp [z0],cond_false]
        by_cases t0:a.t.1=0
        · exact absurd ⟨x0,y0,z0,t0⟩ hz
        rw [show (a.t.1 != 0)=true by simp [t0],cond_true];refine ⟨U9 h hz ?_,rfl⟩;rw [f5_ hgp t0,hm,show a.i.lead=a.t.1 by simp [Z4.lead,A4.i,x0,y0,z0]]
      rw [show (a.z.1 != 0)=true by simp [z0],cond_true];refine ⟨U9 h hz ?_,rfl⟩;rw [f5_ hgp z0,hm,show a.i.lead=a.z.1 by simp [Z4.lead,A4.i,x0,y0,z0]]
    rw [show (a.y.1 != 0)=true by simp [y0],cond_true];refine ⟨U9 h hz ?_,rfl⟩;rw [f5_ hgp y0,hm,show a.i.lead=a.y.1 by simp [Z4.lead,A4.i,x0,y0]]
  rw [show (a.x.1 != 0)=true by simp [x0],cond_true];refine ⟨U9 h hz ?_,rfl⟩;rw [f5_ hgp x0,hm,show a.i.lead=a.x.1 by simp [Z4.lead,A4.i,x0]]
theorem f2_ (v:W):(bV v).1=v.1.sign:=by
  unfold bV
  by_cases h:v.1<0
  · rw [decide_eq_true h,cond_true,Int.sign_eq_neg_one_of_neg h]
  rw [decide_eq_false h,cond_false];unfold W.min
  by_cases h1:(1:Int)<v.1
  · rw [show decide ((wl 1).1<v.1)=true from decide_eq_true h1,cond_true,Int.sign_eq_one_of_pos oo_]
  rw [show decide ((wl 1).1<v.1)=false from decide_eq_false h1,cond_false];rcases (show v.1=0∨v.1=1 by omega) with e | e <;> rw [e] <;> rfl
theorem mz_ {a b:W} (ha:a.1 ≠ -9223372036854775808) (hb:b.1 ≠ -9223372036854775808):(aA a b).1=(Int.gcd a.1 b.1:Nat)∧(aA a b).1 ≠ -9223372036854775808:=by
  have he:=VP (a:=a) (b:=b) (b.1.natAbs+1) a b (Nat.lt_succ_self _);have h1:=a.2;have h2:=b.2;unfold I64 at h1 h2
  have hle:Int.gcd a.1 b.1<9223372036854775808:=by
    by_cases h0:b.1=0
    · rw [h0,Int.gcd_zero_right];omega
    exact Nat.lt_of_le_of_lt (Nat.le_of_dvd oo_ (Int.gcd_dvd_natAbs_right a.1 b.1)) oo_
  have:(aA a b).1=(Int.gcd a.1 b.1:Nat):=by
    show (W.max (lK a b (b.1.natAbs+1) a b).1 (W.neg (lK a b (b.1.natAbs+1) a b).1)).1=_
    rw [W.abs_1 (by intro e;rw [e] at he;omega),he]
  exact ⟨this,by rw [this];omega⟩
theorem rv_ (a:Z4):Int.gcd (Int.gcd (Int.gcd (Int.gcd (0:Int) a.t:Nat) a.z:Nat) a.y:Nat) a.x=a.g:=by
  unfold Z4.g;simp only [Int.gcd,Int.natAbs_natCast,Int.natAbs_zero,Nat.gcd_zero_left]
  have e:∀ x y z t:Nat,Nat.gcd (Nat.gcd (Nat.gcd t z) y) x=Nat.gcd (Nat.gcd (Nat.gcd x y) z) t:=fun x y z t=>by
    rw [Nat.gcd_comm,Nat.gcd_comm (Nat.gcd t z) y,← Nat.gcd_assoc,Nat.gcd_comm t z,← Nat.gcd_assoc]
  exact e _ _ _ _
theorem r0_ (a:A4 W):(bif (a.x.1 != 0) then (bV a.x) else (bif (a.y.1 != 0) then (bV a.y) else (bif (a.z.1 != 0) then (bV a.z) else (bif (a.t.1 != 0) then (bV a.t) else (wl 0))))).1=a.i.lead.sign:=by
  have n0:∀ v:W,v.1=0→(v.1 != 0)=false:=fun v h=>by simp [h]
  have n1:∀ v:W,¬ v.1=0→(v.1 != 0)=true:=fun v h=>by simp [h]
  show _=(if a.x.1≠0 then a.x.1 else if a.y.1≠0 then a.y.1 else if a.z.1≠0 then a.z.1 else a.t.1).sign
  by_cases x0:a.x.1=0
  · rw [n0 _ x0,cond_false,if_neg (by simp [x0])]
    by_cases y0:a.y.1=0
    · rw [n0 _ y0,cond_false,if_neg (by simp [y0])]
      by_cases z0:a.z.1=0
      · rw [n0 _ z0,cond_false,if_neg (by simp [z0])]
        by_cases t0:a.t.1=0
        · rw [n0 _ t0,cond_false,t0];rfl
        rw [n1 _ t0,cond_true,f2_]
      rw [n1 _ z0,cond_true,f2_,if_pos z0]
    rw [n1 _ y0,cond_true,f2_,if_pos y0]
  rw [n1 _ x0,cond_true,f2_,if_pos x0]
theorem sI_ {a:A4 W} (h:a.Fine) (hz:¬ a.i.zero):(gB a).1.i=a.i.dir∧(gB a).2=true:=by
  obtain ⟨h1,h2,h3,h4⟩:=h;have g1:=mz_ (a:=wl 0) (b:=a.t) dd_ h4;have g2:=mz_ g1.2 h3;have g3:=mz_ g2.2 h2;have g4:=mz_ g3.2 h1;rw [g3.1,g2.1,g1.1,show (wl 0).1=0 from rfl] at g4
  have hg:(aA (aA (aA (aA (wl 0) a.t) a.z) a.y) a.x).1=(a.i.g:Nat):=by
    rw [g4.1];exact congrArg _ (rv_ a.i)
  have hm:(W.mul (bif (a.x.1 != 0) then (bV a.x) else (bif (a.y.1 != 0) then (bV a.y) else (bif (a.z.1 != 0) then (bV a.z) else (bif (a.t.1 != 0) then (bV a.t) else (wl 0)))))
      (W.max (aA (aA (aA (aA (wl 0) a.t) a.z) a.y) a.x) (W.neg (aA (aA (aA (aA (wl 0) a.t) a.z) a.y) a.x)))).1=a.i.m:=by
    show IntKind.i64.wrap (_ * _)=_
    have hb:=(aA (aA (aA (aA (wl 0) a.t) a.z) a.y) a.x).2;unfold I64 at hb;rw [r0_,W.abs_1 g4.2,hg,Int.natAbs_natCast];rw [hg] at hb;have hs:=Int.natAbs_sign_of_ne_zero (Z4.lead_zero hz);refine wi ?_;rcases (show a.i.lead.sign=1∨a.i.lead.sign = -1 by omega) with e | e <;> rw [e] <;> omega
  unfold gB;have hm0:=Z4.m_ne hz
  dsimp only
  rw [show ((W.mul (bif (a.x.1 != 0) then (bV a.x) else (bif (a.y.1 != 0) then (bV a.y) else (bif (a.z.1 != 0) then (bV a.z) else (bif (a.t.1 != 0) then (bV a.t) else (wl 0)))))
      (W.max (aA (aA (aA (aA (wl 0) a.t) a.z) a.y) a.x) (W.neg (aA (aA (aA (aA (wl 0) a.t) a.z) a.y) a.x)))).1==0)=false by rw [hm];simp;exact hm0,cond_false]
  exact ⟨U9 ⟨h1,h2,h3,h4⟩ hz hm,rfl⟩
theorem eU_ (a b:W):pO a b=lE a b:=rfl
theorem W.b_inj {a b:W} (h:a.b=b.b):a=b:=by
  have h1:=congrArg BitVec.toInt h;unfold W.b at h1;rw [BitVec.toInt_ofInt,BitVec.toInt_ofInt] at h1;have ha:=a.2;have hb:=b.2;unfold I64 at ha hb
  have e:a.1=b.1:=by
    rw [Int.bmod_eq_of_le (by simp;omega) (by simp;omega),Int.bmod_eq_of_le (by simp;omega) (by simp;omega)] at h1;exact h1
  exact Subtype.ext e
theorem bs_ (x:Int):BitVec.ofInt 64 (IntKind.i64.wrap x)=BitVec.ofInt 64 x:=by
  apply BitVec.eq_of_toInt_eq
  rw [BitVec.toInt_ofInt,BitVec.toInt_ofInt]
  have h:∃ k:Int,IntKind.i64.wrap x=x+k * (2 ^ 64:Nat):=by
    refine ⟨-((x+9223372036854775808) / 18446744073709551616),?_⟩;unfold IntKind.wrap;simp only [IntKind.bits,IntKind.signed]
    simp
    omega
  obtain ⟨k,hk⟩:=h;rw [hk,Int.add_mul_bmod_self_right]
theorem W.b_add (a b:W):(W.add a b).b=a.b+b.b:=by
  show BitVec.ofInt 64 (IntKind.i64.wrap (a.1+b.1))=_
  rw [bs_,BitVec.ofInt_add];rfl
theorem W.b_mul (a b:W):(W.mul a b).b=a.b * b.b:=by
  show BitVec.ofInt 64 (IntKind.i64.wrap (a.1 * b.1))=_
  rw [bs_,BitVec.ofInt_mul];rfl
theorem W.b_sub (a b:W):(W.sub a b).b=a.b - b.b:=by
  show BitVec.ofInt 64 (IntKind.i64.wrap (a.1 - b.1))=_
  rw [bs_,Int.sub_eq_add_neg,BitVec.ofInt_add,BitVec.ofInt_neg,BitVec.sub_eq_add_neg];rfl
theorem W.b_neg (a:W):(W.neg a).b = -a.b:=by
  show BitVec.ofInt 64 (IntKind.i64.wrap (0 - a.1))=_
  rw [bs_,Int.zero_sub,BitVec.ofInt_neg];rfl
theorem W.b_0:(wl 0).b=0:=rfl
theorem W.b_2:(wl 2).b=2:=rfl
theorem sO_ (a b c d:W):cV [a,b,c,d]=W.add (W.add (wl 0) (W.mul a b)) (W.mul c d):=rfl
theorem sP_ (a b c d e f:W):cV [a,b,c,d,e,f]=W.add (W.add (W.add (wl 0) (W.mul a b)) (W.mul c d)) (W.mul e f):=rfl
theorem r8_ (a b c d e f g h:W):cV [a,b,c,d,e,f,g,h]=W.add (W.add (W.add (W.add (wl 0) (W.mul a b)) (W.mul c d)) (W.mul e f)) (W.mul g h):=rfl
theorem N9 (a b:A4 W):vJ a b=jF a b:=by
  unfold vJ jF;rw [r8_]
  apply W.b_inj
  simp only [W.b_add,W.b_mul,W.b_0]
  grind
theorem gu_ (a:A4 W):uF a=lP a:=N9 a a
theorem dv_ (a:A4 W):qX a=jX a:=by
  unfold qX jX;simp only [r8_,sO_]
  congr 1 <;> (apply W.b_inj;simp only [W.b_add,W.b_mul,W.b_sub,W.b_neg,W.b_0,W.b_2];grind)
theorem hJ_ (a:A4 W) (b:A3 W):sW a b=rQ a b:=by
  unfold sW rQ;simp only [sP_,dv_]
  congr 1 <;> (apply W.b_inj;simp only [W.b_add,W.b_mul,W.b_0];grind)
theorem dw_ (a:A4 W) (b:A3 W):uD a b=mB a b:=by
  unfold uD mB;simp only [hJ_,gu_,eU_]
theorem mc_ (x:W):(decide (64<(W.max x (W.neg x)).1)||((x.1==(W.neg x).1)&&(x.1 != 0)))=(decide (64<x.1)||decide (x.1 < -64)):=by
  by_cases h:x.1 = -9223372036854775808
  · have e:(W.neg x).1 = -9223372036854775808:=by show IntKind.i64.wrap (0 - x.1)=_;rw [h];rfl
    rw [e,h];simp
  have e:=cG_ h
  have m:(W.max x (W.neg x)).1=max x.1 (-x.1):=by
    unfold W.max;rw [← e]
    by_cases k:x.1<(W.neg x).1
    · rw [decide_eq_true k,cond_true];omega
    rw [decide_eq_false k,cond_false];omega
  rw [m,e,Bool.eq_iff_iff]
  simp
  omega
theorem ln_ (a:A4 W):yC a=kN a:=by
  unfold yC kN;rw [mc_,mc_,mc_,mc_]
def Z4.Lw (v:Z4) (n:Nat):Prop:=v.x.natAbs<n∧v.y.natAbs<n∧v.z.natAbs<n∧v.t.natAbs<n
theorem fC_ {a:A4 W} (h:kN a=true):a.i.Lw 65:=by
  unfold kN at h
  have g:∀ {c:Bool} {y:Bool},(bif c then false else y)=true→c=false∧y=true:=fun {c y} h=>by cases c <;> simp_all
  obtain ⟨h1,h⟩:=g h;obtain ⟨h2,h⟩:=g h;obtain ⟨h3,h⟩:=g h;obtain ⟨h4,h⟩:=g h;simp only [Bool.or_eq_false_iff,decide_eq_false_iff_not] at h1 h2 h3 h4;refine ⟨?_,?_,?_,?_⟩
  · show a.x.1.natAbs<65;omega
  · show a.y.1.natAbs<65;omega
  · show a.z.1.natAbs<65;omega
  show a.t.1.natAbs<65;omega
theorem jF_ {a:A4 W} (h:a.i.Lw 65):a.Fine:=by
  obtain ⟨h1,h2,h3,h4⟩:=h;have g1:a.x.1.natAbs<65:=h1;have g2:a.y.1.natAbs<65:=h2;have g3:a.z.1.natAbs<65:=h3;have g4:a.t.1.natAbs<65:=h4;refine ⟨?_,?_,?_,?_⟩ <;> omega
theorem go_ {a:A4 W} (h:a.i.zero):a=⟨wl 0,wl 0,wl 0,wl 0⟩:=A4.i_inj (Z4.ext h.1 h.2.1 h.2.2.1 h.2.2.2)
theorem gv_ (a:A4 W):zA a=jT a:=by
  by_cases hz:a.i.zero
  · rw [go_ hz];kernel_rfl
  unfold zA jT;rw [ln_]
  cases hl:kN a
  · rfl
  have hf:=jF_ (fC_ hl);obtain ⟨p1,p2⟩:=sH_ hf hz;obtain ⟨r1,r2⟩:=sI_ hf hz;have e:(i6 a).1=(gB a).1:=A4.i_inj (p1.trans r1.symm);simp only [cond_true,p2,r2,e]
theorem FT (a:Pose):kQ a=eK a:=by unfold kQ eK;rw [gv_]
theorem IB (a:Pose):eK a=wl 0∨eK a=wl 1:=by
  unfold eK
  repeat' (rename_i x;revert x)
  generalize (decide (140737488355328≤a.x.x.1)||decide (a.x.x.1≤(-140737488355328)))=c1;generalize (decide (140737488355328≤a.x.y.1)||decide (a.x.y.1≤(-140737488355328)))=c2;generalize (decide (140737488355328≤a.x.z.1)||decide (a.x.z.1≤(-140737488355328)))=c3;generalize jT a.q=c4
  cases c1 <;> cases c2 <;> cases c3 <;> cases c4 <;> first | exact .inl rfl | exact .inr rfl
theorem gs_ (a:Pose) (b:A3 W):rE a b=nF a b:=by
  unfold rE nF;simp only [dw_,dy_,eW_]
theorem OJ (v:A3 W) (m:W):gX v m=fW v m:=rfl
theorem gz {a n:Int} {u:Bool} (h:(a==0)=true):(decide (a<0)||(decide (((n.toNat:Nat):Int)<a) || !u)) = !u:=by
  have:a=0:=by simpa using h
  subst this
  cases u
  · simp
  rw [Bool.eq_iff_iff];simp;omega
theorem gnz {a n:Int} {u:Bool} (hn:0≤n) (h:(a==0)=false):(decide (a<0)||(decide (((n.toNat:Nat):Int)<a) || !u)) = !(decide (0<a)&&(decide (a≤n)&&u)):=by
  have:a≠0:=by simpa using h
  cases u
  · simp
  rw [Bool.eq_iff_iff];simp;omega
theorem l2_ (g1 g2 e:Bool):(bif !g1 then false else bif !g2 then false else e)=(e&&(g1&&g2)):=by cases g1 <;> cases g2 <;> cases e <;> rfl
theorem YF (r:Rope) {n:Int} (hn:0≤n):kZ r n=jU r n:=by
  unfold kZ jU lB;simp only [OJ]
  cases h1:(r.a.1==0) <;> cases h2:(r.b.1==0) <;> simp only [cond_true,cond_false]
  · rw [gnz hn h1,gnz hn h2];exact l2_ _ _ _
  · rw [gnz hn h1,gz h2];exact l2_ _ _ _
  · rw [gz h1,gnz hn h2];exact l2_ _ _ _
  rw [gz h1,gz h2];exact l2_ _ _ _
theorem lm_ (r:Rope) (l:List Pose):i5 r l=((fS r l).p,(fS r l).e):=by
  unfold i5 fS jQ;rw [YF r (Int.natCast_nonneg _)];simp only [FT,gs_,dy_]
  cases jU r ((l.length:Nat):Int)
  · rfl
  rcases IB (l.getD (r.a.1 - 1).toNat bG) with h | h <;> rcases IB (l.getD (r.b.1 - 1).toNat bG) with k | k <;> rw [h,k] <;> cases (r.a.1==0) <;> cases (r.b.1==0) <;> rfl
theorem hM_ (r:Rope) (l:List Pose):nM r l=true:=by
  unfold nM;rw [WZ,lm_,YF r (Int.natCast_nonneg _)]
  cases decide (8<((l.length:Nat):Int)) <;> simp
open Go Go.Kn Go.RowKit Go.ChangeShapes Go.WideShapes
section
variable {H:Type} {enc:TypeId×Value→H} {P:Program} {w:World} {base:Nat} {spare:Nat→Bool} {held:Bool} {α:Type} {e:El α}
theorem Rd.app {a:Addr} {A B:List Value} (h:Rd w a A) (k:Rd w (a.add A.length) B):Rd w a (A ++ B):=fun j v hj=>by
  rcases Nat.lt_or_ge j A.length with h' | h'
  · rw [List.getElem?_append_left h'] at hj;exact h j v hj
  rw [List.getElem?_append_right h'] at hj;have:=k _ _ hj;rw [ab_,Nat.add_sub_cancel' h'] at this;exact this
theorem Rd.of_cells {a:Addr} {n:Nat} {cs:List Value} (h:w.cells? base a n=some cs):Rd w a cs:=fun j v hj=>by
  obtain ⟨_,hl,hc⟩:=World.cells?_some h;have hj':j<cs.length:=(List.getElem?_eq_some_iff.1 hj).1;have h1:=hc j oo_;rw [hj] at h1;exact h1
theorem fZ_ {a:Addr} {len:Nat} (h:∀ i,i<len→∃ x:α,w.cells? base (a.add (i * e.n)) e.n=some (e.cs x)):∀ k,k≤len→∃ l:List α,l.length=k∧Rd w a (rows e l)
  | 0,_=>⟨[],rfl,fun j v hj=>by simp [rows] at hj⟩
  | k+1,hk=>by
    obtain ⟨l,hl,hr⟩:=fZ_ h k oo_;obtain ⟨x,hx⟩:=h k oo_;refine ⟨l ++ [x],by simp [hl],?_⟩;rw [E4];refine Rd.app hr ?_;rw [u7,hl];have:=Rd.of_cells hx
    simpa [rows] using this
theorem p6_ {T E:TypeId} {ls:List AW} {v:Value} {d:DataW H} {p:List MemPlace} {b0:Nat} {r:Reach} (hT:P.underlying T=some (.slice E)) (hl:lz P 8 E=some ls) (hn:P.cellsOf E=e.n)
    (op:∀ cs,LWF cs ls→∃ x:α,cs=e.cs x) (hv:Value.okWide P w r b0 T v) (ht:DataW.Trod enc P w base spare held T v d p):∃ l:List α,Slr w e v l:=by
  obtain ⟨fuel,hf⟩:=ht
  have hv':∃ a n c,v = .slice a n c:=by
    unfold Value.okWide at hv;rw [hT] at hv;unfold Cell.okWide at hv;rw [hT] at hv
    cases v <;> simp_all [Cell.ok]
  obtain ⟨a,n,c,rfl⟩:=hv';have e1:(Value.slice a n c).cells.toList=[.slice a n c]:=rfl;rw [e1] at hf;rcases DataW.trod_slice hT hf with ⟨h,_⟩ | ⟨a',len,cap,elems,rest,m,_,h,_,_,hlc,hc,hel,hall,_⟩
  · cases h
    exact ⟨[],none,0,rfl,Nat.le_refl _,by decide,.inl ⟨rfl,rfl,rfl⟩⟩
  · cases h
    have hx:∀ i,i<n→∃ x:α,w.cells? base (a'.add (i * e.n)) e.n=some (e.cs x):=fun i hi=>by
      have h1:=hall i hi;rw [List.getElem?_eq_getElem oo_,hn] at h1
      cases hc':w.cells? base (a'.add (i * e.n)) e.n with
      | none=>rw [hc'] at h1;cases h1
      | some cs =>
        rw [hc'] at h1;obtain ⟨x,hx⟩:=op cs (HD 8 hl h1);exact ⟨x,by rw [hx]⟩
    obtain ⟨l,hl',hr⟩:=fZ_ hx n (Nat.le_refl _);exact ⟨l,some a',c,by rw [hl'],by omega,hc,.inr ⟨a',rfl,hr⟩⟩
end
end Go.Num


namespace Go.Num
open Go Go.Kn Go.RowKit Go.ChangeShapes Go.WideShapes
theorem rI_ {cs:List Value} (h:LWF cs ([some .i64] ++ ([some .i64] ++ ([some .i64] ++ ([some .i64] ++ ([some .i64] ++ ([some .i64] ++ [some .i64]))))))):∃ x:Pose,cs=iD.cs x:=by
  obtain ⟨c0,r0,rfl,u0,h⟩:=LWF.split h;obtain ⟨c1,r1,rfl,u1,h⟩:=LWF.split h;obtain ⟨c2,r2,rfl,u2,h⟩:=LWF.split h;obtain ⟨c3,r3,rfl,u3,h⟩:=LWF.split h;obtain ⟨c4,r4,rfl,u4,h⟩:=LWF.split h;obtain ⟨c5,r5,rfl,u5,u6⟩:=LWF.split h;obtain ⟨x0,rfl⟩:=WM u0;obtain ⟨x1,rfl⟩:=WM u1;obtain ⟨x2,rfl⟩:=WM u2;obtain ⟨x3,rfl⟩:=WM u3;obtain ⟨x4,rfl⟩:=WM u4;obtain ⟨x5,rfl⟩:=WM u5;obtain ⟨x6,rfl⟩:=WM u6;exact ⟨⟨⟨x0,x1,x2⟩,⟨x3,x4,x5,x6⟩⟩,rfl⟩
end Go.Num

namespace Go.Proofs.YtkjjponijamaoaaGreatDoor
open Go.Kn Go.Num
theorem NV (r:Rope) (vl:Value) (l:(List Pose)) (w:World) (hl:Slr w iD vl l) :
    Calls Tryz.prog 3 [AV [ci .i64 r.a.1,ci .i64 r.b.1,ci .i64 r.p.x.1,ci .i64 r.p.y.1,ci .i64 r.p.z.1,ci .i64 r.q.x.1,ci .i64 r.q.y.1,ci .i64 r.q.z.1],vl].toArray w (fun e w'=>e = .returned (.bool (nM r l))∧Ext w w'):=by
 obtain ⟨p_l,c_l,rfl⟩:=hl.form;refine d6 (N:=45) Tryz.func3 rfl rfl (by simp) ?_;obtain ⟨w0,rfl⟩:∃ w0,w0=w:=⟨_,rfl⟩;have Hl:=hl.old;have hm_l:=hl.max;simp only [cS,Nat.reduceAdd];refine Rs fun K J=>bA rfl (cH rfl rfl (fun b1 hb1=>sE rfl (nl J (Sq fun K1 J1=>Rs fun K J=>sE rfl (sQ (aZ (v':=.int .i64 (((l).length:Nat):Int)) (gD (e:=iD) tY rfl (SLe.sub Hl sn)) rfl) rfl (sE rfl (nl J ?_)))))));rcases bt (decide (8<(((l).length:Nat):Int))) with h2 | h2
 ·have ph2:=of_decide_eq_true h2;refine W_t h2 rfl (Rs fun K J=>sQ (bZ BA eS  rfl) rfl (sE rfl (nl J (aL (aB (cC rfl (.inr rfl) rfl ?_))))));exact (by exact congrArg vS2 (show _=(nM r l) from bI h2 rfl))
 have ph2:=of_decide_eq_false h2;refine W_f h2 rfl (aG (J1 _ _ (Rs fun K J=>sQ (qL TF rfl m0 rfl) rfl (sE rfl ?_))));obtain ⟨r3,hr3⟩:=nm ((i5 r l).1:Pull);refine sQ (aZ (v':=.tuple #[AV [ci .i64 r3.a.1,ci .i64 r3.b.1,pI r3.p.x.n,pI r3.p.x.d,pI r3.p.y.n,pI r3.p.y.d,pI r3.p.z.n,pI r3.p.z.d,pI r3.q.x.n,pI r3.q.x.d,pI r3.q.y.n,pI r3.q.y.d,pI r3.q.z.n,pI r3.q.z.d],.int .i64 (((i5 r l).2).1)]) (dA nd_ rfl (fun w hw=>O7 r _ l w (aR hw Hl sn))) (by rw [hr3];first | done | rfl)) rfl (sE rfl (sE rfl (sE rfl (sN GR rfl fun b4 hb4=>sS [ci .i64 r3.a.1,ci .i64 r3.b.1,pI r3.p.x.n,pI r3.p.x.d,pI r3.p.y.n,pI r3.p.y.d,pI r3.p.z.n,pI r3.p.z.d,pI r3.q.x.n,pI r3.q.x.d,pI r3.q.y.n,pI r3.q.y.d,pI r3.q.z.n,pI r3.q.z.d] sZ rfl rfl rfl rfl rfl uH rfl hb4 (sE rfl (nl J (Rs fun K J=>sQ (qL TF rfl m1 rfl) rfl (sE rfl ?_))))))));obtain ⟨r5,hr5⟩:=nm ((fS r l):Pulled);refine sQ (aZ (v':=AV [ci .i64 r5.p.a.1,ci .i64 r5.p.b.1,pI r5.p.p.x.n,pI r5.p.p.x.d,pI r5.p.p.y.n,pI r5.p.p.y.d,pI r5.p.p.z.n,pI r5.p.p.z.d,pI r5.p.q.x.n,pI r5.p.q.x.d,pI r5.p.q.y.n,pI r5.p.q.y.d,pI r5.p.q.z.n,pI r5.p.q.z.d,ci .i64 r5.e.1]) (dA q8_ rfl (fun w hw=>LB r _ l w (aR hw Hl sn))) (by rw [hr5];first | done | rfl)) rfl (sN dp_ rfl fun b6 hb6=>sS [ci .i64 r5.p.a.1,ci .i64 r5.p.b.1,pI r5.p.p.x.n,pI r5.p.p.x.d,pI r5.p.p.y.n,pI r5.p.p.y.d,pI r5.p.p.z.n,pI r5.p.p.z.d,pI r5.p.q.x.n,pI r5.p.q.x.d,pI r5.p.q.y.n,pI r5.p.q.y.d,pI r5.p.q.z.n,pI r5.p.q.z.d,ci .i64 r5.e.1] XK rfl rfl rfl rfl rfl uH rfl hb6 (nl J ?_));refine dH [4,21,22,23,24,25,26,27,28,29,30,31,32,33,34,35,36,37,38,39,40,41,42,43,44] (fun g M=>(g 4 = .bool (F_skewbacklaw26_sanity&&(((kZ r (((l).length:Nat):Int))==(jU r (((l).length:Nat):Int)))&&((decide (r3.a.1=r5.p.a.1)&&(decide (r3.b.1=r5.p.b.1)&&(decide (r3.p.x.n=r5.p.p.x.n)&&(decide (r3.p.x.d=r5.p.p.x.d)&&(decide (r3.p.y.n=r5.p.p.y.n)&&(decide (r3.p.y.d=r5.p.p.y.d)&&(decide (r3.p.z.n=r5.p.p.z.n)&&(decide (r3.p.z.d=r5.p.p.z.d)&&(decide (r3.q.x.n=r5.p.q.x.n)&&(decide (r3.q.x.d=r5.p.q.x.d)&&(decide (r3.q.y.n=r5.p.q.y.n)&&(decide (r3.q.y.d=r5.p.q.y.d)&&(decide (r3.q.z.n=r5.p.q.z.n)&&decide (r3.q.z.d=r5.p.q.z.d))))))))))))))&&(((i5 r l).2).1==r5.e.1)))))∧M=[⟨b6,42,aW [ci .i64 r5.p.a.1,ci .i64 r5.p.b.1,pI r5.p.p.x.n,pI r5.p.p.x.d,pI r5.p.p.y.n,pI r5.p.p.y.d,pI r5.p.p.z.n,pI r5.p.p.z.d,pI r5.p.q.x.n,pI r5.p.q.x.d,pI r5.p.q.y.n,pI r5.p.q.y.d,pI r5.p.q.z.n,pI r5.p.q.z.d,ci .i64 r5.e.1]⟩,⟨b4,37,aW [ci .i64 r3.a.1,ci .i64 r3.b.1,pI r3.p.x.n,pI r3.p.x.d,pI r3.p.y.n,pI r3.p.y.d,pI r3.p.z.n,pI r3.p.z.d,pI r3.q.x.n,pI r3.q.x.d,pI r3.q.y.n,pI r3.q.y.d,pI r3.q.z.n,pI r3.q.z.d]⟩,⟨b1,25,aW [ci .i64 r.a.1,ci .i64 r.b.1,ci .i64 r.p.x.1,ci .i64 r.p.y.1,ci .i64 r.p.z.1,ci .i64 r.q.x.1,ci .i64 r.q.y.1,ci .i64 r.q.z.1]⟩]) (fun K2 J2=>?_) ?_
 ·refine dr s0 [0,4,8,12,16,20,24,28,32,36,40,44,48,52,56,60,64,68,72,76,80,84,88,92,96] [] mix (by kernel_rfl) (fun K J=>pQ rfl (bZ BA eS  rfl) ?_);rcases bt F_skewbacklaw26_sanity with h10 | h10
  ·refine pB h10 rfl (pQ rfl (qL TF rfl m2 rfl) (pE rfl (pQ rfl (aZ (v':=.int .i64 (((l).length:Nat):Int)) (gD (e:=iD) tY rfl (SLe.sub Hl sn)) rfl) (pQ rfl (aZ (v':=.bool (kZ r (((l).length:Nat):Int))) (dA ne_ rfl (fun w hw=>NR r (((l).length:Nat):Int) w)) rfl) (pQ rfl (qL TF rfl m2 rfl) (pE rfl (pQ rfl (aZ (v':=.int .i64 (((l).length:Nat):Int)) (gD (e:=iD) tY rfl (SLe.sub Hl sn)) rfl) (pQ rfl (aZ (v':=.bool (jU r (((l).length:Nat):Int))) (dA nf_ rfl (fun w hw=>CL r (((l).length:Nat):Int) w)) rfl) (pQ rfl (aZ (v':=.bool ((kZ r (((l).length:Nat):Int))==(jU r (((l).length:Nat):Int)))) (KT GS rfl rfl) rfl) (pE rfl ?_))))))))));rcases bt ((kZ r (((l).length:Nat):Int))==(jU r (((l).length:Nat):Int))) with h11 | h11
   ·refine pB h11 rfl (pQ rfl (qL sZ rfl m1 rfl) (pQ rfl (qF lU_ rfl rfl) (pQ rfl (qL sZ rfl m0 rfl) ?_)));refine pQ rfl (rG (r:=(decide (r3.a.1=r5.p.a.1)&&(decide (r3.b.1=r5.p.b.1)&&(decide (r3.p.x.n=r5.p.p.x.n)&&(decide (r3.p.x.d=r5.p.p.x.d)&&(decide (r3.p.y.n=r5.p.p.y.n)&&(decide (r3.p.y.d=r5.p.p.y.d)&&(decide (r3.p.z.n=r5.p.p.z.n)&&(decide (r3.p.z.d=r5.p.p.z.d)&&(decide (r3.q.x.n=r5.p.q.x.n)&&(decide (r3.q.x.d=r5.p.q.x.d)&&(decide (r3.q.y.n=r5.p.q.y.n)&&(decide (r3.q.y.d=r5.p.q.y.d)&&(decide (r3.q.z.n=r5.p.q.z.n)&&decide (r3.q.z.d=r5.p.q.z.d))))))))))))))) rfl rfl (kR 8 dd_ nb_ nz_ (bB mX (bB mX (bB cX (bB cX (bB cX (bB cX (bB cX (bB cX (bB cX (bB cX (bB cX (bB cX (bB cX (iN cX)))))))))))))) (bB mX (bB mX (bB cX (bB cX (bB cX (bB cX (bB cX (bB cX (bB cX (bB cX (bB cX (bB cX (bB cX (iN cX)))))))))))))) (dB rfl vQ (dB rfl vQ (dB rfl fU (dB rfl fU (dB rfl fU (dB rfl fU (dB rfl fU (dB rfl fU (dB rfl fU (dB rfl fU (dB rfl fU (dB rfl fU (dB rfl fU (mU fU)))))))))))))))) (pE rfl ?_);rcases bt (decide (r3.a.1=r5.p.a.1)&&(decide (r3.b.1=r5.p.b.1)&&(decide (r3.p.x.n=r5.p.p.x.n)&&(decide (r3.p.x.d=r5.p.p.x.d)&&(decide (r3.p.y.n=r5.p.p.y.n)&&(decide (r3.p.y.d=r5.p.p.y.d)&&(decide (r3.p.z.n=r5.p.p.z.n)&&(decide (r3.p.z.d=r5.p.p.z.d)&&(decide (r3.q.x.n=r5.p.q.x.n)&&(decide (r3.q.x.d=r5.p.q.x.d)&&(decide (r3.q.y.n=r5.p.q.y.n)&&(decide (r3.q.y.d=r5.p.q.y.d)&&(decide (r3.q.z.n=r5.p.q.z.n)&&decide (r3.q.z.d=r5.p.q.z.d)))))))))))))) with h12 | h12
    ·refine pB h12 rfl (pE rfl (pQ rfl (qF lV_ rfl rfl) (pQ rfl (qC wK rfl m0 rfl) (pE rfl (pE rfl (pE rfl (fl J ?_)))))));refine J2 _ _ pp_ ⟨_,s0,?s4,rfl⟩
     case s4=>exact congrArg Value.bool (eB h10 (eB h11 (eB h12 rfl)))
    refine pB h12 rfl (aP rfl rfl (aP rfl rfl (aP rfl rfl (aP rfl rfl (pE rfl (pE rfl (fl J ?_)))))));refine J2 _ _ pp_ ⟨_,s0,?s4,rfl⟩
    case s4=>exact congrArg Value.bool (eB h10 (eB h11 (kU h12)))
   refine pB h11 rfl (aP rfl rfl (aP rfl rfl (aP rfl rfl (aP rfl rfl (pE rfl (pE rfl (aP rfl rfl (aP rfl rfl (aP rfl rfl (aP rfl rfl (pE rfl (pE rfl (fl J ?_)))))))))))));refine J2 _ _ pp_ ⟨_,s0,?s4,rfl⟩
   case s4=>exact congrArg Value.bool (eB h10 (kU h11))
  refine pB h10 rfl (aP rfl rfl (aP rfl rfl (aP rfl rfl (aP rfl rfl (aP rfl rfl (aP rfl rfl (aP rfl rfl (aP rfl rfl (aP rfl rfl (pE rfl (pE rfl (aP rfl rfl (aP rfl rfl (aP rfl rfl (aP rfl rfl (pE rfl (pE rfl (aP rfl rfl (aP rfl rfl ?_)))))))))))))))))));refine aP rfl rfl (aP rfl rfl (pE rfl (pE rfl (fl J ?_))));refine J2 _ _ pp_ ⟨_,s0,?s4,rfl⟩
  case s4=>exact congrArg Value.bool (kU h10)
 rintro g13 M ⟨hg4,rfl⟩;simp only [dQ,hg4];clear hg4;refine aL (cC rfl (.inr rfl) rfl ?_);exact (by obtain rfl:=hr5.symm;obtain rfl:=hr3.symm;exact congrArg vS2 (show _=(nM r l) from aM h2 rfl))
end Go.Proofs.YtkjjponijamaoaaGreatDoor

