/- Lemmas: what they ask stands in their statements. -/
import Derived.Test.YtbjlhfochebmiaaGreatDoorXTd
set_option linter.unusedSimpArgs false
set_option linter.unusedVariables false
set_option maxHeartbeats 8000000
set_option maxRecDepth 20000
namespace Go.Proofs.YtbjlhfochebmiaaGreatDoor
open Go.Kn Go.Num
attribute [local irreducible] Go.Kn.W WL PL OpQ OpR OpS
theorem D0 (h:Path) (b:(A3 W)) (x:Rt) (w:World)  :
    Calls Tryz.prog 3 [AV [cw h.from_.x.x.1,cw h.from_.x.y.1,cw h.from_.x.z.1,cw h.from_.q.x.1,cw h.from_.q.y.1,cw h.from_.q.z.1,cw h.from_.q.t.1,cw h.to_.x.x.1,cw h.to_.x.y.1,cw h.to_.x.z.1,cw h.to_.q.x.1,cw h.to_.q.y.1,cw h.to_.q.z.1,cw h.to_.q.t.1],AV [cw b.x.1,cw b.y.1,cw b.z.1],AV [pI x.n,pI x.d]].toArray w (fun e w'=>e = .returned (.bool (gT h b x))∧Ext w w'):=by
 refine cX (N:=73) Tryz.func3 rfl rfl (by simp) ?_;obtain ⟨w0,rfl⟩:∃ w0,w0=w:=⟨_,rfl⟩;simp only [bA,Nat.reduceAdd];obtain ⟨q0,hq0⟩:=nm ((dM h):W);obtain ⟨q1,hq1⟩:=nm ((dX b):Bool);obtain ⟨q2,hq2⟩:=nm ((gD x):Bool);obtain ⟨q3,hq3⟩:=nm (F_skewbacklaw14_sanity:Bool);obtain ⟨q4,hq4⟩:=nm ((dS h):Path);obtain ⟨q5,hq5⟩:=nm ((cG (wl 1)):Rt);obtain ⟨q6,hq6⟩:=nm ((mS q5 x):Rt);obtain ⟨q7,hq7⟩:=nm ((eL q4 b q6):(A3 Rt));obtain ⟨q8,hq8⟩:=nm ((cG (wl 0)):Rt);obtain ⟨q9,hq9⟩:=nm ((eL h b q8):(A3 Rt));obtain ⟨q10,hq10⟩:=nm ((eC h.from_ b):(A3 Rt));obtain ⟨q11,hq11⟩:=nm ((eL h b q5):(A3 Rt));obtain ⟨q12,hq12⟩:=nm ((eC h.to_ b):(A3 Rt));obtain ⟨q13,hq13⟩:=nm ((eL h b x):(A3 Rt));obtain ⟨q14,hq14⟩:=nm ((eO h.from_):Path);obtain ⟨q15,hq15⟩:=nm ((eL q14 b x):(A3 Rt));refine go2 ?_;intro b1 hb1;refine go_ ?_;intro b2 hb2;refine go_ ?_;intro b3 hb3;refine go3 ?_;refine gJv [8,9,10,11,12,13,14,15,16,17,18,19,20] [(20,.bool ((q0.1 != 0)||(!q1||(!q2))))] (fun K2 J2=>?_) ?_
 ·refine go2 ?_;refine sC (.int .i64 q0.1) c4_ (rI h) rfl rfl (by rw [hq0];first | done | rfl) (go_ ?_);refine sBB rfl (fun h6=>?_) (fun h6=>?_)
  ·refine iE ?_;refine J2 _ _ pp_ s0 (bQ (oM h6))
  refine go_ ?_;refine sC (.bool q1) c5_ (uP b) rfl rfl (by rw [hq1];first | done | rfl) (go2 ?_);rcases bt q1 with h7 | h7
  ·refine sB (iX h7) rfl (go_ ?_);refine sC (.bool q2) c6_ (tO x) rfl rfl (by rw [hq2];first | done | rfl) (go3 ?_);refine J2 _ _ pp_ s0 (bQ (mY h6 (oX h7 rfl)))
  refine sB (iY h7) rfl (go5 ?_);refine J2 _ _ pp_ s0 (bQ (mY h6 (r8 h7)))
 intro g8;refine aK _ rfl (fun h9=>?_) (fun h9=>?_)
 ·refine go_ ?_;refine sC (.bool q3) W3 nW rfl rfl (by rw [hq3];first | done | rfl) (go3 ?_);refine aS rfl (.inr rfl) rfl ?_
  subst_vars;exact congrArg vS1 (show _=(gT h b x) from aE h9 rfl)
 refine go_ ?_;refine gds s0 [0,4,8,12,16,20,24,29,33] [8] mix (by kernel_rfl) (go_ ?_);refine pC (AV [cw q4.from_.x.x.1,cw q4.from_.x.y.1,cw q4.from_.x.z.1,cw q4.from_.q.x.1,cw q4.from_.q.y.1,cw q4.from_.q.z.1,cw q4.from_.q.t.1,cw q4.to_.x.x.1,cw q4.to_.x.y.1,cw q4.to_.x.z.1,cw q4.to_.q.x.1,cw q4.to_.q.y.1,cw q4.to_.q.z.1,cw q4.to_.q.t.1]) bo_ (AO h) rfl rfl (by rw [hq4]) (go_ ?_);refine pC (AV [pI q5.n,pI q5.d]) gC (bF (wl 1)) rfl rfl (by rw [hq5]) ?_;refine go_ ?_;refine pC (AV [pI q6.n,pI q6.d]) bp_ (EW q5 x) rfl rfl (by rw [hq6]) (pC (AV [pI q7.x.n,pI q7.x.d,pI q7.y.n,pI q7.y.d,pI q7.z.n,pI q7.z.d]) FH (oH q4 b q6) rfl rfl (by rw [hq7]) (cS rfl rfl (fT zpT (fun b10 hb10=>⟨(fun _=>sd s0),(sd s0),?_⟩))));refine go2 ?_;refine gJv [6,29,30,31,32,33,34,35,36,37,38,39,40,41,42,43,44,45,46,47,48,49,50,51,52,53,54,55,56,57,58,59,60,61,62,63,64,65,66,67,68,69,70,71,72] [(6,.bool (q3&&((decide (q9.x.n=q10.x.n)&&(decide (q9.x.d=q10.x.d)&&(decide (q9.y.n=q10.y.n)&&(decide (q9.y.d=q10.y.d)&&(decide (q9.z.n=q10.z.n)&&decide (q9.z.d=q10.z.d))))))&&((decide (q11.x.n=q12.x.n)&&(decide (q11.x.d=q12.x.d)&&(decide (q11.y.n=q12.y.n)&&(decide (q11.y.d=q12.y.d)&&(decide (q11.z.n=q12.z.n)&&decide (q11.z.d=q12.z.d))))))&&((decide (q7.x.n=q13.x.n)&&(decide (q7.x.d=q13.x.d)&&(decide (q7.y.n=q13.y.n)&&(decide (q7.y.d=q13.y.d)&&(decide (q7.z.n=q13.z.n)&&decide (q7.z.d=q13.z.d))))))&&(decide (q15.x.n=q10.x.n)&&(decide (q15.x.d=q10.x.d)&&(decide (q15.y.n=q10.y.n)&&(decide (q15.y.d=q10.y.d)&&(decide (q15.z.n=q10.z.n)&&decide (q15.z.d=q10.z.d)))))))))))] (fun K3 J3=>?_) ?_
 ·refine gdr s0 [0,4,8,12,16,20,24,28,32,36,40,44,48,52,56,60,64,68,72,76,80,84,88,92,96,100,104,108,112,116,120,124,128,132,136,140,144,148,152,156,160,164,168,172,176] [] mix (by kernel_rfl) (pC (.bool q3) W3 nW rfl rfl (by rw [hq3];first | done | rfl) ?_);refine pBB rfl (fun h15=>?_) (fun h15=>?_)
  ·refine go2 ?_;refine pC (AV [pI q8.n,pI q8.d]) gC (bF (wl 0)) rfl rfl (by rw [hq8]) ?_;refine pC (AV [pI q9.x.n,pI q9.x.d,pI q9.y.n,pI q9.y.d,pI q9.z.n,pI q9.z.d]) FH (oH h b q8) rfl rfl (by rw [hq9]) (go3 ?_);refine pC (AV [pI q10.x.n,pI q10.x.d,pI q10.y.n,pI q10.y.d,pI q10.z.n,pI q10.z.d]) uB (e8 h.from_ b) rfl rfl (by rw [hq10]) ?_;refine pQ rfl (d5 (r:=(decide (q9.x.n=q10.x.n)&&(decide (q9.x.d=q10.x.d)&&(decide (q9.y.n=q10.y.n)&&(decide (q9.y.d=q10.y.d)&&(decide (q9.z.n=q10.z.n)&&decide (q9.z.d=q10.z.d))))))) rfl rfl (cL 8 dd_ mI mK (aB aH (aB aH (aB aH (aB aH (aB aH (bP aH)))))) (aB aH (aB aH (aB aH (aB aH (aB aH (bP aH)))))) (aG rfl bJ (aG rfl bJ (aG rfl bJ (aG rfl bJ (aG rfl bJ (dA bJ)))))))) (go_ ?_);refine pBB rfl (fun h16=>?_) (fun h16=>?_)
   ·refine go2 ?_;refine pC (AV [pI q5.n,pI q5.d]) gC (bF (wl 1)) rfl rfl (by rw [hq5]) ?_;refine pC (AV [pI q11.x.n,pI q11.x.d,pI q11.y.n,pI q11.y.d,pI q11.z.n,pI q11.z.d]) FH (oH h b q5) rfl rfl (by rw [hq11]) (go3 ?_);refine pC (AV [pI q12.x.n,pI q12.x.d,pI q12.y.n,pI q12.y.d,pI q12.z.n,pI q12.z.d]) uB (e8 h.to_ b) rfl rfl (by rw [hq12]) ?_;refine pQ rfl (d5 (r:=(decide (q11.x.n=q12.x.n)&&(decide (q11.x.d=q12.x.d)&&(decide (q11.y.n=q12.y.n)&&(decide (q11.y.d=q12.y.d)&&(decide (q11.z.n=q12.z.n)&&decide (q11.z.d=q12.z.d))))))) rfl rfl (cL 8 dd_ mI mK (aB aH (aB aH (aB aH (aB aH (aB aH (bP aH)))))) (aB aH (aB aH (aB aH (aB aH (aB aH (bP aH)))))) (aG rfl bJ (aG rfl bJ (aG rfl bJ (aG rfl bJ (aG rfl bJ (dA bJ)))))))) (go_ ?_);refine pBB rfl (fun h17=>?_) (fun h17=>?_)
    ·refine go4 ?_;refine pC (AV [pI q13.x.n,pI q13.x.d,pI q13.y.n,pI q13.y.d,pI q13.z.n,pI q13.z.d]) FH (oH h b x) rfl rfl (by rw [hq13]) ?_;refine pQ rfl (d5 (r:=(decide (q7.x.n=q13.x.n)&&(decide (q7.x.d=q13.x.d)&&(decide (q7.y.n=q13.y.n)&&(decide (q7.y.d=q13.y.d)&&(decide (q7.z.n=q13.z.n)&&decide (q7.z.d=q13.z.d))))))) rfl rfl (cL 8 dd_ mI mK (aB aH (aB aH (aB aH (aB aH (aB aH (bP aH)))))) (aB aH (aB aH (aB aH (aB aH (aB aH (bP aH)))))) (aG rfl bJ (aG rfl bJ (aG rfl bJ (aG rfl bJ (aG rfl bJ (dA bJ)))))))) (go_ ?_);refine pBB rfl (fun h18=>?_) (fun h18=>?_)
     ·refine go2 ?_;refine pC (AV [cw q14.from_.x.x.1,cw q14.from_.x.y.1,cw q14.from_.x.z.1,cw q14.from_.q.x.1,cw q14.from_.q.y.1,cw q14.from_.q.z.1,cw q14.from_.q.t.1,cw q14.to_.x.x.1,cw q14.to_.x.y.1,cw q14.to_.x.z.1,cw q14.to_.q.x.1,cw q14.to_.q.y.1,cw q14.to_.q.z.1,cw q14.to_.q.t.1]) RC (tJ h.from_) rfl rfl (by rw [hq14]) (go2 ?_);refine pC (AV [pI q15.x.n,pI q15.x.d,pI q15.y.n,pI q15.y.d,pI q15.z.n,pI q15.z.d]) FH (oH q14 b x) rfl rfl (by rw [hq15]) (go3 ?_);refine pC (AV [pI q10.x.n,pI q10.x.d,pI q10.y.n,pI q10.y.d,pI q10.z.n,pI q10.z.d]) uB (e8 h.from_ b) rfl rfl (by rw [hq10]) ?_;refine pQ rfl (d5 (r:=(decide (q15.x.n=q10.x.n)&&(decide (q15.x.d=q10.x.d)&&(decide (q15.y.n=q10.y.n)&&(decide (q15.y.d=q10.y.d)&&(decide (q15.z.n=q10.z.n)&&decide (q15.z.d=q10.z.d))))))) rfl rfl (cL 8 dd_ mI mK (aB aH (aB aH (aB aH (aB aH (aB aH (bP aH)))))) (aB aH (aB aH (aB aH (aB aH (aB aH (bP aH)))))) (aG rfl bJ (aG rfl bJ (aG rfl bJ (aG rfl bJ (aG rfl bJ (dA bJ)))))))) (go3 ?_);refine J3 _ _ pp_ s0 (bQ (iI h15 (iI h16 (iI h17 (iI h18 rfl)))))
     refine yU ?_;refine J3 _ _ pp_ s0 (bQ (iI h15 (iI h16 (iI h17 (lV h18)))))
    refine c9_ ?_;refine J3 _ _ pp_ s0 (bQ (iI h15 (iI h16 (lV h17))))
   refine bM_ ?_;refine J3 _ _ pp_ s0 (bQ (iI h15 (lV h16)))
  refine db_ ?_;refine J3 _ _ pp_ s0 (bQ (lV h15))
 intro g19;refine go_ ?_;refine aS rfl (.inr rfl) rfl ?_
 subst_vars;exact congrArg vS1 (show _=(gT h b x) from aM h9 rfl)
end Go.Proofs.YtbjlhfochebmiaaGreatDoor


namespace Go.Num
open Go Go.Kn
theorem UF (a b:A3 Rt):iF a b=kJ a b:=by unfold iF kJ;rw [GB,GB,GB]
theorem YC (a:A3 W):kK a=n5 a:=rfl
structure Z4 where
  x:Int
  y:Int
  z:Int
  t:Int
deriving DecidableEq
def Z4.g (a:Z4):Nat:=Int.gcd (Int.gcd (Int.gcd (Int.gcd (0:Nat) a.x:Nat) a.y:Nat) a.z:Nat) a.t
def Z4.lead (a:Z4):Int:=if a.x≠0 then a.x else if a.y≠0 then a.y else if a.z≠0 then a.z else a.t
def Z4.m (a:Z4):Int:=a.lead.sign * a.g
def Z4.zero (a:Z4):Prop:=a.x=0∧a.y=0∧a.z=0∧a.t=0
theorem Z4.ext {a b:Z4} (h1:a.x=b.x) (h2:a.y=b.y) (h3:a.z=b.z) (h4:a.t=b.t):a=b:=by cases a;cases b;simp_all
def A4.i (a:A4 W):Z4:=⟨a.x.1,a.y.1,a.z.1,a.t.1⟩
theorem A4.i_inj {a b:A4 W} (h:a.i=b.i):a=b:=by
  cases a;cases b
  simp only [A4.i,Z4.mk.injEq] at h;obtain ⟨h1,h2,h3,h4⟩:=h;simp only [A4.mk.injEq];exact ⟨Subtype.ext h1,Subtype.ext h2,Subtype.ext h3,Subtype.ext h4⟩
theorem bX_ {a:W} (h:a.1 ≠ -9223372036854775808):(W.neg a).1 = -a.1:=by
  have h2:=a.2;unfold I64 at h2
  show IntKind.i64.wrap (0 - a.1)=_
  rw [wi oo_];omega
theorem GP {u g:Int} (hu:dF u) (hg:0<g):dF (u / g):=by
  unfold dF at *;have h1:=Int.mul_ediv_add_emod u g;have h2:=Int.emod_nonneg u (by omega:g≠0);have h3:=Int.emod_lt_of_pos u hg
  have h4:(u / g).natAbs≤u.natAbs:=by
    rcases Int.lt_or_le u 0 with h | h
    · have h5:u / g<0:=Int.ediv_neg_of_neg_of_pos h hg
      have h6:u≤u / g:=by
        have h7:g * (u / g)≤u / g:=by
          have:=Int.mul_le_mul_of_nonpos_right (show (1:Int)≤g by omega) (Int.le_of_lt h5);omega
        have h8:u<g * (u / g)+g:=by omega
        rcases Int.lt_or_le u (g * (u / g)) with h9 | h9
        · omega
        have h10:(g - 1) * (u / g) ≤ -(g - 1):=by
          have:=Int.mul_le_mul_of_nonneg_left (show u / g ≤ -1 by omega) (show 0≤g - 1 by omega);omega
        have h11:g * (u / g)=(g - 1) * (u / g)+u / g:=by rw [Int.sub_mul];omega
        omega
      omega
    have h5:0≤u / g:=Int.ediv_nonneg h oo_;have h6:u / g≤u:=Int.ediv_le_self _ h;omega
  omega
theorem GQ {u g:Int} (hg:0<g) (hb:dF g):dF (u % g):=by
  unfold dF at *;have h2:=Int.emod_nonneg u (by omega:g≠0);have h3:=Int.emod_lt_of_pos u hg;omega
theorem N1 {u v:Int} (hu:dF u) (hv:dF v) (h:0<v):Z.rem (Z.of u) (Z.of v)=Z.of (u % v):=by
  rw [Z.rem,cI (Z.of_some hu) (Z.of_some hv),if_neg oo_,Int.fmod_eq_emod_of_nonneg _ oo_]
theorem xP {u v:Int} (hu:dF u) (hv:dF v) (h:0<v):Z.quo (Z.of u) (Z.of v)=Z.of (u / v):=by
  rw [yZ hu hv oo_,zK h]
theorem GG {u v:Int} (hu:dF u) (hv:dF v):(Z.cmpW (Z.of u) (Z.of v)).1=(u - v).sign:=by
  show Z.cmp _ _=_
  unfold Z.cmp;rw [Z.of_some hu,Z.of_some hv];simp only;rcases Int.lt_trichotomy u v with h | h | h
  · rw [sU h,Int.sign_eq_neg_one_of_neg oo_]
  · subst h;rw [zB,Int.sub_self];rfl
  rw [sS h,Int.sign_eq_one_of_pos oo_]
theorem y6 {n:Int} (h:-4≤n∧n≤4):IntKind.i64.wrap n=n:=wi ⟨by omega,by omega⟩
theorem DZ (x:Int):-1≤x.sign∧x.sign≤1:=by
  rcases Int.lt_trichotomy x 0 with h | h | h
  · rw [Int.sign_eq_neg_one_of_neg h];omega
  · subst h;decide
  rw [Int.sign_eq_one_of_pos h];omega
theorem XG {o x:W} (ho:o.1=1∨o.1 = -1) (hx:-2≤x.1∧x.1≤2):(W.mul o x).1=o.1 * x.1:=by
  show IntKind.i64.wrap (o.1 * x.1)=_
  refine y6 ?_;rcases ho with h | h <;> rw [h] <;> omega
theorem XH {o:W} (ho:o.1=1∨o.1 = -1):(W.neg o).1 = -o.1:=by
  show IntKind.i64.wrap (0 - o.1)=_
  rw [y6 oo_];omega
theorem TM {b d p r s:Int} (hb:0<b) (hd:0<d) (h0:p≠0) (hr:0≤r) (hrb:r<b) (hs:0≤s) (hsd:s<d):(b * d * p+(r * d - s * b)).sign=p.sign:=by
  have hbd:0<b * d:=Int.mul_pos hb hd;have h1:r * d<b * d:=Int.mul_lt_mul_of_pos_right hrb hd;have h2:s * b<d * b:=Int.mul_lt_mul_of_pos_right hsd hb;have h3:0≤r * d:=Int.mul_nonneg hr oo_;have h4:0≤s * b:=Int.mul_nonneg hs oo_;rw [Int.mul_comm d b] at h2;rcases Int.lt_trichotomy p 0 with h | h | h
  · rw [Int.sign_eq_neg_one_of_neg h,Int.sign_eq_neg_one_of_neg]
    have:b * d * p≤b * d * (-1):=Int.mul_le_mul_of_nonneg_left oo_ oo_;omega
  · exact absurd h h0
  rw [Int.sign_eq_one_of_pos h,Int.sign_eq_one_of_pos];have:b * d * 1≤b * d * p:=Int.mul_le_mul_of_nonneg_left oo_ oo_;omega
theorem UZ:∀ (k:Nat) (o:W) (a b c d:Int),b.toNat≤k→0<b→0<d→dF a→dF b→dF c→dF d→(o.1=1∨o.1 = -1) →
    (cf k o (E (Z.of a)) (E (Z.of b)) (E (Z.of c)) (E (Z.of d))).1=o.1 * (a * d - c * b).sign:=by
  intro k
  induction k with
  | zero=>intro o a b c d hk hb;omega
  | succ k ih =>
    intro o a b c d hk hb hd ha hb' hc hd' ho;unfold cf;simp only [dB];rw [xP ha hb' hb,xP hc hd' hd,N1 ha hb' hb,N1 hc hd' hd,kN (GQ hb hb'),kN (GQ hd hd'),GG (GP ha hb) (GP hc hd)];have e1:=Int.mul_ediv_add_emod a b;have e2:=Int.mul_ediv_add_emod c d;have r1:=Int.emod_nonneg a (by omega:b≠0);have r2:=Int.emod_lt_of_pos a hb;have s1:=Int.emod_nonneg c (by omega:d≠0);have s2:=Int.emod_lt_of_pos c hd;have hrB:=GQ (u:=a) hb hb';have hsB:=GQ (u:=c) hd hd';have hpB:=GP ha hb;have hqB:=GP hc hd;generalize hp:a / b=p at *;generalize hr:a % b=r at *;generalize hq:c / d=q at *;generalize hs:c % d=s at *
    have key:a * d - c * b=b * d * (p - q)+(r * d - s * b):=by
      rw [← e1,← e2];grind
    rw [key]
    by_cases hpq:p=q
    · have h1:(p - q).sign=0:=by rw [hpq,Int.sub_self];rfl
      have h2:b * d * (p - q)+(r * d - s * b)=r * d - s * b:=by rw [hpq];grind
      rw [h1,h2];have h3:((0:Int) != 0)=false:=rfl;rw [h3];simp only [cond_false]
      by_cases h0:r=0∨s=0
      · have h4:((r.sign==0)||(s.sign==0))=true:=by
          rcases h0 with h | h <;> subst h <;> simp
        rw [h4];simp only [cond_true];have h5:=DZ r;have h6:=DZ s
        have e5:(W.sub (Z.signW (Z.of r)) (Z.signW (Z.of s))).1=r.sign - s.sign:=by
          show IntKind.i64.wrap ((Z.signW (Z.of r)).1 - (Z.signW (Z.of s)).1)=_
          rw [kN hrB,kN hsB];exact y6 oo_
        rw [XG ho (by rw [e5];omega),e5]
        congr 1
        rcases h0 with h | h
        · subst h
          rw [Int.zero_mul,Int.zero_sub,Int.sign_neg,Int.sign_mul,Int.sign_eq_one_of_pos hb];simp
        subst h;rw [Int.zero_mul,Int.sub_zero,Int.sign_mul,Int.sign_eq_one_of_pos hd];simp
      have hr0:0<r:=by omega
      have hs0:0<s:=by omega
      have h4:((r.sign==0)||(s.sign==0))=false:=by
        rw [Int.sign_eq_one_of_pos hr0,Int.sign_eq_one_of_pos hs0];rfl
      rw [h4];simp only [cond_false];rw [ih _ _ _ _ _ oo_ hr0 hs0 hb' hrB hd' hsB (by rw [XH ho];omega),XH ho]
      have:b * s - d * r = -(r * d - s * b):=by grind
      rw [this,Int.sign_neg,Int.neg_mul_neg]
    have h1:((p - q).sign != 0)=true:=by
      rcases Int.lt_trichotomy (p - q) 0 with h | h | h
      · rw [Int.sign_eq_neg_one_of_neg h];rfl
      · omega
      rw [Int.sign_eq_one_of_pos h];rfl
    rw [h1];simp only [cond_true];rw [XG ho (by rw [GG hpB hqB];have:=DZ (p - q);omega),GG hpB hqB];rw [TM hb hd oo_ r1 r2 s1 s2]
theorem YR {d:Int} (h:dF d):cfN (E (Z.of d))=d.toNat:=by
  unfold cfN;rw [dB,Z.of_some h]
theorem y7 {a:Rt} {n d:Int} (h:a.Is n d):aP a=true:=a8_.2 ⟨n,d,h⟩
theorem XX {a b:Rt} {n d m e:Int} (ha:a.Is n d) (hb:b.Is m e):(oC a b).1=(n * e - m * d).sign:=by
  unfold oC;rw [oR,oR,y7 ha,y7 hb];simp only [Bool.not_true,Bool.and_false,cond_true,cond_false];rw [ha.en,ha.ed,hb.en,hb.ed,YR ha.hd,UZ _ _ _ _ _ _ (Nat.le_refl _) ha.pos hb.pos ha.hn ha.hd hb.hn hb.hd (.inl rfl)];exact Int.one_mul _
theorem UE (a b:Rt):oC a b=fP a b:=by
  unfold oC fP dI;rw [oR,oR]
  cases aP a <;> cases aP b <;> simp only [Bool.not_true,Bool.not_false,Bool.or_true,Bool.true_or,Bool.or_false,Bool.and_true,Bool.and_false,Bool.false_and,Bool.true_and,cond_true,cond_false,dB] <;> rfl
theorem X8 {a:Rt} {n d:Int} (h:a.Is n d):Rt.Is (gN a) (-n) d:=by
  have e:gN a=⟨E (Z.of (-n)),E (Z.of d)⟩:=by
    unfold gN;rw [y7 h,h.en,h.ed,dB,LW h.hn];rfl
  rw [e];refine ⟨rfl,rfl,?_,h.hd,h.pos,by rw [Int.neg_gcd];exact h.cop⟩;have:=h.hn;unfold dF at *;rw [Int.natAbs_neg];exact this
theorem a9_ {a:Rt} (h:aP a=true):∃ n d,Rt.Is a n d:=a8_.1 h
theorem TN {x:Int}:x.sign≤0 ↔ x≤0:=Int.sign_nonpos_iff
structure Iv.Is (a:Iv) (n d m e:Int):Prop where
  lo:a.lo.Is n d
  hi:a.hi.Is m e
  le:n * e≤m * d
def Rt.At (a:Rt) (q:Rat):Prop:=a.Is q.num (q.den:Int)
theorem WV {a:Rt} {n d:Int} (h:a.Is n d):∃ q:Rat,a.At q∧q.num=n∧(q.den:Int)=d:=by
  have hd:(d.toNat:Int)=d:=Int.toNat_of_nonneg (Int.le_of_lt h.pos)
  have hc:n.natAbs.Coprime d.toNat:=by
    have:=h.cop;unfold Int.gcd at this;rw [show d.natAbs=d.toNat by omega] at this;exact this
  refine ⟨⟨n,d.toNat,by have:=h.pos;omega,hc⟩,?_,rfl,hd⟩
  show a.Is n (d.toNat:Int)
  rw [hd];exact h
theorem VE {a:Rt} (h:aP a=true):∃ q,a.At q:=by
  obtain ⟨n,d,h1⟩:=a9_ h;obtain ⟨q,h2,_⟩:=WV h1;exact ⟨q,h2⟩
theorem sM {a:Rt} {q:Rat} (h:a.At q):aP a=true:=y7 h
theorem KP {a b:Rt} {q:Rat} (ha:a.At q) (hb:b.At q):a=b:=Rt.ext (ha.en.trans hb.en.symm) (ha.ed.trans hb.ed.symm)
theorem XW {a b:Rt} {p q:Rat} (ha:a.At p) (hb:b.At q):(oC a b).1=(p.num * q.den - q.num * p.den).sign:=XX ha hb
theorem XY {a b:Rt} {p q:Rat} (ha:a.At p) (hb:b.At q):(oC a b).1≤0 ↔ p≤q:=by
  rw [XW ha hb,TN,Rat.le_iff];omega
structure Iv.At (a:Iv) (p q:Rat):Prop where
  lo:a.lo.At p
  hi:a.hi.At q
  le:p≤q
structure Sz (q:Rat) (k:Nat):Prop where
  n:q.num.natAbs<2 ^ k
  d:q.den<2 ^ k
theorem qS {a b:Nat} (h:a≤b):(2:Nat) ^ a≤2 ^ b:=Nat.pow_le_pow_right dd_ h
theorem XV {v:Int} {k:Nat} (m:Nat) (hm:4294967296 ^ 16=2 ^ m) (h:v.natAbs<2 ^ k) (hk:k≤m):dF v:=by
  unfold dF;rw [hm];exact Nat.lt_of_lt_of_le h (qS hk)
theorem oN {v:Int} {k:Nat} (h:v.natAbs<2 ^ k) (hk:k≤512):dF v:=XV 512 xW h hk
theorem Sz.mono {q:Rat} {j k:Nat} (h:Sz q j) (hk:j≤k):Sz q k:=⟨Nat.lt_of_lt_of_le h.n (qS hk),Nat.lt_of_lt_of_le h.d (qS hk)⟩
theorem Sz.bn {q:Rat} {k:Nat} (h:Sz q k) (hk:k≤512):dF q.num:=oN h.n hk
theorem Sz.bd {q:Rat} {k:Nat} (h:Sz q k) (hk:k≤512):dF (q.den:Int):=oN (by simpa using h.d) hk
theorem kZ {a b j k:Nat} (h:a<2 ^ j) (g:b<2 ^ k):a * b<2 ^ (j+k):=by
  rw [Nat.pow_add];exact Nat.mul_lt_mul_of_lt_of_le h (Nat.le_of_lt g) (Nat.pow_pos dd_)
theorem Sz.mul {p q:Rat} {j k:Nat} (h:Sz p j) (g:Sz q k):Sz (p * q) (j+k):=by
  constructor
  · rw [Rat.num_mul]
    refine Nat.lt_of_le_of_lt (Int.natAbs_ediv_le_natAbs _ _) ?_;rw [Int.natAbs_mul];exact kZ h.n g.n
  rw [Rat.den_mul];exact Nat.lt_of_le_of_lt (Nat.div_le_self _ _) (kZ h.d g.d)
theorem Sz.neg {p:Rat} {k:Nat} (h:Sz p k):Sz (-p) k:=⟨by rw [Rat.neg_num,Int.natAbs_neg];exact h.n,h.d⟩
theorem KT {n m:Int} {d e j k:Nat} (h1:n.natAbs<2 ^ j) (h2:e<2 ^ k) (h3:m.natAbs<2 ^ k) (h4:d<2 ^ j):(n * e+m * d).natAbs<2 ^ (j+k+1):=by
  have a:=kZ h1 h2;have b:=kZ h4 h3;have c:=Int.natAbs_add_le (n * e) (m * d);rw [Int.natAbs_mul,Int.natAbs_mul,Int.natAbs_natCast,Int.natAbs_natCast] at c;rw [Nat.pow_succ];rw [Nat.mul_comm d] at b;omega
theorem Sz.add {p q:Rat} {j k:Nat} (h:Sz p j) (g:Sz q k):Sz (p+q) (j+k+1):=by
  constructor
  · rw [Rat.num_add]
    exact Nat.lt_of_le_of_lt (Int.natAbs_ediv_le_natAbs _ _) (KT h.n g.d g.n h.d)
  rw [Rat.den_add];exact Nat.lt_of_le_of_lt (Nat.div_le_self _ _) (Nat.lt_of_lt_of_le (kZ h.d g.d) (qS oo_))
theorem Sz.inv {p:Rat} {k:Nat} (h:Sz p k) (h0:p≠0):Sz p⁻¹ k:=by
  have hn:p.num≠0:=fun h=>h0 (Rat.num_eq_zero.1 h)
  constructor
  · rw [Rat.num_inv,Int.natAbs_mul,Int.natAbs_sign_of_ne_zero hn,Nat.one_mul,Int.natAbs_natCast];exact h.d
  rw [Rat.den_inv,if_neg hn];exact h.n
theorem Sz.int {n:Int} {k:Nat} (h:n.natAbs<2 ^ k) (hk:0<k):Sz (n:Rat) k:=⟨h,Nat.one_lt_two_pow oo_⟩
theorem a6_ {a:Rt} {n d:Int} {q:Rat} (h:a.Is n d) (he:q.num * d=n * q.den):a.At q:=by
  obtain ⟨p,hp,h1,h2⟩:=WV h;have:p=q:=Rat.eq_iff_mul_eq_mul.2 (by rw [h1,h2];exact he.symm);rw [← this];exact hp
theorem At.is {a:Rt} {q:Rat} (h:a.At q):a.Is q.num (q.den:Int):=h
theorem sP {n d:Int} {q:Rat} (hn:dF n) (hd:dF d) (hp:0<d) (he:q.num * d=n * q.den):(aY (E (Z.of n)) (E (Z.of d))).At q:=by
  refine a6_ (wY hn hd hp) ?_;have g1:((Int.gcd n d:Nat):Int) ∣ n:=Int.gcd_dvd_left ..;have g2:((Int.gcd n d:Nat):Int) ∣ d:=Int.gcd_dvd_right ..
  have p1:0<((Int.gcd n d:Nat):Int):=by have:=Int.gcd_pos_of_ne_zero_right n (show d≠0 by omega);omega
  obtain ⟨x,hx⟩:=g1;obtain ⟨y,hy⟩:=g2;generalize ((Int.gcd n d:Nat):Int)=G at *
  have q1:n / G=x:=by rw [hx];exact Int.mul_ediv_cancel_left _ oo_
  have q2:d / G=y:=by rw [hy];exact Int.mul_ediv_cancel_left _ oo_
  rw [q1,q2];rw [hx,hy] at he;exact Int.eq_of_mul_eq_mul_left (show G≠0 by omega) (by grind)
theorem CF (c:W):(dZ c).At (c.1:Rat):=by
  unfold dZ;rw [ax_];have:=c.2;unfold I64 at this;exact sP (oN (k:=64) oo_ dd_) B1 dd_ (by simp)
theorem X6 {a:Rt} {p:Rat} (h:a.At p):(gN a).At (-p):=X8 h
theorem pS {q:Rat}:(0:Int)<q.den:=by have:=q.den_nz;omega
theorem X1 {a b:Rt} {p q:Rat} (ha:a.At p) (hb:b.At q) (hn:dF (p * q).num) (hd:dF ((p * q).den:Int)):(jL a b).At (p * q):=by
  unfold jL;rw [sM ha,sM hb];obtain ⟨x,y,r,s,e1,e2,b1,b2,b3,b4,h1,h2,hc,he⟩:=H4 ha hb;simp only [Bool.not_true,Bool.or_false,cond_false,e1,e2,dB];rw [n7 b1 b3,n7 b2 b4];have hps:0<y * s:=Int.mul_pos h1 h2
  have hpq:p * q=Rat.divInt (x * r) (y * s):=by
    rw [← Rat.num_divInt_den p,← Rat.num_divInt_den q,Rat.divInt_mul_divInt];exact (Rat.divInt_eq_divInt_iff (by have:=@pS p;have:=@pS q;exact Int.mul_ne_zero oo_ oo_) oo_).2 (by rw [he])
  have hnum:(p * q).num=x * r:=by
    rw [hpq,Rat.num_divInt,Int.gcd_comm,hc,Int.sign_eq_one_of_pos hps];simp
  have hden:((p * q).den:Int)=y * s:=by
    rw [hpq,Rat.den_divInt,if_neg oo_,Int.gcd_comm,hc,Nat.div_one];omega
  rw [hnum] at hn;rw [hden] at hd;exact sP hn hd hps (by rw [hnum,hden])
theorem XR {a b:Rt} {p q:Rat} {j k:Nat} (ha:a.At p) (hb:b.At q) (hp:Sz p j) (hq:Sz q k) (h:j+k+1≤512):(eH a b).At (p+q):=by
  unfold eH;rw [sM ha,sM hb];simp only [Bool.not_true,Bool.or_false,cond_false];have ia:=At.is ha;have ib:=At.is hb;rw [ia.en,ia.ed,ib.en,ib.ed];simp only [dB];have hdp:=@pS p;have hdq:=@pS q
  have hg:0<((Int.gcd (p.den:Int) (q.den:Int):Nat):Int):=by
    have:=Int.gcd_pos_of_ne_zero_right (p.den:Int) (show (q.den:Int)≠0 by omega);omega
  have hbg:=IP (u:=(p.den:Int)) ib.hd oo_;have g1:((Int.gcd (p.den:Int) (q.den:Int):Nat):Int) ∣ (p.den:Int):=Int.gcd_dvd_left ..;have g2:((Int.gcd (p.den:Int) (q.den:Int):Nat):Int) ∣ (q.den:Int):=Int.gcd_dvd_right ..;rw [yS ia.hd ib.hd,xP ib.hd hbg hg,xP ia.hd hbg hg];generalize ((Int.gcd (p.den:Int) (q.den:Int):Nat):Int)=G at *;obtain ⟨x,hx⟩:=g1;obtain ⟨y,hy⟩:=g2
  have q1:(p.den:Int) / G=x:=by rw [hx];exact Int.mul_ediv_cancel_left _ oo_
  have q2:(q.den:Int) / G=y:=by rw [hy];exact Int.mul_ediv_cancel_left _ oo_
  rw [q1,q2]
  have x0:0<x:=by rw [hx] at hdp;exact Int.pos_of_mul_pos_right hdp hg
  have y0:0<y:=by rw [hy] at hdq;exact Int.pos_of_mul_pos_right hdq hg
  have xl:x≤p.den:=by rw [hx];have:=Int.mul_le_mul_of_nonneg_right (show (1:Int)≤G by omega) (Int.le_of_lt x0);omega
  have yl:y≤q.den:=by rw [hy];have:=Int.mul_le_mul_of_nonneg_right (show (1:Int)≤G by omega) (Int.le_of_lt y0);omega
  have x1:x.toNat<2 ^ j:=Nat.lt_of_le_of_lt oo_ hp.d;have y1:y.toNat<2 ^ k:=Nat.lt_of_le_of_lt oo_ hq.d
  have xe:x=(x.toNat:Int):=by omega
  have ye:y=(y.toNat:Int):=by omega
  have bx:dF x:=oN (k:=j) (by rw [xe,Int.natAbs_natCast];exact x1) oo_
  have by':dF y:=oN (k:=k) (by rw [ye,Int.natAbs_natCast];exact y1) oo_
  rw [n7 ia.hn by',n7 ib.hn bx,n7 bx ib.hd]
  have t1:(p.num * y).natAbs<2 ^ (j+k):=by rw [Int.natAbs_mul];exact kZ hp.n oo_
  have t2:(q.num * x).natAbs<2 ^ (j+k):=by rw [Int.natAbs_mul,Nat.mul_comm];exact kZ oo_ hq.n
  have t3:(x * (q.den:Int)).natAbs<2 ^ (j+k):=by rw [Int.natAbs_mul];exact kZ oo_ (by simpa using hq.d)
  rw [z9 (oN t1 oo_) (oN t2 oo_)]
  have t4:(p.num * y+q.num * x).natAbs<2 ^ (j+k+1):=by rw [Nat.pow_succ];omega
  refine sP (oN t4 h) (oN t3 oo_) (Int.mul_pos x0 hdq) ?_
  have key:p+q=Rat.divInt (p.num * y+q.num * x) (x * q.den):=by
    conv=>lhs;rw [← Rat.num_divInt_den p,← Rat.num_divInt_den q,Rat.divInt_add_divInt _ _ oo_ oo_]
    refine (Rat.divInt_eq_divInt_iff (Int.mul_ne_zero oo_ oo_) (Int.mul_ne_zero oo_ oo_)).2 ?_;rw [hx,hy];grind
  have h3:=Rat.num_divInt_den (p+q);rw [key] at h3 ⊢;have h4:=(Rat.divInt_eq_divInt_iff (by have:=@pS (Rat.divInt (p.num * y+q.num * x) (x * q.den));omega) (Int.mul_ne_zero oo_ oo_)).1 h3;exact h4
theorem X9 {a b:Rt} {p q:Rat} {j k:Nat} (ha:a.At p) (hb:b.At q) (hp:Sz p j) (hq:Sz q k) (h:j+k+1≤512):(kY a b).At (p - q):=by
  unfold kY;rw [Rat.sub_eq_add_neg];exact XR ha (X6 hb) hp hq.neg h
theorem SF {n d:Int} (hn:dF n) (hd:dF d) (hp:d<0):aY (E (Z.of n)) (E (Z.of d))=aY (E (Z.of (-n))) (E (Z.of (-d))):=by
  have hn':dF (-n):=by unfold dF at *;rw [Int.natAbs_neg];exact hn
  have hd':dF (-d):=by unfold dF at *;rw [Int.natAbs_neg];exact hd
  rw [I7 hn' hd' oo_];unfold aY
  have h1:((Z.signW (E (Z.of d)).dec).1==0)=false:=by rw [dB,kN hd,Int.sign_eq_neg_one_of_neg hp];rfl
  have h2:decide ((Z.signW (E (Z.of d)).dec).1<0)=true:=by rw [dB,kN hd,Int.sign_eq_neg_one_of_neg hp];rfl
  have hg:0<((Int.gcd n d:Nat):Int):=by
    have:=Int.gcd_pos_of_ne_zero_right n (show d≠0 by omega);omega
  have hb:=IP (u:=n) hd oo_
  have hb':dF (-((Int.gcd n d:Nat):Int)):=by unfold dF at *;rw [Int.natAbs_neg];exact hb
  rw [tF hn,tF hd,h1,h2,dB,dB,yS hn hd,LW hb];simp only [Bool.not_true,Bool.or_false,cond_false,cond_true];rw [yZ hn hb' oo_,yZ hd hb' oo_,Int.neg_gcd,Int.gcd_neg]
  have e:∀ u:Int,u.fdiv (-((Int.gcd n d:Nat):Int))=(-u) / ((Int.gcd n d:Nat):Int):=fun u=>by
    rw [← zK hg,← Int.neg_fdiv_neg,Int.neg_neg]
  rw [e,e]
theorem X0 {b:Rt} {q:Rat} (hb:b.At q) (h0:q≠0):(aY b.d b.n).At q⁻¹:=by
  have ib:=At.is hb;rw [ib.en,ib.ed];have hn:q.num≠0:=fun h=>h0 (Rat.num_eq_zero.1 h);have hd:=@pS q;have e1:=Rat.num_inv q;have e2:=Rat.den_inv q;rw [if_neg hn] at e2;rcases Int.lt_or_gt_of_ne hn with h | h
  · rw [SF ib.hd ib.hn h]
    rw [Int.sign_eq_neg_one_of_neg h] at e1
    have b1:dF (-(q.den:Int)):=by have:=ib.hd;unfold dF at *;rw [Int.natAbs_neg];exact this
    have b2:dF (-q.num):=by have:=ib.hn;unfold dF at *;rw [Int.natAbs_neg];exact this
    have e3:(q.num.natAbs:Int) = -q.num:=by omega
    exact sP b1 b2 oo_ (by rw [e1,e2,e3];grind)
  rw [Int.sign_eq_one_of_pos h] at e1
  have e3:(q.num.natAbs:Int)=q.num:=by omega
  exact sP ib.hd ib.hn h (by rw [e1,e2,e3];grind)
theorem UG {a:Rt} {p:Rat} (h:a.At p):(f5 a).1=p.num.sign:=by
  unfold f5;rw [sM h,(At.is h).en,dB];exact kN (At.is h).hn
theorem sB {v:Int} (h:v.natAbs<2 ^ 64):dF v:=Nat.lt_of_lt_of_le h dd_
def W.b (a:W):BitVec 64:=BitVec.ofInt 64 a.1
theorem dl_ (a b c d:W):bV [a,b,c,d]=W.add (W.add (wl 0) (W.mul a b)) (W.mul c d):=rfl
theorem dm_ (a b c d e f:W):bV [a,b,c,d,e,f]=W.add (W.add (W.add (wl 0) (W.mul a b)) (W.mul c d)) (W.mul e f):=rfl
theorem cl_ (a b c d e f g h:W):bV [a,b,c,d,e,f,g,h]=W.add (W.add (W.add (W.add (wl 0) (W.mul a b)) (W.mul c d)) (W.mul e f)) (W.mul g h):=rfl
def Z4.Lw (v:Z4) (n:Nat):Prop:=v.x.natAbs<n∧v.y.natAbs<n∧v.z.natAbs<n∧v.t.natAbs<n
theorem VK {a:A4 W} (h:d6 a=true):a.i.Lw 65:=by
  unfold d6 at h
  have g:∀ {c:Bool} {y:Bool},(bif c then false else y)=true→c=false∧y=true:=fun {c y} h=>by cases c <;> simp_all
  obtain ⟨h1,h⟩:=g h;obtain ⟨h2,h⟩:=g h;obtain ⟨h3,h⟩:=g h;obtain ⟨h4,h⟩:=g h;simp only [Bool.or_eq_false_iff,decide_eq_false_iff_not] at h1 h2 h3 h4;refine ⟨?_,?_,?_,?_⟩
  · show a.x.1.natAbs<65;omega
  · show a.y.1.natAbs<65;omega
  · show a.z.1.natAbs<65;omega
  show a.t.1.natAbs<65;omega
theorem WT {a:A4 W} (h:a.i.zero):a=⟨wl 0,wl 0,wl 0,wl 0⟩:=A4.i_inj (Z4.ext h.1 h.2.1 h.2.2.1 h.2.2.2)
theorem F6 {a:A4 W} (h:dD a=true):a.i.Lw 65∧¬ a.i.zero:=by
  unfold dD at h
  cases hl:d6 a
  · rw [hl] at h;cases h
  refine ⟨VK hl,fun hz=>?_⟩;rw [WT hz] at h
  have:dD ⟨wl 0,wl 0,wl 0,wl 0⟩ = false:=by kernel_rfl
  unfold dD at this;rw [this] at h;cases h
theorem OK (a:Pose):cH a=wl 0∨cH a=wl 1:=by
  unfold cH
  repeat' (rename_i x;revert x)
  generalize (decide (140737488355328≤a.x.x.1)||decide (a.x.x.1≤(-140737488355328)))=c1;generalize (decide (140737488355328≤a.x.y.1)||decide (a.x.y.1≤(-140737488355328)))=c2;generalize (decide (140737488355328≤a.x.z.1)||decide (a.x.z.1≤(-140737488355328)))=c3;generalize dD a.q=c4
  cases c1 <;> cases c2 <;> cases c3 <;> cases c4 <;> first | exact .inl rfl | exact .inr rfl
class Rg (α:Type) [Add α] [Mul α] [OfNat α 0]:Prop where
  aa:∀ a b c:α,a+b+c=a+(b+c)
  ac:∀ a b:α,a+b=b+a
  a0:∀ a:α,a+0=a
  ma:∀ a b c:α,a * b * c=a * (b * c)
  mc:∀ a b:α,a * b=b * a
  md:∀ a b c:α,a * (b+c)=a * b+a * c
  m0:∀ a:α,a * 0=0
instance:Rg Int:=⟨Int.add_assoc,Int.add_comm,Int.add_zero,Int.mul_assoc,Int.mul_comm,Int.mul_add,Int.mul_zero⟩
instance:Rg Rat:=⟨Rat.add_assoc,Rat.add_comm,Rat.add_zero,Rat.mul_assoc,Rat.mul_comm,Rat.mul_add,Rat.mul_zero⟩
theorem Rg.zm {α:Type} [Add α] [Mul α] [OfNat α 0] [Rg α] (a:α):0 * a=0:=by rw [Rg.mc,Rg.m0]
def i1 {α:Type} [Add α] [OfNat α 0] (f:Nat→α):Nat→α
  | 0=>0
  | n+1=>i1 f n+f n
theorem j5 {α:Type} [Add α] [OfNat α 0] {f g:Nat→α}:∀ {n:Nat},(∀ i,i<n→f i=g i)→i1 f n=i1 g n
  | 0,_=>rfl
  | n+1,h=>by simp only [i1];rw [j5 fun i hi=>h i (by omega),h n (by omega)]
theorem rR {α:Type} [Add α] [Mul α] [OfNat α 0] [Rg α] {f:Nat→α}:∀ {n:Nat},(∀ i,i<n→f i=0)→i1 f n=0
  | 0,_=>rfl
  | n+1,h=>by simp only [i1];rw [rR fun i hi=>h i (by omega),h n (by omega),Rg.a0]
theorem D8 {α:Type} [Add α] [Mul α] [OfNat α 0] [Rg α] (f g:Nat→α):∀ n:Nat,i1 (fun i=>f i+g i) n=i1 f n+i1 g n
  | 0=>(Rg.a0 _).symm
  | n+1=>by
    simp only [i1];rw [D8 f g n,Rg.aa,Rg.aa,← Rg.aa (i1 g n),Rg.ac (i1 g n) (f n),Rg.aa]
theorem uQ {α:Type} [Add α] [Mul α] [OfNat α 0] [Rg α] (c:α) (f:Nat→α):∀ n:Nat,i1 (fun i=>c * f i) n=c * i1 f n
  | 0=>(Rg.m0 _).symm
  | n+1=>by simp only [i1];rw [uQ c f n,Rg.md]
theorem FY {α:Type} [Add α] [Mul α] [OfNat α 0] [Rg α] (c:α) (f:Nat→α) (n:Nat):i1 (fun i=>f i * c) n=i1 f n * c:=by
  rw [Rg.mc _ c,← uQ];exact j5 fun i _=>Rg.mc _ _
theorem D9 {α:Type} [Add α] [Mul α] [OfNat α 0] [Rg α] (f:Nat→α):∀ n:Nat,i1 f (n+1)=f 0+i1 (fun i=>f (i+1)) n
  | 0=>by simp only [i1];rw [Rg.ac]
  | n+1=>by rw [i1,D9 f n,Rg.aa];rfl
theorem rQ {α:Type} [Add α] [Mul α] [OfNat α 0] [Rg α] {f:Nat→α} {n:Nat} (h:∀ i,n≤i→f i=0):∀ m:Nat,n≤m→i1 f m=i1 f n
  | 0,hm=>by rw [show n=0 by omega]
  | m+1,hm=>by
    rcases Nat.lt_or_ge n (m+1) with g | g
    · rw [i1,h m (by omega),Rg.a0,rQ h m (by omega)]
    rw [show n=m+1 by omega]
theorem KC {α:Type} [Add α] [Mul α] [OfNat α 0] [Rg α] (f:Nat→Nat→α):∀ n:Nat,i1 (fun k=>i1 (fun i=>f i (k - i)) (k+1)) n=i1 (fun i=>i1 (fun j=>f i j) (n - i)) n
  | 0=>rfl
  | n+1=>by
    rw [i1,KC f n]
    rw [j5 (f:=fun i=>i1 (fun j=>f i j) (n+1 - i)) (g:=fun i=>i1 (fun j=>f i j) (n - i)+f i (n - i)) (fun i hi=>by
      rw [show n+1 - i=n - i+1 by omega];rfl)]
    rw [D8]
    congr 1
    rw [i1,Nat.sub_self,i1,Rg.a0]
def conv {α:Type} [Add α] [Mul α] [OfNat α 0] (c d:Nat→α) (k:Nat):α:=i1 (fun i=>c i * d (k - i)) (k+1)
theorem QU {α:Type} [Add α] [Mul α] [OfNat α 0] [Rg α] (a:α) (c d:Nat→α):conv (fun i=>a * c i) d=fun k=>a * conv c d k:=by
  funext k
  unfold conv;rw [← uQ];exact j5 fun i _=>Rg.ma _ _ _
theorem FA {α:Type} [Add α] [Mul α] [OfNat α 0] [Rg α] {c d:Nat→α} {n m:Nat} (hc:∀ i,n≤i→c i=0) (hd:∀ i,m≤i→d i=0) (k:Nat) (hk:n+m≤k+1):conv c d k=0:=by
  refine rR fun i hi=>?_;rcases Nat.lt_or_ge i n with h | h
  · rw [hd _ (by omega),Rg.m0]
  rw [hc _ h,Rg.zm]
def cR (c:Nat→Int) (i:Nat):Rat:=(c i:Rat)
theorem KD (f:Nat→Int):∀ n:Nat,((i1 f n:Int):Rat)=i1 (fun i=>(f i:Rat)) n
  | 0=>rfl
  | n+1=>by simp only [i1];rw [Rat.intCast_add,KD f n]
theorem OR (c d:Nat→Int):cR (conv c d)=conv (cR c) (cR d):=by
  funext k
  unfold cR conv;rw [KD];exact j5 fun i _=>Rat.intCast_mul ..
theorem NO (q:Rat):q * ((q.den:Int):Rat)=((q.num:Int):Rat):=by
  have h:=Rat.num_divInt_den q;rw [Rat.divInt_eq_div,Rat.div_def] at h;have h0:(((q.den:Nat):Int):Rat)≠0:=fun h=>q.den_nz (by have:=Rat.intCast_eq_zero_iff.1 h;omega)
  have e:(((q.num:Int):Rat) * (((q.den:Nat):Int):Rat)⁻¹) * (((q.den:Nat):Int):Rat)=((q.num:Int):Rat):=by rw [Rat.mul_assoc,Rat.inv_mul_cancel _ h0,Rat.mul_one]
  rw [h] at e;exact e
end Go.Num

