/- Lemmas: what they ask stands in their statements. -/
import Derived.Test.YtbjlhfochebmiaaGreatDoorMOf2
set_option linter.unusedSimpArgs false
set_option linter.unusedVariables false
set_option maxHeartbeats 8000000
set_option maxRecDepth 20000
namespace Go.Num
open Go Go.Kn
theorem SO (a:I):mN [a]=a.1.good:=by
 unfold mN mE mE R.good
 cases a.1.bad<;>cases a.1.valid<;>rfl
def C8 (a m:I):Prop:=∃ v r:Nat,a.dec=Z.of (v:Int)∧0<v∧v<4294967296 ^ 16∧m=E (Z.of (r:Int))∧pP v≤r∧0<r∧r≤2 ^ 256
theorem bl_ {m k:Nat} (hm:4294967296 ^ 16=2 ^ m) (hk:m=k+k):(4294967296:Nat) ^ 16=2 ^ k*2 ^ k:=by rw [hm,hk,Nat.pow_add]
theorem fm_:(4294967296:Nat) ^ 16=2 ^ 256*2 ^ 256:=bl_ EK O
theorem RB {v:Nat} (h:0<v) (hv:v<4294967296 ^ 16):0<pP v:=by
 have:=(tY hv).2;rcases Nat.eq_zero_or_pos (pP v) with h0|h0
 ·rw [h0] at this;omega
 exact h0
theorem ac_ {v:Nat} (hv:v<4294967296 ^ 16):pP v<2 ^ 256:=by
 have:=(tY hv).1;rw [fm_] at hv;generalize 2 ^ 256=q at *;rcases Nat.lt_or_ge (pP v) q with h|h
 ·exact h
 have:=Nat.mul_le_mul h h;omega
theorem dD_ {v r s:Nat} (h1:s*s≤v) (h2:v<(s+1)*(s+1)) (hs:0<s) (hr:s≤r):s≤(r+v / r) / 2∧v / r≤s+2∧(r≤(r+v / r) / 2→r=s):=by
 have r0:0<r:=by omega
 have q1:r*(v / r)≤v:=Nat.mul_div_le v r
 have q2:v<r*(v / r+1):=by rw [Nat.mul_add,Nat.mul_one];exact Nat.lt_mul_div_succ v r0
 generalize v / r=q at *
 have e1:(s+1)*(s+1)=s*s+2*s+1:=by rw [Nat.add_mul,Nat.mul_add];omega
 refine ⟨?_,?_,?_⟩
 ·rw [Nat.le_div_iff_mul_le dd_]
  rcases Nat.lt_or_ge (r+q) (s*2) with h|h
  ·exfalso
   obtain ⟨d,rfl⟩:∃ d,r=s+d:=⟨r - s,by omega⟩
   have hq:q+1≤s - d:=by omega
   have hd:d≤s:=by omega
   have h3:=Nat.mul_le_mul_left (s+d) hq
   have h4:(s+d)*(s - d)≤s*s:=by
    obtain ⟨t,rfl⟩:∃ t,s=d+t:=⟨s - d,by omega⟩;rw [Nat.add_sub_cancel_left]
    have:(d+t)*(d+t)=(d+t+d)*t+d*d:=by grind
    omega
   omega
  omega
 ·rcases Nat.lt_or_ge (s+2) q with h|h
  ·exfalso
   have h3:=Nat.mul_le_mul hr (show s+3≤q by omega)
   have:s*(s+3)=s*s+3*s:=by grind
   omega
  exact h
 intro h
 have h3:r≤q:=by rw [Nat.le_div_iff_mul_le dd_] at h;omega
 have h4:=Nat.mul_le_mul_left r h3;rcases Nat.lt_or_ge s r with h5|h5
 ·have:=PA h5;omega
 omega
theorem nB {n:Nat} (h:n<4294967296 ^ 16):(n:Int).natAbs<4294967296 ^ 16:=by rwa [Int.natAbs_natCast]
theorem KK:(2:Nat) ^ 256+2 ^ 256+2<4294967296 ^ 16:=by decide +kernel
theorem IT {a m:I} (h:C8 a m):∃ v r:Nat,a.dec=Z.of (v:Int)∧0<v∧v<4294967296 ^ 16∧m.dec=Z.of (r:Int)∧pP v≤r∧0<r∧r≤2 ^ 256∧r<4294967296 ^ 16∧m=E (Z.of (r:Int)) ∧
  Z.add m.dec (Z.quo a.dec m.dec)=Z.of ((r+v / r:Nat):Int)∧r+v / r<4294967296 ^ 16∧Z.half (Z.add m.dec (Z.quo a.dec m.dec))=Z.of (((r+v / r) / 2:Nat):Int)∧pP v≤(r+v / r) / 2∧(r+v / r) / 2≤2 ^ 256∧(r≤(r+v / r) / 2→r=pP v):=by
 obtain ⟨v,r,ha,hv,hv2,rfl,h1,h2,h3⟩:=h;have s0:=RB hv hv2;have s1:=ac_ hv2;obtain ⟨n1,n2,n3⟩:=dD_ (tY hv2).1 (tY hv2).2 s0 h1;have hb:=KK
 have r1:r<4294967296 ^ 16:=by omega
 have q1:v / r<4294967296 ^ 16:=by omega
 have t1:r+v / r<4294967296 ^ 16:=by omega
 have e1:Z.quo (Z.of (v:Int)) (Z.of (r:Int))=Z.of ((v / r:Nat):Int):=by
  unfold Z.quo;rw [dZ (Z.of_some (nB hv2)) (Z.of_some (nB r1)),if_neg oo_]
  congr 1
  rw [Int.fdiv_eq_ediv_of_nonneg _ oo_];rfl
 have e2:Z.add (Z.of (r:Int)) (Z.of ((v / r:Nat):Int))=Z.of ((r+v / r:Nat):Int):=by
  unfold Z.add;rw [dZ (Z.of_some (nB r1)) (Z.of_some (nB q1))]
  congr 1
 have e3:Z.half (Z.of ((r+v / r:Nat):Int))=Z.of (((r+v / r) / 2:Nat):Int):=by
  unfold Z.half;rw [kR (Z.of_some (nB t1))]
  congr 1
 refine ⟨v,r,ha,hv,hv2,by rw [fA],h1,h2,h3,r1,rfl,?_,t1,?_,n1,?_,n3⟩
 ·rw [ha,fA,e1,e2]
 ·rw [ha,fA,e1,e2,e3]
 generalize 2 ^ 256=q at *;omega
theorem SU {n:Nat} (h:n<4294967296 ^ 16):(E (Z.of (n:Int))).1.neg=false:=by
 show (Z.of (n:Int)).enc.neg=false
 unfold Z.enc;rw [Z.of_some (nB h)];exact decide_eq_false (show ¬ ((n:Int)<0) by omega)
theorem bP_ {a m:I} (h:C8 a m):(E (Z.add m.dec (Z.quo a.dec m.dec))).1.neg=false:=by
 obtain ⟨v,r,_,_,_,_,_,_,_,_,_,e,t,_⟩:=IT h;rw [e];exact SU t
theorem M5 {a m:I} (h:C8 a m):C8 a (E (Z.half (Z.add m.dec (Z.quo a.dec m.dec)))):=by
 obtain ⟨v,r,ha,hv,hv2,_,_,_,_,_,_,_,_,e,n1,n2,_⟩:=IT h;have:=RB hv hv2;exact ⟨v,(r+v / r) / 2,ha,hv,hv2,by rw [e],n1,by omega,n2⟩
theorem ZK {n:Nat} (h:n<4294967296 ^ 16):Z.nat (Z.of (n:Int))=n:=by
 unfold Z.nat;rw [Z.of_some (nB h)];exact Int.natAbs_natCast n
theorem P4 {m n:Nat} (hm:m<4294967296 ^ 16) (hn:n<4294967296 ^ 16):decide (0≤(Z.cmpW (Z.of (m:Int)) (Z.of (n:Int))).1)=decide (n≤m):=by
 congr 1
 show (0≤Z.cmp (Z.of (m:Int)) (Z.of (n:Int)))=_
 unfold Z.cmp;rw [Z.of_some (nB hm),Z.of_some (nB hn)];simp only;unfold wE
 apply propext
 constructor
 ·intro h
  split at h
  ·omega
  split at h<;>omega
 intro h
 split
 ·omega
 split<;>omega
theorem RA {a m:I} (h:C8 a m) (hc:decide (0≤(Z.cmpW (Z.half (Z.add m.dec (Z.quo a.dec m.dec))) m.dec).1)=false):Z.nat (E (Z.half (Z.add m.dec (Z.quo a.dec m.dec)))).dec<Z.nat m.dec:=by
 obtain ⟨v,r,ha,hv,hv2,hm,_,_,_,r1,_,_,t,e,n1,n2,_⟩:=IT h;have hb:=KK
 have t1:(r+v / r) / 2<4294967296 ^ 16:=by omega
 rw [e,hm,P4 t1 r1] at hc;have:=of_decide_eq_false hc;rw [e,hm,fA,ZK t1,ZK r1];omega
theorem ad_ (a:I):(W.quo (W.add (Z.bitsW a.dec) (wl 1)) (wl 2)).1=(((a.dec.bits+1) / 2:Nat):Int):=by
 have h:=Z.bits_le a.dec
 have e1:(W.add (Z.bitsW a.dec) (wl 1)).1=((a.dec.bits+1:Nat):Int):=by
  show IntKind.i64.wrap (((Z.bits a.dec:Nat):Int)+1)=_
  rw [wi oo_];rfl
 show IntKind.i64.wrap ((W.add (Z.bitsW a.dec) (wl 1)).1.tdiv 2)=_
 rw [e1,Int.tdiv_eq_ediv_of_nonneg oo_];rw [wi oo_];rfl
theorem bQ_ (a:I):0≤(W.quo (W.add (Z.bitsW a.dec) (wl 1)) (wl 2)).1:=by rw [ad_];omega
theorem KE {a:I} (h1:(!(mN [a])||a.1.neg)=false) (h2:((Z.signW a.dec).1==0)=false):C8 a (E (Z.shl (Z.of 1) (W.quo (W.add (Z.bitsW a.dec) (wl 1)) (wl 2)).1)):=by
 rw [SO,Bool.or_eq_false_iff,Bool.not_eq_false'] at h1;obtain ⟨ga,hn⟩:=h1;have hv:=NJ a.2
 have ea:a.dec=Z.of ((val a.1.w:Nat):Int):=by
  show a.1.dec=_
  unfold R.dec;rw [if_pos ga,hn];rfl
 have v0:0<val a.1.w:=by
  rcases Nat.eq_zero_or_pos (val a.1.w) with h|h
  ·exfalso
   rw [ea,h] at h2
   revert h2;decide +kernel
  exact h
 have eb:a.dec.bits=bl (val a.1.w):=AQ a.2 ga;have hbl:=Z.bits_le a.dec
 have hk:(a.dec.bits+1) / 2≤256:=by omega
 have hlt:val a.1.w<2 ^ ((a.dec.bits+1) / 2)*2 ^ ((a.dec.bits+1) / 2):=by
  rw [← Nat.pow_add];refine Nat.lt_of_lt_of_le (I4 _) (Nat.pow_le_pow_right dd_ ?_);rw [← eb];omega
 have hle:2 ^ ((a.dec.bits+1) / 2)≤2 ^ 256:=Nat.pow_le_pow_right dd_ hk;have hp:0<2 ^ ((a.dec.bits+1) / 2):=Nat.pow_pos dd_;refine ⟨val a.1.w,2 ^ ((a.dec.bits+1) / 2),ea,v0,hv,?_,?_,hp,hle⟩
 ·rw [ad_]
  congr 1
  unfold Z.shl;rw [kR (Z.of_some dd_),Int.toNat_natCast,Int.one_mul]
  congr 1
 have:=(tY hv).1;generalize 2 ^ ((a.dec.bits+1) / 2)=q at *;rcases Nat.lt_or_ge q (pP (val a.1.w)) with h|h
 ·have:=Nat.mul_le_mul (Nat.le_of_lt h) (Nat.le_of_lt h);omega
 exact h
theorem NC (a:I):∀ (k:Nat) (m:I),C8 a m→Z.nat m.dec<k→oC a k m = .inr (E (Z.sqrt a.dec))
 | 0,m,_,h=>absurd h (Nat.not_lt_zero _)
 | k+1,m,h,hk=>by
  unfold oC
  cases hc:decide (0≤(Z.cmpW (Z.half (Z.add m.dec (Z.quo a.dec m.dec))) m.dec).1) with
  | false=>rw [cond_false];exact NC a k _ (M5 h) (by have:=RA h hc;omega)
  | true =>
   obtain ⟨v,r,ha,hv,hv2,hm,_,_,_,r1,hm2,_,t,e,n1,n2,n3⟩:=IT h;have hb:=KK
   have t1:(r+v / r) / 2<4294967296 ^ 16:=by omega
   rw [e,hm,P4 t1 r1] at hc;have hr:=n3 (of_decide_eq_true hc);rw [cond_true,hm2,ha];unfold Z.sqrt;rw [kR (Z.of_some (nB hv2)),decide_eq_false oo_,cond_false,Int.toNat_natCast,← hr]
theorem TX (a:I):jI a=E (Z.sqrt a.dec):=by
 unfold jI
 cases h1:(!(mN [a])||a.1.neg) with
 | true =>
  rw [cond_true];rw [SO,Bool.or_eq_true,Bool.not_eq_true'] at h1
  cases ga:a.1.good with
  | false=>exact congrArg E (RK ga).symm
  | true =>
   rw [ga] at h1;exact congrArg E (RL a.2 ga (by simpa using h1)).symm
 | false =>
  rw [cond_false]
  cases h2:((Z.signW a.dec).1==0) with
  | true =>
   rw [cond_true];have h1':=h1;rw [SO,Bool.or_eq_false_iff,Bool.not_eq_false'] at h1';obtain ⟨ga,hn⟩:=h1';have hz:a.1.dec.sign=0:=beq_iff_eq.1 h2
   have hv:val a.1.w=0:=by
    rcases Nat.eq_zero_or_pos (val a.1.w) with h|h
    ·exact h
    ·exact absurd hz (fun hz=>by
      unfold Z.sign at hz;rw [cU a.2 ga,hn] at hz;have:=Int.sign_eq_zero_iff_zero.1 hz;have e:sgn false (val a.1.w)=((val a.1.w:Nat):Int):=rfl
      omega)
   have:=NB (r:=0) a.2 ga hn oo_ oo_
   have e2:a=E (Z.of 0):=by
    have h3:=IL a.2 ga
    have h4:a.1.dec=Z.of 0:=by
     unfold R.dec;rw [if_pos ga,hn,hv];rfl
    rw [h4] at h3;exact (Subtype.ext h3).symm
   conv=>lhs;rw [e2]
   exact congrArg E this
  | false =>
   rw [cond_false,NC a _ _ (KE h1 h2) (Nat.lt_succ_self _)];rfl
end Go.Num
namespace Go.Proofs.YtbjlhfochebmiaaGreatDoor
open Go.Kn Go.Num Tryz
attribute [local irreducible] Go.Kn.W WL PL OpQ OpR OpS
theorem H7 (a:R) (ha:a.Ok) (m:Nat) (hm:(m:Int)≤9223372036854775807) :
    Ret prog 161 [RV a,.int .i64 (m:Int)] (RV (Z.shl a.dec (m:Int)).enc):=by
 refine bA (N:=75) func161 O O zz_ (fun w0=>?_);refine giI ?_;refine go_ ?_;refine aY O (lC O O (fun b2 hb2=>aY O (eS mX (fun b4 hb4=>go4 ?_))));refine sQ (cI tyT O mm_ (cO ha)) O ?_;refine aY O (kH rI mX rN O dd_ O (zB ha) (fun b9 hb9=>sQ (dF aE O (fun w hw=>jH [a] (ok1 ha) b9 33 w (hw.mem _ m0) zz_)) O ?_));refine go3 ?_;refine aL _ O (fun hg=>?_) (fun hg=>?_)
 ·replace hg:=cB_ hg
  refine go_ ?_;refine sQ (aX aE gQ O) O (aY O (bV tyT O O uu_ (aI _) O (bN _) (.inl fP) ?_));refine go2 ?_;refine rtX O ⟨_,_,_,_,_,_,rfl,mm_,tyT,_,(dQ (aI _)),(aI _),rfl⟩ ?_
  (rw [Z.shl,AY (by unfold R.dec;rw [if_neg (by simpa using hg)];rfl)];rfl)
 replace hg:=cB_ hg
 refine go_ ?_;refine sQ (cI tyT O mm_ (cO ha)) O ?_;refine sQ (aX aE (nV a ha) O) O (go3 ?_);refine aL _ O (fun hs=>?_) (fun hs=>?_)
 ·replace hs:=cB_ hs
  refine go_ ?_;refine sQ (cI tyT O mm_ (cO ha)) O ?_;refine aY O (bV tyT O O uu_ (cO ha) O (bN _) (.inl fP) ?_);refine go2 ?_;refine rtX O ⟨_,_,_,_,_,_,rfl,mm_,tyT,_,(dQ (cO ha)),(cO ha),rfl⟩ ?_;exact congrArg RV (bU_ ha (by simpa using hg) hs m)
 replace hs:=cB_ hs
 refine go4 ?_
 cases h5:decide ((m:Int) ≥ 512)
 ·refine go3 ?_
  cases h6:decide ((m:Int) > 0)
  ·refine xY ?_;refine aL _ O (fun h33=>?_) (fun h33=>?_)
   ·replace h33:=cB_ h33
    exact absurd h33 oo_ --done
   replace h33:=cB_ h33
   refine go2 ?_
   have hm5:m<512:=by have:=of_decide_eq_false h5;omega
   have hfar:m / 32≤15:=by omega
   refine aY O (eS sU (fun b5 hb5=>go3 ?_));refine sQ (aM (lI O O dd_) (congrArg (Value.int .i64) (shq 32 dd_ hm))) O (go7 ?_);refine aL _ O (fun h42=>?_) (fun h42=>?_)
   ·replace h42:=cB_ h42
    refine go_ ?_;refine kY (sd (sk (sk (sk s0)))) 5 [4] [4] (go_ ?_);refine pQ O (yE arT O O O oo_ oo_ oo_ oo_) (pQ O (cH fdT dd_ O) (pQ O (yE arT O O O dd_ dd_ dd_ dd_) ?_));refine cJ O O (OX O9 O O mm_ uu_ (fun v hv=>bN a v (List.mem_of_mem_drop (List.mem_of_mem_take hv))) (by rw [cO ha];omega) (by simp [uw];omega) (P6 ha hfar) (.inl fP) ⟨nf,ss_,?_⟩);refine go2 ?_;refine sQ (cI tyT O mm_ (by simp [uw,EI ha.len (show m / 32≤16 by omega)])) O ?_;refine go_ ?_;refine sQ (aM (tQ O O dd_) (congrArg (Value.int .i64) (shr 32 m))) O (sQ (aX aE (yW (shw a.w (m / 32)) (EI ha.len oo_) (U5 ha.lim) (m % 32) (Nat.mod_lt _ dd_)) O) O (go3 ?_));refine aY O (bV tyT O O uu_ (by simp [uw,dB]) (by simp [uw,EI ha.len (show m / 32≤16 by omega)]) (jP _) (.inl fP) ?_);refine go2 ?_;refine sQ (cH fdT dd_ O) O (sQ (dX (v:=.bool a.neg) tyT O mm_ O) O ?_);refine sQ (cI tyT O mm_ (by simp [uw,dB])) O ?_;refine sQ (aX aE (fM a.neg (toL 16 (val (shw a.w (m / 32))*2 ^ (m % 32))) (by simp [dB]) (nT _ _)) O) O ?_;refine aY O (bV tyT O O uu_ (jY (by simp [dB])) O (bN _) (.inl fP) ?_);refine go2 ?_;refine rtX O ⟨_,_,_,_,_,_,rfl,mm_,tyT,_,(dQ (jY (by simp [dB]))),(jY (by simp [dB])),rfl⟩ ?_;exact congrArg RV (ai_ ha (by simpa using hg) (by have:=Z.bits_le a.dec;have:=of_decide_eq_false h6;omega) hm5)
   replace h42:=cB_ h42
   exact absurd h42 oo_ --done
  refine sQ (cI tyT O mm_ (cO ha)) O ?_;refine sQ (aX aE (zQ a ha) O) O (go_ ?_);refine sQ (aM (j3 O O) (congrArg (Value.int .i64) (show _=((a.dec.bits+m:Nat):Int) from (wi (by have:=Z.bits_le a.dec;have:=of_decide_eq_false h5;omega)).trans (Int.natCast_add _ _).symm))) O (go5 ?_);refine aL _ O (fun h18=>?_) (fun h18=>?_)
  ·replace h18:=cB_ h18
   refine go_ ?_;refine sQ (aX aE gQ O) O (aY O (bV tyT O O uu_ (aI _) O (bN _) (.inl fP) ?_));refine go2 ?_;refine rtX O ⟨_,_,_,_,_,_,rfl,mm_,tyT,_,(dQ (aI _)),(aI _),rfl⟩ ?_;exact congrArg RV (ah_ ha (by simpa using hg) hs (.inl oo_))
  replace h18:=cB_ h18
  refine go5 ?_;refine aL _ O (fun h33=>?_) (fun h33=>?_)
  ·replace h33:=cB_ h33
   exact absurd h33 oo_ --done
  replace h33:=cB_ h33
  refine go2 ?_
  have hm5:m<512:=by have:=of_decide_eq_false h5;omega
  have hfar:m / 32≤15:=by omega
  refine aY O (eS sU (fun b5 hb5=>go3 ?_));refine sQ (aM (lI O O dd_) (congrArg (Value.int .i64) (shq 32 dd_ hm))) O (go7 ?_);refine aL _ O (fun h42=>?_) (fun h42=>?_)
  ·replace h42:=cB_ h42
   refine go_ ?_;refine kY (sd (sk (sk (sk s0)))) 5 [4] [4] (go_ ?_);refine pQ O (yE arT O O O oo_ oo_ oo_ oo_) (pQ O (cH fdT dd_ O) (pQ O (yE arT O O O dd_ dd_ dd_ dd_) ?_));refine cJ O O (OX O9 O O mm_ uu_ (fun v hv=>bN a v (List.mem_of_mem_drop (List.mem_of_mem_take hv))) (by rw [cO ha];omega) (by simp [uw];omega) (P6 ha hfar) (.inl fP) ⟨nf,ss_,?_⟩);refine go2 ?_;refine sQ (cI tyT O mm_ (by simp [uw,EI ha.len (show m / 32≤16 by omega)])) O ?_;refine go_ ?_;refine sQ (aM (tQ O O dd_) (congrArg (Value.int .i64) (shr 32 m))) O (sQ (aX aE (yW (shw a.w (m / 32)) (EI ha.len oo_) (U5 ha.lim) (m % 32) (Nat.mod_lt _ dd_)) O) O (go3 ?_));refine aY O (bV tyT O O uu_ (by simp [uw,dB]) (by simp [uw,EI ha.len (show m / 32≤16 by omega)]) (jP _) (.inl fP) ?_);refine go2 ?_;refine sQ (cH fdT dd_ O) O (sQ (dX (v:=.bool a.neg) tyT O mm_ O) O ?_);refine sQ (cI tyT O mm_ (by simp [uw,dB])) O ?_;refine sQ (aX aE (fM a.neg (toL 16 (val (shw a.w (m / 32))*2 ^ (m % 32))) (by simp [dB]) (nT _ _)) O) O ?_;refine aY O (bV tyT O O uu_ (jY (by simp [dB])) O (bN _) (.inl fP) ?_);refine go2 ?_;refine rtX O ⟨_,_,_,_,_,_,rfl,mm_,tyT,_,(dQ (jY (by simp [dB]))),(jY (by simp [dB])),rfl⟩ ?_;exact congrArg RV (ai_ ha (by simpa using hg) oo_ hm5)
  replace h42:=cB_ h42
  exact absurd h42 oo_ --done
 refine GO ?_;refine sQ (aX aE gQ O) O (aY O (bV tyT O O uu_ (aI _) O (bN _) (.inl fP) ?_));refine go2 ?_;refine rtX O ⟨_,_,_,_,_,_,rfl,mm_,tyT,_,(dQ (aI _)),(aI _),rfl⟩ ?_;exact congrArg RV (ah_ ha (by simpa using hg) hs (.inr (by have:=of_decide_eq_true h5;omega)))
theorem H8 (a:R) (ha:a.Ok) (n:W) (h0:0≤n.1):Ret prog 161 [RV a,.int .i64 n.1] (RV (Z.shl a.dec n.1).enc):=by
 obtain ⟨n,hn⟩:=n;obtain ⟨m,rfl⟩:∃ m:Nat,n=(m:Int):=⟨n.toNat,by simp only at h0;omega⟩;exact H7 a ha m (by unfold I64 at hn;omega)
theorem LE (a:R) (ha:a.Ok) (hn:a.neg=false) (w:List Nat) (hw:w.length=16) (hlim:Lim w) (vs:Value) :
  Ret prog 204 [RV a,UV w,vs] (RV ⟨false,false,w⟩):=by
 refine bA (N:=32) func204 O O zz_ (fun w0=>?_);refine giI ?_;obtain ⟨bd,ng,l⟩:=a;simp only at hn;subst hn;refine go_ ?_;refine aY O (lC O O (fun b3 hb3=>aY O (lC O O (fun b4 hb4=>aY O (eS mX (fun b6 hb6=>go2 ?_))))));refine sQ (cH fdT dd_ O) O (sQ (dX (v:=.bool false) tyT O mm_ O) O ?_);refine sQ (cI tyT O mm_ (by simp [uw,hw])) O ?_;refine sQ (aX aE (fM false w hw hlim) O) O (aY O (eS mX (fun b7 hb7=>aY O (bV tyT O O uu_ (jY hw) O (bN _) (.inl fP) ?_))));refine go3 ?_;refine kY (sk (sk (sk (sk s0)))) 16 [] [] (pQ O (cH fdT dd_ O) (pQ O (dX (v:=.bool false) tyT O mm_ O) ?_));refine dp_ ?_;refine sQ (cI tyT O mm_ (jY hw)) O ?_;refine aY O (bV tyT O O uu_ (jY hw) O (bN _) (.inl fP) ?_);refine go2 ?_;refine rtX O ⟨_,_,_,_,_,_,rfl,mm_,tyT,_,(dQ (jY hw)),(jY hw),rfl⟩ ?_;exact rfl
theorem LB (a:R) (ha:a.Ok) (hn:a.neg=false) :
   Ret prog 161 [RV a,.int .i64 (-1)] (RV (Z.half a.dec).enc):=by
 refine bA (N:=75) func161 O O zz_ (fun w0=>?_);refine giI ?_;refine go_ ?_;refine aY O (lC O O (fun b2 hb2=>aY O (eS mX (fun b4 hb4=>go4 ?_))));refine sQ (cI tyT O mm_ (cO ha)) O ?_;refine aY O (kH rI mX rN O dd_ O (zB ha) (fun b9 hb9=>sQ (dF aE O (fun w hw=>jH [a] (ok1 ha) b9 33 w (hw.mem _ m0) zz_)) O ?_));refine go3 ?_;refine aL _ O (fun hg=>?_) (fun hg=>?_)
 ·replace hg:=cB_ hg
  refine go_ ?_;refine sQ (aX aE gQ O) O (aY O (bV tyT O O uu_ (aI _) O (bN _) (.inl fP) ?_));refine go2 ?_;refine rtX O ⟨_,_,_,_,_,_,rfl,mm_,tyT,_,(dQ (aI _)),(aI _),rfl⟩ ?_
  (rw [YZ (by simpa using hg)];rfl)
 replace hg:=cB_ hg
 refine go_ ?_;refine sQ (cI tyT O mm_ (cO ha)) O ?_;refine sQ (aX aE (nV a ha) O) O (go3 ?_);refine aL _ O (fun hs=>?_) (fun hs=>?_)
 ·replace hs:=cB_ hs
  refine go_ ?_;refine sQ (cI tyT O mm_ (cO ha)) O ?_;refine aY O (bV tyT O O uu_ (cO ha) O (bN _) (.inl fP) ?_);refine go2 ?_;refine rtX O ⟨_,_,_,_,_,_,rfl,mm_,tyT,_,(dQ (cO ha)),(cO ha),rfl⟩ ?_;exact congrArg RV (V8 ha (by simpa using hg) hn hs)
 replace hs:=cB_ hs
 refine gb_ ?_;refine aY O (eS sU (fun b5 hb5=>go3 ?_));refine sQ (lI O O dd_) O (jE ?_);refine kY (sd (sk (sk (sk s0)))) 6 [5] [5] (pQ O (yE arT O O O dd_ dd_ dd_ dd_) (pQ O (cH fdT dd_ O) (go2 ?_)));refine pQ O (yE arT O O O dd_ dd_ dd_ dd_) ?_;refine cJ O O (OX O9 O O mm_ uu_ (fun v hv=>bN a v (List.mem_of_mem_drop (List.mem_of_mem_take hv))) (by rw [cO ha];decide) (by simp [uw]) (V6 ha) (.inl fP) ⟨nf,ss_,?_⟩);refine go2 ?_;refine kY (sk (sk (sd (sk s0)))) 11 [8,10] [10] (pQ O (cI tyT O mm_ (cO ha)) ?_);refine pQ O (cI tyT O mm_ (by simp [uw,ha.len])) ?_;refine go2 ?_;refine pQ O (tQ O O dd_) (pQ O (aX aE (D6 a.w ha.len ha.lim 1 dd_) O) (go2 ?_));refine cJ O O (kH jN z_3 oX O dd_ O (DD 1) (fun b73 hb73=>⟨(fun _=>by first|exact sd s0|exact s0),ss_,?_⟩));refine pQ O (aX aE (LE a ha hn (toL 16 (val a.w / 2 ^ 1)) (dB _ _) (nT _ _) _) O) ?_;refine cJ O O (bV tyT O O uu_ (jY (dB _ _)) O (bN _) (.inl fP) ⟨nf,ss_,?_⟩);refine go2 ?_;refine rtX O ⟨_,_,_,_,_,_,rfl,mm_,tyT,_,(dQ (jY (dB _ _))),(jY (dB _ _)),rfl⟩ ?_;exact congrArg RV (V7 ha (by simpa using hg) hn)
theorem H9 (vl:Value) (l:(List I)) (w:World) (hl:Slr w elI vl l) :
    Calls prog 158 [vl].toArray w (fun e w'=>e = .returned (.bool (mN l))∧Ext w w'):=by
 refine dL (N:=19) func158 O O zz_ ?_;obtain ⟨w0,rfl⟩:=nm w;have Hl:=hl.old;have hm_l:=hl.max;refine giI ?_;refine go6 ?_;refine sQ (dV w6 O (SLe.sub Hl sn)) O (go2 ?_);refine gJ3 (rg [2,4] 7 12) (fun g M=>(mE l l) = .inl ()∧(True)∧M=[]) (fun K_u1 hK_u1=>?_) ?_
 ·refine go_ ?_;have hmx0:(l).length≤9223372036854775807:=hm_l;refine cE (rg [2,4] 7 12) (fun g nn M=>∃ (i0:Nat) (l0:List I),(mE l l0)=(mE l l)∧(l).drop i0=l0∧l0.length=nn∧g 7 = .int .i64 (i0:Int)∧(True)∧M=[]) l.length ?start ?round
  case start=>exact ⟨_,s0,0,l,rfl,rfl,rfl,rfl,trivial,rfl⟩
  case round =>
   rintro nn g M ⟨i0,l0,hT0,hr0,rfl,hgi,-,rfl⟩;refine gS1 hgi ?_;clear hgi;refine go4 ?_;rcases l0 with _|⟨x0,l0⟩
   ·have h18:=FM hr0;refine W_f h18 O (go_ ?_);refine hK_u1 _ _ pp_ ⟨_,s0,(by exact hT0.symm.trans (Eq.symm rfl)),trivial,rfl⟩
   have h19:=DB hr0;have g20:=yX hr0;refine W_t h19 O (go4 ?_);refine sQ (aM (v':=.pointer (some (slb vl (i0*18+0)))) (eD (e:=elI) (l:=l) (k:=i0) w6 O O (SLe.sub Hl sn) g20.2.1) O) O (sQ (gE (e:=elI) (l:=l) (k:=i0) (o:=0) tyT O (SLe.sub Hl sn) g20.1 O) O (go_ ?_));intro b21 hb21;refine go2 ?_;refine gJv [11,12,13,14,15,16,17] [(17,.bool (x0.1.bad||(!x0.1.valid)))] (fun K10 J10=>?_) ?_
   ·refine go3 ?_;refine sBB O (fun h23=>?_) (fun h23=>?_)
    ·refine go5 ?_;refine J10 _ _ pp_ s0 (bQ (o9 h23))
    refine go_ ?_;refine sC (.bool x0.1.valid) aE (vG x0.1 x0.2) O O O (go3 ?_);refine J10 _ _ pp_ s0 (bQ (nA h23 O))
   intro g24;refine aL _ O (fun h25=>?_) (fun h25=>?_)
   ·refine go4 ?_;refine rt1 ?_;exact congrArg vS2 (show _=(mN l) from (CF O (hT0.symm.trans (Eq.symm (aQ h25 O)))))
   refine go2 ?_;refine sV (.int .i64 ((i0+1:Nat):Int)) O (congrArg (Value.int .i64) (nxt g20.2.1 hmx0)) (go2 ?_);refine ⟨pp_,_,_,(sd s0),(Nat.lt_succ_self _),i0+1,l0,(by exact (hT0.symm.trans (Eq.symm (aN h25 O))).symm),g20.2.2,rfl,rfl,trivial,rfl⟩
 rintro g M ⟨hCu1,-,rfl⟩;refine gS0 ?_;refine go4 ?_;refine rt1 ?_;exact congrArg vS2 (show _=(mN l) from trs (Eq.symm (smS hCu1)) O)
theorem LC (a:I) :
    Ret prog 85 [AV [pI a]] (AV [pI (jI a)]):=by
 refine bA (N:=36) func85 O O zz_ (fun w0=>?_);refine giI ?_;refine go2 ?_;intro b1 hb1;refine go_ ?_;intro b2 hb2;refine go2 ?_;refine gJv (rg [] 5 8) [(12,.bool (!(mN [a])||a.1.neg))] (fun K2 J2=>?_) ?_
 ·refine go2 ?_;refine aY O (cA [[pI a]] [pI a] rI mX rN O dd_ O O ⟨rfl,rfl,rfl,trivial⟩ O (fun b6 hb6=>sFc (.bool (mN [a])) O (fun w hw=>H9 _ ([a]) w (SLe.ap hw (SLe.lit (e:=elI) (l:=[a]) m0 O (Nat.le_of_ble_eq_true O) O))) O O (go_ ?_)));rcases bt (mN [a]) with h7|h7
  ·refine sB (gG h7) O (go4 ?_);refine J2 _ _ pp_ (sd s0) (bQ (nO h7 O))
  refine sB (gD h7) O (go4 ?_);refine J2 _ _ pp_ (sd s0) (bQ (rZ h7))
 intro g8;refine aL _ O (fun h9=>?_) (fun h9=>?_)
 ·refine go_ ?_;refine sC (AV [pI (E Z.bad)]) aE gQ O O O (go3 ?_);refine rtX O (eR O m0 tyT O) ?_;exact congrArg vS4 (show _=(jI a) from aQ h9 O)
 refine go4 ?_;refine sC (.int .i64 ((Z.signW a.dec).1)) aE (nV a.1 a.2) O O O (go2 ?_);refine aL _ O (fun h10=>?_) (fun h10=>?_)
 ·refine go5 ?_;refine rtX O (eR O m0 tyT O) ?_;exact congrArg vS4 (show _=(jI a) from aN h9 (aQ h10 O))
 refine go_ ?_;refine mS (sk (sk s0)) 8 [6,7] [7] (pC (AV [pI (E (Z.of 1))]) aE (fB (wl 1).1 (wl 1).2) O O O ?_);refine go_ ?_;refine pC (.int .i64 ((Z.bitsW a.dec).1)) aE (zQ a.1 a.2) O O O (pV (.int .i64 ((W.add (Z.bitsW a.dec) (wl 1)).1)) O O ?_);refine pQ O (aM (v':=.int .i64 ((W.quo (W.add (Z.bitsW a.dec) (wl 1)) (wl 2)).1)) (lI O O dd_) O) ?_;have hsh:0≤(W.quo (W.add (Z.bitsW a.dec) (wl 1)) (wl 2)).1:=bQ_ a;refine pC (AV [pI (E (Z.shl (Z.of 1) (W.quo (W.add (Z.bitsW a.dec) (wl 1)) (wl 2)).1))]) aE (H8 (E (Z.of 1)).1 (E (Z.of 1)).2 (W.quo (W.add (Z.bitsW a.dec) (wl 1)) (wl 2)) (by first|assumption|exact (Int.not_lt.1 (of_decide_eq_false (by first|assumption|exact e1_ fP))))) O O (cg1 (fun p=>AV [pI (E (Z.shl p (W.quo (W.add (Z.bitsW a.dec) (wl 1)) (wl 2)).1))]) (fA _)) ?_;refine cJ O O (fF zpT (fun b11 hb11=>⟨(fun _=>sd s0),(sd s0),?_⟩));refine go3 ?_;refine cE (rg [4] 24 12) (fun g nn M=>∃ (mb11:I),(oC a nn mb11)=(oC a (Z.nat (E (Z.shl (Z.of 1) (W.quo (W.add (Z.bitsW a.dec) (wl 1)) (wl 2)).1)).dec+1) (E (Z.shl (Z.of 1) (W.quo (W.add (Z.bitsW a.dec) (wl 1)) (wl 2)).1)))∧Z.nat mb11.dec<nn∧(C8 a mb11)∧(True)∧M=[⟨b11,33,bB [pI mb11]⟩,⟨b2,33,bB [pI I0]⟩,⟨b1,33,bB [pI a]⟩]) (Z.nat (E (Z.shl (Z.of 1) (W.quo (W.add (Z.bitsW a.dec) (wl 1)) (wl 2)).1)).dec+1) ?start ?round
 case start=>exact ⟨_,s0,(E (Z.shl (Z.of 1) (W.quo (W.add (Z.bitsW a.dec) (wl 1)) (wl 2)).1)),rfl,Nat.lt_succ_self _,(KE h9 h10),trivial,rfl⟩
 case round =>
  rintro nn g M ⟨mb11,hT0,hq0,hinv0,-,rfl⟩;obtain ⟨k0,rfl⟩:∃ m,nn=m+1:=⟨nn - 1,by omega⟩;refine gS0 ?_;refine go_ ?_;refine mS (sk (sk (sk s0))) 8 [6,7] [7] (go3 ?_);refine pC (AV [pI (E (Z.quo a.dec mb11.dec))]) aE (pU a.1 mb11.1 a.2 mb11.2) O O O (pC (AV [pI (E (Z.add mb11.dec (Z.quo a.dec mb11.dec)))]) aE (rM mb11.1 (E (Z.quo a.dec mb11.dec)).1 mb11.2 (E (Z.quo a.dec mb11.dec)).2) O O (cg2 (fun p q=>AV [pI (E (Z.add p q))]) O (fA _)) ?_);have hhf:=bP_ hinv0;refine pC (AV [pI (E (Z.half (Z.add mb11.dec (Z.quo a.dec mb11.dec))))]) aE (LB (E (Z.add mb11.dec (Z.quo a.dec mb11.dec))).1 (E (Z.add mb11.dec (Z.quo a.dec mb11.dec))).2 fP) O O (cg1 (fun p=>AV [pI (E (Z.half p))]) (fA _)) (cJ O O (fF zpT (fun b20 hb20=>⟨(fun _=>sd s0),(sd s0),?_⟩)));refine go6 ?_;refine sC (.int .i64 ((Z.cmpW (Z.half (Z.add mb11.dec (Z.quo a.dec mb11.dec))) mb11.dec).1)) aE (LU (E (Z.half (Z.add mb11.dec (Z.quo a.dec mb11.dec)))).1 mb11.1 (E (Z.half (Z.add mb11.dec (Z.quo a.dec mb11.dec)))).2 mb11.2) O O (cg2 (fun p q=>Value.int .i64 (Z.cmpW p q).1) (fA _) O) (go2 ?_);refine aL _ O (fun h21=>?_) (fun h21=>?_)
  ·refine go5 ?_;refine rtX O (eR O m2 tyT O) ?_;exact congrArg vS4 (show _=(jI a) from aN h9 (aN h10 (CF O (hT0.symm.trans (Eq.symm (aQ h21 O))))))
  refine go5 ?_;refine ⟨pp_,_,_,(sd s0),(Nat.lt_succ_self _),(E (Z.half (Z.add mb11.dec (Z.quo a.dec mb11.dec)))),(by exact (hT0.symm.trans (Eq.symm (aN h21 O))).symm),(Nat.lt_of_lt_of_le (RA hinv0 h21) (Nat.le_of_lt_succ hq0)),(M5 hinv0),trivial,rfl⟩
theorem LO (p:Pose) :
  Ret prog 16 [AV [cw p.x.x.1,cw p.x.y.1,cw p.x.z.1,cw p.q.x.1,cw p.q.y.1,cw p.q.z.1,cw p.q.t.1]] (AV [cw (((((lA p).from_).x).x).1),cw (((((lA p).from_).x).y).1),cw (((((lA p).from_).x).z).1),cw (((((lA p).from_).q).x).1),cw (((((lA p).from_).q).y).1),cw (((((lA p).from_).q).z).1),cw (((((lA p).from_).q).t).1),cw (((((lA p).to_).x).x).1),cw (((((lA p).to_).x).y).1),cw (((((lA p).to_).x).z).1),cw (((((lA p).to_).q).x).1),cw (((((lA p).to_).q).y).1),cw (((((lA p).to_).q).z).1),cw (((((lA p).to_).q).t).1)]):=by
 refine bA (N:=6) func16 O O zz_ (fun w0=>?_);refine giI ?_;refine go2 ?_;intro b1 hb1;refine go_ ?_;intro b2 hb2;refine go8 ?_;refine rtX O (eR O m0 tyT O) ?_;exact (by rfl)
theorem DQ (h:Path) :
  Ret prog 53 [AV [cw h.from_.x.x.1,cw h.from_.x.y.1,cw h.from_.x.z.1,cw h.from_.q.x.1,cw h.from_.q.y.1,cw h.from_.q.z.1,cw h.from_.q.t.1,cw h.to_.x.x.1,cw h.to_.x.y.1,cw h.to_.x.z.1,cw h.to_.q.x.1,cw h.to_.q.y.1,cw h.to_.q.z.1,cw h.to_.q.t.1]] (.bool (wA h)):=by
 refine bA (N:=8) func53 O O zz_ (fun w0=>?_);refine giI ?_;refine go2 ?_;intro b1 hb1;refine go7 ?_;refine sQ (tB (r:=(decide (h.from_.x.x.1=h.to_.x.x.1)&&(decide (h.from_.x.y.1=h.to_.x.y.1)&&(decide (h.from_.x.z.1=h.to_.x.z.1)&&(decide (h.from_.q.x.1=h.to_.q.x.1)&&(decide (h.from_.q.y.1=h.to_.q.y.1)&&(decide (h.from_.q.z.1=h.to_.q.z.1)&&decide (h.from_.q.t.1=h.to_.q.t.1)))))))) O O (kC 8 dd_ eI_ eP_ (bJ dR (bJ dR (bJ dR (bJ dR (bJ dR (bJ dR (iD dR))))))) (bJ dR (bJ dR (bJ dR (bJ dR (bJ dR (bJ dR (iD dR))))))) (dA O jR (dA O jR (dA O jR (dA O jR (dA O jR (dA O jR (mG jR))))))))) O (go3 ?_);refine rt1 ?_;exact (by rfl)
theorem DP (p_c:Option Addr) (c_c:Nat) (c:(List (A3 W))) (w:World) (hc:Slr w elV (.slice p_c c.length c_c) c) :
    Calls prog 28 [AV [csl p_c c.length c_c]].toArray w (fun e w'=>e = .returned (.int .i64 ((eL c).1))∧Ext w w'):=by
 refine dL (N:=50) func28 O O zz_ ?_;obtain ⟨w0,rfl⟩:=nm w;have Hc:=hc.old;have hm_c:=hc.max;refine giI ?_;refine go2 ?_;intro b1 hb1;refine go9 ?_;refine sQ (dV iV O (SLe.sub Hc sn)) O (go2 ?_);refine gJ3 (rg [3,5] 11 24) (fun g M=>∃ (k:W),(iM c c (wl 0))=k∧(g 3 = .int .i64 k.1)∧M=[⟨b1,52,bB [csl p_c c.length c_c]⟩]) (fun K_u2 hK_u2=>?_) ?_
 ·refine go_ ?_;have hmx0:(c).length≤9223372036854775807:=hm_c;refine cE (rg [3,5] 11 24) (fun g nn M=>∃ (i0:Nat) (l0:List (A3 W)) (k:W),(iM c l0 k)=(iM c c (wl 0))∧(c).drop i0=l0∧l0.length=nn∧g 11 = .int .i64 (i0:Int)∧(g 3 = .int .i64 k.1)∧M=[⟨b1,52,bB [csl p_c c.length c_c]⟩]) c.length ?start ?round
  case start=>exact ⟨_,s0,0,c,(wl 0),rfl,rfl,rfl,rfl,rfl,rfl⟩
  case round =>
   rintro nn g M ⟨i0,l0,k,hT0,hr0,rfl,hgi,hg3,rfl⟩;refine gS2 hgi hg3 ?_;clear hgi hg3;refine go4 ?_;rcases l0 with _|⟨x0,l0⟩
   ·have h7:=FM hr0;refine W_f h7 O (go_ ?_);refine hK_u2 _ _ pp_ ⟨_,s0,k,(by exact hT0.symm.trans (Eq.symm rfl)),rfl,rfl⟩
   have h8:=DB hr0;have g9:=yX hr0;refine W_t h8 O (go4 ?_);refine sQ (aM (v':=.pointer (some (slb (.slice p_c c.length c_c) (i0*3+0)))) (eD (e:=elV) (l:=c) (k:=i0) iV O O (SLe.sub Hc sn) g9.2.1) O) O (sQ (gE (e:=elV) (l:=c) (k:=i0) (o:=0) tyT O (SLe.sub Hc sn) g9.1 O) O (go_ ?_));intro b10 hb10;refine go8 ?_;refine sV (.int .i64 ((W.mul x0.x x0.x).1)) O O (go4 ?_);refine sV (.int .i64 ((W.mul x0.y x0.y).1)) O O (sV (.int .i64 ((W.add (W.mul x0.x x0.x) (W.mul x0.y x0.y)).1)) O O (go4 ?_));refine sV (.int .i64 ((W.mul x0.z x0.z).1)) O O (sV (.int .i64 ((W.add (W.add (W.mul x0.x x0.x) (W.mul x0.y x0.y)) (W.mul x0.z x0.z)).1)) O O (sQ (aM (v':=.int .i64 ((W.max k (W.add (W.add (W.mul x0.x x0.x) (W.mul x0.y x0.y)) (W.mul x0.z x0.z))).1)) (mW O O) (congrArg (Value.int .i64) (W.max_1 k (W.add (W.add (W.mul x0.x x0.x) (W.mul x0.y x0.y)) (W.mul x0.z x0.z))))) O (go3 ?_)));refine sV (.int .i64 ((i0+1:Nat):Int)) O (congrArg (Value.int .i64) (nxt g9.2.1 hmx0)) (go2 ?_);refine ⟨pp_,_,_,(sd s0),(Nat.lt_succ_self _),i0+1,l0,(W.max k (W.add (W.add (W.mul x0.x x0.x) (W.mul x0.y x0.y)) (W.mul x0.z x0.z))),(by exact (hT0.symm.trans (Eq.symm rfl)).symm),g9.2.2,rfl,rfl,rfl,rfl⟩
 rintro g M ⟨k,hCu2,hg3,rfl⟩;refine gS1 hg3 ?_;clear hg3;refine go2 ?_;refine sC (AV [pI (E (Z.of k.1))]) aE (fB k.1 k.2) O O O (sQ (aX aE (LC (E (Z.of k.1))) O) O (sC (.tuple #[.int .i64 ((Z.smallW (jI (E (Z.of k.1))).dec).1),.bool ((jI (E (Z.of k.1))).dec.small.2)]) aE (mT (jI (E (Z.of k.1))).1 (jI (E (Z.of k.1))).2) O O O (jE ?_)));refine sV (.int .i64 ((W.mul (Z.smallW (jI (E (Z.of k.1))).dec) (Z.smallW (jI (E (Z.of k.1))).dec)).1)) O O (go3 ?_);refine aL _ O (fun h11=>?_) (fun h11=>?_)
 ·have ph11:=of_decide_eq_true h11;refine go2 ?_;refine sV (.int .i64 ((W.add (Z.smallW (jI (E (Z.of k.1))).dec) (wl 1)).1)) O O ?_;refine go7 ?_;refine rt1 ?_;exact congrArg vS7 (show _=(eL c) from (by unfold eL;exact trs (Eq.symm (apS hCu2)) (aQ h11 O)))
 have ph11:=of_decide_eq_false h11;refine go6 ?_;refine rt1 ?_;exact congrArg vS7 (show _=(eL c) from (by unfold eL;exact trs (Eq.symm (apS hCu2)) (aN h11 O)))
theorem FY (h:Path) (p_c:Option Addr) (c_c:Nat) (c:(List (A3 W))) (w:World) (hc:Slr w elV (.slice p_c c.length c_c) c) :
   Calls prog 34 [AV [cw h.from_.x.x.1,cw h.from_.x.y.1,cw h.from_.x.z.1,cw h.from_.q.x.1,cw h.from_.q.y.1,cw h.from_.q.z.1,cw h.from_.q.t.1,cw h.to_.x.x.1,cw h.to_.x.y.1,cw h.to_.x.z.1,cw h.to_.q.x.1,cw h.to_.q.y.1,cw h.to_.q.z.1,cw h.to_.q.t.1],AV [csl p_c c.length c_c]].toArray w (fun e w'=>e = .returned (.tuple #[AV [cw ((((dC h c).1).x).1),cw ((((dC h c).1).y).1),cw ((((dC h c).1).z).1)],AV [cw ((((dC h c).2).x).1),cw ((((dC h c).2).y).1),cw ((((dC h c).2).z).1)]])∧Ext w w'):=by
 refine dL (N:=43) func34 O O zz_ ?_;obtain ⟨w0,rfl⟩:=nm w;have Hc:=hc.old;have hm_c:=hc.max;refine giI ?_;refine go2 ?_;intro b1 hb1;refine go_ ?_;intro b2 hb2;refine go_ ?_;intro b3 hb3;refine go_ ?_;intro b4 hb4;refine go3 ?_;refine sFc (.int .i64 ((eL c).1)) O (c1_ (DP _ _ c) Hc sn) O O (jE ?_);refine qS 5 (go2 ?_);refine sV (.bool true) O O (uP ?_);refine gdr (sd (sd s0)) [0,8,12,16,20,24,28,32,36,40,80,6,46,50,54,58,62,66,70,74,78,85,88,93] [21,23] mix (by kernel_rfl) (go7 ?_);refine pQ O (aM (v':=.int .i64 ((W.min h.from_.x.x h.to_.x.x).1)) (zG O O) (congrArg (Value.int .i64) (W.min_1 h.from_.x.x h.to_.x.x))) (go_ ?_);refine pV (.int .i64 ((W.sub (W.min h.from_.x.x h.to_.x.x) (eL c)).1)) O O (go4 ?_);refine vZ O O (tP (off':=7) (cH fdT dd_ O) O) (vZ O O (tP (off':=7) (cH fdT dd_ O) O) (vZ O O (tP (off':=7) (eZ arT O O dd_ dd_) O) (vZ O O (yO (v:=.int .i64 h.to_.x.x.1) tyT O m1 O) (vZ O O (aM (v':=.int .i64 ((W.max h.from_.x.x h.to_.x.x).1)) (mW O O) (congrArg (Value.int .i64) (W.max_1 h.from_.x.x h.to_.x.x))) (go_ ?_)))));refine tV (.int .i64 ((W.add (W.max h.from_.x.x h.to_.x.x) (eL c)).1)) O O (go5 ?_);refine sV (.int .i64 1) O O (go4 ?_);refine sV (.bool true) O O (uP ?_);refine gdr (sd (sd s0)) [0,8,12,16,20,24,28,32,36,40,80,6,46,50,54,58,62,66,70,74,78,85,88,93] [21,23] mix (by kernel_rfl) (go7 ?_);refine pQ O (aM (v':=.int .i64 ((W.min h.from_.x.y h.to_.x.y).1)) (zG O O) (congrArg (Value.int .i64) (W.min_1 h.from_.x.y h.to_.x.y))) (go_ ?_);refine pV (.int .i64 ((W.sub (W.min h.from_.x.y h.to_.x.y) (eL c)).1)) O O (go4 ?_);refine vZ O O (tP (off':=7) (cH fdT dd_ O) O) (vZ O O (tP (off':=7) (cH fdT dd_ O) O) (vZ O O (tP (off':=8) (eZ arT O O dd_ dd_) O) (vZ O O (yO (v:=.int .i64 h.to_.x.y.1) tyT O m1 O) (vZ O O (aM (v':=.int .i64 ((W.max h.from_.x.y h.to_.x.y).1)) (mW O O) (congrArg (Value.int .i64) (W.max_1 h.from_.x.y h.to_.x.y))) (go_ ?_)))));refine tV (.int .i64 ((W.add (W.max h.from_.x.y h.to_.x.y) (eL c)).1)) O O (go5 ?_);refine sV (.int .i64 2) O O (go4 ?_);refine sV (.bool true) O O (uP ?_);refine gdr (sd (sd s0)) [0,8,12,16,20,24,28,32,36,40,80,6,46,50,54,58,62,66,70,74,78,85,88,93] [21,23] mix (by kernel_rfl) (go7 ?_);refine pQ O (aM (v':=.int .i64 ((W.min h.from_.x.z h.to_.x.z).1)) (zG O O) (congrArg (Value.int .i64) (W.min_1 h.from_.x.z h.to_.x.z))) (go_ ?_);refine pV (.int .i64 ((W.sub (W.min h.from_.x.z h.to_.x.z) (eL c)).1)) O O (go4 ?_);refine vZ O O (tP (off':=7) (cH fdT dd_ O) O) (vZ O O (tP (off':=7) (cH fdT dd_ O) O) (vZ O O (tP (off':=9) (eZ arT O O dd_ dd_) O) (vZ O O (yO (v:=.int .i64 h.to_.x.z.1) tyT O m1 O) (vZ O O (aM (v':=.int .i64 ((W.max h.from_.x.z h.to_.x.z).1)) (mW O O) (congrArg (Value.int .i64) (W.max_1 h.from_.x.z h.to_.x.z))) (go_ ?_)))));refine tV (.int .i64 ((W.add (W.max h.from_.x.z h.to_.x.z) (eL c)).1)) O O (go5 ?_);refine sV (.int .i64 3) O O (go4 ?_);refine sV (.bool false) O O (go4 ?_);refine j6 (sk (sk (sd (sd s0)))) ?_;refine gDs sn (.quiet 0 [2,3] (.both 1 (.only 2 (.only 3 (.fin))) 2 (.quiet 1 [3] (.only 3 (.fin))))) [0,1] mix (by kernel_rfl) (by kernel_rfl) (go_ ?_);refine z9 ?_ ?_
 ·refine cJ O O (y6 (OS tyT O m0 O) ⟨fun _=>s0,sn,go4 ?_⟩);refine wX O (.inr O) (eR O m1 tyT O) (eR O m0 tyT O) ?_;exact (by rfl)
 refine go5 ?_;refine wX O (.inr O) (eR O m1 tyT O) (eR O m0 tyT O) ?_;exact (by rfl)
theorem BC (b:(A3 W)) :
    Ret prog 8 [AV [cw b.x.1,cw b.y.1,cw b.z.1]] (.bool (gT b)):=by
 refine bA (N:=18) func8 O O zz_ (fun w0=>?_);refine giI ?_;refine go2 ?_;intro b1 hb1;refine go7 ?_;refine qS 5 (go4 ?_);refine sV (.bool true) O O (go5 ?_);refine gJv (rg [] 8 10) [(17,.bool (decide (262144<b.x.1)||decide (b.x.1<(-262144))))] (fun K5 J5=>?_) ?_
 ·refine go5 ?_;refine sBB O (fun h3=>?_) (fun h3=>?_)
  ·have ph3:=of_decide_eq_true h3;refine go6 ?_;refine J5 _ _ pp_ s0 (bQ (o9 h3))
  have ph3:=of_decide_eq_false h3;refine go6 ?_;refine J5 _ _ pp_ s0 (bQ (nA h3 O))
 intro g4;refine aL _ O (fun h5=>?_) (fun h5=>?_)
 ·refine go4 ?_;refine rt1 ?_;exact congrArg vS2 (show _=(gT b) from aQ h5 O)
 refine go3 ?_;refine sV (.int .i64 1) O O (go6 ?_);refine sV (.bool true) O O (go5 ?_);refine gJv (rg [] 8 10) [(17,.bool (decide (262144<b.y.1)||decide (b.y.1<(-262144))))] (fun K9 J9=>?_) ?_
 ·refine go5 ?_;refine sBB O (fun h7=>?_) (fun h7=>?_)
  ·have ph7:=of_decide_eq_true h7;refine go6 ?_;refine J9 _ _ pp_ s0 (bQ (o9 h7))
  have ph7:=of_decide_eq_false h7;refine go6 ?_;refine J9 _ _ pp_ s0 (bQ (nA h7 O))
 intro g8;refine aL _ O (fun h9=>?_) (fun h9=>?_)
 ·refine go4 ?_;refine rt1 ?_;exact congrArg vS2 (show _=(gT b) from aN h5 (aQ h9 O))
 refine go3 ?_;refine sV (.int .i64 2) O O (go6 ?_);refine sV (.bool true) O O (go5 ?_);refine gJv (rg [] 8 10) [(17,.bool (decide (262144<b.z.1)||decide (b.z.1<(-262144))))] (fun K13 J13=>?_) ?_
 ·refine go5 ?_;refine sBB O (fun h11=>?_) (fun h11=>?_)
  ·have ph11:=of_decide_eq_true h11;refine go6 ?_;refine J13 _ _ pp_ s0 (bQ (o9 h11))
  have ph11:=of_decide_eq_false h11;refine go6 ?_;refine J13 _ _ pp_ s0 (bQ (nA h11 O))
 intro g12;refine aL _ O (fun h13=>?_) (fun h13=>?_)
 ·refine go4 ?_;refine rt1 ?_;exact congrArg vS2 (show _=(gT b) from aN h5 (aN h9 (aQ h13 O)))
 refine go3 ?_;refine sV (.int .i64 3) O O (go6 ?_);refine sV (.bool false) O O (go7 ?_);refine rt1 ?_;exact congrArg vS2 (show _=(gT b) from aN h5 (aN h9 (aN h13 O)))
theorem AL (x:Rt) :
    Ret prog 9 [AV [pI x.n,pI x.d]] (.bool (pD x)):=by
 refine bA (N:=24) func9 O O zz_ (fun w0=>?_);refine giI ?_;refine go2 ?_;intro b1 hb1;refine go4 ?_;refine sQ (aX aE (fD x) O) O (go2 ?_);refine gJv (rg [2] 6 18) [(2,.bool ((aT x)&&(decide (0≤(oK x).1)&&(decide ((kA x (cM (wl 1))).1≤0)&&decide ((Z.bitsW x.d.dec).1≤12)))))] (fun K1 J1=>?_) ?_
 ·refine gdr s0 [0,4,8,12,16,20,24,28,32,36,40,44,48,52,56,60,64,68,72] [] mix (by kernel_rfl) (go_ ?_);refine pBB O (fun h5=>?_) (fun h5=>?_)
  ·refine go_ ?_;refine pQ O (aX aE (B6 x) O) (go2 ?_);refine pBB O (fun h6=>?_) (fun h6=>?_)
   ·have ph6:=of_decide_eq_true h6;refine go_ ?_;refine pQ O (aX aE (rG (wl 1)) O) ?_;refine pQ O (aX aE (w4 x (cM (wl 1))) O) ?_;refine go2 ?_;refine pBB O (fun h7=>?_) (fun h7=>?_)
    ·have ph7:=of_decide_eq_true h7;refine go2 ?_;refine pC (.int .i64 ((Z.bitsW x.d.dec).1)) aE (B3 x.d.1 x.d.2) O O O (go4 ?_);refine J1 _ _ pp_ s0 (bQ (lS h5 (lS h6 (lS h7 O))))
    have ph7:=of_decide_eq_false h7;refine go7 ?_;refine J1 _ _ pp_ s0 (bQ (lS h5 (lS h6 (oY h7))))
   have ph6:=of_decide_eq_false h6;refine SM ?_;refine J1 _ _ pp_ s0 (bQ (lS h5 (oY h6)))
  refine dp_ ?_;refine J1 _ _ pp_ s0 (bQ (oY h5))
 intro g8;refine go_ ?_;refine rt1 ?_;exact (by rfl)
end Go.Proofs.YtbjlhfochebmiaaGreatDoor
