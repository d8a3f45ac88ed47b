/- Lemmas: what they ask stands in their statements. -/
import Derived.Test.YtkjjponijamaoaaGreatDoorTFOf
import Derived.Test.YtkjjponijamaoaaGreatDoorTWh
set_option linter.unusedSimpArgs false
set_option linter.unusedVariables false
set_option maxHeartbeats 8000000
set_option maxRecDepth 20000
namespace Go.Num
open Go Go.Kn
theorem fS_ (a:I):oG [a]=a.1.good:=by
  unfold oG nI nI R.good
  cases a.1.bad <;> cases a.1.valid <;> rfl
def GK (a m:I):Prop:=∃ v r:Nat,a.dec=Z.of (v:Int)∧0<v∧v<4294967296 ^ 16∧m=E (Z.of (r:Int))∧CB v≤r∧0<r∧r≤2 ^ 256
theorem dA_ {m k:Nat} (hm:4294967296 ^ 16=2 ^ m) (hk:m=k+k):(4294967296:Nat) ^ 16=2 ^ k * 2 ^ k:=by rw [hm,hk,Nat.pow_add]
theorem hS_:(4294967296:Nat) ^ 16=2 ^ 256 * 2 ^ 256:=dA_ FZ rfl
theorem T3 {v:Nat} (h:0<v) (hv:v<4294967296 ^ 16):0<CB v:=by
  have:=(zW hv).2;rcases Nat.eq_zero_or_pos (CB v) with h0 | h0
  · rw [h0] at this;omega
  exact h0
theorem ch_ {v:Nat} (hv:v<4294967296 ^ 16):CB v<2 ^ 256:=by
  have:=(zW hv).1;rw [hS_] at hv;generalize 2 ^ 256=q at *;rcases Nat.lt_or_ge (CB v) q with h | h
  · exact h
  have:=Nat.mul_le_mul h h;omega
theorem f7_ {v r s:Nat} (h1:s * s≤v) (h2:v<(s+1) * (s+1)) (hs:0<s) (hr:s≤r):s≤(r+v / r) / 2∧v / r≤s+2∧(r≤(r+v / r) / 2→r=s):=by
  have r0:0<r:=by omega
  have q1:r * (v / r)≤v:=Nat.mul_div_le v r
  have q2:v<r * (v / r+1):=by rw [Nat.mul_add,Nat.mul_one];exact Nat.lt_mul_div_succ v r0
  generalize v / r=q at *
  have e1:(s+1) * (s+1)=s * s+2 * s+1:=by rw [Nat.add_mul,Nat.mul_add];omega
  refine ⟨?_,?_,?_⟩
  · rw [Nat.le_div_iff_mul_le dd_]
    rcases Nat.lt_or_ge (r+q) (s * 2) with h | h
    · exfalso
      obtain ⟨d,rfl⟩:∃ d,r=s+d:=⟨r - s,by omega⟩
      have hq:q+1≤s - d:=by omega
      have hd:d≤s:=by omega
      have h3:=Nat.mul_le_mul_left (s+d) hq
      have h4:(s+d) * (s - d)≤s * s:=by
        obtain ⟨t,rfl⟩:∃ t,s=d+t:=⟨s - d,by omega⟩;rw [Nat.add_sub_cancel_left]
        have:(d+t) * (d+t)=(d+t+d) * t+d * d:=by grind
        omega
      omega
    omega
  · rcases Nat.lt_or_ge (s+2) q with h | h
    · exfalso
      have h3:=Nat.mul_le_mul hr (show s+3≤q by omega)
      have:s * (s+3)=s * s+3 * s:=by grind
      omega
    exact h
  intro h
  have h3:r≤q:=by rw [Nat.le_div_iff_mul_le dd_] at h;omega
  have h4:=Nat.mul_le_mul_left r h3;rcases Nat.lt_or_ge s r with h5 | h5
  · have:=ed_ h5;omega
  omega
theorem nB {n:Nat} (h:n<4294967296 ^ 16):(n:Int).natAbs<4294967296 ^ 16:=by rwa [Int.natAbs_natCast]
theorem UB:(2:Nat) ^ 256+2 ^ 256+2<4294967296 ^ 16:=by decide +kernel
theorem RG {a m:I} (h:GK a m):∃ v r:Nat,a.dec=Z.of (v:Int)∧0<v∧v<4294967296 ^ 16∧m.dec=Z.of (r:Int)∧CB v≤r∧0<r∧r≤2 ^ 256∧r<4294967296 ^ 16∧m=E (Z.of (r:Int)) ∧
    Z.add m.dec (Z.quo a.dec m.dec)=Z.of ((r+v / r:Nat):Int)∧r+v / r<4294967296 ^ 16∧Z.half (Z.add m.dec (Z.quo a.dec m.dec))=Z.of (((r+v / r) / 2:Nat):Int)∧CB v≤(r+v / r) / 2∧(r+v / r) / 2≤2 ^ 256∧(r≤(r+v / r) / 2→r=CB v):=by
  obtain ⟨v,r,ha,hv,hv2,rfl,h1,h2,h3⟩:=h;have s0:=T3 hv hv2;have s1:=ch_ hv2;obtain ⟨n1,n2,n3⟩:=f7_ (zW hv2).1 (zW hv2).2 s0 h1;have hb:=UB
  have r1:r<4294967296 ^ 16:=by omega
  have q1:v / r<4294967296 ^ 16:=by omega
  have t1:r+v / r<4294967296 ^ 16:=by omega
  have e1:Z.quo (Z.of (v:Int)) (Z.of (r:Int))=Z.of ((v / r:Nat):Int):=by
    unfold Z.quo;rw [eB (Z.of_some (nB hv2)) (Z.of_some (nB r1)),if_neg oo_]
    congr 1
    rw [Int.fdiv_eq_ediv_of_nonneg _ oo_];rfl
  have e2:Z.add (Z.of (r:Int)) (Z.of ((v / r:Nat):Int))=Z.of ((r+v / r:Nat):Int):=by
    unfold Z.add;rw [eB (Z.of_some (nB r1)) (Z.of_some (nB q1))]
    congr 1
  have e3:Z.half (Z.of ((r+v / r:Nat):Int))=Z.of (((r+v / r) / 2:Nat):Int):=by
    unfold Z.half;rw [oL (Z.of_some (nB t1))]
    congr 1
  refine ⟨v,r,ha,hv,hv2,by rw [dB],h1,h2,h3,r1,rfl,?_,t1,?_,n1,?_,n3⟩
  · rw [ha,dB,e1,e2]
  · rw [ha,dB,e1,e2,e3]
  generalize 2 ^ 256=q at *;omega
theorem VP {n:Nat} (h:n<4294967296 ^ 16):(E (Z.of (n:Int))).1.neg=false:=by
  show (Z.of (n:Int)).enc.neg=false
  unfold Z.enc;rw [Z.of_some (nB h)];exact decide_eq_false (show ¬ ((n:Int)<0) by omega)
theorem d2_ {a m:I} (h:GK a m):(E (Z.add m.dec (Z.quo a.dec m.dec))).1.neg=false:=by
  obtain ⟨v,r,_,_,_,_,_,_,_,_,_,e,t,_⟩:=RG h;rw [e];exact VP t
theorem ZZ {a m:I} (h:GK a m):GK a (E (Z.half (Z.add m.dec (Z.quo a.dec m.dec)))):=by
  obtain ⟨v,r,ha,hv,hv2,_,_,_,_,_,_,_,_,e,n1,n2,_⟩:=RG h;have:=T3 hv hv2;exact ⟨v,(r+v / r) / 2,ha,hv,hv2,by rw [e],n1,by omega,n2⟩
theorem bM_ {n:Nat} (h:n<4294967296 ^ 16):Z.nat (Z.of (n:Int))=n:=by
  unfold Z.nat;rw [Z.of_some (nB h)];exact Int.natAbs_natCast n
theorem aU_ {m n:Nat} (hm:m<4294967296 ^ 16) (hn:n<4294967296 ^ 16):decide (0≤(Z.cmpW (Z.of (m:Int)) (Z.of (n:Int))).1)=decide (n≤m):=by
  congr 1
  show (0≤Z.cmp (Z.of (m:Int)) (Z.of (n:Int)))=_
  unfold Z.cmp;rw [Z.of_some (nB hm),Z.of_some (nB hn)];simp only;unfold zC
  apply propext
  constructor
  · intro h
    split at h
    · omega
    split at h <;> omega
  intro h
  split
  · omega
  split <;> omega
theorem ci_ {a m:I} (h:GK a m) (hc:decide (0≤(Z.cmpW (Z.half (Z.add m.dec (Z.quo a.dec m.dec))) m.dec).1)=false):Z.nat (E (Z.half (Z.add m.dec (Z.quo a.dec m.dec)))).dec<Z.nat m.dec:=by
  obtain ⟨v,r,ha,hv,hv2,hm,_,_,_,r1,_,_,t,e,n1,n2,_⟩:=RG h;have hb:=UB
  have t1:(r+v / r) / 2<4294967296 ^ 16:=by omega
  rw [e,hm,aU_ t1 r1] at hc;have:=of_decide_eq_false hc;rw [e,hm,dB,bM_ t1,bM_ r1];omega
theorem cj_ (a:I):(W.quo (W.add (Z.bitsW a.dec) (wl 1)) (wl 2)).1=(((a.dec.bits+1) / 2:Nat):Int):=by
  have h:=Z.bits_le a.dec
  have e1:(W.add (Z.bitsW a.dec) (wl 1)).1=((a.dec.bits+1:Nat):Int):=by
    show IntKind.i64.wrap (((Z.bits a.dec:Nat):Int)+1)=_
    rw [wi oo_];rfl
  show IntKind.i64.wrap ((W.add (Z.bitsW a.dec) (wl 1)).1.tdiv 2)=_
  rw [e1,Int.tdiv_eq_ediv_of_nonneg oo_];rw [wi oo_];rfl
theorem d3_ (a:I):0≤(W.quo (W.add (Z.bitsW a.dec) (wl 1)) (wl 2)).1:=by rw [cj_];omega
theorem V6 {a:I} (h1:(!(oG [a])||a.1.neg)=false) (h2:((Z.signW a.dec).1==0)=false):GK a (E (Z.shl (Z.of 1) (W.quo (W.add (Z.bitsW a.dec) (wl 1)) (wl 2)).1)):=by
  rw [fS_,Bool.or_eq_false_iff,Bool.not_eq_false'] at h1;obtain ⟨ga,hn⟩:=h1;have hv:=e2_ a.2
  have ea:a.dec=Z.of ((val a.1.w:Nat):Int):=by
    show a.1.dec=_
    unfold R.dec;rw [if_pos ga,hn];rfl
  have v0:0<val a.1.w:=by
    rcases Nat.eq_zero_or_pos (val a.1.w) with h | h
    · exfalso
      rw [ea,h] at h2
      revert h2;decide +kernel
    exact h
  have eb:a.dec.bits=bl (val a.1.w):=BY a.2 ga;have hbl:=Z.bits_le a.dec
  have hk:(a.dec.bits+1) / 2≤256:=by omega
  have hlt:val a.1.w<2 ^ ((a.dec.bits+1) / 2) * 2 ^ ((a.dec.bits+1) / 2):=by
    rw [← Nat.pow_add];refine Nat.lt_of_lt_of_le (I3 _) (Nat.pow_le_pow_right dd_ ?_);rw [← eb];omega
  have hle:2 ^ ((a.dec.bits+1) / 2)≤2 ^ 256:=Nat.pow_le_pow_right dd_ hk;have hp:0<2 ^ ((a.dec.bits+1) / 2):=Nat.pow_pos dd_;refine ⟨val a.1.w,2 ^ ((a.dec.bits+1) / 2),ea,v0,hv,?_,?_,hp,hle⟩
  · rw [cj_]
    congr 1
    unfold Z.shl;rw [oL (Z.of_some dd_),Int.toNat_natCast,Int.one_mul]
    congr 1
  have:=(zW hv).1;generalize 2 ^ ((a.dec.bits+1) / 2)=q at *;rcases Nat.lt_or_ge q (CB (val a.1.w)) with h | h
  · have:=Nat.mul_le_mul (Nat.le_of_lt h) (Nat.le_of_lt h);omega
  exact h
end Go.Num
namespace Go.Proofs.YtkjjponijamaoaaGreatDoor
open Go.Kn Go.Num Tryz
attribute [local irreducible] Go.Kn.W WL PL OpQ OpR OpS
theorem JZ (a:R) (ha:a.Ok) (m:Nat) (hm:(m:Int)≤9223372036854775807) :
    Ret prog 154 [RV a,.int .i64 (m:Int)] (RV (Z.shl a.dec (m:Int)).enc):=by
 refine bL (N:=75) func154 rfl rfl (by simp) (fun w0=>?_);simp only [bO,Nat.reduceAdd];refine go_ ?_;refine bD rfl (mB rfl rfl (fun b2 hb2=>bD rfl (fP kN (fun b4 hb4=>go4 ?_))));refine sQ (cP tyT rfl mm_ (cT ha)) rfl ?_;refine bD rfl (lF kL kN lG rfl dd_ rfl (zV ha) (fun b9 hb9=>sQ (bT aB rfl (fun w hw=>kB [a] (ok1 ha) b9 31 w (hw.mem _ m0) (by simp))) rfl ?_));refine go3 ?_;refine aH _ rfl (fun hg=>?_) (fun hg=>?_)
 ·replace hg:=cB_ hg
  refine go_ ?_;refine sQ (bI aB gX rfl) rfl (bD rfl (cC tyT rfl rfl uu_ (aF _) rfl (bV _) (.inl (by assumption)) ?_));refine go2 ?_;refine bA rfl (.inr rfl) ⟨_,_,_,_,_,_,rfl,mm_,tyT,_,(eC (aF _)),(aF _),rfl⟩ ?_
  (rw [Z.shl,CC (by unfold R.dec;rw [if_neg (by simpa using hg)];rfl)];rfl)
 replace hg:=cB_ hg
 refine go_ ?_;refine sQ (cP tyT rfl mm_ (cT ha)) rfl ?_;refine sQ (bI aB (iY a ha) rfl) rfl (go3 ?_);refine aH _ rfl (fun hs=>?_) (fun hs=>?_)
 ·replace hs:=cB_ hs
  refine go_ ?_;refine sQ (cP tyT rfl mm_ (cT ha)) rfl ?_;refine bD rfl (cC tyT rfl rfl uu_ (cT ha) rfl (bV _) (.inl (by assumption)) ?_);refine go2 ?_;refine bA rfl (.inr rfl) ⟨_,_,_,_,_,_,rfl,mm_,tyT,_,(eC (cT ha)),(cT ha),rfl⟩ ?_;exact congrArg RV (d5_ ha (by simpa using hg) hs m)
 replace hs:=cB_ hs
 refine go4 ?_
 cases h5:decide ((m:Int) ≥ 512)
 ·refine go3 ?_
  cases h6:decide ((m:Int) > 0)
  ·refine wP ?_;refine aH _ rfl (fun h33=>?_) (fun h33=>?_)
   ·replace h33:=cB_ h33
    exact absurd h33 oo_ --done
   replace h33:=cB_ h33
   refine go2 ?_
   have hm5:m<512:=by have:=of_decide_eq_false h5;omega
   have hfar:m / 32≤15:=by omega
   refine bD rfl (fP tK (fun b5 hb5=>go3 ?_));refine sQ (aL (mG rfl rfl dd_) (congrArg (Value.int .i64) (shq 32 dd_ hm))) rfl (go7 ?_);refine aH _ rfl (fun h42=>?_) (fun h42=>?_)
   ·replace h42:=cB_ h42
    refine go_ ?_;refine jQ (sd (sk (sk (sk (s0))))) 5 [4] [4] (go_ ?_);refine pQ rfl (yJ arT rfl rfl rfl oo_ oo_ oo_ oo_) (pQ rfl (cU fdT dd_ rfl) (pQ rfl (yJ arT rfl rfl rfl dd_ dd_ dd_ dd_) ?_));refine cF rfl rfl (Q3 RE rfl rfl mm_ uu_ (fun v hv=>bV a v (List.mem_of_mem_drop (List.mem_of_mem_take hv))) (by rw [cT ha];omega) (by simp [uw];omega) (SE ha hfar) (.inl (by assumption)) ⟨nf,ss_,?_⟩);refine go2 ?_;refine sQ (cP tyT rfl mm_ (by simp [uw,FX ha.len (show m / 32≤16 by omega)])) rfl ?_;refine go_ ?_;refine sQ (aL (rR rfl rfl dd_) (congrArg (Value.int .i64) (shr 32 m))) rfl (sQ (bI aB (zL (shw a.w (m / 32)) (FX ha.len oo_) (X8 ha.lim) (m % 32) (Nat.mod_lt _ dd_)) rfl) rfl (go3 ?_));refine bD rfl (cC tyT rfl rfl uu_ (by simp [uw,dI]) (by simp [uw,FX ha.len (show m / 32≤16 by omega)]) (kH _) (.inl (by assumption)) ?_);refine go2 ?_;refine sQ (cU fdT dd_ rfl) rfl (sQ (eM (v:=.bool a.neg) tyT rfl mm_ rfl) rfl ?_);refine sQ (cP tyT rfl mm_ (by simp [uw,dI])) rfl ?_;refine sQ (bI aB (gL a.neg (toL 16 (val (shw a.w (m / 32)) * 2 ^ (m % 32))) (by simp [dI]) (oQ _ _)) rfl) rfl ?_;refine bD rfl (cC tyT rfl rfl uu_ (kV (by simp [dI])) rfl (bV _) (.inl (by assumption)) ?_);refine go2 ?_;refine bA rfl (.inr rfl) ⟨_,_,_,_,_,_,rfl,mm_,tyT,_,(eC (kV (by simp [dI]))),(kV (by simp [dI])),rfl⟩ ?_;exact congrArg RV (cp_ ha (by simpa using hg) (by have:=Z.bits_le a.dec;have:=of_decide_eq_false h6;omega) hm5)
   replace h42:=cB_ h42
   exact absurd h42 oo_ --done
  refine sQ (cP tyT rfl mm_ (cT ha)) rfl ?_;refine sQ (bI aB (AE a ha) rfl) rfl (go_ ?_);refine sQ (aL (lE rfl rfl) (congrArg (Value.int .i64) (show _=((a.dec.bits+m:Nat):Int) from (wi (by have:=Z.bits_le a.dec;have:=of_decide_eq_false h5;omega)).trans (Int.natCast_add _ _).symm))) rfl (go5 ?_);refine aH _ rfl (fun h18=>?_) (fun h18=>?_)
  ·replace h18:=cB_ h18
   refine go_ ?_;refine sQ (bI aB gX rfl) rfl (bD rfl (cC tyT rfl rfl uu_ (aF _) rfl (bV _) (.inl (by assumption)) ?_));refine go2 ?_;refine bA rfl (.inr rfl) ⟨_,_,_,_,_,_,rfl,mm_,tyT,_,(eC (aF _)),(aF _),rfl⟩ ?_;exact congrArg RV (co_ ha (by simpa using hg) hs (.inl oo_))
  replace h18:=cB_ h18
  refine go5 ?_;refine aH _ rfl (fun h33=>?_) (fun h33=>?_)
  ·replace h33:=cB_ h33
   exact absurd h33 oo_ --done
  replace h33:=cB_ h33
  refine go2 ?_
  have hm5:m<512:=by have:=of_decide_eq_false h5;omega
  have hfar:m / 32≤15:=by omega
  refine bD rfl (fP tK (fun b5 hb5=>go3 ?_));refine sQ (aL (mG rfl rfl dd_) (congrArg (Value.int .i64) (shq 32 dd_ hm))) rfl (go7 ?_);refine aH _ rfl (fun h42=>?_) (fun h42=>?_)
  ·replace h42:=cB_ h42
   refine go_ ?_;refine jQ (sd (sk (sk (sk (s0))))) 5 [4] [4] (go_ ?_);refine pQ rfl (yJ arT rfl rfl rfl oo_ oo_ oo_ oo_) (pQ rfl (cU fdT dd_ rfl) (pQ rfl (yJ arT rfl rfl rfl dd_ dd_ dd_ dd_) ?_));refine cF rfl rfl (Q3 RE rfl rfl mm_ uu_ (fun v hv=>bV a v (List.mem_of_mem_drop (List.mem_of_mem_take hv))) (by rw [cT ha];omega) (by simp [uw];omega) (SE ha hfar) (.inl (by assumption)) ⟨nf,ss_,?_⟩);refine go2 ?_;refine sQ (cP tyT rfl mm_ (by simp [uw,FX ha.len (show m / 32≤16 by omega)])) rfl ?_;refine go_ ?_;refine sQ (aL (rR rfl rfl dd_) (congrArg (Value.int .i64) (shr 32 m))) rfl (sQ (bI aB (zL (shw a.w (m / 32)) (FX ha.len oo_) (X8 ha.lim) (m % 32) (Nat.mod_lt _ dd_)) rfl) rfl (go3 ?_));refine bD rfl (cC tyT rfl rfl uu_ (by simp [uw,dI]) (by simp [uw,FX ha.len (show m / 32≤16 by omega)]) (kH _) (.inl (by assumption)) ?_);refine go2 ?_;refine sQ (cU fdT dd_ rfl) rfl (sQ (eM (v:=.bool a.neg) tyT rfl mm_ rfl) rfl ?_);refine sQ (cP tyT rfl mm_ (by simp [uw,dI])) rfl ?_;refine sQ (bI aB (gL a.neg (toL 16 (val (shw a.w (m / 32)) * 2 ^ (m % 32))) (by simp [dI]) (oQ _ _)) rfl) rfl ?_;refine bD rfl (cC tyT rfl rfl uu_ (kV (by simp [dI])) rfl (bV _) (.inl (by assumption)) ?_);refine go2 ?_;refine bA rfl (.inr rfl) ⟨_,_,_,_,_,_,rfl,mm_,tyT,_,(eC (kV (by simp [dI]))),(kV (by simp [dI])),rfl⟩ ?_;exact congrArg RV (cp_ ha (by simpa using hg) oo_ hm5)
  replace h42:=cB_ h42
  exact absurd h42 oo_ --done
 refine AH ?_;refine sQ (bI aB gX rfl) rfl (bD rfl (cC tyT rfl rfl uu_ (aF _) rfl (bV _) (.inl (by assumption)) ?_));refine go2 ?_;refine bA rfl (.inr rfl) ⟨_,_,_,_,_,_,rfl,mm_,tyT,_,(eC (aF _)),(aF _),rfl⟩ ?_;exact congrArg RV (co_ ha (by simpa using hg) hs (.inr (by have:=of_decide_eq_true h5;omega)))
theorem J0 (a:R) (ha:a.Ok) (n:W) (h0:0≤n.1):Ret prog 154 [RV a,.int .i64 n.1] (RV (Z.shl a.dec n.1).enc):=by
  obtain ⟨n,hn⟩:=n;obtain ⟨m,rfl⟩:∃ m:Nat,n=(m:Int):=⟨n.toNat,by simp only at h0;omega⟩;exact JZ a ha m (by unfold I64 at hn;omega)
theorem NW (a:R) (ha:a.Ok) (hn:a.neg=false) (w:List Nat) (hw:w.length=16) (hlim:Lim w) (vs:Value) :
    Ret prog 229 [RV a,UV w,vs] (RV ⟨false,false,w⟩):=by
 refine bL (N:=32) func229 rfl rfl (by simp) (fun w0=>?_);simp only [bO,Nat.reduceAdd];obtain ⟨bd,ng,l⟩:=a;simp only at hn;subst hn;refine go_ ?_;refine bD rfl (mB rfl rfl (fun b3 hb3=>bD rfl (mB rfl rfl (fun b4 hb4=>bD rfl (fP kN (fun b6 hb6=>go2 ?_))))));refine sQ (cU fdT dd_ rfl) rfl (sQ (eM (v:=.bool false) tyT rfl mm_ rfl) rfl ?_);refine sQ (cP tyT rfl mm_ (by simp [uw,hw])) rfl ?_;refine sQ (bI aB (gL false w hw hlim) rfl) rfl (bD rfl (fP kN (fun b7 hb7=>bD rfl (cC tyT rfl rfl uu_ (kV hw) rfl (bV _) (.inl (by assumption)) ?_))));refine go3 ?_;refine jQ (sk (sk (sk (sk (s0))))) 16 [] [] (pQ rfl (cU fdT dd_ rfl) (pQ rfl (eM (v:=.bool false) tyT rfl mm_ rfl) ?_));refine ih_ ?_;refine sQ (cP tyT rfl mm_ (kV hw)) rfl ?_;refine bD rfl (cC tyT rfl rfl uu_ (kV hw) rfl (bV _) (.inl (by assumption)) ?_);refine go2 ?_;refine bA rfl (.inr rfl) ⟨_,_,_,_,_,_,rfl,mm_,tyT,_,(eC (kV hw)),(kV hw),rfl⟩ ?_;exact rfl
theorem NT (a:R) (ha:a.Ok) (hn:a.neg=false) :
    Ret prog 154 [RV a,.int .i64 (-1)] (RV (Z.half a.dec).enc):=by
 refine bL (N:=75) func154 rfl rfl (by simp) (fun w0=>?_);simp only [bO,Nat.reduceAdd];refine go_ ?_;refine bD rfl (mB rfl rfl (fun b2 hb2=>bD rfl (fP kN (fun b4 hb4=>go4 ?_))));refine sQ (cP tyT rfl mm_ (cT ha)) rfl ?_;refine bD rfl (lF kL kN lG rfl dd_ rfl (zV ha) (fun b9 hb9=>sQ (bT aB rfl (fun w hw=>kB [a] (ok1 ha) b9 31 w (hw.mem _ m0) (by simp))) rfl ?_));refine go3 ?_;refine aH _ rfl (fun hg=>?_) (fun hg=>?_)
 ·replace hg:=cB_ hg
  refine go_ ?_;refine sQ (bI aB gX rfl) rfl (bD rfl (cC tyT rfl rfl uu_ (aF _) rfl (bV _) (.inl (by assumption)) ?_));refine go2 ?_;refine bA rfl (.inr rfl) ⟨_,_,_,_,_,_,rfl,mm_,tyT,_,(eC (aF _)),(aF _),rfl⟩ ?_
  (rw [bo_ (by simpa using hg)];rfl)
 replace hg:=cB_ hg
 refine go_ ?_;refine sQ (cP tyT rfl mm_ (cT ha)) rfl ?_;refine sQ (bI aB (iY a ha) rfl) rfl (go3 ?_);refine aH _ rfl (fun hs=>?_) (fun hs=>?_)
 ·replace hs:=cB_ hs
  refine go_ ?_;refine sQ (cP tyT rfl mm_ (cT ha)) rfl ?_;refine bD rfl (cC tyT rfl rfl uu_ (cT ha) rfl (bV _) (.inl (by assumption)) ?_);refine go2 ?_;refine bA rfl (.inr rfl) ⟨_,_,_,_,_,_,rfl,mm_,tyT,_,(eC (cT ha)),(cT ha),rfl⟩ ?_;exact congrArg RV (Y9 ha (by simpa using hg) hn hs)
 replace hs:=cB_ hs
 refine ii_ ?_;refine bD rfl (fP tK (fun b5 hb5=>go3 ?_));refine sQ (mG rfl rfl dd_) rfl (jT ?_);refine jQ (sd (sk (sk (sk (s0))))) 6 [5] [5] (pQ rfl (yJ arT rfl rfl rfl dd_ dd_ dd_ dd_) (pQ rfl (cU fdT dd_ rfl) (go2 ?_)));refine pQ rfl (yJ arT rfl rfl rfl dd_ dd_ dd_ dd_) ?_;refine cF rfl rfl (Q3 RE rfl rfl mm_ uu_ (fun v hv=>bV a v (List.mem_of_mem_drop (List.mem_of_mem_take hv))) (by rw [cT ha];decide) (by simp [uw]) (Y7 ha) (.inl (by assumption)) ⟨nf,ss_,?_⟩);refine go2 ?_;refine jQ (sk (sk (sd (sk (s0))))) 11 [8,10] [10] (pQ rfl (cP tyT rfl mm_ (cT ha)) ?_);refine pQ rfl (cP tyT rfl mm_ (by simp [uw,ha.len])) ?_;refine go2 ?_;refine pQ rfl (rR rfl rfl dd_) (pQ rfl (bI aB (FG a.w ha.len ha.lim 1 dd_) rfl) (go2 ?_));refine cF rfl rfl (lF jH z_3 rP rfl dd_ rfl (EU 1) (fun b73 hb73=>⟨(fun _=>by first | exact sd s0 | exact s0),ss_,?_⟩));refine pQ rfl (bI aB (NW a ha hn (toL 16 (val a.w / 2 ^ 1)) (dI _ _) (oQ _ _) _) rfl) ?_;refine cF rfl rfl (cC tyT rfl rfl uu_ (kV (dI _ _)) rfl (bV _) (.inl (by assumption)) ⟨nf,ss_,?_⟩);refine go2 ?_;refine bA rfl (.inr rfl) ⟨_,_,_,_,_,_,rfl,mm_,tyT,_,(eC (kV (dI _ _))),(kV (dI _ _)),rfl⟩ ?_;exact congrArg RV (Y8 ha (by simpa using hg) hn)
theorem KA (vl:Value) (l:(List I)) (w:World) (hl:Slr w elI vl l) :
    Calls prog 119 [vl].toArray w (fun e w'=>e = .returned (.bool (oG l))∧Ext w w'):=by
 refine cS (N:=19) func119 rfl rfl (by simp) ?_;obtain ⟨w0,rfl⟩:∃ w0,w0=w:=⟨_,rfl⟩;have Hl:=hl.old;have hm_l:=hl.max;simp only [bO,Nat.reduceAdd];refine go6 ?_;refine sQ (aL (v':=.int .i64 (((l).length:Nat):Int)) (eR (e:=elI) pF rfl (SLe.sub Hl sn)) rfl) rfl (go2 ?_);refine gJ3 [2,4,7,8,9,10,11,12,13,14,15,16,17,18] (fun g M=>(nI l l) = .inl ()∧(True)∧M=[]) (fun K_u1 hK_u1=>?_) ?_
 ·refine go_ ?_;have hmx0:(l).length≤9223372036854775807:=hm_l;refine cK [2,4,7,8,9,10,11,12,13,14,15,16,17,18] (fun g nn M=>∃ (i0:Nat) (l0:List I),(nI l l0)=(nI l l)∧(l).drop i0=l0∧l0.length=nn∧g 7 = .int .i64 ((i0:Nat):Int)∧(True)∧M=[]) (l).length ?start ?round
  case start=>exact ⟨_,s0,0,l,rfl,rfl,rfl,rfl,trivial,rfl⟩
  case round =>
   rintro nn g M ⟨i0,l0,hT0,hr0,rfl,hgi,-,rfl⟩;simp only [fF,hgi];clear hgi;refine go4 ?_;rcases l0 with _ | ⟨x0,l0⟩
   ·have h18:=FL hr0;refine W_f h18 rfl (go_ ?_);refine hK_u1 _ _ pp_ ⟨_,s0,(by exact hT0.symm.trans (Eq.symm (rfl))),trivial,rfl⟩
   have h19:=BZ hr0;have g20:=x9 hr0;refine W_t h19 rfl (go4 ?_);refine sQ (aL (v':=.pointer (some (slb vl (i0 * 18+0)))) (lI (e:=elI) (l:=l) (k:=i0) pF rfl rfl (SLe.sub Hl sn) g20.2.1) rfl) rfl (sQ (mE (e:=elI) (l:=l) (k:=i0) (o:=0) tyT rfl (SLe.sub Hl sn) g20.1 rfl) rfl (go_ ?_));intro b21 hb21;refine go2 ?_;refine gJv [11,12,13,14,15,16,17] [(17,.bool (x0.1.bad||(!x0.1.valid)))] (fun K10 J10=>?_) ?_
   ·refine go3 ?_;refine sBB rfl (fun h23=>?_) (fun h23=>?_)
    ·refine go5 ?_;refine J10 _ _ pp_ s0 (bK (mF h23))
    refine go_ ?_;refine sC (.bool x0.1.valid) aB (vR x0.1 x0.2) rfl rfl rfl (go3 ?_);refine J10 _ _ pp_ s0 (bK (j9 h23 rfl))
   intro g24;refine aH _ rfl (fun h25=>?_) (fun h25=>?_)
   ·refine go4 ?_;refine bA rfl (.inr rfl) rfl ?_;exact congrArg vS2 (show _=(oG l) from (DI rfl (hT0.symm.trans (Eq.symm (aY h25 rfl)))))
   refine go2 ?_;refine sV (.int .i64 ((i0+1:Nat):Int)) rfl (congrArg (Value.int .i64) (nxt g20.2.1 hmx0)) (go2 ?_);refine ⟨pp_,_,_,(sd (s0)),(Nat.lt_succ_self _),i0+1,l0,(by exact (hT0.symm.trans (Eq.symm (aI h25 rfl))).symm),g20.2.2,rfl,rfl,trivial,rfl⟩
 rintro g M ⟨hCu1,-,rfl⟩;simp only [fF];refine go4 ?_;refine bA rfl (.inr rfl) rfl ?_;exact congrArg vS2 (show _=(oG l) from trs (Eq.symm (smS hCu1)) rfl)
theorem NU (a:I) :
    Ret prog 78 [AV [pI a]] (AV [pI (jZ a)]):=by
 refine bL (N:=36) func78 rfl rfl (by simp) (fun w0=>?_);simp only [bO,Nat.reduceAdd];refine go2 ?_;intro b1 hb1;refine go_ ?_;intro b2 hb2;refine go2 ?_;refine gJv [5,6,7,8,9,10,11,12] [(12,.bool (!(oG [a])||a.1.neg))] (fun K2 J2=>?_) ?_
 ·refine go2 ?_;refine bD rfl (bU [[pI a]] [pI a] kL kN lG rfl dd_ rfl rfl ⟨rfl,rfl,rfl,trivial⟩ rfl (fun b6 hb6=>sQ (aL (v':=.bool (oG [a])) (bT aB rfl (fun w hw=>KA _ ([a]) w (SLe.ap hw (SLe.lit (e:=elI) (l:=[a]) m0 rfl (Nat.le_of_ble_eq_true rfl) rfl)))) rfl) rfl (go_ ?_)));rcases bt (oG [a]) with h7 | h7
  ·refine sB (gE h7) rfl (go4 ?_);refine J2 _ _ pp_ (sd (s0)) (bK (jU h7 rfl))
  refine sB (iK h7) rfl (go4 ?_);refine J2 _ _ pp_ (sd (s0)) (bK (n7 h7))
 intro g8;refine aH _ rfl (fun h9=>?_) (fun h9=>?_)
 ·refine go_ ?_;refine sC (AV [pI (E Z.bad)]) aB gX rfl rfl rfl (go3 ?_);refine bA rfl (.inr rfl) (eF rfl m0 tyT rfl) ?_;exact congrArg vS4 (show _=(jZ a) from aY h9 rfl)
 refine go4 ?_;refine sC (.int .i64 ((Z.signW a.dec).1)) aB (iY a.1 a.2) rfl rfl rfl (go2 ?_);refine aH _ rfl (fun h10=>?_) (fun h10=>?_)
 ·refine go5 ?_;refine bA rfl (.inr rfl) (eF rfl m0 tyT rfl) ?_;exact congrArg vS4 (show _=(jZ a) from aI h9 (aY h10 rfl))
 refine go_ ?_;refine oX (sk (sk (s0))) 8 [6,7] [7] (pC (AV [pI (E (Z.of 1))]) aB (dO (wl 1).1 (wl 1).2) rfl rfl rfl ?_);refine go_ ?_;refine pC (.int .i64 ((Z.bitsW a.dec).1)) aB (AE a.1 a.2) rfl rfl rfl (pV (.int .i64 ((W.add (Z.bitsW a.dec) (wl 1)).1)) rfl rfl ?_);refine pQ rfl (aL (v':=.int .i64 ((W.quo (W.add (Z.bitsW a.dec) (wl 1)) (wl 2)).1)) (mG rfl rfl dd_) rfl) ?_;have hsh:0≤((W.quo (W.add (Z.bitsW a.dec) (wl 1)) (wl 2))).1:=d3_ a;refine pC (AV [pI (E (Z.shl (Z.of 1) (W.quo (W.add (Z.bitsW a.dec) (wl 1)) (wl 2)).1))]) aB (J0 (E (Z.of 1)).1 (E (Z.of 1)).2 (W.quo (W.add (Z.bitsW a.dec) (wl 1)) (wl 2)) (by first | assumption | exact (Int.not_lt.1 (of_decide_eq_false (by first | assumption | exact hu_ (by assumption)))))) rfl rfl (cg1 (fun p=>AV [pI (E (Z.shl p (W.quo (W.add (Z.bitsW a.dec) (wl 1)) (wl 2)).1))]) (dB _)) ?_;refine cF rfl rfl (kA zpT (fun b11 hb11=>⟨(fun _=>sd s0),(sd s0),?_⟩));refine go3 ?_;refine cK [4,24,25,26,27,28,29,30,31,32,33,34,35] (fun g nn M=>∃ (mb11:I),(tQ a nn mb11)=(tQ a ((Z.nat (E (Z.shl (Z.of 1) (W.quo (W.add (Z.bitsW a.dec) (wl 1)) (wl 2)).1)).dec+1)) (E (Z.shl (Z.of 1) (W.quo (W.add (Z.bitsW a.dec) (wl 1)) (wl 2)).1)))∧Z.nat mb11.dec<nn∧(GK a mb11)∧(True)∧M=[⟨b11,31,cV [pI mb11]⟩,⟨b2,31,cV [pI I0]⟩,⟨b1,31,cV [pI a]⟩]) ((Z.nat (E (Z.shl (Z.of 1) (W.quo (W.add (Z.bitsW a.dec) (wl 1)) (wl 2)).1)).dec+1)) ?start ?round
 case start=>exact ⟨_,s0,(E (Z.shl (Z.of 1) (W.quo (W.add (Z.bitsW a.dec) (wl 1)) (wl 2)).1)),rfl,Nat.lt_succ_self _,(V6 h9 h10),trivial,rfl⟩
 case round =>
  rintro nn g M ⟨mb11,hT0,hq0,hinv0,-,rfl⟩;obtain ⟨k0,rfl⟩:∃ m,nn=m+1:=⟨nn - 1,by omega⟩;simp only [fF];refine go_ ?_;refine oX (sk (sk (sk (s0)))) 8 [6,7] [7] (go3 ?_);refine pC (AV [pI (E (Z.quo a.dec mb11.dec))]) aB (i8 a.1 mb11.1 a.2 mb11.2) rfl rfl rfl (pC (AV [pI (E (Z.add mb11.dec (Z.quo a.dec mb11.dec)))]) aB (oH mb11.1 (E (Z.quo a.dec mb11.dec)).1 mb11.2 (E (Z.quo a.dec mb11.dec)).2) rfl rfl (cg2 (fun p q=>AV [pI (E (Z.add p q))]) rfl (dB _)) ?_);have hhf:=d2_ hinv0;refine pC (AV [pI (E (Z.half (Z.add mb11.dec (Z.quo a.dec mb11.dec))))]) aB (NT (E (Z.add mb11.dec (Z.quo a.dec mb11.dec))).1 (E (Z.add mb11.dec (Z.quo a.dec mb11.dec))).2 (by assumption)) rfl rfl (cg1 (fun p=>AV [pI (E (Z.half p))]) (dB _)) (cF rfl rfl (kA zpT (fun b20 hb20=>⟨(fun _=>sd s0),(sd s0),?_⟩)));refine go6 ?_;refine sC (.int .i64 ((Z.cmpW (Z.half (Z.add mb11.dec (Z.quo a.dec mb11.dec))) mb11.dec).1)) aB (GE (E (Z.half (Z.add mb11.dec (Z.quo a.dec mb11.dec)))).1 mb11.1 (E (Z.half (Z.add mb11.dec (Z.quo a.dec mb11.dec)))).2 mb11.2) rfl rfl (cg2 (fun p q=>Value.int .i64 (Z.cmpW p q).1) (dB _) rfl) (go2 ?_);refine aH _ rfl (fun h21=>?_) (fun h21=>?_)
  ·refine go5 ?_;refine bA rfl (.inr rfl) (eF rfl m2 tyT rfl) ?_;exact congrArg vS4 (show _=(jZ a) from aI h9 (aI h10 ((DI rfl (hT0.symm.trans (Eq.symm (aY h21 rfl)))))))
  refine go5 ?_;refine ⟨pp_,_,_,(sd (s0)),(Nat.lt_succ_self _),(E (Z.half (Z.add mb11.dec (Z.quo a.dec mb11.dec)))),(by exact (hT0.symm.trans (Eq.symm (aI h21 rfl))).symm),(Nat.lt_of_lt_of_le (ci_ hinv0 h21) (Nat.le_of_lt_succ hq0)),(ZZ hinv0),trivial,rfl⟩
end Go.Proofs.YtkjjponijamaoaaGreatDoor
