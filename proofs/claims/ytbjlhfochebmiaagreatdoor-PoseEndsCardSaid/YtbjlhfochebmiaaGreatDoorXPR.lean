/- Lemmas: what they ask stands in their statements. -/
import Derived.Test.YtbjlhfochebmiaaGreatDoorXPe
set_option linter.unusedSimpArgs false
set_option linter.unusedVariables false
set_option maxHeartbeats 8000000
set_option maxRecDepth 20000

namespace Go.Num
open Go Go.Kn
theorem af_ (a:I):iG [a]=a.1.good:=by
  unfold iG gO gO R.good
  cases a.1.bad <;> cases a.1.valid <;> rfl
def yJ (a m:I):Prop:=∃ v r:Nat,a.dec=Z.of (v:Int)∧0<v∧v<4294967296 ^ 16∧m=E (Z.of (r:Int))∧uD v≤r∧0<r∧r≤2 ^ 256
theorem VG {m k:Nat} (hm:4294967296 ^ 16=2 ^ m) (hk:m=k+k):(4294967296:Nat) ^ 16=2 ^ k * 2 ^ k:=by rw [hm,hk,Nat.pow_add]
theorem ck_:(4294967296:Nat) ^ 16=2 ^ 256 * 2 ^ 256:=VG xW rfl
theorem JQ {v:Nat} (h:0<v) (hv:v<4294967296 ^ 16):0<uD v:=by
  have:=(rZ hv).2;rcases Nat.eq_zero_or_pos (uD v) with h0 | h0
  · rw [h0] at this;omega
  exact h0
theorem TF {v:Nat} (hv:v<4294967296 ^ 16):uD v<2 ^ 256:=by
  have:=(rZ hv).1;rw [ck_] at hv;generalize 2 ^ 256=q at *;rcases Nat.lt_or_ge (uD v) q with h | h
  · exact h
  have:=Nat.mul_le_mul h h;omega
theorem ar_ {v r s:Nat} (h1:s * s≤v) (h2:v<(s+1) * (s+1)) (hs:0<s) (hr:s≤r):s≤(r+v / r) / 2∧v / r≤s+2∧(r≤(r+v / r) / 2→r=s):=by
  have r0:0<r:=by omega
  have q1:r * (v / r)≤v:=Nat.mul_div_le v r
  have q2:v<r * (v / r+1):=by rw [Nat.mul_add,Nat.mul_one];exact Nat.lt_mul_div_succ v r0
  generalize v / r=q at *
  have e1:(s+1) * (s+1)=s * s+2 * s+1:=by rw [Nat.add_mul,Nat.mul_add];omega
  refine ⟨?_,?_,?_⟩
  · rw [Nat.le_div_iff_mul_le dd_]
    rcases Nat.lt_or_ge (r+q) (s * 2) with h | h
    · exfalso
      obtain ⟨d,rfl⟩:∃ d,r=s+d:=⟨r - s,by omega⟩
      have hq:q+1≤s - d:=by omega
      have hd:d≤s:=by omega
      have h3:=Nat.mul_le_mul_left (s+d) hq
      have h4:(s+d) * (s - d)≤s * s:=by
        obtain ⟨t,rfl⟩:∃ t,s=d+t:=⟨s - d,by omega⟩;rw [Nat.add_sub_cancel_left]
        have:(d+t) * (d+t)=(d+t+d) * t+d * d:=by grind
        omega
      omega
    omega
  · rcases Nat.lt_or_ge (s+2) q with h | h
    · exfalso
      have h3:=Nat.mul_le_mul hr (show s+3≤q by omega)
      have:s * (s+3)=s * s+3 * s:=by grind
      omega
    exact h
  intro h
  have h3:r≤q:=by rw [Nat.le_div_iff_mul_le dd_] at h;omega
  have h4:=Nat.mul_le_mul_left r h3;rcases Nat.lt_or_ge s r with h5 | h5
  · have:=WH h5;omega
  omega
theorem nB {n:Nat} (h:n<4294967296 ^ 16):(n:Int).natAbs<4294967296 ^ 16:=by rwa [Int.natAbs_natCast]
theorem J0:(2:Nat) ^ 256+2 ^ 256+2<4294967296 ^ 16:=by decide +kernel
theorem HV {a m:I} (h:yJ a m):∃ v r:Nat,a.dec=Z.of (v:Int)∧0<v∧v<4294967296 ^ 16∧m.dec=Z.of (r:Int)∧uD v≤r∧0<r∧r≤2 ^ 256∧r<4294967296 ^ 16∧m=E (Z.of (r:Int)) ∧
    Z.add m.dec (Z.quo a.dec m.dec)=Z.of ((r+v / r:Nat):Int)∧r+v / r<4294967296 ^ 16∧Z.half (Z.add m.dec (Z.quo a.dec m.dec))=Z.of (((r+v / r) / 2:Nat):Int)∧uD v≤(r+v / r) / 2∧(r+v / r) / 2≤2 ^ 256∧(r≤(r+v / r) / 2→r=uD v):=by
  obtain ⟨v,r,ha,hv,hv2,rfl,h1,h2,h3⟩:=h;have s0:=JQ hv hv2;have s1:=TF hv2;obtain ⟨n1,n2,n3⟩:=ar_ (rZ hv2).1 (rZ hv2).2 s0 h1;have hb:=J0
  have r1:r<4294967296 ^ 16:=by omega
  have q1:v / r<4294967296 ^ 16:=by omega
  have t1:r+v / r<4294967296 ^ 16:=by omega
  have e1:Z.quo (Z.of (v:Int)) (Z.of (r:Int))=Z.of ((v / r:Nat):Int):=by
    unfold Z.quo;rw [cI (Z.of_some (nB hv2)) (Z.of_some (nB r1)),if_neg oo_]
    congr 1
    rw [Int.fdiv_eq_ediv_of_nonneg _ oo_];rfl
  have e2:Z.add (Z.of (r:Int)) (Z.of ((v / r:Nat):Int))=Z.of ((r+v / r:Nat):Int):=by
    unfold Z.add;rw [cI (Z.of_some (nB r1)) (Z.of_some (nB q1))]
    congr 1
  have e3:Z.half (Z.of ((r+v / r:Nat):Int))=Z.of (((r+v / r) / 2:Nat):Int):=by
    unfold Z.half;rw [iJ (Z.of_some (nB t1))]
    congr 1
  refine ⟨v,r,ha,hv,hv2,by rw [dB],h1,h2,h3,r1,rfl,?_,t1,?_,n1,?_,n3⟩
  · rw [ha,dB,e1,e2]
  · rw [ha,dB,e1,e2,e3]
  generalize 2 ^ 256=q at *;omega
theorem LX {n:Nat} (h:n<4294967296 ^ 16):(E (Z.of (n:Int))).1.neg=false:=by
  show (Z.of (n:Int)).enc.neg=false
  unfold Z.enc;rw [Z.of_some (nB h)];exact decide_eq_false (show ¬ ((n:Int)<0) by omega)
theorem V6 {a m:I} (h:yJ a m):(E (Z.add m.dec (Z.quo a.dec m.dec))).1.neg=false:=by
  obtain ⟨v,r,_,_,_,_,_,_,_,_,_,e,t,_⟩:=HV h;rw [e];exact LX t
theorem PN {a m:I} (h:yJ a m):yJ a (E (Z.half (Z.add m.dec (Z.quo a.dec m.dec)))):=by
  obtain ⟨v,r,ha,hv,hv2,_,_,_,_,_,_,_,_,e,n1,n2,_⟩:=HV h;have:=JQ hv hv2;exact ⟨v,(r+v / r) / 2,ha,hv,hv2,by rw [e],n1,by omega,n2⟩
theorem SP {n:Nat} (h:n<4294967296 ^ 16):Z.nat (Z.of (n:Int))=n:=by
  unfold Z.nat;rw [Z.of_some (nB h)];exact Int.natAbs_natCast n
theorem QO {m n:Nat} (hm:m<4294967296 ^ 16) (hn:n<4294967296 ^ 16):decide (0≤(Z.cmpW (Z.of (m:Int)) (Z.of (n:Int))).1)=decide (n≤m):=by
  congr 1
  show (0≤Z.cmp (Z.of (m:Int)) (Z.of (n:Int)))=_
  unfold Z.cmp;rw [Z.of_some (nB hm),Z.of_some (nB hn)];simp only;unfold rB
  apply propext
  constructor
  · intro h
    split at h
    · omega
    split at h <;> omega
  intro h
  split
  · omega
  split <;> omega
theorem TG {a m:I} (h:yJ a m) (hc:decide (0≤(Z.cmpW (Z.half (Z.add m.dec (Z.quo a.dec m.dec))) m.dec).1)=false):Z.nat (E (Z.half (Z.add m.dec (Z.quo a.dec m.dec)))).dec<Z.nat m.dec:=by
  obtain ⟨v,r,ha,hv,hv2,hm,_,_,_,r1,_,_,t,e,n1,n2,_⟩:=HV h;have hb:=J0
  have t1:(r+v / r) / 2<4294967296 ^ 16:=by omega
  rw [e,hm,QO t1 r1] at hc;have:=of_decide_eq_false hc;rw [e,hm,dB,SP t1,SP r1];omega
theorem TH (a:I):(W.quo (W.add (Z.bitsW a.dec) (wl 1)) (wl 2)).1=(((a.dec.bits+1) / 2:Nat):Int):=by
  have h:=Z.bits_le a.dec
  have e1:(W.add (Z.bitsW a.dec) (wl 1)).1=((a.dec.bits+1:Nat):Int):=by
    show IntKind.i64.wrap (((Z.bits a.dec:Nat):Int)+1)=_
    rw [wi oo_];rfl
  show IntKind.i64.wrap ((W.add (Z.bitsW a.dec) (wl 1)).1.tdiv 2)=_
  rw [e1,Int.tdiv_eq_ediv_of_nonneg oo_];rw [wi oo_];rfl
theorem V7 (a:I):0≤(W.quo (W.add (Z.bitsW a.dec) (wl 1)) (wl 2)).1:=by rw [TH];omega
theorem MM {a:I} (h1:(!(iG [a])||a.1.neg)=false) (h2:((Z.signW a.dec).1==0)=false):yJ a (E (Z.shl (Z.of 1) (W.quo (W.add (Z.bitsW a.dec) (wl 1)) (wl 2)).1)):=by
  rw [af_,Bool.or_eq_false_iff,Bool.not_eq_false'] at h1;obtain ⟨ga,hn⟩:=h1;have hv:=XP a.2
  have ea:a.dec=Z.of ((val a.1.w:Nat):Int):=by
    show a.1.dec=_
    unfold R.dec;rw [if_pos ga,hn];rfl
  have v0:0<val a.1.w:=by
    rcases Nat.eq_zero_or_pos (val a.1.w) with h | h
    · exfalso
      rw [ea,h] at h2
      revert h2;decide +kernel
    exact h
  have eb:a.dec.bits=bl (val a.1.w):=tU a.2 ga;have hbl:=Z.bits_le a.dec
  have hk:(a.dec.bits+1) / 2≤256:=by omega
  have hlt:val a.1.w<2 ^ ((a.dec.bits+1) / 2) * 2 ^ ((a.dec.bits+1) / 2):=by
    rw [← Nat.pow_add];refine Nat.lt_of_lt_of_le (AW _) (Nat.pow_le_pow_right dd_ ?_);rw [← eb];omega
  have hle:2 ^ ((a.dec.bits+1) / 2)≤2 ^ 256:=Nat.pow_le_pow_right dd_ hk;have hp:0<2 ^ ((a.dec.bits+1) / 2):=Nat.pow_pos dd_;refine ⟨val a.1.w,2 ^ ((a.dec.bits+1) / 2),ea,v0,hv,?_,?_,hp,hle⟩
  · rw [TH]
    congr 1
    unfold Z.shl;rw [iJ (Z.of_some dd_),Int.toNat_natCast,Int.one_mul]
    congr 1
  have:=(rZ hv).1;generalize 2 ^ ((a.dec.bits+1) / 2)=q at *;rcases Nat.lt_or_ge q (uD (val a.1.w)) with h | h
  · have:=Nat.mul_le_mul (Nat.le_of_lt h) (Nat.le_of_lt h);omega
  exact h
end Go.Num

namespace Go.Proofs.YtbjlhfochebmiaaGreatDoor
open Go.Kn Go.Num
attribute [local irreducible] Go.Kn.W WL PL OpQ OpR OpS
theorem BU (a:R) (ha:a.Ok) (m:Nat) (hm:(m:Int)≤9223372036854775807) :
    Ret Tryz.prog 161 [RV a,.int .i64 (m:Int)] (RV (Z.shl a.dec (m:Int)).enc):=by
 refine aW (N:=75) Tryz.func161 rfl rfl (by simp) (fun w0=>?_);simp only [bA,Nat.reduceAdd];refine go_ ?_;refine aU rfl (fV rfl rfl (fun b2 hb2=>aU rfl (cM i2 (fun b4 hb4=>go4 ?_))));refine sQ (bE tyT rfl mm_ (bG ha)) rfl ?_;refine aU rfl (fA nX i2 mM rfl dd_ rfl (rY ha) (fun b9 hb9=>sQ (bR nR rfl (fun w hw=>eB [a] (ok1 ha) b9 33 w (hw.mem _ m0) (by simp))) rfl ?_));refine go3 ?_;refine aK _ rfl (fun hg=>?_) (fun hg=>?_)
 ·replace hg:=cB_ hg
  refine go_ ?_;refine sQ (aZ lQ dR rfl) rfl (aU rfl (aX tyT rfl rfl uu_ (aC _) rfl (aV _) (.inl (by assumption)) ?_));refine go2 ?_;refine aS rfl (.inr rfl) ⟨_,_,_,_,_,_,rfl,mm_,tyT,_,(bX (aC _)),(aC _),rfl⟩ ?_
  (rw [Z.shl,uE (by unfold R.dec;rw [if_neg (by simpa using hg)];rfl)];rfl)
 replace hg:=cB_ hg
 refine go_ ?_;refine sQ (bE tyT rfl mm_ (bG ha)) rfl ?_;refine sQ (aZ u4 (iQ a ha) rfl) rfl (go3 ?_);refine aK _ rfl (fun hs=>?_) (fun hs=>?_)
 ·replace hs:=cB_ hs
  refine go_ ?_;refine sQ (bE tyT rfl mm_ (bG ha)) rfl ?_;refine aU rfl (aX tyT rfl rfl uu_ (bG ha) rfl (aV _) (.inl (by assumption)) ?_);refine go2 ?_;refine aS rfl (.inr rfl) ⟨_,_,_,_,_,_,rfl,mm_,tyT,_,(bX (bG ha)),(bG ha),rfl⟩ ?_;exact congrArg RV (WC ha (by simpa using hg) hs m)
 replace hs:=cB_ hs
 refine go4 ?_
 cases h5:decide ((m:Int) ≥ 512)
 ·refine go3 ?_
  cases h6:decide ((m:Int) > 0)
  ·refine sL ?_;refine aK _ rfl (fun h33=>?_) (fun h33=>?_)
   ·replace h33:=cB_ h33
    exact absurd h33 oo_ --done
   replace h33:=cB_ h33
   refine go2 ?_
   have hm5:m<512:=by have:=of_decide_eq_false h5;omega
   have hfar:m / 32≤15:=by omega
   refine aU rfl (cM lH (fun b5 hb5=>go3 ?_));refine sQ (aI (f8 rfl rfl dd_) (congrArg (Value.int .i64) (shq 32 dd_ hm))) rfl (go7 ?_);refine aK _ rfl (fun h42=>?_) (fun h42=>?_)
   ·replace h42:=cB_ h42
    refine go_ ?_;refine gdr (sd (sk (sk (sk (s0))))) [0,4,8,12,17] [4] mix (by kernel_rfl) (go_ ?_);refine pQ rfl (qU arT rfl rfl rfl oo_ oo_ oo_ oo_) (pQ rfl (bB fdT dd_ rfl) (pQ rfl (qU arT rfl rfl rfl dd_ dd_ dd_ dd_) ?_));refine cS rfl rfl (HM HU rfl rfl mm_ uu_ (fun v hv=>aV a v (List.mem_of_mem_drop (List.mem_of_mem_take hv))) (by rw [bG ha];omega) (by simp [uw];omega) (IG ha hfar) (.inl (by assumption)) ⟨nf,ss_,?_⟩);refine go2 ?_;refine sQ (bE tyT rfl mm_ (by simp [uw,xS ha.len (show m / 32≤16 by omega)])) rfl ?_;refine go_ ?_;refine sQ (aI (nD rfl rfl dd_) (congrArg (Value.int .i64) (shr 32 m))) rfl (sQ (aZ GV (rL (shw a.w (m / 32)) (xS ha.len oo_) (N5 ha.lim) (m % 32) (Nat.mod_lt _ dd_)) rfl) rfl (go3 ?_));refine aU rfl (aX tyT rfl rfl uu_ (by simp [uw,bN]) (by simp [uw,xS ha.len (show m / 32≤16 by omega)]) (eK _) (.inl (by assumption)) ?_);refine go2 ?_;refine sQ (bB fdT dd_ rfl) rfl (sQ (cA (v:=.bool a.neg) tyT rfl mm_ rfl) rfl ?_);refine sQ (bE tyT rfl mm_ (by simp [uw,bN])) rfl ?_;refine sQ (aZ l9 (cW a.neg (toL 16 (val (shw a.w (m / 32)) * 2 ^ (m % 32))) (by simp [bN]) (iO _ _)) rfl) rfl ?_;refine aU rfl (aX tyT rfl rfl uu_ (eX (by simp [bN])) rfl (aV _) (.inl (by assumption)) ?_);refine go2 ?_;refine aS rfl (.inr rfl) ⟨_,_,_,_,_,_,rfl,mm_,tyT,_,(bX (eX (by simp [bN]))),(eX (by simp [bN])),rfl⟩ ?_;exact congrArg RV (TK ha (by simpa using hg) (by have:=Z.bits_le a.dec;have:=of_decide_eq_false h6;omega) hm5)
   replace h42:=cB_ h42
   exact absurd h42 oo_ --done
  refine sQ (bE tyT rfl mm_ (bG ha)) rfl ?_;refine sQ (aZ LG (sJ a ha) rfl) rfl (go_ ?_);refine sQ (aI (e9 rfl rfl) (congrArg (Value.int .i64) (show _=((a.dec.bits+m:Nat):Int) from (wi (by have:=Z.bits_le a.dec;have:=of_decide_eq_false h5;omega)).trans (Int.natCast_add _ _).symm))) rfl (go5 ?_);refine aK _ rfl (fun h18=>?_) (fun h18=>?_)
  ·replace h18:=cB_ h18
   refine go_ ?_;refine sQ (aZ lQ dR rfl) rfl (aU rfl (aX tyT rfl rfl uu_ (aC _) rfl (aV _) (.inl (by assumption)) ?_));refine go2 ?_;refine aS rfl (.inr rfl) ⟨_,_,_,_,_,_,rfl,mm_,tyT,_,(bX (aC _)),(aC _),rfl⟩ ?_;exact congrArg RV (TJ ha (by simpa using hg) hs (.inl oo_))
  replace h18:=cB_ h18
  refine go5 ?_;refine aK _ rfl (fun h33=>?_) (fun h33=>?_)
  ·replace h33:=cB_ h33
   exact absurd h33 oo_ --done
  replace h33:=cB_ h33
  refine go2 ?_
  have hm5:m<512:=by have:=of_decide_eq_false h5;omega
  have hfar:m / 32≤15:=by omega
  refine aU rfl (cM lH (fun b5 hb5=>go3 ?_));refine sQ (aI (f8 rfl rfl dd_) (congrArg (Value.int .i64) (shq 32 dd_ hm))) rfl (go7 ?_);refine aK _ rfl (fun h42=>?_) (fun h42=>?_)
  ·replace h42:=cB_ h42
   refine go_ ?_;refine gdr (sd (sk (sk (sk (s0))))) [0,4,8,12,17] [4] mix (by kernel_rfl) (go_ ?_);refine pQ rfl (qU arT rfl rfl rfl oo_ oo_ oo_ oo_) (pQ rfl (bB fdT dd_ rfl) (pQ rfl (qU arT rfl rfl rfl dd_ dd_ dd_ dd_) ?_));refine cS rfl rfl (HM HU rfl rfl mm_ uu_ (fun v hv=>aV a v (List.mem_of_mem_drop (List.mem_of_mem_take hv))) (by rw [bG ha];omega) (by simp [uw];omega) (IG ha hfar) (.inl (by assumption)) ⟨nf,ss_,?_⟩);refine go2 ?_;refine sQ (bE tyT rfl mm_ (by simp [uw,xS ha.len (show m / 32≤16 by omega)])) rfl ?_;refine go_ ?_;refine sQ (aI (nD rfl rfl dd_) (congrArg (Value.int .i64) (shr 32 m))) rfl (sQ (aZ GV (rL (shw a.w (m / 32)) (xS ha.len oo_) (N5 ha.lim) (m % 32) (Nat.mod_lt _ dd_)) rfl) rfl (go3 ?_));refine aU rfl (aX tyT rfl rfl uu_ (by simp [uw,bN]) (by simp [uw,xS ha.len (show m / 32≤16 by omega)]) (eK _) (.inl (by assumption)) ?_);refine go2 ?_;refine sQ (bB fdT dd_ rfl) rfl (sQ (cA (v:=.bool a.neg) tyT rfl mm_ rfl) rfl ?_);refine sQ (bE tyT rfl mm_ (by simp [uw,bN])) rfl ?_;refine sQ (aZ l9 (cW a.neg (toL 16 (val (shw a.w (m / 32)) * 2 ^ (m % 32))) (by simp [bN]) (iO _ _)) rfl) rfl ?_;refine aU rfl (aX tyT rfl rfl uu_ (eX (by simp [bN])) rfl (aV _) (.inl (by assumption)) ?_);refine go2 ?_;refine aS rfl (.inr rfl) ⟨_,_,_,_,_,_,rfl,mm_,tyT,_,(bX (eX (by simp [bN]))),(eX (by simp [bN])),rfl⟩ ?_;exact congrArg RV (TK ha (by simpa using hg) oo_ hm5)
  replace h42:=cB_ h42
  exact absurd h42 oo_ --done
 refine yU ?_;refine sQ (aZ lQ dR rfl) rfl (aU rfl (aX tyT rfl rfl uu_ (aC _) rfl (aV _) (.inl (by assumption)) ?_));refine go2 ?_;refine aS rfl (.inr rfl) ⟨_,_,_,_,_,_,rfl,mm_,tyT,_,(bX (aC _)),(aC _),rfl⟩ ?_;exact congrArg RV (TJ ha (by simpa using hg) hs (.inr (by have:=of_decide_eq_true h5;omega)))
theorem BV (a:R) (ha:a.Ok) (n:W) (h0:0≤n.1):Ret Tryz.prog 161 [RV a,.int .i64 n.1] (RV (Z.shl a.dec n.1).enc):=by
  obtain ⟨n,hn⟩:=n;obtain ⟨m,rfl⟩:∃ m:Nat,n=(m:Int):=⟨n.toNat,by simp only at h0;omega⟩;exact BU a ha m (by unfold I64 at hn;omega)
theorem EJ (a:R) (ha:a.Ok) (hn:a.neg=false) (w:List Nat) (hw:w.length=16) (hlim:Lim w) (vs:Value) :
    Ret Tryz.prog 204 [RV a,UV w,vs] (RV ⟨false,false,w⟩):=by
 refine aW (N:=32) Tryz.func204 rfl rfl (by simp) (fun w0=>?_);simp only [bA,Nat.reduceAdd];obtain ⟨bd,ng,l⟩:=a;simp only at hn;subst hn;refine go_ ?_;refine aU rfl (fV rfl rfl (fun b3 hb3=>aU rfl (fV rfl rfl (fun b4 hb4=>aU rfl (cM i2 (fun b6 hb6=>go2 ?_))))));refine sQ (bB fdT dd_ rfl) rfl (sQ (cA (v:=.bool false) tyT rfl mm_ rfl) rfl ?_);refine sQ (bE tyT rfl mm_ (by simp [uw,hw])) rfl ?_;refine sQ (aZ l9 (cW false w hw hlim) rfl) rfl (aU rfl (cM i2 (fun b7 hb7=>aU rfl (aX tyT rfl rfl uu_ (eX hw) rfl (aV _) (.inl (by assumption)) ?_))));refine go3 ?_;refine gdr (sk (sk (sk (sk (s0))))) [0,4,8,12,16,20,24,28,32,36,40,44,48,52,56,60] [] mix (by kernel_rfl) (pQ rfl (bB fdT dd_ rfl) (pQ rfl (cA (v:=.bool false) tyT rfl mm_ rfl) ?_));refine VD ?_;refine sQ (bE tyT rfl mm_ (eX hw)) rfl ?_;refine aU rfl (aX tyT rfl rfl uu_ (eX hw) rfl (aV _) (.inl (by assumption)) ?_);refine go2 ?_;refine aS rfl (.inr rfl) ⟨_,_,_,_,_,_,rfl,mm_,tyT,_,(bX (eX hw)),(eX hw),rfl⟩ ?_;exact rfl

theorem EG (a:R) (ha:a.Ok) (hn:a.neg=false) :
    Ret Tryz.prog 161 [RV a,.int .i64 (-1)] (RV (Z.half a.dec).enc):=by
 refine aW (N:=75) Tryz.func161 rfl rfl (by simp) (fun w0=>?_);simp only [bA,Nat.reduceAdd];refine go_ ?_;refine aU rfl (fV rfl rfl (fun b2 hb2=>aU rfl (cM i2 (fun b4 hb4=>go4 ?_))));refine sQ (bE tyT rfl mm_ (bG ha)) rfl ?_;refine aU rfl (fA nX i2 mM rfl dd_ rfl (rY ha) (fun b9 hb9=>sQ (bR nR rfl (fun w hw=>eB [a] (ok1 ha) b9 33 w (hw.mem _ m0) (by simp))) rfl ?_));refine go3 ?_;refine aK _ rfl (fun hg=>?_) (fun hg=>?_)
 ·replace hg:=cB_ hg
  refine go_ ?_;refine sQ (aZ lQ dR rfl) rfl (aU rfl (aX tyT rfl rfl uu_ (aC _) rfl (aV _) (.inl (by assumption)) ?_));refine go2 ?_;refine aS rfl (.inr rfl) ⟨_,_,_,_,_,_,rfl,mm_,tyT,_,(bX (aC _)),(aC _),rfl⟩ ?_
  (rw [R2 (by simpa using hg)];rfl)
 replace hg:=cB_ hg
 refine go_ ?_;refine sQ (bE tyT rfl mm_ (bG ha)) rfl ?_;refine sQ (aZ u4 (iQ a ha) rfl) rfl (go3 ?_);refine aK _ rfl (fun hs=>?_) (fun hs=>?_)
 ·replace hs:=cB_ hs
  refine go_ ?_;refine sQ (bE tyT rfl mm_ (bG ha)) rfl ?_;refine aU rfl (aX tyT rfl rfl uu_ (bG ha) rfl (aV _) (.inl (by assumption)) ?_);refine go2 ?_;refine aS rfl (.inr rfl) ⟨_,_,_,_,_,_,rfl,mm_,tyT,_,(bX (bG ha)),(bG ha),rfl⟩ ?_;exact congrArg RV (OY ha (by simpa using hg) hn hs)
 replace hs:=cB_ hs
 refine da_ ?_;refine aU rfl (cM lH (fun b5 hb5=>go3 ?_));refine sQ (f8 rfl rfl dd_) rfl (iE ?_);refine gdr (sd (sk (sk (sk (s0))))) [0,4,8,12,16,21] [5] mix (by kernel_rfl) (pQ rfl (qU arT rfl rfl rfl dd_ dd_ dd_ dd_) (pQ rfl (bB fdT dd_ rfl) (go2 ?_)));refine pQ rfl (qU arT rfl rfl rfl dd_ dd_ dd_ dd_) ?_;refine cS rfl rfl (HM HU rfl rfl mm_ uu_ (fun v hv=>aV a v (List.mem_of_mem_drop (List.mem_of_mem_take hv))) (by rw [bG ha];decide) (by simp [uw]) (OW ha) (.inl (by assumption)) ⟨nf,ss_,?_⟩);refine go2 ?_;refine gdr (sk (sk (sd (sk (s0))))) [0,4,8,12,16,20,24,28,33,36,41] [10] mix (by kernel_rfl) (pQ rfl (bE tyT rfl mm_ (bG ha)) ?_);refine pQ rfl (bE tyT rfl mm_ (by simp [uw,ha.len])) ?_;refine go2 ?_;refine pQ rfl (nD rfl rfl dd_) (pQ rfl (aZ RK (xE a.w ha.len ha.lim 1 dd_) rfl) (go2 ?_));refine cS rfl rfl (fA fW z_3 lE rfl dd_ rfl (wS 1) (fun b73 hb73=>⟨(fun _=>by first | exact sd s0 | exact s0),ss_,?_⟩));refine pQ rfl (aZ ZQ (EJ a ha hn (toL 16 (val a.w / 2 ^ 1)) (bN _ _) (iO _ _) _) rfl) ?_;refine cS rfl rfl (aX tyT rfl rfl uu_ (eX (bN _ _)) rfl (aV _) (.inl (by assumption)) ⟨nf,ss_,?_⟩);refine go2 ?_;refine aS rfl (.inr rfl) ⟨_,_,_,_,_,_,rfl,mm_,tyT,_,(bX (eX (bN _ _))),(eX (bN _ _)),rfl⟩ ?_;exact congrArg RV (OX ha (by simpa using hg) hn)
theorem BW (vl:Value) (l:(List I)) (w:World) (hl:Slr w elI vl l) :
    Calls Tryz.prog 158 [vl].toArray w (fun e w'=>e = .returned (.bool (iG l))∧Ext w w'):=by
 refine cX (N:=19) Tryz.func158 rfl rfl (by simp) ?_;obtain ⟨w0,rfl⟩:∃ w0,w0=w:=⟨_,rfl⟩;have Hl:=hl.old;have hm_l:=hl.max;simp only [bA,Nat.reduceAdd];refine go6 ?_;refine sQ (aI (v':=.int .i64 (((l).length:Nat):Int)) (fR (e:=elI) pM rfl (SLe.sub Hl sn)) rfl) rfl (go2 ?_);refine gJ3 [2,4,7,8,9,10,11,12,13,14,15,16,17,18] (fun g M=>(gO l l) = .inl ()∧(True)∧M=[]) (fun K_u1 hK_u1=>?_) ?_
 ·refine go_ ?_;have hmx0:(l).length≤9223372036854775807:=hm_l;refine cC [2,4,7,8,9,10,11,12,13,14,15,16,17,18] (fun g nn M=>∃ (i0:Nat) (l0:List I),(gO l l0)=(gO l l)∧(l).drop i0=l0∧l0.length=nn∧g 7 = .int .i64 ((i0:Nat):Int)∧(True)∧M=[]) (l).length ?start ?round
  case start=>exact ⟨_,s0,0,l,rfl,rfl,rfl,rfl,trivial,rfl⟩
  case round =>
   rintro nn g M ⟨i0,l0,hT0,hr0,rfl,hgi,-,rfl⟩;simp only [eJ,hgi];clear hgi;refine go4 ?_;rcases l0 with _ | ⟨x0,l0⟩
   ·have h18:=GJ hr0;refine W_f h18 rfl (go_ ?_);refine hK_u1 _ _ pp_ ⟨_,s0,(by exact hT0.symm.trans (Eq.symm (rfl))),trivial,rfl⟩
   have h19:=CN hr0;have g20:=xJ hr0;refine W_t h19 rfl (go4 ?_);refine sQ (aI (v':=.pointer (some (slb vl (i0 * 18+0)))) (nC (e:=elI) (l:=l) (k:=i0) pM rfl rfl (SLe.sub Hl sn) g20.2.1) rfl) rfl (sQ (pG (e:=elI) (l:=l) (k:=i0) (o:=0) tyT rfl (SLe.sub Hl sn) g20.1 rfl) rfl (go_ ?_));intro b21 hb21;refine go2 ?_;refine gJv [11,12,13,14,15,16,17] [(17,.bool (x0.1.bad||(!x0.1.valid)))] (fun K10 J10=>?_) ?_
   ·refine go3 ?_;refine sBB rfl (fun h23=>?_) (fun h23=>?_)
    ·refine go5 ?_;refine J10 _ _ pp_ s0 (bQ (oM h23))
    refine go_ ?_;refine sC (.bool x0.1.valid) GU (n4 x0.1 x0.2) rfl rfl rfl (go3 ?_);refine J10 _ _ pp_ s0 (bQ (mY h23 rfl))
   intro g24;refine aK _ rfl (fun h25=>?_) (fun h25=>?_)
   ·refine go4 ?_;refine aS rfl (.inr rfl) rfl ?_;exact congrArg vS1 (show _=(iG l) from (JZ rfl (hT0.symm.trans (Eq.symm (aE h25 rfl)))))
   refine go2 ?_;refine sV (.int .i64 ((i0+1:Nat):Int)) rfl (congrArg (Value.int .i64) (nxt g20.2.1 hmx0)) (go2 ?_);refine ⟨pp_,_,_,(sd (s0)),(Nat.lt_succ_self _),i0+1,l0,(by exact (hT0.symm.trans (Eq.symm (aM h25 rfl))).symm),g20.2.2,rfl,rfl,trivial,rfl⟩
 rintro g M ⟨hCu1,-,rfl⟩;simp only [eJ];refine go4 ?_;refine aS rfl (.inr rfl) rfl ?_;exact congrArg vS1 (show _=(iG l) from trs (Eq.symm (smS hCu1)) rfl)
theorem EH (a:I) :
    Ret Tryz.prog 85 [AV [pI a]] (AV [pI (fH a)]):=by
 refine aW (N:=36) Tryz.func85 rfl rfl (by simp) (fun w0=>?_);simp only [bA,Nat.reduceAdd];refine go2 ?_;intro b1 hb1;refine go_ ?_;intro b2 hb2;refine go2 ?_;refine gJv [5,6,7,8,9,10,11,12] [(12,.bool (!(iG [a])||a.1.neg))] (fun K2 J2=>?_) ?_
 ·refine go2 ?_;refine aU rfl (bW [[pI a]] [pI a] nX i2 mM rfl dd_ rfl rfl ⟨rfl,rfl,rfl,trivial⟩ rfl (fun b6 hb6=>sQ (aI (v':=.bool (iG [a])) (bR nR rfl (fun w hw=>BW _ ([a]) w (SLe.ap hw (SLe.lit (e:=elI) (l:=[a]) m0 rfl (Nat.le_of_ble_eq_true rfl) rfl)))) rfl) rfl (go_ ?_)));rcases bt (iG [a]) with h7 | h7
  ·refine sB (iX h7) rfl (go4 ?_);refine J2 _ _ pp_ (sd (s0)) (bQ (oX h7 rfl))
  refine sB (iY h7) rfl (go4 ?_);refine J2 _ _ pp_ (sd (s0)) (bQ (r8 h7))
 intro g8;refine aK _ rfl (fun h9=>?_) (fun h9=>?_)
 ·refine go_ ?_;refine sC (AV [pI (E Z.bad)]) lQ dR rfl rfl rfl (go3 ?_);refine aS rfl (.inr rfl) (fB rfl m0 tyT rfl) ?_;exact congrArg vS2 (show _=(fH a) from aE h9 rfl)
 refine go4 ?_;refine sC (.int .i64 ((Z.signW a.dec).1)) u4 (iQ a.1 a.2) rfl rfl rfl (go2 ?_);refine aK _ rfl (fun h10=>?_) (fun h10=>?_)
 ·refine go5 ?_;refine aS rfl (.inr rfl) (fB rfl m0 tyT rfl) ?_;exact congrArg vS2 (show _=(fH a) from aM h9 (aE h10 rfl))
 refine go_ ?_;refine gds (sk (sk (s0))) [0,4,8,12,16,20,25,29] [7] mix (by kernel_rfl) (pC (AV [pI (E (Z.of 1))]) kW (cN (wl 1).1 (wl 1).2) rfl rfl rfl ?_);refine go_ ?_;refine pC (.int .i64 ((Z.bitsW a.dec).1)) LG (sJ a.1 a.2) rfl rfl rfl (pV (.int .i64 ((W.add (Z.bitsW a.dec) (wl 1)).1)) rfl rfl ?_);refine pQ rfl (aI (v':=.int .i64 ((W.quo (W.add (Z.bitsW a.dec) (wl 1)) (wl 2)).1)) (f8 rfl rfl dd_) rfl) ?_;have hsh:0≤((W.quo (W.add (Z.bitsW a.dec) (wl 1)) (wl 2))).1:=V7 a;refine pC (AV [pI (E (Z.shl (Z.of 1) (W.quo (W.add (Z.bitsW a.dec) (wl 1)) (wl 2)).1))]) RD (BV (E (Z.of 1)).1 (E (Z.of 1)).2 (W.quo (W.add (Z.bitsW a.dec) (wl 1)) (wl 2)) (by first | assumption | exact (Int.not_lt.1 (of_decide_eq_false (by first | assumption | exact b0_ (by assumption)))))) rfl rfl (cg1 (fun p=>AV [pI (E (Z.shl p (W.quo (W.add (Z.bitsW a.dec) (wl 1)) (wl 2)).1))]) (dB _)) ?_;refine cS rfl rfl (fT zpT (fun b11 hb11=>⟨(fun _=>sd s0),(sd s0),?_⟩));refine go3 ?_;refine cC [4,24,25,26,27,28,29,30,31,32,33,34,35] (fun g nn M=>∃ (mb11:I),(lL a nn mb11)=(lL a ((Z.nat (E (Z.shl (Z.of 1) (W.quo (W.add (Z.bitsW a.dec) (wl 1)) (wl 2)).1)).dec+1)) (E (Z.shl (Z.of 1) (W.quo (W.add (Z.bitsW a.dec) (wl 1)) (wl 2)).1)))∧Z.nat mb11.dec<nn∧(yJ a mb11)∧(True)∧M=[⟨b11,33,dC [pI mb11]⟩,⟨b2,33,dC [pI I0]⟩,⟨b1,33,dC [pI a]⟩]) ((Z.nat (E (Z.shl (Z.of 1) (W.quo (W.add (Z.bitsW a.dec) (wl 1)) (wl 2)).1)).dec+1)) ?start ?round
 case start=>exact ⟨_,s0,(E (Z.shl (Z.of 1) (W.quo (W.add (Z.bitsW a.dec) (wl 1)) (wl 2)).1)),rfl,Nat.lt_succ_self _,(MM h9 h10),trivial,rfl⟩
 case round =>
  rintro nn g M ⟨mb11,hT0,hq0,hinv0,-,rfl⟩;obtain ⟨k0,rfl⟩:∃ m,nn=m+1:=⟨nn - 1,by omega⟩;simp only [eJ];refine go_ ?_;refine gds (sk (sk (sk (s0)))) [0,4,8,12,16,20,25,29] [7] mix (by kernel_rfl) (go3 ?_);refine pC (AV [pI (E (Z.quo a.dec mb11.dec))]) yN (kV a.1 mb11.1 a.2 mb11.2) rfl rfl rfl (pC (AV [pI (E (Z.add mb11.dec (Z.quo a.dec mb11.dec)))]) yO (kU mb11.1 (E (Z.quo a.dec mb11.dec)).1 mb11.2 (E (Z.quo a.dec mb11.dec)).2) rfl rfl (cg2 (fun p q=>AV [pI (E (Z.add p q))]) rfl (dB _)) ?_);have hhf:=V6 hinv0;refine pC (AV [pI (E (Z.half (Z.add mb11.dec (Z.quo a.dec mb11.dec))))]) RD (EG (E (Z.add mb11.dec (Z.quo a.dec mb11.dec))).1 (E (Z.add mb11.dec (Z.quo a.dec mb11.dec))).2 (by assumption)) rfl rfl (cg1 (fun p=>AV [pI (E (Z.half p))]) (dB _)) (cS rfl rfl (fT zpT (fun b20 hb20=>⟨(fun _=>sd s0),(sd s0),?_⟩)));refine go6 ?_;refine sC (.int .i64 ((Z.cmpW (Z.half (Z.add mb11.dec (Z.quo a.dec mb11.dec))) mb11.dec).1)) YX (E1 (E (Z.half (Z.add mb11.dec (Z.quo a.dec mb11.dec)))).1 mb11.1 (E (Z.half (Z.add mb11.dec (Z.quo a.dec mb11.dec)))).2 mb11.2) rfl rfl (cg2 (fun p q=>Value.int .i64 (Z.cmpW p q).1) (dB _) rfl) (go2 ?_);refine aK _ rfl (fun h21=>?_) (fun h21=>?_)
  ·refine go5 ?_;refine aS rfl (.inr rfl) (fB rfl m2 tyT rfl) ?_;exact congrArg vS2 (show _=(fH a) from aM h9 (aM h10 ((JZ rfl (hT0.symm.trans (Eq.symm (aE h21 rfl)))))))
  refine go5 ?_;refine ⟨pp_,_,_,(sd (s0)),(Nat.lt_succ_self _),(E (Z.half (Z.add mb11.dec (Z.quo a.dec mb11.dec)))),(by exact (hT0.symm.trans (Eq.symm (aM h21 rfl))).symm),(Nat.lt_of_lt_of_le (TG hinv0 h21) (Nat.le_of_lt_succ hq0)),(PN hinv0),trivial,rfl⟩
theorem AO (h:Path) :
    Ret Tryz.prog 12 [AV [cw h.from_.x.x.1,cw h.from_.x.y.1,cw h.from_.x.z.1,cw h.from_.q.x.1,cw h.from_.q.y.1,cw h.from_.q.z.1,cw h.from_.q.t.1,cw h.to_.x.x.1,cw h.to_.x.y.1,cw h.to_.x.z.1,cw h.to_.q.x.1,cw h.to_.q.y.1,cw h.to_.q.z.1,cw h.to_.q.t.1]] (AV [cw (((((dS h).from_).x).x).1),cw (((((dS h).from_).x).y).1),cw (((((dS h).from_).x).z).1),cw (((((dS h).from_).q).x).1),cw (((((dS h).from_).q).y).1),cw (((((dS h).from_).q).z).1),cw (((((dS h).from_).q).t).1),cw (((((dS h).to_).x).x).1),cw (((((dS h).to_).x).y).1),cw (((((dS h).to_).x).z).1),cw (((((dS h).to_).q).x).1),cw (((((dS h).to_).q).y).1),cw (((((dS h).to_).q).z).1),cw (((((dS h).to_).q).t).1)]):=by
 refine aW (N:=8) Tryz.func12 rfl rfl (by simp) (fun w0=>?_);simp only [bA,Nat.reduceAdd];refine go2 ?_;intro b1 hb1;refine go_ ?_;intro b2 hb2;refine iE ?_;refine aS rfl (.inr rfl) (fB rfl m0 tyT rfl) ?_;exact (by rfl)

theorem tJ (p:Pose) :
    Ret Tryz.prog 16 [AV [cw p.x.x.1,cw p.x.y.1,cw p.x.z.1,cw p.q.x.1,cw p.q.y.1,cw p.q.z.1,cw p.q.t.1]] (AV [cw (((((eO p).from_).x).x).1),cw (((((eO p).from_).x).y).1),cw (((((eO p).from_).x).z).1),cw (((((eO p).from_).q).x).1),cw (((((eO p).from_).q).y).1),cw (((((eO p).from_).q).z).1),cw (((((eO p).from_).q).t).1),cw (((((eO p).to_).x).x).1),cw (((((eO p).to_).x).y).1),cw (((((eO p).to_).x).z).1),cw (((((eO p).to_).q).x).1),cw (((((eO p).to_).q).y).1),cw (((((eO p).to_).q).z).1),cw (((((eO p).to_).q).t).1)]):=by
 refine aW (N:=6) Tryz.func16 rfl rfl (by simp) (fun w0=>?_);simp only [bA,Nat.reduceAdd];refine go2 ?_;intro b1 hb1;refine go_ ?_;intro b2 hb2;refine go8 ?_;refine aS rfl (.inr rfl) (fB rfl m0 tyT rfl) ?_;exact (by rfl)

theorem oZ (h:Path) :
    Ret Tryz.prog 53 [AV [cw h.from_.x.x.1,cw h.from_.x.y.1,cw h.from_.x.z.1,cw h.from_.q.x.1,cw h.from_.q.y.1,cw h.from_.q.z.1,cw h.from_.q.t.1,cw h.to_.x.x.1,cw h.to_.x.y.1,cw h.to_.x.z.1,cw h.to_.q.x.1,cw h.to_.q.y.1,cw h.to_.q.z.1,cw h.to_.q.t.1]] (.bool (oP h)):=by
 refine aW (N:=8) Tryz.func53 rfl rfl (by simp) (fun w0=>?_);simp only [bA,Nat.reduceAdd];refine go2 ?_;intro b1 hb1;refine go7 ?_;refine sQ (d5 (r:=(decide (h.from_.x.x.1=h.to_.x.x.1)&&(decide (h.from_.x.y.1=h.to_.x.y.1)&&(decide (h.from_.x.z.1=h.to_.x.z.1)&&(decide (h.from_.q.x.1=h.to_.q.x.1)&&(decide (h.from_.q.y.1=h.to_.q.y.1)&&(decide (h.from_.q.z.1=h.to_.q.z.1)&&decide (h.from_.q.t.1=h.to_.q.t.1)))))))) rfl rfl (cL 8 dd_ bn_ bP_ (aB bI (aB bI (aB bI (aB bI (aB bI (aB bI (bP bI))))))) (aB bI (aB bI (aB bI (aB bI (aB bI (aB bI (bP bI))))))) (aG rfl dO (aG rfl dO (aG rfl dO (aG rfl dO (aG rfl dO (aG rfl dO (dA dO))))))))) rfl (go3 ?_);refine aS rfl (.inr rfl) rfl ?_;exact (by rfl)

theorem DJ (p_c:Option Addr) (c_c:Nat) (c:(List (A3 W))) (w:World) (hc:Slr w elV (.slice p_c c.length c_c) c) :
    Calls Tryz.prog 28 [AV [csl p_c c.length c_c]].toArray w (fun e w'=>e = .returned (.int .i64 ((eD c).1))∧Ext w w'):=by
 refine cX (N:=50) Tryz.func28 rfl rfl (by simp) ?_;obtain ⟨w0,rfl⟩:∃ w0,w0=w:=⟨_,rfl⟩;have Hc:=hc.old;have hm_c:=hc.max;simp only [bA,Nat.reduceAdd];refine go2 ?_;intro b1 hb1;refine go9 ?_;refine sQ (aI (v':=.int .i64 (((c).length:Nat):Int)) (fR (e:=elV) XN rfl (SLe.sub Hc sn)) rfl) rfl (go2 ?_);refine gJ3 [3,5,11,12,13,14,15,16,17,18,19,20,21,22,23,24,25,26,27,28,29,30,31,32,33,34] (fun g M=>∃ (k:W),(jZ c c (wl 0))=k∧(g 3 = .int .i64 k.1)∧M=[⟨b1,52,dC [csl p_c c.length c_c]⟩]) (fun K_u2 hK_u2=>?_) ?_
 ·refine go_ ?_;have hmx0:(c).length≤9223372036854775807:=hm_c;refine cC [3,5,11,12,13,14,15,16,17,18,19,20,21,22,23,24,25,26,27,28,29,30,31,32,33,34] (fun g nn M=>∃ (i0:Nat) (l0:List (A3 W)) (k:W),(jZ c l0 k)=(jZ c c (wl 0))∧(c).drop i0=l0∧l0.length=nn∧g 11 = .int .i64 ((i0:Nat):Int)∧(g 3 = .int .i64 k.1)∧M=[⟨b1,52,dC [csl p_c c.length c_c]⟩]) (c).length ?start ?round
  case start=>exact ⟨_,s0,0,c,(wl 0),rfl,rfl,rfl,rfl,rfl,rfl⟩
  case round =>
   rintro nn g M ⟨i0,l0,k,hT0,hr0,rfl,hgi,hg3,rfl⟩;simp only [eJ,hgi,hg3];clear hgi hg3;refine go4 ?_;rcases l0 with _ | ⟨x0,l0⟩
   ·have h7:=GJ hr0;refine W_f h7 rfl (go_ ?_);refine hK_u2 _ _ pp_ ⟨_,s0,k,(by exact hT0.symm.trans (Eq.symm (rfl))),rfl,rfl⟩
   have h8:=CN hr0;have g9:=xJ hr0;refine W_t h8 rfl (go4 ?_);refine sQ (aI (v':=.pointer (some (slb (.slice p_c c.length c_c) (i0 * 3+0)))) (nC (e:=elV) (l:=c) (k:=i0) XN rfl rfl (SLe.sub Hc sn) g9.2.1) rfl) rfl (sQ (pG (e:=elV) (l:=c) (k:=i0) (o:=0) tyT rfl (SLe.sub Hc sn) g9.1 rfl) rfl (go_ ?_));intro b10 hb10;refine go8 ?_;refine sV (.int .i64 ((W.mul x0.x x0.x).1)) rfl rfl (go4 ?_);refine sV (.int .i64 ((W.mul x0.y x0.y).1)) rfl rfl (sV (.int .i64 ((W.add (W.mul x0.x x0.x) (W.mul x0.y x0.y)).1)) rfl rfl (go4 ?_));refine sV (.int .i64 ((W.mul x0.z x0.z).1)) rfl rfl (sV (.int .i64 ((W.add (W.add (W.mul x0.x x0.x) (W.mul x0.y x0.y)) (W.mul x0.z x0.z)).1)) rfl rfl (sQ (aI (v':=.int .i64 ((W.max k (W.add (W.add (W.mul x0.x x0.x) (W.mul x0.y x0.y)) (W.mul x0.z x0.z))).1)) (mB rfl rfl) (congrArg (Value.int .i64) (W.max_1 k (W.add (W.add (W.mul x0.x x0.x) (W.mul x0.y x0.y)) (W.mul x0.z x0.z))))) rfl (go3 ?_)));refine sV (.int .i64 ((i0+1:Nat):Int)) rfl (congrArg (Value.int .i64) (nxt g9.2.1 hmx0)) (go2 ?_);refine ⟨pp_,_,_,(sd (s0)),(Nat.lt_succ_self _),i0+1,l0,(W.max k (W.add (W.add (W.mul x0.x x0.x) (W.mul x0.y x0.y)) (W.mul x0.z x0.z))),(by exact (hT0.symm.trans (Eq.symm (rfl))).symm),g9.2.2,rfl,rfl,rfl,rfl⟩
 rintro g M ⟨k,hCu2,hg3,rfl⟩;simp only [eJ,hg3];clear hg3;refine go2 ?_;refine sC (AV [pI (E (Z.of k.1))]) kW (cN k.1 k.2) rfl rfl rfl (sQ (aZ bD_ (EH (E (Z.of k.1))) rfl) rfl (sC (.tuple #[.int .i64 ((Z.smallW (fH (E (Z.of k.1))).dec).1),.bool ((fH (E (Z.of k.1))).dec.small.2)]) RO (qX (fH (E (Z.of k.1))).1 (fH (E (Z.of k.1))).2) rfl rfl rfl (iE ?_)));refine sV (.int .i64 ((W.mul (Z.smallW (fH (E (Z.of k.1))).dec) (Z.smallW (fH (E (Z.of k.1))).dec)).1)) rfl rfl (go3 ?_);refine aK _ rfl (fun h11=>?_) (fun h11=>?_)
 ·have ph11:=of_decide_eq_true h11;refine go2 ?_;refine sV (.int .i64 ((W.add (Z.smallW (fH (E (Z.of k.1))).dec) (wl 1)).1)) rfl rfl ?_;refine go7 ?_;refine aS rfl (.inr rfl) rfl ?_;exact congrArg vS5 (show _=(eD c) from (by unfold eD;exact trs (Eq.symm (apS hCu2)) (aE h11 rfl)))
 have ph11:=of_decide_eq_false h11;refine go6 ?_;refine aS rfl (.inr rfl) rfl ?_;exact congrArg vS5 (show _=(eD c) from (by unfold eD;exact trs (Eq.symm (apS hCu2)) (aM h11 rfl)))

theorem HD (h:Path) (p_c:Option Addr) (c_c:Nat) (c:(List (A3 W))) (w:World) (hc:Slr w elV (.slice p_c c.length c_c) c) :
    Calls Tryz.prog 34 [AV [cw h.from_.x.x.1,cw h.from_.x.y.1,cw h.from_.x.z.1,cw h.from_.q.x.1,cw h.from_.q.y.1,cw h.from_.q.z.1,cw h.from_.q.t.1,cw h.to_.x.x.1,cw h.to_.x.y.1,cw h.to_.x.z.1,cw h.to_.q.x.1,cw h.to_.q.y.1,cw h.to_.q.z.1,cw h.to_.q.t.1],AV [csl p_c c.length c_c]].toArray w (fun e w'=>e = .returned (.tuple #[AV [cw ((((kQ h c).1).x).1),cw ((((kQ h c).1).y).1),cw ((((kQ h c).1).z).1)],AV [cw ((((kQ h c).2).x).1),cw ((((kQ h c).2).y).1),cw ((((kQ h c).2).z).1)]])∧Ext w w'):=by
 refine cX (N:=43) Tryz.func34 rfl rfl (by simp) ?_;obtain ⟨w0,rfl⟩:∃ w0,w0=w:=⟨_,rfl⟩;have Hc:=hc.old;have hm_c:=hc.max;simp only [bA,Nat.reduceAdd];refine go2 ?_;intro b1 hb1;refine go_ ?_;intro b2 hb2;refine go_ ?_;intro b3 hb3;refine go_ ?_;intro b4 hb4;refine go3 ?_;refine sQ (aI (v':=.int .i64 ((eD c).1)) (bR bq_ rfl (fun w hw=>DJ _ _ c w (aR hw Hc sn))) rfl) rfl (iE ?_);refine qQ 5 (go2 ?_);refine sV (.bool true) rfl rfl (x9 ?_);refine gdr (sd (sd s0)) [0,8,12,16,20,24,28,32,36,40,80,6,46,50,54,58,62,66,70,74,78,85,88,93] [21,23] mix (by kernel_rfl) (go7 ?_);refine pQ rfl (aI (v':=.int .i64 ((W.min h.from_.x.x h.to_.x.x).1)) (DP rfl rfl) (congrArg (Value.int .i64) (W.min_1 h.from_.x.x h.to_.x.x))) (go_ ?_);refine pV (.int .i64 ((W.sub (W.min h.from_.x.x h.to_.x.x) (eD c)).1)) rfl rfl (go4 ?_);refine qZ rfl rfl (nV (off':=7) (bB fdT dd_ rfl) rfl) (qZ rfl rfl (nV (off':=7) (bB fdT dd_ rfl) rfl) (qZ rfl rfl (nV (off':=7) (cU arT rfl rfl dd_ dd_) rfl) (qZ rfl rfl (xO (v:=.int .i64 h.to_.x.x.1) tyT rfl m1 rfl) (qZ rfl rfl (aI (v':=.int .i64 ((W.max h.from_.x.x h.to_.x.x).1)) (mB rfl rfl) (congrArg (Value.int .i64) (W.max_1 h.from_.x.x h.to_.x.x))) (go_ ?_)))));refine tV (.int .i64 ((W.add (W.max h.from_.x.x h.to_.x.x) (eD c)).1)) rfl rfl (go5 ?_);refine sV (.int .i64 1) rfl rfl (go4 ?_);refine sV (.bool true) rfl rfl (x9 ?_);refine gdr (sd (sd s0)) [0,8,12,16,20,24,28,32,36,40,80,6,46,50,54,58,62,66,70,74,78,85,88,93] [21,23] mix (by kernel_rfl) (go7 ?_);refine pQ rfl (aI (v':=.int .i64 ((W.min h.from_.x.y h.to_.x.y).1)) (DP rfl rfl) (congrArg (Value.int .i64) (W.min_1 h.from_.x.y h.to_.x.y))) (go_ ?_);refine pV (.int .i64 ((W.sub (W.min h.from_.x.y h.to_.x.y) (eD c)).1)) rfl rfl (go4 ?_);refine qZ rfl rfl (nV (off':=7) (bB fdT dd_ rfl) rfl) (qZ rfl rfl (nV (off':=7) (bB fdT dd_ rfl) rfl) (qZ rfl rfl (nV (off':=8) (cU arT rfl rfl dd_ dd_) rfl) (qZ rfl rfl (xO (v:=.int .i64 h.to_.x.y.1) tyT rfl m1 rfl) (qZ rfl rfl (aI (v':=.int .i64 ((W.max h.from_.x.y h.to_.x.y).1)) (mB rfl rfl) (congrArg (Value.int .i64) (W.max_1 h.from_.x.y h.to_.x.y))) (go_ ?_)))));refine tV (.int .i64 ((W.add (W.max h.from_.x.y h.to_.x.y) (eD c)).1)) rfl rfl (go5 ?_);refine sV (.int .i64 2) rfl rfl (go4 ?_);refine sV (.bool true) rfl rfl (x9 ?_);refine gdr (sd (sd s0)) [0,8,12,16,20,24,28,32,36,40,80,6,46,50,54,58,62,66,70,74,78,85,88,93] [21,23] mix (by kernel_rfl) (go7 ?_);refine pQ rfl (aI (v':=.int .i64 ((W.min h.from_.x.z h.to_.x.z).1)) (DP rfl rfl) (congrArg (Value.int .i64) (W.min_1 h.from_.x.z h.to_.x.z))) (go_ ?_);refine pV (.int .i64 ((W.sub (W.min h.from_.x.z h.to_.x.z) (eD c)).1)) rfl rfl (go4 ?_);refine qZ rfl rfl (nV (off':=7) (bB fdT dd_ rfl) rfl) (qZ rfl rfl (nV (off':=7) (bB fdT dd_ rfl) rfl) (qZ rfl rfl (nV (off':=9) (cU arT rfl rfl dd_ dd_) rfl) (qZ rfl rfl (xO (v:=.int .i64 h.to_.x.z.1) tyT rfl m1 rfl) (qZ rfl rfl (aI (v':=.int .i64 ((W.max h.from_.x.z h.to_.x.z).1)) (mB rfl rfl) (congrArg (Value.int .i64) (W.max_1 h.from_.x.z h.to_.x.z))) (go_ ?_)))));refine tV (.int .i64 ((W.add (W.max h.from_.x.z h.to_.x.z) (eD c)).1)) rfl rfl (go5 ?_);refine sV (.int .i64 3) rfl rfl (go4 ?_);refine sV (.bool false) rfl rfl (go4 ?_);refine mT (sk (sk (sd (sd (s0))))) ?_;refine gDs sn (.quiet 0 [2,3] (.both 1 (.only 2 (.only 3 (.fin))) 2 (.quiet 1 [3] (.only 3 (.fin))))) [0,1] mix (by kernel_rfl) (by kernel_rfl) (go_ ?_);refine EN ?_ ?_
 ·refine cS rfl rfl (CG (NV tyT rfl m0 rfl) ⟨fun _=>s0,sn,go4 ?_⟩);refine mD rfl (.inr rfl) (fB rfl m1 tyT rfl) (fB rfl m0 tyT rfl) ?_;exact (by rfl)
 refine go5 ?_;refine mD rfl (.inr rfl) (fB rfl m1 tyT rfl) (fB rfl m0 tyT rfl) ?_;exact (by rfl)
end Go.Proofs.YtbjlhfochebmiaaGreatDoor


namespace Go.Num
open Go Go.Kn
theorem PK {a:Rt} (h:aP a=true):cfP (cfN a.d) a.d:=by
  unfold aP at h
  cases h1:(!a.n.1.good||(!a.d.1.good))
  · rw [h1,cond_false] at h
    simp only [Bool.and_eq_true,decide_eq_true_eq] at h;exact OP h.1
  rw [h1,cond_true] at h;cases h
theorem VU {a b:Bool} (h:(!a || !b)=false):a=true:=by cases a with | true=>rfl | false=>cases h
end Go.Num

