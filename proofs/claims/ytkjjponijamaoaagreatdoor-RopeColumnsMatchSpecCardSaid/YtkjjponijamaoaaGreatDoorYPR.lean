/- Lemmas: what they ask stands in their statements. -/
import Derived.Test.YtkjjponijamaoaaGreatDoorYFo3
import Derived.Test.YtkjjponijamaoaaGreatDoorYWh
set_option linter.unusedSimpArgs false
set_option linter.unusedVariables false
set_option maxHeartbeats 8000000
set_option maxRecDepth 20000

namespace Go.Num
open Go Go.Kn
theorem ef_ (a:I):rV [a]=a.1.good:=by
  unfold rV sO sO R.good
  cases a.1.bad <;> cases a.1.valid <;> rfl
def MW (a m:I):Prop:=∃ v r:Nat,a.dec=Z.of (v:Int)∧0<v∧v<4294967296 ^ 16∧m=E (Z.of (r:Int))∧C4 v≤r∧0<r∧r≤2 ^ 256
theorem l4_ {m k:Nat} (hm:4294967296 ^ 16=2 ^ m) (hk:m=k+k):(4294967296:Nat) ^ 16=2 ^ k * 2 ^ k:=by rw [hm,hk,Nat.pow_add]
theorem r7_:(4294967296:Nat) ^ 16=2 ^ 256 * 2 ^ 256:=l4_ OU rfl
theorem c4_ {v:Nat} (h:0<v) (hv:v<4294967296 ^ 16):0<C4 v:=by
  have:=(AO hv).2;rcases Nat.eq_zero_or_pos (C4 v) with h0 | h0
  · rw [h0] at this;omega
  exact h0
theorem kz_ {v:Nat} (hv:v<4294967296 ^ 16):C4 v<2 ^ 256:=by
  have:=(AO hv).1;rw [r7_] at hv;generalize 2 ^ 256=q at *;rcases Nat.lt_or_ge (C4 v) q with h | h
  · exact h
  have:=Nat.mul_le_mul h h;omega
theorem p0_ {v r s:Nat} (h1:s * s≤v) (h2:v<(s+1) * (s+1)) (hs:0<s) (hr:s≤r):s≤(r+v / r) / 2∧v / r≤s+2∧(r≤(r+v / r) / 2→r=s):=by
  have r0:0<r:=by omega
  have q1:r * (v / r)≤v:=Nat.mul_div_le v r
  have q2:v<r * (v / r+1):=by rw [Nat.mul_add,Nat.mul_one];exact Nat.lt_mul_div_succ v r0
  generalize v / r=q at *
  have e1:(s+1) * (s+1)=s * s+2 * s+1:=by rw [Nat.add_mul,Nat.mul_add];omega
  refine ⟨?_,?_,?_⟩
  · rw [Nat.le_div_iff_mul_le dd_]
    rcases Nat.lt_or_ge (r+q) (s * 2) with h | h
    · exfalso
      obtain ⟨d,rfl⟩:∃ d,r=s+d:=⟨r - s,by omega⟩
      have hq:q+1≤s - d:=by omega
      have hd:d≤s:=by omega
      have h3:=Nat.mul_le_mul_left (s+d) hq
      have h4:(s+d) * (s - d)≤s * s:=by
        obtain ⟨t,rfl⟩:∃ t,s=d+t:=⟨s - d,by omega⟩;rw [Nat.add_sub_cancel_left]
        have:(d+t) * (d+t)=(d+t+d) * t+d * d:=by grind
        omega
      omega
    omega
  · rcases Nat.lt_or_ge (s+2) q with h | h
    · exfalso
      have h3:=Nat.mul_le_mul hr (show s+3≤q by omega)
      have:s * (s+3)=s * s+3 * s:=by grind
      omega
    exact h
  intro h
  have h3:r≤q:=by rw [Nat.le_div_iff_mul_le dd_] at h;omega
  have h4:=Nat.mul_le_mul_left r h3;rcases Nat.lt_or_ge s r with h5 | h5
  · have:=bj_ h5;omega
  omega
theorem nB {n:Nat} (h:n<4294967296 ^ 16):(n:Int).natAbs<4294967296 ^ 16:=by rwa [Int.natAbs_natCast]
theorem W3:(2:Nat) ^ 256+2 ^ 256+2<4294967296 ^ 16:=by decide +kernel
theorem UQ {a m:I} (h:MW a m):∃ v r:Nat,a.dec=Z.of (v:Int)∧0<v∧v<4294967296 ^ 16∧m.dec=Z.of (r:Int)∧C4 v≤r∧0<r∧r≤2 ^ 256∧r<4294967296 ^ 16∧m=E (Z.of (r:Int)) ∧
    Z.add m.dec (Z.quo a.dec m.dec)=Z.of ((r+v / r:Nat):Int)∧r+v / r<4294967296 ^ 16∧Z.half (Z.add m.dec (Z.quo a.dec m.dec))=Z.of (((r+v / r) / 2:Nat):Int)∧C4 v≤(r+v / r) / 2∧(r+v / r) / 2≤2 ^ 256∧(r≤(r+v / r) / 2→r=C4 v):=by
  obtain ⟨v,r,ha,hv,hv2,rfl,h1,h2,h3⟩:=h;have s0:=c4_ hv hv2;have s1:=kz_ hv2;obtain ⟨n1,n2,n3⟩:=p0_ (AO hv2).1 (AO hv2).2 s0 h1;have hb:=W3
  have r1:r<4294967296 ^ 16:=by omega
  have q1:v / r<4294967296 ^ 16:=by omega
  have t1:r+v / r<4294967296 ^ 16:=by omega
  have e1:Z.quo (Z.of (v:Int)) (Z.of (r:Int))=Z.of ((v / r:Nat):Int):=by
    unfold Z.quo;rw [gZ (Z.of_some (nB hv2)) (Z.of_some (nB r1)),if_neg oo_]
    congr 1
    rw [Int.fdiv_eq_ediv_of_nonneg _ oo_];rfl
  have e2:Z.add (Z.of (r:Int)) (Z.of ((v / r:Nat):Int))=Z.of ((r+v / r:Nat):Int):=by
    unfold Z.add;rw [gZ (Z.of_some (nB r1)) (Z.of_some (nB q1))]
    congr 1
  have e3:Z.half (Z.of ((r+v / r:Nat):Int))=Z.of (((r+v / r) / 2:Nat):Int):=by
    unfold Z.half;rw [rB (Z.of_some (nB t1))]
    congr 1
  refine ⟨v,r,ha,hv,hv2,by rw [eD],h1,h2,h3,r1,rfl,?_,t1,?_,n1,?_,n3⟩
  · rw [ha,eD,e1,e2]
  · rw [ha,eD,e1,e2,e3]
  generalize 2 ^ 256=q at *;omega
theorem ep_ {n:Nat} (h:n<4294967296 ^ 16):(E (Z.of (n:Int))).1.neg=false:=by
  show (Z.of (n:Int)).enc.neg=false
  unfold Z.enc;rw [Z.of_some (nB h)];exact decide_eq_false (show ¬ ((n:Int)<0) by omega)
theorem mA_ {a m:I} (h:MW a m):(E (Z.add m.dec (Z.quo a.dec m.dec))).1.neg=false:=by
  obtain ⟨v,r,_,_,_,_,_,_,_,_,_,e,t,_⟩:=UQ h;rw [e];exact ep_ t
theorem ZC {a m:I} (h:MW a m):MW a (E (Z.half (Z.add m.dec (Z.quo a.dec m.dec)))):=by
  obtain ⟨v,r,ha,hv,hv2,_,_,_,_,_,_,_,_,e,n1,n2,_⟩:=UQ h;have:=c4_ hv hv2;exact ⟨v,(r+v / r) / 2,ha,hv,hv2,by rw [e],n1,by omega,n2⟩
theorem jV_ {n:Nat} (h:n<4294967296 ^ 16):Z.nat (Z.of (n:Int))=n:=by
  unfold Z.nat;rw [Z.of_some (nB h)];exact Int.natAbs_natCast n
theorem b1_ {m n:Nat} (hm:m<4294967296 ^ 16) (hn:n<4294967296 ^ 16):decide (0≤(Z.cmpW (Z.of (m:Int)) (Z.of (n:Int))).1)=decide (n≤m):=by
  congr 1
  show (0≤Z.cmp (Z.of (m:Int)) (Z.of (n:Int)))=_
  unfold Z.cmp;rw [Z.of_some (nB hm),Z.of_some (nB hn)];simp only;unfold CU
  apply propext
  constructor
  · intro h
    split at h
    · omega
    split at h <;> omega
  intro h
  split
  · omega
  split <;> omega
theorem c3_ {a m:I} (h:MW a m) (hc:decide (0≤(Z.cmpW (Z.half (Z.add m.dec (Z.quo a.dec m.dec))) m.dec).1)=false):Z.nat (E (Z.half (Z.add m.dec (Z.quo a.dec m.dec)))).dec<Z.nat m.dec:=by
  obtain ⟨v,r,ha,hv,hv2,hm,_,_,_,r1,_,_,t,e,n1,n2,_⟩:=UQ h;have hb:=W3
  have t1:(r+v / r) / 2<4294967296 ^ 16:=by omega
  rw [e,hm,b1_ t1 r1] at hc;have:=of_decide_eq_false hc;rw [e,hm,eD,jV_ t1,jV_ r1];omega
theorem kA_ (a:I):(W.quo (W.add (Z.bitsW a.dec) (wl 1)) (wl 2)).1=(((a.dec.bits+1) / 2:Nat):Int):=by
  have h:=Z.bits_le a.dec
  have e1:(W.add (Z.bitsW a.dec) (wl 1)).1=((a.dec.bits+1:Nat):Int):=by
    show IntKind.i64.wrap (((Z.bits a.dec:Nat):Int)+1)=_
    rw [wi oo_];rfl
  show IntKind.i64.wrap ((W.add (Z.bitsW a.dec) (wl 1)).1.tdiv 2)=_
  rw [e1,Int.tdiv_eq_ediv_of_nonneg oo_];rw [wi oo_];rfl
theorem mB_ (a:I):0≤(W.quo (W.add (Z.bitsW a.dec) (wl 1)) (wl 2)).1:=by rw [kA_];omega
theorem WX {a:I} (h1:(!(rV [a])||a.1.neg)=false) (h2:((Z.signW a.dec).1==0)=false):MW a (E (Z.shl (Z.of 1) (W.quo (W.add (Z.bitsW a.dec) (wl 1)) (wl 2)).1)):=by
  rw [ef_,Bool.or_eq_false_iff,Bool.not_eq_false'] at h1;obtain ⟨ga,hn⟩:=h1;have hv:=ZS a.2
  have ea:a.dec=Z.of ((val a.1.w:Nat):Int):=by
    show a.1.dec=_
    unfold R.dec;rw [if_pos ga,hn];rfl
  have v0:0<val a.1.w:=by
    rcases Nat.eq_zero_or_pos (val a.1.w) with h | h
    · exfalso
      rw [ea,h] at h2
      revert h2;decide +kernel
    exact h
  have eb:a.dec.bits=bl (val a.1.w):=IE a.2 ga;have hbl:=Z.bits_le a.dec
  have hk:(a.dec.bits+1) / 2≤256:=by omega
  have hlt:val a.1.w<2 ^ ((a.dec.bits+1) / 2) * 2 ^ ((a.dec.bits+1) / 2):=by
    rw [← Nat.pow_add];refine Nat.lt_of_lt_of_le (SQ _) (Nat.pow_le_pow_right dd_ ?_);rw [← eb];omega
  have hle:2 ^ ((a.dec.bits+1) / 2)≤2 ^ 256:=Nat.pow_le_pow_right dd_ hk;have hp:0<2 ^ ((a.dec.bits+1) / 2):=Nat.pow_pos dd_;refine ⟨val a.1.w,2 ^ ((a.dec.bits+1) / 2),ea,v0,hv,?_,?_,hp,hle⟩
  · rw [kA_]
    congr 1
    unfold Z.shl;rw [rB (Z.of_some dd_),Int.toNat_natCast,Int.one_mul]
    congr 1
  have:=(AO hv).1;generalize 2 ^ ((a.dec.bits+1) / 2)=q at *;rcases Nat.lt_or_ge q (C4 (val a.1.w)) with h | h
  · have:=Nat.mul_le_mul (Nat.le_of_lt h) (Nat.le_of_lt h);omega
  exact h
end Go.Num

namespace Go.Proofs.YtkjjponijamaoaaGreatDoor
open Go.Kn Go.Num
theorem TT (a:R) (ha:a.Ok) (m:Nat) (hm:(m:Int)≤9223372036854775807) :
    Ret Tryz.prog 154 [RV a,.int .i64 (m:Int)] (RV (Z.shl a.dec (m:Int)).enc):=by
 refine cM (N:=75) Tryz.func154 rfl rfl (by simp) (fun w0=>?_);simp only [cS,Nat.reduceAdd];refine Sq fun K1 J1=>Rk fun K J=>bA rfl (qR rfl rfl (fun b2 hb2=>bA rfl (i1 oM (fun b4 hb4=>nl J (J1 _ _ (Sq fun K2 J2=>aJ (Sq fun K3 J3=>Rk fun K J=>sQ (eG aD rfl mm_ (eO ha)) rfl ?_)))))));refine bA rfl (pW oV oM pX rfl dd_ rfl (F8 ha) (fun b9 hb9=>sQ (dA BH rfl (fun w hw=>oE [a] (ok1 ha) b9 31 w (hw.mem _ m0) (by simp))) rfl ?_));refine sE rfl (sE rfl (nl J (J3 _ _ ?_)));refine fN _ rfl (fun hg=>?_) (fun hg=>?_)
 ·replace hg:=cB_ hg
  refine Sq fun K4 J4=>Rk fun K J=>sQ (bZ BB kO rfl) rfl (bA rfl (dX aD rfl rfl uu_ (aS _) rfl (dL _) (.inl (by assumption)) ?_));refine nl J (J4 _ _ (aL (aT (aB (cC rfl (.inr rfl) ⟨_,_,_,_,_,_,rfl,mm_,aD,_,(gS (aS _)),(aS _),rfl⟩ ?_)))))
  (rw [Z.shl,IQ (by unfold R.dec;rw [if_neg (by simpa using hg)];rfl)];rfl)
 replace hg:=cB_ hg
 refine Sq fun K5 J5=>Rk fun K J=>sQ (eG aD rfl mm_ (eO ha)) rfl ?_;refine sQ (bZ C0 (k9 a ha) rfl) rfl (sE rfl (sE rfl (nl J (J5 _ _ ?_))));refine fN _ rfl (fun hs=>?_) (fun hs=>?_)
 ·replace hs:=cB_ hs
  refine Sq fun K6 J6=>Rk fun K J=>sQ (eG aD rfl mm_ (eO ha)) rfl ?_;refine bA rfl (dX aD rfl rfl uu_ (eO ha) rfl (dL _) (.inl (by assumption)) ?_);refine nl J (J6 _ _ (aL (aT (aB (cC rfl (.inr rfl) ⟨_,_,_,_,_,_,rfl,mm_,aD,_,(gS (eO ha)),(eO ha),rfl⟩ ?_)))));exact congrArg RV (mE_ ha (by simpa using hg) hs m)
 replace hs:=cB_ hs
 refine Sq fun K7 J7=>Rk fun K J=>sE rfl (sE rfl (sE rfl ?_))
 cases h5:decide ((m:Int) ≥ 512)
 ·refine sE rfl (sE rfl (sE rfl ?_))
  cases h6:decide ((m:Int) > 0)
  ·refine aI rfl (aI rfl (aI rfl (aI rfl (aI rfl (sE rfl (sE rfl (sE rfl (nl J (J7 _ _ (gJ rfl (Sq fun K8 J8=>Rk fun K J=>sE rfl (sE rfl (sE rfl (nl J (J8 _ _ ?_)))))))))))))));refine fN _ rfl (fun h33=>?_) (fun h33=>?_)
   ·replace h33:=cB_ h33
    exact absurd h33 oo_ --done
   replace h33:=cB_ h33
   refine aG (J2 _ _ (Sq fun K9 J9=>?_))
   have hm5:m<512:=by have:=of_decide_eq_false h5;omega
   have hfar:m / 32≤15:=by omega
   refine Rk fun K J=>bA rfl (i1 y6 (fun b5 hb5=>nl J (J9 _ _ (Sq fun K10 J10=>Rk fun K J=>sE rfl (sQ (aZ (rA rfl rfl dd_) (congrArg (Value.int .i64) (shq 32 dd_ hm))) rfl (sE rfl (nl J (J10 _ _ (Sq fun K11 J11=>Sq fun K12 J12=>Rk fun K J=>sE rfl (sE rfl (nl J (J12 _ _ ?_))))))))))));refine fN _ rfl (fun h42=>?_) (fun h42=>?_)
   ·replace h42:=cB_ h42
    refine Sq fun K13 J13=>dr (sd (sk (sk (sk (s0))))) [0,4,8,12,17] [4] mix (by kernel_rfl) (fun K J=>pE rfl (pQ rfl (EI mI rfl rfl rfl oo_ oo_ oo_ oo_) (pQ rfl (eX jY dd_ rfl) (pQ rfl (EI mI rfl rfl rfl dd_ dd_ dd_ dd_) ?_))));refine d7 rfl rfl (a5_ bh_ rfl rfl mm_ uu_ (fun v hv=>dL a v (List.mem_of_mem_drop (List.mem_of_mem_take hv))) (by rw [eO ha];omega) (by simp [uw];omega) (b3_ ha hfar) (.inl (by assumption)) ⟨nf,ss_,?_⟩);refine fl J (J13 _ _ (Sq fun K14 J14=>Rk fun K J=>sQ (eG iJ rfl mm_ (by simp [uw,OR ha.len (show m / 32≤16 by omega)])) rfl ?_));refine sE rfl (sQ (aZ (w6 rfl rfl dd_) (congrArg (Value.int .i64) (shr 32 m))) rfl (sQ (bZ ay_ (FS (shw a.w (m / 32)) (OR ha.len oo_) (f7_ ha.lim) (m % 32) (Nat.mod_lt _ dd_)) rfl) rfl (sE rfl (sE rfl (sE rfl (bA rfl (dX iJ rfl rfl uu_ (by simp [uw,fT]) (by simp [uw,OR ha.len (show m / 32≤16 by omega)]) (oQ _) (.inl (by assumption)) ?_)))))));refine nl J (J14 _ _ (Sq fun K15 J15=>Rk fun K J=>sQ (eX jC dd_ rfl) rfl (sQ (iA (v:=.bool a.neg) mF rfl mm_ rfl) rfl ?_)));refine sQ (eG iJ rfl mm_ (by simp [uw,fT])) rfl ?_;refine sQ (bZ zY (kA a.neg (toL 16 (val (shw a.w (m / 32)) * 2 ^ (m % 32))) (by simp [fT]) (uP _ _)) rfl) rfl ?_;refine bA rfl (dX aD rfl rfl uu_ (o5 (by simp [fT])) rfl (dL _) (.inl (by assumption)) ?_);refine nl J (J15 _ _ (aL (aB (cC rfl (.inr rfl) ⟨_,_,_,_,_,_,rfl,mm_,aD,_,(gS (o5 (by simp [fT]))),(o5 (by simp [fT])),rfl⟩ ?_))));exact congrArg RV (kH_ ha (by simpa using hg) (by have:=Z.bits_le a.dec;have:=of_decide_eq_false h6;omega) hm5)
   replace h42:=cB_ h42
   exact absurd h42 oo_ --done
  refine sQ (eG aD rfl mm_ (eO ha)) rfl ?_;refine sQ (bZ dS_ (GP a ha) rfl) rfl (sE rfl (sQ (aZ (pH rfl rfl) (congrArg (Value.int .i64) (show _=((a.dec.bits+m:Nat):Int) from (wi (by have:=Z.bits_le a.dec;have:=of_decide_eq_false h5;omega)).trans (Int.natCast_add _ _).symm))) rfl (sE rfl (sE rfl (sE rfl (sE rfl (nl J (J7 _ _ ?_))))))));refine fN _ rfl (fun h18=>?_) (fun h18=>?_)
  ·replace h18:=cB_ h18
   refine Sq fun K16 J16=>Rk fun K J=>sQ (bZ BB kO rfl) rfl (bA rfl (dX aD rfl rfl uu_ (aS _) rfl (dL _) (.inl (by assumption)) ?_));refine nl J (J16 _ _ (aL (aT (aB (cC rfl (.inr rfl) ⟨_,_,_,_,_,_,rfl,mm_,aD,_,(gS (aS _)),(aS _),rfl⟩ ?_)))));exact congrArg RV (kG_ ha (by simpa using hg) hs (.inl oo_))
  replace h18:=cB_ h18
  refine Sq fun K17 J17=>Rk fun K J=>sE rfl (sE rfl (sE rfl (nl J (J17 _ _ ?_))));refine fN _ rfl (fun h33=>?_) (fun h33=>?_)
  ·replace h33:=cB_ h33
   exact absurd h33 oo_ --done
  replace h33:=cB_ h33
  refine aG (J2 _ _ (Sq fun K18 J18=>?_))
  have hm5:m<512:=by have:=of_decide_eq_false h5;omega
  have hfar:m / 32≤15:=by omega
  refine Rk fun K J=>bA rfl (i1 y6 (fun b5 hb5=>nl J (J18 _ _ (Sq fun K19 J19=>Rk fun K J=>sE rfl (sQ (aZ (rA rfl rfl dd_) (congrArg (Value.int .i64) (shq 32 dd_ hm))) rfl (sE rfl (nl J (J19 _ _ (Sq fun K20 J20=>Sq fun K21 J21=>Rk fun K J=>sE rfl (sE rfl (nl J (J21 _ _ ?_))))))))))));refine fN _ rfl (fun h42=>?_) (fun h42=>?_)
  ·replace h42:=cB_ h42
   refine Sq fun K22 J22=>dr (sd (sk (sk (sk (s0))))) [0,4,8,12,17] [4] mix (by kernel_rfl) (fun K J=>pE rfl (pQ rfl (EI mI rfl rfl rfl oo_ oo_ oo_ oo_) (pQ rfl (eX jY dd_ rfl) (pQ rfl (EI mI rfl rfl rfl dd_ dd_ dd_ dd_) ?_))));refine d7 rfl rfl (a5_ bh_ rfl rfl mm_ uu_ (fun v hv=>dL a v (List.mem_of_mem_drop (List.mem_of_mem_take hv))) (by rw [eO ha];omega) (by simp [uw];omega) (b3_ ha hfar) (.inl (by assumption)) ⟨nf,ss_,?_⟩);refine fl J (J22 _ _ (Sq fun K23 J23=>Rk fun K J=>sQ (eG iJ rfl mm_ (by simp [uw,OR ha.len (show m / 32≤16 by omega)])) rfl ?_));refine sE rfl (sQ (aZ (w6 rfl rfl dd_) (congrArg (Value.int .i64) (shr 32 m))) rfl (sQ (bZ ay_ (FS (shw a.w (m / 32)) (OR ha.len oo_) (f7_ ha.lim) (m % 32) (Nat.mod_lt _ dd_)) rfl) rfl (sE rfl (sE rfl (sE rfl (bA rfl (dX iJ rfl rfl uu_ (by simp [uw,fT]) (by simp [uw,OR ha.len (show m / 32≤16 by omega)]) (oQ _) (.inl (by assumption)) ?_)))))));refine nl J (J23 _ _ (Sq fun K24 J24=>Rk fun K J=>sQ (eX jC dd_ rfl) rfl (sQ (iA (v:=.bool a.neg) mF rfl mm_ rfl) rfl ?_)));refine sQ (eG iJ rfl mm_ (by simp [uw,fT])) rfl ?_;refine sQ (bZ zY (kA a.neg (toL 16 (val (shw a.w (m / 32)) * 2 ^ (m % 32))) (by simp [fT]) (uP _ _)) rfl) rfl ?_;refine bA rfl (dX aD rfl rfl uu_ (o5 (by simp [fT])) rfl (dL _) (.inl (by assumption)) ?_);refine nl J (J24 _ _ (aL (aB (cC rfl (.inr rfl) ⟨_,_,_,_,_,_,rfl,mm_,aD,_,(gS (o5 (by simp [fT]))),(o5 (by simp [fT])),rfl⟩ ?_))));exact congrArg RV (kH_ ha (by simpa using hg) oo_ hm5)
  replace h42:=cB_ h42
  exact absurd h42 oo_ --done
 refine aI rfl (aI rfl (aI rfl (aI rfl (aI rfl (aI rfl (aI rfl (aI rfl (aI rfl (sE rfl (sE rfl (nl J (J7 _ _ (dE rfl (Sq fun K25 J25=>Rk fun K J=>sQ (bZ BB kO rfl) rfl (bA rfl (dX aD rfl rfl uu_ (aS _) rfl (dL _) (.inl (by assumption)) ?_))))))))))))))));refine nl J (J25 _ _ (aL (aT (aB (cC rfl (.inr rfl) ⟨_,_,_,_,_,_,rfl,mm_,aD,_,(gS (aS _)),(aS _),rfl⟩ ?_)))));exact congrArg RV (kG_ ha (by simpa using hg) hs (.inr (by have:=of_decide_eq_true h5;omega)))
theorem TU (a:R) (ha:a.Ok) (n:W) (h0:0≤n.1):Ret Tryz.prog 154 [RV a,.int .i64 n.1] (RV (Z.shl a.dec n.1).enc):=by
  obtain ⟨n,hn⟩:=n;obtain ⟨m,rfl⟩:∃ m:Nat,n=(m:Int):=⟨n.toNat,by simp only at h0;omega⟩;exact TT a ha m (by unfold I64 at hn;omega)
theorem XT (a:R) (ha:a.Ok) (hn:a.neg=false) (w:List Nat) (hw:w.length=16) (hlim:Lim w) (vs:Value) :
    Ret Tryz.prog 229 [RV a,UV w,vs] (RV ⟨false,false,w⟩):=by
 refine cM (N:=32) Tryz.func229 rfl rfl (by simp) (fun w0=>?_);simp only [cS,Nat.reduceAdd];obtain ⟨bd,ng,l⟩:=a;simp only at hn;subst hn;refine Sq fun K1 J1=>Rk fun K J=>bA rfl (qR rfl rfl (fun b3 hb3=>bA rfl (qR rfl rfl (fun b4 hb4=>bA rfl (i1 oM (fun b6 hb6=>nl J (J1 _ _ (Sq fun K2 J2=>Rk fun K J=>sQ (eX jC dd_ rfl) rfl (sQ (iA (v:=.bool false) mF rfl mm_ rfl) rfl ?_)))))))));refine sQ (eG iJ rfl mm_ (by simp [uw,hw])) rfl ?_;refine sQ (bZ zY (kA false w hw hlim) rfl) rfl (bA rfl (i1 oM (fun b7 hb7=>bA rfl (dX aD rfl rfl uu_ (o5 hw) rfl (dL _) (.inl (by assumption)) ?_))));refine nl J (J2 _ _ (Sq fun K3 J3=>Sq fun K4 J4=>dr (sk (sk (sk (sk (s0))))) [0,4,8,12,16,20,24,28,32,36,40,44,48,52,56,60] [] mix (by kernel_rfl) (fun K J=>pQ rfl (eX jC dd_ rfl) (pQ rfl (iA (v:=.bool false) mF rfl mm_ rfl) ?_))));refine pE rfl (aP rfl rfl (aP rfl rfl (aP rfl rfl (aP rfl rfl (aP rfl rfl (aP rfl rfl (aP rfl rfl (aP rfl rfl (aP rfl rfl (aP rfl rfl (aP rfl rfl (aP rfl rfl (pE rfl (fl J (J4 _ _ (gJ rfl (aG (J3 _ _ (Sq fun K5 J5=>?_)))))))))))))))))));refine Rk fun K J=>sQ (eG aD rfl mm_ (o5 hw)) rfl ?_;refine bA rfl (dX aD rfl rfl uu_ (o5 hw) rfl (dL _) (.inl (by assumption)) ?_);refine nl J (J5 _ _ (aL (cC rfl (.inr rfl) ⟨_,_,_,_,_,_,rfl,mm_,aD,_,(gS (o5 hw)),(o5 hw),rfl⟩ ?_)));exact rfl

theorem XQ (a:R) (ha:a.Ok) (hn:a.neg=false) :
    Ret Tryz.prog 154 [RV a,.int .i64 (-1)] (RV (Z.half a.dec).enc):=by
 refine cM (N:=75) Tryz.func154 rfl rfl (by simp) (fun w0=>?_);simp only [cS,Nat.reduceAdd];refine Sq fun K1 J1=>Rk fun K J=>bA rfl (qR rfl rfl (fun b2 hb2=>bA rfl (i1 oM (fun b4 hb4=>nl J (J1 _ _ (Sq fun K2 J2=>aJ (Sq fun K3 J3=>Rk fun K J=>sQ (eG aD rfl mm_ (eO ha)) rfl ?_)))))));refine bA rfl (pW oV oM pX rfl dd_ rfl (F8 ha) (fun b9 hb9=>sQ (dA BH rfl (fun w hw=>oE [a] (ok1 ha) b9 31 w (hw.mem _ m0) (by simp))) rfl ?_));refine sE rfl (sE rfl (nl J (J3 _ _ ?_)));refine fN _ rfl (fun hg=>?_) (fun hg=>?_)
 ·replace hg:=cB_ hg
  refine Sq fun K4 J4=>Rk fun K J=>sQ (bZ BB kO rfl) rfl (bA rfl (dX aD rfl rfl uu_ (aS _) rfl (dL _) (.inl (by assumption)) ?_));refine nl J (J4 _ _ (aL (aT (aB (cC rfl (.inr rfl) ⟨_,_,_,_,_,_,rfl,mm_,aD,_,(gS (aS _)),(aS _),rfl⟩ ?_)))))
  (rw [js_ (by simpa using hg)];rfl)
 replace hg:=cB_ hg
 refine Sq fun K5 J5=>Rk fun K J=>sQ (eG aD rfl mm_ (eO ha)) rfl ?_;refine sQ (bZ C0 (k9 a ha) rfl) rfl (sE rfl (sE rfl (nl J (J5 _ _ ?_))));refine fN _ rfl (fun hs=>?_) (fun hs=>?_)
 ·replace hs:=cB_ hs
  refine Sq fun K6 J6=>Rk fun K J=>sQ (eG aD rfl mm_ (eO ha)) rfl ?_;refine bA rfl (dX aD rfl rfl uu_ (eO ha) rfl (dL _) (.inl (by assumption)) ?_);refine nl J (J6 _ _ (aL (aT (aB (cC rfl (.inr rfl) ⟨_,_,_,_,_,_,rfl,mm_,aD,_,(gS (eO ha)),(eO ha),rfl⟩ ?_)))));exact congrArg RV (gJ_ ha (by simpa using hg) hn hs)
 replace hs:=cB_ hs
 refine Sq fun K7 J7=>Rk fun K J=>sE rfl (sE rfl (sE rfl (sE rfl (sE rfl (sE rfl (aI rfl (aI rfl (aI rfl (aI rfl (aI rfl (sE rfl (sE rfl (sE rfl (nl J (J7 _ _ (gJ rfl (Sq fun K8 J8=>?_)))))))))))))))));refine Rk fun K J=>sE rfl (sE rfl (sE rfl (nl J (J8 _ _ (gJ rfl (aG (J2 _ _ (Sq fun K9 J9=>Rk fun K J=>bA rfl (i1 y6 (fun b5 hb5=>nl J (J9 _ _ (Sq fun K10 J10=>Rk fun K J=>sE rfl (sQ (rA rfl rfl dd_) rfl (sE rfl (nl J ?_)))))))))))))));refine J10 _ _ (Sq fun K11 J11=>Sq fun K12 J12=>Rk fun K J=>sE rfl (sE rfl (nl J (J12 _ _ (gJ rfl (aG (J11 _ _ (Sq fun K13 J13=>dr (sd (sk (sk (sk (s0))))) [0,4,8,12,16,21] [5] mix (by kernel_rfl) (fun K J=>pQ rfl (EI mI rfl rfl rfl dd_ dd_ dd_ dd_) (pQ rfl (eX jY dd_ rfl) (pE rfl (pE rfl (pQ rfl (EI mI rfl rfl rfl dd_ dd_ dd_ dd_) ?_)))))))))))));refine d7 rfl rfl (a5_ bh_ rfl rfl mm_ uu_ (fun v hv=>dL a v (List.mem_of_mem_drop (List.mem_of_mem_take hv))) (by rw [eO ha];decide) (by simp [uw]) (gH_ ha) (.inl (by assumption)) ⟨nf,ss_,?_⟩);refine fl J (J13 _ _ (Sq fun K14 J14=>dr (sk (sk (sd (sk (s0))))) [0,4,8,12,16,20,24,28,33,36,41] [10] mix (by kernel_rfl) (fun K J=>pQ rfl (eG aD rfl mm_ (eO ha)) ?_)));refine pQ rfl (eG iJ rfl mm_ (by simp [uw,ha.len])) ?_;refine pE rfl (pE rfl (pQ rfl (w6 rfl rfl dd_) (pQ rfl (bZ iP_ (N4 a.w ha.len ha.lim 1 dd_) rfl) (pE rfl (pE rfl ?_)))));refine d7 rfl rfl (pW mG z_3 xK rfl dd_ rfl (NF 1) (fun b73 hb73=>⟨(fun _=>by first | exact sd s0 | exact s0),ss_,?_⟩));refine pQ rfl (bZ pf_ (XT a ha hn (toL 16 (val a.w / 2 ^ 1)) (fT _ _) (uP _ _) _) rfl) ?_;refine d7 rfl rfl (dX aD rfl rfl uu_ (o5 (fT _ _)) rfl (dL _) (.inl (by assumption)) ⟨nf,ss_,?_⟩);refine fl J (J14 _ _ (aL (cC rfl (.inr rfl) ⟨_,_,_,_,_,_,rfl,mm_,aD,_,(gS (o5 (fT _ _))),(o5 (fT _ _)),rfl⟩ ?_)));exact congrArg RV (gI_ ha (by simpa using hg) hn)
theorem TV (vl:Value) (l:(List I)) (w:World) (hl:Slr w elI vl l) :
    Calls Tryz.prog 119 [vl].toArray w (fun e w'=>e = .returned (.bool (rV l))∧Ext w w'):=by
 refine d6 (N:=19) Tryz.func119 rfl rfl (by simp) ?_;obtain ⟨w0,rfl⟩:∃ w0,w0=w:=⟨_,rfl⟩;have Hl:=hl.old;have hm_l:=hl.max;simp only [cS,Nat.reduceAdd];refine Rs fun K J=>sE rfl (nl J (Sq fun K1 J1=>Rs fun K J=>sE rfl (sQ (aZ (v':=.int .i64 (((l).length:Nat):Int)) (gD (e:=elI) vG rfl (SLe.sub Hl sn)) rfl) rfl (sE rfl (nl J ?_)))));refine kI (fun S M h=>J1 S M h) [2,4,7,8,9,10,11,12,13,14,15,16,17,18] (fun g M=>(sO l l) = .inl ()∧(True)∧M=[]) (fun K_u1 hK_u1=>?_) ?_
 ·refine aJ ?_;have hmx0:(l).length≤9223372036854775807:=hm_l;refine eA [2,4,7,8,9,10,11,12,13,14,15,16,17,18] (fun g nn M=>∃ (i0:Nat) (l0:List I),(sO l l0)=(sO l l)∧(l).drop i0=l0∧l0.length=nn∧g 7 = .int .i64 ((i0:Nat):Int)∧(True)∧M=[]) (l).length ?start ?round
  case start=>exact ⟨_,s0,0,l,rfl,rfl,rfl,rfl,trivial,rfl⟩
  case round =>
   rintro nn g M ⟨i0,l0,hT0,hr0,rfl,hgi,-,rfl⟩;simp only [dQ,hgi];clear hgi;refine Rs fun K J=>sE rfl (nl J (Sq fun K8 J8=>?_));rcases l0 with _ | ⟨x0,l0⟩
   ·have h18:=KB hr0;refine W_f h18 rfl (dW (aU (aU (bJ (hK_u1 _ _ pp_ ⟨_,s0,(by exact hT0.symm.trans (Eq.symm (rfl))),trivial,rfl⟩)))))
   have h19:=F0 hr0;have g20:=B7 hr0;refine W_t h19 rfl (aG (J8 _ _ (Sq fun K9 J9=>aJ (Rs fun K J=>sQ (aZ (v':=.pointer (some (slb vl (i0 * 18+0)))) (lY (e:=elI) (l:=l) (k:=i0) vG rfl rfl (SLe.sub Hl sn) g20.2.1) rfl) rfl (sQ (oK (e:=elI) (l:=l) (k:=i0) (o:=0) aD rfl (SLe.sub Hl sn) g20.1 rfl) rfl (sN gT rfl fun b21 hb21=>sS [pI x0] aD rfl rfl rfl rfl rfl uH rfl hb21 (nl J ?_)))))));refine dH [11,12,13,14,15,16,17] (fun g M=>(g 17 = .bool (x0.1.bad||(!x0.1.valid)))∧M=[⟨b21,31,aW [pI x0]⟩]) (fun K10 J10=>?_) ?_
   ·refine Rk fun K J=>sQ (qF uX rfl rfl) rfl (sQ (qC mF rfl m0 rfl) rfl ?_);rcases bt x0.1.bad with h23 | h23
    ·refine sB h23 rfl (aI rfl (aI rfl (aI rfl (sE rfl (nl J ?_)))));refine J10 _ _ pp_ ⟨_,s0,?s17,rfl⟩
     case s17=>exact congrArg Value.bool (lT h23)
    refine sB h23 rfl (sQ (qL aD rfl m0 rfl) rfl (sC (.bool x0.1.valid) aw_ (BV x0.1 x0.2) rfl rfl rfl (sE rfl (sE rfl (nl J ?_)))));refine J10 _ _ pp_ ⟨_,s0,?s17,rfl⟩
    case s17=>exact congrArg Value.bool (iK h23 rfl)
   rintro g24 M ⟨hg17,rfl⟩;simp only [dQ,hg17];clear hg17;rcases bt (x0.1.bad||(!x0.1.valid)) with h25 | h25
   ·refine W_t h25 rfl (Rs fun K J=>sE rfl (nl J (aL (aT (aB (aB (aT (aB (aB (cC rfl (.inr rfl) rfl ?_))))))))));exact (by exact congrArg vS2 (show _=(rV l) from (EL rfl (hT0.symm.trans (Eq.symm (bI h25 rfl))))))
   refine W_f h25 rfl (aG (J9 _ _ (Rk fun K J=>sV (.int .i64 ((i0+1:Nat):Int)) rfl (congrArg (Value.int .i64) (nxt g20.2.1 hmx0)) (sE rfl (nl J (⟨pp_,_,_,(sd (s0)),(Nat.lt_succ_self _),i0+1,l0,(by exact (hT0.symm.trans (Eq.symm (aM h25 rfl))).symm),g20.2.2,rfl,rfl,trivial,rfl⟩))))))
 rintro g M ⟨hCu1,-,rfl⟩;simp only [dQ];refine Rs fun K J=>sE rfl (nl J (aL (cC rfl (.inr rfl) rfl ?_)));exact (by exact congrArg vS2 (show _=(rV l) from trs (Eq.symm (smS hCu1)) rfl))
theorem XR (a:I) :
    Ret Tryz.prog 78 [AV [pI a]] (AV [pI (jH a)]):=by
 refine cM (N:=36) Tryz.func78 rfl rfl (by simp) (fun w0=>?_);simp only [cS,Nat.reduceAdd];refine Rs fun K J=>bA rfl (cH rfl rfl (fun b1 hb1=>sN gT rfl fun b2 hb2=>nl J (Sq fun K1 J1=>?_)));refine dH [5,6,7,8,9,10,11,12] (fun g M=>(g 12 = .bool (!(rV [a])||a.1.neg))∧M=[⟨b2,31,aW [pI I0]⟩,⟨b1,31,aW [pI a]⟩]) (fun K2 J2=>?_) ?_
 ·refine Rk fun K J=>sQ (qL aD rfl m1 rfl) rfl (bA rfl (dN [[pI a]] [pI a] oV oM pX rfl dd_ rfl rfl ⟨rfl,rfl,rfl,trivial⟩ rfl (fun b6 hb6=>sQ (aZ (v':=.bool (rV [a])) (dA BH rfl (fun w hw=>TV _ ([a]) w (SLe.ap hw (SLe.lit (e:=elI) (l:=[a]) m0 rfl (Nat.le_of_ble_eq_true rfl) rfl)))) rfl) rfl (sE rfl ?_))));rcases bt (rV [a]) with h7 | h7
  ·refine sB (iS h7) rfl (sQ (qF jC rfl rfl) rfl (sQ (qC mF rfl m2 rfl) rfl (sE rfl (nl J ?_))));refine J2 _ _ pp_ ⟨_,(sd (s0)),?s12,rfl⟩
   case s12=>exact congrArg Value.bool (j3 h7 rfl)
  refine sB (iT h7) rfl (aI rfl (aI rfl (sE rfl (nl J ?_))));refine J2 _ _ pp_ ⟨_,(sd (s0)),?s12,rfl⟩
  case s12=>exact congrArg Value.bool (oJ h7)
 rintro g8 M ⟨hg12,rfl⟩;simp only [dQ,hg12];clear hg12;rcases bt (!(rV [a])||a.1.neg) with h9 | h9
 ·refine W_t h9 rfl (Rs fun K J=>sC (AV [pI (E Z.bad)]) BB kO rfl rfl rfl (sS [pI (E Z.bad)] aD rfl rfl rfl rfl rfl uH rfl hb2 (nl J (aL (aB (cC rfl (.inr rfl) (eP rfl m0 aD rfl) ?_))))));exact (by exact congrArg vS4 (show _=(jH a) from bI h9 rfl))
 refine W_f h9 rfl (aG (J1 _ _ (Sq fun K3 J3=>Rs fun K J=>sQ (qL aD rfl m1 rfl) rfl (sC (.int .i64 ((Z.signW a.dec).1)) C0 (k9 a.1 a.2) rfl rfl rfl (sE rfl (nl J ?_))))));rcases bt ((Z.signW a.dec).1==0) with h10 | h10
 ·refine W_t h10 rfl (Rs fun K J=>sQ (qL aD rfl m1 rfl) rfl (sS [pI a] aD rfl rfl rfl rfl rfl uH rfl hb2 (nl J (aL (aB (cC rfl (.inr rfl) (eP rfl m0 aD rfl) ?_))))));exact (by exact congrArg vS4 (show _=(jH a) from aM h9 (bI h10 rfl)))
 refine W_f h10 rfl (aG (J3 _ _ (ds (sk (sk (s0))) [0,4,8,12,16,20,25,29] [7] mix (by kernel_rfl) (fun K J=>pC (AV [pI (E (Z.of 1))]) sY (fK (wl 1).1 (wl 1).2) rfl rfl rfl ?_))));refine pQ rfl (qL aD rfl m1 rfl) (pC (.int .i64 ((Z.bitsW a.dec).1)) dS_ (GP a.1 a.2) rfl rfl rfl (pV (.int .i64 ((W.add (Z.bitsW a.dec) (wl 1)).1)) rfl rfl ?_));refine pQ rfl (aZ (v':=.int .i64 ((W.quo (W.add (Z.bitsW a.dec) (wl 1)) (wl 2)).1)) (rA rfl rfl dd_) rfl) ?_;have hsh:0≤((W.quo (W.add (Z.bitsW a.dec) (wl 1)) (wl 2))).1:=mB_ a;refine pC (AV [pI (E (Z.shl (Z.of 1) (W.quo (W.add (Z.bitsW a.dec) (wl 1)) (wl 2)).1))]) iC_ (TU (E (Z.of 1)).1 (E (Z.of 1)).2 (W.quo (W.add (Z.bitsW a.dec) (wl 1)) (wl 2)) (by first | assumption | exact (Int.not_lt.1 (of_decide_eq_false (by first | assumption | exact rJ_ (by assumption)))))) rfl rfl (cg1 (fun p=>AV [pI (E (Z.shl p (W.quo (W.add (Z.bitsW a.dec) (wl 1)) (wl 2)).1))]) (eD _)) ?_;refine d7 rfl rfl (l8 gT (fun b11 hb11=>⟨(fun _=>sd s0),(sd s0),oS [pI (E (Z.shl (Z.of 1) (W.quo (W.add (Z.bitsW a.dec) (wl 1)) (wl 2)).1))] aD rfl rfl rfl rfl rfl rfl uH rfl hb11 rfl (sd s0) ?_⟩));refine fl J (aJ ?_);refine eA [4,24,25,26,27,28,29,30,31,32,33,34,35] (fun g nn M=>∃ (mb11:I),(vD a nn mb11)=(vD a ((Z.nat (E (Z.shl (Z.of 1) (W.quo (W.add (Z.bitsW a.dec) (wl 1)) (wl 2)).1)).dec+1)) (E (Z.shl (Z.of 1) (W.quo (W.add (Z.bitsW a.dec) (wl 1)) (wl 2)).1)))∧Z.nat mb11.dec<nn∧(MW a mb11)∧(True)∧M=[⟨b11,31,aW [pI mb11]⟩,⟨b2,31,aW [pI I0]⟩,⟨b1,31,aW [pI a]⟩]) ((Z.nat (E (Z.shl (Z.of 1) (W.quo (W.add (Z.bitsW a.dec) (wl 1)) (wl 2)).1)).dec+1)) ?start ?round
 case start=>exact ⟨_,s0,(E (Z.shl (Z.of 1) (W.quo (W.add (Z.bitsW a.dec) (wl 1)) (wl 2)).1)),rfl,Nat.lt_succ_self _,(WX h9 h10),trivial,rfl⟩
 case round =>
  rintro nn g M ⟨mb11,hT0,hq0,hinv0,-,rfl⟩;obtain ⟨k0,rfl⟩:∃ m,nn=m+1:=⟨nn - 1,by omega⟩;simp only [dQ];refine aJ (ds (sk (sk (sk (s0)))) [0,4,8,12,16,20,25,29] [7] mix (by kernel_rfl) (fun K J=>pQ rfl (qL aD rfl m0 rfl) (pQ rfl (qL aD rfl m2 rfl) (pQ rfl (qL aD rfl m0 rfl) (pC (AV [pI (E (Z.quo a.dec mb11.dec))]) zC (mH a.1 mb11.1 a.2 mb11.2) rfl rfl rfl (pC (AV [pI (E (Z.add mb11.dec (Z.quo a.dec mb11.dec)))]) LQ (rW mb11.1 (E (Z.quo a.dec mb11.dec)).1 mb11.2 (E (Z.quo a.dec mb11.dec)).2) rfl rfl (cg2 (fun p q=>AV [pI (E (Z.add p q))]) rfl (eD _)) ?_))))));have hhf:=mA_ hinv0;refine pC (AV [pI (E (Z.half (Z.add mb11.dec (Z.quo a.dec mb11.dec))))]) iC_ (XQ (E (Z.add mb11.dec (Z.quo a.dec mb11.dec))).1 (E (Z.add mb11.dec (Z.quo a.dec mb11.dec))).2 (by assumption)) rfl rfl (cg1 (fun p=>AV [pI (E (Z.half p))]) (eD _)) (d7 rfl rfl (l8 gT (fun b20 hb20=>⟨(fun _=>sd s0),(sd s0),oS [pI (E (Z.half (Z.add mb11.dec (Z.quo a.dec mb11.dec))))] aD rfl rfl rfl rfl rfl rfl uH rfl hb20 rfl (sd s0) (fl J (Sq fun K6 J6=>Rs fun K J=>sQ (qL aD rfl m0 rfl) rfl (sQ (qL aD rfl m1 rfl) rfl (sC (.int .i64 ((Z.cmpW (Z.half (Z.add mb11.dec (Z.quo a.dec mb11.dec))) mb11.dec).1)) iv_ (PD (E (Z.half (Z.add mb11.dec (Z.quo a.dec mb11.dec)))).1 mb11.1 (E (Z.half (Z.add mb11.dec (Z.quo a.dec mb11.dec)))).2 mb11.2) rfl rfl (cg2 (fun p q=>Value.int .i64 (Z.cmpW p q).1) (eD _) rfl) (sE rfl (nl J ?_))))))⟩)));rcases bt (decide (0≤(Z.cmpW (Z.half (Z.add mb11.dec (Z.quo a.dec mb11.dec))) mb11.dec).1)) with h21 | h21
  ·refine W_t h21 rfl (Rs fun K J=>sQ (qL aD rfl m1 rfl) rfl (sS [pI mb11] aD rfl rfl rfl rfl rfl (uT (uT uH)) rfl hb2 (nl J (aL (aB (aT (aB (aT (cC rfl (.inr rfl) (eP rfl m2 aD rfl) ?_)))))))));exact (by exact congrArg vS4 (show _=(jH a) from aM h9 (aM h10 ((EL rfl (hT0.symm.trans (Eq.symm (bI h21 rfl))))))))
  refine W_f h21 rfl (aG (J6 _ _ (Rk fun K J=>sQ (qL aD rfl m0 rfl) rfl (sS [pI (E (Z.half (Z.add mb11.dec (Z.quo a.dec mb11.dec))))] aD rfl rfl rfl rfl rfl (uT uH) rfl hb11 (nl J (⟨pp_,_,_,(sd (s0)),(Nat.lt_succ_self _),(E (Z.half (Z.add mb11.dec (Z.quo a.dec mb11.dec)))),(by exact (hT0.symm.trans (Eq.symm (aM h21 rfl))).symm),(Nat.lt_of_lt_of_le (c3_ hinv0 h21) (Nat.le_of_lt_succ hq0)),(ZC hinv0),trivial,rfl⟩))))))
end Go.Proofs.YtkjjponijamaoaaGreatDoor

