/- Lemmas: what they ask stands in their statements. -/
import Derived.Test.YtkjjponijamaoaaGreatDoorYYb
set_option linter.unusedSimpArgs false
set_option linter.unusedVariables false
set_option maxHeartbeats 8000000
set_option maxRecDepth 20000
namespace Go.Kn
open Go.RowKit
section
variable {P:Program} {w0:World} {X:List Nat} {N:Nm} {S:Fr} {M:List Blk} {d:Option Tmp} {ty:TypeId} {ps:String} {af:Array Edge} {gd:Option (Nat×Bool)}
end
section
variable {P:Program} {w0:World} {X:List Nat} {N:Nm} {S:Fr} {M:List Blk} {d:Option Tmp} {ty:TypeId} {ps:String} {af:Array Edge} {gd:Option (Nat×Bool)}
end
section
variable {P:Program} {w0:World} {X:List Nat} {N:Nm} {S:Fr} {M:List Blk} {Q:AF}
variable {d:Option Tmp} {ty:TypeId} {ps:String} {af:Array Edge} {gd:Option (Nat×Bool)}
end
section
variable {P:Program} {w0:World} {X:List Nat} {N:Nm} {Q:AF} {S:Fr} {M:List Blk} {c:Code}
end
end Go.Kn

namespace Go.Kn
open Go.RowKit
section rows
variable {α:Type} {e:El α}
end rows
section
variable {α:Type} {e:El α} {P:Program} {w0:World} {X:List Nat} {N:Nm} {S:Fr} {M M':List Blk} {d:Option Tmp} {ty:TypeId} {ps:String} {af:Array Edge} {gd:Option (Nat×Bool)} {v:Value} {l:List α}
end
end Go.Kn
namespace Go.Kn
open Go.RowKit
section
variable {P:Program} {w0:World} {X:List Nat} {N:Nm} {S:Fr} {M:List Blk} {d:Option Tmp} {ty:TypeId} {ps:String} {af:Array Edge} {gd:Option (Nat×Bool)}
end
end Go.Kn
namespace Go.Kn
open Go.RowKit
section
variable {α:Type} {e:El α} {P:Program} {w0:World} {X:List Nat} {N:Nm} {S:Fr} {M:List Blk} {d:Option Tmp} {ty:TypeId} {ps:String} {af:Array Edge} {gd:Option (Nat×Bool)} {v:Value} {l:List α}
end
end Go.Kn
namespace Go.Kn
section
variable {α:Type} {e:El α} {w0:World} {X:List Nat} {M:List Blk} {v:Value} {l:List α}
end
end Go.Kn

namespace Go.Kn
open Go.RowKit
section
variable {P:Program} {w0:World} {X:List Nat} {S:Fr} {M:List Blk} {d:Option Tmp} {ty:TypeId} {p:String} {af:Array Edge} {gd:Option (Nat×Bool)}
end
end Go.Kn

namespace Go.Num
open Go Go.Kn
theorem bz_ {a b:Z} (h:E a=E b):a=b:=by rw [← eD a,← eD b,h]
end Go.Num

namespace Go.Kn
open Go
def kD_ (Q:AF):AF
  | .goto _,_,_=>False
  | e,S,M=>Q e S M
section
variable {P:Program} {w0:World} {X:List Nat} {N:Nm} {Q:AF} {S:Fr} {M:List Blk} {c:Code}
theorem lq_ {l:Nat} (h:Q .normal S M):W P w0 X N (.label l) Q S M:=fun B D w hB hd hr hw=>wpIn_label ⟨D,S,M,rfl,hw,.refl _ _,hd,hr,h⟩
theorem dc_ {b:Frame} {a:Act} {k:List Item} {cs:List Frame} {w:World} {c:Code}:step P (lone (b.atR a (.code (.scope c) :: k)) cs w) = .next (lone (b.atR a (.code c :: .inScope c :: k)) cs w) :=
  step_lone_go (by simp [stepG,stepG.exec,Frame.atR])
theorem X9 {b:Frame} {a:Act} {k:List Item} {cs:List Frame} {w:World} {c:Code}:step P (lone (b.atR a (.inScope c :: k)) cs w) = .next (lone (b.atR a k) cs w) :=
  step_lone_go (by simp [stepG,stepG.exec,Frame.atR])
theorem OZ {F:Fence} {n:Nat} {c:Code} {Q:Exit→Act→World→Prop} {a:Act} {w:World} (h:c.wpIn F n P (Exit.noGoto Q) a w):(Code.scope c).wpIn F n P Q a w:=by
  intro b k cs hro hb hr;obtain ⟨e,a₁,w₁,hq,harr⟩:=h b (.inScope c :: k) cs hro hb hr;have s1:StepsIn (Machine.fenced P F) P (lone (b.atR a (.code (.scope c) :: k)) cs w) (lone (b.atR a (.code c :: .inScope c :: k)) cs w):=.one (fenced_calm hb hr rfl) dc_
  cases e with
  | normal=>exact ⟨.normal,a₁,w₁,hq,StepsIn.trans s1 (StepsIn.trans harr (.one (fenced_calm hb hr rfl) X9))⟩
  | exit id=>exact ⟨.exit id,a₁,w₁,hq,.of_steps s1 ⟨fun k' hk=>harr.1 k' (by simp [exitTo,hk]),fun hr' hk=>harr.2 hr' (by simp [exitTo,hk])⟩⟩
  | goto l=>exact hq.elim
  | ret=>exact ⟨_,a₁,w₁,hq,.of_steps s1 harr⟩
  | panic ch=>exact ⟨_,a₁,w₁,hq,.of_steps s1 harr⟩
  | outgrown=>exact ⟨_,a₁,w₁,hq,.of_steps s1 harr⟩
theorem lr_ (h:W P w0 X N c (kD_ Q) S M):W P w0 X N (.scope c) Q S M:=by
  intro B D w hB hd hr hw;refine OZ (wpIn_mono (h B D w hB hd hr hw) ?_);rintro e a w' ⟨D',S',M',rfl,hs,hk,hd',hr',q⟩
  cases e with
  | normal=>exact ⟨D',S',M',rfl,hs,hk,hd',hr',q⟩
  | exit id=>exact ⟨D',S',M',rfl,hs,hk,hd',hr',q⟩
  | goto l=>exact q.elim
  | ret=>exact ⟨D',S',M',rfl,hs,hk,hd',hr',q⟩
  | panic c=>exact ⟨D',S',M',rfl,hs,hk,hd',hr',q⟩
  | outgrown=>exact ⟨D',S',M',rfl,hs,hk,hd',hr',q⟩
theorem I5 (h:Q .ret S M):kD_ Q .ret S M:=h
end
end Go.Kn

namespace Go.Num
open Go Go.Kn
def cf:Nat→W→I→I→I→I→W
  | 0,o,_,_,_,_=>o
  | k+1,o,a,b,c,d =>
    bif ((Z.cmpW (Z.quo a.dec b.dec) (Z.quo c.dec d.dec)).1 != 0) then W.mul o (Z.cmpW (Z.quo a.dec b.dec) (Z.quo c.dec d.dec))
    else bif (((Z.signW (Z.rem a.dec b.dec)).1==0)||((Z.signW (Z.rem c.dec d.dec)).1==0)) then W.mul o (W.sub (Z.signW (Z.rem a.dec b.dec)) (Z.signW (Z.rem c.dec d.dec)))
    else cf k (W.neg o) b (E (Z.rem a.dec b.dec)) d (E (Z.rem c.dec d.dec))
def cfN (b:I):Nat:=match b.dec.o with | some v=>v.toNat | none=>0
def cfP (n:Nat) (b:I):Prop:=∃ v:Int,b.dec.o=some v∧0<v∧v.toNat≤n
theorem YJ {b:I} (h:0<(Z.signW b.dec).1):cfP (cfN b) b:=by
  have h:0<b.dec.sign:=h;unfold Z.sign at h
  cases ho:b.dec.o with
  | none=>rw [ho] at h;exact absurd h (by decide)
  | some v=>rw [ho] at h;exact ⟨v,ho,Int.sign_pos_iff.1 h,by unfold cfN;rw [ho];exact Nat.le_refl _⟩
theorem bY_ {n:Nat} {b:I} (h:cfP n b):∃ m,n=m+1:=by
  obtain ⟨v,_,h1,h2⟩:=h;exact ⟨n - 1,by omega⟩
theorem qU_ {k:Nat} {o r:W} {a b c d:I} (h:cf (k+1) o a b c d=r) (h1:((Z.cmpW (Z.quo a.dec b.dec) (Z.quo c.dec d.dec)).1 != 0)=true):W.mul o (Z.cmpW (Z.quo a.dec b.dec) (Z.quo c.dec d.dec))=r:=by
  rw [cf,h1] at h;exact h
theorem or_ {k:Nat} {o r:W} {a b c d:I} (h:cf (k+1) o a b c d=r) (h1:((Z.cmpW (Z.quo a.dec b.dec) (Z.quo c.dec d.dec)).1 != 0)=false)
    (h2:(((Z.signW (Z.rem a.dec b.dec)).1==0)||((Z.signW (Z.rem c.dec d.dec)).1==0))=true):W.mul o (W.sub (Z.signW (Z.rem a.dec b.dec)) (Z.signW (Z.rem c.dec d.dec)))=r:=by
  rw [cf,h1,h2] at h;exact h
theorem oq_ {k:Nat} {o r:W} {a b c d:I} (h:cf (k+1) o a b c d=r∧cfP (k+1) b) (h1:((Z.cmpW (Z.quo a.dec b.dec) (Z.quo c.dec d.dec)).1 != 0)=false)
    (h2:(((Z.signW (Z.rem a.dec b.dec)).1==0)||((Z.signW (Z.rem c.dec d.dec)).1==0))=false):cf k (W.neg o) b (E (Z.rem a.dec b.dec)) d (E (Z.rem c.dec d.dec))=r∧cfP k (E (Z.rem a.dec b.dec)):=by
  obtain ⟨h,v,hv,h0,hk⟩:=h;rw [cf,h1,h2] at h;refine ⟨h,?_⟩;rw [Bool.or_eq_false_iff] at h2
  have h3:(Z.rem a.dec b.dec).sign≠0:=fun h=>by have:=h2.1;rw [show (Z.signW (Z.rem a.dec b.dec)).1=(Z.rem a.dec b.dec).sign from rfl,h] at this;exact absurd this (by decide)
  cases ha:a.dec.o with
  | none=>rw [Z.rem,uU (.inl ha)] at h3;exact absurd rfl h3
  | some u =>
    have hr:Z.rem a.dec b.dec=Z.of (u.fmod v):=by rw [Z.rem,gZ ha hv,if_neg (by omega)]
    have h4:0≤u.fmod v:=Int.fmod_nonneg_of_pos _ h0;have h5:u.fmod v<v:=Int.fmod_lt_of_pos _ h0;have h6:(u.fmod v).natAbs<4294967296 ^ 16:=Nat.lt_of_le_of_lt (by omega) (b.dec.h v hv);refine ⟨u.fmod v,?_,?_,by omega⟩
    · rw [eD,hr,Z.of_some h6]
    have h8:u.fmod v≠0:=fun h7=>h3 (by rw [hr,h7];rfl);omega
open Go
theorem lB_ (n k:Nat):(((dg n (k / 16):Nat):Int).fdiv (2 ^ (min (((k % 16:Nat):Int)).toNat IntKind.i64.bits))).tmod 2=((n / 2 ^ k % 2:Nat):Int):=by
  have h1:(((k % 16:Nat):Int)).toNat=k % 16:=Int.toNat_natCast _;have h2:k % 16<16:=Nat.mod_lt _ (by decide);have h3:min (k % 16) IntKind.i64.bits=k % 16:=Nat.min_eq_left (by show k % 16≤64;omega);rw [h1,h3]
  have h5:((2:Int) ^ (k % 16))=((2 ^ (k % 16):Nat):Int):=by simp
  rw [h5,Int.fdiv_eq_ediv_of_nonneg _ (Int.natCast_nonneg _),← Int.natCast_ediv,Int.tmod_eq_emod_of_nonneg (Int.natCast_nonneg _)];rw [show (2:Int)=((2:Nat):Int) from rfl,← Int.natCast_emod]
  congr 1
  unfold dg
  have hk:(2:Nat) ^ k=65536 ^ (k / 16) * 2 ^ (k % 16):=by
    rw [show (65536:Nat)=2 ^ 16 from rfl,← Nat.pow_mul,← Nat.pow_add];congr 1;omega
  rw [hk,← Nat.div_div_eq_div_mul];generalize n / 65536 ^ (k / 16)=x
  have h6:(65536:Nat)=2 ^ (k % 16) * (2 * 2 ^ (15 - k % 16)):=by
    rw [← Nat.pow_succ',← Nat.pow_add,show (65536:Nat)=2 ^ 16 from rfl];congr 1;omega
  rw [h6,Nat.mod_mul_right_div_self,Nat.mod_mul_right_mod]
theorem gz_ {n m:Nat} (h:n<2 ^ (m+1)) (h0:n / 2 ^ m % 2=0):n<2 ^ m:=by
  have h1:n / 2 ^ m<2:=by rw [Nat.div_lt_iff_lt_mul (Nat.pow_pos (by decide)),Nat.mul_comm,← Nat.pow_succ];exact h
  have h2:n / 2 ^ m=0:=by generalize n / 2 ^ m=q at *;omega
  rcases Nat.div_eq_zero_iff.1 h2 with h3 | h3
  · exact absurd h3 (by have:=Nat.pow_pos (n:=m) (show 0<2 by decide);omega)
  exact h3
theorem lD_ {n m:Nat} (h:n<2 ^ (m+1)) (h0:n / 2 ^ m % 2≠0):bl n=m+1:=by
  refine m7_ h (.inr ?_);rw [Nat.add_sub_cancel];rcases Nat.lt_or_ge n (2 ^ m) with h1 | h1
  · rw [Nat.div_eq_of_lt h1] at h0;exact absurd rfl h0
  exact h1
theorem dD_ (n:Nat):n<2 ^ (16 * (dl n).length):=by
  have:=VA n;rw [Nat.pow_mul];exact this
theorem rD_ {n:Nat} (h:n≤200):IntKind.i64.wrap (16 * (n:Int))=((16 * n:Nat):Int):=by
  rw [wi (by omega)];omega
theorem h6_ {a:R} (h:a.good=false):a.dec.bits=0:=by
  unfold R.dec;rw [if_neg (by simp [h])];rfl
theorem lC_ {a:R} (ha:a.Ok) (ga:a.good=true) {k:Nat} (h:val a.w<2 ^ k) (h0:k=0):a.dec.bits=k:=by
  subst h0;rw [IE ha ga]
  have:val a.w=0:=by simpa using h
  rw [this];rfl
end Go.Num

namespace Go.Kn
open Go.RowKit
section
variable {P:Program} {w0:World} {X:List Nat} {N:Nm} {S:Fr} {M:List Blk}
variable {ops:List Oper} {Q:Fr→List Blk→Prop} {o:Oper} {l:List Oper} {v v':Value} {d:Tmp} {b c:Bool} {nw:List Nat} {MD:List Blk} {i:Nat} {ws:List Nat} {r:Plan}
section
variable {g:FuncId} {xs:List Operand} {tys:Array TypeId} {args:List Value} {ty:TypeId} {ps:String} {af:Array Edge} {gd:Option (Nat×Bool)}
end
end
section
variable {P:Program} {w0:World} {X:List Nat} {N:Nm} {S:Fr} {M:List Blk} {d:Option Tmp} {ty:TypeId} {ps:String} {af:Array Edge} {gd:Option (Nat×Bool)}
end
section
variable {P:Program} {w0:World} {X:List Nat} {N:Nm} {S:Fr} {M:List Blk} {Q:AF}
end
section
variable {P:Program} {w0:World} {X:List Nat} {N:Nm} {S:Fr} {M:List Blk} {Q:AF}
end
section
variable {α:Type} {e:El α} {w0 w:World} {X:List Nat} {M M' L:List Blk} {v:Value} {l:List α} {E:TypeId}
end
end Go.Kn

namespace Go.Num
open Go Go.Kn Go.RowKit Go.ChangeShapes Go.WideShapes
def jz_ (P:Program) (T:TypeId):Bool:=match P.underlying T with | some (.struct _)=>true | some (.array _ _)=>true | _=>false
section
variable {H:Type} {enc:TypeId×Value→H} {P:Program} {w:World} {base:Nat} {spare:Nat→Bool} {held:Bool}
theorem su_ {T:TypeId} {ls:List AW} {v:Value} {d:DataW H} {p:List MemPlace} (h:lz P 8 T=some ls) (ht:DataW.Trod enc P w base spare held T v d p):LWF v.cells.toList ls:=by
  obtain ⟨fuel,hf⟩:=ht;exact HD 8 h hf
theorem p4_ {r:Reach} {T:TypeId} {v:Value} (h:jz_ P T=true) (hv:Value.okWide P w r base T v):∃ cs:List Value,v = .agg cs.toArray:=by
  unfold jz_ at h;unfold Value.okWide at hv
  split at h
  · rename_i fs hu;rw [hu] at hv;obtain ⟨cs,hc,_⟩:=hv;exact ⟨cs.toList,by simpa using hc⟩
  · rename_i n e hu;rw [hu] at hv;obtain ⟨cs,hc,_⟩:=hv;exact ⟨cs.toList,by simpa using hc⟩
  · cases h
end
theorem fN_:∀ {n:Nat} {cs:List Value},LWF cs (List.replicate n (some .u32))→∃ l:List Nat,l.length=n∧Lim l∧cs=uw l
  | 0,[],_=>⟨[],rfl,(fun _ h=>by cases h),rfl⟩
  | 0,_ :: _,h=>h.elim
  | n+1,[],h=>h.elim
  | n+1,v :: vs,h=>by
    obtain ⟨l,hl,hlim,rfl⟩:=fN_ (n:=n) (cs:=vs) h.2
    match v,h.1 with
    | .int k m,hv =>
      obtain ⟨rfl,hw⟩:=hv;have hb:=bounds_u32 hw;refine ⟨m.toNat :: l,by simp [hl],fun d hd=>?_,?_⟩
      · rcases List.mem_cons.1 hd with rfl | hd
        · omega
        exact hlim d hd
      have:((m.toNat:Nat):Int)=m:=by omega
      simp [uw,U32,this]
theorem nK_ {cs:List Value} (h:LWF cs LI):∃ x:I,cs=(pI x).l:=by
  match cs,h with
  | .bool a :: .bool b :: rest,h =>
    obtain ⟨l,hl,hlim,rfl⟩:=fN_ h.2.2;exact ⟨⟨⟨a,b,l⟩,⟨hl,hlim⟩⟩,rfl⟩
end Go.Num
namespace Go.Num
open Go Go.Kn Go.RowKit
end Go.Num

namespace Go.Kn
open Go
section
variable {α:Type} {e:El α} {P:Program} {w0:World} {X:List Nat} {N:Nm} {S:Fr} {M M':List Blk} {d:Option Tmp} {ty:TypeId} {ps:String} {af:Array Edge} {gd:Option (Nat×Bool)} {v:Value} {l:List α}
theorem SLe.full {p:Option Addr} {n c:Nat} (h:SLe w0 X M e (.slice p n c) l) (h0:0<n∨c=0):SLe w0 X M e (.slice p n n) l:=fun w hw=>by
  obtain ⟨p',c',hq,hc,hm,hp⟩:=h w hw
  cases hq
  refine ⟨p,l.length,rfl,Nat.le_refl _,by omega,?_⟩;rcases hp with ⟨rfl,rfl,rfl⟩ | ⟨a,rfl,hr⟩
  · exact .inl ⟨rfl,rfl,rfl⟩
  exact .inr ⟨a,rfl,hr⟩
end
end Go.Kn

namespace Go.Num
open Go Go.Kn
def Z.sqrt (z:Z):Z:=QW (fun v=>bif decide (v<0) then Z.bad else Z.of ((C4 v.toNat:Nat):Int)) z
theorem hc_ {v r s:Nat} (h1:r * r≤v) (h2:v<(r+1) * (r+1)) (h3:s * s≤v) (h4:v<(s+1) * (s+1)):r=s:=by
  rcases Nat.lt_trichotomy r s with h | h | h
  · have:=bj_ h;omega
  · exact h
  have:=bj_ h;omega
theorem eg_ {v r:Nat} (h:v<4294967296 ^ 16) (h1:r * r≤v) (h2:v<(r+1) * (r+1)):r=C4 v:=hc_ h1 h2 (AO h).1 (AO h).2
theorem ZH {a:R} (ha:a.Ok) (ga:a.good=true) (hn:a.neg=false) {r:Nat} (h1:r * r≤val a.w) (h2:val a.w<(r+1) * (r+1)):Z.of (sgn false r)=Z.sqrt a.dec:=by
  unfold Z.sqrt;rw [rB (fF ha ga),hn];have e:sgn false (val a.w)=((val a.w:Nat):Int):=rfl;rw [e,decide_eq_false oo_,cond_false,Int.toNat_natCast,← eg_ (ZS ha) h1 h2];rfl
theorem db_ {a:R} (ha:a.Ok) (ga:a.good=true) (hn:a.neg=true):Z.sqrt a.dec=Z.bad:=by
  unfold Z.sqrt;rw [rB (fF ha ga),hn]
  have h0:val a.w≠0:=fun h=>by
    have:=ga;unfold R.good R.valid at this
    simp [hn,R.zero] at this
    exact this.2 h
  have e:sgn true (val a.w) = -((val a.w:Nat):Int):=rfl;rw [e,decide_eq_true oo_];rfl
theorem da_ {a:R} (ga:a.good=false):Z.sqrt a.dec=Z.bad:=by
  unfold Z.sqrt R.dec;rw [if_neg (by simp [ga])];rfl
end Go.Num

namespace Go.Proofs.YtkjjponijamaoaaGreatDoor
open Go.Kn Go.Num
theorem YR:aY Tryz.prog 41=true:=by kernel_rfl
theorem cb_:aY Tryz.prog 56=true:=by kernel_rfl
theorem YS:aY Tryz.prog 62=true:=by kernel_rfl
theorem wB:aY Tryz.prog 74=true:=by kernel_rfl
theorem iw_:aY Tryz.prog 133=true:=by kernel_rfl
theorem iA_:aY Tryz.prog 141=true:=by kernel_rfl
theorem o6_:aY Tryz.prog 217=true:=by kernel_rfl
end Go.Proofs.YtkjjponijamaoaaGreatDoor

namespace Go.Num
open Go Go.Kn
def lN (a:I):Rt :=
  let r3:Rt:=(cJ a F_skewbackref04_one)
  r3
def aH (a:Rt):Bool :=
  bif (!a.n.1.good||(!a.d.1.good)) then (false) else ((decide (0<(Z.signW a.d.dec).1)&&decide ((E (Z.gcd a.n.dec a.d.dec))=F_skewbackref04_one)))
def lA (a:Rt):Rt :=
  bif (aH a) then ((⟨(E (Z.neg a.n.dec)),a.d⟩:Rt)) else (pR)
def cT (a:Rt) (b:Rt):Rt :=
  bif (!(aH a)||(!(aH b))) then (pR) else (let r11:I:=(E (Z.add (Z.mul a.n.dec (Z.quo b.d.dec (Z.gcd a.d.dec b.d.dec))) (Z.mul b.n.dec (Z.quo a.d.dec (Z.gcd a.d.dec b.d.dec)))))
  let r12:Rt:=(cJ r11 (E (Z.mul (Z.quo a.d.dec (Z.gcd a.d.dec b.d.dec)) b.d.dec)))
  r12)
def cO (a:Rt) (b:Rt):Rt :=
  let r4:Rt:=(cT a (lA b))
  r4
def cG (a:Rt) (b:Rt):Rt :=
  bif (!(aH a)||(!(aH b))) then (pR) else (let r10:I:=(E (Z.mul ((cJ a.n b.d).n).dec ((cJ b.n a.d).n).dec))
  let r12:I:=(E (Z.mul ((cJ a.n b.d).d).dec ((cJ b.n a.d).d).dec))
  (cJ r10 r12))
def jD (a:(A3 Rt)) (b:(A3 Rt)):(A3 Rt) :=
  (⟨(cO a.x b.x),(cO a.y b.y),(cO a.z b.z)⟩:(A3 Rt))
def nE (a:(A3 Rt)) (b:(A3 Rt)):Rt :=
  let r5:Rt:=(cT (cG a.x b.x) (cG a.y b.y))
  let r6:Rt:=(cT r5 (cG a.z b.z))
  r6
def j1 (a:Rt) (b:Rt):W :=
  bif (!(cE a)&&(!(cE b))) then ((wl 0)) else (bif (cE a) then (bif (cE b) then ((cf (cfN a.d) (wl 1) a.n a.d b.n b.d)) else ((wl 1))) else ((wl (-1))))
def dG (a:Rt):I :=
  bif (aH a) then ((E (Z.quo a.n.dec a.d.dec))) else ((E Z.bad))
def bT (a:Pull):Rt :=
  let r3:(A3 Rt):=(jD a.q a.p)
  (nE r3 r3)
def gO (a:Pull):(A2 I) :=
  bif (aH (bT a)) then (let r6:I:=(E (Z.mul (Z.sqrt (dG (bT a)).dec) (Z.sqrt (dG (bT a)).dec)))
  bif (decide (((lN r6).n)=((bT a).n))&&decide (((lN r6).d)=((bT a).d))) then ((⟨(E (Z.sqrt (dG (bT a)).dec)),(E (Z.sqrt (dG (bT a)).dec))⟩:(A2 I))) else (let r8:I:=(E (Z.add (Z.sqrt (dG (bT a)).dec) (Z.of 1)))
  (⟨(E (Z.sqrt (dG (bT a)).dec)),r8⟩:(A2 I)))) else ((⟨(E Z.bad),(E Z.bad)⟩:(A2 I)))
def fH (x:Rt) (b:W):Bool :=
  ((aH x)&&(decide ((Z.bitsW x.n.dec).1≤b.1)&&decide ((Z.bitsW x.d.dec).1≤b.1)))
def dY (v:(A3 Rt)) (b:W):Bool :=
  bif (fH v.x b) then (bif (fH v.y b) then (bif (fH v.z b) then (true) else (false)) else (false)) else (false)
def n4 (p:Pull):Bool :=
  bif (!(dY p.p (wl 40))||(!(dY p.q (wl 40)))) then (F_skewbacklaw26_sanity) else (let r9:Rt:=(oN (E (Z.mul ((bK p).1).dec ((bK p).1).dec)))
  let r11:Rt:=(oN (E (Z.mul ((bK p).2).dec ((bK p).2).dec)))
  (F_skewbacklaw26_sanity&&(decide ((j1 r9 (cF p)).1≤0)&&(decide ((j1 (cF p) r11).1≤0)&&(bif decide ((E (Z.sub ((bK p).2).dec ((bK p).1).dec))=(E (Z.of 0))) then (bif (decide (r9.n=((cF p).n))&&decide (r9.d=((cF p).d))) then (decide (((bK p).1)=((bK p).2))==(decide (((cF p).n)=r11.n)&&decide (((cF p).d)=r11.d))) else (decide (((bK p).1)=((bK p).2))==false)) else (decide ((E (Z.sub ((bK p).2).dec ((bK p).1).dec))=(E (Z.of 1)))&&(bif (decide (r9.n=((cF p).n))&&decide (r9.d=((cF p).d))) then (decide (((bK p).1)=((bK p).2))==(decide (((cF p).n)=r11.n)&&decide (((cF p).d)=r11.d))) else (decide (((bK p).1)=((bK p).2))==false))))))))
end Go.Num

namespace Go.Proofs.YtkjjponijamaoaaGreatDoor
open Go.Kn Go.Num
theorem PE (a b:R) (ha:a.Ok) (hb:b.Ok) :
    Ret Tryz.prog 133 [RV a,RV b] (RV (Z.rem a.dec b.dec).enc):=by
 refine cM (N:=14) Tryz.func133 rfl rfl (by simp) (fun w0=>?_);simp only [cS,Nat.reduceAdd];refine Sq fun K1 J1=>Rk fun K J=>bA rfl (qR rfl rfl (fun b2 hb2=>bA rfl (qR rfl rfl (fun b3 hb3=>bA rfl (i1 oM (fun b4 hb4=>nl J (J1 _ _ (Sq fun K2 J2=>Rk fun K J=>sQ (eG aD rfl mm_ (eO ha)) rfl ?_))))))));refine sQ (eG aD rfl mm_ (eO hb)) rfl ?_;refine sQ (bZ iE_ (HL a b ha hb) rfl) rfl (sE rfl (sE rfl (sE rfl (bA rfl (i1 oM (fun b5 hb5=>bA rfl (i1 oM (fun b6 hb6=>bA rfl (dX aD rfl rfl uu_ (aS _) rfl (dL _) (.inl (by assumption)) ?_)))))))));refine bA rfl (dX aD rfl rfl uu_ (aS _) rfl (dL _) (.inl (by assumption)) ?_);refine nl J (J2 _ _ (Sq fun K3 J3=>Rk fun K J=>sQ (eG aD rfl mm_ (aS _)) rfl ?_));refine bA rfl (dX aD rfl rfl uu_ (aS _) rfl (dL _) (.inl (by assumption)) ?_);refine nl J (J3 _ _ (aL (cC rfl (.inr rfl) ⟨_,_,_,_,_,_,rfl,mm_,aD,_,(gS (aS _)),(aS _),rfl⟩ ?_)));exact rfl

theorem dO (a:Rt) :
    Ret Tryz.prog 74 [AV [pI a.n,pI a.d]] (.bool (aH a)):=by
 refine cM (N:=26) Tryz.func74 rfl rfl (by simp) (fun w0=>?_);simp only [cS,Nat.reduceAdd];refine Rs fun K J=>bA rfl (cH rfl rfl (fun b1 hb1=>sE rfl (nl J (Sq fun K1 J1=>?_))));refine dH [3,4,5,6,7,8,9,10,11,12] (fun g M=>(g 12 = .bool (!a.n.1.good||(!a.d.1.good)))∧M=[⟨b1,33,aW [pI a.n,pI a.d]⟩]) (fun K2 J2=>?_) ?_
 ·refine Rk fun K J=>sQ (qF jZ rfl rfl) rfl (sQ (qL aD rfl m0 rfl) rfl (sC (.bool a.n.1.good) vE (d9 a.n.1 a.n.2) rfl rfl rfl (sE rfl ?_)));rcases bt a.n.1.good with h3 | h3
  ·refine sB (iS h3) rfl (sQ (qF fV rfl rfl) rfl (sQ (qL aD rfl m0 rfl) rfl (sC (.bool a.d.1.good) vE (d9 a.d.1 a.d.2) rfl rfl rfl (sE rfl (sE rfl (nl J ?_))))));refine J2 _ _ pp_ ⟨_,s0,?s12,rfl⟩
   case s12=>exact congrArg Value.bool (j3 h3 rfl)
  refine sB (iT h3) rfl (aI rfl (aI rfl (aI rfl (aI rfl (sE rfl (nl J ?_))))));refine J2 _ _ pp_ ⟨_,s0,?s12,rfl⟩
  case s12=>exact congrArg Value.bool (oJ h3)
 rintro g4 M ⟨hg12,rfl⟩;simp only [dQ,hg12];clear hg12;rcases bt (!a.n.1.good||(!a.d.1.good)) with h5 | h5
 ·refine W_t h5 rfl (Rs fun K J=>sE rfl (nl J (aL (aB (cC rfl (.inr rfl) rfl ?_)))));exact (by exact congrArg vS2 (show _=(aH a) from bI h5 rfl))
 refine W_f h5 rfl (aG (J1 _ _ ?_));refine dH [2,13,14,15,16,17,18,19,20,21,22,23,24,25] (fun g M=>(g 2 = .bool (decide (0<(Z.signW a.d.dec).1)&&decide ((E (Z.gcd a.n.dec a.d.dec))=F_skewbackref04_one)))∧M=[⟨b1,33,aW [pI a.n,pI a.d]⟩]) (fun K3 J3=>?_) ?_
 ·refine Rk fun K J=>sQ (qF fV rfl rfl) rfl (sQ (qL aD rfl m0 rfl) rfl (sC (.int .i64 ((Z.signW a.d.dec).1)) D7 (j0 a.d.1 a.d.2) rfl rfl rfl (sE rfl ?_)));rcases bt (decide (0<(Z.signW a.d.dec).1)) with h7 | h7
  ·refine sB h7 rfl (sQ (qF jZ rfl rfl) rfl (sQ (qL aD rfl m0 rfl) rfl (sQ (qF fV rfl rfl) rfl (sQ (qL aD rfl m0 rfl) rfl (sC (AV [pI (E (Z.gcd a.n.dec a.d.dec))]) M9 (pK a.n.1 a.d.1 a.n.2 a.d.2) rfl rfl rfl (sQ (bZ aq_ xH  rfl) rfl ?_))))));refine sQ (rG (r:=decide ((E (Z.gcd a.n.dec a.d.dec))=F_skewbackref04_one)) rfl rfl (kR 8 dd_ IL IS (iN cX) (iN cX) (mU fU))) rfl (sE rfl (sE rfl (nl J ?_)));refine J3 _ _ pp_ ⟨_,s0,?s2,rfl⟩
   case s2=>exact congrArg Value.bool (eB h7 rfl)
  refine sB h7 rfl (aI rfl (aI rfl (aI rfl (aI rfl (aI rfl (aI rfl (aI rfl (sE rfl (sE rfl (nl J ?_))))))))));refine J3 _ _ pp_ ⟨_,s0,?s2,rfl⟩
  case s2=>exact congrArg Value.bool (kU h7)
 rintro g8 M ⟨hg2,rfl⟩;simp only [dQ,hg2];clear hg2;refine aL (cC rfl (.inr rfl) rfl ?_);exact (by exact congrArg vS2 (show _=(aH a) from aM h5 rfl))

end Go.Proofs.YtkjjponijamaoaaGreatDoor


namespace Go.Num
open Go Go.Kn
theorem g9_ {a:Rt} (h:cE a=true):cfP (cfN a.d) a.d:=by
  unfold cE at h;simp only [Bool.and_eq_true,decide_eq_true_eq] at h;exact YJ h.2.2.1
end Go.Num

namespace Go.Proofs.YtkjjponijamaoaaGreatDoor
open Go.Kn Go.Num
theorem BN (a:Rt) (b:Rt) :
    Ret Tryz.prog 56 [AV [pI a.n,pI a.d],AV [pI b.n,pI b.d]] (.int .i64 ((j1 a b).1)):=by
 refine cM (N:=80) Tryz.func56 rfl rfl (by simp) (fun w0=>?_);simp only [cS,Nat.reduceAdd];refine Rs fun K J=>bA rfl (cH rfl rfl (fun b1 hb1=>bA rfl (cH rfl rfl (fun b2 hb2=>sE rfl (nl J (lr_ (ds (sk (sk (s0))) [0,4,8,12,16,20] [] mix (by kernel_rfl) (fun K J=>pQ rfl (qL bD rfl m1 rfl) (pQ rfl (bZ y7 (iV a) rfl) (pQ rfl (qL bD rfl m0 rfl) (pQ rfl (bZ y7 (iV b) rfl) (pE rfl (pE rfl (fl J (Sq fun K1 J1=>aJ ?_)))))))))))))));refine dH [15,16,17,18,19,20,21] (fun g M=>(g 15 = .bool (!(cE a)&&(!(cE b))))∧M=[⟨b2,33,aW [pI b.n,pI b.d]⟩,⟨b1,33,aW [pI a.n,pI a.d]⟩]) (fun K2 J2=>?_) ?_
 ·refine Rk fun K J=>sE rfl (sE rfl ?_);rcases bt (cE a) with h4 | h4
  ·refine sB (iS h4) rfl (aI rfl (aI rfl (sE rfl (sE rfl (nl J ?_)))));refine J2 _ _ pp_ ⟨_,s0,?s15,rfl⟩
   case s15=>exact congrArg Value.bool (WJ h4)
  refine sB (iT h4) rfl (sE rfl (sE rfl (sE rfl (sE rfl (nl J ?_)))));refine J2 _ _ pp_ ⟨_,s0,?s15,rfl⟩
  case s15=>exact congrArg Value.bool (WI h4 rfl)
 rintro g5 M ⟨hg15,rfl⟩;simp only [dQ,hg15];clear hg15;rcases bt (!(cE a)&&(!(cE b))) with h6 | h6
 ·refine W_t h6 rfl (Rs fun K J=>sE rfl (nl J (aL (aT (aB (I5 (cC rfl (.inr rfl) rfl ?_)))))));exact (by exact congrArg vS8 (show _=(j1 a b) from bI h6 rfl))
 refine W_f h6 rfl (Rs fun K J=>sE rfl (sE rfl (sE rfl (nl J ?_))));rcases bt (cE a) with h7 | h7
 ·refine W_f (iS h7) rfl (Rs fun K J=>sE rfl (sE rfl (sE rfl (nl J ?_))));rcases bt (cE b) with h8 | h8
  ·refine W_f (iS h8) rfl (aG (J1 _ _ (Rs fun K J=>sE rfl (nl J (Sq fun K3 J3=>lq_ (J3 _ _ (Sq fun K4 J4=>aJ ?_)))))));refine eA [7,8,9,10,28,29,30,31,32,33,34,35,36,37,38,39,40,41,42,43,44,45,46,47,48,49,50,51,52,53,54,55,56,57,58,59,60,61,62,63,64,65,66,67,68,69,70,71,72,73,74,75,76,77,78] (fun g nn M=>∃ (o:W) (x:Rt) (y:Rt) (k:Nat),(g 7 = .int .i64 o.1)∧M=[⟨b2,33,aW [pI y.n,pI y.d]⟩,⟨b1,33,aW [pI x.n,pI x.d]⟩]∧nn=k∧(cf k o x.n x.d y.n y.d=cf (cfN a.d) (wl 1) a.n a.d b.n b.d∧cfP k x.d)) ((cfN a.d)) ?start ?round
   case start =>
    refine ⟨_,s0,(wl 1),a,b,(cfN a.d),?a7,rfl,rfl,⟨rfl,g9_ h7⟩⟩
    case a7=>rfl
   case round =>
    rintro nn g M ⟨o,x,y,k,hg7,rfl,hmeas,hinv⟩;subst nn;simp only [dQ,hg7];clear hg7;obtain ⟨m,rfl⟩:=bY_ hinv.2;refine aJ (Sq fun K5 J5=>ds (sk (sk (s0))) [0,4,8,12,16,20,24,28,32,36,40,44] [] mix (by kernel_rfl) (fun K J=>pQ rfl (qF jZ rfl rfl) (pQ rfl (qL aD rfl m1 rfl) (pQ rfl (qF fV rfl rfl) (pQ rfl (qL aD rfl m1 rfl) (pC (AV [pI (E (Z.quo x.n.dec x.d.dec))]) zC (mH x.n.1 x.d.1 x.n.2 x.d.2) rfl rfl rfl (pQ rfl (qF jZ rfl rfl) (pQ rfl (qL aD rfl m0 rfl) (pQ rfl (qF fV rfl rfl) (pQ rfl (qL aD rfl m0 rfl) (pC (AV [pI (E (Z.quo y.n.dec y.d.dec))]) zC (mH y.n.1 y.d.1 y.n.2 y.d.2) rfl rfl rfl (pC (.int .i64 ((Z.cmpW (Z.quo x.n.dec x.d.dec) (Z.quo y.n.dec y.d.dec)).1)) iv_ (PD (E (Z.quo x.n.dec x.d.dec)).1 (E (Z.quo y.n.dec y.d.dec)).1 (E (Z.quo x.n.dec x.d.dec)).2 (E (Z.quo y.n.dec y.d.dec)).2) rfl rfl (cg2 (fun p q=>Value.int .i64 (Z.cmpW p q).1) (eD _) (eD _)) (pE rfl (fl J (Rs fun K J=>sE rfl (sE rfl (nl J ?_)))))))))))))))));rcases bt ((Z.cmpW (Z.quo x.n.dec x.d.dec) (Z.quo y.n.dec y.d.dec)).1 != 0) with h9 | h9
    ·refine W_t h9 rfl (Rs fun K J=>sE rfl (sE rfl (sV (.int .i64 ((W.mul o (Z.cmpW (Z.quo x.n.dec x.d.dec) (Z.quo y.n.dec y.d.dec))).1)) rfl rfl (sE rfl (nl J (dW (aU (AK dd_ (aU (bJ (J4 _ _ (Rs fun K J=>sE rfl (sE rfl (nl J (aL (I5 (cC rfl (.inr rfl) rfl ?_)))))))))))))))));exact (by exact congrArg vS8 (show _=(j1 a b) from aM h6 (bI h7 (bI h8 ((qU_ hinv.1 h9))))))
    refine W_f h9 rfl (aG (J5 _ _ (E0 sn (.quiet 0 [1,7,16,17] (.quiet 1 [7,16,17] (.quiet 2 [3,6,7,14,15,16,17] (.quiet 3 [6,7,14,15,16,17] (.quiet 4 [5,6,7,14,15,16,17] (.quiet 5 [6,7,14,15,16,17] (.quiet 6 [7,14,15,16,17] (.quiet 7 [16,17] (.quiet 10 [11,14,15,16,17] (.quiet 11 [14,15,16,17] (.quiet 12 [13,14,15,16,17] (.quiet 13 [14,15,16,17] (.quiet 14 [15,16,17] (.still 8 [9,15,17] (.both 9 (.still 15 [17] (.only 16 (.only 17 (.fin)))) 16 (.quiet 9 [15,17] (.quiet 15 [17] (.only 17 (.fin))))))))))))))))))) [0,1,2,3,4,5,6,7,8,9,10,11,12,13,14,15] mix (by kernel_rfl) (by kernel_rfl) (fun K J=>pQ rfl (qF fV rfl rfl) (pQ rfl (qL aD rfl m1 rfl) (pQ rfl (qF jZ rfl rfl) (pQ rfl (qL aD rfl m1 rfl) (pQ rfl (qF fV rfl rfl) (pQ rfl (qL aD rfl m1 rfl) (pC (AV [pI (E (Z.rem x.n.dec x.d.dec))]) iw_ (PE x.n.1 x.d.1 x.n.2 x.d.2) rfl rfl rfl (pQ rfl (dR oR FJ rfl (.cons [pI x.d] [pI x.d,pI I0] rfl rfl rfl rfl (.cons [pI (E (Z.rem x.n.dec x.d.dec))] [pI x.d,pI (E (Z.rem x.n.dec x.d.dec))] rfl rfl rfl rfl (.nil _)))) (pQ rfl (qF jZ rfl rfl) (pQ rfl (qL aD rfl m0 rfl) (pQ rfl (qF fV rfl rfl) (pQ rfl (qL aD rfl m0 rfl) (pC (AV [pI (E (Z.rem y.n.dec y.d.dec))]) iw_ (PE y.n.1 y.d.1 y.n.2 y.d.2) rfl rfl rfl (RL rfl rfl (HG (off':=18) (eX fV dd_ rfl) rfl) ?_)))))))))))))))));refine EZ ?_ ?_
    ·refine d7 rfl rfl (yP (BR aD rfl m0 rfl) ⟨fun _=>s0,sn,RL rfl rfl (dR oR FJ rfl (.cons [pI y.d] [pI y.d,pI I0] rfl rfl rfl rfl (.cons [pI (E (Z.rem y.n.dec y.d.dec))] [pI y.d,pI (E (Z.rem y.n.dec y.d.dec))] rfl rfl rfl rfl (.nil _)))) (oS [pI x.d,pI (E (Z.rem x.n.dec x.d.dec))] bD rfl rfl rfl rfl rfl rfl (uT uH) rfl hb1 rfl sn (oS [pI y.d,pI (E (Z.rem y.n.dec y.d.dec))] bD rfl rfl rfl rfl rfl rfl uH rfl hb2 rfl sn (fl J (ds (sk (sk (s0))) [0,4,8,12,16,20,24,28] [] mix (by kernel_rfl) (fun K J=>pQ rfl (qF fV rfl rfl) (pQ rfl (qL aD rfl m1 rfl) (pC (.int .i64 ((Z.signW (Z.rem x.n.dec x.d.dec)).1)) C0 (k9 (E (Z.rem x.n.dec x.d.dec)).1 (E (Z.rem x.n.dec x.d.dec)).2) rfl rfl (cg1 (fun p=>Value.int .i64 (Z.signW p).1) (eD _)) (pQ rfl (qF fV rfl rfl) (pQ rfl (qL aD rfl m0 rfl) (pC (.int .i64 ((Z.signW (Z.rem y.n.dec y.d.dec)).1)) C0 (k9 (E (Z.rem y.n.dec y.d.dec)).1 (E (Z.rem y.n.dec y.d.dec)).2) rfl rfl (cg1 (fun p=>Value.int .i64 (Z.signW p).1) (eD _)) (pE rfl (pE rfl (fl J (Sq fun K6 J6=>?_))))))))))))))⟩);refine dH [66,67,68,69,70,71] (fun g M=>(g 71 = .bool (((Z.signW (Z.rem x.n.dec x.d.dec)).1==0)||((Z.signW (Z.rem y.n.dec y.d.dec)).1==0)))∧M=[⟨b2,33,aW [pI y.d,pI (E (Z.rem y.n.dec y.d.dec))]⟩,⟨b1,33,aW [pI x.d,pI (E (Z.rem x.n.dec x.d.dec))]⟩]) (fun K7 J7=>?_) ?_
     ·refine Rk fun K J=>sE rfl (sE rfl ?_);rcases bt ((Z.signW (Z.rem x.n.dec x.d.dec)).1==0) with h11 | h11
      ·refine sB h11 rfl (aI rfl (aI rfl (sE rfl (nl J ?_))));refine J7 _ _ pp_ ⟨_,s0,?s71,rfl⟩
       case s71=>exact congrArg Value.bool (lT h11)
      refine sB h11 rfl (sE rfl (sE rfl (sE rfl (nl J ?_))));refine J7 _ _ pp_ ⟨_,s0,?s71,rfl⟩
      case s71=>exact congrArg Value.bool (iK h11 rfl)
     rintro g12 M ⟨hg71,rfl⟩;simp only [dQ,hg71];clear hg71;rcases bt (((Z.signW (Z.rem x.n.dec x.d.dec)).1==0)||((Z.signW (Z.rem y.n.dec y.d.dec)).1==0)) with h13 | h13
     ·refine W_t h13 rfl (Rs fun K J=>sE rfl (sE rfl (sE rfl (sV (.int .i64 ((W.sub (Z.signW (Z.rem x.n.dec x.d.dec)) (Z.signW (Z.rem y.n.dec y.d.dec))).1)) rfl rfl (sV (.int .i64 ((W.mul o (W.sub (Z.signW (Z.rem x.n.dec x.d.dec)) (Z.signW (Z.rem y.n.dec y.d.dec)))).1)) rfl rfl (sE rfl (nl J (dW (aU (AK dd_ (aU (bJ (J4 _ _ (Rs fun K J=>sE rfl (sE rfl (nl J (aL (I5 (cC rfl (.inr rfl) rfl ?_)))))))))))))))))));exact (by exact congrArg vS8 (show _=(j1 a b) from aM h6 (bI h7 (bI h8 ((or_ hinv.1 h9 h13))))))
     refine W_f h13 rfl (aG (J6 _ _ (Rk fun K J=>sE rfl (sV (.int .i64 ((W.neg o).1)) rfl rfl (sE rfl (nl J ?_))))));refine ⟨pp_,_,_,s0,(Nat.lt_succ_self m),(W.neg o),(⟨x.d,(E (Z.rem x.n.dec x.d.dec))⟩:Rt),(⟨y.d,(E (Z.rem y.n.dec y.d.dec))⟩:Rt),m,?s7,rfl,rfl,oq_ hinv h9 h13⟩
     case s7=>rfl
    refine oS [pI x.d,pI (E (Z.rem x.n.dec x.d.dec))] bD rfl rfl rfl rfl rfl rfl (uT uH) rfl hb1 rfl sn (pQ rfl (qL aD rfl m0 rfl) (pQ rfl (dR oR FJ rfl (.cons [pI y.d] [pI y.d,pI I0] rfl rfl rfl rfl (.cons [pI (E (Z.rem y.n.dec y.d.dec))] [pI y.d,pI (E (Z.rem y.n.dec y.d.dec))] rfl rfl rfl rfl (.nil _)))) (oS [pI y.d,pI (E (Z.rem y.n.dec y.d.dec))] bD rfl rfl rfl rfl rfl rfl uH rfl hb2 rfl sn (fl J (ds (sk (sk (s0))) [0,4,8,12,16,20,24,28] [] mix (by kernel_rfl) (fun K J=>pQ rfl (qF fV rfl rfl) (pQ rfl (qL aD rfl m1 rfl) (pC (.int .i64 ((Z.signW (Z.rem x.n.dec x.d.dec)).1)) C0 (k9 (E (Z.rem x.n.dec x.d.dec)).1 (E (Z.rem x.n.dec x.d.dec)).2) rfl rfl (cg1 (fun p=>Value.int .i64 (Z.signW p).1) (eD _)) (pQ rfl (qF fV rfl rfl) (pQ rfl (qL aD rfl m0 rfl) (pC (.int .i64 ((Z.signW (Z.rem y.n.dec y.d.dec)).1)) C0 (k9 (E (Z.rem y.n.dec y.d.dec)).1 (E (Z.rem y.n.dec y.d.dec)).2) rfl rfl (cg1 (fun p=>Value.int .i64 (Z.signW p).1) (eD _)) (pE rfl (pE rfl (fl J (Sq fun K8 J8=>?_)))))))))))))));refine dH [66,67,68,69,70,71] (fun g M=>(g 71 = .bool (((Z.signW (Z.rem x.n.dec x.d.dec)).1==0)||((Z.signW (Z.rem y.n.dec y.d.dec)).1==0)))∧M=[⟨b2,33,aW [pI y.d,pI (E (Z.rem y.n.dec y.d.dec))]⟩,⟨b1,33,aW [pI x.d,pI (E (Z.rem x.n.dec x.d.dec))]⟩]) (fun K9 J9=>?_) ?_
    ·refine Rk fun K J=>sE rfl (sE rfl ?_);rcases bt ((Z.signW (Z.rem x.n.dec x.d.dec)).1==0) with h15 | h15
     ·refine sB h15 rfl (aI rfl (aI rfl (sE rfl (nl J ?_))));refine J9 _ _ pp_ ⟨_,s0,?s71,rfl⟩
      case s71=>exact congrArg Value.bool (lT h15)
     refine sB h15 rfl (sE rfl (sE rfl (sE rfl (nl J ?_))));refine J9 _ _ pp_ ⟨_,s0,?s71,rfl⟩
     case s71=>exact congrArg Value.bool (iK h15 rfl)
    rintro g16 M ⟨hg71,rfl⟩;simp only [dQ,hg71];clear hg71;rcases bt (((Z.signW (Z.rem x.n.dec x.d.dec)).1==0)||((Z.signW (Z.rem y.n.dec y.d.dec)).1==0)) with h17 | h17
    ·refine W_t h17 rfl (Rs fun K J=>sE rfl (sE rfl (sE rfl (sV (.int .i64 ((W.sub (Z.signW (Z.rem x.n.dec x.d.dec)) (Z.signW (Z.rem y.n.dec y.d.dec))).1)) rfl rfl (sV (.int .i64 ((W.mul o (W.sub (Z.signW (Z.rem x.n.dec x.d.dec)) (Z.signW (Z.rem y.n.dec y.d.dec)))).1)) rfl rfl (sE rfl (nl J (dW (aU (AK dd_ (aU (bJ (J4 _ _ (Rs fun K J=>sE rfl (sE rfl (nl J (aL (I5 (cC rfl (.inr rfl) rfl ?_)))))))))))))))))));exact (by exact congrArg vS8 (show _=(j1 a b) from aM h6 (bI h7 (bI h8 ((or_ hinv.1 h9 h17))))))
    refine W_f h17 rfl (aG (J8 _ _ (Rk fun K J=>sE rfl (sV (.int .i64 ((W.neg o).1)) rfl rfl (sE rfl (nl J ?_))))));refine ⟨pp_,_,_,s0,(Nat.lt_succ_self m),(W.neg o),(⟨x.d,(E (Z.rem x.n.dec x.d.dec))⟩:Rt),(⟨y.d,(E (Z.rem y.n.dec y.d.dec))⟩:Rt),m,?s7,rfl,rfl,oq_ hinv h9 h17⟩
    case s7=>rfl
  refine W_t (iT h8) rfl (Rs fun K J=>sE rfl (nl J (aL (aT (aB (I5 (cC rfl (.inr rfl) rfl ?_)))))));exact (by exact congrArg vS8 (show _=(j1 a b) from aM h6 (bI h7 (aM h8 rfl))))
 refine W_t (iT h7) rfl (Rs fun K J=>sE rfl (nl J (aL (aT (aB (I5 (cC rfl (.inr rfl) rfl ?_)))))));exact (by exact congrArg vS8 (show _=(j1 a b) from aM h6 (aM h7 rfl)))

end Go.Proofs.YtkjjponijamaoaaGreatDoor


namespace Go.Num
open Go Go.Kn
theorem NY (l:List I):(tM l).length≤l.length:=by
  rw [FQ,List.length_take];omega
theorem C3 {l:List I} {k:Nat} (h:l.length≤k):l.getD k I0=I0:=by simp [List.getD,List.getElem?_eq_none h]
end Go.Num

