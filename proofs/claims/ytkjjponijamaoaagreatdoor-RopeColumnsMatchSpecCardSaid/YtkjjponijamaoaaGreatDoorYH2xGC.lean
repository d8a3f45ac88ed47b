/- Lemmas: what they ask stands in their statements. -/
import Derived.Test.YtkjjponijamaoaaGreatDoorYH2xR
import Derived.Test.YtkjjponijamaoaaGreatDoorYOk
import Derived.Test.YtkjjponijamaoaaGreatDoorYPR
set_option linter.unusedSimpArgs false
set_option linter.unusedVariables false
set_option maxHeartbeats 8000000
set_option maxRecDepth 20000
namespace Go.Kn
open Go.RowKit
section
variable {P:Program} {w0:World} {X:List Nat} {N:Nm} {S:Fr} {M M':List Blk} {d:Option Tmp} {ty:TypeId} {ps:String} {af:Array Edge} {gd:Option (Nat×Bool)}
end
end Go.Kn
namespace Go.Num
open Go Go.Kn
section
variable {P:Program} {w0:World} {X:List Nat} {N:Nm} {S:Fr} {M:List Blk} {d:Option Tmp} {ty:TypeId} {ps:String} {af:Array Edge} {gd:Option (Nat×Bool)}
end
open Go Go.Kn
section
variable {P:Program} {w0:World} {X:List Nat} {N:Nm} {S:Fr} {M:List Blk} {d:Option Tmp} {ty:TypeId} {ps:String} {af:Array Edge} {gd:Option (Nat×Bool)}
end
open Go Go.Kn
theorem sR_ {x y:Int} (hx:-4611686018427387904<x∧x<4611686018427387904) (hy:-4611686018427387904<y∧y<4611686018427387904):IntKind.i64.wrap (x+y)=x+y∧I64 (x+y):=by
  have:I64 (x+y):=by unfold I64;omega
  exact ⟨eM this,this⟩
theorem fw_ {x:Int} (h:(decide (x<2147483648)&&decide (-2147483648<x))=true):x.natAbs<2147483648:=by simp only [Bool.and_eq_true,decide_eq_true_iff] at h;omega
theorem sS_ {x y:Int} (hx:x.natAbs<2147483648) (hy:y.natAbs<2147483648):IntKind.i64.wrap (x*y)=x*y∧I64 (x*y):=by
  have h:(x*y).natAbs<4611686018427387904:=by
    rw [Int.natAbs_mul]
    calc x.natAbs*y.natAbs≤2147483647*2147483647:=Nat.mul_le_mul (by omega) (by omega)
      _<_:=by decide
  have:I64 (x*y):=by unfold I64;omega
  exact ⟨eM this,this⟩
theorem gy_ {a b:R} (ha:a.Ok) (hb:b.Ok) (h:lJ a=true) (k:lJ b=true):Z.of (rK a+rK b)=Z.add a.dec b.dec:=by
  rw [Z.add,gZ (uR ha h).1 (uR hb k).1]
theorem gU_ {a b:R} (ha:a.Ok) (hb:b.Ok) (h:lJ a=true) (k:lJ b=true):Z.of (rK a*rK b)=Z.mul a.dec b.dec:=by
  rw [Z.mul,gZ (uR ha h).1 (uR hb k).1]
theorem lu_ {a b:R} (ha:a.Ok) (hb:b.Ok) (ga:a.good=true) (gb:b.good=true) (hn:a.neg=b.neg):Z.of (sgn a.neg (val a.w+val b.w))=Z.add a.dec b.dec:=by
  rw [Z.add,gZ (fF ha ga) (fF hb gb),← hn,bc_]
theorem og_ {a b:R} (ha:a.Ok) (hb:b.Ok) (ga:a.good=true) (gb:b.good=true) (hn:a.neg≠b.neg) (hlt:val a.w<val b.w):Z.of (sgn b.neg (val b.w - val a.w))=Z.add a.dec b.dec:=by
  rw [Z.add,gZ (fF ha ga) (fF hb gb),Int.add_comm,Q7 (Ne.symm hn) (by omega)]
theorem of_ {a b:R} (ha:a.Ok) (hb:b.Ok) (ga:a.good=true) (gb:b.good=true) (hn:a.neg≠b.neg) (hge:¬ val a.w<val b.w):Z.of (sgn a.neg (val a.w - val b.w))=Z.add a.dec b.dec:=by
  rw [Z.add,gZ (fF ha ga) (fF hb gb),Q7 hn (by omega)]
theorem pX_ {a b:R} (ha:a.Ok) (hb:b.Ok) (ga:a.good=true) (gb:b.good=true):Z.of (sgn (a.neg != b.neg) (val a.w*val b.w))=Z.mul a.dec b.dec:=by
  rw [Z.mul,gZ (fF ha ga) (fF hb gb),bd_]
theorem ib_ {a b:R} (ha:a.Ok) (hb:b.Ok) (ga:a.good=true) (gb:b.good=true):Z.cmp a.dec b.dec=CU (sgn a.neg (val a.w)) (sgn b.neg (val b.w)):=by unfold Z.cmp;rw [fF ha ga,fF hb gb]
theorem cu_ {a:R} (g:a.good=true) (hn:a.neg=true):0<val a.w:=by
  obtain ⟨bad,neg,w⟩:=a;simp only [R.good,R.valid,R.zero,Bool.and_eq_true,Bool.not_eq_true'] at g hn;obtain ⟨hb,hv⟩:=g;subst hb hn
  simp at hv
  exact Nat.pos_of_ne_zero hv
theorem ou_ {a b:R} (ha:a.Ok) (hb:b.Ok) (ga:a.good=true) (gb:b.good=true) (hn:a.neg≠b.neg):(if a.neg then (-1:Int) else 1)=Z.cmp a.dec b.dec:=by
  rw [ib_ ha hb ga gb]
  cases h1:a.neg<;>cases h2:b.neg
  · exact absurd (h1.trans h2.symm) hn
  · have:=cu_ gb h2;rw [BD,BO,G5 (by omega)];rfl
  · have:=cu_ ga h1;rw [BD,BO,G6 (by omega)];rfl
  exact absurd (h1.trans h2.symm) hn
theorem fa_ {a b:R} (ha:a.Ok) (hb:b.Ok) (ga:a.good=true) (gb:b.good=true) (hn:a.neg=b.neg) (x y:Nat) (h:if a.neg then x=val b.w∧y=val a.w else x=val a.w∧y=val b.w) :
    (if x<y then (-1:Int) else if y<x then 1 else 0)=Z.cmp a.dec b.dec:=by
  rw [ib_ ha hb ga gb,← hn]
  cases h1:a.neg
  · rw [h1] at h;obtain ⟨rfl,rfl⟩:=h
    rw [BD,BD];rcases Nat.lt_trichotomy (val a.w) (val b.w) with h|h|h
    · rw [if_pos h,G6 (by omega)]
    · rw [h,if_neg (Nat.lt_irrefl _),if_neg (Nat.lt_irrefl _),QK]
    rw [if_neg (by omega),if_pos h,G5 (by omega)]
  rw [h1] at h;obtain ⟨rfl,rfl⟩:=h;rw [BO,BO];rcases Nat.lt_trichotomy (val a.w) (val b.w) with h|h|h
  · rw [if_neg (by omega),if_pos h,G5 (by omega)]
  · rw [h,if_neg (Nat.lt_irrefl _),if_neg (Nat.lt_irrefl _),QK]
  rw [if_pos h,G6 (by omega)]
theorem hm_ {a:R} (ha:a.Ok) (h:val a.w<18446744073709551616):IntKind.u64.wrap (IntKind.u64.wrap (IntKind.u64.wrap ((a.w.getD 1 0:Nat):Int)*4294967296)+IntKind.u64.wrap ((a.w.getD 0 0:Nat):Int))=((val a.w:Nat):Int):=by
  have h1:=LG ha h;rw [t7,t7,t7,t7];have h2:=iZ ha.lim 0;have h3:=iZ ha.lim 1;omega
theorem af_ {a:R} (ha:a.Ok) (hg:a.good=true) {v:Int} (hv:v.natAbs<4294967296 ^ 16):Z.cmp a.dec (Z.of v).enc.dec=CU (sgn a.neg (val a.w)) v:=by
  rw [G9];unfold Z.cmp;rw [fF ha hg,Z.of_some hv]
theorem b0_ {x y:Int}:CU x y<0 ↔ x<y:=by
  unfold CU;split
  · simp [*]
  split<;>simp<;>omega
theorem bZ_ {x y:Int}:0<CU x y ↔ y<x:=by
  unfold CU;split
  · simp;omega
  split<;>simp<;>omega
theorem hi_ {a:R} (ha:a.Ok) (hg:a.good=true) (h:Z.cmp a.dec (Z.of (-9223372036854775808)).enc.dec<0):¬ (-9223372036854775808≤sgn a.neg (val a.w)∧sgn a.neg (val a.w)≤9223372036854775807):=by
  rw [af_ ha hg (by decide),b0_] at h;omega
theorem hj_ {a:R} (ha:a.Ok) (hg:a.good=true) (h:0<Z.cmp a.dec (Z.of 9223372036854775807).enc.dec):¬ (-9223372036854775808≤sgn a.neg (val a.w)∧sgn a.neg (val a.w)≤9223372036854775807):=by
  rw [af_ ha hg (by decide),bZ_] at h;omega
theorem hl_ {a:R} (ha:a.Ok) (hg:a.good=true) (h:¬ Z.cmp a.dec (Z.of (-9223372036854775808)).enc.dec<0) (k:¬ 0<Z.cmp a.dec (Z.of 9223372036854775807).enc.dec):-9223372036854775808≤sgn a.neg (val a.w)∧sgn a.neg (val a.w)≤9223372036854775807:=by
  rw [af_ ha hg (by decide),b0_] at h;rw [af_ ha hg (by decide),bZ_] at k;omega
theorem hg_ {a:R} (h:-9223372036854775808≤sgn a.neg (val a.w)∧sgn a.neg (val a.w)≤9223372036854775807):val a.w<18446744073709551616:=by
  cases hn:a.neg<;>rw [hn] at h<;>simp only [BO,BD] at h<;>omega
theorem eM_ {a:R} (h:-9223372036854775808≤sgn a.neg (val a.w)∧sgn a.neg (val a.w)≤9223372036854775807) (hn:a.neg=true):IntKind.i64.wrap (0 - IntKind.i64.wrap ((val a.w:Nat):Int))=sgn a.neg (val a.w):=by
  rw [hn,BO] at h ⊢;rw [JP,JP];split<;>split<;>omega
theorem eN_ {a:R} (h:-9223372036854775808≤sgn a.neg (val a.w)∧sgn a.neg (val a.w)≤9223372036854775807) (hn:a.neg=false):IntKind.i64.wrap ((val a.w:Nat):Int)=sgn a.neg (val a.w):=by
  rw [hn,BD] at h ⊢;rw [eM (by unfold I64;omega)]
end Go.Num
namespace Go.Kn
open Go.RowKit
section
variable {P:Program} {w0:World} {X:List Nat} {N:Nm} {S:Fr} {M:List Blk} {d:Option Tmp} {ty:TypeId} {ps:String} {af:Array Edge} {gd:Option (Nat×Bool)}
end
section
variable {P:Program} {w0:World} {X:List Nat} {N:Nm} {S:Fr} {M:List Blk} {d:Option Tmp} {ty:TypeId} {ps:String} {af:Array Edge} {gd:Option (Nat×Bool)}
end
section
variable {P:Program} {w0:World} {X:List Nat} {N:Nm} {S:Fr} {M:List Blk} {Q:AF}
variable {d:Option Tmp} {ty:TypeId} {ps:String} {af:Array Edge} {gd:Option (Nat×Bool)}
end
section
variable {P:Program} {w0:World} {X:List Nat} {N:Nm} {Q:AF} {S:Fr} {M:List Blk} {c:Code}
end
open Go.RowKit
section rows
variable {α:Type} {e:El α}
end rows
section
variable {α:Type} {e:El α} {P:Program} {w0:World} {X:List Nat} {N:Nm} {S:Fr} {M M':List Blk} {d:Option Tmp} {ty:TypeId} {ps:String} {af:Array Edge} {gd:Option (Nat×Bool)} {v:Value} {l:List α}
end
open Go.RowKit
section
variable {P:Program} {w0:World} {X:List Nat} {N:Nm} {S:Fr} {M:List Blk} {d:Option Tmp} {ty:TypeId} {ps:String} {af:Array Edge} {gd:Option (Nat×Bool)}
end
open Go.RowKit
section
variable {α:Type} {e:El α} {P:Program} {w0:World} {X:List Nat} {N:Nm} {S:Fr} {M:List Blk} {d:Option Tmp} {ty:TypeId} {ps:String} {af:Array Edge} {gd:Option (Nat×Bool)} {v:Value} {l:List α}
end
section
variable {α:Type} {e:El α} {w0:World} {X:List Nat} {M:List Blk} {v:Value} {l:List α}
end
open Go.RowKit
section
variable {P:Program} {w0:World} {X:List Nat} {S:Fr} {M:List Blk} {d:Option Tmp} {ty:TypeId} {p:String} {af:Array Edge} {gd:Option (Nat×Bool)}
end
end Go.Kn
namespace Go.Num
open Go Go.Kn
theorem bz_ {a b:Z} (h:E a=E b):a=b:=by rw [← eD a,← eD b,h]
theorem oA_ {n m k:Nat} (hn:n<65536 ^ k):n - m<65536 ^ k:=Nat.lt_of_le_of_lt (Nat.sub_le _ _) hn
theorem sB_ {n m i k:Nat} (hn:n<65536 ^ i) (hm:m<65536 ^ k):n*m<65536 ^ (i+k):=by rw [Nat.pow_add];exact Nat.mul_lt_mul_of_lt_of_lt hn hm
end Go.Num
namespace Go.Kn
open Go
section
variable {P:Program} {w0:World} {X:List Nat} {N:Nm} {Q:AF} {S:Fr} {M:List Blk} {c:Code}
end
end Go.Kn
namespace Go.Num
open Go Go.Kn
open Go
theorem sL_ (k:Nat):IntKind.i64.wrap (1*2 ^ (min (((k % 16:Nat):Int)).toNat IntKind.i64.bits))=((2 ^ (k % 16):Nat):Int):=by
  have h1:(((k % 16:Nat):Int)).toNat=k % 16:=Int.toNat_natCast _;have h2:k % 16<16:=Nat.mod_lt _ (by decide);have h3:min (k % 16) IntKind.i64.bits=k % 16:=Nat.min_eq_left (by show k % 16≤64;omega);rw [h1,h3,Int.one_mul];have h4:(2:Nat) ^ (k % 16)<2 ^ 16:=Nat.pow_lt_pow_right (by decide) h2
  have h5:((2:Int) ^ (k % 16))=((2 ^ (k % 16):Nat):Int):=by simp
  rw [h5];generalize (2:Nat) ^ (k % 16)=q at *;exact wi ⟨by omega,by omega⟩
theorem qb_ (k:Nat):(List.replicate (k / 16+1) 0).set (k / 16) (2 ^ (k % 16))=dl (2 ^ k):=by
  have hk:(2:Nat) ^ k=65536 ^ (k / 16)*2 ^ (k % 16):=by
    rw [show (65536:Nat)=2 ^ 16 from rfl,← Nat.pow_mul,← Nat.pow_add];congr 1;omega
  have h16:(2:Nat) ^ (k % 16)<65536:=by
    rw [show (65536:Nat)=2 ^ 16 from rfl];exact Nat.pow_lt_pow_right (by decide) (Nat.mod_lt _ (by decide))
  have h0:0<(2:Nat) ^ (k % 16):=Nat.pow_pos (by decide);rw [hk];generalize (2:Nat) ^ (k % 16)=q at *;generalize k / 16=n;clear hk
  induction n with
  | zero =>
    have:=ai_ (d:=q) (m:=0) h16 (by omega);rw [yJ] at this
    simpa using this.symm
  | succ n ih =>
    have h1:65536 ^ (n+1)*q=0+65536*(65536 ^ n*q):=by rw [Nat.pow_succ];generalize 65536 ^ n=z;rw [Nat.zero_add,Nat.mul_comm z 65536,Nat.mul_assoc]
    have h2:0<65536 ^ n*q:=Nat.mul_pos (Nat.pow_pos (by decide)) h0;rw [h1,ai_ (by decide) (by omega),← ih];rfl
end Go.Num
namespace Go.Kn
open Go.RowKit
section
variable {P:Program} {w0:World} {X:List Nat} {N:Nm} {S:Fr} {M:List Blk}
variable {ops:List Oper} {Q:Fr→List Blk→Prop} {o:Oper} {l:List Oper} {v v':Value} {d:Tmp} {b c:Bool} {nw:List Nat} {MD:List Blk} {i:Nat} {ws:List Nat} {r:Plan}
section
variable {g:FuncId} {xs:List Operand} {tys:Array TypeId} {args:List Value} {ty:TypeId} {ps:String} {af:Array Edge} {gd:Option (Nat×Bool)}
end
end
section
variable {P:Program} {w0:World} {X:List Nat} {N:Nm} {S:Fr} {M:List Blk} {d:Option Tmp} {ty:TypeId} {ps:String} {af:Array Edge} {gd:Option (Nat×Bool)}
end
section
variable {P:Program} {w0:World} {X:List Nat} {N:Nm} {S:Fr} {M:List Blk} {Q:AF}
end
section
variable {P:Program} {w0:World} {X:List Nat} {N:Nm} {S:Fr} {M:List Blk} {Q:AF}
end
section
variable {α:Type} {e:El α} {w0 w:World} {X:List Nat} {M M' L:List Blk} {v:Value} {l:List α} {E:TypeId}
end
end Go.Kn
namespace Go.Num
open Go Go.Kn Go.RowKit Go.ChangeShapes Go.WideShapes
def jz_ (P:Program) (T:TypeId):Bool:=match P.underlying T with|some (.struct _)=>true|some (.array _ _)=>true|_=>false
section
variable {H:Type} {enc:TypeId×Value→H} {P:Program} {w:World} {base:Nat} {spare:Nat→Bool} {held:Bool}
theorem su_ {T:TypeId} {ls:List AW} {v:Value} {d:DataW H} {p:List MemPlace} (h:lz P 8 T=some ls) (ht:DataW.Trod enc P w base spare held T v d p):LWF v.cells.toList ls:=by
  obtain ⟨fuel,hf⟩:=ht;exact HD 8 h hf
theorem p4_ {r:Reach} {T:TypeId} {v:Value} (h:jz_ P T=true) (hv:Value.okWide P w r base T v):∃ cs:List Value,v = .agg cs.toArray:=by
  unfold jz_ at h;unfold Value.okWide at hv
  split at h
  · rename_i fs hu;rw [hu] at hv;obtain ⟨cs,hc,_⟩:=hv;exact ⟨cs.toList,by simpa using hc⟩
  · rename_i n e hu;rw [hu] at hv;obtain ⟨cs,hc,_⟩:=hv;exact ⟨cs.toList,by simpa using hc⟩
  · cases h
end
theorem fN_:∀ {n:Nat} {cs:List Value},LWF cs (List.replicate n (some .u32))→∃ l:List Nat,l.length=n∧Lim l∧cs=uw l
  | 0,[],_=>⟨[],rfl,(fun _ h=>by cases h),rfl⟩
  | 0,_::_,h=>h.elim
  | n+1,[],h=>h.elim
  | n+1,v::vs,h=>by
    obtain ⟨l,hl,hlim,rfl⟩:=fN_ (n:=n) (cs:=vs) h.2
    match v,h.1 with
    | .int k m,hv =>
      obtain ⟨rfl,hw⟩:=hv;have hb:=bounds_u32 hw;refine ⟨m.toNat::l,by simp [hl],fun d hd=>?_,?_⟩
      · rcases List.mem_cons.1 hd with rfl|hd
        · omega
        exact hlim d hd
      have:((m.toNat:Nat):Int)=m:=by omega
      simp [uw,U32,this]
theorem nK_ {cs:List Value} (h:LWF cs LI):∃ x:I,cs=(pI x).l:=by
  match cs,h with
  | .bool a::.bool b::rest,h =>
    obtain ⟨l,hl,hlim,rfl⟩:=fN_ h.2.2;exact ⟨⟨⟨a,b,l⟩,⟨hl,hlim⟩⟩,rfl⟩
open Go Go.Kn Go.RowKit
end Go.Num
namespace Go.Kn
open Go
section
variable {α:Type} {e:El α} {P:Program} {w0:World} {X:List Nat} {N:Nm} {S:Fr} {M M':List Blk} {d:Option Tmp} {ty:TypeId} {ps:String} {af:Array Edge} {gd:Option (Nat×Bool)} {v:Value} {l:List α}
end
end Go.Kn
namespace Go.Num
open Go Go.Kn
def Z.sqrt (z:Z):Z:=QW (fun v=>bif decide (v<0) then Z.bad else Z.of ((C4 v.toNat:Nat):Int)) z
theorem hc_ {v r s:Nat} (h1:r*r≤v) (h2:v<(r+1)*(r+1)) (h3:s*s≤v) (h4:v<(s+1)*(s+1)):r=s:=by
  rcases Nat.lt_trichotomy r s with h|h|h
  · have:=bj_ h;omega
  · exact h
  have:=bj_ h;omega
theorem eg_ {v r:Nat} (h:v<4294967296 ^ 16) (h1:r*r≤v) (h2:v<(r+1)*(r+1)):r=C4 v:=hc_ h1 h2 (AO h).1 (AO h).2
theorem ZH {a:R} (ha:a.Ok) (ga:a.good=true) (hn:a.neg=false) {r:Nat} (h1:r*r≤val a.w) (h2:val a.w<(r+1)*(r+1)):Z.of (sgn false r)=Z.sqrt a.dec:=by
  unfold Z.sqrt;rw [rB (fF ha ga),hn];have e:sgn false (val a.w)=((val a.w:Nat):Int):=rfl;rw [e,decide_eq_false oo_,cond_false,Int.toNat_natCast,← eg_ (ZS ha) h1 h2];rfl
theorem db_ {a:R} (ha:a.Ok) (ga:a.good=true) (hn:a.neg=true):Z.sqrt a.dec=Z.bad:=by
  unfold Z.sqrt;rw [rB (fF ha ga),hn]
  have h0:val a.w≠0:=fun h=>by
    have:=ga;unfold R.good R.valid at this
    simp [hn,R.zero] at this
    exact this.2 h
  have e:sgn true (val a.w) = -((val a.w:Nat):Int):=rfl;rw [e,decide_eq_true oo_];rfl
theorem da_ {a:R} (ga:a.good=false):Z.sqrt a.dec=Z.bad:=by
  unfold Z.sqrt R.dec;rw [if_neg (by simp [ga])];rfl
theorem kP_ {n:Nat} (h:n≤32):IntKind.i64.wrap (IntKind.i64.wrap (8*(n:Int))+7)=((8*n+8:Nat):Int) - 1:=by
  rw [wi (n:=8*(n:Int)) oo_,wi oo_];omega
theorem qv_ {a k:Nat} (h:a<65536 ^ k):a<(0+2 ^ (8*k+8))*(0+2 ^ (8*k+8)):=by
  rw [Nat.zero_add,← Nat.pow_add];rw [show (65536:Nat)=2 ^ 16 from rfl,← Nat.pow_mul] at h;exact Nat.lt_of_lt_of_le h (Nat.pow_le_pow_right dd_ oo_)
theorem qw_ {v r k:Nat} (h2:v<(r+2 ^ (k+1))*(r+2 ^ (k+1))):v<(r+2 ^ k+2 ^ k)*(r+2 ^ k+2 ^ k):=by
  rw [Nat.add_assoc,← Nat.two_mul,Nat.mul_comm 2,← Nat.pow_succ];exact h2
theorem f1_ {v r:Nat} (h:r*r≤v) (hv:v<4294967296 ^ 16):r<65536 ^ 16:=by
  rcases Nat.lt_or_ge r (65536 ^ 16) with h1|h1
  · exact h1
  exfalso
  have h2:=Nat.mul_le_mul h1 h1
  have h3:(65536:Nat) ^ 16*65536 ^ 16=4294967296 ^ 16:=by rw [← Nat.mul_pow]
  omega
theorem mo_ (k:Nat) (hk:k=17) {m:Nat} (h:m≤264):2 ^ m<65536 ^ k:=by
  rw [show (65536:Nat)=2 ^ 16 from rfl,← Nat.pow_mul];exact Nat.pow_lt_pow_right dd_ oo_
theorem kd_ {m:Nat} (h:m≤264):2 ^ m<65536 ^ 17:=mo_ 17 O h
theorem kU_ {r m:Nat} (h:r<65536 ^ 16) (h2:2 ^ m<65536 ^ 17):r+2 ^ m<65536 ^ 18:=by
  generalize 2 ^ m=q at *;have h3:(65536:Nat) ^ 16≤65536 ^ 17:=Nat.pow_le_pow_right dd_ dd_
  have h4:(65536:Nat) ^ 17*2≤65536 ^ 18:=by rw [Nat.pow_succ 65536 17];exact Nat.mul_le_mul_left _ dd_
  omega
theorem mM_ {r:Nat} (h:r<65536 ^ 18):r*r<65536 ^ 36:=by
  rw [show (36:Nat)=18+18 from rfl,Nat.pow_add];exact Nat.mul_lt_mul_of_lt_of_le h (Nat.le_of_lt h) (Nat.pow_pos dd_)
end Go.Num
namespace Go.Proofs.YtkjjponijamaoaaGreatDoor
open Go.Kn Go.Num
theorem A8:AE Tryz.prog 62=some (2,18):=by kernel_rfl
theorem q6_:Tryz.prog.eqGuardType Tryz.prog.depth 62=false:=by kernel_rfl
theorem q9_:aY Tryz.prog 18=true:=by kernel_rfl
theorem ra_:aY Tryz.prog 19=true:=by kernel_rfl
theorem ng_:aY Tryz.prog 23=true:=by kernel_rfl
theorem rb_:aY Tryz.prog 24=true:=by kernel_rfl
theorem nh_:aY Tryz.prog 26=true:=by kernel_rfl
theorem rc_:aY Tryz.prog 27=true:=by kernel_rfl
theorem i0_:aY Tryz.prog 29=true:=by kernel_rfl
theorem wB:aY Tryz.prog 74=true:=by kernel_rfl
theorem i8_:aY Tryz.prog 75=true:=by kernel_rfl
theorem nr_:aY Tryz.prog 82=true:=by kernel_rfl
theorem rl_:aY Tryz.prog 83=true:=by kernel_rfl
theorem YV:aY Tryz.prog 84=true:=by kernel_rfl
theorem rm_:aY Tryz.prog 86=true:=by kernel_rfl
theorem rn_:aY Tryz.prog 88=true:=by kernel_rfl
theorem ro_:aY Tryz.prog 90=true:=by kernel_rfl
theorem rp_:aY Tryz.prog 91=true:=by kernel_rfl
theorem rq_:aY Tryz.prog 92=true:=by kernel_rfl
theorem z7:aY Tryz.prog 93=true:=by kernel_rfl
theorem SU:aY Tryz.prog 94=true:=by kernel_rfl
theorem rr_:aY Tryz.prog 96=true:=by kernel_rfl
theorem VJ:aY Tryz.prog 157=true:=by kernel_rfl
theorem dT_:aY Tryz.prog 158=true:=by kernel_rfl
theorem oK_:aY Tryz.prog 159=true:=by kernel_rfl
theorem KH:aY Tryz.prog 160=true:=by kernel_rfl
theorem PT:aY Tryz.prog 162=true:=by kernel_rfl
theorem oL_:aY Tryz.prog 165=true:=by kernel_rfl
theorem iD_:aY Tryz.prog 170=true:=by kernel_rfl
theorem dV_:aY Tryz.prog 172=true:=by kernel_rfl
theorem ax_:aY Tryz.prog 213=true:=by kernel_rfl
theorem pg_:aY Tryz.prog 233=true:=by kernel_rfl
theorem OF:k8 Tryz.prog 56 0=some (0,3):=by kernel_rfl
theorem aD_:k8 Tryz.prog 56 1=some (3,1):=by kernel_rfl
theorem KK:k8 Tryz.prog 59 0=some (0,216):=by kernel_rfl
theorem KL:k8 Tryz.prog 59 1=some (216,216):=by kernel_rfl
theorem lW_:k8 Tryz.prog 59 2=some (432,1):=by kernel_rfl
theorem rz_:tH Tryz.prog 8 62=some (true,(LI++LI)):=by kernel_rfl
theorem WN:tJ Tryz.prog 56=some [(0,3),(3,1)]:=by kernel_rfl
theorem S5:tJ Tryz.prog 59=some [(0,216),(216,216),(432,1)]:=by kernel_rfl
theorem CM:o8 Tryz.prog 56=some (true,4):=by kernel_rfl
theorem DT:o8 Tryz.prog 59=some (true,433):=by kernel_rfl
theorem O9:o8 Tryz.prog 62=some (true,36):=by kernel_rfl
theorem MC:lC Tryz.prog 56=some (aW [ci .i64 0,ci .i64 0,ci .i64 0,ci .i64 0]):=by kernel_rfl
theorem N6:lC Tryz.prog 59=some (aW [pI I0,pI I0,pI I0,pI I0,pI I0,pI I0,pI I0,pI I0,pI I0,pI I0,pI I0,pI I0,pI I0,pI I0,pI I0,pI I0,pI I0,pI I0,pI I0,pI I0,pI I0,pI I0,pI I0,pI I0,ci .i64 0]):=by kernel_rfl
theorem N7:lC Tryz.prog 62=some (aW [pI I0,pI I0]):=by kernel_rfl
end Go.Proofs.YtkjjponijamaoaaGreatDoor
namespace Go.Num
open Go Go.Kn
def qZ (a:I) (b:I):I :=
  bif ((lJ a.1)&&(lJ b.1)) then ((E (Z.of (W.add (hZ a) (hZ b)).1))) else (bif (!a.1.good||(!b.1.good)) then ((E Z.bad)) else (bif (a.1.neg==b.1.neg) then ((E (Z.of (sgn a.1.neg ((val a.1.w)+(val b.1.w)))))) else (bif decide ((val a.1.w)<(val b.1.w)) then ((E (Z.of (sgn b.1.neg ((val b.1.w) - (val a.1.w)))))) else ((E (Z.of (sgn a.1.neg ((val a.1.w) - (val b.1.w)))))))))
def uS (a:I) (b:I):I :=
  bif ((lJ a.1)&&((lJ b.1)&&((decide ((hZ a).1<2147483648)&&decide (-2147483648<(hZ a).1))&&(decide ((hZ b).1<2147483648)&&decide (-2147483648<(hZ b).1))))) then ((E (Z.of (W.mul (hZ a) (hZ b)).1))) else (bif (!a.1.good||(!b.1.good)) then ((E Z.bad)) else ((E (Z.of (sgn (a.1.neg != b.1.neg) ((val a.1.w)*(val b.1.w)))))))
def kM (a:I) (b:I):W :=
  bif (!a.1.good&&(!b.1.good)) then ((wl 0)) else (bif a.1.good then (bif b.1.good then (bif (a.1.neg != b.1.neg) then (bif a.1.neg then ((wl (-1))) else ((wl 1))) else (bif a.1.neg then (bif decide ((val b.1.w)<(val a.1.w)) then ((wl (-1))) else (bif decide ((val a.1.w)<(val b.1.w)) then ((wl 1)) else ((wl 0)))) else (bif decide ((val a.1.w)<(val b.1.w)) then ((wl (-1))) else (bif decide ((val b.1.w)<(val a.1.w)) then ((wl 1)) else ((wl 0)))))) else ((wl 1))) else ((wl (-1))))
def lN (a:I):Rt :=
  let r3:Rt:=(cJ a F_skewbackref04_one)
  r3
def aH (a:Rt):Bool :=
  bif (!a.n.1.good||(!a.d.1.good)) then (false) else ((decide (0<(Z.signW a.d.dec).1)&&decide ((E (Z.gcd a.n.dec a.d.dec))=F_skewbackref04_one)))
def oF (a:Rt):Bool :=
  ((aH a)||(decide (a.n=pR.n)&&decide (a.d=pR.d)))
def lA (a:Rt):Rt :=
  bif (aH a) then ((⟨(E (Z.neg a.n.dec)),a.d⟩:Rt)) else (pR)
def cT (a:Rt) (b:Rt):Rt :=
  bif (!(aH a)||(!(aH b))) then (pR) else (let r11:I:=(E (Z.add (Z.mul a.n.dec (Z.quo b.d.dec (Z.gcd a.d.dec b.d.dec))) (Z.mul b.n.dec (Z.quo a.d.dec (Z.gcd a.d.dec b.d.dec)))))
  let r12:Rt:=(cJ r11 (E (Z.mul (Z.quo a.d.dec (Z.gcd a.d.dec b.d.dec)) b.d.dec)))
  r12)
def cO (a:Rt) (b:Rt):Rt :=
  let r4:Rt:=(cT a (lA b))
  r4
def cG (a:Rt) (b:Rt):Rt :=
  bif (!(aH a)||(!(aH b))) then (pR) else (let r10:I:=(E (Z.mul ((cJ a.n b.d).n).dec ((cJ b.n a.d).n).dec))
  let r12:I:=(E (Z.mul ((cJ a.n b.d).d).dec ((cJ b.n a.d).d).dec))
  (cJ r10 r12))
def oG (a:(A3 W)):Bool :=
  bif (decide (2305843009213693952≤a.x.1)||decide (a.x.1≤(-2305843009213693952))) then (false) else (bif (decide (2305843009213693952≤a.y.1)||decide (a.y.1≤(-2305843009213693952))) then (false) else (bif (decide (2305843009213693952≤a.z.1)||decide (a.z.1≤(-2305843009213693952))) then (false) else (true)))
def gU (a:(A3 I)):Dir :=
  bif (E (Z.gcd (Z.gcd (Z.gcd (Z.of 0) a.x.dec) a.y.dec) a.z.dec)).1.bad then ((⟨(⟨(wl 0),(wl 0),(wl 0)⟩:(A3 W)),(wl 30)⟩:Dir)) else (bif ((Z.signW (Z.gcd (Z.gcd (Z.gcd (Z.of 0) a.x.dec) a.y.dec) a.z.dec)).1==0) then ((⟨(⟨(wl 0),(wl 0),(wl 0)⟩:(A3 W)),(wl 31)⟩:Dir)) else (let r7:I:=(E (Z.quo a.x.dec (Z.gcd (Z.gcd (Z.gcd (Z.of 0) a.x.dec) a.y.dec) a.z.dec)))
  bif r7.dec.small.2 then (let r9:I:=(E (Z.quo a.y.dec (Z.gcd (Z.gcd (Z.gcd (Z.of 0) a.x.dec) a.y.dec) a.z.dec)))
  bif r9.dec.small.2 then (let r11:I:=(E (Z.quo a.z.dec (Z.gcd (Z.gcd (Z.gcd (Z.of 0) a.x.dec) a.y.dec) a.z.dec)))
  bif r11.dec.small.2 then (bif (oG (⟨(Z.smallW r7.dec),(Z.smallW r9.dec),(Z.smallW r11.dec)⟩:(A3 W))) then ((⟨(⟨(Z.smallW r7.dec),(Z.smallW r9.dec),(Z.smallW r11.dec)⟩:(A3 W)),(wl 0)⟩:Dir)) else ((⟨(⟨(wl 0),(wl 0),(wl 0)⟩:(A3 W)),(wl 30)⟩:Dir))) else ((⟨(⟨(wl 0),(wl 0),(wl 0)⟩:(A3 W)),(wl 30)⟩:Dir))) else ((⟨(⟨(wl 0),(wl 0),(wl 0)⟩:(A3 W)),(wl 30)⟩:Dir))) else ((⟨(⟨(wl 0),(wl 0),(wl 0)⟩:(A3 W)),(wl 30)⟩:Dir))))
def uY (a:(A3 Rt)):Bool :=
  ((oF a.x)&&((oF a.y)&&(oF a.z)))
def jD (a:(A3 Rt)) (b:(A3 Rt)):(A3 Rt) :=
  (⟨(cO a.x b.x),(cO a.y b.y),(cO a.z b.z)⟩:(A3 Rt))
def jE (a:Rt) (b:(A3 Rt)):(A3 Rt) :=
  (⟨(cG a b.x),(cG a b.y),(cG a b.z)⟩:(A3 Rt))
def nE (a:(A3 Rt)) (b:(A3 Rt)):Rt :=
  let r5:Rt:=(cT (cG a.x b.x) (cG a.y b.y))
  let r6:Rt:=(cT r5 (cG a.z b.z))
  r6
def k6 (a:Rt) (b:Rt) (c:Rt) (d:Rt):Rt :=
  let r6:Rt:=(cO (cG a b) (cG c d))
  r6
def j8 (a:(A3 Rt)) (b:(A3 Rt)):(A3 Rt) :=
  let r4:Rt:=(k6 a.y b.z a.z b.y)
  let r5:Rt:=(k6 a.z b.x a.x b.z)
  let r6:Rt:=(k6 a.x b.y a.y b.x)
  (⟨r4,r5,r6⟩:(A3 Rt))
def eY (a:I) (b:I) (c:I):I :=
  (E (Z.mul (Z.mul a.dec b.dec) c.dec))
def dG (a:Rt):I :=
  bif (aH a) then ((E (Z.quo a.n.dec a.d.dec))) else ((E Z.bad))
def bT (a:Pull):Rt :=
  let r3:(A3 Rt):=(jD a.q a.p)
  (nE r3 r3)
def gO (a:Pull):(A2 I) :=
  bif (aH (bT a)) then (let r6:I:=(E (Z.mul (Z.sqrt (dG (bT a)).dec) (Z.sqrt (dG (bT a)).dec)))
  bif (decide (((lN r6).n)=((bT a).n))&&decide (((lN r6).d)=((bT a).d))) then ((⟨(E (Z.sqrt (dG (bT a)).dec)),(E (Z.sqrt (dG (bT a)).dec))⟩:(A2 I))) else (let r8:I:=(E (Z.add (Z.sqrt (dG (bT a)).dec) (Z.of 1)))
  (⟨(E (Z.sqrt (dG (bT a)).dec)),r8⟩:(A2 I)))) else ((⟨(E Z.bad),(E Z.bad)⟩:(A2 I)))
def gC (a:Pull):Dir :=
  let q0:(A3 Rt):=(jD a.q a.p)
  let q1:I:=(eY q0.x.n q0.y.d q0.z.d)
  let q2:I:=(eY q0.x.d q0.y.n q0.z.d)
  let q3:I:=(eY q0.x.d q0.y.d q0.z.n)
  let q4:Dir:=(gU (⟨q1,q2,q3⟩:(A3 I)))
  q4
def bM (a:(A3 Rt)) (b:(A3 Rt)):(A6 Rt) :=
  let r4:(A3 Rt):=(j8 a b)
  (⟨b.x,b.y,b.z,r4.x,r4.y,r4.z⟩:(A6 Rt))
def cU (a:Pull):Cols :=
  let q0:Dir:=(gC a)
  bif (q0.e.1 != 0) then ((⟨(⟨(⟨I0,I0⟩:Rt),(⟨I0,I0⟩:Rt),(⟨I0,I0⟩:Rt),(⟨I0,I0⟩:Rt),(⟨I0,I0⟩:Rt),(⟨I0,I0⟩:Rt)⟩:(A6 Rt)),(⟨(⟨I0,I0⟩:Rt),(⟨I0,I0⟩:Rt),(⟨I0,I0⟩:Rt),(⟨I0,I0⟩:Rt),(⟨I0,I0⟩:Rt),(⟨I0,I0⟩:Rt)⟩:(A6 Rt)),q0.e⟩:Cols)) else (let q1:(A3 Rt):=(fM q0.v)
  let q2:(A6 Rt):=(bM a.p q1)
  let q3:Rt:=(aE (wl (-1)))
  let q4:(A3 Rt):=(jE q3 q1)
  let q5:(A6 Rt):=(bM a.q q4)
  let q6:Bool:=(aH q2.x0)
  let q7:Bool:=(aH q5.x0)
  bif (!q6||(!q7)) then ((⟨(⟨(⟨I0,I0⟩:Rt),(⟨I0,I0⟩:Rt),(⟨I0,I0⟩:Rt),(⟨I0,I0⟩:Rt),(⟨I0,I0⟩:Rt),(⟨I0,I0⟩:Rt)⟩:(A6 Rt)),(⟨(⟨I0,I0⟩:Rt),(⟨I0,I0⟩:Rt),(⟨I0,I0⟩:Rt),(⟨I0,I0⟩:Rt),(⟨I0,I0⟩:Rt),(⟨I0,I0⟩:Rt)⟩:(A6 Rt)),(wl 30)⟩:Cols)) else (let q8:Bool:=(aH q2.x1)
  let q9:Bool:=(aH q5.x1)
  bif (!q8||(!q9)) then ((⟨(⟨(⟨I0,I0⟩:Rt),(⟨I0,I0⟩:Rt),(⟨I0,I0⟩:Rt),(⟨I0,I0⟩:Rt),(⟨I0,I0⟩:Rt),(⟨I0,I0⟩:Rt)⟩:(A6 Rt)),(⟨(⟨I0,I0⟩:Rt),(⟨I0,I0⟩:Rt),(⟨I0,I0⟩:Rt),(⟨I0,I0⟩:Rt),(⟨I0,I0⟩:Rt),(⟨I0,I0⟩:Rt)⟩:(A6 Rt)),(wl 30)⟩:Cols)) else (let q10:Bool:=(aH q2.x2)
  let q11:Bool:=(aH q5.x2)
  bif (!q10||(!q11)) then ((⟨(⟨(⟨I0,I0⟩:Rt),(⟨I0,I0⟩:Rt),(⟨I0,I0⟩:Rt),(⟨I0,I0⟩:Rt),(⟨I0,I0⟩:Rt),(⟨I0,I0⟩:Rt)⟩:(A6 Rt)),(⟨(⟨I0,I0⟩:Rt),(⟨I0,I0⟩:Rt),(⟨I0,I0⟩:Rt),(⟨I0,I0⟩:Rt),(⟨I0,I0⟩:Rt),(⟨I0,I0⟩:Rt)⟩:(A6 Rt)),(wl 30)⟩:Cols)) else (let q12:Bool:=(aH q2.x3)
  let q13:Bool:=(aH q5.x3)
  bif (!q12||(!q13)) then ((⟨(⟨(⟨I0,I0⟩:Rt),(⟨I0,I0⟩:Rt),(⟨I0,I0⟩:Rt),(⟨I0,I0⟩:Rt),(⟨I0,I0⟩:Rt),(⟨I0,I0⟩:Rt)⟩:(A6 Rt)),(⟨(⟨I0,I0⟩:Rt),(⟨I0,I0⟩:Rt),(⟨I0,I0⟩:Rt),(⟨I0,I0⟩:Rt),(⟨I0,I0⟩:Rt),(⟨I0,I0⟩:Rt)⟩:(A6 Rt)),(wl 30)⟩:Cols)) else (let q14:Bool:=(aH q2.x4)
  let q15:Bool:=(aH q5.x4)
  bif (!q14||(!q15)) then ((⟨(⟨(⟨I0,I0⟩:Rt),(⟨I0,I0⟩:Rt),(⟨I0,I0⟩:Rt),(⟨I0,I0⟩:Rt),(⟨I0,I0⟩:Rt),(⟨I0,I0⟩:Rt)⟩:(A6 Rt)),(⟨(⟨I0,I0⟩:Rt),(⟨I0,I0⟩:Rt),(⟨I0,I0⟩:Rt),(⟨I0,I0⟩:Rt),(⟨I0,I0⟩:Rt),(⟨I0,I0⟩:Rt)⟩:(A6 Rt)),(wl 30)⟩:Cols)) else (let q16:Bool:=(aH q2.x5)
  let q17:Bool:=(aH q5.x5)
  bif (!q16||(!q17)) then ((⟨(⟨(⟨I0,I0⟩:Rt),(⟨I0,I0⟩:Rt),(⟨I0,I0⟩:Rt),(⟨I0,I0⟩:Rt),(⟨I0,I0⟩:Rt),(⟨I0,I0⟩:Rt)⟩:(A6 Rt)),(⟨(⟨I0,I0⟩:Rt),(⟨I0,I0⟩:Rt),(⟨I0,I0⟩:Rt),(⟨I0,I0⟩:Rt),(⟨I0,I0⟩:Rt),(⟨I0,I0⟩:Rt)⟩:(A6 Rt)),(wl 30)⟩:Cols)) else ((⟨q2,q5,(wl 0)⟩:Cols))))))))
def n5 (a:Pull):Bool :=
  bif (!(aH a.p.x)||(!(aH a.q.x))) then (false) else (bif (!(aH a.p.y)||(!(aH a.q.y))) then (false) else (bif (!(aH a.p.z)||(!(aH a.q.z))) then (false) else (true)))
def nL (p:Pull) (f:(A3 Rt)):Bool :=
  bif (!(n5 p)||(!(uY f))) then (F_skewbacklaw26_sanity) else (let r10:(A6 Rt):=(dI p).1
  let r11:(A6 Rt):=(dI p).2.1
  let r14:Dir:=(gC p)
  let r16:Cols:=(cU p)
  (F_skewbacklaw26_sanity&&((decide (((cF p).n)=((bT p).n))&&decide (((cF p).d)=((bT p).d)))&&((decide (((bK p).1)=((gO p).x))&&decide (((bK p).2)=((gO p).y)))&&((decide ((((cL p).1).x).1=r14.v.x.1)&&(decide ((((cL p).1).y).1=r14.v.y.1)&&decide ((((cL p).1).z).1=r14.v.z.1)))&&((((cL p).2).1==r14.e.1)&&((decide (r10.x0.n=r16.a.x0.n)&&(decide (r10.x0.d=r16.a.x0.d)&&(decide (r10.x1.n=r16.a.x1.n)&&(decide (r10.x1.d=r16.a.x1.d)&&(decide (r10.x2.n=r16.a.x2.n)&&(decide (r10.x2.d=r16.a.x2.d)&&(decide (r10.x3.n=r16.a.x3.n)&&(decide (r10.x3.d=r16.a.x3.d)&&(decide (r10.x4.n=r16.a.x4.n)&&(decide (r10.x4.d=r16.a.x4.d)&&(decide (r10.x5.n=r16.a.x5.n)&&decide (r10.x5.d=r16.a.x5.d))))))))))))&&((decide (r11.x0.n=r16.b.x0.n)&&(decide (r11.x0.d=r16.b.x0.d)&&(decide (r11.x1.n=r16.b.x1.n)&&(decide (r11.x1.d=r16.b.x1.d)&&(decide (r11.x2.n=r16.b.x2.n)&&(decide (r11.x2.d=r16.b.x2.d)&&(decide (r11.x3.n=r16.b.x3.n)&&(decide (r11.x3.d=r16.b.x3.d)&&(decide (r11.x4.n=r16.b.x4.n)&&(decide (r11.x4.d=r16.b.x4.d)&&(decide (r11.x5.n=r16.b.x5.n)&&decide (r11.x5.d=r16.b.x5.d))))))))))))&&((((dI p).2.2).1==r16.e.1)&&(decide ((((dZ p.p f).x0).n)=(((bM p.p f).x0).n))&&(decide ((((dZ p.p f).x0).d)=(((bM p.p f).x0).d))&&(decide ((((dZ p.p f).x1).n)=(((bM p.p f).x1).n))&&(decide ((((dZ p.p f).x1).d)=(((bM p.p f).x1).d))&&(decide ((((dZ p.p f).x2).n)=(((bM p.p f).x2).n))&&(decide ((((dZ p.p f).x2).d)=(((bM p.p f).x2).d))&&(decide ((((dZ p.p f).x3).n)=(((bM p.p f).x3).n))&&(decide ((((dZ p.p f).x3).d)=(((bM p.p f).x3).d))&&(decide ((((dZ p.p f).x4).n)=(((bM p.p f).x4).n))&&(decide ((((dZ p.p f).x4).d)=(((bM p.p f).x4).d))&&(decide ((((dZ p.p f).x5).n)=(((bM p.p f).x5).n))&&decide ((((dZ p.p f).x5).d)=(((bM p.p f).x5).d))))))))))))))))))))))
end Go.Num
namespace Go.Proofs.YtkjjponijamaoaaGreatDoor
open Go.Kn Go.Num
theorem DN (n:Int) :
    Ret Tryz.prog 170 [.int .i64 n] (.bool (decide (n<2147483648)&&decide (-2147483648<n))):=by
 refine cM (N:=9) Tryz.func170 O O (by simp) (fun w0=>?_);simp only [cS,Nat.reduceAdd];refine Sq fun K1 J1=>Rk fun K J=>sE O (nl J (J1 _ _ (Sq fun K2 J2=>Rk fun K J=>sE O (sE O (sE O ?_)))))
 cases h1:decide (n<2147483648)
 ·refine aI O (aI O (sE O (sE O (nl J (J2 _ _ (aL (cC O (.inr O) O ?_)))))))
  simp [*]
 refine sE O (sE O (sE O (sE O (nl J (J2 _ _ (aL (cC O (.inr O) O ?_)))))))
 simp [*]
end Go.Proofs.YtkjjponijamaoaaGreatDoor
namespace Go.Num
open Go Go.Kn
theorem qS_ {a b:I} (h:(!a.1.good||(!b.1.good))=true):a.1.dec.o=none∨b.1.dec.o=none:=by
  cases ha:a.1.good
  · exact .inl (TJ ha)
  · cases hb:b.1.good
    · exact .inr (TJ hb)
    rw [ha,hb] at h;cases h
theorem jp_ {a b:I} (h:(!a.1.good||(!b.1.good))=false):a.1.good=true∧b.1.good=true:=by
  cases ha:a.1.good<;>cases hb:b.1.good<;>rw [ha,hb] at h<;>first|exact ⟨rfl,rfl⟩|cases h
theorem JS (a b:I):qZ a b=E (Z.add a.dec b.dec):=by
  unfold qZ
  show _=E (Z.add a.1.dec b.1.dec)
  cases hw:(lJ a.1&&lJ b.1)
  · rw [cond_false]
    cases hg:(!a.1.good||(!b.1.good))
    · obtain ⟨ga,gb⟩:=jp_ hg
      rw [cond_false]
      cases hn:(a.1.neg==b.1.neg)
      · rw [cond_false]
        have hn':a.1.neg≠b.1.neg:=by simpa using hn
        cases hl:decide (val a.1.w<val b.1.w)
        · rw [cond_false,of_ a.2 b.2 ga gb hn' (of_decide_eq_false hl)]
        rw [cond_true,og_ a.2 b.2 ga gb hn' (of_decide_eq_true hl)]
      rw [cond_true,lu_ a.2 b.2 ga gb (by simpa using hn)]
    rw [cond_true,Z.add,uU (qS_ hg)]
  rw [cond_true];rw [Bool.and_eq_true] at hw
  show E (Z.of (IntKind.i64.wrap (rK a.1+rK b.1)))=_
  rw [(sR_ (uR a.2 hw.1).2.2.2 (uR b.2 hw.2).2.2.2).1,gy_ a.2 b.2 hw.1 hw.2]
theorem JU (a b:I):uS a b=E (Z.mul a.dec b.dec):=by
  unfold uS
  show _=E (Z.mul a.1.dec b.1.dec)
  cases hw:(lJ a.1&&(lJ b.1&&((decide ((hZ a).1<2147483648)&&decide (-2147483648<(hZ a).1))&&(decide ((hZ b).1<2147483648)&&decide (-2147483648<(hZ b).1)))))
  · rw [cond_false]
    cases hg:(!a.1.good||(!b.1.good))
    · obtain ⟨ga,gb⟩:=jp_ hg
      rw [cond_false,pX_ a.2 b.2 ga gb]
    rw [cond_true,Z.mul,uU (qS_ hg)]
  rw [cond_true];rw [Bool.and_eq_true,Bool.and_eq_true,Bool.and_eq_true] at hw;obtain ⟨h1,h2,h3,h4⟩:=hw
  show E (Z.of (IntKind.i64.wrap (rK a.1*rK b.1)))=_
  rw [(sS_ (x:=rK a.1) (y:=rK b.1) (fw_ h3) (fw_ h4)).1,gU_ a.2 b.2 h1 h2]
theorem JT (a b:I):kM a b=Z.cmpW a.dec b.dec:=by
  unfold kM
  apply Subtype.ext
  show _=Z.cmp a.1.dec b.1.dec
  cases ga:a.1.good
  · cases gb:b.1.good
    · simp only [Bool.not_false,Bool.and_self,cond_true];exact dF_ ga gb
    simp only [Bool.not_true,Bool.and_false,cond_false];exact dG_ ga b.2 gb
  · cases gb:b.1.good
    · simp only [Bool.not_true,Bool.not_false,Bool.false_and,cond_false,cond_true];exact dH_ a.2 ga gb
    simp only [Bool.not_true,Bool.false_and,cond_false,cond_true]
    cases hn:(a.1.neg != b.1.neg)
    · have hn':a.1.neg=b.1.neg:=by simpa using hn
      rw [cond_false]
      cases h1:a.1.neg
      · rw [cond_false,← fa_ a.2 b.2 ga gb hn' (val a.1.w) (val b.1.w) (by rw [h1];exact ⟨rfl,rfl⟩)]
        by_cases h2:val a.1.w<val b.1.w
        · simp [h2]
        by_cases h3:val b.1.w<val a.1.w<;>simp [h2,h3]
      rw [cond_true,← fa_ a.2 b.2 ga gb hn' (val b.1.w) (val a.1.w) (by rw [h1];exact ⟨rfl,rfl⟩)]
      by_cases h2:val b.1.w<val a.1.w
      · simp [h2]
      by_cases h3:val a.1.w<val b.1.w<;>simp [h2,h3]
    rw [cond_true,← ou_ a.2 b.2 ga gb (by simpa using hn)]
    cases a.1.neg<;>rfl
end Go.Num
namespace Go.Proofs.YtkjjponijamaoaaGreatDoor
open Go.Kn Go.Num
theorem MI (a:I) (b:I) :
    Ret Tryz.prog 94 [AV [pI a],AV [pI b]] (AV [pI (qZ a b)]):=by
 refine cM (N:=70) Tryz.func94 O O (by simp) (fun w0=>?_);simp only [cS,Nat.reduceAdd];refine Rs fun K J=>bA O (cH O O (fun b1 hb1=>bA O (cH O O (fun b2 hb2=>sN gT O fun b3 hb3=>nl J (Rs fun K J=>sQ (qL aD O m2 O) O (sC (.tuple #[.int .i64 ((hZ a).1),.bool (lJ a.1)]) HN (mE a.1 a.2) O O O (sE O (sE O (sE O (sE O (sE O (nl J (Rs fun K J=>sQ (qL aD O m1 O) O (sC (.tuple #[.int .i64 ((hZ b).1),.bool (lJ b.1)]) HN (mE b.1 b.2) O O O (sE O (sE O (sE O ?_)))))))))))))))));refine sE O (sE O (nl J (Sq fun K1 J1=>?_)));refine dH [22,23,24,25] (fun g M=>(g 25 = .bool ((lJ a.1)&&(lJ b.1)))∧M=[⟨b3,31,aW [pI I0]⟩,⟨b2,31,aW [pI b]⟩,⟨b1,31,aW [pI a]⟩]) (fun K2 J2=>?_) ?_
 ·refine Rk fun K J=>sE O ?_;rcases bt (lJ a.1) with h5|h5
  ·refine sB h5 O (sE O (sE O (nl J ?_)));refine J2 _ _ pp_ ⟨_,s0,?s25,rfl⟩
   case s25=>exact congrArg Value.bool (eB h5 O)
  refine sB h5 O (aI O (sE O (nl J ?_)));refine J2 _ _ pp_ ⟨_,s0,?s25,rfl⟩
  case s25=>exact congrArg Value.bool (kU h5)
 rintro g6 M ⟨hg25,rfl⟩;simp only [dQ,hg25];clear hg25;rcases bt ((lJ a.1)&&(lJ b.1)) with h7|h7
 ·refine W_t h7 O (Rs fun K J=>sE O (sE O (sV (.int .i64 ((W.add (hZ a) (hZ b)).1)) O O (sC (AV [pI (E (Z.of (W.add (hZ a) (hZ b)).1))]) vP (dV (W.add (hZ a) (hZ b)).1 (W.add (hZ a) (hZ b)).2) O O O (sS [pI (E (Z.of (W.add (hZ a) (hZ b)).1))] aD O O O O O uH O hb3 (nl J (aL (aB (cC O (.inr O) (eP O m0 aD O) ?_)))))))));exact (by exact congrArg vS4 (show _=(qZ a b) from bI h7 O))
 refine W_f h7 O (aG (J1 _ _ (Sq fun K3 J3=>?_)));refine dH [30,31,32,33,34,35,36,37] (fun g M=>(g 37 = .bool (!a.1.good||(!b.1.good)))∧M=[⟨b3,31,aW [pI I0]⟩,⟨b2,31,aW [pI b]⟩,⟨b1,31,aW [pI a]⟩]) (fun K4 J4=>?_) ?_
 ·refine Rk fun K J=>sQ (qL aD O m2 O) O (sC (.bool a.1.good) vE (d9 a.1 a.2) O O O (sE O ?_));rcases bt a.1.good with h9|h9
  ·refine sB (iS h9) O (sQ (qL aD O m1 O) O (sC (.bool b.1.good) vE (d9 b.1 b.2) O O O (sE O (sE O (nl J ?_)))));refine J4 _ _ pp_ ⟨_,s0,?s37,rfl⟩
   case s37=>exact congrArg Value.bool (j3 h9 O)
  refine sB (iT h9) O (aI O (aI O (aI O (sE O (nl J ?_)))));refine J4 _ _ pp_ ⟨_,s0,?s37,rfl⟩
  case s37=>exact congrArg Value.bool (oJ h9)
 rintro g10 M ⟨hg37,rfl⟩;simp only [dQ,hg37];clear hg37;rcases bt (!a.1.good||(!b.1.good)) with h11|h11
 ·refine W_t h11 O (Rs fun K J=>sC (AV [pI (E Z.bad)]) B8 gH O O O (sS [pI (E Z.bad)] aD O O O O O uH O hb3 (nl J (aL (aB (cC O (.inr O) (eP O m0 aD O) ?_))))));exact (by exact congrArg vS4 (show _=(qZ a b) from aM h7 (bI h11 O)))
 refine W_f h11 O (aG (J3 _ _ (Rs fun K J=>sQ (qL aD O m2 O) O (bA O (j9 wN O (fun w hw=>eC a.1 a.2 w) (fun vl12 Ll12 kl12=>?_))))))
 try simp only [kY,uG] at kl12
 refine sE O (nl J (Rs fun K J=>sQ (qL aD O (mA (mC mZ)) O) O (bA O (j9 wN O (fun w hw=>eC b.1 b.2 w) (fun vl13 Ll13 kl13=>?_)))))
 try simp only [kY,uG] at kl13
 refine sE O (nl J (Sq fun K5 J5=>Rs fun K J=>sQ (qF jC O O) O (sQ (qC mF O (mA (mA (mC (mC mZ)))) O) O (sQ (qF jC O O) O (sQ (qC mF O (mA (mA (mC mZ))) O) O (sQ (aZ (v':=.bool (a.1.neg==b.1.neg)) (KT GS O O) O) O (nl J ?_)))))));rcases bt (a.1.neg==b.1.neg) with h14|h14
 ·refine W_t h14 O (ds sn [0,4,8,12,17,20,25] [6] mix (by kernel_rfl) (fun K J=>pQ O (qF jC O O) (pQ O (qC mF O (mA (mA (mC (mC mZ)))) O) (pE O (pE O (d7 O O (j9 as_ O (fun w hw=>wO vl12 vl13 (dl (val a.1.w)) (dl (val b.1.w)) (qQ _) (qQ _) (Nat.le_trans (mY (k:=32) (zZ a.2)) dd_) (Nat.le_trans (mY (k:=32) (zZ b.2)) dd_) w (SL.sl (SL.sub kl12.sl (sR lZ)) hw) (SL.sl (SL.sub kl13.sl lZ) hw)) (fun vl15 Ll15 kl15=>⟨(fun _=>sR s0),sn,?_⟩))))))))
  try simp only [kY,uG] at kl15
  refine pQ O (aZ (v':=AV [pI (E (Z.of (sgn a.1.neg ((val a.1.w)+(val b.1.w)))))]) (dA BX O (fun w hw=>iE a.1.neg vl15 (dl ((val a.1.w)+(val b.1.w))) (qQ _) (Nat.le_trans (mY (k:=33) (qY_ (k:=32) (zZ a.2) (zZ b.2))) dd_) w (SL.sl (SL.sub kl15.sl lZ) hw))) (by rw [(kY _)];rfl)) (oS [pI (E (Z.of (sgn a.1.neg ((val a.1.w)+(val b.1.w)))))] aD O O O O O O (uL (uL (uL uH))) O hb3 O sn (fl J (aL (aB (cC O (.inr O) (eP O (mA (mA (mA mZ))) aD O) ?_)))));exact (by exact congrArg vS4 (show _=(qZ a b) from aM h7 (aM h11 (bI h14 O))))
 refine W_f h14 O (aG (J5 _ _ (Rs fun K J=>sE O (sE O (sQ (aZ (v':=.bool (decide ((val a.1.w)<(val b.1.w)))) (dA PU O (fun w hw=>qN vl12 vl13 (dl (val a.1.w)) (dl (val b.1.w)) (qQ _) (qQ _) (Nat.le_trans (mY (k:=32) (zZ a.2)) dd_) (Nat.le_trans (mY (k:=32) (zZ b.2)) dd_) w (SL.sl (SL.sub kl12.sl (sR lZ)) hw) (SL.sl (SL.sub kl13.sl lZ) hw))) (by rw [(kY _),(kY _)])) O (sE O (nl J (Sq fun K6 J6=>Rs fun K J=>sE O (nl J ?_)))))))));rcases bt (decide ((val a.1.w)<(val b.1.w))) with h16|h16
 ·refine W_t h16 O (ds sn [0,4,8,12,17,20,25] [6] mix (by kernel_rfl) (fun K J=>pQ O (qF jC O O) (pQ O (qC mF O (mA (mA (mC mZ))) O) (pE O (pE O (d7 O O (j9 VK O (fun w hw=>tW vl13 vl12 (dl (val b.1.w)) (dl (val a.1.w)) (qQ _) (qQ _) (Nat.le_trans (mY (k:=32) (zZ b.2)) dd_) (Nat.le_trans (mY (k:=32) (zZ a.2)) dd_) (by simp only [kY,uG];exact (Nat.le_of_lt (of_decide_eq_true h16))) w (SL.sl (SL.sub kl13.sl lZ) hw) (SL.sl (SL.sub kl12.sl (sR lZ)) hw)) (fun vl17 Ll17 kl17=>⟨(fun _=>sR s0),sn,?_⟩))))))))
  try simp only [kY,uG] at kl17
  refine pQ O (aZ (v':=AV [pI (E (Z.of (sgn b.1.neg ((val b.1.w) - (val a.1.w)))))]) (dA BX O (fun w hw=>iE b.1.neg vl17 (dl ((val b.1.w) - (val a.1.w))) (qQ _) (Nat.le_trans (mY (k:=32) (oA_ (zZ b.2))) dd_) w (SL.sl (SL.sub kl17.sl lZ) hw))) (by rw [(kY _)];rfl)) (oS [pI (E (Z.of (sgn b.1.neg ((val b.1.w) - (val a.1.w)))))] aD O O O O O O (uL (uL (uL uH))) O hb3 O sn (fl J (aL (aB (cC O (.inr O) (eP O (mA (mA (mA mZ))) aD O) ?_)))));exact (by exact congrArg vS4 (show _=(qZ a b) from aM h7 (aM h11 (aM h14 (bI h16 O)))))
 refine W_f h16 O (aG (J6 _ _ (ds sn [0,4,8,12,17,20,25] [6] mix (by kernel_rfl) (fun K J=>pQ O (qF jC O O) (pQ O (qC mF O (mA (mA (mC (mC mZ)))) O) (pE O (pE O (d7 O O (j9 VK O (fun w hw=>tW vl12 vl13 (dl (val a.1.w)) (dl (val b.1.w)) (qQ _) (qQ _) (Nat.le_trans (mY (k:=32) (zZ a.2)) dd_) (Nat.le_trans (mY (k:=32) (zZ b.2)) dd_) (by simp only [kY,uG];exact (Nat.le_of_not_lt (of_decide_eq_false h16))) w (SL.sl (SL.sub kl12.sl (sR lZ)) hw) (SL.sl (SL.sub kl13.sl lZ) hw)) (fun vl18 Ll18 kl18=>⟨(fun _=>sR s0),sn,?_⟩))))))))))
 try simp only [kY,uG] at kl18
 refine pQ O (aZ (v':=AV [pI (E (Z.of (sgn a.1.neg ((val a.1.w) - (val b.1.w)))))]) (dA BX O (fun w hw=>iE a.1.neg vl18 (dl ((val a.1.w) - (val b.1.w))) (qQ _) (Nat.le_trans (mY (k:=32) (oA_ (zZ a.2))) dd_) w (SL.sl (SL.sub kl18.sl lZ) hw))) (by rw [(kY _)];rfl)) (oS [pI (E (Z.of (sgn a.1.neg ((val a.1.w) - (val b.1.w)))))] aD O O O O O O (uL (uL (uL uH))) O hb3 O sn (fl J (aL (cC O (.inr O) (eP O (mA (mA (mA mZ))) aD O) ?_))));exact (by exact congrArg vS4 (show _=(qZ a b) from aM h7 (aM h11 (aM h14 (aM h16 O)))))
theorem pJ (a b:R) (ha:a.Ok) (hb:b.Ok):Ret Tryz.prog 94 [RV a,RV b] (RV (Z.add a.dec b.dec).enc):=by
  have h:=MI ⟨a,ha⟩ ⟨b,hb⟩;rw [JS] at h;exact h
theorem MK (a:I) (b:I) :
    Ret Tryz.prog 93 [AV [pI a],AV [pI b]] (AV [pI (uS a b)]):=by
 refine cM (N:=55) Tryz.func93 O O (by simp) (fun w0=>?_);simp only [cS,Nat.reduceAdd];refine Rs fun K J=>bA O (cH O O (fun b1 hb1=>bA O (cH O O (fun b2 hb2=>sN gT O fun b3 hb3=>nl J (Rs fun K J=>sQ (qL aD O m2 O) O (sC (.tuple #[.int .i64 ((hZ a).1),.bool (lJ a.1)]) HN (mE a.1 a.2) O O O (sE O (sE O (sE O (sE O (sE O (nl J (Rs fun K J=>sQ (qL aD O m1 O) O (sC (.tuple #[.int .i64 ((hZ b).1),.bool (lJ b.1)]) HN (mE b.1 b.2) O O O (sE O (sE O (sE O ?_)))))))))))))))));refine sE O (sE O (nl J (Sq fun K1 J1=>?_)));refine dH [19,20,21,22,23,24,25,26,27,28,29,30] (fun g M=>(g 30 = .bool ((lJ a.1)&&((lJ b.1)&&((decide ((hZ a).1<2147483648)&&decide (-2147483648<(hZ a).1))&&(decide ((hZ b).1<2147483648)&&decide (-2147483648<(hZ b).1))))))∧M=[⟨b3,31,aW [pI I0]⟩,⟨b2,31,aW [pI b]⟩,⟨b1,31,aW [pI a]⟩]) (fun K2 J2=>?_) ?_
 ·refine Rk fun K J=>sE O ?_;rcases bt (lJ a.1) with h7|h7
  ·refine sB h7 O (sE O (sE O ?_));rcases bt (lJ b.1) with h8|h8
   ·refine sB h8 O (sE O (sC (.bool (decide ((hZ a).1<2147483648)&&decide (-2147483648<(hZ a).1))) iD_ (DN (hZ a).1) O O O (sE O ?_)));rcases bt (decide ((hZ a).1<2147483648)&&decide (-2147483648<(hZ a).1)) with h9|h9
    ·refine sB h9 O (sE O (sC (.bool (decide ((hZ b).1<2147483648)&&decide (-2147483648<(hZ b).1))) iD_ (DN (hZ b).1) O O O (sE O (nl J ?_))));refine J2 _ _ pp_ ⟨_,s0,?s30,rfl⟩
     case s30=>exact congrArg Value.bool (eB h7 (eB h8 (eB h9 O)))
    refine sB h9 O (aI O (aI O (sE O (nl J ?_))));refine J2 _ _ pp_ ⟨_,s0,?s30,rfl⟩
    case s30=>exact congrArg Value.bool (eB h7 (eB h8 (kU h9)))
   refine sB h8 O (aI O (aI O (sE O (sE O (aI O (aI O (sE O (nl J ?_))))))));refine J2 _ _ pp_ ⟨_,s0,?s30,rfl⟩
   case s30=>exact congrArg Value.bool (eB h7 (kU h8))
  refine sB h7 O (aI O (sE O (sE O (aI O (aI O (sE O (sE O (aI O (aI O (sE O (nl J ?_)))))))))));refine J2 _ _ pp_ ⟨_,s0,?s30,rfl⟩
  case s30=>exact congrArg Value.bool (kU h7)
 rintro g10 M ⟨hg30,rfl⟩;simp only [dQ,hg30];clear hg30;rcases bt ((lJ a.1)&&((lJ b.1)&&((decide ((hZ a).1<2147483648)&&decide (-2147483648<(hZ a).1))&&(decide ((hZ b).1<2147483648)&&decide (-2147483648<(hZ b).1))))) with h11|h11
 ·refine W_t h11 O (Rs fun K J=>sE O (sE O (sV (.int .i64 ((W.mul (hZ a) (hZ b)).1)) O O (sC (AV [pI (E (Z.of (W.mul (hZ a) (hZ b)).1))]) vP (dV (W.mul (hZ a) (hZ b)).1 (W.mul (hZ a) (hZ b)).2) O O O (sS [pI (E (Z.of (W.mul (hZ a) (hZ b)).1))] aD O O O O O uH O hb3 (nl J (aL (aB (cC O (.inr O) (eP O m0 aD O) ?_)))))))));exact (by exact congrArg vS4 (show _=(uS a b) from bI h11 O))
 refine W_f h11 O (aG (J1 _ _ (Sq fun K3 J3=>?_)));refine dH [35,36,37,38,39,40,41,42] (fun g M=>(g 42 = .bool (!a.1.good||(!b.1.good)))∧M=[⟨b3,31,aW [pI I0]⟩,⟨b2,31,aW [pI b]⟩,⟨b1,31,aW [pI a]⟩]) (fun K4 J4=>?_) ?_
 ·refine Rk fun K J=>sQ (qL aD O m2 O) O (sC (.bool a.1.good) vE (d9 a.1 a.2) O O O (sE O ?_));rcases bt a.1.good with h13|h13
  ·refine sB (iS h13) O (sQ (qL aD O m1 O) O (sC (.bool b.1.good) vE (d9 b.1 b.2) O O O (sE O (sE O (nl J ?_)))));refine J4 _ _ pp_ ⟨_,s0,?s42,rfl⟩
   case s42=>exact congrArg Value.bool (j3 h13 O)
  refine sB (iT h13) O (aI O (aI O (aI O (sE O (nl J ?_)))));refine J4 _ _ pp_ ⟨_,s0,?s42,rfl⟩
  case s42=>exact congrArg Value.bool (oJ h13)
 rintro g14 M ⟨hg42,rfl⟩;simp only [dQ,hg42];clear hg42;rcases bt (!a.1.good||(!b.1.good)) with h15|h15
 ·refine W_t h15 O (Rs fun K J=>sC (AV [pI (E Z.bad)]) B8 gH O O O (sS [pI (E Z.bad)] aD O O O O O uH O hb3 (nl J (aL (aB (cC O (.inr O) (eP O m0 aD O) ?_))))));exact (by exact congrArg vS4 (show _=(uS a b) from aM h11 (bI h15 O)))
 refine W_f h15 O (aG (J3 _ _ (ds sn [0,4,8,12,16,20,28,25,33,37,40,45] [11] mix (by kernel_rfl) (fun K J=>pQ O (qF jC O O) (pQ O (qC mF O m2 O) (pQ O (qF jC O O) (pQ O (qC mF O m1 O) (pQ O (aZ (v':=.bool (a.1.neg != b.1.neg)) (EH GS O O) O) (pQ O (qL aD O m2 O) (pQ O (qL aD O m1 O) (d7 O O (j9 wN O (fun w hw=>eC a.1 a.2 w) (fun vl16 Ll16 kl16=>⟨(fun _=>sR s0),sn,?_⟩)))))))))))))
 try simp only [kY,uG] at kl16
 refine d7 O O (j9 wN O (fun w hw=>eC b.1 b.2 w) (fun vl17 Ll17 kl17=>⟨(fun _=>sR s0),sn,?_⟩))
 try simp only [kY,uG] at kl17
 refine d7 O O (j9 dU_ O (fun w hw=>yX vl16 vl17 (dl (val a.1.w)) (dl (val b.1.w)) (qQ _) (qQ _) (Nat.le_trans (mY (k:=32) (zZ a.2)) dd_) (Nat.le_trans (mY (k:=32) (zZ b.2)) dd_) w (SL.sl (SL.sub kl16.sl (sR lZ)) hw) (SL.sl (SL.sub kl17.sl lZ) hw)) (fun vl18 Ll18 kl18=>⟨(fun _=>sR s0),sn,?_⟩))
 try simp only [kY,uG] at kl18
 refine pQ O (aZ (v':=AV [pI (E (Z.of (sgn (a.1.neg != b.1.neg) ((val a.1.w)*(val b.1.w)))))]) (dA BX O (fun w hw=>iE (a.1.neg != b.1.neg) vl18 (dl ((val a.1.w)*(val b.1.w))) (qQ _) (Nat.le_trans (mY (k:=64) (sB_ (i:=32) (k:=32) (zZ a.2) (zZ b.2))) dd_) w (SL.sl (SL.sub kl18.sl lZ) hw))) (by rw [(kY _)];rfl)) (oS [pI (E (Z.of (sgn (a.1.neg != b.1.neg) ((val a.1.w)*(val b.1.w)))))] aD O O O O O O (uL (uL (uL uH))) O hb3 O sn (fl J (aL (cC O (.inr O) (eP O (mA (mA (mA mZ))) aD O) ?_))));exact (by exact congrArg vS4 (show _=(uS a b) from aM h11 (aM h15 O)))
theorem fB (a b:R) (ha:a.Ok) (hb:b.Ok):Ret Tryz.prog 93 [RV a,RV b] (RV (Z.mul a.dec b.dec).enc):=by
  have h:=MK ⟨a,ha⟩ ⟨b,hb⟩;rw [JU] at h;exact h
theorem MJ (a:I) (b:I) :
    Ret Tryz.prog 213 [AV [pI a],AV [pI b]] (.int .i64 ((kM a b).1)):=by
 refine cM (N:=48) Tryz.func213 O O (by simp) (fun w0=>?_);simp only [cS,Nat.reduceAdd];refine Rs fun K J=>bA O (cH O O (fun b1 hb1=>bA O (cH O O (fun b2 hb2=>sE O (nl J (Sq fun K1 J1=>?_))))));refine dH [9,10,11,12,13,14,15,16] (fun g M=>(g 16 = .bool (!a.1.good&&(!b.1.good)))∧M=[⟨b2,31,aW [pI b]⟩,⟨b1,31,aW [pI a]⟩]) (fun K2 J2=>?_) ?_
 ·refine Rk fun K J=>sQ (qL aD O m1 O) O (sC (.bool a.1.good) vE (d9 a.1 a.2) O O O (sE O ?_));rcases bt a.1.good with h4|h4
  ·refine sB (iS h4) O (aI O (aI O (aI O (sE O (nl J ?_)))));refine J2 _ _ pp_ ⟨_,s0,?s16,rfl⟩
   case s16=>exact congrArg Value.bool (WJ h4)
  refine sB (iT h4) O (sQ (qL aD O m0 O) O (sC (.bool b.1.good) vE (d9 b.1 b.2) O O O (sE O (sE O (nl J ?_)))));refine J2 _ _ pp_ ⟨_,s0,?s16,rfl⟩
  case s16=>exact congrArg Value.bool (WI h4 O)
 rintro g5 M ⟨hg16,rfl⟩;simp only [dQ,hg16];clear hg16;rcases bt (!a.1.good&&(!b.1.good)) with h6|h6
 ·refine W_t h6 O (Rs fun K J=>sE O (nl J (aL (aB (cC O (.inr O) O ?_)))));exact (by exact congrArg vS8 (show _=(kM a b) from bI h6 O))
 refine W_f h6 O (aG (J1 _ _ (Sq fun K3 J3=>Rs fun K J=>sQ (qL aD O m1 O) O (sC (.bool a.1.good) vE (d9 a.1 a.2) O O O (sE O (nl J ?_))))));rcases bt a.1.good with h7|h7
 ·refine W_f (iS h7) O (aG (J3 _ _ (Sq fun K4 J4=>Rs fun K J=>sQ (qL aD O m0 O) O (sC (.bool b.1.good) vE (d9 b.1 b.2) O O O (sE O (nl J ?_))))));rcases bt b.1.good with h8|h8
  ·refine W_f (iS h8) O (aG (J4 _ _ (Sq fun K5 J5=>Rs fun K J=>sQ (qF jC O O) O (sQ (qC mF O m1 O) O (sQ (qF jC O O) O (sQ (qC mF O m0 O) O (sQ (aZ (v':=.bool (a.1.neg != b.1.neg)) (EH GS O O) O) O (nl J ?_))))))));rcases bt (a.1.neg != b.1.neg) with h9|h9
   ·refine W_t h9 O (Sq fun K6 J6=>Rs fun K J=>sQ (qF jC O O) O (sQ (qC mF O m1 O) O (nl J ?_)));rcases bt a.1.neg with h10|h10
    ·refine W_t h10 O (Rs fun K J=>sE O (nl J (aL (aB (aB (cC O (.inr O) O ?_))))));exact (by exact congrArg vS8 (show _=(kM a b) from aM h6 (bI h7 (bI h8 (bI h9 (bI h10 O))))))
    refine W_f h10 O (aG (J6 _ _ (Rs fun K J=>sE O (nl J (aL (aB (cC O (.inr O) O ?_)))))));exact (by exact congrArg vS8 (show _=(kM a b) from aM h6 (bI h7 (bI h8 (bI h9 (aM h10 O))))))
   refine W_f h9 O (aG (J5 _ _ (Rs fun K J=>sQ (qL aD O m1 O) O (bA O (j9 wN O (fun w hw=>eC a.1 a.2 w) (fun vl11 Ll11 kl11=>?_))))))
   try simp only [kY,uG] at kl11
   refine sE O (nl J (Rs fun K J=>sQ (qL aD O (mA mZ) O) O (bA O (j9 wN O (fun w hw=>eC b.1 b.2 w) (fun vl12 Ll12 kl12=>?_)))))
   try simp only [kY,uG] at kl12
   refine sE O (nl J (Sq fun K7 J7=>Rs fun K J=>sQ (qF jC O O) O (sQ (qC mF O (mA (mA (mC mZ))) O) O (nl J ?_))));rcases bt a.1.neg with h13|h13
   ·refine W_t h13 O (Rs fun K J=>sQ (qL aD O (mA (mA mZ)) O) O (bA O (j9 wN O (fun w hw=>eC b.1 b.2 w) (fun vl14 Ll14 kl14=>?_))))
    try simp only [kY,uG] at kl14
    refine sE O (nl J (Rk fun K J=>sQ (qL aD O (mA (mA (mA (mC mZ)))) O) O (bA O (j9 wN O (fun w hw=>eC a.1 a.2 w) (fun vl15 Ll15 kl15=>?_)))))
    try simp only [kY,uG] at kl15
    refine sE O (nl J (J7 _ _ (Rs fun K J=>sE O (sE O (sQ (aZ (v':=.bool (decide ((val b.1.w)<(val a.1.w)))) (dA PU O (fun w hw=>qN vl14 vl15 (dl (val b.1.w)) (dl (val a.1.w)) (qQ _) (qQ _) (Nat.le_trans (mY (k:=32) (zZ b.2)) dd_) (Nat.le_trans (mY (k:=32) (zZ a.2)) dd_) w (SL.sl (SL.sub kl14.sl (sR lZ)) hw) (SL.sl (SL.sub kl15.sl lZ) hw))) (by rw [(kY _),(kY _)])) O (sE O (nl J (Rs fun K J=>sE O (sE O (sQ (aZ (v':=.bool (decide ((val a.1.w)<(val b.1.w)))) (dA PU O (fun w hw=>qN vl15 vl14 (dl (val a.1.w)) (dl (val b.1.w)) (qQ _) (qQ _) (Nat.le_trans (mY (k:=32) (zZ a.2)) dd_) (Nat.le_trans (mY (k:=32) (zZ b.2)) dd_) w (SL.sl (SL.sub kl15.sl lZ) hw) (SL.sl (SL.sub kl14.sl (sR lZ)) hw))) (by rw [(kY _),(kY _)])) O (sE O (nl J (Sq fun K8 J8=>Rs fun K J=>sE O (nl J ?_))))))))))))));rcases bt (decide ((val b.1.w)<(val a.1.w))) with h16|h16
    ·refine W_t h16 O (Rs fun K J=>sE O (nl J (aL (aB (cC O (.inr O) O ?_)))));exact (by exact congrArg vS8 (show _=(kM a b) from aM h6 (bI h7 (bI h8 (aM h9 (bI h13 (bI h16 O)))))))
    refine W_f h16 O (aG (J8 _ _ (Sq fun K9 J9=>Rs fun K J=>sE O (nl J ?_))));rcases bt (decide ((val a.1.w)<(val b.1.w))) with h17|h17
    ·refine W_t h17 O (Rs fun K J=>sE O (nl J (aL (aB (cC O (.inr O) O ?_)))));exact (by exact congrArg vS8 (show _=(kM a b) from aM h6 (bI h7 (bI h8 (aM h9 (bI h13 (aM h16 (bI h17 O))))))))
    refine W_f h17 O (aG (J9 _ _ (Rs fun K J=>sE O (nl J (aL (cC O (.inr O) O ?_))))));exact (by exact congrArg vS8 (show _=(kM a b) from aM h6 (bI h7 (bI h8 (aM h9 (bI h13 (aM h16 (aM h17 O))))))))
   refine W_f h13 O (aG (J7 _ _ (Rs fun K J=>sE O (sE O (sQ (aZ (v':=.bool (decide ((val a.1.w)<(val b.1.w)))) (dA PU O (fun w hw=>qN vl11 vl12 (dl (val a.1.w)) (dl (val b.1.w)) (qQ _) (qQ _) (Nat.le_trans (mY (k:=32) (zZ a.2)) dd_) (Nat.le_trans (mY (k:=32) (zZ b.2)) dd_) w (SL.sl (SL.sub kl11.sl (sR lZ)) hw) (SL.sl (SL.sub kl12.sl lZ) hw))) (by rw [(kY _),(kY _)])) O (sE O (nl J (Rs fun K J=>sE O (sE O (sQ (aZ (v':=.bool (decide ((val b.1.w)<(val a.1.w)))) (dA PU O (fun w hw=>qN vl12 vl11 (dl (val b.1.w)) (dl (val a.1.w)) (qQ _) (qQ _) (Nat.le_trans (mY (k:=32) (zZ b.2)) dd_) (Nat.le_trans (mY (k:=32) (zZ a.2)) dd_) w (SL.sl (SL.sub kl12.sl lZ) hw) (SL.sl (SL.sub kl11.sl (sR lZ)) hw))) (by rw [(kY _),(kY _)])) O (sE O (nl J (Sq fun K10 J10=>Rs fun K J=>sE O (nl J ?_))))))))))))));rcases bt (decide ((val a.1.w)<(val b.1.w))) with h18|h18
   ·refine W_t h18 O (Rs fun K J=>sE O (nl J (aL (aB (cC O (.inr O) O ?_)))));exact (by exact congrArg vS8 (show _=(kM a b) from aM h6 (bI h7 (bI h8 (aM h9 (aM h13 (bI h18 O)))))))
   refine W_f h18 O (aG (J10 _ _ (Sq fun K11 J11=>Rs fun K J=>sE O (nl J ?_))));rcases bt (decide ((val b.1.w)<(val a.1.w))) with h19|h19
   ·refine W_t h19 O (Rs fun K J=>sE O (nl J (aL (aB (cC O (.inr O) O ?_)))));exact (by exact congrArg vS8 (show _=(kM a b) from aM h6 (bI h7 (bI h8 (aM h9 (aM h13 (aM h18 (bI h19 O))))))))
   refine W_f h19 O (aG (J11 _ _ (Rs fun K J=>sE O (nl J (aL (cC O (.inr O) O ?_))))));exact (by exact congrArg vS8 (show _=(kM a b) from aM h6 (bI h7 (bI h8 (aM h9 (aM h13 (aM h18 (aM h19 O))))))))
  refine W_t (iT h8) O (Rs fun K J=>sE O (nl J (aL (aB (cC O (.inr O) O ?_)))));exact (by exact congrArg vS8 (show _=(kM a b) from aM h6 (bI h7 (aM h8 O))))
 refine W_t (iT h7) O (Rs fun K J=>sE O (nl J (aL (aB (cC O (.inr O) O ?_)))));exact (by exact congrArg vS8 (show _=(kM a b) from aM h6 (aM h7 O)))
theorem xG (a b:R) (ha:a.Ok) (hb:b.Ok):Ret Tryz.prog 213 [RV a,RV b] (.int .i64 (Z.cmp a.dec b.dec)):=by
  have h:=MJ ⟨a,ha⟩ ⟨b,hb⟩;rw [JT] at h;exact h
theorem yW (a:R) (ha:a.Ok) :
    Ret Tryz.prog 158 [RV a] (.tuple #[.int .i64 a.dec.small.1,.bool a.dec.small.2]):=by
 refine cM (N:=38) Tryz.func158 O O (by simp) (fun w0=>?_);simp only [cS,Nat.reduceAdd];refine Sq fun K1 J1=>Rk fun K J=>bA O (qR O O (fun b1 hb1=>sE O (sE O (nl J (J1 _ _ (Sq fun K2 J2=>Sq fun K3 J3=>Rk fun K J=>sQ (eG aD O mm_ (eO ha)) O ?_))))));refine sQ (bZ vE (d9 a ha) O) O (sE O (nl J (J3 _ _ ?_)));refine fN _ O (fun hg=>?_) (fun hg=>?_)
 ·replace hg:=cB_ hg
  refine Sq fun K4 J4=>Rk fun K J=>sE O (sE O (nl J (J4 _ _ (aL (aB (o6 O (.inr O) O O ?_))))));exact ZG hg
 replace hg:=cB_ hg
 refine aG (J2 _ _ (Sq fun K5 J5=>Rk fun K J=>sQ (bZ vP (dV (-9223372036854775808) dd_) O) O (bA O (i1 oM (fun b4 hb4=>bA O (dX aD O O uu_ (aS _) O (dL _) (.inl (by assumption)) ?_))))));refine nl J (J5 _ _ (Sq fun K6 J6=>Rk fun K J=>sQ (bZ vP (dV 9223372036854775807 dd_) O) O (bA O (i1 oM (fun b5 hb5=>bA O (dX aD O O uu_ (aS _) O (dL _) (.inl (by assumption)) ?_))))));refine nl J (J6 _ _ (Sq fun K7 J7=>Sq fun K8 J8=>Rk fun K J=>sQ (eG aD O mm_ (eO ha)) O ?_));refine sQ (eG aD O mm_ (aS _)) O ?_;refine sQ (bZ ax_ (xG a (Z.of (-9223372036854775808)).enc ha (Z.enc_ok _)) O) O (sE O (sE O ?_))
 cases hlo:decide (Z.cmp a.dec (Z.of (-9223372036854775808)).enc.dec<0)
 ·refine sQ (eG aD O mm_ (eO ha)) O ?_;refine sQ (eG aD O mm_ (aS _)) O ?_;refine sQ (bZ ax_ (xG a (Z.of 9223372036854775807).enc ha (Z.enc_ok _)) O) O (sE O (sE O (nl J (J8 _ _ ?_))));refine fN _ O (fun hhi=>?_) (fun hhi=>?_)
  ·replace hhi:=cB_ hhi
   refine Sq fun K9 J9=>Rk fun K J=>sE O (sE O (nl J (J9 _ _ (aL (aB (o6 O (.inr O) O O ?_))))));exact JK ha hg (hj_ ha hg hhi)
  replace hhi:=cB_ hhi
  have hin:=hl_ ha hg (of_decide_eq_false hlo) hhi;have hsm:=hg_ hin;refine aG (J7 _ _ (Sq fun K10 J10=>Rk fun K J=>sQ (eX jY dd_ O) O (sQ (j7 mI O O dd_ dd_) O (sQ (iA n9 O mm_ (wA (r:=a) (k:=1) (by rw [ha.len];decide))) O ?_))));refine sQ (i7 nP kV O) O (sE O (sQ (eX jY dd_ O) O (sQ (j7 mI O O dd_ dd_) O (sQ (iA n9 O mm_ (wA (r:=a) (k:=0) (by rw [ha.len];decide))) O ?_))));refine sQ (i7 nP kV O) O (sQ (aZ (pH O O) (congrArg (Value.int .u64) (hm_ ha hsm))) O (sQ (aZ (i7 kV OW O) (rfl:_=Value.int .i64 (IntKind.i64.wrap ((val a.w:Nat):Int)))) O (sE O (nl J (J10 _ _ (Sq fun K11 J11=>Sq fun K12 J12=>Rk fun K J=>sQ (eX jC dd_ O) O (sQ (iA mF O mm_ O) O ?_)))))));refine nl J (J12 _ _ ?_);refine fN _ O (fun hn=>?_) (fun hn=>?_)
  ·replace hn:=cB_ hn
   refine Rk fun K J=>sE O (sE O (sE O (nl J (J11 _ _ (Sq fun K13 J13=>Rk fun K J=>sE O (sE O (sE O (nl J (J13 _ _ (aL (o6 O (.inr O) O O ?_)))))))))));exact RA ha hg (eM_ hin hn) hin
  replace hn:=cB_ hn
  refine aG (J11 _ _ (Sq fun K14 J14=>Rk fun K J=>sE O (sE O (sE O (nl J (J14 _ _ (aL (o6 O (.inr O) O O ?_))))))));exact RA ha hg (eN_ hin hn) hin
 refine aI O (aI O (aI O (aI O (sE O (nl J (J8 _ _ (dE O (Sq fun K15 J15=>Rk fun K J=>sE O (sE O (nl J (J15 _ _ (aL (aB (o6 O (.inr O) O O ?_))))))))))))));exact JK ha hg (hi_ ha hg (of_decide_eq_true hlo))
theorem I8 (a:I) :
    Ret Tryz.prog 92 [AV [pI a]] (AV [pI ((lN a).n),pI ((lN a).d)]):=by
 refine cM (N:=6) Tryz.func92 O O (by simp) (fun w0=>?_);simp only [cS,Nat.reduceAdd];refine Rs fun K J=>bA O (cH O O (fun b1 hb1=>sN oR O fun b2 hb2=>nl J (ds (sd (sk (s0))) [0,4,8,13] [3] mix (by kernel_rfl) (fun K J=>pQ O (qL aD O m1 O) (pQ O (bZ aq_ xH  rfl) ?_)))));obtain ⟨r3,hr3⟩:=nm ((cJ a F_skewbackref04_one):Rt);refine pC (AV [pI r3.n,pI r3.d]) PS (qP a F_skewbackref04_one) O O (by rw [hr3];first|done|rfl) (oS [pI r3.n,pI r3.d] bD O O O O O O uH O hb2 O (sd s0) (fl J (aL (cC O (.inr O) (eP O m0 bD O) ?_))));exact (by subst hr3;rfl)
theorem dO (a:Rt) :
    Ret Tryz.prog 74 [AV [pI a.n,pI a.d]] (.bool (aH a)):=by
 refine cM (N:=26) Tryz.func74 O O (by simp) (fun w0=>?_);simp only [cS,Nat.reduceAdd];refine Rs fun K J=>bA O (cH O O (fun b1 hb1=>sE O (nl J (Sq fun K1 J1=>?_))));refine dH [3,4,5,6,7,8,9,10,11,12] (fun g M=>(g 12 = .bool (!a.n.1.good||(!a.d.1.good)))∧M=[⟨b1,33,aW [pI a.n,pI a.d]⟩]) (fun K2 J2=>?_) ?_
 ·refine Rk fun K J=>sQ (qF jZ O O) O (sQ (qL aD O m0 O) O (sC (.bool a.n.1.good) vE (d9 a.n.1 a.n.2) O O O (sE O ?_)));rcases bt a.n.1.good with h3|h3
  ·refine sB (iS h3) O (sQ (qF fV O O) O (sQ (qL aD O m0 O) O (sC (.bool a.d.1.good) vE (d9 a.d.1 a.d.2) O O O (sE O (sE O (nl J ?_))))));refine J2 _ _ pp_ ⟨_,s0,?s12,rfl⟩
   case s12=>exact congrArg Value.bool (j3 h3 O)
  refine sB (iT h3) O (aI O (aI O (aI O (aI O (sE O (nl J ?_))))));refine J2 _ _ pp_ ⟨_,s0,?s12,rfl⟩
  case s12=>exact congrArg Value.bool (oJ h3)
 rintro g4 M ⟨hg12,rfl⟩;simp only [dQ,hg12];clear hg12;rcases bt (!a.n.1.good||(!a.d.1.good)) with h5|h5
 ·refine W_t h5 O (Rs fun K J=>sE O (nl J (aL (aB (cC O (.inr O) O ?_)))));exact (by exact congrArg vS2 (show _=(aH a) from bI h5 O))
 refine W_f h5 O (aG (J1 _ _ ?_));refine dH [2,13,14,15,16,17,18,19,20,21,22,23,24,25] (fun g M=>(g 2 = .bool (decide (0<(Z.signW a.d.dec).1)&&decide ((E (Z.gcd a.n.dec a.d.dec))=F_skewbackref04_one)))∧M=[⟨b1,33,aW [pI a.n,pI a.d]⟩]) (fun K3 J3=>?_) ?_
 ·refine Rk fun K J=>sQ (qF fV O O) O (sQ (qL aD O m0 O) O (sC (.int .i64 ((Z.signW a.d.dec).1)) D7 (j0 a.d.1 a.d.2) O O O (sE O ?_)));rcases bt (decide (0<(Z.signW a.d.dec).1)) with h7|h7
  ·refine sB h7 O (sQ (qF jZ O O) O (sQ (qL aD O m0 O) O (sQ (qF fV O O) O (sQ (qL aD O m0 O) O (sC (AV [pI (E (Z.gcd a.n.dec a.d.dec))]) M9 (pK a.n.1 a.d.1 a.n.2 a.d.2) O O O (sQ (bZ aq_ xH  rfl) O ?_))))));refine sQ (rG (r:=decide ((E (Z.gcd a.n.dec a.d.dec))=F_skewbackref04_one)) O O (kR 8 dd_ IL IS (iN cX) (iN cX) (mU fU))) O (sE O (sE O (nl J ?_)));refine J3 _ _ pp_ ⟨_,s0,?s2,rfl⟩
   case s2=>exact congrArg Value.bool (eB h7 O)
  refine sB h7 O (aI O (aI O (aI O (aI O (aI O (aI O (aI O (sE O (sE O (nl J ?_))))))))));refine J3 _ _ pp_ ⟨_,s0,?s2,rfl⟩
  case s2=>exact congrArg Value.bool (kU h7)
 rintro g8 M ⟨hg2,rfl⟩;simp only [dQ,hg2];clear hg2;refine aL (cC O (.inr O) O ?_);exact (by exact congrArg vS2 (show _=(aH a) from aM h5 O))
theorem yY (a:Rt) :
    Ret Tryz.prog 75 [AV [pI a.n,pI a.d]] (.bool (oF a)):=by
 refine cM (N:=12) Tryz.func75 O O (by simp) (fun w0=>?_);simp only [cS,Nat.reduceAdd];refine Rs fun K J=>bA O (cH O O (fun b1 hb1=>sE O (nl J (Rs fun K J=>sQ (qL bD O m0 O) O (sQ (bZ wB (dO a) O) O (sE O (nl J ?_)))))));refine dH [2,6,7,8,9,10,11] (fun g M=>(g 2 = .bool ((aH a)||(decide (a.n=pR.n)&&decide (a.d=pR.d))))∧M=[⟨b1,33,aW [pI a.n,pI a.d]⟩]) (fun K1 J1=>?_) ?_
 ·refine dr (sk (s0)) [0,4,8,12,16,20,24] [] mix (by kernel_rfl) (fun K J=>pE O ?_);rcases bt (aH a) with h3|h3
  ·refine pB h3 O (aP O O (aP O O (aP O O (pE O (pE O (fl J ?_))))));refine J1 _ _ pp_ ⟨_,s0,?s2,rfl⟩
   case s2=>exact congrArg Value.bool (lT h3)
  refine pB h3 O (pQ O (qL bD O m0 O) (pQ O (bZ VH u9  rfl) ?_));refine pQ O (rG (r:=(decide (a.n=pR.n)&&decide (a.d=pR.d))) O O (kR 8 dd_ LO LS (bB cX (iN cX)) (bB cX (iN cX)) (dB O fU (mU fU)))) (pE O (pE O (fl J ?_)));refine J1 _ _ pp_ ⟨_,s0,?s2,rfl⟩
  case s2=>exact congrArg Value.bool (iK h3 O)
 rintro g4 M ⟨hg2,rfl⟩;simp only [dQ,hg2];clear hg2;refine aL (cC O (.inr O) O ?_);exact (by rfl)
theorem MT (a:Rt) :
    Ret Tryz.prog 233 [AV [pI a.n,pI a.d]] (AV [pI ((lA a).n),pI ((lA a).d)]):=by
 refine cM (N:=13) Tryz.func233 O O (by simp) (fun w0=>?_);simp only [cS,Nat.reduceAdd];refine Rs fun K J=>bA O (cH O O (fun b1 hb1=>sN oR O fun b2 hb2=>nl J (Sq fun K1 J1=>Rs fun K J=>sQ (qL bD O m1 O) O (sQ (bZ wB (dO a) O) O (sE O (nl J ?_))))));rcases bt (aH a) with h3|h3
 ·refine W_f (iS h3) O (aG (J1 _ _ (ds (sd (sk (s0))) [0,4,8,12,16,20,25] [6] mix (by kernel_rfl) (fun K J=>pQ O (qF jZ O O) (pQ O (qL aD O m1 O) (pC (AV [pI (E (Z.neg a.n.dec))]) d3_ (z5 a.n.1 a.n.2) O O O (pQ O (qF fV O O) (pQ O (qL aD O m1 O) (pQ O (dR oR FJ O (.cons [pI (E (Z.neg a.n.dec))] [pI (E (Z.neg a.n.dec)),pI I0] O O O O (.cons [pI a.d] [pI (E (Z.neg a.n.dec)),pI a.d] O O O O (.nil _)))) (oS [pI (E (Z.neg a.n.dec)),pI a.d] bD O O O O O O uH O hb2 O (sd s0) (fl J (aL (cC O (.inr O) (eP O m0 bD O) ?_)))))))))))));exact (by exact congrArg vS7 (show _=(lA a) from bI h3 O))
 refine W_t (iT h3) O (Rs fun K J=>sQ (bZ VH u9  rfl) O (sS [pI pR.n,pI pR.d] bD O O O O O uH O hb2 (nl J (aL (aB (cC O (.inr O) (eP O m0 bD O) ?_))))));exact (by exact congrArg vS7 (show _=(lA a) from aM h3 O))
theorem rC (a:Rt) (b:Rt) :
    Ret Tryz.prog 162 [AV [pI a.n,pI a.d],AV [pI b.n,pI b.d]] (AV [pI ((cT a b).n),pI ((cT a b).d)]):=by
 refine cM (N:=44) Tryz.func162 O O (by simp) (fun w0=>?_);simp only [cS,Nat.reduceAdd];refine Rs fun K J=>bA O (cH O O (fun b1 hb1=>bA O (cH O O (fun b2 hb2=>sN oR O fun b3 hb3=>nl J (Sq fun K1 J1=>?_)))));refine dH [8,9,10,11,12,13,14,15] (fun g M=>(g 15 = .bool (!(aH a)||(!(aH b))))∧M=[⟨b3,33,aW [pI I0,pI I0]⟩,⟨b2,33,aW [pI b.n,pI b.d]⟩,⟨b1,33,aW [pI a.n,pI a.d]⟩]) (fun K2 J2=>?_) ?_
 ·refine Rk fun K J=>sQ (qL bD O m2 O) O (sQ (bZ wB (dO a) O) O (sE O ?_));rcases bt (aH a) with h5|h5
  ·refine sB (iS h5) O (sQ (qL bD O m1 O) O (sQ (bZ wB (dO b) O) O (sE O (sE O (nl J ?_)))));refine J2 _ _ pp_ ⟨_,s0,?s15,rfl⟩
   case s15=>exact congrArg Value.bool (j3 h5 O)
  refine sB (iT h5) O (aI O (aI O (aI O (sE O (nl J ?_)))));refine J2 _ _ pp_ ⟨_,s0,?s15,rfl⟩
  case s15=>exact congrArg Value.bool (oJ h5)
 rintro g6 M ⟨hg15,rfl⟩;simp only [dQ,hg15];clear hg15;rcases bt (!(aH a)||(!(aH b))) with h7|h7
 ·refine W_t h7 O (Rs fun K J=>sQ (bZ VH u9  rfl) O (sS [pI pR.n,pI pR.d] bD O O O O O uH O hb3 (nl J (aL (aB (cC O (.inr O) (eP O m0 bD O) ?_))))));exact (by exact congrArg vS7 (show _=(cT a b) from bI h7 O))
 refine W_f h7 O (aG (J1 _ _ (Rs fun K J=>sQ (qF fV O O) O (sQ (qL aD O m2 O) O (sQ (qF fV O O) O (sQ (qL aD O m1 O) O (sC (AV [pI (E (Z.gcd a.d.dec b.d.dec))]) M9 (pK a.d.1 b.d.1 a.d.2 b.d.2) O O O (sN gT O fun b8 hb8=>sS [pI (E (Z.gcd a.d.dec b.d.dec))] aD O O O O O uH O hb8 (nl J (Rs fun K J=>sQ (qF fV O O) O (sQ (qL aD O m3 O) O (sQ (qL aD O m0 O) O (sC (AV [pI (E (Z.quo a.d.dec (Z.gcd a.d.dec b.d.dec)))]) AN (iL a.d.1 (E (Z.gcd a.d.dec b.d.dec)).1 a.d.2 (E (Z.gcd a.d.dec b.d.dec)).2) O O (cg2 (fun p q=>AV [pI (E (Z.quo p q))]) O (eD _)) (sN gT O fun b9 hb9=>sS [pI (E (Z.quo a.d.dec (Z.gcd a.d.dec b.d.dec)))] aD O O O O O uH O hb9 (nl J ?_)))))))))))))));refine Rs fun K J=>sQ (qF fV O O) O (sQ (qL aD O m3 O) O (sQ (qL aD O m1 O) O (sC (AV [pI (E (Z.quo b.d.dec (Z.gcd a.d.dec b.d.dec)))]) AN (iL b.d.1 (E (Z.gcd a.d.dec b.d.dec)).1 b.d.2 (E (Z.gcd a.d.dec b.d.dec)).2) O O (cg2 (fun p q=>AV [pI (E (Z.quo p q))]) O (eD _)) (sN gT O fun b10 hb10=>sS [pI (E (Z.quo b.d.dec (Z.gcd a.d.dec b.d.dec)))] aD O O O O O uH O hb10 (nl J (ds (sk (sk (sk (sd (sk (sk (s0))))))) [0,4,8,12,16,20,24,28,32,36,40,44,48,52,57] [14] mix (by kernel_rfl) (fun K J=>pQ O (qF jZ O O) (pQ O (qL aD O m5 O) (pQ O (qL aD O m0 O) (pC (AV [pI (E (Z.mul a.n.dec (Z.quo b.d.dec (Z.gcd a.d.dec b.d.dec))))]) z7 (fB a.n.1 (E (Z.quo b.d.dec (Z.gcd a.d.dec b.d.dec))).1 a.n.2 (E (Z.quo b.d.dec (Z.gcd a.d.dec b.d.dec))).2) O O (cg2 (fun p q=>AV [pI (E (Z.mul p q))]) O (eD _)) (pQ O (qF jZ O O) (pQ O (qL aD O m4 O) (pQ O (qL aD O m1 O) (pC (AV [pI (E (Z.mul b.n.dec (Z.quo a.d.dec (Z.gcd a.d.dec b.d.dec))))]) z7 (fB b.n.1 (E (Z.quo a.d.dec (Z.gcd a.d.dec b.d.dec))).1 b.n.2 (E (Z.quo a.d.dec (Z.gcd a.d.dec b.d.dec))).2) O O (cg2 (fun p q=>AV [pI (E (Z.mul p q))]) O (eD _)) ?_))))))))))))));obtain ⟨r11,hr11⟩:=nm ((E (Z.add (Z.mul a.n.dec (Z.quo b.d.dec (Z.gcd a.d.dec b.d.dec))) (Z.mul b.n.dec (Z.quo a.d.dec (Z.gcd a.d.dec b.d.dec))))):I);refine pC (AV [pI r11]) SU (pJ (E (Z.mul a.n.dec (Z.quo b.d.dec (Z.gcd a.d.dec b.d.dec)))).1 (E (Z.mul b.n.dec (Z.quo a.d.dec (Z.gcd a.d.dec b.d.dec)))).1 (E (Z.mul a.n.dec (Z.quo b.d.dec (Z.gcd a.d.dec b.d.dec)))).2 (E (Z.mul b.n.dec (Z.quo a.d.dec (Z.gcd a.d.dec b.d.dec)))).2) O O ((cg2 (fun p q=>AV [pI (E (Z.add p q))]) (eD _) (eD _)).trans (by rw [hr11])) (pQ O (qL aD O m1 O) (pQ O (qF fV O O) (pQ O (qL aD O m4 O) (pC (AV [pI (E (Z.mul (Z.quo a.d.dec (Z.gcd a.d.dec b.d.dec)) b.d.dec))]) z7 (fB (E (Z.quo a.d.dec (Z.gcd a.d.dec b.d.dec))).1 b.d.1 (E (Z.quo a.d.dec (Z.gcd a.d.dec b.d.dec))).2 b.d.2) O O (cg2 (fun p q=>AV [pI (E (Z.mul p q))]) (eD _) O) ?_))));obtain ⟨r12,hr12⟩:=nm ((cJ r11 (E (Z.mul (Z.quo a.d.dec (Z.gcd a.d.dec b.d.dec)) b.d.dec))):Rt);refine pC (AV [pI r12.n,pI r12.d]) PS (qP r11 (E (Z.mul (Z.quo a.d.dec (Z.gcd a.d.dec b.d.dec)) b.d.dec))) O O (by rw [hr12];first|done|rfl) (oS [pI r12.n,pI r12.d] bD O O O O O O (uT (uT (uT uH))) O hb3 O (sk (sk (sk (sd s0)))) (fl J (aL (cC O (.inr O) (eP O m3 bD O) ?_))));exact (by subst hr12;subst hr11;exact congrArg vS7 (show _=(cT a b) from aM h7 O))
theorem vA (a:Rt) (b:Rt) :
    Ret Tryz.prog 157 [AV [pI a.n,pI a.d],AV [pI b.n,pI b.d]] (AV [pI ((cO a b).n),pI ((cO a b).d)]):=by
 refine cM (N:=9) Tryz.func157 O O (by simp) (fun w0=>?_);simp only [cS,Nat.reduceAdd];refine Rs fun K J=>bA O (cH O O (fun b1 hb1=>bA O (cH O O (fun b2 hb2=>sN oR O fun b3 hb3=>nl J (ds (sd (sk (sk (s0)))) [0,4,8,12,17] [4] mix (by kernel_rfl) (fun K J=>pQ O (qL bD O m2 O) (pQ O (qL bD O m1 O) (pQ O (bZ pg_ (MT b) O) ?_))))))));obtain ⟨r4,hr4⟩:=nm ((cT a (lA b)):Rt);refine pC (AV [pI r4.n,pI r4.d]) PT (rC a (lA b)) O O (by rw [hr4];first|done|rfl) (oS [pI r4.n,pI r4.d] bD O O O O O O uH O hb3 O (sd s0) (fl J (aL (cC O (.inr O) (eP O m0 bD O) ?_))));exact (by subst hr4;rfl)
theorem oH (a:Rt) (b:Rt) :
    Ret Tryz.prog 160 [AV [pI a.n,pI a.d],AV [pI b.n,pI b.d]] (AV [pI ((cG a b).n),pI ((cG a b).d)]):=by
 refine cM (N:=41) Tryz.func160 O O (by simp) (fun w0=>?_);simp only [cS,Nat.reduceAdd];refine Rs fun K J=>bA O (cH O O (fun b1 hb1=>bA O (cH O O (fun b2 hb2=>sN oR O fun b3 hb3=>nl J (Sq fun K1 J1=>?_)))));refine dH [9,10,11,12,13,14,15,16] (fun g M=>(g 16 = .bool (!(aH a)||(!(aH b))))∧M=[⟨b3,33,aW [pI I0,pI I0]⟩,⟨b2,33,aW [pI b.n,pI b.d]⟩,⟨b1,33,aW [pI a.n,pI a.d]⟩]) (fun K2 J2=>?_) ?_
 ·refine Rk fun K J=>sQ (qL bD O m2 O) O (sQ (bZ wB (dO a) O) O (sE O ?_));rcases bt (aH a) with h5|h5
  ·refine sB (iS h5) O (sQ (qL bD O m1 O) O (sQ (bZ wB (dO b) O) O (sE O (sE O (nl J ?_)))));refine J2 _ _ pp_ ⟨_,s0,?s16,rfl⟩
   case s16=>exact congrArg Value.bool (j3 h5 O)
  refine sB (iT h5) O (aI O (aI O (aI O (sE O (nl J ?_)))));refine J2 _ _ pp_ ⟨_,s0,?s16,rfl⟩
  case s16=>exact congrArg Value.bool (oJ h5)
 rintro g6 M ⟨hg16,rfl⟩;simp only [dQ,hg16];clear hg16;rcases bt (!(aH a)||(!(aH b))) with h7|h7
 ·refine W_t h7 O (Rs fun K J=>sQ (bZ VH u9  rfl) O (sS [pI pR.n,pI pR.d] bD O O O O O uH O hb3 (nl J (aL (aB (cC O (.inr O) (eP O m0 bD O) ?_))))));exact (by exact congrArg vS7 (show _=(cG a b) from bI h7 O))
 refine W_f h7 O (aG (J1 _ _ (Rs fun K J=>sQ (qF jZ O O) O (sQ (qL aD O m2 O) O (sQ (qF fV O O) O (sQ (qL aD O m1 O) O (sQ (bZ PS (qP a.n b.d) O) O (sN oR O fun b8 hb8=>sS [pI ((cJ a.n b.d).n),pI ((cJ a.n b.d).d)] bD O O O O O uH O hb8 (nl J (Rs fun K J=>sQ (qF jZ O O) O (sQ (qL aD O m2 O) O (sQ (qF fV O O) O (sQ (qL aD O m3 O) O (sQ (bZ PS (qP b.n a.d) O) O (sN oR O fun b9 hb9=>sS [pI ((cJ b.n a.d).n),pI ((cJ b.n a.d).d)] bD O O O O O uH O hb9 ?_)))))))))))))));refine nl J (Rs fun K J=>sQ (qF jZ O O) O (sQ (qL aD O m1 O) O (sQ (qF jZ O O) O (sQ (qL aD O m0 O) O ?_))));obtain ⟨r10,hr10⟩:=nm ((E (Z.mul ((cJ a.n b.d).n).dec ((cJ b.n a.d).n).dec)):I);refine sC (AV [pI r10]) z7 (fB ((cJ a.n b.d).n).1 ((cJ b.n a.d).n).1 ((cJ a.n b.d).n).2 ((cJ b.n a.d).n).2) O O (by rw [hr10];first|done|rfl) (sN gT O fun b11 hb11=>sS [pI r10] aD O O O O O uH O hb11 (nl J (Rs fun K J=>sQ (qF fV O O) O (sQ (qL aD O m2 O) O (sQ (qF fV O O) O (sQ (qL aD O m1 O) O ?_))))));obtain ⟨r12,hr12⟩:=nm ((E (Z.mul ((cJ a.n b.d).d).dec ((cJ b.n a.d).d).dec)):I);refine sC (AV [pI r12]) z7 (fB ((cJ a.n b.d).d).1 ((cJ b.n a.d).d).1 ((cJ a.n b.d).d).2 ((cJ b.n a.d).d).2) O O (by rw [hr12];first|done|rfl) (sN gT O fun b13 hb13=>sS [pI r12] aD O O O O O uH O hb13 (nl J (Rs fun K J=>sQ (qL aD O m1 O) O (sQ (qL aD O m0 O) O (sQ (bZ PS (qP r10 r12) O) O (sS [pI ((cJ r10 r12).n),pI ((cJ r10 r12).d)] bD O O O O O (uT (uT (uT (uT uH)))) O hb3 (nl J (aL (cC O (.inr O) (eP O m4 bD O) ?_)))))))));exact (by subst hr12;subst hr10;exact congrArg vS7 (show _=(cG a b) from aM h7 O))
end Go.Proofs.YtkjjponijamaoaaGreatDoor
namespace Go.Num
open Go Go.Kn
def okW (z:Z):Bool:=z.small.2&&(!decide (2305843009213693952≤(Z.smallW z).1) && !decide ((Z.smallW z).1≤(-2305843009213693952)))
theorem ml_ (z:Z):(!z.small.2||(decide (2305843009213693952≤(Z.smallW z).1)||decide ((Z.smallW z).1≤(-2305843009213693952)))) = !okW z:=by
  unfold okW;cases z.small.2<;>cases decide (2305843009213693952≤(Z.smallW z).1)<;>cases decide ((Z.smallW z).1≤(-2305843009213693952))<;>rfl
def VW0:A3 W:=⟨wl 0,wl 0,wl 0⟩
def D9 (a:A3 I):Z:=Z.gcd (Z.gcd (Z.gcd (Z.of 0) a.x.dec) a.y.dec) a.z.dec
def cR_ (a:A3 I):A3 W×W :=
  if (D9 a).o=none then (VW0,wl 30)
  else if (D9 a).sign=0 then (VW0,wl 31)
  else if okW (Z.quo a.x.dec (D9 a))&&(okW (Z.quo a.y.dec (D9 a))&&okW (Z.quo a.z.dec (D9 a))) then (⟨Z.smallW (Z.quo a.x.dec (D9 a)),Z.smallW (Z.quo a.y.dec (D9 a)),Z.smallW (Z.quo a.z.dec (D9 a))⟩,wl 0)
  else (VW0,wl 30)
theorem m1_ (z:Z):(E z).1.bad=decide (z.o=none):=by
  show z.enc.bad=_
  unfold Z.enc
  cases h:z.o<;>simp
theorem sign0 (z:Z):((Z.signW z).1==0)=decide (z.sign=0):=by
  show (z.sign==0)=_
  rfl
theorem g4_ (a:A3 I):j5 a=cR_ a:=by
  unfold j5 cR_;simp only [eD,ml_,m1_,sign0]
  show (bif decide ((D9 a).o=none) then _ else bif decide ((D9 a).sign=0) then _ else bif !okW (Z.quo a.x.dec (D9 a)) then _ else bif !okW (Z.quo a.y.dec (D9 a)) then _ else bif !okW (Z.quo a.z.dec (D9 a)) then _ else _)=_
  by_cases h1:(D9 a).o=none
  · simp [h1,VW0]
  by_cases h2:(D9 a).sign=0
  · simp [h1,h2,VW0]
  simp only [h1,h2,decide_false,cond_false,if_false]
  cases okW (Z.quo a.x.dec (D9 a))<;>cases okW (Z.quo a.y.dec (D9 a))<;>cases okW (Z.quo a.z.dec (D9 a))<;>rfl
theorem mL_ (a:A3 W):oG a=(!(decide (2305843009213693952≤a.x.1)||decide (a.x.1≤(-2305843009213693952)))&&(!(decide (2305843009213693952≤a.y.1)||decide (a.y.1≤(-2305843009213693952))) && !(decide (2305843009213693952≤a.z.1)||decide (a.z.1≤(-2305843009213693952))))):=by
  unfold oG
  cases (decide (2305843009213693952≤a.x.1)||decide (a.x.1≤(-2305843009213693952)))<;>cases (decide (2305843009213693952≤a.y.1)||decide (a.y.1≤(-2305843009213693952)))<;>cases (decide (2305843009213693952≤a.z.1)||decide (a.z.1≤(-2305843009213693952)))<;>rfl
theorem g1_ {α:Type} (p1 p2 p3 q1 q2 q3 r1 r2 r3:Bool) (X Y:α):(bif p1 then (bif p2 then (bif p3 then (bif (!(q1||r1)&&(!(q2||r2) && !(q3||r3))) then X else Y) else Y) else Y) else Y) =
    if ((p1&&(!q1 && !r1))&&((p2&&(!q2 && !r2))&&(p3&&(!q3 && !r3))))=true then X else Y:=by
  cases p1<;>cases p2<;>cases p3<;>cases q1<;>cases q2<;>cases q3<;>cases r1<;>cases r2<;>cases r3<;>rfl
def WF (p:A3 W×W):Dir:=⟨p.1,p.2⟩
theorem WW (a:A3 I):gU a=WF (cR_ a):=by
  unfold gU cR_;simp only [eD,m1_,sign0,mL_]
  show (bif decide ((D9 a).o=none) then _ else bif decide ((D9 a).sign=0) then _ else bif (Z.quo a.x.dec (D9 a)).small.2 then bif (Z.quo a.y.dec (D9 a)).small.2 then bif (Z.quo a.z.dec (D9 a)).small.2 then _ else _ else _ else _)=_
  by_cases h1:(D9 a).o=none
  · rw [decide_eq_true h1,cond_true,if_pos h1];rfl
  by_cases h2:(D9 a).sign=0
  · rw [decide_eq_false h1,cond_false,decide_eq_true h2,cond_true,if_neg h1,if_pos h2];rfl
  rw [decide_eq_false h1,cond_false,decide_eq_false h2,cond_false,if_neg h1,if_neg h2,apply_ite WF];exact g1_ _ _ _ _ _ _ _ _ _ _ _
theorem Z.Is.sign0 {z:Z} (h:z.Is 0):z.sign=0:=by
  unfold Z.sign;rcases h with h|h<;>rw [h]<;>rfl
theorem gD_ {x:I} (h:x.1.good=true):E x.dec=x:=Subtype.ext (T9 x.2 h)
theorem ee_ {x:I} (h:x.1.good=true):∃ v:Int,gR v∧x=E (Z.of v):=by
  have h1:=fF x.2 h;refine ⟨_,x.dec.h _ h1,?_⟩;rw [← Z.eq_of h1];exact (gD_ h).symm
theorem HO {v:Int} (h:gR v):(E (Z.of v)).1.good=true:=by
  show (Z.of v).enc.good=true
  rw [Z.enc_good,Z.of_some h];rfl
theorem dC_ {v:Int} (h:gR v):(E (Z.of v)).1.bad=false:=by
  have:=HO h;unfold R.good at this;simp only [Bool.and_eq_true,Bool.not_eq_true'] at this;exact this.1
theorem oj_:(E Z.bad).1.bad=true:=rfl
theorem ct_:(E Z.bad).1.good=false:=rfl
theorem f8_ {v:Int} (h:gR v):(Z.of v).sign=v.sign:=by unfold Z.sign;rw [Z.of_some h]
theorem tT {v:Int} (h:gR v):(Z.signW (Z.of v)).1=v.sign:=f8_ h
theorem EA {u v:Int} (hu:gR u) (hv:gR v):Z.gcd (Z.of u) (Z.of v)=Z.of (Int.gcd u v):=by rw [Z.gcd,gZ (Z.of_some hu) (Z.of_some hv)]
theorem HV {u v:Int} (hu:gR u) (hv:gR v) (h:v≠0):Z.quo (Z.of u) (Z.of v)=Z.of (u.fdiv v):=by rw [Z.quo,gZ (Z.of_some hu) (Z.of_some hv),if_neg h]
theorem qV {u v:Int} (hu:gR u) (hv:gR v):Z.mul (Z.of u) (Z.of v)=Z.of (u*v):=by rw [Z.mul,gZ (Z.of_some hu) (Z.of_some hv)]
theorem E8 {u v:Int} (hu:gR u) (hv:gR v):Z.add (Z.of u) (Z.of v)=Z.of (u+v):=by rw [Z.add,gZ (Z.of_some hu) (Z.of_some hv)]
theorem B1:gR 1:=by decide
theorem B0:gR 0:=by decide
theorem VZ {u v:Int} (hv:gR v) (h:v≠0):gR (Int.gcd u v:Nat):=by
  have:Int.gcd u v≤v.natAbs:=Nat.le_of_dvd oo_ (Int.gcd_dvd_natAbs_right u v)
  show ((Int.gcd u v:Nat):Int).natAbs<_
  rw [Int.natAbs_natCast];exact Nat.lt_of_le_of_lt this hv
theorem WK {u v:Int} (hu:gR u) (hv:gR v) (h:Z.of u=Z.of v):u=v:=by
  have:=congrArg Z.o h;rw [Z.of_some hu,Z.of_some hv] at this;exact Option.some.inj this
theorem j3_:F_skewbackref04_one=E (Z.of 1):=rfl
theorem rH_:F_ratio_one=E (Z.of 1):=rfl
theorem dr_:AI=pR:=rfl
theorem jq_ (a:I):pP a=a.1.good:=rfl
theorem pA (a:Rt):cE a=aH a:=by
  unfold cE aH;rw [jq_,jq_,j3_,rH_]
  cases a.n.1.good<;>cases a.d.1.good<;>rfl
theorem QC (a b:I):dJ a b=cJ a b:=rfl
theorem IA (a:W):dK a=aE a:=rfl
theorem n8_ (a:Rt):wS a=lA a:=by unfold wS lA;rw [pA,dr_]
theorem PG (a b:Rt):eZ a b=cT a b:=by unfold eZ cT;rw [pA,pA,dr_];rfl
theorem JZ (a b:Rt):fJ a b=cO a b:=by unfold fJ cO;rw [n8_,PG]
theorem qK_ {a:Rt}:aH a=true ↔ ∃ n d,Rt.Is a n d:=by
  unfold aH
  constructor
  · intro h
    cases gn:a.n.1.good<;>cases gd:a.d.1.good<;>simp only [gn,gd,Bool.not_true,Bool.not_false,Bool.or_true,Bool.true_or,Bool.or_false,cond_true,cond_false,Bool.false_eq_true] at h
    obtain ⟨n,hn,en⟩:=ee_ gn;obtain ⟨d,hd,ed⟩:=ee_ gd;rw [en,ed] at h;simp only [eD,Bool.and_eq_true,decide_eq_true_eq,tT hd] at h;obtain ⟨h1,h2⟩:=h;have hp:0<d:=Int.sign_pos_iff.1 h1;rw [EA hn hd,j3_] at h2;have h3:=WK (VZ hd oo_) B1 (bz_ h2);exact ⟨n,d,en,ed,hn,hd,hp,by exact_mod_cast h3⟩
  rintro ⟨n,d,h⟩;rw [h.en,h.ed,HO h.hn,HO h.hd];simp only [Bool.not_true,Bool.or_false,cond_false,eD,Bool.and_eq_true,decide_eq_true_eq,tT h.hd];refine ⟨Int.sign_pos_iff.2 h.pos,?_⟩;rw [EA h.hn h.hd,h.cop];rfl
theorem OG (v:Int):v.fdiv 1=v:=by rw [Int.fdiv_eq_ediv_of_nonneg _ dd_];exact Int.ediv_one v
theorem UG {n d:Int} (hn:gR n) (hd:gR d) (hp:0<d) (hc:Int.gcd n d=1):cJ (E (Z.of n)) (E (Z.of d))=⟨E (Z.of n),E (Z.of d)⟩:=by
  unfold cJ
  have h1:((Z.signW (E (Z.of d)).dec).1==0)=false:=by rw [eD,tT hd,Int.sign_eq_one_of_pos hp];rfl
  have h2:decide ((Z.signW (E (Z.of d)).dec).1<0)=false:=by rw [eD,tT hd,Int.sign_eq_one_of_pos hp];rfl
  rw [HO hn,HO hd,h1,h2,eD,eD,EA hn hd,hc];simp only [Bool.not_true,Bool.or_false,cond_false];rw [show ((1:Nat):Int)=1 from rfl,HV hn B1 dd_,HV hd B1 dd_,OG,OG]
theorem R2 (b:I):cJ (E Z.bad) b=pR:=by unfold cJ;rw [ct_];rfl
theorem R3 (a:I):cJ a (E Z.bad)=pR:=by
  unfold cJ;rw [ct_]
  cases a.1.good<;>rfl
theorem QT {u g:Int} (hg:0<g):u.fdiv g=u / g:=Int.fdiv_eq_ediv_of_nonneg _ (Int.le_of_lt hg)
theorem m9_ {u g:Int} (hu:gR u) (hg:0<g) (hd:g ∣ u):gR (u / g):=by
  obtain ⟨k,rfl⟩:=hd;rw [Int.mul_ediv_cancel_left _ oo_];refine Nat.lt_of_le_of_lt ?_ hu;rw [Int.natAbs_mul];exact Nat.le_mul_of_pos_left _ oo_
theorem cD_ {n d:Int} (hn:gR n) (hd:gR d) (hp:0<d) :
    cJ (E (Z.of n)) (E (Z.of d))=⟨E (Z.of (n / (Int.gcd n d:Nat))),E (Z.of (d / (Int.gcd n d:Nat)))⟩:=by
  unfold cJ
  have h1:((Z.signW (E (Z.of d)).dec).1==0)=false:=by rw [eD,tT hd,Int.sign_eq_one_of_pos hp];rfl
  have h2:decide ((Z.signW (E (Z.of d)).dec).1<0)=false:=by rw [eD,tT hd,Int.sign_eq_one_of_pos hp];rfl
  have hg:0<((Int.gcd n d:Nat):Int):=by
    have:=Int.gcd_pos_of_ne_zero_right n (show d≠0 by omega);omega
  have hb:=VZ (u:=n) hd oo_;rw [HO hn,HO hd,h1,h2,eD,eD,EA hn hd];simp only [Bool.not_true,Bool.or_false,cond_false];rw [HV hn hb oo_,HV hd hb oo_,QT hg,QT hg]
theorem NJ {n d:Int} (hn:gR n) (hd:gR d) (hp:0<d):Rt.Is (cJ (E (Z.of n)) (E (Z.of d))) (n / (Int.gcd n d:Nat)) (d / (Int.gcd n d:Nat)):=by
  have hg:0<((Int.gcd n d:Nat):Int):=by
    have:=Int.gcd_pos_of_ne_zero_right n (show d≠0 by omega);omega
  have d1:((Int.gcd n d:Nat):Int) ∣ n:=Int.gcd_dvd_left ..;have d2:((Int.gcd n d:Nat):Int) ∣ d:=Int.gcd_dvd_right ..;rw [cD_ hn hd hp];refine ⟨rfl,rfl,m9_ hn hg d1,m9_ hd hg d2,Int.ediv_pos_of_pos_of_dvd hp oo_ d2,?_⟩;rw [Int.gcd_ediv d1 d2,Int.natAbs_natCast,Nat.div_self oo_]
theorem UX {a b:Rt} {n d m e:Int} (ha:a.Is n d) (hb:b.Is m e) :
    ∃ p q r s:Int,cJ a.n b.d=⟨E (Z.of p),E (Z.of q)⟩∧cJ b.n a.d=⟨E (Z.of r),E (Z.of s)⟩∧gR p∧gR q∧gR r∧gR s∧0<q∧0<s∧Int.gcd (p*r) (q*s)=1∧n*m*(q*s)=p*r*(d*e):=by
  have h1:=NJ ha.hn hb.hd hb.pos;have h2:=NJ hb.hn ha.hd ha.pos;have g1:((Int.gcd n e:Nat):Int) ∣ n:=Int.gcd_dvd_left ..;have g2:((Int.gcd n e:Nat):Int) ∣ e:=Int.gcd_dvd_right ..;have g3:((Int.gcd m d:Nat):Int) ∣ m:=Int.gcd_dvd_left ..;have g4:((Int.gcd m d:Nat):Int) ∣ d:=Int.gcd_dvd_right ..;refine ⟨n / (Int.gcd n e:Nat),e / (Int.gcd n e:Nat),m / (Int.gcd m d:Nat),d / (Int.gcd m d:Nat),?_,?_,h1.hn,h1.hd,h2.hn,h2.hd,h1.pos,h2.pos,?_,?_⟩
  · rw [ha.en,hb.ed];exact Rt.ext h1.en h1.ed
  · rw [hb.en,ha.ed];exact Rt.ext h2.en h2.ed
  · generalize hG:((Int.gcd n e:Nat):Int)=G at *
    generalize hH:((Int.gcd m d:Nat):Int)=H at *;have c1:Nat.Coprime (n / G).natAbs (e / G).natAbs:=h1.cop;have c2:Nat.Coprime (m / H).natAbs (d / H).natAbs:=h2.cop;have k1:Nat.Coprime n.natAbs d.natAbs:=ha.cop;have k2:Nat.Coprime m.natAbs e.natAbs:=hb.cop;have d1:(n / G).natAbs ∣ n.natAbs:=Int.natAbs_dvd_natAbs.2 (Int.ediv_dvd_of_dvd g1);have d2:(e / G).natAbs ∣ e.natAbs:=Int.natAbs_dvd_natAbs.2 (Int.ediv_dvd_of_dvd g2);have d3:(m / H).natAbs ∣ m.natAbs:=Int.natAbs_dvd_natAbs.2 (Int.ediv_dvd_of_dvd g3);have d4:(d / H).natAbs ∣ d.natAbs:=Int.natAbs_dvd_natAbs.2 (Int.ediv_dvd_of_dvd g4)
    show Nat.gcd (n / G*(m / H)).natAbs (e / G*(d / H)).natAbs=1
    rw [Int.natAbs_mul,Int.natAbs_mul];have x1:Nat.Coprime (n / G).natAbs (d / H).natAbs:=(k1.coprime_dvd_left d1).coprime_dvd_right d4;have x2:Nat.Coprime (m / H).natAbs (e / G).natAbs:=(k2.coprime_dvd_left d3).coprime_dvd_right d2;exact (Nat.Coprime.mul_right c1 x1).mul_left (Nat.Coprime.mul_right x2 c2)
  obtain ⟨x,hx⟩:=g1;obtain ⟨y,hy⟩:=g2;obtain ⟨z,hz⟩:=g3;obtain ⟨t,ht⟩:=g4
  have p1:0<((Int.gcd n e:Nat):Int):=by have:=Int.gcd_pos_of_ne_zero_right n (show e≠0 by have:=hb.pos;omega);omega
  have p2:0<((Int.gcd m d:Nat):Int):=by have:=Int.gcd_pos_of_ne_zero_right m (show d≠0 by have:=ha.pos;omega);omega
  generalize ((Int.gcd n e:Nat):Int)=G at *;generalize ((Int.gcd m d:Nat):Int)=H at *
  have q1:n / G=x:=by rw [hx];exact Int.mul_ediv_cancel_left _ oo_
  have q2:e / G=y:=by rw [hy];exact Int.mul_ediv_cancel_left _ oo_
  have q3:m / H=z:=by rw [hz];exact Int.mul_ediv_cancel_left _ oo_
  have q4:d / H=t:=by rw [ht];exact Int.mul_ediv_cancel_left _ oo_
  rw [q1,q2,q3,q4,hx,hy,hz,ht];grind
theorem PJ (a b:Rt):eE a b=cG a b:=by
  unfold eE cG;rw [pA,pA,dr_,QC,QC]
  cases hga:aH a<;>cases hgb:aH b<;>simp only [Bool.not_true,Bool.not_false,Bool.or_true,Bool.true_or,Bool.or_false,cond_true,cond_false]
  obtain ⟨n,d,ha⟩:=qK_.1 hga;obtain ⟨m,e,hb⟩:=qK_.1 hgb;obtain ⟨p,q,r,s,e1,e2,hp,hq,hr,hs,q0,s0,hc,_⟩:=UX ha hb;rw [e1,e2];simp only [eD,qV hp hr,qV hq hs]
  by_cases b1:gR (p*r)
  · by_cases b2:gR (q*s)
    · rw [UG b1 b2 (Int.mul_pos q0 s0) hc,dC_ b1,dC_ b2];rfl
    rw [aT_ b2,R3,oj_,Bool.or_true];rfl
  rw [aT_ b1,R2];rfl
def Rt.Vld (a:Rt):Prop:=aH a=true∨a=pR
theorem gp_ {a:Rt} (h:a.Vld):cT (aE (wl 0)) a=a:=by
  have h0:(aE (wl 0)).Is 0 1:=by
    have:aE (wl 0)=⟨E (Z.of 0),E (Z.of 1)⟩:=by
      show cJ (E (Z.of 0)) F_skewbackref04_one=_
      rw [j3_,UG B0 B1 dd_ dd_]
    rw [this];exact ⟨rfl,rfl,B0,B1,by decide,by decide⟩
  unfold cT;rw [qK_.2 ⟨_,_,h0⟩];rcases h with hg|hb
  · obtain ⟨n,d,ha⟩:=qK_.1 hg
    have hd0:=ha.pos;simp only [hg,Bool.not_true,Bool.or_false,cond_false];rw [h0.en,h0.ed,ha.en,ha.ed];simp only [eD];rw [EA B1 ha.hd,Int.gcd_one_left]
    rw [show ((1:Nat):Int)=1 from rfl,HV ha.hd B1 dd_,HV B1 B1 dd_,OG,OG,qV B0 ha.hd,Int.zero_mul,qV ha.hn B1,Int.mul_one,E8 B0 ha.hn,Int.zero_add,qV B1 ha.hd,Int.one_mul,
      UG ha.hn ha.hd ha.pos ha.cop]
    exact Rt.ext ha.en.symm ha.ed.symm
  have hn:aH a=false:=by rw [hb];decide +kernel
  rw [hn];exact hb.symm
theorem lb_ {p q:Int} (hp:gR p) (hq:gR q) (h0:0<q) (hc:Int.gcd p q=1):Rt.Vld ⟨E (Z.of p),E (Z.of q)⟩:=.inl (qK_.2 ⟨p,q,rfl,rfl,hp,hq,h0,hc⟩)
theorem mY_ (a b:Rt):(cG a b).Vld:=by
  unfold cG
  cases hga:aH a<;>cases hgb:aH b<;>simp only [Bool.not_true,Bool.not_false,Bool.or_true,Bool.true_or,Bool.or_false,cond_true,cond_false]<;>try exact .inr O
  obtain ⟨n,d,ha⟩:=qK_.1 hga;obtain ⟨m,e,hb⟩:=qK_.1 hgb;obtain ⟨p,q,r,s,e1,e2,hp,hq,hr,hs,q0,s0,hc,_⟩:=UX ha hb;rw [e1,e2];simp only [eD,qV hp hr,qV hq hs]
  by_cases b1:gR (p*r)
  · by_cases b2:gR (q*s)
    · rw [UG b1 b2 (Int.mul_pos q0 s0) hc];exact lb_ b1 b2 (Int.mul_pos q0 s0) hc
    rw [aT_ b2,R3];exact .inr O
  rw [aT_ b1,R2];exact .inr O
end Go.Num
namespace Go.Proofs.YtkjjponijamaoaaGreatDoor
open Go.Kn Go.Num
theorem JB (a:(A3 W)) :
    Ret Tryz.prog 159 [AV [ci .i64 a.x.1,ci .i64 a.y.1,ci .i64 a.z.1]] (.bool (oG a)):=by
 refine cM (N:=18) Tryz.func159 O O (by simp) (fun w0=>?_);simp only [cS,Nat.reduceAdd];refine Rs fun K J=>bA O (cH O O (fun b1 hb1=>sE O (nl J (Sq fun K1 J1=>Rs fun K J=>sE O (nl J (aJ (v7 5 (fE (fun K2 J2=>Sq fun K3 J3=>Rs fun K J=>sE O (sV (.bool true) O O (nl J (dE O (aG (J3 _ _ (Sq fun K4 J4=>?_)))))))))))))));refine aJ ?_;refine dH [8,9,10,11,12,13,14,15,16,17] (fun g M=>(g 17 = .bool (decide (2305843009213693952≤a.x.1)||decide (a.x.1≤(-2305843009213693952))))∧M=[⟨b1,23,aW [ci .i64 a.x.1,ci .i64 a.y.1,ci .i64 a.z.1]⟩]) (fun K5 J5=>?_) ?_
 ·refine Rk fun K J=>sE O (sQ (qA fX O O O) O (sQ (qC dP O m0 O) O (sE O ?_)));rcases bt (decide (2305843009213693952≤a.x.1)) with h3|h3
  ·refine sB h3 O (aI O (aI O (aI O (aI O (sE O (nl J ?_))))));refine J5 _ _ pp_ ⟨_,s0,?s17,rfl⟩
   case s17=>exact congrArg Value.bool (lT h3)
  refine sB h3 O (sE O (sQ (qA fX O O O) O (sQ (qC dP O m0 O) O (sE O (sE O (nl J ?_))))));refine J5 _ _ pp_ ⟨_,s0,?s17,rfl⟩
  case s17=>exact congrArg Value.bool (iK h3 O)
 rintro g4 M ⟨hg17,rfl⟩;simp only [dQ,hg17];clear hg17;rcases bt (decide (2305843009213693952≤a.x.1)||decide (a.x.1≤(-2305843009213693952))) with h5|h5
 ·refine W_t h5 O (Rs fun K J=>sE O (nl J (aL (aT (aB (aB (aT (aB (cC O (.inr O) O ?_)))))))));exact (by exact congrArg vS2 (show _=(oG a) from bI h5 O))
 refine W_f h5 O (aG (J4 _ _ (Rk fun K J=>sE O (sV (.int .i64 1) O O (sE O (nl J (J2 _ _ (fE (fun K6 J6=>Sq fun K7 J7=>Rs fun K J=>sE O (sV (.bool true) O O (nl J (dE O (aG (J7 _ _ (Sq fun K8 J8=>aJ ?_)))))))))))))));refine dH [8,9,10,11,12,13,14,15,16,17] (fun g M=>(g 17 = .bool (decide (2305843009213693952≤a.y.1)||decide (a.y.1≤(-2305843009213693952))))∧M=[⟨b1,23,aW [ci .i64 a.x.1,ci .i64 a.y.1,ci .i64 a.z.1]⟩]) (fun K9 J9=>?_) ?_
 ·refine Rk fun K J=>sE O (sQ (qA fX O O O) O (sQ (qC dP O m0 O) O (sE O ?_)));rcases bt (decide (2305843009213693952≤a.y.1)) with h7|h7
  ·refine sB h7 O (aI O (aI O (aI O (aI O (sE O (nl J ?_))))));refine J9 _ _ pp_ ⟨_,s0,?s17,rfl⟩
   case s17=>exact congrArg Value.bool (lT h7)
  refine sB h7 O (sE O (sQ (qA fX O O O) O (sQ (qC dP O m0 O) O (sE O (sE O (nl J ?_))))));refine J9 _ _ pp_ ⟨_,s0,?s17,rfl⟩
  case s17=>exact congrArg Value.bool (iK h7 O)
 rintro g8 M ⟨hg17,rfl⟩;simp only [dQ,hg17];clear hg17;rcases bt (decide (2305843009213693952≤a.y.1)||decide (a.y.1≤(-2305843009213693952))) with h9|h9
 ·refine W_t h9 O (Rs fun K J=>sE O (nl J (aL (aT (aB (aB (aT (aB (cC O (.inr O) O ?_)))))))));exact (by exact congrArg vS2 (show _=(oG a) from aM h5 (bI h9 O)))
 refine W_f h9 O (aG (J8 _ _ (Rk fun K J=>sE O (sV (.int .i64 2) O O (sE O (nl J (J6 _ _ (fE (fun K10 J10=>Sq fun K11 J11=>Rs fun K J=>sE O (sV (.bool true) O O (nl J (dE O (aG (J11 _ _ (Sq fun K12 J12=>aJ ?_)))))))))))))));refine dH [8,9,10,11,12,13,14,15,16,17] (fun g M=>(g 17 = .bool (decide (2305843009213693952≤a.z.1)||decide (a.z.1≤(-2305843009213693952))))∧M=[⟨b1,23,aW [ci .i64 a.x.1,ci .i64 a.y.1,ci .i64 a.z.1]⟩]) (fun K13 J13=>?_) ?_
 ·refine Rk fun K J=>sE O (sQ (qA fX O O O) O (sQ (qC dP O m0 O) O (sE O ?_)));rcases bt (decide (2305843009213693952≤a.z.1)) with h11|h11
  ·refine sB h11 O (aI O (aI O (aI O (aI O (sE O (nl J ?_))))));refine J13 _ _ pp_ ⟨_,s0,?s17,rfl⟩
   case s17=>exact congrArg Value.bool (lT h11)
  refine sB h11 O (sE O (sQ (qA fX O O O) O (sQ (qC dP O m0 O) O (sE O (sE O (nl J ?_))))));refine J13 _ _ pp_ ⟨_,s0,?s17,rfl⟩
  case s17=>exact congrArg Value.bool (iK h11 O)
 rintro g12 M ⟨hg17,rfl⟩;simp only [dQ,hg17];clear hg17;rcases bt (decide (2305843009213693952≤a.z.1)||decide (a.z.1≤(-2305843009213693952))) with h13|h13
 ·refine W_t h13 O (Rs fun K J=>sE O (nl J (aL (aT (aB (aB (aT (aB (cC O (.inr O) O ?_)))))))));exact (by exact congrArg vS2 (show _=(oG a) from aM h5 (aM h9 (bI h13 O))))
 refine W_f h13 O (aG (J12 _ _ (Rk fun K J=>sE O (sV (.int .i64 3) O O (sE O (nl J (J10 _ _ (fE (fun K14 J14=>Sq fun K15 J15=>Rs fun K J=>sE O (sV (.bool false) O O (nl J (gJ O (dW (aU (aU (bJ (J1 _ _ (Rs fun K J=>sE O ?_))))))))))))))))));refine nl J (aL (cC O (.inr O) O ?_));exact (by exact congrArg vS2 (show _=(oG a) from aM h5 (aM h9 (aM h13 O))))
theorem FN (a:(A3 I)) :
    Ret Tryz.prog 83 [AV [pI a.x,pI a.y,pI a.z]] (AV [ci .i64 ((((gU a).v).x).1),ci .i64 ((((gU a).v).y).1),ci .i64 ((((gU a).v).z).1),ci .i64 (((gU a).e).1)]):=by
 refine cM (N:=55) Tryz.func83 O O (by simp) (fun w0=>?_);simp only [cS,Nat.reduceAdd];refine Rs fun K J=>bA O (cH O O (fun b1 hb1=>sN MC O fun b2 hb2=>nl J (Rs fun K J=>sC (AV [pI (E (Z.of 0))]) vP (dV (wl 0).1 (wl 0).2) O O O ?_)));refine sN gT O fun b3 hb3=>sS [pI (E (Z.of 0))] aD O O O O O uH O hb3 (nl J (Sq fun K1 J1=>Rs fun K J=>sE O (nl J (aJ (v7 5 (fE (fun K2 J2=>Sq fun K3 J3=>Rs fun K J=>sE O (sV (.bool true) O O (nl J (dE O (aG (J3 _ _ (Sq fun K4 J4=>aJ ?_)))))))))))));refine dr (sd (sk (sk (s0)))) [0,4,8,12,16,21] [5] mix (by kernel_rfl) (fun K J=>pQ O (qL aD O m0 O) (pE O (pQ O (qA D4 O O O) (pQ O (qL aD O m2 O) (pC (AV [pI (E (Z.gcd (Z.of 0) a.x.dec))]) M9 (pK (E (Z.of 0)).1 a.x.1 (E (Z.of 0)).2 a.x.2) O O (cg2 (fun p q=>AV [pI (E (Z.gcd p q))]) (eD _) O) (oS [pI (E (Z.gcd (Z.of 0) a.x.dec))] aD O O O O O O uH O hb3 O (sd s0) (fl J (J4 _ _ (Rk fun K J=>sE O (sV (.int .i64 1) O O (sE O (nl J (J2 _ _ (fE (fun K5 J5=>Sq fun K6 J6=>Rs fun K J=>sE O (sV (.bool true) O O ?_))))))))))))))));refine nl J (dE O (aG (J6 _ _ (Sq fun K7 J7=>aJ (dr (sd (sk (sk (s0)))) [0,4,8,12,16,21] [5] mix (by kernel_rfl) (fun K J=>pQ O (qL aD O m0 O) (pE O (pQ O (qA D4 O O O) (pQ O (qL aD O m2 O) (pC (AV [pI (E (Z.gcd (Z.gcd (Z.of 0) a.x.dec) a.y.dec))]) M9 (pK (E (Z.gcd (Z.of 0) a.x.dec)).1 a.y.1 (E (Z.gcd (Z.of 0) a.x.dec)).2 a.y.2) O O (cg2 (fun p q=>AV [pI (E (Z.gcd p q))]) (eD _) O) (oS [pI (E (Z.gcd (Z.gcd (Z.of 0) a.x.dec) a.y.dec))] aD O O O O O O uH O hb3 O (sd s0) (fl J (J7 _ _ (Rk fun K J=>sE O (sV (.int .i64 2) O O (sE O (nl J ?_)))))))))))))))));refine J5 _ _ (fE (fun K8 J8=>Sq fun K9 J9=>Rs fun K J=>sE O (sV (.bool true) O O (nl J (dE O (aG (J9 _ _ (Sq fun K10 J10=>aJ (dr (sd (sk (sk (s0)))) [0,4,8,12,16,21] [5] mix (by kernel_rfl) (fun K J=>pQ O (qL aD O m0 O) (pE O (pQ O (qA D4 O O O) (pQ O (qL aD O m2 O) (pC (AV [pI (E (Z.gcd (Z.gcd (Z.gcd (Z.of 0) a.x.dec) a.y.dec) a.z.dec))]) M9 (pK (E (Z.gcd (Z.gcd (Z.of 0) a.x.dec) a.y.dec)).1 a.z.1 (E (Z.gcd (Z.gcd (Z.of 0) a.x.dec) a.y.dec)).2 a.z.2) O O (cg2 (fun p q=>AV [pI (E (Z.gcd p q))]) (eD _) O) (oS [pI (E (Z.gcd (Z.gcd (Z.gcd (Z.of 0) a.x.dec) a.y.dec) a.z.dec))] aD O O O O O O uH O hb3 O (sd s0) (fl J ?_))))))))))))))));refine J10 _ _ (Rk fun K J=>sE O (sV (.int .i64 3) O O (sE O (nl J (J8 _ _ (fE (fun K11 J11=>Sq fun K12 J12=>Rs fun K J=>sE O (sV (.bool false) O O (nl J (gJ O (dW (aU (aU (bJ (J1 _ _ (Sq fun K13 J13=>Rs fun K J=>sQ (qF uX O O) O (sQ (qC mF O m0 O) O ?_)))))))))))))))));refine nl J ?_;rcases bt ((E (Z.gcd (Z.gcd (Z.gcd (Z.of 0) a.x.dec) a.y.dec) a.z.dec)).1.bad) with h4|h4
 ·refine W_t h4 O (Rs fun K J=>sQ (dR MC WN O (.cons [ci .i64 30] [ci .i64 0,ci .i64 0,ci .i64 0,ci .i64 30] O O O O (.nil _))) O (sS [ci .i64 0,ci .i64 0,ci .i64 0,ci .i64 30] CM O O O O O (uT uH) O hb2 (nl J (aL (aB (cC O (.inr O) (eP O m1 CM O) ?_))))));exact (by exact congrArg (fun r:Dir=>(AV [ci .i64 r.v.x.1,ci .i64 r.v.y.1,ci .i64 r.v.z.1,ci .i64 r.e.1]:Value)) (show _=(gU a) from bI h4 O))
 refine W_f h4 O (aG (J13 _ _ (Sq fun K14 J14=>Rs fun K J=>sQ (qL aD O m0 O) O (sC (.int .i64 ((Z.signW (Z.gcd (Z.gcd (Z.gcd (Z.of 0) a.x.dec) a.y.dec) a.z.dec)).1)) D7 (j0 (E (Z.gcd (Z.gcd (Z.gcd (Z.of 0) a.x.dec) a.y.dec) a.z.dec)).1 (E (Z.gcd (Z.gcd (Z.gcd (Z.of 0) a.x.dec) a.y.dec) a.z.dec)).2) O O (cg1 (fun p=>Value.int .i64 (Z.signW p).1) (eD _)) (sE O (nl J ?_))))));rcases bt ((Z.signW (Z.gcd (Z.gcd (Z.gcd (Z.of 0) a.x.dec) a.y.dec) a.z.dec)).1==0) with h5|h5
 ·refine W_t h5 O (Rs fun K J=>sQ (dR MC WN O (.cons [ci .i64 31] [ci .i64 0,ci .i64 0,ci .i64 0,ci .i64 31] O O O O (.nil _))) O (sS [ci .i64 0,ci .i64 0,ci .i64 0,ci .i64 31] CM O O O O O (uT uH) O hb2 (nl J (aL (aB (cC O (.inr O) (eP O m1 CM O) ?_))))));exact (by exact congrArg (fun r:Dir=>(AV [ci .i64 r.v.x.1,ci .i64 r.v.y.1,ci .i64 r.v.z.1,ci .i64 r.e.1]:Value)) (show _=(gU a) from aM h4 (bI h5 O)))
 refine W_f h5 O (aG (J14 _ _ (Rs fun K J=>sQ (dR MC WN O (.nil _)) O (sN MC O fun b6 hb6=>sS [ci .i64 0,ci .i64 0,ci .i64 0,ci .i64 0] CM O O O O O uH O hb6 (nl J (Sq fun K15 J15=>Rs fun K J=>sE O (nl J (aJ (v7 5 (fE (fun K16 J16=>Sq fun K17 J17=>Rs fun K J=>sE O (sV (.bool true) O O (nl J ?_)))))))))))));refine dE O (aG (J17 _ _ (Sq fun K18 J18=>aJ (ds (sk (sk (sk (sk (s0))))) [0,4,8,12,16,20,24,28,32,36,40] [] mix (by kernel_rfl) (fun K J=>pE O (pQ O (qA D4 O O O) (pQ O (qL aD O m3 O) (pQ O (qL aD O m1 O) ?_))))))));obtain ⟨r7,hr7⟩:=nm ((E (Z.quo a.x.dec (Z.gcd (Z.gcd (Z.gcd (Z.of 0) a.x.dec) a.y.dec) a.z.dec))):I);refine pC (AV [pI r7]) AN (iL a.x.1 (E (Z.gcd (Z.gcd (Z.gcd (Z.of 0) a.x.dec) a.y.dec) a.z.dec)).1 a.x.2 (E (Z.gcd (Z.gcd (Z.gcd (Z.of 0) a.x.dec) a.y.dec) a.z.dec)).2) O O ((cg2 (fun p q=>AV [pI (E (Z.quo p q))]) O (eD _)).trans (by rw [hr7])) (pC (.tuple #[.int .i64 ((Z.smallW r7.dec).1),.bool r7.dec.small.2]) dT_ (yW r7.1 r7.2) O O O (pE O (pE O (pE O (pE O (pE O (fl J (Sq fun K19 J19=>Rs fun K J=>sE O (sE O (nl J ?_))))))))));rcases bt r7.dec.small.2 with h8|h8
 ·refine W_f (iS h8) O (aG (J19 _ _ (Rk fun K J=>sE O (sE O (sQ (qF OF O O) O (sQ (qA fX O O O) O (sS [ci .i64 ((Z.smallW r7.dec).1)] dP O O O O O uH O hb6 (nl J (J18 _ _ (Rk fun K J=>sE O (sV (.int .i64 1) O O (sE O (nl J (J16 _ _ (fE (fun K20 J20=>Sq fun K21 J21=>Rs fun K J=>?_))))))))))))))));refine sE O (sV (.bool true) O O (nl J (dE O (aG (J21 _ _ (Sq fun K22 J22=>aJ (ds (sk (sk (sk (sk (s0))))) [0,4,8,12,16,20,24,28,32,36,40] [] mix (by kernel_rfl) (fun K J=>pE O (pQ O (qA D4 O O O) (pQ O (qL aD O m3 O) (pQ O (qL aD O m1 O) ?_)))))))))));obtain ⟨r9,hr9⟩:=nm ((E (Z.quo a.y.dec (Z.gcd (Z.gcd (Z.gcd (Z.of 0) a.x.dec) a.y.dec) a.z.dec))):I);refine pC (AV [pI r9]) AN (iL a.y.1 (E (Z.gcd (Z.gcd (Z.gcd (Z.of 0) a.x.dec) a.y.dec) a.z.dec)).1 a.y.2 (E (Z.gcd (Z.gcd (Z.gcd (Z.of 0) a.x.dec) a.y.dec) a.z.dec)).2) O O ((cg2 (fun p q=>AV [pI (E (Z.quo p q))]) O (eD _)).trans (by rw [hr9])) (pC (.tuple #[.int .i64 ((Z.smallW r9.dec).1),.bool r9.dec.small.2]) dT_ (yW r9.1 r9.2) O O O (pE O (pE O (pE O (pE O (pE O (fl J (Sq fun K23 J23=>Rs fun K J=>sE O (sE O (nl J ?_))))))))));rcases bt r9.dec.small.2 with h10|h10
  ·refine W_f (iS h10) O (aG (J23 _ _ (Rk fun K J=>sE O (sE O (sQ (qF OF O O) O (sQ (qA fX O O O) O (sS [ci .i64 ((Z.smallW r9.dec).1)] dP O O O O O uH O hb6 (nl J (J22 _ _ (Rk fun K J=>sE O (sV (.int .i64 2) O O (sE O (nl J (J20 _ _ (fE (fun K24 J24=>Sq fun K25 J25=>Rs fun K J=>?_))))))))))))))));refine sE O (sV (.bool true) O O (nl J (dE O (aG (J25 _ _ (Sq fun K26 J26=>aJ (ds (sk (sk (sk (sk (s0))))) [0,4,8,12,16,20,24,28,32,36,40] [] mix (by kernel_rfl) (fun K J=>pE O (pQ O (qA D4 O O O) (pQ O (qL aD O m3 O) (pQ O (qL aD O m1 O) ?_)))))))))));obtain ⟨r11,hr11⟩:=nm ((E (Z.quo a.z.dec (Z.gcd (Z.gcd (Z.gcd (Z.of 0) a.x.dec) a.y.dec) a.z.dec))):I);refine pC (AV [pI r11]) AN (iL a.z.1 (E (Z.gcd (Z.gcd (Z.gcd (Z.of 0) a.x.dec) a.y.dec) a.z.dec)).1 a.z.2 (E (Z.gcd (Z.gcd (Z.gcd (Z.of 0) a.x.dec) a.y.dec) a.z.dec)).2) O O ((cg2 (fun p q=>AV [pI (E (Z.quo p q))]) O (eD _)).trans (by rw [hr11])) (pC (.tuple #[.int .i64 ((Z.smallW r11.dec).1),.bool r11.dec.small.2]) dT_ (yW r11.1 r11.2) O O O (pE O (pE O (pE O (pE O (pE O (fl J (Sq fun K27 J27=>Rs fun K J=>sE O (sE O (nl J ?_))))))))));rcases bt r11.dec.small.2 with h12|h12
   ·refine W_f (iS h12) O (aG (J27 _ _ (Rk fun K J=>sE O (sE O (sQ (qF OF O O) O (sQ (qA fX O O O) O (sS [ci .i64 ((Z.smallW r11.dec).1)] dP O O O O O uH O hb6 (nl J (J26 _ _ (Rk fun K J=>sE O (sV (.int .i64 3) O O (sE O (nl J (J24 _ _ (fE (fun K28 J28=>Sq fun K29 J29=>Rs fun K J=>?_))))))))))))))));refine sE O (sV (.bool false) O O (nl J (gJ O (dW (aU (aU (bJ (J15 _ _ (Rs fun K J=>sQ (qF OF O O) O (sQ (qL iO O m0 O) O (sQ (bZ oK_ (JB (⟨(Z.smallW r7.dec),(Z.smallW r9.dec),(Z.smallW r11.dec)⟩:(A3 W))) O) O (sE O (nl J (Sq fun K30 J30=>Rs fun K J=>sE O (sE O (nl J ?_))))))))))))))));rcases bt (oG (⟨(Z.smallW r7.dec),(Z.smallW r9.dec),(Z.smallW r11.dec)⟩:(A3 W))) with h13|h13
    ·refine W_f (iS h13) O (aG (J30 _ _ (Rs fun K J=>sQ (qL CM O m0 O) O (sS [ci .i64 ((Z.smallW r7.dec).1),ci .i64 ((Z.smallW r9.dec).1),ci .i64 ((Z.smallW r11.dec).1),ci .i64 0] CM O O O O O (uT (uT uH)) O hb2 (nl J (aL (cC O (.inr O) (eP O m2 CM O) ?_)))))));exact (by subst hr11;subst hr9;subst hr7;exact congrArg (fun r:Dir=>(AV [ci .i64 r.v.x.1,ci .i64 r.v.y.1,ci .i64 r.v.z.1,ci .i64 r.e.1]:Value)) (show _=(gU a) from aM h4 (aM h5 (bI h8 (bI h10 (bI h12 (bI h13 O)))))))
    refine W_t (iT h13) O (Rs fun K J=>sQ (dR MC WN O (.cons [ci .i64 30] [ci .i64 0,ci .i64 0,ci .i64 0,ci .i64 30] O O O O (.nil _))) O (sS [ci .i64 0,ci .i64 0,ci .i64 0,ci .i64 30] CM O O O O O (uT (uT uH)) O hb2 (nl J (aL (aB (cC O (.inr O) (eP O m2 CM O) ?_))))));exact (by subst hr11;subst hr9;subst hr7;exact congrArg (fun r:Dir=>(AV [ci .i64 r.v.x.1,ci .i64 r.v.y.1,ci .i64 r.v.z.1,ci .i64 r.e.1]:Value)) (show _=(gU a) from aM h4 (aM h5 (bI h8 (bI h10 (bI h12 (aM h13 O)))))))
   refine W_t (iT h12) O (Rs fun K J=>sQ (dR MC WN O (.cons [ci .i64 30] [ci .i64 0,ci .i64 0,ci .i64 0,ci .i64 30] O O O O (.nil _))) O (sS [ci .i64 0,ci .i64 0,ci .i64 0,ci .i64 30] CM O O O O O (uT (uT uH)) O hb2 (nl J (aL (aB (aT (aB (aB (aT (aB (cC O (.inr O) (eP O m2 CM O) ?_)))))))))));exact (by subst hr11;subst hr9;subst hr7;exact congrArg (fun r:Dir=>(AV [ci .i64 r.v.x.1,ci .i64 r.v.y.1,ci .i64 r.v.z.1,ci .i64 r.e.1]:Value)) (show _=(gU a) from aM h4 (aM h5 (bI h8 (bI h10 (aM h12 O))))))
  refine W_t (iT h10) O (Rs fun K J=>sQ (dR MC WN O (.cons [ci .i64 30] [ci .i64 0,ci .i64 0,ci .i64 0,ci .i64 30] O O O O (.nil _))) O (sS [ci .i64 0,ci .i64 0,ci .i64 0,ci .i64 30] CM O O O O O (uT (uT uH)) O hb2 (nl J (aL (aB (aT (aB (aB (aT (aB (cC O (.inr O) (eP O m2 CM O) ?_)))))))))));exact (by subst hr9;subst hr7;exact congrArg (fun r:Dir=>(AV [ci .i64 r.v.x.1,ci .i64 r.v.y.1,ci .i64 r.v.z.1,ci .i64 r.e.1]:Value)) (show _=(gU a) from aM h4 (aM h5 (bI h8 (aM h10 O)))))
 refine W_t (iT h8) O (Rs fun K J=>sQ (dR MC WN O (.cons [ci .i64 30] [ci .i64 0,ci .i64 0,ci .i64 0,ci .i64 30] O O O O (.nil _))) O (sS [ci .i64 0,ci .i64 0,ci .i64 0,ci .i64 30] CM O O O O O (uT (uT uH)) O hb2 (nl J (aL (aB (aT (aB (aB (aT (aB (cC O (.inr O) (eP O m2 CM O) ?_)))))))))));exact (by subst hr7;exact congrArg (fun r:Dir=>(AV [ci .i64 r.v.x.1,ci .i64 r.v.y.1,ci .i64 r.v.z.1,ci .i64 r.e.1]:Value)) (show _=(gU a) from aM h4 (aM h5 (aM h8 O))))
theorem JD (a:(A3 Rt)) :
    Ret Tryz.prog 19 [AV [pI a.x.n,pI a.x.d,pI a.y.n,pI a.y.d,pI a.z.n,pI a.z.d]] (.bool (uY a)):=by
 refine cM (N:=16) Tryz.func19 O O (by simp) (fun w0=>?_);simp only [cS,Nat.reduceAdd];refine Rs fun K J=>bA O (cH O O (fun b1 hb1=>sE O (nl J ?_)));refine dH [2,3,4,5,6,7,8,9,10,11,12,13,14,15] (fun g M=>(g 2 = .bool ((oF a.x)&&((oF a.y)&&(oF a.z))))∧M=[⟨b1,35,aW [pI a.x.n,pI a.x.d,pI a.y.n,pI a.y.d,pI a.z.n,pI a.z.d]⟩]) (fun K1 J1=>?_) ?_
 ·refine Rk fun K J=>sQ (qA fC O O O) O (sQ (qL bD O m0 O) O (sQ (bZ i8_ (yY a.x) O) O ?_));rcases bt (oF a.x) with h4|h4
  ·refine sB h4 O (sQ (qA fC O O O) O (sQ (qL bD O m0 O) O (sQ (bZ i8_ (yY a.y) O) O (sE O ?_))));rcases bt (oF a.y) with h5|h5
   ·refine sB h5 O (sQ (qA fC O O O) O (sQ (qL bD O m0 O) O (sQ (bZ i8_ (yY a.z) O) O (sE O (sE O (nl J ?_))))));refine J1 _ _ pp_ ⟨_,s0,?s2,rfl⟩
    case s2=>exact congrArg Value.bool (eB h4 (eB h5 O))
   refine sB h5 O (aI O (aI O (aI O (sE O (sE O (nl J ?_))))));refine J1 _ _ pp_ ⟨_,s0,?s2,rfl⟩
   case s2=>exact congrArg Value.bool (eB h4 (kU h5))
  refine sB h4 O (aI O (aI O (aI O (sE O (sE O (aI O (aI O (aI O (sE O (sE O (nl J ?_)))))))))));refine J1 _ _ pp_ ⟨_,s0,?s2,rfl⟩
  case s2=>exact congrArg Value.bool (kU h4)
 rintro g6 M ⟨hg2,rfl⟩;simp only [dQ,hg2];clear hg2;refine aL (cC O (.inr O) O ?_);exact (by rfl)
theorem CD (a:(A3 Rt)) (b:(A3 Rt)) :
    Ret Tryz.prog 82 [AV [pI a.x.n,pI a.x.d,pI a.y.n,pI a.y.d,pI a.z.n,pI a.z.d],AV [pI b.x.n,pI b.x.d,pI b.y.n,pI b.y.d,pI b.z.n,pI b.z.d]] (AV [pI (((jD a b).x).n),pI (((jD a b).x).d),pI (((jD a b).y).n),pI (((jD a b).y).d),pI (((jD a b).z).n),pI (((jD a b).z).d)]):=by
 refine cM (N:=21) Tryz.func82 O O (by simp) (fun w0=>?_);simp only [cS,Nat.reduceAdd];refine Rs fun K J=>bA O (cH O O (fun b1 hb1=>bA O (cH O O (fun b2 hb2=>sN uW O fun b3 hb3=>nl J (ds (sd (sk (sk (s0)))) [0,4,8,12,16,20,24,28,32,36,40,44,48,52,56,60,65] [16] mix (by kernel_rfl) (fun K J=>pQ O (qA fC O O O) (pQ O (qL bD O m2 O) (pQ O (qA fC O O O) (pQ O (qL bD O m1 O) (pQ O (bZ VJ (vA a.x b.x) O) (pQ O (qA fC O O O) (pQ O (qL bD O m2 O) (pQ O (qA fC O O O) (pQ O (qL bD O m1 O) (pQ O (bZ VJ (vA a.y b.y) O) (pQ O (qA fC O O O) (pQ O (qL bD O m2 O) (pQ O (qA fC O O O) (pQ O (qL bD O m1 O) ?_)))))))))))))))))));refine pQ O (bZ VJ (vA a.z b.z) O) (pQ O (iG uW fC O (.cons [pI ((cO a.x b.x).n),pI ((cO a.x b.x).d)] [pI ((cO a.x b.x).n),pI ((cO a.x b.x).d),pI I0,pI I0,pI I0,pI I0] O O O O (.cons [pI ((cO a.y b.y).n),pI ((cO a.y b.y).d)] [pI ((cO a.x b.x).n),pI ((cO a.x b.x).d),pI ((cO a.y b.y).n),pI ((cO a.y b.y).d),pI I0,pI I0] O O O O (.cons [pI ((cO a.z b.z).n),pI ((cO a.z b.z).d)] [pI ((cO a.x b.x).n),pI ((cO a.x b.x).d),pI ((cO a.y b.y).n),pI ((cO a.y b.y).d),pI ((cO a.z b.z).n),pI ((cO a.z b.z).d)] O O O O (.nil _))))) (oS [pI ((cO a.x b.x).n),pI ((cO a.x b.x).d),pI ((cO a.y b.y).n),pI ((cO a.y b.y).d),pI ((cO a.z b.z).n),pI ((cO a.z b.z).d)] gG O O O O O O uH O hb3 O (sd s0) (fl J (aL (cC O (.inr O) (eP O m0 gG O) ?_)))));exact (by rfl)
theorem JC (a:Rt) (b:(A3 Rt)) :
    Ret Tryz.prog 86 [AV [pI a.n,pI a.d],AV [pI b.x.n,pI b.x.d,pI b.y.n,pI b.y.d,pI b.z.n,pI b.z.d]] (AV [pI (((jE a b).x).n),pI (((jE a b).x).d),pI (((jE a b).y).n),pI (((jE a b).y).d),pI (((jE a b).z).n),pI (((jE a b).z).d)]):=by
 refine cM (N:=18) Tryz.func86 O O (by simp) (fun w0=>?_);simp only [cS,Nat.reduceAdd];refine Rs fun K J=>bA O (cH O O (fun b1 hb1=>bA O (cH O O (fun b2 hb2=>sN uW O fun b3 hb3=>nl J (ds (sd (sk (sk (s0)))) [0,4,8,12,16,20,24,28,32,36,40,44,48,53] [13] mix (by kernel_rfl) (fun K J=>pQ O (qL bD O m2 O) (pQ O (qA fC O O O) (pQ O (qL bD O m1 O) (pQ O (bZ KH (oH a b.x) O) (pQ O (qL bD O m2 O) (pQ O (qA fC O O O) (pQ O (qL bD O m1 O) (pQ O (bZ KH (oH a b.y) O) (pQ O (qL bD O m2 O) (pQ O (qA fC O O O) (pQ O (qL bD O m1 O) (pQ O (bZ KH (oH a b.z) O) (pQ O (iG uW fC O (.cons [pI ((cG a b.x).n),pI ((cG a b.x).d)] [pI ((cG a b.x).n),pI ((cG a b.x).d),pI I0,pI I0,pI I0,pI I0] O O O O (.cons [pI ((cG a b.y).n),pI ((cG a b.y).d)] [pI ((cG a b.x).n),pI ((cG a b.x).d),pI ((cG a b.y).n),pI ((cG a b.y).d),pI I0,pI I0] O O O O (.cons [pI ((cG a b.z).n),pI ((cG a b.z).d)] [pI ((cG a b.x).n),pI ((cG a b.x).d),pI ((cG a b.y).n),pI ((cG a b.y).d),pI ((cG a b.z).n),pI ((cG a b.z).d)] O O O O (.nil _))))) (oS [pI ((cG a b.x).n),pI ((cG a b.x).d),pI ((cG a b.y).n),pI ((cG a b.y).d),pI ((cG a b.z).n),pI ((cG a b.z).d)] gG O O O O O O uH O hb3 O (sd s0) ?_)))))))))))))))))));refine fl J (aL (cC O (.inr O) (eP O m0 gG O) ?_));exact (by rfl)
theorem I9 (a:(A3 Rt)) (b:(A3 Rt)) :
    Ret Tryz.prog 88 [AV [pI a.x.n,pI a.x.d,pI a.y.n,pI a.y.d,pI a.z.n,pI a.z.d],AV [pI b.x.n,pI b.x.d,pI b.y.n,pI b.y.d,pI b.z.n,pI b.z.d]] (AV [pI ((nE a b).n),pI ((nE a b).d)]):=by
 refine cM (N:=25) Tryz.func88 O O (by simp) (fun w0=>?_);simp only [cS,Nat.reduceAdd];refine Rs fun K J=>bA O (cH O O (fun b1 hb1=>bA O (cH O O (fun b2 hb2=>sN oR O fun b3 hb3=>nl J (Rs fun K J=>sQ (qA fC O O O) O (sQ (qL bD O m2 O) O (sQ (qA fC O O O) O (sQ (qL bD O m1 O) O (sQ (bZ KH (oH a.x b.x) O) O (sN oR O fun b4 hb4=>sS [pI ((cG a.x b.x).n),pI ((cG a.x b.x).d)] bD O O O O O uH O hb4 (nl J (ds (sd (sk (sk (sk (s0))))) [0,4,8,12,16,20,24,29] [7] mix (by kernel_rfl) (fun K J=>pQ O (qL bD O m0 O) (pQ O (qA fC O O O) (pQ O (qL bD O m3 O) (pQ O (qA fC O O O) (pQ O (qL bD O m2 O) ?_)))))))))))))))));refine pQ O (bZ KH (oH a.y b.y) O) ?_;obtain ⟨r5,hr5⟩:=nm ((cT (cG a.x b.x) (cG a.y b.y)):Rt);refine pC (AV [pI r5.n,pI r5.d]) PT (rC (cG a.x b.x) (cG a.y b.y)) O O (by rw [hr5];first|done|rfl) (oS [pI r5.n,pI r5.d] bD O O O O O O uH O hb4 O (sd s0) (fl J (ds (sk (sd (sk (sk (s0))))) [0,4,8,12,16,20,24,29] [7] mix (by kernel_rfl) (fun K J=>pQ O (qL bD O m0 O) (pQ O (qA fC O O O) (pQ O (qL bD O m3 O) (pQ O (qA fC O O O) (pQ O (qL bD O m2 O) (pQ O (bZ KH (oH a.z b.z) O) ?_)))))))));obtain ⟨r6,hr6⟩:=nm ((cT r5 (cG a.z b.z)):Rt);refine pC (AV [pI r6.n,pI r6.d]) PT (rC r5 (cG a.z b.z)) O O (by rw [hr6];first|done|rfl) (oS [pI r6.n,pI r6.d] bD O O O O O O (uT uH) O hb3 O (sk (sd s0)) (fl J (aL (cC O (.inr O) (eP O m1 bD O) ?_))));exact (by subst hr6;subst hr5;rfl)
theorem wF (a:Rt) (b:Rt) (c:Rt) (d:Rt) :
    Ret Tryz.prog 172 [AV [pI a.n,pI a.d],AV [pI b.n,pI b.d],AV [pI c.n,pI c.d],AV [pI d.n,pI d.d]] (AV [pI ((k6 a b c d).n),pI ((k6 a b c d).d)]):=by
 refine cM (N:=16) Tryz.func172 O O (by simp) (fun w0=>?_);simp only [cS,Nat.reduceAdd];refine Rs fun K J=>bA O (cH O O (fun b1 hb1=>bA O (cH O O (fun b2 hb2=>bA O (cH O O (fun b3 hb3=>bA O (cH O O (fun b4 hb4=>sN oR O fun b5 hb5=>nl J (ds (sd (sk (sk (sk (sk (s0)))))) [0,4,8,12,16,20,24,29] [7] mix (by kernel_rfl) (fun K J=>pQ O (qL bD O m4 O) (pQ O (qL bD O m3 O) (pQ O (bZ KH (oH a b) O) (pQ O (qL bD O m2 O) (pQ O (qL bD O m1 O) (pQ O (bZ KH (oH c d) O) ?_)))))))))))))));obtain ⟨r6,hr6⟩:=nm ((cO (cG a b) (cG c d)):Rt);refine pC (AV [pI r6.n,pI r6.d]) VJ (vA (cG a b) (cG c d)) O O (by rw [hr6];first|done|rfl) (oS [pI r6.n,pI r6.d] bD O O O O O O uH O hb5 O (sd s0) (fl J (aL (cC O (.inr O) (eP O m0 bD O) ?_))));exact (by subst hr6;rfl)
theorem JA (a:(A3 Rt)) (b:(A3 Rt)) :
    Ret Tryz.prog 96 [AV [pI a.x.n,pI a.x.d,pI a.y.n,pI a.y.d,pI a.z.n,pI a.z.d],AV [pI b.x.n,pI b.x.d,pI b.y.n,pI b.y.d,pI b.z.n,pI b.z.d]] (AV [pI (((j8 a b).x).n),pI (((j8 a b).x).d),pI (((j8 a b).y).n),pI (((j8 a b).y).d),pI (((j8 a b).z).n),pI (((j8 a b).z).d)]):=by
 refine cM (N:=33) Tryz.func96 O O (by simp) (fun w0=>?_);simp only [cS,Nat.reduceAdd];refine Rs fun K J=>bA O (cH O O (fun b1 hb1=>bA O (cH O O (fun b2 hb2=>sN uW O fun b3 hb3=>nl J (ds (sd (sk (sk (s0)))) [0,4,8,12,16,20,24,28,32,36,40,44,48,52,56,60,64,68,72,76,80,84,88,92,96,100,104,108,113] [28] mix (by kernel_rfl) (fun K J=>pQ O (qA fC O O O) (pQ O (qL bD O m2 O) (pQ O (qA fC O O O) (pQ O (qL bD O m1 O) (pQ O (qA fC O O O) (pQ O (qL bD O m2 O) (pQ O (qA fC O O O) (pQ O (qL bD O m1 O) ?_)))))))))))));obtain ⟨r4,hr4⟩:=nm ((k6 a.y b.z a.z b.y):Rt);refine pC (AV [pI r4.n,pI r4.d]) dV_ (wF a.y b.z a.z b.y) O O (by rw [hr4];first|done|rfl) (pQ O (qA fC O O O) (pQ O (qL bD O m2 O) (pQ O (qA fC O O O) (pQ O (qL bD O m1 O) (pQ O (qA fC O O O) (pQ O (qL bD O m2 O) (pQ O (qA fC O O O) (pQ O (qL bD O m1 O) ?_))))))));obtain ⟨r5,hr5⟩:=nm ((k6 a.z b.x a.x b.z):Rt);refine pC (AV [pI r5.n,pI r5.d]) dV_ (wF a.z b.x a.x b.z) O O (by rw [hr5];first|done|rfl) (pQ O (qA fC O O O) (pQ O (qL bD O m2 O) (pQ O (qA fC O O O) (pQ O (qL bD O m1 O) (pQ O (qA fC O O O) (pQ O (qL bD O m2 O) (pQ O (qA fC O O O) (pQ O (qL bD O m1 O) ?_))))))));obtain ⟨r6,hr6⟩:=nm ((k6 a.x b.y a.y b.x):Rt);refine pC (AV [pI r6.n,pI r6.d]) dV_ (wF a.x b.y a.y b.x) O O (by rw [hr6];first|done|rfl) (pQ O (iG uW fC O (.cons [pI r4.n,pI r4.d] [pI r4.n,pI r4.d,pI I0,pI I0,pI I0,pI I0] O O O O (.cons [pI r5.n,pI r5.d] [pI r4.n,pI r4.d,pI r5.n,pI r5.d,pI I0,pI I0] O O O O (.cons [pI r6.n,pI r6.d] [pI r4.n,pI r4.d,pI r5.n,pI r5.d,pI r6.n,pI r6.d] O O O O (.nil _))))) (oS [pI r4.n,pI r4.d,pI r5.n,pI r5.d,pI r6.n,pI r6.d] gG O O O O O O uH O hb3 O (sd s0) (fl J (aL (cC O (.inr O) (eP O m0 gG O) ?_)))));exact (by subst hr6;subst hr5;subst hr4;rfl)
end Go.Proofs.YtkjjponijamaoaaGreatDoor
namespace Go.Num
open Go Go.Kn
theorem X4 {n:Nat} (ns:List Nat) {qs:List Part} (h:qs.map (fun p=>p.n)=ns) (h2:ns.foldr (fun a b=>a+b) 0=n):BC qs=n:=by
  subst h2 h
  induction qs with
  | nil=>rfl
  | cons p ps ih=>show p.n+BC ps=_;rw [ih];rfl
end Go.Num
namespace Go.Proofs.YtkjjponijamaoaaGreatDoor
open Go.Kn Go.Num
theorem rZ (a:I) (b:I) (c:I) :
    Ret Tryz.prog 84 [AV [pI a],AV [pI b],AV [pI c]] (AV [pI (eY a b c)]):=by
 refine cM (N:=12) Tryz.func84 O O (by simp) (fun w0=>?_);simp only [cS,Nat.reduceAdd];refine Rs fun K J=>bA O (cH O O (fun b1 hb1=>bA O (cH O O (fun b2 hb2=>bA O (cH O O (fun b3 hb3=>sN gT O fun b4 hb4=>nl J (ds (sd s0) [0,4,8,12,16,21] [5] mix (by kernel_rfl) (fun K J=>pQ O (qL aD O m3 O) (pQ O (qL aD O m2 O) (pC (AV [pI (E (Z.mul a.dec b.dec))]) z7 (fB a.1 b.1 a.2 b.2) O O O (pQ O (qL aD O m1 O) (pC (AV [pI (E (Z.mul (Z.mul a.dec b.dec) c.dec))]) z7 (fB (E (Z.mul a.dec b.dec)).1 c.1 (E (Z.mul a.dec b.dec)).2 c.2) O O (cg2 (fun p q=>AV [pI (E (Z.mul p q))]) (eD _) O) (oS [pI (E (Z.mul (Z.mul a.dec b.dec) c.dec))] aD O O O O O O uH O hb4 O (sd s0) (fl J (aL (cC O (.inr O) (eP O m0 aD O) ?_))))))))))))))));exact (by rfl)
theorem I7 (a:Rt) :
    Ret Tryz.prog 91 [AV [pI a.n,pI a.d]] (AV [pI (dG a)]):=by
 refine cM (N:=12) Tryz.func91 O O (by simp) (fun w0=>?_);simp only [cS,Nat.reduceAdd];refine Rs fun K J=>bA O (cH O O (fun b1 hb1=>sN gT O fun b2 hb2=>nl J (Sq fun K1 J1=>Rs fun K J=>sQ (qL bD O m1 O) O (sQ (bZ wB (dO a) O) O (sE O (nl J ?_))))));rcases bt (aH a) with h3|h3
 ·refine W_f (iS h3) O (aG (J1 _ _ (Rs fun K J=>sQ (qF jZ O O) O (sQ (qL aD O m1 O) O (sQ (qF fV O O) O (sQ (qL aD O m1 O) O (sC (AV [pI (E (Z.quo a.n.dec a.d.dec))]) AN (iL a.n.1 a.d.1 a.n.2 a.d.2) O O O (sS [pI (E (Z.quo a.n.dec a.d.dec))] aD O O O O O uH O hb2 (nl J (aL (cC O (.inr O) (eP O m0 aD O) ?_)))))))))));exact (by exact congrArg vS4 (show _=(dG a) from bI h3 O))
 refine W_t (iT h3) O (Rs fun K J=>sC (AV [pI (E Z.bad)]) B8 gH O O O (sS [pI (E Z.bad)] aD O O O O O uH O hb2 (nl J (aL (aB (cC O (.inr O) (eP O m0 aD O) ?_))))));exact (by exact congrArg vS4 (show _=(dG a) from aM h3 O))
theorem I6 (k:Nat) (hk:k≤512) (w:World)  :
    Calls Tryz.prog 165 [.int .i64 (k:Int)].toArray w (fun e w'=>∃ v,e = .returned v∧Ext w w'∧Slf w.heap.size w' v (dl (2 ^ k))):=by
 refine CT (N:=16) Tryz.func165 O O (by simp) ?_;obtain ⟨w0,rfl⟩:∃ w0,w0=w:=⟨_,rfl⟩;simp only [cS,Nat.reduceAdd];refine Sq fun K1 J1=>Rk fun K J=>sE O (nl J (J1 _ _ (Sq fun K2 J2=>Rk fun K J=>sE O (sQ (aZ (rA O O dd_) (congrArg (Value.int .i64) (shq 16 dd_ oo_))) O (sQ (aZ (pH O O) (congrArg (Value.int .i64) (rF oo_))) O (bA O (eB_ mG cI_ z_3 O O oo_ (fun b7 hb7=>sE O (nl J (J2 _ _ (Sq fun K3 J3=>Rk fun K J=>sE O (sE O (sQ (aZ (rA O O dd_) (congrArg (Value.int .i64) (shq 16 dd_ oo_))) O (sE O ?_))))))))))))));refine sQ (aZ (w6 O O dd_) (congrArg (Value.int .i64) (shr 16 k))) O (sQ (aZ (LX O O (Int.natCast_nonneg _)) (congrArg (Value.int .i64) (sL_ k))) O (sQ (yV mT O O oo_ oo_) O (bA O (Q1 dP O O uu_ (by simp) (.inl (by assumption)) ?_))));refine nl J (J3 _ _ (Sq fun K4 J4=>Rk fun K J=>sE O (sE O (nl J (J4 _ _ (aL (cC O (.inr O) O ?_)))))))
 (rw [← qb_ k];exact SLf.mine hb7 (.head _) (by simp) (Nat.le_refl _))
theorem KX (a:R) (ha:a.Ok) :
    Ret Tryz.prog 90 [RV a] (RV (Z.sqrt a.dec).enc):=by
 refine cM (N:=40) Tryz.func90 O O (by simp) (fun w0=>?_);simp only [cS,Nat.reduceAdd];refine Sq fun K1 J1=>Rk fun K J=>bA O (qR O O (fun b1 hb1=>bA O (i1 oM (fun b2 hb2=>nl J (J1 _ _ (Sq fun K2 J2=>Sq fun K3 J3=>Rk fun K J=>sQ (eG aD O mm_ (eO ha)) O ?_))))));refine sQ (bZ vE (d9 a ha) O) O (sE O (sE O ?_))
 cases hg:!a.good
 ·refine sQ (eX jC dd_ O) O (sQ (iA (v:=.bool a.neg) mF O mm_ O) O ?_);refine sE O (nl J (J3 _ _ ?_));refine fN _ O (fun hneg=>?_) (fun hneg=>?_)
  ·replace hneg:=cB_ hneg
   refine Sq fun K4 J4=>Rk fun K J=>sQ (bZ B8 gH O) O (bA O (dX aD O O uu_ (aS _) O (dL _) (.inl (by assumption)) ?_));refine nl J (J4 _ _ (aL (aB (cC O (.inr O) ⟨_,_,_,_,_,_,rfl,mm_,aD,_,(gS (aS _)),(aS _),rfl⟩ ?_))))
   (rw [db_ ha (by simpa using hg) (by simpa using hneg)];rfl)
  replace hneg:=cB_ hneg
  refine aG (J2 _ _ (Sq fun K5 J5=>?_));have hl32:(dl (val a.w)).length≤32:=mY (by rw [← SA];exact ZS ha);have hv32:val a.w<65536 ^ (dl (val a.w)).length:=VA _;refine Rk fun K J=>sQ (eG aD O mm_ (eO ha)) O ?_;refine bA O (j9 wN O (fun w hw=>eC a ha w) (fun vd Ld hd=>sE O (nl J (J5 _ _ (Sq fun K6 J6=>Rk fun K J=>sE O (nl J (J6 _ _ (Sq fun K7 J7=>Sq fun K8 J8=>Rk fun K J=>sE O (sQ (vV mT O (SL.sub hd.sl lZ)) O (sE O (sE O (sE O (nl J (J8 _ _ (aJ ?_)))))))))))))));refine eA [4,5,6,7,22,23,24,25,26,27,28,29,30,31,32,33,34,35,36,37] (fun g nn M=>∃ (k root:Nat) (vr:Value) (L:List Blk),(g 4=vr∧g 5 = .int .i64 ((k:Int) - 1))∧M=L++(Ld++[⟨b2,31,zR⟩,⟨b1,31,a.cells⟩])∧nn=k+0∧(k≤8*(dl (val a.w)).length+8∧(root*root≤val a.w∧val a.w<(root+2 ^ k)*(root+2 ^ k))∧SLf w0 L vr (dl root))) (8*(dl (val a.w)).length+8) ?start ?round
  case start =>
   refine ⟨_,(List.Sublist.refl _),8*(dl (val a.w)).length+8,0,_,[],⟨?a4,?a5⟩,?mem0,rfl,⟨Nat.le_refl _,⟨Nat.zero_le _,qv_ hv32⟩,by rw [yJ];exact SLf.none⟩⟩
   case mem0=>rfl
   case a4=>rfl
   case a5=>exact congrArg (Value.int .i64) (kP_ hl32)
  case round =>
   rintro nn g M ⟨k,root,vr,L,⟨hg4,hg5⟩,rfl,hmeas,⟨hk,hI,hr⟩⟩;subst nn;simp only [dQ,hg4,hg5];clear hg4 hg5;refine Sq fun K9 J9=>Sq fun K10 J10=>Rk fun K J=>sE O (sE O (nl J (J10 _ _ ?_)));refine fN _ O (fun hc=>?_) (fun hc=>?_)
   ·replace hc:=cB_ hc
    obtain ⟨m,rfl⟩:∃ m,k=m+1:=⟨k - 1,by omega⟩;have hroot:root<65536 ^ 16:=f1_ hI.1 (ZS ha);have hpow:2 ^ m<65536 ^ 17:=kd_ oo_;have hnext:root+2 ^ m<65536 ^ 18:=kU_ hroot hpow;have hsq:(root+2 ^ m)*(root+2 ^ m)<65536 ^ 36:=mM_ hnext;refine aG (J9 _ _ ?_);refine dH [4,6,7,26,27,28,29,30,31,32,33,34,35,36,37] (fun g M=>∃ (root2:Nat) (vr2:Value) (L2:List Blk),(g 4=vr2)∧M=L2++(Ld++[⟨b2,31,zR⟩,⟨b1,31,a.cells⟩])∧((root2*root2≤val a.w∧val a.w<(root2+2 ^ m)*(root2+2 ^ m))∧SLf w0 L2 vr2 (dl root2))) (fun K11 J11=>?_) ?_
    ·refine aJ (Sq fun K12 J12=>Rk fun K J=>sE O (sQ (aZ (rS O) (congrArg (Value.int .i64) (show ((m+1:Nat):Int) - 1=(m:Int) by omega))) O (bA O (j9 oL_ O (fun w hw=>I6 m oo_ w) (fun vp Lp hp=>bA O (j9 as_ O (fun w hw=>wO vr vp (dl root) (dl (2 ^ m)) (qQ _) (qQ _) (Nat.le_trans (mY hroot) dd_) (Nat.le_trans (mY hpow) dd_) w (SL.sl (hr.sl.sub (.trans lZ (List.sublist_append_right _ _))) hw) (SL.sl (hp.sl.sub lZ) hw)) (fun vn Ln hn=>sE O (nl J ?_))))))));rw [kY,kY] at hn;refine J12 _ _ (Sq fun K13 J13=>Rk fun K J=>sE O (sE O (sE O (bA O (j9 dU_ O (fun w hw=>yX vn vn (dl (root+2 ^ m)) (dl (root+2 ^ m)) (qQ _) (qQ _) (Nat.le_trans (mY hnext) dd_) (Nat.le_trans (mY hnext) dd_) w (SL.sl (hn.sl.sub lZ) hw) (SL.sl (hn.sl.sub lZ) hw)) (fun vt Lt ht=>sQ (dA PU O (fun w hw=>qN vd vt (dl (val a.w)) (dl (dv (dl (root+2 ^ m))*dv (dl (root+2 ^ m)))) (qQ _) (qQ _) oo_ (by rw [kY];exact Nat.le_trans (mY hsq) dd_) w (SL.sl (hd.sl.sub (.trans lZ (.trans (List.sublist_append_right _ _) (.trans (List.sublist_append_right _ _) (.trans (List.sublist_append_right _ _) (List.sublist_append_right _ _)))))) hw) (SL.sl (ht.sl.sub lZ) hw))) O (sE O (nl J (J13 _ _ (Sq fun K14 J14=>Rk fun K J=>sE O (sE O (nl J (J14 _ _ ?_)))))))))))));refine fN _ O (fun hb=>?_) (fun hb=>?_)
     ·replace hb:=cB_ hb
      rw [kY,kY,kY] at hb;refine Rk fun K J=>sE O (sE O (nl J ?_));refine J11 _ _ pp_ ⟨_,(.trans (List.Sublist.append (.refl _) (.trans (List.sublist_append_right _ _) (List.sublist_append_right _ _))) (List.sublist_append_right _ _)),(root+2 ^ m),vn,Ln,?s4,?mem,⟨⟨by omega,qw_ hI.2⟩,hn⟩⟩
      case mem=>rfl
      case s4=>rfl
     replace hb:=cB_ hb
     rw [kY,kY,kY] at hb;refine aG ?_;refine J11 _ _ pp_ ⟨_,(.trans (List.sublist_append_right _ _) (.trans (List.sublist_append_right _ _) (List.sublist_append_right _ _))),root,vr,L,?s4,?mem,⟨⟨hI.1,by omega⟩,hr⟩⟩
     case mem=>rfl
     case s4=>rfl
    rintro g M ⟨root2,vr2,L2,hg4,rfl,⟨hI2,hr2⟩⟩;simp only [dQ,hg4];clear hg4;refine Rk fun K J=>sE O (sE O (sE O (nl J ?_)));refine ⟨pp_,_,_,(List.Sublist.refl _),oo_,m,root2,vr2,L2,⟨?s4,?s5⟩,?mem,rfl,⟨by omega,hI2,hr2⟩⟩
    case mem=>rfl
    case s4=>rfl
    case s5=>exact congrArg (Value.int .i64) ((wi oo_).trans oo_)
   replace hc:=cB_ hc
   obtain rfl:k=0:=by omega
   have hroot:root<65536 ^ 16:=f1_ hI.1 (ZS ha);refine dW (aU (aU (bJ (J7 _ _ (Sq fun K15 J15=>Rk fun K J=>sE O (sQ (aZ (dA BX O (fun w hw=>iE false vr (dl root) (qQ _) (Nat.le_trans (mY hroot) dd_) w (SL.sl (hr.sl.sub lZ) hw))) (congrArg (fun n:Nat=>RV (Z.of (sgn false n)).enc) (kY root))) O (bA O (dX aD O O uu_ (aS _) O (dL _) (.inl (by assumption)) ?_))))))));refine nl J (J15 _ _ (aL (cC O (.inr O) ⟨_,_,_,_,_,_,rfl,mm_,aD,_,(gS (aS _)),(aS _),rfl⟩ ?_)));exact congrArg (fun z:Z=>RV z.enc) (ZH ha (by simpa using hg) (by simpa using hneg) hI.1 (by simpa using hI.2))
 refine aI O (aI O (sE O (nl J (J3 _ _ (dE O (Sq fun K16 J16=>Rk fun K J=>sQ (bZ B8 gH O) O (bA O (dX aD O O uu_ (aS _) O (dL _) (.inl (by assumption)) ?_))))))));refine nl J (J16 _ _ (aL (aB (cC O (.inr O) ⟨_,_,_,_,_,_,rfl,mm_,aD,_,(gS (aS _)),(aS _),rfl⟩ ?_))))
 (rw [da_ (by simpa using hg)];rfl)
end Go.Proofs.YtkjjponijamaoaaGreatDoor
namespace Go.Num
open Go Go.Kn
theorem ZI (a:I):∀ (k:Nat) (m:I),MW a m→Z.nat m.dec<k→vD a k m = .inr (E (Z.sqrt a.dec))
  | 0,m,_,h=>absurd h (Nat.not_lt_zero _)
  | k+1,m,h,hk=>by
    unfold vD
    cases hc:decide (0≤(Z.cmpW (Z.half (Z.add m.dec (Z.quo a.dec m.dec))) m.dec).1) with
    | false=>rw [cond_false];exact ZI a k _ (ZC h) (by have:=c3_ h hc;omega)
    | true =>
      obtain ⟨v,r,ha,hv,hv2,hm,_,_,_,r1,hm2,_,t,e,n1,n2,n3⟩:=UQ h;have hb:=W3
      have t1:(r+v / r) / 2<4294967296 ^ 16:=by omega
      rw [e,hm,b1_ t1 r1] at hc;have hr:=n3 (of_decide_eq_true hc);rw [cond_true,hm2,ha];unfold Z.sqrt;rw [rB (Z.of_some (nB hv2)),decide_eq_false oo_,cond_false,Int.toNat_natCast,← hr]
theorem lo_ (a:I):jH a=E (Z.sqrt a.dec):=by
  unfold jH
  cases h1:(!(rV [a])||a.1.neg) with
  | true =>
    rw [cond_true];rw [ef_,Bool.or_eq_true,Bool.not_eq_true'] at h1
    cases ga:a.1.good with
    | false=>exact congrArg E (da_ ga).symm
    | true =>
      rw [ga] at h1;exact congrArg E (db_ a.2 ga (by simpa using h1)).symm
  | false =>
    rw [cond_false]
    cases h2:((Z.signW a.dec).1==0) with
    | true =>
      rw [cond_true];have h1':=h1;rw [ef_,Bool.or_eq_false_iff,Bool.not_eq_false'] at h1';obtain ⟨ga,hn⟩:=h1';have hz:a.1.dec.sign=0:=beq_iff_eq.1 h2
      have hv:val a.1.w=0:=by
        rcases Nat.eq_zero_or_pos (val a.1.w) with h|h
        · exact h
        · exact absurd hz (fun hz=>by
            unfold Z.sign at hz;rw [fF a.2 ga,hn] at hz;have:=Int.sign_eq_zero_iff_zero.1 hz;have e:sgn false (val a.1.w)=((val a.1.w:Nat):Int):=rfl
            omega)
      have:=ZH (r:=0) a.2 ga hn oo_ oo_
      have e2:a=E (Z.of 0):=by
        have h3:=T9 a.2 ga
        have h4:a.1.dec=Z.of 0:=by
          unfold R.dec;rw [if_pos ga,hn,hv];rfl
        rw [h4] at h3;exact (Subtype.ext h3).symm
      conv=>lhs;rw [e2]
      exact congrArg E this
    | false =>
      rw [cond_false,ZI a _ _ (WX h1 h2) (Nat.lt_succ_self _)];rfl
end Go.Num
