/- Lemmas: what they ask stands in their statements. -/
import Derived.Test.YtkjjponijamaoaaGreatDoorTR
import Derived.Test.YtkjjponijamaoaaGreatDoorTUa
set_option linter.unusedSimpArgs false
set_option linter.unusedVariables false
set_option maxHeartbeats 8000000
set_option maxRecDepth 20000
namespace Go.Kn
open Go.RowKit
section
variable {P:Program} {w0:World} {X:List Nat} {N:Nm} {S:Fr} {M M':List Blk} {d:Option Tmp} {ty:TypeId} {ps:String} {af:Array Edge} {gd:Option (Nat×Bool)}
end
end Go.Kn
namespace Go.Num
open Go Go.Kn
section
variable {P:Program} {w0:World} {X:List Nat} {N:Nm} {S:Fr} {M:List Blk} {d:Option Tmp} {ty:TypeId} {ps:String} {af:Array Edge} {gd:Option (Nat×Bool)}
end
open Go Go.Kn
section
variable {P:Program} {w0:World} {X:List Nat} {N:Nm} {S:Fr} {M:List Blk} {d:Option Tmp} {ty:TypeId} {ps:String} {af:Array Edge} {gd:Option (Nat×Bool)}
end
open Go Go.Kn
theorem iB_ {x y:Int} (hx:-4611686018427387904<x∧x<4611686018427387904) (hy:-4611686018427387904<y∧y<4611686018427387904):IntKind.i64.wrap (x+y)=x+y∧I64 (x+y):=by
  have:I64 (x+y):=by unfold I64;omega
  exact ⟨cO this,this⟩
theorem XB {x:Int} (h:(decide (x<2147483648)&&decide (-2147483648<x))=true):x.natAbs<2147483648:=by simp only [Bool.and_eq_true,decide_eq_true_iff] at h;omega
theorem iC_ {x y:Int} (hx:x.natAbs<2147483648) (hy:y.natAbs<2147483648):IntKind.i64.wrap (x*y)=x*y∧I64 (x*y):=by
  have h:(x*y).natAbs<4611686018427387904:=by
    rw [Int.natAbs_mul]
    calc x.natAbs*y.natAbs≤2147483647*2147483647:=Nat.mul_le_mul (by omega) (by omega)
      _<_:=by decide
  have:I64 (x*y):=by unfold I64;omega
  exact ⟨cO this,this⟩
theorem YY {a b:R} (ha:a.Ok) (hb:b.Ok) (h:kI a=true) (k:kI b=true):Z.of (mK a+mK b)=Z.add a.dec b.dec:=by
  rw [Z.add,eB (oR ha h).1 (oR hb k).1]
theorem ZK {a b:R} (ha:a.Ok) (hb:b.Ok) (h:kI a=true) (k:kI b=true):Z.of (mK a*mK b)=Z.mul a.dec b.dec:=by
  rw [Z.mul,eB (oR ha h).1 (oR hb k).1]
theorem c4_ {a b:R} (ha:a.Ok) (hb:b.Ok) (ga:a.good=true) (gb:b.good=true) (hn:a.neg=b.neg):Z.of (sgn a.neg (val a.w+val b.w))=Z.add a.dec b.dec:=by
  rw [Z.add,eB (dE ha ga) (dE hb gb),← hn,Q9]
theorem fr_ {a b:R} (ha:a.Ok) (hb:b.Ok) (ga:a.good=true) (gb:b.good=true) (hn:a.neg≠b.neg) (hlt:val a.w<val b.w):Z.of (sgn b.neg (val b.w - val a.w))=Z.add a.dec b.dec:=by
  rw [Z.add,eB (dE ha ga) (dE hb gb),Int.add_comm,HW (Ne.symm hn) (by omega)]
theorem fq_ {a b:R} (ha:a.Ok) (hb:b.Ok) (ga:a.good=true) (gb:b.good=true) (hn:a.neg≠b.neg) (hge:¬ val a.w<val b.w):Z.of (sgn a.neg (val a.w - val b.w))=Z.add a.dec b.dec:=by
  rw [Z.add,eB (dE ha ga) (dE hb gb),HW hn (by omega)]
theorem f4_ {a b:R} (ha:a.Ok) (hb:b.Ok) (ga:a.good=true) (gb:b.good=true):Z.of (sgn (a.neg != b.neg) (val a.w*val b.w))=Z.mul a.dec b.dec:=by
  rw [Z.mul,eB (dE ha ga) (dE hb gb),RA]
end Go.Num
namespace Go.Kn
open Go.RowKit
section
variable {P:Program} {w0:World} {X:List Nat} {N:Nm} {S:Fr} {M:List Blk} {d:Option Tmp} {ty:TypeId} {ps:String} {af:Array Edge} {gd:Option (Nat×Bool)}
end
section
variable {P:Program} {w0:World} {X:List Nat} {N:Nm} {S:Fr} {M:List Blk} {d:Option Tmp} {ty:TypeId} {ps:String} {af:Array Edge} {gd:Option (Nat×Bool)}
end
section
variable {P:Program} {w0:World} {X:List Nat} {N:Nm} {S:Fr} {M:List Blk} {Q:sY}
variable {d:Option Tmp} {ty:TypeId} {ps:String} {af:Array Edge} {gd:Option (Nat×Bool)}
end
section
variable {P:Program} {w0:World} {X:List Nat} {N:Nm} {Q:sY} {S:Fr} {M:List Blk} {c:Code}
end
open Go.RowKit
section rows
variable {α:Type} {e:El α}
end rows
section
variable {α:Type} {e:El α} {P:Program} {w0:World} {X:List Nat} {N:Nm} {S:Fr} {M M':List Blk} {d:Option Tmp} {ty:TypeId} {ps:String} {af:Array Edge} {gd:Option (Nat×Bool)} {v:Value} {l:List α}
end
open Go.RowKit
section
variable {P:Program} {w0:World} {X:List Nat} {N:Nm} {S:Fr} {M:List Blk} {d:Option Tmp} {ty:TypeId} {ps:String} {af:Array Edge} {gd:Option (Nat×Bool)}
end
open Go.RowKit
section
variable {α:Type} {e:El α} {P:Program} {w0:World} {X:List Nat} {N:Nm} {S:Fr} {M:List Blk} {d:Option Tmp} {ty:TypeId} {ps:String} {af:Array Edge} {gd:Option (Nat×Bool)} {v:Value} {l:List α}
end
section
variable {α:Type} {e:El α} {w0:World} {X:List Nat} {M:List Blk} {v:Value} {l:List α}
end
open Go.RowKit
section
variable {P:Program} {w0:World} {X:List Nat} {S:Fr} {M:List Blk} {d:Option Tmp} {ty:TypeId} {p:String} {af:Array Edge} {gd:Option (Nat×Bool)}
end
end Go.Kn
namespace Go.Num
open Go Go.Kn
theorem al_ {a b:Z} (h:E a=E b):a=b:=by rw [← dB a,← dB b,h]
theorem fJ_ {n m k:Nat} (hn:n<65536 ^ k):n - m<65536 ^ k:=Nat.lt_of_le_of_lt (Nat.sub_le _ _) hn
theorem if_ {n m i k:Nat} (hn:n<65536 ^ i) (hm:m<65536 ^ k):n*m<65536 ^ (i+k):=by rw [Nat.pow_add];exact Nat.mul_lt_mul_of_lt_of_lt hn hm
end Go.Num
namespace Go.Kn
open Go
section
variable {P:Program} {w0:World} {X:List Nat} {N:Nm} {Q:sY} {S:Fr} {M:List Blk} {c:Code}
end
end Go.Kn
namespace Go.Num
open Go Go.Kn
def cf:Nat→W→I→I→I→I→W
  | 0,o,_,_,_,_=>o
  | k+1,o,a,b,c,d =>
    bif ((Z.cmpW (Z.quo a.dec b.dec) (Z.quo c.dec d.dec)).1 != 0) then W.mul o (Z.cmpW (Z.quo a.dec b.dec) (Z.quo c.dec d.dec))
    else bif (((Z.signW (Z.rem a.dec b.dec)).1==0)||((Z.signW (Z.rem c.dec d.dec)).1==0)) then W.mul o (W.sub (Z.signW (Z.rem a.dec b.dec)) (Z.signW (Z.rem c.dec d.dec)))
    else cf k (W.neg o) b (E (Z.rem a.dec b.dec)) d (E (Z.rem c.dec d.dec))
def cfN (b:I):Nat:=match b.dec.o with|some v=>v.toNat|none=>0
def cfP (n:Nat) (b:I):Prop:=∃ v:Int,b.dec.o=some v∧0<v∧v.toNat≤n
theorem OJ {b:I} (h:0<(Z.signW b.dec).1):cfP (cfN b) b:=by
  have h:0<b.dec.sign:=h;unfold Z.sign at h
  cases ho:b.dec.o with
  | none=>rw [ho] at h;exact absurd h (by decide)
  | some v=>rw [ho] at h;exact ⟨v,ho,Int.sign_pos_iff.1 h,by unfold cfN;rw [ho];exact Nat.le_refl _⟩
theorem SC {n:Nat} {b:I} (h:cfP n b):∃ m,n=m+1:=by
  obtain ⟨v,_,h1,h2⟩:=h;exact ⟨n - 1,by omega⟩
theorem gX_ {k:Nat} {o r:W} {a b c d:I} (h:cf (k+1) o a b c d=r) (h1:((Z.cmpW (Z.quo a.dec b.dec) (Z.quo c.dec d.dec)).1 != 0)=true):W.mul o (Z.cmpW (Z.quo a.dec b.dec) (Z.quo c.dec d.dec))=r:=by
  rw [cf,h1] at h;exact h
theorem fA_ {k:Nat} {o r:W} {a b c d:I} (h:cf (k+1) o a b c d=r) (h1:((Z.cmpW (Z.quo a.dec b.dec) (Z.quo c.dec d.dec)).1 != 0)=false)
    (h2:(((Z.signW (Z.rem a.dec b.dec)).1==0)||((Z.signW (Z.rem c.dec d.dec)).1==0))=true):W.mul o (W.sub (Z.signW (Z.rem a.dec b.dec)) (Z.signW (Z.rem c.dec d.dec)))=r:=by
  rw [cf,h1,h2] at h;exact h
theorem fz_ {k:Nat} {o r:W} {a b c d:I} (h:cf (k+1) o a b c d=r∧cfP (k+1) b) (h1:((Z.cmpW (Z.quo a.dec b.dec) (Z.quo c.dec d.dec)).1 != 0)=false)
    (h2:(((Z.signW (Z.rem a.dec b.dec)).1==0)||((Z.signW (Z.rem c.dec d.dec)).1==0))=false):cf k (W.neg o) b (E (Z.rem a.dec b.dec)) d (E (Z.rem c.dec d.dec))=r∧cfP k (E (Z.rem a.dec b.dec)):=by
  obtain ⟨h,v,hv,h0,hk⟩:=h;rw [cf,h1,h2] at h;refine ⟨h,?_⟩;rw [Bool.or_eq_false_iff] at h2
  have h3:(Z.rem a.dec b.dec).sign≠0:=fun h=>by have:=h2.1;rw [show (Z.signW (Z.rem a.dec b.dec)).1=(Z.rem a.dec b.dec).sign from rfl,h] at this;exact absurd this (by decide)
  cases ha:a.dec.o with
  | none=>rw [Z.rem,oU (.inl ha)] at h3;exact absurd rfl h3
  | some u =>
    have hr:Z.rem a.dec b.dec=Z.of (u.fmod v):=by rw [Z.rem,eB ha hv,if_neg (by omega)]
    have h4:0≤u.fmod v:=Int.fmod_nonneg_of_pos _ h0;have h5:u.fmod v<v:=Int.fmod_lt_of_pos _ h0;have h6:(u.fmod v).natAbs<4294967296 ^ 16:=Nat.lt_of_le_of_lt (by omega) (b.dec.h v hv);refine ⟨u.fmod v,?_,?_,by omega⟩
    · rw [dB,hr,Z.of_some h6]
    have h8:u.fmod v≠0:=fun h7=>h3 (by rw [hr,h7];rfl);omega
open Go
theorem db_ (n k:Nat):(((dg n (k / 16):Nat):Int).fdiv (2 ^ (min (((k % 16:Nat):Int)).toNat IntKind.i64.bits))).tmod 2=((n / 2 ^ k % 2:Nat):Int):=by
  have h1:(((k % 16:Nat):Int)).toNat=k % 16:=Int.toNat_natCast _;have h2:k % 16<16:=Nat.mod_lt _ (by decide);have h3:min (k % 16) IntKind.i64.bits=k % 16:=Nat.min_eq_left (by show k % 16≤64;omega);rw [h1,h3]
  have h5:((2:Int) ^ (k % 16))=((2 ^ (k % 16):Nat):Int):=by simp
  rw [h5,Int.fdiv_eq_ediv_of_nonneg _ (Int.natCast_nonneg _),← Int.natCast_ediv,Int.tmod_eq_emod_of_nonneg (Int.natCast_nonneg _)];rw [show (2:Int)=((2:Nat):Int) from rfl,← Int.natCast_emod]
  congr 1
  unfold dg
  have hk:(2:Nat) ^ k=65536 ^ (k / 16)*2 ^ (k % 16):=by
    rw [show (65536:Nat)=2 ^ 16 from rfl,← Nat.pow_mul,← Nat.pow_add];congr 1;omega
  rw [hk,← Nat.div_div_eq_div_mul];generalize n / 65536 ^ (k / 16)=x
  have h6:(65536:Nat)=2 ^ (k % 16)*(2*2 ^ (15 - k % 16)):=by
    rw [← Nat.pow_succ',← Nat.pow_add,show (65536:Nat)=2 ^ 16 from rfl];congr 1;omega
  rw [h6,Nat.mod_mul_right_div_self,Nat.mod_mul_right_mod]
theorem YZ {n m:Nat} (h:n<2 ^ (m+1)) (h0:n / 2 ^ m % 2=0):n<2 ^ m:=by
  have h1:n / 2 ^ m<2:=by rw [Nat.div_lt_iff_lt_mul (Nat.pow_pos (by decide)),Nat.mul_comm,← Nat.pow_succ];exact h
  have h2:n / 2 ^ m=0:=by generalize n / 2 ^ m=q at *;omega
  rcases Nat.div_eq_zero_iff.1 h2 with h3|h3
  · exact absurd h3 (by have:=Nat.pow_pos (n:=m) (show 0<2 by decide);omega)
  exact h3
theorem de_ {n m:Nat} (h:n<2 ^ (m+1)) (h0:n / 2 ^ m % 2≠0):bl n=m+1:=by
  refine ex_ h (.inr ?_);rw [Nat.add_sub_cancel];rcases Nat.lt_or_ge n (2 ^ m) with h1|h1
  · rw [Nat.div_eq_of_lt h1] at h0;exact absurd rfl h0
  exact h1
theorem U1 (n:Nat):n<2 ^ (16*(dl n).length):=by
  have:=OP n;rw [Nat.pow_mul];exact this
theorem ho_ {n:Nat} (h:n≤200):IntKind.i64.wrap (16*(n:Int))=((16*n:Nat):Int):=by
  rw [wi (by omega)];omega
theorem aP_ {a:R} (h:a.good=false):a.dec.bits=0:=by
  unfold R.dec;rw [if_neg (by simp [h])];rfl
theorem dc_ {a:R} (ha:a.Ok) (ga:a.good=true) {k:Nat} (h:val a.w<2 ^ k) (h0:k=0):a.dec.bits=k:=by
  subst h0;rw [BY ha ga]
  have:val a.w=0:=by simpa using h
  rw [this];rfl
end Go.Num
namespace Go.Kn
open Go.RowKit
section
variable {P:Program} {w0:World} {X:List Nat} {N:Nm} {S:Fr} {M:List Blk}
variable {ops:List Oper} {Q:Fr→List Blk→Prop} {o:Oper} {l:List Oper} {v v':Value} {d:Tmp} {b c:Bool} {nw:List Nat} {MD:List Blk} {i:Nat} {ws:List Nat} {r:Plan}
section
variable {g:FuncId} {xs:List Operand} {tys:Array TypeId} {args:List Value} {ty:TypeId} {ps:String} {af:Array Edge} {gd:Option (Nat×Bool)}
end
end
section
variable {P:Program} {w0:World} {X:List Nat} {N:Nm} {S:Fr} {M:List Blk} {d:Option Tmp} {ty:TypeId} {ps:String} {af:Array Edge} {gd:Option (Nat×Bool)}
end
section
variable {P:Program} {w0:World} {X:List Nat} {N:Nm} {S:Fr} {M:List Blk} {Q:sY}
end
section
variable {P:Program} {w0:World} {X:List Nat} {N:Nm} {S:Fr} {M:List Blk} {Q:sY}
end
section
variable {α:Type} {e:El α} {w0 w:World} {X:List Nat} {M M' L:List Blk} {v:Value} {l:List α} {E:TypeId}
end
open Go.RowKit
section
variable {P:Program} {T f:Nat}
end
section
variable {P:Program} {w0:World} {X:List Nat} {N:Nm} {S:Fr} {M MD:List Blk} {Q:sY} {x y c:Code} {id n:Nat} {ops:List Oper} {nw:List Nat} {p:Plan}
variable {Qf:Fr→List Blk→Prop} {l:List Oper} {d:Option Tmp} {dd:Tmp} {ty:TypeId} {ps:String} {af:Array Edge} {gd:Option (Nat×Bool)} {T U:TypeId} {xo yo:Operand} {v:Value}
end
section
variable {P:Program} {w0:World} {X:List Nat} {N:Nm} {S:Fr} {M MD:List Blk} {Q:sY} {Qf:Fr→List Blk→Prop} {c:Code} {ops l:List Oper} {nw:List Nat} {p:Plan} {d:Option Tmp} {ty:TypeId} {ps:String} {af:Array Edge} {gd:Option (Nat×Bool)} {T:TypeId} {x y:Operand} {f:Nat}
end
theorem hg_ {A B:Prop} (k:B) (h:Hid B→A:=by intro hk;(iterate 22 refine go_ ?_);exact hk.h):A:=h ⟨k⟩
theorem hh_ {A B:Prop} (k:B) (h:Hid B→A:=by intro hk;(iterate 26 refine go_ ?_);exact hk.h):A:=h ⟨k⟩
theorem ik_ {A B:Prop} (k:B) (h:Hid B→A:=by intro hk;(iterate 31 refine go_ ?_);exact hk.h):A:=h ⟨k⟩
end Go.Kn
namespace Go.Num
open Go Go.Kn Go.RowKit Go.ChangeShapes Go.WideShapes
section
variable {H:Type} {enc:TypeId×Value→H} {P:Program} {w:World} {base:Nat} {spare:Nat→Bool} {held:Bool}
end
open Go Go.Kn Go.RowKit
end Go.Num
namespace Go.Kn
open Go
section
variable {α:Type} {e:El α} {P:Program} {w0:World} {X:List Nat} {N:Nm} {S:Fr} {M M':List Blk} {d:Option Tmp} {ty:TypeId} {ps:String} {af:Array Edge} {gd:Option (Nat×Bool)} {v:Value} {l:List α}
theorem SLe.full {p:Option Addr} {n c:Nat} (h:SLe w0 X M e (.slice p n c) l) (h0:0<n∨c=0):SLe w0 X M e (.slice p n n) l:=fun w hw=>by
  obtain ⟨p',c',hq,hc,hm,hp⟩:=h w hw
  cases hq
  refine ⟨p,l.length,rfl,Nat.le_refl _,by omega,?_⟩;rcases hp with ⟨rfl,rfl,rfl⟩|⟨a,rfl,hr⟩
  · exact .inl ⟨rfl,rfl,rfl⟩
  exact .inr ⟨a,rfl,hr⟩
end
end Go.Kn
namespace Go.Num
open Go Go.Kn
def l9 (a:I) (b:I):I :=
  bif ((kI a.1)&&(kI b.1)) then ((E (Z.of (W.add (fI a) (fI b)).1))) else (bif (!a.1.good||(!b.1.good)) then ((E Z.bad)) else (bif (a.1.neg==b.1.neg) then ((E (Z.of (sgn a.1.neg ((val a.1.w)+(val b.1.w)))))) else (bif decide ((val a.1.w)<(val b.1.w)) then ((E (Z.of (sgn b.1.neg ((val b.1.w) - (val a.1.w)))))) else ((E (Z.of (sgn a.1.neg ((val a.1.w) - (val b.1.w)))))))))
def oT (a:I) (b:I):I :=
  bif ((kI a.1)&&((kI b.1)&&((decide ((fI a).1<2147483648)&&decide (-2147483648<(fI a).1))&&(decide ((fI b).1<2147483648)&&decide (-2147483648<(fI b).1))))) then ((E (Z.of (W.mul (fI a) (fI b)).1))) else (bif (!a.1.good||(!b.1.good)) then ((E Z.bad)) else ((E (Z.of (sgn (a.1.neg != b.1.neg) ((val a.1.w)*(val b.1.w)))))))
def iI (a:Rt):Rt :=
  bif (aG a) then ((⟨(E (Z.neg a.n.dec)),a.d⟩:Rt)) else (lB)
def dP (a:Rt) (b:Rt):Rt :=
  bif (!(aG a)||(!(aG b))) then (lB) else (let r11:I:=(E (Z.add (Z.mul a.n.dec (Z.quo b.d.dec (Z.gcd a.d.dec b.d.dec))) (Z.mul b.n.dec (Z.quo a.d.dec (Z.gcd a.d.dec b.d.dec)))))
  let r12:Rt:=(bH r11 (E (Z.mul (Z.quo a.d.dec (Z.gcd a.d.dec b.d.dec)) b.d.dec)))
  r12)
def dC (a:Rt) (b:Rt):Rt :=
  let r4:Rt:=(dP a (iI b))
  r4
def fO (a:Rt) (b:Rt):Rt :=
  bif (!(aG a)||(!(aG b))) then (lB) else (let r10:I:=(E (Z.mul ((bH a.n b.d).n).dec ((bH b.n a.d).n).dec))
  let r12:I:=(E (Z.mul ((bH a.n b.d).d).dec ((bH b.n a.d).d).dec))
  (bH r10 r12))
def uI (a:(A3 Rt)) (b:(A3 Rt)):(A3 Rt) :=
  (⟨(dC a.x b.x),(dC a.y b.y),(dC a.z b.z)⟩:(A3 Rt))
def uG (a:(A3 Rt)) (b:(A3 Rt)):Rt :=
  let r5:Rt:=(dP (fO a.x b.x) (fO a.y b.y))
  let r6:Rt:=(dP r5 (fO a.z b.z))
  r6
def jL (a:Rt) (b:Rt):W :=
  bif (!(aT a)&&(!(aT b))) then ((wl 0)) else (bif (aT a) then (bif (aT b) then ((cf (cfN a.d) (wl 1) a.n a.d b.n b.d)) else ((wl 1))) else ((wl (-1))))
def iZ (p:(List I)) (x:Rt):Rt :=
  let r3:Rt:=(cX ((iE p x).1) ((iE p x).2))
  r3
def jW (n:I) (k:Int):Nat→Nat→I→Nat×I
  | 0,i,mb3=>(i,mb3)
  | k0+1,i,mb3=>bif decide (((i:Nat):Int)<k) then ((jW n k k0 (i+1) (E (Z.mul mb3.dec n.dec)))) else ((i,mb3))
def iV (n:I) (k:Int):I :=
  ap (fun (s:Nat×I)=>let i:Nat:=s.1
  let mb3:I:=s.2
  mb3) (jW n k ((k.toNat+1)) 0 (E (Z.of 1)))
def eU (a:Rt):Bool :=
  bif (!(gZ a.n)||(!(gZ a.d)||decide ((Z.signW a.d.dec).1≤0))) then (false) else ((decide ((E (Z.gcd a.n.dec a.d.dec))=(E (Z.of 1)))))
def jY (p:(List I)) (x:Rt):Nat→Int→I→Int×I
  | 0,i,mb7=>(i,mb7)
  | k0+1,i,mb7=>bif decide (0≤i) then (let r12:I:=(E (Z.mul (p.getD ((i).toNat) I0).dec (iV x.d (((((p).length:Nat):Int) - 1) - i)).dec))
  (jY p x k0 (i - 1) (E (Z.add (Z.mul mb7.dec x.n.dec) r12.dec)))) else ((i,mb7))
def eX (p:(List I)) (x:Rt):I :=
  bif ((bG p)||(!(eU x))) then ((E Z.bad)) else (ap (fun (s:Int×I)=>let i:Int:=s.1
  let mb7:I:=s.2
  mb7) (jY p x ((p.length+1)) ((((p).length:Nat):Int) - 1) I0))
def aZ (p:(List I)) (x:Rt):Sgd :=
  bif (eX p x).1.bad then ((⟨(wl 0),false⟩:Sgd)) else ((⟨(Z.signW (eX p x).dec),true⟩:Sgd))
def sD (a:Rt):W :=
  bif (aT a) then ((Z.signW a.n.dec)) else ((wl 0))
def nY (a:Rt) (b:Rt):Rt :=
  bif (aT b) then (let r5:Rt:=(dG a (cX b.d b.n))
  r5) else (uY)
def rU (h:Path) (v:(A3 W)) (t:Rt):(A3 Rt) :=
  let r27:Rt:=(iZ (((bB h v).1).x) t)
  let r28:Rt:=(iZ ((bB h v).2) t)
  let r29:Rt:=(iZ (((bB h v).1).y) t)
  let r30:Rt:=(iZ ((bB h v).2) t)
  let r31:Rt:=(iZ (((bB h v).1).z) t)
  let r32:Rt:=(iZ ((bB h v).2) t)
  (⟨(nY r27 r28),(nY r29 r30),(nY r31 r32)⟩:(A3 Rt))
def gC (h:Path) (u:(A3 W)) (b:(A3 Rt)) (m:Rt) (l:(List Rt)):List Rt→Rt→(Rt) ⊕ (Bool)
  | [],mb20=>.inl mb20
  | x0::l0,mb20=>bif (!(aT x0)||decide ((jL x0 mb20).1≤0)) then (.inr (false)) else (bif (!((fC ((cE h u b m).1) mb20 x0).1)||(((fC ((cE h u b m).1) mb20 x0).2).1 != 0)) then (.inr (false)) else ((gC h u b m l l0 x0)))
def kQ (h:Path) (u:(A3 W)) (b:(A3 Rt)) (m:Rt) (l:(List Rt)):Bool :=
  bif ((((cE h u b m).2).1 != 0)||(((((l).length:Nat):Int)==0)||(decide (4096<(((l).length:Nat):Int))||(!(decide (((l.getD ((l).length - 1) Rt0).n)=((bR (wl 1)).n))&&decide (((l.getD ((l).length - 1) Rt0).d)=((bR (wl 1)).d))))))) then (false) else (sm (fun (s:Rt)=>let mb20:Rt:=s
  true) (fun r=>r) (gC h u b m l l (bR (wl 0))))
def n5 (a:(List I)) (b:Rt):W :=
  bif (aZ a b).ok then ((aZ a b).s) else ((wl 2))
def dF (x:Rt) (b:W):Bool :=
  ((aG x)&&(decide ((Z.bitsW x.n.dec).1≤b.1)&&decide ((Z.bitsW x.d.dec).1≤b.1)))
def gH (v:(A3 Rt)) (b:W):Bool :=
  bif (dF v.x b) then (bif (dF v.y b) then (bif (dF v.z b) then (true) else (false)) else (false)) else (false)
def fN (a:Path) (b:(A3 W)):Bool :=
  bif ((cM a).1 != 0) then (false) else (bif (decide (1048576<(W.max (W.max (W.max a.from_.x.x (W.neg a.from_.x.x)) a.to_.x.x) (W.neg a.to_.x.x)).1)||(decide (1024<b.x.1)||decide (b.x.1<(-1024)))) then (false) else (bif (decide (1048576<(W.max (W.max (W.max a.from_.x.y (W.neg a.from_.x.y)) a.to_.x.y) (W.neg a.to_.x.y)).1)||(decide (1024<b.y.1)||decide (b.y.1<(-1024)))) then (false) else (bif (decide (1048576<(W.max (W.max (W.max a.from_.x.z (W.neg a.from_.x.z)) a.to_.x.z) (W.neg a.to_.x.z)).1)||(decide (1024<b.z.1)||decide (b.z.1<(-1024)))) then (false) else (true))))
def kG (a:Path) (b:(A3 W)) (c:(A3 Rt)) (d:Rt) (e:Rt):W :=
  let r6:(A3 Rt):=(rU a b e)
  let r7:(A3 Rt):=(jS r6 c)
  (jL (pT r7 r7) d)
def nA (h:Path) (u:(A3 W)) (b:(A3 Rt)) (m:Rt) (l:(List Rt)) (t:Rt):Bool :=
  bif (!(fN h u)||(!(gH b (wl 16))||(!(dF m (wl 48))||(!(dF t (wl 16))||(decide ((sD t).1<0)||(decide (0<(jL t (bR (wl 1))).1)||decide (40<(((l).length:Nat):Int)))))))) then (F_skewbacklaw26_sanity) else ((F_skewbacklaw26_sanity&&((((cE h u b m).2).1==0)&&(((n5 ((cE h u b m).1) t).1==(W.neg (kG h u b m t)).1)&&(decide ((kG h u b m t).1≤0)||(!(kQ h u b m l)))))))
end Go.Num
namespace Go.Proofs.YtkjjponijamaoaaGreatDoor
open Go.Kn Go.Num Tryz
attribute [local irreducible] Go.Kn.W WL PL OpQ OpR OpS
theorem xN (n:Int) :
    Ret prog 170 [.int .i64 n] (.bool (decide (n<2147483648)&&decide (-2147483648<n))):=by
 refine bL (N:=9) func170 rfl rfl (by simp) (fun w0=>?_);simp only [bO,Nat.reduceAdd];refine go7 ?_
 cases h1:decide (n<2147483648)
 ·refine go6 ?_;refine bA rfl (.inr rfl) rfl ?_
  simp [*]
 refine go6 ?_;refine bA rfl (.inr rfl) rfl ?_
 simp [*]
end Go.Proofs.YtkjjponijamaoaaGreatDoor
namespace Go.Num
open Go Go.Kn
theorem gV_ {a b:I} (h:(!a.1.good||(!b.1.good))=true):a.1.dec.o=none∨b.1.dec.o=none:=by
  cases ha:a.1.good
  · exact .inl (JN ha)
  · cases hb:b.1.good
    · exact .inr (JN hb)
    rw [ha,hb] at h;cases h
theorem bl_ {a b:I} (h:(!a.1.good||(!b.1.good))=false):a.1.good=true∧b.1.good=true:=by
  cases ha:a.1.good<;>cases hb:b.1.good<;>rw [ha,hb] at h<;>first|exact ⟨rfl,rfl⟩|cases h
theorem CW (a b:I):l9 a b=E (Z.add a.dec b.dec):=by
  unfold l9
  show _=E (Z.add a.1.dec b.1.dec)
  cases hw:(kI a.1&&kI b.1)
  · rw [cond_false]
    cases hg:(!a.1.good||(!b.1.good))
    · obtain ⟨ga,gb⟩:=bl_ hg
      rw [cond_false]
      cases hn:(a.1.neg==b.1.neg)
      · rw [cond_false]
        have hn':a.1.neg≠b.1.neg:=by simpa using hn
        cases hl:decide (val a.1.w<val b.1.w)
        · rw [cond_false,fq_ a.2 b.2 ga gb hn' (of_decide_eq_false hl)]
        rw [cond_true,fr_ a.2 b.2 ga gb hn' (of_decide_eq_true hl)]
      rw [cond_true,c4_ a.2 b.2 ga gb (by simpa using hn)]
    rw [cond_true,Z.add,oU (gV_ hg)]
  rw [cond_true];rw [Bool.and_eq_true] at hw
  show E (Z.of (IntKind.i64.wrap (mK a.1+mK b.1)))=_
  rw [(iB_ (oR a.2 hw.1).2.2.2 (oR b.2 hw.2).2.2.2).1,YY a.2 b.2 hw.1 hw.2]
theorem CY (a b:I):oT a b=E (Z.mul a.dec b.dec):=by
  unfold oT
  show _=E (Z.mul a.1.dec b.1.dec)
  cases hw:(kI a.1&&(kI b.1&&((decide ((fI a).1<2147483648)&&decide (-2147483648<(fI a).1))&&(decide ((fI b).1<2147483648)&&decide (-2147483648<(fI b).1)))))
  · rw [cond_false]
    cases hg:(!a.1.good||(!b.1.good))
    · obtain ⟨ga,gb⟩:=bl_ hg
      rw [cond_false,f4_ a.2 b.2 ga gb]
    rw [cond_true,Z.mul,oU (gV_ hg)]
  rw [cond_true];rw [Bool.and_eq_true,Bool.and_eq_true,Bool.and_eq_true] at hw;obtain ⟨h1,h2,h3,h4⟩:=hw
  show E (Z.of (IntKind.i64.wrap (mK a.1*mK b.1)))=_
  rw [(iC_ (x:=mK a.1) (y:=mK b.1) (XB h3) (XB h4)).1,ZK a.2 b.2 h1 h2]
end Go.Num
namespace Go.Proofs.YtkjjponijamaoaaGreatDoor
open Go.Kn Go.Num Tryz
attribute [local irreducible] Go.Kn.W WL PL OpQ OpR OpS
theorem D8 (a:I) (b:I) :
    Ret prog 94 [AV [pI a],AV [pI b]] (AV [pI (l9 a b)]):=by
 refine bL (N:=70) func94 rfl rfl (by simp) (fun w0=>?_);simp only [bO,Nat.reduceAdd];refine go2 ?_;intro b1 hb1;refine go_ ?_;intro b2 hb2;refine go_ ?_;intro b3 hb3;refine go3 ?_;refine sC (.tuple #[.int .i64 ((fI a).1),.bool (kI a.1)]) aB (i7 a.1 a.2) rfl rfl rfl (go8 ?_);refine sC (.tuple #[.int .i64 ((fI b).1),.bool (kI b.1)]) aB (i7 b.1 b.2) rfl rfl rfl (go7 ?_);refine gJv [22,23,24,25] [(25,.bool ((kI a.1)&&(kI b.1)))] (fun K2 J2=>?_) ?_
 ·refine go2 ?_;refine sBB rfl (fun h5=>?_) (fun h5=>?_)
  ·refine go3 ?_;refine J2 _ _ pp_ s0 (bK (kZ h5 rfl))
  refine go3 ?_;refine J2 _ _ pp_ s0 (bK (oZ h5))
 intro g6;refine aH _ rfl (fun h7=>?_) (fun h7=>?_)
 ·refine go3 ?_;refine sV (.int .i64 ((W.add (fI a) (fI b)).1)) rfl rfl (sC (AV [pI (E (Z.of (W.add (fI a) (fI b)).1))]) aB (cI (W.add (fI a) (fI b)).1 (W.add (fI a) (fI b)).2) rfl rfl rfl (go3 ?_));refine bA rfl (.inr rfl) (eF rfl m0 tyT rfl) ?_;exact congrArg vS4 (show _=(l9 a b) from aY h7 rfl)
 refine go2 ?_;refine gJv [30,31,32,33,34,35,36,37] [(37,.bool (!a.1.good||(!b.1.good)))] (fun K4 J4=>?_) ?_
 ·refine go2 ?_;refine sC (.bool a.1.good) aB (cJ a.1 a.2) rfl rfl rfl (go_ ?_);rcases bt a.1.good with h9|h9
  ·refine sB (gE h9) rfl (go_ ?_);refine sC (.bool b.1.good) aB (cJ b.1 b.2) rfl rfl rfl (go3 ?_);refine J4 _ _ pp_ s0 (bK (jU h9 rfl))
  refine sB (iK h9) rfl (go5 ?_);refine J4 _ _ pp_ s0 (bK (n7 h9))
 intro g10;refine aH _ rfl (fun h11=>?_) (fun h11=>?_)
 ·refine go_ ?_;refine sC (AV [pI (E Z.bad)]) aB fQ rfl rfl rfl (go3 ?_);refine bA rfl (.inr rfl) (eF rfl m0 tyT rfl) ?_;exact congrArg vS4 (show _=(l9 a b) from aI h7 (aY h11 rfl))
 refine go3 ?_;refine bD rfl (iJ aB rfl (fun w hw=>cH a.1 a.2 w) (fun vl12 Ll12 kl12=>?_))
 try simp only [jI,oI] at kl12
 refine go4 ?_;refine bD rfl (iJ aB rfl (fun w hw=>cH b.1 b.2 w) (fun vl13 Ll13 kl13=>?_))
 try simp only [jI,oI] at kl13
 refine go8 ?_;refine sQ (aL (v':=.bool (a.1.neg==b.1.neg)) (V0 F2 rfl rfl) rfl) rfl (go_ ?_);refine aH _ rfl (fun h14=>?_) (fun h14=>?_)
 ·refine oX sn 7 [4,6] [6] (go4 ?_);refine cF rfl rfl (iJ aB rfl (fun w hw=>tW vl12 vl13 (dl (val a.1.w)) (dl (val b.1.w)) (nC _) (nC _) (Nat.le_trans (kK (k:=32) (uJ a.2)) dd_) (Nat.le_trans (kK (k:=32) (uJ b.2)) dd_) w (SL.sl (SL.sub kl12.sl (sR lZ)) hw) (SL.sl (SL.sub kl13.sl lZ) hw)) (fun vl15 Ll15 kl15=>⟨(fun _=>sR s0),sn,?_⟩))
  try simp only [jI,oI] at kl15
  refine pQ rfl (aL (v':=AV [pI (E (Z.of (sgn a.1.neg ((val a.1.w)+(val b.1.w)))))]) (bT aB rfl (fun w hw=>eS a.1.neg vl15 (dl ((val a.1.w)+(val b.1.w))) (nC _) (Nat.le_trans (kK (k:=33) (g1_ (k:=32) (uJ a.2) (uJ b.2))) dd_) w (SL.sl (SL.sub kl15.sl lZ) hw))) (by rw [(jI _)];rfl)) (go3 ?_);refine bA rfl (.inr rfl) (eF rfl (mA (mA (mA mZ))) tyT rfl) ?_;exact congrArg vS4 (show _=(l9 a b) from aI h7 (aI h11 (aY h14 rfl)))
 refine go4 ?_;refine sQ (aL (v':=.bool (decide ((val a.1.w)<(val b.1.w)))) (bT aB rfl (fun w hw=>mX vl12 vl13 (dl (val a.1.w)) (dl (val b.1.w)) (nC _) (nC _) (Nat.le_trans (kK (k:=32) (uJ a.2)) dd_) (Nat.le_trans (kK (k:=32) (uJ b.2)) dd_) w (SL.sl (SL.sub kl12.sl (sR lZ)) hw) (SL.sl (SL.sub kl13.sl lZ) hw))) (by rw [(jI _),(jI _)])) rfl (go6 ?_);refine aH _ rfl (fun h16=>?_) (fun h16=>?_)
 ·refine oX sn 7 [4,6] [6] (go4 ?_);refine cF rfl rfl (iJ aB rfl (fun w hw=>n8 vl13 vl12 (dl (val b.1.w)) (dl (val a.1.w)) (nC _) (nC _) (Nat.le_trans (kK (k:=32) (uJ b.2)) dd_) (Nat.le_trans (kK (k:=32) (uJ a.2)) dd_) (by simp only [jI,oI];exact (Nat.le_of_lt (of_decide_eq_true h16))) w (SL.sl (SL.sub kl13.sl lZ) hw) (SL.sl (SL.sub kl12.sl (sR lZ)) hw)) (fun vl17 Ll17 kl17=>⟨(fun _=>sR s0),sn,?_⟩))
  try simp only [jI,oI] at kl17
  refine pQ rfl (aL (v':=AV [pI (E (Z.of (sgn b.1.neg ((val b.1.w) - (val a.1.w)))))]) (bT aB rfl (fun w hw=>eS b.1.neg vl17 (dl ((val b.1.w) - (val a.1.w))) (nC _) (Nat.le_trans (kK (k:=32) (fJ_ (uJ b.2))) dd_) w (SL.sl (SL.sub kl17.sl lZ) hw))) (by rw [(jI _)];rfl)) (go3 ?_);refine bA rfl (.inr rfl) (eF rfl (mA (mA (mA mZ))) tyT rfl) ?_;exact congrArg vS4 (show _=(l9 a b) from aI h7 (aI h11 (aI h14 (aY h16 rfl))))
 refine go_ ?_;refine oX sn 7 [4,6] [6] (go4 ?_);refine cF rfl rfl (iJ aB rfl (fun w hw=>n8 vl12 vl13 (dl (val a.1.w)) (dl (val b.1.w)) (nC _) (nC _) (Nat.le_trans (kK (k:=32) (uJ a.2)) dd_) (Nat.le_trans (kK (k:=32) (uJ b.2)) dd_) (by simp only [jI,oI];exact (Nat.le_of_not_lt (of_decide_eq_false h16))) w (SL.sl (SL.sub kl12.sl (sR lZ)) hw) (SL.sl (SL.sub kl13.sl lZ) hw)) (fun vl18 Ll18 kl18=>⟨(fun _=>sR s0),sn,?_⟩))
 try simp only [jI,oI] at kl18
 refine pQ rfl (aL (v':=AV [pI (E (Z.of (sgn a.1.neg ((val a.1.w) - (val b.1.w)))))]) (bT aB rfl (fun w hw=>eS a.1.neg vl18 (dl ((val a.1.w) - (val b.1.w))) (nC _) (Nat.le_trans (kK (k:=32) (fJ_ (uJ a.2))) dd_) w (SL.sl (SL.sub kl18.sl lZ) hw))) (by rw [(jI _)];rfl)) (go3 ?_);refine bA rfl (.inr rfl) (eF rfl (mA (mA (mA mZ))) tyT rfl) ?_;exact congrArg vS4 (show _=(l9 a b) from aI h7 (aI h11 (aI h14 (aI h16 rfl))))
theorem nK (a b:R) (ha:a.Ok) (hb:b.Ok):Ret prog 94 [RV a,RV b] (RV (Z.add a.dec b.dec).enc):=by
  have h:=D8 ⟨a,ha⟩ ⟨b,hb⟩;rw [CW] at h;exact h
theorem EA (a:I) (b:I) :
    Ret prog 93 [AV [pI a],AV [pI b]] (AV [pI (oT a b)]):=by
 refine bL (N:=55) func93 rfl rfl (by simp) (fun w0=>?_);simp only [bO,Nat.reduceAdd];refine go2 ?_;intro b1 hb1;refine go_ ?_;intro b2 hb2;refine go_ ?_;intro b3 hb3;refine go3 ?_;refine sC (.tuple #[.int .i64 ((fI a).1),.bool (kI a.1)]) aB (i7 a.1 a.2) rfl rfl rfl (go8 ?_);refine sC (.tuple #[.int .i64 ((fI b).1),.bool (kI b.1)]) aB (i7 b.1 b.2) rfl rfl rfl (go7 ?_);refine gJv [19,20,21,22,23,24,25,26,27,28,29,30] [(30,.bool ((kI a.1)&&((kI b.1)&&((decide ((fI a).1<2147483648)&&decide (-2147483648<(fI a).1))&&(decide ((fI b).1<2147483648)&&decide (-2147483648<(fI b).1))))))] (fun K2 J2=>?_) ?_
 ·refine go2 ?_;refine sBB rfl (fun h7=>?_) (fun h7=>?_)
  ·refine go2 ?_;refine sBB rfl (fun h8=>?_) (fun h8=>?_)
   ·refine go_ ?_;refine sC (.bool (decide ((fI a).1<2147483648)&&decide (-2147483648<(fI a).1))) aB (xN (fI a).1) rfl rfl rfl (go_ ?_);refine sBB rfl (fun h9=>?_) (fun h9=>?_)
    ·refine go_ ?_;refine sC (.bool (decide ((fI b).1<2147483648)&&decide (-2147483648<(fI b).1))) aB (xN (fI b).1) rfl rfl rfl (go2 ?_);refine J2 _ _ pp_ s0 (bK (kZ h7 (kZ h8 (kZ h9 rfl))))
    refine go4 ?_;refine J2 _ _ pp_ s0 (bK (kZ h7 (kZ h8 (oZ h9))))
   refine go8 ?_;refine J2 _ _ pp_ s0 (bK (kZ h7 (oZ h8)))
  refine AG ?_;refine J2 _ _ pp_ s0 (bK (oZ h7))
 intro g10;refine aH _ rfl (fun h11=>?_) (fun h11=>?_)
 ·refine go3 ?_;refine sV (.int .i64 ((W.mul (fI a) (fI b)).1)) rfl rfl (sC (AV [pI (E (Z.of (W.mul (fI a) (fI b)).1))]) aB (cI (W.mul (fI a) (fI b)).1 (W.mul (fI a) (fI b)).2) rfl rfl rfl (go3 ?_));refine bA rfl (.inr rfl) (eF rfl m0 tyT rfl) ?_;exact congrArg vS4 (show _=(oT a b) from aY h11 rfl)
 refine go2 ?_;refine gJv [35,36,37,38,39,40,41,42] [(42,.bool (!a.1.good||(!b.1.good)))] (fun K4 J4=>?_) ?_
 ·refine go2 ?_;refine sC (.bool a.1.good) aB (cJ a.1 a.2) rfl rfl rfl (go_ ?_);rcases bt a.1.good with h13|h13
  ·refine sB (gE h13) rfl (go_ ?_);refine sC (.bool b.1.good) aB (cJ b.1 b.2) rfl rfl rfl (go3 ?_);refine J4 _ _ pp_ s0 (bK (jU h13 rfl))
  refine sB (iK h13) rfl (go5 ?_);refine J4 _ _ pp_ s0 (bK (n7 h13))
 intro g14;refine aH _ rfl (fun h15=>?_) (fun h15=>?_)
 ·refine go_ ?_;refine sC (AV [pI (E Z.bad)]) aB fQ rfl rfl rfl (go3 ?_);refine bA rfl (.inr rfl) (eF rfl m0 tyT rfl) ?_;exact congrArg vS4 (show _=(oT a b) from aI h11 (aY h15 rfl))
 refine go_ ?_;refine gds sn [0,4,8,12,16,20,28,25,33,37,40,45] [11] mix (by kernel_rfl) (go4 ?_);refine pQ rfl (aL (v':=.bool (a.1.neg != b.1.neg)) (yI F2 rfl rfl) rfl) (go2 ?_);refine cF rfl rfl (iJ aB rfl (fun w hw=>cH a.1 a.2 w) (fun vl16 Ll16 kl16=>⟨(fun _=>sR s0),sn,?_⟩))
 try simp only [jI,oI] at kl16
 refine cF rfl rfl (iJ aB rfl (fun w hw=>cH b.1 b.2 w) (fun vl17 Ll17 kl17=>⟨(fun _=>sR s0),sn,?_⟩))
 try simp only [jI,oI] at kl17
 refine cF rfl rfl (iJ aB rfl (fun w hw=>wF vl16 vl17 (dl (val a.1.w)) (dl (val b.1.w)) (nC _) (nC _) (Nat.le_trans (kK (k:=32) (uJ a.2)) dd_) (Nat.le_trans (kK (k:=32) (uJ b.2)) dd_) w (SL.sl (SL.sub kl16.sl (sR lZ)) hw) (SL.sl (SL.sub kl17.sl lZ) hw)) (fun vl18 Ll18 kl18=>⟨(fun _=>sR s0),sn,?_⟩))
 try simp only [jI,oI] at kl18
 refine pQ rfl (aL (v':=AV [pI (E (Z.of (sgn (a.1.neg != b.1.neg) ((val a.1.w)*(val b.1.w)))))]) (bT aB rfl (fun w hw=>eS (a.1.neg != b.1.neg) vl18 (dl ((val a.1.w)*(val b.1.w))) (nC _) (Nat.le_trans (kK (k:=64) (if_ (i:=32) (k:=32) (uJ a.2) (uJ b.2))) dd_) w (SL.sl (SL.sub kl18.sl lZ) hw))) (by rw [(jI _)];rfl)) (go3 ?_);refine bA rfl (.inr rfl) (eF rfl (mA (mA (mA mZ))) tyT rfl) ?_;exact congrArg vS4 (show _=(oT a b) from aI h11 (aI h15 rfl))
theorem cZ (a b:R) (ha:a.Ok) (hb:b.Ok):Ret prog 93 [RV a,RV b] (RV (Z.mul a.dec b.dec).enc):=by
  have h:=EA ⟨a,ha⟩ ⟨b,hb⟩;rw [CY] at h;exact h
theorem GF (a b:R) (ha:a.Ok) (hb:b.Ok) :
    Ret prog 133 [RV a,RV b] (RV (Z.rem a.dec b.dec).enc):=by
 refine bL (N:=14) func133 rfl rfl (by simp) (fun w0=>?_);simp only [bO,Nat.reduceAdd];refine go_ ?_;refine bD rfl (mB rfl rfl (fun b2 hb2=>bD rfl (mB rfl rfl (fun b3 hb3=>bD rfl (fP kN (fun b4 hb4=>go2 ?_))))));refine sQ (cP tyT rfl mm_ (cT ha)) rfl ?_;refine sQ (cP tyT rfl mm_ (cT hb)) rfl ?_;refine sQ (bI aB (BC a b ha hb) rfl) rfl (go3 ?_);refine bD rfl (fP kN (fun b5 hb5=>bD rfl (fP kN (fun b6 hb6=>bD rfl (cC tyT rfl rfl uu_ (aF _) rfl (bV _) (.inl (by assumption)) ?_)))));refine bD rfl (cC tyT rfl rfl uu_ (aF _) rfl (bV _) (.inl (by assumption)) ?_);refine go2 ?_;refine sQ (cP tyT rfl mm_ (aF _)) rfl ?_;refine bD rfl (cC tyT rfl rfl uu_ (aF _) rfl (bV _) (.inl (by assumption)) ?_);refine go2 ?_;refine bA rfl (.inr rfl) ⟨_,_,_,_,_,_,rfl,mm_,tyT,_,(eC (aF _)),(aF _),rfl⟩ ?_;exact rfl
theorem M7 (a:Rt) :
    Ret prog 43 [AV [pI a.n,pI a.d]] (.int .i64 ((sD a).1)):=by
 refine bL (N:=9) func43 rfl rfl (by simp) (fun w0=>?_);simp only [bO,Nat.reduceAdd];refine go2 ?_;intro b1 hb1;refine go5 ?_;refine sQ (bI aB (eV a) rfl) rfl (go2 ?_);rcases bt (aT a) with h2|h2
 ·refine W_f (gE h2) rfl (go4 ?_);refine sC (.int .i64 ((Z.signW a.n.dec).1)) aB (iY a.n.1 a.n.2) rfl rfl rfl (go3 ?_);refine bA rfl (.inr rfl) rfl ?_;exact congrArg vS8 (show _=(sD a) from aY h2 rfl)
 refine W_t (iK h2) rfl (go4 ?_);refine bA rfl (.inr rfl) rfl ?_;exact congrArg vS8 (show _=(sD a) from aI h2 rfl)
theorem BM (a:Rt) (b:Rt) :
    Ret prog 218 [AV [pI a.n,pI a.d],AV [pI b.n,pI b.d]] (AV [pI ((nY a b).n),pI ((nY a b).d)]):=by
 refine bL (N:=16) func218 rfl rfl (by simp) (fun w0=>?_);simp only [bO,Nat.reduceAdd];refine go2 ?_;intro b1 hb1;refine go_ ?_;intro b2 hb2;refine go_ ?_;intro b3 hb3;refine go4 ?_;refine sQ (bI aB (eV b) rfl) rfl (go2 ?_);rcases bt (aT b) with h4|h4
 ·refine W_f (gE h4) rfl (go_ ?_);refine oX (sd (sk (sk (s0)))) 8 [7] [7] (go5 ?_);refine pQ rfl (bI aB (pZ b.d b.n) rfl) ?_;obtain ⟨r5,hr5⟩:=nm ((dG a (cX b.d b.n)):Rt);refine pC (AV [pI r5.n,pI r5.d]) aB (lH a (cX b.d b.n)) rfl rfl (by rw [hr5]) (go3 ?_);refine bA rfl (.inr rfl) (eF rfl m0 tyT rfl) ?_;exact (by subst hr5;exact congrArg vS7 (show _=(nY a b) from aY h4 rfl))
 refine W_t (iK h4) rfl (go_ ?_);refine sQ (bI aB pM  rfl) rfl (go3 ?_);refine bA rfl (.inr rfl) (eF rfl m0 tyT rfl) ?_;exact congrArg vS7 (show _=(nY a b) from aI h4 rfl)
end Go.Proofs.YtkjjponijamaoaaGreatDoor
namespace Go.Kn
open Go Go.Num
section
variable {P:Program} {w0:World} {X:List Nat} {N:Nm} {S:Fr} {M M':List Blk} {d:Option Tmp} {ty:TypeId} {ps:String} {af:Array Edge} {gd:Option (Nat×Bool)}
theorem QY {x y z u:Operand} {tys:Array TypeId} {k:IntKind} {a b c e:Int} (hx:evO N S x=some (.int k a)) (hy:evO N S y=some (.int k b)) (hz:evO N S z=some (.int k c)) (hu:evO N S u=some (.int k e)):OpQ P w0 X N ⟨d,.call { callee:=.builtin .max,args:=#[x,y,z,u],argTypes:=tys },ty,ps,af,gd⟩ S M (.int k (if e > (if c > (if b > a then b else a) then c else (if b > a then b else a)) then e else (if c > (if b > a then b else a) then c else (if b > a then b else a)))) :=
  rT fun w _=>by
    have h:∀ (ts:Array TypeId) (t:TypeId),(Builtin.max_ ts t #[.int k a,.int k b,.int k c,.int k e]).run P w = .ok (.int k (if e > (if c > (if b > a then b else a) then c else (if b > a then b else a)) then e else (if c > (if b > a then b else a) then c else (if b > a then b else a)))) w:=fun ts t=>by
      simp [Builtin.max_,Builtin.max2]
    simp only [execOp,resolve,invoke,builtin,Sem.run_bind,Sem.run_pure,Result.andThen_ok,List.map_toArray,List.map_cons,List.map_nil,cG hx,cG hy,cG hz,cG hu,h]
end
end Go.Kn
namespace Go.Num
open Go Go.Kn
theorem VL (a b c e:W):(if e.1 > (if c.1 > (if b.1 > a.1 then b.1 else a.1) then c.1 else (if b.1 > a.1 then b.1 else a.1)) then e.1 else (if c.1 > (if b.1 > a.1 then b.1 else a.1) then c.1 else (if b.1 > a.1 then b.1 else a.1)))=(W.max (W.max (W.max a b) c) e).1:=by rw [W.max_1,W.max_1,W.max_1]
theorem ZW {a:Rt} (h:aT a=true):cfP (cfN a.d) a.d:=by
  unfold aT at h;simp only [Bool.and_eq_true,decide_eq_true_eq] at h;exact OJ h.2.2.1
end Go.Num
namespace Go.Proofs.YtkjjponijamaoaaGreatDoor
open Go.Kn Go.Num Tryz
attribute [local irreducible] Go.Kn.W WL PL OpQ OpR OpS
theorem BL (a:Rt) (b:Rt) :
    Ret prog 56 [AV [pI a.n,pI a.d],AV [pI b.n,pI b.d]] (.int .i64 ((jL a b).1)):=by
 refine bL (N:=80) func56 rfl rfl (by simp) (fun w0=>?_);simp only [bO,Nat.reduceAdd];refine go2 ?_;intro b1 hb1;refine go_ ?_;intro b2 hb2;refine go3 ?_;refine oX (sk (sk (s0))) 6 [] [] (go_ ?_);refine pQ rfl (bI aB (eV a) rfl) (go_ ?_);refine pQ rfl (bI aB (eV b) rfl) (go5 ?_);refine gJv [15,16,17,18,19,20,21] [(15,.bool (!(aT a)&&(!(aT b))))] (fun K2 J2=>?_) ?_
 ·refine go3 ?_;rcases bt (aT a) with h4|h4
  ·refine sB (gE h4) rfl (go5 ?_);refine J2 _ _ pp_ s0 (bK (MO h4))
  refine sB (iK h4) rfl (go5 ?_);refine J2 _ _ pp_ s0 (bK (MN h4 rfl))
 intro g5;refine aH _ rfl (fun h6=>?_) (fun h6=>?_)
 ·refine go4 ?_;refine bA rfl (.inr rfl) rfl ?_;exact congrArg vS8 (show _=(jL a b) from aY h6 rfl)
 refine go5 ?_;rcases bt (aT a) with h7|h7
 ·refine W_f (gE h7) rfl (go5 ?_);rcases bt (aT b) with h8|h8
  ·refine W_f (gE h8) rfl (go8 ?_);refine cK [7,8,9,10,28,29,30,31,32,33,34,35,36,37,38,39,40,41,42,43,44,45,46,47,48,49,50,51,52,53,54,55,56,57,58,59,60,61,62,63,64,65,66,67,68,69,70,71,72,73,74,75,76,77,78] (fun g nn M=>∃ (o:W) (x:Rt) (y:Rt) (k:Nat),(g 7 = .int .i64 o.1)∧M=[⟨b2,33,cV [pI y.n,pI y.d]⟩,⟨b1,33,cV [pI x.n,pI x.d]⟩]∧nn=k∧(cf k o x.n x.d y.n y.d=cf (cfN a.d) (wl 1) a.n a.d b.n b.d∧cfP k x.d)) ((cfN a.d)) ?start ?round
   case start =>
    refine ⟨_,s0,(wl 1),a,b,(cfN a.d),?a7,rfl,rfl,⟨rfl,ZW h7⟩⟩
    case a7=>rfl
   case round =>
    rintro nn g M ⟨o,x,y,k,hg7,rfl,hmeas,hinv⟩;subst nn;simp only [fF,hg7];clear hg7;obtain ⟨m,rfl⟩:=SC hinv.2;refine go2 ?_;refine oX (sk (sk (s0))) 12 [] [] (go4 ?_);refine pC (AV [pI (E (Z.quo x.n.dec x.d.dec))]) aB (i8 x.n.1 x.d.1 x.n.2 x.d.2) rfl rfl rfl (go4 ?_);refine pC (AV [pI (E (Z.quo y.n.dec y.d.dec))]) aB (i8 y.n.1 y.d.1 y.n.2 y.d.2) rfl rfl rfl (pC (.int .i64 ((Z.cmpW (Z.quo x.n.dec x.d.dec) (Z.quo y.n.dec y.d.dec)).1)) aB (GE (E (Z.quo x.n.dec x.d.dec)).1 (E (Z.quo y.n.dec y.d.dec)).1 (E (Z.quo x.n.dec x.d.dec)).2 (E (Z.quo y.n.dec y.d.dec)).2) rfl rfl (cg2 (fun p q=>Value.int .i64 (Z.cmpW p q).1) (dB _) (dB _)) (go6 ?_));refine aH _ rfl (fun h9=>?_) (fun h9=>?_)
    ·refine go3 ?_;refine sV (.int .i64 ((W.mul o (Z.cmpW (Z.quo x.n.dec x.d.dec) (Z.quo y.n.dec y.d.dec))).1)) rfl rfl (go8 ?_);refine bA rfl (.inr rfl) rfl ?_;exact congrArg vS8 (show _=(jL a b) from aI h6 (aY h7 (aY h8 ((gX_ hinv.1 h9)))))
    refine go_ ?_;refine gDs sn (.quiet 0 [1,7,16,17] (.quiet 1 [7,16,17] (.quiet 2 [3,6,7,14,15,16,17] (.quiet 3 [6,7,14,15,16,17] (.quiet 4 [5,6,7,14,15,16,17] (.quiet 5 [6,7,14,15,16,17] (.quiet 6 [7,14,15,16,17] (.quiet 7 [16,17] (.quiet 10 [11,14,15,16,17] (.quiet 11 [14,15,16,17] (.quiet 12 [13,14,15,16,17] (.quiet 13 [14,15,16,17] (.quiet 14 [15,16,17] (.still 8 [9,15,17] (.both 9 (.still 15 [17] (.only 16 (.only 17 (.fin)))) 16 (.quiet 9 [15,17] (.quiet 15 [17] (.only 17 (.fin))))))))))))))))))) [0,1,2,3,4,5,6,7,8,9,10,11,12,13,14,15] mix (by kernel_rfl) (by kernel_rfl) (go6 ?_);refine pC (AV [pI (E (Z.rem x.n.dec x.d.dec))]) aB (GF x.n.1 x.d.1 x.n.2 x.d.2) rfl rfl rfl (pQ rfl (oW zpT plT rfl (.cons [pI x.d] [pI x.d,pI I0] rfl rfl rfl rfl (.cons [pI (E (Z.rem x.n.dec x.d.dec))] [pI x.d,pI (E (Z.rem x.n.dec x.d.dec))] rfl rfl rfl rfl (.nil _)))) (go4 ?_));refine pC (AV [pI (E (Z.rem y.n.dec y.d.dec))]) aB (GF y.n.1 y.d.1 y.n.2 y.d.2) rfl rfl rfl (H9 rfl rfl (A1 (off':=18) (cU fdT dd_ rfl) rfl) ?_);refine D4 ?_ ?_
    ·refine cF rfl rfl (zQ (HM tyT rfl m0 rfl) ⟨fun _=>s0,sn,H9 rfl rfl (oW zpT plT rfl (.cons [pI y.d] [pI y.d,pI I0] rfl rfl rfl rfl (.cons [pI (E (Z.rem y.n.dec y.d.dec))] [pI y.d,pI (E (Z.rem y.n.dec y.d.dec))] rfl rfl rfl rfl (.nil _)))) (go3 ?_)⟩);refine oX (sk (sk (s0))) 8 [] [] (go2 ?_);refine pC (.int .i64 ((Z.signW (Z.rem x.n.dec x.d.dec)).1)) aB (iY (E (Z.rem x.n.dec x.d.dec)).1 (E (Z.rem x.n.dec x.d.dec)).2) rfl rfl (cg1 (fun p=>Value.int .i64 (Z.signW p).1) (dB _)) (go2 ?_);refine pC (.int .i64 ((Z.signW (Z.rem y.n.dec y.d.dec)).1)) aB (iY (E (Z.rem y.n.dec y.d.dec)).1 (E (Z.rem y.n.dec y.d.dec)).2) rfl rfl (cg1 (fun p=>Value.int .i64 (Z.signW p).1) (dB _)) (go4 ?_);refine gJv [66,67,68,69,70,71] [(71,.bool (((Z.signW (Z.rem x.n.dec x.d.dec)).1==0)||((Z.signW (Z.rem y.n.dec y.d.dec)).1==0)))] (fun K7 J7=>?_) ?_
     ·refine go3 ?_;refine sBB rfl (fun h11=>?_) (fun h11=>?_)
      ·refine go4 ?_;refine J7 _ _ pp_ s0 (bK (mF h11))
      refine go4 ?_;refine J7 _ _ pp_ s0 (bK (j9 h11 rfl))
     intro g12;refine aH _ rfl (fun h13=>?_) (fun h13=>?_)
     ·refine go4 ?_;refine sV (.int .i64 ((W.sub (Z.signW (Z.rem x.n.dec x.d.dec)) (Z.signW (Z.rem y.n.dec y.d.dec))).1)) rfl rfl (sV (.int .i64 ((W.mul o (W.sub (Z.signW (Z.rem x.n.dec x.d.dec)) (Z.signW (Z.rem y.n.dec y.d.dec)))).1)) rfl rfl (go8 ?_));refine bA rfl (.inr rfl) rfl ?_;exact congrArg vS8 (show _=(jL a b) from aI h6 (aY h7 (aY h8 ((fA_ hinv.1 h9 h13)))))
     refine go3 ?_;refine sV (.int .i64 ((W.neg o).1)) rfl rfl (go2 ?_);refine ⟨pp_,_,_,s0,(Nat.lt_succ_self m),(W.neg o),(⟨x.d,(E (Z.rem x.n.dec x.d.dec))⟩:Rt),(⟨y.d,(E (Z.rem y.n.dec y.d.dec))⟩:Rt),m,?s7,rfl,rfl,fz_ hinv h9 h13⟩
     case s7=>rfl
    refine go2 ?_;refine pQ rfl (oW zpT plT rfl (.cons [pI y.d] [pI y.d,pI I0] rfl rfl rfl rfl (.cons [pI (E (Z.rem y.n.dec y.d.dec))] [pI y.d,pI (E (Z.rem y.n.dec y.d.dec))] rfl rfl rfl rfl (.nil _)))) (go2 ?_);refine oX (sk (sk (s0))) 8 [] [] (go2 ?_);refine pC (.int .i64 ((Z.signW (Z.rem x.n.dec x.d.dec)).1)) aB (iY (E (Z.rem x.n.dec x.d.dec)).1 (E (Z.rem x.n.dec x.d.dec)).2) rfl rfl (cg1 (fun p=>Value.int .i64 (Z.signW p).1) (dB _)) (go2 ?_);refine pC (.int .i64 ((Z.signW (Z.rem y.n.dec y.d.dec)).1)) aB (iY (E (Z.rem y.n.dec y.d.dec)).1 (E (Z.rem y.n.dec y.d.dec)).2) rfl rfl (cg1 (fun p=>Value.int .i64 (Z.signW p).1) (dB _)) (go4 ?_);refine gJv [66,67,68,69,70,71] [(71,.bool (((Z.signW (Z.rem x.n.dec x.d.dec)).1==0)||((Z.signW (Z.rem y.n.dec y.d.dec)).1==0)))] (fun K9 J9=>?_) ?_
    ·refine go3 ?_;refine sBB rfl (fun h15=>?_) (fun h15=>?_)
     ·refine go4 ?_;refine J9 _ _ pp_ s0 (bK (mF h15))
     refine go4 ?_;refine J9 _ _ pp_ s0 (bK (j9 h15 rfl))
    intro g16;refine aH _ rfl (fun h17=>?_) (fun h17=>?_)
    ·refine go4 ?_;refine sV (.int .i64 ((W.sub (Z.signW (Z.rem x.n.dec x.d.dec)) (Z.signW (Z.rem y.n.dec y.d.dec))).1)) rfl rfl (sV (.int .i64 ((W.mul o (W.sub (Z.signW (Z.rem x.n.dec x.d.dec)) (Z.signW (Z.rem y.n.dec y.d.dec)))).1)) rfl rfl (go8 ?_));refine bA rfl (.inr rfl) rfl ?_;exact congrArg vS8 (show _=(jL a b) from aI h6 (aY h7 (aY h8 ((fA_ hinv.1 h9 h17)))))
    refine go3 ?_;refine sV (.int .i64 ((W.neg o).1)) rfl rfl (go2 ?_);refine ⟨pp_,_,_,s0,(Nat.lt_succ_self m),(W.neg o),(⟨x.d,(E (Z.rem x.n.dec x.d.dec))⟩:Rt),(⟨y.d,(E (Z.rem y.n.dec y.d.dec))⟩:Rt),m,?s7,rfl,rfl,fz_ hinv h9 h17⟩
    case s7=>rfl
  refine W_t (iK h8) rfl (go4 ?_);refine bA rfl (.inr rfl) rfl ?_;exact congrArg vS8 (show _=(jL a b) from aI h6 (aY h7 (aI h8 rfl)))
 refine W_t (iK h7) rfl (go4 ?_);refine bA rfl (.inr rfl) rfl ?_;exact congrArg vS8 (show _=(jL a b) from aI h6 (aI h7 rfl))
end Go.Proofs.YtkjjponijamaoaaGreatDoor
namespace Go.Num
open Go Go.Kn
theorem LU {x g:Int} (h:g ∣ x):g*x.fdiv g=x:=Int.mul_fdiv_cancel' h
theorem qS:badp.all gdI=false:=by decide +kernel
theorem bK_ {l:List I} (h:(mkP l).all gdI=true):mkP l=nV l:=by
  unfold mkP at h ⊢
  cases hl:l.all gdI
  · rw [hl] at h;rw [cond_false,qS] at h;cases h
  simp only [hl,cond_true] at h ⊢
  split
  · rfl
  rename_i hs;rw [if_neg hs,qS] at h;cases h
theorem bX_ {p:List I} (hp:p.length≤1000) (h:(d7 p).all gdI=true):p.all gdI=true∧(d7 p).length≤p.length:=by
  unfold d7 at h ⊢;rw [wV _ hp dd_] at h ⊢;simp only [List.length_nil,Nat.max_zero,List.all_nil,Bool.and_true] at h ⊢
  cases hg:p.all gdI
  · rw [hg,cond_false,qS] at h;cases h
  rw [hg] at h;simp only [cond_true] at h ⊢;rw [bK_ h];refine ⟨trivial,Nat.le_trans (FA _) ?_⟩
  simp
theorem U0 {v:Int} (h:fE v):(E (Z.of v)).1.bad=false:=by
  have:=BF h;unfold R.good at this;simp only [Bool.and_eq_true,Bool.not_eq_true'] at this;exact this.1
theorem fu_:(E Z.bad).1.bad=true:=rfl
theorem SW:(E Z.bad).1.good=false:=rfl
theorem BE {u v:Int} (hu:fE u) (hv:fE v):Z.gcd (Z.of u) (Z.of v)=Z.of (Int.gcd u v):=by rw [Z.gcd,eB (Z.of_some hu) (Z.of_some hv)]
theorem BK {u v:Int} (hu:fE u) (hv:fE v) (h:v≠0):Z.quo (Z.of u) (Z.of v)=Z.of (u.fdiv v):=by rw [Z.quo,eB (Z.of_some hu) (Z.of_some hv),if_neg h]
theorem B1:fE 1:=by decide
theorem LY {u v:Int} (hv:fE v) (h:v≠0):fE (Int.gcd u v:Nat):=by
  have:Int.gcd u v≤v.natAbs:=Nat.le_of_dvd oo_ (Int.gcd_dvd_natAbs_right u v)
  show ((Int.gcd u v:Nat):Int).natAbs<_
  rw [Int.natAbs_natCast];exact Nat.lt_of_le_of_lt this hv
theorem VT {u v:Int} (hu:fE u) (hv:fE v) (h:Z.of u=Z.of v):u=v:=by
  have:=congrArg Z.o h;rw [Z.of_some hu,Z.of_some hv] at this;exact Option.some.inj this
theorem UR:uY=lB:=rfl
theorem G1 (a b:I):cX a b=bH a b:=rfl
theorem F6 (a:W):bR a=aJ a:=rfl
theorem fg_ (a:Rt):tL a=iI a:=by unfold tL iI;rw [lW,UR]
theorem PU (a b:Rt):kF a b=dP a b:=by unfold kF dP;rw [lW,lW,UR];rfl
theorem EO (a b:Rt):eP a b=dC a b:=by unfold eP dC;rw [fg_,PU]
theorem gM_ {a:Rt}:aG a=true ↔ ∃ n d,Rt.Is a n d:=by
  unfold aG
  constructor
  · intro h
    cases gn:a.n.1.good<;>cases gd:a.d.1.good<;>simp only [gn,gd,Bool.not_true,Bool.not_false,Bool.or_true,Bool.true_or,Bool.or_false,cond_true,cond_false,Bool.false_eq_true] at h
    obtain ⟨n,hn,en⟩:=VF gn;obtain ⟨d,hd,ed⟩:=VF gd;rw [en,ed] at h;simp only [dB,Bool.and_eq_true,decide_eq_true_eq,o7 hd] at h;obtain ⟨h1,h2⟩:=h;have hp:0<d:=Int.sign_pos_iff.1 h1;rw [BE hn hd,dP_] at h2;have h3:=VT (LY hd oo_) B1 (al_ h2);exact ⟨n,d,en,ed,hn,hd,hp,by exact_mod_cast h3⟩
  rintro ⟨n,d,h⟩;rw [h.en,h.ed,BF h.hn,BF h.hd];simp only [Bool.not_true,Bool.or_false,cond_false,dB,Bool.and_eq_true,decide_eq_true_eq,o7 h.hd];refine ⟨Int.sign_pos_iff.2 h.pos,?_⟩;rw [BE h.hn h.hd,h.cop];rfl
theorem FO (v:Int):v.fdiv 1=v:=by rw [Int.fdiv_eq_ediv_of_nonneg _ dd_];exact Int.ediv_one v
theorem KQ {n d:Int} (hn:fE n) (hd:fE d) (hp:0<d) (hc:Int.gcd n d=1):bH (E (Z.of n)) (E (Z.of d))=⟨E (Z.of n),E (Z.of d)⟩:=by
  unfold bH
  have h1:((Z.signW (E (Z.of d)).dec).1==0)=false:=by rw [dB,o7 hd,Int.sign_eq_one_of_pos hp];rfl
  have h2:decide ((Z.signW (E (Z.of d)).dec).1<0)=false:=by rw [dB,o7 hd,Int.sign_eq_one_of_pos hp];rfl
  rw [BF hn,BF hd,h1,h2,dB,dB,BE hn hd,hc];simp only [Bool.not_true,Bool.or_false,cond_false];rw [show ((1:Nat):Int)=1 from rfl,BK hn B1 dd_,BK hd B1 dd_,FO,FO]
theorem IM (b:I):bH (E Z.bad) b=lB:=by unfold bH;rw [SW];rfl
theorem IN (a:I):bH a (E Z.bad)=lB:=by
  unfold bH;rw [SW]
  cases a.1.good<;>rfl
theorem HF {u g:Int} (hg:0<g):u.fdiv g=u / g:=Int.fdiv_eq_ediv_of_nonneg _ (Int.le_of_lt hg)
theorem ez_ {u g:Int} (hu:fE u) (hg:0<g) (hd:g ∣ u):fE (u / g):=by
  obtain ⟨k,rfl⟩:=hd;rw [Int.mul_ediv_cancel_left _ oo_];refine Nat.lt_of_le_of_lt ?_ hu;rw [Int.natAbs_mul];exact Nat.le_mul_of_pos_left _ oo_
theorem S9 {n d:Int} (hn:fE n) (hd:fE d) (hp:0<d) :
    bH (E (Z.of n)) (E (Z.of d))=⟨E (Z.of (n / (Int.gcd n d:Nat))),E (Z.of (d / (Int.gcd n d:Nat)))⟩:=by
  unfold bH
  have h1:((Z.signW (E (Z.of d)).dec).1==0)=false:=by rw [dB,o7 hd,Int.sign_eq_one_of_pos hp];rfl
  have h2:decide ((Z.signW (E (Z.of d)).dec).1<0)=false:=by rw [dB,o7 hd,Int.sign_eq_one_of_pos hp];rfl
  have hg:0<((Int.gcd n d:Nat):Int):=by
    have:=Int.gcd_pos_of_ne_zero_right n (show d≠0 by omega);omega
  have hb:=LY (u:=n) hd oo_;rw [BF hn,BF hd,h1,h2,dB,dB,BE hn hd];simp only [Bool.not_true,Bool.or_false,cond_false];rw [BK hn hb oo_,BK hd hb oo_,HF hg,HF hg]
theorem EY {n d:Int} (hn:fE n) (hd:fE d) (hp:0<d):Rt.Is (bH (E (Z.of n)) (E (Z.of d))) (n / (Int.gcd n d:Nat)) (d / (Int.gcd n d:Nat)):=by
  have hg:0<((Int.gcd n d:Nat):Int):=by
    have:=Int.gcd_pos_of_ne_zero_right n (show d≠0 by omega);omega
  have d1:((Int.gcd n d:Nat):Int) ∣ n:=Int.gcd_dvd_left ..;have d2:((Int.gcd n d:Nat):Int) ∣ d:=Int.gcd_dvd_right ..;rw [S9 hn hd hp];refine ⟨rfl,rfl,ez_ hn hg d1,ez_ hd hg d2,Int.ediv_pos_of_pos_of_dvd hp oo_ d2,?_⟩;rw [Int.gcd_ediv d1 d2,Int.natAbs_natCast,Nat.div_self oo_]
theorem K0 {a b:Rt} {n d m e:Int} (ha:a.Is n d) (hb:b.Is m e) :
    ∃ p q r s:Int,bH a.n b.d=⟨E (Z.of p),E (Z.of q)⟩∧bH b.n a.d=⟨E (Z.of r),E (Z.of s)⟩∧fE p∧fE q∧fE r∧fE s∧0<q∧0<s∧Int.gcd (p*r) (q*s)=1∧n*m*(q*s)=p*r*(d*e):=by
  have h1:=EY ha.hn hb.hd hb.pos;have h2:=EY hb.hn ha.hd ha.pos;have g1:((Int.gcd n e:Nat):Int) ∣ n:=Int.gcd_dvd_left ..;have g2:((Int.gcd n e:Nat):Int) ∣ e:=Int.gcd_dvd_right ..;have g3:((Int.gcd m d:Nat):Int) ∣ m:=Int.gcd_dvd_left ..;have g4:((Int.gcd m d:Nat):Int) ∣ d:=Int.gcd_dvd_right ..;refine ⟨n / (Int.gcd n e:Nat),e / (Int.gcd n e:Nat),m / (Int.gcd m d:Nat),d / (Int.gcd m d:Nat),?_,?_,h1.hn,h1.hd,h2.hn,h2.hd,h1.pos,h2.pos,?_,?_⟩
  · rw [ha.en,hb.ed];exact Rt.ext h1.en h1.ed
  · rw [hb.en,ha.ed];exact Rt.ext h2.en h2.ed
  · generalize hG:((Int.gcd n e:Nat):Int)=G at *
    generalize hH:((Int.gcd m d:Nat):Int)=H at *;have c1:Nat.Coprime (n / G).natAbs (e / G).natAbs:=h1.cop;have c2:Nat.Coprime (m / H).natAbs (d / H).natAbs:=h2.cop;have k1:Nat.Coprime n.natAbs d.natAbs:=ha.cop;have k2:Nat.Coprime m.natAbs e.natAbs:=hb.cop;have d1:(n / G).natAbs ∣ n.natAbs:=Int.natAbs_dvd_natAbs.2 (Int.ediv_dvd_of_dvd g1);have d2:(e / G).natAbs ∣ e.natAbs:=Int.natAbs_dvd_natAbs.2 (Int.ediv_dvd_of_dvd g2);have d3:(m / H).natAbs ∣ m.natAbs:=Int.natAbs_dvd_natAbs.2 (Int.ediv_dvd_of_dvd g3);have d4:(d / H).natAbs ∣ d.natAbs:=Int.natAbs_dvd_natAbs.2 (Int.ediv_dvd_of_dvd g4)
    show Nat.gcd (n / G*(m / H)).natAbs (e / G*(d / H)).natAbs=1
    rw [Int.natAbs_mul,Int.natAbs_mul];have x1:Nat.Coprime (n / G).natAbs (d / H).natAbs:=(k1.coprime_dvd_left d1).coprime_dvd_right d4;have x2:Nat.Coprime (m / H).natAbs (e / G).natAbs:=(k2.coprime_dvd_left d3).coprime_dvd_right d2;exact (Nat.Coprime.mul_right c1 x1).mul_left (Nat.Coprime.mul_right x2 c2)
  obtain ⟨x,hx⟩:=g1;obtain ⟨y,hy⟩:=g2;obtain ⟨z,hz⟩:=g3;obtain ⟨t,ht⟩:=g4
  have p1:0<((Int.gcd n e:Nat):Int):=by have:=Int.gcd_pos_of_ne_zero_right n (show e≠0 by have:=hb.pos;omega);omega
  have p2:0<((Int.gcd m d:Nat):Int):=by have:=Int.gcd_pos_of_ne_zero_right m (show d≠0 by have:=ha.pos;omega);omega
  generalize ((Int.gcd n e:Nat):Int)=G at *;generalize ((Int.gcd m d:Nat):Int)=H at *
  have q1:n / G=x:=by rw [hx];exact Int.mul_ediv_cancel_left _ oo_
  have q2:e / G=y:=by rw [hy];exact Int.mul_ediv_cancel_left _ oo_
  have q3:m / H=z:=by rw [hz];exact Int.mul_ediv_cancel_left _ oo_
  have q4:d / H=t:=by rw [ht];exact Int.mul_ediv_cancel_left _ oo_
  rw [q1,q2,q3,q4,hx,hy,hz,ht];grind
theorem PW (a b:Rt):dG a b=fO a b:=by
  unfold dG fO;rw [lW,lW,UR,G1,G1]
  cases hga:aG a<;>cases hgb:aG b<;>simp only [Bool.not_true,Bool.not_false,Bool.or_true,Bool.true_or,Bool.or_false,cond_true,cond_false]
  obtain ⟨n,d,ha⟩:=gM_.1 hga;obtain ⟨m,e,hb⟩:=gM_.1 hgb;obtain ⟨p,q,r,s,e1,e2,hp,hq,hr,hs,q0,s0,hc,_⟩:=K0 ha hb;rw [e1,e2];simp only [dB,o4 hp hr,o4 hq hs]
  by_cases b1:fE (p*r)
  · by_cases b2:fE (q*s)
    · rw [KQ b1 b2 (Int.mul_pos q0 s0) hc,U0 b1,U0 b2];rfl
    rw [QS b2,IN,fu_,Bool.or_true];rfl
  rw [QS b1,IM];rfl
def Rt.Vld (a:Rt):Prop:=aG a=true∨a=lB
theorem YU {a:Rt} (h:a.Vld):dP (aJ (wl 0)) a=a:=by
  have h0:(aJ (wl 0)).Is 0 1:=by
    have:aJ (wl 0)=⟨E (Z.of 0),E (Z.of 1)⟩:=by
      show bH (E (Z.of 0)) F_skewbackref04_one=_
      rw [dP_,KQ B0 B1 dd_ dd_]
    rw [this];exact ⟨rfl,rfl,B0,B1,by decide,by decide⟩
  unfold dP;rw [gM_.2 ⟨_,_,h0⟩];rcases h with hg|hb
  · obtain ⟨n,d,ha⟩:=gM_.1 hg
    have hd0:=ha.pos;simp only [hg,Bool.not_true,Bool.or_false,cond_false];rw [h0.en,h0.ed,ha.en,ha.ed];simp only [dB];rw [BE B1 ha.hd,Int.gcd_one_left]
    rw [show ((1:Nat):Int)=1 from rfl,BK ha.hd B1 dd_,BK B1 B1 dd_,FO,FO,o4 B0 ha.hd,Int.zero_mul,o4 ha.hn B1,Int.mul_one,EP B0 ha.hn,Int.zero_add,o4 B1 ha.hd,Int.one_mul,
      KQ ha.hn ha.hd ha.pos ha.cop]
    exact Rt.ext ha.en.symm ha.ed.symm
  have hn:aG a=false:=by rw [hb];decide +kernel
  rw [hn];exact hb.symm
theorem cO_ {p q:Int} (hp:fE p) (hq:fE q) (h0:0<q) (hc:Int.gcd p q=1):Rt.Vld ⟨E (Z.of p),E (Z.of q)⟩:=.inl (gM_.2 ⟨p,q,rfl,rfl,hp,hq,h0,hc⟩)
theorem en_ (a b:Rt):(fO a b).Vld:=by
  unfold fO
  cases hga:aG a<;>cases hgb:aG b<;>simp only [Bool.not_true,Bool.not_false,Bool.or_true,Bool.true_or,Bool.or_false,cond_true,cond_false]<;>try exact .inr rfl
  obtain ⟨n,d,ha⟩:=gM_.1 hga;obtain ⟨m,e,hb⟩:=gM_.1 hgb;obtain ⟨p,q,r,s,e1,e2,hp,hq,hr,hs,q0,s0,hc,_⟩:=K0 ha hb;rw [e1,e2];simp only [dB,o4 hp hr,o4 hq hs]
  by_cases b1:fE (p*r)
  · by_cases b2:fE (q*s)
    · rw [KQ b1 b2 (Int.mul_pos q0 s0) hc];exact cO_ b1 b2 (Int.mul_pos q0 s0) hc
    rw [QS b2,IN];exact .inr rfl
  rw [QS b1,IM];exact .inr rfl
theorem bj_ {x:I} (h:gdI x=true):x.dec=Z.of (vI x):=by
  conv=>lhs;rw [(I8 h).1,dB]
theorem h3_ {x:I} (h:gdI x=true):zrI x=decide (vI x=0):=by
  conv=>lhs;rw [(I8 h).1]
  exact eo_ (I8 h).2
def fg (g:Nat) (x:I):Nat:=Int.gcd g (vI x)
theorem gL_ {g:Nat} {v:Int} (hg:fE (g:Int)) (hv:fE v):fE ((Int.gcd g v:Nat):Int):=by
  by_cases h:v=0
  · subst h
    rw [Int.gcd_zero_right,Int.natAbs_natCast];exact hg
  exact LY hv h
theorem LK (l0:List I):∀ (r:List I) (g:Nat),r.all gdI=true→fE (g:Int)→lJ l0 r (E (Z.of (g:Int)))=E (Z.of ((r.foldl fg g:Nat):Int))∧fE ((r.foldl fg g:Nat):Int)
  | [],g,_,hg=>⟨rfl,hg⟩
  | x::r,g,h,hg=>by
    rw [List.all_cons,Bool.and_eq_true] at h;have hx:=I8 h.1
    have e:E (Z.gcd (E (Z.of (g:Int))).dec x.dec)=E (Z.of ((fg g x:Nat):Int)):=by
      rw [dB,bj_ h.1,BE hg hx.2];rfl
    unfold lJ;rw [e];exact LK l0 r _ h.2 (gL_ hg hx.2)
def cN (l:List I):Nat:=l.foldl fg 0
theorem ES {l:List I} (h:l.all gdI=true):dN l=E (Z.of ((cN l:Nat):Int))∧fE ((cN l:Nat):Int):=LK l l 0 h B0
theorem SP:∀ (l:List I) (g:Nat),l.foldl fg g ∣ g∧∀ x∈l,((l.foldl fg g:Nat):Int) ∣ vI x
  | [],g=>⟨Nat.dvd_refl _,fun x hx=>by cases hx⟩
  | y::l,g=>by
    obtain ⟨h1,h2⟩:=SP l (fg g y)
    have h3:fg g y ∣ g:=by have:=Int.gcd_dvd_natAbs_left (g:Int) (vI y);simpa [fg] using this
    have h4:((fg g y:Nat):Int) ∣ vI y:=Int.gcd_dvd_right ..;refine ⟨Nat.dvd_trans h1 h3,fun x hx=>?_⟩;rcases List.mem_cons.1 hx with rfl|hx
    · exact Int.dvd_trans (Int.natCast_dvd_natCast.2 h1) h4
    exact h2 x hx
theorem IG {l:List I} {x:I} (h:x∈l):((cN l:Nat):Int) ∣ vI x:=(SP l 0).2 x h
theorem bD_ {α:Type} (f:I→α) (l:List I):(List.range l.length).map (fun k=>f (l.getD k I0))=l.map f:=by
  refine List.ext_getElem? fun k=>?_
  by_cases h:k<l.length
  · simp [h]
  simp [h]
theorem f2_ {l:List I} (h:l.all gdI=true) (h2:nV l=l) (h3:l.length≤25):mkP l=l:=by
  unfold mkP;rw [h,cond_true,h2,if_pos h3]
theorem Z7 {l:List I} (f:I→I) (h:nV l=l) (hf:∀ x∈l,zrI x=false→zrI (f x)=false):nV (l.map f)=l.map f:=by
  rcases vU l with rfl|⟨m,x,rfl⟩
  · rfl
  rw [List.map_append,List.map_cons,List.map_nil,vV,hf x (by simp) (GW h),cond_false]
theorem b0_ {p:List I} (h:p.all gdI=true) (hs:nV p=p) (hl:p.length≤25):d7 p=p.map fun x=>E (Z.of ((vI x).fdiv (cN p))):=by
  unfold d7;rw [wV _ oo_ dd_];simp only [List.length_nil,Nat.max_zero,List.all_nil,Bool.and_true,h,cond_true];have hc:=ES h
  have e:(List.range p.length).map (fun k=>pA (p.getD k I0) (([]:List I).getD k I0) (dN p))=p.map fun x=>E (Z.quo x.dec (Z.of ((cN p:Nat):Int))):=by
    rw [← bD_ (fun x=>E (Z.quo x.dec (Z.of ((cN p:Nat):Int))))];refine List.map_congr_left fun k _=>?_
    show E (Z.quo (p.getD k I0).dec (dN p).dec)=_
    rw [hc.1,dB]
  rw [e];rcases vU p with rfl|⟨m,x,rfl⟩
  · rfl
  have hx:gdI x=true:=List.all_eq_true.1 h x (by simp);have hz:=GW hs;rw [h3_ hx] at hz;have hv0:vI x≠0:=of_decide_eq_false hz
  have hc0:((cN (m++[x]):Nat):Int)≠0:=fun h0=>by
    have:=IG (l:=m++[x]) (x:=x) (by simp);rw [h0] at this;exact hv0 (Int.zero_dvd.1 this)
  have e2:(m++[x]).map (fun x'=>E (Z.quo x'.dec (Z.of ((cN (m++[x]):Nat):Int))))=(m++[x]).map fun x'=>E (Z.of ((vI x').fdiv (cN (m++[x])))):=by
    refine List.map_congr_left fun y hy=>?_;have hy':=I8 (List.all_eq_true.1 h y hy);rw [bj_ (List.all_eq_true.1 h y hy),BK hy'.2 hc.2 hc0]
  rw [e2]
  have hB:∀ y∈m++[x],fE ((vI y).fdiv (cN (m++[x]))):=fun y hy=>by
    have hy':=I8 (List.all_eq_true.1 h y hy);have hd:=LU (IG hy)
    have hle:((vI y).fdiv (cN (m++[x]))).natAbs≤(vI y).natAbs:=by
      conv=>rhs;rw [← hd]
      rw [Int.natAbs_mul];exact Nat.le_mul_of_pos_left _ oo_
    exact Nat.lt_of_le_of_lt hle hy'.2
  refine f2_ ?_ (Z7 _ hs fun y hy hzy=>?_) (by rw [List.length_map];exact hl)
  · rw [List.all_eq_true]
    intro z hz;obtain ⟨y,hy,rfl⟩:=List.mem_map.1 hz;exact SU (hB y hy)
  rw [h3_ (List.all_eq_true.1 h y hy)] at hzy;rw [eo_ (hB y hy)];refine decide_eq_false fun h0=>of_decide_eq_false hzy ?_;have hd:=LU (IG hy);rw [h0,Int.mul_zero] at hd;exact hd.symm
theorem bZ_ (p:List I) (hp:p.length≤1000):Rgt (d7 p):=by
  unfold d7;rw [wV _ hp dd_]
  cases (p.all gdI&&List.all [] gdI)
  · exact .inl rfl
  exact QR _
end Go.Num
namespace Go.Proofs.YtkjjponijamaoaaGreatDoor
open Go.Kn Go.Num Tryz
attribute [local irreducible] Go.Kn.W WL PL OpQ OpR OpS
theorem uE (vp:Value) (p:(List I)) (x:Rt) (w:World) (hp:Slr w elI vp p) (hpre:p.length≤100) :
    Calls prog 219 [vp,AV [pI x.n,pI x.d]].toArray w (fun e w'=>e = .returned (AV [pI ((iZ p x).n),pI ((iZ p x).d)])∧Ext w w'):=by
 obtain ⟨p_p,c_p,rfl⟩:=hp.form;refine cS (N:=11) func219 rfl rfl (by simp) ?_;obtain ⟨w0,rfl⟩:∃ w0,w0=w:=⟨_,rfl⟩;have Hp:=hp.old;have hm_p:=hp.max;simp only [bO,Nat.reduceAdd];refine go2 ?_;intro b1 hb1;refine go_ ?_;intro b2 hb2;refine go4 ?_;refine sQ (aL (v':=.tuple #[AV [pI ((iE p x).1)],AV [pI ((iE p x).2)]]) (bT aB rfl (fun w hw=>E1 _ p x w (aR hw Hp sn) oo_)) rfl) rfl (go2 ?_);obtain ⟨r3,hr3⟩:=nm ((cX ((iE p x).1) ((iE p x).2)):Rt);refine sC (AV [pI r3.n,pI r3.d]) aB (pZ ((iE p x).1) ((iE p x).2)) rfl rfl (by rw [hr3]) (go3 ?_);refine bA rfl (.inr rfl) (eF rfl m0 tyT rfl) ?_;exact (by subst hr3;rfl)
theorem TL (h:Path) (v:(A3 W)) (t:Rt) :
    Ret prog 142 [AV [cw h.from_.x.x.1,cw h.from_.x.y.1,cw h.from_.x.z.1,cw h.from_.q.x.1,cw h.from_.q.y.1,cw h.from_.q.z.1,cw h.from_.q.t.1,cw h.to_.x.x.1,cw h.to_.x.y.1,cw h.to_.x.z.1,cw h.to_.q.x.1,cw h.to_.q.y.1,cw h.to_.q.z.1,cw h.to_.q.t.1],AV [cw v.x.1,cw v.y.1,cw v.z.1],AV [pI t.n,pI t.d]] (AV [pI (((rU h v t).x).n),pI (((rU h v t).x).d),pI (((rU h v t).y).n),pI (((rU h v t).y).d),pI (((rU h v t).z).n),pI (((rU h v t).z).d)]):=by
 refine bL (N:=33) func142 rfl rfl (by simp) (fun w0=>?_);simp only [bO,Nat.reduceAdd];refine go2 ?_;intro b1 hb1;refine go_ ?_;intro b2 hb2;refine go_ ?_;intro b3 hb3;refine go_ ?_;intro b4 hb4;refine go4 ?_;refine bD rfl (A5 (E:=31) (e:=elI) (l1:=((bB h v).1).x) (l2:=((bB h v).1).y) (l3:=((bB h v).1).z) (l4:=(bB h v).2) (fun v1 v2 v3 v4=>.tuple #[.agg #[v1,v2,v3],v4]) aB rfl (fun w hw=>DU h v w) (fun p5 c6 L7 p9 c10 L11 p13 c14 L15 p17 c18 L19 hF8 hF12 hF16 hF20=>?_));have hb21:(((bB h v).1).x).length≤25:=(CH h v);have hb22:(((bB h v).1).y).length≤25:=(CI h v);have hb23:(((bB h v).1).z).length≤25:=(CJ h v);have hb24:((bB h v).2).length≤25:=(CG h v);refine go4 ?_;intro b25 hb25;refine go3 ?_;refine i9 (sk (sA (sA (sA (sA (sk (sk (sd (sd (s0)))))))))) ?_;refine go2 ?_;intro b26 hb26;refine go6 ?_;refine sO 5 (go2 ?_);refine sV (.bool true) rfl rfl (jT ?_);refine jQ (sd s0) 12 [11] [11] (go5 ?_);obtain ⟨r27,hr27⟩:=nm ((iZ (((bB h v).1).x) t):Rt);refine pQ rfl (aL (v':=AV [pI r27.n,pI r27.d]) (bT aB rfl (fun w hw=>uE _ (((bB h v).1).x) t w (aO hw hF8 (sd (sd lZ))) oo_)) (by rw [hr27])) (go2 ?_);obtain ⟨r28,hr28⟩:=nm ((iZ ((bB h v).2) t):Rt);refine pQ rfl (aL (v':=AV [pI r28.n,pI r28.d]) (bT aB rfl (fun w hw=>uE _ ((bB h v).2) t w (aO hw hF20 (sd (sd (sR (sR (sR lZ)))))) oo_)) (by rw [hr28])) (pQ rfl (bI aB (BM r27 r28) rfl) (go4 ?_));refine sV (.int .i64 1) rfl rfl (go4 ?_);refine sV (.bool true) rfl rfl (jT ?_);refine jQ (sd s0) 12 [11] [11] (go5 ?_);obtain ⟨r29,hr29⟩:=nm ((iZ (((bB h v).1).y) t):Rt);refine pQ rfl (aL (v':=AV [pI r29.n,pI r29.d]) (bT aB rfl (fun w hw=>uE _ (((bB h v).1).y) t w (aO hw hF12 (sd (sd (sR lZ)))) oo_)) (by rw [hr29])) (go2 ?_);obtain ⟨r30,hr30⟩:=nm ((iZ ((bB h v).2) t):Rt);refine pQ rfl (aL (v':=AV [pI r30.n,pI r30.d]) (bT aB rfl (fun w hw=>uE _ ((bB h v).2) t w (aO hw hF20 (sd (sd (sR (sR (sR lZ)))))) oo_)) (by rw [hr30])) (pQ rfl (bI aB (BM r29 r30) rfl) (go4 ?_));refine sV (.int .i64 2) rfl rfl (go4 ?_);refine sV (.bool true) rfl rfl (jT ?_);refine jQ (sd s0) 12 [11] [11] (go5 ?_);obtain ⟨r31,hr31⟩:=nm ((iZ (((bB h v).1).z) t):Rt);refine pQ rfl (aL (v':=AV [pI r31.n,pI r31.d]) (bT aB rfl (fun w hw=>uE _ (((bB h v).1).z) t w (aO hw hF16 (sd (sd (sR (sR lZ))))) oo_)) (by rw [hr31])) (go2 ?_);obtain ⟨r32,hr32⟩:=nm ((iZ ((bB h v).2) t):Rt);refine pQ rfl (aL (v':=AV [pI r32.n,pI r32.d]) (bT aB rfl (fun w hw=>uE _ ((bB h v).2) t w (aO hw hF20 (sd (sd (sR (sR (sR lZ)))))) oo_)) (by rw [hr32])) (pQ rfl (bI aB (BM r31 r32) rfl) (go4 ?_));refine sV (.int .i64 3) rfl rfl (go4 ?_);refine sV (.bool false) rfl rfl (go4 ?_);refine i9 (sk (sd (sR (sR (sR (sR (sk (sd (s0))))))))) ?_;refine go5 ?_;refine bA rfl (.inr rfl) (eF rfl m1 tyT rfl) ?_;rw [hr27,hr28,hr29,hr30,hr31,hr32];rfl
theorem oP (a:I) :
    Ret prog 194 [AV [pI a]] (.bool (gZ a)):=by
 refine bL (N:=10) func194 rfl rfl (by simp) (fun w0=>?_);simp only [bO,Nat.reduceAdd];refine go2 ?_;intro b1 hb1;refine go2 ?_;refine gJv [2,3,4,5,6,7,8,9] [(2,.bool (!a.1.bad&&a.1.valid))] (fun K1 J1=>?_) ?_
 ·refine go4 ?_;rcases bt a.1.bad with h3|h3
  ·refine sB (gE h3) rfl (go5 ?_);refine J1 _ _ pp_ s0 (bK (MO h3))
  refine sB (iK h3) rfl (go_ ?_);refine sC (.bool a.1.valid) aB (wC a.1 a.2) rfl rfl rfl (go3 ?_);refine J1 _ _ pp_ s0 (bK (MN h3 rfl))
 intro g4;refine go_ ?_;refine bA rfl (.inr rfl) rfl ?_;exact (by rfl)
theorem fV (vp:Value) (p:(List I)) (w:World) (hp:Slr w elI vp p) :
    Calls prog 117 [vp].toArray w (fun e w'=>e = .returned (.bool (bG p))∧Ext w w'):=by
 obtain ⟨p_p,c_p,rfl⟩:=hp.form;refine cS (N:=18) func117 rfl rfl (by simp) ?_;obtain ⟨w0,rfl⟩:∃ w0,w0=w:=⟨_,rfl⟩;have Hp:=hp.old;have hm_p:=hp.max;simp only [bO,Nat.reduceAdd];refine go7 ?_;refine gJ3 [2,3,4,5,6,7,8,9,10,11,12,13,14,15,16,17] (fun g M=>∃ (i:Nat),(i2 p ((p.length+1)) 0) = .inl i∧(g 3 = .int .i64 ((i:Nat):Int))∧M=[]) (fun K_u1 hK_u1=>?_) ?_
 ·refine go_ ?_;refine cK [2,3,4,5,6,7,8,9,10,11,12,13,14,15,16,17] (fun g nn M=>∃ (i:Nat),(i2 p nn i)=(i2 p ((p.length+1)) 0)∧p.length - i<nn∧(i≤p.length)∧(g 3 = .int .i64 ((i:Nat):Int))∧M=[]) ((p.length+1)) ?start ?round
  case start=>exact ⟨_,s0,0,rfl,o1_,o1_,rfl,rfl⟩
  case round =>
   rintro nn g M ⟨i,hT0,hq0,hinv0,hg3,rfl⟩;obtain ⟨k0,rfl⟩:∃ m,nn=m+1:=⟨nn - 1,by omega⟩;simp only [fF,hg3];clear hg3;refine go4 ?_;refine sQ (aL (v':=.int .i64 (((p).length:Nat):Int)) (eR (e:=elI) jV rfl (SLe.sub Hp sn)) rfl) rfl (go2 ?_);refine aH _ rfl (fun h6=>?_) (fun h6=>?_)
   ·have ph6:=of_decide_eq_true h6;refine go6 ?_;refine sQ (aL (v':=.pointer (some (slb (.slice p_p p.length c_p) (i*18+0)))) (lI (e:=elI) (l:=p) (k:=i) jV rfl rfl (SLe.sub Hp sn) o2_) rfl) rfl ?_;refine sQ (mE (e:=elI) (l:=p) (k:=i) (o:=0) tyT rfl (SLe.sub Hp sn) (eH I0 o2_) rfl) rfl ?_;refine sQ (bI aB (oP (p.getD i I0)) rfl) rfl (go6 ?_);rcases bt (gZ (p.getD i I0)) with h7|h7
    ·refine W_f (gE h7) rfl (go3 ?_);refine sV (.int .i64 (((i+1):Nat):Int)) rfl (congrArg (Value.int .i64) (wx oo_ oo_ oo_)) (go2 ?_);refine ⟨pp_,_,_,s0,(Nat.lt_succ_self _),(i+1),(by exact (hT0.symm.trans (Eq.symm (aY h6 (aY h7 rfl)))).symm),(Nat.lt_of_lt_of_le o1_ (Nat.le_of_lt_succ hq0)),o1_,rfl,rfl⟩
    refine W_t (iK h7) rfl (go4 ?_);refine bA rfl (.inr rfl) rfl ?_;exact congrArg vS2 (show _=(bG p) from (DI rfl (hT0.symm.trans (Eq.symm (aY h6 (aI h7 rfl))))))
   have ph6:=of_decide_eq_false h6;refine go_ ?_;refine hK_u1 _ _ pp_ ⟨_,s0,i,(by exact hT0.symm.trans (Eq.symm (aI h6 rfl))),rfl,rfl⟩
 rintro g M ⟨i,hCu1,hg3,rfl⟩;simp only [fF,hg3];clear hg3;refine go4 ?_;refine bA rfl (.inr rfl) rfl ?_;exact congrArg vS2 (show _=(bG p) from trs (Eq.symm (smS hCu1)) rfl)
theorem wG (n:I) (k:Int) (w:World)  (hpre:k≤200) :
    Calls prog 267 [AV [pI n],.int .i64 k].toArray w (fun e w'=>e = .returned (AV [pI (iV n k)])∧Ext w w'):=by
 refine cS (N:=17) func267 rfl rfl (by simp) ?_;obtain ⟨w0,rfl⟩:∃ w0,w0=w:=⟨_,rfl⟩;simp only [bO,Nat.reduceAdd];refine go2 ?_;intro b1 hb1;refine go_ ?_;intro b2 hb2;refine go2 ?_;refine sC (AV [pI (E (Z.of 1))]) aB (cI (wl 1).1 (wl 1).2) rfl rfl rfl ?_;refine go_ ?_;intro b3 hb3;refine go6 ?_;refine gJ3 [6,8,9,10,11,12,13,14,15] (fun g M=>∃ (i:Nat) (mb3:I),(jW n k ((k.toNat+1)) 0 (E (Z.of 1)))=(i,mb3)∧(g 6 = .int .i64 ((i:Nat):Int))∧M=[⟨b3,31,cV [pI mb3]⟩,⟨b2,31,cV [pI I0]⟩,⟨b1,31,cV [pI n]⟩]) (fun K_u4 hK_u4=>?_) ?_
 ·refine go_ ?_;refine cK [6,8,9,10,11,12,13,14,15] (fun g nn M=>∃ (i:Nat) (mb3:I),(jW n k nn i mb3)=(jW n k ((k.toNat+1)) 0 (E (Z.of 1)))∧k.toNat - i<nn∧(i≤k.toNat)∧(g 6 = .int .i64 ((i:Nat):Int))∧M=[⟨b3,31,cV [pI mb3]⟩,⟨b2,31,cV [pI I0]⟩,⟨b1,31,cV [pI n]⟩]) ((k.toNat+1)) ?start ?round
  case start=>exact ⟨_,s0,0,(E (Z.of 1)),rfl,o1_,o1_,rfl,rfl⟩
  case round =>
   rintro nn g M ⟨i,mb3,hT0,hq0,hinv0,hg6,rfl⟩;obtain ⟨k0,rfl⟩:∃ m,nn=m+1:=⟨nn - 1,by omega⟩;simp only [fF,hg6];clear hg6;refine go6 ?_;refine aH _ rfl (fun h7=>?_) (fun h7=>?_)
   ·have ph7:=of_decide_eq_true h7;refine go6 ?_;refine sC (AV [pI (E (Z.mul mb3.dec n.dec))]) aB (cZ mb3.1 n.1 mb3.2 n.2) rfl rfl rfl (go4 ?_);refine sV (.int .i64 (((i+1):Nat):Int)) rfl (congrArg (Value.int .i64) (wx oo_ oo_ oo_)) (go2 ?_);refine ⟨pp_,_,_,s0,(Nat.lt_succ_self _),(i+1),(E (Z.mul mb3.dec n.dec)),(by exact (hT0.symm.trans (Eq.symm (aY h7 rfl))).symm),(Nat.lt_of_lt_of_le o1_ (Nat.le_of_lt_succ hq0)),o1_,rfl,rfl⟩
   have ph7:=of_decide_eq_false h7;refine go_ ?_;refine hK_u4 _ _ pp_ ⟨_,s0,i,mb3,(by exact hT0.symm.trans (Eq.symm (aI h7 rfl))),rfl,rfl⟩
 rintro g M ⟨i,mb3,hCu4,hg6,rfl⟩;simp only [fF,hg6];clear hg6;refine go5 ?_;refine bA rfl (.inr rfl) (eF rfl m1 tyT rfl) ?_;exact congrArg vS4 (show _=(iV n k) from (by unfold iV;exact trs (Eq.symm (apS hCu4)) rfl))
theorem oO (a:Rt) :
    Ret prog 263 [AV [pI a.n,pI a.d]] (.bool (eU a)):=by
 refine bL (N:=26) func263 rfl rfl (by simp) (fun w0=>?_);simp only [bO,Nat.reduceAdd];refine go2 ?_;intro b1 hb1;refine go3 ?_;refine gJv [3,4,5,6,7,8,9,10,11,12,13,14,15,16,17,18] [(18,.bool (!(gZ a.n)||(!(gZ a.d)||decide ((Z.signW a.d.dec).1≤0))))] (fun K2 J2=>?_) ?_
 ·refine go3 ?_;refine sQ (bI aB (oP a.n) rfl) rfl (go_ ?_);rcases bt (gZ a.n) with h4|h4
  ·refine sB (gE h4) rfl (go2 ?_);refine sQ (bI aB (oP a.d) rfl) rfl (go2 ?_);rcases bt (gZ a.d) with h5|h5
   ·refine sB (gE h5) rfl (go2 ?_);refine sC (.int .i64 ((Z.signW a.d.dec).1)) aB (gR a.d.1 a.d.2) rfl rfl rfl (go3 ?_);refine J2 _ _ pp_ s0 (bK (jU h4 (jU h5 rfl)))
   refine sB (iK h5) rfl (go6 ?_);refine J2 _ _ pp_ s0 (bK (jU h4 (n7 h5)))
  refine sB (iK h4) rfl (vH ?_);refine J2 _ _ pp_ s0 (bK (n7 h4))
 intro g6;refine aH _ rfl (fun h7=>?_) (fun h7=>?_)
 ·refine go4 ?_;refine bA rfl (.inr rfl) rfl ?_;exact congrArg vS2 (show _=(eU a) from aY h7 rfl)
 refine go6 ?_;refine sC (AV [pI (E (Z.gcd a.n.dec a.d.dec))]) aB (o8 a.n.1 a.d.1 a.n.2 a.d.2) rfl rfl rfl (sC (AV [pI (E (Z.of 1))]) aB (cI (wl 1).1 (wl 1).2) rfl rfl rfl ?_);refine sQ (vT (r:=decide ((E (Z.gcd a.n.dec a.d.dec))=(E (Z.of 1)))) rfl rfl (oB 8 dd_ OR O0 (mU fH) (mU fH) (sH lT))) rfl (go3 ?_);refine bA rfl (.inr rfl) rfl ?_;exact congrArg vS2 (show _=(eU a) from aI h7 rfl)
theorem CM (vp:Value) (p:(List I)) (x:Rt) (w:World) (hp:Slr w elI vp p) (hpre:p.length≤100) :
    Calls prog 220 [vp,AV [pI x.n,pI x.d]].toArray w (fun e w'=>e = .returned (AV [pI (eX p x)])∧Ext w w'):=by
 obtain ⟨p_p,c_p,rfl⟩:=hp.form;refine cS (N:=42) func220 rfl rfl (by simp) ?_;obtain ⟨w0,rfl⟩:∃ w0,w0=w:=⟨_,rfl⟩;have Hp:=hp.old;have hm_p:=hp.max;simp only [bO,Nat.reduceAdd];refine go2 ?_;intro b1 hb1;refine go_ ?_;intro b2 hb2;refine go2 ?_;refine gJv [7,8,9,10,11,12,13] [(13,.bool ((bG p)||(!(eU x))))] (fun K2 J2=>?_) ?_
 ·refine go2 ?_;refine sQ (aL (v':=.bool (bG p)) (bT aB rfl (fun w hw=>fV _ p w (aR hw Hp sn))) rfl) rfl ?_;refine sBB rfl (fun h4=>?_) (fun h4=>?_)
  ·refine go5 ?_;refine J2 _ _ pp_ s0 (bK (mF h4))
  refine go_ ?_;refine sQ (bI aB (oO x) rfl) rfl (go3 ?_);refine J2 _ _ pp_ s0 (bK (j9 h4 rfl))
 intro g5;refine aH _ rfl (fun h6=>?_) (fun h6=>?_)
 ·refine go_ ?_;refine sC (AV [pI (E Z.bad)]) aB fQ rfl rfl rfl (go3 ?_);refine bA rfl (.inr rfl) (eF rfl m0 tyT rfl) ?_;exact congrArg vS4 (show _=(eX p x) from aY h6 rfl)
 refine go4 ?_;intro b7 hb7;refine go5 ?_;refine sQ (aL (v':=.int .i64 (((p).length:Nat):Int)) (eR (e:=elI) jV rfl (SLe.sub Hp sn)) rfl) rfl (sV (.int .i64 ((((p).length:Nat):Int) - 1)) rfl (congrArg (Value.int .i64) (wx oo_ oo_ oo_)) (go2 ?_));refine gJ3 [6,19,20,21,22,23,24,25,26,27,28,29,30,31,32,33,34,35,36,37,38,39,40] (fun g M=>∃ (i:Int) (mb7:I),(jY p x ((p.length+1)) ((((p).length:Nat):Int) - 1) I0)=(i,mb7)∧(g 6 = .int .i64 i)∧M=[⟨b7,31,cV [pI mb7]⟩,⟨b2,31,cV [pI I0]⟩,⟨b1,33,cV [pI x.n,pI x.d]⟩]) (fun K_u8 hK_u8=>?_) ?_
 ·refine go_ ?_;refine cK [6,19,20,21,22,23,24,25,26,27,28,29,30,31,32,33,34,35,36,37,38,39,40] (fun g nn M=>∃ (i:Int) (mb7:I),(jY p x nn i mb7)=(jY p x ((p.length+1)) ((((p).length:Nat):Int) - 1) I0)∧(i+1).toNat<nn∧(i<(p.length:Int)∧-1≤i)∧(g 6 = .int .i64 i)∧M=[⟨b7,31,cV [pI mb7]⟩,⟨b2,31,cV [pI I0]⟩,⟨b1,33,cV [pI x.n,pI x.d]⟩]) ((p.length+1)) ?start ?round
  case start=>exact ⟨_,s0,((((p).length:Nat):Int) - 1),I0,rfl,o1_,o1_,rfl,rfl⟩
  case round =>
   rintro nn g M ⟨i,mb7,hT0,hq0,hinv0,hg6,rfl⟩;obtain ⟨k0,rfl⟩:∃ m,nn=m+1:=⟨nn - 1,by omega⟩;simp only [fF,hg6];clear hg6;refine go5 ?_;refine aH _ rfl (fun h13=>?_) (fun h13=>?_)
   ·have ph13:=of_decide_eq_true h13;refine go3 ?_;refine gdr (sd s0) [0,4,8,12,16,20,24,28,32,36,40,44,48,52,56,60,64,68,73] [18] mix (by kernel_rfl) (go3 ?_);refine pC (AV [pI (E (Z.mul mb7.dec x.n.dec))]) aB (cZ mb7.1 x.n.1 mb7.2 x.n.2) rfl rfl rfl (go2 ?_);refine pQ rfl (aL (v':=.pointer (some (slb (.slice p_p p.length c_p) (((i).toNat)*18+0)))) (u6 (e:=elI) (l:=p) (k:=(i).toNat) jV rfl rfl oo_ (SLe.sub Hp sn) o2_) rfl) ?_;refine pQ rfl (mE (e:=elI) (l:=p) (k:=(i).toNat) (o:=0) tyT rfl (SLe.sub Hp sn) (eH I0 o2_) rfl) ?_;refine go3 ?_;refine pQ rfl (aL (v':=.int .i64 (((p).length:Nat):Int)) (eR (e:=elI) jV rfl (SLe.sub Hp sn)) rfl) (pV (.int .i64 ((((p).length:Nat):Int) - 1)) rfl (congrArg (Value.int .i64) (wx oo_ oo_ oo_)) (go_ ?_));refine pV (.int .i64 (((((p).length:Nat):Int) - 1) - i)) rfl (congrArg (Value.int .i64) (wx oo_ oo_ oo_)) (pQ rfl (aL (v':=AV [pI (iV x.d (((((p).length:Nat):Int) - 1) - i))]) (bT aB rfl (fun w hw=>wG x.d (((((p).length:Nat):Int) - 1) - i) w oo_)) rfl) ?_);obtain ⟨r14,hr14⟩:=nm ((E (Z.mul (p.getD ((i).toNat) I0).dec (iV x.d (((((p).length:Nat):Int) - 1) - i)).dec)):I);refine pC (AV [pI r14]) aB (cZ (p.getD ((i).toNat) I0).1 (iV x.d (((((p).length:Nat):Int) - 1) - i)).1 (p.getD ((i).toNat) I0).2 (iV x.d (((((p).length:Nat):Int) - 1) - i)).2) rfl rfl (by subst hr14;rfl) (pC (AV [pI (E (Z.add (Z.mul mb7.dec x.n.dec) r14.dec))]) aB (nK (E (Z.mul mb7.dec x.n.dec)).1 r14.1 (E (Z.mul mb7.dec x.n.dec)).2 r14.2) rfl rfl (cg2 (fun p q=>AV [pI (E (Z.add p q))]) (dB _) rfl) (go4 ?_));refine sV (.int .i64 (i - 1)) rfl (congrArg (Value.int .i64) (wx oo_ oo_ oo_)) (go2 ?_);refine ⟨pp_,_,_,s0,(Nat.lt_succ_self _),(i - 1),(E (Z.add (Z.mul mb7.dec x.n.dec) r14.dec)),(by subst hr14;exact (hT0.symm.trans (Eq.symm (aY h13 rfl))).symm),(Nat.lt_of_lt_of_le o1_ (Nat.le_of_lt_succ hq0)),o1_,rfl,rfl⟩
   have ph13:=of_decide_eq_false h13;refine go_ ?_;refine hK_u8 _ _ pp_ ⟨_,s0,i,mb7,(by exact hT0.symm.trans (Eq.symm (aI h13 rfl))),rfl,rfl⟩
 rintro g M ⟨i,mb7,hCu8,hg6,rfl⟩;simp only [fF,hg6];clear hg6;refine go5 ?_;refine bA rfl (.inr rfl) (eF rfl m1 tyT rfl) ?_;exact congrArg vS4 (show _=(eX p x) from aI h6 (trs (Eq.symm (apS hCu8)) rfl))
theorem tY (vp:Value) (p:(List I)) (x:Rt) (w:World) (hp:Slr w elI vp p) (hpre:p.length≤100) :
    Calls prog 143 [vp,AV [pI x.n,pI x.d]].toArray w (fun e w'=>e = .returned (AV [cw (((aZ p x).s).1),cb ((aZ p x).ok)])∧Ext w w'):=by
 obtain ⟨p_p,c_p,rfl⟩:=hp.form;refine cS (N:=15) func143 rfl rfl (by simp) ?_;obtain ⟨w0,rfl⟩:∃ w0,w0=w:=⟨_,rfl⟩;have Hp:=hp.old;have hm_p:=hp.max;simp only [bO,Nat.reduceAdd];refine go2 ?_;intro b1 hb1;refine go_ ?_;intro b2 hb2;refine go4 ?_;refine sQ (aL (v':=AV [pI (eX p x)]) (bT aB rfl (fun w hw=>CM _ p x w (aR hw Hp sn) oo_)) rfl) rfl (go_ ?_);intro b3 hb3;refine go7 ?_;refine aH _ rfl (fun h4=>?_) (fun h4=>?_)
 ·refine go5 ?_;refine bA rfl (.inr rfl) (eF rfl m1 tyT rfl) ?_;exact congrArg (fun r:Sgd=>(AV [cw r.s.1,cb r.ok]:Value)) (show _=(aZ p x) from aY h4 rfl)
 refine go3 ?_;refine sC (.int .i64 ((Z.signW (eX p x).dec).1)) aB (gR (eX p x).1 (eX p x).2) rfl rfl rfl (go4 ?_);refine bA rfl (.inr rfl) (eF rfl m1 tyT rfl) ?_;exact congrArg (fun r:Sgd=>(AV [cw r.s.1,cb r.ok]:Value)) (show _=(aZ p x) from aI h4 rfl)
theorem EG (va:Value) (n k:Nat) (hk:k≤1000000) (w:World) (hva:Sl w va (dl n)) :
    Calls prog 217 [va,.int .i64 (k:Int)].toArray w (fun e w'=>e = .returned (.int .i64 ((n / 2 ^ k % 2:Nat):Int))∧Ext w w'):=by
 refine cS (N:=13) func217 rfl rfl (by simp) ?_;obtain ⟨w0,rfl⟩:∃ w0,w0=w:=⟨_,rfl⟩;simp only [bO,Nat.reduceAdd];refine go6 ?_;refine sQ (aL (mG rfl rfl dd_) (congrArg (Value.int .i64) (shq 16 dd_ oo_))) rfl (sQ (aL (bT aB rfl (fun w hw=>jJ va (dl n) (k / 16) w (SL.sl (M:=_) hva.old hw))) (congrArg (fun z:Nat=>Value.int .i64 (z:Int)) (FM n (k / 16)))) rfl (go_ ?_));refine sQ (aL (rR rfl rfl dd_) (congrArg (Value.int .i64) (shr 16 k))) rfl (sQ (yZ rfl rfl (Int.natCast_nonneg _)) rfl (sQ (aL (rR rfl rfl dd_) (congrArg (Value.int .i64) (db_ n k))) rfl (go3 ?_)));refine bA rfl (.inr rfl) rfl ?_;exact rfl
theorem xM (a:R) (ha:a.Ok) :
    Ret prog 141 [RV a] (.int .i64 ((a.dec.bits:Nat):Int)):=by
 refine bL (N:=25) func141 rfl rfl (by simp) (fun w0=>?_);simp only [bO,Nat.reduceAdd];refine go_ ?_;refine bD rfl (mB rfl rfl (fun b1 hb1=>go4 ?_));refine sQ (cP tyT rfl mm_ (cT ha)) rfl ?_;refine sQ (bI aB (cJ a ha) rfl) rfl (go2 ?_);refine aH _ rfl (fun hg=>?_) (fun hg=>?_)
 ·replace hg:=cB_ hg
  refine go4 ?_;refine bA rfl (.inr rfl) rfl ?_;exact congrArg (fun z:Nat=>Value.int .i64 (z:Int)) (aP_ (by simpa using hg)).symm
 replace hg:=cB_ hg
 refine go2 ?_;refine sQ (cP tyT rfl mm_ (cT ha)) rfl ?_;refine bD rfl (iJ aB rfl (fun w hw=>cH a ha w) (fun v L hv=>go3 ?_));have hl32:(dl (val a.w)).length≤32:=kK (by rw [← MS];have:=AB a.w ha.lim;rwa [ha.len] at this);refine go_ ?_;refine sQ (qK jK rfl (SL.sub hv.sl lZ)) rfl (sQ (aL (XU rfl rfl) (congrArg (Value.int .i64) (ho_ (Nat.le_trans hl32 dd_)))) rfl (go4 ?_));refine cK [4,13,14,15,16,17,18,19,20,21,22,23] (fun g nn M=>∃ (k:Nat),(g 4 = .int .i64 (k:Int))∧M=L++[⟨b1,31,a.cells⟩]∧nn=k+0∧(k≤16*(dl (val a.w)).length∧val a.w<2 ^ k)) (16*(dl (val a.w)).length) ?start ?round
 case start =>
  refine ⟨_,(List.Sublist.refl _),16*(dl (val a.w)).length,?a4,?mem0,rfl,⟨Nat.le_refl _,U1 _⟩⟩
  case mem0=>rfl
  case a4=>rfl
 case round =>
  rintro nn g M ⟨k,hg4,rfl,hmeas,⟨hk,hlt⟩⟩;subst nn;simp only [fF,hg4];clear hg4;refine go5 ?_
  cases hz:decide ((0:Int)<(k:Int))
  ·refine AH ?_;refine bA rfl (.inr rfl) rfl ?_;exact congrArg (fun z:Nat=>Value.int .i64 (z:Int)) (dc_ ha (by simpa using hg) hlt (by have:=of_decide_eq_false hz;omega)).symm
  have hz':=of_decide_eq_true hz;obtain ⟨m,rfl⟩:∃ m,k=m+1:=⟨k - 1,by omega⟩;refine go2 ?_;refine sQ (aL (sK rfl rfl) (congrArg (Value.int .i64) (CK oo_))) rfl (sQ (bT aB rfl (fun w hw=>EG v (val a.w) m oo_ w (SL.sl (SL.sub hv.sl lZ) hw))) rfl (go3 ?_));refine aH _ rfl (fun h0=>?_) (fun h0=>?_)
  ·replace h0:=cB_ h0
   refine go4 ?_;refine sQ (aL (sK rfl rfl) (congrArg (Value.int .i64) (CK oo_))) rfl (go2 ?_);refine ⟨pp_,_,_,(List.Sublist.refl _),oo_,m,?s4,?mem,rfl,⟨by omega,YZ hlt oo_⟩⟩
   case mem=>rfl
   case s4=>rfl
  replace h0:=cB_ h0
  refine go6 ?_;refine bA rfl (.inr rfl) rfl ?_;exact congrArg (fun z:Nat=>Value.int .i64 (z:Int)) ((BY ha (by simpa using hg)).trans (de_ hlt oo_)).symm
theorem BO (h:Path) (u:(A3 W)) (b:(A3 Rt)) (m:Rt) (vl:Value) (l:(List Rt)) (w:World) (hl:Slr w elRt vl l) :
    Calls prog 59 [AV [cw h.from_.x.x.1,cw h.from_.x.y.1,cw h.from_.x.z.1,cw h.from_.q.x.1,cw h.from_.q.y.1,cw h.from_.q.z.1,cw h.from_.q.t.1,cw h.to_.x.x.1,cw h.to_.x.y.1,cw h.to_.x.z.1,cw h.to_.q.x.1,cw h.to_.q.y.1,cw h.to_.q.z.1,cw h.to_.q.t.1],AV [cw u.x.1,cw u.y.1,cw u.z.1],AV [pI b.x.n,pI b.x.d,pI b.y.n,pI b.y.d,pI b.z.n,pI b.z.d],AV [pI m.n,pI m.d],vl].toArray w (fun e w'=>e = .returned (.bool (kQ h u b m l))∧Ext w w'):=by
 obtain ⟨p_l,c_l,rfl⟩:=hl.form;refine cS (N:=79) func59 rfl rfl (by simp) ?_;obtain ⟨w0,rfl⟩:∃ w0,w0=w:=⟨_,rfl⟩;have Hl:=hl.old;have hm_l:=hl.max;simp only [bO,Nat.reduceAdd];refine go2 ?_;intro b1 hb1;refine go_ ?_;intro b2 hb2;refine go_ ?_;intro b3 hb3;refine go_ ?_;intro b4 hb4;refine go7 ?_;refine bD rfl (aN (E:=31) (e:=elI) (l:=(cE h u b m).1) (fun v=>.tuple #[v,.int .i64 (((cE h u b m).2).1)]) aB rfl (fun w hw=>xG h u b m w) (fun p5 c6 L7 hF8=>?_));have hb9:=(xF h u b m);refine go6 ?_;refine i9 (sA (sd (sd (sd (sd (s0)))))) ?_;refine go_ ?_;refine gJv [26,27,28,29,30,31,32,33,34,35,36,37,38,39,40,41,42,43,44,45,46,47] [(47,.bool ((((cE h u b m).2).1 != 0)||(((((l).length:Nat):Int)==0)||(decide (4096<(((l).length:Nat):Int))||(!(decide (((l.getD ((l).length - 1) Rt0).n)=((bR (wl 1)).n))&&decide (((l.getD ((l).length - 1) Rt0).d)=((bR (wl 1)).d))))))))] (fun K2 J2=>?_) ?_
 ·refine gdr s0 [0,4,8,12,16,20,24,28,32,36,40,44,48,52,56,60,64,68,72,76,80,84] [] mix (by kernel_rfl) (go2 ?_);refine pBB rfl (fun h13=>?_) (fun h13=>?_)
  ·refine fR_ ?_;refine J2 _ _ pp_ s0 (bK (mF h13))
  refine go_ ?_;refine pQ rfl (aL (v':=.int .i64 (((l).length:Nat):Int)) (eR (e:=elRt) uW rfl (SLe.sub Hl sn)) rfl) (go2 ?_);refine pBB rfl (fun h14=>?_) (fun h14=>?_)
  ·have ph14:=IB h14;refine wP ?_;refine J2 _ _ pp_ s0 (bK (j9 h13 (mF h14)))
  have ph14:=y7 h14;refine go_ ?_;refine pQ rfl (aL (v':=.int .i64 (((l).length:Nat):Int)) (eR (e:=elRt) uW rfl (SLe.sub Hl sn)) rfl) (go2 ?_);refine pBB rfl (fun h15=>?_) (fun h15=>?_)
  ·have ph15:=of_decide_eq_true h15;refine jT ?_;refine J2 _ _ pp_ s0 (bK (j9 h13 (j9 h14 (mF h15))))
  have ph15:=of_decide_eq_false h15;refine go2 ?_;refine pQ rfl (aL (v':=.int .i64 (((l).length:Nat):Int)) (eR (e:=elRt) uW rfl (SLe.sub Hl sn)) rfl) (pV (.int .i64 ((((l).length:Nat):Int) - 1)) rfl (congrArg (Value.int .i64) (wx oo_ oo_ oo_)) (pQ rfl (aL (v':=.pointer (some (slb (.slice p_l l.length c_l) (((l).length - 1)*36+0)))) (u6 (e:=elRt) (l:=l) (k:=((l).length - 1)) uW rfl rfl oo_ (SLe.sub Hl sn) o2_) rfl) ?_));refine pQ rfl (mE (e:=elRt) (l:=l) (k:=((l).length - 1)) (o:=0) tyT rfl (SLe.sub Hl sn) (eH Rt0 o2_) rfl) ?_;refine pQ rfl (bI aB (lQ (wl 1)) rfl) ?_;refine pQ rfl (DC (r:=(decide (((l.getD ((l).length - 1) Rt0).n)=((bR (wl 1)).n))&&decide (((l.getD ((l).length - 1) Rt0).d)=((bR (wl 1)).d)))) rfl rfl (oB 8 dd_ SJ S8 (cQ fH (mU fH)) (cQ fH (mU fH)) (fU rfl lT (sH lT)))) ?_;refine go2 ?_;refine J2 _ _ pp_ s0 (bK (j9 h13 (j9 h14 (j9 h15 rfl))))
 intro g16;refine aH _ rfl (fun h17=>?_) (fun h17=>?_)
 ·refine go4 ?_;refine bA rfl (.inr rfl) rfl ?_;exact congrArg vS2 (show _=(kQ h u b m l) from aY h17 rfl)
 have ph18:=y7 (Bool.or_eq_false_iff.1 (Bool.or_eq_false_iff.1 h17).2).1;have ph19:=of_decide_eq_false (Bool.or_eq_false_iff.1 (Bool.or_eq_false_iff.1 (Bool.or_eq_false_iff.1 h17).2).2).1;refine go2 ?_;refine sQ (bI aB (lQ (wl 0)) rfl) rfl ?_;refine go_ ?_;intro b20 hb20;refine go5 ?_;refine sQ (aL (v':=.int .i64 (((l).length:Nat):Int)) (eR (e:=elRt) uW rfl (SLe.sub Hl sn)) rfl) rfl (go2 ?_);refine gJ3 [10,15,16,17,51,52,53,54,55,56,57,58,59,60,61,62,63,64,65,66,67,68,69,70,71,72,73,74,75,76,77,78] (fun g M=>∃ (mb20:Rt),(gC h u b m l l (bR (wl 0))) = .inl mb20∧(True)∧M=(⟨b20,33,cV [pI mb20.n,pI mb20.d]⟩::(L7++[]))) (fun K_u21 hK_u21=>?_) ?_
 ·refine go_ ?_;have hmx0:(l).length≤9223372036854775807:=hm_l;refine cK [10,15,16,17,51,52,53,54,55,56,57,58,59,60,61,62,63,64,65,66,67,68,69,70,71,72,73,74,75,76,77,78] (fun g nn M=>∃ (i0:Nat) (l0:List Rt) (mb20:Rt),(gC h u b m l l0 mb20)=(gC h u b m l l (bR (wl 0)))∧(l).drop i0=l0∧l0.length=nn∧g 51 = .int .i64 ((i0:Nat):Int)∧(True)∧M=(⟨b20,33,cV [pI mb20.n,pI mb20.d]⟩::(L7++[]))) (l).length ?start ?round
  case start=>exact ⟨_,s0,0,l,(bR (wl 0)),rfl,rfl,rfl,rfl,trivial,rfl⟩
  case round =>
   rintro nn g M ⟨i0,l0,mb20,hT0,hr0,rfl,hgi,-,rfl⟩;simp only [fF,hgi];clear hgi;refine go4 ?_;rcases l0 with _|⟨x0,l0⟩
   ·have h46:=FL hr0;refine W_f h46 rfl (go_ ?_);refine hK_u21 _ _ pp_ ⟨_,s0,mb20,(by exact hT0.symm.trans (Eq.symm (rfl))),trivial,rfl⟩
   have h47:=BZ hr0;have g48:=x9 hr0;refine W_t h47 rfl (go4 ?_);refine sQ (aL (v':=.pointer (some (slb (.slice p_l l.length c_l) (i0*36+0)))) (lI (e:=elRt) (l:=l) (k:=i0) uW rfl rfl (SLe.sub Hl sn) g48.2.1) rfl) rfl (sQ (mE (e:=elRt) (l:=l) (k:=i0) (o:=0) tyT rfl (SLe.sub Hl sn) g48.1 rfl) rfl (go_ ?_));intro b49 hb49;refine go3 ?_;refine gJv [55,56,57,58,59,60,61,62,63] [(63,.bool (!(aT x0)||decide ((jL x0 mb20).1≤0)))] (fun K19 J19=>?_) ?_
   ·refine go2 ?_;refine sQ (bI aB (eV x0) rfl) rfl (go_ ?_);rcases bt (aT x0) with h51|h51
    ·refine sB (gE h51) rfl (go2 ?_);refine sQ (bI aB (BL x0 mb20) rfl) rfl (go3 ?_);refine J19 _ _ pp_ s0 (bK (jU h51 rfl))
    refine sB (iK h51) rfl (go6 ?_);refine J19 _ _ pp_ s0 (bK (n7 h51))
   intro g52;refine aH _ rfl (fun h53=>?_) (fun h53=>?_)
   ·refine go4 ?_;refine bA rfl (.inr rfl) rfl ?_;exact congrArg vS2 (show _=(kQ h u b m l) from aI h17 ((DI rfl (hT0.symm.trans (Eq.symm (aY h53 rfl))))))
   refine go6 ?_;refine sQ (aL (v':=.tuple #[.bool ((fC ((cE h u b m).1) mb20 x0).1),.int .i64 (((fC ((cE h u b m).1) mb20 x0).2).1)]) (bT aB rfl (fun w hw=>D0 _ ((cE h u b m).1) mb20 x0 w (aO hw hF8 (sd (sd lZ))) (by first|omega|(simp;done)|(simp;omega)))) rfl) rfl ?_;refine go6 ?_;refine gJv [71,72,73,74,75,76] [(76,.bool (!((fC ((cE h u b m).1) mb20 x0).1)||(((fC ((cE h u b m).1) mb20 x0).2).1 != 0)))] (fun K21 J21=>?_) ?_
   ·refine go3 ?_;rcases bt ((fC ((cE h u b m).1) mb20 x0).1) with h55|h55
    ·refine sB (gE h55) rfl (go4 ?_);refine J21 _ _ pp_ s0 (bK (jU h55 rfl))
    refine sB (iK h55) rfl (go4 ?_);refine J21 _ _ pp_ s0 (bK (n7 h55))
   intro g56;refine aH _ rfl (fun h57=>?_) (fun h57=>?_)
   ·refine go4 ?_;refine bA rfl (.inr rfl) rfl ?_;exact congrArg vS2 (show _=(kQ h u b m l) from aI h17 ((DI rfl (hT0.symm.trans (Eq.symm (aI h53 (aY h57 rfl)))))))
   refine go6 ?_;refine sV (.int .i64 ((i0+1:Nat):Int)) rfl (congrArg (Value.int .i64) (nxt g48.2.1 hmx0)) (go2 ?_);refine ⟨pp_,_,_,(sd (s0)),(Nat.lt_succ_self _),i0+1,l0,x0,(by exact (hT0.symm.trans (Eq.symm (aI h53 (aI h57 rfl)))).symm),g48.2.2,rfl,rfl,trivial,rfl⟩
 rintro g M ⟨mb20,hCu21,-,rfl⟩;simp only [fF];refine go4 ?_;refine bA rfl (.inr rfl) rfl ?_;exact congrArg vS2 (show _=(kQ h u b m l) from aI h17 (trs (Eq.symm (smS hCu21)) rfl))
theorem DH (va:Value) (a:(List I)) (b:Rt) (w:World) (ha:Slr w elI va a) (hpre:a.length≤100) :
    Calls prog 65 [va,AV [pI b.n,pI b.d]].toArray w (fun e w'=>e = .returned (.int .i64 ((n5 a b).1))∧Ext w w'):=by
 obtain ⟨p_a,c_a,rfl⟩:=ha.form;refine cS (N:=14) func65 rfl rfl (by simp) ?_;obtain ⟨w0,rfl⟩:∃ w0,w0=w:=⟨_,rfl⟩;have Ha:=ha.old;have hm_a:=ha.max;simp only [bO,Nat.reduceAdd];refine go2 ?_;intro b1 hb1;refine go5 ?_;refine sQ (aL (v':=AV [cw (((aZ a b).s).1),cb ((aZ a b).ok)]) (bT aB rfl (fun w hw=>tY _ a b w (aR hw Ha sn) oo_)) rfl) rfl (go_ ?_);intro b2 hb2;refine go8 ?_;rcases bt ((aZ a b).ok) with h3|h3
 ·refine W_f (gE h3) rfl (go7 ?_);refine bA rfl (.inr rfl) rfl ?_;exact congrArg vS8 (show _=(n5 a b) from aY h3 rfl)
 refine W_t (iK h3) rfl (go4 ?_);refine bA rfl (.inr rfl) rfl ?_;exact congrArg vS8 (show _=(n5 a b) from aI h3 rfl)
theorem mH (x:Rt) (b:W) :
    Ret prog 62 [AV [pI x.n,pI x.d],.int .i64 b.1] (.bool (dF x b)):=by
 refine bL (N:=21) func62 rfl rfl (by simp) (fun w0=>?_);simp only [bO,Nat.reduceAdd];refine go2 ?_;intro b1 hb1;refine go2 ?_;refine gJv [4,5,6,7,8,9,10,11,12,13,14,15,16,17,18,19,20] [(4,.bool ((aG x)&&(decide ((Z.bitsW x.n.dec).1≤b.1)&&decide ((Z.bitsW x.d.dec).1≤b.1))))] (fun K1 J1=>?_) ?_
 ·refine go2 ?_;refine sQ (bI aB (gG x) rfl) rfl ?_;refine sBB rfl (fun h4=>?_) (fun h4=>?_)
  ·refine go2 ?_;refine sC (.int .i64 ((Z.bitsW x.n.dec).1)) aB (xM x.n.1 x.n.2) rfl rfl rfl (go3 ?_);refine sBB rfl (fun h5=>?_) (fun h5=>?_)
   ·have ph5:=of_decide_eq_true h5;refine go2 ?_;refine sC (.int .i64 ((Z.bitsW x.d.dec).1)) aB (xM x.d.1 x.d.2) rfl rfl rfl (go5 ?_);refine J1 _ _ pp_ s0 (bK (kZ h4 (kZ h5 rfl)))
   have ph5:=of_decide_eq_false h5;refine go8 ?_;refine J1 _ _ pp_ s0 (bK (kZ h4 (oZ h5)))
  refine wP ?_;refine J1 _ _ pp_ s0 (bK (oZ h4))
 intro g6;refine go_ ?_;refine bA rfl (.inr rfl) rfl ?_;exact (by rfl)
theorem xV (v:(A3 Rt)) (b:W) :
    Ret prog 41 [AV [pI v.x.n,pI v.x.d,pI v.y.n,pI v.y.d,pI v.z.n,pI v.z.d],.int .i64 b.1] (.bool (gH v b)):=by
 refine bL (N:=16) func41 rfl rfl (by simp) (fun w0=>?_);simp only [bO,Nat.reduceAdd];refine go2 ?_;intro b1 hb1;refine go7 ?_;refine sO 5 (go4 ?_);refine sV (.bool true) rfl rfl (jT ?_);refine sQ (bI aB (mH v.x b) rfl) rfl (go2 ?_);rcases bt (dF v.x b) with h2|h2
 ·refine W_f (gE h2) rfl (go3 ?_);refine sV (.int .i64 1) rfl rfl (go6 ?_);refine sV (.bool true) rfl rfl (jT ?_);refine sQ (bI aB (mH v.y b) rfl) rfl (go2 ?_);rcases bt (dF v.y b) with h3|h3
  ·refine W_f (gE h3) rfl (go3 ?_);refine sV (.int .i64 2) rfl rfl (go6 ?_);refine sV (.bool true) rfl rfl (jT ?_);refine sQ (bI aB (mH v.z b) rfl) rfl (go2 ?_);rcases bt (dF v.z b) with h4|h4
   ·refine W_f (gE h4) rfl (go3 ?_);refine sV (.int .i64 3) rfl rfl (go6 ?_);refine sV (.bool false) rfl rfl (go7 ?_);refine bA rfl (.inr rfl) rfl ?_;exact congrArg vS2 (show _=(gH v b) from aY h2 (aY h3 (aY h4 rfl)))
   refine W_t (iK h4) rfl (go4 ?_);refine bA rfl (.inr rfl) rfl ?_;exact congrArg vS2 (show _=(gH v b) from aY h2 (aY h3 (aI h4 rfl)))
  refine W_t (iK h3) rfl (go4 ?_);refine bA rfl (.inr rfl) rfl ?_;exact congrArg vS2 (show _=(gH v b) from aY h2 (aI h3 rfl))
 refine W_t (iK h2) rfl (go4 ?_);refine bA rfl (.inr rfl) rfl ?_;exact congrArg vS2 (show _=(gH v b) from aI h2 rfl)
theorem xK (a:Path) (b:(A3 W)) :
    Ret prog 61 [AV [cw a.from_.x.x.1,cw a.from_.x.y.1,cw a.from_.x.z.1,cw a.from_.q.x.1,cw a.from_.q.y.1,cw a.from_.q.z.1,cw a.from_.q.t.1,cw a.to_.x.x.1,cw a.to_.x.y.1,cw a.to_.x.z.1,cw a.to_.q.x.1,cw a.to_.q.y.1,cw a.to_.q.z.1,cw a.to_.q.t.1],AV [cw b.x.1,cw b.y.1,cw b.z.1]] (.bool (fN a b)):=by
 refine bL (N:=51) func61 rfl rfl (by simp) (fun w0=>?_);simp only [bO,Nat.reduceAdd];refine go2 ?_;intro b1 hb1;refine go_ ?_;intro b2 hb2;refine go5 ?_;refine sQ (bI aB (uV a) rfl) rfl (go2 ?_);refine aH _ rfl (fun h3=>?_) (fun h3=>?_)
 ·refine go4 ?_;refine bA rfl (.inr rfl) rfl ?_;exact congrArg vS2 (show _=(fN a b) from aY h3 rfl)
 refine go6 ?_;refine sO 5 (go4 ?_);refine sV (.bool true) rfl rfl (go5 ?_);refine gds s0 [0,4,8,12,16,20,24,28,32,36,40,44,48,52,56,60,64,68,72,76,80,84,88,92] [] mix (by kernel_rfl) (jT ?_);refine pV (.int .i64 ((W.neg a.from_.x.x).1)) rfl rfl (jT ?_);refine pV (.int .i64 ((W.neg a.to_.x.x).1)) rfl rfl (pQ rfl (aL (v':=.int .i64 ((W.max (W.max (W.max a.from_.x.x (W.neg a.from_.x.x)) a.to_.x.x) (W.neg a.to_.x.x)).1)) (QY rfl rfl rfl rfl) (congrArg (Value.int .i64) (VL a.from_.x.x (W.neg a.from_.x.x) a.to_.x.x (W.neg a.to_.x.x)))) (go2 ?_));refine gJv [37,38,39,40,41,42,43,44,45,46,47,48,49,50] [(50,.bool (decide (1048576<(W.max (W.max (W.max a.from_.x.x (W.neg a.from_.x.x)) a.to_.x.x) (W.neg a.to_.x.x)).1)||(decide (1024<b.x.1)||decide (b.x.1<(-1024)))))] (fun K6 J6=>?_) ?_
 ·refine go3 ?_;refine sBB rfl (fun h6=>?_) (fun h6=>?_)
  ·have ph6:=of_decide_eq_true h6;refine vH ?_;refine J6 _ _ pp_ s0 (bK (mF h6))
  have ph6:=of_decide_eq_false h6;refine go5 ?_;refine sBB rfl (fun h7=>?_) (fun h7=>?_)
  ·have ph7:=of_decide_eq_true h7;refine go6 ?_;refine J6 _ _ pp_ s0 (bK (j9 h6 (mF h7)))
  have ph7:=of_decide_eq_false h7;refine go6 ?_;refine J6 _ _ pp_ s0 (bK (j9 h6 (j9 h7 rfl)))
 intro g8;refine aH _ rfl (fun h9=>?_) (fun h9=>?_)
 ·refine go4 ?_;refine bA rfl (.inr rfl) rfl ?_;exact congrArg vS2 (show _=(fN a b) from aI h3 (aY h9 rfl))
 refine go3 ?_;refine sV (.int .i64 1) rfl rfl (go6 ?_);refine sV (.bool true) rfl rfl (go5 ?_);refine gds s0 [0,4,8,12,16,20,24,28,32,36,40,44,48,52,56,60,64,68,72,76,80,84,88,92] [] mix (by kernel_rfl) (jT ?_);refine pV (.int .i64 ((W.neg a.from_.x.y).1)) rfl rfl (jT ?_);refine pV (.int .i64 ((W.neg a.to_.x.y).1)) rfl rfl (pQ rfl (aL (v':=.int .i64 ((W.max (W.max (W.max a.from_.x.y (W.neg a.from_.x.y)) a.to_.x.y) (W.neg a.to_.x.y)).1)) (QY rfl rfl rfl rfl) (congrArg (Value.int .i64) (VL a.from_.x.y (W.neg a.from_.x.y) a.to_.x.y (W.neg a.to_.x.y)))) (go2 ?_));refine gJv [37,38,39,40,41,42,43,44,45,46,47,48,49,50] [(50,.bool (decide (1048576<(W.max (W.max (W.max a.from_.x.y (W.neg a.from_.x.y)) a.to_.x.y) (W.neg a.to_.x.y)).1)||(decide (1024<b.y.1)||decide (b.y.1<(-1024)))))] (fun K10 J10=>?_) ?_
 ·refine go3 ?_;refine sBB rfl (fun h12=>?_) (fun h12=>?_)
  ·have ph12:=of_decide_eq_true h12;refine vH ?_;refine J10 _ _ pp_ s0 (bK (mF h12))
  have ph12:=of_decide_eq_false h12;refine go5 ?_;refine sBB rfl (fun h13=>?_) (fun h13=>?_)
  ·have ph13:=of_decide_eq_true h13;refine go6 ?_;refine J10 _ _ pp_ s0 (bK (j9 h12 (mF h13)))
  have ph13:=of_decide_eq_false h13;refine go6 ?_;refine J10 _ _ pp_ s0 (bK (j9 h12 (j9 h13 rfl)))
 intro g14;refine aH _ rfl (fun h15=>?_) (fun h15=>?_)
 ·refine go4 ?_;refine bA rfl (.inr rfl) rfl ?_;exact congrArg vS2 (show _=(fN a b) from aI h3 (aI h9 (aY h15 rfl)))
 refine go3 ?_;refine sV (.int .i64 2) rfl rfl (go6 ?_);refine sV (.bool true) rfl rfl (go5 ?_);refine gds s0 [0,4,8,12,16,20,24,28,32,36,40,44,48,52,56,60,64,68,72,76,80,84,88,92] [] mix (by kernel_rfl) (jT ?_);refine pV (.int .i64 ((W.neg a.from_.x.z).1)) rfl rfl (jT ?_);refine pV (.int .i64 ((W.neg a.to_.x.z).1)) rfl rfl (pQ rfl (aL (v':=.int .i64 ((W.max (W.max (W.max a.from_.x.z (W.neg a.from_.x.z)) a.to_.x.z) (W.neg a.to_.x.z)).1)) (QY rfl rfl rfl rfl) (congrArg (Value.int .i64) (VL a.from_.x.z (W.neg a.from_.x.z) a.to_.x.z (W.neg a.to_.x.z)))) (go2 ?_));refine gJv [37,38,39,40,41,42,43,44,45,46,47,48,49,50] [(50,.bool (decide (1048576<(W.max (W.max (W.max a.from_.x.z (W.neg a.from_.x.z)) a.to_.x.z) (W.neg a.to_.x.z)).1)||(decide (1024<b.z.1)||decide (b.z.1<(-1024)))))] (fun K14 J14=>?_) ?_
 ·refine go3 ?_;refine sBB rfl (fun h18=>?_) (fun h18=>?_)
  ·have ph18:=of_decide_eq_true h18;refine vH ?_;refine J14 _ _ pp_ s0 (bK (mF h18))
  have ph18:=of_decide_eq_false h18;refine go5 ?_;refine sBB rfl (fun h19=>?_) (fun h19=>?_)
  ·have ph19:=of_decide_eq_true h19;refine go6 ?_;refine J14 _ _ pp_ s0 (bK (j9 h18 (mF h19)))
  have ph19:=of_decide_eq_false h19;refine go6 ?_;refine J14 _ _ pp_ s0 (bK (j9 h18 (j9 h19 rfl)))
 intro g20;refine aH _ rfl (fun h21=>?_) (fun h21=>?_)
 ·refine go4 ?_;refine bA rfl (.inr rfl) rfl ?_;exact congrArg vS2 (show _=(fN a b) from aI h3 (aI h9 (aI h15 (aY h21 rfl))))
 refine go3 ?_;refine sV (.int .i64 3) rfl rfl (go6 ?_);refine sV (.bool false) rfl rfl (go7 ?_);refine bA rfl (.inr rfl) rfl ?_;exact congrArg vS2 (show _=(fN a b) from aI h3 (aI h9 (aI h15 (aI h21 rfl))))
theorem uM (a:Path) (b:(A3 W)) (c:(A3 Rt)) (d:Rt) (e:Rt) :
    Ret prog 63 [AV [cw a.from_.x.x.1,cw a.from_.x.y.1,cw a.from_.x.z.1,cw a.from_.q.x.1,cw a.from_.q.y.1,cw a.from_.q.z.1,cw a.from_.q.t.1,cw a.to_.x.x.1,cw a.to_.x.y.1,cw a.to_.x.z.1,cw a.to_.q.x.1,cw a.to_.q.y.1,cw a.to_.q.z.1,cw a.to_.q.t.1],AV [cw b.x.1,cw b.y.1,cw b.z.1],AV [pI c.x.n,pI c.x.d,pI c.y.n,pI c.y.d,pI c.z.n,pI c.z.d],AV [pI d.n,pI d.d],AV [pI e.n,pI e.d]] (.int .i64 ((kG a b c d e).1)):=by
 refine bL (N:=23) func63 rfl rfl (by simp) (fun w0=>?_);simp only [bO,Nat.reduceAdd];refine go2 ?_;intro b1 hb1;refine go_ ?_;intro b2 hb2;refine go_ ?_;intro b3 hb3;refine go_ ?_;intro b4 hb4;refine go_ ?_;intro b5 hb5;refine go2 ?_;refine oX s0 8 [6,7] [7] (go3 ?_);obtain ⟨r6,hr6⟩:=nm ((rU a b e):(A3 Rt));refine pC (AV [pI r6.x.n,pI r6.x.d,pI r6.y.n,pI r6.y.d,pI r6.z.n,pI r6.z.d]) aB (TL a b e) rfl rfl (by rw [hr6]) (go_ ?_);obtain ⟨r7,hr7⟩:=nm ((jS r6 c):(A3 Rt));refine pC (AV [pI r7.x.n,pI r7.x.d,pI r7.y.n,pI r7.y.d,pI r7.z.n,pI r7.z.d]) aB (yO r6 c) rfl rfl (by rw [hr7]) (cF rfl rfl (kA zpT (fun b8 hb8=>⟨(fun _=>sd s0),(sd s0),?_⟩)));refine go2 ?_;refine i9 (sk (sd (sk (sd (sd (sd (s0))))))) ?_;refine oX s0 6 [] [] (go2 ?_);refine pQ rfl (bI aB (CU r7 r7) rfl) (go_ ?_);refine pQ rfl (bI aB (BL (pT r7 r7) d) rfl) (go3 ?_);refine bA rfl (.inr rfl) rfl ?_;exact (by subst_vars;rfl)
end Go.Proofs.YtkjjponijamaoaaGreatDoor
namespace Go.Num
open Go Go.Kn
theorem an_ (a b:A3 Rt):jS a b=uI a b:=by unfold jS uI;rw [EO,EO,EO]
theorem am_ (a b:A3 Rt):pT a b=uG a b:=by
  unfold pT uG;simp only [PW,PU,F6];rw [YU (en_ _ _)]
theorem QA {u g:Int} (hu:fE u) (hg:0<g):fE (u / g):=by
  unfold fE at *;have h1:=Int.mul_ediv_add_emod u g;have h2:=Int.emod_nonneg u (by omega:g≠0);have h3:=Int.emod_lt_of_pos u hg
  have h4:(u / g).natAbs≤u.natAbs:=by
    rcases Int.lt_or_le u 0 with h|h
    · have h5:u / g<0:=Int.ediv_neg_of_neg_of_pos h hg
      have h6:u≤u / g:=by
        have h7:g*(u / g)≤u / g:=by
          have:=Int.mul_le_mul_of_nonpos_right (show (1:Int)≤g by omega) (Int.le_of_lt h5);omega
        have h8:u<g*(u / g)+g:=by omega
        rcases Int.lt_or_le u (g*(u / g)) with h9|h9
        · omega
        have h10:(g - 1)*(u / g) ≤ -(g - 1):=by
          have:=Int.mul_le_mul_of_nonneg_left (show u / g ≤ -1 by omega) (show 0≤g - 1 by omega);omega
        have h11:g*(u / g)=(g - 1)*(u / g)+u / g:=by rw [Int.sub_mul];omega
        omega
      omega
    have h5:0≤u / g:=Int.ediv_nonneg h oo_;have h6:u / g≤u:=Int.ediv_le_self _ h;omega
  omega
theorem QB {u g:Int} (hg:0<g) (hb:fE g):fE (u % g):=by
  unfold fE at *;have h2:=Int.emod_nonneg u (by omega:g≠0);have h3:=Int.emod_lt_of_pos u hg;omega
theorem X2 {u v:Int} (hu:fE u) (hv:fE v) (h:0<v):Z.rem (Z.of u) (Z.of v)=Z.of (u % v):=by
  rw [Z.rem,eB (Z.of_some hu) (Z.of_some hv),if_neg oo_,Int.fmod_eq_emod_of_nonneg _ oo_]
theorem zF {u v:Int} (hu:fE u) (hv:fE v) (h:0<v):Z.quo (Z.of u) (Z.of v)=Z.of (u / v):=by
  rw [BK hu hv oo_,HF h]
theorem P4 {u v:Int} (hu:fE u) (hv:fE v):(Z.cmpW (Z.of u) (Z.of v)).1=(u - v).sign:=by
  show Z.cmp _ _=_
  unfold Z.cmp;rw [Z.of_some hu,Z.of_some hv];simp only;rcases Int.lt_trichotomy u v with h|h|h
  · rw [AU h,Int.sign_eq_neg_one_of_neg oo_]
  · subst h;rw [G5,Int.sub_self];rfl
  rw [AT h,Int.sign_eq_one_of_pos oo_]
theorem GZ {n:Int} (h:-4≤n∧n≤4):IntKind.i64.wrap n=n:=wi ⟨by omega,by omega⟩
theorem NB (x:Int):-1≤x.sign∧x.sign≤1:=by
  rcases Int.lt_trichotomy x 0 with h|h|h
  · rw [Int.sign_eq_neg_one_of_neg h];omega
  · subst h;decide
  rw [Int.sign_eq_one_of_pos h];omega
theorem eM_ {o x:W} (ho:o.1=1∨o.1 = -1) (hx:-2≤x.1∧x.1≤2):(W.mul o x).1=o.1*x.1:=by
  show IntKind.i64.wrap (o.1*x.1)=_
  refine GZ ?_;rcases ho with h|h<;>rw [h]<;>omega
theorem eN_ {o:W} (ho:o.1=1∨o.1 = -1):(W.neg o).1 = -o.1:=by
  show IntKind.i64.wrap (0 - o.1)=_
  rw [GZ oo_];omega
theorem cs_ {b d p r s:Int} (hb:0<b) (hd:0<d) (h0:p≠0) (hr:0≤r) (hrb:r<b) (hs:0≤s) (hsd:s<d):(b*d*p+(r*d - s*b)).sign=p.sign:=by
  have hbd:0<b*d:=Int.mul_pos hb hd;have h1:r*d<b*d:=Int.mul_lt_mul_of_pos_right hrb hd;have h2:s*b<d*b:=Int.mul_lt_mul_of_pos_right hsd hb;have h3:0≤r*d:=Int.mul_nonneg hr oo_;have h4:0≤s*b:=Int.mul_nonneg hs oo_;rw [Int.mul_comm d b] at h2;rcases Int.lt_trichotomy p 0 with h|h|h
  · rw [Int.sign_eq_neg_one_of_neg h,Int.sign_eq_neg_one_of_neg]
    have:b*d*p≤b*d*(-1):=Int.mul_le_mul_of_nonneg_left oo_ oo_;omega
  · exact absurd h h0
  rw [Int.sign_eq_one_of_pos h,Int.sign_eq_one_of_pos];have:b*d*1≤b*d*p:=Int.mul_le_mul_of_nonneg_left oo_ oo_;omega
theorem dh_:∀ (k:Nat) (o:W) (a b c d:Int),b.toNat≤k→0<b→0<d→fE a→fE b→fE c→fE d→(o.1=1∨o.1 = -1) →
    (cf k o (E (Z.of a)) (E (Z.of b)) (E (Z.of c)) (E (Z.of d))).1=o.1*(a*d - c*b).sign:=by
  intro k
  induction k with
  | zero=>intro o a b c d hk hb;omega
  | succ k ih =>
    intro o a b c d hk hb hd ha hb' hc hd' ho;unfold cf;simp only [dB];rw [zF ha hb' hb,zF hc hd' hd,X2 ha hb' hb,X2 hc hd' hd,o7 (QB hb hb'),o7 (QB hd hd'),P4 (QA ha hb) (QA hc hd)];have e1:=Int.mul_ediv_add_emod a b;have e2:=Int.mul_ediv_add_emod c d;have r1:=Int.emod_nonneg a (by omega:b≠0);have r2:=Int.emod_lt_of_pos a hb;have s1:=Int.emod_nonneg c (by omega:d≠0);have s2:=Int.emod_lt_of_pos c hd;have hrB:=QB (u:=a) hb hb';have hsB:=QB (u:=c) hd hd';have hpB:=QA ha hb;have hqB:=QA hc hd;generalize hp:a / b=p at *;generalize hr:a % b=r at *;generalize hq:c / d=q at *;generalize hs:c % d=s at *
    have key:a*d - c*b=b*d*(p - q)+(r*d - s*b):=by
      rw [← e1,← e2];grind
    rw [key]
    by_cases hpq:p=q
    · have h1:(p - q).sign=0:=by rw [hpq,Int.sub_self];rfl
      have h2:b*d*(p - q)+(r*d - s*b)=r*d - s*b:=by rw [hpq];grind
      rw [h1,h2];have h3:((0:Int) != 0)=false:=rfl;rw [h3];simp only [cond_false]
      by_cases h0:r=0∨s=0
      · have h4:((r.sign==0)||(s.sign==0))=true:=by
          rcases h0 with h|h<;>subst h<;>simp
        rw [h4];simp only [cond_true];have h5:=NB r;have h6:=NB s
        have e5:(W.sub (Z.signW (Z.of r)) (Z.signW (Z.of s))).1=r.sign - s.sign:=by
          show IntKind.i64.wrap ((Z.signW (Z.of r)).1 - (Z.signW (Z.of s)).1)=_
          rw [o7 hrB,o7 hsB];exact GZ oo_
        rw [eM_ ho (by rw [e5];omega),e5]
        congr 1
        rcases h0 with h|h
        · subst h
          rw [Int.zero_mul,Int.zero_sub,Int.sign_neg,Int.sign_mul,Int.sign_eq_one_of_pos hb];simp
        subst h;rw [Int.zero_mul,Int.sub_zero,Int.sign_mul,Int.sign_eq_one_of_pos hd];simp
      have hr0:0<r:=by omega
      have hs0:0<s:=by omega
      have h4:((r.sign==0)||(s.sign==0))=false:=by
        rw [Int.sign_eq_one_of_pos hr0,Int.sign_eq_one_of_pos hs0];rfl
      rw [h4];simp only [cond_false];rw [ih _ _ _ _ _ oo_ hr0 hs0 hb' hrB hd' hsB (by rw [eN_ ho];omega),eN_ ho]
      have:b*s - d*r = -(r*d - s*b):=by grind
      rw [this,Int.sign_neg,Int.neg_mul_neg]
    have h1:((p - q).sign != 0)=true:=by
      rcases Int.lt_trichotomy (p - q) 0 with h|h|h
      · rw [Int.sign_eq_neg_one_of_neg h];rfl
      · omega
      rw [Int.sign_eq_one_of_pos h];rfl
    rw [h1];simp only [cond_true];rw [eM_ ho (by rw [P4 hpB hqB];have:=NB (p - q);omega),P4 hpB hqB];rw [cs_ hb hd oo_ r1 r2 s1 s2]
theorem fy_ {d:Int} (h:fE d):cfN (E (Z.of d))=d.toNat:=by
  unfold cfN;rw [dB,Z.of_some h]
theorem G0 {a:Rt} {n d:Int} (h:a.Is n d):aG a=true:=gM_.2 ⟨n,d,h⟩
theorem fa_ {a b:Rt} {n d m e:Int} (ha:a.Is n d) (hb:b.Is m e):(jL a b).1=(n*e - m*d).sign:=by
  unfold jL;rw [lW,lW,G0 ha,G0 hb];simp only [Bool.not_true,Bool.and_false,cond_true,cond_false];rw [ha.en,ha.ed,hb.en,hb.ed,fy_ ha.hd,dh_ _ _ _ _ _ _ (Nat.le_refl _) ha.pos hb.pos ha.hn ha.hd hb.hn hb.hd (.inl rfl)];exact Int.one_mul _
theorem fh_ {a:Rt} {n d:Int} (h:a.Is n d):Rt.Is (iI a) (-n) d:=by
  have e:iI a=⟨E (Z.of (-n)),E (Z.of d)⟩:=by
    unfold iI;rw [G0 h,h.en,h.ed,dB,VO h.hn];rfl
  rw [e];refine ⟨rfl,rfl,?_,h.hd,h.pos,by rw [Int.neg_gcd];exact h.cop⟩;have:=h.hn;unfold fE at *;rw [Int.natAbs_neg];exact this
theorem gN_ {a:Rt} (h:aG a=true):∃ n d,Rt.Is a n d:=gM_.1 h
theorem ct_ {x:Int}:0<x.sign ↔ 0<x:=Int.sign_pos_iff
theorem eq_ {a:Rt} {n d:Int} (h:a.Is n d):∃ q:Rat,a.At q∧q.num=n∧(q.den:Int)=d:=by
  have hd:(d.toNat:Int)=d:=Int.toNat_of_nonneg (Int.le_of_lt h.pos)
  have hc:n.natAbs.Coprime d.toNat:=by
    have:=h.cop;unfold Int.gcd at this;rw [show d.natAbs=d.toNat by omega] at this;exact this
  refine ⟨⟨n,d.toNat,by have:=h.pos;omega,hc⟩,?_,rfl,hd⟩
  show a.Is n (d.toNat:Int)
  rw [hd];exact h
theorem XA {a:Rt} (h:aG a=true):∃ q,a.At q:=by
  obtain ⟨n,d,h1⟩:=gN_ h;obtain ⟨q,h2,_⟩:=eq_ h1;exact ⟨q,h2⟩
theorem oA {a:Rt} {q:Rat} (h:a.At q):aG a=true:=G0 h
theorem e6_ {a:Rt} {p q:Rat} (ha:a.At p) (hb:a.At q):p=q:=by
  have h1:=VT ha.hn hb.hn (al_ (ha.en.symm.trans hb.en));have h2:=VT ha.hd hb.hd (al_ (ha.ed.symm.trans hb.ed));exact Rat.ext h1 oo_
theorem aj_ {a b:Rt} {p q:Rat} (ha:a.At p) (hb:b.At q):(jL a b).1=(p.num*q.den - q.num*p.den).sign:=fa_ ha hb
theorem US {a b:Rt} {p q:Rat} (ha:a.At p) (hb:b.At q):0<(jL a b).1 ↔ q<p:=by
  rw [aj_ ha hb,ct_,Rat.lt_iff];omega
theorem Sz.bn {q:Rat} {k:Nat} (h:Sz q k) (hk:k≤512):fE q.num:=uP h.n hk
theorem Sz.inv {p:Rat} {k:Nat} (h:Sz p k) (h0:p≠0):Sz p⁻¹ k:=by
  have hn:p.num≠0:=fun h=>h0 (Rat.num_eq_zero.1 h)
  constructor
  · rw [Rat.num_inv,Int.natAbs_mul,Int.natAbs_sign_of_ne_zero hn,Nat.one_mul,Int.natAbs_natCast];exact h.d
  rw [Rat.den_inv,if_neg hn];exact h.n
theorem gK_ {a:Rt} {n d:Int} {q:Rat} (h:a.Is n d) (he:q.num*d=n*q.den):a.At q:=by
  obtain ⟨p,hp,h1,h2⟩:=eq_ h;have:p=q:=Rat.eq_iff_mul_eq_mul.2 (by rw [h1,h2];exact he.symm);rw [← this];exact hp
theorem yP {n d:Int} {q:Rat} (hn:fE n) (hd:fE d) (hp:0<d) (he:q.num*d=n*q.den):(bH (E (Z.of n)) (E (Z.of d))).At q:=by
  refine gK_ (EY hn hd hp) ?_;have g1:((Int.gcd n d:Nat):Int) ∣ n:=Int.gcd_dvd_left ..;have g2:((Int.gcd n d:Nat):Int) ∣ d:=Int.gcd_dvd_right ..
  have p1:0<((Int.gcd n d:Nat):Int):=by have:=Int.gcd_pos_of_ne_zero_right n (show d≠0 by omega);omega
  obtain ⟨x,hx⟩:=g1;obtain ⟨y,hy⟩:=g2;generalize ((Int.gcd n d:Nat):Int)=G at *
  have q1:n / G=x:=by rw [hx];exact Int.mul_ediv_cancel_left _ oo_
  have q2:d / G=y:=by rw [hy];exact Int.mul_ediv_cancel_left _ oo_
  rw [q1,q2];rw [hx,hy] at he;exact Int.eq_of_mul_eq_mul_left (show G≠0 by omega) (by grind)
theorem RS (c:W):(aJ c).At (c.1:Rat):=by
  unfold aJ;rw [dP_];have:=c.2;unfold I64 at this;exact yP (uP (k:=64) oo_ dd_) B1 dd_ (by simp)
theorem UT {a:Rt} {p:Rat} (h:a.At p):(iI a).At (-p):=fh_ h
theorem oF {q:Rat}:(0:Int)<q.den:=by have:=q.den_nz;omega
theorem ao_ {a b:Rt} {p q:Rat} (ha:a.At p) (hb:b.At q) (hn:fE (p*q).num) (hd:fE ((p*q).den:Int)):(fO a b).At (p*q):=by
  unfold fO;rw [oA ha,oA hb];obtain ⟨x,y,r,s,e1,e2,b1,b2,b3,b4,h1,h2,hc,he⟩:=K0 ha hb;simp only [Bool.not_true,Bool.or_false,cond_false,e1,e2,dB];rw [o4 b1 b3,o4 b2 b4];have hps:0<y*s:=Int.mul_pos h1 h2
  have hpq:p*q=Rat.divInt (x*r) (y*s):=by
    rw [← Rat.num_divInt_den p,← Rat.num_divInt_den q,Rat.divInt_mul_divInt];exact (Rat.divInt_eq_divInt_iff (by have:=@oF p;have:=@oF q;exact Int.mul_ne_zero oo_ oo_) oo_).2 (by rw [he])
  have hnum:(p*q).num=x*r:=by
    rw [hpq,Rat.num_divInt,Int.gcd_comm,hc,Int.sign_eq_one_of_pos hps];simp
  have hden:((p*q).den:Int)=y*s:=by
    rw [hpq,Rat.den_divInt,if_neg oo_,Int.gcd_comm,hc,Nat.div_one];omega
  rw [hnum] at hn;rw [hden] at hd;exact yP hn hd hps (by rw [hnum,hden])
theorem bC_ {n d:Int} (hn:fE n) (hd:fE d) (hp:d<0):bH (E (Z.of n)) (E (Z.of d))=bH (E (Z.of (-n))) (E (Z.of (-d))):=by
  have hn':fE (-n):=by unfold fE at *;rw [Int.natAbs_neg];exact hn
  have hd':fE (-d):=by unfold fE at *;rw [Int.natAbs_neg];exact hd
  rw [S9 hn' hd' oo_];unfold bH
  have h1:((Z.signW (E (Z.of d)).dec).1==0)=false:=by rw [dB,o7 hd,Int.sign_eq_neg_one_of_neg hp];rfl
  have h2:decide ((Z.signW (E (Z.of d)).dec).1<0)=true:=by rw [dB,o7 hd,Int.sign_eq_neg_one_of_neg hp];rfl
  have hg:0<((Int.gcd n d:Nat):Int):=by
    have:=Int.gcd_pos_of_ne_zero_right n (show d≠0 by omega);omega
  have hb:=LY (u:=n) hd oo_
  have hb':fE (-((Int.gcd n d:Nat):Int)):=by unfold fE at *;rw [Int.natAbs_neg];exact hb
  rw [BF hn,BF hd,h1,h2,dB,dB,BE hn hd,VO hb];simp only [Bool.not_true,Bool.or_false,cond_false,cond_true];rw [BK hn hb' oo_,BK hd hb' oo_,Int.neg_gcd,Int.gcd_neg]
  have e:∀ u:Int,u.fdiv (-((Int.gcd n d:Nat):Int))=(-u) / ((Int.gcd n d:Nat):Int):=fun u=>by
    rw [← HF hg,← Int.neg_fdiv_neg,Int.neg_neg]
  rw [e,e]
theorem fc_ {b:Rt} {q:Rat} (hb:b.At q) (h0:q≠0):(bH b.d b.n).At q⁻¹:=by
  have ib:=At.is hb;rw [ib.en,ib.ed];have hn:q.num≠0:=fun h=>h0 (Rat.num_eq_zero.1 h);have hd:=@oF q;have e1:=Rat.num_inv q;have e2:=Rat.den_inv q;rw [if_neg hn] at e2;rcases Int.lt_or_gt_of_ne hn with h|h
  · rw [bC_ ib.hd ib.hn h]
    rw [Int.sign_eq_neg_one_of_neg h] at e1
    have b1:fE (-(q.den:Int)):=by have:=ib.hd;unfold fE at *;rw [Int.natAbs_neg];exact this
    have b2:fE (-q.num):=by have:=ib.hn;unfold fE at *;rw [Int.natAbs_neg];exact this
    have e3:(q.num.natAbs:Int) = -q.num:=by omega
    exact yP b1 b2 oo_ (by rw [e1,e2,e3];grind)
  rw [Int.sign_eq_one_of_pos h] at e1
  have e3:(q.num.natAbs:Int)=q.num:=by omega
  exact yP ib.hd ib.hn h (by rw [e1,e2,e3];grind)
theorem Rg.dm {α:Type} [Add α] [Mul α] [OfNat α 0] [Rg α] (a b c:α):(a+b)*c=a*c+b*c:=by rw [Rg.mc,Rg.md,Rg.mc c,Rg.mc c]
theorem NI {α:Type} [Add α] [Mul α] [OfNat α 0] [Rg α] (f g:Nat→α):∀ n:Nat,mD (fun i=>f i+g i) n=mD f n+mD g n
  | 0=>(Rg.a0 _).symm
  | n+1=>by
    simp only [mD];rw [NI f g n,Rg.aa,Rg.aa,← Rg.aa (mD g n),Rg.ac (mD g n) (f n),Rg.aa]
theorem PF {α:Type} [Add α] [Mul α] [OfNat α 0] [Rg α] (c:α) (f:Nat→α) (n:Nat):mD (fun i=>f i*c) n=mD f n*c:=by
  rw [Rg.mc _ c,← CR];exact qM fun i _=>Rg.mc _ _
theorem NJ {α:Type} [Add α] [Mul α] [OfNat α 0] [Rg α] (f:Nat→α):∀ n:Nat,mD f (n+1)=f 0+mD (fun i=>f (i+1)) n
  | 0=>by simp only [mD];rw [Rg.ac]
  | n+1=>by rw [mD,NJ f n,Rg.aa];rfl
theorem UF {α:Type} [Add α] [Mul α] [OfNat α 0] [Rg α] (f:Nat→Nat→α):∀ n:Nat,mD (fun k=>mD (fun i=>f i (k - i)) (k+1)) n=mD (fun i=>mD (fun j=>f i j) (n - i)) n
  | 0=>rfl
  | n+1=>by
    rw [mD,UF f n]
    rw [qM (f:=fun i=>mD (fun j=>f i j) (n+1 - i)) (g:=fun i=>mD (fun j=>f i j) (n - i)+f i (n - i)) (fun i hi=>by
      rw [show n+1 - i=n - i+1 by omega];rfl)]
    rw [NI]
    congr 1
    rw [mD,Nat.sub_self,mD,Rg.a0]
def cR (c:Nat→Int) (i:Nat):Rat:=(c i:Rat)
theorem NK (f:Nat→Int):∀ n:Nat,((mD f n:Int):Rat)=mD (fun i=>(f i:Rat)) n
  | 0=>rfl
  | n+1=>by simp only [mD];rw [Rat.intCast_add,NK f n]
theorem OL (c d:Nat→Int):cR (conv c d)=conv (cR c) (cR d):=by
  funext k
  unfold cR conv;rw [NK];exact qM fun i _=>Rat.intCast_mul ..
theorem XK (q:Rat):q*((q.den:Int):Rat)=((q.num:Int):Rat):=by
  have h:=Rat.num_divInt_den q;rw [Rat.divInt_eq_div,Rat.div_def] at h;have h0:(((q.den:Nat):Int):Rat)≠0:=fun h=>q.den_nz (by have:=Rat.intCast_eq_zero_iff.1 h;omega)
  have e:(((q.num:Int):Rat)*(((q.den:Nat):Int):Rat)⁻¹)*(((q.den:Nat):Int):Rat)=((q.num:Int):Rat):=by rw [Rat.mul_assoc,Rat.inv_mul_cancel _ h0,Rat.mul_one]
  rw [h] at e;exact e
theorem I0_E:I0=E (Z.of 0):=rfl
section
variable {p q:List I} {c d:Nat→Int}
theorem gr_ (h:Rgt p) (hg:p.all gdI=true):Po p (fun k=>vI (p.getD k I0)):=by
  rcases h with rfl|h
  · rw [qS] at hg;cases hg
  exact ⟨h.1,h.2.1,h.2.2,fun _=>rfl⟩
variable {n m b b':Nat}
theorem WT {v:Int} (hv:fE v) {b:Int} (h:(Z.bitsW (Z.of v)).1≤b):v.natAbs<2 ^ b.toNat:=by
  have h1:((Z.of v).bits:Int)≤b:=h;unfold Z.bits at h1;rw [Z.of_some hv] at h1;simp only at h1;exact Nat.lt_of_lt_of_le (I3 _) (Nat.pow_le_pow_right dd_ oo_)
theorem WK (hp:p.length≤1000) (hq:q.length≤1000) (h:p.all gdI=false∨q.all gdI=false):bJ p q=badp:=by
  unfold bJ;rw [wV _ hp hq,show (p.all gdI&&q.all gdI)=false by rcases h with h|h<;>simp [h]];rfl
theorem WO (hp:p.length≤1000) (hq:q.length≤1000) (h:p.all gdI=false∨q.all gdI=false):aW p q=badp:=by
  unfold aW;rw [vA hp,vA hq,show (!p.all gdI || !q.all gdI)=true by rcases h with h|h<;>simp [h]];rfl
end
open Go Go.Kn
def pw (d:I):Nat→I
  | 0=>E (Z.of 1)
  | k+1=>E (Z.mul (pw d k).dec d.dec)
theorem V2 (n:Nat) (f:Nat→I):(List.range (n+1)).map f=(List.range n).map f++[f n]:=by rw [List.range_succ,List.map_append];rfl
theorem O3 (d:I) (n:Int):∀ (k m:Nat),n.toNat - (m+1)<k→k8 d n k ((List.range (m+1)).map (pw d))=(List.range (max n.toNat (m+1))).map (pw d)
  | 0,m,h=>absurd h (Nat.not_lt_zero _)
  | k+1,m,h=>by
    unfold k8
    have hl:((List.range (m+1)).map (pw d)).length=m+1:=by simp
    by_cases hc:((m+1:Nat):Int)<n
    · rw [hl,decide_eq_true hc,cond_true]
      have e1:((List.range (m+1)).map (pw d)).getD (m+1 - 1) I0=pw d m:=by simp [List.getD]
      rw [e1,show E (Z.mul (pw d m).dec d.dec)=pw d (m+1) from rfl,← V2,O3 d n k (m+1) oo_];rw [show max n.toNat (m+1+1)=max n.toNat (m+1) by omega]
    rw [hl,decide_eq_false hc,cond_false,show max n.toNat (m+1)=m+1 by omega]
theorem ZQ (d:I) (n:Int):fA d n=(List.range (max n.toNat 1)).map (pw d):=O3 d n _ 0 oo_
theorem TN (d:I) (k:Int):∀ (f i:Nat),k.toNat - i<f→i≤k.toNat→(jW d k f i (pw d i)).2=pw d k.toNat
  | 0,i,h,_=>absurd h (Nat.not_lt_zero _)
  | f+1,i,h,hi=>by
    unfold jW
    by_cases hc:(i:Int)<k
    · rw [decide_eq_true hc,cond_true]
      exact TN d k f (i+1) oo_ oo_
    rw [decide_eq_false hc,cond_false,show k.toNat=i by omega]
theorem RX (d:I) (k:Int):iV d k=pw d k.toNat:=TN d k _ 0 oo_ (Nat.zero_le _)
theorem yH (d:I) (n:Int) {k:Nat} (h:k<max n.toNat 1):(fA d n).getD k I0=pw d k:=by
  rw [ZQ];simp [List.getD,h]
theorem NR (p:List I) (x:Rt):∀ (f:Nat) (i:Int) (m:I),i<(p.length:Int)→(kX p x f i m).2=(jY p x f i m).2
  | 0,i,m,h=>rfl
  | f+1,i,m,h=>by
    unfold kX jY
    by_cases hi:0≤i
    · rw [decide_eq_true hi]
      simp only [cond_true];rw [yH _ _ (show p.length - 1 - i.toNat<max ((p.length:Nat):Int).toNat 1 by omega),RX,show (((p.length:Nat):Int) - 1 - i).toNat=p.length - 1 - i.toNat by omega];exact NR p x f (i - 1) _ oo_
    rw [decide_eq_false hi];rfl
theorem eD_ (x:Rt):kP [x]=aT x:=by
  unfold kP lU rY
  have e:mM [x] (fun y=>nM y) ([x].length+1) 0=bif aT x then .inl 1 else .inr (W.cv 0):=by
    show (bif nM x then _ else _)=_
    unfold nM
    cases aT x<;>rfl
  rw [e]
  cases aT x<;>rfl
theorem TZ (x:Rt):eU x=aT x:=by
  unfold eU aT
  show (bif (!gdI x.n||(!gdI x.d||_)) then _ else _)=(gdI x.n&&(gdI x.d&&_))
  cases gdI x.n
  · rfl
  · cases gdI x.d
    · rfl
    by_cases h:(Z.signW x.d.dec).1≤0
    · rw [decide_eq_true h,decide_eq_false (show ¬ 0<(Z.signW x.d.dec).1 by omega)];rfl
    rw [decide_eq_false h,decide_eq_true (show 0<(Z.signW x.d.dec).1 by omega)];simp only [Bool.not_true,Bool.or_self,cond_false,Bool.true_and];rfl
theorem YW {p:List I} (x:Rt) (hp:p.length≤1000):(iE p x).1=eX p x:=by
  unfold iE eX;rw [vA hp,vB,eD_,TZ]
  cases (!p.all gdI || !aT x)
  · simp only [cond_false,ap]
    exact NR p x _ _ _ oo_
  rfl
theorem T5 (x:Rat) (m:Nat):∀ n:Nat,x ^ (m+n)=x ^ m*x ^ n
  | 0=>by rw [Rat.pow_zero,Rat.mul_one];rfl
  | n+1=>by rw [← Nat.add_assoc,Rat.pow_succ,T5 x m n,Rat.pow_succ,Rat.mul_assoc]
theorem DN {c:Nat→Rat} {x:Rat} {n:Nat} (h:∀ i,n≤i→c i=0) {m:Nat} (hm:n≤m):vl c x m=vl c x n :=
  yL (fun i hi=>by rw [h i hi,Rat.zero_mul]) m hm
theorem cM_ (c d:Nat→Rat) (x:Rat) (n:Nat):vl (fun i=>c i+d i) x n=vl c x n+vl d x n:=by
  unfold vl;rw [← NI];exact qM fun i _=>Rat.add_mul _ _ _
theorem cN_ (a:Rat) (c:Nat→Rat) (x:Rat) (n:Nat):vl (fun i=>a*c i) x n=a*vl c x n:=by
  unfold vl;rw [← CR];exact qM fun i _=>Rat.mul_assoc _ _ _
theorem UJ (c:Nat→Rat) (x:Rat) (n:Nat):vl c x (n+1)=c 0+x*vl (fun i=>c (i+1)) x n:=by
  unfold vl;rw [NJ,Rat.pow_zero,Rat.mul_one,← CR]
  congr 1
  refine qM fun i _=>?_;rw [Rat.pow_succ];grind
theorem YR {c d:Nat→Rat} {x:Rat} {n m:Nat} (hc:∀ i,n≤i→c i=0) (hd:∀ i,m≤i→d i=0) {K:Nat} (hK:n+m≤K):vl (conv c d) x K=vl c x n*vl d x m:=by
  have h:=UF (fun i j=>c i*x ^ i*(d j*x ^ j)) K
  have e1:vl (conv c d) x K=mD (fun k=>mD (fun i=>c i*x ^ i*(d (k - i)*x ^ (k - i))) (k+1)) K:=by
    refine qM fun k _=>?_
    show mD _ _*_=_
    rw [← PF];refine qM fun i hi=>?_
    have:x ^ k=x ^ i*x ^ (k - i):=by rw [← T5];congr 1;omega
    rw [this];grind
  rw [e1,h];unfold vl;rw [← PF];rw [yL (n:=n) (fun i hi=>by rw [hc i hi];exact rV fun j _=>by rw [Rat.zero_mul,Rat.zero_mul]) K oo_];refine qM fun i hi=>?_;rw [CR]
  congr 1
  exact yL (fun j hj=>by rw [hd j hj,Rat.zero_mul]) _ oo_
section
variable {c:Nat→Int} {N D:Int} {L:Nat}
theorem br_ {x:Rat} (hx:(D:Rat)*x=N):∀ t:Nat,t≤L→((hv c N D L t:Int):Rat)*D=(D:Rat) ^ t*vl (fun j=>cR c (L - t+j)) x t
  | 0,_=>by show ((0:Int):Rat)*D=_*(0:Rat);rw [Rat.mul_zero];exact Rat.zero_mul _
  | t+1,ht=>by
    rw [UJ,hv,Rat.intCast_add,Rat.intCast_mul,Rat.intCast_mul,Rat.intCast_pow,Rat.pow_succ];have ih:=br_ hx t oo_;rw [show (fun i=>(fun j=>cR c (L - (t+1)+j)) (i+1))=fun j=>cR c (L - t+j) from funext fun j=>by show cR c _=cR c _;congr 1;omega];rw [show L - (t+1)+0=L - 1 - t by omega]
    show _=_*(((c (L - 1 - t):Int):Rat)+_)
    generalize vl (fun j=>cR c (L - t+j)) x t=S at *;generalize ((hv c N D L t:Int):Rat)=H at *;rw [← hx]
    grind
theorem QL {x:Rat} (hx:(D:Rat)*x=N) (hD:0<D):((hv c N D L L:Int):Rat)=(D:Rat) ^ (L - 1)*vl (cR c) x L:=by
  have hd:(D:Rat)≠0:=fun h=>by have:=Rat.intCast_eq_zero_iff.1 h;omega
  cases L with
  | zero=>show ((0:Int):Rat)=_*(0:Rat);rw [Rat.mul_zero];rfl
  | succ n =>
    have h:=br_ (c:=c) (L:=n+1) hx (n+1) (Nat.le_refl _);rw [show (fun j=>cR c (n+1 - (n+1)+j))=cR c from funext fun j=>by congr 1;omega,Rat.pow_succ] at h;rw [Nat.add_sub_cancel]
    have:(((hv c N D (n+1) (n+1):Int):Rat) - (D:Rat) ^ n*vl (cR c) x (n+1))*D=0:=by grind
    rcases Rat.mul_eq_zero.1 this with h|h
    · grind
    exact absurd h hd
theorem SZ {b s:Nat} (hc:∀ k,(c k).natAbs<2 ^ b) (hN:N.natAbs<2 ^ s) (hD:D.natAbs<2 ^ s):∀ t:Nat,(hv c N D L t).natAbs≤t*2 ^ (b+s*t)
  | 0=>by simp [hv]
  | t+1=>by
    have ih:=SZ hc hN hD t
    have h1:(hv c N D L t*N).natAbs≤t*2 ^ (b+s*t)*2 ^ s:=by
      rw [Int.natAbs_mul];exact Nat.mul_le_mul ih (Nat.le_of_lt hN)
    have h2:(c (L - 1 - t)*D ^ t).natAbs≤2 ^ b*2 ^ (s*t):=by
      rw [Int.natAbs_mul,Int.natAbs_pow,Nat.pow_mul];exact Nat.mul_le_mul (Nat.le_of_lt (hc _)) (Nat.pow_le_pow_left (Nat.le_of_lt hD) t)
    have h3:=Int.natAbs_add_le (hv c N D L t*N) (c (L - 1 - t)*D ^ t)
    have h4:(2:Nat) ^ b*2 ^ (s*t)≤2 ^ (b+s*(t+1)):=by
      rw [← Nat.pow_add];exact Nat.pow_le_pow_right dd_ (by rw [Nat.mul_succ];omega)
    have h5:t*2 ^ (b+s*t)*2 ^ s=t*2 ^ (b+s*(t+1)):=by
      rw [Nat.mul_assoc,← Nat.pow_add,Nat.mul_succ,Nat.add_assoc]
    rw [Nat.succ_mul];show (hv c N D L t*N+c (L - 1 - t)*D ^ t).natAbs≤_;omega
theorem hL_ {b s n e:Nat} (hc:∀ k,(c k).natAbs<2 ^ b) (hN:N.natAbs<2 ^ s) (hD:D.natAbs<2 ^ s) (hL:L≤n) (hn:n≤2 ^ e) (h:b+s*n+e+1≤512):Room c N D L:=by
  have hp:(2:Nat) ^ (b+s*n+e+1)=2*(2 ^ e*2 ^ (b+s*n)):=by rw [Nat.pow_succ,Nat.add_comm _ e,Nat.pow_add];omega
  have h0:0<2 ^ e*2 ^ (b+s*n):=Nat.mul_pos (Nat.pow_pos dd_) (Nat.pow_pos dd_);have k1:∀ t,t≤n→t*2 ^ (b+s*t)≤2 ^ e*2 ^ (b+s*n):=fun t ht =>
    Nat.mul_le_mul oo_ (Nat.pow_le_pow_right dd_ (by have:=Nat.mul_le_mul_left s ht;omega))
  have k2:∀ t,t<n→(2:Nat) ^ (s*t)≤2 ^ (b+s*n):=fun t ht=>Nat.pow_le_pow_right dd_ (by have:=Nat.mul_le_mul_left s (Nat.le_of_lt ht);omega);have he:1≤2 ^ e:=Nat.pow_pos dd_
  have kD:∀ t,(D ^ t).natAbs≤2 ^ (s*t):=fun t=>by rw [Int.natAbs_pow,Nat.pow_mul];exact Nat.pow_le_pow_left (Nat.le_of_lt hD) t
  have k0:2 ^ (b+s*n)≤2 ^ e*2 ^ (b+s*n):=Nat.le_mul_of_pos_left _ he;refine ⟨fun t ht=>rS (k:=b+s*n+e+1) ?_ h,fun t ht=>rS (k:=b+s*n+e+1) ?_ h,fun t ht=>rS (k:=b+s*n+e+1) ?_ h,fun t ht=>rS (k:=b+s*n+e+1) ?_ h⟩
  · have:=SZ (L:=L) hc hN hD t
    have:=k1 t oo_;omega
  · have h1:=SZ (L:=L) hc hN hD t
    have h2:=k1 (t+1) oo_
    have h3:(hv c N D L t*N).natAbs≤t*2 ^ (b+s*t)*2 ^ s:=by
      rw [Int.natAbs_mul];exact Nat.mul_le_mul h1 (Nat.le_of_lt hN)
    have h5:t*2 ^ (b+s*t)*2 ^ s=t*2 ^ (b+s*(t+1)):=by
      rw [Nat.mul_assoc,← Nat.pow_add,Nat.mul_succ,Nat.add_assoc]
    rw [Nat.succ_mul] at h2;have h6:0<2 ^ (b+s*(t+1)):=Nat.pow_pos dd_;omega
  · have:=kD t
    have:=k2 t oo_;omega
  have h2:(c (L - 1 - t)*D ^ t).natAbs≤2 ^ b*2 ^ (s*t):=by
    rw [Int.natAbs_mul];exact Nat.mul_le_mul (Nat.le_of_lt (hc _)) (kD t)
  have h3:(2:Nat) ^ b*2 ^ (s*t)≤2 ^ (b+s*n):=by
    rw [← Nat.pow_add];exact Nat.pow_le_pow_right dd_ (by have:=Nat.mul_le_mul_left s (Nat.le_of_lt (show t<n by omega));omega)
  omega
theorem QW {D:Int}:∀ {k:Nat},(∀ j,j≤k→fE (D ^ j))→pw (E (Z.of D)) k=E (Z.of (D ^ k))
  | 0,_=>by rw [Int.pow_zero];rfl
  | k+1,h=>by
    rw [pw,QW fun j hj=>h j oo_,dB,dB,o4 (h k oo_) (by have:=h 1 oo_;rwa [Int.pow_one] at this:fE D),Int.pow_succ]
variable {p:List I} {x:Rt}
theorem cK_ (h:Po p c) (hx:x.Is N D) (r:Room c N D p.length):∀ (f t:Nat) (i:Int),t≤p.length→i=((p.length:Nat):Int) - 1 - t→p.length - t<f →
    (kX p x f i (E (Z.of (hv c N D p.length t)))).2=E (Z.of (hv c N D p.length p.length))
  | 0,t,i,_,_,hf=>absurd hf (Nat.not_lt_zero _)
  | f+1,t,i,ht,hi,hf=>by
    unfold kX
    by_cases h0:0≤i
    · rw [decide_eq_true h0,cond_true]
      have hl:t<p.length:=by omega
      have e1:i.toNat=p.length - 1 - t:=by omega
      have e2:p.length - 1 - i.toNat=t:=by omega
      simp only
      rw [e2,yH _ _ (show t<max (((p.length:Nat):Int)).toNat 1 by omega),hx.ed,QW fun j hj=>r.p j oo_,e1,h.get,hx.en,dB,dB,dB,dB,dB,
        o4 (h.B _) (r.p t hl),o4 (r.h t ht) hx.hn,EP (r.m t hl) (r.q t hl)]
      exact cK_ h hx r f (t+1) _ oo_ oo_ oo_
    rw [decide_eq_false h0,cond_false,show t=p.length by omega]
theorem PP (h:Po p c) (hx:x.Is N D) (r:Room c N D p.length):iE p x=(E (Z.of (hv c N D p.length p.length)),E (Z.of (D ^ (p.length - 1)))):=by
  unfold iE;rw [h.nb,eD_,lW,G0 hx]
  show ((kX p x (p.length+1) (((p.length:Nat):Int) - 1) I0).2,_)=_
  congr 1
  · have e:=cK_ h hx r (p.length+1) 0 (((p.length:Nat):Int) - 1) (Nat.zero_le _) oo_ oo_
    rw [show hv c N D p.length 0=0 from rfl,← I0_E] at e;exact e
  rw [show ((((p.length:Nat):Int) - 1)).toNat=p.length - 1 by omega,yH _ _ oo_,hx.ed]
  cases hl:p.length with
  | zero=>show pw _ 0=E (Z.of (D ^ 0));rw [Int.pow_zero];rfl
  | succ n=>exact QW fun j hj=>r.p j oo_
theorem VQ {q:Rat} {n d:Int} (h:(n:Rat)=(d:Rat)*q):q.num*d=n*q.den:=by
  have h1:=XK q
  have h2:(((n*q.den:Int)):Rat)=((q.num*d:Int):Rat):=by
    rw [Rat.intCast_mul,Rat.intCast_mul,h,← h1];grind
  exact (Rat.intCast_inj.1 h2).symm
theorem wU {q:Rat}:((q.den:Int):Rat)*q=((q.num:Int):Rat):=by
  rw [Rat.mul_comm];exact XK q
theorem WM {q:Rat} {n b s e:Nat} (h:Po p c) (hb:Bd c n b) (hx:x.At q) (hs:Sz q s) (hn:n≤2 ^ e) (hk:b+s*n+e+1≤512):(iZ p x).At (vl (cR c) q n):=by
  have ix:=At.is hx;have hl:=h.len hb;have r:=hL_ (L:=p.length) hb.b hs.n (show ((q.den:Int)).natAbs<2 ^ s by rw [Int.natAbs_natCast];exact hs.d) hl hn hk;unfold iZ;rw [PP h ix r,G1];have hp:=@oF q;have hv:=QL (c:=c) (L:=p.length) (N:=q.num) (D:=(q.den:Int)) wU hp;rw [DN (n:=p.length) (fun i hi=>by unfold cR;rw [h.zero hi];rfl) hl];refine yP (r.h _ (Nat.le_refl _)) ?_ (Int.pow_pos hp) (VQ ?_)
  · cases hp:p.length with
    | zero=>exact B1
    | succ m=>exact r.p _ oo_
  rw [hv,Rat.intCast_pow]
theorem ay_ {q:Rat} {n b s e:Nat} (h:Po p c) (hb:Bd c n b) (hx:x.At q) (hs:Sz q s) (hn:n≤2 ^ e) (hk:b+s*n+e+1≤512):(i1 p x).2=true∧(i1 p x).1.1=(vl (cR c) q n).num.sign:=by
  have ix:=At.is hx;have hl:=h.len hb;have r:=hL_ (L:=p.length) hb.b hs.n (show ((q.den:Int)).natAbs<2 ^ s by rw [Int.natAbs_natCast];exact hs.d) hl hn hk;unfold i1;rw [PP h ix r];have hp:=@oF q;have hv:=QL (c:=c) (L:=p.length) (N:=q.num) (D:=(q.den:Int)) wU hp;rw [DN (n:=p.length) (fun i hi=>by unfold cR;rw [h.zero hi];rfl) hl];refine ⟨by show (!(E (Z.of _)).1.bad)=true;rw [U0 (r.h _ (Nat.le_refl _))];rfl,?_⟩
  show (Z.signW (E (Z.of _)).dec).1=_
  rw [dB,o7 (r.h _ (Nat.le_refl _))];have e:=VQ (n:=Go.Num.hv c q.num (q.den:Int) p.length p.length) (d:=(q.den:Int) ^ (p.length - 1)) (by rw [hv,Rat.intCast_pow]);have e2:=congrArg Int.sign e;rw [Int.sign_mul,Int.sign_mul,Int.sign_eq_one_of_pos (Int.pow_pos hp),Int.sign_eq_one_of_pos (@oF _),Int.mul_one,Int.mul_one] at e2;exact e2.symm
end
open Go Go.Kn
theorem WB (p q:Rat):(p*q).num.sign=p.num.sign*q.num.sign:=by
  have h1:=@wU p;have h2:=@wU q
  have e:=VQ (q:=p*q) (n:=p.num*q.num) (d:=(p.den:Int)*(q.den:Int)) (by
    rw [Rat.intCast_mul,Rat.intCast_mul,← h1,← h2];grind)
  have e2:=congrArg Int.sign e;rw [Int.sign_mul,Int.sign_mul,Int.sign_mul,Int.sign_mul,Int.sign_eq_one_of_pos (@oF p),Int.sign_eq_one_of_pos (@oF q),Int.sign_eq_one_of_pos (@oF (p*q)),Int.mul_one,Int.mul_one,Int.mul_one] at e2;exact e2
theorem cm_ (n:Int):((n:Rat)).num.sign=n.sign:=rfl
theorem W7 {u:Int} {g:Nat} (h:0<g) (hd:(g:Int) ∣ u):(u.fdiv g).natAbs≤u.natAbs:=by
  obtain ⟨x,rfl⟩:=hd;rw [Int.mul_fdiv_cancel_left _ oo_,Int.natAbs_mul,Int.natAbs_natCast];exact Nat.le_mul_of_pos_left _ h
section
variable {p q:List I} {c d:Nat→Int}
theorem Po.dvd (h:Po p c) (k:Nat):((cN p:Nat):Int) ∣ c k:=by
  by_cases hk:k<p.length
  · rw [← h.c k,show p.getD k I0=p[k] by simp [List.getD,hk]]
    exact IG (List.getElem_mem hk)
  rw [h.zero oo_];exact Int.dvd_zero _
theorem Po.cpos (h:Po p c) (h0:p≠[]):0<cN p:=by
  obtain ⟨n,hn⟩:∃ n,p.length=n+1:=⟨p.length - 1,by have:=List.length_pos_iff.2 h0;omega⟩;rcases Nat.eq_zero_or_pos (cN p) with e|e
  · have h1:=h.dvd n
    rw [e] at h1;exact absurd (Int.zero_dvd.1 h1) (h.last hn)
  exact e
theorem QV (h:Po p c):Po (d7 p) (fun k=>(c k).fdiv (cN p)):=by
  have e:=b0_ h.g h.s h.l
  have hB:∀ x∈p,fE ((vI x).fdiv (cN p)):=fun x hx=>by
    obtain ⟨k,hk⟩:=h.mem hx;rw [hk];exact Nat.lt_of_le_of_lt (W7 (h.cpos (List.ne_nil_of_mem hx)) (h.dvd k)) (h.B k)
  have hg:(d7 p).all gdI=true:=by
    rw [e];refine List.all_eq_true.2 fun y hy=>?_;obtain ⟨x,hx,rfl⟩:=List.mem_map.1 hy;exact SU (hB x hx)
  refine (gr_ (bZ_ p h.l3) hg).cast fun k=>?_;rw [e]
  by_cases hk:k<p.length
  · have e2:(p.map fun x=>E (Z.of ((vI x).fdiv (cN p)))).getD k I0=E (Z.of ((vI p[k]).fdiv (cN p))):=by simp [List.getD,hk]
    rw [e2,aa_ (hB _ (List.getElem_mem hk)),← h.c k,show p.getD k I0=p[k] by simp [List.getD,hk]]
  rw [wZ (by rw [List.length_map];omega),vI0,h.zero oo_,Int.zero_fdiv]
theorem TO (h:Po p c) (k:Nat):((cN p:Nat):Int)*(c k).fdiv (cN p)=c k:=by
  by_cases h0:p=[]
  · subst h0;rw [h.zero (Nat.zero_le k),Int.zero_fdiv,Int.mul_zero]
  have hp:=h.cpos h0;obtain ⟨x,hx⟩:=h.dvd k;rw [hx,Int.mul_fdiv_cancel_left _ oo_]
theorem XT {n b:Nat} (h:Po p c) (hb:Bd c n b):Bd (fun k=>(c k).fdiv (cN p)) n b :=
  ⟨fun k hk=>by show (c k).fdiv _=0;rw [hb.z k hk,Int.zero_fdiv],fun k=>by
    by_cases h0:p=[]
    · subst h0;show ((c k).fdiv _).natAbs<_;rw [h.zero (Nat.zero_le k),Int.zero_fdiv];exact Nat.pow_pos dd_
    exact Nat.lt_of_le_of_lt (W7 (h.cpos h0) (h.dvd k)) (hb.b k)⟩
theorem bU_ {u:Int} (hu:fE u):Po (gO [E (Z.of u)]) (lin u 0):=by
  rw [AZ];refine VN (fun k=>?_) (fun k=>?_) fun k hk=>?_
  · match k with
    | 0=>rfl
    | k+1=>rw [wZ (by simp)];unfold lin;rw [if_neg oo_,ite_self];rfl
  · unfold lin;split
    · exact hu
    rw [ite_self];exact B0
  unfold lin;rw [if_neg oo_,ite_self]
def sb (c:Nat→Int) (u v W:Int) (L:Nat):Nat→Nat→Int
  | 0=>fun _=>0
  | t+1=>fun k=>conv (sb c u v W L t) (lin u v) k+lin (c (L - 1 - t)*W ^ t) 0 k
variable {u v W:Int} {L:Nat}
theorem WI (u v:Int) (y:Rat) {K:Nat} (hK:2≤K):vl (cR (lin u v)) y K=(u:Rat)+(v:Rat)*y:=by
  rw [DN (n:=2) (fun i hi=>by unfold cR lin;rw [if_neg oo_,if_neg oo_];rfl) hK]
  show (0+((u:Int):Rat)*y ^ 0)+((v:Int):Rat)*y ^ 1=_
  rw [Rat.pow_zero,Rat.pow_one,Rat.zero_add,Rat.mul_one]
theorem cl_ {y z:Rat} (hz:(u:Rat)+(v:Rat)*y=(W:Rat)*z) (hs:∀ t,t≤L→∀ k,t≤k→sb c u v W L t k=0) (hL:L≤24):∀ t:Nat,t≤L→vl (cR (sb c u v W L t)) y 26*(W:Rat)=(W:Rat) ^ t*vl (fun j=>cR c (L - t+j)) z t
  | 0,_=>by
    show mD _ _*_=_*(0:Rat)
    rw [rV fun i _=>by show ((0:Int):Rat)*_=0;exact Rat.zero_mul _,Rat.mul_zero,Rat.zero_mul]
  | t+1,ht=>by
    have ih:=cl_ hz hs hL t oo_
    have e1:cR (sb c u v W L (t+1))=fun k=>conv (cR (sb c u v W L t)) (cR (lin u v)) k+cR (lin (c (L - 1 - t)*W ^ t) 0) k:=by
      rw [← OL];funext k;exact Rat.intCast_add ..
    rw [e1,cM_,YR (n:=t) (m:=2) (fun i hi=>by unfold cR;rw [hs t oo_ i hi];rfl) (fun i hi=>by unfold cR lin;rw [if_neg oo_,if_neg oo_];rfl) oo_,WI _ _ _ (Nat.le_refl _),WI _ _ _ dd_,hz,
      ← DN (n:=t) (m:=26) (fun i hi=>by unfold cR;rw [hs t oo_ i hi];rfl) oo_]
    generalize vl (cR (sb c u v W L t)) y 26=H at *;rw [UJ,Rat.pow_succ,Rat.intCast_mul,Rat.intCast_pow];rw [show (fun i=>(fun j=>cR c (L - (t+1)+j)) (i+1))=fun j=>cR c (L - t+j) from funext fun j=>by show cR c _=cR c _;congr 1;omega];rw [show L - (t+1)+0=L - 1 - t by omega]
    show _=_*(((c (L - 1 - t):Int):Rat)+_)
    generalize vl (fun j=>cR c (L - t+j)) z t=S at *;rw [show ((0:Int):Rat)=0 from rfl]
    grind
theorem gt_ {y z:Rat} (hz:(u:Rat)+(v:Rat)*y=(W:Rat)*z) (hW:0<W) (hs:∀ t,t≤L→∀ k,t≤k→sb c u v W L t k=0) (hL:L≤24):vl (cR (sb c u v W L L)) y 26=(W:Rat) ^ (L - 1)*vl (cR c) z L:=by
  have hd:(W:Rat)≠0:=fun h=>by have:=Rat.intCast_eq_zero_iff.1 h;omega
  have h:=cl_ (c:=c) hz hs hL L (Nat.le_refl _);rw [show (fun j=>cR c (L - L+j))=cR c from funext fun j=>by congr 1;omega] at h
  cases L with
  | zero =>
    show _=_*(0:Rat)
    rw [Rat.mul_zero]
    exact rV fun i _=>by show ((0:Int):Rat)*_=0;exact Rat.zero_mul _
  | succ n =>
    rw [Rat.pow_succ] at h;rw [Nat.add_sub_cancel]
    have:(vl (cR (sb c u v W (n+1) (n+1))) y 26 - (W:Rat) ^ n*vl (cR c) z (n+1))*W=0:=by grind
    rcases Rat.mul_eq_zero.1 this with h|h
    · grind
    exact absurd h hd
end
open Go Go.Kn
theorem k25 {l:List I} (h:l.length≤25):l.length≤1000:=Nat.le_trans h dd_
def shf (d:Nat→Int) (i k:Nat):Int:=if i≤k then d (k - i) else 0
def hO_ (a o:Int) (d:Nat→Int) (n i:Nat) (r:Nat→Int) (k:Nat):Int:=a*r k - o*r (i+n)*shf d i k
def RemB (a o:Int) (d:Nat→Int) (n:Nat):Nat→(Nat→Int)→Prop
  | 0,r=>∀ k,fE (r k)
  | m+1,r=>(∀ k,fE (r k))∧fE (o*r (m+n))∧(∀ k,fE (a*r k))∧(∀ k,fE (o*r (m+n)*d k))∧RemB a o d n m (hO_ a o d n m r)
theorem RemB.B {a o:Int} {d:Nat→Int} {n:Nat}:∀ {m:Nat} {r:Nat→Int},RemB a o d n m r→∀ k,fE (r k)
  | 0,_,h=>h
  | _+1,_,h=>h.1
theorem h4_ {u:Int} {b b':Nat} (h:u.natAbs<2 ^ b) (hb:b≤b'):u.natAbs<2 ^ b':=Nat.lt_of_lt_of_le h (Nat.pow_le_pow_right dd_ hb)
section
variable {p q:List I} {c d:Nat→Int} {n:Nat}
end
open Go Go.Kn
theorem LW (x y:Rt):kP [x,y]=(aT x&&aT y):=by
  unfold kP lU rY
  have e:mM [x,y] (fun y=>nM y) ([x,y].length+1) 0=bif aT x then (bif aT y then .inl 2 else .inr (W.cv 1)) else .inr (W.cv 0):=by
    show (bif nM x then _ else (bif nM y then _ else _))=_
    unfold nM
    cases aT x<;>cases aT y<;>rfl
  rw [e]
  cases aT x<;>cases aT y<;>rfl
section
variable {p:List I} {c:Nat→Int} {a b:Rt} {N D M F:Int}
end
end Go.Num
