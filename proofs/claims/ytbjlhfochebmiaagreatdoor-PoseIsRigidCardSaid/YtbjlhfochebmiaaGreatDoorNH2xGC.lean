/- Lemmas: what they ask stands in their statements. -/
import Derived.Test.YtbjlhfochebmiaaGreatDoorNWh
set_option linter.unusedSimpArgs false
set_option linter.unusedVariables false
set_option maxHeartbeats 8000000
set_option maxRecDepth 20000
namespace Go.Kn
open Go.RowKit
section
variable {P:Program} {w0:World} {X:List Nat} {N:Nm} {S:Fr} {M M':List Blk} {d:Option Tmp} {ty:TypeId} {ps:String} {af:Array Edge} {gd:Option (Nat×Bool)}
end
end Go.Kn
namespace Go.Num
open Go Go.Kn
section
variable {P:Program} {w0:World} {X:List Nat} {N:Nm} {S:Fr} {M:List Blk} {d:Option Tmp} {ty:TypeId} {ps:String} {af:Array Edge} {gd:Option (Nat×Bool)}
end
open Go Go.Kn
section
variable {P:Program} {w0:World} {X:List Nat} {N:Nm} {S:Fr} {M:List Blk} {d:Option Tmp} {ty:TypeId} {ps:String} {af:Array Edge} {gd:Option (Nat×Bool)}
end
open Go Go.Kn
theorem fY_ {x y:Int} (hx:-4611686018427387904<x∧x<4611686018427387904) (hy:-4611686018427387904<y∧y<4611686018427387904):IntKind.i64.wrap (x+y)=x+y∧I64 (x+y):=by
 have:I64 (x+y):=by unfold I64;omega
 exact ⟨cB this,this⟩
theorem SX {x:Int} (h:(decide (x<2147483648)&&decide (-2147483648<x))=true):x.natAbs<2147483648:=by simp only [Bool.and_eq_true,decide_eq_true_iff] at h;omega
theorem fZ_ {x y:Int} (hx:x.natAbs<2147483648) (hy:y.natAbs<2147483648):IntKind.i64.wrap (x*y)=x*y∧I64 (x*y):=by
 have h:(x*y).natAbs<4611686018427387904:=by
  rw [Int.natAbs_mul]
  calc x.natAbs*y.natAbs≤2147483647*2147483647:=Nat.mul_le_mul (by omega) (by omega)
   _<_:=by decide
 have:I64 (x*y):=by unfold I64;omega
 exact ⟨cB this,this⟩
theorem UJ {a b:R} (ha:a.Ok) (hb:b.Ok) (h:iE a=true) (k:iE b=true):Z.of (j8 a+j8 b)=Z.add a.dec b.dec:=by
 rw [Z.add,dH (mI ha h).1 (mI hb k).1]
theorem VB {a b:R} (ha:a.Ok) (hb:b.Ok) (h:iE a=true) (k:iE b=true):Z.of (j8 a*j8 b)=Z.mul a.dec b.dec:=by
 rw [Z.mul,dH (mI ha h).1 (mI hb k).1]
theorem at_ {a b:R} (ha:a.Ok) (hb:b.Ok) (ga:a.good=true) (gb:b.good=true) (hn:a.neg=b.neg):Z.of (sgn a.neg (val a.w+val b.w))=Z.add a.dec b.dec:=by
 rw [Z.add,dH (cJ ha ga) (cJ hb gb),← hn,NK]
theorem cE_ {a b:R} (ha:a.Ok) (hb:b.Ok) (ga:a.good=true) (gb:b.good=true) (hn:a.neg≠b.neg) (hlt:val a.w<val b.w):Z.of (sgn b.neg (val b.w - val a.w))=Z.add a.dec b.dec:=by
 rw [Z.add,dH (cJ ha ga) (cJ hb gb),Int.add_comm,EZ (Ne.symm hn) (by omega)]
theorem cD_ {a b:R} (ha:a.Ok) (hb:b.Ok) (ga:a.good=true) (gb:b.good=true) (hn:a.neg≠b.neg) (hge:¬ val a.w<val b.w):Z.of (sgn a.neg (val a.w - val b.w))=Z.add a.dec b.dec:=by
 rw [Z.add,dH (cJ ha ga) (cJ hb gb),EZ hn (by omega)]
theorem da_ {a b:R} (ha:a.Ok) (hb:b.Ok) (ga:a.good=true) (gb:b.good=true):Z.of (sgn (a.neg != b.neg) (val a.w*val b.w))=Z.mul a.dec b.dec:=by
 rw [Z.mul,dH (cJ ha ga) (cJ hb gb),NL]
theorem db_ {a:R} (ha:a.Ok) (ga:a.good=true):Z.of (sgn (!a.neg) (val a.w))=Z.neg a.dec:=by rw [Z.neg,jL (cJ ha ga),TU]
end Go.Num
namespace Go.Kn
open Go.RowKit
section
variable {P:Program} {w0:World} {X:List Nat} {N:Nm} {S:Fr} {M:List Blk} {d:Option Tmp} {ty:TypeId} {ps:String} {af:Array Edge} {gd:Option (Nat×Bool)}
end
section
variable {P:Program} {w0:World} {X:List Nat} {N:Nm} {S:Fr} {M:List Blk} {d:Option Tmp} {ty:TypeId} {ps:String} {af:Array Edge} {gd:Option (Nat×Bool)}
end
section
variable {P:Program} {w0:World} {X:List Nat} {N:Nm} {S:Fr} {M:List Blk} {Q:pP}
variable {d:Option Tmp} {ty:TypeId} {ps:String} {af:Array Edge} {gd:Option (Nat×Bool)}
end
section
variable {P:Program} {w0:World} {X:List Nat} {N:Nm} {Q:pP} {S:Fr} {M:List Blk} {c:Code}
end
open Go.RowKit
section rows
variable {α:Type} {e:El α}
end rows
section
variable {α:Type} {e:El α} {P:Program} {w0:World} {X:List Nat} {N:Nm} {S:Fr} {M M':List Blk} {d:Option Tmp} {ty:TypeId} {ps:String} {af:Array Edge} {gd:Option (Nat×Bool)} {v:Value} {l:List α}
end
open Go.RowKit
section
variable {P:Program} {w0:World} {X:List Nat} {N:Nm} {S:Fr} {M:List Blk} {d:Option Tmp} {ty:TypeId} {ps:String} {af:Array Edge} {gd:Option (Nat×Bool)}
end
open Go.RowKit
section
variable {α:Type} {e:El α} {P:Program} {w0:World} {X:List Nat} {N:Nm} {S:Fr} {M:List Blk} {d:Option Tmp} {ty:TypeId} {ps:String} {af:Array Edge} {gd:Option (Nat×Bool)} {v:Value} {l:List α}
end
section
variable {α:Type} {e:El α} {w0:World} {X:List Nat} {M:List Blk} {v:Value} {l:List α}
end
open Go.RowKit
section
variable {P:Program} {w0:World} {X:List Nat} {S:Fr} {M:List Blk} {d:Option Tmp} {ty:TypeId} {p:String} {af:Array Edge} {gd:Option (Nat×Bool)}
end
end Go.Kn
namespace Go.Num
open Go Go.Kn
theorem cV_ {n m k:Nat} (hn:n<65536 ^ k):n - m<65536 ^ k:=Nat.lt_of_le_of_lt (Nat.sub_le _ _) hn
theorem fF_ {n m i k:Nat} (hn:n<65536 ^ i) (hm:m<65536 ^ k):n*m<65536 ^ (i+k):=by rw [Nat.pow_add];exact Nat.mul_lt_mul_of_lt_of_lt hn hm
theorem ej_ {n m k:Nat} (hn:n<65536 ^ k):n % m<65536 ^ k:=Nat.lt_of_le_of_lt (Nat.mod_le _ _) hn
end Go.Num
namespace Go.Kn
open Go
section
variable {P:Program} {w0:World} {X:List Nat} {N:Nm} {Q:pP} {S:Fr} {M:List Blk} {c:Code}
end
end Go.Kn
namespace Go.Num
open Go Go.Kn
open Go
theorem ay_ (n k:Nat):(((dg n (k / 16):Nat):Int).fdiv (2 ^ (min ((k % 16:Nat):Int).toNat IntKind.i64.bits))).tmod 2=((n / 2 ^ k % 2:Nat):Int):=by
 have h1:((k % 16:Nat):Int).toNat=k % 16:=Int.toNat_natCast _;have h2:k % 16<16:=Nat.mod_lt _ (by decide);have h3:min (k % 16) IntKind.i64.bits=k % 16:=Nat.min_eq_left (by show k % 16≤64;omega);rw [h1,h3]
 have h5:((2:Int) ^ (k % 16))=((2 ^ (k % 16):Nat):Int):=by simp
 rw [h5,Int.fdiv_eq_ediv_of_nonneg _ (Int.natCast_nonneg _),← Int.natCast_ediv,Int.tmod_eq_emod_of_nonneg (Int.natCast_nonneg _)];rw [show (2:Int)=((2:Nat):Int) from rfl,← Int.natCast_emod]
 congr 1
 unfold dg
 have hk:(2:Nat) ^ k=65536 ^ (k / 16)*2 ^ (k % 16):=by
  rw [show (65536:Nat)=2 ^ 16 from rfl,← Nat.pow_mul,← Nat.pow_add];congr 1;omega
 rw [hk,← Nat.div_div_eq_div_mul];generalize n / 65536 ^ (k / 16)=x
 have h6:(65536:Nat)=2 ^ (k % 16)*(2*2 ^ (15 - k % 16)):=by
  rw [← Nat.pow_succ',← Nat.pow_add,show (65536:Nat)=2 ^ 16 from rfl];congr 1;omega
 rw [h6,Nat.mod_mul_right_div_self,Nat.mod_mul_right_mod]
theorem UK {n m:Nat} (h:n<2 ^ (m+1)) (h0:n / 2 ^ m % 2=0):n<2 ^ m:=by
 have h1:n / 2 ^ m<2:=by rw [Nat.div_lt_iff_lt_mul (Nat.pow_pos (by decide)),Nat.mul_comm,← Nat.pow_succ];exact h
 have h2:n / 2 ^ m=0:=by generalize n / 2 ^ m=q at *;omega
 rcases Nat.div_eq_zero_iff.1 h2 with h3|h3
 ·exact absurd h3 (by have:=Nat.pow_pos (n:=m) (show 0<2 by decide);omega)
 exact h3
theorem aB_ {n m:Nat} (h:n<2 ^ (m+1)) (h0:n / 2 ^ m % 2≠0):bl n=m+1:=by
 refine bO_ h (.inr ?_);rw [Nat.add_sub_cancel];rcases Nat.lt_or_ge n (2 ^ m) with h1|h1
 ·rw [Nat.div_eq_of_lt h1] at h0;exact absurd O h0
 exact h1
theorem QQ (n:Nat):n<2 ^ (16*(dl n).length):=by
 have:=KM n;rw [Nat.pow_mul];exact this
theorem ev_ {n:Nat} (h:n≤200):IntKind.i64.wrap (16*(n:Int))=((16*n:Nat):Int):=by
 rw [wi (by omega)];omega
theorem W2 {a:R} (h:a.good=false):a.dec.bits=0:=by
 unfold R.dec;rw [if_neg (by simp [h])];rfl
theorem aA_ {a:R} (ha:a.Ok) (ga:a.good=true) {k:Nat} (h:val a.w<2 ^ k) (h0:k=0):a.dec.bits=k:=by
 subst h0;rw [zA ha ga]
 have:val a.w=0:=by simpa using h
 rw [this];rfl
end Go.Num
namespace Go.Kn
open Go.RowKit
section
variable {P:Program} {w0:World} {X:List Nat} {N:Nm} {S:Fr} {M:List Blk}
variable {ops:List Oper} {Q:Fr→List Blk→Prop} {o:Oper} {l:List Oper} {v v':Value} {d:Tmp} {b c:Bool} {nw:List Nat} {MD:List Blk} {i:Nat} {ws:List Nat} {r:Plan}
section
variable {g:FuncId} {xs:List Operand} {tys:Array TypeId} {args:List Value} {ty:TypeId} {ps:String} {af:Array Edge} {gd:Option (Nat×Bool)}
end
end
section
variable {P:Program} {w0:World} {X:List Nat} {N:Nm} {S:Fr} {M:List Blk} {d:Option Tmp} {ty:TypeId} {ps:String} {af:Array Edge} {gd:Option (Nat×Bool)}
end
section
variable {P:Program} {w0:World} {X:List Nat} {N:Nm} {S:Fr} {M:List Blk} {Q:pP}
end
section
variable {P:Program} {w0:World} {X:List Nat} {N:Nm} {S:Fr} {M:List Blk} {Q:pP}
end
section
variable {α:Type} {e:El α} {w0 w:World} {X:List Nat} {M M' L:List Blk} {v:Value} {l:List α} {E:TypeId}
end
open Go.RowKit
section
variable {P:Program} {T f:Nat}
end
section
variable {P:Program} {w0:World} {X:List Nat} {N:Nm} {S:Fr} {M MD:List Blk} {Q:pP} {x y c:Code} {id n:Nat} {ops:List Oper} {nw:List Nat} {p:Plan}
variable {Qf:Fr→List Blk→Prop} {l:List Oper} {d:Option Tmp} {dd:Tmp} {ty:TypeId} {ps:String} {af:Array Edge} {gd:Option (Nat×Bool)} {T U:TypeId} {xo yo:Operand} {v:Value}
end
section
variable {P:Program} {w0:World} {X:List Nat} {N:Nm} {S:Fr} {M MD:List Blk} {Q:pP} {Qf:Fr→List Blk→Prop} {c:Code} {ops l:List Oper} {nw:List Nat} {p:Plan} {d:Option Tmp} {ty:TypeId} {ps:String} {af:Array Edge} {gd:Option (Nat×Bool)} {T:TypeId} {x y:Operand} {f:Nat}
end
end Go.Kn
namespace Go.Num
open Go Go.Kn Go.RowKit Go.ChangeShapes Go.WideShapes
section
variable {H:Type} {enc:TypeId×Value→H} {P:Program} {w:World} {base:Nat} {spare:Nat→Bool} {held:Bool}
end
theorem TH:∀ {n:Nat} {cs:List Value},LWF cs (List.replicate n (some .u32))→∃ l:List Nat,l.length=n∧Lim l∧cs=uw l
 | 0,[],_=>⟨[],rfl,(fun _ h=>by cases h),rfl⟩
 | 0,_::_,h=>h.elim
 | n+1,[],h=>h.elim
 | n+1,v::vs,h=>by
  obtain ⟨l,hl,hlim,rfl⟩:=TH (n:=n) (cs:=vs) h.2
  match v,h.1 with
  | .int k m,hv =>
   obtain ⟨rfl,hw⟩:=hv;have hb:=bounds_u32 hw;refine ⟨m.toNat::l,by simp [hl],fun d hd=>?_,?_⟩
   ·rcases List.mem_cons.1 hd with rfl|hd
    ·omega
    exact hlim d hd
   have:(m.toNat:Int)=m:=by omega
   simp [uw,U32,this]
theorem f4_ {cs:List Value} (h:LWF cs LI):∃ x:I,cs=(pI x).l:=by
 match cs,h with
 | .bool a::.bool b::rest,h =>
  obtain ⟨l,hl,hlim,rfl⟩:=TH h.2.2;exact ⟨⟨⟨a,b,l⟩,⟨hl,hlim⟩⟩,rfl⟩
open Go Go.Kn Go.RowKit
end Go.Num
namespace Go.Proofs.YtbjlhfochebmiaaGreatDoor
open Go.Kn Go.Num Tryz
section
variable {w0:World} {X:List Nat} {N:Nm} {S:Fr} {M MD:List Blk} {Q:pP} {y:Code} {id:Nat} {ops:List Oper}
end
theorem el_:prog.eqGuardType prog.depth 35=false:=by kernel_rfl
theorem es_:mD prog 8 35=some (true,(LI++LI)):=by kernel_rfl
section
variable {w0:World} {X:List Nat} {N:Nm} {fn:Func} {R:Value→List Blk→Prop} {S:Fr} {M:List Blk} {r r1 r2:ResultVar} {v v1 v2 v':Value} {ops:List Oper} {Q:Fr→List Blk→Prop} {d:Tmp} {l:List Oper}
section
variable {g:FuncId} {xs:List Operand} {tys:Array TypeId} {args:List Value} {ty:TypeId} {ps:String} {af:Array Edge} {gd:Option (Nat×Bool)}
end
end
end Go.Proofs.YtbjlhfochebmiaaGreatDoor
namespace Go.Num
open Go Go.Kn
def nX (a:I):I :=
 bif a.1.good then (E (Z.of (sgn (!a.1.neg) (val a.1.w)))) else (E Z.bad)
def jX (a:I) (b:I):I :=
 bif ((iE a.1)&&(iE b.1)) then (E (Z.of (W.add (dV a) (dV b)).1)) else (bif (!a.1.good||(!b.1.good)) then (E Z.bad) else (bif (a.1.neg==b.1.neg) then (E (Z.of (sgn a.1.neg ((val a.1.w)+(val b.1.w))))) else (bif decide ((val a.1.w)<(val b.1.w)) then (E (Z.of (sgn b.1.neg ((val b.1.w) - (val a.1.w))))) else (E (Z.of (sgn a.1.neg ((val a.1.w) - (val b.1.w))))))))
def mJ (a:I) (b:I):I :=
 bif ((iE a.1)&&((iE b.1)&&((decide ((dV a).1<2147483648)&&decide (-2147483648<(dV a).1))&&(decide ((dV b).1<2147483648)&&decide (-2147483648<(dV b).1))))) then (E (Z.of (W.mul (dV a) (dV b)).1)) else (bif (!a.1.good||(!b.1.good)) then (E Z.bad) else (E (Z.of (sgn (a.1.neg != b.1.neg) ((val a.1.w)*(val b.1.w))))))
def kW (a:I) (b:I):I :=
 bif ((iE a.1)&&((iE b.1)&&((dV b).1 != 0))) then (let r10:I:=(E (Z.of (W.sub (dV a) (W.mul (dV b) (W.fdiv (dV a) (dV b)))).1))
 r10) else (bif (!a.1.good||(!b.1.good||(((dl (val b.1.w)).length:Int)==0))) then (E Z.bad) else (bif ((a.1.neg != b.1.neg)&&decide (0<((dl ((val a.1.w) % (val b.1.w))).length:Int))) then (E (Z.of (sgn b.1.neg ((val b.1.w) - ((val a.1.w) % (val b.1.w)))))) else (E (Z.of (sgn b.1.neg ((val a.1.w) % (val b.1.w)))))))
def iC (a:Rt) (b:Rt):Rt :=
 bif (!(aV a)||(!(aV b))) then jY else (let r10:I:=(E (Z.mul ((bR a.n b.d).n).dec ((bR b.n a.d).n).dec))
 let r12:I:=(E (Z.mul ((bR a.n b.d).d).dec ((bR b.n a.d).d).dec))
 (bR r10 r12))
def fN (a:Rt) (b:Bool):I :=
 bif b then (E (Z.of 0)) else (E Z.bad)
def fJ (a:(A3 Rt)) (b:(A3 Rt)):Rt :=
 let r5:Rt:=(jD (aJ (wl 0)) (fW a.x b.x))
 let r6:Rt:=(jD r5 (fW a.y b.y))
 let r7:Rt:=(jD r6 (fW a.z b.z))
 r7
def jQ (a:(A3 Rt)) (b:(A3 Rt)):(A3 Rt) :=
 (⟨(bQ a.x b.x),(bQ a.y b.y),(bQ a.z b.z)⟩:(A3 Rt))
def jZ (a:Rt) (b:Rt):W :=
 bif (!(aV a)||(!(aV b))) then (let r7:W:=(Z.cmpW (fN a (aV a)).dec (fN b (aV b)).dec)
 r7) else (cf (cfN a.d) (wl 1) a.n a.d b.n b.d)
def gT (n:I) (k:Int):Nat→Nat→I→Nat×I
 | 0,i,mb3=>(i,mb3)
 | k0+1,i,mb3=>bif decide ((i:Int)<k) then (gT n k k0 (i+1) (E (Z.mul mb3.dec n.dec))) else (i,mb3)
def fU (n:I) (k:Int):I :=
 ap (fun (s:Nat×I)=>let i:Nat:=s.1
 let mb3:I:=s.2
 mb3) (gT n k (k.toNat+1) 0 (E (Z.of 1)))
def kB (a:Rt):Bool :=
 bif (!(fO a.n)||(!(fO a.d)||decide ((Z.signW a.d.dec).1≤0))) then false else (decide ((E (Z.gcd a.n.dec a.d.dec))=(E (Z.of 1))))
def gU (p:(List I)) (x:Rt):Nat→Int→I→Int×I
 | 0,i,mb7=>(i,mb7)
 | k0+1,i,mb7=>bif decide (0≤i) then (let r12:I:=(E (Z.mul (p.getD (i.toNat) I0).dec (fU x.d (((p.length:Int) - 1) - i)).dec))
 (gU p x k0 (i - 1) (E (Z.add (Z.mul mb7.dec x.n.dec) r12.dec)))) else (i,mb7)
def gM (p:(List I)) (x:Rt):I :=
 bif ((dY p)||(!(kB x))) then (E Z.bad) else (ap (fun (s:Int×I)=>let i:Int:=s.1
 let mb7:I:=s.2
 mb7) (gU p x (p.length+1) ((p.length:Int) - 1) I0))
def jE (p:(List I)) (x:Rt):Rt :=
 let r3:I:=(fU x.d (((p.length:Int) - 1).toNat:Int))
 let r4:Rt:=(bR (gM p x) r3)
 r4
def fT (a:Path):W :=
 bif ((cZ a.from_).1 != 0) then (cZ a.from_) else (cZ a.to_)
def dZ (b:(A3 W)):Bool :=
 bif (decide (262144<b.x.1)||decide (b.x.1<(-262144))) then false else (bif (decide (262144<b.y.1)||decide (b.y.1<(-262144))) then false else (bif (decide (262144<b.z.1)||decide (b.z.1<(-262144))) then false else true))
def jK (x:Rt):Bool :=
 ((aV x)&&(decide (0≤(gW x).1)&&(decide ((jZ x (fI (wl 1))).1≤0)&&decide ((Z.bitsW x.d.dec).1≤12))))
def iU (p:(List I)) (x:Rt):Bool :=
 (decide (0<(gW (jE p x)).1))
def fC (h:Path) (b:(A3 W)) (u:(A3 W)) (c:(List (A3 W))) (x:Rt) (r16:(A3 Rt)) (r17:(A3 Rt)) (r18:(A3 Rt)) (r20:(A3 Rt)):List (A3 W)→(Unit) ⊕ (Bool)
 | []=>.inl ()
 | x0::l0=>let r51:(A3 Rt):=(i8 h x0 x)
 bif (decide (0<(cH (aJ (((aP h c).1).x)) r51.x).1)||decide (0<(cH r51.x (aJ (((aP h c).2).x))).1)) then (.inr false) else (bif (decide (0<(cH (aJ (((aP h c).1).y)) r51.y).1)||decide (0<(cH r51.y (aJ (((aP h c).2).y))).1)) then (.inr false) else (bif (decide (0<(cH (aJ (((aP h c).1).z)) r51.z).1)||decide (0<(cH r51.z (aJ (((aP h c).2).z))).1)) then (.inr false) else (fC h b u c x r16 r17 r18 r20 l0)))
def fB (h:Path) (b:(A3 W)) (u:(A3 W)) (c:(List (A3 W))) (x:Rt):Bool :=
 bif (((fT h).1 != 0)||(!(dZ b)||(!(dZ u)||(!(jK x)||(!(e8 c)))))) then fH else (let r16:(A3 Rt):=(i8 h b x)
 let r17:(A3 Rt):=(i8 h u x)
 let r18:(A3 Rt):=(jQ r16 r17)
 let r20:(A3 Rt):=(kG (⟨(W.sub b.x u.x),(W.sub b.y u.y),(W.sub b.z u.z)⟩:(A3 W)))
 bif (decide (((fJ r18 r18).n)=((fJ r20 r20).n))&&decide (((fJ r18 r18).d)=((fJ r20 r20).d))) then (sm (fun (s:Unit)=>(fH&&(iU (eT h) x))) (fun r=>r) (fC h b u c x r16 r17 r18 r20 c)) else false)
end Go.Num
namespace Go.Proofs.YtbjlhfochebmiaaGreatDoor
open Go.Kn Go.Num Tryz
attribute [local irreducible] Go.Kn.W WL PL OpQ OpR OpS
theorem u6 (n:Int) :
   Ret prog 201 [.int .i64 n] (.bool (decide (n<2147483648)&&decide (-2147483648<n))):=by
 refine bJ (N:=9) func201 O O zz_ (fun w0=>?_);refine giI ?_;refine go7 ?_
 cases h1:decide (n<2147483648)
 ·refine go6 ?_;refine rt1 ?_
  simp [*]
 refine go6 ?_;refine rt1 ?_
 simp [*]
end Go.Proofs.YtbjlhfochebmiaaGreatDoor
namespace Go.Num
open Go Go.Kn
theorem eb_ {a b:I} (h:(!a.1.good||(!b.1.good))=true):a.1.dec.o=none∨b.1.dec.o=none:=by
 cases ha:a.1.good
 ·exact .inl (GD ha)
 ·cases hb:b.1.good
  ·exact .inr (GD hb)
  rw [ha,hb] at h;cases h
theorem XW {a b:I} (h:(!a.1.good||(!b.1.good))=false):a.1.good=true∧b.1.good=true:=by
 cases ha:a.1.good<;>cases hb:b.1.good<;>rw [ha,hb] at h<;>first|exact ⟨rfl,rfl⟩|cases h
theorem AB (a:I):nX a=E (Z.neg a.dec):=by
 unfold nX
 show _=E (Z.neg a.1.dec)
 cases h:a.1.good
 ·rw [cond_false,Z.neg,zK (GD h)]
 rw [cond_true,db_ a.2 h]
theorem z8 (a b:I):jX a b=E (Z.add a.dec b.dec):=by
 unfold jX
 show _=E (Z.add a.1.dec b.1.dec)
 cases hw:(iE a.1&&iE b.1)
 ·rw [cond_false]
  cases hg:(!a.1.good||(!b.1.good))
  ·obtain ⟨ga,gb⟩:=XW hg
   rw [cond_false]
   cases hn:(a.1.neg==b.1.neg)
   ·rw [cond_false]
    have hn':a.1.neg≠b.1.neg:=by simpa using hn
    cases hl:decide (val a.1.w<val b.1.w)
    ·rw [cond_false,cD_ a.2 b.2 ga gb hn' (of_decide_eq_false hl)]
    rw [cond_true,cE_ a.2 b.2 ga gb hn' (of_decide_eq_true hl)]
   rw [cond_true,at_ a.2 b.2 ga gb (by simpa using hn)]
  rw [cond_true,Z.add,nS (eb_ hg)]
 rw [cond_true];rw [Bool.and_eq_true] at hw
 show E (Z.of (IntKind.i64.wrap (j8 a.1+j8 b.1)))=_
 rw [(fY_ (mI a.2 hw.1).2.2.2 (mI b.2 hw.2).2.2.2).1,UJ a.2 b.2 hw.1 hw.2]
theorem AA (a b:I):mJ a b=E (Z.mul a.dec b.dec):=by
 unfold mJ
 show _=E (Z.mul a.1.dec b.1.dec)
 cases hw:(iE a.1&&(iE b.1&&((decide ((dV a).1<2147483648)&&decide (-2147483648<(dV a).1))&&(decide ((dV b).1<2147483648)&&decide (-2147483648<(dV b).1)))))
 ·rw [cond_false]
  cases hg:(!a.1.good||(!b.1.good))
  ·obtain ⟨ga,gb⟩:=XW hg
   rw [cond_false,da_ a.2 b.2 ga gb]
  rw [cond_true,Z.mul,nS (eb_ hg)]
 rw [cond_true];rw [Bool.and_eq_true,Bool.and_eq_true,Bool.and_eq_true] at hw;obtain ⟨h1,h2,h3,h4⟩:=hw
 show E (Z.of (IntKind.i64.wrap (j8 a.1*j8 b.1)))=_
 rw [(fZ_ (x:=j8 a.1) (y:=j8 b.1) (SX h3) (SX h4)).1,VB a.2 b.2 h1 h2]
end Go.Num
namespace Go.Proofs.YtbjlhfochebmiaaGreatDoor
open Go.Kn Go.Num Tryz
attribute [local irreducible] Go.Kn.W WL PL OpQ OpR OpS
theorem BV (a:I) :
   Ret prog 169 [AV [pI a]] (AV [pI (nX a)]):=by
 refine bJ (N:=13) func169 O O zz_ (fun w0=>?_);refine giI ?_;refine go2 ?_;intro b1 hb1;refine go_ ?_;intro b2 hb2;refine go4 ?_;refine sC (.bool a.1.good) aE (bW a.1 a.2) O O O (go2 ?_);rcases bt a.1.good with h3|h3
 ·refine W_f (fZ h3) O (go_ ?_);refine nK sn 7 [4,6] [6] (go4 ?_);refine dF O O (fM aE O (fun w hw=>bX a.1 a.2 w) (fun vl4 Ll4 kl4=>⟨(fun _=>sR s0),sn,?_⟩))
  try simp only [gJ,l9] at kl4
  refine pQ O (aS (v':=AV [pI (E (Z.of (sgn (!a.1.neg) (val a.1.w))))]) (dJ aE O (fun w hw=>dM (!a.1.neg) vl4 (dl (val a.1.w)) (kS _) (Nat.le_trans (iF (k:=32) (rF a.2)) dd_) w (SL.sl (SL.sub kl4.sl lZ) hw))) (by rw [(gJ _)];rfl)) (go3 ?_);refine rtX O (fF O (mA mZ) tyT O) ?_;exact congrArg vS3 (show _=(nX a) from aC h3 O)
 refine W_t (gA h3) O (go_ ?_);refine sC (AV [pI (E Z.bad)]) aE eA O O O (go3 ?_);refine rtX O (fF O m0 tyT O) ?_;exact congrArg vS3 (show _=(nX a) from aH h3 O)
theorem BW (a:R) (ha:a.Ok):Ret prog 169 [RV a] (RV (Z.neg a.dec).enc):=by
 have h:=BV ⟨a,ha⟩;rw [AB] at h;exact h
theorem BR (a:I) (b:I) :
    Ret prog 145 [AV [pI a],AV [pI b]] (AV [pI (jX a b)]):=by
 refine bJ (N:=70) func145 O O zz_ (fun w0=>?_);refine giI ?_;refine go2 ?_;intro b1 hb1;refine go_ ?_;intro b2 hb2;refine go_ ?_;intro b3 hb3;refine go3 ?_;refine sC (.tuple #[.int .i64 ((dV a).1),.bool (iE a.1)]) aE (gC a.1 a.2) O O O (go8 ?_);refine sC (.tuple #[.int .i64 ((dV b).1),.bool (iE b.1)]) aE (gC b.1 b.2) O O O (go7 ?_);refine gJv [22,23,24,25] [(25,.bool ((iE a.1)&&(iE b.1)))] (fun K2 J2=>?_) ?_
 ·refine go2 ?_;refine sBB O (fun h5=>?_) (fun h5=>?_)
  ·refine go3 ?_;refine J2 _ _ pp_ s0 (bS (k6 h5 O))
  refine go3 ?_;refine J2 _ _ pp_ s0 (bS (oB h5))
 intro g6;refine aN _ O (fun h7=>?_) (fun h7=>?_)
 ·refine go3 ?_;refine sV (.int .i64 ((W.add (dV a) (dV b)).1)) O O (sC (AV [pI (E (Z.of (W.add (dV a) (dV b)).1))]) aE (dO (W.add (dV a) (dV b)).1 (W.add (dV a) (dV b)).2) O O O (go3 ?_));refine rtX O (fF O m0 tyT O) ?_;exact congrArg vS3 (show _=(jX a b) from aC h7 O)
 refine go2 ?_;refine gJv (rg [] 30 8) [(37,.bool (!a.1.good||(!b.1.good)))] (fun K4 J4=>?_) ?_
 ·refine go2 ?_;refine sC (.bool a.1.good) aE (bW a.1 a.2) O O O (go_ ?_);rcases bt a.1.good with h9|h9
  ·refine sB (fZ h9) O (go_ ?_);refine sC (.bool b.1.good) aE (bW b.1 b.2) O O O (go3 ?_);refine J4 _ _ pp_ s0 (bS (o8 h9 O))
  refine sB (gA h9) O (go5 ?_);refine J4 _ _ pp_ s0 (bS (tH h9))
 intro g10;refine aN _ O (fun h11=>?_) (fun h11=>?_)
 ·refine go_ ?_;refine sC (AV [pI (E Z.bad)]) aE eA O O O (go3 ?_);refine rtX O (fF O m0 tyT O) ?_;exact congrArg vS3 (show _=(jX a b) from aH h7 (aC h11 O))
 refine go3 ?_;refine bI O (fM aE O (fun w hw=>bX a.1 a.2 w) (fun vl12 Ll12 kl12=>?_))
 try simp only [gJ,l9] at kl12
 refine go4 ?_;refine bI O (fM aE O (fun w hw=>bX b.1 b.2 w) (fun vl13 Ll13 kl13=>?_))
 try simp only [gJ,l9] at kl13
 refine go8 ?_;refine sQ (aS (v':=.bool (a.1.neg==b.1.neg)) (YU DU O O) O) O (go_ ?_);refine aN _ O (fun h14=>?_) (fun h14=>?_)
 ·refine nK sn 7 [4,6] [6] (go4 ?_);refine dF O O (fM aE O (fun w hw=>qY vl12 vl13 (dl (val a.1.w)) (dl (val b.1.w)) (kS _) (kS _) (Nat.le_trans (iF (k:=32) (rF a.2)) dd_) (Nat.le_trans (iF (k:=32) (rF b.2)) dd_) w (SL.sl (SL.sub kl12.sl (sR lZ)) hw) (SL.sl (SL.sub kl13.sl lZ) hw)) (fun vl15 Ll15 kl15=>⟨(fun _=>sR s0),sn,?_⟩))
  try simp only [gJ,l9] at kl15
  refine pQ O (aS (v':=AV [pI (E (Z.of (sgn a.1.neg ((val a.1.w)+(val b.1.w)))))]) (dJ aE O (fun w hw=>dM a.1.neg vl15 (dl ((val a.1.w)+(val b.1.w))) (kS _) (Nat.le_trans (iF (k:=33) (eg_ (k:=32) (rF a.2) (rF b.2))) dd_) w (SL.sl (SL.sub kl15.sl lZ) hw))) (by rw [(gJ _)];rfl)) (go3 ?_);refine rtX O (fF O (mA (mA (mA mZ))) tyT O) ?_;exact congrArg vS3 (show _=(jX a b) from aH h7 (aH h11 (aC h14 O)))
 refine go4 ?_;refine sQ (aS (v':=.bool (decide ((val a.1.w)<(val b.1.w)))) (dJ aE O (fun w hw=>kP vl12 vl13 (dl (val a.1.w)) (dl (val b.1.w)) (kS _) (kS _) (Nat.le_trans (iF (k:=32) (rF a.2)) dd_) (Nat.le_trans (iF (k:=32) (rF b.2)) dd_) w (SL.sl (SL.sub kl12.sl (sR lZ)) hw) (SL.sl (SL.sub kl13.sl lZ) hw))) (by rw [(gJ _),(gJ _)])) O (go6 ?_);refine aN _ O (fun h16=>?_) (fun h16=>?_)
 ·refine nK sn 7 [4,6] [6] (go4 ?_);refine dF O O (fM aE O (fun w hw=>lO vl13 vl12 (dl (val b.1.w)) (dl (val a.1.w)) (kS _) (kS _) (Nat.le_trans (iF (k:=32) (rF b.2)) dd_) (Nat.le_trans (iF (k:=32) (rF a.2)) dd_) (by simp only [gJ,l9];exact (Nat.le_of_lt (of_decide_eq_true h16))) w (SL.sl (SL.sub kl13.sl lZ) hw) (SL.sl (SL.sub kl12.sl (sR lZ)) hw)) (fun vl17 Ll17 kl17=>⟨(fun _=>sR s0),sn,?_⟩))
  try simp only [gJ,l9] at kl17
  refine pQ O (aS (v':=AV [pI (E (Z.of (sgn b.1.neg ((val b.1.w) - (val a.1.w)))))]) (dJ aE O (fun w hw=>dM b.1.neg vl17 (dl ((val b.1.w) - (val a.1.w))) (kS _) (Nat.le_trans (iF (k:=32) (cV_ (rF b.2))) dd_) w (SL.sl (SL.sub kl17.sl lZ) hw))) (by rw [(gJ _)];rfl)) (go3 ?_);refine rtX O (fF O (mA (mA (mA mZ))) tyT O) ?_;exact congrArg vS3 (show _=(jX a b) from aH h7 (aH h11 (aH h14 (aC h16 O))))
 refine go_ ?_;refine nK sn 7 [4,6] [6] (go4 ?_);refine dF O O (fM aE O (fun w hw=>lO vl12 vl13 (dl (val a.1.w)) (dl (val b.1.w)) (kS _) (kS _) (Nat.le_trans (iF (k:=32) (rF a.2)) dd_) (Nat.le_trans (iF (k:=32) (rF b.2)) dd_) (by simp only [gJ,l9];exact (Nat.le_of_not_lt (of_decide_eq_false h16))) w (SL.sl (SL.sub kl12.sl (sR lZ)) hw) (SL.sl (SL.sub kl13.sl lZ) hw)) (fun vl18 Ll18 kl18=>⟨(fun _=>sR s0),sn,?_⟩))
 try simp only [gJ,l9] at kl18
 refine pQ O (aS (v':=AV [pI (E (Z.of (sgn a.1.neg ((val a.1.w) - (val b.1.w)))))]) (dJ aE O (fun w hw=>dM a.1.neg vl18 (dl ((val a.1.w) - (val b.1.w))) (kS _) (Nat.le_trans (iF (k:=32) (cV_ (rF a.2))) dd_) w (SL.sl (SL.sub kl18.sl lZ) hw))) (by rw [(gJ _)];rfl)) (go3 ?_);refine rtX O (fF O (mA (mA (mA mZ))) tyT O) ?_;exact congrArg vS3 (show _=(jX a b) from aH h7 (aH h11 (aH h14 (aH h16 O))))
theorem BS (a b:R) (ha:a.Ok) (hb:b.Ok):Ret prog 145 [RV a,RV b] (RV (Z.add a.dec b.dec).enc):=by
 have h:=BR ⟨a,ha⟩ ⟨b,hb⟩;rw [z8] at h;exact h
theorem BU (a:I) (b:I) :
    Ret prog 146 [AV [pI a],AV [pI b]] (AV [pI (mJ a b)]):=by
 refine bJ (N:=55) func146 O O zz_ (fun w0=>?_);refine giI ?_;refine go2 ?_;intro b1 hb1;refine go_ ?_;intro b2 hb2;refine go_ ?_;intro b3 hb3;refine go3 ?_;refine sC (.tuple #[.int .i64 ((dV a).1),.bool (iE a.1)]) aE (gC a.1 a.2) O O O (go8 ?_);refine sC (.tuple #[.int .i64 ((dV b).1),.bool (iE b.1)]) aE (gC b.1 b.2) O O O (go7 ?_);refine gJv (rg [] 19 12) [(30,.bool ((iE a.1)&&((iE b.1)&&((decide ((dV a).1<2147483648)&&decide (-2147483648<(dV a).1))&&(decide ((dV b).1<2147483648)&&decide (-2147483648<(dV b).1))))))] (fun K2 J2=>?_) ?_
 ·refine go2 ?_;refine sBB O (fun h7=>?_) (fun h7=>?_)
  ·refine go2 ?_;refine sBB O (fun h8=>?_) (fun h8=>?_)
   ·refine go_ ?_;refine sC (.bool (decide ((dV a).1<2147483648)&&decide (-2147483648<(dV a).1))) aE (u6 (dV a).1) O O O (go_ ?_);refine sBB O (fun h9=>?_) (fun h9=>?_)
    ·refine go_ ?_;refine sC (.bool (decide ((dV b).1<2147483648)&&decide (-2147483648<(dV b).1))) aE (u6 (dV b).1) O O O (go2 ?_);refine J2 _ _ pp_ s0 (bS (k6 h7 (k6 h8 (k6 h9 O))))
    refine go4 ?_;refine J2 _ _ pp_ s0 (bS (k6 h7 (k6 h8 (oB h9))))
   refine go8 ?_;refine J2 _ _ pp_ s0 (bS (k6 h7 (oB h8)))
  refine wN ?_;refine J2 _ _ pp_ s0 (bS (oB h7))
 intro g10;refine aN _ O (fun h11=>?_) (fun h11=>?_)
 ·refine go3 ?_;refine sV (.int .i64 ((W.mul (dV a) (dV b)).1)) O O (sC (AV [pI (E (Z.of (W.mul (dV a) (dV b)).1))]) aE (dO (W.mul (dV a) (dV b)).1 (W.mul (dV a) (dV b)).2) O O O (go3 ?_));refine rtX O (fF O m0 tyT O) ?_;exact congrArg vS3 (show _=(mJ a b) from aC h11 O)
 refine go2 ?_;refine gJv (rg [] 35 8) [(42,.bool (!a.1.good||(!b.1.good)))] (fun K4 J4=>?_) ?_
 ·refine go2 ?_;refine sC (.bool a.1.good) aE (bW a.1 a.2) O O O (go_ ?_);rcases bt a.1.good with h13|h13
  ·refine sB (fZ h13) O (go_ ?_);refine sC (.bool b.1.good) aE (bW b.1 b.2) O O O (go3 ?_);refine J4 _ _ pp_ s0 (bS (o8 h13 O))
  refine sB (gA h13) O (go5 ?_);refine J4 _ _ pp_ s0 (bS (tH h13))
 intro g14;refine aN _ O (fun h15=>?_) (fun h15=>?_)
 ·refine go_ ?_;refine sC (AV [pI (E Z.bad)]) aE eA O O O (go3 ?_);refine rtX O (fF O m0 tyT O) ?_;exact congrArg vS3 (show _=(mJ a b) from aH h11 (aC h15 O))
 refine go_ ?_;refine gds sn [0,4,8,12,16,20,28,25,33,37,40,45] [11] mix (by kernel_rfl) (go4 ?_);refine pQ O (aS (v':=.bool (a.1.neg != b.1.neg)) (vQ DU O O) O) (go2 ?_);refine dF O O (fM aE O (fun w hw=>bX a.1 a.2 w) (fun vl16 Ll16 kl16=>⟨(fun _=>sR s0),sn,?_⟩))
 try simp only [gJ,l9] at kl16
 refine dF O O (fM aE O (fun w hw=>bX b.1 b.2 w) (fun vl17 Ll17 kl17=>⟨(fun _=>sR s0),sn,?_⟩))
 try simp only [gJ,l9] at kl17
 refine dF O O (fM aE O (fun w hw=>uD vl16 vl17 (dl (val a.1.w)) (dl (val b.1.w)) (kS _) (kS _) (Nat.le_trans (iF (k:=32) (rF a.2)) dd_) (Nat.le_trans (iF (k:=32) (rF b.2)) dd_) w (SL.sl (SL.sub kl16.sl (sR lZ)) hw) (SL.sl (SL.sub kl17.sl lZ) hw)) (fun vl18 Ll18 kl18=>⟨(fun _=>sR s0),sn,?_⟩))
 try simp only [gJ,l9] at kl18
 refine pQ O (aS (v':=AV [pI (E (Z.of (sgn (a.1.neg != b.1.neg) ((val a.1.w)*(val b.1.w)))))]) (dJ aE O (fun w hw=>dM (a.1.neg != b.1.neg) vl18 (dl ((val a.1.w)*(val b.1.w))) (kS _) (Nat.le_trans (iF (k:=64) (fF_ (i:=32) (k:=32) (rF a.2) (rF b.2))) dd_) w (SL.sl (SL.sub kl18.sl lZ) hw))) (by rw [(gJ _)];rfl)) (go3 ?_);refine rtX O (fF O (mA (mA (mA mZ))) tyT O) ?_;exact congrArg vS3 (show _=(mJ a b) from aH h11 (aH h15 O))
theorem rG (a b:R) (ha:a.Ok) (hb:b.Ok):Ret prog 146 [RV a,RV b] (RV (Z.mul a.dec b.dec).enc):=by
 have h:=BU ⟨a,ha⟩ ⟨b,hb⟩;rw [AA] at h;exact h
theorem rH  :
  Ret prog 108 [] (AV [pI F_skewbackref04_one]):=by
 refine bJ (N:=2) func108 O O zz_ (fun w0=>?_);refine giI ?_;obtain ⟨q0,hq0⟩:=nm ((E (Z.of 1)):I);refine go2 ?_;intro b1 hb1;refine go2 ?_;refine sC (AV [pI q0]) aE (dO (wl 1).1 (wl 1).2) O O (by subst hq0;rfl) ?_;refine go3 ?_;refine rtX O (fF O m0 tyT O) ?_;exact (by obtain rfl:=hq0.symm;rfl)
theorem B2  :
  Ret prog 156 [] (AV [pI jY.n,pI jY.d]):=by
 refine bJ (N:=4) func156 O O zz_ (fun w0=>?_);refine giI ?_;obtain ⟨q0,hq0⟩:=nm ((E Z.bad):I);obtain ⟨q1,hq1⟩:=nm (F_skewbackref04_one:I);refine go2 ?_;intro b1 hb1;refine go2 ?_;refine sC (AV [pI q0]) aE eA O O (by subst hq0;rfl) (sC (AV [pI q1]) aE rH O O (by subst hq1;rfl) (go4 ?_));refine rtX O (fF O m0 tyT O) ?_;exact (by subst_vars;rfl)
theorem u7 (a:I) (b:I) :
    Ret prog 113 [AV [pI a],AV [pI b]] (AV [pI ((bR a b).n),pI ((bR a b).d)]):=by
 refine bJ (N:=35) func113 O O zz_ (fun w0=>?_);refine giI ?_;refine go2 ?_;intro b1 hb1;refine go_ ?_;intro b2 hb2;refine go_ ?_;intro b3 hb3;refine go2 ?_;refine gJv (rg [] 6 13) [(18,.bool (!a.1.good||(!b.1.good||((Z.signW b.dec).1==0))))] (fun K2 J2=>?_) ?_
 ·refine go2 ?_;refine sC (.bool a.1.good) aE (bW a.1 a.2) O O O (go_ ?_);rcases bt a.1.good with h6|h6
  ·refine sB (fZ h6) O (go_ ?_);refine sC (.bool b.1.good) aE (bW b.1 b.2) O O O (go2 ?_);rcases bt b.1.good with h7|h7
   ·refine sB (fZ h7) O (go_ ?_);refine sC (.int .i64 ((Z.signW b.dec).1)) aE (fK b.1 b.2) O O O (go3 ?_);refine J2 _ _ pp_ s0 (bS (o8 h6 (o8 h7 O)))
   refine sB (gA h7) O (go5 ?_);refine J2 _ _ pp_ s0 (bS (o8 h6 (tH h7)))
  refine sB (gA h6) O (iK ?_);refine J2 _ _ pp_ s0 (bS (tH h6))
 intro g8;refine aN _ O (fun h9=>?_) (fun h9=>?_)
 ·refine go_ ?_;refine sQ (aX aE B2  rfl) O (go3 ?_);refine rtX O (fF O m0 tyT O) ?_;exact congrArg vS5 (show _=(bR a b) from aC h9 O)
 refine go4 ?_;refine sC (AV [pI (E (Z.gcd a.dec b.dec))]) aE (k9 a.1 b.1 a.2 b.2) O O O (go_ ?_);intro b10 hb10;refine go5 ?_;refine sC (.int .i64 ((Z.signW b.dec).1)) aE (fK b.1 b.2) O O O (go2 ?_);refine aN _ O (fun h11=>?_) (fun h11=>?_)
 ·refine go2 ?_;refine sC (AV [pI (E (Z.neg (Z.gcd a.dec b.dec)))]) aE (BW (E (Z.gcd a.dec b.dec)).1 (E (Z.gcd a.dec b.dec)).2) O O (cg1 (fun p=>AV [pI (E (Z.neg p))]) (dQ _)) (go2 ?_);refine nK (sk (sd (sk (sk s0)))) 8 [7] [7] (go2 ?_);refine pC (AV [pI (E (Z.quo a.dec (Z.neg (Z.gcd a.dec b.dec))))]) aE (hZ a.1 (E (Z.neg (Z.gcd a.dec b.dec))).1 a.2 (E (Z.neg (Z.gcd a.dec b.dec))).2) O O (cg2 (fun p q=>AV [pI (E (Z.quo p q))]) O (dQ _)) (go2 ?_);refine pC (AV [pI (E (Z.quo b.dec (Z.neg (Z.gcd a.dec b.dec))))]) aE (hZ b.1 (E (Z.neg (Z.gcd a.dec b.dec))).1 b.2 (E (Z.neg (Z.gcd a.dec b.dec))).2) O O (cg2 (fun p q=>AV [pI (E (Z.quo p q))]) O (dQ _)) (pQ O (oX zpT plT O (.cons [pI (E (Z.quo a.dec (Z.neg (Z.gcd a.dec b.dec))))] [pI (E (Z.quo a.dec (Z.neg (Z.gcd a.dec b.dec)))),pI I0] O O O O (.cons [pI (E (Z.quo b.dec (Z.neg (Z.gcd a.dec b.dec))))] [pI (E (Z.quo a.dec (Z.neg (Z.gcd a.dec b.dec)))),pI (E (Z.quo b.dec (Z.neg (Z.gcd a.dec b.dec))))] O O O O (.nil _)))) (go3 ?_));refine rtX O (fF O m1 tyT O) ?_;exact congrArg vS5 (show _=(bR a b) from aH h9 (aC h11 O))
 refine go_ ?_;refine nK (sk (sd (sk (sk s0)))) 8 [7] [7] (go2 ?_);refine pC (AV [pI (E (Z.quo a.dec (Z.gcd a.dec b.dec)))]) aE (hZ a.1 (E (Z.gcd a.dec b.dec)).1 a.2 (E (Z.gcd a.dec b.dec)).2) O O (cg2 (fun p q=>AV [pI (E (Z.quo p q))]) O (dQ _)) (go2 ?_);refine pC (AV [pI (E (Z.quo b.dec (Z.gcd a.dec b.dec)))]) aE (hZ b.1 (E (Z.gcd a.dec b.dec)).1 b.2 (E (Z.gcd a.dec b.dec)).2) O O (cg2 (fun p q=>AV [pI (E (Z.quo p q))]) O (dQ _)) (pQ O (oX zpT plT O (.cons [pI (E (Z.quo a.dec (Z.gcd a.dec b.dec)))] [pI (E (Z.quo a.dec (Z.gcd a.dec b.dec))),pI I0] O O O O (.cons [pI (E (Z.quo b.dec (Z.gcd a.dec b.dec)))] [pI (E (Z.quo a.dec (Z.gcd a.dec b.dec))),pI (E (Z.quo b.dec (Z.gcd a.dec b.dec)))] O O O O (.nil _)))) (go3 ?_));refine rtX O (fF O m1 tyT O) ?_;exact congrArg vS5 (show _=(bR a b) from aH h9 (aH h11 O))
theorem CN (a:W) :
  Ret prog 47 [.int .i64 a.1] (AV [pI ((fI a).n),pI ((fI a).d)]):=by
 refine bJ (N:=7) func47 O O zz_ (fun w0=>?_);refine giI ?_;refine go2 ?_;intro b1 hb1;refine go3 ?_;refine sC (AV [pI (E (Z.of a.1))]) aE (dO a.1 a.2) O O O (sQ (aX aE rH  rfl) O ?_);obtain ⟨r2,hr2⟩:=nm ((bR (E (Z.of a.1)) F_skewbackref04_one):Rt);refine sC (AV [pI r2.n,pI r2.d]) aE (u7 (E (Z.of a.1)) F_skewbackref04_one) O O (by rw [hr2]) (go3 ?_);refine rtX O (fF O m0 tyT O) ?_;exact (by subst hr2;rfl)
theorem n7 (a:Rt) :
    Ret prog 44 [AV [pI a.n,pI a.d]] (.bool (aV a)):=by
 refine bJ (N:=26) func44 O O zz_ (fun w0=>?_);refine giI ?_;refine go2 ?_;intro b1 hb1;refine go3 ?_;refine gJv (rg [] 3 10) [(12,.bool (!a.n.1.good||(!a.d.1.good)))] (fun K2 J2=>?_) ?_
 ·refine go3 ?_;refine sC (.bool a.n.1.good) aE (bW a.n.1 a.n.2) O O O (go_ ?_);rcases bt a.n.1.good with h3|h3
  ·refine sB (fZ h3) O (go2 ?_);refine sC (.bool a.d.1.good) aE (bW a.d.1 a.d.2) O O O (go3 ?_);refine J2 _ _ pp_ s0 (bS (o8 h3 O))
  refine sB (gA h3) O (go6 ?_);refine J2 _ _ pp_ s0 (bS (tH h3))
 intro g4;refine aN _ O (fun h5=>?_) (fun h5=>?_)
 ·refine go4 ?_;refine rt1 ?_;exact congrArg vS1 (show _=(aV a) from aC h5 O)
 refine go_ ?_;refine gJv (rg [2] 13 13) [(2,.bool (decide (0<(Z.signW a.d.dec).1)&&decide ((E (Z.gcd a.n.dec a.d.dec))=F_skewbackref04_one)))] (fun K3 J3=>?_) ?_
 ·refine go3 ?_;refine sC (.int .i64 ((Z.signW a.d.dec).1)) aE (fK a.d.1 a.d.2) O O O (go_ ?_);refine sBB O (fun h7=>?_) (fun h7=>?_)
  ·refine go4 ?_;refine sC (AV [pI (E (Z.gcd a.n.dec a.d.dec))]) aE (k9 a.n.1 a.d.1 a.n.2 a.d.2) O O O (sQ (aX aE rH  rfl) O ?_);refine sQ (gI (r:=decide ((E (Z.gcd a.n.dec a.d.dec))=F_skewbackref04_one)) O O (dR 8 dd_ SS S6 (cM bG) (cM bG) (eJ cY))) O (go3 ?_);refine J3 _ _ pp_ s0 (bS (k6 h7 O))
  refine iK ?_;refine J3 _ _ pp_ s0 (bS (oB h7))
 intro g8;refine go_ ?_;refine rt1 ?_;exact congrArg vS1 (show _=(aV a) from aH h5 O)
theorem vA (a:Rt) (b:Bool) :
   Ret prog 110 [AV [pI a.n,pI a.d],.bool b] (AV [pI (fN a b)]):=by
 refine bJ (N:=8) func110 O O zz_ (fun w0=>?_);refine giI ?_;refine go2 ?_;intro b1 hb1;refine go_ ?_;intro b2 hb2;refine go5 ?_;refine aN _ O (fun h3=>?_) (fun h3=>?_)
 ·refine go_ ?_;refine sC (AV [pI (E (Z.of 0))]) aE (dO (wl 0).1 (wl 0).2) O O O ?_;refine go3 ?_;refine rtX O (fF O m0 tyT O) ?_;exact congrArg vS3 (show _=(fN a b) from aC h3 O)
 refine go2 ?_;refine sC (AV [pI (E Z.bad)]) aE eA O O O (go3 ?_);refine rtX O (fF O m0 tyT O) ?_;exact congrArg vS3 (show _=(fN a b) from aH h3 O)
end Go.Proofs.YtbjlhfochebmiaaGreatDoor
namespace Go.Num
open Go Go.Kn
theorem VL {a:Rt} (h:aV a=true):cfP (cfN a.d) a.d:=by
 unfold aV at h
 cases h1:(!a.n.1.good||(!a.d.1.good))
 ·rw [h1,cond_false] at h
  simp only [Bool.and_eq_true,decide_eq_true_eq] at h;exact KG h.1
 rw [h1,cond_true] at h;cases h
theorem ba_ {a b:Bool} (h:(!a || !b)=false):a=true:=by cases a with|true=>rfl|false=>cases h
theorem OQ (n m:Bool) {x y:Nat} (hy:0<y):(sgn n x).fmod (sgn m y)=if n≠m∧x % y≠0 then sgn m (y - x % y) else sgn m (x % y):=by
 rw [Int.fmod_def,HV n m hy];have h1:=Nat.div_add_mod x y;have h2:=Nat.mod_lt x hy
 have e:(x:Int)=(y:Int)*((x / y:Nat):Int)+((x % y:Nat):Int):=by exact_mod_cast h1.symm
 have e2:(y:Int)*(-((x / y:Nat):Int) - 1) = -((y:Int)*((x / y:Nat):Int)) - y:=by grind
 have e3:(y:Int)*(-((x / y:Nat):Int)) = -((y:Int)*((x / y:Nat):Int)):=by grind
 have e4:(-(y:Int))*(-((x / y:Nat):Int) - 1)=((y:Int)*((x / y:Nat):Int))+y:=by grind
 have e5:(-(y:Int))*(-((x / y:Nat):Int))=((y:Int)*((x / y:Nat):Int)):=by grind
 have e6:(-(y:Int))*((x / y:Nat):Int) = -((y:Int)*((x / y:Nat):Int)):=by grind
 cases n<;>cases m<;>by_cases h0:x % y=0<;>simp only [tI,tA,reduceIte,Bool.false_eq_true,Bool.true_eq_false,reduceCtorEq,ne_eq,not_true_eq_false,not_false_eq_true,false_and,true_and,and_self,h0]<;>omega
theorem dv_ {x y:W} (hx:-4611686018427387904<x.1∧x.1<4611686018427387904) (hy:-4611686018427387904<y.1∧y.1<4611686018427387904) (h0:y.1≠0) (hf:x.1.fdiv y.1=(W.fdiv x y).1) :
  (W.sub x (W.mul y (W.fdiv x y))).1=x.1.fmod y.1:=by
 have e:x.1.fmod y.1=x.1 - y.1*x.1.fdiv y.1:=Int.fmod_def ..
 have hb:(x.1.fmod y.1).natAbs<y.1.natAbs:=by
  rcases Int.lt_or_gt_of_ne h0 with h|h
  ·have h1:=Int.fmod_nonneg_of_pos (-x.1) (show 0 < -y.1 by omega)
   have h2:=Int.fmod_lt_of_pos (-x.1) (show 0 < -y.1 by omega);rw [Int.neg_fmod_neg] at h1 h2;omega
  have h1:=Int.fmod_nonneg_of_pos x.1 h;have h2:=Int.fmod_lt_of_pos x.1 h;omega
 show IntKind.i64.wrap (x.1 - IntKind.i64.wrap (y.1*(W.fdiv x y).1))=_
 rw [← hf,cB (n:=y.1*x.1.fdiv y.1) (by unfold I64;omega),← e,cB (by unfold I64;omega)]
theorem VM {a b:R} (ha:a.Ok) (hb:b.Ok) (h:iE a=true) (k:iE b=true) (h0:j8 b≠0):Z.of ((j8 a).fmod (j8 b))=Z.rem a.dec b.dec:=by
 rw [Z.rem,dH (mI ha h).1 (mI hb k).1,if_neg h0]
theorem b8_ {a b:R} (h:a.good=false∨b.good=false):Z.bad=Z.rem a.dec b.dec:=by
 rw [Z.rem,nS (h.imp GD GD)]
theorem eQ_ {a b:R} (ha:a.Ok) (hb:b.Ok) (ga:a.good=true) (gb:b.good=true) (h:val b.w=0):Z.bad=Z.rem a.dec b.dec:=by
 rw [Z.rem,dH (cJ ha ga) (cJ hb gb),if_pos (by rw [h];cases b.neg<;>rfl)]
theorem dt_ {a b:R} (ha:a.Ok) (hb:b.Ok) (ga:a.good=true) (gb:b.good=true) (h0:val b.w≠0) (h:a.neg=b.neg∨val a.w % val b.w=0):Z.of (sgn b.neg (val a.w % val b.w))=Z.rem a.dec b.dec:=by
 have hp:0<val b.w:=Nat.pos_of_ne_zero h0;rw [Z.rem,dH (cJ ha ga) (cJ hb gb),if_neg (FL hp),OQ _ _ hp,if_neg];rintro ⟨h1,h2⟩;exact h.elim h1 h2
theorem bm_ {a b:R} (ha:a.Ok) (hb:b.Ok) (ga:a.good=true) (gb:b.good=true) (h0:val b.w≠0) (hn:a.neg≠b.neg) (h:val a.w % val b.w≠0):Z.of (sgn b.neg (val b.w - val a.w % val b.w))=Z.rem a.dec b.dec:=by
 have hp:0<val b.w:=Nat.pos_of_ne_zero h0;rw [Z.rem,dH (cJ ha ga) (cJ hb gb),if_neg (FL hp),OQ _ _ hp,if_pos ⟨hn,h⟩]
theorem AD (a b:I):kW a b=E (Z.rem a.dec b.dec):=by
 unfold kW;rw [c6_]
 show _=E (Z.rem a.1.dec b.1.dec)
 cases hw:(iE a.1&&(iE b.1&&((dV b).1 != 0)))
 ·rw [cond_false]
  cases hg:(!a.1.good||(!b.1.good||(val b.1.w==0)))
  ·rw [cond_false]
   simp only [Bool.or_eq_false_iff,Bool.not_eq_false',beq_eq_false_iff_ne] at hg;obtain ⟨ga,gb,h0⟩:=hg
   cases hc:((a.1.neg != b.1.neg)&&decide ((0:Int)<((dl (val a.1.w % val b.1.w)).length:Int)))
   ·rw [cond_false,dt_ a.2 b.2 ga gb h0]
    rw [Bool.and_eq_false_iff] at hc;rcases hc with hc|hc
    ·exact .inl (by simpa using hc)
    right
    have:=of_decide_eq_false hc;exact MK.1 oo_
   rw [cond_true,bm_ a.2 b.2 ga gb h0]
   ·rw [Bool.and_eq_true] at hc;simpa using hc.1
   rw [Bool.and_eq_true] at hc;have:=of_decide_eq_true hc.2;intro h;rw [h,rJ] at this;exact absurd this dd_
  rw [cond_true]
  cases ga:a.1.good
  ·rw [b8_ (.inl ga)]
  ·cases gb:b.1.good
   ·rw [b8_ (.inr gb)]
   rw [ga,gb] at hg;rw [eQ_ a.2 b.2 ga gb (by simpa using hg)]
 rw [cond_true];have hf:=MU hw;rw [Bool.and_eq_true,Bool.and_eq_true] at hw
 show E (Z.of (W.sub (dV a) (W.mul (dV b) (W.fdiv (dV a) (dV b)))).1)=_
 rw [dv_ (mI a.2 hw.1).2.2.2 (mI b.2 hw.2.1).2.2.2 hf.2.1 hf.2.2];exact congrArg E (VM a.2 b.2 hw.1 hw.2.1 hf.2.1)
end Go.Num
namespace Go.Proofs.YtbjlhfochebmiaaGreatDoor
open Go.Kn Go.Num Tryz
attribute [local irreducible] Go.Kn.W WL PL OpQ OpR OpS
theorem BY (a:I) (b:I) :
    Ret prog 112 [AV [pI a],AV [pI b]] (AV [pI (kW a b)]):=by
 refine bJ (N:=78) func112 O O zz_ (fun w0=>?_);refine giI ?_;refine go2 ?_;intro b1 hb1;refine go_ ?_;intro b2 hb2;refine go_ ?_;intro b3 hb3;refine go3 ?_;refine sC (.tuple #[.int .i64 ((dV a).1),.bool (iE a.1)]) aE (gC a.1 a.2) O O O (go8 ?_);refine sC (.tuple #[.int .i64 ((dV b).1),.bool (iE b.1)]) aE (gC b.1 b.2) O O O (go7 ?_);refine gJv (rg [] 21 8) [(28,.bool ((iE a.1)&&((iE b.1)&&((dV b).1 != 0))))] (fun K2 J2=>?_) ?_
 ·refine go2 ?_;refine sBB O (fun h6=>?_) (fun h6=>?_)
  ·refine go2 ?_;refine sBB O (fun h7=>?_) (fun h7=>?_)
   ·refine go4 ?_;refine J2 _ _ pp_ s0 (bS (k6 h6 (k6 h7 O)))
   refine go4 ?_;refine J2 _ _ pp_ s0 (bS (k6 h6 (oB h7)))
  refine go7 ?_;refine J2 _ _ pp_ s0 (bS (oB h6))
 intro g8;refine aN _ O (fun h9=>?_) (fun h9=>?_)
 ·refine go3 ?_;have hfl:=MU h9;refine go2 ?_;refine sC (.int .i64 ((W.fdiv (dV a) (dV b)).1)) aE (uC (dV a).1 (dV b).1 (dV a).2 hfl.1 hfl.2.1) O O (congrArg (Value.int .i64) hfl.2.2) (sV (.int .i64 ((W.mul (dV b) (W.fdiv (dV a) (dV b))).1)) O O (sV (.int .i64 ((W.sub (dV a) (W.mul (dV b) (W.fdiv (dV a) (dV b)))).1)) O O ?_));obtain ⟨r10,hr10⟩:=nm ((E (Z.of (W.sub (dV a) (W.mul (dV b) (W.fdiv (dV a) (dV b)))).1)):I);refine sC (AV [pI r10]) aE (dO (W.sub (dV a) (W.mul (dV b) (W.fdiv (dV a) (dV b)))).1 (W.sub (dV a) (W.mul (dV b) (W.fdiv (dV a) (dV b)))).2) O O (by subst hr10;rfl) (go3 ?_);refine rtX O (fF O m0 tyT O) ?_;exact (by subst hr10;exact congrArg vS3 (show _=(kW a b) from aC h9 O))
 refine go2 ?_;refine gJv (rg [] 37 14) [(50,.bool (!a.1.good||(!b.1.good||(((dl (val b.1.w)).length:Int)==0))))] (fun K4 J4=>?_) ?_
 ·refine go2 ?_;refine sC (.bool a.1.good) aE (bW a.1 a.2) O O O (go_ ?_);rcases bt a.1.good with h14|h14
  ·refine sB (fZ h14) O (go_ ?_);refine sC (.bool b.1.good) aE (bW b.1 b.2) O O O (go2 ?_);rcases bt b.1.good with h15|h15
   ·refine sB (fZ h15) O (go_ ?_);refine bI O (fM aE O (fun w hw=>bX b.1 b.2 w) (fun vl16 Ll16 kl16=>?_))
    try simp only [gJ,l9] at kl16
    refine sQ (aS (v':=.int .i64 ((dl (val b.1.w)).length:Int)) (nU jC O (SL.sub kl16.sl lZ)) O) O (go3 ?_);refine J4 _ _ pp_ (sR s0) (bS (o8 h14 (o8 h15 O)))
   refine sB (gA h15) O (go6 ?_);refine J4 _ _ pp_ s0 (bS (o8 h14 (tH h15)))
  refine sB (gA h14) O (wN ?_);refine J4 _ _ pp_ s0 (bS (tH h14))
 intro g17;refine aN _ O (fun h18=>?_) (fun h18=>?_)
 ·refine go_ ?_;refine sC (AV [pI (E Z.bad)]) aE eA O O O (go3 ?_);refine rtX O (fF O m0 tyT O) ?_;exact congrArg vS3 (show _=(kW a b) from aH h9 (aC h18 O))
 refine go_ ?_;refine gds sn [0,8,5,13,17,20,24,28,32,36] [] mix (by kernel_rfl) (go2 ?_);refine dF O O (fM aE O (fun w hw=>bX a.1 a.2 w) (fun vl19 Ll19 kl19=>⟨(fun _=>sR s0),sn,?_⟩))
 try simp only [gJ,l9] at kl19
 refine dF O O (fM aE O (fun w hw=>bX b.1 b.2 w) (fun vl20 Ll20 kl20=>⟨(fun _=>sR s0),sn,?_⟩))
 try simp only [gJ,l9] at kl20
 have hB:=bU_ h18;refine dF O O (C5 aE O (fun w hw=>nF vl19 vl20 (val a.1.w) (val b.1.w) hB (Nat.le_trans (iF (k:=32) (rF a.2)) dd_) (Nat.le_trans (iF (k:=32) (rF b.2)) dd_) w (SL.sl (SL.sub kl19.sl (sR lZ)) hw) (SL.sl (SL.sub kl20.sl lZ) hw)) (fun vl21_0 vl21_1 Ll21 kl21_0 kl21_1=>⟨(fun _=>sR s0),sn,?_⟩))
 try simp only [gJ,l9] at kl21_0 kl21_1
 refine go7 ?_;refine gJv (rg [] 60 10) [(69,.bool ((a.1.neg != b.1.neg)&&decide (0<((dl ((val a.1.w) % (val b.1.w))).length:Int))))] (fun K6 J6=>?_) ?_
 ·refine go5 ?_;refine sQ (aS (v':=.bool (a.1.neg != b.1.neg)) (vQ DU O O) O) O ?_;refine sBB O (fun h23=>?_) (fun h23=>?_)
  ·refine go_ ?_;refine sQ (aS (v':=.int .i64 ((dl ((val a.1.w) % (val b.1.w))).length:Int)) (nU jC O (SL.sub kl21_1 lZ)) O) O (go3 ?_);refine J6 _ _ pp_ s0 (bS (k6 h23 O))
  refine go5 ?_;refine J6 _ _ pp_ s0 (bS (oB h23))
 intro g24;refine aN _ O (fun h25=>?_) (fun h25=>?_)
 ·refine go2 ?_;refine bI O (fM aE O (fun w hw=>bX b.1 b.2 w) (fun vl26 Ll26 kl26=>?_))
  try simp only [gJ,l9] at kl26
  refine go_ ?_;refine bI O (fM aE O (fun w hw=>lO vl26 vl21_1 (dl (val b.1.w)) (dl ((val a.1.w) % (val b.1.w))) (kS _) (kS _) (Nat.le_trans (iF (k:=32) (rF b.2)) dd_) (Nat.le_trans (iF (k:=32) (ej_ (rF a.2))) dd_) (by simp only [gJ,l9];exact (Nat.le_of_lt (Nat.mod_lt _ hB))) w (SL.sl (SL.sub kl26.sl lZ) hw) (SL.sl (SL.sub kl21_1 (sR lZ)) hw)) (fun vl27 Ll27 kl27=>?_))
  try simp only [gJ,l9] at kl27
  refine go6 ?_;refine sQ (aS (v':=AV [pI (E (Z.of (sgn b.1.neg ((val b.1.w) - ((val a.1.w) % (val b.1.w))))))]) (dJ aE O (fun w hw=>dM b.1.neg vl27 (dl ((val b.1.w) - ((val a.1.w) % (val b.1.w)))) (kS _) (Nat.le_trans (iF (k:=32) (cV_ (rF b.2))) dd_) w (SL.sl (SL.sub kl27.sl lZ) hw))) (by rw [(gJ _)];rfl)) O (go3 ?_);refine rtX O (fF O (mA (mA (mA (mA (mA mZ))))) tyT O) ?_;exact congrArg vS3 (show _=(kW a b) from aH h9 (aH h18 (aC h25 O)))
 refine go5 ?_;refine sQ (aS (v':=AV [pI (E (Z.of (sgn b.1.neg ((val a.1.w) % (val b.1.w)))))]) (dJ aE O (fun w hw=>dM b.1.neg vl21_1 (dl ((val a.1.w) % (val b.1.w))) (kS _) (Nat.le_trans (iF (k:=32) (ej_ (rF a.2))) dd_) w (SL.sl (SL.sub kl21_1 lZ) hw))) (by rw [(gJ _)];rfl)) O (go3 ?_);refine rtX O (fF O (mA (mA (mA mZ))) tyT O) ?_;exact congrArg vS3 (show _=(kW a b) from aH h9 (aH h18 (aH h25 O)))
theorem vG (a b:R) (ha:a.Ok) (hb:b.Ok):Ret prog 112 [RV a,RV b] (RV (Z.rem a.dec b.dec).enc):=by
 have h:=BY ⟨a,ha⟩ ⟨b,hb⟩;rw [AD] at h;exact h
end Go.Proofs.YtbjlhfochebmiaaGreatDoor
