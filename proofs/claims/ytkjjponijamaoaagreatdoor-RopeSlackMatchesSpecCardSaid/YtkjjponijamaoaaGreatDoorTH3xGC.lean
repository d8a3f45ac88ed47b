/- Lemmas: what they ask stands in their statements. -/
import Derived.Test.YtkjjponijamaoaaGreatDoorTR
import Derived.Test.YtkjjponijamaoaaGreatDoorTYb
import Derived.Test.YtkjjponijamaoaaGreatDoorTYc
set_option linter.unusedSimpArgs false
set_option linter.unusedVariables false
set_option maxHeartbeats 8000000
set_option maxRecDepth 100000
namespace Go.Kn
open Go.RowKit
section
variable {P:Program} {w0:World} {X:List Nat} {N:Nm} {S:Fr} {M M':List Blk} {d:Option Tmp} {ty:TypeId} {ps:String} {af:Array Edge} {gd:Option (Nat×Bool)}
end
end Go.Kn
namespace Go.Num
open Go Go.Kn
section
variable {P:Program} {w0:World} {X:List Nat} {N:Nm} {S:Fr} {M:List Blk} {d:Option Tmp} {ty:TypeId} {ps:String} {af:Array Edge} {gd:Option (Nat×Bool)}
end
open Go Go.Kn
section
variable {P:Program} {w0:World} {X:List Nat} {N:Nm} {S:Fr} {M:List Blk} {d:Option Tmp} {ty:TypeId} {ps:String} {af:Array Edge} {gd:Option (Nat×Bool)}
end
open Go Go.Kn
theorem iB_ {x y:Int} (hx:-4611686018427387904<x∧x<4611686018427387904) (hy:-4611686018427387904<y∧y<4611686018427387904):IntKind.i64.wrap (x+y)=x+y∧I64 (x+y):=by
  have:I64 (x+y):=by unfold I64;omega
  exact ⟨cO this,this⟩
theorem XB {x:Int} (h:(decide (x<2147483648)&&decide (-2147483648<x))=true):x.natAbs<2147483648:=by simp only [Bool.and_eq_true,decide_eq_true_iff] at h;omega
theorem iC_ {x y:Int} (hx:x.natAbs<2147483648) (hy:y.natAbs<2147483648):IntKind.i64.wrap (x*y)=x*y∧I64 (x*y):=by
  have h:(x*y).natAbs<4611686018427387904:=by
    rw [Int.natAbs_mul]
    calc x.natAbs*y.natAbs≤2147483647*2147483647:=Nat.mul_le_mul (by omega) (by omega)
      _<_:=by decide
  have:I64 (x*y):=by unfold I64;omega
  exact ⟨cO this,this⟩
theorem YY {a b:R} (ha:a.Ok) (hb:b.Ok) (h:kI a=true) (k:kI b=true):Z.of (mK a+mK b)=Z.add a.dec b.dec:=by
  rw [Z.add,eB (oR ha h).1 (oR hb k).1]
theorem ZK {a b:R} (ha:a.Ok) (hb:b.Ok) (h:kI a=true) (k:kI b=true):Z.of (mK a*mK b)=Z.mul a.dec b.dec:=by
  rw [Z.mul,eB (oR ha h).1 (oR hb k).1]
theorem c4_ {a b:R} (ha:a.Ok) (hb:b.Ok) (ga:a.good=true) (gb:b.good=true) (hn:a.neg=b.neg):Z.of (sgn a.neg (val a.w+val b.w))=Z.add a.dec b.dec:=by
  rw [Z.add,eB (dE ha ga) (dE hb gb),← hn,Q9]
theorem fr_ {a b:R} (ha:a.Ok) (hb:b.Ok) (ga:a.good=true) (gb:b.good=true) (hn:a.neg≠b.neg) (hlt:val a.w<val b.w):Z.of (sgn b.neg (val b.w - val a.w))=Z.add a.dec b.dec:=by
  rw [Z.add,eB (dE ha ga) (dE hb gb),Int.add_comm,HW (Ne.symm hn) (by omega)]
theorem fq_ {a b:R} (ha:a.Ok) (hb:b.Ok) (ga:a.good=true) (gb:b.good=true) (hn:a.neg≠b.neg) (hge:¬ val a.w<val b.w):Z.of (sgn a.neg (val a.w - val b.w))=Z.add a.dec b.dec:=by
  rw [Z.add,eB (dE ha ga) (dE hb gb),HW hn (by omega)]
theorem f4_ {a b:R} (ha:a.Ok) (hb:b.Ok) (ga:a.good=true) (gb:b.good=true):Z.of (sgn (a.neg != b.neg) (val a.w*val b.w))=Z.mul a.dec b.dec:=by
  rw [Z.mul,eB (dE ha ga) (dE hb gb),RA]
end Go.Num
namespace Go.Kn
open Go.RowKit
section
variable {P:Program} {w0:World} {X:List Nat} {N:Nm} {S:Fr} {M:List Blk} {d:Option Tmp} {ty:TypeId} {ps:String} {af:Array Edge} {gd:Option (Nat×Bool)}
end
section
variable {P:Program} {w0:World} {X:List Nat} {N:Nm} {S:Fr} {M:List Blk} {d:Option Tmp} {ty:TypeId} {ps:String} {af:Array Edge} {gd:Option (Nat×Bool)}
end
section
variable {P:Program} {w0:World} {X:List Nat} {N:Nm} {S:Fr} {M:List Blk} {Q:sY}
variable {d:Option Tmp} {ty:TypeId} {ps:String} {af:Array Edge} {gd:Option (Nat×Bool)}
end
section
variable {P:Program} {w0:World} {X:List Nat} {N:Nm} {Q:sY} {S:Fr} {M:List Blk} {c:Code}
end
open Go.RowKit
section rows
variable {α:Type} {e:El α}
end rows
section
variable {α:Type} {e:El α} {P:Program} {w0:World} {X:List Nat} {N:Nm} {S:Fr} {M M':List Blk} {d:Option Tmp} {ty:TypeId} {ps:String} {af:Array Edge} {gd:Option (Nat×Bool)} {v:Value} {l:List α}
end
open Go.RowKit
section
variable {P:Program} {w0:World} {X:List Nat} {N:Nm} {S:Fr} {M:List Blk} {d:Option Tmp} {ty:TypeId} {ps:String} {af:Array Edge} {gd:Option (Nat×Bool)}
end
open Go.RowKit
section
variable {α:Type} {e:El α} {P:Program} {w0:World} {X:List Nat} {N:Nm} {S:Fr} {M:List Blk} {d:Option Tmp} {ty:TypeId} {ps:String} {af:Array Edge} {gd:Option (Nat×Bool)} {v:Value} {l:List α}
end
section
variable {α:Type} {e:El α} {w0:World} {X:List Nat} {M:List Blk} {v:Value} {l:List α}
end
open Go.RowKit
section
variable {P:Program} {w0:World} {X:List Nat} {S:Fr} {M:List Blk} {d:Option Tmp} {ty:TypeId} {p:String} {af:Array Edge} {gd:Option (Nat×Bool)}
end
end Go.Kn
namespace Go.Num
open Go Go.Kn
theorem fJ_ {n m k:Nat} (hn:n<65536 ^ k):n - m<65536 ^ k:=Nat.lt_of_le_of_lt (Nat.sub_le _ _) hn
theorem if_ {n m i k:Nat} (hn:n<65536 ^ i) (hm:m<65536 ^ k):n*m<65536 ^ (i+k):=by rw [Nat.pow_add];exact Nat.mul_lt_mul_of_lt_of_lt hn hm
end Go.Num
namespace Go.Kn
open Go
section
variable {P:Program} {w0:World} {X:List Nat} {N:Nm} {Q:sY} {S:Fr} {M:List Blk} {c:Code}
end
end Go.Kn
namespace Go.Num
open Go Go.Kn
open Go
end Go.Num
namespace Go.Kn
open Go.RowKit
section
variable {P:Program} {w0:World} {X:List Nat} {N:Nm} {S:Fr} {M:List Blk}
variable {ops:List Oper} {Q:Fr→List Blk→Prop} {o:Oper} {l:List Oper} {v v':Value} {d:Tmp} {b c:Bool} {nw:List Nat} {MD:List Blk} {i:Nat} {ws:List Nat} {r:Plan}
section
variable {g:FuncId} {xs:List Operand} {tys:Array TypeId} {args:List Value} {ty:TypeId} {ps:String} {af:Array Edge} {gd:Option (Nat×Bool)}
end
end
section
variable {P:Program} {w0:World} {X:List Nat} {N:Nm} {S:Fr} {M:List Blk} {d:Option Tmp} {ty:TypeId} {ps:String} {af:Array Edge} {gd:Option (Nat×Bool)}
end
section
variable {P:Program} {w0:World} {X:List Nat} {N:Nm} {S:Fr} {M:List Blk} {Q:sY}
end
section
variable {P:Program} {w0:World} {X:List Nat} {N:Nm} {S:Fr} {M:List Blk} {Q:sY}
end
section
variable {α:Type} {e:El α} {w0 w:World} {X:List Nat} {M M' L:List Blk} {v:Value} {l:List α} {E:TypeId}
end
open Go.RowKit
section
variable {P:Program} {T f:Nat}
end
section
variable {P:Program} {w0:World} {X:List Nat} {N:Nm} {S:Fr} {M MD:List Blk} {Q:sY} {x y c:Code} {id n:Nat} {ops:List Oper} {nw:List Nat} {p:Plan}
variable {Qf:Fr→List Blk→Prop} {l:List Oper} {d:Option Tmp} {dd:Tmp} {ty:TypeId} {ps:String} {af:Array Edge} {gd:Option (Nat×Bool)} {T U:TypeId} {xo yo:Operand} {v:Value}
end
section
variable {P:Program} {w0:World} {X:List Nat} {N:Nm} {S:Fr} {M MD:List Blk} {Q:sY} {Qf:Fr→List Blk→Prop} {c:Code} {ops l:List Oper} {nw:List Nat} {p:Plan} {d:Option Tmp} {ty:TypeId} {ps:String} {af:Array Edge} {gd:Option (Nat×Bool)} {T:TypeId} {x y:Operand} {f:Nat}
end
theorem im_ {A B:Prop} (k:B) (h:Hid B→A:=by intro hk;(iterate 60 refine go_ ?_);exact hk.h):A:=h ⟨k⟩
end Go.Kn
namespace Go.Num
open Go Go.Kn Go.RowKit Go.ChangeShapes Go.WideShapes
section
variable {H:Type} {enc:TypeId×Value→H} {P:Program} {w:World} {base:Nat} {spare:Nat→Bool} {held:Bool}
end
open Go Go.Kn Go.RowKit
open Go Go.Kn
def l9 (a:I) (b:I):I :=
  bif ((kI a.1)&&(kI b.1)) then ((E (Z.of (W.add (fI a) (fI b)).1))) else (bif (!a.1.good||(!b.1.good)) then ((E Z.bad)) else (bif (a.1.neg==b.1.neg) then ((E (Z.of (sgn a.1.neg ((val a.1.w)+(val b.1.w)))))) else (bif decide ((val a.1.w)<(val b.1.w)) then ((E (Z.of (sgn b.1.neg ((val b.1.w) - (val a.1.w)))))) else ((E (Z.of (sgn a.1.neg ((val a.1.w) - (val b.1.w)))))))))
def zA (a:I) (b:I):I :=
  (E (Z.add a.dec (Z.neg b.dec)))
def oT (a:I) (b:I):I :=
  bif ((kI a.1)&&((kI b.1)&&((decide ((fI a).1<2147483648)&&decide (-2147483648<(fI a).1))&&(decide ((fI b).1<2147483648)&&decide (-2147483648<(fI b).1))))) then ((E (Z.of (W.mul (fI a) (fI b)).1))) else (bif (!a.1.good||(!b.1.good)) then ((E Z.bad)) else ((E (Z.of (sgn (a.1.neg != b.1.neg) ((val a.1.w)*(val b.1.w)))))))
def jB (l:(List I)):Nat→Nat→I→Nat×I
  | 0,i,mb2=>(i,mb2)
  | k0+1,i,mb2=>bif decide (((i:Nat):Int)<(((l).length:Nat):Int)) then ((jB l k0 (i+1) (E (Z.gcd mb2.dec (l.getD i I0).dec)))) else ((i,mb2))
def cB (l:(List I)):I :=
  ap (fun (s:Nat×I)=>let i:Nat:=s.1
  let mb2:I:=s.2
  mb2) (jB l ((l.length+1)) 0 I0)
def gP (p:(List I)):Nat→(List I)→Nat→List I×Nat
  | 0,out,i=>(out,i)
  | k0+1,out,i=>bif decide (((i:Nat):Int)<(((p).length:Nat):Int)) then ((gP p k0 (out++[(E (Z.quo (p.getD i I0).dec (cB p).dec))]) (i+1))) else ((out,i))
def eY (p:(List I)):(List I) :=
  bif (bG p) then (F_skewbackref08_bad) else (ap (fun (s:List I×Nat)=>let out:List I:=s.1
  let i:Nat:=s.2
  (bM out)) (gP p ((p.length+1)) ([]:List I) 0))
def aS (h:Path) (u:(A3 W)) (b:(A3 Rt)) (m:Rt):Curve :=
  let q0:W:=(cM h)
  let q1:Bool:=(eA u (wl 262144))
  let q2:Bool:=(aG m)
  bif ((q0.1 != 0)||(!q1||(!q2))) then ((⟨([]:List I),(wl 1)⟩:Curve)) else (let q3:Bool:=(aG b.x)
  let q4:Bool:=(aG b.y)
  let q5:Bool:=(aG b.z)
  let q6:Moving:=(cY h u)
  let q7:I:=(j3 b.x.d b.y.d b.z.d)
  let q8:(List I):=(aX q6.s q6.s)
  let q9:I:=(j3 m.n q7 q7)
  let q10:(List I):=(aM q8 q9)
  let q11:I:=(E (Z.mul b.x.n.dec q7.dec))
  let q12:I:=(E (Z.quo q11.dec b.x.d.dec))
  let q13:(List I):=(aM q6.n.x q7)
  let q14:(List I):=(aM q6.s q12)
  let q15:(List I):=(eD q13 q14)
  let q16:(List I):=(aX q15 q15)
  let q17:(List I):=(aK ([]:List I) q16)
  let q18:I:=(E (Z.mul b.y.n.dec q7.dec))
  let q19:I:=(E (Z.quo q18.dec b.y.d.dec))
  let q20:(List I):=(aM q6.n.y q7)
  let q21:(List I):=(aM q6.s q19)
  let q22:(List I):=(eD q20 q21)
  let q23:(List I):=(aX q22 q22)
  let q24:(List I):=(aK q17 q23)
  let q25:I:=(E (Z.mul b.z.n.dec q7.dec))
  let q26:I:=(E (Z.quo q25.dec b.z.d.dec))
  let q27:(List I):=(aM q6.n.z q7)
  let q28:(List I):=(aM q6.s q26)
  let q29:(List I):=(eD q27 q28)
  let q30:(List I):=(aX q29 q29)
  let q31:(List I):=(aK q24 q30)
  let q32:(List I):=(aM q31 m.d)
  let q33:(List I):=(eD q10 q32)
  let q34:(List I):=(eY q33)
  let q35:Bool:=(bG q34)
  bif q3 then (bif q4 then (bif q5 then (bif q35 then ((⟨([]:List I),(wl 30)⟩:Curve)) else ((⟨q34,(wl 0)⟩:Curve))) else ((⟨([]:List I),(wl 1)⟩:Curve))) else ((⟨([]:List I),(wl 1)⟩:Curve))) else ((⟨([]:List I),(wl 1)⟩:Curve)))
def mO (p:(List I)):Nat→(List Rt)→Nat→List Rt×Nat
  | 0,out,i=>(out,i)
  | k0+1,out,i=>bif decide (((i:Nat):Int)<(((p).length:Nat):Int)) then ((mO p k0 (out++[(⟨(p.getD i I0),(E (Z.of 1))⟩:Rt)]) (i+1))) else ((out,i))
def gY (p:(List I)):(List Rt) :=
  ap (fun (s:List Rt×Nat)=>let out:List Rt:=s.1
  let i:Nat:=s.2
  out) (mO p ((p.length+1)) ([]:List Rt) 0)
def nF (h:Path) (u:(A3 W)) (b:(A3 Rt)) (m:Rt):Bool :=
  (F_skewbacklaw26_sanity&&((gI (gY ((cE h u b m).1)) (gY ((aS h u b m).p)))&&(((cE h u b m).2).1==((aS h u b m).e).1)))
end Go.Num
namespace Go.Proofs.YtkjjponijamaoaaGreatDoor
open Go.Kn Go.Num Tryz
attribute [local irreducible] Go.Kn.W WL PL OpQ OpR OpS
theorem xN (n:Int) :
    Ret prog 170 [.int .i64 n] (.bool (decide (n<2147483648)&&decide (-2147483648<n))):=by
 refine bL (N:=9) func170 rfl rfl (by simp) (fun w0=>?_);simp only [bO,Nat.reduceAdd];refine go7 ?_
 cases h1:decide (n<2147483648)
 ·refine go6 ?_;refine bA rfl (.inr rfl) rfl ?_
  simp [*]
 refine go6 ?_;refine bA rfl (.inr rfl) rfl ?_
 simp [*]
end Go.Proofs.YtkjjponijamaoaaGreatDoor
namespace Go.Num
open Go Go.Kn
theorem gV_ {a b:I} (h:(!a.1.good||(!b.1.good))=true):a.1.dec.o=none∨b.1.dec.o=none:=by
  cases ha:a.1.good
  · exact .inl (JN ha)
  · cases hb:b.1.good
    · exact .inr (JN hb)
    rw [ha,hb] at h;cases h
theorem bl_ {a b:I} (h:(!a.1.good||(!b.1.good))=false):a.1.good=true∧b.1.good=true:=by
  cases ha:a.1.good<;>cases hb:b.1.good<;>rw [ha,hb] at h<;>first|exact ⟨rfl,rfl⟩|cases h
theorem CW (a b:I):l9 a b=E (Z.add a.dec b.dec):=by
  unfold l9
  show _=E (Z.add a.1.dec b.1.dec)
  cases hw:(kI a.1&&kI b.1)
  · rw [cond_false]
    cases hg:(!a.1.good||(!b.1.good))
    · obtain ⟨ga,gb⟩:=bl_ hg
      rw [cond_false]
      cases hn:(a.1.neg==b.1.neg)
      · rw [cond_false]
        have hn':a.1.neg≠b.1.neg:=by simpa using hn
        cases hl:decide (val a.1.w<val b.1.w)
        · rw [cond_false,fq_ a.2 b.2 ga gb hn' (of_decide_eq_false hl)]
        rw [cond_true,fr_ a.2 b.2 ga gb hn' (of_decide_eq_true hl)]
      rw [cond_true,c4_ a.2 b.2 ga gb (by simpa using hn)]
    rw [cond_true,Z.add,oU (gV_ hg)]
  rw [cond_true];rw [Bool.and_eq_true] at hw
  show E (Z.of (IntKind.i64.wrap (mK a.1+mK b.1)))=_
  rw [(iB_ (oR a.2 hw.1).2.2.2 (oR b.2 hw.2).2.2.2).1,YY a.2 b.2 hw.1 hw.2]
theorem C2 (a b:I):zA a b=E (Z.sub a.dec b.dec):=rfl
theorem CY (a b:I):oT a b=E (Z.mul a.dec b.dec):=by
  unfold oT
  show _=E (Z.mul a.1.dec b.1.dec)
  cases hw:(kI a.1&&(kI b.1&&((decide ((fI a).1<2147483648)&&decide (-2147483648<(fI a).1))&&(decide ((fI b).1<2147483648)&&decide (-2147483648<(fI b).1)))))
  · rw [cond_false]
    cases hg:(!a.1.good||(!b.1.good))
    · obtain ⟨ga,gb⟩:=bl_ hg
      rw [cond_false,f4_ a.2 b.2 ga gb]
    rw [cond_true,Z.mul,oU (gV_ hg)]
  rw [cond_true];rw [Bool.and_eq_true,Bool.and_eq_true,Bool.and_eq_true] at hw;obtain ⟨h1,h2,h3,h4⟩:=hw
  show E (Z.of (IntKind.i64.wrap (mK a.1*mK b.1)))=_
  rw [(iC_ (x:=mK a.1) (y:=mK b.1) (XB h3) (XB h4)).1,ZK a.2 b.2 h1 h2]
end Go.Num
namespace Go.Proofs.YtkjjponijamaoaaGreatDoor
open Go.Kn Go.Num Tryz
attribute [local irreducible] Go.Kn.W WL PL OpQ OpR OpS
theorem D8 (a:I) (b:I) :
    Ret prog 94 [AV [pI a],AV [pI b]] (AV [pI (l9 a b)]):=by
 refine bL (N:=70) func94 rfl rfl (by simp) (fun w0=>?_);simp only [bO,Nat.reduceAdd];refine go2 ?_;intro b1 hb1;refine go_ ?_;intro b2 hb2;refine go_ ?_;intro b3 hb3;refine go3 ?_;refine sC (.tuple #[.int .i64 ((fI a).1),.bool (kI a.1)]) aB (i7 a.1 a.2) rfl rfl rfl (go8 ?_);refine sC (.tuple #[.int .i64 ((fI b).1),.bool (kI b.1)]) aB (i7 b.1 b.2) rfl rfl rfl (go7 ?_);refine gJv [22,23,24,25] [(25,.bool ((kI a.1)&&(kI b.1)))] (fun K2 J2=>?_) ?_
 ·refine go2 ?_;refine sBB rfl (fun h5=>?_) (fun h5=>?_)
  ·refine go3 ?_;refine J2 _ _ pp_ s0 (bK (kZ h5 rfl))
  refine go3 ?_;refine J2 _ _ pp_ s0 (bK (oZ h5))
 intro g6;refine aH _ rfl (fun h7=>?_) (fun h7=>?_)
 ·refine go3 ?_;refine sV (.int .i64 ((W.add (fI a) (fI b)).1)) rfl rfl (sC (AV [pI (E (Z.of (W.add (fI a) (fI b)).1))]) aB (cI (W.add (fI a) (fI b)).1 (W.add (fI a) (fI b)).2) rfl rfl rfl (go3 ?_));refine bA rfl (.inr rfl) (eF rfl m0 tyT rfl) ?_;exact congrArg vS4 (show _=(l9 a b) from aY h7 rfl)
 refine go2 ?_;refine gJv [30,31,32,33,34,35,36,37] [(37,.bool (!a.1.good||(!b.1.good)))] (fun K4 J4=>?_) ?_
 ·refine go2 ?_;refine sC (.bool a.1.good) aB (cJ a.1 a.2) rfl rfl rfl (go_ ?_);rcases bt a.1.good with h9|h9
  ·refine sB (gE h9) rfl (go_ ?_);refine sC (.bool b.1.good) aB (cJ b.1 b.2) rfl rfl rfl (go3 ?_);refine J4 _ _ pp_ s0 (bK (jU h9 rfl))
  refine sB (iK h9) rfl (go5 ?_);refine J4 _ _ pp_ s0 (bK (n7 h9))
 intro g10;refine aH _ rfl (fun h11=>?_) (fun h11=>?_)
 ·refine go_ ?_;refine sC (AV [pI (E Z.bad)]) aB fQ rfl rfl rfl (go3 ?_);refine bA rfl (.inr rfl) (eF rfl m0 tyT rfl) ?_;exact congrArg vS4 (show _=(l9 a b) from aI h7 (aY h11 rfl))
 refine go3 ?_;refine bD rfl (iJ aB rfl (fun w hw=>cH a.1 a.2 w) (fun vl12 Ll12 kl12=>?_))
 try simp only [jI,oI] at kl12
 refine go4 ?_;refine bD rfl (iJ aB rfl (fun w hw=>cH b.1 b.2 w) (fun vl13 Ll13 kl13=>?_))
 try simp only [jI,oI] at kl13
 refine go8 ?_;refine sQ (aL (v':=.bool (a.1.neg==b.1.neg)) (V0 F2 rfl rfl) rfl) rfl (go_ ?_);refine aH _ rfl (fun h14=>?_) (fun h14=>?_)
 ·refine oX sn 7 [4,6] [6] (go4 ?_);refine cF rfl rfl (iJ aB rfl (fun w hw=>tW vl12 vl13 (dl (val a.1.w)) (dl (val b.1.w)) (nC _) (nC _) (Nat.le_trans (kK (k:=32) (uJ a.2)) dd_) (Nat.le_trans (kK (k:=32) (uJ b.2)) dd_) w (SL.sl (SL.sub kl12.sl (sR lZ)) hw) (SL.sl (SL.sub kl13.sl lZ) hw)) (fun vl15 Ll15 kl15=>⟨(fun _=>sR s0),sn,?_⟩))
  try simp only [jI,oI] at kl15
  refine pQ rfl (aL (v':=AV [pI (E (Z.of (sgn a.1.neg ((val a.1.w)+(val b.1.w)))))]) (bT aB rfl (fun w hw=>eS a.1.neg vl15 (dl ((val a.1.w)+(val b.1.w))) (nC _) (Nat.le_trans (kK (k:=33) (g1_ (k:=32) (uJ a.2) (uJ b.2))) dd_) w (SL.sl (SL.sub kl15.sl lZ) hw))) (by rw [(jI _)];rfl)) (go3 ?_);refine bA rfl (.inr rfl) (eF rfl (mA (mA (mA mZ))) tyT rfl) ?_;exact congrArg vS4 (show _=(l9 a b) from aI h7 (aI h11 (aY h14 rfl)))
 refine go4 ?_;refine sQ (aL (v':=.bool (decide ((val a.1.w)<(val b.1.w)))) (bT aB rfl (fun w hw=>mX vl12 vl13 (dl (val a.1.w)) (dl (val b.1.w)) (nC _) (nC _) (Nat.le_trans (kK (k:=32) (uJ a.2)) dd_) (Nat.le_trans (kK (k:=32) (uJ b.2)) dd_) w (SL.sl (SL.sub kl12.sl (sR lZ)) hw) (SL.sl (SL.sub kl13.sl lZ) hw))) (by rw [(jI _),(jI _)])) rfl (go6 ?_);refine aH _ rfl (fun h16=>?_) (fun h16=>?_)
 ·refine oX sn 7 [4,6] [6] (go4 ?_);refine cF rfl rfl (iJ aB rfl (fun w hw=>n8 vl13 vl12 (dl (val b.1.w)) (dl (val a.1.w)) (nC _) (nC _) (Nat.le_trans (kK (k:=32) (uJ b.2)) dd_) (Nat.le_trans (kK (k:=32) (uJ a.2)) dd_) (by simp only [jI,oI];exact (Nat.le_of_lt (of_decide_eq_true h16))) w (SL.sl (SL.sub kl13.sl lZ) hw) (SL.sl (SL.sub kl12.sl (sR lZ)) hw)) (fun vl17 Ll17 kl17=>⟨(fun _=>sR s0),sn,?_⟩))
  try simp only [jI,oI] at kl17
  refine pQ rfl (aL (v':=AV [pI (E (Z.of (sgn b.1.neg ((val b.1.w) - (val a.1.w)))))]) (bT aB rfl (fun w hw=>eS b.1.neg vl17 (dl ((val b.1.w) - (val a.1.w))) (nC _) (Nat.le_trans (kK (k:=32) (fJ_ (uJ b.2))) dd_) w (SL.sl (SL.sub kl17.sl lZ) hw))) (by rw [(jI _)];rfl)) (go3 ?_);refine bA rfl (.inr rfl) (eF rfl (mA (mA (mA mZ))) tyT rfl) ?_;exact congrArg vS4 (show _=(l9 a b) from aI h7 (aI h11 (aI h14 (aY h16 rfl))))
 refine go_ ?_;refine oX sn 7 [4,6] [6] (go4 ?_);refine cF rfl rfl (iJ aB rfl (fun w hw=>n8 vl12 vl13 (dl (val a.1.w)) (dl (val b.1.w)) (nC _) (nC _) (Nat.le_trans (kK (k:=32) (uJ a.2)) dd_) (Nat.le_trans (kK (k:=32) (uJ b.2)) dd_) (by simp only [jI,oI];exact (Nat.le_of_not_lt (of_decide_eq_false h16))) w (SL.sl (SL.sub kl12.sl (sR lZ)) hw) (SL.sl (SL.sub kl13.sl lZ) hw)) (fun vl18 Ll18 kl18=>⟨(fun _=>sR s0),sn,?_⟩))
 try simp only [jI,oI] at kl18
 refine pQ rfl (aL (v':=AV [pI (E (Z.of (sgn a.1.neg ((val a.1.w) - (val b.1.w)))))]) (bT aB rfl (fun w hw=>eS a.1.neg vl18 (dl ((val a.1.w) - (val b.1.w))) (nC _) (Nat.le_trans (kK (k:=32) (fJ_ (uJ a.2))) dd_) w (SL.sl (SL.sub kl18.sl lZ) hw))) (by rw [(jI _)];rfl)) (go3 ?_);refine bA rfl (.inr rfl) (eF rfl (mA (mA (mA mZ))) tyT rfl) ?_;exact congrArg vS4 (show _=(l9 a b) from aI h7 (aI h11 (aI h14 (aI h16 rfl))))
theorem nK (a b:R) (ha:a.Ok) (hb:b.Ok):Ret prog 94 [RV a,RV b] (RV (Z.add a.dec b.dec).enc):=by
  have h:=D8 ⟨a,ha⟩ ⟨b,hb⟩;rw [CW] at h;exact h
theorem EE (a:I) (b:I) :
    Ret prog 199 [AV [pI a],AV [pI b]] (AV [pI (zA a b)]):=by
 refine bL (N:=9) func199 rfl rfl (by simp) (fun w0=>?_);simp only [bO,Nat.reduceAdd];refine go2 ?_;intro b1 hb1;refine go_ ?_;intro b2 hb2;refine go_ ?_;intro b3 hb3;refine go_ ?_;refine oX (sd (sk (sk (s0)))) 5 [4] [4] (go2 ?_);refine pC (AV [pI (E (Z.neg b.dec))]) aB (uN b.1 b.2) rfl rfl rfl (pC (AV [pI (E (Z.add a.dec (Z.neg b.dec)))]) aB (nK a.1 (E (Z.neg b.dec)).1 a.2 (E (Z.neg b.dec)).2) rfl rfl (cg2 (fun p q=>AV [pI (E (Z.add p q))]) rfl (dB _)) (go3 ?_));refine bA rfl (.inr rfl) (eF rfl m0 tyT rfl) ?_;exact (by rfl)
theorem EF (a b:R) (ha:a.Ok) (hb:b.Ok):Ret prog 199 [RV a,RV b] (RV (Z.sub a.dec b.dec).enc):=by
  have h:=EE ⟨a,ha⟩ ⟨b,hb⟩;rw [C2] at h;exact h
theorem EA (a:I) (b:I) :
    Ret prog 93 [AV [pI a],AV [pI b]] (AV [pI (oT a b)]):=by
 refine bL (N:=55) func93 rfl rfl (by simp) (fun w0=>?_);simp only [bO,Nat.reduceAdd];refine go2 ?_;intro b1 hb1;refine go_ ?_;intro b2 hb2;refine go_ ?_;intro b3 hb3;refine go3 ?_;refine sC (.tuple #[.int .i64 ((fI a).1),.bool (kI a.1)]) aB (i7 a.1 a.2) rfl rfl rfl (go8 ?_);refine sC (.tuple #[.int .i64 ((fI b).1),.bool (kI b.1)]) aB (i7 b.1 b.2) rfl rfl rfl (go7 ?_);refine gJv [19,20,21,22,23,24,25,26,27,28,29,30] [(30,.bool ((kI a.1)&&((kI b.1)&&((decide ((fI a).1<2147483648)&&decide (-2147483648<(fI a).1))&&(decide ((fI b).1<2147483648)&&decide (-2147483648<(fI b).1))))))] (fun K2 J2=>?_) ?_
 ·refine go2 ?_;refine sBB rfl (fun h7=>?_) (fun h7=>?_)
  ·refine go2 ?_;refine sBB rfl (fun h8=>?_) (fun h8=>?_)
   ·refine go_ ?_;refine sC (.bool (decide ((fI a).1<2147483648)&&decide (-2147483648<(fI a).1))) aB (xN (fI a).1) rfl rfl rfl (go_ ?_);refine sBB rfl (fun h9=>?_) (fun h9=>?_)
    ·refine go_ ?_;refine sC (.bool (decide ((fI b).1<2147483648)&&decide (-2147483648<(fI b).1))) aB (xN (fI b).1) rfl rfl rfl (go2 ?_);refine J2 _ _ pp_ s0 (bK (kZ h7 (kZ h8 (kZ h9 rfl))))
    refine go4 ?_;refine J2 _ _ pp_ s0 (bK (kZ h7 (kZ h8 (oZ h9))))
   refine go8 ?_;refine J2 _ _ pp_ s0 (bK (kZ h7 (oZ h8)))
  refine AG ?_;refine J2 _ _ pp_ s0 (bK (oZ h7))
 intro g10;refine aH _ rfl (fun h11=>?_) (fun h11=>?_)
 ·refine go3 ?_;refine sV (.int .i64 ((W.mul (fI a) (fI b)).1)) rfl rfl (sC (AV [pI (E (Z.of (W.mul (fI a) (fI b)).1))]) aB (cI (W.mul (fI a) (fI b)).1 (W.mul (fI a) (fI b)).2) rfl rfl rfl (go3 ?_));refine bA rfl (.inr rfl) (eF rfl m0 tyT rfl) ?_;exact congrArg vS4 (show _=(oT a b) from aY h11 rfl)
 refine go2 ?_;refine gJv [35,36,37,38,39,40,41,42] [(42,.bool (!a.1.good||(!b.1.good)))] (fun K4 J4=>?_) ?_
 ·refine go2 ?_;refine sC (.bool a.1.good) aB (cJ a.1 a.2) rfl rfl rfl (go_ ?_);rcases bt a.1.good with h13|h13
  ·refine sB (gE h13) rfl (go_ ?_);refine sC (.bool b.1.good) aB (cJ b.1 b.2) rfl rfl rfl (go3 ?_);refine J4 _ _ pp_ s0 (bK (jU h13 rfl))
  refine sB (iK h13) rfl (go5 ?_);refine J4 _ _ pp_ s0 (bK (n7 h13))
 intro g14;refine aH _ rfl (fun h15=>?_) (fun h15=>?_)
 ·refine go_ ?_;refine sC (AV [pI (E Z.bad)]) aB fQ rfl rfl rfl (go3 ?_);refine bA rfl (.inr rfl) (eF rfl m0 tyT rfl) ?_;exact congrArg vS4 (show _=(oT a b) from aI h11 (aY h15 rfl))
 refine go_ ?_;refine gds sn [0,4,8,12,16,20,28,25,33,37,40,45] [11] mix (by kernel_rfl) (go4 ?_);refine pQ rfl (aL (v':=.bool (a.1.neg != b.1.neg)) (yI F2 rfl rfl) rfl) (go2 ?_);refine cF rfl rfl (iJ aB rfl (fun w hw=>cH a.1 a.2 w) (fun vl16 Ll16 kl16=>⟨(fun _=>sR s0),sn,?_⟩))
 try simp only [jI,oI] at kl16
 refine cF rfl rfl (iJ aB rfl (fun w hw=>cH b.1 b.2 w) (fun vl17 Ll17 kl17=>⟨(fun _=>sR s0),sn,?_⟩))
 try simp only [jI,oI] at kl17
 refine cF rfl rfl (iJ aB rfl (fun w hw=>wF vl16 vl17 (dl (val a.1.w)) (dl (val b.1.w)) (nC _) (nC _) (Nat.le_trans (kK (k:=32) (uJ a.2)) dd_) (Nat.le_trans (kK (k:=32) (uJ b.2)) dd_) w (SL.sl (SL.sub kl16.sl (sR lZ)) hw) (SL.sl (SL.sub kl17.sl lZ) hw)) (fun vl18 Ll18 kl18=>⟨(fun _=>sR s0),sn,?_⟩))
 try simp only [jI,oI] at kl18
 refine pQ rfl (aL (v':=AV [pI (E (Z.of (sgn (a.1.neg != b.1.neg) ((val a.1.w)*(val b.1.w)))))]) (bT aB rfl (fun w hw=>eS (a.1.neg != b.1.neg) vl18 (dl ((val a.1.w)*(val b.1.w))) (nC _) (Nat.le_trans (kK (k:=64) (if_ (i:=32) (k:=32) (uJ a.2) (uJ b.2))) dd_) w (SL.sl (SL.sub kl18.sl lZ) hw))) (by rw [(jI _)];rfl)) (go3 ?_);refine bA rfl (.inr rfl) (eF rfl (mA (mA (mA mZ))) tyT rfl) ?_;exact congrArg vS4 (show _=(oT a b) from aI h11 (aI h15 rfl))
theorem cZ (a b:R) (ha:a.Ok) (hb:b.Ok):Ret prog 93 [RV a,RV b] (RV (Z.mul a.dec b.dec).enc):=by
  have h:=EA ⟨a,ha⟩ ⟨b,hb⟩;rw [CY] at h;exact h
end Go.Proofs.YtkjjponijamaoaaGreatDoor
namespace Go.Num
open Go Go.Kn
theorem wA (l:List I):(bM l).length≤25:=by rw [z7];exact QQ _
theorem kT (l:List I):(bM l).length≤25:=wA l
theorem jF (l:List W):(cA l).length≤25:=wA _
theorem dA (p q:List I):(aK p q).length≤25:=sG vN (wA _)
theorem nL (p q:List I):(eD p q).length≤25:=sG vN (wA _)
theorem iB (p q:List I):(aX p q).length≤25:=sG vN (sG (Nat.zero_le _) (wA _))
theorem dD (p:List I) (n:I):(aM p n).length≤25:=sG vN (wA _)
theorem oC (p:List I):(eY p).length≤25:=sG vN (wA _)
theorem G9 (l0:List I):∀ (k i:Nat) (m:I),l0.length - i<k→(jB l0 k i m).2=lJ l0 (l0.drop i) m
  | 0,i,m,h=>absurd h (Nat.not_lt_zero _)
  | k+1,i,m,h=>by
    unfold jB
    by_cases hi:i<l0.length
    · rw [decide_eq_true oo_,cond_true,yA l0 hi,G9 l0 k _ _ oo_];rfl
    rw [decide_eq_false oo_,cond_false,List.drop_of_length_le oo_];rfl
theorem GN (l:List I):cB l=dN l:=by
  unfold cB dN;simp only [ap];rw [G9 _ _ _ _ oo_,List.drop_zero]
theorem RW {p:List I} (hp:p.length≤1000):d7 p=eY p:=by
  unfold d7 eY;rw [wV _ hp dd_,vB];have e:=CS (L:=gP p) (n:=p.length) (g:=fun k=>E (Z.quo (p.getD k I0).dec (dN p).dec))
    (fun k out i h=>by (conv=>lhs;unfold gP);rw [decide_eq_true oo_,GN];rfl) (fun k out i h=>by unfold gP;rw [decide_eq_false oo_];rfl) (p.length+1) [] 0 oo_
  rw [List.nil_append,Nat.sub_zero,← M6] at e;simp only [ap,e,z7,List.length_nil,Nat.max_zero,List.all_nil,Bool.and_true]
  cases p.all gdI<;>rfl
theorem KT (l:List W):(cA l).length≤25:=by unfold cA;exact wA _
theorem wL (h:Path):(aC h).x.length≤25:=by unfold aC;cases decide ((gJ h.from_.q h.to_.q).1<0)<;>exact KT _
theorem wM (h:Path):(aC h).y.length≤25:=by unfold aC;cases decide ((gJ h.from_.q h.to_.q).1<0)<;>exact KT _
theorem wN (h:Path):(aC h).z.length≤25:=by unfold aC;cases decide ((gJ h.from_.q h.to_.q).1<0)<;>exact KT _
theorem wK (h:Path):(aC h).t.length≤25:=by unfold aC;cases decide ((gJ h.from_.q h.to_.q).1<0)<;>exact KT _
theorem j4 (p:List I):(aE p).length≤25:=by unfold aE;exact iB _ _
theorem mI (a b c d:List I) (k:W):(cL a b c d k).length≤25:=by unfold cL;exact dD _ _
theorem rF (a b c d:List I):(eE a b c d).length≤25:=by unfold eE;exact nL _ _
theorem wJ (h:Path):(iA h).length≤25:=by unfold iA;exact dA _ _
theorem AL (h:Path) (v:A3 W):(cY h v).n.x.length≤25:=by unfold cY;dsimp only;exact dA _ _
theorem AM (h:Path) (v:A3 W):(cY h v).n.y.length≤25:=by unfold cY;dsimp only;exact dA _ _
theorem AN (h:Path) (v:A3 W):(cY h v).n.z.length≤25:=by unfold cY;dsimp only;exact dA _ _
theorem AK (h:Path) (v:A3 W):(cY h v).s.length≤25:=by unfold cY;dsimp only;exact wJ _
end Go.Num
namespace Go.Proofs.YtkjjponijamaoaaGreatDoor
open Go.Kn Go.Num Tryz
attribute [local irreducible] Go.Kn.W WL PL OpQ OpR OpS
theorem CN (a:(A4 W)) (b:(A4 W)) :
    Ret prog 274 [AV [cw a.x.1,cw a.y.1,cw a.z.1,cw a.t.1],AV [cw b.x.1,cw b.y.1,cw b.z.1,cw b.t.1]] (.int .i64 ((gJ a b).1)):=by
 refine bL (N:=28) func274 rfl rfl (by simp) (fun w0=>?_);simp only [bO,Nat.reduceAdd];refine go2 ?_;intro b1 hb1;refine go_ ?_;intro b2 hb2;refine go7 ?_;refine sV (.int .i64 ((W.mul a.x b.x).1)) rfl rfl (go4 ?_);refine sV (.int .i64 ((W.mul a.y b.y).1)) rfl rfl (sV (.int .i64 ((W.add (W.mul a.x b.x) (W.mul a.y b.y)).1)) rfl rfl (go4 ?_));refine sV (.int .i64 ((W.mul a.z b.z).1)) rfl rfl (sV (.int .i64 ((W.add (W.add (W.mul a.x b.x) (W.mul a.y b.y)) (W.mul a.z b.z)).1)) rfl rfl (go4 ?_));refine sV (.int .i64 ((W.mul a.t b.t).1)) rfl rfl (sV (.int .i64 ((W.add (W.add (W.add (W.mul a.x b.x) (W.mul a.y b.y)) (W.mul a.z b.z)) (W.mul a.t b.t)).1)) rfl rfl (go3 ?_));refine bA rfl (.inr rfl) rfl ?_;exact (by rfl)
end Go.Proofs.YtkjjponijamaoaaGreatDoor
