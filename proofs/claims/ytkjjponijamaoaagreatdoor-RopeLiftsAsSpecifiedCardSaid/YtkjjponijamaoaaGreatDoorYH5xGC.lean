/- Lemmas: what they ask stands in their statements. -/
import Derived.Test.YtkjjponijamaoaaGreatDoorYFo3
import Derived.Test.YtkjjponijamaoaaGreatDoorYSf
set_option linter.unusedSimpArgs false
set_option linter.unusedVariables false
set_option maxHeartbeats 8000000
set_option maxRecDepth 20000
namespace Go.Kn
open Go.RowKit
section
variable {P:Program} {w0:World} {X:List Nat} {N:Nm} {S:Fr} {M M':List Blk} {d:Option Tmp} {ty:TypeId} {ps:String} {af:Array Edge} {gd:Option (Nat×Bool)}
end
end Go.Kn

namespace Go.Num
open Go Go.Kn
section
variable {P:Program} {w0:World} {X:List Nat} {N:Nm} {S:Fr} {M:List Blk} {d:Option Tmp} {ty:TypeId} {ps:String} {af:Array Edge} {gd:Option (Nat×Bool)}
end
end Go.Num

namespace Go.Num
open Go Go.Kn
section
variable {P:Program} {w0:World} {X:List Nat} {N:Nm} {S:Fr} {M:List Blk} {d:Option Tmp} {ty:TypeId} {ps:String} {af:Array Edge} {gd:Option (Nat×Bool)}
end
end Go.Num

namespace Go.Num
open Go Go.Kn
theorem sR_ {x y:Int} (hx:-4611686018427387904<x∧x<4611686018427387904) (hy:-4611686018427387904<y∧y<4611686018427387904):IntKind.i64.wrap (x+y)=x+y∧I64 (x+y):=by
  have:I64 (x+y):=by unfold I64;omega
  exact ⟨eM this,this⟩
theorem fw_ {x:Int} (h:(decide (x<2147483648)&&decide (-2147483648<x))=true):x.natAbs<2147483648:=by simp only [Bool.and_eq_true,decide_eq_true_iff] at h;omega
theorem sS_ {x y:Int} (hx:x.natAbs<2147483648) (hy:y.natAbs<2147483648):IntKind.i64.wrap (x * y)=x * y∧I64 (x * y):=by
  have h:(x * y).natAbs<4611686018427387904:=by
    rw [Int.natAbs_mul]
    calc x.natAbs * y.natAbs≤2147483647 * 2147483647:=Nat.mul_le_mul (by omega) (by omega)
      _<_:=by decide
  have:I64 (x * y):=by unfold I64;omega
  exact ⟨eM this,this⟩
theorem gy_ {a b:R} (ha:a.Ok) (hb:b.Ok) (h:lJ a=true) (k:lJ b=true):Z.of (rK a+rK b)=Z.add a.dec b.dec:=by
  rw [Z.add,gZ (uR ha h).1 (uR hb k).1]
theorem gU_ {a b:R} (ha:a.Ok) (hb:b.Ok) (h:lJ a=true) (k:lJ b=true):Z.of (rK a * rK b)=Z.mul a.dec b.dec:=by
  rw [Z.mul,gZ (uR ha h).1 (uR hb k).1]
theorem lu_ {a b:R} (ha:a.Ok) (hb:b.Ok) (ga:a.good=true) (gb:b.good=true) (hn:a.neg=b.neg):Z.of (sgn a.neg (val a.w+val b.w))=Z.add a.dec b.dec:=by
  rw [Z.add,gZ (fF ha ga) (fF hb gb),← hn,bc_]
theorem og_ {a b:R} (ha:a.Ok) (hb:b.Ok) (ga:a.good=true) (gb:b.good=true) (hn:a.neg≠b.neg) (hlt:val a.w<val b.w):Z.of (sgn b.neg (val b.w - val a.w))=Z.add a.dec b.dec:=by
  rw [Z.add,gZ (fF ha ga) (fF hb gb),Int.add_comm,Q7 (Ne.symm hn) (by omega)]
theorem of_ {a b:R} (ha:a.Ok) (hb:b.Ok) (ga:a.good=true) (gb:b.good=true) (hn:a.neg≠b.neg) (hge:¬ val a.w<val b.w):Z.of (sgn a.neg (val a.w - val b.w))=Z.add a.dec b.dec:=by
  rw [Z.add,gZ (fF ha ga) (fF hb gb),Q7 hn (by omega)]
theorem pX_ {a b:R} (ha:a.Ok) (hb:b.Ok) (ga:a.good=true) (gb:b.good=true):Z.of (sgn (a.neg != b.neg) (val a.w * val b.w))=Z.mul a.dec b.dec:=by
  rw [Z.mul,gZ (fF ha ga) (fF hb gb),bd_]
end Go.Num

namespace Go.Kn
open Go.RowKit
section
variable {P:Program} {w0:World} {X:List Nat} {N:Nm} {S:Fr} {M:List Blk} {d:Option Tmp} {ty:TypeId} {ps:String} {af:Array Edge} {gd:Option (Nat×Bool)}
end
section
variable {P:Program} {w0:World} {X:List Nat} {N:Nm} {S:Fr} {M:List Blk} {d:Option Tmp} {ty:TypeId} {ps:String} {af:Array Edge} {gd:Option (Nat×Bool)}
end
section
variable {P:Program} {w0:World} {X:List Nat} {N:Nm} {S:Fr} {M:List Blk} {Q:AF}
variable {d:Option Tmp} {ty:TypeId} {ps:String} {af:Array Edge} {gd:Option (Nat×Bool)}
end
section
variable {P:Program} {w0:World} {X:List Nat} {N:Nm} {Q:AF} {S:Fr} {M:List Blk} {c:Code}
end
end Go.Kn

namespace Go.Kn
open Go.RowKit
section rows
variable {α:Type} {e:El α}
end rows
section
variable {α:Type} {e:El α} {P:Program} {w0:World} {X:List Nat} {N:Nm} {S:Fr} {M M':List Blk} {d:Option Tmp} {ty:TypeId} {ps:String} {af:Array Edge} {gd:Option (Nat×Bool)} {v:Value} {l:List α}
theorem E9 {T:TypeId} {x:Operand} {f o n m:Nat} (hT:k8 P T f=some (o,n)) (hx:evO N S x=some (.pointer (some (slb v m)))) (hn:Nat.beq n 0=false):OpQ P w0 X N ⟨d,.fieldAddr T x f,ty,ps,af,gd⟩ S M (.pointer (some (slb v (m+o)))) :=
  xJ fun w _=>by
    obtain ⟨fs,y,i,hd,hf,hi,ho,hs⟩:=RG hT
    have hn':n≠0:=fun h=>by subst h;cases hn
    simp [execOp,eF hx,Instr.fieldAt,run_underlying hd,hf,Instr.sureAddr,fieldPlace,sizeOf,typeInfo,hi,hs,hn',ho,UP]
end
end Go.Kn
namespace Go.Kn
open Go.RowKit
section
variable {P:Program} {w0:World} {X:List Nat} {N:Nm} {S:Fr} {M:List Blk} {d:Option Tmp} {ty:TypeId} {ps:String} {af:Array Edge} {gd:Option (Nat×Bool)}
end
end Go.Kn
namespace Go.Kn
open Go.RowKit
section
variable {α:Type} {e:El α} {P:Program} {w0:World} {X:List Nat} {N:Nm} {S:Fr} {M:List Blk} {d:Option Tmp} {ty:TypeId} {ps:String} {af:Array Edge} {gd:Option (Nat×Bool)} {v:Value} {l:List α}
end
end Go.Kn
namespace Go.Kn
section
variable {α:Type} {e:El α} {w0:World} {X:List Nat} {M:List Blk} {v:Value} {l:List α}
end
end Go.Kn

namespace Go.Kn
open Go.RowKit
section
variable {P:Program} {w0:World} {X:List Nat} {S:Fr} {M:List Blk} {d:Option Tmp} {ty:TypeId} {p:String} {af:Array Edge} {gd:Option (Nat×Bool)}
end
end Go.Kn

namespace Go.Num
open Go Go.Kn
theorem oA_ {n m k:Nat} (hn:n<65536 ^ k):n - m<65536 ^ k:=Nat.lt_of_le_of_lt (Nat.sub_le _ _) hn
theorem sB_ {n m i k:Nat} (hn:n<65536 ^ i) (hm:m<65536 ^ k):n * m<65536 ^ (i+k):=by rw [Nat.pow_add];exact Nat.mul_lt_mul_of_lt_of_lt hn hm
end Go.Num

namespace Go.Kn
open Go
section
variable {P:Program} {w0:World} {X:List Nat} {N:Nm} {Q:AF} {S:Fr} {M:List Blk} {c:Code}
end
end Go.Kn

namespace Go.Num
open Go Go.Kn
theorem W.min_1 (a b:W):(if b.1<a.1 then b.1 else a.1)=(W.min a b).1:=by unfold W.min;by_cases h:b.1<a.1 <;> simp [h]
open Go
end Go.Num

namespace Go.Kn
open Go.RowKit
section
variable {P:Program} {w0:World} {X:List Nat} {N:Nm} {S:Fr} {M:List Blk}
variable {ops:List Oper} {Q:Fr→List Blk→Prop} {o:Oper} {l:List Oper} {v v':Value} {d:Tmp} {b c:Bool} {nw:List Nat} {MD:List Blk} {i:Nat} {ws:List Nat} {r:Plan}
section
variable {g:FuncId} {xs:List Operand} {tys:Array TypeId} {args:List Value} {ty:TypeId} {ps:String} {af:Array Edge} {gd:Option (Nat×Bool)}
end
end
section
variable {P:Program} {w0:World} {X:List Nat} {N:Nm} {S:Fr} {M:List Blk} {d:Option Tmp} {ty:TypeId} {ps:String} {af:Array Edge} {gd:Option (Nat×Bool)}
end
section
variable {P:Program} {w0:World} {X:List Nat} {N:Nm} {S:Fr} {M:List Blk} {Q:AF}
end
section
variable {P:Program} {w0:World} {X:List Nat} {N:Nm} {S:Fr} {M:List Blk} {Q:AF}
end
section
variable {α:Type} {e:El α} {w0 w:World} {X:List Nat} {M M' L:List Blk} {v:Value} {l:List α} {E:TypeId}
end
end Go.Kn

namespace Go.Num
open Go Go.Kn Go.RowKit Go.ChangeShapes Go.WideShapes
def jz_ (P:Program) (T:TypeId):Bool:=match P.underlying T with | some (.struct _)=>true | some (.array _ _)=>true | _=>false
section
variable {H:Type} {enc:TypeId×Value→H} {P:Program} {w:World} {base:Nat} {spare:Nat→Bool} {held:Bool}
theorem su_ {T:TypeId} {ls:List AW} {v:Value} {d:DataW H} {p:List MemPlace} (h:lz P 8 T=some ls) (ht:DataW.Trod enc P w base spare held T v d p):LWF v.cells.toList ls:=by
  obtain ⟨fuel,hf⟩:=ht;exact HD 8 h hf
theorem p4_ {r:Reach} {T:TypeId} {v:Value} (h:jz_ P T=true) (hv:Value.okWide P w r base T v):∃ cs:List Value,v = .agg cs.toArray:=by
  unfold jz_ at h;unfold Value.okWide at hv
  split at h
  · rename_i fs hu;rw [hu] at hv;obtain ⟨cs,hc,_⟩:=hv;exact ⟨cs.toList,by simpa using hc⟩
  · rename_i n e hu;rw [hu] at hv;obtain ⟨cs,hc,_⟩:=hv;exact ⟨cs.toList,by simpa using hc⟩
  · cases h
end
end Go.Num
namespace Go.Num
open Go Go.Kn Go.RowKit
theorem st_ {P:Program} {w:World} {base:Nat} {r:Reach} {T:TypeId} {v:Value} {k:IntKind} (hu:P.underlying T=some (.int k)) (hv:Value.okWide P w r base T v):∃ n,v = .int k n∧k.has n:=by
  unfold Value.okWide at hv;rw [hu] at hv;unfold Cell.okWide at hv;rw [hu] at hv;unfold Cell.ok at hv;rw [hu] at hv
  cases v <;> simp_all
theorem sq_ {n:Int} (h:IntKind.i64.has n):I64 n:=by
  simp [IntKind.has,IntKind.min,IntKind.max,IntKind.signed,IntKind.bits] at h
  unfold I64;omega
end Go.Num

namespace Go.Proofs.YtkjjponijamaoaaGreatDoor
open Go.Kn Go.Num
theorem q7_:Tryz.prog.eqGuardType Tryz.prog.depth 71=false:=by kernel_rfl
theorem fi_:aY Tryz.prog 34=true:=by kernel_rfl
theorem rd_:aY Tryz.prog 52=true:=by kernel_rfl
theorem re_:aY Tryz.prog 53=true:=by kernel_rfl
theorem rf_:aY Tryz.prog 54=true:=by kernel_rfl
theorem YV:aY Tryz.prog 84=true:=by kernel_rfl
theorem z7:aY Tryz.prog 93=true:=by kernel_rfl
theorem SU:aY Tryz.prog 94=true:=by kernel_rfl
theorem ap_:aY Tryz.prog 118=true:=by kernel_rfl
theorem iD_:aY Tryz.prog 170=true:=by kernel_rfl
theorem oV_:aY Tryz.prog 202=true:=by kernel_rfl
theorem pl_:aY Tryz.prog 248=true:=by kernel_rfl
theorem pm_:aY Tryz.prog 249=true:=by kernel_rfl
theorem aB_:aY Tryz.prog 275=true:=by kernel_rfl
theorem aC_:aY Tryz.prog 276=true:=by kernel_rfl
theorem QS:k8 Tryz.prog 85 0=some (0,1):=by kernel_rfl
theorem fp_:k8 Tryz.prog 85 1=some (1,1):=by kernel_rfl
theorem VS:k8 Tryz.prog 105 0=some (0,18):=by kernel_rfl
theorem jc_:k8 Tryz.prog 105 1=some (18,1):=by kernel_rfl
theorem rA_:tH Tryz.prog 8 71=some (true,([some .i64] ++ ([some .i64] ++ ([some .i64] ++ ([some .i64] ++ ([some .i64] ++ ([some .i64] ++ ([some .i64] ++ ([some .i64] ++ ([some .i64] ++ ([some .i64] ++ ([some .i64] ++ ([some .i64] ++ ([some .i64] ++ [some .i64])))))))))))))):=by kernel_rfl
theorem kc_:tJ Tryz.prog 85=some [(0,1),(1,1)]:=by kernel_rfl
theorem j8_:tJ Tryz.prog 105=some [(0,18),(18,1)]:=by kernel_rfl
theorem di_:o8 Tryz.prog 83=some (false,1):=by kernel_rfl
theorem TH:o8 Tryz.prog 85=some (true,2):=by kernel_rfl
theorem P7:o8 Tryz.prog 105=some (true,19):=by kernel_rfl
theorem Z1:lC Tryz.prog 85=some (aW [csl none 0 0,ci .i64 0]):=by kernel_rfl
theorem XY:lC Tryz.prog 105=some (aW [pI I0,ci .i64 0]):=by kernel_rfl
end Go.Proofs.YtkjjponijamaoaaGreatDoor

namespace Go.Num
open Go Go.Kn
def qZ (a:I) (b:I):I :=
  bif ((lJ a.1)&&(lJ b.1)) then ((E (Z.of (W.add (hZ a) (hZ b)).1))) else (bif (!a.1.good||(!b.1.good)) then ((E Z.bad)) else (bif (a.1.neg==b.1.neg) then ((E (Z.of (sgn a.1.neg ((val a.1.w)+(val b.1.w)))))) else (bif decide ((val a.1.w)<(val b.1.w)) then ((E (Z.of (sgn b.1.neg ((val b.1.w) - (val a.1.w)))))) else ((E (Z.of (sgn a.1.neg ((val a.1.w) - (val b.1.w)))))))))
def uS (a:I) (b:I):I :=
  bif ((lJ a.1)&&((lJ b.1)&&((decide ((hZ a).1<2147483648)&&decide (-2147483648<(hZ a).1))&&(decide ((hZ b).1<2147483648)&&decide (-2147483648<(hZ b).1))))) then ((E (Z.of (W.mul (hZ a) (hZ b)).1))) else (bif (!a.1.good||(!b.1.good)) then ((E Z.bad)) else ((E (Z.of (sgn (a.1.neg != b.1.neg) ((val a.1.w) * (val b.1.w)))))))
def lK (a:W) (b:W):Nat→W→W→W×W
  | 0,p,q=>(p,q)
  | k0+1,p,q=>bif (q.1 != 0) then ((lK a b k0 q (W.rem p q))) else ((p,q))
def aA (a:W) (b:W):W :=
  ap (fun (s:W×W)=>let p:W:=s.1
  let q:W:=s.2
  (W.max p (W.neg p))) (lK a b (b.1.natAbs+1) a b)
def kN (a:(A4 W)):Bool :=
  bif (decide (64<a.x.1)||decide (a.x.1<(-64))) then (false) else (bif (decide (64<a.y.1)||decide (a.y.1<(-64))) then (false) else (bif (decide (64<a.z.1)||decide (a.z.1<(-64))) then (false) else (bif (decide (64<a.t.1)||decide (a.t.1<(-64))) then (false) else (true))))
def bV (a:W):W :=
  bif decide (a.1<0) then ((wl (-1))) else ((W.min a (wl 1)))
def gB (a:(A4 W)):(A4 W)×Bool :=
  let r4:W:=(bif (a.t.1 != 0) then (bV a.t) else (wl 0))
  let r11:W:=(bif (a.y.1 != 0) then (bV a.y) else (bif (a.z.1 != 0) then (bV a.z) else r4))
  bif ((W.mul (bif (a.x.1 != 0) then (bV a.x) else r11) (W.max (aA (aA (aA (aA (wl 0) a.t) a.z) a.y) a.x) (W.neg (aA (aA (aA (aA (wl 0) a.t) a.z) a.y) a.x)))).1==0) then (((⟨(wl 0),(wl 0),(wl 0),(wl 0)⟩:(A4 W)),false)) else (((⟨(W.quo a.x (W.mul (bif (a.x.1 != 0) then (bV a.x) else r11) (W.max (aA (aA (aA (aA (wl 0) a.t) a.z) a.y) a.x) (W.neg (aA (aA (aA (aA (wl 0) a.t) a.z) a.y) a.x))))),(W.quo a.y (W.mul (bif (a.x.1 != 0) then (bV a.x) else r11) (W.max (aA (aA (aA (aA (wl 0) a.t) a.z) a.y) a.x) (W.neg (aA (aA (aA (aA (wl 0) a.t) a.z) a.y) a.x))))),(W.quo a.z (W.mul (bif (a.x.1 != 0) then (bV a.x) else r11) (W.max (aA (aA (aA (aA (wl 0) a.t) a.z) a.y) a.x) (W.neg (aA (aA (aA (aA (wl 0) a.t) a.z) a.y) a.x))))),(W.quo a.t (W.mul (bif (a.x.1 != 0) then (bV a.x) else r11) (W.max (aA (aA (aA (aA (wl 0) a.t) a.z) a.y) a.x) (W.neg (aA (aA (aA (aA (wl 0) a.t) a.z) a.y) a.x)))))⟩:(A4 W)),true))
def jT (a:(A4 W)):Bool :=
  bif (kN a) then (let r3:(A4 W):=(gB a).1
  ((gB a).2&&(decide (r3.x.1=a.x.1)&&(decide (r3.y.1=a.y.1)&&(decide (r3.z.1=a.z.1)&&decide (r3.t.1=a.t.1)))))) else (false)
def i3:Path:=⟨bG,bG⟩
def eK (a:Pose):W :=
  bif (decide (140737488355328≤a.x.x.1)||decide (a.x.x.1≤(-140737488355328))) then ((wl 1)) else (bif (decide (140737488355328≤a.x.y.1)||decide (a.x.y.1≤(-140737488355328))) then ((wl 1)) else (bif (decide (140737488355328≤a.x.z.1)||decide (a.x.z.1≤(-140737488355328))) then ((wl 1)) else (bif (jT a.q) then ((wl 0)) else ((wl 1)))))
def eY (a:I) (b:I) (c:I):I :=
  (E (Z.mul (Z.mul a.dec b.dec) c.dec))
def sI (l:(List Pose)) (p:(A3 W)) (q:(A3 W)):List Pose→(Unit) ⊕ (Bool)
  | []=>.inl ()
  | x0 :: l0=>bif (decide (x0.x.x.1<p.x.1)||decide (q.x.1<x0.x.x.1)) then (.inr (false)) else (bif (decide (x0.x.y.1<p.y.1)||decide (q.y.1<x0.x.y.1)) then (.inr (false)) else (bif (decide (x0.x.z.1<p.z.1)||decide (q.z.1<x0.x.z.1)) then (.inr (false)) else ((sI l p q l0))))
def uE (l:(List Pose)) (p:(A3 W)) (q:(A3 W)):Bool :=
  sm (fun (s:Unit)=>true) (fun r=>r) (sI l p q l)
def mM (l:(List Pose)):Nat→(List Path)→Nat→(List Path×Nat) ⊕ (Paths)
  | 0,out,i=>.inl (out,i)
  | k0+1,out,i=>bif decide (((i:Nat):Int)<(((l).length:Nat):Int)) then (bif ((eK (l.getD i bG)).1 != 0) then (.inr ((⟨([]:List Path),(wl 1)⟩:Paths))) else (bif decide (0<((i:Nat):Int)) then ((mM l k0 (out ++ [(⟨(l.getD (i - 1) bG),(l.getD i bG)⟩:Path)]) (i+1))) else ((mM l k0 out (i+1))))) else (.inl (out,i))
def aC (l:(List Pose)):Paths :=
  sm (fun (s:List Path×Nat)=>let out:List Path:=s.1
  let i:Nat:=s.2
  bif ((((l).length:Nat):Int)==0) then ((⟨([]:List Path),(wl 1)⟩:Paths)) else ((⟨out,(wl 0)⟩:Paths))) (fun r=>r) (mM l ((l.length+1)) ([]:List Path) 0)
def nG (l:(List Pose)) (p:(A3 W)) (q:(A3 W)):Nat→Nat→(Nat) ⊕ (Bool)
  | 0,i=>.inl i
  | k0+1,i=>bif decide (((i:Nat):Int)<(((l).length:Nat):Int)) then (bif (decide ((((l.getD i bG).x).x).1<p.x.1)||decide (q.x.1<(((l.getD i bG).x).x).1)) then (.inr (false)) else (bif (decide ((((l.getD i bG).x).y).1<p.y.1)||decide (q.y.1<(((l.getD i bG).x).y).1)) then (.inr (false)) else (bif (decide ((((l.getD i bG).x).z).1<p.z.1)||decide (q.z.1<(((l.getD i bG).x).z).1)) then (.inr (false)) else ((nG l p q k0 (i+1)))))) else (.inl i)
def mD (l:(List Pose)) (p:(A3 W)) (q:(A3 W)):Bool :=
  sm (fun (s:Nat)=>let i:Nat:=s
  true) (fun r=>r) (nG l p q ((l.length+1)) 0)
def mN (m:W) (y:W) (l:(List Pose)):Nat→Nat→Done→Nat×Done
  | 0,i,mb13=>(i,mb13)
  | k0+1,i,mb13=>bif decide (((i:Nat):Int)<((((aC l).l).length:Nat):Int)) then (bif decide (0<(W.sub ((((((aC l).l).getD i i3).to_).x).z) ((((((aC l).l).getD i i3).from_).x).z)).1) then (let r21:I:=(E (Z.of (W.sub ((((((aC l).l).getD i i3).to_).x).z) ((((((aC l).l).getD i i3).from_).x).z)).1))
  let r22:I:=(E (Z.add mb13.w.dec (eY (E (Z.of m.1)) (E (Z.of y.1)) r21).dec))
  (mN m y l k0 (i+1) (⟨r22,mb13.e⟩:Done))) else ((mN m y l k0 (i+1) mb13))) else ((i,mb13))
def gI (m:W) (y:W) (l:(List Pose)):Done :=
  bif ((((aC l).e).1 != 0)||(decide (m.1<0)||decide (y.1<0))) then ((⟨I0,(wl 1)⟩:Done)) else (ap (fun (s:Nat×Done)=>let i:Nat:=s.1
  let mb13:Done:=s.2
  mb13) (mN m y l (((aC l).l.length+1)) 0 (⟨I0,(wl 0)⟩:Done)))
def iY (l:(List Pose)) (m:W) (y:W) (lo:(A3 W)) (hi:(A3 W)):Nat→Nat→(Nat) ⊕ (Bool)
  | 0,i=>.inl i
  | k0+1,i=>bif decide (((i:Nat):Int)<((((cW l).1).length:Nat):Int)) then (bif (decide (((((((cW l).1).getD i i3).from_).x).x).1=((((((aC l).l).getD i i3).from_).x).x).1)&&(decide (((((((cW l).1).getD i i3).from_).x).y).1=((((((aC l).l).getD i i3).from_).x).y).1)&&(decide (((((((cW l).1).getD i i3).from_).x).z).1=((((((aC l).l).getD i i3).from_).x).z).1)&&(decide (((((((cW l).1).getD i i3).from_).q).x).1=((((((aC l).l).getD i i3).from_).q).x).1)&&(decide (((((((cW l).1).getD i i3).from_).q).y).1=((((((aC l).l).getD i i3).from_).q).y).1)&&(decide (((((((cW l).1).getD i i3).from_).q).z).1=((((((aC l).l).getD i i3).from_).q).z).1)&&(decide (((((((cW l).1).getD i i3).from_).q).t).1=((((((aC l).l).getD i i3).from_).q).t).1)&&(decide (((((((cW l).1).getD i i3).to_).x).x).1=((((((aC l).l).getD i i3).to_).x).x).1)&&(decide (((((((cW l).1).getD i i3).to_).x).y).1=((((((aC l).l).getD i i3).to_).x).y).1)&&(decide (((((((cW l).1).getD i i3).to_).x).z).1=((((((aC l).l).getD i i3).to_).x).z).1)&&(decide (((((((cW l).1).getD i i3).to_).q).x).1=((((((aC l).l).getD i i3).to_).q).x).1)&&(decide (((((((cW l).1).getD i i3).to_).q).y).1=((((((aC l).l).getD i i3).to_).q).y).1)&&(decide (((((((cW l).1).getD i i3).to_).q).z).1=((((((aC l).l).getD i i3).to_).q).z).1)&&decide (((((((cW l).1).getD i i3).to_).q).t).1=((((((aC l).l).getD i i3).to_).q).t).1)))))))))))))) then ((iY l m y lo hi k0 (i+1))) else (.inr (false))) else (.inl i)
def j4 (l:(List Pose)) (m:W) (y:W) (lo:(A3 W)) (hi:(A3 W)):Bool :=
  bif decide (12<(((l).length:Nat):Int)) then (F_skewbacklaw26_sanity) else (bif ((((((cW l).1).length:Nat):Int) != ((((aC l).l).length:Nat):Int))||((((cW l).2).1 != ((aC l).e).1)||(!(decide (((cA m y l).1)=((gI m y l).w)))||(((cA m y l).2).1 != ((gI m y l).e).1)))) then (false) else (sm (fun (s:Nat)=>let i:Nat:=s
  (F_skewbacklaw26_sanity&&((uE l lo hi)==(mD l lo hi)))) (fun r=>r) (iY l m y lo hi ((((cW l).1).length+1)) 0)))
end Go.Num

namespace Go.Kn
open Go Go.Num
section
variable {P:Program} {w0:World} {X:List Nat} {N:Nm} {S:Fr} {M M':List Blk} {d:Option Tmp} {ty:TypeId} {ps:String} {af:Array Edge} {gd:Option (Nat×Bool)}
theorem HT {T:TypeId} {x y:Operand} {n s m:Nat} {k:IntKind} {i:Int} {v:Value} (hT:AE P T=some (n,s)) (hx:evO N S x=some (.pointer (some (slb v m)))) (hy:evO N S y=some (.int k i)) (h0:0≤i) (h1:i<n) :
    OpQ P w0 X N ⟨d,.indexAddr T x y,ty,ps,af,gd⟩ S M (.pointer (some (slb v (m+i.toNat * s)))) :=
  xJ fun w _=>by
    obtain ⟨e,q,hd,hi,hs⟩:=GJ hT
    simp [execOp,eF hx,eF hy,Instr.indexAt,asIntOf,run_underlying hd,Instr.sureAddr,sizeOf,typeInfo,hi,hs,h0,h1,UP]
end
end Go.Kn
namespace Go.Num
open Go Go.Kn
end Go.Num

namespace Go.Proofs.YtkjjponijamaoaaGreatDoor
open Go.Kn Go.Num
theorem DN (n:Int) :
    Ret Tryz.prog 170 [.int .i64 n] (.bool (decide (n<2147483648)&&decide (-2147483648<n))):=by
 refine cM (N:=9) Tryz.func170 rfl rfl (by simp) (fun w0=>?_);simp only [cS,Nat.reduceAdd];refine Sq fun K1 J1=>Rk fun K J=>sE rfl (nl J (J1 _ _ (Sq fun K2 J2=>Rk fun K J=>sE rfl (sE rfl (sE rfl ?_)))))
 cases h1:decide (n<2147483648)
 ·refine aI rfl (aI rfl (sE rfl (sE rfl (nl J (J2 _ _ (aL (cC rfl (.inr rfl) rfl ?_)))))))
  simp [*]
 refine sE rfl (sE rfl (sE rfl (sE rfl (nl J (J2 _ _ (aL (cC rfl (.inr rfl) rfl ?_)))))))
 simp [*]

end Go.Proofs.YtkjjponijamaoaaGreatDoor


namespace Go.Num
open Go Go.Kn
theorem qS_ {a b:I} (h:(!a.1.good||(!b.1.good))=true):a.1.dec.o=none∨b.1.dec.o=none:=by
  cases ha:a.1.good
  · exact .inl (TJ ha)
  · cases hb:b.1.good
    · exact .inr (TJ hb)
    rw [ha,hb] at h;cases h
theorem jp_ {a b:I} (h:(!a.1.good||(!b.1.good))=false):a.1.good=true∧b.1.good=true:=by
  cases ha:a.1.good <;> cases hb:b.1.good <;> rw [ha,hb] at h <;> first | exact ⟨rfl,rfl⟩ | cases h
theorem JS (a b:I):qZ a b=E (Z.add a.dec b.dec):=by
  unfold qZ
  show _=E (Z.add a.1.dec b.1.dec)
  cases hw:(lJ a.1&&lJ b.1)
  · rw [cond_false]
    cases hg:(!a.1.good||(!b.1.good))
    · obtain ⟨ga,gb⟩:=jp_ hg
      rw [cond_false]
      cases hn:(a.1.neg==b.1.neg)
      · rw [cond_false]
        have hn':a.1.neg≠b.1.neg:=by simpa using hn
        cases hl:decide (val a.1.w<val b.1.w)
        · rw [cond_false,of_ a.2 b.2 ga gb hn' (of_decide_eq_false hl)]
        rw [cond_true,og_ a.2 b.2 ga gb hn' (of_decide_eq_true hl)]
      rw [cond_true,lu_ a.2 b.2 ga gb (by simpa using hn)]
    rw [cond_true,Z.add,uU (qS_ hg)]
  rw [cond_true];rw [Bool.and_eq_true] at hw
  show E (Z.of (IntKind.i64.wrap (rK a.1+rK b.1)))=_
  rw [(sR_ (uR a.2 hw.1).2.2.2 (uR b.2 hw.2).2.2.2).1,gy_ a.2 b.2 hw.1 hw.2]
theorem JU (a b:I):uS a b=E (Z.mul a.dec b.dec):=by
  unfold uS
  show _=E (Z.mul a.1.dec b.1.dec)
  cases hw:(lJ a.1&&(lJ b.1&&((decide ((hZ a).1<2147483648)&&decide (-2147483648<(hZ a).1))&&(decide ((hZ b).1<2147483648)&&decide (-2147483648<(hZ b).1)))))
  · rw [cond_false]
    cases hg:(!a.1.good||(!b.1.good))
    · obtain ⟨ga,gb⟩:=jp_ hg
      rw [cond_false,pX_ a.2 b.2 ga gb]
    rw [cond_true,Z.mul,uU (qS_ hg)]
  rw [cond_true];rw [Bool.and_eq_true,Bool.and_eq_true,Bool.and_eq_true] at hw;obtain ⟨h1,h2,h3,h4⟩:=hw
  show E (Z.of (IntKind.i64.wrap (rK a.1 * rK b.1)))=_
  rw [(sS_ (x:=rK a.1) (y:=rK b.1) (fw_ h3) (fw_ h4)).1,gU_ a.2 b.2 h1 h2]
end Go.Num

namespace Go.Proofs.YtkjjponijamaoaaGreatDoor
open Go.Kn Go.Num
theorem MI (a:I) (b:I) :
    Ret Tryz.prog 94 [AV [pI a],AV [pI b]] (AV [pI (qZ a b)]):=by
 refine cM (N:=70) Tryz.func94 rfl rfl (by simp) (fun w0=>?_);simp only [cS,Nat.reduceAdd];refine Rs fun K J=>bA rfl (cH rfl rfl (fun b1 hb1=>bA rfl (cH rfl rfl (fun b2 hb2=>sN gT rfl fun b3 hb3=>nl J (Rs fun K J=>sQ (qL aD rfl m2 rfl) rfl (sC (.tuple #[.int .i64 ((hZ a).1),.bool (lJ a.1)]) HN (mE a.1 a.2) rfl rfl rfl (sE rfl (sE rfl (sE rfl (sE rfl (sE rfl (nl J (Rs fun K J=>sQ (qL aD rfl m1 rfl) rfl (sC (.tuple #[.int .i64 ((hZ b).1),.bool (lJ b.1)]) HN (mE b.1 b.2) rfl rfl rfl (sE rfl (sE rfl (sE rfl ?_)))))))))))))))));refine sE rfl (sE rfl (nl J (Sq fun K1 J1=>?_)));refine dH [22,23,24,25] (fun g M=>(g 25 = .bool ((lJ a.1)&&(lJ b.1)))∧M=[⟨b3,31,aW [pI I0]⟩,⟨b2,31,aW [pI b]⟩,⟨b1,31,aW [pI a]⟩]) (fun K2 J2=>?_) ?_
 ·refine Rk fun K J=>sE rfl ?_;rcases bt (lJ a.1) with h5 | h5
  ·refine sB h5 rfl (sE rfl (sE rfl (nl J ?_)));refine J2 _ _ pp_ ⟨_,s0,?s25,rfl⟩
   case s25=>exact congrArg Value.bool (eB h5 rfl)
  refine sB h5 rfl (aI rfl (sE rfl (nl J ?_)));refine J2 _ _ pp_ ⟨_,s0,?s25,rfl⟩
  case s25=>exact congrArg Value.bool (kU h5)
 rintro g6 M ⟨hg25,rfl⟩;simp only [dQ,hg25];clear hg25;rcases bt ((lJ a.1)&&(lJ b.1)) with h7 | h7
 ·refine W_t h7 rfl (Rs fun K J=>sE rfl (sE rfl (sV (.int .i64 ((W.add (hZ a) (hZ b)).1)) rfl rfl (sC (AV [pI (E (Z.of (W.add (hZ a) (hZ b)).1))]) vP (dV (W.add (hZ a) (hZ b)).1 (W.add (hZ a) (hZ b)).2) rfl rfl rfl (sS [pI (E (Z.of (W.add (hZ a) (hZ b)).1))] aD rfl rfl rfl rfl rfl uH rfl hb3 (nl J (aL (aB (cC rfl (.inr rfl) (eP rfl m0 aD rfl) ?_)))))))));exact (by exact congrArg vS4 (show _=(qZ a b) from bI h7 rfl))
 refine W_f h7 rfl (aG (J1 _ _ (Sq fun K3 J3=>?_)));refine dH [30,31,32,33,34,35,36,37] (fun g M=>(g 37 = .bool (!a.1.good||(!b.1.good)))∧M=[⟨b3,31,aW [pI I0]⟩,⟨b2,31,aW [pI b]⟩,⟨b1,31,aW [pI a]⟩]) (fun K4 J4=>?_) ?_
 ·refine Rk fun K J=>sQ (qL aD rfl m2 rfl) rfl (sC (.bool a.1.good) vE (d9 a.1 a.2) rfl rfl rfl (sE rfl ?_));rcases bt a.1.good with h9 | h9
  ·refine sB (iS h9) rfl (sQ (qL aD rfl m1 rfl) rfl (sC (.bool b.1.good) vE (d9 b.1 b.2) rfl rfl rfl (sE rfl (sE rfl (nl J ?_)))));refine J4 _ _ pp_ ⟨_,s0,?s37,rfl⟩
   case s37=>exact congrArg Value.bool (j3 h9 rfl)
  refine sB (iT h9) rfl (aI rfl (aI rfl (aI rfl (sE rfl (nl J ?_)))));refine J4 _ _ pp_ ⟨_,s0,?s37,rfl⟩
  case s37=>exact congrArg Value.bool (oJ h9)
 rintro g10 M ⟨hg37,rfl⟩;simp only [dQ,hg37];clear hg37;rcases bt (!a.1.good||(!b.1.good)) with h11 | h11
 ·refine W_t h11 rfl (Rs fun K J=>sC (AV [pI (E Z.bad)]) B8 gH rfl rfl rfl (sS [pI (E Z.bad)] aD rfl rfl rfl rfl rfl uH rfl hb3 (nl J (aL (aB (cC rfl (.inr rfl) (eP rfl m0 aD rfl) ?_))))));exact (by exact congrArg vS4 (show _=(qZ a b) from aM h7 (bI h11 rfl)))
 refine W_f h11 rfl (aG (J3 _ _ (Rs fun K J=>sQ (qL aD rfl m2 rfl) rfl (bA rfl (j9 wN rfl (fun w hw=>eC a.1 a.2 w) (fun vl12 Ll12 kl12=>?_))))))
 try simp only [kY,uG] at kl12
 refine sE rfl (nl J (Rs fun K J=>sQ (qL aD rfl (mA (mC mZ)) rfl) rfl (bA rfl (j9 wN rfl (fun w hw=>eC b.1 b.2 w) (fun vl13 Ll13 kl13=>?_)))))
 try simp only [kY,uG] at kl13
 refine sE rfl (nl J (Sq fun K5 J5=>Rs fun K J=>sQ (qF jC rfl rfl) rfl (sQ (qC mF rfl (mA (mA (mC (mC mZ)))) rfl) rfl (sQ (qF jC rfl rfl) rfl (sQ (qC mF rfl (mA (mA (mC mZ))) rfl) rfl (sQ (aZ (v':=.bool (a.1.neg==b.1.neg)) (KT GS rfl rfl) rfl) rfl (nl J ?_)))))));rcases bt (a.1.neg==b.1.neg) with h14 | h14
 ·refine W_t h14 rfl (ds sn [0,4,8,12,17,20,25] [6] mix (by kernel_rfl) (fun K J=>pQ rfl (qF jC rfl rfl) (pQ rfl (qC mF rfl (mA (mA (mC (mC mZ)))) rfl) (pE rfl (pE rfl (d7 rfl rfl (j9 as_ rfl (fun w hw=>wO vl12 vl13 (dl (val a.1.w)) (dl (val b.1.w)) (qQ _) (qQ _) (Nat.le_trans (mY (k:=32) (zZ a.2)) dd_) (Nat.le_trans (mY (k:=32) (zZ b.2)) dd_) w (SL.sl (SL.sub kl12.sl (sR lZ)) hw) (SL.sl (SL.sub kl13.sl lZ) hw)) (fun vl15 Ll15 kl15=>⟨(fun _=>sR s0),sn,?_⟩))))))))
  try simp only [kY,uG] at kl15
  refine pQ rfl (aZ (v':=AV [pI (E (Z.of (sgn a.1.neg ((val a.1.w)+(val b.1.w)))))]) (dA BX rfl (fun w hw=>iE a.1.neg vl15 (dl ((val a.1.w)+(val b.1.w))) (qQ _) (Nat.le_trans (mY (k:=33) (qY_ (k:=32) (zZ a.2) (zZ b.2))) dd_) w (SL.sl (SL.sub kl15.sl lZ) hw))) (by rw [(kY _)];rfl)) (oS [pI (E (Z.of (sgn a.1.neg ((val a.1.w)+(val b.1.w)))))] aD rfl rfl rfl rfl rfl rfl (uL (uL (uL uH))) rfl hb3 rfl sn (fl J (aL (aB (cC rfl (.inr rfl) (eP rfl (mA (mA (mA mZ))) aD rfl) ?_)))));exact (by exact congrArg vS4 (show _=(qZ a b) from aM h7 (aM h11 (bI h14 rfl))))
 refine W_f h14 rfl (aG (J5 _ _ (Rs fun K J=>sE rfl (sE rfl (sQ (aZ (v':=.bool (decide ((val a.1.w)<(val b.1.w)))) (dA PU rfl (fun w hw=>qN vl12 vl13 (dl (val a.1.w)) (dl (val b.1.w)) (qQ _) (qQ _) (Nat.le_trans (mY (k:=32) (zZ a.2)) dd_) (Nat.le_trans (mY (k:=32) (zZ b.2)) dd_) w (SL.sl (SL.sub kl12.sl (sR lZ)) hw) (SL.sl (SL.sub kl13.sl lZ) hw))) (by rw [(kY _),(kY _)])) rfl (sE rfl (nl J (Sq fun K6 J6=>Rs fun K J=>sE rfl (nl J ?_)))))))));rcases bt (decide ((val a.1.w)<(val b.1.w))) with h16 | h16
 ·refine W_t h16 rfl (ds sn [0,4,8,12,17,20,25] [6] mix (by kernel_rfl) (fun K J=>pQ rfl (qF jC rfl rfl) (pQ rfl (qC mF rfl (mA (mA (mC mZ))) rfl) (pE rfl (pE rfl (d7 rfl rfl (j9 VK rfl (fun w hw=>tW vl13 vl12 (dl (val b.1.w)) (dl (val a.1.w)) (qQ _) (qQ _) (Nat.le_trans (mY (k:=32) (zZ b.2)) dd_) (Nat.le_trans (mY (k:=32) (zZ a.2)) dd_) (by simp only [kY,uG];exact (Nat.le_of_lt (of_decide_eq_true h16))) w (SL.sl (SL.sub kl13.sl lZ) hw) (SL.sl (SL.sub kl12.sl (sR lZ)) hw)) (fun vl17 Ll17 kl17=>⟨(fun _=>sR s0),sn,?_⟩))))))))
  try simp only [kY,uG] at kl17
  refine pQ rfl (aZ (v':=AV [pI (E (Z.of (sgn b.1.neg ((val b.1.w) - (val a.1.w)))))]) (dA BX rfl (fun w hw=>iE b.1.neg vl17 (dl ((val b.1.w) - (val a.1.w))) (qQ _) (Nat.le_trans (mY (k:=32) (oA_ (zZ b.2))) dd_) w (SL.sl (SL.sub kl17.sl lZ) hw))) (by rw [(kY _)];rfl)) (oS [pI (E (Z.of (sgn b.1.neg ((val b.1.w) - (val a.1.w)))))] aD rfl rfl rfl rfl rfl rfl (uL (uL (uL uH))) rfl hb3 rfl sn (fl J (aL (aB (cC rfl (.inr rfl) (eP rfl (mA (mA (mA mZ))) aD rfl) ?_)))));exact (by exact congrArg vS4 (show _=(qZ a b) from aM h7 (aM h11 (aM h14 (bI h16 rfl)))))
 refine W_f h16 rfl (aG (J6 _ _ (ds sn [0,4,8,12,17,20,25] [6] mix (by kernel_rfl) (fun K J=>pQ rfl (qF jC rfl rfl) (pQ rfl (qC mF rfl (mA (mA (mC (mC mZ)))) rfl) (pE rfl (pE rfl (d7 rfl rfl (j9 VK rfl (fun w hw=>tW vl12 vl13 (dl (val a.1.w)) (dl (val b.1.w)) (qQ _) (qQ _) (Nat.le_trans (mY (k:=32) (zZ a.2)) dd_) (Nat.le_trans (mY (k:=32) (zZ b.2)) dd_) (by simp only [kY,uG];exact (Nat.le_of_not_lt (of_decide_eq_false h16))) w (SL.sl (SL.sub kl12.sl (sR lZ)) hw) (SL.sl (SL.sub kl13.sl lZ) hw)) (fun vl18 Ll18 kl18=>⟨(fun _=>sR s0),sn,?_⟩))))))))))
 try simp only [kY,uG] at kl18
 refine pQ rfl (aZ (v':=AV [pI (E (Z.of (sgn a.1.neg ((val a.1.w) - (val b.1.w)))))]) (dA BX rfl (fun w hw=>iE a.1.neg vl18 (dl ((val a.1.w) - (val b.1.w))) (qQ _) (Nat.le_trans (mY (k:=32) (oA_ (zZ a.2))) dd_) w (SL.sl (SL.sub kl18.sl lZ) hw))) (by rw [(kY _)];rfl)) (oS [pI (E (Z.of (sgn a.1.neg ((val a.1.w) - (val b.1.w)))))] aD rfl rfl rfl rfl rfl rfl (uL (uL (uL uH))) rfl hb3 rfl sn (fl J (aL (cC rfl (.inr rfl) (eP rfl (mA (mA (mA mZ))) aD rfl) ?_))));exact (by exact congrArg vS4 (show _=(qZ a b) from aM h7 (aM h11 (aM h14 (aM h16 rfl)))))
theorem pJ (a b:R) (ha:a.Ok) (hb:b.Ok):Ret Tryz.prog 94 [RV a,RV b] (RV (Z.add a.dec b.dec).enc):=by
  have h:=MI ⟨a,ha⟩ ⟨b,hb⟩;rw [JS] at h;exact h

theorem MK (a:I) (b:I) :
    Ret Tryz.prog 93 [AV [pI a],AV [pI b]] (AV [pI (uS a b)]):=by
 refine cM (N:=55) Tryz.func93 rfl rfl (by simp) (fun w0=>?_);simp only [cS,Nat.reduceAdd];refine Rs fun K J=>bA rfl (cH rfl rfl (fun b1 hb1=>bA rfl (cH rfl rfl (fun b2 hb2=>sN gT rfl fun b3 hb3=>nl J (Rs fun K J=>sQ (qL aD rfl m2 rfl) rfl (sC (.tuple #[.int .i64 ((hZ a).1),.bool (lJ a.1)]) HN (mE a.1 a.2) rfl rfl rfl (sE rfl (sE rfl (sE rfl (sE rfl (sE rfl (nl J (Rs fun K J=>sQ (qL aD rfl m1 rfl) rfl (sC (.tuple #[.int .i64 ((hZ b).1),.bool (lJ b.1)]) HN (mE b.1 b.2) rfl rfl rfl (sE rfl (sE rfl (sE rfl ?_)))))))))))))))));refine sE rfl (sE rfl (nl J (Sq fun K1 J1=>?_)));refine dH [19,20,21,22,23,24,25,26,27,28,29,30] (fun g M=>(g 30 = .bool ((lJ a.1)&&((lJ b.1)&&((decide ((hZ a).1<2147483648)&&decide (-2147483648<(hZ a).1))&&(decide ((hZ b).1<2147483648)&&decide (-2147483648<(hZ b).1))))))∧M=[⟨b3,31,aW [pI I0]⟩,⟨b2,31,aW [pI b]⟩,⟨b1,31,aW [pI a]⟩]) (fun K2 J2=>?_) ?_
 ·refine Rk fun K J=>sE rfl ?_;rcases bt (lJ a.1) with h7 | h7
  ·refine sB h7 rfl (sE rfl (sE rfl ?_));rcases bt (lJ b.1) with h8 | h8
   ·refine sB h8 rfl (sE rfl (sC (.bool (decide ((hZ a).1<2147483648)&&decide (-2147483648<(hZ a).1))) iD_ (DN (hZ a).1) rfl rfl rfl (sE rfl ?_)));rcases bt (decide ((hZ a).1<2147483648)&&decide (-2147483648<(hZ a).1)) with h9 | h9
    ·refine sB h9 rfl (sE rfl (sC (.bool (decide ((hZ b).1<2147483648)&&decide (-2147483648<(hZ b).1))) iD_ (DN (hZ b).1) rfl rfl rfl (sE rfl (nl J ?_))));refine J2 _ _ pp_ ⟨_,s0,?s30,rfl⟩
     case s30=>exact congrArg Value.bool (eB h7 (eB h8 (eB h9 rfl)))
    refine sB h9 rfl (aI rfl (aI rfl (sE rfl (nl J ?_))));refine J2 _ _ pp_ ⟨_,s0,?s30,rfl⟩
    case s30=>exact congrArg Value.bool (eB h7 (eB h8 (kU h9)))
   refine sB h8 rfl (aI rfl (aI rfl (sE rfl (sE rfl (aI rfl (aI rfl (sE rfl (nl J ?_))))))));refine J2 _ _ pp_ ⟨_,s0,?s30,rfl⟩
   case s30=>exact congrArg Value.bool (eB h7 (kU h8))
  refine sB h7 rfl (aI rfl (sE rfl (sE rfl (aI rfl (aI rfl (sE rfl (sE rfl (aI rfl (aI rfl (sE rfl (nl J ?_)))))))))));refine J2 _ _ pp_ ⟨_,s0,?s30,rfl⟩
  case s30=>exact congrArg Value.bool (kU h7)
 rintro g10 M ⟨hg30,rfl⟩;simp only [dQ,hg30];clear hg30;rcases bt ((lJ a.1)&&((lJ b.1)&&((decide ((hZ a).1<2147483648)&&decide (-2147483648<(hZ a).1))&&(decide ((hZ b).1<2147483648)&&decide (-2147483648<(hZ b).1))))) with h11 | h11
 ·refine W_t h11 rfl (Rs fun K J=>sE rfl (sE rfl (sV (.int .i64 ((W.mul (hZ a) (hZ b)).1)) rfl rfl (sC (AV [pI (E (Z.of (W.mul (hZ a) (hZ b)).1))]) vP (dV (W.mul (hZ a) (hZ b)).1 (W.mul (hZ a) (hZ b)).2) rfl rfl rfl (sS [pI (E (Z.of (W.mul (hZ a) (hZ b)).1))] aD rfl rfl rfl rfl rfl uH rfl hb3 (nl J (aL (aB (cC rfl (.inr rfl) (eP rfl m0 aD rfl) ?_)))))))));exact (by exact congrArg vS4 (show _=(uS a b) from bI h11 rfl))
 refine W_f h11 rfl (aG (J1 _ _ (Sq fun K3 J3=>?_)));refine dH [35,36,37,38,39,40,41,42] (fun g M=>(g 42 = .bool (!a.1.good||(!b.1.good)))∧M=[⟨b3,31,aW [pI I0]⟩,⟨b2,31,aW [pI b]⟩,⟨b1,31,aW [pI a]⟩]) (fun K4 J4=>?_) ?_
 ·refine Rk fun K J=>sQ (qL aD rfl m2 rfl) rfl (sC (.bool a.1.good) vE (d9 a.1 a.2) rfl rfl rfl (sE rfl ?_));rcases bt a.1.good with h13 | h13
  ·refine sB (iS h13) rfl (sQ (qL aD rfl m1 rfl) rfl (sC (.bool b.1.good) vE (d9 b.1 b.2) rfl rfl rfl (sE rfl (sE rfl (nl J ?_)))));refine J4 _ _ pp_ ⟨_,s0,?s42,rfl⟩
   case s42=>exact congrArg Value.bool (j3 h13 rfl)
  refine sB (iT h13) rfl (aI rfl (aI rfl (aI rfl (sE rfl (nl J ?_)))));refine J4 _ _ pp_ ⟨_,s0,?s42,rfl⟩
  case s42=>exact congrArg Value.bool (oJ h13)
 rintro g14 M ⟨hg42,rfl⟩;simp only [dQ,hg42];clear hg42;rcases bt (!a.1.good||(!b.1.good)) with h15 | h15
 ·refine W_t h15 rfl (Rs fun K J=>sC (AV [pI (E Z.bad)]) B8 gH rfl rfl rfl (sS [pI (E Z.bad)] aD rfl rfl rfl rfl rfl uH rfl hb3 (nl J (aL (aB (cC rfl (.inr rfl) (eP rfl m0 aD rfl) ?_))))));exact (by exact congrArg vS4 (show _=(uS a b) from aM h11 (bI h15 rfl)))
 refine W_f h15 rfl (aG (J3 _ _ (ds sn [0,4,8,12,16,20,28,25,33,37,40,45] [11] mix (by kernel_rfl) (fun K J=>pQ rfl (qF jC rfl rfl) (pQ rfl (qC mF rfl m2 rfl) (pQ rfl (qF jC rfl rfl) (pQ rfl (qC mF rfl m1 rfl) (pQ rfl (aZ (v':=.bool (a.1.neg != b.1.neg)) (EH GS rfl rfl) rfl) (pQ rfl (qL aD rfl m2 rfl) (pQ rfl (qL aD rfl m1 rfl) (d7 rfl rfl (j9 wN rfl (fun w hw=>eC a.1 a.2 w) (fun vl16 Ll16 kl16=>⟨(fun _=>sR s0),sn,?_⟩)))))))))))))
 try simp only [kY,uG] at kl16
 refine d7 rfl rfl (j9 wN rfl (fun w hw=>eC b.1 b.2 w) (fun vl17 Ll17 kl17=>⟨(fun _=>sR s0),sn,?_⟩))
 try simp only [kY,uG] at kl17
 refine d7 rfl rfl (j9 dU_ rfl (fun w hw=>yX vl16 vl17 (dl (val a.1.w)) (dl (val b.1.w)) (qQ _) (qQ _) (Nat.le_trans (mY (k:=32) (zZ a.2)) dd_) (Nat.le_trans (mY (k:=32) (zZ b.2)) dd_) w (SL.sl (SL.sub kl16.sl (sR lZ)) hw) (SL.sl (SL.sub kl17.sl lZ) hw)) (fun vl18 Ll18 kl18=>⟨(fun _=>sR s0),sn,?_⟩))
 try simp only [kY,uG] at kl18
 refine pQ rfl (aZ (v':=AV [pI (E (Z.of (sgn (a.1.neg != b.1.neg) ((val a.1.w) * (val b.1.w)))))]) (dA BX rfl (fun w hw=>iE (a.1.neg != b.1.neg) vl18 (dl ((val a.1.w) * (val b.1.w))) (qQ _) (Nat.le_trans (mY (k:=64) (sB_ (i:=32) (k:=32) (zZ a.2) (zZ b.2))) dd_) w (SL.sl (SL.sub kl18.sl lZ) hw))) (by rw [(kY _)];rfl)) (oS [pI (E (Z.of (sgn (a.1.neg != b.1.neg) ((val a.1.w) * (val b.1.w)))))] aD rfl rfl rfl rfl rfl rfl (uL (uL (uL uH))) rfl hb3 rfl sn (fl J (aL (cC rfl (.inr rfl) (eP rfl (mA (mA (mA mZ))) aD rfl) ?_))));exact (by exact congrArg vS4 (show _=(uS a b) from aM h11 (aM h15 rfl)))
theorem fB (a b:R) (ha:a.Ok) (hb:b.Ok):Ret Tryz.prog 93 [RV a,RV b] (RV (Z.mul a.dec b.dec).enc):=by
  have h:=MK ⟨a,ha⟩ ⟨b,hb⟩;rw [JU] at h;exact h

end Go.Proofs.YtkjjponijamaoaaGreatDoor

