/- Lemmas: what they ask stands in their statements. -/
import Derived.Test.YtkjjponijamaoaaGreatDoorYYb
set_option linter.unusedSimpArgs false
set_option linter.unusedVariables false
namespace Go.Kn
open Go.RowKit
section
variable {P:Program} {w0:World} {X:List Nat} {N:Nm} {S:Fr} {M:List Blk} {d:Option Tmp} {ty:TypeId} {ps:String} {af:Array Edge} {gd:Option (Nat×Bool)}
end
section
variable {P:Program} {w0:World} {X:List Nat} {N:Nm} {S:Fr} {M:List Blk} {d:Option Tmp} {ty:TypeId} {ps:String} {af:Array Edge} {gd:Option (Nat×Bool)}
def mS_ (P:Program) (T:TypeId) (f:Nat):Option (Nat×Nat×Bool):=match P.underlying T with
  | some (.struct fs)=>(fs[f]?).bind fun x=>(o8 P x.type).map fun y=>(x.offset,y.2,y.1)
  | _=>none
theorem hq_ {T f o s:Nat} {g:Bool} (h:mS_ P T f=some (o,s,g)):∃ fs x,P.underlying T=some (.struct fs)∧fs[f]? = some x∧x.offset=o∧o8 P x.type=some (g,s):=by
  unfold mS_ at h;split at h
  · rename_i fs hu
    cases hx:fs[f]? with
    | none=>simp [hx] at h
    | some x =>
      cases he:o8 P x.type with
      | none=>simp [hx,he] at h
      | some y=>obtain ⟨y1,y2⟩:=y;simp [hx,he] at h;obtain ⟨rfl,rfl,rfl⟩:=h;exact ⟨fs,x,hu,hx,rfl,he⟩
  · cases h
theorem cT_ {T:TypeId} {x:Operand} {f o s:Nat} {cs:List Part} {v:Value} (hT:mS_ P T f=some (o,s,false)) (hx:evO N S x=some (AV cs)) (hc:LN cs o=some v):OpQ P w0 X N ⟨d,.field T x f,ty,ps,af,gd⟩ S M v :=
  xJ fun w _=>by
    obtain ⟨fs,y,hd,hf,ho,he⟩:=hq_ hT
    simp [execOp,eF hx,Instr.field,run_underlying hd,hf,asAgg,ho,Y3 he hc]
end
section
variable {P:Program} {w0:World} {X:List Nat} {N:Nm} {S:Fr} {M:List Blk} {Q:AF}
variable {d:Option Tmp} {ty:TypeId} {ps:String} {af:Array Edge} {gd:Option (Nat×Bool)}
end
section
variable {P:Program} {w0:World} {X:List Nat} {N:Nm} {Q:AF} {S:Fr} {M:List Blk} {c:Code}
end
end Go.Kn

namespace Go.Kn
open Go.RowKit
section rows
variable {α:Type} {e:El α}
end rows
section
variable {α:Type} {e:El α} {P:Program} {w0:World} {X:List Nat} {N:Nm} {S:Fr} {M M':List Blk} {d:Option Tmp} {ty:TypeId} {ps:String} {af:Array Edge} {gd:Option (Nat×Bool)} {v:Value} {l:List α}
theorem E9 {T:TypeId} {x:Operand} {f o n m:Nat} (hT:k8 P T f=some (o,n)) (hx:evO N S x=some (.pointer (some (slb v m)))) (hn:Nat.beq n 0=false):OpQ P w0 X N ⟨d,.fieldAddr T x f,ty,ps,af,gd⟩ S M (.pointer (some (slb v (m+o)))) :=
  xJ fun w _=>by
    obtain ⟨fs,y,i,hd,hf,hi,ho,hs⟩:=RG hT
    have hn':n≠0:=fun h=>by subst h;cases hn
    simp [execOp,eF hx,Instr.fieldAt,run_underlying hd,hf,Instr.sureAddr,fieldPlace,sizeOf,typeInfo,hi,hs,hn',ho,UP]
end
end Go.Kn
namespace Go.Kn
open Go.RowKit
section
variable {P:Program} {w0:World} {X:List Nat} {N:Nm} {S:Fr} {M:List Blk} {d:Option Tmp} {ty:TypeId} {ps:String} {af:Array Edge} {gd:Option (Nat×Bool)}
end
end Go.Kn
namespace Go.Kn
open Go.RowKit
section
variable {α:Type} {e:El α} {P:Program} {w0:World} {X:List Nat} {N:Nm} {S:Fr} {M:List Blk} {d:Option Tmp} {ty:TypeId} {ps:String} {af:Array Edge} {gd:Option (Nat×Bool)} {v:Value} {l:List α}
end
end Go.Kn
namespace Go.Kn
section
variable {α:Type} {e:El α} {w0:World} {X:List Nat} {M:List Blk} {v:Value} {l:List α}
end
end Go.Kn

namespace Go.Kn
open Go.RowKit
section
variable {P:Program} {w0:World} {X:List Nat} {S:Fr} {M:List Blk} {d:Option Tmp} {ty:TypeId} {p:String} {af:Array Edge} {gd:Option (Nat×Bool)}
end
end Go.Kn

namespace Go.Num
open Go Go.Kn
end Go.Num

namespace Go.Kn
open Go
section
variable {P:Program} {w0:World} {X:List Nat} {N:Nm} {Q:AF} {S:Fr} {M:List Blk} {c:Code}
end
end Go.Kn

namespace Go.Num
open Go Go.Kn
theorem W.min_1 (a b:W):(if b.1<a.1 then b.1 else a.1)=(W.min a b).1:=by unfold W.min;by_cases h:b.1<a.1 <;> simp [h]
open Go
end Go.Num

namespace Go.Kn
open Go.RowKit
section
variable {P:Program} {w0:World} {X:List Nat} {N:Nm} {S:Fr} {M:List Blk}
variable {ops:List Oper} {Q:Fr→List Blk→Prop} {o:Oper} {l:List Oper} {v v':Value} {d:Tmp} {b c:Bool} {nw:List Nat} {MD:List Blk} {i:Nat} {ws:List Nat} {r:Plan}
section
variable {g:FuncId} {xs:List Operand} {tys:Array TypeId} {args:List Value} {ty:TypeId} {ps:String} {af:Array Edge} {gd:Option (Nat×Bool)}
end
end
section
variable {P:Program} {w0:World} {X:List Nat} {N:Nm} {S:Fr} {M:List Blk} {d:Option Tmp} {ty:TypeId} {ps:String} {af:Array Edge} {gd:Option (Nat×Bool)}
end
section
variable {P:Program} {w0:World} {X:List Nat} {N:Nm} {S:Fr} {M:List Blk} {Q:AF}
end
section
variable {P:Program} {w0:World} {X:List Nat} {N:Nm} {S:Fr} {M:List Blk} {Q:AF}
end
section
variable {α:Type} {e:El α} {w0 w:World} {X:List Nat} {M M' L:List Blk} {v:Value} {l:List α} {E:TypeId}
end
end Go.Kn

namespace Go.Num
open Go Go.Kn Go.RowKit Go.ChangeShapes Go.WideShapes
section
variable {H:Type} {enc:TypeId×Value→H} {P:Program} {w:World} {base:Nat} {spare:Nat→Bool} {held:Bool}
end
end Go.Num
namespace Go.Num
open Go Go.Kn Go.RowKit
theorem st_ {P:Program} {w:World} {base:Nat} {r:Reach} {T:TypeId} {v:Value} {k:IntKind} (hu:P.underlying T=some (.int k)) (hv:Value.okWide P w r base T v):∃ n,v = .int k n∧k.has n:=by
  unfold Value.okWide at hv;rw [hu] at hv;unfold Cell.okWide at hv;rw [hu] at hv;unfold Cell.ok at hv;rw [hu] at hv
  cases v <;> simp_all
theorem sq_ {n:Int} (h:IntKind.i64.has n):I64 n:=by
  simp [IntKind.has,IntKind.min,IntKind.max,IntKind.signed,IntKind.bits] at h
  unfold I64;omega
end Go.Num

namespace Go.Proofs.YtkjjponijamaoaaGreatDoor
open Go.Kn Go.Num
theorem fi_:aY Tryz.prog 34=true:=by kernel_rfl
theorem ap_:aY Tryz.prog 118=true:=by kernel_rfl
theorem oV_:aY Tryz.prog 202=true:=by kernel_rfl
theorem pl_:aY Tryz.prog 248=true:=by kernel_rfl
theorem pm_:aY Tryz.prog 249=true:=by kernel_rfl
theorem aB_:aY Tryz.prog 275=true:=by kernel_rfl
theorem aC_:aY Tryz.prog 276=true:=by kernel_rfl
theorem fr_:mS_ Tryz.prog 85 1=some (1,1,false):=by kernel_rfl
theorem kc_:tJ Tryz.prog 85=some [(0,1),(1,1)]:=by kernel_rfl
theorem TH:o8 Tryz.prog 85=some (true,2):=by kernel_rfl
theorem Z1:lC Tryz.prog 85=some (aW [csl none 0 0,ci .i64 0]):=by kernel_rfl
end Go.Proofs.YtkjjponijamaoaaGreatDoor

namespace Go.Num
open Go Go.Kn
def lK (a:W) (b:W):Nat→W→W→W×W
  | 0,p,q=>(p,q)
  | k0+1,p,q=>bif (q.1 != 0) then ((lK a b k0 q (W.rem p q))) else ((p,q))
def aA (a:W) (b:W):W :=
  ap (fun (s:W×W)=>let p:W:=s.1
  let q:W:=s.2
  (W.max p (W.neg p))) (lK a b (b.1.natAbs+1) a b)
def kN (a:(A4 W)):Bool :=
  bif (decide (64<a.x.1)||decide (a.x.1<(-64))) then (false) else (bif (decide (64<a.y.1)||decide (a.y.1<(-64))) then (false) else (bif (decide (64<a.z.1)||decide (a.z.1<(-64))) then (false) else (bif (decide (64<a.t.1)||decide (a.t.1<(-64))) then (false) else (true))))
def bV (a:W):W :=
  bif decide (a.1<0) then ((wl (-1))) else ((W.min a (wl 1)))
def gB (a:(A4 W)):(A4 W)×Bool :=
  let r4:W:=(bif (a.t.1 != 0) then (bV a.t) else (wl 0))
  let r11:W:=(bif (a.y.1 != 0) then (bV a.y) else (bif (a.z.1 != 0) then (bV a.z) else r4))
  bif ((W.mul (bif (a.x.1 != 0) then (bV a.x) else r11) (W.max (aA (aA (aA (aA (wl 0) a.t) a.z) a.y) a.x) (W.neg (aA (aA (aA (aA (wl 0) a.t) a.z) a.y) a.x)))).1==0) then (((⟨(wl 0),(wl 0),(wl 0),(wl 0)⟩:(A4 W)),false)) else (((⟨(W.quo a.x (W.mul (bif (a.x.1 != 0) then (bV a.x) else r11) (W.max (aA (aA (aA (aA (wl 0) a.t) a.z) a.y) a.x) (W.neg (aA (aA (aA (aA (wl 0) a.t) a.z) a.y) a.x))))),(W.quo a.y (W.mul (bif (a.x.1 != 0) then (bV a.x) else r11) (W.max (aA (aA (aA (aA (wl 0) a.t) a.z) a.y) a.x) (W.neg (aA (aA (aA (aA (wl 0) a.t) a.z) a.y) a.x))))),(W.quo a.z (W.mul (bif (a.x.1 != 0) then (bV a.x) else r11) (W.max (aA (aA (aA (aA (wl 0) a.t) a.z) a.y) a.x) (W.neg (aA (aA (aA (aA (wl 0) a.t) a.z) a.y) a.x))))),(W.quo a.t (W.mul (bif (a.x.1 != 0) then (bV a.x) else r11) (W.max (aA (aA (aA (aA (wl 0) a.t) a.z) a.y) a.x) (W.neg (aA (aA (aA (aA (wl 0) a.t) a.z) a.y) a.x)))))⟩:(A4 W)),true))
def jT (a:(A4 W)):Bool :=
  bif (kN a) then (let r3:(A4 W):=(gB a).1
  ((gB a).2&&(decide (r3.x.1=a.x.1)&&(decide (r3.y.1=a.y.1)&&(decide (r3.z.1=a.z.1)&&decide (r3.t.1=a.t.1)))))) else (false)
def eK (a:Pose):W :=
  bif (decide (140737488355328≤a.x.x.1)||decide (a.x.x.1≤(-140737488355328))) then ((wl 1)) else (bif (decide (140737488355328≤a.x.y.1)||decide (a.x.y.1≤(-140737488355328))) then ((wl 1)) else (bif (decide (140737488355328≤a.x.z.1)||decide (a.x.z.1≤(-140737488355328))) then ((wl 1)) else (bif (jT a.q) then ((wl 0)) else ((wl 1)))))
def eY (a:I) (b:I) (c:I):I :=
  (E (Z.mul (Z.mul a.dec b.dec) c.dec))
def mM (l:(List Pose)):Nat→(List Path)→Nat→(List Path×Nat) ⊕ (Paths)
  | 0,out,i=>.inl (out,i)
  | k0+1,out,i=>bif decide (((i:Nat):Int)<(((l).length:Nat):Int)) then (bif ((eK (l.getD i bG)).1 != 0) then (.inr ((⟨([]:List Path),(wl 1)⟩:Paths))) else (bif decide (0<((i:Nat):Int)) then ((mM l k0 (out ++ [(⟨(l.getD (i - 1) bG),(l.getD i bG)⟩:Path)]) (i+1))) else ((mM l k0 out (i+1))))) else (.inl (out,i))
def aC (l:(List Pose)):Paths :=
  sm (fun (s:List Path×Nat)=>let out:List Path:=s.1
  let i:Nat:=s.2
  bif ((((l).length:Nat):Int)==0) then ((⟨([]:List Path),(wl 1)⟩:Paths)) else ((⟨out,(wl 0)⟩:Paths))) (fun r=>r) (mM l ((l.length+1)) ([]:List Path) 0)
def i9 (a:(List Pose)) (b:(List Pose)) (m:W) (y:W):Nat→(List Pose)→Int→List Pose×Int
  | 0,back,i=>(back,i)
  | k0+1,back,i=>bif decide (0≤i) then ((i9 a b m y k0 (back ++ [(a.getD ((i).toNat) bG)]) (i - 1))) else ((back,i))
def oA (a:(List Pose)) (b:(List Pose)) (m:W) (y:W):Bool :=
  bif (((((a).length:Nat):Int)==0)||(((((b).length:Nat):Int)==0)||(decide (8<(((a).length:Nat):Int))||(decide (8<(((b).length:Nat):Int))||(decide (m.1<0)||(decide (y.1<0)||((((aC a).e).1 != 0)||(((aC b).e).1 != 0)))))))) then (F_skewbacklaw26_sanity) else (ap (fun (s:List Pose×Int)=>let back:List Pose:=s.1
  let i:Int:=s.2
  bif ((((cA m y a).2).1 != 0)||((((cA m y b).2).1 != 0)||((((cA m y [(a.getD ((a).length - 1) bG),(b.getD 0 bG)]).2).1 != 0)||((((cA m y (([] ++ a) ++ b)).2).1 != 0)||(((cA m y back).2).1 != 0))))) then (false) else (let r86:I:=(E (Z.of (W.sub (((a.getD ((a).length - 1) bG).x).z) (((a.getD 0 bG).x).z)).1))
  (F_skewbacklaw26_sanity&&(decide (((cA m y (([] ++ a) ++ b)).1)=(E (Z.add (Z.add ((cA m y a).1).dec ((cA m y [(a.getD ((a).length - 1) bG),(b.getD 0 bG)]).1).dec) ((cA m y b).1).dec)))&&(decide ((E (Z.sub ((cA m y a).1).dec ((cA m y back).1).dec))=(E (Z.mul (Z.mul (Z.of m.1) (Z.of y.1)) r86.dec)))&&decide (0≤(Z.signW ((cA m y a).1).dec).1)))))) (i9 a b m y ((a.length+1)) ([]:List Pose) ((((a).length:Nat):Int) - 1)))
end Go.Num

namespace Go.Kn
open Go Go.Num
section
variable {P:Program} {w0:World} {X:List Nat} {N:Nm} {S:Fr} {M M':List Blk} {d:Option Tmp} {ty:TypeId} {ps:String} {af:Array Edge} {gd:Option (Nat×Bool)}
theorem HT {T:TypeId} {x y:Operand} {n s m:Nat} {k:IntKind} {i:Int} {v:Value} (hT:AE P T=some (n,s)) (hx:evO N S x=some (.pointer (some (slb v m)))) (hy:evO N S y=some (.int k i)) (h0:0≤i) (h1:i<n) :
    OpQ P w0 X N ⟨d,.indexAddr T x y,ty,ps,af,gd⟩ S M (.pointer (some (slb v (m+i.toNat * s)))) :=
  xJ fun w _=>by
    obtain ⟨e,q,hd,hi,hs⟩:=GJ hT
    simp [execOp,eF hx,eF hy,Instr.indexAt,asIntOf,run_underlying hd,Instr.sureAddr,sizeOf,typeInfo,hi,hs,h0,h1,UP]
end
end Go.Kn
namespace Go.Num
open Go Go.Kn
theorem NY (l:List I):(tM l).length≤l.length:=by
  rw [FQ,List.length_take];omega
theorem C3 {l:List I} {k:Nat} (h:l.length≤k):l.getD k I0=I0:=by simp [List.getD,List.getElem?_eq_none h]
theorem gD_ {x:I} (h:x.1.good=true):E x.dec=x:=Subtype.ext (T9 x.2 h)
theorem ee_ {x:I} (h:x.1.good=true):∃ v:Int,gR v∧x=E (Z.of v):=by
  have h1:=fF x.2 h;refine ⟨_,x.dec.h _ h1,?_⟩;rw [← Z.eq_of h1];exact (gD_ h).symm
theorem HO {v:Int} (h:gR v):(E (Z.of v)).1.good=true:=by
  show (Z.of v).enc.good=true
  rw [Z.enc_good,Z.of_some h];rfl
theorem f8_ {v:Int} (h:gR v):(Z.of v).sign=v.sign:=by unfold Z.sign;rw [Z.of_some h]
theorem tT {v:Int} (h:gR v):(Z.signW (Z.of v)).1=v.sign:=f8_ h
theorem qV {u v:Int} (hu:gR u) (hv:gR v):Z.mul (Z.of u) (Z.of v)=Z.of (u * v):=by rw [Z.mul,gZ (Z.of_some hu) (Z.of_some hv)]
theorem E8 {u v:Int} (hu:gR u) (hv:gR v):Z.add (Z.of u) (Z.of v)=Z.of (u+v):=by rw [Z.add,gZ (Z.of_some hu) (Z.of_some hv)]
theorem eo_ {u:Int} (hu:gR u):Z.neg (Z.of u)=Z.of (-u):=by rw [Z.neg,rB (Z.of_some hu)]
theorem B0:gR 0:=by decide
theorem rx_ {x:I} (h:gdI x=true):∃ v:Int,gR v∧x=E (Z.of v):=ee_ (by unfold R.good;exact h)
theorem cs_ {v:Int} (h:gR v):gdI (E (Z.of v))=true:=by have:=HO h;unfold R.good at this;exact this
def vI (x:I):Int:=x.dec.o.getD 0
theorem hs_ {v:Int} (h:gR v):vI (E (Z.of v))=v:=by unfold vI;rw [eD,Z.of_some h];rfl
theorem SX {x:I} (h:gdI x=true):x=E (Z.of (vI x))∧gR (vI x):=by
  obtain ⟨v,hv,rfl⟩:=rx_ h;rw [hs_ hv];exact ⟨rfl,hv⟩
theorem mZ_ {v:Int} (h:gR v):zrI (E (Z.of v))=decide (v=0):=by
  unfold zrI;rw [eD,tT h]
  by_cases h0:v=0
  · subst h0;rfl
  rw [decide_eq_false h0];exact beq_eq_false_iff_ne.2 (fun hs=>h0 (Int.sign_eq_zero_iff_zero.1 hs))
theorem P5 {m:List I} {x:I} (h:tM (m ++ [x])=m ++ [x]):zrI x=false:=by
  cases hx:zrI x
  · rfl
  rw [B2,hx,cond_true] at h;have:=NY m;rw [h] at this;simp only [List.length_append,List.length_cons,List.length_nil] at this;omega
end Go.Num

