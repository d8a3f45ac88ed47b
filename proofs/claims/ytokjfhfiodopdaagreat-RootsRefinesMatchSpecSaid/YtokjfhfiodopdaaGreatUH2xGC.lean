/- Lemmas: what they ask stands in their statements. -/
import Derived.Test.YtokjfhfiodopdaaGreatUAo
set_option linter.unusedSimpArgs false
set_option linter.unusedVariables false
namespace Go.Kn
open Go.RowKit
section
variable {P:Program} {w0:World} {X:List Nat} {N:Nm} {S:Fr} {M M':List Blk} {d:Option Tmp} {ty:TypeId} {ps:String} {af:Array Edge} {gd:Option (Nat×Bool)}
end
end Go.Kn
namespace Go.Num
open Go Go.Kn
section
variable {P:Program} {w0:World} {X:List Nat} {N:Nm} {S:Fr} {M:List Blk} {d:Option Tmp} {ty:TypeId} {ps:String} {af:Array Edge} {gd:Option (Nat×Bool)}
end
open Go Go.Kn
section
variable {P:Program} {w0:World} {X:List Nat} {N:Nm} {S:Fr} {M:List Blk} {d:Option Tmp} {ty:TypeId} {ps:String} {af:Array Edge} {gd:Option (Nat×Bool)}
end
open Go Go.Kn
theorem UA {x:Int} (h:(decide (x<2147483648)&&decide (-2147483648<x))=true):x.natAbs<2147483648:=by simp only [Bool.and_eq_true,decide_eq_true_iff] at h;omega
theorem g6_ {x y:Int} (hx:x.natAbs<2147483648) (hy:y.natAbs<2147483648):IntKind.i64.wrap (x*y)=x*y∧I64 (x*y):=by
  have h:(x*y).natAbs<4611686018427387904:=by
    rw [Int.natAbs_mul]
    calc x.natAbs*y.natAbs≤2147483647*2147483647:=Nat.mul_le_mul (by omega) (by omega)
      _<_:=by decide
  have:I64 (x*y):=by unfold I64;omega
  exact ⟨cJ this,this⟩
theorem VT {a b:R} (ha:a.Ok) (hb:b.Ok) (h:iR a=true) (k:iR b=true):Z.of (jV a+jV b)=Z.add a.dec b.dec:=by
  rw [Z.add,dR (lU ha h).1 (lU hb k).1]
theorem WJ {a b:R} (ha:a.Ok) (hb:b.Ok) (h:iR a=true) (k:iR b=true):Z.of (jV a*jV b)=Z.mul a.dec b.dec:=by
  rw [Z.mul,dR (lU ha h).1 (lU hb k).1]
theorem bp_ {a b:R} (ha:a.Ok) (hb:b.Ok) (ga:a.good=true) (gb:b.good=true) (hn:a.neg=b.neg):Z.of (sgn a.neg (val a.w+val b.w))=Z.add a.dec b.dec:=by
  rw [Z.add,dR (dH ha ga) (dH hb gb),← hn,N8]
theorem dG_ {a b:R} (ha:a.Ok) (hb:b.Ok) (ga:a.good=true) (gb:b.good=true) (hn:a.neg≠b.neg) (hlt:val a.w<val b.w):Z.of (sgn b.neg (val b.w - val a.w))=Z.add a.dec b.dec:=by
  rw [Z.add,dR (dH ha ga) (dH hb gb),Int.add_comm,D2 (Ne.symm hn) (by omega)]
theorem dF_ {a b:R} (ha:a.Ok) (hb:b.Ok) (ga:a.good=true) (gb:b.good=true) (hn:a.neg≠b.neg) (hge:¬ val a.w<val b.w):Z.of (sgn a.neg (val a.w - val b.w))=Z.add a.dec b.dec:=by
  rw [Z.add,dR (dH ha ga) (dH hb gb),D2 hn (by omega)]
theorem em_ {a b:R} (ha:a.Ok) (hb:b.Ok) (ga:a.good=true) (gb:b.good=true):Z.of (sgn (a.neg != b.neg) (val a.w*val b.w))=Z.mul a.dec b.dec:=by
  rw [Z.mul,dR (dH ha ga) (dH hb gb),N9]
end Go.Num
namespace Go.Kn
open Go.RowKit
section
variable {P:Program} {w0:World} {X:List Nat} {N:Nm} {S:Fr} {M:List Blk} {d:Option Tmp} {ty:TypeId} {ps:String} {af:Array Edge} {gd:Option (Nat×Bool)}
end
section
variable {P:Program} {w0:World} {X:List Nat} {N:Nm} {S:Fr} {M:List Blk} {d:Option Tmp} {ty:TypeId} {ps:String} {af:Array Edge} {gd:Option (Nat×Bool)}
end
section
variable {P:Program} {w0:World} {X:List Nat} {N:Nm} {S:Fr} {M:List Blk} {Q:n8}
variable {d:Option Tmp} {ty:TypeId} {ps:String} {af:Array Edge} {gd:Option (Nat×Bool)}
end
section
variable {P:Program} {w0:World} {X:List Nat} {N:Nm} {Q:n8} {S:Fr} {M:List Blk} {c:Code}
end
open Go.RowKit
section rows
variable {α:Type} {e:El α}
end rows
section
variable {α:Type} {e:El α} {P:Program} {w0:World} {X:List Nat} {N:Nm} {S:Fr} {M M':List Blk} {d:Option Tmp} {ty:TypeId} {ps:String} {af:Array Edge} {gd:Option (Nat×Bool)} {v:Value} {l:List α}
end
open Go.RowKit
section
variable {P:Program} {w0:World} {X:List Nat} {N:Nm} {S:Fr} {M:List Blk} {d:Option Tmp} {ty:TypeId} {ps:String} {af:Array Edge} {gd:Option (Nat×Bool)}
end
open Go.RowKit
section
variable {α:Type} {e:El α} {P:Program} {w0:World} {X:List Nat} {N:Nm} {S:Fr} {M:List Blk} {d:Option Tmp} {ty:TypeId} {ps:String} {af:Array Edge} {gd:Option (Nat×Bool)} {v:Value} {l:List α}
end
section
variable {α:Type} {e:El α} {w0:World} {X:List Nat} {M:List Blk} {v:Value} {l:List α}
end
open Go.RowKit
section
variable {P:Program} {w0:World} {X:List Nat} {S:Fr} {M:List Blk} {d:Option Tmp} {ty:TypeId} {p:String} {af:Array Edge} {gd:Option (Nat×Bool)}
end
end Go.Kn
namespace Go.Num
open Go Go.Kn
theorem gJ_ {n m i k:Nat} (hn:n<65536 ^ i) (hm:m<65536 ^ k):n*m<65536 ^ (i+k):=by rw [Nat.pow_add];exact Nat.mul_lt_mul_of_lt_of_lt hn hm
end Go.Num
namespace Go.Kn
open Go
section
variable {P:Program} {w0:World} {X:List Nat} {N:Nm} {Q:n8} {S:Fr} {M:List Blk} {c:Code}
end
end Go.Kn
namespace Go.Num
open Go Go.Kn
open Go
end Go.Num
namespace Go.Kn
open Go.RowKit
section
variable {P:Program} {w0:World} {X:List Nat} {N:Nm} {S:Fr} {M:List Blk}
variable {ops:List Oper} {Q:Fr→List Blk→Prop} {o:Oper} {l:List Oper} {v v':Value} {d:Tmp} {b c:Bool} {nw:List Nat} {MD:List Blk} {i:Nat} {ws:List Nat} {r:Plan}
section
variable {g:FuncId} {xs:List Operand} {tys:Array TypeId} {args:List Value} {ty:TypeId} {ps:String} {af:Array Edge} {gd:Option (Nat×Bool)}
end
end
section
variable {P:Program} {w0:World} {X:List Nat} {N:Nm} {S:Fr} {M:List Blk} {d:Option Tmp} {ty:TypeId} {ps:String} {af:Array Edge} {gd:Option (Nat×Bool)}
end
section
variable {P:Program} {w0:World} {X:List Nat} {N:Nm} {S:Fr} {M:List Blk} {Q:n8}
end
section
variable {P:Program} {w0:World} {X:List Nat} {N:Nm} {S:Fr} {M:List Blk} {Q:n8}
end
section
variable {α:Type} {e:El α} {w0 w:World} {X:List Nat} {M M' L:List Blk} {v:Value} {l:List α} {E:TypeId}
end
open Go.RowKit
section
variable {P:Program} {T f:Nat}
end
section
variable {P:Program} {w0:World} {X:List Nat} {N:Nm} {S:Fr} {M MD:List Blk} {Q:n8} {x y c:Code} {id n:Nat} {ops:List Oper} {nw:List Nat} {p:Plan}
theorem gJ4 {Q0:n8} (mods:List Nat) (vs:List (Nat×Value)) (hx:∀ K:Fr→List Blk→Prop,(∀ S' M',PutOn mods S S'→M.Sublist M'→AllV (look S') vs→K S' M')→W P w0 X N x (wN K Q) S M)
    (hy:∀ g,W P w0 X N y Q0 (vs++eO S g mods) M) (hm:(vs.all fun p=>mods.contains p.1)=true:=by rfl)
    (hK:∀ S M,W P w0 X N y Q0 S M→Q .normal S M:=by intro _ _ h;repeat (first|exact gtn h|refine C4 ?_|refine DZ ?_)):W P w0 X N x Q S M :=
  TF hK mods (fun g M'=>AllV g vs∧M'=M) (fun K hK=>hx K fun S' M' hp hs hv=>hK S' M' hp ⟨M,hs,hv,rfl⟩) (fun g M' h=>by obtain ⟨hv,rfl⟩:=h;exact CZ (hv.look hm) (hy g))
variable {Qf:Fr→List Blk→Prop} {l:List Oper} {d:Option Tmp} {dd:Tmp} {ty:TypeId} {ps:String} {af:Array Edge} {gd:Option (Nat×Bool)} {T U:TypeId} {xo yo:Operand} {v:Value}
end
section
variable {P:Program} {w0:World} {X:List Nat} {N:Nm} {S:Fr} {M MD:List Blk} {Q:n8} {Qf:Fr→List Blk→Prop} {c:Code} {ops l:List Oper} {nw:List Nat} {p:Plan} {d:Option Tmp} {ty:TypeId} {ps:String} {af:Array Edge} {gd:Option (Nat×Bool)} {T:TypeId} {x y:Operand} {f:Nat}
end
end Go.Kn
namespace Go.Num
open Go Go.Kn Go.RowKit Go.ChangeShapes Go.WideShapes
section
variable {H:Type} {enc:TypeId×Value→H} {P:Program} {w:World} {base:Nat} {spare:Nat→Bool} {held:Bool}
end
open Go Go.Kn Go.RowKit
theorem gz_ {P:Program} {w:World} {base:Nat} {r:Reach} {T:TypeId} {v:Value} {k:IntKind} (hu:P.underlying T=some (.int k)) (hv:Value.okWide P w r base T v):∃ n,v = .int k n∧k.has n:=by
  unfold Value.okWide at hv;rw [hu] at hv;unfold Cell.okWide at hv;rw [hu] at hv;unfold Cell.ok at hv;rw [hu] at hv
  cases v<;>simp_all
theorem gy_ {n:Int} (h:IntKind.i64.has n):I64 n:=by
  simp [IntKind.has,IntKind.min,IntKind.max,IntKind.signed,IntKind.bits] at h
  unfold I64;omega
end Go.Num
namespace Go.Kn
open Go Go.Num
section
variable {α:Type} {P:Program} {w0:World} {X:List Nat} {N:Nm} {S:Fr} {M M':List Blk} {d:Option Tmp} {ty:TypeId} {ps:String} {af:Array Edge} {gd:Option (Nat×Bool)} {enc:α→List Value} {dom:α→Prop} {out:α→Value} {g:Nat} {cap:List Value}
end
section
variable {α:Type} {e:El α} {P:Program} {w0:World} {X:List Nat} {N:Nm} {S:Fr} {M M':List Blk} {d:Option Tmp} {ty:TypeId} {ps:String} {af:Array Edge} {gd:Option (Nat×Bool)} {v:Value} {l:List α}
theorem f7_ {p:Option Addr} {m n c:Nat} (h:m=n):Value.slice p m c=Value.slice p n c:=by rw [h]
theorem OwnG.fix {E:TypeId} {p:Option Addr} {n c:Nat} {L:List Blk} (h:OwnG w0 E e (.slice p n c) l L):OwnG w0 E e (.slice p l.length c) l L:=by
  rw [← h.len];exact h
theorem X3 {T T' E E':TypeId} {ty:TypeId} {u v:Value} {w:World} (hT:P.underlying T=some (.slice E)) (hT':P.underlying T'=some (.slice E')):(Builtin.append_ #[T,T'] ty #[v,u]).run P w=(Builtin.append_ #[T,T] ty #[v,u]).run P w:=by
  unfold Builtin.append_
  cases v with
  | slice b n c=>simp [run_underlying hT,run_underlying hT',Sem.run_bind]
  | _=>simp [run_underlying hT,run_underlying hT',Sem.run_bind]
theorem az_ {T T' E E':TypeId} {x y:Operand} {K:Value→List Blk→Prop} (hT:P.underlying T=some (.slice E)) (hT':P.underlying T'=some (.slice E')) (h:OpR P w0 X N ⟨d,.call { callee:=.builtin .append,args:=#[x,y],argTypes:=#[T,T] },ty,ps,af,gd⟩ S M K) :
    OpR P w0 X N ⟨d,.call { callee:=.builtin .append,args:=#[x,y],argTypes:=#[T,T'] },ty,ps,af,gd⟩ S M K:=by
  intro w hw;have h1:=h w hw;unfold opw at h1 ⊢
  have e:(execOp (act N S).eval ⟨d,.call { callee:=.builtin .append,args:=#[x,y],argTypes:=#[T,T'] },ty,ps,af,gd⟩).run P w=(execOp (act N S).eval ⟨d,.call { callee:=.builtin .append,args:=#[x,y],argTypes:=#[T,T] },ty,ps,af,gd⟩).run P w:=by
    simp [execOp,resolve,invoke,builtin,X3 hT hT']
  rw [e];exact h1
theorem b9_ {A B R:List Blk}:(A++(B++R)).Perm (B++(A++R)):=by
  rw [← List.append_assoc,← List.append_assoc];exact List.Perm.append_right R List.perm_append_comm
end
end Go.Kn
namespace Go.Num
open Go Go.Kn
end Go.Num
namespace Go.Proofs.YtokjfhfiodopdaaGreat
open Go.Kn Go.Num Tryz
section
variable {w0:World} {X:List Nat} {N:Nm} {S:Fr} {M MD:List Blk} {Q:n8} {y:Code} {id:Nat} {ops:List Oper}
end
theorem U7:l7 prog 89=some 1:=by kernel_rfl
theorem a1_:prog.underlying 89=some (.slice 23):=by kernel_rfl
end Go.Proofs.YtokjfhfiodopdaaGreat
namespace Go.Num
open Go Go.Kn
def jP (a:I) (b:I):I :=
  bif ((iR a.1)&&(iR b.1)) then ((E (Z.of (W.add (eE a) (eE b)).1))) else (bif (!a.1.good||(!b.1.good)) then ((E Z.bad)) else (bif (a.1.neg==b.1.neg) then ((E (Z.of (sgn a.1.neg ((val a.1.w)+(val b.1.w)))))) else (bif decide ((val a.1.w)<(val b.1.w)) then ((E (Z.of (sgn b.1.neg ((val b.1.w) - (val a.1.w)))))) else ((E (Z.of (sgn a.1.neg ((val a.1.w) - (val b.1.w)))))))))
def vG (a:I) (b:I):I :=
  (E (Z.add a.dec (Z.neg b.dec)))
def lW (a:I) (b:I):I :=
  bif ((iR a.1)&&((iR b.1)&&((decide ((eE a).1<2147483648)&&decide (-2147483648<(eE a).1))&&(decide ((eE b).1<2147483648)&&decide (-2147483648<(eE b).1))))) then ((E (Z.of (W.mul (eE a) (eE b)).1))) else (bif (!a.1.good||(!b.1.good)) then ((E Z.bad)) else ((E (Z.of (sgn (a.1.neg != b.1.neg) ((val a.1.w)*(val b.1.w)))))))
def l8 (a:Rt):Bool :=
  ((aZ a)||(decide (a.n=jQ.n)&&decide (a.d=jQ.d)))
def eR (p:(List I)) (k:Int):I :=
  bif (decide (k<0)||decide ((((p).length:Nat):Int)≤k)) then (I0) else ((p.getD ((k).toNat) I0))
def gF (p:(List I)) (n:I):Nat→(List I)→Nat→List I×Nat
  | 0,out,i=>(out,i)
  | k0+1,out,i=>bif decide (((i:Nat):Int)<(((p).length:Nat):Int)) then ((gF p n k0 (out++[(E (Z.mul (p.getD i I0).dec n.dec))]) (i+1))) else ((out,i))
def cW (p:(List I)) (n:I):(List I) :=
  bif ((aP p)||(!(fN n))) then (F_skewbackref08_bad) else (ap (fun (s:List I×Nat)=>let out:List I:=s.1
  let i:Nat:=s.2
  (aX out)) (gF p n ((p.length+1)) ([]:List I) 0))
def fW (p:(List I)):Nat→(List I)→Nat→List I×Nat
  | 0,out,i=>(out,i)
  | k0+1,out,i=>bif decide (((i:Nat):Int)<(((p).length:Nat):Int)) then ((fW p k0 (out++[(E (Z.mul (Z.of ((i:Nat):Int)) (p.getD i I0).dec))]) (i+1))) else ((out,i))
def aI (p:(List I)):(List I) :=
  bif (aP p) then (F_skewbackref08_bad) else (ap (fun (s:List I×Nat)=>let out:List I:=s.1
  let i:Nat:=s.2
  (aX out)) (fW p ((p.length+1)) ([]:List I) 1))
def gZ (n:I) (k:Int):Nat→Nat→I→Nat×I
  | 0,i,mb3=>(i,mb3)
  | k0+1,i,mb3=>bif decide (((i:Nat):Int)<k) then ((gZ n k k0 (i+1) (E (Z.mul mb3.dec n.dec)))) else ((i,mb3))
def iN (n:I) (k:Int):I :=
  ap (fun (s:Nat×I)=>let i:Nat:=s.1
  let mb3:I:=s.2
  mb3) (gZ n k ((k.toNat+1)) 0 (E (Z.of 1)))
def j7 (a:Rt):Bool :=
  bif (!(fN a.n)||(!(fN a.d)||decide ((Z.signW a.d.dec).1≤0))) then (false) else ((decide ((E (Z.gcd a.n.dec a.d.dec))=(E (Z.of 1)))))
def hJ (p:(List I)) (x:Rt):Nat→Int→I→Int×I
  | 0,i,mb7=>(i,mb7)
  | k0+1,i,mb7=>bif decide (0≤i) then (let r12:I:=(E (Z.mul (p.getD ((i).toNat) I0).dec (iN x.d (((((p).length:Nat):Int) - 1) - i)).dec))
  (hJ p x k0 (i - 1) (E (Z.add (Z.mul mb7.dec x.n.dec) r12.dec)))) else ((i,mb7))
def eS (p:(List I)) (x:Rt):I :=
  bif ((aP p)||(!(j7 x))) then ((E Z.bad)) else (ap (fun (s:Int×I)=>let i:Int:=s.1
  let mb7:I:=s.2
  mb7) (hJ p x ((p.length+1)) ((((p).length:Nat):Int) - 1) I0))
def d7 (p:(List I)) (x:Rt):Sgd :=
  bif (eS p x).1.bad then ((⟨(wl 0),false⟩:Sgd)) else ((⟨(Z.signW (eS p x).dec),true⟩:Sgd))
def gM (l:(List I)):Nat→Nat→I→Nat×I
  | 0,i,mb2=>(i,mb2)
  | k0+1,i,mb2=>bif decide (((i:Nat):Int)<(((l).length:Nat):Int)) then ((gM l k0 (i+1) (E (Z.gcd mb2.dec (l.getD i I0).dec)))) else ((i,mb2))
def dM (l:(List I)):I :=
  ap (fun (s:Nat×I)=>let i:Nat:=s.1
  let mb2:I:=s.2
  mb2) (gM l ((l.length+1)) 0 I0)
def fH (p:(List I)):Nat→(List I)→Nat→List I×Nat
  | 0,out,i=>(out,i)
  | k0+1,out,i=>bif decide (((i:Nat):Int)<(((p).length:Nat):Int)) then ((fH p k0 (out++[(E (Z.quo (p.getD i I0).dec (dM p).dec))]) (i+1))) else ((out,i))
def aD (p:(List I)):(List I) :=
  bif (aP p) then (F_skewbackref08_bad) else (ap (fun (s:List I×Nat)=>let out:List I:=s.1
  let i:Nat:=s.2
  (aX out)) (fH p ((p.length+1)) ([]:List I) 0))
def iU (p:(List I)) (q:(List I)) (r:List I) (i:Int) (r57:I):Nat→Nat→(List I)→(Nat×List I) ⊕ ((List I))
  | 0,k,t=>.inl (k,t)
  | k1+1,k,t=>bif decide (((k:Nat):Int)<(((r).length:Nat):Int)) then (let r75:I:=(E (Z.sub (Z.mul (Z.abs (q.getD ((q).length - 1) I0).dec) (r.getD k I0).dec) (Z.mul r57.dec (eR q (((k:Nat):Int) - i)).dec)))
  bif ((t.set k r75).getD k I0).1.bad then (.inr (F_skewbackref08_bad)) else ((iU p q r i r57 k1 (k+1) (t.set k r75)))) else (.inl (k,t))
def iT (p:(List I)) (q:(List I)):Nat→(List I)→Int→(List I×Int) ⊕ ((List I))
  | 0,r,i=>.inl (r,i)
  | k0+1,r,i=>bif decide (0≤i) then (let r57:I:=(E (Z.mul (Z.of (Z.signW (q.getD ((q).length - 1) I0).dec).1) (r.getD ((i).toNat+((q).length - 1)) I0).dec))
  sm (fun (s:Nat×List I)=>let k:Nat:=s.1
  let t:List I:=s.2
  (iT p q k0 t (i - 1))) (fun r=>.inr r) (iU p q r i r57 ((r.length+1)) 0 ([]++r))) else (.inl (r,i))
def cM (p:(List I)) (q:(List I)):(List I) :=
  bif ((aP p)||((aP q)||((((q).length:Nat):Int)==0))) then (F_skewbackref08_bad) else (sm (fun (s:List I×Int)=>let r:List I:=s.1
  let i:Int:=s.2
  (aX r)) (fun r=>r) (iT p q ((p.length+1)) ([]++p) (((((p).length:Nat):Int) - 1) - ((((q).length:Nat):Int) - 1))))
def eU (p:(List I)) (q:(List I)):Nat→(List I)→(List I)→(List I×List I) ⊕ ((List I))
  | 0,a,b=>.inl (a,b)
  | k0+1,a,b=>bif decide (0<(((b).length:Nat):Int)) then (bif ((aP a)||(aP b)) then (.inr (F_skewbackref08_bad)) else ((eU p q k0 b (aD (cM a b))))) else (.inl (a,b))
def aK (p:(List I)) (q:(List I)):(List I) :=
  sm (fun (s:List I×List I)=>let a:List I:=s.1
  let b:List I:=s.2
  bif (((((a).length:Nat):Int)==0)||((aP a)||decide (0<(Z.signW (a.getD ((a).length - 1) I0).dec).1))) then (a) else ((cW a (E (Z.of (-1)))))) (fun r=>r) (eU p q ((gmP (aD q)+1)) (aD p) (aD q))
def fD (p:(List I)) (r:List I) (i:Int) (f:List I) (r72:I) (r73:I):Nat→Nat→(List I)→(Nat×List I) ⊕ ((List I))
  | 0,k,t=>.inl (k,t)
  | k1+1,k,t=>bif decide (((k:Nat):Int)<(((r).length:Nat):Int)) then (let r93:I:=(eR (aK p (aI p)) (((k:Nat):Int) - i))
  let r94:I:=(E (Z.sub (r.getD k I0).dec (Z.mul ((f.set ((i).toNat) r73).getD ((i).toNat) I0).dec r93.dec)))
  bif ((t.set k r94).getD k I0).1.bad then (.inr (F_skewbackref08_bad)) else ((fD p r i f r72 r73 k1 (k+1) (t.set k r94)))) else (.inl (k,t))
def iG (p:(List I)):Nat→(List I)→Int→(List I)→(List I×Int×List I) ⊕ ((List I))
  | 0,r,i,f=>.inl (r,i,f)
  | k0+1,r,i,f=>bif decide (0≤i) then (let r72:I:=(eR r (i+(((((aK p (aI p))).length:Nat):Int) - 1)))
  let r73:I:=(E (Z.quo r72.dec ((aK p (aI p)).getD (((aK p (aI p))).length - 1) I0).dec))
  sm (fun (s:Nat×List I)=>let k:Nat:=s.1
  let t:List I:=s.2
  (iG p k0 t (i - 1) (f.set ((i).toNat) r73))) (fun r=>.inr r) (fD p r i f r72 r73 ((r.length+1)) 0 ([]++r))) else (.inl (r,i,f))
def bH (p:(List I)):(List I) :=
  bif ((aP (aK p (aI p)))||(aP (aD p))) then (F_skewbackref08_bad) else (bif (((((aD p)).length:Nat):Int)==0) then (([]:List I)) else (sm (fun (s:List I×Int×List I)=>let r:List I:=s.1
  let i:Int:=s.2.1
  let f:List I:=s.2.2
  bif ((((((aX f)).length:Nat):Int)==0)||((aP (aX f))||decide (0<(Z.signW ((aX f).getD (((aX f)).length - 1) I0).dec).1))) then ((aX f)) else ((cW (aX f) (E (Z.of (-1)))))) (fun r=>r) (iG p (((aD p).length+2)) (aD p) ((((((aD p)).length:Nat):Int) - 1) - (((((aK p (aI p))).length:Nat):Int) - 1)) (List.replicate (((aD p)).length - (((aK p (aI p))).length - 1)) I0))))
def dV (p:(List I)):Nat→(List (List I))→(List I)→(List (List I)×List I) ⊕ ((List (List I))×Bool)
  | 0,out,next=>.inl (out,next)
  | k0+1,out,next=>bif decide (0<(((next).length:Nat):Int)) then (bif (aP next) then (.inr ((([]:List (List I)),false))) else ((dV p k0 (out++[next]) (aD (cW (cM ((out++[next]).getD (((out++[next])).length - 2) []) next) (E (Z.of (-1)))))))) else (.inl (out,next))
def bA (p:(List I)):(List (List I))×Bool :=
  sm (fun (s:List (List I)×List I)=>let out:List (List I):=s.1
  let next:List I:=s.2
  (out,(!(aP (bH p))))) (fun r=>r) (dV p ((gmP (aD (aI (bH p)))+1)) [(bH p)] (aD (aI (bH p))))
theorem mX (p:List I) (n:I):(cW p n).length≤25:=oN mR (vW _)
theorem rP (p:List I):(aI p).length≤25:=oN mR (vW _)
theorem dK (p:List I):(aD p).length≤25:=oN mR (vW _)
theorem cE_ (z:Z):(E z).1.bad=decide (z.o=none):=by
  show z.enc.bad=_
  unfold Z.enc
  cases h:z.o<;>simp
theorem D8 {L:Nat→List I→Nat→List I×Nat} {n:Nat} {g:Nat→I} (h1:∀ k out i,i<n→L (k+1) out i=L k (out++[g i]) (i+1)) (h2:∀ k out i,¬ i<n→L (k+1) out i=(out,i)) :
    ∀ (k:Nat) (out:List I) (i:Nat),n - i<k→(L k out i).1=out++(List.range' i (n - i)).map g
  | 0,out,i,h=>absurd h (Nat.not_lt_zero _)
  | k+1,out,i,h=>by
    by_cases hi:i<n
    · obtain ⟨m,hm⟩:∃ m,n - i=m+1:=⟨n - i - 1,by omega⟩
      rw [h1 _ _ _ hi,D8 h1 h2 k _ _ oo_,hm,FV,show n - (i+1)=m by omega]
      simp
    rw [h2 _ _ _ hi,show n - i=0 by omega];simp
theorem X5 (p:List I) (k:Int):eR p k=eV p k:=rfl
theorem aC_ (n:Nat):List.range n=List.range' 0 n:=List.range_eq_range'
theorem EH {p:List I} (n:I) (hp:p.length≤1000):cH p n=cW p n:=by
  unfold cH cW;rw [qS _ hp dd_,lN];have e:=D8 (L:=gF p n) (n:=p.length) (g:=fun k=>E (Z.mul (p.getD k I0).dec n.dec))
    (fun k out i h=>by (conv=>lhs;unfold gF);rw [decide_eq_true oo_];rfl) (fun k out i h=>by unfold gF;rw [decide_eq_false oo_];rfl) (p.length+1) [] 0 oo_
  rw [List.nil_append,Nat.sub_zero,← aC_] at e;simp only [ap,e,wG,List.length_nil,Nat.max_zero,List.all_nil,Bool.and_true]
  show (bif gdI n then _ else _)=(bif (_ || !gdI n) then _ else _)
  cases p.all gdI<;>cases gdI n<;>rfl
theorem CB {p:List I} (hp:p.length≤1000):aE p=aI p:=by
  unfold aE aI;rw [iY hp,lN,pY];have e:=D8 (L:=fW p) (n:=p.length) (g:=fun k:Nat=>E (Z.mul (Z.of (k:Int)) (p.getD k I0).dec))
    (fun k out i h=>by (conv=>lhs;unfold fW);rw [decide_eq_true oo_];rfl) (fun k out i h=>by unfold fW;rw [decide_eq_false oo_];rfl) (p.length+1) [] 1 oo_
  have e2:(List.range' 1 (p.length - 1)).map (fun k:Nat=>E (Z.mul (Z.of (k:Int)) (p.getD k I0).dec))=(List.range ((p.length:Int) - 1).toNat).map fun j=>gK (kU j p):=by
    rw [show ((p.length:Int) - 1).toNat=p.length - 1 by omega,List.range'_eq_map_range,List.map_map];refine List.map_congr_left fun k _=>?_
    show E (Z.mul (Z.of ((1+k:Nat):Int)) (p.getD (1+k) I0).dec)=E (Z.mul (Z.of ((k+1:Nat):Int)) (p.getD (k+1) I0).dec)
    rw [Nat.add_comm]
  rw [List.nil_append,e2] at e;simp only [ap,e,wG];rfl
theorem C7 (l0:List I):∀ (k i:Nat) (m:I),l0.length - i<k→(gM l0 k i m).2=jG l0 (l0.drop i) m
  | 0,i,m,h=>absurd h (Nat.not_lt_zero _)
  | k+1,i,m,h=>by
    unfold gM
    by_cases hi:i<l0.length
    · rw [decide_eq_true oo_,cond_true,yR l0 hi,C7 l0 k _ _ oo_];rfl
    rw [decide_eq_false oo_,cond_false,List.drop_of_length_le oo_];rfl
theorem RU (l:List I):dM l=dX l:=by
  unfold dM dX;simp only [ap];rw [C7 _ _ _ _ oo_,List.drop_zero]
theorem sZ {p:List I} (hp:p.length≤1000):aC p=aD p:=by
  unfold aC aD;rw [qS _ hp dd_,lN];have e:=D8 (L:=fH p) (n:=p.length) (g:=fun k=>E (Z.quo (p.getD k I0).dec (dX p).dec))
    (fun k out i h=>by (conv=>lhs;unfold fH);rw [decide_eq_true oo_,RU];rfl) (fun k out i h=>by unfold fH;rw [decide_eq_false oo_];rfl) (p.length+1) [] 0 oo_
  rw [List.nil_append,Nat.sub_zero,← aC_] at e;simp only [ap,e,wG,List.length_nil,Nat.max_zero,List.all_nil,Bool.and_true]
  cases p.all gdI<;>rfl
theorem LO (p q r:List I) (i:Int) (c:I):∀ (f k:Nat) (t:List I),t.length=r.length→(∀ j,k≤j→t.getD j I0=r.getD j I0)→iU p q r i c f k t=fC p q i r c f k t
  | 0,k,t,hl,h=>rfl
  | f+1,k,t,hl,h=>by
    unfold iU fC;rw [h k (Nat.le_refl k),X5];simp only;rw [LO p q r i c f (k+1) _ (by rw [List.length_set];exact hl) (fun j hj=>by rw [oF _ _ _ _ oo_];exact h j oo_)];rfl
theorem E9 (p q:List I):∀ (f:Nat) (i:Int) (r:List I),iT p q f r i=(match dL p q f i r with|.inl (i,r)=>.inl (r,i)|.inr x=>.inr x)
  | 0,i,r=>rfl
  | f+1,i,r=>by
    unfold iT dL
    cases decide (0≤i)
    · rfl
    simp only [cond_true,List.nil_append];rw [LO p q r i _ _ _ _ rfl (fun _ _=>rfl)]
    cases fC p q i r (E (Z.mul (Z.of (Z.signW (q.getD (q.length - 1) I0).dec).1) (r.getD (i.toNat+(q.length - 1)) I0).dec)) (r.length+1) 0 r with
    | inl s=>exact E9 p q f _ _
    | inr x=>rfl
theorem GG {p q:List I} (hp:p.length≤1000) (hq:q.length≤1000):bQ p q=cM p q:=by
  unfold bQ cM;rw [iY hp,iY hq,lN,lN,E9]
  congr 1
  cases dL p q (p.length+1) (((p.length:Nat):Int) - 1 - (((q.length:Nat):Int) - 1)) ([]++p) with
  | inl s =>
    show bT s.2=aX s.2
    rw [wG];unfold bT;rw [pY,Int.toNat_natCast]
    congr 1
    refine List.ext_getElem? fun k=>?_
    by_cases h:k<s.2.length
    · simp [h,gK,oI]
    simp [h]
  | inr x=>rfl
theorem uF (p q:List I):(cM p q).length≤25:=by
  unfold cM;refine oN mR (aN_ (fun s=>vW _) (fun r h=>?_));rw [E9] at h
  cases hl:dL p q (p.length+1) (((p.length:Nat):Int) - 1 - (((q.length:Nat):Int) - 1)) ([]++p) with
  | inl s=>rw [hl] at h;cases h
  | inr x=>rw [hl] at h;cases h;exact U2 p q _ _ _ _ hl
theorem V5 {a b:List I} (hl:a.length≤25∧b.length≤25) (h:(aP a||aP b)=false) (h0:decide (0<((b.length:Nat):Int))=true):gmP (aD (cM a b))<gmP b:=by
  rw [← GG oo_ oo_,← sZ (Nat.le_trans (lQ a b) dd_)];refine DH hl ?_ h0;rw [lN,lN] at h;rw [iY oo_,iY oo_];exact h
theorem LA (p q:List I):∀ (k:Nat) (a b y:List I),eU p q k a b = .inr y→y=badp
  | 0,a,b,y,h=>by cases h
  | k+1,a,b,y,h=>by
    unfold eU at h
    cases h1:decide (0<((b.length:Nat):Int))
    · rw [h1] at h;cases h
    rw [h1] at h
    cases h2:(aP a||aP b)
    · rw [h2] at h;exact LA p q k _ _ _ h
    rw [h2] at h;exact (Sum.inr.inj h).symm
theorem K0 (p q:List I):∀ (k:Nat) (a b:List I) (s:List I×List I),a.length≤25→b.length≤25→eU p q k a b = .inl s→s.1.length≤25
  | 0,a,b,s,ha,hb,h=>by cases h;exact ha
  | k+1,a,b,s,ha,hb,h=>by
    unfold eU at h
    cases h1:decide (0<((b.length:Nat):Int))
    · rw [h1] at h;cases h;exact ha
    rw [h1] at h
    cases h2:(aP a||aP b)
    · rw [h2] at h;exact K0 p q k _ _ _ hb (dK _) h
    rw [h2] at h;cases h
theorem nT (p q:List I):(aK p q).length≤25:=by
  unfold aK
  cases h:eU p q (gmP (aD q)+1) (aD p) (aD q) with
  | inl s=>exact oN (K0 p q _ _ _ s (dK _) (dK _) h) (mX _ _)
  | inr y=>rw [LA p q _ _ _ _ h];exact mR
theorem FR (p q:List I):∀ (k:Nat) (a b:List I),a.length≤25→b.length≤25→eU p q k a b=dD p q k a b
  | 0,a,b,_,_=>rfl
  | k+1,a,b,ha,hb=>by
    unfold eU dD;rw [iY oo_,iY oo_,lN,lN,← GG oo_ oo_,← sZ (Nat.le_trans (lQ _ _) dd_),FR p q k _ _ hb (cC _)];rfl
theorem LX {a:List I} (h:a.all gdI=true) (hl:a.length≤25):cW a (E (Z.of (-1)))=fG [] a (fun y z=>E (Z.sub y.dec z.dec)):=by
  rw [← EH _ oo_];unfold cH
  have hg:n7 (E (Z.of (-1)))=true:=by decide +kernel
  rw [hg,cond_true,qS _ oo_ dd_,qS _ dd_ oo_];simp only [List.length_nil,Nat.max_zero,Nat.zero_max,List.all_nil,Bool.and_true,Bool.true_and,h,cond_true]
  congr 1
  refine List.map_congr_left fun k hk=>?_;have hk':k<a.length:=List.mem_range.1 hk
  have hx:gdI (a.getD k I0)=true:=by
    rw [List.getD_eq_getElem?_getD,List.getElem?_eq_getElem hk'];exact List.all_eq_true.1 h _ (List.getElem_mem hk')
  have hv:=zK hx
  have hB:d6 (-(vI (a.getD k I0))):=by unfold d6;rw [Int.natAbs_neg];exact hv.2
  show E (Z.mul (a.getD k I0).dec (E (Z.of (-1))).dec)=E (Z.add (Z.of 0) (Z.neg (a.getD k I0).dec))
  rw [HS hx,cZ,o5 hv.2 dd_,NO hv.2,EJ B0 hB,Int.zero_add]
  congr 2;omega
theorem GF {p q:List I} (hp:p.length≤1000) (hq:q.length≤1000):aQ p q=aK p q:=by
  unfold aQ aK;rw [← sZ hp,← sZ hq,FR _ _ _ _ _ (cC _) (cC _)]
  cases hl:dD p q (gmP (aC q)+1) (aC p) (aC q) with
  | inr y=>rfl
  | inl s =>
    have hr:=NF p q _ _ _ s (pD p hp) (pD q hq) hl;simp only [sm];rw [lN]
    cases hs:s.1.all gdI
    · rw [vO hr hs];decide +kernel
    rw [LX hs (vP hr)];rfl
theorem V3 {p:List I} (hp:Rgt p) (h:(aP (aK p (aI p))||aP (aD p))=false) (h0:(((aD p).length:Nat):Int)≠0) :
    1≤(aK p (aI p)).length∧(aK p (aI p)).length≤(aD p).length:=by
  have hl:=vP hp;have e1:aD p=aC p:=(sZ oo_).symm
  have e2:aK p (aI p)=aQ p (aE p):=by
    rw [← CB oo_,← GF oo_ (Nat.le_trans (l4 _) dd_)]
  rw [e1,e2] at h ⊢;rw [e1] at h0;refine NC hp ?_ h0;rw [lN,lN] at h;rw [iY (Nat.le_trans (tI _ _) dd_),iY (Nat.le_trans (cC _) dd_)];exact h
theorem XN (l:List I):bT l=aX l:=by rw [yW,wG]
theorem QD (d:I) (k:Int):∀ (f i:Nat),k.toNat - i<f→i≤k.toNat→(gZ d k f i (pw d i)).2=pw d k.toNat
  | 0,i,h,_=>absurd h (Nat.not_lt_zero _)
  | f+1,i,h,hi=>by
    unfold gZ
    by_cases hc:(i:Int)<k
    · rw [decide_eq_true hc,cond_true]
      exact QD d k f (i+1) oo_ oo_
    rw [decide_eq_false hc,cond_false,show k.toNat=i by omega]
theorem XO (d:I) (k:Int):iN d k=pw d k.toNat:=QD d k _ 0 oo_ (Nat.zero_le _)
theorem JF (p:List I) (x:Rt):∀ (f:Nat) (i:Int) (m:I),i<(p.length:Int)→(gU p x f i m).2=(hJ p x f i m).2
  | 0,i,m,h=>rfl
  | f+1,i,m,h=>by
    unfold gU hJ
    by_cases hi:0≤i
    · rw [decide_eq_true hi]
      simp only [cond_true];rw [yZ _ _ (show p.length - 1 - i.toNat<max ((p.length:Nat):Int).toNat 1 by omega),XO,show (((p.length:Nat):Int) - 1 - i).toNat=p.length - 1 - i.toNat by omega];exact JF p x f (i - 1) _ oo_
    rw [decide_eq_false hi];rfl
theorem f3_ (x:Rt):j7 x=dS x:=by
  unfold j7 dS
  show (bif (!gdI x.n||(!gdI x.d||_)) then _ else _)=(gdI x.n&&(gdI x.d&&_))
  cases gdI x.n
  · rfl
  · cases gdI x.d
    · rfl
    by_cases h:(Z.signW x.d.dec).1≤0
    · rw [decide_eq_true h,decide_eq_false (show ¬ 0<(Z.signW x.d.dec).1 by omega)];rfl
    rw [decide_eq_false h,decide_eq_true (show 0<(Z.signW x.d.dec).1 by omega)];simp only [Bool.not_true,Bool.or_self,cond_false,Bool.true_and];rfl
theorem VP {p:List I} (x:Rt) (hp:p.length≤1000):(iK p x).1=eS p x:=by
  unfold iK eS;rw [iY hp,lN,TX,f3_]
  cases (!p.all gdI || !dS x)
  · simp only [cond_false,ap]
    exact JF p x _ _ _ oo_
  rfl
theorem gD_ {z:Z} (h:(E z).1.bad=false):gdI (E z)=true:=by
  rw [cE_] at h;have h':z.o≠none:=of_decide_eq_false h
  cases hz:z.o with
  | none=>exact absurd hz h'
  | some v=>rw [Z.eq_of hz];exact PS (z.h v hz)
theorem d4_ {g r:List I} {i:Nat} {c:Z} (hc:c.o=none) (j:Nat):(frE g r i c j).1.bad=true:=by
  unfold frE;rw [cE_,Z.mul,jJ (.inl hc),Z.sub,Z.neg,qV rfl,Z.add,jJ (.inr rfl)];rfl
theorem dJ_ {g:List I} {i j:Nat} (h:j<i∨i+g.length≤j):eV g ((j:Int) - (i:Int))=I0:=by
  unfold eV
  by_cases h1:j<i
  · rw [decide_eq_true (show (j:Int) - (i:Int)<0 by omega)];rfl
  rw [decide_eq_false (show ¬ (j:Int) - (i:Int)<0 by omega),decide_eq_true (show ((g.length:Nat):Int)≤(j:Int) - (i:Int) by omega)];rfl
theorem ZB {g r:List I} {i:Nat} {c:Z} (hc:c.o≠none) {j:Nat} (hr:gdI (r.getD j I0)=true) (h:j<i∨i+g.length≤j):frE g r i c j=r.getD j I0:=by
  unfold frE;rw [dJ_ h]
  cases hz:c.o with
  | none=>exact absurd hz hc
  | some v =>
    have hv:d6 v:=c.h v hz
    have h0:I0.dec=Z.of 0:=by decide +kernel
    obtain ⟨e,hB⟩:=zK hr;rw [Z.eq_of hz,h0,o5 hv B0,Int.mul_zero,HS hr,Z.sub,NO B0,Int.neg_zero,EJ hB B0,Int.add_zero];exact e.symm
theorem TZ (p:List I) (i:Int) (r f:List I) (y x:I) {g:List I} (hg:aK p (aI p)=g) {n:Nat} (hi:i=(n:Int)):∀ (fu k:Nat) (t:List I),r.length - k<fu→t.length=r.length →
    (∃ t' k',fD p r i f y x fu k t = .inl (k',t')∧t'.length=r.length∧(∀ j,t'.getD j I0=if k≤j∧j<r.length then frE g r n ((f.set i.toNat x).getD i.toNat I0).dec j else t.getD j I0)∧∀ j,k≤j→j<r.length→(frE g r n ((f.set i.toNat x).getD i.toNat I0).dec j).1.bad=false)
    ∨ (fD p r i f y x fu k t = .inr badp∧∃ j,k≤j∧j<r.length∧(frE g r n ((f.set i.toNat x).getD i.toNat I0).dec j).1.bad=true)
  | 0,k,t,h,_=>absurd h (Nat.not_lt_zero _)
  | fu+1,k,t,h,hl=>by
    unfold fD;rw [hg]
    have hn:i.toNat=n:=by omega
    generalize hc:((f.set i.toNat x).getD i.toNat I0).dec=c at *
    by_cases h1:k<r.length
    · rw [decide_eq_true oo_,cond_true]
      have hv:E (Z.sub (r.getD k I0).dec (Z.mul c (eR g (((k:Nat):Int) - i)).dec))=frE g r n c k:=by
        unfold frE;rw [X5,hi]
      simp only;rw [hv,kQ _ _ _ oo_]
      cases hb:(frE g r n c k).1.bad
      · rw [cond_false]
        rcases TZ p i r f y x hg hi fu (k+1) (t.set k (frE g r n c k)) oo_ (by rw [List.length_set];exact hl) with ⟨t',k',e1,e2,e3,e4⟩|⟨e1,j,j1,j2,j3⟩
        · rw [hc] at e3 e4
          refine .inl ⟨t',k',e1,e2,fun j=>?_,fun j j1 j2=>?_⟩
          · rw [e3 j]
            by_cases hj:j=k
            · subst hj
              rw [if_neg oo_,if_pos oo_,kQ _ _ _ oo_]
            rw [oF _ _ _ _ hj]
            by_cases hj2:k+1≤j∧j<r.length
            · rw [if_pos hj2,if_pos oo_]
            rw [if_neg hj2,if_neg oo_]
          by_cases hj:j=k
          · subst hj;exact hb
          exact e4 j oo_ j2
        rw [hc] at j3;exact .inr ⟨e1,j,by omega,j2,j3⟩
      exact .inr ⟨rfl,k,Nat.le_refl _,by omega,hb⟩
    rw [decide_eq_false oo_,cond_false];exact .inl ⟨t,k,rfl,hl,fun j=>by rw [if_neg oo_],fun j j1 j2=>absurd j2 oo_⟩
theorem OY {r:List I} (h:r.all gdI=true) {j:Nat} (hj:j<r.length):gdI (r.getD j I0)=true:=by
  rw [List.getD_eq_getElem?_getD,List.getElem?_eq_getElem hj];exact List.all_eq_true.1 h _ (List.getElem_mem hj)
theorem ZF {a b:List I} (hl:a.length=b.length) (h:∀ j,j<a.length→a.getD j I0=b.getD j I0):a=b:=by
  refine List.ext_getElem hl fun j h1 h2=>?_;have:=h j h1
  rwa [List.getD_eq_getElem?_getD,List.getElem?_eq_getElem h1,List.getD_eq_getElem?_getD,List.getElem?_eq_getElem h2] at this
theorem dH_ {r:List I} (h:∀ j,j<r.length→gdI (r.getD j I0)=true):r.all gdI=true:=by
  rw [List.all_eq_true];intro x hx;obtain ⟨j,hj,rfl⟩:=List.getElem_of_mem hx;have:=h j hj
  rwa [List.getD_eq_getElem?_getD,List.getElem?_eq_getElem hj] at this
theorem R5 (p:List I) (i:Int) (r f:List I) (y x:I) {g:List I} (hg:aQ p (aE p)=g) (hg':aK p (aI p)=g) {n:Nat} (hi:i=(n:Int)) (hr:r.all gdI=true) (hm:n+g.length≤r.length) (h1:1≤g.length) :
    (∃ t' k' k'',gQ p i r f x (g.length+1) 0 r = .inl (k',t')∧fD p r i f y x (r.length+1) 0 ([]++r) = .inl (k'',t')∧t'.length=r.length∧t'.all gdI=true)
    ∨ (gQ p i r f x (g.length+1) 0 r = .inr badp∧fD p r i f y x (r.length+1) 0 ([]++r) = .inr badp):=by
  have hP:=GP p i r f x hg hi (g.length+1) 0 r oo_ (Nat.zero_le _) rfl hm (fun _ _=>rfl);have hR:=TZ p i r f y x hg' hi (r.length+1) 0 ([]++r) oo_ rfl;rw [List.nil_append] at hR ⊢;generalize hc:((f.set i.toNat x).getD i.toNat I0).dec=c at *;rcases hP with ⟨t',k',e1,e2,e3,e4⟩|⟨e1,j,j1,j2,j3⟩
  · have hcn:c.o≠none:=fun h=>by
      have:=e4 n oo_ oo_;rw [d4_ h] at this;cases this
    rcases hR with ⟨t2,k2,d1,d2,d3,d4⟩|⟨d1,j,j1,j2,j3⟩
    · have ht:t'=t2:=ZF (by rw [e2,d2]) fun j hj=>by
        rw [e2] at hj;rw [d3 j,if_pos ⟨Nat.zero_le _,hj⟩,e3 j]
        by_cases h:n+0≤j∧j<n+g.length
        · rw [if_pos h]
        rw [if_neg h,ZB hcn (OY hr hj) oo_]
      refine .inl ⟨t',k',k2,e1,by rw [ht];exact d1,e2,dH_ fun j hj=>?_⟩;rw [e2] at hj;rw [ht,d3 j,if_pos ⟨Nat.zero_le _,hj⟩];exact gD_ (d4 j (Nat.zero_le _) hj)
    exfalso
    by_cases h:n+0≤j∧j<n+g.length
    · rw [e4 j h.1 h.2] at j3;cases j3
    have hgd:=OY hr j2;rw [ZB hcn hgd oo_] at j3;unfold gdI at hgd;rw [j3] at hgd;cases hgd
  rcases hR with ⟨t2,k2,d1,d2,d3,d4⟩|⟨d1,_⟩
  · rw [d4 j (Nat.zero_le _) oo_] at j3;cases j3
  exact .inr ⟨e1,d1⟩
theorem HR (p:List I) {g:List I} (hg:aQ p (aE p)=g) (hg':aK p (aI p)=g) (h1:1≤g.length) {m:Nat}:∀ (fu:Nat) (i:Int) (r f:List I),r.all gdI=true→r.length=m→i+g.length≤m →
    iG p fu r i f=(match eY p fu i r f with|.inl (i,r,f)=>.inl (r,i,f)|.inr x=>.inr x)
  | 0,i,r,f,_,_,_=>rfl
  | fu+1,i,r,f,hr,hl,hm=>by
    unfold iG eY
    by_cases h0:0≤i
    · rw [decide_eq_true h0]
      simp only [cond_true];obtain ⟨n,rfl⟩:=Int.eq_ofNat_of_zero_le h0
      have hat:eR r ((n:Int)+((((aK p (aI p)).length:Nat):Int) - 1))=r.getD ((n:Int).toNat+((aQ p (aE p)).length - 1)) I0:=by
        rw [hg,hg',X5,show (n:Int)+(((g.length:Nat):Int) - 1)=((n+(g.length - 1):Nat):Int) by omega,EK,Int.toNat_natCast]
      rw [hat,hg,hg'];generalize hx:E (Z.quo (r.getD ((n:Int).toNat+(g.length - 1)) I0).dec (g.getD (g.length - 1) I0).dec)=x;rcases R5 p (n:Int) r f (r.getD ((n:Int).toNat+(g.length - 1)) I0) x hg hg' rfl hr oo_ h1 with ⟨t',k',k'',e1,e2,e3,e4⟩|⟨e1,e2⟩
      · rw [e1,e2]
        exact HR p hg hg' h1 fu _ _ _ e4 (by rw [e3,hl]) oo_
      rw [e1,e2];rfl
    rw [decide_eq_false h0];rfl
theorem OT {p:List I} (hp:Rgt p):bD p=bH p:=by
  have hl:=vP hp;have e1:aD p=aC p:=(sZ oo_).symm
  have e2:aK p (aI p)=aQ p (aE p):=by
    rw [← CB oo_,← GF oo_ (Nat.le_trans (l4 _) dd_)]
  unfold bD bH;rw [e1,e2]
  have hb:(aP (aQ p (aE p))||aP (aC p))=(aU (aQ p (aE p))||aU (aC p)):=by
    rw [lN,lN,iY (Nat.le_trans (tI _ _) dd_),iY (Nat.le_trans (cC _) dd_)]
  rw [hb]
  cases h:(aU (aQ p (aE p))||aU (aC p))
  · rw [cond_false,cond_false]
    by_cases h0:(((aC p).length:Nat):Int)=0
    · have:((((aC p).length:Nat):Int)==0)=true:=beq_iff_eq.2 h0
      rw [this];rfl
    have h0':((((aC p).length:Nat):Int)==0)=false:=beq_eq_false_iff_ne.2 h0;rw [h0',cond_false,cond_false];obtain ⟨g1,g2⟩:=NC hp h h0
    have hpg:(aC p).all gdI=true:=by
      have:=(Bool.or_eq_false_iff.1 h).2;rw [iY (Nat.le_trans (cC _) dd_)] at this
      simpa using this
    rw [List.length_replicate,show ((((aC p).length - ((aQ p (aE p)).length - 1):Nat)):Int) - 1=(((aC p).length:Nat):Int) - 1 - ((((aQ p (aE p)).length:Nat):Int) - 1) by omega];rw [HR p (g:=aQ p (aE p)) rfl e2 g1 (m:=(aC p).length) _ _ _ _ hpg rfl oo_]
    cases eY p ((aC p).length+2) ((((aC p).length:Nat):Int) - 1 - ((((aQ p (aE p)).length:Nat):Int) - 1)) (aC p) (List.replicate ((aC p).length - ((aQ p (aE p)).length - 1)) I0) with
    | inr x=>rfl
    | inl s =>
      simp only [sm];rw [← XN,lN];have hmk:bT s.2.2=mkP s.2.2:=yW _;rcases BN s.2.2 with hk|hk
      · rw [hmk,hk];decide +kernel
      rw [hmk,hk.1,← LX hk.1 hk.2.2];rfl
  rw [cond_true,cond_true];rfl
theorem tS (p:List I) (hp:Rgt p):(bH p).length≤25:=by rw [← OT hp];exact rK p
theorem I1 {out:List (List I)} {next a:List I} (ha:a.length≤25) (h:(out.length+gmP next≤60∧1≤out.length)∧next.length≤25∧AL out) (h0:decide (0<((next.length:Nat):Int))=true) (hb:aP next=false) :
    gmP (aD (cW (cM a next) (E (Z.of (-1)))))<gmP next:=by
  have hn:=h.2.1
  have hr:=lQ a next
  have hs:=oU (bQ a next) (E (Z.of (-1)));rw [← GG oo_ oo_,← EH _ oo_,← sZ oo_];rw [lN] at hb
  have hg:next.all gdI=true:=by simpa using hb
  have h0:=of_decide_eq_true h0;unfold gmP;rw [hg,cond_true]
  cases hp:(aC (cH (bQ a next) (E (Z.of (-1))))).all gdI
  · rw [cond_false];omega
  obtain ⟨h1,h2⟩:=GZ hn hp;rw [cond_true];omega
theorem W7 {out:List (List I)} {next:List I} {k:Nat} (h:(out.length+gmP next≤60∧1≤out.length)∧next.length≤25∧AL out) (h0:decide (0<((next.length:Nat):Int))=true) (hb:aP next=false) :
    ((out++[next]).length+gmP (aD (cW (cM ((out++[next]).getD k []) next) (E (Z.of (-1)))))≤60∧1≤(out++[next]).length)∧(aD (cW (cM ((out++[next]).getD k []) next) (E (Z.of (-1))))).length≤25∧AL (out++[next]):=by
  have h1:=I1 (a:=(out++[next]).getD k []) (vJ (vB h.2.2 h.2.1)) h h0 hb
  have h2:(out++[next]).length=out.length+1:=by simp
  exact ⟨⟨by omega,by omega⟩,dK _,vB h.2.2 h.2.1⟩
theorem pR (p q:List I) (hp:p.length≤1000) (hq:q.length≤1000):Rgt (aK p q):=by
  rw [← GF hp hq];exact yY p q hp hq
theorem I3 (p:List I):∀ (k:Nat) (out:List (List I)) (next:List I),AL out→next.length≤25→(∀ s,dV p k out next = .inl s→AL s.1)∧∀ r,dV p k out next = .inr r→r.1=[]
  | 0,out,next,ho,hn=>⟨fun s h=>(by cases h;exact ho),fun r h=>(by cases h)⟩
  | k+1,out,next,ho,hn=>by
    unfold dV
    cases h0:decide (0<((next.length:Nat):Int))
    · exact ⟨fun s h=>(by cases h;exact ho),fun r h=>(by cases h)⟩
    rw [cond_true]
    cases hb:aP next
    · rw [cond_false];exact I3 p k _ _ (vB ho hn) (dK _)
    exact ⟨fun s h=>(by cases h),fun r h=>(by cases h;rfl)⟩
theorem tN (p:List I) (hp:Rgt p):AL (bA p).1:=by
  unfold bA;have h0:=I3 p (gmP (aD (aI (bH p)))+1) [bH p] (aD (aI (bH p))) (EE (tS p hp)) (dK _)
  cases h1:dV p (gmP (aD (aI (bH p)))+1) [bH p] (aD (aI (bH p))) with
  | inr r =>
    show AL r.1
    rw [h0.2 r h1];exact ED
  | inl s=>exact h0.1 s h1
def gO (c:(List (List I))) (x:Rt):Nat→W→W→Nat→(W×W×Nat) ⊕ (W×Bool)
  | 0,n,last,k=>.inl (n,last,k)
  | k0+1,n,last,k=>bif decide (((k:Nat):Int)<(((c).length:Nat):Int)) then (let r34:Sgd:=(d7 (c.getD k []) x)
  bif r34.ok then (let r43:W:=(bif (r34.s.1 != 0) then (bif (last.1 != 0) then (bif (r34.s.1 != last.1) then (W.add n (wl 1)) else n) else n) else n)
  (gO c x k0 r43 (bif (r34.s.1 != 0) then r34.s else last) (k+1))) else (.inr (((wl 0),false)))) else (.inl (n,last,k))
def dE (c:(List (List I))) (x:Rt):W×Bool :=
  sm (fun (s:W×W×Nat)=>let n:W:=s.1
  let last:W:=s.2.1
  let k:Nat:=s.2.2
  (n,true)) (fun r=>r) (gO c x ((c.length+1)) (wl 0) (wl 0) 0)
def bU (c:(List (List I))) (a:Rt) (b:Rt):W×Bool :=
  ((W.sub ((dE c a).1) ((dE c b).1)),((dE c a).2&&(dE c b).2))
def iO (p:(List I)) (a:Rt) (b:Rt):Bool :=
  ((aP p)||(a.n.1.bad||(b.n.1.bad||decide (0<(i9 a b).1))))
def aY (p:(List I)) (a:Rt) (b:Rt):Num9 :=
  bif ((iO p a b)||((((p).length:Nat):Int)==0)) then ((⟨(wl 0),(wl 1)⟩:Num9)) else (bif (!((bA p).2)||(!(bU ((bA p).1) a b).2)) then ((⟨(wl 0),(wl 30)⟩:Num9)) else ((⟨(bU ((bA p).1) a b).1,(wl 0)⟩:Num9)))
def dB (c:(List (List I))) (x:Iv):Iv×Bool :=
  bif (((bU c x.lo (bB x.lo x.hi)).1).1==1) then (((⟨x.lo,(bB x.lo x.hi)⟩:Iv),((bU c x.lo (bB x.lo x.hi)).2))) else (((⟨(bB x.lo x.hi),x.hi⟩:Iv),((bU c x.lo (bB x.lo x.hi)).2)))
open QP (V)
theorem c4_ {out:List (List I)} {next:List I} (ho:AL out) (hn:next.length≤25):aD (cW (cM ((out++[next]).getD (((out++[next])).length - 2) []) next) (E (Z.of (-1))))=nxt out next:=by
  have ha:=vJ (k:=(out++[next]).length - 2) (vB ho hn);unfold nxt;generalize (out++[next]).getD (((out++[next])).length - 2) []=a at *
  have hr:=lQ a next
  have hs:=oU (bQ a next) (E (Z.of (-1)));rw [sZ oo_,EH _ oo_,GG oo_ oo_]
theorem er_ {out:List (List I)} {next:List I} (ho:AL out) (hn:next.length≤25) (h1:1≤out.length) (hl:out.length+gmP next≤60) (h0:0<next.length) (hg:next.all gdI=true):gmP (nxt out next)<gmP next:=by
  rw [← c4_ ho hn];exact I1 (vJ (vB ho hn)) ⟨⟨hl,h1⟩,hn,ho⟩ (decide_eq_true oo_) (by rw [lN,hg];rfl)
theorem b3_ (out:List (List I)) (next:List I):Rgt (nxt out next):=pD _ (l25 (oU _ _))
theorem LR (p:List I) (k:Nat) (out:List (List I)) (next:List I) (hb:next=badp):dV p (k+1) out next = .inr ([],false):=by
  subst hb;unfold dV;rw [show decide (0<((badp.length:Nat):Int))=true from by kernel_rfl,cond_true,show aP badp=true from by kernel_rfl];rfl
theorem B7 (p:List I):∀ (k:Nat) (out:List (List I)) (next:List I),AL out→Rgt next→next.all gdI=true→1≤out.length→out.length+gmP next≤60→gmP next<k→(∀ x∈out,aU x=false) →
    cI p k out next=dV p k out next∧∀ s,cI p k out next = .inl s→∀ x∈s.1,aU x=false
  | 0,out,next,_,_,_,_,_,hk,_=>absurd hk (Nat.not_lt_zero _)
  | k+1,out,next,ho,hr,hg,h1,hl,hk,ha=>by
    have hn:=vP hr;unfold cI dV
    cases h0:decide (0<((next.length:Nat):Int))
    · exact ⟨rfl,fun s h=>by cases h;exact ha⟩
    have h0':0<next.length:=by have:=of_decide_eq_true h0;omega
    rw [cond_true,cond_true,show aP next=false by rw [lN,hg];rfl,cond_false,vT,c4_ ho hn]
    show (bif aU (nxt out next) then .inr ([],false) else cI p k (out++[next]) (nxt out next))=_∧_
    have hgm:=er_ ho hn h1 hl h0' hg
    have hR:=b3_ out next
    have hlen:(out++[next]).length=out.length+1:=by simp
    have ha':∀ x∈out++[next],aU x=false:=fun x hx=>by
      rcases List.mem_append.1 hx with hx|hx
      · exact ha x hx
      rw [List.mem_singleton.1 hx,iY (l25 hn),hg];rfl
    cases hb:(nxt out next).all gdI
    · have e:=vO hR hb
      obtain ⟨k,rfl⟩:∃ j,k=j+1:=⟨k - 1,by omega⟩;rw [LR p k _ _ e,show aU (nxt out next)=true by rw [e];kernel_rfl];refine ⟨rfl,fun s h=>?_⟩;have h:(bif aU (nxt out next) then .inr ([],false) else cI p (k+1) (out++[next]) (nxt out next):(List (List I)×List I) ⊕ ((List (List I))×Bool)) = .inl s:=h;rw [show aU (nxt out next)=true by rw [e];kernel_rfl,cond_true] at h;cases h
    have hnb:aU (nxt out next)=false:=by rw [iY (l25 (vP hR)),hb];rfl
    obtain ⟨i1,i2⟩:=B7 p k (out++[next]) (nxt out next) (vB ho hn) hR hb oo_ oo_ oo_ ha';rw [hnb,cond_false];refine ⟨i1,fun s h=>?_⟩;have h:(bif aU (nxt out next) then .inr ([],false) else cI p k (out++[next]) (nxt out next):(List (List I)×List I) ⊕ ((List (List I))×Bool)) = .inl s:=h;rw [hnb,cond_false] at h;exact i2 s h
theorem XM (p:List I) (hp:p.length≤1000):aE p=aI p:=by exact CB hp
theorem yD {p:List I} (hp:Rgt p):aH p=bA p:=by
  unfold aH bA;have hfl:=rK p;have hdl:=l4 (bD p);rw [← OT hp,← XM _ (l25 hfl),← sZ (l25 hdl)];have hR:Rgt (aC (aE (bD p))):=pD _ (l25 hdl);have hgm:=R7 (cC (aE (bD p)))
  cases hb:(aC (aE (bD p))).all gdI
  · have e:=vO hR hb
    rw [VU p _ _ e,LR p _ _ _ e];rfl
  have hfb:aU (bD p)=false:=by
    cases hf:aU (bD p)
    · rfl
    exfalso
    rw [iY (l25 hfl)] at hf
    have h1:aE (bD p)=badp:=by
      unfold aE;rw [iY (l25 hfl),hf,cond_true,C3]
    rw [h1,qX,e7] at hb;cases hb
  obtain ⟨i1,i2⟩:=B7 p (gmP (aC (aE (bD p)))+1) [bD p] _ (EE hfl) hR hb (Nat.le_refl 1) (by simp only [List.length_singleton];omega) (Nat.lt_succ_self _) (fun x hx=>by rw [List.mem_singleton.1 hx];exact hfb);rw [← i1]
  cases hl:cI p (gmP (aC (aE (bD p)))+1) [bD p] (aC (aE (bD p))) with
  | inr r=>rfl
  | inl s =>
    show sm (fun (_:Unit)=>(s.1,true)) (fun r=>r) (dP p s.1 s.2 s.1)=(s.1,!aP (bD p))
    rw [H5 p s.1 s.2 s.1 (i2 s hl)];rw [iY (l25 hfl)] at hfb;rw [lN,hfb];rfl
theorem OU {p:List I} (l1:p.length≤1000) (x:Rt):aL p x=((d7 p x).s,(d7 p x).ok):=by
  unfold aL d7;rw [VP x l1]
  cases hb:(eS p x).1.bad
  · rfl
  have h0:Z.signW (eS p x).dec=wl 0:=W.ext (by
    show (eS p x).dec.sign=0
    have hn:(eS p x).dec.o=none:=by rw [I.dec,tC (by unfold R.good;rw [hb];rfl)];rfl
    unfold Z.sign;rw [hn])
  rw [h0];rfl
theorem dY_ (l:List (List I)) {i:Nat} (h:i<l.length):l.drop i=l.getD i []::l.drop (i+1):=by
  rw [List.drop_eq_getElem_cons h,List.getD_eq_getElem?_getD,List.getElem?_eq_getElem h];rfl
theorem HE (c:List (List I)) (x:Rt) (hc:AL c):∀ (k i:Nat) (n last:W),c.length - i<k→i≤c.length →
    sm (fun (s:W×W×Nat)=>(s.1,true)) (fun r=>r) (gO c x k n last i)=sm (fun (s:W×W)=>(s.2,true)) (fun r=>r) (d9 c x (c.drop i) last n)
  | 0,i,n,last,h,_=>absurd h (Nat.not_lt_zero _)
  | k+1,i,n,last,h,hi=>by
    unfold gO
    by_cases hlt:i<c.length
    · rw [decide_eq_true (show ((i:Nat):Int)<((c.length:Nat):Int) by omega),cond_true,dY_ c hlt]
      unfold d9;have hl:=vJ (k:=i) hc;generalize c.getD i []=f at *;have hr:=G7 f x;rw [OU (l25 hl) x] at hr ⊢
      dsimp only at hr ⊢
      generalize d7 f x=S at *;obtain ⟨s,ok⟩:=S
      dsimp only at hr ⊢
      cases ok
      · rfl
      rw [cond_true,cond_true]
      by_cases z0:s.1=0
      · rw [show (s.1 != 0)=false by simp [z0]]
        simp only [cond_false];exact HE c x hc k (i+1) _ _ oo_ oo_
      rw [show (s.1 != 0)=true by simp [z0],show (s.1==(-2))=false by simp;omega];simp only [cond_true,cond_false]
      cases z1:(last.1 != 0)
      · simp only [cond_false,Bool.false_and]
        exact HE c x hc k (i+1) _ _ oo_ oo_
      · cases z2:(s.1 != last.1)
        · simp only [cond_false,cond_true,Bool.true_and]
          exact HE c x hc k (i+1) _ _ oo_ oo_
        simp only [cond_false,cond_true,Bool.true_and];exact HE c x hc k (i+1) _ _ oo_ oo_
    rw [decide_eq_false (show ¬ ((i:Nat):Int)<((c.length:Nat):Int) by omega),cond_false,List.drop_eq_nil_of_le oo_];rfl
theorem HC {c:List (List I)} (hc:AL c) (x:Rt):cY c x=dE c x:=(HE c x hc (c.length+1) 0 (wl 0) (wl 0) oo_ (Nat.zero_le _)).symm
theorem u1 {c:List (List I)} (hc:AL c) (a b:Rt):aG c a b=bU c a b:=by
  unfold aG bU;rw [HC hc,HC hc]
theorem yV (p:List I) (hp:p.length≤1000) (a b:Rt):iO p a b=(aU p || !iM a b):=by
  unfold iO iM;rw [iY hp,lN,be_];generalize (i9 a b).1=t
  cases (p.all gdI)<;>cases a.n.1.bad<;>cases b.n.1.bad<;>simp
  by_cases h:t≤0
  · rw [decide_eq_true h,decide_eq_false oo_];rfl
  rw [decide_eq_false h,decide_eq_true oo_];rfl
theorem AA {p:List I} (hp:Rgt p) (a b:Rt):bG p a b=((aY p a b).n,(aY p a b).e):=by
  have hA:=iI p;unfold bG aY;rw [yV p (tO hp),← yD hp,← u1 hA];clear hA;generalize aG (aH p).1 a b=C;generalize (aH p).2=ok;generalize iM a b=g;generalize aU p=ib;generalize ((((p).length:Nat):Int)==0)=z;obtain ⟨C1,C2⟩:=C
  cases ib<;>cases z<;>cases g<;>cases ok<;>cases C2<;>rfl
def eM (p:(List I)) (a:Rt) (b:Rt):Bool :=
  ((eA p 6 64)&&((l8 a)&&((l8 b)&&decide ((W.add (W.add (W.add (Z.bitsW a.n.dec) (Z.bitsW a.d.dec)) (Z.bitsW b.n.dec)) (Z.bitsW b.d.dec)).1≤120))))
def cQ (e:W) (f:W) (small:Bool):Bool×Bool :=
  (((e.1==30)||(f.1==30)),(!((e.1==30)||(f.1==30))||(!small)))
theorem AE {p:List I} {a b:Rt} (h:eM p a b=true):Rgt p∧p.length≤25:=by
  unfold eM at h;simp only [Bool.and_eq_true] at h;obtain ⟨h1,h2,_⟩:=TW h.1;exact ⟨h1,h2⟩
theorem KV {p:List I} {a b:Rt} (h:(!eM p a b)=false):Rgt p∧p.length≤25:=AE (a:=a) (b:=b) (by simpa using h)
end Go.Num
