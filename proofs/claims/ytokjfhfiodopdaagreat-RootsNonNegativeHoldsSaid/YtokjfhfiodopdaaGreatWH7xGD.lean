/- Lemmas: what they ask stands in their statements. -/
import Derived.Test.YtokjfhfiodopdaaGreatWAy
import Derived.Test.YtokjfhfiodopdaaGreatWLb
set_option linter.unusedSimpArgs false
set_option linter.unusedVariables false
set_option maxHeartbeats 8000000
set_option maxRecDepth 20000
namespace Go.Kn
open Go.RowKit
section
variable {P:Program} {w0:World} {X:List Nat} {N:Nm} {S:Fr} {M:List Blk} {d:Option Tmp} {ty:TypeId} {ps:String} {af:Array Edge} {gd:Option (Nat×Bool)}
end
section
variable {P:Program} {w0:World} {X:List Nat} {N:Nm} {S:Fr} {M:List Blk} {d:Option Tmp} {ty:TypeId} {ps:String} {af:Array Edge} {gd:Option (Nat×Bool)}
end
section
variable {P:Program} {w0:World} {X:List Nat} {N:Nm} {S:Fr} {M:List Blk} {Q:nI}
variable {d:Option Tmp} {ty:TypeId} {ps:String} {af:Array Edge} {gd:Option (Nat×Bool)}
end
section
variable {P:Program} {w0:World} {X:List Nat} {N:Nm} {Q:nI} {S:Fr} {M:List Blk} {c:Code}
end
open Go.RowKit
section rows
variable {α:Type} {e:El α}
end rows
section
variable {α:Type} {e:El α} {P:Program} {w0:World} {X:List Nat} {N:Nm} {S:Fr} {M M':List Blk} {d:Option Tmp} {ty:TypeId} {ps:String} {af:Array Edge} {gd:Option (Nat×Bool)} {v:Value} {l:List α}
end
open Go.RowKit
section
variable {P:Program} {w0:World} {X:List Nat} {N:Nm} {S:Fr} {M:List Blk} {d:Option Tmp} {ty:TypeId} {ps:String} {af:Array Edge} {gd:Option (Nat×Bool)}
end
open Go.RowKit
section
variable {α:Type} {e:El α} {P:Program} {w0:World} {X:List Nat} {N:Nm} {S:Fr} {M:List Blk} {d:Option Tmp} {ty:TypeId} {ps:String} {af:Array Edge} {gd:Option (Nat×Bool)} {v:Value} {l:List α}
end
section
variable {α:Type} {e:El α} {w0:World} {X:List Nat} {M:List Blk} {v:Value} {l:List α}
end
open Go.RowKit
section
variable {P:Program} {w0:World} {X:List Nat} {S:Fr} {M:List Blk} {d:Option Tmp} {ty:TypeId} {p:String} {af:Array Edge} {gd:Option (Nat×Bool)}
end
end Go.Kn
namespace Go.Num
open Go Go.Kn
end Go.Num
namespace Go.Kn
open Go
section
variable {P:Program} {w0:World} {X:List Nat} {N:Nm} {Q:nI} {S:Fr} {M:List Blk} {c:Code}
end
end Go.Kn
namespace Go.Num
open Go Go.Kn
open Go
end Go.Num
namespace Go.Kn
open Go.RowKit
section
variable {P:Program} {w0:World} {X:List Nat} {N:Nm} {S:Fr} {M:List Blk}
variable {ops:List Oper} {Q:Fr→List Blk→Prop} {o:Oper} {l:List Oper} {v v':Value} {d:Tmp} {b c:Bool} {nw:List Nat} {MD:List Blk} {i:Nat} {ws:List Nat} {r:Plan}
section
variable {g:FuncId} {xs:List Operand} {tys:Array TypeId} {args:List Value} {ty:TypeId} {ps:String} {af:Array Edge} {gd:Option (Nat×Bool)}
end
end
section
variable {P:Program} {w0:World} {X:List Nat} {N:Nm} {S:Fr} {M:List Blk} {d:Option Tmp} {ty:TypeId} {ps:String} {af:Array Edge} {gd:Option (Nat×Bool)}
end
section
variable {P:Program} {w0:World} {X:List Nat} {N:Nm} {S:Fr} {M:List Blk} {Q:nI}
end
section
variable {P:Program} {w0:World} {X:List Nat} {N:Nm} {S:Fr} {M:List Blk} {Q:nI}
end
section
variable {α:Type} {e:El α} {w0 w:World} {X:List Nat} {M M' L:List Blk} {v:Value} {l:List α} {E:TypeId}
end
open Go.RowKit
section
variable {P:Program} {T f:Nat}
end
section
variable {P:Program} {w0:World} {X:List Nat} {N:Nm} {S:Fr} {M MD:List Blk} {Q:nI} {x y c:Code} {id n:Nat} {ops:List Oper} {nw:List Nat} {p:Plan}
variable {Qf:Fr→List Blk→Prop} {l:List Oper} {d:Option Tmp} {dd:Tmp} {ty:TypeId} {ps:String} {af:Array Edge} {gd:Option (Nat×Bool)} {T U:TypeId} {xo yo:Operand} {v:Value}
end
section
variable {P:Program} {w0:World} {X:List Nat} {N:Nm} {S:Fr} {M MD:List Blk} {Q:nI} {Qf:Fr→List Blk→Prop} {c:Code} {ops l:List Oper} {nw:List Nat} {p:Plan} {d:Option Tmp} {ty:TypeId} {ps:String} {af:Array Edge} {gd:Option (Nat×Bool)} {T:TypeId} {x y:Operand} {f:Nat}
end
theorem f6_ {A B:Prop} (k:B) (h:Hid B→A:=by intro hk;(iterate 22 refine go_ ?_);exact hk.h):A:=h ⟨k⟩
end Go.Kn
namespace Go.Num
open Go Go.Kn Go.RowKit Go.ChangeShapes Go.WideShapes
section
variable {H:Type} {enc:TypeId×Value→H} {P:Program} {w:World} {base:Nat} {spare:Nat→Bool} {held:Bool}
end
open Go Go.Kn Go.RowKit
theorem fT_ {P:Program} {w:World} {base:Nat} {r:Reach} {T:TypeId} {v:Value} {k:IntKind} (hu:P.underlying T=some (.int k)) (hv:Value.okWide P w r base T v):∃ n,v = .int k n∧k.has n:=by
  unfold Value.okWide at hv;rw [hu] at hv;unfold Cell.okWide at hv;rw [hu] at hv;unfold Cell.ok at hv;rw [hu] at hv
  cases v<;>simp_all
theorem gr_ {n:Int} (h:IntKind.u8.has n):0≤n∧n≤255:=by
  simp [IntKind.has,IntKind.min,IntKind.max,IntKind.signed,IntKind.bits] at h
  omega
open Go Go.Kn
def gD (n:I) (k:Int):Nat→Nat→I→Nat×I
  | 0,i,mb3=>(i,mb3)
  | k0+1,i,mb3=>bif decide (((i:Nat):Int)<k) then ((gD n k k0 (i+1) (E (Z.mul mb3.dec n.dec)))) else ((i,mb3))
def gQ (n:I) (k:Int):I :=
  ap (fun (s:Nat×I)=>let i:Nat:=s.1
  let mb3:I:=s.2
  mb3) (gD n k ((k.toNat+1)) 0 (E (Z.of 1)))
def jI (a:Rt):Bool :=
  bif (!(fK a.n)||(!(fK a.d)||decide ((Z.signW a.d.dec).1≤0))) then (false) else ((decide ((E (Z.gcd a.n.dec a.d.dec))=(E (Z.of 1)))))
def gE (p:(List I)) (x:Rt):Nat→Int→I→Int×I
  | 0,i,mb7=>(i,mb7)
  | k0+1,i,mb7=>bif decide (0≤i) then (let r12:I:=(E (Z.mul (p.getD ((i).toNat) I0).dec (gQ x.d (((((p).length:Nat):Int) - 1) - i)).dec))
  (gE p x k0 (i - 1) (E (Z.add (Z.mul mb7.dec x.n.dec) r12.dec)))) else ((i,mb7))
def dK (p:(List I)) (x:Rt):I :=
  bif ((aX p)||(!(jI x))) then ((E Z.bad)) else (ap (fun (s:Int×I)=>let i:Int:=s.1
  let mb7:I:=s.2
  mb7) (gE p x ((p.length+1)) ((((p).length:Nat):Int) - 1) I0))
def d7 (p:(List I)) (x:Rt):Sgd :=
  bif (dK p x).1.bad then ((⟨(wl 0),false⟩:Sgd)) else ((⟨(Z.signW (dK p x).dec),true⟩:Sgd))
theorem OK (d:I) (k:Int):∀ (f i:Nat),k.toNat - i<f→i≤k.toNat→(gD d k f i (pw d i)).2=pw d k.toNat
  | 0,i,h,_=>absurd h (Nat.not_lt_zero _)
  | f+1,i,h,hi=>by
    unfold gD
    by_cases hc:(i:Int)<k
    · rw [decide_eq_true hc,cond_true]
      exact OK d k f (i+1) oo_ oo_
    rw [decide_eq_false hc,cond_false,show k.toNat=i by omega]
theorem VX (d:I) (k:Int):gQ d k=pw d k.toNat:=OK d k _ 0 oo_ (Nat.zero_le _)
theorem HG (p:List I) (x:Rt):∀ (f:Nat) (i:Int) (m:I),i<(p.length:Int)→(fT p x f i m).2=(gE p x f i m).2
  | 0,i,m,h=>rfl
  | f+1,i,m,h=>by
    unfold fT gE
    by_cases hi:0≤i
    · rw [decide_eq_true hi]
      simp only [cond_true];rw [uN _ _ (show p.length - 1 - i.toNat<max ((p.length:Nat):Int).toNat 1 by omega),VX,show (((p.length:Nat):Int) - 1 - i).toNat=p.length - 1 - i.toNat by omega];exact HG p x f (i - 1) _ oo_
    rw [decide_eq_false hi];rfl
theorem fm_ (x:Rt):jI x=cG x:=by
  unfold jI cG
  show (bif (!gdI x.n||(!gdI x.d||_)) then _ else _)=(gdI x.n&&(gdI x.d&&_))
  cases gdI x.n
  · rfl
  · cases gdI x.d
    · rfl
    by_cases h:(Z.signW x.d.dec).1≤0
    · rw [decide_eq_true h,decide_eq_false (show ¬ 0<(Z.signW x.d.dec).1 by omega)];rfl
    rw [decide_eq_false h,decide_eq_true (show 0<(Z.signW x.d.dec).1 by omega)];simp only [Bool.not_true,Bool.or_self,cond_false,Bool.true_and];rfl
theorem T7 {p:List I} (x:Rt) (hp:p.length≤1000):(gN p x).1=dK p x:=by
  unfold gN dK;rw [mN hp,wT,R5,fm_]
  cases (!p.all gdI || !cG x)
  · simp only [cond_false,ap]
    exact HG p x _ _ _ oo_
  rfl
theorem V1 {a b:Rt} {p q:Rat} {j k:Nat} (ha:a.At p) (hb:b.At q) (hp:Sz p j) (hq:Sz q k) (h:j+k+1≤512):(cW a b).At (p - q):=by
  unfold cW;rw [Rat.sub_eq_add_neg];exact VP ha (VW hb) hp hq.neg h
open QP (V)
theorem MW {p:List I} (l1:p.length≤1000) (x:Rt):aG p x=((d7 p x).s,(d7 p x).ok):=by
  unfold aG d7;rw [T7 x l1]
  cases hb:(dK p x).1.bad
  · rfl
  have h0:Z.signW (dK p x).dec=wl 0:=W.ext (by
    show (dK p x).dec.sign=0
    have hn:(dK p x).dec.o=none:=by rw [I.dec,rG (by unfold R.good;rw [hb];rfl)];rfl
    unfold Z.sign;rw [hn])
  rw [h0];rfl
theorem ZM {p:List I} {x:Rt} (h:(d7 p x).ok=false):(d7 p x).s.1=0:=by
  unfold d7 at h ⊢
  cases hb:(dK p x).1.bad
  · rw [hb] at h;cases h
  rfl
theorem aX_ {p:List I} {d b:Int} (h:bU p d b=true):Rgt p∧p.length≤25∧((p.length:Nat):Int)≤d+1:=by
  obtain ⟨h1,h2⟩:=CV h;have h3:=I1 h1;exact ⟨h3,EZ h3,h2⟩
theorem Q8 {p:List I} {a b:Rt} {k:W} (h:(!cK p a b k)=false):Rgt p∧p.length≤25:=by
  have h:cK p a b k=true:=by simpa using h
  unfold cK at h;simp only [Bool.and_eq_true] at h;obtain ⟨h1,h2,_⟩:=aX_ h.1;exact ⟨h1,h2⟩
theorem d6_ {k:Int} (h:0≤k∧k≤255):0≤(W.rem (W.cv k) (wl 7)).1:=by
  have h1:(W.cv k).1=k:=cvE oo_
  show 0≤(W.cv k).1.tmod 7
  rw [h1];exact Int.tmod_nonneg _ h.1
end Go.Num
namespace Go.Proofs.YtokjfhfiodopdaaGreat
open Go.Kn Go.Num Tryz
attribute [local irreducible] Go.Kn.W WL PL OpQ OpR OpS
theorem yE (a:Rt) :
    Ret prog 82 [AV [pI a.n,pI a.d]] (AV [pI ((fA a).n),pI ((fA a).d)]):=by
 refine bT (N:=13) func82 rfl rfl (by simp) (fun w0=>?_);simp only [bK,Nat.reduceAdd];refine go2 ?_;intro b1 hb1;refine go_ ?_;intro b2 hb2;refine go4 ?_;refine sQ (bM aJ (iD a) rfl) rfl (go2 ?_);rcases bt (aP a) with h3|h3
 ·refine W_f (fY h3) rfl (go_ ?_);refine rD (sd (sk (s0))) 7 [6] [6] (go2 ?_);refine pC (AV [pI (E (Z.neg a.n.dec))]) aJ (sD a.n.1 a.n.2) rfl rfl rfl (go2 ?_);refine pQ rfl (m6 zpT plT rfl (.cons [pI (E (Z.neg a.n.dec))] [pI (E (Z.neg a.n.dec)),pI I0] rfl rfl rfl rfl (.cons [pI a.d] [pI (E (Z.neg a.n.dec)),pI a.d] rfl rfl rfl rfl (.nil _)))) (go3 ?_);refine bG rfl (.inr rfl) (gT rfl m0 tyT rfl) ?_;exact congrArg vS6 (show _=(fA a) from aW h3 rfl)
 refine W_t (fP h3) rfl (go_ ?_);refine sQ (bM aJ mU  rfl) rfl (go3 ?_);refine bG rfl (.inr rfl) (gT rfl m0 tyT rfl) ?_;exact congrArg vS6 (show _=(fA a) from aM h3 rfl)
theorem yC (a:Rt) (b:Rt) :
    Ret prog 81 [AV [pI a.n,pI a.d],AV [pI b.n,pI b.d]] (AV [pI ((dZ a b).n),pI ((dZ a b).d)]):=by
 refine bT (N:=44) func81 rfl rfl (by simp) (fun w0=>?_);simp only [bK,Nat.reduceAdd];refine go2 ?_;intro b1 hb1;refine go_ ?_;intro b2 hb2;refine go_ ?_;intro b3 hb3;refine go2 ?_;refine gJv [8,9,10,11,12,13,14,15] [(15,.bool (!(aP a)||(!(aP b))))] (fun K2 J2=>?_) ?_
 ·refine go2 ?_;refine sQ (bM aJ (iD a) rfl) rfl (go_ ?_);rcases bt (aP a) with h5|h5
  ·refine sB (fY h5) rfl (go_ ?_);refine sQ (bM aJ (iD b) rfl) rfl (go3 ?_);refine J2 _ _ pp_ s0 (aZ (jC h5 rfl))
  refine sB (fP h5) rfl (go5 ?_);refine J2 _ _ pp_ s0 (aZ (mI h5))
 intro g6;refine aQ _ rfl (fun h7=>?_) (fun h7=>?_)
 ·refine go_ ?_;refine sQ (bM aJ mU  rfl) rfl (go3 ?_);refine bG rfl (.inr rfl) (gT rfl m0 tyT rfl) ?_;exact congrArg vS6 (show _=(dZ a b) from aW h7 rfl)
 refine go6 ?_;refine sC (AV [pI (E (Z.gcd a.d.dec b.d.dec))]) aJ (mT a.d.1 b.d.1 a.d.2 b.d.2) rfl rfl rfl (go_ ?_);intro b8 hb8;refine go6 ?_;refine sC (AV [pI (E (Z.quo a.d.dec (Z.gcd a.d.dec b.d.dec)))]) aJ (iH a.d.1 (E (Z.gcd a.d.dec b.d.dec)).1 a.d.2 (E (Z.gcd a.d.dec b.d.dec)).2) rfl rfl (cg2 (fun p q=>AV [pI (E (Z.quo p q))]) rfl (bZ _)) (go_ ?_);intro b9 hb9;refine go6 ?_;refine sC (AV [pI (E (Z.quo b.d.dec (Z.gcd a.d.dec b.d.dec)))]) aJ (iH b.d.1 (E (Z.gcd a.d.dec b.d.dec)).1 b.d.2 (E (Z.gcd a.d.dec b.d.dec)).2) rfl rfl (cg2 (fun p q=>AV [pI (E (Z.quo p q))]) rfl (bZ _)) (go_ ?_);intro b10 hb10;refine go2 ?_;refine gds (sk (sk (sk (sd (sk (sk (s0))))))) [0,4,8,12,16,20,24,28,32,36,40,44,48,52,57] [14] mix (by kernel_rfl) (go3 ?_);refine pC (AV [pI (E (Z.mul a.n.dec (Z.quo b.d.dec (Z.gcd a.d.dec b.d.dec))))]) aJ (gR a.n.1 (E (Z.quo b.d.dec (Z.gcd a.d.dec b.d.dec))).1 a.n.2 (E (Z.quo b.d.dec (Z.gcd a.d.dec b.d.dec))).2) rfl rfl (cg2 (fun p q=>AV [pI (E (Z.mul p q))]) rfl (bZ _)) (go3 ?_);refine pC (AV [pI (E (Z.mul b.n.dec (Z.quo a.d.dec (Z.gcd a.d.dec b.d.dec))))]) aJ (gR b.n.1 (E (Z.quo a.d.dec (Z.gcd a.d.dec b.d.dec))).1 b.n.2 (E (Z.quo a.d.dec (Z.gcd a.d.dec b.d.dec))).2) rfl rfl (cg2 (fun p q=>AV [pI (E (Z.mul p q))]) rfl (bZ _)) ?_;obtain ⟨r11,hr11⟩:=nm ((E (Z.add (Z.mul a.n.dec (Z.quo b.d.dec (Z.gcd a.d.dec b.d.dec))) (Z.mul b.n.dec (Z.quo a.d.dec (Z.gcd a.d.dec b.d.dec))))):I);refine pC (AV [pI r11]) aJ (mS (E (Z.mul a.n.dec (Z.quo b.d.dec (Z.gcd a.d.dec b.d.dec)))).1 (E (Z.mul b.n.dec (Z.quo a.d.dec (Z.gcd a.d.dec b.d.dec)))).1 (E (Z.mul a.n.dec (Z.quo b.d.dec (Z.gcd a.d.dec b.d.dec)))).2 (E (Z.mul b.n.dec (Z.quo a.d.dec (Z.gcd a.d.dec b.d.dec)))).2) rfl rfl ((cg2 (fun p q=>AV [pI (E (Z.add p q))]) (bZ _) (bZ _)).trans (by rw [hr11])) (go3 ?_);refine pC (AV [pI (E (Z.mul (Z.quo a.d.dec (Z.gcd a.d.dec b.d.dec)) b.d.dec))]) aJ (gR (E (Z.quo a.d.dec (Z.gcd a.d.dec b.d.dec))).1 b.d.1 (E (Z.quo a.d.dec (Z.gcd a.d.dec b.d.dec))).2 b.d.2) rfl rfl (cg2 (fun p q=>AV [pI (E (Z.mul p q))]) (bZ _) rfl) ?_;obtain ⟨r12,hr12⟩:=nm ((aY r11 (E (Z.mul (Z.quo a.d.dec (Z.gcd a.d.dec b.d.dec)) b.d.dec))):Rt);refine pC (AV [pI r12.n,pI r12.d]) aJ (jQ r11 (E (Z.mul (Z.quo a.d.dec (Z.gcd a.d.dec b.d.dec)) b.d.dec))) rfl rfl (by rw [hr12]) (go3 ?_);refine bG rfl (.inr rfl) (gT rfl m3 tyT rfl) ?_
 subst_vars;exact congrArg vS6 (show _=(dZ a b) from aM h7 rfl)
theorem sG (a:Rt) (b:Rt) :
    Ret prog 36 [AV [pI a.n,pI a.d],AV [pI b.n,pI b.d]] (AV [pI ((cW a b).n),pI ((cW a b).d)]):=by
 refine bT (N:=9) func36 rfl rfl (by simp) (fun w0=>?_);simp only [bK,Nat.reduceAdd];refine go2 ?_;intro b1 hb1;refine go_ ?_;intro b2 hb2;refine go_ ?_;intro b3 hb3;refine go_ ?_;refine rD (sd (sk (sk (s0)))) 5 [4] [4] (go2 ?_);refine pQ rfl (bM aJ (yE b) rfl) ?_;obtain ⟨r4,hr4⟩:=nm ((dZ a (fA b)):Rt);refine pC (AV [pI r4.n,pI r4.d]) aJ (yC a (fA b)) rfl rfl (by rw [hr4]) (go3 ?_);refine bG rfl (.inr rfl) (gT rfl m0 tyT rfl) ?_;exact (by subst hr4;rfl)
theorem yD (a:Rt) (b:Rt) :
    Ret prog 35 [AV [pI a.n,pI a.d],AV [pI b.n,pI b.d]] (AV [pI ((d5 a b).n),pI ((d5 a b).d)]):=by
 refine bT (N:=41) func35 rfl rfl (by simp) (fun w0=>?_);simp only [bK,Nat.reduceAdd];refine go2 ?_;intro b1 hb1;refine go_ ?_;intro b2 hb2;refine go_ ?_;intro b3 hb3;refine go2 ?_;refine gJv [9,10,11,12,13,14,15,16] [(16,.bool (!(aP a)||(!(aP b))))] (fun K2 J2=>?_) ?_
 ·refine go2 ?_;refine sQ (bM aJ (iD a) rfl) rfl (go_ ?_);rcases bt (aP a) with h5|h5
  ·refine sB (fY h5) rfl (go_ ?_);refine sQ (bM aJ (iD b) rfl) rfl (go3 ?_);refine J2 _ _ pp_ s0 (aZ (jC h5 rfl))
  refine sB (fP h5) rfl (go5 ?_);refine J2 _ _ pp_ s0 (aZ (mI h5))
 intro g6;refine aQ _ rfl (fun h7=>?_) (fun h7=>?_)
 ·refine go_ ?_;refine sQ (bM aJ mU  rfl) rfl (go3 ?_);refine bG rfl (.inr rfl) (gT rfl m0 tyT rfl) ?_;exact congrArg vS6 (show _=(d5 a b) from aW h7 rfl)
 refine go6 ?_;refine sQ (bM aJ (jQ a.n b.d) rfl) rfl (go_ ?_);intro b8 hb8;refine go7 ?_;refine sQ (bM aJ (jQ b.n a.d) rfl) rfl (go_ ?_);intro b9 hb9;refine go7 ?_;obtain ⟨r10,hr10⟩:=nm ((E (Z.mul ((aY a.n b.d).n).dec ((aY b.n a.d).n).dec)):I);refine sC (AV [pI r10]) aJ (gR ((aY a.n b.d).n).1 ((aY b.n a.d).n).1 ((aY a.n b.d).n).2 ((aY b.n a.d).n).2) rfl rfl (by subst hr10;rfl) (go_ ?_);intro b11 hb11;refine go7 ?_;obtain ⟨r12,hr12⟩:=nm ((E (Z.mul ((aY a.n b.d).d).dec ((aY b.n a.d).d).dec)):I);refine sC (AV [pI r12]) aJ (gR ((aY a.n b.d).d).1 ((aY b.n a.d).d).1 ((aY a.n b.d).d).2 ((aY b.n a.d).d).2) rfl rfl (by subst hr12;rfl) (go_ ?_);intro b13 hb13;refine go5 ?_;refine sQ (bM aJ (jQ r10 r12) rfl) rfl (go3 ?_);refine bG rfl (.inr rfl) (gT rfl m4 tyT rfl) ?_
 subst_vars;exact congrArg vS6 (show _=(d5 a b) from aM h7 rfl)
theorem wG (n:I) (k:Int) (w:World)  (hpre:k≤200) :
    Calls prog 134 [AV [pI n],.int .i64 k].toArray w (fun e w'=>e = .returned (AV [pI (gQ n k)])∧Ext w w'):=by
 refine cQ (N:=17) func134 rfl rfl (by simp) ?_;obtain ⟨w0,rfl⟩:∃ w0,w0=w:=⟨_,rfl⟩;simp only [bK,Nat.reduceAdd];refine go2 ?_;intro b1 hb1;refine go_ ?_;intro b2 hb2;refine go2 ?_;refine sC (AV [pI (E (Z.of 1))]) aJ (eV (wl 1).1 (wl 1).2) rfl rfl rfl ?_;refine go_ ?_;intro b3 hb3;refine go6 ?_;refine gJ3 [6,8,9,10,11,12,13,14,15] (fun g M=>∃ (i:Nat) (mb3:I),(gD n k ((k.toNat+1)) 0 (E (Z.of 1)))=(i,mb3)∧(g 6 = .int .i64 ((i:Nat):Int))∧M=[⟨b3,27,bB [pI mb3]⟩,⟨b2,27,bB [pI I0]⟩,⟨b1,27,bB [pI n]⟩]) (fun K_u4 hK_u4=>?_) ?_
 ·refine go_ ?_;refine cF [6,8,9,10,11,12,13,14,15] (fun g nn M=>∃ (i:Nat) (mb3:I),(gD n k nn i mb3)=(gD n k ((k.toNat+1)) 0 (E (Z.of 1)))∧k.toNat - i<nn∧(i≤k.toNat)∧(g 6 = .int .i64 ((i:Nat):Int))∧M=[⟨b3,27,bB [pI mb3]⟩,⟨b2,27,bB [pI I0]⟩,⟨b1,27,bB [pI n]⟩]) ((k.toNat+1)) ?start ?round
  case start=>exact ⟨_,s0,0,(E (Z.of 1)),rfl,o1_,o1_,rfl,rfl⟩
  case round =>
   rintro nn g M ⟨i,mb3,hT0,hq0,hinv0,hg6,rfl⟩;obtain ⟨k0,rfl⟩:∃ m,nn=m+1:=⟨nn - 1,by omega⟩;simp only [eH,hg6];clear hg6;refine go6 ?_;refine aQ _ rfl (fun h7=>?_) (fun h7=>?_)
   ·have ph7:=of_decide_eq_true h7;refine go6 ?_;refine sC (AV [pI (E (Z.mul mb3.dec n.dec))]) aJ (gR mb3.1 n.1 mb3.2 n.2) rfl rfl rfl (go4 ?_);refine sV (.int .i64 (((i+1):Nat):Int)) rfl (congrArg (Value.int .i64) (wx oo_ oo_ oo_)) (go2 ?_);refine ⟨pp_,_,_,s0,(Nat.lt_succ_self _),(i+1),(E (Z.mul mb3.dec n.dec)),(by exact (hT0.symm.trans (Eq.symm (aW h7 rfl))).symm),(Nat.lt_of_lt_of_le o1_ (Nat.le_of_lt_succ hq0)),o1_,rfl,rfl⟩
   have ph7:=of_decide_eq_false h7;refine go_ ?_;refine hK_u4 _ _ pp_ ⟨_,s0,i,mb3,(by exact hT0.symm.trans (Eq.symm (aM h7 rfl))),rfl,rfl⟩
 rintro g M ⟨i,mb3,hCu4,hg6,rfl⟩;simp only [eH,hg6];clear hg6;refine go5 ?_;refine bG rfl (.inr rfl) (gT rfl m1 tyT rfl) ?_;exact congrArg vS2 (show _=(gQ n k) from (by unfold gQ;exact trs (Eq.symm (apS hCu4)) rfl))
theorem xE (a:Rt) :
    Ret prog 133 [AV [pI a.n,pI a.d]] (.bool (jI a)):=by
 refine bT (N:=26) func133 rfl rfl (by simp) (fun w0=>?_);simp only [bK,Nat.reduceAdd];refine go2 ?_;intro b1 hb1;refine go3 ?_;refine gJv [3,4,5,6,7,8,9,10,11,12,13,14,15,16,17,18] [(18,.bool (!(fK a.n)||(!(fK a.d)||decide ((Z.signW a.d.dec).1≤0))))] (fun K2 J2=>?_) ?_
 ·refine go3 ?_;refine sQ (bM aJ (l8 a.n) rfl) rfl (go_ ?_);rcases bt (fK a.n) with h4|h4
  ·refine sB (fY h4) rfl (go2 ?_);refine sQ (bM aJ (l8 a.d) rfl) rfl (go2 ?_);rcases bt (fK a.d) with h5|h5
   ·refine sB (fY h5) rfl (go2 ?_);refine sC (.int .i64 ((Z.signW a.d.dec).1)) aJ (e9 a.d.1 a.d.2) rfl rfl rfl (go3 ?_);refine J2 _ _ pp_ s0 (aZ (jC h4 (jC h5 rfl)))
   refine sB (fP h5) rfl (go6 ?_);refine J2 _ _ pp_ s0 (aZ (jC h4 (mI h5)))
  refine sB (fP h4) rfl (FU ?_);refine J2 _ _ pp_ s0 (aZ (mI h4))
 intro g6;refine aQ _ rfl (fun h7=>?_) (fun h7=>?_)
 ·refine go4 ?_;refine bG rfl (.inr rfl) rfl ?_;exact congrArg vS0 (show _=(jI a) from aW h7 rfl)
 refine go6 ?_;refine sC (AV [pI (E (Z.gcd a.n.dec a.d.dec))]) aJ (mT a.n.1 a.d.1 a.n.2 a.d.2) rfl rfl rfl (sC (AV [pI (E (Z.of 1))]) aJ (eV (wl 1).1 (wl 1).2) rfl rfl rfl ?_);refine sQ (uR (r:=decide ((E (Z.gcd a.n.dec a.d.dec))=(E (Z.of 1)))) rfl rfl (mQ 8 dd_ R0 SQ (mY iV) (mY iV) (rI nX))) rfl (go3 ?_);refine bG rfl (.inr rfl) rfl ?_;exact congrArg vS0 (show _=(jI a) from aM h7 rfl)
theorem wJ (vp:Value) (p:(List I)) (x:Rt) (w:World) (hp:Slr w elI vp p) (hpre:p.length≤100) :
    Calls prog 73 [vp,AV [pI x.n,pI x.d]].toArray w (fun e w'=>e = .returned (AV [pI (dK p x)])∧Ext w w'):=by
 obtain ⟨p_p,c_p,rfl⟩:=hp.form;refine cQ (N:=42) func73 rfl rfl (by simp) ?_;obtain ⟨w0,rfl⟩:∃ w0,w0=w:=⟨_,rfl⟩;have Hp:=hp.old;have hm_p:=hp.max;simp only [bK,Nat.reduceAdd];refine go2 ?_;intro b1 hb1;refine go_ ?_;intro b2 hb2;refine go2 ?_;refine gJv [7,8,9,10,11,12,13] [(13,.bool ((aX p)||(!(jI x))))] (fun K2 J2=>?_) ?_
 ·refine go2 ?_;refine sQ (aS (v':=.bool (aX p)) (bE aJ rfl (fun w hw=>fS _ p w (aR hw Hp sn))) rfl) rfl ?_;refine sBB rfl (fun h4=>?_) (fun h4=>?_)
  ·refine go5 ?_;refine J2 _ _ pp_ s0 (aZ (lX h4))
  refine go_ ?_;refine sQ (bM aJ (xE x) rfl) rfl (go3 ?_);refine J2 _ _ pp_ s0 (aZ (kE h4 rfl))
 intro g5;refine aQ _ rfl (fun h6=>?_) (fun h6=>?_)
 ·refine go_ ?_;refine sC (AV [pI (E Z.bad)]) aJ dL rfl rfl rfl (go3 ?_);refine bG rfl (.inr rfl) (gT rfl m0 tyT rfl) ?_;exact congrArg vS2 (show _=(dK p x) from aW h6 rfl)
 refine go4 ?_;intro b7 hb7;refine go5 ?_;refine sQ (aS (v':=.int .i64 (((p).length:Nat):Int)) (dW (e:=elI) d9 rfl (SLe.sub Hp sn)) rfl) rfl (sV (.int .i64 ((((p).length:Nat):Int) - 1)) rfl (congrArg (Value.int .i64) (wx oo_ oo_ oo_)) (go2 ?_));refine gJ3 [6,19,20,21,22,23,24,25,26,27,28,29,30,31,32,33,34,35,36,37,38,39,40] (fun g M=>∃ (i:Int) (mb7:I),(gE p x ((p.length+1)) ((((p).length:Nat):Int) - 1) I0)=(i,mb7)∧(g 6 = .int .i64 i)∧M=[⟨b7,27,bB [pI mb7]⟩,⟨b2,27,bB [pI I0]⟩,⟨b1,29,bB [pI x.n,pI x.d]⟩]) (fun K_u8 hK_u8=>?_) ?_
 ·refine go_ ?_;refine cF [6,19,20,21,22,23,24,25,26,27,28,29,30,31,32,33,34,35,36,37,38,39,40] (fun g nn M=>∃ (i:Int) (mb7:I),(gE p x nn i mb7)=(gE p x ((p.length+1)) ((((p).length:Nat):Int) - 1) I0)∧(i+1).toNat<nn∧(i<(p.length:Int)∧-1≤i)∧(g 6 = .int .i64 i)∧M=[⟨b7,27,bB [pI mb7]⟩,⟨b2,27,bB [pI I0]⟩,⟨b1,29,bB [pI x.n,pI x.d]⟩]) ((p.length+1)) ?start ?round
  case start=>exact ⟨_,s0,((((p).length:Nat):Int) - 1),I0,rfl,o1_,o1_,rfl,rfl⟩
  case round =>
   rintro nn g M ⟨i,mb7,hT0,hq0,hinv0,hg6,rfl⟩;obtain ⟨k0,rfl⟩:∃ m,nn=m+1:=⟨nn - 1,by omega⟩;simp only [eH,hg6];clear hg6;refine go5 ?_;refine aQ _ rfl (fun h13=>?_) (fun h13=>?_)
   ·have ph13:=of_decide_eq_true h13;refine go3 ?_;refine gdr (sd s0) [0,4,8,12,16,20,24,28,32,36,40,44,48,52,56,60,64,68,73] [18] mix (by kernel_rfl) (go3 ?_);refine pC (AV [pI (E (Z.mul mb7.dec x.n.dec))]) aJ (gR mb7.1 x.n.1 mb7.2 x.n.2) rfl rfl rfl (go2 ?_);refine pQ rfl (aS (v':=.pointer (some (slb (.slice p_p p.length c_p) (((i).toNat)*18+0)))) (lY (e:=elI) (l:=p) (k:=(i).toNat) d9 rfl rfl oo_ (SLe.sub Hp sn) o2_) rfl) ?_;refine pQ rfl (j7 (e:=elI) (l:=p) (k:=(i).toNat) (o:=0) tyT rfl (SLe.sub Hp sn) (dN I0 o2_) rfl) ?_;refine go3 ?_;refine pQ rfl (aS (v':=.int .i64 (((p).length:Nat):Int)) (dW (e:=elI) d9 rfl (SLe.sub Hp sn)) rfl) (pV (.int .i64 ((((p).length:Nat):Int) - 1)) rfl (congrArg (Value.int .i64) (wx oo_ oo_ oo_)) (go_ ?_));refine pV (.int .i64 (((((p).length:Nat):Int) - 1) - i)) rfl (congrArg (Value.int .i64) (wx oo_ oo_ oo_)) (pQ rfl (aS (v':=AV [pI (gQ x.d (((((p).length:Nat):Int) - 1) - i))]) (bE aJ rfl (fun w hw=>wG x.d (((((p).length:Nat):Int) - 1) - i) w oo_)) rfl) ?_);obtain ⟨r14,hr14⟩:=nm ((E (Z.mul (p.getD ((i).toNat) I0).dec (gQ x.d (((((p).length:Nat):Int) - 1) - i)).dec)):I);refine pC (AV [pI r14]) aJ (gR (p.getD ((i).toNat) I0).1 (gQ x.d (((((p).length:Nat):Int) - 1) - i)).1 (p.getD ((i).toNat) I0).2 (gQ x.d (((((p).length:Nat):Int) - 1) - i)).2) rfl rfl (by subst hr14;rfl) (pC (AV [pI (E (Z.add (Z.mul mb7.dec x.n.dec) r14.dec))]) aJ (mS (E (Z.mul mb7.dec x.n.dec)).1 r14.1 (E (Z.mul mb7.dec x.n.dec)).2 r14.2) rfl rfl (cg2 (fun p q=>AV [pI (E (Z.add p q))]) (bZ _) rfl) (go4 ?_));refine sV (.int .i64 (i - 1)) rfl (congrArg (Value.int .i64) (wx oo_ oo_ oo_)) (go2 ?_);refine ⟨pp_,_,_,s0,(Nat.lt_succ_self _),(i - 1),(E (Z.add (Z.mul mb7.dec x.n.dec) r14.dec)),(by subst hr14;exact (hT0.symm.trans (Eq.symm (aW h13 rfl))).symm),(Nat.lt_of_lt_of_le o1_ (Nat.le_of_lt_succ hq0)),o1_,rfl,rfl⟩
   have ph13:=of_decide_eq_false h13;refine go_ ?_;refine hK_u8 _ _ pp_ ⟨_,s0,i,mb7,(by exact hT0.symm.trans (Eq.symm (aM h13 rfl))),rfl,rfl⟩
 rintro g M ⟨i,mb7,hCu8,hg6,rfl⟩;simp only [eH,hg6];clear hg6;refine go5 ?_;refine bG rfl (.inr rfl) (gT rfl m1 tyT rfl) ?_;exact congrArg vS2 (show _=(dK p x) from aM h6 (trs (Eq.symm (apS hCu8)) rfl))
theorem xD (vp:Value) (p:(List I)) (x:Rt) (w:World) (hp:Slr w elI vp p) (hpre:p.length≤100) :
    Calls prog 31 [vp,AV [pI x.n,pI x.d]].toArray w (fun e w'=>e = .returned (AV [cw (((d7 p x).s).1),cb ((d7 p x).ok)])∧Ext w w'):=by
 obtain ⟨p_p,c_p,rfl⟩:=hp.form;refine cQ (N:=15) func31 rfl rfl (by simp) ?_;obtain ⟨w0,rfl⟩:∃ w0,w0=w:=⟨_,rfl⟩;have Hp:=hp.old;have hm_p:=hp.max;simp only [bK,Nat.reduceAdd];refine go2 ?_;intro b1 hb1;refine go_ ?_;intro b2 hb2;refine go4 ?_;refine sQ (aS (v':=AV [pI (dK p x)]) (bE aJ rfl (fun w hw=>wJ _ p x w (aR hw Hp sn) oo_)) rfl) rfl (go_ ?_);intro b3 hb3;refine go7 ?_;refine aQ _ rfl (fun h4=>?_) (fun h4=>?_)
 ·refine go5 ?_;refine bG rfl (.inr rfl) (gT rfl m1 tyT rfl) ?_;exact congrArg (fun r:Sgd=>(AV [cw r.s.1,cb r.ok]:Value)) (show _=(d7 p x) from aW h4 rfl)
 refine go3 ?_;refine sC (.int .i64 ((Z.signW (dK p x).dec).1)) aJ (e9 (dK p x).1 (dK p x).2) rfl rfl rfl (go4 ?_);refine bG rfl (.inr rfl) (gT rfl m1 tyT rfl) ?_;exact congrArg (fun r:Sgd=>(AV [cw r.s.1,cb r.ok]:Value)) (show _=(d7 p x) from aM h4 rfl)
end Go.Proofs.YtokjfhfiodopdaaGreat
namespace Go.Num
open Go Go.Kn
open QP (V Rb Two NN sg Sf)
theorem fo_ {x:Rat}:(0≤sg x) ↔ 0≤x:=by
  rcases QP.sg_three x with ⟨e,k⟩|⟨e,k⟩|⟨e,k⟩<;>rw [e]<;>constructor<;>intro h<;>first|omega|grind
def dA (p:(List I)) (a:Rt) (t:Rt) (b:Rt) (k:Int):Bool :=
  bif (!(cK p a b (W.rem (W.cv k) (wl 7)))||(!(cK p t t (wl 0))||((aX p)||(decide (0<(eC a t).1)||decide (0<(eC t b).1))))) then (eZ) else (bif ((((aD p a b).2).1 != 0)||((((aD p a t).2).1 != 0)||((((aD p t b).2).1 != 0)||(bif (aD p a t).1 then ((aD p a b).1 != (aD p t b).1) else ((aD p a b).1 != false))))) then (false) else (let r26:Iv:=(dD p a b ((W.rem (W.cv k) (wl 7)).1)).1
  bif ((((dD p a b ((W.rem (W.cv k) (wl 7)).1)).2.2).1 != 0)||((dD p a b ((W.rem (W.cv k) (wl 7)).1)).2.1==(aD p a b).1)) then (false) else (bif (aD p a b).1 then ((eZ&&(decide (0≤((d7 p t).s).1)&&(decide (r26.lo.n=I0)&&(decide (r26.lo.d=I0)&&(decide (r26.hi.n=I0)&&decide (r26.hi.d=I0))))))) else (let r38:Rt:=(d6 (wl 1) (W.shl (wl 1) (W.rem (W.cv k) (wl 7))))
  let r39:Rt:=(d5 (cW b a) r38)
  bif (decide (((cW r26.hi r26.lo).n)=r39.n)&&decide (((cW r26.hi r26.lo).d)=r39.d)) then ((eZ&&(bif (((aD p a r26.lo).2).1 != 0) then ((((aD p r26.lo r26.hi).2).1 != 0)||(!(aD p r26.lo r26.hi).1)) else (bif (aD p a r26.lo).1 then ((((aD p r26.lo r26.hi).2).1 != 0)||(!(aD p r26.lo r26.hi).1)) else ((decide (r26.lo.n=a.n)&&decide (r26.lo.d=a.d))&&((((aD p r26.lo r26.hi).2).1 != 0)||(!(aD p r26.lo r26.hi).1))))))) else (false)))))
end Go.Num
namespace Go.Proofs.YtokjfhfiodopdaaGreat
open Go.Kn Go.Num Tryz
attribute [local irreducible] Go.Kn.W WL PL OpQ OpR OpS
theorem yG (vp:Value) (p:(List I)) (a:Rt) (t:Rt) (b:Rt) (k:Int) (w:World) (hp:Slr w elI vp p) (hpre:0≤k∧k≤255) :
    Calls prog 9 [vp,AV [pI a.n,pI a.d],AV [pI t.n,pI t.d],AV [pI b.n,pI b.d],.int .u8 k].toArray w (fun e w'=>e = .returned (.bool (dA p a t b k))∧Ext w w'):=by
 obtain ⟨p_p,c_p,rfl⟩:=hp.form;refine cQ (N:=181) func9 rfl rfl (by simp) ?_;obtain ⟨w0,rfl⟩:∃ w0,w0=w:=⟨_,rfl⟩;have Hp:=hp.old;have hm_p:=hp.max;simp only [bK,Nat.reduceAdd];refine go2 ?_;intro b1 hb1;refine go_ ?_;intro b2 hb2;refine go_ ?_;intro b3 hb3;refine go4 ?_;refine sQ (aS (v':=.int .i64 ((W.cv k).1)) (dY KX BS rfl) rfl) rfl (sQ (aS (v':=.int .i64 ((W.rem (W.cv k) (wl 7)).1)) (rT rfl rfl dd_) rfl) rfl ?_);refine go3 ?_;refine gJv [29,30,31,32,33,34,35,36,37,38,39,40,41,42,43,44,45,46,47,48,49,50,51,52,53,54,55,56,57] [(57,.bool (!(cK p a b (W.rem (W.cv k) (wl 7)))||(!(cK p t t (wl 0))||((aX p)||(decide (0<(eC a t).1)||decide (0<(eC t b).1))))))] (fun K2 J2=>?_) ?_
 ·refine go5 ?_;refine sQ (aS (v':=.bool (cK p a b (W.rem (W.cv k) (wl 7)))) (bE aJ rfl (fun w hw=>nT _ p a b (W.rem (W.cv k) (wl 7)) w (aR hw Hp sn))) rfl) rfl ?_;refine go_ ?_;rcases bt (cK p a b (W.rem (W.cv k) (wl 7))) with h8|h8
  ·refine sB (fY h8) rfl (go3 ?_);refine sQ (aS (v':=.bool (cK p t t (wl 0))) (bE aJ rfl (fun w hw=>nT _ p t t (wl 0) w (aR hw Hp sn))) rfl) rfl ?_;refine go2 ?_;rcases bt (cK p t t (wl 0)) with h9|h9
   ·refine sB (fY h9) rfl (go_ ?_);refine sQ (aS (v':=.bool (aX p)) (bE aJ rfl (fun w hw=>fS _ p w (aR hw Hp sn))) rfl) rfl (go_ ?_);refine sBB rfl (fun h10=>?_) (fun h10=>?_)
    ·refine FU ?_;refine J2 _ _ pp_ s0 (aZ (jC h8 (jC h9 (lX h10))))
    refine go2 ?_;refine sQ (bM aJ (oT a t) rfl) rfl (go2 ?_);refine sBB rfl (fun h11=>?_) (fun h11=>?_)
    ·have ph11:=of_decide_eq_true h11;refine go6 ?_;refine J2 _ _ pp_ s0 (aZ (jC h8 (jC h9 (kE h10 (lX h11)))))
    have ph11:=of_decide_eq_false h11;refine go2 ?_;refine sQ (bM aJ (oT t b) rfl) rfl (go3 ?_);refine J2 _ _ pp_ s0 (aZ (jC h8 (jC h9 (kE h10 (kE h11 rfl)))))
   refine sB (fP h9) rfl (a2_ ?_);refine J2 _ _ pp_ s0 (aZ (jC h8 (mI h9)))
  refine sB (fP h8) rfl (eR_ ?_);refine J2 _ _ pp_ s0 (aZ (mI h8))
 intro g12;refine aQ _ rfl (fun h13=>?_) (fun h13=>?_)
 ·refine go_ ?_;refine sQ (bM aJ i5  rfl) rfl (go3 ?_);refine bG rfl (.inr rfl) rfl ?_;exact congrArg vS0 (show _=(dA p a t b k) from aW h13 rfl)
 have ph14:=of_decide_eq_false (Bool.or_eq_false_iff.1 (Bool.or_eq_false_iff.1 (Bool.or_eq_false_iff.1 (Bool.or_eq_false_iff.1 h13).2).2).2).1;have ph15:=of_decide_eq_false (Bool.or_eq_false_iff.1 (Bool.or_eq_false_iff.1 (Bool.or_eq_false_iff.1 (Bool.or_eq_false_iff.1 h13).2).2).2).2;refine go_ ?_;obtain ⟨hRp,hLp⟩:=Q8 (Bool.or_eq_false_iff.1 h13).1;refine go4 ?_;refine sQ (aS (v':=.tuple #[.bool ((aD p a b).1),.int .i64 (((aD p a b).2).1)]) (bE aJ rfl (fun w hw=>dX _ p a b w (aR hw Hp sn) (by with_reducible first|assumption|exact ⟨hpre.1,by omega⟩|exact ⟨by assumption,by omega⟩|exact hpre.1|exact hpre.2))) rfl) rfl (pO ?_);refine sQ (aS (v':=.tuple #[.bool ((aD p a t).1),.int .i64 (((aD p a t).2).1)]) (bE aJ rfl (fun w hw=>dX _ p a t w (aR hw Hp sn) (by with_reducible first|assumption|exact ⟨hpre.1,by omega⟩|exact ⟨by assumption,by omega⟩|exact hpre.1|exact hpre.2))) rfl) rfl (pO ?_);refine sQ (aS (v':=.tuple #[.bool ((aD p t b).1),.int .i64 (((aD p t b).2).1)]) (bE aJ rfl (fun w hw=>dX _ p t b w (aR hw Hp sn) (by with_reducible first|assumption|exact ⟨hpre.1,by omega⟩|exact ⟨by assumption,by omega⟩|exact hpre.1|exact hpre.2))) rfl) rfl (go7 ?_);refine gJv [80,81,82,83,84,85,86,87,88,89,90,91,92,93,94,95,96,97] [(97,.bool ((((aD p a b).2).1 != 0)||((((aD p a t).2).1 != 0)||((((aD p t b).2).1 != 0)||(bif (aD p a t).1 then ((aD p a b).1 != (aD p t b).1) else ((aD p a b).1 != false))))))] (fun K4 J4=>?_) ?_
 ·refine go3 ?_;refine sBB rfl (fun h20=>?_) (fun h20=>?_)
  ·refine a2_ ?_;refine J4 _ _ pp_ s0 (aZ (lX h20))
  refine go3 ?_;refine sBB rfl (fun h21=>?_) (fun h21=>?_)
  ·refine FU ?_;refine J4 _ _ pp_ s0 (aZ (kE h20 (lX h21)))
  refine go3 ?_;refine sBB rfl (fun h22=>?_) (fun h22=>?_)
  ·refine go8 ?_;refine J4 _ _ pp_ s0 (aZ (kE h20 (kE h21 (lX h22))))
  refine go2 ?_;refine sBB rfl (fun h23=>?_) (fun h23=>?_)
  ·refine go2 ?_;refine sQ (aS (v':=.bool ((aD p a b).1 != (aD p t b).1)) (qQ xS rfl rfl) rfl) rfl (go2 ?_);refine J4 _ _ pp_ s0 (aZ (kE h20 (kE h21 (kE h22 (aW h23 rfl)))))
  refine go2 ?_;refine sQ (aS (v':=.bool ((aD p a b).1 != false)) (qQ xS rfl rfl) rfl) rfl (go2 ?_);refine J4 _ _ pp_ s0 (aZ (kE h20 (kE h21 (kE h22 (aM h23 rfl)))))
 intro g24;refine aQ _ rfl (fun h25=>?_) (fun h25=>?_)
 ·refine go4 ?_;refine bG rfl (.inr rfl) rfl ?_;exact congrArg vS0 (show _=(dA p a t b k) from aM h13 (aW h25 rfl))
 refine go6 ?_;obtain ⟨r26,hr26⟩:=nm ((dD p a b ((W.rem (W.cv k) (wl 7)).1)).1:Iv);refine sQ (aS (v':=.tuple #[AV [pI r26.lo.n,pI r26.lo.d,pI r26.hi.n,pI r26.hi.d],.bool ((dD p a b ((W.rem (W.cv k) (wl 7)).1)).2.1),.int .i64 (((dD p a b ((W.rem (W.cv k) (wl 7)).1)).2.2).1)]) (bE aJ rfl (fun w hw=>qO _ p a b ((W.rem (W.cv k) (wl 7)).1) w (aR hw Hp sn) (by with_reducible first|assumption|exact ⟨hpre.1,by omega⟩|exact ⟨by assumption,by omega⟩|exact hpre.1|exact hpre.2))) (by rw [hr26])) rfl ?_;refine go5 ?_;intro b27 hb27;refine go5 ?_;refine gJv [107,108,109,110,111,112,113] [(113,.bool ((((dD p a b ((W.rem (W.cv k) (wl 7)).1)).2.2).1 != 0)||((dD p a b ((W.rem (W.cv k) (wl 7)).1)).2.1==(aD p a b).1)))] (fun K6 J6=>?_) ?_
 ·refine go3 ?_;refine sBB rfl (fun h29=>?_) (fun h29=>?_)
  ·refine go5 ?_;refine J6 _ _ pp_ s0 (aZ (lX h29))
  refine go2 ?_;refine sQ (aS (v':=.bool ((dD p a b ((W.rem (W.cv k) (wl 7)).1)).2.1==(aD p a b).1)) (QZ xS rfl rfl) rfl) rfl ?_;refine go2 ?_;refine J6 _ _ pp_ s0 (aZ (kE h29 rfl))
 intro g30;refine aQ _ rfl (fun h31=>?_) (fun h31=>?_)
 ·refine go4 ?_;refine bG rfl (.inr rfl) rfl ?_;exact (by subst hr26;exact congrArg vS0 (show _=(dA p a t b k) from aM h13 (aM h25 (aW h31 rfl))))
 refine go5 ?_;refine aQ _ rfl (fun h32=>?_) (fun h32=>?_)
 ·refine gJv [10,115,116,117,118,119,120,121,122,123,124,125,126,127] [(10,.bool (eZ&&(decide (0≤((d7 p t).s).1)&&(decide (r26.lo.n=I0)&&(decide (r26.lo.d=I0)&&(decide (r26.hi.n=I0)&&decide (r26.hi.d=I0)))))))] (fun K8 J8=>?_) ?_
  ·refine go_ ?_;refine sQ (bM aJ i5  rfl) rfl ?_;refine sBB rfl (fun h35=>?_) (fun h35=>?_)
   ·refine go2 ?_;refine sQ (aS (v':=AV [cw (((d7 p t).s).1),cb ((d7 p t).ok)]) (bE aJ rfl (fun w hw=>xD _ p t w (aR hw Hp sn) oo_)) rfl) rfl (go3 ?_);refine sBB rfl (fun h36=>?_) (fun h36=>?_)
    ·have ph36:=of_decide_eq_true h36;refine go2 ?_;refine sQ (uR (r:=(decide (r26.lo.n=I0)&&(decide (r26.lo.d=I0)&&(decide (r26.hi.n=I0)&&decide (r26.hi.d=I0))))) rfl rfl (mQ 8 dd_ R2 SR (iZ iV (iZ iV (iZ iV (mY iV)))) (iZ iV (iZ iV (iZ iV (mY iV)))) (mH rfl nX (mH rfl nX (mH rfl nX (rI nX)))))) rfl (go3 ?_);refine J8 _ _ pp_ s0 (aZ (bW h35 (bW h36 rfl)))
    have ph36:=of_decide_eq_false h36;refine go6 ?_;refine J8 _ _ pp_ s0 (aZ (bW h35 (hJ h36)))
   refine FV ?_;refine J8 _ _ pp_ s0 (aZ (hJ h35))
  intro g37;refine go_ ?_;refine bG rfl (.inr rfl) rfl ?_;exact (by subst hr26;exact congrArg vS0 (show _=(dA p a t b k) from aM h13 (aM h25 (aM h31 (aW h32 rfl)))))
 refine go_ ?_;refine rD s0 9 [7,8] [8] (go2 ?_);refine pQ rfl (bM aJ (sG b a) rfl) (go_ ?_);refine pQ rfl (aS (v':=.int .i64 ((W.shl (wl 1) (W.rem (W.cv k) (wl 7))).1)) (AD rfl rfl (d6_ hpre)) rfl) ?_;obtain ⟨r38,hr38⟩:=nm ((d6 (wl 1) (W.shl (wl 1) (W.rem (W.cv k) (wl 7)))):Rt);refine pC (AV [pI r38.n,pI r38.d]) aJ (l7 (wl 1) (W.shl (wl 1) (W.rem (W.cv k) (wl 7)))) rfl rfl (by rw [hr38]) ?_;obtain ⟨r39,hr39⟩:=nm ((d5 (cW b a) r38):Rt);refine pC (AV [pI r39.n,pI r39.d]) aJ (yD (cW b a) r38) rfl rfl (by rw [hr39]) (fM rfl rfl (iB zpT (fun b40 hb40=>⟨(fun _=>sd s0),(sd s0),?_⟩)));refine go2 ?_;refine pW (sk (sk (sd (sd (s0))))) ?_;refine go_ ?_;refine rD s0 7 [] [] (go4 ?_);refine pQ rfl (bM aJ (sG r26.hi r26.lo) rfl) (go_ ?_);refine pQ rfl (A5 (r:=(decide (((cW r26.hi r26.lo).n)=r39.n)&&decide (((cW r26.hi r26.lo).d)=r39.d))) rfl rfl (mQ 8 dd_ XD YC (iZ iV (mY iV)) (iZ iV (mY iV)) (mH rfl nX (rI nX)))) (go_ ?_);rcases bt (decide (((cW r26.hi r26.lo).n)=r39.n)&&decide (((cW r26.hi r26.lo).d)=r39.d)) with h41|h41
 ·have ph42:=of_decide_eq_true (Bool.and_eq_true_iff.1 h41).1;have ph43:=of_decide_eq_true (Bool.and_eq_true_iff.1 h41).2;refine W_f (fY h41) rfl (go6 ?_);refine sQ (aS (v':=.tuple #[.bool ((aD p a r26.lo).1),.int .i64 (((aD p a r26.lo).2).1)]) (bE aJ rfl (fun w hw=>dX _ p a r26.lo w (aR hw Hp sn) (by with_reducible first|assumption|exact ⟨hpre.1,by omega⟩|exact ⟨by assumption,by omega⟩|exact hpre.1|exact hpre.2))) rfl) rfl (FU ?_);refine sQ (aS (v':=.tuple #[.bool ((aD p r26.lo r26.hi).1),.int .i64 (((aD p r26.lo r26.hi).2).1)]) (bE aJ rfl (fun w hw=>dX _ p r26.lo r26.hi w (aR hw Hp sn) (by with_reducible first|assumption|exact ⟨hpre.1,by omega⟩|exact ⟨by assumption,by omega⟩|exact hpre.1|exact hpre.2))) rfl) rfl (go6 ?_);refine gJv [10,159,160,161,162,163,164,165,166,167,168,169,170,171,172,173,174,175,176,177,178,179,180] [(10,.bool (eZ&&(bif (((aD p a r26.lo).2).1 != 0) then ((((aD p r26.lo r26.hi).2).1 != 0)||(!(aD p r26.lo r26.hi).1)) else (bif (aD p a r26.lo).1 then ((((aD p r26.lo r26.hi).2).1 != 0)||(!(aD p r26.lo r26.hi).1)) else ((decide (r26.lo.n=a.n)&&decide (r26.lo.d=a.d))&&((((aD p r26.lo r26.hi).2).1 != 0)||(!(aD p r26.lo r26.hi).1)))))))] (fun K10 J10=>?_) ?_
  ·refine go_ ?_;refine sQ (bM aJ i5  rfl) rfl ?_;refine sBB rfl (fun h53=>?_) (fun h53=>?_)
   ·refine go2 ?_;refine sBB rfl (fun h54=>?_) (fun h54=>?_)
    ·refine FU ?_;refine sBB rfl (fun h55=>?_) (fun h55=>?_)
     ·refine go6 ?_;refine J10 _ _ pp_ s0 (aZ (bW h53 (aW h54 (lX h55))))
     refine go6 ?_;refine J10 _ _ pp_ s0 (aZ (bW h53 (aW h54 (kE h55 rfl))))
    refine go2 ?_;refine sBB rfl (fun h56=>?_) (fun h56=>?_)
    ·refine go9 ?_;refine sBB rfl (fun h57=>?_) (fun h57=>?_)
     ·refine go6 ?_;refine J10 _ _ pp_ s0 (aZ (bW h53 (aM h54 (aW h56 (lX h57)))))
     refine go6 ?_;refine J10 _ _ pp_ s0 (aZ (bW h53 (aM h54 (aW h56 (kE h57 rfl)))))
    refine go3 ?_;refine sQ (uR (r:=(decide (r26.lo.n=a.n)&&decide (r26.lo.d=a.d))) rfl rfl (mQ 8 dd_ XD YC (iZ iV (mY iV)) (iZ iV (mY iV)) (mH rfl nX (rI nX)))) rfl (go2 ?_);refine sBB rfl (fun h58=>?_) (fun h58=>?_)
    ·have ph59:=of_decide_eq_true (Bool.and_eq_true_iff.1 h58).1;have ph60:=of_decide_eq_true (Bool.and_eq_true_iff.1 h58).2;refine go2 ?_;refine sBB rfl (fun h61=>?_) (fun h61=>?_)
     ·refine go6 ?_;refine J10 _ _ pp_ s0 (aZ (bW h53 (aM h54 (aM h56 (bW h58 (lX h61))))))
     refine go6 ?_;refine J10 _ _ pp_ s0 (aZ (bW h53 (aM h54 (aM h56 (bW h58 (kE h61 rfl))))))
    refine go9 ?_;refine J10 _ _ pp_ s0 (aZ (bW h53 (aM h54 (aM h56 (hJ h58)))))
   refine f6_ ?_;refine J10 _ _ pp_ s0 (aZ (hJ h53))
  intro g62;refine go_ ?_;refine bG rfl (.inr rfl) rfl ?_
  subst_vars;exact congrArg vS0 (show _=(dA p a t b k) from aM h13 (aM h25 (aM h31 (aM h32 (aW h41 rfl)))))
 refine W_t (fP h41) rfl (go4 ?_);refine bG rfl (.inr rfl) rfl ?_
 subst_vars;exact congrArg vS0 (show _=(dA p a t b k) from aM h13 (aM h25 (aM h31 (aM h32 (aM h41 rfl)))))
end Go.Proofs.YtokjfhfiodopdaaGreat
namespace Go.Num
open Go Go.Kn
open QP (V Rb Two NN sg Sf)
theorem AP {p:List I} (hp:Rgt p) (h7:p.length≤7) {A B:Rat} (hAB:A≤B)
    (hs:∀ (K:Nat) (j:Int) (a b:Rt) (u v:Rat),K≤17→a.At u→b.At v→It A B (2 ^ K) j u v→(aD p a b).2.1=0∧(aE a b).At ((u+v)*(1 / 2))) (a b:Rt) {k:Nat} (hk:k≤16) :
    ∀ (n i:Nat) (j:Int) (m:Iv) (u v:Rat),i≤k→k<n+i→m.lo.At u→m.hi.At v→It A B (2 ^ i) j u v→¬ NN (qp p) u v→(u=A∨NN (qp p) A u) →
    ∃ (m':Iv) (j':Int) (u' v':Rat),i7 p a b (k:Int) n i m = .inl (k,m')∧m'.lo.At u'∧m'.hi.At v'∧It A B (2 ^ k) j' u' v'∧¬ NN (qp p) u' v'∧(u'=A∨NN (qp p) A u')
  | 0,i,j,m,u,v,h1,h2,_,_,_,_,_=>by omega
  | n+1,i,j,m,u,v,h1,h2,hu,hv,hi,hn,hA=>by
    unfold i7
    by_cases hik:i=k
    · subst hik
      rw [decide_eq_false (Int.lt_irrefl _),cond_false];exact ⟨m,j,u,v,rfl,hu,hv,hi,hn,hA⟩
    rw [decide_eq_true (show ((i:Nat):Int)<(k:Int) by omega),cond_true];have hm:=(hs i j m.lo m.hi u v oo_ hu hv hi).2;have he:=(hs (i+1) _ m.lo (aE m.lo m.hi) u _ oo_ hu hm hi.left).1;have so:=(o5 hp h7 hu hm he).2.2;have ml:=QG (hi.le hAB);have hh:=NN.halves (p:=qp p) ml.1 ml.2;have gu:=hi.lo.ge hAB;rw [WE hm,he];simp only [cond_false,bne_self_eq_false]
    cases hr:(aD p m.lo (aE m.lo m.hi)).1
    · have hn':¬ NN (qp p) u ((u+v)*(1 / 2)):=fun e=>by rw [so.2 e] at hr;cases hr
      exact AP hp h7 hAB hs a b hk n (i+1) _ _ u _ oo_ oo_ hu hm hi.left hn' hA
    have hy:=so.1 hr;have hn':¬ NN (qp p) ((u+v)*(1 / 2)) v:=fun e=>hn (hh.2 ⟨hy,e⟩);refine AP hp h7 hAB hs a b hk n (i+1) _ _ _ v oo_ oo_ hm hv hi.right hn' (.inr ?_);rcases hA with e|e
    · subst e;exact hy
    exact (NN.halves gu.1 ml.1).2 ⟨e,hy⟩
theorem sh7 {k:Int} (hk:0≤k∧k≤255):∃ D:Nat,D≤6∧(W.rem (W.cv k) (wl 7)).1=(D:Int):=by
  have h1:(W.cv k).1=k:=cvE oo_;refine ⟨(k % 7).toNat,by omega,?_⟩
  show (W.cv k).1.tmod 7=_
  rw [h1,Int.tmod_eq_emod_of_nonneg hk.1];omega
theorem gl_ {w:W} {D:Nat} (hD:D≤6) (h:w.1=(D:Int)):(W.shl (wl 1) w).1=((2 ^ D:Nat):Int):=by
  rcases (show D=0∨D=1∨D=2∨D=3∨D=4∨D=5∨D=6 by omega) with e|e|e|e|e|e|e<;>subst e<;>(obtain rfl:w=wl _:=W.ext h;rfl)
theorem ZL {p:List I} (hp:p.length≤1000) (x:Rt):(d7 p x).s=(aG p x).1:=by rw [MW hp]
theorem dp_ {A B:Rat} {D:Nat} {j:Int} {u v:Rat} (h:It A B (2 ^ D) j u v):v - u=(B - A)*(1 / (((2:Int) ^ D:Int):Rat)):=by
  have hl:=h.len
  have p0:(((2:Int) ^ D:Int):Rat)≠0:=fun e=>by
    have:=h.lo.p;have:=Rat.intCast_eq_zero_iff.1 e;omega
  generalize (((2:Int) ^ D:Int):Rat)=P at *;rw [← hl,Rat.div_def,Rat.one_mul];have:=Rat.mul_inv_cancel P p0
  have e:P*(v - u)*P⁻¹=(P*P⁻¹)*(v - u):=by grind
  rw [e,this,Rat.one_mul]
theorem E7 (p:List I) (a t b:Rt) (k:Int) (hk:0≤k∧k≤255):dA p a t b k=true:=by
  obtain ⟨D,hD,e7⟩:=sh7 hk;unfold dA;generalize W.rem (W.cv k) (wl 7)=w at *
  cases hc:(!(cK p a b w)||(!(cK p t t (wl 0))||((aX p)||(decide (0<(eC a t).1)||decide (0<(eC t b).1)))))
  case true=>rw [cond_true];exact uW
  rw [cond_false];simp only [Bool.or_eq_false_iff,Bool.not_eq_false',decide_eq_false_iff_not] at hc;obtain ⟨c1,c2,c3,c4,c5⟩:=hc;obtain ⟨hf,⟨A,hA,sA⟩,⟨B,hB,sB⟩,_⟩:=E8 c1;obtain ⟨_,⟨T,hT,sT⟩,_,_⟩:=E8 c2
  have hAT:A≤T:=by
    rw [← JP,PP hA hT] at c4;exact Rat.not_lt.1 c4
  have hTB:T≤B:=by
    rw [← JP,PP hT hB] at c5;exact Rat.not_lt.1 c5
  have hAB:=Rat.le_trans hAT hTB;obtain ⟨c,hp,bp⟩:=PQ hf c3;have bp:Bd c 4 32:=bp;have hr:=hp.rgt;have h7:p.length≤7:=Nat.le_trans (hp.len bp) dd_;have e1:=uA hp bp sA sB hAB hA hB;have e2:=uA hp bp sA sT hAT hA hT;have e3:=uA hp bp sT sB hTB hT hB;have n1:=(o5 hr h7 hA hB e1).2.2;have n2:=(o5 hr h7 hA hT e2).2.2;have n3:=(o5 hr h7 hT hB e3).2.2;have hh:=NN.halves (p:=qp p) hAT hTB;rw [e1,e2,e3];simp only [bne_self_eq_false,Bool.false_or]
  have hcond:(bif (aD p a t).1 then ((aD p a b).1 != (aD p t b).1) else ((aD p a b).1 != false))=false:=by
    cases r2:(aD p a t).1
    · cases r1:(aD p a b).1
      · rfl
      exact absurd (n2.2 (hh.1 (n1.1 r1)).1) (by rw [r2];decide)
    · cases r3:(aD p t b).1
      · cases r1:(aD p a b).1
        · rfl
        exact absurd (n3.2 (hh.1 (n1.1 r1)).2) (by rw [r3];decide)
      have r1:(aD p a b).1=true:=n1.2 (hh.2 ⟨n2.1 r2,n3.1 r3⟩);rw [r1];rfl
  rw [hcond];simp only [cond_false]
  have sg0:¬ (decide (w.1<0)||decide (64<w.1))=true:=by rw [e7];simp;omega
  have sg0:(decide (w.1<0)||decide (64<w.1))=false:=by simpa using sg0
  cases r1:(aD p a b).1
  · -- somewhere negative
    have hnn:¬ NN (qp p) A B:=fun e=>by rw [n1.2 e] at r1;cases r1
    have h0:p≠[]:=fun e=>hnn (by subst e;exact fun x _ _=>by rw [GM,QP.ev_C];exact Rat.le_refl);have SP:=Sp.of' hp bp h0 sA sB;obtain ⟨m',j',u',v',l1,l2,l3,l4,l5,l6⟩:=AP hr h7 hAB (fun K j a b u v hK ha hb hi=>⟨MU SP hAB oo_ ha hb hi,SP.mid oo_ ha hb hi.lo hi.hi⟩) a b (k:=D) oo_ (D+1) 0 0 ⟨a,b⟩ A B (Nat.zero_le _) oo_ hA hB (It.one A B) hnn (.inl rfl)
    have eF:dD p a b w.1=(m',true,wl 0):=by
      unfold dD;rw [sg0,e1,r1,e7];simp only [cond_false,bne_self_eq_false,Bool.or_self];rw [show ((D:Int).toNat+1)=D+1 by omega,l1];rfl
    rw [eF];simp only [cond_false];rw [show (((wl 0:W)).1 != 0||(true==false))=false from rfl,cond_false]
    have hfr:(d6 (wl 1) (W.shl (wl 1) w)).At (1 / (((2:Int) ^ D:Int):Rat)):=by
      unfold d6;rw [gl_ hD e7,show ((2 ^ D:Nat):Int)=(2:Int) ^ D by push_cast;rfl];have p0:0<(2:Int) ^ D:=Int.pow_pos dd_;refine zD B1 (BE (k:=8) (by rw [Int.natAbs_pow];exact Nat.pow_lt_pow_right dd_ oo_) dd_) p0 ?_;refine QN ?_
      have p1:(((2:Int) ^ D:Int):Rat)≠0:=fun e=>by have:=Rat.intCast_eq_zero_iff.1 e;omega
      show ((1:Int):Rat)=_
      rw [Rat.div_def,Rat.one_mul,Rat.mul_inv_cancel _ p1];rfl
    have shf:Sz (1 / (((2:Int) ^ D:Int):Rat)) 8:=bU_ (n:=1) (d:=(2:Int) ^ D) (by
      have p1:(((2:Int) ^ D:Int):Rat)≠0:=fun e=>by have:=Rat.intCast_eq_zero_iff.1 e;have:=Int.pow_pos (n:=2) (m:=D) dd_;omega
      show ((1:Int):Rat)=_
      rw [Rat.div_def,Rat.one_mul,Rat.mul_inv_cancel _ p1];rfl) (Int.pow_pos dd_) dd_ (by rw [Int.natAbs_pow];exact Nat.pow_lt_pow_right dd_ oo_)
    have hba:=V1 hB hA sB sA dd_
    have sba:Sz (B - A) 25:=by rw [Rat.sub_eq_add_neg];exact sB.add sA.neg
    have hpr:=VV hba hfr sba shf dd_;have hsub:=V1 l3 l2 (l4.hi.sz sA sB) (l4.lo.sz sA sB) oo_;rw [dp_ l4] at hsub;have heq:=JO hsub hpr;rw [heq];simp only [decide_true,Bool.and_self,cond_true];have ml:=l4.le hAB;have gu:=l4.lo.ge hAB
    have hlast:((((aD p m'.lo m'.hi).2).1 != 0)||(!(aD p m'.lo m'.hi).1))=true:=by
      by_cases he:(aD p m'.lo m'.hi).2.1=0
      · have:=(o5 hr h7 l2 l3 he).2.2
        cases hx:(aD p m'.lo m'.hi).1
        · simp
        exact absurd (this.1 hx) l5
      rw [show (((aD p m'.lo m'.hi).2).1 != 0)=true by simpa using he];rfl
    rw [hlast,uW];simp only [Bool.true_and,Bool.and_true]
    cases hz:((aD p a m'.lo).2.1 != 0)
    · have he:(aD p a m'.lo).2.1=0:=by simpa using hz
      have so:=(o5 hr h7 hA l2 he).2.2
      cases hx:(aD p a m'.lo).1
      · simp only [cond_false]
        rcases l6 with e|e
        · subst e
          have:=JO l2 hA;rw [this];simp
        rw [so.2 e] at hx;cases hx
      rfl
    rfl
  -- nowhere negative
  have eF:dD p a b w.1=(⟨⟨I0,I0⟩,⟨I0,I0⟩⟩,false,(aD p a b).2):=by
    unfold dD;rw [sg0,r1,Bool.or_true];rfl
  rw [eF]
  dsimp only
  rw [e1,ZL hp.l3]
  have nt:0≤(aG p t).1.1:=by
    cases hS:(aG p t).2
    · rw [MW hp.l3] at hS ⊢
      dsimp only at hS ⊢
      rw [ZM hS];exact Int.le_refl 0
    rw [wU hp hT hS,fo_];exact (n1.1 r1) T hAT hTB
  rw [decide_eq_true nt]
  simp [uW]
end Go.Num
