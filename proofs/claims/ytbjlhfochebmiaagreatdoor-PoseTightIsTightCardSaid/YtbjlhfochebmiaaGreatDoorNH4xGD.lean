/- Lemmas: what they ask stands in their statements. -/
import Derived.Test.YtbjlhfochebmiaaGreatDoorNZc
import Derived.Test.YtbjlhfochebmiaaGreatDoorNVd
set_option linter.unusedSimpArgs false
set_option linter.unusedVariables false
set_option maxHeartbeats 8000000
set_option maxRecDepth 20000
namespace Go.Kn
open Go.RowKit
section
variable {P:Program} {w0:World} {X:List Nat} {N:Nm} {S:Fr} {M:List Blk} {d:Option Tmp} {ty:TypeId} {ps:String} {af:Array Edge} {gd:Option (Nat×Bool)}
end
section
variable {P:Program} {w0:World} {X:List Nat} {N:Nm} {S:Fr} {M:List Blk} {d:Option Tmp} {ty:TypeId} {ps:String} {af:Array Edge} {gd:Option (Nat×Bool)}
end
section
variable {P:Program} {w0:World} {X:List Nat} {N:Nm} {S:Fr} {M:List Blk} {Q:pP}
variable {d:Option Tmp} {ty:TypeId} {ps:String} {af:Array Edge} {gd:Option (Nat×Bool)}
end
section
variable {P:Program} {w0:World} {X:List Nat} {N:Nm} {Q:pP} {S:Fr} {M:List Blk} {c:Code}
end
open Go.RowKit
section rows
variable {α:Type} {e:El α}
end rows
section
variable {α:Type} {e:El α} {P:Program} {w0:World} {X:List Nat} {N:Nm} {S:Fr} {M M':List Blk} {d:Option Tmp} {ty:TypeId} {ps:String} {af:Array Edge} {gd:Option (Nat×Bool)} {v:Value} {l:List α}
end
open Go.RowKit
section
variable {P:Program} {w0:World} {X:List Nat} {N:Nm} {S:Fr} {M:List Blk} {d:Option Tmp} {ty:TypeId} {ps:String} {af:Array Edge} {gd:Option (Nat×Bool)}
end
open Go.RowKit
section
variable {α:Type} {e:El α} {P:Program} {w0:World} {X:List Nat} {N:Nm} {S:Fr} {M:List Blk} {d:Option Tmp} {ty:TypeId} {ps:String} {af:Array Edge} {gd:Option (Nat×Bool)} {v:Value} {l:List α}
end
section
variable {α:Type} {e:El α} {w0:World} {X:List Nat} {M:List Blk} {v:Value} {l:List α}
end
open Go.RowKit
section
variable {P:Program} {w0:World} {X:List Nat} {S:Fr} {M:List Blk} {d:Option Tmp} {ty:TypeId} {p:String} {af:Array Edge} {gd:Option (Nat×Bool)}
end
end Go.Kn
namespace Go.Num
open Go Go.Kn
end Go.Num
namespace Go.Kn
open Go
section
variable {P:Program} {w0:World} {X:List Nat} {N:Nm} {Q:pP} {S:Fr} {M:List Blk} {c:Code}
end
end Go.Kn
namespace Go.Num
open Go Go.Kn
def yO:El (A3 Rt):=⟨108,fun a=>[pI a.x.n,pI a.x.d,pI a.y.n,pI a.y.d,pI a.z.n,pI a.z.d],fun _=>rfl⟩
open Go
def V0:A3 Rt:=⟨Rt0,Rt0,Rt0⟩
end Go.Num
namespace Go.Kn
open Go.RowKit
section
variable {P:Program} {w0:World} {X:List Nat} {N:Nm} {S:Fr} {M:List Blk}
variable {ops:List Oper} {Q:Fr→List Blk→Prop} {o:Oper} {l:List Oper} {v v':Value} {d:Tmp} {b c:Bool} {nw:List Nat} {MD:List Blk} {i:Nat} {ws:List Nat} {r:Plan}
section
variable {g:FuncId} {xs:List Operand} {tys:Array TypeId} {args:List Value} {ty:TypeId} {ps:String} {af:Array Edge} {gd:Option (Nat×Bool)}
end
theorem fl {A K:Fr→List Blk→Prop} (hK:∀ S M,A S M→K S M) (h:A S M):PL P w0 X N ops nw MD K .fin S M:=hK _ _ h
end
section
variable {P:Program} {w0:World} {X:List Nat} {N:Nm} {S:Fr} {M:List Blk} {d:Option Tmp} {ty:TypeId} {ps:String} {af:Array Edge} {gd:Option (Nat×Bool)}
end
section
variable {P:Program} {w0:World} {X:List Nat} {N:Nm} {S:Fr} {M:List Blk} {Q:pP}
end
section
variable {P:Program} {w0:World} {X:List Nat} {N:Nm} {S:Fr} {M:List Blk} {Q:pP}
end
section
variable {α:Type} {e:El α} {w0 w:World} {X:List Nat} {M M' L:List Blk} {v:Value} {l:List α} {E:TypeId}
end
open Go.RowKit
section
variable {P:Program} {T f:Nat}
end
section
variable {P:Program} {w0:World} {X:List Nat} {N:Nm} {S:Fr} {M MD:List Blk} {Q:pP} {x y c:Code} {id n:Nat} {ops:List Oper} {nw:List Nat} {p:Plan}
variable {Qf:Fr→List Blk→Prop} {l:List Oper} {d:Option Tmp} {dd:Tmp} {ty:TypeId} {ps:String} {af:Array Edge} {gd:Option (Nat×Bool)} {T U:TypeId} {xo yo:Operand} {v:Value}
end
section
variable {P:Program} {w0:World} {X:List Nat} {N:Nm} {S:Fr} {M MD:List Blk} {Q:pP} {Qf:Fr→List Blk→Prop} {c:Code} {ops l:List Oper} {nw:List Nat} {p:Plan} {d:Option Tmp} {ty:TypeId} {ps:String} {af:Array Edge} {gd:Option (Nat×Bool)} {T:TypeId} {x y:Operand} {f:Nat}
end
end Go.Kn
namespace Go.Num
open Go Go.Kn Go.RowKit Go.ChangeShapes Go.WideShapes
section
variable {H:Type} {enc:TypeId×Value→H} {P:Program} {w:World} {base:Nat} {spare:Nat→Bool} {held:Bool}
end
open Go Go.Kn Go.RowKit
end Go.Num
namespace Go.Proofs.YtbjlhfochebmiaaGreatDoor
open Go.Kn Go.Num Tryz
section
variable {w0:World} {X:List Nat} {N:Nm} {S:Fr} {M MD:List Blk} {Q:pP} {y:Code} {id:Nat} {ops:List Oper}
end
theorem F8:mH prog 65=some 108:=by kernel_rfl
theorem e1_:(prog.info? 42).map (·.size)=some 108:=by kernel_rfl
theorem ce_:prog.underlying 65=some (.slice 42):=by kernel_rfl
theorem f2_:mQ prog 42=some ((([.bool false]++[.bool false]++(List.replicate 16 (.int .u32 0)))++([.bool false]++[.bool false]++(List.replicate 16 (.int .u32 0))))++(([.bool false]++[.bool false]++(List.replicate 16 (.int .u32 0)))++([.bool false]++[.bool false]++(List.replicate 16 (.int .u32 0))))++(([.bool false]++[.bool false]++(List.replicate 16 (.int .u32 0)))++([.bool false]++[.bool false]++(List.replicate 16 (.int .u32 0))))):=by kernel_rfl
section
variable {w0:World} {X:List Nat} {N:Nm} {fn:Func} {R:Value→List Blk→Prop} {S:Fr} {M:List Blk} {r r1 r2:ResultVar} {v v1 v2 v':Value} {ops:List Oper} {Q:Fr→List Blk→Prop} {d:Tmp} {l:List Oper}
section
variable {g:FuncId} {xs:List Operand} {tys:Array TypeId} {args:List Value} {ty:TypeId} {ps:String} {af:Array Edge} {gd:Option (Nat×Bool)}
end
end
end Go.Proofs.YtbjlhfochebmiaaGreatDoor
namespace Go.Num
open Go Go.Kn
def o5 (a:(A3 Rt)) (b:(A3 Rt)):(A3 Rt) :=
 (⟨(e7 a.x b.x),(e7 a.y b.y),(e7 a.z b.z)⟩:(A3 Rt))
def gK (a:Rt):W :=
 bif (cQ a) then (Z.signW a.n.dec) else (wl 0)
end Go.Num
namespace Go.Proofs.YtbjlhfochebmiaaGreatDoor
open Go.Kn Go.Num Tryz
attribute [local irreducible] Go.Kn.W WL PL OpQ OpR OpS
theorem qH (a:Rt) :
   Ret prog 43 [AV [pI a.n,pI a.d]] (.int .i64 ((gK a).1)):=by
 refine bJ (N:=9) func43 O O zz_ (fun w0=>?_);refine giI ?_;refine go2 ?_;intro b1 hb1;refine go5 ?_;refine sQ (aX aE (kK a) O) O (go2 ?_);rcases bt (cQ a) with h2|h2
 ·refine W_f (fZ h2) O (go4 ?_);refine sC (.int .i64 ((Z.signW a.n.dec).1)) aE (iR a.n.1 a.n.2) O O O (go3 ?_);refine rt1 ?_;exact congrArg vS6 (show _=(gK a) from aC h2 O)
 refine W_t (gA h2) O (go4 ?_);refine rt1 ?_;exact congrArg vS6 (show _=(gK a) from aH h2 O)
end Go.Proofs.YtbjlhfochebmiaaGreatDoor
namespace Go.Num
open Go Go.Kn
theorem aj_ (a b:A3 Rt):lV a b=o5 a b:=by unfold lV o5;rw [HG,HG,HG]
def bD (a:Rt):I :=
 bif (cQ a) then (E (Z.quo a.n.dec a.d.dec)) else (E Z.bad)
def aZ (a:Rt):I :=
 (E (Z.neg (bD (k5 a)).dec))
theorem ak_ (a:Rt):gK a=gW a:=by unfold gK gW;rw [sH]
theorem ZO {x:Int}:x.sign<0 ↔ x<0:=Int.sign_neg_iff
theorem HH {a:Rt} {p q:Rat} (ha:a.At p) (hb:a.At q):p=q:=by
 have h1:=RJ ha.hn hb.hn (WC (ha.en.symm.trans hb.en));have h2:=RJ ha.hd hb.hd (WC (ha.ed.symm.trans hb.ed));exact Rat.ext h1 oo_
theorem WB {a b:Rt} {p q:Rat} (ha:a.At p) (hb:b.At q):(cH a b).1<0 ↔ p<q:=by
 rw [QK ha hb,ZO,Rat.lt_iff];omega
theorem ci_ {a b:Rt} {p q:Rat} {j k:Nat} (ha:a.At p) (hb:b.At q) (hp:Sz p j) (hq:Sz q k) (h:j+k+1≤512):(e7 a b).At (p+q):=by
 unfold e7;rw [wT ha,wT hb];simp only [Bool.not_true,Bool.or_false,cond_false];have ia:=At.is ha;have ib:=At.is hb;rw [ia.en,ia.ed,ib.en,ib.ed];simp only [dQ];have hdp:=@uT p;have hdq:=@uT q
 have hg:0<((Int.gcd (p.den:Int) (q.den:Int):Nat):Int):=by
  have:=Int.gcd_pos_of_ne_zero_right (p.den:Int) (show (q.den:Int)≠0 by omega);omega
 have hbg:=OR (u:=(p.den:Int)) ib.hd oo_;have g1:((Int.gcd (p.den:Int) (q.den:Int):Nat):Int) ∣ (p.den:Int):=Int.gcd_dvd_left ..;have g2:((Int.gcd (p.den:Int) (q.den:Int):Nat):Int) ∣ (q.den:Int):=Int.gcd_dvd_right ..;rw [B9 ia.hd ib.hd,AO ib.hd hbg hg,AO ia.hd hbg hg];generalize ((Int.gcd (p.den:Int) (q.den:Int):Nat):Int)=G at *;obtain ⟨x,hx⟩:=g1;obtain ⟨y,hy⟩:=g2
 have q1:(p.den:Int) / G=x:=by rw [hx];exact Int.mul_ediv_cancel_left _ oo_
 have q2:(q.den:Int) / G=y:=by rw [hy];exact Int.mul_ediv_cancel_left _ oo_
 rw [q1,q2]
 have x0:0<x:=by rw [hx] at hdp;exact Int.pos_of_mul_pos_right hdp hg
 have y0:0<y:=by rw [hy] at hdq;exact Int.pos_of_mul_pos_right hdq hg
 have xl:x≤p.den:=by rw [hx];have:=Int.mul_le_mul_of_nonneg_right (show (1:Int)≤G by omega) (Int.le_of_lt x0);omega
 have yl:y≤q.den:=by rw [hy];have:=Int.mul_le_mul_of_nonneg_right (show (1:Int)≤G by omega) (Int.le_of_lt y0);omega
 have x1:x.toNat<2 ^ j:=Nat.lt_of_le_of_lt oo_ hp.d;have y1:y.toNat<2 ^ k:=Nat.lt_of_le_of_lt oo_ hq.d
 have xe:x=(x.toNat:Int):=by omega
 have ye:y=(y.toNat:Int):=by omega
 have bx:e9 x:=uI (k:=j) (by rw [xe,Int.natAbs_natCast];exact x1) oo_
 have by':e9 y:=uI (k:=k) (by rw [ye,Int.natAbs_natCast];exact y1) oo_
 rw [qE ia.hn by',qE ib.hn bx,qE bx ib.hd]
 have t1:(p.num*y).natAbs<2 ^ (j+k):=by rw [Int.natAbs_mul];exact pT hp.n oo_
 have t2:(q.num*x).natAbs<2 ^ (j+k):=by rw [Int.natAbs_mul,Nat.mul_comm];exact pT oo_ hq.n
 have t3:(x*(q.den:Int)).natAbs<2 ^ (j+k):=by rw [Int.natAbs_mul];exact pT oo_ (by simpa using hq.d)
 rw [DS (uI t1 oo_) (uI t2 oo_)]
 have t4:(p.num*y+q.num*x).natAbs<2 ^ (j+k+1):=by rw [Nat.pow_succ];omega
 refine x9 (uI t4 h) (uI t3 oo_) (Int.mul_pos x0 hdq) ?_
 have key:p+q=Rat.divInt (p.num*y+q.num*x) (x*q.den):=by
  conv=>lhs;rw [← Rat.num_divInt_den p,← Rat.num_divInt_den q,Rat.divInt_add_divInt _ _ oo_ oo_]
  refine (Rat.divInt_eq_divInt_iff (Int.mul_ne_zero oo_ oo_) (Int.mul_ne_zero oo_ oo_)).2 ?_;rw [hx,hy];grind
 have h3:=Rat.num_divInt_den (p+q);rw [key] at h3 ⊢;have h4:=(Rat.divInt_eq_divInt_iff (by have:=@uT (Rat.divInt (p.num*y+q.num*x) (x*q.den));omega) (Int.mul_ne_zero oo_ oo_)).1 h3;exact h4
theorem WK {a b:Rt} {p q:Rat} {j k:Nat} (ha:a.At p) (hb:b.At q) (hp:Sz p j) (hq:Sz q k) (h:j+k+1≤512):(i7 a b).At (p - q):=by
 unfold i7;rw [Rat.sub_eq_add_neg];exact ci_ ha (QL hb) hp hq.neg h
theorem fU_ (a b c d:W):dD [a,b,c,d]=W.add (W.add (wl 0) (W.mul a b)) (W.mul c d):=rfl
theorem fV_ (a b c d e f:W):dD [a,b,c,d,e,f]=W.add (W.add (W.add (wl 0) (W.mul a b)) (W.mul c d)) (W.mul e f):=rfl
theorem gz {a n:Int} {u:Bool} (h:(a==0)=true):(decide (a<0)||(decide ((n.toNat:Int)<a) || !u)) = !u:=by
 have:a=0:=by simpa using h
 subst this
 cases u
 ·simp
 rw [Bool.eq_iff_iff];simp;omega
theorem Bd.cz {c:Nat→Int} {n b:Nat} (h:Bd c n b):∀ i,n≤i→cR c i=0:=fun i hi=>by unfold cR;rw [h.z i hi];rfl
section
variable {n t:A3 W} {b c:Int}
end
section
variable {a b:A3 Rt} {x y z u v w:Rat} {A B C D:Nat}
theorem eD_ {E:Nat} (ha:V3 a x y z A B) (hb:V3 b u v w C D) (h1:A+D<E) (h2:C+B<E) (hE:E≤512) (h3:B+D≤512):V3 (o5 a b) (x+u) (y+v) (z+w) E (B+D) :=
 ⟨E8 ha.hx hb.hx ha.sx hb.sx oo_ oo_ h3,E8 ha.hy hb.hy ha.sy hb.sy oo_ oo_ h3,E8 ha.hz hb.hz ha.sz hb.sz oo_ oo_ h3,ha.sx.add hb.sx h1 h2,ha.sy.add hb.sy h1 h2,ha.sz.add hb.sz h1 h2⟩
end
open Go Go.Kn
section
variable {w w':W} {v v':Int} {b b':Nat}
theorem Wv.self (h:w.1.natAbs<2 ^ b):Wv w w.1 b:=⟨rfl,h⟩
end
theorem Z2 (q:A4 W) (v:A3 W):jW q v=⟨dD [(fR q).x0,v.x,(fR q).x1,v.y,(fR q).x2,v.z],dD [(fR q).x3,v.x,(fR q).x4,v.y,(fR q).x5,v.z],dD [(fR q).x6,v.x,(fR q).x7,v.y,(fR q).x8,v.z]⟩:=rfl
theorem bD_ {q:A4 W} (hq:q.i.Lw 65) {v:A3 W} (hv:Vin v):Mv q v:=by
 obtain ⟨h1,h2,h3,h4⟩:=hq;have g1:q.x.1.natAbs<65:=h1;have g2:q.y.1.natAbs<65:=h2;have g3:q.z.1.natAbs<65:=h3;have g4:q.t.1.natAbs<65:=h4;have x:=Wv.self (w:=q.x) (b:=7) oo_;have y:=Wv.self (w:=q.y) (b:=7) oo_;have z:=Wv.self (w:=q.z) (b:=7) oo_;have t:=Wv.self (w:=q.t) (b:=7) oo_;have nx:=x.neg dd_;have ny:=y.neg dd_;have nz:=z.neg dd_;have nt:=t.neg dd_;have vx:=Wv.self hv.1;have vy:=Wv.self hv.2.1;have vz:=Wv.self hv.2.2;have two:Wv (wl 2) 2 2:=⟨rfl,by decide⟩;have m:∀ {p r:W} {u w:Int},Wv p u 7→Wv r w 7→Wv (W.mul p r) (u*w) 14:=fun h g=>h.mul g dd_
 have s4:∀ {a b c d:W} {i j k l:Int},Wv a i 7→Wv b j 7→Wv c k 7→Wv d l 7→Wv (W.mul (wl 2) (dD [a,b,c,d])) (2*(0+i*j+k*l)) 18:=fun h g k l=>by
  rw [fU_];exact two.mul (((Wv.zero 14).add (m h g) dd_).add ((m k l).mono dd_) dd_) dd_
 have s8:∀ {a b c d e f g h:W} {i j k l n o r s:Int},Wv a i 7→Wv b j 7→Wv c k 7→Wv d l 7→Wv e n 7→Wv f o 7→Wv g r 7→Wv h s 7→Wv (dD [a,b,c,d,e,f,g,h]) (0+i*j+k*l+n*o+r*s) 18:=fun a b c d e f g h=>by
  rw [eZ_];exact ((((Wv.zero 14).add (m a b) dd_).add ((m c d).mono dd_) dd_).add ((m e f).mono dd_) dd_).add ((m g h).mono dd_) dd_
 have ro:∀ {a b c:W} {u w i:Int},Wv a u 18→Wv b w 18→Wv c i 18→Wv (dD [a,v.x,b,v.y,c,v.z]) (0+u*v.x.1+w*v.y.1+i*v.z.1) 40:=fun h g k=>by
  rw [fV_];exact (((Wv.zero 37).add (h.mul vx dd_) dd_).add ((g.mul vy dd_).mono dd_) dd_).add ((k.mul vz dd_).mono dd_) dd_
 have M:=Z2 q v;refine ⟨?_,?_,?_⟩<;>rw [M]
 ·exact ro (s8 x x y y nz z nt t) (s4 y z nx t) (s4 y t x z)
 ·exact ro (s4 y z x t) (s8 x x ny y z z nt t) (s4 z t nx y)
 exact ro (s4 y t nx z) (s4 z t x y) (s8 x x ny y nz z t t)
theorem PZ {q:A4 W} (hq:q.i.Lw 65) (h0:¬ q.i.zero):Wv (lY q) (q.x.1*q.x.1+q.y.1*q.y.1+q.z.1*q.z.1+q.t.1*q.t.1) 17∧0<q.x.1*q.x.1+q.y.1*q.y.1+q.z.1*q.z.1+q.t.1*q.t.1:=by
 have e:=IF hq hq;obtain ⟨h1,h2,h3,h4⟩:=hq;have g1:q.x.1.natAbs<65:=h1;have g2:q.y.1.natAbs<65:=h2;have g3:q.z.1.natAbs<65:=h3;have g4:q.t.1.natAbs<65:=h4;have m1:=o7 (u:=q.x.1) (v:=q.x.1) (b:=7) (b':=7) oo_ oo_;have m2:=o7 (u:=q.y.1) (v:=q.y.1) (b:=7) (b':=7) oo_ oo_;have m3:=o7 (u:=q.z.1) (v:=q.z.1) (b:=7) (b':=7) oo_ oo_;have m4:=o7 (u:=q.t.1) (v:=q.t.1) (b:=7) (b':=7) oo_ oo_;have p':1≤q.x.1*q.x.1+q.y.1*q.y.1+q.z.1*q.z.1+q.t.1*q.t.1:=sq4 h0;exact ⟨⟨e,by omega⟩,by omega⟩
theorem Q2 {u w:W} {a b:Int} {k j:Nat} (hu:Wv u a k) (hw:Wv w b j) (h0:0<b) (hk:k≤512) (hj:j≤512):(i6 u w).At ((a:Rat) / (b:Rat))∧Az ((a:Rat) / (b:Rat)) k j:=by
 have b0:(b:Rat)≠0:=fun e=>by have:=Rat.intCast_eq_zero_iff.1 e;omega
 have e:(a:Rat)=(b:Rat)*((a:Rat) / (b:Rat)):=by rw [Rat.mul_comm];exact (Rat.div_mul_cancel b0).symm
 refine ⟨?_,SJ e h0 hu.2 hw.2⟩;unfold i6;simp only;rw [CV,hu.1,hw.1];exact x9 (uI hu.2 hk) (uI hw.2 hj) h0 (TF e)
theorem N6 {p:Pose} (hq:p.q.i.Lw 65∧¬ p.q.i.zero) (hx:p.x.x.1.natAbs<2 ^ 47∧p.x.y.1.natAbs<2 ^ 47∧p.x.z.1.natAbs<2 ^ 47) {v:A3 W} (hv:Vin v) :
  V3 (fA p v) ((p.x.x.1:Rat)+rqx p.q.x.1 p.q.y.1 p.q.z.1 p.q.t.1 v.x.1 v.y.1 v.z.1 / rqn p.q.x.1 p.q.y.1 p.q.z.1 p.q.t.1) ((p.x.y.1:Rat)+rqy p.q.x.1 p.q.y.1 p.q.z.1 p.q.t.1 v.x.1 v.y.1 v.z.1 / rqn p.q.x.1 p.q.y.1 p.q.z.1 p.q.t.1) ((p.x.z.1:Rat)+rqz p.q.x.1 p.q.y.1 p.q.z.1 p.q.t.1 v.x.1 v.y.1 v.z.1 / rqn p.q.x.1 p.q.y.1 p.q.z.1 p.q.t.1) 70 18:=by
 obtain ⟨sc,sp⟩:=PZ hq.1 hq.2;have tm:=bD_ hq.1 hv;obtain ⟨a1,z1⟩:=Q2 tm.x sc sp dd_ dd_;obtain ⟨a2,z2⟩:=Q2 tm.y sc sp dd_ dd_;obtain ⟨a3,z3⟩:=Q2 tm.z sc sp dd_ dd_;have c2:((2:Int):Rat)=2:=rfl
 have eN:((p.q.x.1*p.q.x.1+p.q.y.1*p.q.y.1+p.q.z.1*p.q.z.1+p.q.t.1*p.q.t.1:Int):Rat)=rqn p.q.x.1 p.q.y.1 p.q.z.1 p.q.t.1:=by
  unfold rqn;simp only [Rat.intCast_add,Rat.intCast_mul];grind
 have c0:((0:Int):Rat)=0:=rfl
 have e1:((0+(0+p.q.x.1*p.q.x.1+p.q.y.1*p.q.y.1 + -p.q.z.1*p.q.z.1 + -p.q.t.1*p.q.t.1)*v.x.1+2*(0+p.q.y.1*p.q.z.1 + -p.q.x.1*p.q.t.1)*v.y.1+2*(0+p.q.y.1*p.q.t.1+p.q.x.1*p.q.z.1)*v.z.1:Int):Rat)=rqx p.q.x.1 p.q.y.1 p.q.z.1 p.q.t.1 v.x.1 v.y.1 v.z.1:=by
  unfold rqx;simp only [Rat.intCast_add,Rat.intCast_mul,Rat.intCast_neg,c0,c2];grind
 have e2:((0+2*(0+p.q.y.1*p.q.z.1+p.q.x.1*p.q.t.1)*v.x.1+(0+p.q.x.1*p.q.x.1 + -p.q.y.1*p.q.y.1+p.q.z.1*p.q.z.1 + -p.q.t.1*p.q.t.1)*v.y.1+2*(0+p.q.z.1*p.q.t.1 + -p.q.x.1*p.q.y.1)*v.z.1:Int):Rat)=rqy p.q.x.1 p.q.y.1 p.q.z.1 p.q.t.1 v.x.1 v.y.1 v.z.1:=by
  unfold rqy;simp only [Rat.intCast_add,Rat.intCast_mul,Rat.intCast_neg,c0,c2];grind
 have e3:((0+2*(0+p.q.y.1*p.q.t.1 + -p.q.x.1*p.q.z.1)*v.x.1+2*(0+p.q.z.1*p.q.t.1+p.q.x.1*p.q.y.1)*v.y.1+(0+p.q.x.1*p.q.x.1 + -p.q.y.1*p.q.y.1 + -p.q.z.1*p.q.z.1+p.q.t.1*p.q.t.1)*v.z.1:Int):Rat)=rqz p.q.x.1 p.q.y.1 p.q.z.1 p.q.t.1 v.x.1 v.y.1 v.z.1:=by
  unfold rqz;simp only [Rat.intCast_add,Rat.intCast_mul,Rat.intCast_neg,c0,c2];grind
 rw [e1,eN] at a1 z1;rw [e2,eN] at a2 z2;rw [e3,eN] at a3 z3;generalize rqx (p.q.x.1:Rat) p.q.y.1 p.q.z.1 p.q.t.1 v.x.1 v.y.1 v.z.1 / rqn (p.q.x.1:Rat) p.q.y.1 p.q.z.1 p.q.t.1=rx at a1 z1 ⊢;generalize rqy (p.q.x.1:Rat) p.q.y.1 p.q.z.1 p.q.t.1 v.x.1 v.y.1 v.z.1 / rqn (p.q.x.1:Rat) p.q.y.1 p.q.z.1 p.q.t.1=ry at a2 z2 ⊢;generalize rqz (p.q.x.1:Rat) p.q.y.1 p.q.z.1 p.q.t.1 v.x.1 v.y.1 v.z.1 / rqn (p.q.x.1:Rat) p.q.y.1 p.q.z.1 p.q.t.1=rz at a3 z3 ⊢
 have R:V3 (lA p.q v) rx ry rz 40 17:=by
  unfold lA;refine ⟨?_,?_,?_,z1,z2,z3⟩
  ·dsimp only;exact a1
  ·dsimp only;exact a2
  dsimp only;exact a3
 have P:=eD_ (E:=70) (of3 (n:=p.x) hx.1 hx.2.1 hx.2.2) R dd_ dd_ dd_ dd_
 have e:fA p v=o5 (tP p.x) (lA p.q v):=by
  unfold fA;simp only [WN,aj_]
 rw [e];exact P
theorem WW {p:Pose} (hq:p.q.i.Lw 65∧¬ p.q.i.zero) (hx:p.x.x.1.natAbs<2 ^ 47∧p.x.y.1.natAbs<2 ^ 47∧p.x.z.1.natAbs<2 ^ 47) {v:A3 W} (hv:Vin v) :
  Pv (fA p v) ((p.x.x.1:Rat)+rqx p.q.x.1 p.q.y.1 p.q.z.1 p.q.t.1 v.x.1 v.y.1 v.z.1 / rqn p.q.x.1 p.q.y.1 p.q.z.1 p.q.t.1) ((p.x.y.1:Rat)+rqy p.q.x.1 p.q.y.1 p.q.z.1 p.q.t.1 v.x.1 v.y.1 v.z.1 / rqn p.q.x.1 p.q.y.1 p.q.z.1 p.q.t.1) ((p.x.z.1:Rat)+rqz p.q.x.1 p.q.y.1 p.q.z.1 p.q.t.1 v.x.1 v.y.1 v.z.1 / rqn p.q.x.1 p.q.y.1 p.q.z.1 p.q.t.1):=by
 have P:=N6 hq hx hv;exact ⟨P.hx,P.hy,P.hz⟩
variable {h:Path} {v:A3 W} {t:Rt} {q:Rat}
end Go.Num
namespace Go.Num
open Go Go.Kn
theorem cL_ {p:Pose} (hq:p.q.i.Lw 65∧¬ p.q.i.zero) (hx:p.x.x.1.natAbs<2 ^ 47∧p.x.y.1.natAbs<2 ^ 47∧p.x.z.1.natAbs<2 ^ 47) {v:A3 W} (hv:Vin v) {r:Int} (r0:0≤r) (hr:v.x.1*v.x.1+v.y.1*v.y.1+v.z.1*v.z.1≤r*r) :
  Bx (fA p v) ⟨p.x.x.1 - r,p.x.y.1 - r,p.x.z.1 - r⟩ ⟨p.x.x.1+r,p.x.y.1+r,p.x.z.1+r⟩:=by
 have P:=WW hq hx hv
 have np:0<rqn (p.q.x.1:Rat) p.q.y.1 p.q.z.1 p.q.t.1:=by
  have:=Rat.intCast_pos.2 (PZ hq.1 hq.2).2;simp only [Rat.intCast_add,Rat.intCast_mul] at this;unfold rqn;grind
 obtain ⟨l1,l2,l3⟩:=TQ (x:=v.x.1) (y:=v.y.1) (z:=v.z.1) np;have hr':=eY_ hr;have rr:(0:Rat)≤(r:Rat):=Rat.intCast_nonneg.2 r0;have s1:=LF rr (Rat.le_trans l1 hr');have s2:=LF rr (Rat.le_trans l2 hr');have s3:=LF rr (Rat.le_trans l3 hr');refine ⟨⟨_,P.x,?_,?_⟩,⟨_,P.y,?_,?_⟩,⟨_,P.z,?_,?_⟩⟩<;>simp only [Rat.intCast_sub,Rat.intCast_add]<;>grind
theorem KP {a:Bool} {c:List (A3 W)} (h:(a || !e8 c)=false):1≤c.length∧c.length≤10:=by
 have h:=(Bool.or_eq_false_iff.1 h).2;have k:=XL (by simpa using h);exact ⟨List.length_pos_iff.2 k.1,k.2.1⟩
theorem OP {a b d:Bool} {c:List (A3 W)} (h:(a||(b||(!e8 c||d)))=false):1≤c.length∧c.length≤10 :=
 KP (a:=false) (by
  have h:=(Bool.or_eq_false_iff.1 (Bool.or_eq_false_iff.1 (Bool.or_eq_false_iff.1 h).2).2).1
  rw [h];rfl)
def jV (p:Pose) (c:(List (A3 W))):List (A3 W)→(List (A3 Rt))→List (A3 Rt)
 | [],out=>out
 | x0::l0,out=>let r8:(A3 Rt):=(fA p x0)
 (jV p c l0 (out++[r8]))
def aA (p:Pose) (c:(List (A3 W))):(List (A3 Rt)) :=
 ap (fun (s:List (A3 Rt))=>let out:List (A3 Rt):=s
 out) (jV p c c ([]:List (A3 Rt)))
theorem F1 (p:Pose) (c:List (A3 W)):∀ (l:List (A3 W)) (out:List (A3 Rt)),jV p c l out=out++l.map (fA p)
 | [],out=>by unfold jV;simp
 | x::l,out=>by
  unfold jV
  dsimp only
  rw [F1 p c l];simp
theorem xL (p:Pose) (c:List (A3 W)):aA p c=c.map (fA p):=by
 unfold aA;rw [F1,List.nil_append];rfl
theorem lH (p:Pose) (c:List (A3 W)):(aA p c).length=c.length:=by rw [xL,List.length_map]
def lJ (p:Pose) (c:(List (A3 W))):Nat→Nat→(A3 W)→(A3 W)→Nat×(A3 W)×(A3 W)
 | 0,k,mb4,mb3=>(k,mb4,mb3)
 | k0+1,k,mb4,mb3=>bif decide ((k:Int)<((aA p c).length:Int)) then (let r45:(A3 W):=(⟨(W.max (bif ((k:Int)==0) then (Z.smallW (aZ (((aA p c).getD k V0).x)).dec) else mb4.x) (Z.smallW (aZ (((aA p c).getD k V0).x)).dec)),mb4.y,mb4.z⟩:(A3 W))
 let r46:(A3 W):=(⟨(W.min (bif ((k:Int)==0) then (Z.smallW (bD (((aA p c).getD k V0).x)).dec) else mb3.x) (Z.smallW (bD (((aA p c).getD k V0).x)).dec)),mb3.y,mb3.z⟩:(A3 W))
 let r54:(A3 W):=(⟨r45.x,(W.max (bif ((k:Int)==0) then (Z.smallW (aZ (((aA p c).getD k V0).y)).dec) else r45.y) (Z.smallW (aZ (((aA p c).getD k V0).y)).dec)),r45.z⟩:(A3 W))
 let r55:(A3 W):=(⟨r46.x,(W.min (bif ((k:Int)==0) then (Z.smallW (bD (((aA p c).getD k V0).y)).dec) else r46.y) (Z.smallW (bD (((aA p c).getD k V0).y)).dec)),r46.z⟩:(A3 W))
 let r63:(A3 W):=(⟨r54.x,r54.y,(W.max (bif ((k:Int)==0) then (Z.smallW (aZ (((aA p c).getD k V0).z)).dec) else r54.z) (Z.smallW (aZ (((aA p c).getD k V0).z)).dec))⟩:(A3 W))
 let r64:(A3 W):=(⟨r55.x,r55.y,(W.min (bif ((k:Int)==0) then (Z.smallW (bD (((aA p c).getD k V0).z)).dec) else r55.z) (Z.smallW (bD (((aA p c).getD k V0).z)).dec))⟩:(A3 W))
 (lJ p c k0 (k+1) r63 r64)) else (k,mb4,mb3)
def aG (p:Pose) (c:(List (A3 W))):(A3 W)×(A3 W) :=
 ap (fun (s:Nat×(A3 W)×(A3 W))=>let k:Nat:=s.1
 let mb4:(A3 W):=s.2.1
 let mb3:(A3 W):=s.2.2
 (mb3,mb4)) (lJ p c ((aA p c).length+1) 0 (⟨(wl 0),(wl 0),(wl 0)⟩:(A3 W)) (⟨(wl 0),(wl 0),(wl 0)⟩:(A3 W)))
def cU (p:Pose) (c:(List (A3 W))):List (A3 Rt)→Bool→Bool→(Bool×Bool) ⊕ (Bool)
 | [],low_0,high_0=>.inl (low_0,high_0)
 | x0::l0,low_0,high_0=>let r67:W:=(gK (bQ x0.x (aJ (((aG p c).1).x))))
 bif decide (r67.1<0) then (.inr false) else (let r69:W:=(gK (bQ (aJ (((aG p c).2).x)) x0.x))
 bif decide (r69.1<0) then (.inr false) else (bif low_0 then (bif high_0 then (cU p c l0 true true) else (let r73:W:=(cH (bQ (aJ (((aG p c).2).x)) x0.x) (aJ (wl 1)))
 (cU p c l0 true (decide (r73.1<0))))) else (let r74:W:=(cH (bQ x0.x (aJ (((aG p c).1).x))) (aJ (wl 1)))
 bif high_0 then (cU p c l0 (decide (r74.1<0)) true) else (let r76:W:=(cH (bQ (aJ (((aG p c).2).x)) x0.x) (aJ (wl 1)))
 (cU p c l0 (decide (r74.1<0)) (decide (r76.1<0)))))))
def cV (p:Pose) (c:(List (A3 W))) (low_0:Bool) (high_0:Bool):List (A3 Rt)→Bool→Bool→(Bool×Bool) ⊕ (Bool)
 | [],low_1,high_1=>.inl (low_1,high_1)
 | x1::l1,low_1,high_1=>let r127:W:=(gK (bQ x1.y (aJ (((aG p c).1).y))))
 bif decide (r127.1<0) then (.inr false) else (let r129:W:=(gK (bQ (aJ (((aG p c).2).y)) x1.y))
 bif decide (r129.1<0) then (.inr false) else (bif low_1 then (bif high_1 then (cV p c low_0 high_0 l1 true true) else (let r133:W:=(cH (bQ (aJ (((aG p c).2).y)) x1.y) (aJ (wl 1)))
 (cV p c low_0 high_0 l1 true (decide (r133.1<0))))) else (let r134:W:=(cH (bQ x1.y (aJ (((aG p c).1).y))) (aJ (wl 1)))
 bif high_1 then (cV p c low_0 high_0 l1 (decide (r134.1<0)) true) else (let r136:W:=(cH (bQ (aJ (((aG p c).2).y)) x1.y) (aJ (wl 1)))
 (cV p c low_0 high_0 l1 (decide (r134.1<0)) (decide (r136.1<0)))))))
def cW (p:Pose) (c:(List (A3 W))) (low_0:Bool) (high_0:Bool) (low_1:Bool) (high_1:Bool):List (A3 Rt)→Bool→Bool→(Bool×Bool) ⊕ (Bool)
 | [],low_2,high_2=>.inl (low_2,high_2)
 | x2::l2,low_2,high_2=>let r187:W:=(gK (bQ x2.z (aJ (((aG p c).1).z))))
 bif decide (r187.1<0) then (.inr false) else (let r189:W:=(gK (bQ (aJ (((aG p c).2).z)) x2.z))
 bif decide (r189.1<0) then (.inr false) else (bif low_2 then (bif high_2 then (cW p c low_0 high_0 low_1 high_1 l2 true true) else (let r193:W:=(cH (bQ (aJ (((aG p c).2).z)) x2.z) (aJ (wl 1)))
 (cW p c low_0 high_0 low_1 high_1 l2 true (decide (r193.1<0))))) else (let r194:W:=(cH (bQ x2.z (aJ (((aG p c).1).z))) (aJ (wl 1)))
 bif high_2 then (cW p c low_0 high_0 low_1 high_1 l2 (decide (r194.1<0)) true) else (let r196:W:=(cH (bQ (aJ (((aG p c).2).z)) x2.z) (aJ (wl 1)))
 (cW p c low_0 high_0 low_1 high_1 l2 (decide (r194.1<0)) (decide (r196.1<0)))))))
def bK (p:Pose) (c:(List (A3 W))):Bool :=
 bif (((cZ p).1 != 0)||(!(e8 c))) then fH else (sm (fun (s_:Bool×Bool)=>let low_0:Bool:=s_.1
 let high_0:Bool:=s_.2
 bif low_0 then (bif high_0 then (bif decide ((((aG p c).1).x).1<(((aP (aW p) c).1).x).1) then false else (bif decide ((((aP (aW p) c).2).x).1<(((aG p c).2).x).1) then false else (sm (fun (s_:Bool×Bool)=>let low_1:Bool:=s_.1
 let high_1:Bool:=s_.2
 bif low_1 then (bif high_1 then (bif decide ((((aG p c).1).y).1<(((aP (aW p) c).1).y).1) then false else (bif decide ((((aP (aW p) c).2).y).1<(((aG p c).2).y).1) then false else (sm (fun (s:Bool×Bool)=>let low_2:Bool:=s.1
 let high_2:Bool:=s.2
 bif low_2 then (bif high_2 then (bif decide ((((aG p c).1).z).1<(((aP (aW p) c).1).z).1) then false else (bif decide ((((aP (aW p) c).2).z).1<(((aG p c).2).z).1) then false else fH)) else false) else false) (fun r=>r) (cW p c low_0 high_0 low_1 high_1 (aA p c) false false)))) else false) else false) (fun r=>r) (cV p c low_0 high_0 (aA p c) false false)))) else false) else false) (fun r=>r) (cU p c (aA p c) false false))
end Go.Num
namespace Go.Proofs.YtbjlhfochebmiaaGreatDoor
open Go.Kn Go.Num Tryz
attribute [local irreducible] Go.Kn.W WL PL OpQ OpR OpS
theorem tL (p:Pose) (p_c:Option Addr) (c_c:Nat) (c:(List (A3 W))) (w:World) (hc:Slr w elV (.slice p_c c.length c_c) c) (hpre:c.length≤1000) :
    Calls prog 23 [AV [cw p.x.x.1,cw p.x.y.1,cw p.x.z.1,cw p.q.x.1,cw p.q.y.1,cw p.q.z.1,cw p.q.t.1],AV [csl p_c c.length c_c]].toArray w (fun e w'=>∃ v,e = .returned (v)∧Ext w w'∧Slo w.heap.size w' 42 yO v (aA p c)):=by
 refine gQ (n:=23) (fun v=>v) func23 O O zz_ ?_;obtain ⟨w0,rfl⟩:=nm w;have Hc:=hc.old;have hm_c:=hc.max;refine giI ?_;refine go2 ?_;intro b1 hb1;refine go_ ?_;intro b2 hb2;refine go9 ?_;refine sQ (eK iY O (SLe.sub Hc sn)) O (go2 ?_);refine gJ3 (rg [5,7] 11 11) (fun g M=>∃ (out:List (A3 Rt)) (p_out:Option Addr) (c_out:Nat) (L_out:List Blk),(jV p c c ([]:List (A3 Rt)))=out∧(g 5 = .slice p_out out.length c_out∧OwnG w0 42 yO (.slice p_out out.length c_out) out L_out)∧M=(L_out++(⟨b2,52,aU [csl p_c c.length c_c]⟩::(⟨b1,27,aU [cw p.x.x.1,cw p.x.y.1,cw p.x.z.1,cw p.q.x.1,cw p.q.y.1,cw p.q.z.1,cw p.q.t.1]⟩::[])))) (fun K_u3 hK_u3=>?_) ?_
 ·refine go_ ?_;have hmx0:(c).length≤9223372036854775807:=hm_c;refine cI (rg [5,7] 11 11) (fun g nn M=>∃ (i0:Nat) (l0:List (A3 W)) (out:List (A3 Rt)) (p_out:Option Addr) (c_out:Nat) (L_out:List Blk),(jV p c l0 out)=(jV p c c ([]:List (A3 Rt)))∧(c).drop i0=l0∧l0.length=nn∧g 11 = .int .i64 (i0:Int)∧(out.length=i0)∧(g 5 = .slice p_out out.length c_out∧OwnG w0 42 yO (.slice p_out out.length c_out) out L_out)∧M=(L_out++(⟨b2,52,aU [csl p_c c.length c_c]⟩::(⟨b1,27,aU [cw p.x.x.1,cw p.x.y.1,cw p.x.z.1,cw p.q.x.1,cw p.q.y.1,cw p.q.z.1,cw p.q.t.1]⟩::[])))) c.length ?start ?round
  case start=>exact ⟨_,s0,0,c,([]:List (A3 Rt)),none,0,[],rfl,rfl,rfl,rfl,rfl,⟨rfl,OwnG.nil⟩,rfl⟩
  case round =>
   rintro nn g M ⟨i0,l0,out,p_out,c_out,L_out,hT0,hr0,rfl,hgi,hli0,⟨hg5,hO_out⟩,rfl⟩;refine gS2 hgi hg5 ?_;clear hgi hg5;have hm_out:=OwnG.max hO_out;refine go4 ?_;rcases l0 with _|⟨x0,l0⟩
   ·have h14:=yD hr0;refine W_f h14 O (go_ ?_);refine hK_u3 _ _ pp_ ⟨_,s0,out,p_out,c_out,L_out,(by exact hT0.symm.trans (Eq.symm rfl)),⟨rfl,hO_out⟩,rfl⟩
   have h15:=wH hr0;have g16:=sK hr0;refine W_t h15 O (go4 ?_);refine sQ (aS (v':=.pointer (some (slb (.slice p_c c.length c_c) (i0*3+0)))) (eY (e:=elV) (l:=c) (k:=i0) iY O O (SLe.sub Hc sn) g16.2.1) O) O (sQ (iS (e:=elV) (l:=c) (k:=i0) (o:=0) tyT O (SLe.sub Hc sn) g16.1 O) O (go_ ?_));intro b17 hb17;refine go6 ?_;obtain ⟨r18,hr18⟩:=nm ((fA p x0):(A3 Rt));refine sC (AV [pI r18.x.n,pI r18.x.d,pI r18.y.n,pI r18.y.d,pI r18.z.n,pI r18.z.d]) aE (kI p x0) O O (by rw [hr18]) (bI O (cO [[pI r18.x.n,pI r18.x.d,pI r18.y.n,pI r18.y.d,pI r18.z.n,pI r18.z.d]] [pI r18.x.n,pI r18.x.d,pI r18.y.n,pI r18.y.d,pI r18.z.n,pI r18.z.d] ce_ f2_ e1_ O dd_ O O ⟨rfl,rfl,rfl,trivial⟩ O (fun b19 hb19=>bI O (mL (e:=yO) (l:=out) (m:=[r18]) 408 ce_ (by kernel_rfl) dd_ O O hO_out (SLe.lit (e:=yO) (l:=[r18]) m0 O (Nat.le_of_ble_eq_true O) O) (vD (vD rE)) (by show (out.length+1)*408≤_;(try simp only [List.length_append,List.length_cons,List.length_nil]);omega) dd_ (fun p20 c21 L22 hO23=>go3 ?_)))));refine sV (.int .i64 ((i0+1:Nat):Int)) O (congrArg (Value.int .i64) (nxt g16.2.1 hmx0)) (go2 ?_);refine ⟨pp_,_,_,(sA (sd (sd s0))),(Nat.lt_succ_self _),i0+1,l0,(out++[r18]),p20,c21,L22,(by obtain rfl:=hr18.symm;exact (hT0.symm.trans (Eq.symm rfl)).symm),g16.2.2,rfl,rfl,(by rw [List.length_append];show _+1=_;omega),⟨rfl,hO23⟩,rfl⟩
 rintro g M ⟨out,p_out,c_out,L_out,hCu3,⟨hg5,hO_out⟩,rfl⟩;refine gS1 hg5 ?_;clear hg5;have hm_out:=OwnG.max hO_out;refine go5 ?_;refine rt1 ?_
 have hE:(out:(List (A3 Rt)))=(aA p c):=by exact (by unfold aA;exact trs (Eq.symm (apS hCu3)) O)
 rw [← hE];exact ⟨_,rfl,⟨L_out,lZ,hO_out⟩⟩
theorem tM (a:Rt) :
   Ret prog 93 [AV [pI a.n,pI a.d]] (AV [pI (bD a)]):=by
 refine bJ (N:=12) func93 O O zz_ (fun w0=>?_);refine giI ?_;refine go2 ?_;intro b1 hb1;refine go_ ?_;intro b2 hb2;refine go4 ?_;refine sQ (aX aE (kK a) O) O (go2 ?_);rcases bt (cQ a) with h3|h3
 ·refine W_f (fZ h3) O (go6 ?_);refine sC (AV [pI (E (Z.quo a.n.dec a.d.dec))]) aE (lW a.n.1 a.d.1 a.n.2 a.d.2) O O O (go3 ?_);refine rtX O (fF O m0 tyT O) ?_;exact congrArg vS3 (show _=(bD a) from aC h3 O)
 refine W_t (gA h3) O (go_ ?_);refine sC (AV [pI (E Z.bad)]) aE fS O O O (go3 ?_);refine rtX O (fF O m0 tyT O) ?_;exact congrArg vS3 (show _=(bD a) from aH h3 O)
theorem xO (a:Rt) :
  Ret prog 94 [AV [pI a.n,pI a.d]] (AV [pI (aZ a)]):=by
 refine bJ (N:=7) func94 O O zz_ (fun w0=>?_);refine giI ?_;refine go2 ?_;intro b1 hb1;refine go_ ?_;intro b2 hb2;refine go3 ?_;refine sQ (aX aE (DJ a) O) O (sQ (aX aE (tM (k5 a)) O) O (sC (AV [pI (E (Z.neg (bD (k5 a)).dec))]) aE (wE (bD (k5 a)).1 (bD (k5 a)).2) O O O (go3 ?_)));refine rtX O (fF O m0 tyT O) ?_;exact (by rfl)
end Go.Proofs.YtbjlhfochebmiaaGreatDoor
