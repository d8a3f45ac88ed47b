/- Lemmas: what they ask stands in their statements. -/
import Derived.Test.YtkjjponijamaoaaGreatDoorYYb
set_option linter.unusedSimpArgs false
set_option linter.unusedVariables false
set_option maxHeartbeats 8000000
set_option maxRecDepth 20000
namespace Go.Kn
open Go.RowKit
section
variable {P:Program} {w0:World} {X:List Nat} {N:Nm} {S:Fr} {M:List Blk} {d:Option Tmp} {ty:TypeId} {ps:String} {af:Array Edge} {gd:Option (Nat×Bool)}
end
section
variable {P:Program} {w0:World} {X:List Nat} {N:Nm} {S:Fr} {M:List Blk} {d:Option Tmp} {ty:TypeId} {ps:String} {af:Array Edge} {gd:Option (Nat×Bool)}
end
section
variable {P:Program} {w0:World} {X:List Nat} {N:Nm} {S:Fr} {M:List Blk} {Q:AF}
variable {d:Option Tmp} {ty:TypeId} {ps:String} {af:Array Edge} {gd:Option (Nat×Bool)}
end
section
variable {P:Program} {w0:World} {X:List Nat} {N:Nm} {Q:AF} {S:Fr} {M:List Blk} {c:Code}
end
end Go.Kn

namespace Go.Kn
open Go.RowKit
section rows
variable {α:Type} {e:El α}
end rows
section
variable {α:Type} {e:El α} {P:Program} {w0:World} {X:List Nat} {N:Nm} {S:Fr} {M M':List Blk} {d:Option Tmp} {ty:TypeId} {ps:String} {af:Array Edge} {gd:Option (Nat×Bool)} {v:Value} {l:List α}
end
end Go.Kn
namespace Go.Kn
open Go.RowKit
section
variable {P:Program} {w0:World} {X:List Nat} {N:Nm} {S:Fr} {M:List Blk} {d:Option Tmp} {ty:TypeId} {ps:String} {af:Array Edge} {gd:Option (Nat×Bool)}
end
end Go.Kn
namespace Go.Kn
open Go.RowKit
section
variable {α:Type} {e:El α} {P:Program} {w0:World} {X:List Nat} {N:Nm} {S:Fr} {M:List Blk} {d:Option Tmp} {ty:TypeId} {ps:String} {af:Array Edge} {gd:Option (Nat×Bool)} {v:Value} {l:List α}
end
end Go.Kn
namespace Go.Kn
section
variable {α:Type} {e:El α} {w0:World} {X:List Nat} {M:List Blk} {v:Value} {l:List α}
end
end Go.Kn

namespace Go.Kn
open Go.RowKit
section
variable {P:Program} {w0:World} {X:List Nat} {S:Fr} {M:List Blk} {d:Option Tmp} {ty:TypeId} {p:String} {af:Array Edge} {gd:Option (Nat×Bool)}
end
end Go.Kn

namespace Go.Num
open Go Go.Kn
theorem bz_ {a b:Z} (h:E a=E b):a=b:=by rw [← eD a,← eD b,h]
end Go.Num

namespace Go.Kn
open Go
section
variable {P:Program} {w0:World} {X:List Nat} {N:Nm} {Q:AF} {S:Fr} {M:List Blk} {c:Code}
end
end Go.Kn

namespace Go.Num
open Go Go.Kn
open Go
theorem lB_ (n k:Nat):(((dg n (k / 16):Nat):Int).fdiv (2 ^ (min (((k % 16:Nat):Int)).toNat IntKind.i64.bits))).tmod 2=((n / 2 ^ k % 2:Nat):Int):=by
  have h1:(((k % 16:Nat):Int)).toNat=k % 16:=Int.toNat_natCast _;have h2:k % 16<16:=Nat.mod_lt _ (by decide);have h3:min (k % 16) IntKind.i64.bits=k % 16:=Nat.min_eq_left (by show k % 16≤64;omega);rw [h1,h3]
  have h5:((2:Int) ^ (k % 16))=((2 ^ (k % 16):Nat):Int):=by simp
  rw [h5,Int.fdiv_eq_ediv_of_nonneg _ (Int.natCast_nonneg _),← Int.natCast_ediv,Int.tmod_eq_emod_of_nonneg (Int.natCast_nonneg _)];rw [show (2:Int)=((2:Nat):Int) from rfl,← Int.natCast_emod]
  congr 1
  unfold dg
  have hk:(2:Nat) ^ k=65536 ^ (k / 16) * 2 ^ (k % 16):=by
    rw [show (65536:Nat)=2 ^ 16 from rfl,← Nat.pow_mul,← Nat.pow_add];congr 1;omega
  rw [hk,← Nat.div_div_eq_div_mul];generalize n / 65536 ^ (k / 16)=x
  have h6:(65536:Nat)=2 ^ (k % 16) * (2 * 2 ^ (15 - k % 16)):=by
    rw [← Nat.pow_succ',← Nat.pow_add,show (65536:Nat)=2 ^ 16 from rfl];congr 1;omega
  rw [h6,Nat.mod_mul_right_div_self,Nat.mod_mul_right_mod]
theorem gz_ {n m:Nat} (h:n<2 ^ (m+1)) (h0:n / 2 ^ m % 2=0):n<2 ^ m:=by
  have h1:n / 2 ^ m<2:=by rw [Nat.div_lt_iff_lt_mul (Nat.pow_pos (by decide)),Nat.mul_comm,← Nat.pow_succ];exact h
  have h2:n / 2 ^ m=0:=by generalize n / 2 ^ m=q at *;omega
  rcases Nat.div_eq_zero_iff.1 h2 with h3 | h3
  · exact absurd h3 (by have:=Nat.pow_pos (n:=m) (show 0<2 by decide);omega)
  exact h3
theorem lD_ {n m:Nat} (h:n<2 ^ (m+1)) (h0:n / 2 ^ m % 2≠0):bl n=m+1:=by
  refine m7_ h (.inr ?_);rw [Nat.add_sub_cancel];rcases Nat.lt_or_ge n (2 ^ m) with h1 | h1
  · rw [Nat.div_eq_of_lt h1] at h0;exact absurd rfl h0
  exact h1
theorem dD_ (n:Nat):n<2 ^ (16 * (dl n).length):=by
  have:=VA n;rw [Nat.pow_mul];exact this
theorem rD_ {n:Nat} (h:n≤200):IntKind.i64.wrap (16 * (n:Int))=((16 * n:Nat):Int):=by
  rw [wi (by omega)];omega
theorem h6_ {a:R} (h:a.good=false):a.dec.bits=0:=by
  unfold R.dec;rw [if_neg (by simp [h])];rfl
theorem lC_ {a:R} (ha:a.Ok) (ga:a.good=true) {k:Nat} (h:val a.w<2 ^ k) (h0:k=0):a.dec.bits=k:=by
  subst h0;rw [IE ha ga]
  have:val a.w=0:=by simpa using h
  rw [this];rfl
end Go.Num

namespace Go.Kn
open Go.RowKit
section
variable {P:Program} {w0:World} {X:List Nat} {N:Nm} {S:Fr} {M:List Blk}
variable {ops:List Oper} {Q:Fr→List Blk→Prop} {o:Oper} {l:List Oper} {v v':Value} {d:Tmp} {b c:Bool} {nw:List Nat} {MD:List Blk} {i:Nat} {ws:List Nat} {r:Plan}
section
variable {g:FuncId} {xs:List Operand} {tys:Array TypeId} {args:List Value} {ty:TypeId} {ps:String} {af:Array Edge} {gd:Option (Nat×Bool)}
end
end
section
variable {P:Program} {w0:World} {X:List Nat} {N:Nm} {S:Fr} {M:List Blk} {d:Option Tmp} {ty:TypeId} {ps:String} {af:Array Edge} {gd:Option (Nat×Bool)}
end
section
variable {P:Program} {w0:World} {X:List Nat} {N:Nm} {S:Fr} {M:List Blk} {Q:AF}
end
section
variable {P:Program} {w0:World} {X:List Nat} {N:Nm} {S:Fr} {M:List Blk} {Q:AF}
end
section
variable {α:Type} {e:El α} {w0 w:World} {X:List Nat} {M M' L:List Blk} {v:Value} {l:List α} {E:TypeId}
end
end Go.Kn

namespace Go.Num
open Go Go.Kn Go.RowKit Go.ChangeShapes Go.WideShapes
def jz_ (P:Program) (T:TypeId):Bool:=match P.underlying T with | some (.struct _)=>true | some (.array _ _)=>true | _=>false
section
variable {H:Type} {enc:TypeId×Value→H} {P:Program} {w:World} {base:Nat} {spare:Nat→Bool} {held:Bool}
theorem su_ {T:TypeId} {ls:List AW} {v:Value} {d:DataW H} {p:List MemPlace} (h:lz P 8 T=some ls) (ht:DataW.Trod enc P w base spare held T v d p):LWF v.cells.toList ls:=by
  obtain ⟨fuel,hf⟩:=ht;exact HD 8 h hf
theorem p4_ {r:Reach} {T:TypeId} {v:Value} (h:jz_ P T=true) (hv:Value.okWide P w r base T v):∃ cs:List Value,v = .agg cs.toArray:=by
  unfold jz_ at h;unfold Value.okWide at hv
  split at h
  · rename_i fs hu;rw [hu] at hv;obtain ⟨cs,hc,_⟩:=hv;exact ⟨cs.toList,by simpa using hc⟩
  · rename_i n e hu;rw [hu] at hv;obtain ⟨cs,hc,_⟩:=hv;exact ⟨cs.toList,by simpa using hc⟩
  · cases h
end
theorem fN_:∀ {n:Nat} {cs:List Value},LWF cs (List.replicate n (some .u32))→∃ l:List Nat,l.length=n∧Lim l∧cs=uw l
  | 0,[],_=>⟨[],rfl,(fun _ h=>by cases h),rfl⟩
  | 0,_ :: _,h=>h.elim
  | n+1,[],h=>h.elim
  | n+1,v :: vs,h=>by
    obtain ⟨l,hl,hlim,rfl⟩:=fN_ (n:=n) (cs:=vs) h.2
    match v,h.1 with
    | .int k m,hv =>
      obtain ⟨rfl,hw⟩:=hv;have hb:=bounds_u32 hw;refine ⟨m.toNat :: l,by simp [hl],fun d hd=>?_,?_⟩
      · rcases List.mem_cons.1 hd with rfl | hd
        · omega
        exact hlim d hd
      have:((m.toNat:Nat):Int)=m:=by omega
      simp [uw,U32,this]
theorem nK_ {cs:List Value} (h:LWF cs LI):∃ x:I,cs=(pI x).l:=by
  match cs,h with
  | .bool a :: .bool b :: rest,h =>
    obtain ⟨l,hl,hlim,rfl⟩:=fN_ h.2.2;exact ⟨⟨⟨a,b,l⟩,⟨hl,hlim⟩⟩,rfl⟩
end Go.Num
namespace Go.Num
open Go Go.Kn Go.RowKit
theorem st_ {P:Program} {w:World} {base:Nat} {r:Reach} {T:TypeId} {v:Value} {k:IntKind} (hu:P.underlying T=some (.int k)) (hv:Value.okWide P w r base T v):∃ n,v = .int k n∧k.has n:=by
  unfold Value.okWide at hv;rw [hu] at hv;unfold Cell.okWide at hv;rw [hu] at hv;unfold Cell.ok at hv;rw [hu] at hv
  cases v <;> simp_all
theorem sQ_ {n:Int} (h:IntKind.u8.has n):0≤n∧n≤255:=by
  simp [IntKind.has,IntKind.min,IntKind.max,IntKind.signed,IntKind.bits] at h
  omega
end Go.Num

namespace Go.Kn
open Go
section
variable {α:Type} {e:El α} {P:Program} {w0:World} {X:List Nat} {N:Nm} {S:Fr} {M M':List Blk} {d:Option Tmp} {ty:TypeId} {ps:String} {af:Array Edge} {gd:Option (Nat×Bool)} {v:Value} {l:List α}
theorem SLe.full {p:Option Addr} {n c:Nat} (h:SLe w0 X M e (.slice p n c) l) (h0:0<n∨c=0):SLe w0 X M e (.slice p n n) l:=fun w hw=>by
  obtain ⟨p',c',hq,hc,hm,hp⟩:=h w hw
  cases hq
  refine ⟨p,l.length,rfl,Nat.le_refl _,by omega,?_⟩;rcases hp with ⟨rfl,rfl,rfl⟩ | ⟨a,rfl,hr⟩
  · exact .inl ⟨rfl,rfl,rfl⟩
  exact .inr ⟨a,rfl,hr⟩
end
end Go.Kn

namespace Go.Num
open Go Go.Kn
end Go.Num

namespace Go.Proofs.YtkjjponijamaoaaGreatDoor
open Go.Kn Go.Num
theorem iq_:Tryz.prog.eqGuardType Tryz.prog.depth 35=false:=by kernel_rfl
theorem YR:aY Tryz.prog 41=true:=by kernel_rfl
theorem ST:aY Tryz.prog 43=true:=by kernel_rfl
theorem YS:aY Tryz.prog 62=true:=by kernel_rfl
theorem wB:aY Tryz.prog 74=true:=by kernel_rfl
theorem iA_:aY Tryz.prog 141=true:=by kernel_rfl
theorem o6_:aY Tryz.prog 217=true:=by kernel_rfl
theorem lS_:k8 Tryz.prog 37 0=some (0,1):=by kernel_rfl
theorem lT_:k8 Tryz.prog 37 1=some (1,1):=by kernel_rfl
theorem jH_:tH Tryz.prog 8 35=some (true,(LI ++ (LI ++ (LI ++ (LI ++ (LI ++ LI)))))):=by kernel_rfl
end Go.Proofs.YtkjjponijamaoaaGreatDoor

namespace Go.Num
open Go Go.Kn
def aH (a:Rt):Bool :=
  bif (!a.n.1.good||(!a.d.1.good)) then (false) else ((decide (0<(Z.signW a.d.dec).1)&&decide ((E (Z.gcd a.n.dec a.d.dec))=F_skewbackref04_one)))
def lA (a:Rt):Rt :=
  bif (aH a) then ((⟨(E (Z.neg a.n.dec)),a.d⟩:Rt)) else (pR)
def cT (a:Rt) (b:Rt):Rt :=
  bif (!(aH a)||(!(aH b))) then (pR) else (let r11:I:=(E (Z.add (Z.mul a.n.dec (Z.quo b.d.dec (Z.gcd a.d.dec b.d.dec))) (Z.mul b.n.dec (Z.quo a.d.dec (Z.gcd a.d.dec b.d.dec)))))
  let r12:Rt:=(cJ r11 (E (Z.mul (Z.quo a.d.dec (Z.gcd a.d.dec b.d.dec)) b.d.dec)))
  r12)
def cO (a:Rt) (b:Rt):Rt :=
  let r4:Rt:=(cT a (lA b))
  r4
def cG (a:Rt) (b:Rt):Rt :=
  bif (!(aH a)||(!(aH b))) then (pR) else (let r10:I:=(E (Z.mul ((cJ a.n b.d).n).dec ((cJ b.n a.d).n).dec))
  let r12:I:=(E (Z.mul ((cJ a.n b.d).d).dec ((cJ b.n a.d).d).dec))
  (cJ r10 r12))
def oG (a:(A3 W)):Bool :=
  bif (decide (2305843009213693952≤a.x.1)||decide (a.x.1≤(-2305843009213693952))) then (false) else (bif (decide (2305843009213693952≤a.y.1)||decide (a.y.1≤(-2305843009213693952))) then (false) else (bif (decide (2305843009213693952≤a.z.1)||decide (a.z.1≤(-2305843009213693952))) then (false) else (true)))
def gU (a:(A3 I)):Dir :=
  bif (E (Z.gcd (Z.gcd (Z.gcd (Z.of 0) a.x.dec) a.y.dec) a.z.dec)).1.bad then ((⟨(⟨(wl 0),(wl 0),(wl 0)⟩:(A3 W)),(wl 30)⟩:Dir)) else (bif ((Z.signW (Z.gcd (Z.gcd (Z.gcd (Z.of 0) a.x.dec) a.y.dec) a.z.dec)).1==0) then ((⟨(⟨(wl 0),(wl 0),(wl 0)⟩:(A3 W)),(wl 31)⟩:Dir)) else (let r7:I:=(E (Z.quo a.x.dec (Z.gcd (Z.gcd (Z.gcd (Z.of 0) a.x.dec) a.y.dec) a.z.dec)))
  bif r7.dec.small.2 then (let r9:I:=(E (Z.quo a.y.dec (Z.gcd (Z.gcd (Z.gcd (Z.of 0) a.x.dec) a.y.dec) a.z.dec)))
  bif r9.dec.small.2 then (let r11:I:=(E (Z.quo a.z.dec (Z.gcd (Z.gcd (Z.gcd (Z.of 0) a.x.dec) a.y.dec) a.z.dec)))
  bif r11.dec.small.2 then (bif (oG (⟨(Z.smallW r7.dec),(Z.smallW r9.dec),(Z.smallW r11.dec)⟩:(A3 W))) then ((⟨(⟨(Z.smallW r7.dec),(Z.smallW r9.dec),(Z.smallW r11.dec)⟩:(A3 W)),(wl 0)⟩:Dir)) else ((⟨(⟨(wl 0),(wl 0),(wl 0)⟩:(A3 W)),(wl 30)⟩:Dir))) else ((⟨(⟨(wl 0),(wl 0),(wl 0)⟩:(A3 W)),(wl 30)⟩:Dir))) else ((⟨(⟨(wl 0),(wl 0),(wl 0)⟩:(A3 W)),(wl 30)⟩:Dir))) else ((⟨(⟨(wl 0),(wl 0),(wl 0)⟩:(A3 W)),(wl 30)⟩:Dir))))
def lG (a:(A3 Rt)) (b:(A3 Rt)):(A3 Rt) :=
  (⟨(cT a.x b.x),(cT a.y b.y),(cT a.z b.z)⟩:(A3 Rt))
def jD (a:(A3 Rt)) (b:(A3 Rt)):(A3 Rt) :=
  (⟨(cO a.x b.x),(cO a.y b.y),(cO a.z b.z)⟩:(A3 Rt))
def jE (a:Rt) (b:(A3 Rt)):(A3 Rt) :=
  (⟨(cG a b.x),(cG a b.y),(cG a b.z)⟩:(A3 Rt))
def nE (a:(A3 Rt)) (b:(A3 Rt)):Rt :=
  let r5:Rt:=(cT (cG a.x b.x) (cG a.y b.y))
  let r6:Rt:=(cT r5 (cG a.z b.z))
  r6
def k6 (a:Rt) (b:Rt) (c:Rt) (d:Rt):Rt :=
  let r6:Rt:=(cO (cG a b) (cG c d))
  r6
def j8 (a:(A3 Rt)) (b:(A3 Rt)):(A3 Rt) :=
  let r4:Rt:=(k6 a.y b.z a.z b.y)
  let r5:Rt:=(k6 a.z b.x a.x b.z)
  let r6:Rt:=(k6 a.x b.y a.y b.x)
  (⟨r4,r5,r6⟩:(A3 Rt))
def jK (a:Rt):W :=
  bif (cE a) then ((Z.signW a.n.dec)) else ((wl 0))
def eY (a:I) (b:I) (c:I):I :=
  (E (Z.mul (Z.mul a.dec b.dec) c.dec))
def gC (a:Pull):Dir :=
  let q0:(A3 Rt):=(jD a.q a.p)
  let q1:I:=(eY q0.x.n q0.y.d q0.z.d)
  let q2:I:=(eY q0.x.d q0.y.n q0.z.d)
  let q3:I:=(eY q0.x.d q0.y.d q0.z.n)
  let q4:Dir:=(gU (⟨q1,q2,q3⟩:(A3 I)))
  q4
def bM (a:(A3 Rt)) (b:(A3 Rt)):(A6 Rt) :=
  let r4:(A3 Rt):=(j8 a b)
  (⟨b.x,b.y,b.z,r4.x,r4.y,r4.z⟩:(A6 Rt))
def cU (a:Pull):Cols :=
  let q0:Dir:=(gC a)
  bif (q0.e.1 != 0) then ((⟨(⟨(⟨I0,I0⟩:Rt),(⟨I0,I0⟩:Rt),(⟨I0,I0⟩:Rt),(⟨I0,I0⟩:Rt),(⟨I0,I0⟩:Rt),(⟨I0,I0⟩:Rt)⟩:(A6 Rt)),(⟨(⟨I0,I0⟩:Rt),(⟨I0,I0⟩:Rt),(⟨I0,I0⟩:Rt),(⟨I0,I0⟩:Rt),(⟨I0,I0⟩:Rt),(⟨I0,I0⟩:Rt)⟩:(A6 Rt)),q0.e⟩:Cols)) else (let q1:(A3 Rt):=(fM q0.v)
  let q2:(A6 Rt):=(bM a.p q1)
  let q3:Rt:=(aE (wl (-1)))
  let q4:(A3 Rt):=(jE q3 q1)
  let q5:(A6 Rt):=(bM a.q q4)
  let q6:Bool:=(aH q2.x0)
  let q7:Bool:=(aH q5.x0)
  bif (!q6||(!q7)) then ((⟨(⟨(⟨I0,I0⟩:Rt),(⟨I0,I0⟩:Rt),(⟨I0,I0⟩:Rt),(⟨I0,I0⟩:Rt),(⟨I0,I0⟩:Rt),(⟨I0,I0⟩:Rt)⟩:(A6 Rt)),(⟨(⟨I0,I0⟩:Rt),(⟨I0,I0⟩:Rt),(⟨I0,I0⟩:Rt),(⟨I0,I0⟩:Rt),(⟨I0,I0⟩:Rt),(⟨I0,I0⟩:Rt)⟩:(A6 Rt)),(wl 30)⟩:Cols)) else (let q8:Bool:=(aH q2.x1)
  let q9:Bool:=(aH q5.x1)
  bif (!q8||(!q9)) then ((⟨(⟨(⟨I0,I0⟩:Rt),(⟨I0,I0⟩:Rt),(⟨I0,I0⟩:Rt),(⟨I0,I0⟩:Rt),(⟨I0,I0⟩:Rt),(⟨I0,I0⟩:Rt)⟩:(A6 Rt)),(⟨(⟨I0,I0⟩:Rt),(⟨I0,I0⟩:Rt),(⟨I0,I0⟩:Rt),(⟨I0,I0⟩:Rt),(⟨I0,I0⟩:Rt),(⟨I0,I0⟩:Rt)⟩:(A6 Rt)),(wl 30)⟩:Cols)) else (let q10:Bool:=(aH q2.x2)
  let q11:Bool:=(aH q5.x2)
  bif (!q10||(!q11)) then ((⟨(⟨(⟨I0,I0⟩:Rt),(⟨I0,I0⟩:Rt),(⟨I0,I0⟩:Rt),(⟨I0,I0⟩:Rt),(⟨I0,I0⟩:Rt),(⟨I0,I0⟩:Rt)⟩:(A6 Rt)),(⟨(⟨I0,I0⟩:Rt),(⟨I0,I0⟩:Rt),(⟨I0,I0⟩:Rt),(⟨I0,I0⟩:Rt),(⟨I0,I0⟩:Rt),(⟨I0,I0⟩:Rt)⟩:(A6 Rt)),(wl 30)⟩:Cols)) else (let q12:Bool:=(aH q2.x3)
  let q13:Bool:=(aH q5.x3)
  bif (!q12||(!q13)) then ((⟨(⟨(⟨I0,I0⟩:Rt),(⟨I0,I0⟩:Rt),(⟨I0,I0⟩:Rt),(⟨I0,I0⟩:Rt),(⟨I0,I0⟩:Rt),(⟨I0,I0⟩:Rt)⟩:(A6 Rt)),(⟨(⟨I0,I0⟩:Rt),(⟨I0,I0⟩:Rt),(⟨I0,I0⟩:Rt),(⟨I0,I0⟩:Rt),(⟨I0,I0⟩:Rt),(⟨I0,I0⟩:Rt)⟩:(A6 Rt)),(wl 30)⟩:Cols)) else (let q14:Bool:=(aH q2.x4)
  let q15:Bool:=(aH q5.x4)
  bif (!q14||(!q15)) then ((⟨(⟨(⟨I0,I0⟩:Rt),(⟨I0,I0⟩:Rt),(⟨I0,I0⟩:Rt),(⟨I0,I0⟩:Rt),(⟨I0,I0⟩:Rt),(⟨I0,I0⟩:Rt)⟩:(A6 Rt)),(⟨(⟨I0,I0⟩:Rt),(⟨I0,I0⟩:Rt),(⟨I0,I0⟩:Rt),(⟨I0,I0⟩:Rt),(⟨I0,I0⟩:Rt),(⟨I0,I0⟩:Rt)⟩:(A6 Rt)),(wl 30)⟩:Cols)) else (let q16:Bool:=(aH q2.x5)
  let q17:Bool:=(aH q5.x5)
  bif (!q16||(!q17)) then ((⟨(⟨(⟨I0,I0⟩:Rt),(⟨I0,I0⟩:Rt),(⟨I0,I0⟩:Rt),(⟨I0,I0⟩:Rt),(⟨I0,I0⟩:Rt),(⟨I0,I0⟩:Rt)⟩:(A6 Rt)),(⟨(⟨I0,I0⟩:Rt),(⟨I0,I0⟩:Rt),(⟨I0,I0⟩:Rt),(⟨I0,I0⟩:Rt),(⟨I0,I0⟩:Rt),(⟨I0,I0⟩:Rt)⟩:(A6 Rt)),(wl 30)⟩:Cols)) else ((⟨q2,q5,(wl 0)⟩:Cols))))))))
def fH (x:Rt) (b:W):Bool :=
  ((aH x)&&(decide ((Z.bitsW x.n.dec).1≤b.1)&&decide ((Z.bitsW x.d.dec).1≤b.1)))
def dY (v:(A3 Rt)) (b:W):Bool :=
  bif (fH v.x b) then (bif (fH v.y b) then (bif (fH v.z b) then (true) else (false)) else (false)) else (false)
def gK (p:Pull) (k:Int):Bool :=
  bif (!(dY p.p (wl 9))||(!(dY p.q (wl 9))||(k==0))) then (F_skewbacklaw26_sanity) else (let r8:(A6 Rt):=(dI p).1
  let r9:(A6 Rt):=(dI p).2.1
  let r12:(A3 Rt):=(lQ p.q p.p)
  bif (decide (p.p.x.n=p.q.x.n)&&(decide (p.p.x.d=p.q.x.d)&&(decide (p.p.y.n=p.q.y.n)&&(decide (p.p.y.d=p.q.y.d)&&(decide (p.p.z.n=p.q.z.n)&&decide (p.p.z.d=p.q.z.d)))))) then ((F_skewbacklaw26_sanity&&(((dI p).2.2).1==31))) else (bif (((dI p).2.2).1 != 0) then (false) else (bif ((jK (eZ r8.x0 r9.x0)).1 != 0) then (false) else (bif ((jK (eZ r8.x1 r9.x1)).1 != 0) then (false) else (bif ((jK (eZ r8.x2 r9.x2)).1 != 0) then (false) else (bif ((jK (eZ r8.x3 r9.x3)).1 != 0) then (false) else (bif ((jK (eZ r8.x4 r9.x4)).1 != 0) then (false) else (bif ((jK (eZ r8.x5 r9.x5)).1 != 0) then (false) else (bif (!(decide ((((dC r12 (⟨r8.x0,r8.x1,r8.x2⟩:(A3 Rt))).x).n)=(((cZ (wl 0) (wl 0) (wl 0)).x).n))&&(decide ((((dC r12 (⟨r8.x0,r8.x1,r8.x2⟩:(A3 Rt))).x).d)=(((cZ (wl 0) (wl 0) (wl 0)).x).d))&&(decide ((((dC r12 (⟨r8.x0,r8.x1,r8.x2⟩:(A3 Rt))).y).n)=(((cZ (wl 0) (wl 0) (wl 0)).y).n))&&(decide ((((dC r12 (⟨r8.x0,r8.x1,r8.x2⟩:(A3 Rt))).y).d)=(((cZ (wl 0) (wl 0) (wl 0)).y).d))&&(decide ((((dC r12 (⟨r8.x0,r8.x1,r8.x2⟩:(A3 Rt))).z).n)=(((cZ (wl 0) (wl 0) (wl 0)).z).n))&&decide ((((dC r12 (⟨r8.x0,r8.x1,r8.x2⟩:(A3 Rt))).z).d)=(((cZ (wl 0) (wl 0) (wl 0)).z).d)))))))||(decide ((jK (oD r12 (⟨r8.x0,r8.x1,r8.x2⟩:(A3 Rt)))).1≤0)||(!(decide ((((dC p.p (⟨r8.x0,r8.x1,r8.x2⟩:(A3 Rt))).x).n)=r8.x3.n)&&(decide ((((dC p.p (⟨r8.x0,r8.x1,r8.x2⟩:(A3 Rt))).x).d)=r8.x3.d)&&(decide ((((dC p.p (⟨r8.x0,r8.x1,r8.x2⟩:(A3 Rt))).y).n)=r8.x4.n)&&(decide ((((dC p.p (⟨r8.x0,r8.x1,r8.x2⟩:(A3 Rt))).y).d)=r8.x4.d)&&(decide ((((dC p.p (⟨r8.x0,r8.x1,r8.x2⟩:(A3 Rt))).z).n)=r8.x5.n)&&decide ((((dC p.p (⟨r8.x0,r8.x1,r8.x2⟩:(A3 Rt))).z).d)=r8.x5.d))))))))) then (false) else (let r34:(A3 Rt):=(qU (dK (W.cv k)) r12)
  let r35:(A3 Rt):=(rU p.p r34)
  let r38:(A3 W):=(cL (⟨p.a,p.b,p.p,r35⟩:Pull)).1
  (F_skewbacklaw26_sanity&&((((cL p).2).1==0)&&((((cL (⟨p.a,p.b,p.p,r35⟩:Pull)).2).1==0)&&(decide ((((cL p).1).x).1=r38.x.1)&&(decide ((((cL p).1).y).1=r38.y.1)&&decide ((((cL p).1).z).1=r38.z.1))))))))))))))))
end Go.Num

namespace Go.Proofs.YtkjjponijamaoaaGreatDoor
open Go.Kn Go.Num
theorem dO (a:Rt) :
    Ret Tryz.prog 74 [AV [pI a.n,pI a.d]] (.bool (aH a)):=by
 refine cM (N:=26) Tryz.func74 rfl rfl (by simp) (fun w0=>?_);simp only [cS,Nat.reduceAdd];refine Rs fun K J=>bA rfl (cH rfl rfl (fun b1 hb1=>sE rfl (nl J (Sq fun K1 J1=>?_))));refine dH [3,4,5,6,7,8,9,10,11,12] (fun g M=>(g 12 = .bool (!a.n.1.good||(!a.d.1.good)))∧M=[⟨b1,33,aW [pI a.n,pI a.d]⟩]) (fun K2 J2=>?_) ?_
 ·refine Rk fun K J=>sQ (qF jZ rfl rfl) rfl (sQ (qL aD rfl m0 rfl) rfl (sC (.bool a.n.1.good) vE (d9 a.n.1 a.n.2) rfl rfl rfl (sE rfl ?_)));rcases bt a.n.1.good with h3 | h3
  ·refine sB (iS h3) rfl (sQ (qF fV rfl rfl) rfl (sQ (qL aD rfl m0 rfl) rfl (sC (.bool a.d.1.good) vE (d9 a.d.1 a.d.2) rfl rfl rfl (sE rfl (sE rfl (nl J ?_))))));refine J2 _ _ pp_ ⟨_,s0,?s12,rfl⟩
   case s12=>exact congrArg Value.bool (j3 h3 rfl)
  refine sB (iT h3) rfl (aI rfl (aI rfl (aI rfl (aI rfl (sE rfl (nl J ?_))))));refine J2 _ _ pp_ ⟨_,s0,?s12,rfl⟩
  case s12=>exact congrArg Value.bool (oJ h3)
 rintro g4 M ⟨hg12,rfl⟩;simp only [dQ,hg12];clear hg12;rcases bt (!a.n.1.good||(!a.d.1.good)) with h5 | h5
 ·refine W_t h5 rfl (Rs fun K J=>sE rfl (nl J (aL (aB (cC rfl (.inr rfl) rfl ?_)))));exact (by exact congrArg vS2 (show _=(aH a) from bI h5 rfl))
 refine W_f h5 rfl (aG (J1 _ _ ?_));refine dH [2,13,14,15,16,17,18,19,20,21,22,23,24,25] (fun g M=>(g 2 = .bool (decide (0<(Z.signW a.d.dec).1)&&decide ((E (Z.gcd a.n.dec a.d.dec))=F_skewbackref04_one)))∧M=[⟨b1,33,aW [pI a.n,pI a.d]⟩]) (fun K3 J3=>?_) ?_
 ·refine Rk fun K J=>sQ (qF fV rfl rfl) rfl (sQ (qL aD rfl m0 rfl) rfl (sC (.int .i64 ((Z.signW a.d.dec).1)) D7 (j0 a.d.1 a.d.2) rfl rfl rfl (sE rfl ?_)));rcases bt (decide (0<(Z.signW a.d.dec).1)) with h7 | h7
  ·refine sB h7 rfl (sQ (qF jZ rfl rfl) rfl (sQ (qL aD rfl m0 rfl) rfl (sQ (qF fV rfl rfl) rfl (sQ (qL aD rfl m0 rfl) rfl (sC (AV [pI (E (Z.gcd a.n.dec a.d.dec))]) M9 (pK a.n.1 a.d.1 a.n.2 a.d.2) rfl rfl rfl (sQ (bZ aq_ xH  rfl) rfl ?_))))));refine sQ (rG (r:=decide ((E (Z.gcd a.n.dec a.d.dec))=F_skewbackref04_one)) rfl rfl (kR 8 dd_ IL IS (iN cX) (iN cX) (mU fU))) rfl (sE rfl (sE rfl (nl J ?_)));refine J3 _ _ pp_ ⟨_,s0,?s2,rfl⟩
   case s2=>exact congrArg Value.bool (eB h7 rfl)
  refine sB h7 rfl (aI rfl (aI rfl (aI rfl (aI rfl (aI rfl (aI rfl (aI rfl (sE rfl (sE rfl (nl J ?_))))))))));refine J3 _ _ pp_ ⟨_,s0,?s2,rfl⟩
  case s2=>exact congrArg Value.bool (kU h7)
 rintro g8 M ⟨hg2,rfl⟩;simp only [dQ,hg2];clear hg2;refine aL (cC rfl (.inr rfl) rfl ?_);exact (by exact congrArg vS2 (show _=(aH a) from aM h5 rfl))

theorem vY (a:Rt) :
    Ret Tryz.prog 43 [AV [pI a.n,pI a.d]] (.int .i64 ((jK a).1)):=by
 refine cM (N:=9) Tryz.func43 rfl rfl (by simp) (fun w0=>?_);simp only [cS,Nat.reduceAdd];refine Rs fun K J=>bA rfl (cH rfl rfl (fun b1 hb1=>sE rfl (nl J (Sq fun K1 J1=>Rs fun K J=>sQ (qL bD rfl m0 rfl) rfl (sQ (bZ y7 (iV a) rfl) rfl (sE rfl (nl J ?_)))))));rcases bt (cE a) with h2 | h2
 ·refine W_f (iS h2) rfl (aG (J1 _ _ (Rs fun K J=>sQ (qF jZ rfl rfl) rfl (sQ (qL aD rfl m0 rfl) rfl (sC (.int .i64 ((Z.signW a.n.dec).1)) C0 (k9 a.n.1 a.n.2) rfl rfl rfl (sE rfl (nl J (aL (cC rfl (.inr rfl) rfl ?_)))))))));exact (by exact congrArg vS8 (show _=(jK a) from bI h2 rfl))
 refine W_t (iT h2) rfl (Rs fun K J=>sE rfl (nl J (aL (aB (cC rfl (.inr rfl) rfl ?_)))));exact (by exact congrArg vS8 (show _=(jK a) from aM h2 rfl))

end Go.Proofs.YtkjjponijamaoaaGreatDoor


namespace Go.Num
open Go Go.Kn
theorem NY (l:List I):(tM l).length≤l.length:=by
  rw [FQ,List.length_take];omega
def okW (z:Z):Bool:=z.small.2&&(!decide (2305843009213693952≤(Z.smallW z).1) && !decide ((Z.smallW z).1≤(-2305843009213693952)))
theorem ml_ (z:Z):(!z.small.2||(decide (2305843009213693952≤(Z.smallW z).1)||decide ((Z.smallW z).1≤(-2305843009213693952)))) = !okW z:=by
  unfold okW;cases z.small.2 <;> cases decide (2305843009213693952≤(Z.smallW z).1) <;> cases decide ((Z.smallW z).1≤(-2305843009213693952)) <;> rfl
def VW0:A3 W:=⟨wl 0,wl 0,wl 0⟩
def D9 (a:A3 I):Z:=Z.gcd (Z.gcd (Z.gcd (Z.of 0) a.x.dec) a.y.dec) a.z.dec
def cR_ (a:A3 I):A3 W×W :=
  if (D9 a).o=none then (VW0,wl 30)
  else if (D9 a).sign=0 then (VW0,wl 31)
  else if okW (Z.quo a.x.dec (D9 a))&&(okW (Z.quo a.y.dec (D9 a))&&okW (Z.quo a.z.dec (D9 a))) then (⟨Z.smallW (Z.quo a.x.dec (D9 a)),Z.smallW (Z.quo a.y.dec (D9 a)),Z.smallW (Z.quo a.z.dec (D9 a))⟩,wl 0)
  else (VW0,wl 30)
theorem m1_ (z:Z):(E z).1.bad=decide (z.o=none):=by
  show z.enc.bad=_
  unfold Z.enc
  cases h:z.o <;> simp
theorem sign0 (z:Z):((Z.signW z).1==0)=decide (z.sign=0):=by
  show (z.sign==0)=_
  rfl
theorem g4_ (a:A3 I):j5 a=cR_ a:=by
  unfold j5 cR_;simp only [eD,ml_,m1_,sign0]
  show (bif decide ((D9 a).o=none) then _ else bif decide ((D9 a).sign=0) then _ else bif !okW (Z.quo a.x.dec (D9 a)) then _ else bif !okW (Z.quo a.y.dec (D9 a)) then _ else bif !okW (Z.quo a.z.dec (D9 a)) then _ else _)=_
  by_cases h1:(D9 a).o=none
  · simp [h1,VW0]
  by_cases h2:(D9 a).sign=0
  · simp [h1,h2,VW0]
  simp only [h1,h2,decide_false,cond_false,if_false]
  cases okW (Z.quo a.x.dec (D9 a)) <;> cases okW (Z.quo a.y.dec (D9 a)) <;> cases okW (Z.quo a.z.dec (D9 a)) <;> rfl
theorem mL_ (a:A3 W):oG a=(!(decide (2305843009213693952≤a.x.1)||decide (a.x.1≤(-2305843009213693952)))&&(!(decide (2305843009213693952≤a.y.1)||decide (a.y.1≤(-2305843009213693952))) && !(decide (2305843009213693952≤a.z.1)||decide (a.z.1≤(-2305843009213693952))))):=by
  unfold oG
  cases (decide (2305843009213693952≤a.x.1)||decide (a.x.1≤(-2305843009213693952))) <;> cases (decide (2305843009213693952≤a.y.1)||decide (a.y.1≤(-2305843009213693952))) <;> cases (decide (2305843009213693952≤a.z.1)||decide (a.z.1≤(-2305843009213693952))) <;> rfl
theorem g1_ {α:Type} (p1 p2 p3 q1 q2 q3 r1 r2 r3:Bool) (X Y:α):(bif p1 then (bif p2 then (bif p3 then (bif (!(q1||r1)&&(!(q2||r2) && !(q3||r3))) then X else Y) else Y) else Y) else Y) =
    if ((p1&&(!q1 && !r1))&&((p2&&(!q2 && !r2))&&(p3&&(!q3 && !r3))))=true then X else Y:=by
  cases p1 <;> cases p2 <;> cases p3 <;> cases q1 <;> cases q2 <;> cases q3 <;> cases r1 <;> cases r2 <;> cases r3 <;> rfl
def WF (p:A3 W×W):Dir:=⟨p.1,p.2⟩
theorem WW (a:A3 I):gU a=WF (cR_ a):=by
  unfold gU cR_;simp only [eD,m1_,sign0,mL_]
  show (bif decide ((D9 a).o=none) then _ else bif decide ((D9 a).sign=0) then _ else bif (Z.quo a.x.dec (D9 a)).small.2 then bif (Z.quo a.y.dec (D9 a)).small.2 then bif (Z.quo a.z.dec (D9 a)).small.2 then _ else _ else _ else _)=_
  by_cases h1:(D9 a).o=none
  · rw [decide_eq_true h1,cond_true,if_pos h1];rfl
  by_cases h2:(D9 a).sign=0
  · rw [decide_eq_false h1,cond_false,decide_eq_true h2,cond_true,if_neg h1,if_pos h2];rfl
  rw [decide_eq_false h1,cond_false,decide_eq_false h2,cond_false,if_neg h1,if_neg h2,apply_ite WF];exact g1_ _ _ _ _ _ _ _ _ _ _ _
theorem Z.Is.sign0 {z:Z} (h:z.Is 0):z.sign=0:=by
  unfold Z.sign;rcases h with h | h <;> rw [h] <;> rfl
theorem sC_ (w:W):Fit (Z.of w.1) w.1 64:=⟨rfl,by have:=w.2;unfold I64 at this;omega⟩
theorem p3_ {z:Z} {w:W} (hz:z=Z.of w.1) (h:-2305843009213693952<w.1∧w.1<2305843009213693952):okW z=true∧Z.smallW z=w:=by
  have ho:z.o=some w.1:=by rw [hz];exact (sC_ w).o dd_
  have hs:z.small=(w.1,true):=by unfold Z.small;rw [ho];simp only;rw [if_pos oo_]
  have h1:Z.smallW z=w:=W.ext (by show z.small.1=_;rw [hs]);refine ⟨?_,h1⟩;unfold okW;rw [h1,hs]
  have h2:¬ 2305843009213693952≤w.1:=by omega
  have h3:¬ w.1 ≤ -2305843009213693952:=by omega
  simp [h2,h3]
theorem C3 {l:List I} {k:Nat} (h:l.length≤k):l.getD k I0=I0:=by simp [List.getD,List.getElem?_eq_none h]
theorem gD_ {x:I} (h:x.1.good=true):E x.dec=x:=Subtype.ext (T9 x.2 h)
theorem ee_ {x:I} (h:x.1.good=true):∃ v:Int,gR v∧x=E (Z.of v):=by
  have h1:=fF x.2 h;refine ⟨_,x.dec.h _ h1,?_⟩;rw [← Z.eq_of h1];exact (gD_ h).symm
theorem HO {v:Int} (h:gR v):(E (Z.of v)).1.good=true:=by
  show (Z.of v).enc.good=true
  rw [Z.enc_good,Z.of_some h];rfl
theorem dC_ {v:Int} (h:gR v):(E (Z.of v)).1.bad=false:=by
  have:=HO h;unfold R.good at this;simp only [Bool.and_eq_true,Bool.not_eq_true'] at this;exact this.1
theorem oj_:(E Z.bad).1.bad=true:=rfl
theorem ct_:(E Z.bad).1.good=false:=rfl
theorem f8_ {v:Int} (h:gR v):(Z.of v).sign=v.sign:=by unfold Z.sign;rw [Z.of_some h]
theorem tT {v:Int} (h:gR v):(Z.signW (Z.of v)).1=v.sign:=f8_ h
theorem EA {u v:Int} (hu:gR u) (hv:gR v):Z.gcd (Z.of u) (Z.of v)=Z.of (Int.gcd u v):=by rw [Z.gcd,gZ (Z.of_some hu) (Z.of_some hv)]
theorem HV {u v:Int} (hu:gR u) (hv:gR v) (h:v≠0):Z.quo (Z.of u) (Z.of v)=Z.of (u.fdiv v):=by rw [Z.quo,gZ (Z.of_some hu) (Z.of_some hv),if_neg h]
theorem qV {u v:Int} (hu:gR u) (hv:gR v):Z.mul (Z.of u) (Z.of v)=Z.of (u * v):=by rw [Z.mul,gZ (Z.of_some hu) (Z.of_some hv)]
theorem E8 {u v:Int} (hu:gR u) (hv:gR v):Z.add (Z.of u) (Z.of v)=Z.of (u+v):=by rw [Z.add,gZ (Z.of_some hu) (Z.of_some hv)]
theorem eo_ {u:Int} (hu:gR u):Z.neg (Z.of u)=Z.of (-u):=by rw [Z.neg,rB (Z.of_some hu)]
theorem B1:gR 1:=by decide
theorem B0:gR 0:=by decide
theorem VZ {u v:Int} (hv:gR v) (h:v≠0):gR (Int.gcd u v:Nat):=by
  have:Int.gcd u v≤v.natAbs:=Nat.le_of_dvd oo_ (Int.gcd_dvd_natAbs_right u v)
  show ((Int.gcd u v:Nat):Int).natAbs<_
  rw [Int.natAbs_natCast];exact Nat.lt_of_le_of_lt this hv
theorem WK {u v:Int} (hu:gR u) (hv:gR v) (h:Z.of u=Z.of v):u=v:=by
  have:=congrArg Z.o h;rw [Z.of_some hu,Z.of_some hv] at this;exact Option.some.inj this
theorem j3_:F_skewbackref04_one=E (Z.of 1):=rfl
theorem rH_:F_ratio_one=E (Z.of 1):=rfl
theorem dr_:AI=pR:=rfl
theorem jq_ (a:I):pP a=a.1.good:=rfl
theorem pA (a:Rt):cE a=aH a:=by
  unfold cE aH;rw [jq_,jq_,j3_,rH_]
  cases a.n.1.good <;> cases a.d.1.good <;> rfl
theorem QC (a b:I):dJ a b=cJ a b:=rfl
theorem IA (a:W):dK a=aE a:=rfl
theorem n8_ (a:Rt):wS a=lA a:=by unfold wS lA;rw [pA,dr_]
theorem PG (a b:Rt):eZ a b=cT a b:=by unfold eZ cT;rw [pA,pA,dr_];rfl
theorem JZ (a b:Rt):fJ a b=cO a b:=by unfold fJ cO;rw [n8_,PG]
theorem qK_ {a:Rt}:aH a=true ↔ ∃ n d,Rt.Is a n d:=by
  unfold aH
  constructor
  · intro h
    cases gn:a.n.1.good <;> cases gd:a.d.1.good <;> simp only [gn,gd,Bool.not_true,Bool.not_false,Bool.or_true,Bool.true_or,Bool.or_false,cond_true,cond_false,Bool.false_eq_true] at h
    obtain ⟨n,hn,en⟩:=ee_ gn;obtain ⟨d,hd,ed⟩:=ee_ gd;rw [en,ed] at h;simp only [eD,Bool.and_eq_true,decide_eq_true_eq,tT hd] at h;obtain ⟨h1,h2⟩:=h;have hp:0<d:=Int.sign_pos_iff.1 h1;rw [EA hn hd,j3_] at h2;have h3:=WK (VZ hd oo_) B1 (bz_ h2);exact ⟨n,d,en,ed,hn,hd,hp,by exact_mod_cast h3⟩
  rintro ⟨n,d,h⟩;rw [h.en,h.ed,HO h.hn,HO h.hd];simp only [Bool.not_true,Bool.or_false,cond_false,eD,Bool.and_eq_true,decide_eq_true_eq,tT h.hd];refine ⟨Int.sign_pos_iff.2 h.pos,?_⟩;rw [EA h.hn h.hd,h.cop];rfl
theorem OG (v:Int):v.fdiv 1=v:=by rw [Int.fdiv_eq_ediv_of_nonneg _ dd_];exact Int.ediv_one v
theorem UG {n d:Int} (hn:gR n) (hd:gR d) (hp:0<d) (hc:Int.gcd n d=1):cJ (E (Z.of n)) (E (Z.of d))=⟨E (Z.of n),E (Z.of d)⟩:=by
  unfold cJ
  have h1:((Z.signW (E (Z.of d)).dec).1==0)=false:=by rw [eD,tT hd,Int.sign_eq_one_of_pos hp];rfl
  have h2:decide ((Z.signW (E (Z.of d)).dec).1<0)=false:=by rw [eD,tT hd,Int.sign_eq_one_of_pos hp];rfl
  rw [HO hn,HO hd,h1,h2,eD,eD,EA hn hd,hc];simp only [Bool.not_true,Bool.or_false,cond_false];rw [show ((1:Nat):Int)=1 from rfl,HV hn B1 dd_,HV hd B1 dd_,OG,OG]
theorem R2 (b:I):cJ (E Z.bad) b=pR:=by unfold cJ;rw [ct_];rfl
theorem R3 (a:I):cJ a (E Z.bad)=pR:=by
  unfold cJ;rw [ct_]
  cases a.1.good <;> rfl
theorem QT {u g:Int} (hg:0<g):u.fdiv g=u / g:=Int.fdiv_eq_ediv_of_nonneg _ (Int.le_of_lt hg)
theorem m9_ {u g:Int} (hu:gR u) (hg:0<g) (hd:g ∣ u):gR (u / g):=by
  obtain ⟨k,rfl⟩:=hd;rw [Int.mul_ediv_cancel_left _ oo_];refine Nat.lt_of_le_of_lt ?_ hu;rw [Int.natAbs_mul];exact Nat.le_mul_of_pos_left _ oo_
theorem cD_ {n d:Int} (hn:gR n) (hd:gR d) (hp:0<d) :
    cJ (E (Z.of n)) (E (Z.of d))=⟨E (Z.of (n / (Int.gcd n d:Nat))),E (Z.of (d / (Int.gcd n d:Nat)))⟩:=by
  unfold cJ
  have h1:((Z.signW (E (Z.of d)).dec).1==0)=false:=by rw [eD,tT hd,Int.sign_eq_one_of_pos hp];rfl
  have h2:decide ((Z.signW (E (Z.of d)).dec).1<0)=false:=by rw [eD,tT hd,Int.sign_eq_one_of_pos hp];rfl
  have hg:0<((Int.gcd n d:Nat):Int):=by
    have:=Int.gcd_pos_of_ne_zero_right n (show d≠0 by omega);omega
  have hb:=VZ (u:=n) hd oo_;rw [HO hn,HO hd,h1,h2,eD,eD,EA hn hd];simp only [Bool.not_true,Bool.or_false,cond_false];rw [HV hn hb oo_,HV hd hb oo_,QT hg,QT hg]
theorem NJ {n d:Int} (hn:gR n) (hd:gR d) (hp:0<d):Rt.Is (cJ (E (Z.of n)) (E (Z.of d))) (n / (Int.gcd n d:Nat)) (d / (Int.gcd n d:Nat)):=by
  have hg:0<((Int.gcd n d:Nat):Int):=by
    have:=Int.gcd_pos_of_ne_zero_right n (show d≠0 by omega);omega
  have d1:((Int.gcd n d:Nat):Int) ∣ n:=Int.gcd_dvd_left ..;have d2:((Int.gcd n d:Nat):Int) ∣ d:=Int.gcd_dvd_right ..;rw [cD_ hn hd hp];refine ⟨rfl,rfl,m9_ hn hg d1,m9_ hd hg d2,Int.ediv_pos_of_pos_of_dvd hp oo_ d2,?_⟩;rw [Int.gcd_ediv d1 d2,Int.natAbs_natCast,Nat.div_self oo_]
theorem UX {a b:Rt} {n d m e:Int} (ha:a.Is n d) (hb:b.Is m e) :
    ∃ p q r s:Int,cJ a.n b.d=⟨E (Z.of p),E (Z.of q)⟩∧cJ b.n a.d=⟨E (Z.of r),E (Z.of s)⟩∧gR p∧gR q∧gR r∧gR s∧0<q∧0<s∧Int.gcd (p * r) (q * s)=1∧n * m * (q * s)=p * r * (d * e):=by
  have h1:=NJ ha.hn hb.hd hb.pos;have h2:=NJ hb.hn ha.hd ha.pos;have g1:((Int.gcd n e:Nat):Int) ∣ n:=Int.gcd_dvd_left ..;have g2:((Int.gcd n e:Nat):Int) ∣ e:=Int.gcd_dvd_right ..;have g3:((Int.gcd m d:Nat):Int) ∣ m:=Int.gcd_dvd_left ..;have g4:((Int.gcd m d:Nat):Int) ∣ d:=Int.gcd_dvd_right ..;refine ⟨n / (Int.gcd n e:Nat),e / (Int.gcd n e:Nat),m / (Int.gcd m d:Nat),d / (Int.gcd m d:Nat),?_,?_,h1.hn,h1.hd,h2.hn,h2.hd,h1.pos,h2.pos,?_,?_⟩
  · rw [ha.en,hb.ed];exact Rt.ext h1.en h1.ed
  · rw [hb.en,ha.ed];exact Rt.ext h2.en h2.ed
  · generalize hG:((Int.gcd n e:Nat):Int)=G at *
    generalize hH:((Int.gcd m d:Nat):Int)=H at *;have c1:Nat.Coprime (n / G).natAbs (e / G).natAbs:=h1.cop;have c2:Nat.Coprime (m / H).natAbs (d / H).natAbs:=h2.cop;have k1:Nat.Coprime n.natAbs d.natAbs:=ha.cop;have k2:Nat.Coprime m.natAbs e.natAbs:=hb.cop;have d1:(n / G).natAbs ∣ n.natAbs:=Int.natAbs_dvd_natAbs.2 (Int.ediv_dvd_of_dvd g1);have d2:(e / G).natAbs ∣ e.natAbs:=Int.natAbs_dvd_natAbs.2 (Int.ediv_dvd_of_dvd g2);have d3:(m / H).natAbs ∣ m.natAbs:=Int.natAbs_dvd_natAbs.2 (Int.ediv_dvd_of_dvd g3);have d4:(d / H).natAbs ∣ d.natAbs:=Int.natAbs_dvd_natAbs.2 (Int.ediv_dvd_of_dvd g4)
    show Nat.gcd (n / G * (m / H)).natAbs (e / G * (d / H)).natAbs=1
    rw [Int.natAbs_mul,Int.natAbs_mul];have x1:Nat.Coprime (n / G).natAbs (d / H).natAbs:=(k1.coprime_dvd_left d1).coprime_dvd_right d4;have x2:Nat.Coprime (m / H).natAbs (e / G).natAbs:=(k2.coprime_dvd_left d3).coprime_dvd_right d2;exact (Nat.Coprime.mul_right c1 x1).mul_left (Nat.Coprime.mul_right x2 c2)
  obtain ⟨x,hx⟩:=g1;obtain ⟨y,hy⟩:=g2;obtain ⟨z,hz⟩:=g3;obtain ⟨t,ht⟩:=g4
  have p1:0<((Int.gcd n e:Nat):Int):=by have:=Int.gcd_pos_of_ne_zero_right n (show e≠0 by have:=hb.pos;omega);omega
  have p2:0<((Int.gcd m d:Nat):Int):=by have:=Int.gcd_pos_of_ne_zero_right m (show d≠0 by have:=ha.pos;omega);omega
  generalize ((Int.gcd n e:Nat):Int)=G at *;generalize ((Int.gcd m d:Nat):Int)=H at *
  have q1:n / G=x:=by rw [hx];exact Int.mul_ediv_cancel_left _ oo_
  have q2:e / G=y:=by rw [hy];exact Int.mul_ediv_cancel_left _ oo_
  have q3:m / H=z:=by rw [hz];exact Int.mul_ediv_cancel_left _ oo_
  have q4:d / H=t:=by rw [ht];exact Int.mul_ediv_cancel_left _ oo_
  rw [q1,q2,q3,q4,hx,hy,hz,ht];grind
theorem PJ (a b:Rt):eE a b=cG a b:=by
  unfold eE cG;rw [pA,pA,dr_,QC,QC]
  cases hga:aH a <;> cases hgb:aH b <;> simp only [Bool.not_true,Bool.not_false,Bool.or_true,Bool.true_or,Bool.or_false,cond_true,cond_false]
  obtain ⟨n,d,ha⟩:=qK_.1 hga;obtain ⟨m,e,hb⟩:=qK_.1 hgb;obtain ⟨p,q,r,s,e1,e2,hp,hq,hr,hs,q0,s0,hc,_⟩:=UX ha hb;rw [e1,e2];simp only [eD,qV hp hr,qV hq hs]
  by_cases b1:gR (p * r)
  · by_cases b2:gR (q * s)
    · rw [UG b1 b2 (Int.mul_pos q0 s0) hc,dC_ b1,dC_ b2];rfl
    rw [aT_ b2,R3,oj_,Bool.or_true];rfl
  rw [aT_ b1,R2];rfl
def Rt.Vld (a:Rt):Prop:=aH a=true∨a=pR
theorem gp_ {a:Rt} (h:a.Vld):cT (aE (wl 0)) a=a:=by
  have h0:(aE (wl 0)).Is 0 1:=by
    have:aE (wl 0)=⟨E (Z.of 0),E (Z.of 1)⟩:=by
      show cJ (E (Z.of 0)) F_skewbackref04_one=_
      rw [j3_,UG B0 B1 dd_ dd_]
    rw [this];exact ⟨rfl,rfl,B0,B1,by decide,by decide⟩
  unfold cT;rw [qK_.2 ⟨_,_,h0⟩];rcases h with hg | hb
  · obtain ⟨n,d,ha⟩:=qK_.1 hg
    have hd0:=ha.pos;simp only [hg,Bool.not_true,Bool.or_false,cond_false];rw [h0.en,h0.ed,ha.en,ha.ed];simp only [eD];rw [EA B1 ha.hd,Int.gcd_one_left]
    rw [show ((1:Nat):Int)=1 from rfl,HV ha.hd B1 dd_,HV B1 B1 dd_,OG,OG,qV B0 ha.hd,Int.zero_mul,qV ha.hn B1,Int.mul_one,E8 B0 ha.hn,Int.zero_add,qV B1 ha.hd,Int.one_mul,
      UG ha.hn ha.hd ha.pos ha.cop]
    exact Rt.ext ha.en.symm ha.ed.symm
  have hn:aH a=false:=by rw [hb];decide +kernel
  rw [hn];exact hb.symm
theorem lb_ {p q:Int} (hp:gR p) (hq:gR q) (h0:0<q) (hc:Int.gcd p q=1):Rt.Vld ⟨E (Z.of p),E (Z.of q)⟩:=.inl (qK_.2 ⟨p,q,rfl,rfl,hp,hq,h0,hc⟩)
theorem mY_ (a b:Rt):(cG a b).Vld:=by
  unfold cG
  cases hga:aH a <;> cases hgb:aH b <;> simp only [Bool.not_true,Bool.not_false,Bool.or_true,Bool.true_or,Bool.or_false,cond_true,cond_false] <;> try exact .inr rfl
  obtain ⟨n,d,ha⟩:=qK_.1 hga;obtain ⟨m,e,hb⟩:=qK_.1 hgb;obtain ⟨p,q,r,s,e1,e2,hp,hq,hr,hs,q0,s0,hc,_⟩:=UX ha hb;rw [e1,e2];simp only [eD,qV hp hr,qV hq hs]
  by_cases b1:gR (p * r)
  · by_cases b2:gR (q * s)
    · rw [UG b1 b2 (Int.mul_pos q0 s0) hc];exact lb_ b1 b2 (Int.mul_pos q0 s0) hc
    rw [aT_ b2,R3];exact .inr rfl
  rw [aT_ b1,R2];exact .inr rfl
theorem rx_ {x:I} (h:gdI x=true):∃ v:Int,gR v∧x=E (Z.of v):=ee_ (by unfold R.good;exact h)
theorem cs_ {v:Int} (h:gR v):gdI (E (Z.of v))=true:=by have:=HO h;unfold R.good at this;exact this
def vI (x:I):Int:=x.dec.o.getD 0
theorem hs_ {v:Int} (h:gR v):vI (E (Z.of v))=v:=by unfold vI;rw [eD,Z.of_some h];rfl
theorem SX {x:I} (h:gdI x=true):x=E (Z.of (vI x))∧gR (vI x):=by
  obtain ⟨v,hv,rfl⟩:=rx_ h;rw [hs_ hv];exact ⟨rfl,hv⟩
theorem mZ_ {v:Int} (h:gR v):zrI (E (Z.of v))=decide (v=0):=by
  unfold zrI;rw [eD,tT h]
  by_cases h0:v=0
  · subst h0;rfl
  rw [decide_eq_false h0];exact beq_eq_false_iff_ne.2 (fun hs=>h0 (Int.sign_eq_zero_iff_zero.1 hs))
theorem P5 {m:List I} {x:I} (h:tM (m ++ [x])=m ++ [x]):zrI x=false:=by
  cases hx:zrI x
  · rfl
  rw [B2,hx,cond_true] at h;have:=NY m;rw [h] at this;simp only [List.length_append,List.length_cons,List.length_nil] at this;omega
end Go.Num

