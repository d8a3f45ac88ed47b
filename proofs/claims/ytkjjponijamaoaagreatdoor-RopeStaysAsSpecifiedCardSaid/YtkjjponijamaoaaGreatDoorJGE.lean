/- Lemmas: what they ask stands in their statements. -/
import Derived.ArgAppend
import Derived.Test.YtkjjponijamaoaaGreatDoorJGD
import Derived.Test.YtkjjponijamaoaaGreatDoorProg
set_option linter.unusedSimpArgs false
set_option linter.unusedVariables false
set_option maxRecDepth 20000
namespace Go.Kn
open Go
def Frq (M L R:List Blk):Prop:=M.Perm (L++R)
theorem sY {x:Blk} {R:List Blk}:Frq (x::R) [x] R:=List.Perm.refl _
theorem mV {L R:List Blk}:Frq (L++R) L R:=List.Perm.refl _
theorem jY {x:Blk} {R L R':List Blk} (h:Frq R L R'):Frq (x::R) L (x::R'):=(List.Perm.cons x h).trans List.perm_middle.symm
theorem nD {L2 R L R':List Blk} (h:Frq R L R'):Frq (L2++R) L (L2++R'):=by
 have h1:(L2++R).Perm (L2++(L++R')):=List.Perm.append_left L2 h
 have h2:(L2++(L++R')).Perm (L++(L2++R')):=by
  rw [← List.append_assoc,← List.append_assoc];exact List.Perm.append_right R' List.perm_append_comm
 exact h1.trans h2
theorem Sat.perm {w0 w:World} {X:List Nat} {M M':List Blk} (h:Sat w0 X M w) (p:M.Perm M'):Sat w0 X M' w :=
 ⟨h.os,h.tape,h.output,h.size,h.old,(p.map Blk.b).nodup_iff.1 h.nodup,fun x hx=>h.mem x (p.mem_iff.2 hx)⟩
theorem OwnG.lit {α:Type} {e:El α} {w0:World} {l:List α} {E:TypeId} {b n:Nat} {qs:List Part} (hb:w0.heap.size≤b) (hn:l.length=n) (hm:n≤maxLen) (hq:qs=l.flatMap e.ps):OwnG w0 E e (.slice (some ⟨b,0,none⟩) n n) l [⟨b,E,cF qs⟩] :=
 OwnG.of_mine hb hn hm (by rw [hq];exact EO l)
theorem UP {α:Type} {e:El α} {P:Program} {w0:World} {X:List Nat} {N:Nm} {S:Fr} {M:List Blk} {d:Option Tmp} {ty:TypeId} {ps:String} {af:Array Edge} {gd:Option (Nat×Bool)} {v:Value} {l:List α}
  {T E:TypeId} {x y:Operand} {u:Value} {m:List α} {L M1:List Blk} {K:Value→List Blk→Prop} (bytes:Nat) (hT:P.underlying T=some (.slice E)) (hE:U2 P E e.n bytes=true) (h0:0<e.n) (hx:evO N S x=some v) (hy:evO N S y=some u)
  (hv:OwnG w0 E e v l L) (hu:SLe w0 X M e u m) (hs:Frq M L M1) (hn:(l.length+m.length)*bytes≤140737488355328) (h8:0<bytes) (k:∀ v' L',OwnG w0 E e v' (l++m) L'→K v' (L'++M1)) :
  OpR P w0 X N ⟨d,.call { callee:=.builtin .append,args:=#[x,y],argTypes:=#[T,T] },ty,ps,af,gd⟩ S M K:=fun w hw =>
 UO (M:=L++M1) hT hE h0 hx hy hv (fun w hw=>hu w (hw.perm (List.Perm.symm hs))) (List.Sublist.refl _) hn h8 k w (hw.perm hs)
section
variable {α:Type} {e:El α} {P:Program} {w0:World} {X:List Nat} {N:Nm} {S:Fr} {M M':List Blk} {d:Option Tmp} {ty:TypeId} {ps:String} {af:Array Edge} {gd:Option (Nat×Bool)} {v:Value} {l:List α}
theorem OpR.perm {o:Oper} {K:Value→List Blk→Prop} (p:M.Perm M') (h:OpR P w0 X N o S M' K):OpR P w0 X N o S M K:=fun w hw=>h w (hw.perm p)
theorem OwnG.form {E:TypeId} {L:List Blk} (h:OwnG w0 E e v l L):∃ p c,v = .slice p l.length c:=by
 rcases h with ⟨rfl,rfl,rfl⟩|⟨g,cap,cur,rfl,_⟩
 ·exact ⟨none,0,rfl⟩
 exact ⟨_,_,rfl⟩
theorem SLfe.max (h:SLfe w0 M e v l):l.length≤9223372036854775807:=by
 obtain ⟨p,c,hv,hc,hm,_⟩:=h;unfold maxLen at hm;omega
theorem SLfe.lit {b n:Nat} {T:TypeId} {qs:List Part} (hB:w0.heap.size≤b) (h:(⟨b,T,cF qs⟩:Blk)∈M) (hn:l.length=n) (hm:n≤maxLen) (hq:qs=l.flatMap e.ps):SLfe w0 M e (.slice (some ⟨b,0,none⟩) n n) l :=
 SLfe.mine hB h hn (Nat.le_refl _) hm (by rw [← hn,List.take_of_length_le,hq,EO];rw [hq,EO,nR];exact Nat.le_refl _)
theorem kQ {T E:TypeId} {x y:Operand} {u:Value} {m:List α} {L M1:List Blk} {K:Value→List Blk→Prop} (bytes:Nat) (hT:P.underlying T=some (.slice E)) (hE:U2 P E e.n bytes=true) (h0:0<e.n) (hx:evO N S x=some v) (hy:evO N S y=some u)
  (hv:OwnG w0 E e v l L) (hu:SLe w0 X M e u m) (hs:Frq M L M1) (hn:(l.length+m.length)*bytes≤140737488355328) (h8:0<bytes) (k:∀ p c L',OwnG w0 E e (.slice p (l++m).length c) (l++m) L'→K (.slice p (l++m).length c) (L'++M1)) :
  OpR P w0 X N ⟨d,.call { callee:=.builtin .append,args:=#[x,y],argTypes:=#[T,T] },ty,ps,af,gd⟩ S M K :=
 UP bytes hT hE h0 hx hy hv hu hs hn h8 fun v' L' h=>by
  obtain ⟨p,c,rfl⟩:=h.form;exact k p c L' h
theorem X2 {k:Nat} {z:α} (hk:k<l.length):(rows e l).take (k*e.n)++e.cs z++(rows e l).drop (k*e.n+e.n)=rows e (l.set k z):=by
 rw [CZ,show k*e.n+e.n=(k+1)*e.n by rw [Nat.succ_mul],LG,List.set_eq_take_append_cons_drop,if_pos hk,wL]
 simp [rows]
theorem XX {T E:TypeId} {x y:Operand} {g:Bool} {k m:Nat} {z:α} {u:Value} {L M1:List Blk} {K:Value→List Blk→Prop} (hT:jN P T=some (g,e.n)) (hx:evO N S x=some (.pointer (some (slb v m)))) (hm:m=k*e.n) (hv:OwnG w0 E e v l L) (hk:k<l.length)
  (hs:Frq M L M1) (hy0:evO N S y=some u) (hy:u.cells=(cF (e.ps z)).toArray) (kk:∀ L',OwnG w0 E e v (l.set k z) L'→K undef (L'++M1)):OpR P w0 X N ⟨d,.store T x y,ty,ps,af,gd⟩ S M K:=by
 subst hm;rcases hv with ⟨rfl,rfl,rfl⟩|⟨g',cap,cur,rfl,rfl,hg,hc,hmx,hl,ht⟩
 ·simp at hk
 have hx':evO N S x=some (.pointer (some ⟨g',k*e.n,none⟩)):=by rw [hx];simp [slb,rP]
 have e1:l.length*e.n≤cap*e.n:=Nat.mul_le_mul_right _ hc;have e2:(k+1)*e.n≤l.length*e.n:=Nat.mul_le_mul_right _ oo_;rw [Nat.succ_mul] at e2;have hcs:(e.cs z).length=e.n:=El.cs_len z
 have hcur:cur=rows e l++cur.drop (l.length*e.n):=by rw [← ht,List.take_append_drop]
 have hlr:=nR (e:=e) l;refine OpR.perm hs (HJ (U:=E) (cs:=cur) (vs:=e.cs z) (M':=⟨g',E,cur.take (k*e.n)++e.cs z++cur.drop (k*e.n+e.n)⟩::M1) hT hx' (.head _) hy0 hy hcs (fun v h=>El.cs_plain z v h) oo_ O (.inl hg) ?_);refine kk [⟨g',E,cur.take (k*e.n)++e.cs z++cur.drop (k*e.n+e.n)⟩] (.inr ⟨g',cap,_,by rw [List.length_set],rfl,hg,by rw [List.length_set];exact hc,hmx,?_,?_⟩)
 ·rw [List.length_append,List.length_append,List.length_take,List.length_drop,hcs,hl,Nat.min_eq_left oo_];omega
 rw [List.length_set,← X2 hk]
 have t1:cur.take (k*e.n)=(rows e l).take (k*e.n):=by rw [← ht,List.take_take,Nat.min_eq_left oo_]
 have t2:(cur.drop (k*e.n+e.n)).take (l.length*e.n - (k*e.n+e.n))=(rows e l).drop (k*e.n+e.n):=by rw [← ht,List.drop_take]
 rw [t1]
 have n1:((rows e l).take (k*e.n)++e.cs z).length=k*e.n+e.n:=by rw [List.length_append,List.length_take,hcs,hlr,Nat.min_eq_left oo_]
 rw [List.take_append,n1,t2,List.take_of_length_le (by rw [n1];omega)]
end
end Go.Kn
namespace Go.Num
open Go Go.Kn
def Z.nat (z:Z):Nat:=match z.o with|some v=>v.natAbs|none=>0
def Z.half (z:Z):Z:=F7 (fun v=>Z.of (v / 2)) z
def sqb:Nat→Nat→Nat→Nat
 | 0,_,r=>r
 | k+1,v,r=>bif decide (v<(r+2 ^ k)*(r+2 ^ k)) then sqb k v r else sqb k v (r+2 ^ k)
def zP (v:Nat):Nat:=sqb 256 v 0
theorem I2:∀ (k v r:Nat),r*r≤v→v<(r+2 ^ k)*(r+2 ^ k)→sqb k v r*sqb k v r≤v∧v<(sqb k v r+1)*(sqb k v r+1)
 | 0,v,r,h1,h2=>⟨h1,h2⟩
 | k+1,v,r,h1,h2=>by
  unfold sqb
  by_cases h:v<(r+2 ^ k)*(r+2 ^ k)
  ·rw [decide_eq_true h,cond_true];exact I2 k v r h1 h
  rw [decide_eq_false h,cond_false];refine I2 k v (r+2 ^ k) oo_ ?_;rw [Nat.add_assoc,← Nat.two_mul,Nat.mul_comm 2,← Nat.pow_succ];exact h2
theorem T6 {v k m:Nat} (hm:4294967296 ^ 16=2 ^ m) (hk:m=k+k) (h:v<4294967296 ^ 16):v<(0+2 ^ k)*(0+2 ^ k):=by
 rw [Nat.zero_add,← Nat.pow_add,← hk,← hm];exact h
theorem xJ {v:Nat} (h:v<4294967296 ^ 16):zP v*zP v≤v∧v<(zP v+1)*(zP v+1):=I2 256 v 0 (Nat.zero_le _) (T6 C3 O h)
theorem ak_ {a b:Nat} (h:a<b):(a+1)*(a+1)≤b*b:=Nat.mul_le_mul h h
theorem a1_ {a:R} (ha:a.Ok):val a.w<4294967296 ^ 16:=by have:=y7 a.w ha.lim;rwa [ha.len] at this
theorem TZ {a:R} (ha:a.Ok) (ga:a.good=true) (hn:a.neg=false):R.mk false false (toL 16 (val a.w / 2 ^ 1))=(Z.half a.dec).enc:=by
 unfold Z.half;rw [nF (cK ha ga),hn]
 have e:sgn false (val a.w) / 2=sgn false (val a.w / 2 ^ 1):=by
  show ((val a.w:Nat):Int) / 2=((val a.w / 2 ^ 1:Nat):Int)
  omega
 rw [e];exact o6 false (Nat.lt_of_le_of_lt (Nat.div_le_self _ _) (a1_ ha))
theorem WO {a:R} (ga:a.good=false):Z.half a.dec=Z.bad:=by
 unfold Z.half R.dec;rw [if_neg (by simp [ga])];rfl
theorem T3 {a:R} (ha:a.Ok) (ga:a.good=true) (hn:a.neg=false) (hs:a.dec.sign=0):a=(Z.half a.dec).enc:=by
 have hv:sgn false (val a.w)=0:=by
  unfold Z.sign at hs;rw [cK ha ga,hn] at hs;exact Int.sign_eq_zero_iff_zero.1 hs
 unfold Z.half;rw [nF (cK ha ga),hn,hv]
 have e:a.dec=Z.of 0:=by
  unfold R.dec;rw [if_pos ga,hn,hv]
 have:=(MM ha ga).symm;rw [e] at this;exact this
theorem TY {a:R} (h:a.Ok):(uw (List.replicate 16 0)).take 0++(a.cells.drop 2).take 16++(uw (List.replicate 16 0)).drop 16=uw a.w:=by
 have e1:a.cells.drop 2=uw a.w:=rfl
 have e2:(uw a.w).length=16:=by rw [i6,h.len]
 have e3:(uw (List.replicate 16 0)).drop 16=[]:=rfl;rw [e1,List.take_of_length_le (l:=uw a.w) oo_,e3,List.take_zero,List.nil_append,List.append_nil]
theorem dj_ {a b:Int} (h:(a != b)=false):a=b:=by simpa using h
theorem dk_ {a b:Int} (h:(a != b)=true):a≠b:=by simpa using h
theorem trs {α:Type} {a b c:α} (h2:b=c) (h1:a=b):a=c:=h1.trans h2
theorem apS {σ β:Type} {f:σ→β} {x s:σ} (h:x=s):ap f x=f s:=by rw [h];rfl
theorem smS {σ ρ β:Type} {f:σ→β} {g:ρ→β} {x:σ ⊕ ρ} {s:σ} (h:x = .inl s):sm f g x=f s:=by rw [h];rfl
structure Edg where
 l:List (A3 Rt)
 e:W
structure Pts where
 l:List Rt
 is:Bool
end Go.Num
namespace Go.Kn
open Go Go.Num
def FnV {α:Type} (P:Program) (w:World) (v:Value) (enc:α→List Value) (dom:α→Prop) (out:α→Value):Prop :=
 ∃ g cap,v = .func (.func g) #[] cap.toArray∧mI P g=true∧∀ w',Ext w w'→∀ x,dom x→Calls P g (enc x++cap).toArray w' fun e w''=>e = .returned (out x)∧Ext w' w''
def FnE {α:Type} (P:Program) (w0:World) (X:List Nat) (M:List Blk) (g:Nat) (cap:List Value) (enc:α→List Value) (dom:α→Prop) (out:α→Value):Prop :=
 mI P g=true∧∀ w,Sat w0 X M w→∀ x,dom x→Calls P g (enc x++cap).toArray w fun e w''=>e = .returned (out x)∧Ext w w''
section
variable {α:Type} {P:Program} {w0:World} {X:List Nat} {N:Nm} {S:Fr} {M M':List Blk} {d:Option Tmp} {ty:TypeId} {ps:String} {af:Array Edge} {gd:Option (Nat×Bool)} {enc:α→List Value} {dom:α→Prop} {out:α→Value} {g:Nat} {cap:List Value}
theorem FnV.open {w:World} {v:Value} (h:FnV P w v enc dom out):∃ g cap,v = .func (.func g) #[] cap.toArray∧FnE P w [] [] g cap enc dom out:=by
 obtain ⟨g,cap,hv,he,hc⟩:=h;exact ⟨g,cap,hv,he,fun w' hw' x hx=>hc w' hw'.ext x hx⟩
theorem FnV.mk {w:World} (hw:Sat w0 X M w) (he:mI P g=true) (h:∀ w,Sat w0 X M w→∀ x,dom x→Calls P g (enc x++cap).toArray w fun e w''=>e = .returned (out x)∧Ext w w''):FnV P w (.func (.func g) #[] cap.toArray) enc dom out :=
 ⟨g,cap,rfl,he,fun w' hx x hd=>h w' (Sat.mono _ _ _ _ _ hw hx) x hd⟩
theorem FnE.sub (h:FnE P w0 X M g cap enc dom out) (hs:M.Sublist M'):FnE P w0 X M' g cap enc dom out:=⟨h.1,fun w hw=>h.2 w (hw.sub hs)⟩
theorem FnE.ap {w:World} (hw:Sat w0 X M w) (h:FnE P w0 X M g cap enc dom out):FnV P w (.func (.func g) #[] cap.toArray) enc dom out:=FnV.mk hw h.1 h.2
theorem FnV.get {w:World} (h:FnV P w (.func (.func g) #[] cap.toArray) enc dom out):FnE P w [] [] g cap enc dom out:=by
 obtain ⟨g',cap',hv,he⟩:=h.open
 have e1:g=g'∧cap=cap':=by simpa using hv
 obtain ⟨rfl,rfl⟩:=e1;exact he
theorem PH {f:Operand} {xs:List Operand} {tys:Array TypeId} (x:α) (hf:evO N S f=some (.func (.func g) #[] cap.toArray)) (ha:evL N S xs=some (enc x)) (h:FnE P w0 X M g cap enc dom out) (hx:dom x) :
  OpQ P w0 X N ⟨d,.call { callee:=.value f,args:=xs.toArray,argTypes:=tys },ty,ps,af,gd⟩ S M (out x) :=
 Z2 (first:=[]) (cap:=cap) (args:=enc x) h.1 hf ha fun w hw=>by simpa using h.2 w hw x hx
end
abbrev eN (k:Nat):List Value:=[.int .i64 (k:Int)]
abbrev eW (k:Num.W):List Value:=[.int .i64 k.1]
abbrev eI (x:I):List Value:=[AV [pI x]]
abbrev eII (x:I×I):List Value:=[AV [pI x.1],AV [pI x.2]]
abbrev eRt (x:Rt):List Value:=[AV [pI x.n,pI x.d]]
abbrev XH {α:Type} (f:α→I) (x:α):Value:=AV [pI (f x)]
abbrev eG_ {α:Type} (f:α→Num.W) (x:α):Value:=.int .i64 (f x).1
abbrev UI {α:Type} (f:α→Bool) (x:α):Value:=.bool (f x)
theorem cvE {t:Int} (h:-9223372036854775808≤t∧t≤9223372036854775807):(W.cv t).1=t:=by
 show IntKind.i64.wrap t=t
 exact wi h
section
variable {α:Type} {e:El α} {P:Program} {w0:World} {X:List Nat} {N:Nm} {S:Fr} {M M':List Blk} {d:Option Tmp} {ty:TypeId} {ps:String} {af:Array Edge} {gd:Option (Nat×Bool)} {v:Value} {l:List α}
theorem Slr.form {w:World} (h:Slr w e v l):∃ p c,v = .slice p l.length c:=by
 obtain ⟨p,c,hv,_⟩:=h;exact ⟨p,c,hv⟩
theorem sK {T:TypeId} {x y:Operand} {k:Nat} {i:IntKind} {t:Int} (hT:n8 P T=some e.n) (hx:evO N S x=some v) (hy:evO N S y=some (.int i t)) (ht:t=(k:Int)) (hv:SLe w0 X M e v l) (hk:k<l.length) :
  OpQ P w0 X N ⟨d,.indexAddr T x y,ty,ps,af,gd⟩ S M (.pointer (some (slb v (k*e.n)))):=by
 subst ht;exact kJ hT hx hy hv hk
theorem OwnG.take {E:TypeId} {p:Option Addr} {n c:Nat} {L:List Blk} (h:OwnG w0 E e (.slice p n c) l L) {k:Nat} (hk:k≤l.length):OwnG w0 E e (.slice p (l.take k).length c) (l.take k) L:=by
 have hl:(l.take k).length=k:=by rw [List.length_take,Nat.min_eq_left hk]
 rcases h with ⟨h,rfl,rfl⟩|⟨g,cap,cur,h,rfl,hg,hc,hm,hn,ht⟩
 ·cases h
  obtain rfl:k=0:=by simpa using hk
  exact .inl ⟨rfl,rfl,rfl⟩
 ·cases h
  refine .inr ⟨g,c,cur,rfl,rfl,hg,by omega,hm,hn,?_⟩;rw [hl,← CZ,← ht,List.take_take,Nat.min_eq_left (Nat.mul_le_mul_right _ hk)]
theorem SR {T E:TypeId} {x y:Operand} {k n c:Nat} {i:IntKind} {t:Int} {p:Option Addr} {L:List Blk} (hT:n8 P T=some e.n) (hx:evO N S x=some (.slice p n c)) (hy:evO N S y=some (.int i t)) (ht:t=(k:Int)) (hv:OwnG w0 E e (.slice p n c) l L) (hk:k≤l.length) :
  OpQ P w0 X N ⟨d,.slice T x none (some y) none,ty,ps,af,gd⟩ S M (.slice p (l.take k).length c):=by
 subst ht
 have hl:(l.take k).length=k:=by rw [List.length_take,Nat.min_eq_left hk]
 rw [hl]
 have hn:n=l.length∧l.length≤c:=by
  rcases hv with ⟨h,rfl,rfl⟩|⟨g,cap,cur,h,rfl,hg,hc,hm,hn,ht⟩
  ·cases h;exact ⟨rfl,Nat.le_refl _⟩
  ·cases h;exact ⟨rfl,hc⟩
 refine qD (w0:=w0) (X:=X) (M:=M) (fun w hw=>?_);obtain ⟨e',q,hu,hi',hs⟩:=rM hT;have hb:=AG (P:=P) (N:=N) (S:=S) (w:=w) (isSl:=true) (len:=n) (cap:=c) (lo:=none) (hi:=some y) (l:=0) (h:=(k:Int)) O (by simp [zL,hy]) oo_ oo_ oo_;simp only [Option.map_none,Option.map_some] at hb;simp only [execOp,Instr.sliceAt,Instr.slice,Sem.run_bind,run_underlying hu,bT hx,Result.andThen_ok];simp only [Option.map_none,Option.map_some,hb,Result.andThen_ok,sizeOf,typeInfo,Sem.run_bind,run_program,hi',hs,Sem.run_pure]
 cases p<;>simp [Addr.add]
def Rpl (M L:List Blk) (f:List Blk→List Blk):Prop:=∃ R,Frq M L R∧∀ L',(L'++R).Perm (f L')
theorem dD_ {L R:List Blk}:Rpl (L++R) L (fun L'=>L'++R):=⟨R,mV,fun _=>List.Perm.refl _⟩
theorem dE_ {x:Blk} {R L:List Blk} {f:List Blk→List Blk} (h:Rpl R L f):Rpl (x::R) L (fun L'=>x::f L'):=by
 obtain ⟨R',h1,h2⟩:=h;exact ⟨x::R',jY h1,fun L'=>List.perm_middle.trans (List.Perm.cons x (h2 L'))⟩
theorem PM {T E:TypeId} {x y:Operand} {g:Bool} {k m:Nat} {z:α} {u:Value} {L:List Blk} {f:List Blk→List Blk} {K:Value→List Blk→Prop} (hT:jN P T=some (g,e.n)) (hx:evO N S x=some (.pointer (some (slb v m)))) (hm:m=k*e.n) (hv:OwnG w0 E e v l L) (hk:k<l.length)
  (hs:Rpl M L f) (hy0:evO N S y=some u) (hy:u.cells=(cF (e.ps z)).toArray) (kk:∀ L',OwnG w0 E e v (l.set k z) L'→K undef (f L')):OpR P w0 X N ⟨d,.store T x y,ty,ps,af,gd⟩ S M K:=by
 obtain ⟨R,h1,h2⟩:=hs;intro w hw;have h:=XX (w0:=w0) (X:=X) (M:=M) (d:=d) (ty:=ty) (ps:=ps) (af:=af) (gd:=gd) (K:=fun u M'=>∃ M2,M'.Perm M2∧K u M2) hT hx hm hv hk h1 hy0 hy (fun L' ho=>⟨f L',h2 L',kk L' ho⟩) w hw;refine zS ?_ h;rintro u w' ⟨hk',M',hs',M2,hp,hK⟩;exact ⟨hk',M2,hs'.perm hp,hK⟩
theorem OwnG.len {E:TypeId} {p:Option Addr} {n c:Nat} {L:List Blk} (h:OwnG w0 E e (.slice p n c) l L):n=l.length:=by
 rcases h with ⟨h,rfl,rfl⟩|⟨g,cap,cur,h,_⟩
 ·cases h;rfl
 ·cases h;rfl
theorem UC (x0:α) (h0:0<e.n) (c:Nat):madeCells (e.cs x0).toArray (c*e.n)=(rows e (List.replicate c x0)).toArray:=by
 apply Array.ext
 ·rw [size_madeCells,List.size_toArray,nR,List.length_replicate]
 intro i h1 h2;have hlen:(e.cs x0).length=e.n:=El.cs_len x0;rw [size_madeCells] at h1;have hq:i / e.n<c:=Nat.div_lt_of_lt_mul (by rw [Nat.mul_comm];exact h1);have hr:i % e.n<e.n:=Nat.mod_lt _ h0
 have hk:(List.replicate c x0)[i / e.n]? = some x0:=by rw [List.getElem?_replicate,if_pos hq]
 have hg:=PS (e:=e) hk
 have h3:(rows e (List.replicate c x0))[i]? = some ((e.cs x0)[i % e.n]'oo_):=by
  have h4:(((rows e (List.replicate c x0)).drop (i / e.n*e.n)).take e.n)[i % e.n]? = some ((e.cs x0)[i % e.n]'oo_):=by rw [hg];exact List.getElem?_eq_getElem _
  rw [List.getElem?_take_of_lt hr,List.getElem?_drop,Nat.div_add_mod' i e.n] at h4;exact h4
 have h5:(rows e (List.replicate c x0)).toArray[i]? = some ((e.cs x0)[i % e.n]'oo_):=by simpa using h3
 rw [Array.getElem?_eq_getElem h2] at h5;rw [Option.some.inj h5];simp only [madeCells,Array.getElem_map,Array.getElem_range,List.size_toArray,hlen];rw [getElem!_pos (e.cs x0).toArray (i % e.n) (by rw [List.size_toArray,hlen];exact hr)]
 simp
theorem SW {T E:TypeId} {x y:Operand} {n c:Nat} {i j:IntKind} {s t:Int} {K:Value→List Blk→Prop} (bytes:Nat) (x0:α) (hT:P.underlying T=some (.slice E)) (hE:U2 P E e.n bytes=true) (h0:0<e.n) (hz:nW P E=some (e.cs x0)) (hx:evO N S x=some (.int i s)) (hy:evO N S y=some (.int j t))
  (hs:s=(n:Int)) (ht:t=(c:Int)) (hnc:n≤c) (hcm:c≤200000) (hen:e.n≤80) (hby:bytes≤1000) (k:∀ p L,OwnG w0 E e (.slice p (List.replicate n x0).length c) (List.replicate n x0) L→K (.slice p (List.replicate n x0).length c) (L++M)) :
  OpR P w0 X N ⟨d,.makeSlice T x y,ty,ps,af,gd⟩ S M K:=by
 subst hs ht;intro w hw;obtain ⟨inf,z,hi,hz',hc⟩:=yU hz;unfold U2 at hE;simp only [hi,hz',Bool.and_eq_true,beq_iff_eq] at hE;obtain ⟨⟨h1,hb⟩,hzc⟩:=hE;have b1:c*e.n≤200000*80:=Nat.mul_le_mul hcm hen;have b2:bytes*c≤1000*200000:=Nat.mul_le_mul hby hcm;have hr:=run_makeSlice (P:=P) w T E inf z hT hi hz' i j n c oo_ oo_ (by rw [h1,Int.toNat_natCast];omega) (by rw [hb];omega) oo_;rw [h1,hc,Int.toNat_natCast,Int.toNat_natCast,UC x0 h0] at hr;unfold opw
 have hex:(execOp (ev N S) ⟨d,.makeSlice T x y,ty,ps,af,gd⟩).run P w = .ok (.value (.slice (some ⟨w.heap.size,0,none⟩) n c)) (w.alloc (.cells (rows e (List.replicate c x0)).toArray E)):=by
  simp [execOp,bT hx,bT hy,hr]
 rw [nQ,hex];have hl:(List.replicate n x0).length=n:=List.length_replicate
 have hk:=k (some ⟨w.heap.size,0,none⟩) [⟨w.heap.size,E,rows e (List.replicate c x0)⟩] (.inr ⟨w.heap.size,c,_,rfl,rfl,hw.size,by rw [hl];exact hnc,by unfold maxLen;omega,by rw [nR,List.length_replicate],by
  rw [hl,CZ,List.take_replicate,Nat.min_eq_left hnc]⟩)
 rw [hl] at hk;exact ⟨.alloc _ _,_,hw.alloc E _,hk⟩
theorem QJ {c:Code} {Q:qP} {M2:List Blk} (p:M.Perm M2) (h:W P w0 X N c Q S M2):W P w0 X N c Q S M:=fun B D w hB hd hr hw=>h B D w hB hd hr (hw.perm p)
def Slo (B:Nat) (w:World) (E:TypeId) (e:El α) (v:Value) (l:List α):Prop :=
 (v = .slice none 0 0∧l=[]) ∨ ∃ g cap,∃ cur:List Value,v = .slice (some ⟨g,0,none⟩) l.length cap∧B≤g∧w.heap[g]? = some (.cells cur.toArray E (0,0))∧l.length≤cap∧cap≤maxLen∧cur.length=cap*e.n∧cur.take (l.length*e.n)=rows e l
theorem OwnG.slo {E:TypeId} {L:List Blk} {w:World} (h:OwnG w0 E e v l L) (hs:L.Sublist M) (hw:Sat w0 X M w):Slo w0.heap.size w E e v l:=by
 rcases h with ⟨rfl,rfl,rfl⟩|⟨g,cap,cur,rfl,rfl,hg,hc,hm,hn,ht⟩
 ·exact .inl ⟨rfl,rfl⟩
 exact .inr ⟨g,cap,cur,rfl,hg,hw.mem _ (hs.mem List.mem_cons_self),hc,hm,hn,ht⟩
theorem Slo.now {w w':World} {E:TypeId} (h:Slo w.heap.size w' E e v l) (hw:Sat w0 X M w) (he:Ext w w'):∃ p c L,v = .slice p l.length c∧Sat w0 X (L++M) w'∧OwnG w0 E e (.slice p l.length c) l L:=by
 have hw':=Sat.mono _ _ _ _ _ hw he;rcases h with ⟨rfl,rfl⟩|⟨g,cap,cur,rfl,hB,hh,hc,hm,hn,ht⟩
 ·exact ⟨none,0,[],rfl,hw',.inl ⟨rfl,rfl,rfl⟩⟩
 have hb:g ∉ M.map Blk.b:=fun hm=>by
  obtain ⟨x,hx,rfl⟩:=List.mem_map.1 hm;have:=eZ? (hw.mem x hx);omega
 refine ⟨_,cap,[⟨g,E,cur⟩],rfl,⟨hw'.os,hw'.tape,hw'.output,hw'.size,hw'.old,by simpa using And.intro (by simpa using hb) hw'.nodup,fun y hy=>?_⟩,.inr ⟨g,cap,cur,rfl,rfl,Nat.le_trans hw.size hB,hc,hm,hn,ht⟩⟩;rcases List.mem_cons.1 hy with rfl|hy
 ·exact hh
 exact hw'.mem y hy
def eq_ (w0:World) (M:List Blk) (E:TypeId) (e:El α) (v:Value) (l:List α):Prop:=∃ L,L.Sublist M∧OwnG w0 E e v l L
theorem dD {n:Nat} {E:TypeId} {f:FuncId} {fn:Func} {c:Code} {args:List Value} {w:World} (R:Value→Value) (hf:P.funcs[f]? = some fn) (hb:fn.body=some c) (hn:fn.ntmps=n) (hl:args.length≤n)
  (h:W P w [] (pl n) c (oW P fn w [] (pl n) fun r M=>∃ v,r=R v∧eq_ w M E e v l) (tS 0 args) []):Calls P f args.toArray w fun f w'=>∃ v,f = .returned (R v)∧Ext w w'∧Slo w.heap.size w' E e v l :=
 (qK hf hb hn hl (Sat.start w []) h).mono fun f w' ⟨r,M',he,hs,_,v,hr,L,hL,hu⟩=>⟨v,by rw [he,hr],hs.ext,hu.slo hL hs⟩
theorem aN {E:TypeId} {g:FuncId} {xs:List Operand} {tys:Array TypeId} {args:List Value} {K:Value→List Blk→Prop} (R:Value→Value) (he:mI P g=true) (ha:evL N S xs=some args)
  (h:∀ w,Sat w0 X M w→Calls P g args.toArray w fun f w'=>∃ v,f = .returned (R v)∧Ext w w'∧Slo w.heap.size w' E e v l) (k:∀ p c L,OwnG w0 E e (.slice p l.length c) l L→K (R (.slice p l.length c)) (L++M)):OpR P w0 X N ⟨d,.call { callee:=.value (.func g),args:=xs.toArray,argTypes:=tys },ty,ps,af,gd⟩ S M K :=
 DX he ha fun w hw=>(h w hw).mono fun _ w' ⟨v,h1,h2,h3⟩=>by
  obtain ⟨p,c,L,rfl,hs,hv⟩:=h3.now hw h2;exact ⟨_,L++M,h1,hs,Ext.keeps h2,k p c L hv⟩
theorem OwnG.max {E:TypeId} {L:List Blk} (h:OwnG w0 E e v l L):l.length≤9223372036854775807:=(h.slfe (List.Sublist.refl L)).max
abbrev cU_:Part:=⟨1,[.nilFunc],rfl,fun v h=>by rw [List.mem_singleton.1 h];rfl⟩
end
end Go.Kn
namespace Go.Num
open Go Go.Kn
structure Sgd where
 s:W
 ok:Bool
structure Lst8 where
 l:List I
 is:Bool
abbrev gdI (x:I):Bool:=!x.1.bad&&x.1.valid
end Go.Num
namespace Go.Proofs.YtkjjponijamaoaaGreatDoor
open Go.Kn Go.Num Tryz
def enL_:List Nat:=[13,14,15,16,17,18,19,20,21,22,23,24,25,26,27,28,29,30,31,32,33,34,35,36,37,38,39,40,41,42,43,44,45,46,47,48,49,50,51,52,53,54,55,56,57,58,59,60,61,62,63,64,65,66,67,68,69,70,71,72,73,74,75,76,77,78,79,80,81,82,83,84,85,86,87,88,89,90,91,92,93,94,95,96,97,98,99,100,101,102,103,104,105,106,107,108,109,110,111,112,113,114,115,116,117,118,119,120,121,122,123,124,125,126,127,128,129,130,131,132,133,134,135,136,137,138,139,140,141,142,143,144,145,146,147,148,149,150,151,152,153,154,155,156,157,158,159,160,161,162,163,164,165,166,167,168,169,170,171,172,173,174,175,176,177,178,179,180,181,182,183,184,185,186,187,188,189,190,191,192,193,194,195,196,197,198,199,200,201,202,203,204,205,206,207,208,209,210,211,212,213,214,215,216,217,218,219,220,221,222,223,224,225,226,227,228,229,230,231,232,233,234,235,236,237,238,239,240,241,242,243,244,245,246,247,248,249,250,251,252,253,254,255,256,257,258,259,260,261,262,263,264,265,266,267,268,269,270,271,272,273,274,275,276,277,278,279,280,282,283]
theorem ew_:enL_.all (fun g=>mI prog g)=true:=by kernel_rfl
theorem aB {g:Nat} (h:enL_.contains g=true:=by rfl):mI prog g=true:=List.all_eq_true.1 ew_ g (List.contains_iff_mem.1 h)
theorem mix:prog.follows .mixedOrders=true:=by kernel_rfl
def pQa (o:List Nat):Nat→Nat→List Nat
 | 0,_=>[]
 | k+1,i=>(4*i+bif o.contains i then 1 else 0)::pQa o k (i+1)
section
variable {w0:World} {X:List Nat} {N:Nm} {S:Fr} {M MD:List Blk} {Q:qP} {y:Code} {id:Nat} {ops:List Oper}
theorem qM (sub:MD.Sublist M) (n:Nat) (o nx:List Nat) (h:PL prog w0 X N ops (nwx ops nx) MD (Nx prog w0 X N y Q) (mP ops.toArray (pQa o n 0)) S M)
 (hok:(Region.noSelect ops.toArray&&Plan.ok ops.toArray (nwx ops nx) ops.length (Array.replicate ops.length false) (mP ops.toArray (pQa o n 0)))=true:=by kernel_rfl):Go.Kn.W prog w0 X N (.seq (.region id ops.toArray true) y) Q S M:=gds sub _ nx mix hok h
theorem kU (sub:MD.Sublist M) (n:Nat) (o nx:List Nat) (h:PL prog w0 X N ops (nwx ops nx) MD (Nk Q) (mP ops.toArray (pQa o n 0)) S M)
 (hok:(Region.noSelect ops.toArray&&Plan.ok ops.toArray (nwx ops nx) ops.length (Array.replicate ops.length false) (mP ops.toArray (pQa o n 0)))=true:=by kernel_rfl):Go.Kn.W prog w0 X N (.region id ops.toArray true) Q S M:=gdr sub _ nx mix hok h
end
instance:FAr prog 23 (3,1):=⟨by kernel_rfl⟩
instance:FAr prog 29 (16,1):=⟨by kernel_rfl⟩
instance:FAr prog 35 (3,36):=⟨by kernel_rfl⟩
instance:FAr prog 52 (6,36):=⟨by kernel_rfl⟩
instance:FAr prog 62 (2,18):=⟨by kernel_rfl⟩
instance:FAr prog 66 (4,1):=⟨by kernel_rfl⟩
instance:FAr prog 67 (4,1):=⟨by kernel_rfl⟩
instance:FAr prog 126 (2,108):=⟨by kernel_rfl⟩
instance:FAr prog 146 (3,18):=⟨by kernel_rfl⟩
instance:FAr prog 151 (3,1):=⟨by kernel_rfl⟩
instance:FAr prog 162 (32,1):=⟨by kernel_rfl⟩
instance:FAr prog 201 (4,1):=⟨by kernel_rfl⟩
instance:FAr prog 206 (9,1):=⟨by kernel_rfl⟩
instance:FAr prog 254 (17,1):=⟨by kernel_rfl⟩
instance:FAr prog 268 (9,1):=⟨by kernel_rfl⟩
theorem C6:I9 prog 4=true:=by kernel_rfl
theorem c3_:prog.eqGuardType prog.depth 23=false:=by kernel_rfl
theorem HY:prog.eqGuardType prog.depth 29=false:=by kernel_rfl
theorem KN:prog.eqGuardType prog.depth 31=false:=by kernel_rfl
theorem OK:prog.eqGuardType prog.depth 33=false:=by kernel_rfl
theorem c4_:prog.eqGuardType prog.depth 37=false:=by kernel_rfl
theorem aA_:prog.eqGuardType prog.depth 52=false:=by kernel_rfl
theorem aB_:prog.eqGuardType prog.depth 67=false:=by kernel_rfl
instance:FEl prog 23 (3,1,false):=⟨by kernel_rfl⟩
instance:FEl prog 66 (4,1,false):=⟨by kernel_rfl⟩
instance:FEl prog 67 (4,1,false):=⟨by kernel_rfl⟩
instance:FEl prog 146 (3,18,true):=⟨by kernel_rfl⟩
instance:FFd prog 25 0 (0,1):=⟨by kernel_rfl⟩
instance:FFd prog 25 1 (1,1):=⟨by kernel_rfl⟩
instance:FFd prog 25 2 (2,3):=⟨by kernel_rfl⟩
instance:FFd prog 25 3 (5,3):=⟨by kernel_rfl⟩
instance:FFd prog 31 0 (0,1):=⟨by kernel_rfl⟩
instance:FFd prog 31 1 (1,1):=⟨by kernel_rfl⟩
instance:FFd prog 31 2 (2,16):=⟨by kernel_rfl⟩
instance:FFd prog 33 0 (0,18):=⟨by kernel_rfl⟩
instance:FFd prog 33 1 (18,18):=⟨by kernel_rfl⟩
instance:FFd prog 37 0 (0,1):=⟨by kernel_rfl⟩
instance:FFd prog 37 1 (1,1):=⟨by kernel_rfl⟩
instance:FFd prog 37 2 (2,108):=⟨by kernel_rfl⟩
instance:FFd prog 37 3 (110,108):=⟨by kernel_rfl⟩
instance:FFd prog 42 0 (0,218):=⟨by kernel_rfl⟩
instance:FFd prog 42 1 (218,1):=⟨by kernel_rfl⟩
instance:FFd prog 56 0 (0,3):=⟨by kernel_rfl⟩
instance:FFd prog 56 1 (3,1):=⟨by kernel_rfl⟩
instance:FFd prog 59 0 (0,216):=⟨by kernel_rfl⟩
instance:FFd prog 59 1 (216,216):=⟨by kernel_rfl⟩
instance:FFd prog 59 2 (432,1):=⟨by kernel_rfl⟩
instance:FFd prog 69 0 (0,3):=⟨by kernel_rfl⟩
instance:FFd prog 69 1 (3,4):=⟨by kernel_rfl⟩
instance:FFd prog 71 0 (0,7):=⟨by kernel_rfl⟩
instance:FFd prog 71 1 (7,7):=⟨by kernel_rfl⟩
instance:FFd prog 77 0 (0,1):=⟨by kernel_rfl⟩
instance:FFd prog 77 1 (1,1):=⟨by kernel_rfl⟩
instance:FFd prog 85 0 (0,1):=⟨by kernel_rfl⟩
instance:FFd prog 85 1 (1,1):=⟨by kernel_rfl⟩
instance:FFd prog 105 0 (0,18):=⟨by kernel_rfl⟩
instance:FFd prog 105 1 (18,1):=⟨by kernel_rfl⟩
instance:FFd prog 114 0 (0,1):=⟨by kernel_rfl⟩
instance:FFd prog 114 1 (1,1):=⟨by kernel_rfl⟩
instance:FFd prog 131 0 (0,1):=⟨by kernel_rfl⟩
instance:FFd prog 131 1 (1,3):=⟨by kernel_rfl⟩
instance:FFd prog 136 0 (0,108):=⟨by kernel_rfl⟩
instance:FFd prog 136 1 (108,1):=⟨by kernel_rfl⟩
instance:FFd prog 159 0 (0,3):=⟨by kernel_rfl⟩
instance:FFd prog 159 1 (3,1):=⟨by kernel_rfl⟩
instance:FFd prog 183 0 (0,1):=⟨by kernel_rfl⟩
instance:FFd prog 183 1 (1,1):=⟨by kernel_rfl⟩
instance:FFd prog 231 0 (0,1):=⟨by kernel_rfl⟩
instance:FFd prog 231 1 (1,1):=⟨by kernel_rfl⟩
instance:FFl prog 85 1 (1,1,false):=⟨by kernel_rfl⟩
theorem FG:GL prog 3=some .i64:=by kernel_rfl
theorem OW:GL prog 5=some .u8:=by kernel_rfl
theorem jA:GL prog 28=some .u32:=by kernel_rfl
theorem gI:GL prog 164=some .u64:=by kernel_rfl
theorem IA:nE prog 8 29=some (true,(List.replicate 16 (some IntKind.u32))):=by kernel_rfl
theorem dc_:nE prog 8 23=some (true,([some .i64]++([some .i64]++[some .i64]))):=by kernel_rfl
theorem KZ:nE prog 8 31=some (true,LI):=by kernel_rfl
theorem O1:nE prog 8 33=some (true,(LI++LI)):=by kernel_rfl
theorem de_:nE prog 8 37=some (true,([some .i64]++([some .i64]++(LI++(LI++(LI++(LI++(LI++(LI++(LI++(LI++(LI++(LI++(LI++LI)))))))))))))):=by kernel_rfl
theorem aJ_:nE prog 8 52=some (true,(LI++(LI++(LI++(LI++(LI++(LI++(LI++(LI++(LI++(LI++(LI++LI)))))))))))):=by kernel_rfl
theorem aK_:nE prog 8 67=some (true,([some .i64]++([some .i64]++([some .i64]++[some .i64])))):=by kernel_rfl
theorem Q9:P5 prog 3=true:=by kernel_rfl
instance:FPl prog 25 [(0,1),(1,1),(2,3),(5,3)]:=⟨by kernel_rfl⟩
instance:FPl prog 31 [(0,1),(1,1),(2,16)]:=⟨by kernel_rfl⟩
instance:FPl prog 33 [(0,18),(18,18)]:=⟨by kernel_rfl⟩
instance:FPl prog 37 [(0,1),(1,1),(2,108),(110,108)]:=⟨by kernel_rfl⟩
instance:FPl prog 42 [(0,218),(218,1)]:=⟨by kernel_rfl⟩
instance:FPl prog 56 [(0,3),(3,1)]:=⟨by kernel_rfl⟩
instance:FPl prog 59 [(0,216),(216,216),(432,1)]:=⟨by kernel_rfl⟩
instance:FPl prog 69 [(0,3),(3,4)]:=⟨by kernel_rfl⟩
instance:FPl prog 71 [(0,7),(7,7)]:=⟨by kernel_rfl⟩
instance:FPl prog 77 [(0,1),(1,1)]:=⟨by kernel_rfl⟩
instance:FPl prog 85 [(0,1),(1,1)]:=⟨by kernel_rfl⟩
instance:FPl prog 105 [(0,18),(18,1)]:=⟨by kernel_rfl⟩
instance:FPl prog 114 [(0,1),(1,1)]:=⟨by kernel_rfl⟩
instance:FPl prog 131 [(0,1),(1,3)]:=⟨by kernel_rfl⟩
instance:FPl prog 136 [(0,108),(108,1)]:=⟨by kernel_rfl⟩
instance:FPl prog 159 [(0,3),(3,1)]:=⟨by kernel_rfl⟩
instance:FPl prog 183 [(0,1),(1,1)]:=⟨by kernel_rfl⟩
instance:FPl prog 231 [(0,1),(1,1)]:=⟨by kernel_rfl⟩
theorem LK:n8 prog 26=some 7:=by kernel_rfl
theorem nX:n8 prog 72=some 18:=by kernel_rfl
theorem jB:n8 prog 73=some 18:=by kernel_rfl
theorem sL:n8 prog 80=some 36:=by kernel_rfl
theorem aW_:n8 prog 83=some 14:=by kernel_rfl
theorem NM:n8 prog 166=some 1:=by kernel_rfl
theorem iV:n8 prog 192=some 1:=by kernel_rfl
theorem qY:n8 prog 247=some 1:=by kernel_rfl
theorem al_:prog.underlying 9=some .string:=by kernel_rfl
theorem pM:(prog.info? 3).map (·.size)=some 1:=by kernel_rfl
theorem kB:(prog.info? 31).map (·.size)=some 18:=by kernel_rfl
theorem GJ:(prog.info? 33).map (·.size)=some 36:=by kernel_rfl
theorem aY_:(prog.info? 69).map (·.size)=some 7:=by kernel_rfl
theorem dK_:(prog.info? 71).map (·.size)=some 14:=by kernel_rfl
theorem EZ:(prog.info? 73).map (·.size)=some 1:=by kernel_rfl
theorem eQ_:jN prog 3=some (false,1):=by kernel_rfl
instance:FTy prog 3 (false,1):=⟨eQ_⟩
theorem eR_:jN prog 4=some (false,1):=by kernel_rfl
instance:FTy prog 4 (false,1):=⟨eR_⟩
theorem dM_:jN prog 23=some (true,3):=by kernel_rfl
instance:FTy prog 23 (true,3):=⟨dM_⟩
theorem dN_:jN prog 25=some (true,8):=by kernel_rfl
instance:FTy prog 25 (true,8):=⟨dN_⟩
theorem dO_:jN prog 26=some (false,1):=by kernel_rfl
instance:FTy prog 26 (false,1):=⟨dO_⟩
theorem dP_:jN prog 28=some (false,1):=by kernel_rfl
instance:FTy prog 28 (false,1):=⟨dP_⟩
theorem dQ_:jN prog 29=some (true,16):=by kernel_rfl
instance:FTy prog 29 (true,16):=⟨dQ_⟩
theorem dR_:jN prog 31=some (true,18):=by kernel_rfl
instance:FTy prog 31 (true,18):=⟨dR_⟩
theorem dS_:jN prog 33=some (true,36):=by kernel_rfl
instance:FTy prog 33 (true,36):=⟨dS_⟩
theorem dT_:jN prog 35=some (true,108):=by kernel_rfl
instance:FTy prog 35 (true,108):=⟨dT_⟩
theorem dU_:jN prog 37=some (true,218):=by kernel_rfl
instance:FTy prog 37 (true,218):=⟨dU_⟩
theorem dV_:jN prog 38=some (false,1):=by kernel_rfl
instance:FTy prog 38 (false,1):=⟨dV_⟩
theorem dW_:jN prog 42=some (true,219):=by kernel_rfl
instance:FTy prog 42 (true,219):=⟨dW_⟩
theorem JB:jN prog 52=some (true,216):=by kernel_rfl
instance:FTy prog 52 (true,216):=⟨JB⟩
theorem dX_:jN prog 56=some (true,4):=by kernel_rfl
instance:FTy prog 56 (true,4):=⟨dX_⟩
theorem dY_:jN prog 59=some (true,433):=by kernel_rfl
instance:FTy prog 59 (true,433):=⟨dY_⟩
theorem dZ_:jN prog 62=some (true,36):=by kernel_rfl
instance:FTy prog 62 (true,36):=⟨dZ_⟩
theorem d0_:jN prog 66=some (true,4):=by kernel_rfl
instance:FTy prog 66 (true,4):=⟨d0_⟩
theorem d1_:jN prog 67=some (true,4):=by kernel_rfl
instance:FTy prog 67 (true,4):=⟨d1_⟩
theorem d2_:jN prog 69=some (true,7):=by kernel_rfl
instance:FTy prog 69 (true,7):=⟨d2_⟩
theorem d3_:jN prog 71=some (true,14):=by kernel_rfl
instance:FTy prog 71 (true,14):=⟨d3_⟩
theorem d4_:jN prog 72=some (false,1):=by kernel_rfl
instance:FTy prog 72 (false,1):=⟨d4_⟩
theorem d5_:jN prog 73=some (false,1):=by kernel_rfl
instance:FTy prog 73 (false,1):=⟨d5_⟩
theorem d6_:jN prog 77=some (true,2):=by kernel_rfl
instance:FTy prog 77 (true,2):=⟨d6_⟩
theorem d7_:jN prog 80=some (false,1):=by kernel_rfl
instance:FTy prog 80 (false,1):=⟨d7_⟩
theorem d8_:jN prog 83=some (false,1):=by kernel_rfl
instance:FTy prog 83 (false,1):=⟨d8_⟩
theorem d9_:jN prog 85=some (true,2):=by kernel_rfl
instance:FTy prog 85 (true,2):=⟨d9_⟩
theorem ea_:jN prog 89=some (false,1):=by kernel_rfl
instance:FTy prog 89 (false,1):=⟨ea_⟩
theorem cq_:jN prog 105=some (true,19):=by kernel_rfl
instance:FTy prog 105 (true,19):=⟨cq_⟩
theorem cr_:jN prog 114=some (true,2):=by kernel_rfl
instance:FTy prog 114 (true,2):=⟨cr_⟩
theorem cs_:jN prog 131=some (true,4):=by kernel_rfl
instance:FTy prog 131 (true,4):=⟨cs_⟩
theorem ct_:jN prog 136=some (true,109):=by kernel_rfl
instance:FTy prog 136 (true,109):=⟨ct_⟩
theorem cu_:jN prog 146=some (true,54):=by kernel_rfl
instance:FTy prog 146 (true,54):=⟨cu_⟩
theorem cv_:jN prog 151=some (true,3):=by kernel_rfl
instance:FTy prog 151 (true,3):=⟨cv_⟩
theorem cw_:jN prog 159=some (true,4):=by kernel_rfl
instance:FTy prog 159 (true,4):=⟨cw_⟩
theorem cx_:jN prog 175=some (false,1):=by kernel_rfl
instance:FTy prog 175 (false,1):=⟨cx_⟩
theorem cy_:jN prog 183=some (true,2):=by kernel_rfl
instance:FTy prog 183 (true,2):=⟨cy_⟩
theorem cz_:jN prog 192=some (false,1):=by kernel_rfl
instance:FTy prog 192 (false,1):=⟨cz_⟩
theorem cA_:jN prog 201=some (true,4):=by kernel_rfl
instance:FTy prog 201 (true,4):=⟨cA_⟩
theorem cC_:jN prog 206=some (true,9):=by kernel_rfl
instance:FTy prog 206 (true,9):=⟨cC_⟩
theorem cD_:jN prog 231=some (true,2):=by kernel_rfl
instance:FTy prog 231 (true,2):=⟨cD_⟩
theorem cE_:jN prog 268=some (true,9):=by kernel_rfl
instance:FTy prog 268 (true,9):=⟨cE_⟩
theorem aZ_:prog.underlying 26=some (.slice 69):=by kernel_rfl
theorem jO:prog.underlying 72=some (.slice 31):=by kernel_rfl
theorem DE:prog.underlying 73=some (.slice 31):=by kernel_rfl
theorem xW:prog.underlying 80=some (.slice 33):=by kernel_rfl
theorem a0_:prog.underlying 83=some (.slice 71):=by kernel_rfl
theorem iG:prog.underlying 192=some (.slice 3):=by kernel_rfl
theorem AX:prog.underlying 247=some (.slice 73):=by kernel_rfl
theorem z_3:nW prog 3=some [.int .i64 0]:=by kernel_rfl
theorem rB:nW prog 29=some (uw (List.replicate 16 0)):=by kernel_rfl
theorem jP:nW prog 31=some zR:=by kernel_rfl
theorem QD:nW prog 33=some (([.bool false]++[.bool false]++(List.replicate 16 (.int .u32 0)))++([.bool false]++[.bool false]++(List.replicate 16 (.int .u32 0)))):=by kernel_rfl
theorem eh_:nW prog 69=some ((List.replicate 3 (.int .i64 0))++(List.replicate 4 (.int .i64 0))):=by kernel_rfl
theorem eV_:nW prog 71=some (((List.replicate 3 (.int .i64 0))++(List.replicate 4 (.int .i64 0)))++((List.replicate 3 (.int .i64 0))++(List.replicate 4 (.int .i64 0)))):=by kernel_rfl
theorem NU:nW prog 73=some [.slice none 0 0]:=by kernel_rfl
theorem ef_:nW prog 162=some (uw (List.replicate 32 0)):=by kernel_rfl
theorem eg_:nW prog 254=some (uw (List.replicate 17 0)):=by kernel_rfl
instance:FZp prog 4 [cb false]:=⟨by kernel_rfl⟩
instance:FZp prog 23 [ci .i64 0,ci .i64 0,ci .i64 0]:=⟨by kernel_rfl⟩
instance:FZp prog 25 [ci .i64 0,ci .i64 0,ci .i64 0,ci .i64 0,ci .i64 0,ci .i64 0,ci .i64 0,ci .i64 0]:=⟨by kernel_rfl⟩
instance:FZp prog 31 [pI I0]:=⟨by kernel_rfl⟩
instance:FZp prog 33 [pI I0,pI I0]:=⟨by kernel_rfl⟩
instance:FZp prog 35 [pI I0,pI I0,pI I0,pI I0,pI I0,pI I0]:=⟨by kernel_rfl⟩
instance:FZp prog 37 [ci .i64 0,ci .i64 0,pI I0,pI I0,pI I0,pI I0,pI I0,pI I0,pI I0,pI I0,pI I0,pI I0,pI I0,pI I0]:=⟨by kernel_rfl⟩
instance:FZp prog 38 [ci .i64 0]:=⟨by kernel_rfl⟩
instance:FZp prog 42 [ci .i64 0,ci .i64 0,pI I0,pI I0,pI I0,pI I0,pI I0,pI I0,pI I0,pI I0,pI I0,pI I0,pI I0,pI I0,ci .i64 0]:=⟨by kernel_rfl⟩
instance:FZp prog 52 [pI I0,pI I0,pI I0,pI I0,pI I0,pI I0,pI I0,pI I0,pI I0,pI I0,pI I0,pI I0]:=⟨by kernel_rfl⟩
instance:FZp prog 56 [ci .i64 0,ci .i64 0,ci .i64 0,ci .i64 0]:=⟨by kernel_rfl⟩
instance:FZp prog 59 [pI I0,pI I0,pI I0,pI I0,pI I0,pI I0,pI I0,pI I0,pI I0,pI I0,pI I0,pI I0,pI I0,pI I0,pI I0,pI I0,pI I0,pI I0,pI I0,pI I0,pI I0,pI I0,pI I0,pI I0,ci .i64 0]:=⟨by kernel_rfl⟩
instance:FZp prog 62 [pI I0,pI I0]:=⟨by kernel_rfl⟩
instance:FZp prog 67 [ci .i64 0,ci .i64 0,ci .i64 0,ci .i64 0]:=⟨by kernel_rfl⟩
instance:FZp prog 69 [ci .i64 0,ci .i64 0,ci .i64 0,ci .i64 0,ci .i64 0,ci .i64 0,ci .i64 0]:=⟨by kernel_rfl⟩
instance:FZp prog 71 [ci .i64 0,ci .i64 0,ci .i64 0,ci .i64 0,ci .i64 0,ci .i64 0,ci .i64 0,ci .i64 0,ci .i64 0,ci .i64 0,ci .i64 0,ci .i64 0,ci .i64 0,ci .i64 0]:=⟨by kernel_rfl⟩
instance:FZp prog 72 [csl none 0 0]:=⟨by kernel_rfl⟩
instance:FZp prog 73 [csl none 0 0]:=⟨by kernel_rfl⟩
instance:FZp prog 77 [csl none 0 0,ci .i64 0]:=⟨by kernel_rfl⟩
instance:FZp prog 80 [csl none 0 0]:=⟨by kernel_rfl⟩
instance:FZp prog 85 [csl none 0 0,ci .i64 0]:=⟨by kernel_rfl⟩
instance:FZp prog 105 [pI I0,ci .i64 0]:=⟨by kernel_rfl⟩
instance:FZp prog 114 [csl none 0 0,ci .i64 0]:=⟨by kernel_rfl⟩
instance:FZp prog 126 [pI I0,pI I0,pI I0,pI I0,pI I0,pI I0,pI I0,pI I0,pI I0,pI I0,pI I0,pI I0]:=⟨by kernel_rfl⟩
instance:FZp prog 131 [ci .i64 0,ci .i64 0,ci .i64 0,ci .i64 0]:=⟨by kernel_rfl⟩
instance:FZp prog 136 [pI I0,pI I0,pI I0,pI I0,pI I0,pI I0,ci .i64 0]:=⟨by kernel_rfl⟩
instance:FZp prog 146 [pI I0,pI I0,pI I0]:=⟨by kernel_rfl⟩
instance:FZp prog 151 [csl none 0 0,csl none 0 0,csl none 0 0]:=⟨by kernel_rfl⟩
instance:FZp prog 159 [csl none 0 0,csl none 0 0,csl none 0 0,csl none 0 0]:=⟨by kernel_rfl⟩
instance:FZp prog 175 [cU_]:=⟨by kernel_rfl⟩
instance:FZp prog 183 [ci .i64 0,cb false]:=⟨by kernel_rfl⟩
instance:FZp prog 201 [csl none 0 0,csl none 0 0,csl none 0 0,csl none 0 0]:=⟨by kernel_rfl⟩
instance:FZp prog 206 [csl none 0 0,csl none 0 0,csl none 0 0,csl none 0 0,csl none 0 0,csl none 0 0,csl none 0 0,csl none 0 0,csl none 0 0]:=⟨by kernel_rfl⟩
instance:FZp prog 231 [csl none 0 0,cb false]:=⟨by kernel_rfl⟩
instance:FZp prog 268 [ci .i64 0,ci .i64 0,ci .i64 0,ci .i64 0,ci .i64 0,ci .i64 0,ci .i64 0,ci .i64 0,ci .i64 0]:=⟨by kernel_rfl⟩
def rg (l:List Nat) (a:Nat):Nat→List Nat
 | 0=>l
 | k+1=>(a+k)::rg l a k
theorem giI {A B:Prop} (k:B) (h:Hid B→A:=by intro hk;simp only [tS,Nat.reduceAdd];exact hk.h):A:=h ⟨k⟩
theorem gS0 {A B:Prop} (k:B) (h:Hid B→A:=by intro hk;simp only [zX,rg,Nat.reduceAdd];exact hk.h):A:=h ⟨k⟩
theorem gS1 {A B p:Prop} (e:p) (k:B) (h:p→Hid B→A:=by intro e hk;simp only [zX,rg,Nat.reduceAdd,e];exact hk.h):A:=h e ⟨k⟩
theorem gS2 {A B p q:Prop} (e:p) (f:q) (k:B) (h:p→q→Hid B→A:=by intro e f hk;simp only [zX,rg,Nat.reduceAdd,e,f];exact hk.h):A:=h e f ⟨k⟩
theorem gS3 {A B p q r:Prop} (e:p) (f:q) (g:r) (k:B) (h:p→q→r→Hid B→A:=by intro e f g hk;simp only [zX,rg,Nat.reduceAdd,e,f,g];exact hk.h):A:=h e f g ⟨k⟩
theorem wxo {n m:Int} (h:n=m:=by omega) (h1:-9223372036854775808≤m:=by omega) (h2:m≤9223372036854775807:=by omega):Value.int .i64 (IntKind.i64.wrap n)=Value.int .i64 m:=congrArg _ (wx h h1 h2)
theorem c1_ {α:Type} {e:El α} {w0:World} {X:List Nat} {M M':List Blk} {v:Value} {l:List α} {C:World→Prop} (f:∀ w,Slr w e v l→C w) (H:SLe w0 X M' e v l) (hs:M'.Sublist M):∀ w,Sat w0 X M w→C w:=fun w hw=>f w (aR hw H hs)
theorem fR {P:Prop} (h:P:=by assumption):P:=h
section
variable {w0:World} {X:List Nat} {N:Nm} {fn:Func} {R:Value→List Blk→Prop} {S:Fr} {M:List Blk} {r r1 r2:ResultVar} {v v1 v2 v':Value} {ops:List Oper} {Q:Fr→List Blk→Prop} {d:Tmp} {l:List Oper}
theorem rt1 (k:R v M) (hr:fn.results = #[r]:=by rfl) (h:yK prog N S M r v:=by rfl):oW prog fn w0 X N R .ret S M:=dB_ hr (.inr O) h k
theorem rt2 (k:R (.tuple #[v1,v2]) M) (hr:fn.results = #[r1,r2]:=by rfl) (h:yK prog N S M r1 v1:=by rfl) (h2:yK prog N S M r2 v2:=by rfl):oW prog fn w0 X N R .ret S M:=qE hr (.inr O) h h2 k
theorem rtX (hr:fn.results = #[r]) (h:yK prog N S M r v) (k:R v M):oW prog fn w0 X N R .ret S M:=dB_ hr (.inr O) h k
section
variable {g:FuncId} {xs:List Operand} {tys:Array TypeId} {args:List Value} {ty:TypeId} {ps:String} {af:Array Edge} {gd:Option (Nat×Bool)}
theorem sFc (v':Value) (ha:evL N S xs=some args) (h:∀ w,Sat w0 X M w→Calls prog g args.toArray w fun e w'=>e = .returned v∧Ext w w') (hv:v=v')
 (hd:wD N ops S (⟨some d,.call { callee:=.value (.func g),args:=xs.toArray,argTypes:=tys },ty,ps,af,gd⟩:Oper)=some d) (k:WL prog w0 X N ops Q l ((d,v')::S) M) (he:enL_.contains g=true:=by rfl) :
 WL prog w0 X N ops Q (⟨some d,.call { callee:=.value (.func g),args:=xs.toArray,argTypes:=tys },ty,ps,af,gd⟩::l) S M:=sQ (aY (dF (P:=prog) (g:=g) (aB he) ha h) hv) hd k
end
theorem sWi (m:Int) {n:Int} {o:Oper} (h:F4 N ops S o=some (d,.int .i64 (IntKind.i64.wrap n))) (k:WL prog w0 X N ops Q l ((d,.int .i64 m)::S) M) (h0:n=m:=by omega) (h1:-9223372036854775808≤m:=by omega) (h2:m≤9223372036854775807:=by omega):WL prog w0 X N ops Q (o::l) S M:=sV _ h (congrArg _ (wx h0 h1 h2)) k
end
open Go Go.Kn Go.Num
def vS0 (r:(A3 W)×W):Value:=.tuple #[AV [cw r.1.x.1,cw r.1.y.1,cw r.1.z.1],.int .i64 r.2.1]
def vS1 (r:(A4 W)×Bool):Value:=.tuple #[AV [cw r.1.x.1,cw r.1.y.1,cw r.1.z.1,cw r.1.t.1],.bool r.2]
def vS2 (r:Bool):Value:=.bool r
def vS3 (r:Bool×W):Value:=.tuple #[.bool r.1,.int .i64 r.2.1]
def vS4 (r:I):Value:=AV [pI r]
def vS5 (r:I×I):Value:=.tuple #[AV [pI r.1],AV [pI r.2]]
def vS6 (r:I×W):Value:=.tuple #[AV [pI r.1],.int .i64 r.2.1]
def vS7 (r:Rt):Value:=AV [pI r.n,pI r.d]
def vS8 (r:Sgd):Value:=AV [cw r.s.1,cb r.ok]
def vS9 (r:W):Value:=.int .i64 r.1
end Go.Proofs.YtkjjponijamaoaaGreatDoor
namespace Go.Num
open Go Go.Kn
def oQ (a:I):I :=
 bif a.1.good then (E (Z.of (sgn (!a.1.neg) (val a.1.w)))) else (E Z.bad)
def oP (a:I):I :=
 bif a.1.good then (E (Z.of (sgn false (val a.1.w)))) else (E Z.bad)
def kS (a:I) (b:I):I :=
 bif ((jL a.1)&&(jL b.1)) then (E (Z.of (W.add (eF a) (eF b)).1)) else (bif (!a.1.good||(!b.1.good)) then (E Z.bad) else (bif (a.1.neg==b.1.neg) then (E (Z.of (sgn a.1.neg ((val a.1.w)+(val b.1.w))))) else (bif decide ((val a.1.w)<(val b.1.w)) then (E (Z.of (sgn b.1.neg ((val b.1.w) - (val a.1.w))))) else (E (Z.of (sgn a.1.neg ((val a.1.w) - (val b.1.w))))))))
def wR (a:I) (b:I):I :=
 (E (Z.add a.dec (Z.neg b.dec)))
def nM (a:I) (b:I):I :=
 bif ((jL a.1)&&((jL b.1)&&((decide ((eF a).1<2147483648)&&decide (-2147483648<(eF a).1))&&(decide ((eF b).1<2147483648)&&decide (-2147483648<(eF b).1))))) then (E (Z.of (W.mul (eF a) (eF b)).1)) else (bif (!a.1.good||(!b.1.good)) then (E Z.bad) else (E (Z.of (sgn (a.1.neg != b.1.neg) ((val a.1.w)*(val b.1.w))))))
def mO (a:I):W :=
 bif (!a.1.good||(((dl (val a.1.w)).length:Int)==0)) then (wl 0) else (bif a.1.neg then (wl (-1)) else (wl 1))
def fP (a:I) (b:I):W :=
 bif (!a.1.good&&(!b.1.good)) then (wl 0) else (bif a.1.good then (bif b.1.good then (bif (a.1.neg != b.1.neg) then (bif a.1.neg then (wl (-1)) else (wl 1)) else (bif a.1.neg then (bif decide ((val b.1.w)<(val a.1.w)) then (wl (-1)) else (bif decide ((val a.1.w)<(val b.1.w)) then (wl 1) else (wl 0))) else (bif decide ((val a.1.w)<(val b.1.w)) then (wl (-1)) else (bif decide ((val b.1.w)<(val a.1.w)) then (wl 1) else (wl 0))))) else (wl 1)) else (wl (-1)))
def lQ (a:I) (b:I):I :=
 bif ((jL a.1)&&((jL b.1)&&((eF b).1 != 0))) then (E (Z.of (W.fdiv (eF a) (eF b)).1)) else (bif (!a.1.good||(!b.1.good||(((dl (val b.1.w)).length:Int)==0))) then (E Z.bad) else (bif ((a.1.neg != b.1.neg)&&decide (0<((dl ((val a.1.w) % (val b.1.w))).length:Int))) then (E (Z.of (sgn (a.1.neg != b.1.neg) (((val a.1.w) / (val b.1.w))+1)))) else (E (Z.of (sgn (a.1.neg != b.1.neg) ((val a.1.w) / (val b.1.w)))))))
def lR (a:I) (b:I):I :=
 bif ((jL a.1)&&((jL b.1)&&((eF b).1 != 0))) then (let r10:I:=(E (Z.of (W.sub (eF a) (W.mul (eF b) (W.fdiv (eF a) (eF b)))).1))
 r10) else (bif (!a.1.good||(!b.1.good||(((dl (val b.1.w)).length:Int)==0))) then (E Z.bad) else (bif ((a.1.neg != b.1.neg)&&decide (0<((dl ((val a.1.w) % (val b.1.w))).length:Int))) then (E (Z.of (sgn b.1.neg ((val b.1.w) - ((val a.1.w) % (val b.1.w)))))) else (E (Z.of (sgn b.1.neg ((val a.1.w) % (val b.1.w)))))))
def F_ratio_one :I :=
 let q0:I:=(E (Z.of 1))
 q0
def tQ :Rt :=
 let q0:I:=(E Z.bad)
 let q1:I:=F_ratio_one
 (⟨q0,q1⟩:Rt)
def mG (a:I):Bool :=
 (!a.1.bad&&a.1.valid)
def aS (a:Rt):Bool :=
 ((mG a.n)&&((mG a.d)&&(decide (0<(Z.signW a.d.dec).1)&&decide ((E (Z.gcd a.n.dec a.d.dec))=F_ratio_one))))
def cT (a:I) (b:I):Rt :=
 bif (!(mG a)||(!(mG b)||((Z.signW b.dec).1==0))) then tQ else (bif decide ((Z.signW b.dec).1<0) then (⟨(E (Z.quo a.dec (Z.neg (Z.gcd a.dec b.dec)))),(E (Z.quo b.dec (Z.neg (Z.gcd a.dec b.dec))))⟩:Rt) else (⟨(E (Z.quo a.dec (Z.gcd a.dec b.dec))),(E (Z.quo b.dec (Z.gcd a.dec b.dec)))⟩:Rt))
def n5 (a:I):Rt :=
 (cT a F_ratio_one)
def bQ (a:W):Rt :=
 (n5 (E (Z.of a.1)))
def rC (a:Rt):Rt :=
 bif (aS a) then (⟨(E (Z.neg a.n.dec)),a.d⟩:Rt) else (tQ)
def jH (a:Rt) (b:Rt):Rt :=
 bif (!(aS a)||(!(aS b))) then tQ else (let r15:I:=(E (Z.add (Z.mul a.n.dec (Z.quo b.d.dec (Z.gcd a.d.dec b.d.dec))) (Z.mul b.n.dec (Z.quo a.d.dec (Z.gcd a.d.dec b.d.dec)))))
 let r16:Rt:=(cT r15 (E (Z.mul (Z.quo a.d.dec (Z.gcd a.d.dec b.d.dec)) b.d.dec)))
 r16)
def fH (a:Rt) (b:Rt):Rt :=
 (jH a (rC b))
def cP (a:Rt) (b:Rt):Rt :=
 bif (!(aS a)||(!(aS b))) then tQ else (let r26:I:=(E (Z.mul ((cT a.n b.d).n).dec ((cT b.n a.d).n).dec))
 let r27:I:=(E (Z.mul ((cT a.n b.d).d).dec ((cT b.n a.d).d).dec))
 bif (r26.1.bad||r27.1.bad) then tQ else (⟨r26,r27⟩:Rt))
def F_skewbackref04_one :I :=
 let q0:I:=(E (Z.of 1))
 q0
def lS :Rt :=
 let q0:I:=(E Z.bad)
 let q1:I:=F_skewbackref04_one
 (⟨q0,q1⟩:Rt)
def bF (a:I) (b:I):Rt :=
 bif (!a.1.good||(!b.1.good||((Z.signW b.dec).1==0))) then lS else (bif decide ((Z.signW b.dec).1<0) then (⟨(E (Z.quo a.dec (Z.neg (Z.gcd a.dec b.dec)))),(E (Z.quo b.dec (Z.neg (Z.gcd a.dec b.dec))))⟩:Rt) else (⟨(E (Z.quo a.dec (Z.gcd a.dec b.dec))),(E (Z.quo b.dec (Z.gcd a.dec b.dec)))⟩:Rt))
def aI (a:W):Rt :=
 let r2:Rt:=(bF (E (Z.of a.1)) F_skewbackref04_one)
 r2
def oD (a:W) (b:W):Rt :=
 let r2:Rt:=(bF (E (Z.of a.1)) (E (Z.of b.1)))
 r2
def aP (a:Rt):Bool :=
 bif (!a.n.1.good||(!a.d.1.good)) then false else (decide (0<(Z.signW a.d.dec).1)&&decide ((E (Z.gcd a.n.dec a.d.dec))=F_skewbackref04_one))
def j6 (a:Rt):Rt :=
 bif (aP a) then (⟨(E (Z.neg a.n.dec)),a.d⟩:Rt) else (lS)
def iU (a:Rt) (b:Rt):Rt :=
 bif (!(aP a)||(!(aP b))) then lS else (let r11:I:=(E (Z.add (Z.mul a.n.dec (Z.quo b.d.dec (Z.gcd a.d.dec b.d.dec))) (Z.mul b.n.dec (Z.quo a.d.dec (Z.gcd a.d.dec b.d.dec)))))
 let r12:Rt:=(bF r11 (E (Z.mul (Z.quo a.d.dec (Z.gcd a.d.dec b.d.dec)) b.d.dec)))
 r12)
def gE (a:Rt) (b:Rt):Rt :=
 let r4:Rt:=(iU a (j6 b))
 r4
def kT (a:Rt) (b:Rt):Rt :=
 bif (!(aP a)||(!(aP b))) then lS else (let r10:I:=(E (Z.mul ((bF a.n b.d).n).dec ((bF b.n a.d).n).dec))
 let r12:I:=(E (Z.mul ((bF a.n b.d).d).dec ((bF b.n a.d).d).dec))
 (bF r10 r12))
def gF (a:Rt) (b:Bool):I :=
 bif b then (E (Z.of 0)) else (E Z.bad)
def gD (a:(A3 I)):(A3 W)×W :=
 bif (E (Z.gcd (Z.gcd (Z.gcd (Z.of 0) a.x.dec) a.y.dec) a.z.dec)).1.bad then ((⟨(wl 0),(wl 0),(wl 0)⟩:(A3 W)),(wl 30)) else (bif ((Z.signW (Z.gcd (Z.gcd (Z.gcd (Z.of 0) a.x.dec) a.y.dec) a.z.dec)).1==0) then ((⟨(wl 0),(wl 0),(wl 0)⟩:(A3 W)),(wl 31)) else (let r11:I:=(E (Z.quo a.x.dec (Z.gcd (Z.gcd (Z.gcd (Z.of 0) a.x.dec) a.y.dec) a.z.dec)))
 bif (!r11.dec.small.2||(decide (2305843009213693952≤(Z.smallW r11.dec).1)||decide ((Z.smallW r11.dec).1≤(-2305843009213693952)))) then ((⟨(wl 0),(wl 0),(wl 0)⟩:(A3 W)),(wl 30)) else (let r19:I:=(E (Z.quo a.y.dec (Z.gcd (Z.gcd (Z.gcd (Z.of 0) a.x.dec) a.y.dec) a.z.dec)))
 bif (!r19.dec.small.2||(decide (2305843009213693952≤(Z.smallW r19.dec).1)||decide ((Z.smallW r19.dec).1≤(-2305843009213693952)))) then ((⟨(wl 0),(wl 0),(wl 0)⟩:(A3 W)),(wl 30)) else (let r27:I:=(E (Z.quo a.z.dec (Z.gcd (Z.gcd (Z.gcd (Z.of 0) a.x.dec) a.y.dec) a.z.dec)))
 bif (!r27.dec.small.2||(decide (2305843009213693952≤(Z.smallW r27.dec).1)||decide ((Z.smallW r27.dec).1≤(-2305843009213693952)))) then ((⟨(wl 0),(wl 0),(wl 0)⟩:(A3 W)),(wl 30)) else ((⟨(Z.smallW r11.dec),(Z.smallW r19.dec),(Z.smallW r27.dec)⟩:(A3 W)),(wl 0))))))
def gB (a:(A3 W)):(A3 Rt) :=
 (⟨(bQ a.x),(bQ a.y),(bQ a.z)⟩:(A3 Rt))
def xD (a:(A3 Rt)) (b:(A3 Rt)):Rt :=
 let r5:Rt:=(jH (bQ (wl 0)) (cP a.x b.x))
 let r6:Rt:=(jH r5 (cP a.y b.y))
 let r7:Rt:=(jH r6 (cP a.z b.z))
 r7
def oF (a:(A3 Rt)) (b:(A3 Rt)):(A3 Rt) :=
 let r4:Rt:=(fH (cP a.y b.z) (cP a.z b.y))
 let r5:Rt:=(fH (cP a.z b.x) (cP a.x b.z))
 let r6:Rt:=(fH (cP a.x b.y) (cP a.y b.x))
 (⟨r4,r5,r6⟩:(A3 Rt))
def oZ (a:(A3 Rt)) (b:(A3 Rt)):(A3 Rt) :=
 (⟨(jH a.x b.x),(jH a.y b.y),(jH a.z b.z)⟩:(A3 Rt))
def mD (a:(A3 Rt)) (b:(A3 Rt)):(A3 Rt) :=
 (⟨(fH a.x b.x),(fH a.y b.y),(fH a.z b.z)⟩:(A3 Rt))
def jS (a:Rt) (b:(A3 Rt)):(A3 Rt) :=
 (⟨(cP a b.x),(cP a b.y),(cP a b.z)⟩:(A3 Rt))
def lA (a:(A3 W)):(A3 Rt) :=
 (⟨(aI a.x),(aI a.y),(aI a.z)⟩:(A3 Rt))
def oA (a:Rt) (b:Rt):W :=
 bif (!(aS a)&&(!(aS b))) then (wl 0) else (bif (aS a) then (bif (aS b) then (cf (cfN a.d) (wl 1) a.n a.d b.n b.d) else (wl 1)) else (wl (-1)))
def j5 (a:Rt) (b:Rt):W :=
 bif (!(aP a)||(!(aP b))) then (let r7:W:=(Z.cmpW (gF a (aP a)).dec (gF b (aP b)).dec)
 r7) else (cf (cfN a.d) (wl 1) a.n a.d b.n b.d)
def gL (a:W) (b:W):Nat→W→W→W×W
 | 0,p,q=>(p,q)
 | k0+1,p,q=>bif (q.1 != 0) then (gL a b k0 q (W.rem p q)) else (p,q)
def aA (a:W) (b:W):W :=
 ap (fun (s:W×W)=>let p:W:=s.1
 let q:W:=s.2
 (W.max p (W.neg p))) (gL a b (b.1.natAbs+1) a b)
def fQ (a:(A4 W)):Bool :=
 bif (decide (64<a.x.1)||decide (a.x.1<(-64))) then false else (bif (decide (64<a.y.1)||decide (a.y.1<(-64))) then false else (bif (decide (64<a.z.1)||decide (a.z.1<(-64))) then false else (bif (decide (64<a.t.1)||decide (a.t.1<(-64))) then false else true)))
def aQ (a:W):W :=
 bif decide (a.1<0) then (wl (-1)) else (W.min a (wl 1))
def cV (a:(A4 W)):(A4 W)×Bool :=
 let r4:W:=(bif (a.t.1 != 0) then (aQ a.t) else (wl 0))
 let r11:W:=(bif (a.y.1 != 0) then (aQ a.y) else (bif (a.z.1 != 0) then (aQ a.z) else r4))
 bif ((W.mul (bif (a.x.1 != 0) then (aQ a.x) else r11) (W.max (aA (aA (aA (aA (wl 0) a.t) a.z) a.y) a.x) (W.neg (aA (aA (aA (aA (wl 0) a.t) a.z) a.y) a.x)))).1==0) then ((⟨(wl 0),(wl 0),(wl 0),(wl 0)⟩:(A4 W)),false) else ((⟨(W.quo a.x (W.mul (bif (a.x.1 != 0) then (aQ a.x) else r11) (W.max (aA (aA (aA (aA (wl 0) a.t) a.z) a.y) a.x) (W.neg (aA (aA (aA (aA (wl 0) a.t) a.z) a.y) a.x))))),(W.quo a.y (W.mul (bif (a.x.1 != 0) then (aQ a.x) else r11) (W.max (aA (aA (aA (aA (wl 0) a.t) a.z) a.y) a.x) (W.neg (aA (aA (aA (aA (wl 0) a.t) a.z) a.y) a.x))))),(W.quo a.z (W.mul (bif (a.x.1 != 0) then (aQ a.x) else r11) (W.max (aA (aA (aA (aA (wl 0) a.t) a.z) a.y) a.x) (W.neg (aA (aA (aA (aA (wl 0) a.t) a.z) a.y) a.x))))),(W.quo a.t (W.mul (bif (a.x.1 != 0) then (aQ a.x) else r11) (W.max (aA (aA (aA (aA (wl 0) a.t) a.z) a.y) a.x) (W.neg (aA (aA (aA (aA (wl 0) a.t) a.z) a.y) a.x)))))⟩:(A4 W)),true)
def fA (a:(A4 W)):Bool :=
 bif (fQ a) then (let r3:(A4 W):=(cV a).1
 ((cV a).2&&(decide (r3.x.1=a.x.1)&&(decide (r3.y.1=a.y.1)&&(decide (r3.z.1=a.z.1)&&decide (r3.t.1=a.t.1)))))) else (false)
def gP (a:(A4 W)) (b:(A4 W)):W :=
 (W.add (W.add (W.add (W.mul a.x b.x) (W.mul a.y b.y)) (W.mul a.z b.z)) (W.mul a.t b.t))
end Go.Num
