/- Lemmas: what they ask stands in their statements. -/
import Derived.ArgAppend
import Derived.Test.YtkjjponijamaoaaGreatDoorTGD
set_option linter.unusedSimpArgs false
set_option linter.unusedVariables false
namespace Go.Kn
open Go
def Frq (M L R:List Blk):Prop:=M.Perm (L ++ R)
theorem vF {x:Blk} {R:List Blk}:Frq (x :: R) [x] R:=List.Perm.refl _
theorem n6 {L R:List Blk}:Frq (L ++ R) L R:=List.Perm.refl _
theorem kW {x:Blk} {R L R':List Blk} (h:Frq R L R'):Frq (x :: R) L (x :: R'):=(List.Perm.cons x h).trans List.perm_middle.symm
theorem oJ {L2 R L R':List Blk} (h:Frq R L R'):Frq (L2 ++ R) L (L2 ++ R'):=by
  have h1:(L2 ++ R).Perm (L2 ++ (L ++ R')):=List.Perm.append_left L2 h
  have h2:(L2 ++ (L ++ R')).Perm (L ++ (L2 ++ R')):=by
    rw [← List.append_assoc,← List.append_assoc];exact List.Perm.append_right R' List.perm_append_comm
  exact h1.trans h2
theorem Sat.perm {w0 w:World} {X:List Nat} {M M':List Blk} (h:Sat w0 X M w) (p:M.Perm M'):Sat w0 X M' w :=
  ⟨h.os,h.tape,h.output,h.size,h.old,(p.map Blk.b).nodup_iff.1 h.nodup,fun x hx=>h.mem x (p.mem_iff.2 hx)⟩
theorem OwnG.lit {α:Type} {e:El α} {w0:World} {l:List α} {E:TypeId} {b n:Nat} {qs:List Part} (hb:w0.heap.size≤b) (hn:l.length=n) (hm:n≤maxLen) (hq:qs=l.flatMap e.ps):OwnG w0 E e (.slice (some ⟨b,0,none⟩) n n) l [⟨b,E,cV qs⟩] :=
  OwnG.of_mine hb hn hm (by rw [hq];exact HP l)
theorem ZV {α:Type} {e:El α} {P:Program} {w0:World} {X:List Nat} {N:Nm} {S:Fr} {M:List Blk} {d:Option Tmp} {ty:TypeId} {ps:String} {af:Array Edge} {gd:Option (Nat×Bool)} {v:Value} {l:List α}
    {T E:TypeId} {x y:Operand} {u:Value} {m:List α} {L M1:List Blk} {K:Value→List Blk→Prop} (bytes:Nat) (hT:P.underlying T=some (.slice E)) (hE:Z9 P E e.n bytes=true) (h0:0<e.n) (hx:evO N S x=some v) (hy:evO N S y=some u)
    (hv:OwnG w0 E e v l L) (hu:SLe w0 X M e u m) (hs:Frq M L M1) (hn:(l.length+m.length) * bytes≤140737488355328) (h8:0<bytes) (k:∀ v' L',OwnG w0 E e v' (l ++ m) L'→K v' (L' ++ M1)) :
    OpR P w0 X N ⟨d,.call { callee:=.builtin .append,args:=#[x,y],argTypes:=#[T,T] },ty,ps,af,gd⟩ S M K:=fun w hw =>
  ZU (M:=L ++ M1) hT hE h0 hx hy hv (fun w hw=>hu w (hw.perm (List.Perm.symm hs))) (List.Sublist.refl _) hn h8 k w (hw.perm hs)
section
variable {α:Type} {e:El α} {P:Program} {w0:World} {X:List Nat} {N:Nm} {S:Fr} {M M':List Blk} {d:Option Tmp} {ty:TypeId} {ps:String} {af:Array Edge} {gd:Option (Nat×Bool)} {v:Value} {l:List α}
theorem OpR.perm {o:Oper} {K:Value→List Blk→Prop} (p:M.Perm M') (h:OpR P w0 X N o S M' K):OpR P w0 X N o S M K:=fun w hw=>h w (hw.perm p)
theorem OwnG.form {E:TypeId} {L:List Blk} (h:OwnG w0 E e v l L):∃ p c,v = .slice p l.length c:=by
  rcases h with ⟨rfl,rfl,rfl⟩ | ⟨g,cap,cur,rfl,_⟩
  · exact ⟨none,0,rfl⟩
  exact ⟨_,_,rfl⟩
theorem SLfe.max (h:SLfe w0 M e v l):l.length≤9223372036854775807:=by
  obtain ⟨p,c,hv,hc,hm,_⟩:=h;unfold maxLen at hm;omega
theorem SLfe.lit {b n:Nat} {T:TypeId} {qs:List Part} (hB:w0.heap.size≤b) (h:(⟨b,T,cV qs⟩:Blk)∈M) (hn:l.length=n) (hm:n≤maxLen) (hq:qs=l.flatMap e.ps):SLfe w0 M e (.slice (some ⟨b,0,none⟩) n n) l :=
  SLfe.mine hB h hn (Nat.le_refl _) hm (by rw [← hn,List.take_of_length_le,hq,HP];rw [hq,HP,o6];exact Nat.le_refl _)
theorem lM {T E:TypeId} {x y:Operand} {u:Value} {m:List α} {L M1:List Blk} {K:Value→List Blk→Prop} (bytes:Nat) (hT:P.underlying T=some (.slice E)) (hE:Z9 P E e.n bytes=true) (h0:0<e.n) (hx:evO N S x=some v) (hy:evO N S y=some u)
    (hv:OwnG w0 E e v l L) (hu:SLe w0 X M e u m) (hs:Frq M L M1) (hn:(l.length+m.length) * bytes≤140737488355328) (h8:0<bytes) (k:∀ p c L',OwnG w0 E e (.slice p (l ++ m).length c) (l ++ m) L'→K (.slice p (l ++ m).length c) (L' ++ M1)) :
    OpR P w0 X N ⟨d,.call { callee:=.builtin .append,args:=#[x,y],argTypes:=#[T,T] },ty,ps,af,gd⟩ S M K :=
  ZV bytes hT hE h0 hx hy hv hu hs hn h8 fun v' L' h=>by
    obtain ⟨p,c,rfl⟩:=h.form;exact k p c L' h
theorem ck_ {k:Nat} {z:α} (hk:k<l.length):(rows e l).take (k * e.n) ++ e.cs z ++ (rows e l).drop (k * e.n+e.n)=rows e (l.set k z):=by
  rw [FV,show k * e.n+e.n=(k+1) * e.n by rw [Nat.succ_mul],O9,List.set_eq_take_append_cons_drop,if_pos hk,y3]
  simp [rows]
theorem cf_ {T E:TypeId} {x y:Operand} {g:Bool} {k m:Nat} {z:α} {u:Value} {L M1:List Blk} {K:Value→List Blk→Prop} (hT:qU P T=some (g,e.n)) (hx:evO N S x=some (.pointer (some (slb v m)))) (hm:m=k * e.n) (hv:OwnG w0 E e v l L) (hk:k<l.length)
    (hs:Frq M L M1) (hy0:evO N S y=some u) (hy:u.cells=(cV (e.ps z)).toArray) (kk:∀ L',OwnG w0 E e v (l.set k z) L'→K undef (L' ++ M1)):OpR P w0 X N ⟨d,.store T x y,ty,ps,af,gd⟩ S M K:=by
  subst hm;rcases hv with ⟨rfl,rfl,rfl⟩ | ⟨g',cap,cur,rfl,rfl,hg,hc,hmx,hl,ht⟩
  · simp at hk
  have hx':evO N S x=some (.pointer (some ⟨g',k * e.n,none⟩)):=by rw [hx];simp [slb,t9]
  have e1:l.length * e.n≤cap * e.n:=Nat.mul_le_mul_right _ hc;have e2:(k+1) * e.n≤l.length * e.n:=Nat.mul_le_mul_right _ oo_;rw [Nat.succ_mul] at e2;have hcs:(e.cs z).length=e.n:=El.cs_len z
  have hcur:cur=rows e l ++ cur.drop (l.length * e.n):=by rw [← ht,List.take_append_drop]
  have hlr:=o6 (e:=e) l;refine OpR.perm hs (KV (U:=E) (cs:=cur) (vs:=e.cs z) (M':=⟨g',E,cur.take (k * e.n) ++ e.cs z ++ cur.drop (k * e.n+e.n)⟩ :: M1) hT hx' (.head _) hy0 hy hcs (fun v h=>El.cs_plain z v h) oo_ rfl (.inl hg) ?_);refine kk [⟨g',E,cur.take (k * e.n) ++ e.cs z ++ cur.drop (k * e.n+e.n)⟩] (.inr ⟨g',cap,_,by rw [List.length_set],rfl,hg,by rw [List.length_set];exact hc,hmx,?_,?_⟩)
  · rw [List.length_append,List.length_append,List.length_take,List.length_drop,hcs,hl,Nat.min_eq_left oo_];omega
  rw [List.length_set,← ck_ hk]
  have t1:cur.take (k * e.n)=(rows e l).take (k * e.n):=by rw [← ht,List.take_take,Nat.min_eq_left oo_]
  have t2:(cur.drop (k * e.n+e.n)).take (l.length * e.n - (k * e.n+e.n))=(rows e l).drop (k * e.n+e.n):=by rw [← ht,List.drop_take]
  rw [t1]
  have n1:((rows e l).take (k * e.n) ++ e.cs z).length=k * e.n+e.n:=by rw [List.length_append,List.length_take,hcs,hlr,Nat.min_eq_left oo_]
  rw [List.take_append,n1,t2,List.take_of_length_le (by rw [n1];omega)]
end
end Go.Kn
namespace Go.Num
open Go Go.Kn
def Z.nat (z:Z):Nat:=match z.o with | some v=>v.natAbs | none=>0
def Z.half (z:Z):Z:=JB (fun v=>Z.of (v / 2)) z
def sqb:Nat→Nat→Nat→Nat
  | 0,_,r=>r
  | k+1,v,r=>bif decide (v<(r+2 ^ k) * (r+2 ^ k)) then sqb k v r else sqb k v (r+2 ^ k)
def CB (v:Nat):Nat:=sqb 256 v 0
theorem NE:∀ (k v r:Nat),r * r≤v→v<(r+2 ^ k) * (r+2 ^ k)→sqb k v r * sqb k v r≤v∧v<(sqb k v r+1) * (sqb k v r+1)
  | 0,v,r,h1,h2=>⟨h1,h2⟩
  | k+1,v,r,h1,h2=>by
    unfold sqb
    by_cases h:v<(r+2 ^ k) * (r+2 ^ k)
    · rw [decide_eq_true h,cond_true];exact NE k v r h1 h
    rw [decide_eq_false h,cond_false];refine NE k v (r+2 ^ k) oo_ ?_;rw [Nat.add_assoc,← Nat.two_mul,Nat.mul_comm 2,← Nat.pow_succ];exact h2
theorem ZD {v k m:Nat} (hm:4294967296 ^ 16=2 ^ m) (hk:m=k+k) (h:v<4294967296 ^ 16):v<(0+2 ^ k) * (0+2 ^ k):=by
  rw [Nat.zero_add,← Nat.pow_add,← hk,← hm];exact h
theorem zW {v:Nat} (h:v<4294967296 ^ 16):CB v * CB v≤v∧v<(CB v+1) * (CB v+1):=NE 256 v 0 (Nat.zero_le _) (ZD FZ rfl h)
theorem ed_ {a b:Nat} (h:a<b):(a+1) * (a+1)≤b * b:=Nat.mul_le_mul h h
theorem e2_ {a:R} (ha:a.Ok):val a.w<4294967296 ^ 16:=by have:=AB a.w ha.lim;rwa [ha.len] at this
theorem Y8 {a:R} (ha:a.Ok) (ga:a.good=true) (hn:a.neg=false):R.mk false false (toL 16 (val a.w / 2 ^ 1))=(Z.half a.dec).enc:=by
  unfold Z.half;rw [oL (dE ha ga),hn]
  have e:sgn false (val a.w) / 2=sgn false (val a.w / 2 ^ 1):=by
    show ((val a.w:Nat):Int) / 2=((val a.w / 2 ^ 1:Nat):Int)
    omega
  rw [e];exact rC false (Nat.lt_of_le_of_lt (Nat.div_le_self _ _) (e2_ ha))
theorem bo_ {a:R} (ga:a.good=false):Z.half a.dec=Z.bad:=by
  unfold Z.half R.dec;rw [if_neg (by simp [ga])];rfl
theorem Y9 {a:R} (ha:a.Ok) (ga:a.good=true) (hn:a.neg=false) (hs:a.dec.sign=0):a=(Z.half a.dec).enc:=by
  have hv:sgn false (val a.w)=0:=by
    unfold Z.sign at hs;rw [dE ha ga,hn] at hs;exact Int.sign_eq_zero_iff_zero.1 hs
  unfold Z.half;rw [oL (dE ha ga),hn,hv]
  have e:a.dec=Z.of 0:=by
    unfold R.dec;rw [if_pos ga,hn,hv]
  have:=(QC ha ga).symm;rw [e] at this;exact this
theorem Y7 {a:R} (h:a.Ok):(uw (List.replicate 16 0)).take 0 ++ (a.cells.drop 2).take 16 ++ (uw (List.replicate 16 0)).drop 16=uw a.w:=by
  have e1:a.cells.drop 2=uw a.w:=rfl
  have e2:(uw a.w).length=16:=by rw [j1,h.len]
  have e3:(uw (List.replicate 16 0)).drop 16=[]:=rfl;rw [e1,List.take_of_length_le (l:=uw a.w) oo_,e3,List.take_zero,List.nil_append,List.append_nil]
theorem hr_ {a b:Int} (h:(a != b)=false):a=b:=by simpa using h
theorem hs_ {a b:Int} (h:(a != b)=true):a≠b:=by simpa using h
theorem trs {α:Type} {a b c:α} (h2:b=c) (h1:a=b):a=c:=h1.trans h2
theorem apS {σ β:Type} {f:σ→β} {x s:σ} (h:x=s):ap f x=f s:=by rw [h];rfl
theorem smS {σ ρ β:Type} {f:σ→β} {g:ρ→β} {x:σ ⊕ ρ} {s:σ} (h:x = .inl s):sm f g x=f s:=by rw [h];rfl
structure Edg where
  l:List (A3 Rt)
  e:W
structure Pts where
  l:List Rt
  is:Bool
end Go.Num
namespace Go.Kn
open Go Go.Num
def FnV {α:Type} (P:Program) (w:World) (v:Value) (enc:α→List Value) (dom:α→Prop) (out:α→Value):Prop :=
  ∃ g cap,v = .func (.func g) #[] cap.toArray∧nU P g=true∧∀ w',Ext w w'→∀ x,dom x→Calls P g (enc x ++ cap).toArray w' fun e w''=>e = .returned (out x)∧Ext w' w''
def FnE {α:Type} (P:Program) (w0:World) (X:List Nat) (M:List Blk) (g:Nat) (cap:List Value) (enc:α→List Value) (dom:α→Prop) (out:α→Value):Prop :=
  nU P g=true∧∀ w,Sat w0 X M w→∀ x,dom x→Calls P g (enc x ++ cap).toArray w fun e w''=>e = .returned (out x)∧Ext w w''
section
variable {α:Type} {P:Program} {w0:World} {X:List Nat} {N:Nm} {S:Fr} {M M':List Blk} {d:Option Tmp} {ty:TypeId} {ps:String} {af:Array Edge} {gd:Option (Nat×Bool)} {enc:α→List Value} {dom:α→Prop} {out:α→Value} {g:Nat} {cap:List Value}
theorem FnV.open {w:World} {v:Value} (h:FnV P w v enc dom out):∃ g cap,v = .func (.func g) #[] cap.toArray∧FnE P w [] [] g cap enc dom out:=by
  obtain ⟨g,cap,hv,he,hc⟩:=h;exact ⟨g,cap,hv,he,fun w' hw' x hx=>hc w' hw'.ext x hx⟩
theorem FnV.mk {w:World} (hw:Sat w0 X M w) (he:nU P g=true) (h:∀ w,Sat w0 X M w→∀ x,dom x→Calls P g (enc x ++ cap).toArray w fun e w''=>e = .returned (out x)∧Ext w w''):FnV P w (.func (.func g) #[] cap.toArray) enc dom out :=
  ⟨g,cap,rfl,he,fun w' hx x hd=>h w' (Sat.mono _ _ _ _ _ hw hx) x hd⟩
theorem FnE.sub (h:FnE P w0 X M g cap enc dom out) (hs:M.Sublist M'):FnE P w0 X M' g cap enc dom out:=⟨h.1,fun w hw=>h.2 w (hw.sub hs)⟩
theorem FnE.ap {w:World} (hw:Sat w0 X M w) (h:FnE P w0 X M g cap enc dom out):FnV P w (.func (.func g) #[] cap.toArray) enc dom out:=FnV.mk hw h.1 h.2
theorem FnV.get {w:World} (h:FnV P w (.func (.func g) #[] cap.toArray) enc dom out):FnE P w [] [] g cap enc dom out:=by
  obtain ⟨g',cap',hv,he⟩:=h.open
  have e1:g=g'∧cap=cap':=by simpa using hv
  obtain ⟨rfl,rfl⟩:=e1;exact he
theorem TR {f:Operand} {xs:List Operand} {tys:Array TypeId} (x:α) (hf:evO N S f=some (.func (.func g) #[] cap.toArray)) (ha:evL N S xs=some (enc x)) (h:FnE P w0 X M g cap enc dom out) (hx:dom x) :
    OpQ P w0 X N ⟨d,.call { callee:=.value f,args:=xs.toArray,argTypes:=tys },ty,ps,af,gd⟩ S M (out x) :=
  dT_ (first:=[]) (cap:=cap) (args:=enc x) h.1 hf ha fun w hw=>by simpa using h.2 w hw x hx
end
abbrev eN (k:Nat):List Value:=[.int .i64 ((k:Nat):Int)]
abbrev eW (k:Num.W):List Value:=[.int .i64 k.1]
abbrev eI (x:I):List Value:=[AV [pI x]]
abbrev eII (x:I×I):List Value:=[AV [pI x.1],AV [pI x.2]]
abbrev eRt (x:Rt):List Value:=[AV [pI x.n,pI x.d]]
abbrev bW_ {α:Type} (f:α→I) (x:α):Value:=AV [pI (f x)]
abbrev ip_ {α:Type} (f:α→Num.W) (x:α):Value:=.int .i64 (f x).1
abbrev ZN {α:Type} (f:α→Bool) (x:α):Value:=.bool (f x)
theorem cvE {t:Int} (h:-9223372036854775808≤t∧t≤9223372036854775807):(W.cv t).1=t:=by
  show IntKind.i64.wrap t=t
  exact wi h
section
variable {α:Type} {e:El α} {P:Program} {w0:World} {X:List Nat} {N:Nm} {S:Fr} {M M':List Blk} {d:Option Tmp} {ty:TypeId} {ps:String} {af:Array Edge} {gd:Option (Nat×Bool)} {v:Value} {l:List α}
theorem Slr.form {w:World} (h:Slr w e v l):∃ p c,v = .slice p l.length c:=by
  obtain ⟨p,c,hv,_⟩:=h;exact ⟨p,c,hv⟩
theorem u6 {T:TypeId} {x y:Operand} {k:Nat} {i:IntKind} {t:Int} (hT:pO P T=some e.n) (hx:evO N S x=some v) (hy:evO N S y=some (.int i t)) (ht:t=(k:Int)) (hv:SLe w0 X M e v l) (hk:k<l.length) :
    OpQ P w0 X N ⟨d,.indexAddr T x y,ty,ps,af,gd⟩ S M (.pointer (some (slb v (k * e.n)))):=by
  subst ht;exact lI hT hx hy hv hk
theorem OwnG.take {E:TypeId} {p:Option Addr} {n c:Nat} {L:List Blk} (h:OwnG w0 E e (.slice p n c) l L) {k:Nat} (hk:k≤l.length):OwnG w0 E e (.slice p (l.take k).length c) (l.take k) L:=by
  have hl:(l.take k).length=k:=by rw [List.length_take,Nat.min_eq_left hk]
  rcases h with ⟨h,rfl,rfl⟩ | ⟨g,cap,cur,h,rfl,hg,hc,hm,hn,ht⟩
  · cases h
    obtain rfl:k=0:=by simpa using hk
    exact .inl ⟨rfl,rfl,rfl⟩
  · cases h
    refine .inr ⟨g,c,cur,rfl,rfl,hg,by omega,hm,hn,?_⟩;rw [hl,← FV,← ht,List.take_take,Nat.min_eq_left (Nat.mul_le_mul_right _ hk)]
theorem XV {T E:TypeId} {x y:Operand} {k n c:Nat} {i:IntKind} {t:Int} {p:Option Addr} {L:List Blk} (hT:pO P T=some e.n) (hx:evO N S x=some (.slice p n c)) (hy:evO N S y=some (.int i t)) (ht:t=(k:Int)) (hv:OwnG w0 E e (.slice p n c) l L) (hk:k≤l.length) :
    OpQ P w0 X N ⟨d,.slice T x none (some y) none,ty,ps,af,gd⟩ S M (.slice p (l.take k).length c):=by
  subst ht
  have hl:(l.take k).length=k:=by rw [List.length_take,Nat.min_eq_left hk]
  rw [hl]
  have hn:n=l.length∧l.length≤c:=by
    rcases hv with ⟨h,rfl,rfl⟩ | ⟨g,cap,cur,h,rfl,hg,hc,hm,hn,ht⟩
    · cases h;exact ⟨rfl,Nat.le_refl _⟩
    · cases h;exact ⟨rfl,hc⟩
  refine rT (w0:=w0) (X:=X) (M:=M) (fun w hw=>?_);obtain ⟨e',q,hu,hi',hs⟩:=t7 hT;have hb:=C3 (P:=P) (N:=N) (S:=S) (w:=w) (isSl:=true) (len:=n) (cap:=c) (lo:=none) (hi:=some y) (l:=0) (h:=(k:Int)) rfl (by simp [B8,hy]) oo_ oo_ oo_;simp only [Option.map_none,Option.map_some] at hb;simp only [execOp,Instr.sliceAt,Instr.slice,Sem.run_bind,run_underlying hu,cG hx,Result.andThen_ok];simp only [Option.map_none,Option.map_some,hb,Result.andThen_ok,sizeOf,typeInfo,Sem.run_bind,run_program,hi',hs,Sem.run_pure]
  cases p <;> simp [Addr.add]
def Rpl (M L:List Blk) (f:List Blk→List Blk):Prop:=∃ R,Frq M L R∧∀ L',(L' ++ R).Perm (f L')
theorem hM_ {L R:List Blk}:Rpl (L ++ R) L (fun L'=>L' ++ R):=⟨R,n6,fun _=>List.Perm.refl _⟩
theorem hN_ {x:Blk} {R L:List Blk} {f:List Blk→List Blk} (h:Rpl R L f):Rpl (x :: R) L (fun L'=>x :: f L'):=by
  obtain ⟨R',h1,h2⟩:=h;exact ⟨x :: R',kW h1,fun L'=>List.perm_middle.trans (List.Perm.cons x (h2 L'))⟩
theorem TV {T E:TypeId} {x y:Operand} {g:Bool} {k m:Nat} {z:α} {u:Value} {L:List Blk} {f:List Blk→List Blk} {K:Value→List Blk→Prop} (hT:qU P T=some (g,e.n)) (hx:evO N S x=some (.pointer (some (slb v m)))) (hm:m=k * e.n) (hv:OwnG w0 E e v l L) (hk:k<l.length)
    (hs:Rpl M L f) (hy0:evO N S y=some u) (hy:u.cells=(cV (e.ps z)).toArray) (kk:∀ L',OwnG w0 E e v (l.set k z) L'→K undef (f L')):OpR P w0 X N ⟨d,.store T x y,ty,ps,af,gd⟩ S M K:=by
  obtain ⟨R,h1,h2⟩:=hs;intro w hw;have h:=cf_ (w0:=w0) (X:=X) (M:=M) (d:=d) (ty:=ty) (ps:=ps) (af:=af) (gd:=gd) (K:=fun u M'=>∃ M2,M'.Perm M2∧K u M2) hT hx hm hv hk h1 hy0 hy (fun L' ho=>⟨f L',h2 L',kk L' ho⟩) w hw;refine CD ?_ h;rintro u w' ⟨hk',M',hs',M2,hp,hK⟩;exact ⟨hk',M2,hs'.perm hp,hK⟩
theorem OwnG.len {E:TypeId} {p:Option Addr} {n c:Nat} {L:List Blk} (h:OwnG w0 E e (.slice p n c) l L):n=l.length:=by
  rcases h with ⟨h,rfl,rfl⟩ | ⟨g,cap,cur,h,_⟩
  · cases h;rfl
  · cases h;rfl
theorem ZI (x0:α) (h0:0<e.n) (c:Nat):madeCells (e.cs x0).toArray (c * e.n)=(rows e (List.replicate c x0)).toArray:=by
  apply Array.ext
  · rw [size_madeCells,List.size_toArray,o6,List.length_replicate]
  intro i h1 h2;have hlen:(e.cs x0).length=e.n:=El.cs_len x0;rw [size_madeCells] at h1;have hq:i / e.n<c:=Nat.div_lt_of_lt_mul (by rw [Nat.mul_comm];exact h1);have hr:i % e.n<e.n:=Nat.mod_lt _ h0
  have hk:(List.replicate c x0)[i / e.n]? = some x0:=by rw [List.getElem?_replicate,if_pos hq]
  have hg:=T4 (e:=e) hk
  have h3:(rows e (List.replicate c x0))[i]? = some ((e.cs x0)[i % e.n]'oo_):=by
    have h4:(((rows e (List.replicate c x0)).drop (i / e.n * e.n)).take e.n)[i % e.n]? = some ((e.cs x0)[i % e.n]'oo_):=by rw [hg];exact List.getElem?_eq_getElem _
    rw [List.getElem?_take_of_lt hr,List.getElem?_drop,Nat.div_add_mod' i e.n] at h4;exact h4
  have h5:(rows e (List.replicate c x0)).toArray[i]? = some ((e.cs x0)[i % e.n]'oo_):=by simpa using h3
  rw [Array.getElem?_eq_getElem h2] at h5;rw [Option.some.inj h5];simp only [madeCells,Array.getElem_map,Array.getElem_range,List.size_toArray,hlen];rw [getElem!_pos (e.cs x0).toArray (i % e.n) (by rw [List.size_toArray,hlen];exact hr)]
  simp
theorem X0 {T E:TypeId} {x y:Operand} {n c:Nat} {i j:IntKind} {s t:Int} {K:Value→List Blk→Prop} (bytes:Nat) (x0:α) (hT:P.underlying T=some (.slice E)) (hE:Z9 P E e.n bytes=true) (h0:0<e.n) (hz:pD P E=some (e.cs x0)) (hx:evO N S x=some (.int i s)) (hy:evO N S y=some (.int j t))
    (hs:s=(n:Int)) (ht:t=(c:Int)) (hnc:n≤c) (hcm:c≤200000) (hen:e.n≤80) (hby:bytes≤1000) (k:∀ p L,OwnG w0 E e (.slice p (List.replicate n x0).length c) (List.replicate n x0) L→K (.slice p (List.replicate n x0).length c) (L ++ M)) :
    OpR P w0 X N ⟨d,.makeSlice T x y,ty,ps,af,gd⟩ S M K:=by
  subst hs ht;intro w hw;obtain ⟨inf,z,hi,hz',hc⟩:=BA hz;unfold Z9 at hE;simp only [hi,hz',Bool.and_eq_true,beq_iff_eq] at hE;obtain ⟨⟨h1,hb⟩,hzc⟩:=hE;have b1:c * e.n≤200000 * 80:=Nat.mul_le_mul hcm hen;have b2:bytes * c≤1000 * 200000:=Nat.mul_le_mul hby hcm;have hr:=run_makeSlice (P:=P) w T E inf z hT hi hz' i j n c oo_ oo_ (by rw [h1,Int.toNat_natCast];omega) (by rw [hb];omega) oo_;rw [h1,hc,Int.toNat_natCast,Int.toNat_natCast,ZI x0 h0] at hr;unfold opw
  have hex:(execOp (ev N S) ⟨d,.makeSlice T x y,ty,ps,af,gd⟩).run P w = .ok (.value (.slice (some ⟨w.heap.size,0,none⟩) n c)) (w.alloc (.cells (rows e (List.replicate c x0)).toArray E)):=by
    simp [execOp,cG hx,cG hy,hr]
  rw [o5,hex];have hl:(List.replicate n x0).length=n:=List.length_replicate
  have hk:=k (some ⟨w.heap.size,0,none⟩) [⟨w.heap.size,E,rows e (List.replicate c x0)⟩] (.inr ⟨w.heap.size,c,_,rfl,rfl,hw.size,by rw [hl];exact hnc,by unfold maxLen;omega,by rw [o6,List.length_replicate],by
    rw [hl,FV,List.take_replicate,Nat.min_eq_left hnc]⟩)
  rw [hl] at hk;exact ⟨.alloc _ _,_,hw.alloc E _,hk⟩
theorem UX {c:Code} {Q:sY} {M2:List Blk} (p:M.Perm M2) (h:W P w0 X N c Q S M2):W P w0 X N c Q S M:=fun B D w hB hd hr hw=>h B D w hB hd hr (hw.perm p)
def Slo (B:Nat) (w:World) (E:TypeId) (e:El α) (v:Value) (l:List α):Prop :=
  (v = .slice none 0 0∧l=[]) ∨ ∃ g cap,∃ cur:List Value,v = .slice (some ⟨g,0,none⟩) l.length cap∧B≤g∧w.heap[g]? = some (.cells cur.toArray E (0,0))∧l.length≤cap∧cap≤maxLen∧cur.length=cap * e.n∧cur.take (l.length * e.n)=rows e l
theorem OwnG.slo {E:TypeId} {L:List Blk} {w:World} (h:OwnG w0 E e v l L) (hs:L.Sublist M) (hw:Sat w0 X M w):Slo w0.heap.size w E e v l:=by
  rcases h with ⟨rfl,rfl,rfl⟩ | ⟨g,cap,cur,rfl,rfl,hg,hc,hm,hn,ht⟩
  · exact .inl ⟨rfl,rfl⟩
  exact .inr ⟨g,cap,cur,rfl,hg,hw.mem _ (hs.mem List.mem_cons_self),hc,hm,hn,ht⟩
theorem Slo.now {w w':World} {E:TypeId} (h:Slo w.heap.size w' E e v l) (hw:Sat w0 X M w) (he:Ext w w'):∃ p c L,v = .slice p l.length c∧Sat w0 X (L ++ M) w'∧OwnG w0 E e (.slice p l.length c) l L:=by
  have hw':=Sat.mono _ _ _ _ _ hw he;rcases h with ⟨rfl,rfl⟩ | ⟨g,cap,cur,rfl,hB,hh,hc,hm,hn,ht⟩
  · exact ⟨none,0,[],rfl,hw',.inl ⟨rfl,rfl,rfl⟩⟩
  have hb:g ∉ M.map Blk.b:=fun hm=>by
    obtain ⟨x,hx,rfl⟩:=List.mem_map.1 hm;have:=gB? (hw.mem x hx);omega
  refine ⟨_,cap,[⟨g,E,cur⟩],rfl,⟨hw'.os,hw'.tape,hw'.output,hw'.size,hw'.old,by simpa using And.intro (by simpa using hb) hw'.nodup,fun y hy=>?_⟩,.inr ⟨g,cap,cur,rfl,rfl,Nat.le_trans hw.size hB,hc,hm,hn,ht⟩⟩;rcases List.mem_cons.1 hy with rfl | hy
  · exact hh
  exact hw'.mem y hy
def ib_ (w0:World) (M:List Blk) (E:TypeId) (e:El α) (v:Value) (l:List α):Prop:=∃ L,L.Sublist M∧OwnG w0 E e v l L
theorem dW {n:Nat} {E:TypeId} {f:FuncId} {fn:Func} {c:Code} {args:List Value} {w:World} (R:Value→Value) (hf:P.funcs[f]? = some fn) (hb:fn.body=some c) (hn:fn.ntmps=n) (hl:args.length≤n)
    (h:W P w [] (pl n) c (tA P fn w [] (pl n) fun r M=>∃ v,r=R v∧ib_ w M E e v l) (bO 0 args) []):Calls P f args.toArray w fun f w'=>∃ v,f = .returned (R v)∧Ext w w'∧Slo w.heap.size w' E e v l :=
  (sP hf hb hn hl (Sat.start w []) h).mono fun f w' ⟨r,M',he,hs,_,v,hr,L,hL,hu⟩=>⟨v,by rw [he,hr],hs.ext,hu.slo hL hs⟩
theorem aN {E:TypeId} {g:FuncId} {xs:List Operand} {tys:Array TypeId} {args:List Value} {K:Value→List Blk→Prop} (R:Value→Value) (he:nU P g=true) (ha:evL N S xs=some args)
    (h:∀ w,Sat w0 X M w→Calls P g args.toArray w fun f w'=>∃ v,f = .returned (R v)∧Ext w w'∧Slo w.heap.size w' E e v l) (k:∀ p c L,OwnG w0 E e (.slice p l.length c) l L→K (R (.slice p l.length c)) (L ++ M)):OpR P w0 X N ⟨d,.call { callee:=.value (.func g),args:=xs.toArray,argTypes:=tys },ty,ps,af,gd⟩ S M K :=
  GU he ha fun w hw=>(h w hw).mono fun _ w' ⟨v,h1,h2,h3⟩=>by
    obtain ⟨p,c,L,rfl,hs,hv⟩:=h3.now hw h2;exact ⟨_,L ++ M,h1,hs,Ext.keeps h2,k p c L hv⟩
theorem OwnG.max {E:TypeId} {L:List Blk} (h:OwnG w0 E e v l L):l.length≤9223372036854775807:=(h.slfe (List.Sublist.refl L)).max
abbrev gY_:Part:=⟨1,[.nilFunc],rfl,fun v h=>by rw [List.mem_singleton.1 h];rfl⟩
end
end Go.Kn
namespace Go.Num
open Go Go.Kn
structure Sgd where
  s:W
  ok:Bool
structure Lst8 where
  l:List I
  is:Bool
abbrev gdI (x:I):Bool:=!x.1.bad&&x.1.valid
end Go.Num
