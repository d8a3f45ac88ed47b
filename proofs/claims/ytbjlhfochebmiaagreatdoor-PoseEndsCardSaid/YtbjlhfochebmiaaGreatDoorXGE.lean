/- Lemmas: what they ask stands in their statements. -/
import Derived.ArgAppend
import Derived.Test.YtbjlhfochebmiaaGreatDoorXGD
import Derived.Test.YtbjlhfochebmiaaGreatDoorProg
set_option linter.unusedSimpArgs false
set_option linter.unusedVariables false
namespace Go.Kn
open Go
def Frq (M L R:List Blk):Prop:=M.Perm (L ++ R)
theorem bJ_ {x:Blk} {R:List Blk}:Frq (x :: R) [x] R:=List.Perm.refl _
theorem wT {L R:List Blk}:Frq (L ++ R) L R:=List.Perm.refl _
theorem IO {x:Blk} {R L R':List Blk} (h:Frq R L R'):Frq (x :: R) L (x :: R'):=(List.Perm.cons x h).trans List.perm_middle.symm
theorem nT {L2 R L R':List Blk} (h:Frq R L R'):Frq (L2 ++ R) L (L2 ++ R'):=by
  have h1:(L2 ++ R).Perm (L2 ++ (L ++ R')):=List.Perm.append_left L2 h
  have h2:(L2 ++ (L ++ R')).Perm (L ++ (L2 ++ R')):=by
    rw [← List.append_assoc,← List.append_assoc];exact List.Perm.append_right R' List.perm_append_comm
  exact h1.trans h2
theorem Sat.perm {w0 w:World} {X:List Nat} {M M':List Blk} (h:Sat w0 X M w) (p:M.Perm M'):Sat w0 X M' w :=
  ⟨h.os,h.tape,h.output,h.size,h.old,(p.map Blk.b).nodup_iff.1 h.nodup,fun x hx=>h.mem x (p.mem_iff.2 hx)⟩
theorem OwnG.lit {α:Type} {e:El α} {w0:World} {l:List α} {E:TypeId} {b n:Nat} {qs:List Part} (hb:w0.heap.size≤b) (hn:l.length=n) (hm:n≤maxLen) (hq:qs=l.flatMap e.ps):OwnG w0 E e (.slice (some ⟨b,0,none⟩) n n) l [⟨b,E,dC qs⟩] :=
  OwnG.of_mine hb hn hm (by rw [hq];exact zV l)
theorem PJ {α:Type} {e:El α} {P:Program} {w0:World} {X:List Nat} {N:Nm} {S:Fr} {M:List Blk} {d:Option Tmp} {ty:TypeId} {ps:String} {af:Array Edge} {gd:Option (Nat×Bool)} {v:Value} {l:List α}
    {T E:TypeId} {x y:Operand} {u:Value} {m:List α} {L M1:List Blk} {K:Value→List Blk→Prop} (bytes:Nat) (hT:P.underlying T=some (.slice E)) (hE:PW P E e.n bytes=true) (h0:0<e.n) (hx:evO N S x=some v) (hy:evO N S y=some u)
    (hv:OwnG w0 E e v l L) (hu:SLe w0 X M e u m) (hs:Frq M L M1) (hn:(l.length+m.length) * bytes≤140737488355328) (h8:0<bytes) (k:∀ v' L',OwnG w0 E e v' (l ++ m) L'→K v' (L' ++ M1)) :
    OpR P w0 X N ⟨d,.call { callee:=.builtin .append,args:=#[x,y],argTypes:=#[T,T] },ty,ps,af,gd⟩ S M K:=fun w hw =>
  PI (M:=L ++ M1) hT hE h0 hx hy hv (fun w hw=>hu w (hw.perm (List.Perm.symm hs))) (List.Sublist.refl _) hn h8 k w (hw.perm hs)
section
variable {α:Type} {e:El α} {P:Program} {w0:World} {X:List Nat} {N:Nm} {S:Fr} {M M':List Blk} {d:Option Tmp} {ty:TypeId} {ps:String} {af:Array Edge} {gd:Option (Nat×Bool)} {v:Value} {l:List α}
theorem OpR.perm {o:Oper} {K:Value→List Blk→Prop} (p:M.Perm M') (h:OpR P w0 X N o S M' K):OpR P w0 X N o S M K:=fun w hw=>h w (hw.perm p)
theorem OwnG.form {E:TypeId} {L:List Blk} (h:OwnG w0 E e v l L):∃ p c,v = .slice p l.length c:=by
  rcases h with ⟨rfl,rfl,rfl⟩ | ⟨g,cap,cur,rfl,_⟩
  · exact ⟨none,0,rfl⟩
  exact ⟨_,_,rfl⟩
theorem SLfe.max (h:SLfe w0 M e v l):l.length≤9223372036854775807:=by
  obtain ⟨p,c,hv,hc,hm,_⟩:=h;unfold maxLen at hm;omega
theorem SLfe.lit {b n:Nat} {T:TypeId} {qs:List Part} (hB:w0.heap.size≤b) (h:(⟨b,T,dC qs⟩:Blk)∈M) (hn:l.length=n) (hm:n≤maxLen) (hq:qs=l.flatMap e.ps):SLfe w0 M e (.slice (some ⟨b,0,none⟩) n n) l :=
  SLfe.mine hB h hn (Nat.le_refl _) hm (by rw [← hn,List.take_of_length_le,hq,zV];rw [hq,zV,jM];exact Nat.le_refl _)
theorem uM {T E:TypeId} {x y:Operand} {u:Value} {m:List α} {L M1:List Blk} {K:Value→List Blk→Prop} (bytes:Nat) (hT:P.underlying T=some (.slice E)) (hE:PW P E e.n bytes=true) (h0:0<e.n) (hx:evO N S x=some v) (hy:evO N S y=some u)
    (hv:OwnG w0 E e v l L) (hu:SLe w0 X M e u m) (hs:Frq M L M1) (hn:(l.length+m.length) * bytes≤140737488355328) (h8:0<bytes) (k:∀ p c L',OwnG w0 E e (.slice p (l ++ m).length c) (l ++ m) L'→K (.slice p (l ++ m).length c) (L' ++ M1)) :
    OpR P w0 X N ⟨d,.call { callee:=.builtin .append,args:=#[x,y],argTypes:=#[T,T] },ty,ps,af,gd⟩ S M K :=
  PJ bytes hT hE h0 hx hy hv hu hs hn h8 fun v' L' h=>by
    obtain ⟨p,c,rfl⟩:=h.form;exact k p c L' h
theorem SLe.full {p:Option Addr} {n c:Nat} (h:SLe w0 X M e (.slice p n c) l) (h0:0<n∨c=0):SLe w0 X M e (.slice p n n) l:=fun w hw=>by
  obtain ⟨p',c',hq,hc,hm,hp⟩:=h w hw
  cases hq
  refine ⟨p,l.length,rfl,Nat.le_refl _,by omega,?_⟩;rcases hp with ⟨rfl,rfl,rfl⟩ | ⟨a,rfl,hr⟩
  · exact .inl ⟨rfl,rfl,rfl⟩
  exact .inr ⟨a,rfl,hr⟩
end
end Go.Kn

namespace Go.Num
open Go Go.Kn
def Z.nat (z:Z):Nat:=match z.o with | some v=>v.natAbs | none=>0
def Z.half (z:Z):Z:=A8 (fun v=>Z.of (v / 2)) z
def sqb:Nat→Nat→Nat→Nat
  | 0,_,r=>r
  | k+1,v,r=>bif decide (v<(r+2 ^ k) * (r+2 ^ k)) then sqb k v r else sqb k v (r+2 ^ k)
def uD (v:Nat):Nat:=sqb 256 v 0
theorem D4:∀ (k v r:Nat),r * r≤v→v<(r+2 ^ k) * (r+2 ^ k)→sqb k v r * sqb k v r≤v∧v<(sqb k v r+1) * (sqb k v r+1)
  | 0,v,r,h1,h2=>⟨h1,h2⟩
  | k+1,v,r,h1,h2=>by
    unfold sqb
    by_cases h:v<(r+2 ^ k) * (r+2 ^ k)
    · rw [decide_eq_true h,cond_true];exact D4 k v r h1 h
    rw [decide_eq_false h,cond_false];refine D4 k v (r+2 ^ k) oo_ ?_;rw [Nat.add_assoc,← Nat.two_mul,Nat.mul_comm 2,← Nat.pow_succ];exact h2
theorem O1 {v k m:Nat} (hm:4294967296 ^ 16=2 ^ m) (hk:m=k+k) (h:v<4294967296 ^ 16):v<(0+2 ^ k) * (0+2 ^ k):=by
  rw [Nat.zero_add,← Nat.pow_add,← hk,← hm];exact h
theorem rZ {v:Nat} (h:v<4294967296 ^ 16):uD v * uD v≤v∧v<(uD v+1) * (uD v+1):=D4 256 v 0 (Nat.zero_le _) (O1 xW rfl h)
theorem WH {a b:Nat} (h:a<b):(a+1) * (a+1)≤b * b:=Nat.mul_le_mul h h
theorem XP {a:R} (ha:a.Ok):val a.w<4294967296 ^ 16:=by have:=sH a.w ha.lim;rwa [ha.len] at this
theorem OX {a:R} (ha:a.Ok) (ga:a.good=true) (hn:a.neg=false):R.mk false false (toL 16 (val a.w / 2 ^ 1))=(Z.half a.dec).enc:=by
  unfold Z.half;rw [iJ (bT ha ga),hn]
  have e:sgn false (val a.w) / 2=sgn false (val a.w / 2 ^ 1):=by
    show ((val a.w:Nat):Int) / 2=((val a.w / 2 ^ 1:Nat):Int)
    omega
  rw [e];exact j1 false (Nat.lt_of_le_of_lt (Nat.div_le_self _ _) (XP ha))
theorem R2 {a:R} (ga:a.good=false):Z.half a.dec=Z.bad:=by
  unfold Z.half R.dec;rw [if_neg (by simp [ga])];rfl
theorem OY {a:R} (ha:a.Ok) (ga:a.good=true) (hn:a.neg=false) (hs:a.dec.sign=0):a=(Z.half a.dec).enc:=by
  have hv:sgn false (val a.w)=0:=by
    unfold Z.sign at hs;rw [bT ha ga,hn] at hs;exact Int.sign_eq_zero_iff_zero.1 hs
  unfold Z.half;rw [iJ (bT ha ga),hn,hv]
  have e:a.dec=Z.of 0:=by
    unfold R.dec;rw [if_pos ga,hn,hv]
  have:=(GZ ha ga).symm;rw [e] at this;exact this
theorem OW {a:R} (h:a.Ok):(uw (List.replicate 16 0)).take 0 ++ (a.cells.drop 2).take 16 ++ (uw (List.replicate 16 0)).drop 16=uw a.w:=by
  have e1:a.cells.drop 2=uw a.w:=rfl
  have e2:(uw a.w).length=16:=by rw [d8,h.len]
  have e3:(uw (List.replicate 16 0)).drop 16=[]:=rfl;rw [e1,List.take_of_length_le (l:=uw a.w) oo_,e3,List.take_zero,List.nil_append,List.append_nil]
theorem bV_ {a b:Int} (h:(a != b)=false):a=b:=by simpa using h
theorem bW_ {a b:Int} (h:(a != b)=true):a≠b:=by simpa using h
theorem trs {α:Type} {a b c:α} (h2:b=c) (h1:a=b):a=c:=h1.trans h2
theorem apS {σ β:Type} {f:σ→β} {x s:σ} (h:x=s):ap f x=f s:=by rw [h];rfl
theorem smS {σ ρ β:Type} {f:σ→β} {g:ρ→β} {x:σ ⊕ ρ} {s:σ} (h:x = .inl s):sm f g x=f s:=by rw [h];rfl
structure Edg where
  l:List (A3 Rt)
  e:W
structure Pts where
  l:List Rt
  is:Bool
end Go.Num

namespace Go.Kn
open Go Go.Num
def FnV {α:Type} (P:Program) (w:World) (v:Value) (enc:α→List Value) (dom:α→Prop) (out:α→Value):Prop :=
  ∃ g cap,v = .func (.func g) #[] cap.toArray∧aJ P g=true∧∀ w',Ext w w'→∀ x,dom x→Calls P g (enc x ++ cap).toArray w' fun e w''=>e = .returned (out x)∧Ext w' w''
def FnE {α:Type} (P:Program) (w0:World) (X:List Nat) (M:List Blk) (g:Nat) (cap:List Value) (enc:α→List Value) (dom:α→Prop) (out:α→Value):Prop :=
  aJ P g=true∧∀ w,Sat w0 X M w→∀ x,dom x→Calls P g (enc x ++ cap).toArray w fun e w''=>e = .returned (out x)∧Ext w w''
section
variable {α:Type} {P:Program} {w0:World} {X:List Nat} {N:Nm} {S:Fr} {M M':List Blk} {d:Option Tmp} {ty:TypeId} {ps:String} {af:Array Edge} {gd:Option (Nat×Bool)} {enc:α→List Value} {dom:α→Prop} {out:α→Value} {g:Nat} {cap:List Value}
theorem FnV.open {w:World} {v:Value} (h:FnV P w v enc dom out):∃ g cap,v = .func (.func g) #[] cap.toArray∧FnE P w [] [] g cap enc dom out:=by
  obtain ⟨g,cap,hv,he,hc⟩:=h;exact ⟨g,cap,hv,he,fun w' hw' x hx=>hc w' hw'.ext x hx⟩
theorem FnV.mk {w:World} (hw:Sat w0 X M w) (he:aJ P g=true) (h:∀ w,Sat w0 X M w→∀ x,dom x→Calls P g (enc x ++ cap).toArray w fun e w''=>e = .returned (out x)∧Ext w w''):FnV P w (.func (.func g) #[] cap.toArray) enc dom out :=
  ⟨g,cap,rfl,he,fun w' hx x hd=>h w' (Sat.mono _ _ _ _ _ hw hx) x hd⟩
theorem FnE.sub (h:FnE P w0 X M g cap enc dom out) (hs:M.Sublist M'):FnE P w0 X M' g cap enc dom out:=⟨h.1,fun w hw=>h.2 w (hw.sub hs)⟩
theorem FnE.ap {w:World} (hw:Sat w0 X M w) (h:FnE P w0 X M g cap enc dom out):FnV P w (.func (.func g) #[] cap.toArray) enc dom out:=FnV.mk hw h.1 h.2
theorem FnV.get {w:World} (h:FnV P w (.func (.func g) #[] cap.toArray) enc dom out):FnE P w [] [] g cap enc dom out:=by
  obtain ⟨g',cap',hv,he⟩:=h.open
  have e1:g=g'∧cap=cap':=by simpa using hv
  obtain ⟨rfl,rfl⟩:=e1;exact he
theorem MJ {f:Operand} {xs:List Operand} {tys:Array TypeId} (x:α) (hf:evO N S f=some (.func (.func g) #[] cap.toArray)) (ha:evL N S xs=some (enc x)) (h:FnE P w0 X M g cap enc dom out) (hx:dom x) :
    OpQ P w0 X N ⟨d,.call { callee:=.value f,args:=xs.toArray,argTypes:=tys },ty,ps,af,gd⟩ S M (out x) :=
  VW (first:=[]) (cap:=cap) (args:=enc x) h.1 hf ha fun w hw=>by simpa using h.2 w hw x hx
end
abbrev eN (k:Nat):List Value:=[.int .i64 ((k:Nat):Int)]
abbrev eW (k:Num.W):List Value:=[.int .i64 k.1]
abbrev eI (x:I):List Value:=[AV [pI x]]
abbrev eII (x:I×I):List Value:=[AV [pI x.1],AV [pI x.2]]
abbrev eRt (x:Rt):List Value:=[AV [pI x.n,pI x.d]]
abbrev SV {α:Type} (f:α→I) (x:α):Value:=AV [pI (f x)]
abbrev de_ {α:Type} (f:α→Num.W) (x:α):Value:=.int .i64 (f x).1
abbrev VV {α:Type} (f:α→Bool) (x:α):Value:=.bool (f x)
theorem cvE {t:Int} (h:-9223372036854775808≤t∧t≤9223372036854775807):(W.cv t).1=t:=by
  show IntKind.i64.wrap t=t
  exact wi h
section
variable {α:Type} {e:El α} {P:Program} {w0:World} {X:List Nat} {N:Nm} {S:Fr} {M M':List Blk} {d:Option Tmp} {ty:TypeId} {ps:String} {af:Array Edge} {gd:Option (Nat×Bool)} {v:Value} {l:List α}
theorem Slr.form {w:World} (h:Slr w e v l):∃ p c,v = .slice p l.length c:=by
  obtain ⟨p,c,hv,_⟩:=h;exact ⟨p,c,hv⟩
theorem yX {T:TypeId} {x y:Operand} {k:Nat} {i:IntKind} {t:Int} (hT:jV P T=some e.n) (hx:evO N S x=some v) (hy:evO N S y=some (.int i t)) (ht:t=(k:Int)) (hv:SLe w0 X M e v l) (hk:k<l.length) :
    OpQ P w0 X N ⟨d,.indexAddr T x y,ty,ps,af,gd⟩ S M (.pointer (some (slb v (k * e.n)))):=by
  subst ht;exact nC hT hx hy hv hk
theorem OwnG.take {E:TypeId} {p:Option Addr} {n c:Nat} {L:List Blk} (h:OwnG w0 E e (.slice p n c) l L) {k:Nat} (hk:k≤l.length):OwnG w0 E e (.slice p (l.take k).length c) (l.take k) L:=by
  have hl:(l.take k).length=k:=by rw [List.length_take,Nat.min_eq_left hk]
  rcases h with ⟨h,rfl,rfl⟩ | ⟨g,cap,cur,h,rfl,hg,hc,hm,hn,ht⟩
  · cases h
    obtain rfl:k=0:=by simpa using hk
    exact .inl ⟨rfl,rfl,rfl⟩
  · cases h
    refine .inr ⟨g,c,cur,rfl,rfl,hg,by omega,hm,hn,?_⟩;rw [hl,← AQ,← ht,List.take_take,Nat.min_eq_left (Nat.mul_le_mul_right _ hk)]
theorem NX {T E:TypeId} {x y:Operand} {k n c:Nat} {i:IntKind} {t:Int} {p:Option Addr} {L:List Blk} (hT:jV P T=some e.n) (hx:evO N S x=some (.slice p n c)) (hy:evO N S y=some (.int i t)) (ht:t=(k:Int)) (hv:OwnG w0 E e (.slice p n c) l L) (hk:k≤l.length) :
    OpQ P w0 X N ⟨d,.slice T x none (some y) none,ty,ps,af,gd⟩ S M (.slice p (l.take k).length c):=by
  subst ht
  have hl:(l.take k).length=k:=by rw [List.length_take,Nat.min_eq_left hk]
  rw [hl]
  have hn:n=l.length∧l.length≤c:=by
    rcases hv with ⟨h,rfl,rfl⟩ | ⟨g,cap,cur,h,rfl,hg,hc,hm,hn,ht⟩
    · cases h;exact ⟨rfl,Nat.le_refl _⟩
    · cases h;exact ⟨rfl,hc⟩
  refine kT (w0:=w0) (X:=X) (M:=M) (fun w hw=>?_);obtain ⟨e',q,hu,hi',hs⟩:=nK hT;have hb:=yL (P:=P) (N:=N) (S:=S) (w:=w) (isSl:=true) (len:=n) (cap:=c) (lo:=none) (hi:=some y) (l:=0) (h:=(k:Int)) rfl (by simp [vT,hy]) oo_ oo_ oo_;simp only [Option.map_none,Option.map_some] at hb;simp only [execOp,Instr.sliceAt,Instr.slice,Sem.run_bind,run_underlying hu,bC hx,Result.andThen_ok];simp only [Option.map_none,Option.map_some,hb,Result.andThen_ok,sizeOf,typeInfo,Sem.run_bind,run_program,hi',hs,Sem.run_pure]
  cases p <;> simp [Addr.add]
theorem OwnG.len {E:TypeId} {p:Option Addr} {n c:Nat} {L:List Blk} (h:OwnG w0 E e (.slice p n c) l L):n=l.length:=by
  rcases h with ⟨h,rfl,rfl⟩ | ⟨g,cap,cur,h,_⟩
  · cases h;rfl
  · cases h;rfl
theorem O7 (x0:α) (h0:0<e.n) (c:Nat):madeCells (e.cs x0).toArray (c * e.n)=(rows e (List.replicate c x0)).toArray:=by
  apply Array.ext
  · rw [size_madeCells,List.size_toArray,jM,List.length_replicate]
  intro i h1 h2;have hlen:(e.cs x0).length=e.n:=El.cs_len x0;rw [size_madeCells] at h1;have hq:i / e.n<c:=Nat.div_lt_of_lt_mul (by rw [Nat.mul_comm];exact h1);have hr:i % e.n<e.n:=Nat.mod_lt _ h0
  have hk:(List.replicate c x0)[i / e.n]? = some x0:=by rw [List.getElem?_replicate,if_pos hq]
  have hg:=JR (e:=e) hk
  have h3:(rows e (List.replicate c x0))[i]? = some ((e.cs x0)[i % e.n]'oo_):=by
    have h4:(((rows e (List.replicate c x0)).drop (i / e.n * e.n)).take e.n)[i % e.n]? = some ((e.cs x0)[i % e.n]'oo_):=by rw [hg];exact List.getElem?_eq_getElem _
    rw [List.getElem?_take_of_lt hr,List.getElem?_drop,Nat.div_add_mod' i e.n] at h4;exact h4
  have h5:(rows e (List.replicate c x0)).toArray[i]? = some ((e.cs x0)[i % e.n]'oo_):=by simpa using h3
  rw [Array.getElem?_eq_getElem h2] at h5;rw [Option.some.inj h5];simp only [madeCells,Array.getElem_map,Array.getElem_range,List.size_toArray,hlen];rw [getElem!_pos (e.cs x0).toArray (i % e.n) (by rw [List.size_toArray,hlen];exact hr)]
  simp
theorem N0 {T E:TypeId} {x y:Operand} {n c:Nat} {i j:IntKind} {s t:Int} {K:Value→List Blk→Prop} (bytes:Nat) (x0:α) (hT:P.underlying T=some (.slice E)) (hE:PW P E e.n bytes=true) (h0:0<e.n) (hz:jH P E=some (e.cs x0)) (hx:evO N S x=some (.int i s)) (hy:evO N S y=some (.int j t))
    (hs:s=(n:Int)) (ht:t=(c:Int)) (hnc:n≤c) (hcm:c≤200000) (hen:e.n≤80) (hby:bytes≤1000) (k:∀ p L,OwnG w0 E e (.slice p (List.replicate n x0).length c) (List.replicate n x0) L→K (.slice p (List.replicate n x0).length c) (L ++ M)) :
    OpR P w0 X N ⟨d,.makeSlice T x y,ty,ps,af,gd⟩ S M K:=by
  subst hs ht;intro w hw;obtain ⟨inf,z,hi,hz',hc⟩:=tA hz;unfold PW at hE;simp only [hi,hz',Bool.and_eq_true,beq_iff_eq] at hE;obtain ⟨⟨h1,hb⟩,hzc⟩:=hE;have b1:c * e.n≤200000 * 80:=Nat.mul_le_mul hcm hen;have b2:bytes * c≤1000 * 200000:=Nat.mul_le_mul hby hcm;have hr:=run_makeSlice (P:=P) w T E inf z hT hi hz' i j n c oo_ oo_ (by rw [h1,Int.toNat_natCast];omega) (by rw [hb];omega) oo_;rw [h1,hc,Int.toNat_natCast,Int.toNat_natCast,O7 x0 h0] at hr;unfold opw
  have hex:(execOp (ev N S) ⟨d,.makeSlice T x y,ty,ps,af,gd⟩).run P w = .ok (.value (.slice (some ⟨w.heap.size,0,none⟩) n c)) (w.alloc (.cells (rows e (List.replicate c x0)).toArray E)):=by
    simp [execOp,bC hx,bC hy,hr]
  rw [jC,hex];have hl:(List.replicate n x0).length=n:=List.length_replicate
  have hk:=k (some ⟨w.heap.size,0,none⟩) [⟨w.heap.size,E,rows e (List.replicate c x0)⟩] (.inr ⟨w.heap.size,c,_,rfl,rfl,hw.size,by rw [hl];exact hnc,by unfold maxLen;omega,by rw [jM,List.length_replicate],by
    rw [hl,AQ,List.take_replicate,Nat.min_eq_left hnc]⟩)
  rw [hl] at hk;exact ⟨.alloc _ _,_,hw.alloc E _,hk⟩
theorem YG {c:Code} {Q:kX} {M2:List Blk} (p:M.Perm M2) (h:W P w0 X N c Q S M2):W P w0 X N c Q S M:=fun B D w hB hd hr hw=>h B D w hB hd hr (hw.perm p)
def Slo (B:Nat) (w:World) (E:TypeId) (e:El α) (v:Value) (l:List α):Prop :=
  (v = .slice none 0 0∧l=[]) ∨ ∃ g cap,∃ cur:List Value,v = .slice (some ⟨g,0,none⟩) l.length cap∧B≤g∧w.heap[g]? = some (.cells cur.toArray E (0,0))∧l.length≤cap∧cap≤maxLen∧cur.length=cap * e.n∧cur.take (l.length * e.n)=rows e l
theorem OwnG.slo {E:TypeId} {L:List Blk} {w:World} (h:OwnG w0 E e v l L) (hs:L.Sublist M) (hw:Sat w0 X M w):Slo w0.heap.size w E e v l:=by
  rcases h with ⟨rfl,rfl,rfl⟩ | ⟨g,cap,cur,rfl,rfl,hg,hc,hm,hn,ht⟩
  · exact .inl ⟨rfl,rfl⟩
  exact .inr ⟨g,cap,cur,rfl,hg,hw.mem _ (hs.mem List.mem_cons_self),hc,hm,hn,ht⟩
theorem Slo.now {w w':World} {E:TypeId} (h:Slo w.heap.size w' E e v l) (hw:Sat w0 X M w) (he:Ext w w'):∃ p c L,v = .slice p l.length c∧Sat w0 X (L ++ M) w'∧OwnG w0 E e (.slice p l.length c) l L:=by
  have hw':=Sat.mono _ _ _ _ _ hw he;rcases h with ⟨rfl,rfl⟩ | ⟨g,cap,cur,rfl,hB,hh,hc,hm,hn,ht⟩
  · exact ⟨none,0,[],rfl,hw',.inl ⟨rfl,rfl,rfl⟩⟩
  have hb:g ∉ M.map Blk.b:=fun hm=>by
    obtain ⟨x,hx,rfl⟩:=List.mem_map.1 hm;have:=cQ? (hw.mem x hx);omega
  refine ⟨_,cap,[⟨g,E,cur⟩],rfl,⟨hw'.os,hw'.tape,hw'.output,hw'.size,hw'.old,by simpa using And.intro (by simpa using hb) hw'.nodup,fun y hy=>?_⟩,.inr ⟨g,cap,cur,rfl,rfl,Nat.le_trans hw.size hB,hc,hm,hn,ht⟩⟩;rcases List.mem_cons.1 hy with rfl | hy
  · exact hh
  exact hw'.mem y hy
def cU_ (w0:World) (M:List Blk) (E:TypeId) (e:El α) (v:Value) (l:List α):Prop:=∃ L,L.Sublist M∧OwnG w0 E e v l L
theorem fD {n:Nat} {E:TypeId} {f:FuncId} {fn:Func} {c:Code} {args:List Value} {w:World} (R:Value→Value) (hf:P.funcs[f]? = some fn) (hb:fn.body=some c) (hn:fn.ntmps=n) (hl:args.length≤n)
    (h:W P w [] (pl n) c (mL P fn w [] (pl n) fun r M=>∃ v,r=R v∧cU_ w M E e v l) (bA 0 args) []):Calls P f args.toArray w fun f w'=>∃ v,f = .returned (R v)∧Ext w w'∧Slo w.heap.size w' E e v l :=
  (lN hf hb hn hl (Sat.start w []) h).mono fun f w' ⟨r,M',he,hs,_,v,hr,L,hL,hu⟩=>⟨v,by rw [he,hr],hs.ext,hu.slo hL hs⟩
theorem bK {E:TypeId} {g:FuncId} {xs:List Operand} {tys:Array TypeId} {args:List Value} {K:Value→List Blk→Prop} (R:Value→Value) (he:aJ P g=true) (ha:evL N S xs=some args)
    (h:∀ w,Sat w0 X M w→Calls P g args.toArray w fun f w'=>∃ v,f = .returned (R v)∧Ext w w'∧Slo w.heap.size w' E e v l) (k:∀ p c L,OwnG w0 E e (.slice p l.length c) l L→K (R (.slice p l.length c)) (L ++ M)):OpR P w0 X N ⟨d,.call { callee:=.value (.func g),args:=xs.toArray,argTypes:=tys },ty,ps,af,gd⟩ S M K :=
  y3 he ha fun w hw=>(h w hw).mono fun _ w' ⟨v,h1,h2,h3⟩=>by
    obtain ⟨p,c,L,rfl,hs,hv⟩:=h3.now hw h2;exact ⟨_,L ++ M,h1,hs,Ext.keeps h2,k p c L hv⟩
theorem OwnG.max {E:TypeId} {L:List Blk} (h:OwnG w0 E e v l L):l.length≤9223372036854775807:=(h.slfe (List.Sublist.refl L)).max
end
end Go.Kn

namespace Go.Num
open Go Go.Kn
structure Sgd where
  s:W
  ok:Bool
structure Lst8 where
  l:List I
  is:Bool
abbrev gdI (x:I):Bool:=!x.1.bad&&x.1.valid
end Go.Num

namespace Go.Proofs.YtbjlhfochebmiaaGreatDoor
open Go.Kn Go.Num
theorem mix:Tryz.prog.follows .mixedOrders=true:=by kernel_rfl
instance:FAr Tryz.prog 23 (3,1):=⟨by kernel_rfl⟩
instance:FAr Tryz.prog 24 (4,1):=⟨by kernel_rfl⟩
instance:FAr Tryz.prog 25 (4,1):=⟨by kernel_rfl⟩
instance:FAr Tryz.prog 31 (16,1):=⟨by kernel_rfl⟩
instance:FAr Tryz.prog 42 (3,36):=⟨by kernel_rfl⟩
instance:FAr Tryz.prog 56 (3,1):=⟨by kernel_rfl⟩
instance:FAr Tryz.prog 62 (4,1):=⟨by kernel_rfl⟩
instance:FAr Tryz.prog 107 (9,1):=⟨by kernel_rfl⟩
instance:FAr Tryz.prog 124 (2,18):=⟨by kernel_rfl⟩
instance:FAr Tryz.prog 157 (9,1):=⟨by kernel_rfl⟩
instance:FAr Tryz.prog 179 (32,1):=⟨by kernel_rfl⟩
instance:FAr Tryz.prog 198 (17,1):=⟨by kernel_rfl⟩
instance:FAr Tryz.prog 217 (3,18):=⟨by kernel_rfl⟩
theorem AB:EC Tryz.prog 4=true:=by kernel_rfl
theorem oF:Tryz.prog.eqGuardType Tryz.prog.depth 23=false:=by kernel_rfl
theorem W2:Tryz.prog.eqGuardType Tryz.prog.depth 25=false:=by kernel_rfl
theorem bn_:Tryz.prog.eqGuardType Tryz.prog.depth 27=false:=by kernel_rfl
theorem CR:Tryz.prog.eqGuardType Tryz.prog.depth 31=false:=by kernel_rfl
theorem Q2:Tryz.prog.eqGuardType Tryz.prog.depth 33=false:=by kernel_rfl
theorem mI:Tryz.prog.eqGuardType Tryz.prog.depth 42=false:=by kernel_rfl
instance:FEl Tryz.prog 23 (3,1,false):=⟨by kernel_rfl⟩
instance:FEl Tryz.prog 24 (4,1,false):=⟨by kernel_rfl⟩
instance:FEl Tryz.prog 25 (4,1,false):=⟨by kernel_rfl⟩
theorem c4_:aJ Tryz.prog 7=true:=by kernel_rfl
theorem c5_:aJ Tryz.prog 8=true:=by kernel_rfl
theorem c6_:aJ Tryz.prog 9=true:=by kernel_rfl
theorem W3:aJ Tryz.prog 10=true:=by kernel_rfl
theorem FH:aJ Tryz.prog 11=true:=by kernel_rfl
theorem bo_:aJ Tryz.prog 12=true:=by kernel_rfl
theorem bp_:aJ Tryz.prog 13=true:=by kernel_rfl
theorem gC:aJ Tryz.prog 14=true:=by kernel_rfl
theorem uB:aJ Tryz.prog 15=true:=by kernel_rfl
theorem RC:aJ Tryz.prog 16=true:=by kernel_rfl
theorem W4:aJ Tryz.prog 18=true:=by kernel_rfl
theorem RI:aJ Tryz.prog 20=true:=by kernel_rfl
theorem A0:aJ Tryz.prog 22=true:=by kernel_rfl
theorem CV:aJ Tryz.prog 25=true:=by kernel_rfl
theorem bq_:aJ Tryz.prog 28=true:=by kernel_rfl
theorem br_:aJ Tryz.prog 33=true:=by kernel_rfl
theorem bs_:aJ Tryz.prog 34=true:=by kernel_rfl
theorem W5:aJ Tryz.prog 42=true:=by kernel_rfl
theorem NA:aJ Tryz.prog 44=true:=by kernel_rfl
theorem bt_:aJ Tryz.prog 45=true:=by kernel_rfl
theorem bu_:aJ Tryz.prog 46=true:=by kernel_rfl
theorem bv_:aJ Tryz.prog 47=true:=by kernel_rfl
theorem bw_:aJ Tryz.prog 48=true:=by kernel_rfl
theorem mJ:aJ Tryz.prog 49=true:=by kernel_rfl
theorem FI:aJ Tryz.prog 50=true:=by kernel_rfl
theorem W6:aJ Tryz.prog 51=true:=by kernel_rfl
theorem NB:aJ Tryz.prog 52=true:=by kernel_rfl
theorem NC:aJ Tryz.prog 53=true:=by kernel_rfl
theorem RM:aJ Tryz.prog 54=true:=by kernel_rfl
theorem FJ:aJ Tryz.prog 55=true:=by kernel_rfl
theorem ND:aJ Tryz.prog 56=true:=by kernel_rfl
theorem bx_:aJ Tryz.prog 57=true:=by kernel_rfl
theorem by_:aJ Tryz.prog 58=true:=by kernel_rfl
theorem kW:aJ Tryz.prog 59=true:=by kernel_rfl
theorem bz_:aJ Tryz.prog 60=true:=by kernel_rfl
theorem bA_:aJ Tryz.prog 61=true:=by kernel_rfl
theorem vR:aJ Tryz.prog 63=true:=by kernel_rfl
theorem RN:aJ Tryz.prog 64=true:=by kernel_rfl
theorem bB_:aJ Tryz.prog 65=true:=by kernel_rfl
theorem zG:aJ Tryz.prog 66=true:=by kernel_rfl
theorem zH:aJ Tryz.prog 67=true:=by kernel_rfl
theorem wR:aJ Tryz.prog 68=true:=by kernel_rfl
theorem rX:aJ Tryz.prog 69=true:=by kernel_rfl
theorem CW:aJ Tryz.prog 75=true:=by kernel_rfl
theorem W7:aJ Tryz.prog 76=true:=by kernel_rfl
theorem bC_:aJ Tryz.prog 78=true:=by kernel_rfl
theorem RO:aJ Tryz.prog 84=true:=by kernel_rfl
theorem bD_:aJ Tryz.prog 85=true:=by kernel_rfl
theorem bE_:aJ Tryz.prog 88=true:=by kernel_rfl
theorem bF_:aJ Tryz.prog 89=true:=by kernel_rfl
theorem bG_:aJ Tryz.prog 92=true:=by kernel_rfl
theorem CX:aJ Tryz.prog 99=true:=by kernel_rfl
theorem YX:aJ Tryz.prog 100=true:=by kernel_rfl
theorem yN:aJ Tryz.prog 101=true:=by kernel_rfl
theorem u4:aJ Tryz.prog 103=true:=by kernel_rfl
theorem YY:aJ Tryz.prog 104=true:=by kernel_rfl
theorem kS:aJ Tryz.prog 105=true:=by kernel_rfl
theorem u5:aJ Tryz.prog 106=true:=by kernel_rfl
theorem Q3:aJ Tryz.prog 107=true:=by kernel_rfl
theorem LC:aJ Tryz.prog 108=true:=by kernel_rfl
theorem Q4:aJ Tryz.prog 109=true:=by kernel_rfl
theorem Q5:aJ Tryz.prog 110=true:=by kernel_rfl
theorem AF:aJ Tryz.prog 111=true:=by kernel_rfl
theorem Q6:aJ Tryz.prog 112=true:=by kernel_rfl
theorem YZ:aJ Tryz.prog 113=true:=by kernel_rfl
theorem lP:aJ Tryz.prog 114=true:=by kernel_rfl
theorem Y0:aJ Tryz.prog 115=true:=by kernel_rfl
theorem wQ:aJ Tryz.prog 116=true:=by kernel_rfl
theorem Y1:aJ Tryz.prog 117=true:=by kernel_rfl
theorem Y2:aJ Tryz.prog 118=true:=by kernel_rfl
theorem u6:aJ Tryz.prog 119=true:=by kernel_rfl
theorem Y3:aJ Tryz.prog 120=true:=by kernel_rfl
theorem CS:aJ Tryz.prog 121=true:=by kernel_rfl
theorem yO:aJ Tryz.prog 122=true:=by kernel_rfl
theorem n6:aJ Tryz.prog 123=true:=by kernel_rfl
theorem LD:aJ Tryz.prog 124=true:=by kernel_rfl
theorem LE:aJ Tryz.prog 125=true:=by kernel_rfl
theorem l9:aJ Tryz.prog 126=true:=by kernel_rfl
theorem GR:aJ Tryz.prog 129=true:=by kernel_rfl
theorem yP:aJ Tryz.prog 130=true:=by kernel_rfl
theorem LF:aJ Tryz.prog 131=true:=by kernel_rfl
theorem Y4:aJ Tryz.prog 132=true:=by kernel_rfl
theorem Q7:aJ Tryz.prog 133=true:=by kernel_rfl
theorem CT:aJ Tryz.prog 134=true:=by kernel_rfl
theorem Q8:aJ Tryz.prog 135=true:=by kernel_rfl
theorem Y5:aJ Tryz.prog 136=true:=by kernel_rfl
theorem Q9:aJ Tryz.prog 137=true:=by kernel_rfl
theorem Y6:aJ Tryz.prog 138=true:=by kernel_rfl
theorem Y7:aJ Tryz.prog 139=true:=by kernel_rfl
theorem RA:aJ Tryz.prog 144=true:=by kernel_rfl
theorem Y8:aJ Tryz.prog 148=true:=by kernel_rfl
theorem tD:aJ Tryz.prog 149=true:=by kernel_rfl
theorem RB:aJ Tryz.prog 150=true:=by kernel_rfl
theorem pO:aJ Tryz.prog 151=true:=by kernel_rfl
theorem Y9:aJ Tryz.prog 156=true:=by kernel_rfl
theorem nR:aJ Tryz.prog 158=true:=by kernel_rfl
theorem LG:aJ Tryz.prog 159=true:=by kernel_rfl
theorem lQ:aJ Tryz.prog 160=true:=by kernel_rfl
theorem RD:aJ Tryz.prog 161=true:=by kernel_rfl
theorem qR:aJ Tryz.prog 162=true:=by kernel_rfl
theorem CU:aJ Tryz.prog 164=true:=by kernel_rfl
theorem ZA:aJ Tryz.prog 165=true:=by kernel_rfl
theorem ZB:aJ Tryz.prog 166=true:=by kernel_rfl
theorem ZC:aJ Tryz.prog 169=true:=by kernel_rfl
theorem GS:aJ Tryz.prog 170=true:=by kernel_rfl
theorem AG:aJ Tryz.prog 171=true:=by kernel_rfl
theorem ZD:aJ Tryz.prog 172=true:=by kernel_rfl
theorem ZE:aJ Tryz.prog 173=true:=by kernel_rfl
theorem ZF:aJ Tryz.prog 174=true:=by kernel_rfl
theorem RE:aJ Tryz.prog 175=true:=by kernel_rfl
theorem AH:aJ Tryz.prog 176=true:=by kernel_rfl
theorem ZG:aJ Tryz.prog 177=true:=by kernel_rfl
theorem GT:aJ Tryz.prog 178=true:=by kernel_rfl
theorem RF:aJ Tryz.prog 179=true:=by kernel_rfl
theorem LH:aJ Tryz.prog 180=true:=by kernel_rfl
theorem yQ:aJ Tryz.prog 181=true:=by kernel_rfl
theorem u7:aJ Tryz.prog 182=true:=by kernel_rfl
theorem ZH:aJ Tryz.prog 183=true:=by kernel_rfl
theorem ZI:aJ Tryz.prog 184=true:=by kernel_rfl
theorem ZJ:aJ Tryz.prog 185=true:=by kernel_rfl
theorem ZK:aJ Tryz.prog 186=true:=by kernel_rfl
theorem ZL:aJ Tryz.prog 187=true:=by kernel_rfl
theorem yR:aJ Tryz.prog 188=true:=by kernel_rfl
theorem LJ:aJ Tryz.prog 189=true:=by kernel_rfl
theorem RG:aJ Tryz.prog 190=true:=by kernel_rfl
theorem ZM:aJ Tryz.prog 191=true:=by kernel_rfl
theorem LK:aJ Tryz.prog 192=true:=by kernel_rfl
theorem GU:aJ Tryz.prog 195=true:=by kernel_rfl
theorem ZN:aJ Tryz.prog 196=true:=by kernel_rfl
theorem RH:aJ Tryz.prog 197=true:=by kernel_rfl
theorem ZO:aJ Tryz.prog 198=true:=by kernel_rfl
theorem ZP:aJ Tryz.prog 199=true:=by kernel_rfl
theorem RJ:aJ Tryz.prog 203=true:=by kernel_rfl
theorem ZQ:aJ Tryz.prog 204=true:=by kernel_rfl
theorem GV:aJ Tryz.prog 205=true:=by kernel_rfl
theorem RK:aJ Tryz.prog 206=true:=by kernel_rfl
theorem ZR:aJ Tryz.prog 207=true:=by kernel_rfl
theorem GW:aJ Tryz.prog 208=true:=by kernel_rfl
theorem GX:aJ Tryz.prog 209=true:=by kernel_rfl
theorem GY:aJ Tryz.prog 210=true:=by kernel_rfl
theorem ZS:aJ Tryz.prog 211=true:=by kernel_rfl
theorem ZT:aJ Tryz.prog 212=true:=by kernel_rfl
theorem ZU:aJ Tryz.prog 213=true:=by kernel_rfl
theorem ZV:aJ Tryz.prog 214=true:=by kernel_rfl
theorem ZW:aJ Tryz.prog 215=true:=by kernel_rfl
theorem ZX:aJ Tryz.prog 216=true:=by kernel_rfl
theorem ZY:aJ Tryz.prog 217=true:=by kernel_rfl
theorem ZZ:aJ Tryz.prog 218=true:=by kernel_rfl
theorem Z0:aJ Tryz.prog 219=true:=by kernel_rfl
theorem Z1:aJ Tryz.prog 228=true:=by kernel_rfl
theorem RL:aJ Tryz.prog 231=true:=by kernel_rfl
theorem Z2:aJ Tryz.prog 232=true:=by kernel_rfl
instance:FFd Tryz.prog 27 0 (0,3):=⟨by kernel_rfl⟩
instance:FFd Tryz.prog 27 1 (3,4):=⟨by kernel_rfl⟩
instance:FFd Tryz.prog 29 0 (0,7):=⟨by kernel_rfl⟩
instance:FFd Tryz.prog 29 1 (7,7):=⟨by kernel_rfl⟩
instance:FFd Tryz.prog 33 0 (0,1):=⟨by kernel_rfl⟩
instance:FFd Tryz.prog 33 1 (1,1):=⟨by kernel_rfl⟩
instance:FFd Tryz.prog 33 2 (2,16):=⟨by kernel_rfl⟩
instance:FFd Tryz.prog 35 0 (0,18):=⟨by kernel_rfl⟩
instance:FFd Tryz.prog 35 1 (18,18):=⟨by kernel_rfl⟩
instance:FFd Tryz.prog 52 0 (0,1):=⟨by kernel_rfl⟩
instance:FFd Tryz.prog 60 0 (0,3):=⟨by kernel_rfl⟩
instance:FFd Tryz.prog 60 1 (3,1):=⟨by kernel_rfl⟩
instance:FFd Tryz.prog 215 0 (0,3):=⟨by kernel_rfl⟩
theorem AK:BI Tryz.prog 3=some .i64:=by kernel_rfl
theorem I2:BI Tryz.prog 5=some .u8:=by kernel_rfl
theorem d9:BI Tryz.prog 30=some .u32:=by kernel_rfl
theorem dJ:BI Tryz.prog 132=some .u64:=by kernel_rfl
theorem C9:iV Tryz.prog 8 31=some (true,(List.replicate 16 (some IntKind.u32))):=by kernel_rfl
theorem oG:iV Tryz.prog 8 23=some (true,([some .i64] ++ ([some .i64] ++ [some .i64]))):=by kernel_rfl
theorem XC:iV Tryz.prog 8 25=some (true,([some .i64] ++ ([some .i64] ++ ([some .i64] ++ [some .i64])))):=by kernel_rfl
theorem bP_:iV Tryz.prog 8 27=some (true,([some .i64] ++ ([some .i64] ++ ([some .i64] ++ ([some .i64] ++ ([some .i64] ++ ([some .i64] ++ [some .i64]))))))):=by kernel_rfl
theorem SC:iV Tryz.prog 8 33=some (true,LI):=by kernel_rfl
theorem mK:iV Tryz.prog 8 42=some (true,(LI ++ (LI ++ (LI ++ (LI ++ (LI ++ LI)))))):=by kernel_rfl
theorem MA:KF Tryz.prog 3=true:=by kernel_rfl
instance:FPl Tryz.prog 27 [(0,3),(3,4)]:=⟨by kernel_rfl⟩
instance:FPl Tryz.prog 29 [(0,7),(7,7)]:=⟨by kernel_rfl⟩
instance:FPl Tryz.prog 33 [(0,1),(1,1),(2,16)]:=⟨by kernel_rfl⟩
instance:FPl Tryz.prog 35 [(0,18),(18,18)]:=⟨by kernel_rfl⟩
instance:FPl Tryz.prog 52 [(0,1)]:=⟨by kernel_rfl⟩
instance:FPl Tryz.prog 60 [(0,3),(3,1)]:=⟨by kernel_rfl⟩
instance:FPl Tryz.prog 215 [(0,3),(3,1)]:=⟨by kernel_rfl⟩
theorem XN:jV Tryz.prog 50=some 3:=by kernel_rfl
theorem pM:jV Tryz.prog 54=some 18:=by kernel_rfl
theorem jN:jV Tryz.prog 55=some 18:=by kernel_rfl
theorem fL:jV Tryz.prog 95=some 1:=by kernel_rfl
theorem lD:jV Tryz.prog 141=some 1:=by kernel_rfl
theorem HU:jV Tryz.prog 180=some 1:=by kernel_rfl
theorem TO:jV Tryz.prog 194=some 36:=by kernel_rfl
theorem WI:Tryz.prog.underlying 9=some .string:=by kernel_rfl
theorem lE:(Tryz.prog.info? 3).map (·.size)=some 1:=by kernel_rfl
theorem cm_:(Tryz.prog.info? 23).map (·.size)=some 3:=by kernel_rfl
theorem mM:(Tryz.prog.info? 33).map (·.size)=some 18:=by kernel_rfl
theorem cn_:(Tryz.prog.info? 35).map (·.size)=some 36:=by kernel_rfl
theorem z4:(Tryz.prog.info? 55).map (·.size)=some 1:=by kernel_rfl
theorem dn_:gB Tryz.prog 3=some (false,1):=by kernel_rfl
instance:FTy Tryz.prog 3 (false,1):=⟨dn_⟩
theorem do_:gB Tryz.prog 4=some (false,1):=by kernel_rfl
instance:FTy Tryz.prog 4 (false,1):=⟨do_⟩
theorem co_:gB Tryz.prog 23=some (true,3):=by kernel_rfl
instance:FTy Tryz.prog 23 (true,3):=⟨co_⟩
theorem cp_:gB Tryz.prog 24=some (true,4):=by kernel_rfl
instance:FTy Tryz.prog 24 (true,4):=⟨cp_⟩
theorem cq_:gB Tryz.prog 25=some (true,4):=by kernel_rfl
instance:FTy Tryz.prog 25 (true,4):=⟨cq_⟩
theorem cr_:gB Tryz.prog 27=some (true,7):=by kernel_rfl
instance:FTy Tryz.prog 27 (true,7):=⟨cr_⟩
theorem cs_:gB Tryz.prog 29=some (true,14):=by kernel_rfl
instance:FTy Tryz.prog 29 (true,14):=⟨cs_⟩
theorem ct_:gB Tryz.prog 30=some (false,1):=by kernel_rfl
instance:FTy Tryz.prog 30 (false,1):=⟨ct_⟩
theorem cu_:gB Tryz.prog 31=some (true,16):=by kernel_rfl
instance:FTy Tryz.prog 31 (true,16):=⟨cu_⟩
theorem cv_:gB Tryz.prog 33=some (true,18):=by kernel_rfl
instance:FTy Tryz.prog 33 (true,18):=⟨cv_⟩
theorem cw_:gB Tryz.prog 35=some (true,36):=by kernel_rfl
instance:FTy Tryz.prog 35 (true,36):=⟨cw_⟩
theorem cx_:gB Tryz.prog 42=some (true,108):=by kernel_rfl
instance:FTy Tryz.prog 42 (true,108):=⟨cx_⟩
theorem cy_:gB Tryz.prog 50=some (false,1):=by kernel_rfl
instance:FTy Tryz.prog 50 (false,1):=⟨cy_⟩
theorem cz_:gB Tryz.prog 52=some (true,1):=by kernel_rfl
instance:FTy Tryz.prog 52 (true,1):=⟨cz_⟩
theorem cA_:gB Tryz.prog 54=some (false,1):=by kernel_rfl
instance:FTy Tryz.prog 54 (false,1):=⟨cA_⟩
theorem cC_:gB Tryz.prog 55=some (false,1):=by kernel_rfl
instance:FTy Tryz.prog 55 (false,1):=⟨cC_⟩
theorem cD_:gB Tryz.prog 56=some (true,3):=by kernel_rfl
instance:FTy Tryz.prog 56 (true,3):=⟨cD_⟩
theorem cE_:gB Tryz.prog 60=some (true,4):=by kernel_rfl
instance:FTy Tryz.prog 60 (true,4):=⟨cE_⟩
theorem cF_:gB Tryz.prog 62=some (true,4):=by kernel_rfl
instance:FTy Tryz.prog 62 (true,4):=⟨cF_⟩
theorem cG_:gB Tryz.prog 95=some (false,1):=by kernel_rfl
instance:FTy Tryz.prog 95 (false,1):=⟨cG_⟩
theorem aT_:gB Tryz.prog 107=some (true,9):=by kernel_rfl
instance:FTy Tryz.prog 107 (true,9):=⟨aT_⟩
theorem aU_:gB Tryz.prog 119=some (false,1):=by kernel_rfl
instance:FTy Tryz.prog 119 (false,1):=⟨aU_⟩
theorem aV_:gB Tryz.prog 124=some (true,36):=by kernel_rfl
instance:FTy Tryz.prog 124 (true,36):=⟨aV_⟩
theorem aW_:gB Tryz.prog 157=some (true,9):=by kernel_rfl
instance:FTy Tryz.prog 157 (true,9):=⟨aW_⟩
theorem aX_:gB Tryz.prog 215=some (true,4):=by kernel_rfl
instance:FTy Tryz.prog 215 (true,4):=⟨aX_⟩
theorem aY_:gB Tryz.prog 217=some (true,54):=by kernel_rfl
instance:FTy Tryz.prog 217 (true,54):=⟨aY_⟩
theorem cI_:Tryz.prog.underlying 50=some (.slice 23):=by kernel_rfl
theorem nX:Tryz.prog.underlying 54=some (.slice 33):=by kernel_rfl
theorem yF:Tryz.prog.underlying 55=some (.slice 33):=by kernel_rfl
theorem fW:Tryz.prog.underlying 95=some (.slice 3):=by kernel_rfl
theorem vO:Tryz.prog.underlying 141=some (.slice 55):=by kernel_rfl
theorem a0_:Tryz.prog.underlying 194=some (.slice 35):=by kernel_rfl
theorem z_3:jH Tryz.prog 3=some [.int .i64 0]:=by kernel_rfl
theorem dq_:jH Tryz.prog 23=some (List.replicate 3 (.int .i64 0)):=by kernel_rfl
theorem lH:jH Tryz.prog 31=some (uw (List.replicate 16 0)):=by kernel_rfl
theorem i2:jH Tryz.prog 33=some zR:=by kernel_rfl
theorem dr_:jH Tryz.prog 35=some (([.bool false] ++ [.bool false] ++ (List.replicate 16 (.int .u32 0))) ++ ([.bool false] ++ [.bool false] ++ (List.replicate 16 (.int .u32 0)))):=by kernel_rfl
theorem H2:jH Tryz.prog 55=some [.slice none 0 0]:=by kernel_rfl
theorem cN_:jH Tryz.prog 179=some (uw (List.replicate 32 0)):=by kernel_rfl
theorem cO_:jH Tryz.prog 198=some (uw (List.replicate 17 0)):=by kernel_rfl
instance:FZp Tryz.prog 23 [ci .i64 0,ci .i64 0,ci .i64 0]:=⟨by kernel_rfl⟩
instance:FZp Tryz.prog 25 [ci .i64 0,ci .i64 0,ci .i64 0,ci .i64 0]:=⟨by kernel_rfl⟩
instance:FZp Tryz.prog 27 [ci .i64 0,ci .i64 0,ci .i64 0,ci .i64 0,ci .i64 0,ci .i64 0,ci .i64 0]:=⟨by kernel_rfl⟩
instance:FZp Tryz.prog 29 [ci .i64 0,ci .i64 0,ci .i64 0,ci .i64 0,ci .i64 0,ci .i64 0,ci .i64 0,ci .i64 0,ci .i64 0,ci .i64 0,ci .i64 0,ci .i64 0,ci .i64 0,ci .i64 0]:=⟨by kernel_rfl⟩
instance:FZp Tryz.prog 33 [pI I0]:=⟨by kernel_rfl⟩
instance:FZp Tryz.prog 35 [pI I0,pI I0]:=⟨by kernel_rfl⟩
instance:FZp Tryz.prog 42 [pI I0,pI I0,pI I0,pI I0,pI I0,pI I0]:=⟨by kernel_rfl⟩
instance:FZp Tryz.prog 52 [csl none 0 0]:=⟨by kernel_rfl⟩
instance:FZp Tryz.prog 54 [csl none 0 0]:=⟨by kernel_rfl⟩
instance:FZp Tryz.prog 56 [csl none 0 0,csl none 0 0,csl none 0 0]:=⟨by kernel_rfl⟩
instance:FZp Tryz.prog 60 [csl none 0 0,csl none 0 0,csl none 0 0,csl none 0 0]:=⟨by kernel_rfl⟩
instance:FZp Tryz.prog 62 [csl none 0 0,csl none 0 0,csl none 0 0,csl none 0 0]:=⟨by kernel_rfl⟩
instance:FZp Tryz.prog 107 [csl none 0 0,csl none 0 0,csl none 0 0,csl none 0 0,csl none 0 0,csl none 0 0,csl none 0 0,csl none 0 0,csl none 0 0]:=⟨by kernel_rfl⟩
instance:FZp Tryz.prog 124 [pI I0,pI I0]:=⟨by kernel_rfl⟩
instance:FZp Tryz.prog 157 [ci .i64 0,ci .i64 0,ci .i64 0,ci .i64 0,ci .i64 0,ci .i64 0,ci .i64 0,ci .i64 0,ci .i64 0]:=⟨by kernel_rfl⟩
instance:FZp Tryz.prog 215 [ci .i64 0,ci .i64 0,ci .i64 0,ci .i64 0]:=⟨by kernel_rfl⟩
instance:FZp Tryz.prog 217 [pI I0,pI I0,pI I0]:=⟨by kernel_rfl⟩
open Go Go.Kn Go.Num
def vS0 (r:(A4 W)×Bool):Value:=.tuple #[AV [cw r.1.x.1,cw r.1.y.1,cw r.1.z.1,cw r.1.t.1],.bool r.2]
def vS1 (r:Bool):Value:=.bool r
def vS2 (r:I):Value:=AV [pI r]
def vS3 (r:I×I):Value:=.tuple #[AV [pI r.1],AV [pI r.2]]
def vS4 (r:Rt):Value:=AV [pI r.n,pI r.d]
def vS5 (r:W):Value:=.int .i64 r.1
end Go.Proofs.YtbjlhfochebmiaaGreatDoor
namespace Go.Num
open Go Go.Kn
def jK (a:I):I :=
  bif a.1.good then ((E (Z.of (sgn (!a.1.neg) (val a.1.w))))) else ((E Z.bad))
def jJ (a:I):I :=
  bif a.1.good then ((E (Z.of (sgn false (val a.1.w))))) else ((E Z.bad))
def hJ (a:I):W :=
  bif (!a.1.good||((((dl (val a.1.w)).length:Nat):Int)==0)) then ((wl 0)) else (bif a.1.neg then ((wl (-1))) else ((wl 1)))
def cZ (a:I) (b:I):W :=
  bif (!a.1.good&&(!b.1.good)) then ((wl 0)) else (bif a.1.good then (bif b.1.good then (bif (a.1.neg != b.1.neg) then (bif a.1.neg then ((wl (-1))) else ((wl 1))) else (bif a.1.neg then (bif decide ((val b.1.w)<(val a.1.w)) then ((wl (-1))) else (bif decide ((val a.1.w)<(val b.1.w)) then ((wl 1)) else ((wl 0)))) else (bif decide ((val a.1.w)<(val b.1.w)) then ((wl (-1))) else (bif decide ((val b.1.w)<(val a.1.w)) then ((wl 1)) else ((wl 0)))))) else ((wl 1))) else ((wl (-1))))
def gK (a:I) (b:I):I :=
  bif ((iC a.1)&&((iC b.1)&&((eG b).1 != 0))) then ((E (Z.of (W.fdiv (eG a) (eG b)).1))) else (bif (!a.1.good||(!b.1.good||((((dl (val b.1.w)).length:Nat):Int)==0))) then ((E Z.bad)) else (bif ((a.1.neg != b.1.neg)&&decide (0<(((dl ((val a.1.w) % (val b.1.w))).length:Nat):Int))) then ((E (Z.of (sgn (a.1.neg != b.1.neg) (((val a.1.w) / (val b.1.w))+1))))) else ((E (Z.of (sgn (a.1.neg != b.1.neg) ((val a.1.w) / (val b.1.w))))))))
end Go.Num

