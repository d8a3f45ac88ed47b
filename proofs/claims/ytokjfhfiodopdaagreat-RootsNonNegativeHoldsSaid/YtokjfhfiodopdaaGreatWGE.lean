/- Lemmas: what they ask stands in their statements. -/
import Derived.Test.YtokjfhfiodopdaaGreatWR
import Derived.ArgAppend
import Derived.Test.YtokjfhfiodopdaaGreatWGD
import Derived.Test.YtokjfhfiodopdaaGreatProg
set_option linter.unusedSimpArgs false
set_option linter.unusedVariables false
namespace Go.Kn
open Go
def Frq (M L R:List Blk):Prop:=M.Perm (L ++ R)
theorem gH {x:Blk} {R:List Blk}:Frq (x :: R) [x] R:=List.Perm.refl _
theorem o8 {L R:List Blk}:Frq (L ++ R) L R:=List.Perm.refl _
theorem bX {x:Blk} {R L R':List Blk} (h:Frq R L R'):Frq (x :: R) L (x :: R'):=(List.Perm.cons x h).trans List.perm_middle.symm
theorem uK {L2 R L R':List Blk} (h:Frq R L R'):Frq (L2 ++ R) L (L2 ++ R'):=by
  have h1:(L2 ++ R).Perm (L2 ++ (L ++ R')):=List.Perm.append_left L2 h
  have h2:(L2 ++ (L ++ R')).Perm (L ++ (L2 ++ R')):=by
    rw [← List.append_assoc,← List.append_assoc];exact List.Perm.append_right R' List.perm_append_comm
  exact h1.trans h2
theorem Sat.perm {w0 w:World} {X:List Nat} {M M':List Blk} (h:Sat w0 X M w) (p:M.Perm M'):Sat w0 X M' w :=
  ⟨h.os,h.tape,h.output,h.size,h.old,(p.map Blk.b).nodup_iff.1 h.nodup,fun x hx=>h.mem x (p.mem_iff.2 hx)⟩
theorem OwnG.lit {α:Type} {e:El α} {w0:World} {l:List α} {E:TypeId} {b n:Nat} {qs:List Part} (hb:w0.heap.size≤b) (hn:l.length=n) (hm:n≤maxLen) (hq:qs=l.flatMap e.ps):OwnG w0 E e (.slice (some ⟨b,0,none⟩) n n) l [⟨b,E,bB qs⟩] :=
  OwnG.of_mine hb hn hm (by rw [hq];exact B8 l)
theorem U5 {α:Type} {e:El α} {P:Program} {w0:World} {X:List Nat} {N:Nm} {S:Fr} {M:List Blk} {d:Option Tmp} {ty:TypeId} {ps:String} {af:Array Edge} {gd:Option (Nat×Bool)} {v:Value} {l:List α}
    {T E:TypeId} {x y:Operand} {u:Value} {m:List α} {L M1:List Blk} {K:Value→List Blk→Prop} (bytes:Nat) (hT:P.underlying T=some (.slice E)) (hE:RD P E e.n bytes=true) (h0:0<e.n) (hx:evO N S x=some v) (hy:evO N S y=some u)
    (hv:OwnG w0 E e v l L) (hu:SLe w0 X M e u m) (hs:Frq M L M1) (hn:(l.length+m.length) * bytes≤140737488355328) (h8:0<bytes) (k:∀ v' L',OwnG w0 E e v' (l ++ m) L'→K v' (L' ++ M1)) :
    OpR P w0 X N ⟨d,.call { callee:=.builtin .append,args:=#[x,y],argTypes:=#[T,T] },ty,ps,af,gd⟩ S M K:=fun w hw =>
  U4 (M:=L ++ M1) hT hE h0 hx hy hv (fun w hw=>hu w (hw.perm (List.Perm.symm hs))) (List.Sublist.refl _) hn h8 k w (hw.perm hs)
section
variable {α:Type} {e:El α} {P:Program} {w0:World} {X:List Nat} {N:Nm} {S:Fr} {M M':List Blk} {d:Option Tmp} {ty:TypeId} {ps:String} {af:Array Edge} {gd:Option (Nat×Bool)} {v:Value} {l:List α}
theorem OpR.perm {o:Oper} {K:Value→List Blk→Prop} (p:M.Perm M') (h:OpR P w0 X N o S M' K):OpR P w0 X N o S M K:=fun w hw=>h w (hw.perm p)
theorem OwnG.form {E:TypeId} {L:List Blk} (h:OwnG w0 E e v l L):∃ p c,v = .slice p l.length c:=by
  rcases h with ⟨rfl,rfl,rfl⟩ | ⟨g,cap,cur,rfl,_⟩
  · exact ⟨none,0,rfl⟩
  exact ⟨_,_,rfl⟩
theorem SLfe.max (h:SLfe w0 M e v l):l.length≤9223372036854775807:=by
  obtain ⟨p,c,hv,hc,hm,_⟩:=h;unfold maxLen at hm;omega
theorem SLfe.lit {b n:Nat} {T:TypeId} {qs:List Part} (hB:w0.heap.size≤b) (h:(⟨b,T,bB qs⟩:Blk)∈M) (hn:l.length=n) (hm:n≤maxLen) (hq:qs=l.flatMap e.ps):SLfe w0 M e (.slice (some ⟨b,0,none⟩) n n) l :=
  SLfe.mine hB h hn (Nat.le_refl _) hm (by rw [← hn,List.take_of_length_le,hq,B8];rw [hq,B8,kV];exact Nat.le_refl _)
theorem nS {T E:TypeId} {x y:Operand} {u:Value} {m:List α} {L M1:List Blk} {K:Value→List Blk→Prop} (bytes:Nat) (hT:P.underlying T=some (.slice E)) (hE:RD P E e.n bytes=true) (h0:0<e.n) (hx:evO N S x=some v) (hy:evO N S y=some u)
    (hv:OwnG w0 E e v l L) (hu:SLe w0 X M e u m) (hs:Frq M L M1) (hn:(l.length+m.length) * bytes≤140737488355328) (h8:0<bytes) (k:∀ p c L',OwnG w0 E e (.slice p (l ++ m).length c) (l ++ m) L'→K (.slice p (l ++ m).length c) (L' ++ M1)) :
    OpR P w0 X N ⟨d,.call { callee:=.builtin .append,args:=#[x,y],argTypes:=#[T,T] },ty,ps,af,gd⟩ S M K :=
  U5 bytes hT hE h0 hx hy hv hu hs hn h8 fun v' L' h=>by
    obtain ⟨p,c,rfl⟩:=h.form;exact k p c L' h
theorem ZK {k:Nat} {z:α} (hk:k<l.length):(rows e l).take (k * e.n) ++ e.cs z ++ (rows e l).drop (k * e.n+e.n)=rows e (l.set k z):=by
  rw [zV,show k * e.n+e.n=(k+1) * e.n by rw [Nat.succ_mul],I5,List.set_eq_take_append_cons_drop,if_pos hk,tK]
  simp [rows]
theorem ZF {T E:TypeId} {x y:Operand} {g:Bool} {k m:Nat} {z:α} {u:Value} {L M1:List Blk} {K:Value→List Blk→Prop} (hT:jM P T=some (g,e.n)) (hx:evO N S x=some (.pointer (some (slb v m)))) (hm:m=k * e.n) (hv:OwnG w0 E e v l L) (hk:k<l.length)
    (hs:Frq M L M1) (hy0:evO N S y=some u) (hy:u.cells=(bB (e.ps z)).toArray) (kk:∀ L',OwnG w0 E e v (l.set k z) L'→K undef (L' ++ M1)):OpR P w0 X N ⟨d,.store T x y,ty,ps,af,gd⟩ S M K:=by
  subst hm;rcases hv with ⟨rfl,rfl,rfl⟩ | ⟨g',cap,cur,rfl,rfl,hg,hc,hmx,hl,ht⟩
  · simp at hk
  have hx':evO N S x=some (.pointer (some ⟨g',k * e.n,none⟩)):=by rw [hx];simp [slb,oG]
  have e1:l.length * e.n≤cap * e.n:=Nat.mul_le_mul_right _ hc;have e2:(k+1) * e.n≤l.length * e.n:=Nat.mul_le_mul_right _ oo_;rw [Nat.succ_mul] at e2;have hcs:(e.cs z).length=e.n:=El.cs_len z
  have hcur:cur=rows e l ++ cur.drop (l.length * e.n):=by rw [← ht,List.take_append_drop]
  have hlr:=kV (e:=e) l;refine OpR.perm hs (EX (U:=E) (cs:=cur) (vs:=e.cs z) (M':=⟨g',E,cur.take (k * e.n) ++ e.cs z ++ cur.drop (k * e.n+e.n)⟩ :: M1) hT hx' (.head _) hy0 hy hcs (fun v h=>El.cs_plain z v h) oo_ rfl (.inl hg) ?_);refine kk [⟨g',E,cur.take (k * e.n) ++ e.cs z ++ cur.drop (k * e.n+e.n)⟩] (.inr ⟨g',cap,_,by rw [List.length_set],rfl,hg,by rw [List.length_set];exact hc,hmx,?_,?_⟩)
  · rw [List.length_append,List.length_append,List.length_take,List.length_drop,hcs,hl,Nat.min_eq_left oo_];omega
  rw [List.length_set,← ZK hk]
  have t1:cur.take (k * e.n)=(rows e l).take (k * e.n):=by rw [← ht,List.take_take,Nat.min_eq_left oo_]
  have t2:(cur.drop (k * e.n+e.n)).take (l.length * e.n - (k * e.n+e.n))=(rows e l).drop (k * e.n+e.n):=by rw [← ht,List.drop_take]
  rw [t1]
  have n1:((rows e l).take (k * e.n) ++ e.cs z).length=k * e.n+e.n:=by rw [List.length_append,List.length_take,hcs,hlr,Nat.min_eq_left oo_]
  rw [List.take_append,n1,t2,List.take_of_length_le (by rw [n1];omega)]
end
end Go.Kn
namespace Go.Num
open Go Go.Kn
theorem e1_ {a b:Int} (h:(a != b)=false):a=b:=by simpa using h
theorem e2_ {a b:Int} (h:(a != b)=true):a≠b:=by simpa using h
theorem trs {α:Type} {a b c:α} (h2:b=c) (h1:a=b):a=c:=h1.trans h2
theorem apS {σ β:Type} {f:σ→β} {x s:σ} (h:x=s):ap f x=f s:=by rw [h];rfl
theorem smS {σ ρ β:Type} {f:σ→β} {g:ρ→β} {x:σ ⊕ ρ} {s:σ} (h:x = .inl s):sm f g x=f s:=by rw [h];rfl
structure Edg where
  l:List (A3 Rt)
  e:W
structure Pts where
  l:List Rt
  is:Bool
end Go.Num
namespace Go.Kn
open Go Go.Num
def FnV {α:Type} (P:Program) (w:World) (v:Value) (enc:α→List Value) (dom:α→Prop) (out:α→Value):Prop :=
  ∃ g cap,v = .func (.func g) #[] cap.toArray∧kL P g=true∧∀ w',Ext w w'→∀ x,dom x→Calls P g (enc x ++ cap).toArray w' fun e w''=>e = .returned (out x)∧Ext w' w''
def FnE {α:Type} (P:Program) (w0:World) (X:List Nat) (M:List Blk) (g:Nat) (cap:List Value) (enc:α→List Value) (dom:α→Prop) (out:α→Value):Prop :=
  kL P g=true∧∀ w,Sat w0 X M w→∀ x,dom x→Calls P g (enc x ++ cap).toArray w fun e w''=>e = .returned (out x)∧Ext w w''
section
variable {α:Type} {P:Program} {w0:World} {X:List Nat} {N:Nm} {S:Fr} {M M':List Blk} {d:Option Tmp} {ty:TypeId} {ps:String} {af:Array Edge} {gd:Option (Nat×Bool)} {enc:α→List Value} {dom:α→Prop} {out:α→Value} {g:Nat} {cap:List Value}
theorem FnV.open {w:World} {v:Value} (h:FnV P w v enc dom out):∃ g cap,v = .func (.func g) #[] cap.toArray∧FnE P w [] [] g cap enc dom out:=by
  obtain ⟨g,cap,hv,he,hc⟩:=h;exact ⟨g,cap,hv,he,fun w' hw' x hx=>hc w' hw'.ext x hx⟩
theorem FnV.mk {w:World} (hw:Sat w0 X M w) (he:kL P g=true) (h:∀ w,Sat w0 X M w→∀ x,dom x→Calls P g (enc x ++ cap).toArray w fun e w''=>e = .returned (out x)∧Ext w w''):FnV P w (.func (.func g) #[] cap.toArray) enc dom out :=
  ⟨g,cap,rfl,he,fun w' hx x hd=>h w' (Sat.mono _ _ _ _ _ hw hx) x hd⟩
theorem FnE.sub (h:FnE P w0 X M g cap enc dom out) (hs:M.Sublist M'):FnE P w0 X M' g cap enc dom out:=⟨h.1,fun w hw=>h.2 w (hw.sub hs)⟩
theorem FnE.ap {w:World} (hw:Sat w0 X M w) (h:FnE P w0 X M g cap enc dom out):FnV P w (.func (.func g) #[] cap.toArray) enc dom out:=FnV.mk hw h.1 h.2
theorem FnV.get {w:World} (h:FnV P w (.func (.func g) #[] cap.toArray) enc dom out):FnE P w [] [] g cap enc dom out:=by
  obtain ⟨g',cap',hv,he⟩:=h.open
  have e1:g=g'∧cap=cap':=by simpa using hv
  obtain ⟨rfl,rfl⟩:=e1;exact he
theorem Y1 {f:Operand} {xs:List Operand} {tys:Array TypeId} (x:α) (hf:evO N S f=some (.func (.func g) #[] cap.toArray)) (ha:evL N S xs=some (enc x)) (h:FnE P w0 X M g cap enc dom out) (hx:dom x) :
    OpQ P w0 X N ⟨d,.call { callee:=.value f,args:=xs.toArray,argTypes:=tys },ty,ps,af,gd⟩ S M (out x) :=
  bo_ (first:=[]) (cap:=cap) (args:=enc x) h.1 hf ha fun w hw=>by simpa using h.2 w hw x hx
end
abbrev eN (k:Nat):List Value:=[.int .i64 ((k:Nat):Int)]
abbrev eI (x:I):List Value:=[AV [pI x]]
abbrev eII (x:I×I):List Value:=[AV [pI x.1],AV [pI x.2]]
abbrev eRt (x:Rt):List Value:=[AV [pI x.n,pI x.d]]
abbrev bn_ {α:Type} (f:α→I) (x:α):Value:=AV [pI (f x)]
abbrev bm_ {α:Type} (f:α→Bool) (x:α):Value:=.bool (f x)
theorem cvE {t:Int} (h:-9223372036854775808≤t∧t≤9223372036854775807):(W.cv t).1=t:=by
  show IntKind.i64.wrap t=t
  exact wi h
section
variable {α:Type} {e:El α} {P:Program} {w0:World} {X:List Nat} {N:Nm} {S:Fr} {M M':List Blk} {d:Option Tmp} {ty:TypeId} {ps:String} {af:Array Edge} {gd:Option (Nat×Bool)} {v:Value} {l:List α}
theorem Slr.form {w:World} (h:Slr w e v l):∃ p c,v = .slice p l.length c:=by
  obtain ⟨p,c,hv,_⟩:=h;exact ⟨p,c,hv⟩
theorem lY {T:TypeId} {x y:Operand} {k:Nat} {i:IntKind} {t:Int} (hT:lE P T=some e.n) (hx:evO N S x=some v) (hy:evO N S y=some (.int i t)) (ht:t=(k:Int)) (hv:SLe w0 X M e v l) (hk:k<l.length) :
    OpQ P w0 X N ⟨d,.indexAddr T x y,ty,ps,af,gd⟩ S M (.pointer (some (slb v (k * e.n)))):=by
  subst ht;exact kZ hT hx hy hv hk
theorem OwnG.take {E:TypeId} {p:Option Addr} {n c:Nat} {L:List Blk} (h:OwnG w0 E e (.slice p n c) l L) {k:Nat} (hk:k≤l.length):OwnG w0 E e (.slice p (l.take k).length c) (l.take k) L:=by
  have hl:(l.take k).length=k:=by rw [List.length_take,Nat.min_eq_left hk]
  rcases h with ⟨h,rfl,rfl⟩ | ⟨g,cap,cur,h,rfl,hg,hc,hm,hn,ht⟩
  · cases h
    obtain rfl:k=0:=by simpa using hk
    exact .inl ⟨rfl,rfl,rfl⟩
  · cases h
    refine .inr ⟨g,c,cur,rfl,rfl,hg,by omega,hm,hn,?_⟩;rw [hl,← zV,← ht,List.take_take,Nat.min_eq_left (Nat.mul_le_mul_right _ hk)]
theorem bp_ {T E:TypeId} {x y:Operand} {k n c:Nat} {i:IntKind} {t:Int} {p:Option Addr} {L:List Blk} (hT:lE P T=some e.n) (hx:evO N S x=some (.slice p n c)) (hy:evO N S y=some (.int i t)) (ht:t=(k:Int)) (hv:OwnG w0 E e (.slice p n c) l L) (hk:k≤l.length) :
    OpQ P w0 X N ⟨d,.slice T x none (some y) none,ty,ps,af,gd⟩ S M (.slice p (l.take k).length c):=by
  subst ht
  have hl:(l.take k).length=k:=by rw [List.length_take,Nat.min_eq_left hk]
  rw [hl]
  have hn:n=l.length∧l.length≤c:=by
    rcases hv with ⟨h,rfl,rfl⟩ | ⟨g,cap,cur,h,rfl,hg,hc,hm,hn,ht⟩
    · cases h;exact ⟨rfl,Nat.le_refl _⟩
    · cases h;exact ⟨rfl,hc⟩
  refine nE (w0:=w0) (X:=X) (M:=M) (fun w hw=>?_);obtain ⟨e',q,hu,hi',hs⟩:=pU hT;have hb:=AK (P:=P) (N:=N) (S:=S) (w:=w) (isSl:=true) (len:=n) (cap:=c) (lo:=none) (hi:=some y) (l:=0) (h:=(k:Int)) rfl (by simp [xM,hy]) oo_ oo_ oo_;simp only [Option.map_none,Option.map_some] at hb;simp only [execOp,Instr.sliceAt,Instr.slice,Sem.run_bind,run_underlying hu,bR hx,Result.andThen_ok];simp only [Option.map_none,Option.map_some,hb,Result.andThen_ok,sizeOf,typeInfo,Sem.run_bind,run_program,hi',hs,Sem.run_pure]
  cases p <;> simp [Addr.add]
def Rpl (M L:List Blk) (f:List Blk→List Blk):Prop:=∃ R,Frq M L R∧∀ L',(L' ++ R).Perm (f L')
theorem bA_ {L R:List Blk}:Rpl (L ++ R) L (fun L'=>L' ++ R):=⟨R,o8,fun _=>List.Perm.refl _⟩
theorem d3_ {x:Blk} {R L:List Blk} {f:List Blk→List Blk} (h:Rpl R L f):Rpl (x :: R) L (fun L'=>x :: f L'):=by
  obtain ⟨R',h1,h2⟩:=h;exact ⟨x :: R',bX h1,fun L'=>List.perm_middle.trans (List.Perm.cons x (h2 L'))⟩
theorem fn_ {K R L:List Blk} {f:List Blk→List Blk} (h:Rpl R L f):Rpl (K ++ R) L (fun L'=>K ++ f L'):=by
  obtain ⟨R',h1,h2⟩:=h;refine ⟨K ++ R',uK h1,fun L'=>?_⟩
  have h3:(L' ++ (K ++ R')).Perm (K ++ (L' ++ R')):=by
    rw [← List.append_assoc,← List.append_assoc];exact List.Perm.append_right R' List.perm_append_comm
  exact h3.trans (List.Perm.append_left K (h2 L'))
theorem B5 {T E:TypeId} {x y:Operand} {g:Bool} {k m:Nat} {z:α} {u:Value} {L:List Blk} {f:List Blk→List Blk} {K:Value→List Blk→Prop} (hT:jM P T=some (g,e.n)) (hx:evO N S x=some (.pointer (some (slb v m)))) (hm:m=k * e.n) (hv:OwnG w0 E e v l L) (hk:k<l.length)
    (hs:Rpl M L f) (hy0:evO N S y=some u) (hy:u.cells=(bB (e.ps z)).toArray) (kk:∀ L',OwnG w0 E e v (l.set k z) L'→K undef (f L')):OpR P w0 X N ⟨d,.store T x y,ty,ps,af,gd⟩ S M K:=by
  obtain ⟨R,h1,h2⟩:=hs;intro w hw;have h:=ZF (w0:=w0) (X:=X) (M:=M) (d:=d) (ty:=ty) (ps:=ps) (af:=af) (gd:=gd) (K:=fun u M'=>∃ M2,M'.Perm M2∧K u M2) hT hx hm hv hk h1 hy0 hy (fun L' ho=>⟨f L',h2 L',kk L' ho⟩) w hw;refine v7 ?_ h;rintro u w' ⟨hk',M',hs',M2,hp,hK⟩;exact ⟨hk',M2,hs'.perm hp,hK⟩
theorem OwnG.len {E:TypeId} {p:Option Addr} {n c:Nat} {L:List Blk} (h:OwnG w0 E e (.slice p n c) l L):n=l.length:=by
  rcases h with ⟨h,rfl,rfl⟩ | ⟨g,cap,cur,h,_⟩
  · cases h;rfl
  · cases h;rfl
theorem UR (x0:α) (h0:0<e.n) (c:Nat):madeCells (e.cs x0).toArray (c * e.n)=(rows e (List.replicate c x0)).toArray:=by
  apply Array.ext
  · rw [size_madeCells,List.size_toArray,kV,List.length_replicate]
  intro i h1 h2;have hlen:(e.cs x0).length=e.n:=El.cs_len x0;rw [size_madeCells] at h1;have hq:i / e.n<c:=Nat.div_lt_of_lt_mul (by rw [Nat.mul_comm];exact h1);have hr:i % e.n<e.n:=Nat.mod_lt _ h0
  have hk:(List.replicate c x0)[i / e.n]? = some x0:=by rw [List.getElem?_replicate,if_pos hq]
  have hg:=OX (e:=e) hk
  have h3:(rows e (List.replicate c x0))[i]? = some ((e.cs x0)[i % e.n]'oo_):=by
    have h4:(((rows e (List.replicate c x0)).drop (i / e.n * e.n)).take e.n)[i % e.n]? = some ((e.cs x0)[i % e.n]'oo_):=by rw [hg];exact List.getElem?_eq_getElem _
    rw [List.getElem?_take_of_lt hr,List.getElem?_drop,Nat.div_add_mod' i e.n] at h4;exact h4
  have h5:(rows e (List.replicate c x0)).toArray[i]? = some ((e.cs x0)[i % e.n]'oo_):=by simpa using h3
  rw [Array.getElem?_eq_getElem h2] at h5;rw [Option.some.inj h5];simp only [madeCells,Array.getElem_map,Array.getElem_range,List.size_toArray,hlen];rw [getElem!_pos (e.cs x0).toArray (i % e.n) (by rw [List.size_toArray,hlen];exact hr)]
  simp
theorem TB {T E:TypeId} {x y:Operand} {n c:Nat} {i j:IntKind} {s t:Int} {K:Value→List Blk→Prop} (bytes:Nat) (x0:α) (hT:P.underlying T=some (.slice E)) (hE:RD P E e.n bytes=true) (h0:0<e.n) (hz:lN P E=some (e.cs x0)) (hx:evO N S x=some (.int i s)) (hy:evO N S y=some (.int j t))
    (hs:s=(n:Int)) (ht:t=(c:Int)) (hnc:n≤c) (hcm:c≤200000) (hen:e.n≤80) (hby:bytes≤1000) (k:∀ p L,OwnG w0 E e (.slice p (List.replicate n x0).length c) (List.replicate n x0) L→K (.slice p (List.replicate n x0).length c) (L ++ M)) :
    OpR P w0 X N ⟨d,.makeSlice T x y,ty,ps,af,gd⟩ S M K:=by
  subst hs ht;intro w hw;obtain ⟨inf,z,hi,hz',hc⟩:=vG hz;unfold RD at hE;simp only [hi,hz',Bool.and_eq_true,beq_iff_eq] at hE;obtain ⟨⟨h1,hb⟩,hzc⟩:=hE;have b1:c * e.n≤200000 * 80:=Nat.mul_le_mul hcm hen;have b2:bytes * c≤1000 * 200000:=Nat.mul_le_mul hby hcm;have hr:=run_makeSlice (P:=P) w T E inf z hT hi hz' i j n c oo_ oo_ (by rw [h1,Int.toNat_natCast];omega) (by rw [hb];omega) oo_;rw [h1,hc,Int.toNat_natCast,Int.toNat_natCast,UR x0 h0] at hr;unfold opw
  have hex:(execOp (ev N S) ⟨d,.makeSlice T x y,ty,ps,af,gd⟩).run P w = .ok (.value (.slice (some ⟨w.heap.size,0,none⟩) n c)) (w.alloc (.cells (rows e (List.replicate c x0)).toArray E)):=by
    simp [execOp,bR hx,bR hy,hr]
  rw [lI,hex];have hl:(List.replicate n x0).length=n:=List.length_replicate
  have hk:=k (some ⟨w.heap.size,0,none⟩) [⟨w.heap.size,E,rows e (List.replicate c x0)⟩] (.inr ⟨w.heap.size,c,_,rfl,rfl,hw.size,by rw [hl];exact hnc,by unfold maxLen;omega,by rw [kV,List.length_replicate],by
    rw [hl,zV,List.take_replicate,Nat.min_eq_left hnc]⟩)
  rw [hl] at hk;exact ⟨.alloc _ _,_,hw.alloc E _,hk⟩
theorem V4 {c:Code} {Q:nI} {M2:List Blk} (p:M.Perm M2) (h:W P w0 X N c Q S M2):W P w0 X N c Q S M:=fun B D w hB hd hr hw=>h B D w hB hd hr (hw.perm p)
def Slo (B:Nat) (w:World) (E:TypeId) (e:El α) (v:Value) (l:List α):Prop :=
  (v = .slice none 0 0∧l=[]) ∨ ∃ g cap,∃ cur:List Value,v = .slice (some ⟨g,0,none⟩) l.length cap∧B≤g∧w.heap[g]? = some (.cells cur.toArray E (0,0))∧l.length≤cap∧cap≤maxLen∧cur.length=cap * e.n∧cur.take (l.length * e.n)=rows e l
theorem OwnG.slo {E:TypeId} {L:List Blk} {w:World} (h:OwnG w0 E e v l L) (hs:L.Sublist M) (hw:Sat w0 X M w):Slo w0.heap.size w E e v l:=by
  rcases h with ⟨rfl,rfl,rfl⟩ | ⟨g,cap,cur,rfl,rfl,hg,hc,hm,hn,ht⟩
  · exact .inl ⟨rfl,rfl⟩
  exact .inr ⟨g,cap,cur,rfl,hg,hw.mem _ (hs.mem List.mem_cons_self),hc,hm,hn,ht⟩
theorem Slo.now {w w':World} {E:TypeId} (h:Slo w.heap.size w' E e v l) (hw:Sat w0 X M w) (he:Ext w w'):∃ p c L,v = .slice p l.length c∧Sat w0 X (L ++ M) w'∧OwnG w0 E e (.slice p l.length c) l L:=by
  have hw':=Sat.mono _ _ _ _ _ hw he;rcases h with ⟨rfl,rfl⟩ | ⟨g,cap,cur,rfl,hB,hh,hc,hm,hn,ht⟩
  · exact ⟨none,0,[],rfl,hw',.inl ⟨rfl,rfl,rfl⟩⟩
  have hb:g ∉ M.map Blk.b:=fun hm=>by
    obtain ⟨x,hx,rfl⟩:=List.mem_map.1 hm;have:=dU? (hw.mem x hx);omega
  refine ⟨_,cap,[⟨g,E,cur⟩],rfl,⟨hw'.os,hw'.tape,hw'.output,hw'.size,hw'.old,by simpa using And.intro (by simpa using hb) hw'.nodup,fun y hy=>?_⟩,.inr ⟨g,cap,cur,rfl,rfl,Nat.le_trans hw.size hB,hc,hm,hn,ht⟩⟩;rcases List.mem_cons.1 hy with rfl | hy
  · exact hh
  exact hw'.mem y hy
def fY_ (w0:World) (M:List Blk) (E:TypeId) (e:El α) (v:Value) (l:List α):Prop:=∃ L,L.Sublist M∧OwnG w0 E e v l L
theorem fF {n:Nat} {E:TypeId} {f:FuncId} {fn:Func} {c:Code} {args:List Value} {w:World} (R:Value→Value) (hf:P.funcs[f]? = some fn) (hb:fn.body=some c) (hn:fn.ntmps=n) (hl:args.length≤n)
    (h:W P w [] (pl n) c (nN P fn w [] (pl n) fun r M=>∃ v,r=R v∧fY_ w M E e v l) (bK 0 args) []):Calls P f args.toArray w fun f w'=>∃ v,f = .returned (R v)∧Ext w w'∧Slo w.heap.size w' E e v l :=
  (nK hf hb hn hl (Sat.start w []) h).mono fun f w' ⟨r,M',he,hs,_,v,hr,L,hL,hu⟩=>⟨v,by rw [he,hr],hs.ext,hu.slo hL hs⟩
theorem cU {E:TypeId} {g:FuncId} {xs:List Operand} {tys:Array TypeId} {args:List Value} {K:Value→List Blk→Prop} (R:Value→Value) (he:kL P g=true) (ha:evL N S xs=some args)
    (h:∀ w,Sat w0 X M w→Calls P g args.toArray w fun f w'=>∃ v,f = .returned (R v)∧Ext w w'∧Slo w.heap.size w' E e v l) (k:∀ p c L,OwnG w0 E e (.slice p l.length c) l L→K (R (.slice p l.length c)) (L ++ M)):OpR P w0 X N ⟨d,.call { callee:=.value (.func g),args:=xs.toArray,argTypes:=tys },ty,ps,af,gd⟩ S M K :=
  A6 he ha fun w hw=>(h w hw).mono fun _ w' ⟨v,h1,h2,h3⟩=>by
    obtain ⟨p,c,L,rfl,hs,hv⟩:=h3.now hw h2;exact ⟨_,L ++ M,h1,hs,Ext.keeps h2,k p c L hv⟩
theorem OwnG.max {E:TypeId} {L:List Blk} (h:OwnG w0 E e v l L):l.length≤9223372036854775807:=(h.slfe (List.Sublist.refl L)).max
abbrev WV:Part:=⟨1,[.nilFunc],rfl,fun v h=>by rw [List.mem_singleton.1 h];rfl⟩
end
end Go.Kn
namespace Go.Num
open Go Go.Kn
structure Sgd where
  s:W
  ok:Bool
structure Lst8 where
  l:List I
  is:Bool
abbrev gdI (x:I):Bool:=!x.1.bad&&x.1.valid
def gmP (b:List I):Nat:=bif b.all gdI then 2 * b.length else 1
end Go.Num
namespace Go.Proofs.YtokjfhfiodopdaaGreat
open Go.Kn Go.Num Tryz
def enL_:List Nat:=[10,11,12,13,14,15,16,17,18,19,20,21,22,23,24,25,26,27,28,29,30,31,32,33,34,35,36,37,38,39,40,41,42,43,44,45,46,47,48,49,50,51,52,53,54,55,56,57,58,59,60,61,62,63,64,65,66,67,68,69,70,71,72,73,74,75,76,77,78,79,80,81,82,83,84,85,86,87,88,89,90,91,92,93,94,95,96,97,98,99,100,101,102,103,104,105,106,107,108,109,110,111,112,113,114,115,116,117,118,119,120,121,122,123,124,125,126,127,128,129,130,131,132,133,134,135,136,137,138,139,140,141,142,143,144,145,146,147,148,149,150,151,152,153,154,155,156,157,158,159,160,161,162,163,164,165,166,167,168,169,170,171,172,173,174,175,176,177,178,179,180,181,182,183,184,185,186,187,188,189,190,191,192,193,194,195,196,197]
theorem f4_:enL_.all (fun g=>kL prog g)=true:=by kernel_rfl
theorem aJ {g:Nat} (h:enL_.contains g=true:=by rfl):kL prog g=true:=List.all_eq_true.1 f4_ g (List.contains_iff_mem.1 h)
theorem mix:prog.follows .mixedOrders=true:=by kernel_rfl
def pQa (o:List Nat):Nat→Nat→List Nat
  | 0,_=>[]
  | k+1,i=>(4 * i+bif o.contains i then 1 else 0) :: pQa o k (i+1)
section
variable {w0:World} {X:List Nat} {N:Nm} {S:Fr} {M MD:List Blk} {Q:nI} {y:Code} {id:Nat} {ops:List Oper}
theorem rD (sub:MD.Sublist M) (n:Nat) (o nx:List Nat) (h:PL prog w0 X N ops (nwx ops nx) MD (Nx prog w0 X N y Q) (mP ops.toArray (pQa o n 0)) S M)
    (hok:(Region.noSelect ops.toArray&&Plan.ok ops.toArray (nwx ops nx) ops.length (Array.replicate ops.length false) (mP ops.toArray (pQa o n 0)))=true:=by kernel_rfl):Go.Kn.W prog w0 X N (.seq (.region id ops.toArray true) y) Q S M:=gds sub _ nx mix hok h
theorem rK (sub:MD.Sublist M) (n:Nat) (o nx:List Nat) (h:PL prog w0 X N ops (nwx ops nx) MD (Nk Q) (mP ops.toArray (pQa o n 0)) S M)
    (hok:(Region.noSelect ops.toArray&&Plan.ok ops.toArray (nwx ops nx) ops.length (Array.replicate ops.length false) (mP ops.toArray (pQa o n 0)))=true:=by kernel_rfl):Go.Kn.W prog w0 X N (.region id ops.toArray true) Q S M:=gdr sub _ nx mix hok h
end
instance:FAr prog 25 (16,1):=⟨by kernel_rfl⟩
instance:FAr prog 112 (2,18):=⟨by kernel_rfl⟩
instance:FAr prog 168 (32,1):=⟨by kernel_rfl⟩
instance:FAr prog 181 (17,1):=⟨by kernel_rfl⟩
theorem xS:HD prog 4=true:=by kernel_rfl
theorem FK:prog.eqGuardType prog.depth 25=false:=by kernel_rfl
theorem R0:prog.eqGuardType prog.depth 27=false:=by kernel_rfl
theorem XD:prog.eqGuardType prog.depth 29=false:=by kernel_rfl
instance:FFd prog 27 0 (0,1):=⟨by kernel_rfl⟩
instance:FFd prog 27 1 (1,1):=⟨by kernel_rfl⟩
instance:FFd prog 27 2 (2,16):=⟨by kernel_rfl⟩
instance:FFd prog 29 0 (0,18):=⟨by kernel_rfl⟩
instance:FFd prog 29 1 (18,18):=⟨by kernel_rfl⟩
theorem BS:D5 prog 3=some .i64:=by kernel_rfl
theorem KX:D5 prog 5=some .u8:=by kernel_rfl
theorem gJ:D5 prog 24=some .u32:=by kernel_rfl
theorem fD:D5 prog 152=some .u64:=by kernel_rfl
theorem F7:kX prog 8 25=some (true,(List.replicate 16 (some IntKind.u32))):=by kernel_rfl
theorem SQ:kX prog 8 27=some (true,LI):=by kernel_rfl
theorem YC:kX prog 8 29=some (true,(LI ++ LI)):=by kernel_rfl
theorem QS:PD prog 3=true:=by kernel_rfl
instance:FPl prog 27 [(0,1),(1,1),(2,16)]:=⟨by kernel_rfl⟩
instance:FPl prog 29 [(0,18),(18,18)]:=⟨by kernel_rfl⟩
instance:FPl prog 74 [(0,1),(1,1)]:=⟨by kernel_rfl⟩
theorem pF:lE prog 22=some 18:=by kernel_rfl
theorem d9:lE prog 23=some 18:=by kernel_rfl
theorem jV:lE prog 85=some 1:=by kernel_rfl
theorem GW:lE prog 90=some 1:=by kernel_rfl
theorem ZW:lE prog 162=some 36:=by kernel_rfl
theorem d8_:lE prog 170=some 1:=by kernel_rfl
theorem bE_:prog.underlying 9=some .string:=by kernel_rfl
theorem yF:(prog.info? 3).map (·.size)=some 1:=by kernel_rfl
theorem ct_:(prog.info? 23).map (·.size)=some 1:=by kernel_rfl
theorem nU:(prog.info? 27).map (·.size)=some 18:=by kernel_rfl
theorem Z3:(prog.info? 29).map (·.size)=some 36:=by kernel_rfl
theorem gp_:jM prog 3=some (false,1):=by kernel_rfl
instance:FTy prog 3 (false,1):=⟨gp_⟩
theorem gq_:jM prog 4=some (false,1):=by kernel_rfl
instance:FTy prog 4 (false,1):=⟨gq_⟩
theorem fr_:jM prog 22=some (false,1):=by kernel_rfl
instance:FTy prog 22 (false,1):=⟨fr_⟩
theorem fs_:jM prog 23=some (false,1):=by kernel_rfl
instance:FTy prog 23 (false,1):=⟨fs_⟩
theorem ft_:jM prog 24=some (false,1):=by kernel_rfl
instance:FTy prog 24 (false,1):=⟨ft_⟩
theorem fu_:jM prog 25=some (true,16):=by kernel_rfl
instance:FTy prog 25 (true,16):=⟨fu_⟩
theorem fv_:jM prog 27=some (true,18):=by kernel_rfl
instance:FTy prog 27 (true,18):=⟨fv_⟩
theorem fw_:jM prog 29=some (true,36):=by kernel_rfl
instance:FTy prog 29 (true,36):=⟨fw_⟩
theorem fF_:jM prog 74=some (true,2):=by kernel_rfl
instance:FTy prog 74 (true,2):=⟨fF_⟩
theorem fG_:jM prog 90=some (false,1):=by kernel_rfl
instance:FTy prog 90 (false,1):=⟨fG_⟩
theorem eg_:jM prog 112=some (true,36):=by kernel_rfl
instance:FTy prog 112 (true,36):=⟨eg_⟩
theorem eh_:jM prog 113=some (false,1):=by kernel_rfl
instance:FTy prog 113 (false,1):=⟨eh_⟩
theorem nM:prog.underlying 22=some (.slice 27):=by kernel_rfl
theorem AG:prog.underlying 23=some (.slice 27):=by kernel_rfl
theorem oL:prog.underlying 85=some (.slice 3):=by kernel_rfl
theorem aa_:prog.underlying 90=some (.slice 23):=by kernel_rfl
theorem RE:prog.underlying 162=some (.slice 29):=by kernel_rfl
theorem z_3:lN prog 3=some [.int .i64 0]:=by kernel_rfl
theorem fP_:lN prog 23=some [.slice none 0 0]:=by kernel_rfl
theorem oZ:lN prog 25=some (uw (List.replicate 16 0)):=by kernel_rfl
theorem kR:lN prog 27=some zR:=by kernel_rfl
theorem ek_:lN prog 29=some (([.bool false] ++ [.bool false] ++ (List.replicate 16 (.int .u32 0))) ++ ([.bool false] ++ [.bool false] ++ (List.replicate 16 (.int .u32 0)))):=by kernel_rfl
theorem fN_:lN prog 168=some (uw (List.replicate 32 0)):=by kernel_rfl
theorem fO_:lN prog 181=some (uw (List.replicate 17 0)):=by kernel_rfl
instance:FZp prog 3 [ci .i64 0]:=⟨by kernel_rfl⟩
instance:FZp prog 4 [cb false]:=⟨by kernel_rfl⟩
instance:FZp prog 22 [csl none 0 0]:=⟨by kernel_rfl⟩
instance:FZp prog 27 [pI I0]:=⟨by kernel_rfl⟩
instance:FZp prog 29 [pI I0,pI I0]:=⟨by kernel_rfl⟩
instance:FZp prog 74 [ci .i64 0,cb false]:=⟨by kernel_rfl⟩
instance:FZp prog 112 [pI I0,pI I0]:=⟨by kernel_rfl⟩
open Go Go.Kn Go.Num
def vS0 (r:Bool):Value:=.bool r
def vS1 (r:Bool×W):Value:=.tuple #[.bool r.1,.int .i64 r.2.1]
def vS2 (r:I):Value:=AV [pI r]
def vS3 (r:I×I):Value:=.tuple #[AV [pI r.1],AV [pI r.2]]
def vS4 (r:Iv×Bool×W):Value:=.tuple #[AV [pI r.1.lo.n,pI r.1.lo.d,pI r.1.hi.n,pI r.1.hi.d],.bool r.2.1,.int .i64 r.2.2.1]
def vS5 (r:Iv×W):Value:=.tuple #[AV [pI r.1.lo.n,pI r.1.lo.d,pI r.1.hi.n,pI r.1.hi.d],.int .i64 r.2.1]
def vS6 (r:Rt):Value:=AV [pI r.n,pI r.d]
def vS7 (r:W):Value:=.int .i64 r.1
def vS8 (r:W×Bool):Value:=.tuple #[.int .i64 r.1.1,.bool r.2]
def vS9 (r:W×W):Value:=.tuple #[.int .i64 r.1.1,.int .i64 r.2.1]
open Go.Kn Go.Num
theorem R2:Tryz.prog.eqGuardType Tryz.prog.depth 49=false:=by kernel_rfl
instance fi1_1:FFd Tryz.prog 37 0 (0,1):=⟨by kernel_rfl⟩
instance fi1_2:FFd Tryz.prog 37 1 (1,1):=⟨by kernel_rfl⟩
instance fi1_3:FFd Tryz.prog 49 0 (0,36):=⟨by kernel_rfl⟩
instance fi1_4:FFd Tryz.prog 49 1 (36,36):=⟨by kernel_rfl⟩
instance fi1_5:FFd Tryz.prog 53 2 (73,1):=⟨by kernel_rfl⟩
instance fi1_6:FFd Tryz.prog 74 0 (0,1):=⟨by kernel_rfl⟩
instance fi1_7:FFd Tryz.prog 74 1 (1,1):=⟨by kernel_rfl⟩
theorem SR:kX Tryz.prog 8 49=some (true,(LI ++ (LI ++ (LI ++ LI)))):=by kernel_rfl
instance fi1_8:FPl Tryz.prog 37 [(0,1),(1,1)]:=⟨by kernel_rfl⟩
instance fi1_9:FPl Tryz.prog 49 [(0,36),(36,36)]:=⟨by kernel_rfl⟩
instance fi1_10:FPl Tryz.prog 53 [(0,72),(72,1),(73,1)]:=⟨by kernel_rfl⟩
theorem O5:lE Tryz.prog 41=some 72:=by kernel_rfl
theorem fx_:jM Tryz.prog 33=some (false,1):=by kernel_rfl
instance fi1_11:FTy Tryz.prog 33 (false,1):=⟨fx_⟩
theorem fy_:jM Tryz.prog 37=some (true,2):=by kernel_rfl
instance fi1_12:FTy Tryz.prog 37 (true,2):=⟨fy_⟩
theorem fB_:jM Tryz.prog 49=some (true,72):=by kernel_rfl
instance fi1_13:FTy Tryz.prog 49 (true,72):=⟨fB_⟩
theorem fC_:jM Tryz.prog 53=some (true,74):=by kernel_rfl
instance fi1_14:FTy Tryz.prog 53 (true,74):=⟨fC_⟩
instance fi1_15:FZp Tryz.prog 37 [ci .i64 0,ci .i64 0]:=⟨by kernel_rfl⟩
instance fi1_16:FZp Tryz.prog 49 [pI I0,pI I0,pI I0,pI I0]:=⟨by kernel_rfl⟩
instance fi1_17:FZp Tryz.prog 53 [pI I0,pI I0,pI I0,pI I0,cb false,ci .i64 0]:=⟨by kernel_rfl⟩
instance fi2_1:FFd Tryz.prog 45 0 (0,1):=⟨by kernel_rfl⟩
instance fi2_2:FFd Tryz.prog 45 1 (1,1):=⟨by kernel_rfl⟩
instance fi2_3:FFd Tryz.prog 53 1 (72,1):=⟨by kernel_rfl⟩
instance fi2_4:FPl Tryz.prog 45 [(0,1),(1,1)]:=⟨by kernel_rfl⟩
theorem cu_:(Tryz.prog.info? 49).map (·.size)=some 72:=by kernel_rfl
theorem fz_:jM Tryz.prog 41=some (false,1):=by kernel_rfl
instance fi2_5:FTy Tryz.prog 41 (false,1):=⟨fz_⟩
theorem fA_:jM Tryz.prog 45=some (true,2):=by kernel_rfl
instance fi2_6:FTy Tryz.prog 45 (true,2):=⟨fA_⟩
theorem fH_:jM Tryz.prog 98=some (false,1):=by kernel_rfl
instance fi2_7:FTy Tryz.prog 98 (false,1):=⟨fH_⟩
theorem ef_:jM Tryz.prog 108=some (false,1):=by kernel_rfl
instance fi2_8:FTy Tryz.prog 108 (false,1):=⟨ef_⟩
theorem Z9:Tryz.prog.underlying 41=some (.slice 49):=by kernel_rfl
theorem fQ_:lN Tryz.prog 49=some ((([.bool false] ++ [.bool false] ++ (List.replicate 16 (.int .u32 0))) ++ ([.bool false] ++ [.bool false] ++ (List.replicate 16 (.int .u32 0)))) ++ (([.bool false] ++ [.bool false] ++ (List.replicate 16 (.int .u32 0))) ++ ([.bool false] ++ [.bool false] ++ (List.replicate 16 (.int .u32 0))))):=by kernel_rfl
instance fi2_9:FZp Tryz.prog 41 [csl none 0 0]:=⟨by kernel_rfl⟩
instance fi2_10:FZp Tryz.prog 45 [csl none 0 0,ci .i64 0]:=⟨by kernel_rfl⟩
instance fi2_11:FZp Tryz.prog 90 [csl none 0 0]:=⟨by kernel_rfl⟩
instance fi2_12:FZp Tryz.prog 98 [WV]:=⟨by kernel_rfl⟩
instance fi2_13:FZp Tryz.prog 108 [WV]:=⟨by kernel_rfl⟩
instance fi3_1:FFd Tryz.prog 53 0 (0,72):=⟨by kernel_rfl⟩
instance fi3_2:FFd Tryz.prog 72 0 (0,1):=⟨by kernel_rfl⟩
instance fi3_3:FFd Tryz.prog 72 1 (1,1):=⟨by kernel_rfl⟩
instance fi3_4:FFl Tryz.prog 74 0 (0,1,false):=⟨by kernel_rfl⟩
theorem fD_:jM Tryz.prog 68=some (false,1):=by kernel_rfl
instance fi3_5:FTy Tryz.prog 68 (false,1):=⟨fD_⟩
theorem fE_:jM Tryz.prog 72=some (true,2):=by kernel_rfl
instance fi3_6:FTy Tryz.prog 72 (true,2):=⟨fE_⟩
end Go.Proofs.YtokjfhfiodopdaaGreat
namespace Go.Num
open Go Go.Kn
def lV (a:I):I :=
  bif a.1.good then ((E (Z.of (sgn (!a.1.neg) (val a.1.w))))) else ((E Z.bad))
def lU (a:I):I :=
  bif a.1.good then ((E (Z.of (sgn false (val a.1.w))))) else ((E Z.bad))
def i8 (a:I) (b:I):I :=
  bif ((gU a.1)&&(gU b.1)) then ((E (Z.of (W.add (dQ a) (dQ b)).1))) else (bif (!a.1.good||(!b.1.good)) then ((E Z.bad)) else (bif (a.1.neg==b.1.neg) then ((E (Z.of (sgn a.1.neg ((val a.1.w)+(val b.1.w)))))) else (bif decide ((val a.1.w)<(val b.1.w)) then ((E (Z.of (sgn b.1.neg ((val b.1.w) - (val a.1.w)))))) else ((E (Z.of (sgn a.1.neg ((val a.1.w) - (val b.1.w)))))))))
def kP (a:I) (b:I):I :=
  bif ((gU a.1)&&((gU b.1)&&((decide ((dQ a).1<2147483648)&&decide (-2147483648<(dQ a).1))&&(decide ((dQ b).1<2147483648)&&decide (-2147483648<(dQ b).1))))) then ((E (Z.of (W.mul (dQ a) (dQ b)).1))) else (bif (!a.1.good||(!b.1.good)) then ((E Z.bad)) else ((E (Z.of (sgn (a.1.neg != b.1.neg) ((val a.1.w) * (val b.1.w)))))))
def kC (a:I):W :=
  bif (!a.1.good||((((dl (val a.1.w)).length:Nat):Int)==0)) then ((wl 0)) else (bif a.1.neg then ((wl (-1))) else ((wl 1)))
def eT (a:I) (b:I):W :=
  bif (!a.1.good&&(!b.1.good)) then ((wl 0)) else (bif a.1.good then (bif b.1.good then (bif (a.1.neg != b.1.neg) then (bif a.1.neg then ((wl (-1))) else ((wl 1))) else (bif a.1.neg then (bif decide ((val b.1.w)<(val a.1.w)) then ((wl (-1))) else (bif decide ((val a.1.w)<(val b.1.w)) then ((wl 1)) else ((wl 0)))) else (bif decide ((val a.1.w)<(val b.1.w)) then ((wl (-1))) else (bif decide ((val b.1.w)<(val a.1.w)) then ((wl 1)) else ((wl 0)))))) else ((wl 1))) else ((wl (-1))))
def jS (a:I) (b:I):I :=
  bif ((gU a.1)&&((gU b.1)&&((dQ b).1 != 0))) then ((E (Z.of (W.fdiv (dQ a) (dQ b)).1))) else (bif (!a.1.good||(!b.1.good||((((dl (val b.1.w)).length:Nat):Int)==0))) then ((E Z.bad)) else (bif ((a.1.neg != b.1.neg)&&decide (0<(((dl ((val a.1.w) % (val b.1.w))).length:Nat):Int))) then ((E (Z.of (sgn (a.1.neg != b.1.neg) (((val a.1.w) / (val b.1.w))+1))))) else ((E (Z.of (sgn (a.1.neg != b.1.neg) ((val a.1.w) / (val b.1.w))))))))
def jT (a:I) (b:I):I :=
  bif ((gU a.1)&&((gU b.1)&&((dQ b).1 != 0))) then (let r10:I:=(E (Z.of (W.sub (dQ a) (W.mul (dQ b) (W.fdiv (dQ a) (dQ b)))).1))
  r10) else (bif (!a.1.good||(!b.1.good||((((dl (val b.1.w)).length:Nat):Int)==0))) then ((E Z.bad)) else (bif ((a.1.neg != b.1.neg)&&decide (0<(((dl ((val a.1.w) % (val b.1.w))).length:Nat):Int))) then ((E (Z.of (sgn b.1.neg ((val b.1.w) - ((val a.1.w) % (val b.1.w))))))) else ((E (Z.of (sgn b.1.neg ((val a.1.w) % (val b.1.w))))))))
def F_ratio_one :I :=
  let q0:I:=(E (Z.of 1))
  q0
def qT :Rt :=
  let q0:I:=(E Z.bad)
  let q1:I:=F_ratio_one
  (⟨q0,q1⟩:Rt)
def j4 (a:I):Bool :=
  (!a.1.bad&&a.1.valid)
def cG (a:Rt):Bool :=
  ((j4 a.n)&&((j4 a.d)&&(decide (0<(Z.signW a.d.dec).1)&&decide ((E (Z.gcd a.n.dec a.d.dec))=F_ratio_one))))
def cP (a:I) (b:I):Rt :=
  bif (!(j4 a)||(!(j4 b)||((Z.signW b.dec).1==0))) then (qT) else (bif decide ((Z.signW b.dec).1<0) then ((⟨(E (Z.quo a.dec (Z.neg (Z.gcd a.dec b.dec)))),(E (Z.quo b.dec (Z.neg (Z.gcd a.dec b.dec))))⟩:Rt)) else ((⟨(E (Z.quo a.dec (Z.gcd a.dec b.dec))),(E (Z.quo b.dec (Z.gcd a.dec b.dec)))⟩:Rt)))
def nW (a:Rt):Rt :=
  bif (cG a) then ((⟨(E (Z.neg a.n.dec)),a.d⟩:Rt)) else (qT)
def lG (a:Rt) (b:Rt):Rt :=
  bif (!(cG a)||(!(cG b))) then (qT) else (let r15:I:=(E (Z.add (Z.mul a.n.dec (Z.quo b.d.dec (Z.gcd a.d.dec b.d.dec))) (Z.mul b.n.dec (Z.quo a.d.dec (Z.gcd a.d.dec b.d.dec)))))
  let r16:Rt:=(cP r15 (E (Z.mul (Z.quo a.d.dec (Z.gcd a.d.dec b.d.dec)) b.d.dec)))
  r16)
def gS (a:Rt) (b:Rt):Rt :=
  (lG a (nW b))
def jG (a:Rt) (b:Rt):Rt :=
  bif (!(cG a)||(!(cG b))) then (qT) else (let r26:I:=(E (Z.mul ((cP a.n b.d).n).dec ((cP b.n a.d).n).dec))
  let r27:I:=(E (Z.mul ((cP a.n b.d).d).dec ((cP b.n a.d).d).dec))
  bif (r26.1.bad||r27.1.bad) then (qT) else ((⟨r26,r27⟩:Rt)))
def F_skewbackref04_one :I :=
  let q0:I:=(E (Z.of 1))
  q0
def iJ :Rt :=
  let q0:I:=(E Z.bad)
  let q1:I:=F_skewbackref04_one
  (⟨q0,q1⟩:Rt)
def aY (a:I) (b:I):Rt :=
  bif (!a.1.good||(!b.1.good||((Z.signW b.dec).1==0))) then (iJ) else (bif decide ((Z.signW b.dec).1<0) then ((⟨(E (Z.quo a.dec (Z.neg (Z.gcd a.dec b.dec)))),(E (Z.quo b.dec (Z.neg (Z.gcd a.dec b.dec))))⟩:Rt)) else ((⟨(E (Z.quo a.dec (Z.gcd a.dec b.dec))),(E (Z.quo b.dec (Z.gcd a.dec b.dec)))⟩:Rt)))
def fU (a:W):Rt :=
  let r2:Rt:=(aY (E (Z.of a.1)) F_skewbackref04_one)
  r2
def d6 (a:W) (b:W):Rt :=
  let r2:Rt:=(aY (E (Z.of a.1)) (E (Z.of b.1)))
  r2
def aP (a:Rt):Bool :=
  bif (!a.n.1.good||(!a.d.1.good)) then (false) else ((decide (0<(Z.signW a.d.dec).1)&&decide ((E (Z.gcd a.n.dec a.d.dec))=F_skewbackref04_one)))
def fA (a:Rt):Rt :=
  bif (aP a) then ((⟨(E (Z.neg a.n.dec)),a.d⟩:Rt)) else (iJ)
def dZ (a:Rt) (b:Rt):Rt :=
  bif (!(aP a)||(!(aP b))) then (iJ) else (let r11:I:=(E (Z.add (Z.mul a.n.dec (Z.quo b.d.dec (Z.gcd a.d.dec b.d.dec))) (Z.mul b.n.dec (Z.quo a.d.dec (Z.gcd a.d.dec b.d.dec)))))
  let r12:Rt:=(aY r11 (E (Z.mul (Z.quo a.d.dec (Z.gcd a.d.dec b.d.dec)) b.d.dec)))
  r12)
def cW (a:Rt) (b:Rt):Rt :=
  let r4:Rt:=(dZ a (fA b))
  r4
def d5 (a:Rt) (b:Rt):Rt :=
  bif (!(aP a)||(!(aP b))) then (iJ) else (let r10:I:=(E (Z.mul ((aY a.n b.d).n).dec ((aY b.n a.d).n).dec))
  let r12:I:=(E (Z.mul ((aY a.n b.d).d).dec ((aY b.n a.d).d).dec))
  (aY r10 r12))
def fC (a:Rt) (b:Bool):I :=
  bif b then ((E (Z.of 0))) else ((E Z.bad))
def i6 (a:Rt) (b:Rt):W :=
  bif (!(cG a)&&(!(cG b))) then ((wl 0)) else (bif (cG a) then (bif (cG b) then ((cf (cfN a.d) (wl 1) a.n a.d b.n b.d)) else ((wl 1))) else ((wl (-1))))
def eC (a:Rt) (b:Rt):W :=
  bif (!(aP a)||(!(aP b))) then (let r7:W:=(Z.cmpW (fC a (aP a)).dec (fC b (aP b)).dec)
  r7) else ((cf (cfN a.d) (wl 1) a.n a.d b.n b.d))
def pJ (a:W) (b:W):Rt :=
  let r2:Rt:=(cP (E (Z.of a.1)) (E (Z.of b.1)))
  r2
end Go.Num
